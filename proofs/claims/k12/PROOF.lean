import PyProof.Rows.All
import Wide.All
import OpenK.AllK
import Wide.FinOn
import HandS.ForMost
import HandS.ForExc
import HandS.EndBits
import HandS.Flow
import HandS.IsInst
import HandS.TupAny
import HandS.HotCalls
import HandS.ExcCtx
import HandS.ExcIs
import HandS.Deep
import HandS.SortInts
import KE.IntBitsLaws
import PySem.Challenge.RW_redpaint_k12_walks
set_option Elab.async false
set_option linter.all false
set_option maxRecDepth 100000
/-! The data layer: values as data, slots by value. -/
namespace Rp
open PySem PySem.Spec PyProof.Rows L2

abbrev Dat := PyData

/-! ### data in a heap -/
theorem sqT_mono {K : PySem.W.Frag} {H H' : Hp} {a : Addr} {xs : List V} (e : Same H H') (h : SqT K H a xs) : SqT K H' a xs := by
  rcases h with (h | ⟨o, h⟩) | h
  · exact .inl (.inl (e _ _ h))
  · exact .inl (.inr ⟨o, e _ _ h⟩)
  · exact .inr h
mutual
theorem dp_mono {K : PySem.W.Frag} {H H' : Hp} (e : Same H H') : ∀ {v : V} {d : Dat}, Dp K H v d → Dp K H' v d
  | _, _, .non => .non
  | _, _, .bl b => .bl b
  | _, _, .int b => .int b
  | _, _, .str b => .str b
  | _, _, .lst h q => .lst (e.seq h) (dpAll_mono e q)
  | _, _, .tup h q => .tup (sqT_mono e h) (dpAll_mono e q)
theorem dpAll_mono {K : PySem.W.Frag} {H H' : Hp} (e : Same H H') : ∀ {vs : List V} {ds : List Dat}, DpAll K H vs ds → DpAll K H' vs ds
  | _, _, .nil => .nil
  | _, _, .cons h q => .cons (dp_mono e h) (dpAll_mono e q)
end
theorem dpAll_length {K : PySem.W.Frag} {H : Hp} : ∀ {vs : List V} {ds : List Dat}, DpAll K H vs ds → vs.length = ds.length
  | _, _, .nil => rfl
  | _, _, .cons _ q => by rw [List.length_cons, List.length_cons, dpAll_length q]
theorem dpAll_get {K : PySem.W.Frag} {H : Hp} : ∀ {vs : List V} {ds : List Dat} {i : Nat} {d : Dat}, DpAll K H vs ds → ds[i]? = some d → ∃ v, vs[i]? = some v ∧ Dp K H v d
  | _, _, _, _, .nil, e => by simp at e
  | _, _, 0, _, .cons h _, e => by simp at e; subst e; exact ⟨_, rfl, h⟩
  | _, _, i + 1, _, .cons _ q, e => by
    obtain ⟨v, a, b⟩ := dpAll_get (i := i) q (by simpa using e)
    exact ⟨v, by simpa using a, b⟩
theorem dpAll_at {K : PySem.W.Frag} {H : Hp} : ∀ {vs : List V} {ds : List Dat} {i : Nat} {v : V}, DpAll K H vs ds → vs[i]? = some v → ∃ d, ds[i]? = some d ∧ Dp K H v d
  | _, _, _, _, .nil, e => by simp at e
  | _, _, 0, _, .cons h _, e => by simp at e; subst e; exact ⟨_, rfl, h⟩
  | _, _, i + 1, _, .cons _ q, e => by
    obtain ⟨v, a, b⟩ := dpAll_at (i := i) q (by simpa using e)
    exact ⟨v, by simpa using a, b⟩
theorem dpAll_append {K : PySem.W.Frag} {H : Hp} : ∀ {vs ws : List V} {ds es : List Dat}, DpAll K H vs ds → DpAll K H ws es → DpAll K H (vs ++ ws) (ds ++ es)
  | _, _, _, _, .nil, r => r
  | _, _, _, _, .cons h q, r => .cons h (dpAll_append q r)
theorem dpAll_take {K : PySem.W.Frag} {H : Hp} : ∀ {vs : List V} {ds : List Dat} (n : Nat), DpAll K H vs ds → DpAll K H (vs.take n) (ds.take n)
  | _, _, 0, _ => .nil
  | _, _, _ + 1, .nil => .nil
  | _, _, n + 1, .cons h q => .cons h (dpAll_take n q)
theorem dpAll_drop {K : PySem.W.Frag} {H : Hp} : ∀ {vs : List V} {ds : List Dat} (n : Nat), DpAll K H vs ds → DpAll K H (vs.drop n) (ds.drop n)
  | _, _, 0, q => q
  | _, _, _ + 1, .nil => .nil
  | _, _, n + 1, .cons h q => dpAll_drop n q
theorem dpAll_reverse {K : PySem.W.Frag} {H : Hp} : ∀ {vs : List V} {ds : List Dat}, DpAll K H vs ds → DpAll K H vs.reverse ds.reverse
  | _, _, .nil => .nil
  | _, _, .cons h q => by
    rw [List.reverse_cons, List.reverse_cons]
    exact dpAll_append (dpAll_reverse q) (.cons h .nil)
theorem dpAll_set {K : PySem.W.Frag} {H : Hp} {v : V} {d : Dat} (h : Dp K H v d) : ∀ {vs : List V} {ds : List Dat} (i : Nat), DpAll K H vs ds → DpAll K H (vs.set i v) (ds.set i d)
  | _, _, _, .nil => .nil
  | _, _, 0, .cons _ q => .cons h q
  | _, _, i + 1, .cons g q => .cons g (dpAll_set h i q)
theorem dpAll_dropLast {K : PySem.W.Frag} {H : Hp} {vs : List V} {ds : List Dat} (h : DpAll K H vs ds) : DpAll K H vs.dropLast ds.dropLast := by
  rw [List.dropLast_eq_take, List.dropLast_eq_take, dpAll_length h]
  exact dpAll_take _ h
theorem dpAll_ints {K : PySem.W.Frag} {H : Hp} : ∀ ns : List Int, DpAll K H (ns.map V.int) (ns.map PyData.int)
  | [] => .nil
  | n :: r => .cons (.int n) (dpAll_ints r)
theorem ints_of_dpAll {K : PySem.W.Frag} {H : Hp} : ∀ {ns : List Int} {vs : List V}, DpAll K H vs (ns.map PyData.int) → vs = ns.map V.int
  | [], _, .nil => rfl
  | n :: r, _, .cons h q => by
    cases h
    rw [ints_of_dpAll q]; rfl

/-! ### slots by value -/
/-- what a container holds -/
inductive Ct where
  | l (xs : List Dat)
  | k (kvs : List (Key × Dat))
  | ob (t p : Dat)
  | w (as : List Addr)
/-- what a slot holds: nothing that is known; data; a container made here; a container handed in, to be changed -/
inductive SV where
  | no
  | d (x : Dat)
  | o (c : Ct)
  | m (k : Nat) (c : Ct)
abbrev Sl := List SV
def SV.own : SV → Option Ct
  | .o c => some c
  | .m _ c => some c
  | _ => none
def SV.put : SV → Ct → SV
  | .o _, c => .o c
  | .m k _, c => .m k c
  | s, _ => s

def DpKV (K : PySem.W.Frag) (He : Hp) : List (Key × V) → List (Key × Dat) → Prop := Paired fun p q => p.1 = q.1 ∧ Dp K He p.2 q.2
def CtAt (K : PySem.W.Frag) (He : Hp) (o : HO) : Ct → Prop
  | .l xs => ∃ vs, o = .lst vs ∧ DpAll K He vs xs
  | .k kvs => ∃ ws, o = .dK ws ∧ DpKV K He ws kvs
  | .ob t p => ∃ (C dx : Addr) (vt vp : V), PySem.W.nsIn K mainGlobals "Walk" = some (some (.ref C)) ∧ o = .ins C dx [("tree", vt), ("place", vp)] ∧ Dp K He vt t ∧ Dp K He vp p
  | .w as => o = .lst (as.map V.ref)
theorem ctAt_mono {K : PySem.W.Frag} {He He' : Hp} (e : Same He He') {o : HO} : ∀ {c : Ct}, CtAt K He o c → CtAt K He' o c
  | .l _, ⟨vs, a, b⟩ => ⟨vs, a, dpAll_mono e b⟩
  | .k _, ⟨vs, a, b⟩ => ⟨vs, a, Paired.mapP b fun _ _ h => ⟨h.1, dp_mono e h.2⟩⟩
  | .ob _ _, ⟨C, dx, vt, vp, a, b, d1, d2⟩ => ⟨C, dx, vt, vp, a, b, dp_mono e d1, dp_mono e d2⟩
  | .w _, a => a

structure OwnAt (K : PySem.W.Frag) (U : Hp) (ms : List Addr) (He H : Hp) (a : Addr) (sv : SV) (c : Ct) : Prop where
  at_ : ∃ o, H a = some o ∧ CtAt K He o c
  he : He a = none
  u : (∃ c, sv = .o c) → U a = none
  m : ∀ k c, sv = .m k c → ms[k]? = some a

def SvAt (K : PySem.W.Frag) (U : Hp) (ms : List Addr) (He H : Hp) (ov : Option V) (sv : SV) : Prop :=
  match sv with
  | .no => True
  | .d x => ∃ v, ov = some v ∧ Dp K He v x
  | .o c => ∃ a, ov = some (.ref a) ∧ OwnAt K U ms He H a sv c
  | .m _ c => ∃ a, ov = some (.ref a) ∧ OwnAt K U ms He H a sv c

structure Rel (K : PySem.W.Frag) (U : Hp) (ms : List Addr) (He : Hp) (S : Sl) (σ : L2.St) (H : Hp) : Prop where
  len : S.length = σ.length
  at_ : ∀ (i : Nat) (sv : SV), S[i]? = some sv → ∃ ov, σ[i]? = some ov ∧ SvAt K U ms He H ov sv
  sep : ∀ (i j : Nat) (a : Addr) (si sj : SV) (ci cj : Ct), i ≠ j → S[i]? = some si → S[j]? = some sj → si.own = some ci → sj.own = some cj → σ[i]? = some (some (.ref a)) → σ[j]? = some (some (.ref a)) → False
  frame : ∀ a o, U a = some o → a ∉ ms → H a = some o
  used : ∀ a, U a ≠ none → H a ≠ none
  data : Same He H
  mu : ∀ a, a ∈ ms → U a ≠ none

structure Grow (U He He' : Hp) : Prop where
  same : Same He He'
  new : ∀ a, He a = none → U a ≠ none → He' a = none
theorem Grow.refl (U He : Hp) : Grow U He He := ⟨Same.refl _, fun _ h _ => h⟩
theorem Grow.trans {U He He1 He2 : Hp} (a : Grow U He He1) (b : Grow U He1 He2) : Grow U He He2 := ⟨a.same.trans b.same, fun x h u => b.new x (a.new x h u) u⟩

/-- only new things -/
structure Ext (He H He' H' : Hp) : Prop where
  data : Same He He'
  in_ : Same He' H'
  same : Same H H'
  new : ∀ a, H a ≠ none → He a = none → He' a = none
theorem Ext.refl {He H : Hp} (h : Same He H) : Ext He H He H := ⟨Same.refl _, h, Same.refl _, fun _ _ h => h⟩

section
variable {K : PySem.W.Frag} {U : Hp} {ms : List Addr} {He He' : Hp} {S : Sl} {σ : L2.St} {H H' : Hp}
theorem own_at {ov : Option V} {sv : SV} {c : Ct} (h : SvAt K U ms He H ov sv) (e : sv.own = some c) : ∃ a, ov = some (.ref a) ∧ OwnAt K U ms He H a sv c := by
  cases sv with
  | no => cases e
  | d x => cases e
  | o c' => cases e; exact h
  | m k c' => cases e; exact h
theorem svAt_of_own {a : Addr} {sv : SV} {c : Ct} (e : sv.own = some c) (h : OwnAt K U ms He H a sv c) : SvAt K U ms He H (some (.ref a)) sv := by
  cases sv with
  | no => cases e
  | d x => cases e
  | o c' => cases e; exact ⟨a, rfl, h⟩
  | m k c' => cases e; exact ⟨a, rfl, h⟩
theorem Rel.own (R : Rel K U ms He S σ H) {i : Nat} {sv : SV} {c : Ct} (h : S[i]? = some sv) (e : sv.own = some c) : ∃ a, σ[i]? = some (some (.ref a)) ∧ OwnAt K U ms He H a sv c := by
  obtain ⟨ov, e1, h1⟩ := R.at_ i sv h
  obtain ⟨a, rfl, h2⟩ := own_at h1 e
  exact ⟨a, e1, h2⟩
theorem Rel.dat (R : Rel K U ms He S σ H) {i : Nat} {x : Dat} (h : S[i]? = some (.d x)) : ∃ v, σ[i]? = some (some v) ∧ Dp K He v x := by
  obtain ⟨ov, e1, v, rfl, h2⟩ := R.at_ i _ h
  exact ⟨v, e1, h2⟩
theorem Ext.rel (R : Rel K U ms He S σ H) (E : Ext He H He' H') : Rel K U ms He' S σ H' where
  len := R.len
  at_ := fun i sv h => by
    obtain ⟨ov, e, q⟩ := R.at_ i sv h
    refine ⟨ov, e, ?_⟩
    cases sv with
    | no => trivial
    | d x =>
      obtain ⟨v, e1, q⟩ := q
      exact ⟨v, e1, dp_mono E.data q⟩
    | o c =>
      obtain ⟨a, e1, ⟨⟨o, h1, h2⟩, h3, h4, h5⟩⟩ := q
      exact ⟨a, e1, ⟨⟨o, E.same _ _ h1, ctAt_mono E.data h2⟩, E.new a (by rw [h1]; simp) h3, h4, h5⟩⟩
    | m k c =>
      obtain ⟨a, e1, ⟨⟨o, h1, h2⟩, h3, h4, h5⟩⟩ := q
      exact ⟨a, e1, ⟨⟨o, E.same _ _ h1, ctAt_mono E.data h2⟩, E.new a (by rw [h1]; simp) h3, h4, h5⟩⟩
  sep := R.sep
  frame := fun a o h hm => E.same _ _ (R.frame a o h hm)
  used := fun a h => by
    cases q : H a with
    | none => exact absurd q (R.used a h)
    | some o => rw [E.same _ _ q]; simp
  data := E.in_
  mu := R.mu
theorem Ext.grow (R : Rel K U ms He S σ H) (E : Ext He H He' H') : Grow U He He' := ⟨E.data, fun a h u => E.new a (R.used a u) h⟩
/-- a new object that is data -/
theorem ext_new {p : Addr} {o : HO} (hd : Same He H) (hp : H p = none) : Ext He H (upd He p o) (upd H p o) := by
  have hep : He p = none := hd.free hp
  refine ⟨fun b u e => ?_, fun b u e => ?_, fun b u e => ?_, fun a h1 h2 => ?_⟩
  · rw [upd_ne (ne_of_none e hep)]; exact e
  · by_cases hb : b = p
    · subst hb; rw [upd_same] at e ⊢; exact e
    · rw [upd_ne hb] at e ⊢; exact hd _ _ e
  · rw [upd_ne (ne_of_none e hp)]; exact e
  · have : a ≠ p := fun z => h1 (by rw [z]; exact hp)
    rw [upd_ne this]; exact h2
/-- a new object that is not data (a container) -/
theorem ext_fresh {p : Addr} {o : HO} (hd : Same He H) (hp : H p = none) : Ext He H He (upd H p o) := by
  refine ⟨Same.refl _, fun b u e => ?_, fun b u e => ?_, fun a _ h2 => h2⟩
  · rw [upd_ne (ne_of_none (hd _ _ e) hp)]; exact hd _ _ e
  · rw [upd_ne (ne_of_none e hp)]; exact e
/-- a slot gets data -/
theorem Rel.setD (R : Rel K U ms He S σ H) {i : Nat} {v : V} {x : Dat} (h : Dp K He v x) : Rel K U ms He (S.set i (.d x)) (σ.set i (some v)) H where
  len := by rw [List.length_set, List.length_set]; exact R.len
  at_ := fun j sv e => by
    by_cases hj : i = j
    · subst hj
      have hi : i < S.length := by
        have := (List.getElem?_eq_some_iff.mp e).1
        simpa using this
      rw [List.getElem?_set_self hi] at e
      cases e
      exact ⟨some v, by rw [List.getElem?_set_self (by rw [← R.len]; exact hi)], v, rfl, h⟩
    · rw [List.getElem?_set_ne hj] at e ⊢
      exact R.at_ j sv e
  sep := fun a b ad sa sb ca cb ne ha hb oa ob ea eb => by
    have na : i ≠ a := fun z => by
      subst z
      have hi : i < S.length := by
        have := (List.getElem?_eq_some_iff.mp ha).1
        simpa using this
      rw [List.getElem?_set_self hi] at ha; cases ha; cases oa
    have nb : i ≠ b := fun z => by
      subst z
      have hi : i < S.length := by
        have := (List.getElem?_eq_some_iff.mp hb).1
        simpa using this
      rw [List.getElem?_set_self hi] at hb; cases hb; cases ob
    rw [List.getElem?_set_ne na] at ha ea
    rw [List.getElem?_set_ne nb] at hb eb
    exact R.sep a b ad sa sb ca cb ne ha hb oa ob ea eb
  frame := R.frame
  used := R.used
  data := R.data
  mu := R.mu
/-- a slot forgotten -/
theorem Rel.setNo (R : Rel K U ms He S σ H) {i : Nat} {ov : Option V} : Rel K U ms He (S.set i .no) (σ.set i ov) H where
  len := by rw [List.length_set, List.length_set]; exact R.len
  at_ := fun j sv e => by
    by_cases hj : i = j
    · subst hj
      have hi : i < S.length := by
        have := (List.getElem?_eq_some_iff.mp e).1
        simpa using this
      rw [List.getElem?_set_self hi] at e
      cases e
      exact ⟨ov, by rw [List.getElem?_set_self (by rw [← R.len]; exact hi)], trivial⟩
    · rw [List.getElem?_set_ne hj] at e ⊢
      exact R.at_ j sv e
  sep := fun a b ad sa sb ca cb ne ha hb oa ob ea eb => by
    have na : i ≠ a := fun z => by
      subst z
      have hi : i < S.length := by
        have := (List.getElem?_eq_some_iff.mp ha).1
        simpa using this
      rw [List.getElem?_set_self hi] at ha; cases ha; cases oa
    have nb : i ≠ b := fun z => by
      subst z
      have hi : i < S.length := by
        have := (List.getElem?_eq_some_iff.mp hb).1
        simpa using this
      rw [List.getElem?_set_self hi] at hb; cases hb; cases ob
    rw [List.getElem?_set_ne na] at ha ea
    rw [List.getElem?_set_ne nb] at hb eb
    exact R.sep a b ad sa sb ca cb ne ha hb oa ob ea eb
  frame := R.frame
  used := R.used
  data := R.data
  mu := R.mu
/-- a value that is a container of nobody's -/
structure Fresh (K : PySem.W.Frag) (U : Hp) (He : Hp) (S : Sl) (σ : L2.St) (H : Hp) (v : V) (c : Ct) : Prop where
  at_ : ∃ a o, v = .ref a ∧ H a = some o ∧ CtAt K He o c ∧ He a = none ∧ U a = none
  sep : ∀ (i : Nat) (sv : SV) (ci : Ct), S[i]? = some sv → sv.own = some ci → σ[i]? ≠ some (some v)
/-- a slot gets a container -/
theorem Rel.setO (R : Rel K U ms He S σ H) {i : Nat} {v : V} {c : Ct} (h : Fresh K U He S σ H v c) : Rel K U ms He (S.set i (.o c)) (σ.set i (some v)) H where
  len := by rw [List.length_set, List.length_set]; exact R.len
  at_ := fun j sv e => by
    by_cases hj : i = j
    · subst hj
      have hi : i < S.length := by
        have := (List.getElem?_eq_some_iff.mp e).1
        simpa using this
      rw [List.getElem?_set_self hi] at e
      cases e
      obtain ⟨a, o, rfl, h1, h2, h3, h4⟩ := h.at_
      exact ⟨_, by rw [List.getElem?_set_self (by rw [← R.len]; exact hi)], a, rfl, ⟨⟨o, h1, h2⟩, h3, fun _ => h4, fun _ _ z => nomatch z⟩⟩
    · rw [List.getElem?_set_ne hj] at e ⊢
      exact R.at_ j sv e
  sep := fun a b ad sa sb ca cb ne ha hb oa ob ea eb => by
    by_cases na : i = a
    · subst na
      have hi : i < S.length := by
        have := (List.getElem?_eq_some_iff.mp ha).1
        simpa using this
      rw [List.getElem?_set_self (by rw [← R.len]; exact hi)] at ea
      rw [List.getElem?_set_ne ne] at hb eb
      cases ea
      exact h.sep b sb cb hb ob eb
    · rw [List.getElem?_set_ne na] at ha ea
      by_cases nb : i = b
      · subst nb
        have hi : i < S.length := by
          have := (List.getElem?_eq_some_iff.mp hb).1
          simpa using this
        rw [List.getElem?_set_self (by rw [← R.len]; exact hi)] at eb
        cases eb
        exact h.sep a sa ca ha oa ea
      · rw [List.getElem?_set_ne nb] at hb eb
        exact R.sep a b ad sa sb ca cb ne ha hb oa ob ea eb
  frame := R.frame
  used := R.used
  data := R.data
  mu := R.mu
theorem own_put {sv : SV} {c c' : Ct} (e : sv.own = some c) : (sv.put c').own = some c' := by
  cases sv with
  | no => cases e
  | d x => cases e
  | o c' => rfl
  | m k c' => rfl
/-- a container changed -/
theorem Rel.upd (R : Rel K U ms He S σ H) {i : Nat} {sv : SV} {c c' : Ct} {a : Addr} {o' : HO} (hi : S[i]? = some sv) (hc : sv.own = some c) (ha : σ[i]? = some (some (.ref a))) (ho : CtAt K He o' c') :
    Rel K U ms He (S.set i (sv.put c')) σ (L2.upd H a o') where
  len := by rw [List.length_set]; exact R.len
  at_ := fun j s e => by
    have hil : i < S.length := (List.getElem?_eq_some_iff.mp hi).1
    obtain ⟨a', ea', O⟩ := R.own hi hc
    rw [ha] at ea'
    cases ea'
    by_cases hj : i = j
    · subst hj
      rw [List.getElem?_set_self hil] at e
      cases e
      refine ⟨_, ha, svAt_of_own (own_put hc) ⟨⟨o', upd_same, ho⟩, O.he, fun ⟨c1, z⟩ => ?_, fun k1 c1 z => ?_⟩⟩
      · cases sv with
        | no => cases hc
        | d x => cases hc
        | o c' => exact O.u ⟨_, rfl⟩
        | m k c' => cases z
      · cases sv with
        | no => cases hc
        | d x => cases hc
        | o c' => cases z
        | m k c' => cases z; exact O.m _ _ rfl
    · rw [List.getElem?_set_ne hj] at e
      obtain ⟨ov, eo, q⟩ := R.at_ j s e
      refine ⟨ov, eo, ?_⟩
      cases s with
      | no => trivial
      | d x => exact q
      | o cj =>
        obtain ⟨b, rfl, ⟨ob, h1, h2⟩, h3, h4, h5⟩ := q
        have hb : b ≠ a := fun z => by
          subst z
          exact R.sep i j b sv _ c cj hj hi e hc rfl ha eo
        exact ⟨b, rfl, ⟨ob, by rw [upd_ne hb]; exact h1, h2⟩, h3, h4, h5⟩
      | m k cj =>
        obtain ⟨b, rfl, ⟨ob, h1, h2⟩, h3, h4, h5⟩ := q
        have hb : b ≠ a := fun z => by
          subst z
          exact R.sep i j b sv _ c cj hj hi e hc rfl ha eo
        exact ⟨b, rfl, ⟨ob, by rw [upd_ne hb]; exact h1, h2⟩, h3, h4, h5⟩
  sep := fun x y ad sx sy cx cy ne hx hy ox oy ex ey => by
    have hil : i < S.length := (List.getElem?_eq_some_iff.mp hi).1
    have key : ∀ {z : Nat} {sz : SV} {cz : Ct}, (S.set i (sv.put c'))[z]? = some sz → sz.own = some cz → ∃ sz' cz', S[z]? = some sz' ∧ sz'.own = some cz' := fun {z sz cz} h1 h2 => by
      by_cases hz : i = z
      · subst hz; exact ⟨sv, c, hi, hc⟩
      · rw [List.getElem?_set_ne hz] at h1; exact ⟨sz, cz, h1, h2⟩
    obtain ⟨sx', cx', h1, h2⟩ := key hx ox
    obtain ⟨sy', cy', h3, h4⟩ := key hy oy
    exact R.sep x y ad sx' sy' cx' cy' ne h1 h3 h2 h4 ex ey
  frame := fun b o h hm => by
    obtain ⟨a', ea', O⟩ := R.own hi hc
    rw [ha] at ea'
    cases ea'
    have hb : b ≠ a := fun z => by
      subst z
      cases sv with
      | no => cases hc
      | d x => cases hc
      | o c' => rw [O.u ⟨_, rfl⟩] at h; cases h
      | m k c' => exact hm (List.mem_of_getElem? (O.m _ _ rfl))
    rw [upd_ne hb]
    exact R.frame b o h hm
  used := fun b h => by
    by_cases hb : b = a
    · subst hb; rw [upd_same]; simp
    · rw [upd_ne hb]; exact R.used b h
  data := fun b o h => by
    obtain ⟨a', ea', O⟩ := R.own hi hc
    rw [ha] at ea'
    cases ea'
    have hb : b ≠ a := fun z => by
      subst z
      rw [O.he] at h; cases h
    rw [upd_ne hb]
    exact R.data b o h
  mu := R.mu
/-- an own list is never changed again: it becomes data -/
theorem Rel.freeze (R : Rel K U ms He S σ H) {i : Nat} {xs : List Dat} (hi : S[i]? = some (.o (.l xs))) :
    ∃ a He', σ[i]? = some (some (.ref a)) ∧ Grow U He He' ∧ Dp K He' (.ref a) (.list xs) ∧ Rel K U ms He' (S.set i (.d (.list xs))) σ H := by
  obtain ⟨a, ea, O⟩ := R.own hi rfl
  obtain ⟨o, h1, vs, rfl, h2⟩ := O.at_
  have hs : Same He (L2.upd He a (.lst vs)) := fun b u e => by
    rw [upd_ne (ne_of_none e O.he)]; exact e
  have hd : Dp K (L2.upd He a (.lst vs)) (.ref a) (.list xs) := .lst (SqL.of upd_same) (dpAll_mono hs h2)
  refine ⟨a, L2.upd He a (.lst vs), ea, ⟨hs, fun b h u => ?_⟩, hd, ?_⟩
  · have hb : b ≠ a := fun z => u (by rw [z]; exact O.u ⟨_, rfl⟩)
    rw [upd_ne hb]; exact h
  · refine ⟨by rw [List.length_set]; exact R.len, fun j sv e => ?_, fun x y ad sx sy cx cy ne hx hy ox oy ex ey => ?_, R.frame, R.used, fun b u e => ?_, R.mu⟩
    · have hil : i < S.length := (List.getElem?_eq_some_iff.mp hi).1
      by_cases hj : i = j
      · subst hj
        rw [List.getElem?_set_self hil] at e
        cases e
        exact ⟨_, ea, _, rfl, hd⟩
      · rw [List.getElem?_set_ne hj] at e
        obtain ⟨ov, eo, q⟩ := R.at_ j sv e
        refine ⟨ov, eo, ?_⟩
        cases sv with
        | no => trivial
        | d x =>
          obtain ⟨v, e1, q⟩ := q
          exact ⟨v, e1, dp_mono hs q⟩
        | o cj =>
          obtain ⟨b, rfl, ⟨ob, k1, k2⟩, k3, k4, k5⟩ := q
          have hb : b ≠ a := fun z => by
            subst z
            exact R.sep i j b _ _ _ cj hj hi e rfl rfl ea eo
          exact ⟨b, rfl, ⟨ob, k1, ctAt_mono hs k2⟩, by rw [upd_ne hb]; exact k3, k4, k5⟩
        | m k cj =>
          obtain ⟨b, rfl, ⟨ob, k1, k2⟩, k3, k4, k5⟩ := q
          have hb : b ≠ a := fun z => by
            subst z
            exact R.sep i j b _ _ _ cj hj hi e rfl rfl ea eo
          exact ⟨b, rfl, ⟨ob, k1, ctAt_mono hs k2⟩, by rw [upd_ne hb]; exact k3, k4, k5⟩
    · have nx : i ≠ x := fun z => by
        subst z
        have hil : i < S.length := (List.getElem?_eq_some_iff.mp hi).1
        rw [List.getElem?_set_self hil] at hx; cases hx; cases ox
      have ny : i ≠ y := fun z => by
        subst z
        have hil : i < S.length := (List.getElem?_eq_some_iff.mp hi).1
        rw [List.getElem?_set_self hil] at hy; cases hy; cases oy
      rw [List.getElem?_set_ne nx] at hx
      rw [List.getElem?_set_ne ny] at hy
      exact R.sep x y ad sx sy cx cy ne hx hy ox oy ex ey
    · by_cases hb : b = a
      · subst hb; rw [upd_same] at e; rw [← e]; exact h1
      · rw [upd_ne hb] at e; exact R.data b u e
/-- .. of nobody's -/
theorem Rel.freezeF (R : Rel K U ms He S σ H) {v : V} {xs : List Dat} (h : Fresh K U He S σ H v (.l xs)) :
    ∃ He', Grow U He He' ∧ Dp K He' v (.list xs) ∧ Rel K U ms He' S σ H := by
  obtain ⟨a, o, rfl, h1, ⟨vs, rfl, h2⟩, h3, h4⟩ := h.at_
  have hs : Same He (L2.upd He a (.lst vs)) := fun b u e => by
    rw [upd_ne (ne_of_none e h3)]; exact e
  have hd : Dp K (L2.upd He a (.lst vs)) (.ref a) (.list xs) := .lst (SqL.of upd_same) (dpAll_mono hs h2)
  refine ⟨L2.upd He a (.lst vs), ⟨hs, fun b k u => ?_⟩, hd, ⟨R.len, fun j sv e => ?_, R.sep, R.frame, R.used, fun b u e => ?_, R.mu⟩⟩
  · have hb : b ≠ a := fun z => u (by rw [z]; exact h4)
    rw [upd_ne hb]; exact k
  · obtain ⟨ov, eo, q⟩ := R.at_ j sv e
    refine ⟨ov, eo, ?_⟩
    cases sv with
    | no => trivial
    | d x =>
      obtain ⟨v, e1, q⟩ := q
      exact ⟨v, e1, dp_mono hs q⟩
    | o cj =>
      obtain ⟨b, rfl, ⟨ob, k1, k2⟩, k3, k4, k5⟩ := q
      have hb : b ≠ a := fun z => by
        subst z
        exact h.sep j _ cj e rfl eo
      exact ⟨b, rfl, ⟨ob, k1, ctAt_mono hs k2⟩, by rw [upd_ne hb]; exact k3, k4, k5⟩
    | m k cj =>
      obtain ⟨b, rfl, ⟨ob, k1, k2⟩, k3, k4, k5⟩ := q
      have hb : b ≠ a := fun z => by
        subst z
        exact h.sep j _ cj e rfl eo
      exact ⟨b, rfl, ⟨ob, k1, ctAt_mono hs k2⟩, by rw [upd_ne hb]; exact k3, k4, k5⟩
  · by_cases hb : b = a
    · subst hb; rw [upd_same] at e; rw [← e]; exact h1
    · rw [upd_ne hb] at e; exact R.data b u e
end
end Rp
set_option Elab.async false
set_option linter.all false
set_option maxRecDepth 100000
/-! Expressions as functions of the slots. -/
namespace Rp
open PySem PySem.Spec PyProof.Rows L2

abbrev M (α : Type) := Sl → Option (α × Sl)
def tM (K : PySem.W.Frag) (m : M Dat) : TE := fun σ H Q => ∃ U ms He S x S', Rel K U ms He S σ H ∧ m S = some (x, S') ∧ ∀ v H' He', Grow U He He' → Rel K U ms He' S' σ H' → Dp K He' v x → Q v H'
def tF (K : PySem.W.Frag) (m : M Ct) : TE := fun σ H Q => ∃ U ms He S c S', Rel K U ms He S σ H ∧ m S = some (c, S') ∧ ∀ v H' He', Grow U He He' → Rel K U ms He' S' σ H' → Fresh K U He' S' σ H' v c → Q v H'
def tT (K : PySem.W.Frag) (m : M Bool) : TT := fun σ H Q => ∃ U ms He S b S', Rel K U ms He S σ H ∧ m S = some (b, S') ∧ ∀ H' He', Grow U He He' → Rel K U ms He' S' σ H' → Q b H'
def tAs (K : PySem.W.Frag) (m : M (List Dat)) : TA := fun σ H Q => ∃ U ms He S xs S', Rel K U ms He S σ H ∧ m S = some (xs, S') ∧ ∀ vs H' He', Grow U He He' → Rel K U ms He' S' σ H' → DpAll K He' vs xs → Q vs H'
/-- an argument: data, the container of a slot, a container of nobody's -/
inductive CA where
  | d (x : Dat)
  | c (i : Nat)
  | t (ct : Ct)
def CaAt (K : PySem.W.Frag) (U He : Hp) (S : Sl) (σ : L2.St) (H : Hp) (v : V) : CA → Prop
  | .d x => Dp K He v x
  | .c i => σ[i]? = some (some v)
  | .t ct => Fresh K U He S σ H v ct
/-- the containers of nobody's -/
def temps : List V → List CA → List Addr
  | .ref p :: vs, .t _ :: as => p :: temps vs as
  | _ :: vs, _ :: as => temps vs as
  | _, _ => []
def tAr (K : PySem.W.Frag) (m : M (List CA)) : TA := fun σ H Q => ∃ U ms He S xs S', Rel K U ms He S σ H ∧ m S = some (xs, S') ∧ ∀ vs H' He', Grow U He He' → Rel K U ms He' S' σ H' → Paired (CaAt K U He' S' σ H') vs xs → (temps vs xs).Nodup → Q vs H'
def tO (K : PySem.W.Frag) (m : M (Option Int)) : TO := fun σ H Q => ∃ U ms He S o S', Rel K U ms He S σ H ∧ m S = some (o, S') ∧ ∀ H' He', Grow U He He' → Rel K U ms He' S' σ H' → Q o H'

theorem _root_.L2.PE.imp {X : Cx} {e : Expr} {t t' : TE} (h : PE X e t) (i : ∀ σ H Q, t' σ H Q → t σ H Q) : PE X e t' := ⟨fun pins s σ H Q I q => h.run pins s σ H Q I (i _ _ _ q)⟩
theorem _root_.L2.PT.imp {X : Cx} {e : Expr} {t t' : TT} (h : PT X e t) (i : ∀ σ H Q, t' σ H Q → t σ H Q) : PT X e t' := ⟨fun pins s σ H Q I q => h.run pins s σ H Q I (i _ _ _ q)⟩
theorem _root_.L2.PW.imp {X : Cx} {e : Expr} {t t' : TT} (h : PW X e t) (i : ∀ σ H Q, t' σ H Q → t σ H Q) : PW X e t' := ⟨fun wh pins s σ H Q I q => h.run wh pins s σ H Q I (i _ _ _ q)⟩
theorem _root_.L2.PA.imp {X : Cx} {e : List Expr} {t t' : TA} (h : PA X e t) (i : ∀ σ H Q, t' σ H Q → t σ H Q) : PA X e t' := ⟨fun pos pins s σ H Q I q => h.run pos pins s σ H Q I (i _ _ _ q)⟩
theorem _root_.L2.PS.imp {X : Cx} {e : Stmt} {t t' : TS} (h : PS X e t) (i : ∀ D σ H, t' D σ H → t D σ H) : PS X e t' := ⟨fun pins s σ H D I q => h.run pins s σ H D I (i _ _ _ q)⟩
theorem _root_.L2.PSs.imp {X : Cx} {e : List Stmt} {t t' : TS} (h : PSs X e t) (i : ∀ D σ H, t' D σ H → t D σ H) : PSs X e t' := ⟨fun pins s σ H D I q => h.run pins s σ H D I (i _ _ _ q)⟩
theorem _root_.L2.PO.imp {X : Cx} {e : Option Expr} {t t' : TO} (h : PO X e t) (i : ∀ σ H Q, t' σ H Q → t σ H Q) : PO X e t' := ⟨fun pins s σ H Q I q => h.run pins s σ H Q I (i _ _ _ q)⟩

/-! ### what expressions compute -/
def mC (x : Dat) : M Dat := fun S => some (x, S)
def mV (i : Nat) : M Dat := fun S => match S[i]? with
  | some (.d x) => some (x, S)
  | some (.o (.l xs)) => some (.list xs, S.set i (.d (.list xs)))
  | _ => none
def mFz (m : M Ct) : M Dat := fun S => match m S with
  | some (.l xs, S') => some (.list xs, S')
  | _ => none
def mBin (g : Dat → Dat → Option Dat) (a b : M Dat) : M Dat := fun S => match a S with
  | some (x, S1) => match b S1 with
    | some (y, S2) => match g x y with
      | some z => some (z, S2)
      | none => none
    | none => none
  | none => none
def mUn (g : Dat → Option Dat) (a : M Dat) : M Dat := fun S => match a S with
  | some (x, S1) => match g x with
    | some z => some (z, S1)
    | none => none
  | none => none
def mBinF (g : Dat → Dat → Option Ct) (a b : M Dat) : M Ct := fun S => match a S with
  | some (x, S1) => match b S1 with
    | some (y, S2) => match g x y with
      | some z => some (z, S2)
      | none => none
    | none => none
  | none => none
def mUnF (g : Dat → Option Ct) (a : M Dat) : M Ct := fun S => match a S with
  | some (x, S1) => match g x with
    | some z => some (z, S1)
    | none => none
  | none => none
def mNil : M (List Dat) := fun S => some ([], S)
def mCons (a : M Dat) (b : M (List Dat)) : M (List Dat) := fun S => match a S with
  | some (x, S1) => match b S1 with
    | some (xs, S2) => some (x :: xs, S2)
    | none => none
  | none => none
def mTup (a : M (List Dat)) : M Dat := fun S => match a S with
  | some (xs, S1) => if xs.length ≤ 100000 then some (.tuple xs, S1) else none
  | none => none
def mLst (a : M (List Dat)) : M Ct := fun S => match a S with
  | some (xs, S1) => if xs.length ≤ 100000 then some (.l xs, S1) else none
  | none => none
/-- tests -/
def tB (a : M Dat) : M Bool := fun S => match a S with
  | some (.bool b, S1) => some (b, S1)
  | _ => none
def truD : Dat → Option Bool
  | .none => some false
  | .bool b => some b
  | .int i => some (i != 0)
  | .str x => if x.length ≤ 100000 then some ((x.length : Int) != 0) else none
  | .list xs => some (!xs.isEmpty)
  | .tuple xs => some (!xs.isEmpty)
  | _ => none
def tTr (a : M Dat) : M Bool := fun S => match a S with
  | some (x, S1) => match truD x with
    | some b => some (b, S1)
    | none => none
  | _ => none
/-- the truth of a slot, its container not frozen -/
def tTrV (i : Nat) : M Bool := fun S => match S[i]? with
  | some (.d x) => match truD x with
    | some b => some (b, S)
    | none => none
  | some (.o (.l xs)) => some (!xs.isEmpty, S)
  | some (.m _ (.l xs)) => some (!xs.isEmpty, S)
  | some (.o (.k xs)) => some (!xs.isEmpty, S)
  | some (.m _ (.k xs)) => some (!xs.isEmpty, S)
  | _ => none
def tAnd (a b : M Bool) : M Bool := fun S => match a S with
  | some (true, S1) => b S1
  | r => r
def tOr (a b : M Bool) : M Bool := fun S => match a S with
  | some (false, S1) => b S1
  | r => r
def tNot (a : M Bool) : M Bool := fun S => match a S with
  | some (b, S1) => some (!b, S1)
  | none => none
/-- and, or, not of truth values, as values -/
def mAnd (a b : M Dat) : M Dat := fun S => match a S with
  | some (.bool true, S1) => b S1
  | some (.bool false, S1) => some (.bool false, S1)
  | _ => none
def mOr (a b : M Dat) : M Dat := fun S => match a S with
  | some (.bool false, S1) => b S1
  | some (.bool true, S1) => some (.bool true, S1)
  | _ => none
def mNotT (a : M Bool) : M Dat := fun S => match a S with
  | some (b, S1) => some (.bool (!b), S1)
  | none => none

section
variable {K : PySem.W.Frag} {σ : L2.St} {H : Hp}
/-- the two ends of a reading -/
theorem tM.mk {m : M Dat} {Q : VK} {U : Hp} {ms : List Addr} {He : Hp} {S S' : Sl} {x : Dat} (R : Rel K U ms He S σ H) (h : m S = some (x, S')) (q : ∀ v H' He', Grow U He He' → Rel K U ms He' S' σ H' → Dp K He' v x → Q v H') : tM K m σ H Q := ⟨U, ms, He, S, x, S', R, h, q⟩

/-! ### operations by data -/
def OpD (K : PySem.W.Frag) (r : R2) (g : Dat → Dat → Option Dat) : Prop :=
  ∀ (He H : Hp) (v w : V) (x y z : Dat) (Q : VK), Same He H → Dp K He v x → Dp K He w y → g x y = some z → (∀ u H' He', Ext He H He' H' → Dp K He' u z → Q u H') → r v w H Q
def OpF (K : PySem.W.Frag) (r : R2) (g : Dat → Dat → Option Ct) : Prop :=
  ∀ (He H : Hp) (v w : V) (x y : Dat) (c : Ct) (Q : VK), Same He H → Dp K He v x → Dp K He w y → g x y = some c → (∀ p o He', H p = none → Same He He' → Same He' H → (∀ a, H a ≠ none → He a = none → He' a = none) → CtAt K He' o c → Q (.ref p) (upd H p o)) → r v w H Q
theorem tM_op {r : R2} {g : Dat → Dat → Option Dat} {a b : M Dat} {Q : VK} (hg : OpD K r g) (h : tM K (mBin g a b) σ H Q) : tOp r (tM K a) (tM K b) σ H Q := by
  obtain ⟨U, ms, He, S, z, S2, R, h, q⟩ := h
  unfold mBin at h
  split at h
  · rename_i x S1 h1
    split at h
    · rename_i y S2' h2
      split at h
      · rename_i z' h3
        cases h
        refine .mk R h1 fun v H1 He1 G1 R1 d1 => ?_
        refine .mk R1 h2 fun w H2 He2 G2 R2 d2 => ?_
        refine hg He2 H2 v w x y z Q R2.data (dp_mono G2.same d1) d2 h3 fun u H' He' E d3 => ?_
        exact q u H' He' ((G1.trans G2).trans (E.grow R2)) (E.rel R2) d3
      · cases h
    · cases h
  · cases h
/-- a fresh container that was just laid -/
theorem fresh_laid {U : Hp} {ms : List Addr} {He : Hp} {S : Sl} {p : Addr} {o : HO} {c : Ct} (R : Rel K U ms He S σ H) (hp : H p = none) (hc : CtAt K He o c) : Fresh K U He S σ (upd H p o) (.ref p) c := by
  refine ⟨⟨p, o, rfl, upd_same, hc, R.data.free hp, ?_⟩, fun i sv ci h1 h2 h3 => ?_⟩
  · cases q : U p with
    | none => rfl
    | some u => exact absurd hp (R.used p (by rw [q]; simp))
  · obtain ⟨a, e, O⟩ := R.own h1 h2
    rw [h3] at e
    cases e
    obtain ⟨u, e, _⟩ := O.at_
    rw [hp] at e; cases e
theorem more_ext {U : Hp} {ms : List Addr} {He He' : Hp} {S : Sl} {p : Addr} {o : HO} (R : Rel K U ms He S σ H) (hp : H p = none) (h1 : Same He He') (h2 : Same He' H) (h3 : ∀ a, H a ≠ none → He a = none → He' a = none) :
    Ext He H He' (upd H p o) := by
  refine ⟨h1, fun b u e => ?_, fun b u e => ?_, h3⟩
  · rw [upd_ne (ne_of_none (h2 _ _ e) hp)]; exact h2 _ _ e
  · rw [upd_ne (ne_of_none e hp)]; exact e
theorem fresh_laid' {U : Hp} {ms : List Addr} {He He' : Hp} {S : Sl} {p : Addr} {o : HO} {c : Ct} (R : Rel K U ms He S σ H) (hp : H p = none) (h2 : Same He' H) (hc : CtAt K He' o c) : Fresh K U He' S σ (upd H p o) (.ref p) c := by
  refine ⟨⟨p, o, rfl, upd_same, hc, h2.free hp, ?_⟩, fun i sv ci h1 h2 h3 => ?_⟩
  · cases q : U p with
    | none => rfl
    | some u => exact absurd hp (R.used p (by rw [q]; simp))
  · obtain ⟨a, e, O⟩ := R.own h1 h2
    rw [h3] at e
    cases e
    obtain ⟨u, e, _⟩ := O.at_
    rw [hp] at e; cases e
theorem tF_op {r : R2} {g : Dat → Dat → Option Ct} {a b : M Dat} {Q : VK} (hg : OpF K r g) (h : tF K (mBinF g a b) σ H Q) : tOp r (tM K a) (tM K b) σ H Q := by
  obtain ⟨U, ms, He, S, z, S2, R, h, q⟩ := h
  unfold mBinF at h
  split at h
  · rename_i x S1 h1
    split at h
    · rename_i y S2' h2
      split at h
      · rename_i z' h3
        cases h
        refine .mk R h1 fun v H1 He1 G1 R1 d1 => ?_
        refine .mk R1 h2 fun w H2 He2 G2 R2 d2 => ?_
        refine hg He2 H2 v w x y z Q R2.data (dp_mono G2.same d1) d2 h3 fun p o He' hp s1 s2 s3 hc => ?_
        have E := more_ext (o := o) R2 hp s1 s2 s3
        exact q _ _ He' ((G1.trans G2).trans (E.grow R2)) (E.rel R2) (fresh_laid' R2 hp s2 hc)
      · cases h
    · cases h
  · cases h
end
end Rp
set_option Elab.async false
set_option linter.all false
set_option maxRecDepth 100000
/-! Operations on data. -/
namespace Rp
open PySem PySem.Spec PyProof.Rows L2

def addD : Dat → Dat → Option Dat
  | .int i, .int j => some (.int (i + j))
  | .str i, .str j => if i.length + j.length ≤ 100000 then some (.str (i ++ j)) else none
  | _, _ => none
def subD : Dat → Dat → Option Dat
  | .int i, .int j => some (.int (i - j))
  | _, _ => none
/-- (the guards are said by Nat.ble: the kernel looks no further than it must) -/
def smallI (i : Int) : Bool := Nat.ble i.natAbs 9223372036854775808
theorem smallI_ok {i : Int} (h : smallI i = true) : -(2 ^ 64) < i ∧ i < 2 ^ 64 := by
  have := Nat.le_of_ble_eq_true h
  omega
def mulD : Dat → Dat → Option Dat
  | .int i, .int j => if smallI i || smallI j then some (.int (i * j)) else none
  | .str i, .int j => if 1 ≤ j ∧ j ≤ 1000 ∧ i.length ≤ 1000 then some (.str ⟨(List.replicate j.toNat i.cps.toList).flatten.toArray⟩) else none
  | _, _ => none
def modD : Dat → Dat → Option Dat
  | .int i, .int j => if 0 < j then some (.int (i % j)) else none
  | _, _ => none
def fdivD : Dat → Dat → Option Dat
  | .int i, .int j => if 0 < j ∧ j < 1073741824 then some (.int (i / j)) else none
  | _, _ => none
def powD : Dat → Dat → Option Dat
  | .int i, .int (.ofNat j) => if Nat.ble (Builtin.Int.intBits i * j) 134217728 then some (.int (i ^ j)) else none
  | _, _ => none
def negD : Dat → Option Dat
  | .int i => some (.int (-i))
  | _ => none
def ltD : Dat → Dat → Option Dat
  | .int i, .int j => some (.bool (decide (i < j)))
  | _, _ => none
def leD : Dat → Dat → Option Dat
  | .int i, .int j => some (.bool (decide (i ≤ j)))
  | _, _ => none
def gtD : Dat → Dat → Option Dat
  | .int i, .int j => some (.bool (decide (j < i)))
  | _, _ => none
def geD : Dat → Dat → Option Dat
  | .int i, .int j => some (.bool (decide (j ≤ i)))
  | _, _ => none
/-- two like scalars -/
def scalD : Dat → Dat → Option Bool
  | .none, .none => some true
  | .bool a, .bool b => some (a == b)
  | .int a, .int b => some (a == b)
  | .str a, .str b => some (a == b)
  | _, _ => none
def eqD (a b : Dat) : Option Dat := match scalD a b with
  | some k => some (.bool k)
  | none => if SeqAt.shaped a && SeqAt.shaped b then some (.bool (PyData.eqv a b)) else none
def neD (a b : Dat) : Option Dat := match scalD a b with
  | some k => some (.bool (!k))
  | none => if SeqAt.shaped a && SeqAt.shaped b then some (.bool (!PyData.eqv a b)) else none
def isNoD : Dat → Bool
  | .none => true
  | _ => false
def isD : Dat → Dat → Option Dat
  | a, .none => some (.bool (isNoD a))
  | _, _ => none
def isNotD : Dat → Dat → Option Dat
  | a, .none => some (.bool (!isNoD a))
  | _, _ => none
def ixD : Dat → Dat → Option Dat
  | .list xs, .int i => atI xs i
  | .tuple xs, .int i => atI xs i
  | .str z, .int i => if z.length ≤ 100000 then (atI z.cps.toList i).map fun c => .str ⟨#[c]⟩ else none
  | _, _ => none
def lenD : Dat → Option Dat
  | .list xs => some (.int xs.length)
  | .tuple xs => some (.int xs.length)
  | .str z => if z.length ≤ 100000 then some (.int z.length) else none
  | _ => none
def catF : Dat → Dat → Option Ct
  | .list xs, .list ys => if xs.length + ys.length ≤ 100000 then some (.l (xs ++ ys)) else none
  | _, _ => none
def repF : Dat → Dat → Option Ct
  | .list xs, .int j => if 0 ≤ j ∧ j ≤ 100000 ∧ xs.length * j.toNat ≤ 100000 then some (.l (List.replicate j.toNat xs).flatten) else none
  | _, _ => none

section
variable {K : PySem.W.Frag} {X : Cx}
theorem dp_int {H : Hp} {v : V} {i : Int} (h : Dp K H v (.int i)) : v = .int i := by cases h; rfl
theorem dp_bl {H : Hp} {v : V} {i : Bool} (h : Dp K H v (.bool i)) : v = .bl i := by cases h; rfl
theorem dp_str {H : Hp} {v : V} {i : Str} (h : Dp K H v (.str i)) : v = .str i := by cases h; rfl
theorem dp_non {H : Hp} {v : V} (h : Dp K H v .none) : v = .non := by cases h; rfl
theorem dp_tup {H : Hp} {v : V} {ds : List Dat} (h : Dp K H v (.tuple ds)) : ∃ a xs, v = .ref a ∧ SqT K H a xs ∧ DpAll K H xs ds := by
  cases h with
  | tup h1 h2 => exact ⟨_, _, rfl, h1, h2⟩
theorem dp_lst {H : Hp} {v : V} {ds : List Dat} (h : Dp K H v (.list ds)) : ∃ a xs, v = .ref a ∧ SqL K H a xs ∧ DpAll K H xs ds := by
  cases h with
  | lst h1 h2 => exact ⟨_, _, rfl, h1, h2⟩

theorem opd_int {g : Int → Int → Dat} {gv : Int → Int → V} {gd : Dat → Dat → Option Dat} (hg : ∀ i j, gd (.int i) (.int j) = some (g i j)) (hn : ∀ a b z, gd a b = some z → ∃ i j, a = .int i ∧ b = .int j) (hv : ∀ H i j, Dp K H (gv i j) (g i j)) : OpD K (rI0 gv) gd := by
  intro He H v w x y z Q hs dv dw h q
  obtain ⟨i, j, rfl, rfl⟩ := hn x y z h
  rw [hg] at h
  cases h
  cases dp_int dv
  cases dp_int dw
  exact ⟨i, j, rfl, rfl, q _ _ _ (.refl hs) (hv _ _ _)⟩
theorem opd_intC {C : Int → Int → Prop} {g : Int → Int → Dat} {gv : Int → Int → V} {gd : Dat → Dat → Option Dat} (hg : ∀ i j z, gd (.int i) (.int j) = some z → C i j ∧ z = g i j) (hn : ∀ a b z, gd a b = some z → ∃ i j, a = .int i ∧ b = .int j) (hv : ∀ H i j, Dp K H (gv i j) (g i j)) : OpD K (rI C gv) gd := by
  intro He H v w x y z Q hs dv dw h q
  obtain ⟨i, j, rfl, rfl⟩ := hn x y z h
  obtain ⟨hc, rfl⟩ := hg _ _ _ h
  cases dp_int dv
  cases dp_int dw
  exact ⟨i, j, rfl, rfl, hc, q _ _ _ (.refl hs) (hv _ _ _)⟩

theorem od_sub : OpD K (rI0 fun i j => .int (i - j)) subD := opd_int (g := fun i j => .int (i - j)) (fun _ _ => rfl) (fun a b z h => by
  unfold subD at h; split at h <;> first | exact ⟨_, _, rfl, rfl⟩ | cases h) fun _ _ _ => .int _
theorem od_lt : OpD K (rI0 fun i j => .bl (decide (i < j))) ltD := opd_int (g := fun i j => .bool (decide (i < j))) (fun _ _ => rfl) (fun a b z h => by
  unfold ltD at h; split at h <;> first | exact ⟨_, _, rfl, rfl⟩ | cases h) fun _ _ _ => .bl _
theorem od_le : OpD K (rI0 fun i j => .bl (decide (i ≤ j))) leD := opd_int (g := fun i j => .bool (decide (i ≤ j))) (fun _ _ => rfl) (fun a b z h => by
  unfold leD at h; split at h <;> first | exact ⟨_, _, rfl, rfl⟩ | cases h) fun _ _ _ => .bl _
theorem od_gt : OpD K (rI0 fun i j => .bl (decide (j < i))) gtD := opd_int (g := fun i j => .bool (decide (j < i))) (fun _ _ => rfl) (fun a b z h => by
  unfold gtD at h; split at h <;> first | exact ⟨_, _, rfl, rfl⟩ | cases h) fun _ _ _ => .bl _
theorem od_ge : OpD K (rI0 fun i j => .bl (decide (j ≤ i))) geD := opd_int (g := fun i j => .bool (decide (j ≤ i))) (fun _ _ => rfl) (fun a b z h => by
  unfold geD at h; split at h <;> first | exact ⟨_, _, rfl, rfl⟩ | cases h) fun _ _ _ => .bl _
theorem od_mod : OpD K (rI (fun _ j => 0 < j) fun i j => .int (i % j)) modD := opd_intC (g := fun i j => .int (i % j)) (fun i j z h => by
  simp only [modD] at h
  split at h
  · rename_i hc; cases h; exact ⟨hc, rfl⟩
  · cases h) (fun a b z h => by
  unfold modD at h; split at h <;> first | exact ⟨_, _, rfl, rfl⟩ | cases h) fun _ _ _ => .int _
theorem od_fdiv : OpD K (rI CDiv fun i j => .int (i / j)) fdivD := opd_intC (g := fun i j => .int (i / j)) (fun i j z h => by
  simp only [fdivD] at h
  split at h
  · rename_i hc; cases h; exact ⟨hc, rfl⟩
  · cases h) (fun a b z h => by
  unfold fdivD at h; split at h <;> first | exact ⟨_, _, rfl, rfl⟩ | cases h) fun _ _ _ => .int _
def CPowB (i j : Int) : Prop := 0 ≤ j ∧ (Builtin.Int.intBits i : Int) * j ≤ 2 ^ 27
theorem op_powB : OpR X (binaryOp .Pow) (rI CPowB fun i j => .int (i ^ j.toNat)) := opI fun _ _ _ _ _ _ _ hc q => pow_int hc.1 hc.2 q
theorem od_pow : OpD K (rI CPowB fun i j => .int (i ^ j.toNat)) powD := opd_intC (g := fun i j => .int (i ^ j.toNat)) (fun i j z h => by
  cases j with
  | ofNat j =>
    have h : (if Nat.ble (Builtin.Int.intBits i * j) 134217728 = true then some (PyData.int (i ^ j)) else none) = some z := h
    split at h
    · rename_i hc
      cases h
      have := Nat.le_of_ble_eq_true hc
      refine ⟨⟨by simp, ?_⟩, rfl⟩
      show ((Builtin.Int.intBits i : Int)) * (j : Int) ≤ 2 ^ 27
      have h2 : ((Builtin.Int.intBits i * j : Nat) : Int) ≤ 134217728 := by omega
      rw [Int.natCast_mul] at h2
      omega
    · cases h
  | negSucc j => cases h) (fun a b z h => by
  unfold powD at h; split at h <;> first | exact ⟨_, _, rfl, rfl⟩ | cases h) fun _ _ _ => .int _

theorem OpD.or {r r' : R2} {g : Dat → Dat → Option Dat} (h : ∀ He H v w x y z Q, Same He H → Dp K He v x → Dp K He w y → g x y = some z → (∀ u H' He', Ext He H He' H' → Dp K He' u z → Q u H') → r v w H Q ∨ r' v w H Q) :
    OpD K (fun x y H Q => r x y H Q ∨ r' x y H Q) g := h
def rAddS : R2 := fun x y H Q => ∃ i j, x = .str i ∧ y = .str j ∧ i.length + j.length ≤ sizeLine ∧ Q (.str (i ++ j)) H
def rAddA : R2 := fun x y H Q => rI0 (fun i j => .int (i + j)) x y H Q ∨ rAddS x y H Q
theorem op_addA : OpR X (binaryOp .Add) rAddA := op_add.or op_add_str
theorem line_ge : 100000 ≤ sizeLine := by rw [sizeLine_eq]; decide
theorem od_add : OpD K rAddA addD := by
  intro He H v w x y z Q hs dv dw h q
  unfold addD at h
  split at h
  · cases h; cases dp_int dv; cases dp_int dw
    exact .inl ⟨_, _, rfl, rfl, q _ _ _ (.refl hs) (.int _)⟩
  · split at h
    · rename_i hl
      cases h; cases dp_str dv; cases dp_str dw
      exact .inr ⟨_, _, rfl, rfl, Nat.le_trans hl line_ge, q _ _ _ (.refl hs) (.str _)⟩
    · cases h
  · cases h
/-- a text some times -/
def rMulS : R2 := fun x y H Q => ∃ i j, x = .str i ∧ y = .int j ∧ 1 ≤ j ∧ j ≤ 1000 ∧ i.length ≤ 1000 ∧ Q (.str ⟨(List.replicate j.toNat i.cps.toList).flatten.toArray⟩) H
theorem fold_rep (x : Array Nat) : ∀ (n : Nat) (acc : Array Nat), (List.replicate n x).foldl (· ++ ·) acc = (acc.toList ++ (List.replicate n x.toList).flatten).toArray
  | 0, acc => by simp
  | n + 1, acc => by
    rw [List.replicate_succ, List.foldl_cons, fold_rep x n, List.replicate_succ, List.flatten_cons]
    simp
theorem op_mulS : OpR X (binaryOp .Mult) rMulS := by
  intro pins s σ H x y v u Q I rx ry h
  obtain ⟨i, j, rfl, rfl, h1, h2, h3, q⟩ := h
  obtain ⟨t, rfl⟩ := rx
  obtain ⟨t', rfl⟩ := ry
  have hsz : sizeLine = 16777216 := sizeLine_eq
  have hm : i.length * j.toNat ≤ 1000 * 1000 := Nat.mul_le_mul h3 (by omega)
  have e : (List.replicate j.toNat i.cps).foldl (· ++ ·) #[] = (List.replicate j.toNat i.cps.toList).flatten.toArray := by
    have := fold_rep i.cps j.toNat #[]
    simpa using this
  refine PySem.P.mul_str ?_ (fun _ _ hh => ?_) (fun _ _ => ?_) ?_
  · simp only [Bool.or_eq_false_iff, decide_eq_false_iff_not]
    omega
  · have h5 : (2 ^ 63 - 1 : Int) / 1000 ≤ (2 ^ 63 - 1) / j := by
      have := Int.ediv_le_ediv (a := (2 ^ 63 - 1) / 1000 * j) (b := 2 ^ 63 - 1) (c := j) (by omega) (by
        have : (2 ^ 63 - 1 : Int) / 1000 * j ≤ (2 ^ 63 - 1) / 1000 * 1000 := Int.mul_le_mul_of_nonneg_left h2 (by decide)
        have h6 : (2 ^ 63 - 1 : Int) / 1000 * 1000 ≤ 2 ^ 63 - 1 := by decide
        omega)
      rwa [Int.mul_ediv_cancel _ (by omega)] at this
    have h7 : (1000 : Int) ≤ (2 ^ 63 - 1) / 1000 := by decide
    omega
  · unfold Builtin.Str.tooLong
    have : ¬ i.length * j.toNat > sizeLine := by omega
    first | simp [this] | (simp only [decide_eq_false_iff_not]; exact this)
  · rw [if_neg (by omega)]
    by_cases hc : (j == 1 || i.length == 0) = true
    · rw [if_pos hc]
      have : (⟨(List.replicate j.toNat i.cps.toList).flatten.toArray⟩ : Str) = i := by
        simp only [Bool.or_eq_true, beq_iff_eq] at hc
        rcases hc with hc | hc
        · subst hc
          have : (1 : Int).toNat = 1 := rfl
          rw [this]
          simp
        · have h0 : i.cps.toList = [] := by
            have : i.cps.size = 0 := hc
            simpa using this
          have h1 : i.cps = #[] := by
            have := congrArg List.toArray h0
            simpa using this
          rw [h0]
          cases i
          simp only at h1
          subst h1
          simp
      rw [this] at q
      exact ⟨.str i, H, I, ⟨t, rfl⟩, q⟩
    · rw [if_neg hc, e]
      refine ⟨?_, .str _, H, I.tok _, ⟨_, rfl⟩, q⟩
      show (List.replicate j.toNat i.cps.toList).flatten.toArray.size ≤ sizeLine
      rw [List.size_toArray, List.length_flatten, List.map_replicate, List.sum_replicate_nat]
      have : i.cps.toList.length = i.length := by rw [Array.length_toList]; rfl
      rw [this, Nat.mul_comm]
      omega
def rMulA : R2 := fun x y H Q => rI CMul (fun i j => .int (i * j)) x y H Q ∨ rMulS x y H Q
theorem op_mulA : OpR X (binaryOp .Mult) rMulA := op_mul.or op_mulS
theorem od_mul : OpD K rMulA mulD := by
  intro He H v w x y z Q hs dv dw h q
  unfold mulD at h
  split at h
  · split at h
    · rename_i hc
      cases h; cases dp_int dv; cases dp_int dw
      refine .inl ⟨_, _, rfl, rfl, ?_, q _ _ _ (.refl hs) (.int _)⟩
      rw [Bool.or_eq_true] at hc
      exact hc.imp smallI_ok smallI_ok
    · cases h
  · split at h
    · rename_i hc
      cases h; cases dp_str dv; cases dp_int dw
      exact .inr ⟨_, _, rfl, rfl, hc.1, hc.2.1, hc.2.2, q _ _ _ (.refl hs) (.str _)⟩
    · cases h
  · cases h
theorem ou_neg {v : V} {x z : Dat} {He H : Hp} {Q : VK} (hs : Same He H) (d : Dp K He v x) (h : negD x = some z) (q : ∀ u H' He', Ext He H He' H' → Dp K He' u z → Q u H') : rU (fun i => .int (-i)) v H Q := by
  unfold negD at h
  split at h
  · cases h; cases dp_int d
    exact ⟨_, rfl, q _ _ _ (.refl hs) (.int _)⟩
  · cases h
/-! ### == -/
def rEqA (K : PySem.W.Frag) : R2 := fun x y H Q => rEq x y H Q ∨ rEqD K x y H Q
def rNeA (K : PySem.W.Frag) : R2 := fun x y H Q => rNe x y H Q ∨ rNeD K x y H Q
theorem op_eqA (hu : X.A.units + 64 < cLine) : OpR X (compareOp .Eq) (rEqA X.K) := op_eq.or (op_eqD hu)
theorem op_neA (hu : X.A.units + 64 < cLine) : OpR X (compareOp .NotEq) (rNeA X.K) := op_ne.or (op_neD hu)
theorem scal_eq {H : Hp} {v w : V} {x y : Dat} {k : Bool} (dv : Dp K H v x) (dw : Dp K H w y) (h : scalD x y = some k) : scal v w = true ∧ decide (v = w) = k := by
  unfold scalD at h
  split at h
  · cases h; cases dp_non dv; cases dp_non dw; exact ⟨rfl, rfl⟩
  · cases h; cases dp_bl dv; cases dp_bl dw; exact ⟨rfl, dec_bl⟩
  · cases h; cases dp_int dv; cases dp_int dw; exact ⟨rfl, dec_int⟩
  · cases h; cases dp_str dv; cases dp_str dw; exact ⟨rfl, dec_str⟩
  · cases h
theorem od_eq : OpD K (rEqA K) eqD := by
  intro He H v w x y z Q hs dv dw h q
  unfold eqD at h
  split at h
  · rename_i k hk
    cases h
    obtain ⟨h1, h2⟩ := scal_eq dv dw hk
    exact .inl ⟨h1, q _ _ _ (.refl hs) (by rw [h2]; exact .bl _)⟩
  · split at h
    · rename_i hc
      cases h
      rw [Bool.and_eq_true] at hc
      exact .inr ⟨x, y, dp_mono hs dv, dp_mono hs dw, hc.1, hc.2, q _ _ _ (.refl hs) (.bl _)⟩
    · cases h
theorem od_ne : OpD K (rNeA K) neD := by
  intro He H v w x y z Q hs dv dw h q
  unfold neD at h
  split at h
  · rename_i k hk
    cases h
    obtain ⟨h1, h2⟩ := scal_eq dv dw hk
    exact .inl ⟨h1, q _ _ _ (.refl hs) (by rw [h2]; exact .bl _)⟩
  · split at h
    · rename_i hc
      cases h
      rw [Bool.and_eq_true] at hc
      exact .inr ⟨x, y, dp_mono hs dv, dp_mono hs dw, hc.1, hc.2, q _ _ _ (.refl hs) (.bl _)⟩
    · cases h
/-! ### is None -/
def rIsN : R2 := fun x y H Q => y = .non ∧ Q (.bl (decide (x = .non))) H
def rNotN : R2 := fun x y H Q => y = .non ∧ Q (.bl (!decide (x = .non))) H
theorem op_isA : OpR X (compareOp .Is) rIsN := op_isN
theorem op_notA : OpR X (compareOp .IsNot) rNotN := op_notN
theorem isNo_eq {H : Hp} {v : V} {x : Dat} (d : Dp K H v x) : decide (v = .non) = isNoD x := by
  cases d <;> rfl
theorem od_is : OpD K rIsN isD := by
  intro He H v w x y z Q hs dv dw h q
  unfold isD at h
  split at h
  · cases h
    exact ⟨dp_non dw, q _ _ _ (.refl hs) (by rw [isNo_eq dv]; exact .bl _)⟩
  · cases h
theorem od_isNot : OpD K rNotN isNotD := by
  intro He H v w x y z Q hs dv dw h q
  unfold isNotD at h
  split at h
  · cases h
    exact ⟨dp_non dw, q _ _ _ (.refl hs) (by rw [isNo_eq dv]; exact .bl _)⟩
  · cases h
/-! ### subscripts -/
theorem atI_dp {H : Hp} {vs : List V} {ds : List Dat} {i : Int} {d : Dat} (h : DpAll K H vs ds) (e : atI ds i = some d) : ∃ v, atI vs i = some v ∧ Dp K H v d := by
  unfold atI at e ⊢
  rw [dpAll_length h]
  cases q : ixN ds.length i with
  | none => rw [q] at e; cases e
  | some j =>
    rw [q] at e
    exact dpAll_get h e
theorem od_ix : OpD K (rIx K) ixD := by
  intro He H v w x y z Q hs dv dw h q
  unfold ixD at h
  split at h
  · cases dp_int dw
    obtain ⟨a, xs, rfl, h1, h2⟩ := dp_lst dv
    obtain ⟨u, h3, h4⟩ := atI_dp h2 h
    exact .inl ⟨a, xs, _, u, rfl, rfl, hs.seq h1, h3, q _ _ _ (.refl hs) h4⟩
  · cases dp_int dw
    obtain ⟨a, xs, rfl, h1, h2⟩ := dp_tup dv
    obtain ⟨u, h3, h4⟩ := atI_dp h2 h
    exact .inr (.inl ⟨a, xs, _, u, rfl, rfl, sqT_mono hs h1, h3, q _ _ _ (.refl hs) h4⟩)
  · cases dp_int dw
    cases dp_str dv
    split at h
    · rename_i z' i hl
      cases e : atI z'.cps.toList i with
      | none => rw [e] at h; cases h
      | some c =>
        rw [e] at h
        cases h
        exact .inr (.inr ⟨_, _, c, rfl, rfl, Nat.le_trans hl line_ge, e, q _ _ _ (.refl hs) (.str _)⟩)
    · cases h
  · cases h
/-! ### lists added -/
def rCatG (K : PySem.W.Frag) : R2 := fun x y H Q => ∃ l b xs zs, x = .ref l ∧ y = .ref b ∧ SqL K H l xs ∧ SqL K H b zs ∧ xs.length + zs.length ≤ sizeLine ∧ ∀ p, H p = none → Q (.ref p) (upd H p (.lst (xs ++ zs)))
theorem op_catG : OpR X (binaryOp .Add) (rCatG X.K) := by
  intro pins s σ H x y v u Q I rx ry h
  obtain ⟨l, b, xs, zs, rfl, rfl, hH, hB, hz, q⟩ := h
  cases rx
  cases ry
  obtain ⟨its, r, hl, z1⟩ := I.list hH
  obtain ⟨its2, r2, hl2, z2⟩ := I.list hB
  obtain ⟨⟨cls, dd, data, sl⟩, n, ho, hc, hdd, hd⟩ := id hl
  obtain ⟨⟨cls2, dd2, data2, sl2⟩, n2, ho2, hc2, hdd2, hd2⟩ := id hl2
  simp only at hc hd hc2 hd2 hdd hdd2
  subst hc hd hc2 hd2 hdd hdd2
  have e : its.toArray ++ its2.toArray = (its ++ its2).toArray := by simp
  have hlen := r.length
  have hlen2 := r2.length
  refine concat_meets ⟨_, ho, rfl⟩ ⟨_, ho2, rfl⟩ noFill_list_add seq_list_add PySem.F.slot_list_add PySem.F.entry_list_add (PySem.F.args_list_add_2 _ _) (list_addW l b its.toArray its2.toArray n n2 none none sl sl2 (by simp only [List.size_toArray]; omega)) ⟨ho, ho2, ?_⟩
  rw [e]
  exact ⟨.ref _, _, I.lnew (t' := s.toks) (r.append r2) (by rw [List.length_append]; omega), rfl, q _ I.fresh⟩
theorem of_cat : OpF K (rCatG K) catF := by
  intro He H v w x y c Q hs dv dw h q
  unfold catF at h
  split at h
  · split at h
    · rename_i hl
      cases h
      obtain ⟨a, xs, rfl, h1, h2⟩ := dp_lst dv
      obtain ⟨b, ys, rfl, h3, h4⟩ := dp_lst dw
      refine ⟨a, b, xs, ys, rfl, rfl, hs.seq h1, hs.seq h3, ?_, fun p hp => ?_⟩
      · rw [dpAll_length h2, dpAll_length h4]; exact Nat.le_trans hl line_ge
      · exact q p _ He hp (Same.refl _) hs (fun _ _ h => h) ⟨_, rfl, dpAll_append h2 h4⟩
    · cases h
  · cases h
end
end Rp
set_option Elab.async false
set_option linter.all false
set_option maxRecDepth 100000
/-! The rules for expressions. -/
namespace Rp
open PySem PySem.Spec PyProof.Rows L2

section
variable {K : PySem.W.Frag} {σ : L2.St} {H : Hp}
theorem tM_un {r : V → Hp → VK → Prop} {g : Dat → Option Dat} {a : M Dat} {Q : VK}
    (hg : ∀ (v : V) (x z : Dat) (He H : Hp) (Q : VK), Same He H → Dp K He v x → g x = some z → (∀ u H' He', Ext He H He' H' → Dp K He' u z → Q u H') → r v H Q) (h : tM K (mUn g a) σ H Q) : tUn r (tM K a) σ H Q := by
  obtain ⟨U, ms, He, S, z, S2, R, h, q⟩ := h
  unfold mUn at h
  split at h
  · rename_i x S1 h1
    split at h
    · rename_i z' h3
      cases h
      refine .mk R h1 fun v H1 He1 G1 R1 d1 => ?_
      exact hg v x z He1 H1 Q R1.data d1 h3 fun u H' He' E d3 => q u H' He' (G1.trans (E.grow R1)) (E.rel R1) d3
    · cases h
  · cases h
/-- a test by an expression's truth value -/
theorem tT_B {m : M Dat} {t : TE} {Q : Bool → Hp → Prop} (i : ∀ Q, tM K m σ H Q → t σ H Q) (h : tT K (tB m) σ H Q) : tTest t σ H Q := by
  obtain ⟨U, ms, He, S, b, S2, R, h, q⟩ := h
  unfold tB at h
  split at h
  · rename_i b' S1 h1
    cases h
    refine i _ (.mk R h1 fun v H' He' G R' d => ?_)
    exact ⟨_, dp_bl d, q H' He' G R'⟩
  · cases h
end

section
variable {X : Cx} {e a b c : Expr} {es rest : List Expr} {ma mb : M Dat} {mas : M (List Dat)} {ta tb : M Bool} {pos : Pos}
/-! ### names and constants -/
theorem se_c {v : V} {x : Dat} (h : PE X e (tC v)) (d : ∀ H, Dp X.K H v x) : PE X e (tM X.K (mC x)) := h.imp fun σ H Q q => by
  obtain ⟨U, ms, He, S, x, S', R, h, q⟩ := q
  cases h
  exact q v H He (.refl _ _) R (d He)
theorem se_int {i j} : PE X (.Constant (.int i) j pos) (tM X.K (mC (.int i))) := se_c pe_int fun _ => .int _
theorem se_bl {i j} : PE X (.Constant (.bool i) j pos) (tM X.K (mC (.bool i))) := se_c pe_bl fun _ => .bl _
theorem se_non {j} : PE X (.Constant .none j pos) (tM X.K (mC .none)) := se_c pe_non fun _ => .non
theorem se_str {x j} : PE X (.Constant (.str x) j pos) (tM X.K (mC (.str x))) := se_c pe_str fun _ => .str _
theorem se_v {i : Nat} (h : PE X e (tVar i)) : PE X e (tM X.K (mV i)) := h.imp fun σ H Q q => by
  obtain ⟨U, ms, He, S, x, S', R, h, q⟩ := q
  unfold mV at h
  split at h
  · rename_i y e
    cases h
    obtain ⟨v, e1, d⟩ := R.dat e
    exact ⟨v, e1, q v H He (.refl _ _) R d⟩
  · rename_i xs e
    cases h
    obtain ⟨p, He', e1, G, d, R'⟩ := R.freeze e
    exact ⟨_, e1, q _ H He' G R' d⟩
  · cases h
theorem se_fz {m : M Ct} (h : PE X e (tF X.K m)) : PE X e (tM X.K (mFz m)) := h.imp fun σ H Q q => by
  obtain ⟨U, ms, He, S, x, S', R, h, q⟩ := q
  unfold mFz at h
  split at h
  · rename_i xs S1 e
    cases h
    refine ⟨U, ms, He, S, _, _, R, e, fun v H' He' G R' F => ?_⟩
    obtain ⟨He2, G2, d, R2⟩ := R'.freezeF F
    exact q v H' He2 (G.trans G2) R2 d
  · cases h
/-! ### operators -/
theorem se_bin {op : Operator} {r : R2} {g : Dat → Dat → Option Dat} (ho : OpR X (binaryOp op) r) (hg : OpD X.K r g) (ha : PE X a (tM X.K ma)) (hb : PE X b (tM X.K mb)) : PE X (.BinOp a op b pos) (tM X.K (mBin g ma mb)) :=
  (pe_op ho ha hb).imp fun σ H Q q => tM_op hg q
theorem se_add (ha : PE X a (tM X.K ma)) (hb : PE X b (tM X.K mb)) : PE X (.BinOp a .Add b pos) (tM X.K (mBin addD ma mb)) := se_bin op_addA od_add ha hb
theorem se_sub (ha : PE X a (tM X.K ma)) (hb : PE X b (tM X.K mb)) : PE X (.BinOp a .Sub b pos) (tM X.K (mBin subD ma mb)) := se_bin op_sub od_sub ha hb
theorem se_mul (ha : PE X a (tM X.K ma)) (hb : PE X b (tM X.K mb)) : PE X (.BinOp a .Mult b pos) (tM X.K (mBin mulD ma mb)) := se_bin op_mulA od_mul ha hb
theorem se_mod (ha : PE X a (tM X.K ma)) (hb : PE X b (tM X.K mb)) : PE X (.BinOp a .Mod b pos) (tM X.K (mBin modD ma mb)) := se_bin op_mod od_mod ha hb
theorem se_fdiv (ha : PE X a (tM X.K ma)) (hb : PE X b (tM X.K mb)) : PE X (.BinOp a .FloorDiv b pos) (tM X.K (mBin fdivD ma mb)) := se_bin op_fdiv od_fdiv ha hb
theorem se_pow (ha : PE X a (tM X.K ma)) (hb : PE X b (tM X.K mb)) : PE X (.BinOp a .Pow b pos) (tM X.K (mBin powD ma mb)) := se_bin op_powB od_pow ha hb
theorem se_neg (ha : PE X a (tM X.K ma)) : PE X (.UnaryOp .USub a pos) (tM X.K (mUn negD ma)) :=
  (pe_un un_neg ha).imp fun σ H Q q => tM_un (fun v x z He H Q hs d h q => ou_neg hs d h q) q
theorem sf_cat (ha : PE X a (tM X.K ma)) (hb : PE X b (tM X.K mb)) : PE X (.BinOp a .Add b pos) (tF X.K (mBinF catF ma mb)) :=
  (pe_op op_catG ha hb).imp fun σ H Q q => tF_op of_cat q
/-! ### comparisons -/
theorem se_cmp {op : CmpOp} {r : R2} {g : Dat → Dat → Option Dat} (ho : OpR X (compareOp op) r) (hg : OpD X.K r g) (ha : PE X a (tM X.K ma)) (hb : PE X b (tM X.K mb)) (hm : behindInMarks op b = false) : PE X (.Compare a [op] [b] pos) (tM X.K (mBin g ma mb)) :=
  (pe_cmpR ho ha hb hm).imp fun σ H Q q => tM_op hg q
theorem st_cmp {op : CmpOp} {r : R2} {g : Dat → Dat → Option Dat} (ho : OpR X (compareOp op) r) (hg : OpD X.K r g) (ha : PE X a (tM X.K ma)) (hb : PE X b (tM X.K mb)) (hm : behindInMarks op b = false) : PT X (.Compare a [op] [b] pos) (tT X.K (tB (mBin g ma mb))) :=
  (pt_cmpR ho ha hb hm).imp fun σ H Q q => tT_B (fun Q q => tM_op hg q) q
/-! ### tuples, lists, arguments -/
theorem sa_nil : PA X [] (tAs X.K mNil) := pa_nil.imp fun σ H Q q => by
  obtain ⟨U, ms, He, S, x, S', R, h, q⟩ := q
  cases h
  exact q [] H He (.refl _ _) R .nil
theorem sa_cons (ha : PE X e (tM X.K ma)) (hr : PA X es (tAs X.K mas)) (hs : starEach (e :: es) X.env = (false, eval e X.env) :: starEach es X.env := by rfl) : PA X (e :: es) (tAs X.K (mCons ma mas)) :=
  (pa_cons ha hr hs).imp fun σ H Q q => by
    obtain ⟨U, ms, He, S, x, S', R, h, q⟩ := q
    unfold mCons at h
    split at h
    · rename_i y S1 h1
      split at h
      · rename_i ys S2 h2
        cases h
        refine .mk R h1 fun v H1 He1 G1 R1 d1 => ?_
        exact ⟨U, ms, He1, S1, ys, _, R1, h2, fun vs H2 He2 G2 R2 d2 => q _ H2 He2 (G1.trans G2) R2 (.cons (dp_mono G2.same d1) d2)⟩
      · cases h
    · cases h
theorem se_tup {x1} (h : PA X es (tAs X.K mas)) : PE X (.Tuple es x1 pos) (tM X.K (mTup mas)) := (pe_tup h).imp fun σ H Q q => by
  obtain ⟨U, ms, He, S, x, S', R, h, q⟩ := q
  unfold mTup at h
  split at h
  · rename_i ys S1 h1
    split at h
    · rename_i hl
      cases h
      refine ⟨U, ms, He, S, ys, _, R, h1, fun vs H1 He1 G1 R1 d1 => ⟨by rw [dpAll_length d1]; exact Nat.le_trans hl line_ge, fun p hp => ?_⟩⟩
      have E := ext_new (o := .tup vs) R1.data hp
      exact q _ _ _ (G1.trans (E.grow R1)) (E.rel R1) (.tup (SqT.of upd_same) (dpAll_mono E.data d1))
    · cases h
  · cases h
theorem sf_lst (h : PA X es (tAs X.K mas)) : PE X (.List es pos) (tF X.K (mLst mas)) := (pe_lst h).imp fun σ H Q q => by
  obtain ⟨U, ms, He, S, x, S', R, h, q⟩ := q
  unfold mLst at h
  split at h
  · rename_i ys S1 h1
    split at h
    · rename_i hl
      cases h
      refine ⟨U, ms, He, S, ys, _, R, h1, fun vs H1 He1 G1 R1 d1 => ⟨by rw [dpAll_length d1]; exact Nat.le_trans hl line_ge, fun p hp => ?_⟩⟩
      have E := ext_fresh (o := .lst vs) R1.data hp
      exact q _ _ _ (G1.trans (E.grow R1)) (E.rel R1) (fresh_laid R1 hp ⟨vs, rfl, d1⟩)
    · cases h
  · cases h
/-! ### tests -/
theorem st_val (h : PE X e (tM X.K ma)) (he : ∀ whole, isTrue e X.env whole = (do let v ← whole; standAt e.pos; holding [v] (truthy v)) := by intro _; rfl) : PT X e (tT X.K (tB ma)) :=
  (pt_val h he).imp fun σ H Q q => by
    have := tT_B (t := tM X.K ma) (fun Q q => q) q
    exact this
theorem truD_ok {K : PySem.W.Frag} {H : Hp} {v : V} {x : Dat} {b : Bool} (d : Dp K H v x) (h : truD x = some b) : TruV K v H b := by
  unfold truD at h
  split at h
  · cases h; cases dp_non d; exact rfl
  · cases h; cases dp_bl d; exact rfl
  · cases h; cases dp_int d; exact rfl
  · split at h
    · rename_i hl
      cases h; cases dp_str d; exact ⟨Nat.le_trans hl line_ge, rfl⟩
    · cases h
  · cases h
    obtain ⟨a, xs, rfl, h1, h2⟩ := dp_lst d
    refine .inl ⟨xs, h1, ?_⟩
    cases h2 <;> rfl
  · cases h
    obtain ⟨a, xs, rfl, h1, h2⟩ := dp_tup d
    refine .inr (.inl ⟨xs, h1, ?_⟩)
    cases h2 <;> rfl
  · cases h
theorem tT_Tr {K : PySem.W.Frag} {σ : L2.St} {H : Hp} {m : M Dat} {Q : Bool → Hp → Prop} (h : tT K (tTr m) σ H Q) : tM K m σ H fun x H' => ∃ k, TruV K x H' k ∧ Q k H' := by
  obtain ⟨U, ms, He, S, b, S2, R, h, q⟩ := h
  unfold tTr at h
  split at h
  · rename_i x S1 h1
    split at h
    · rename_i b' h2
      cases h
      refine .mk R h1 fun v H' He' G R' d => ?_
      exact ⟨_, truD_ok (dp_mono R'.data d) h2, q H' He' G R'⟩
    · cases h
  · cases h
theorem st_tr (h : PE X e (tM X.K ma)) (he : ∀ whole, isTrue e X.env whole = (do let v ← whole; standAt e.pos; holding [v] (truthy v)) := by intro _; rfl) : PT X e (tT X.K (tTr ma)) :=
  (pt_truth h he).imp fun σ H Q q => tT_Tr q
theorem isEmpty_dp {K : PySem.W.Frag} {H : Hp} {vs : List V} {ds : List Dat} (h : DpAll K H vs ds) : vs.isEmpty = ds.isEmpty := by cases h <;> rfl
theorem tT_TrV {K : PySem.W.Frag} {σ : L2.St} {H : Hp} {i : Nat} {Q : Bool → Hp → Prop} (h : tT K (tTrV i) σ H Q) : tVar i σ H fun x H' => ∃ k, TruV K x H' k ∧ Q k H' := by
  obtain ⟨U, ms, He, S, b, S2, R, h, q⟩ := h
  unfold tTrV at h
  split at h
  · rename_i x e
    split at h
    · rename_i b' h2
      cases h
      obtain ⟨v, e1, d⟩ := R.dat e
      exact ⟨v, e1, _, truD_ok (dp_mono R.data d) h2, q H He (.refl _ _) R⟩
    · cases h
  · rename_i xs e
    cases h
    obtain ⟨a, e1, O⟩ := R.own e rfl
    obtain ⟨o, h1, vs, rfl, h2⟩ := O.at_
    exact ⟨_, e1, _, .inl ⟨vs, SqL.of h1, by rw [isEmpty_dp h2]⟩, q H He (.refl _ _) R⟩
  · rename_i k xs e
    cases h
    obtain ⟨a, e1, O⟩ := R.own e rfl
    obtain ⟨o, h1, vs, rfl, h2⟩ := O.at_
    exact ⟨_, e1, _, .inl ⟨vs, SqL.of h1, by rw [isEmpty_dp h2]⟩, q H He (.refl _ _) R⟩
  · rename_i xs e
    cases h
    obtain ⟨a, e1, O⟩ := R.own e rfl
    obtain ⟨o, h1, vs, rfl, h2⟩ := O.at_
    exact ⟨_, e1, _, .inr (.inr ⟨vs, h1, by cases h2 <;> rfl⟩), q H He (.refl _ _) R⟩
  · rename_i k xs e
    cases h
    obtain ⟨a, e1, O⟩ := R.own e rfl
    obtain ⟨o, h1, vs, rfl, h2⟩ := O.at_
    exact ⟨_, e1, _, .inr (.inr ⟨vs, h1, by cases h2 <;> rfl⟩), q H He (.refl _ _) R⟩
  · cases h
theorem st_trv {i : Nat} (h : PE X e (tVar i)) (he : ∀ whole, isTrue e X.env whole = (do let v ← whole; standAt e.pos; holding [v] (truthy v)) := by intro _; rfl) : PT X e (tT X.K (tTrV i)) :=
  (pt_truth h he).imp fun σ H Q q => tT_TrV q
theorem sw_and1 (ha : PT X a (tT X.K ta)) : PW X (.BoolOp .And [a] pos) (tT X.K ta) := pw_and1 ha
theorem sw_or1 (ha : PT X a (tT X.K ta)) : PW X (.BoolOp .Or [a] pos) (tT X.K ta) := pw_or1 ha
theorem sw_and (ha : PT X a (tT X.K ta)) (hb : PW X (.BoolOp .And (b :: rest) pos) (tT X.K tb)) : PW X (.BoolOp .And (a :: b :: rest) pos) (tT X.K (Rp.tAnd ta tb)) := (pw_and ha hb).imp fun σ H Q q => by
  obtain ⟨U, ms, He, S, b, S2, R, h, q⟩ := q
  unfold Rp.tAnd at h
  split at h
  · rename_i S1 h1
    refine ⟨U, ms, He, S, true, S1, R, h1, fun H1 He1 G1 R1 => iteT ?_⟩
    exact ⟨U, ms, He1, S1, b, S2, R1, h, fun H2 He2 G2 R2 => q H2 He2 (G1.trans G2) R2⟩
  · rename_i hn
    refine ⟨U, ms, He, S, b, S2, R, h, fun H1 He1 G1 R1 => ?_⟩
    cases b with
    | true => exact absurd h (hn S2)
    | false => rw [if_neg Bool.false_ne_true]; exact q H1 He1 G1 R1
theorem sw_or (ha : PT X a (tT X.K ta)) (hb : PW X (.BoolOp .Or (b :: rest) pos) (tT X.K tb)) : PW X (.BoolOp .Or (a :: b :: rest) pos) (tT X.K (Rp.tOr ta tb)) := (pw_or ha hb).imp fun σ H Q q => by
  obtain ⟨U, ms, He, S, b, S2, R, h, q⟩ := q
  unfold Rp.tOr at h
  split at h
  · rename_i S1 h1
    refine ⟨U, ms, He, S, false, S1, R, h1, fun H1 He1 G1 R1 => iteF ?_⟩
    exact ⟨U, ms, He1, S1, b, S2, R1, h, fun H2 He2 G2 R2 => q H2 He2 (G1.trans G2) R2⟩
  · rename_i hn
    refine ⟨U, ms, He, S, b, S2, R, h, fun H1 He1 G1 R1 => ?_⟩
    cases b with
    | false => exact absurd h (hn S2)
    | true => rw [if_pos rfl]; exact q H1 He1 G1 R1
theorem st_not (ha : PT X a (tT X.K ta)) : PT X (.UnaryOp .Not a pos) (tT X.K (Rp.tNot ta)) := (pt_not ha).imp fun σ H Q q => by
  obtain ⟨U, ms, He, S, b, S2, R, h, q⟩ := q
  unfold Rp.tNot at h
  split at h
  · rename_i b' S1 h1
    cases h
    exact ⟨U, ms, He, S, b', _, R, h1, q⟩
  · cases h
/-! ### and, or, not as values -/
theorem se_one {op} {m : M Dat} (h : PE X a (tM X.K m)) : PE X (.BoolOp op [a] pos) (tM X.K m) := pe_one h
theorem se_and (ha : PE X a (tM X.K ma)) (hb : PE X (.BoolOp .And (b :: rest) pos) (tM X.K mb)) : PE X (.BoolOp .And (a :: b :: rest) pos) (tM X.K (mAnd ma mb)) := (pe_and ha hb).imp fun σ H Q q => by
  obtain ⟨U, ms, He, S, b, S2, R, h, q⟩ := q
  unfold mAnd at h
  split at h
  · rename_i S1 h1
    refine .mk R h1 fun v H1 He1 G1 R1 d => ⟨true, dp_bl d, ?_⟩
    rw [if_pos rfl]
    exact .mk R1 h fun v H2 He2 G2 R2 d => q v H2 He2 (G1.trans G2) R2 d
  · rename_i S1 h1
    cases h
    refine .mk R h1 fun v H1 He1 G1 R1 d => ⟨false, dp_bl d, ?_⟩
    rw [if_neg Bool.false_ne_true]
    exact q _ H1 He1 G1 R1 (.bl _)
  · cases h
theorem se_or (ha : PE X a (tM X.K ma)) (hb : PE X (.BoolOp .Or (b :: rest) pos) (tM X.K mb)) : PE X (.BoolOp .Or (a :: b :: rest) pos) (tM X.K (mOr ma mb)) := (pe_or ha hb).imp fun σ H Q q => by
  obtain ⟨U, ms, He, S, b, S2, R, h, q⟩ := q
  unfold mOr at h
  split at h
  · rename_i S1 h1
    refine .mk R h1 fun v H1 He1 G1 R1 d => ⟨false, dp_bl d, ?_⟩
    rw [if_neg Bool.false_ne_true]
    exact .mk R1 h fun v H2 He2 G2 R2 d => q v H2 He2 (G1.trans G2) R2 d
  · rename_i S1 h1
    cases h
    refine .mk R h1 fun v H1 He1 G1 R1 d => ⟨true, dp_bl d, ?_⟩
    rw [if_pos rfl]
    exact q _ H1 He1 G1 R1 (.bl _)
  · cases h
theorem se_not (ha : PE X a (tM X.K ma)) : PE X (.UnaryOp .Not a pos) (tM X.K (mNotT (tTr ma))) := (pe_notT ha).imp fun σ H Q q => by
  obtain ⟨U, ms, He, S, x, S2, R, h, q⟩ := q
  unfold mNotT at h
  split at h
  · rename_i b' S1 h1
    cases h
    exact tT_Tr ⟨U, ms, He, S, b', _, R, h1, fun H' He' G R' => q _ H' He' G R' (.bl _)⟩
  · cases h
theorem se_notv {i : Nat} (ha : PE X a (tVar i)) : PE X (.UnaryOp .Not a pos) (tM X.K (mNotT (tTrV i))) := (pe_notT ha).imp fun σ H Q q => by
  obtain ⟨U, ms, He, S, x, S2, R, h, q⟩ := q
  unfold mNotT at h
  split at h
  · rename_i b' S1 h1
    cases h
    exact tT_TrV ⟨U, ms, He, S, b', _, R, h1, fun H' He' G R' => q _ H' He' G R' (.bl _)⟩
  · cases h
/-! ### a if t else b -/
def mIfE (t : M Bool) (a b : M Dat) : M Dat := fun S => match t S with
  | some (true, S1) => a S1
  | some (false, S1) => b S1
  | none => none
/-! ### subscripts -/
theorem se_ix (ha : PE X a (tM X.K ma)) (hb : PE X b (tM X.K mb)) (hs : PlainIx b := by exact fun _ _ => rfl) : PE X (.Subscript a b pos) (tM X.K (mBin ixD ma mb)) :=
  (pe_ix ix_seq ha hb hs).imp fun σ H Q q => tM_op od_ix q
/-- what a slot holds, as data -/
def slotD (S : Sl) (i : Nat) : Option Dat := match S[i]? with
  | some (.d x) => some x
  | some (.o (.l xs)) => some (.list xs)
  | some (.m _ (.l xs)) => some (.list xs)
  | _ => none
/-- an item of a slot's list, the list not frozen -/
def mIxV (i : Nat) (mb : M Dat) : M Dat := fun S => match slotD S i with
  | none => none
  | some _ => match mb S with
    | some (y, S1) => match slotD S1 i with
      | some x => match ixD x y with
        | some z => some (z, S1)
        | none => none
      | none => none
    | none => none
/-- the length of a slot's list -/
def mLenV (i : Nat) : M Dat := fun S => match slotD S i with
  | some x => match lenD x with
    | some z => some (z, S)
    | none => none
  | none => none
section
variable {K : PySem.W.Frag} {U : Hp} {ms : List Addr} {He : Hp} {S : Sl} {σ : L2.St} {H : Hp}
theorem slot_read (R : Rel K U ms He S σ H) {i : Nat} {x : Dat} (h : slotD S i = some x) :
    ∃ v, σ[i]? = some (some v) ∧ Dp K H v x ∧ ∀ y z w, ixD x y = some z → Dp K H w y → ∃ u, Dp K He u z ∧ ∀ Q : VK, Q u H → rIx K v w H Q := by
  unfold slotD at h
  have own : ∀ {a : Addr} {vs : List V} {xs : List Dat}, H a = some (.lst vs) → DpAll K He vs xs → Dp K H (.ref a) (.list xs) ∧ ∀ y z w, ixD (.list xs) y = some z → Dp K H w y → ∃ u, Dp K He u z ∧ ∀ Q : VK, Q u H → rIx K (.ref a) w H Q := fun {a vs xs} h1 h2 => by
    refine ⟨.lst (SqL.of h1) (dpAll_mono R.data h2), fun y z w e d => ?_⟩
    cases y with
    | int k =>
      obtain ⟨u, h3, h4⟩ := atI_dp h2 (show atI xs k = some z from e)
      cases dp_int d
      exact ⟨u, h4, fun Q q => .inl ⟨a, vs, k, u, rfl, rfl, SqL.of h1, h3, q⟩⟩
    | _ => simp [ixD] at e
  split at h
  · rename_i x' e
    cases h
    obtain ⟨v, e1, d⟩ := R.dat e
    refine ⟨v, e1, dp_mono R.data d, fun y z w e2 d2 => ?_⟩
    cases y with
    | int k =>
      cases dp_int d2
      cases x with
      | list xs =>
        obtain ⟨a, vs, rfl, h1, h2⟩ := dp_lst d
        obtain ⟨u, h3, h4⟩ := atI_dp h2 (show atI xs k = some z from e2)
        exact ⟨u, h4, fun Q q => .inl ⟨a, vs, k, u, rfl, rfl, R.data.seq h1, h3, q⟩⟩
      | tuple xs =>
        obtain ⟨a, vs, rfl, h1, h2⟩ := dp_tup d
        obtain ⟨u, h3, h4⟩ := atI_dp h2 (show atI xs k = some z from e2)
        exact ⟨u, h4, fun Q q => .inr (.inl ⟨a, vs, k, u, rfl, rfl, sqT_mono R.data h1, h3, q⟩)⟩
      | str zs =>
        cases dp_str d
        have e2 : (if zs.length ≤ 100000 then (atI zs.cps.toList k).map fun c => PyData.str ⟨#[c]⟩ else none) = some z := e2
        split at e2
        · rename_i hl
          cases e3 : atI zs.cps.toList k with
          | none => rw [e3] at e2; cases e2
          | some c =>
            rw [e3] at e2
            cases e2
            exact ⟨_, .str _, fun Q q => .inr (.inr ⟨_, _, c, rfl, rfl, Nat.le_trans hl line_ge, e3, q⟩)⟩
        · cases e2
      | _ => simp [ixD] at e2
    | _ => simp [ixD] at e2
  · rename_i xs e
    cases h
    obtain ⟨a, e1, O⟩ := R.own e rfl
    obtain ⟨o, h1, vs, rfl, h2⟩ := O.at_
    exact ⟨_, e1, own h1 h2⟩
  · rename_i k xs e
    cases h
    obtain ⟨a, e1, O⟩ := R.own e rfl
    obtain ⟨o, h1, vs, rfl, h2⟩ := O.at_
    exact ⟨_, e1, own h1 h2⟩
  · cases h
end
theorem se_ixv {i : Nat} (ha : PE X a (tVar i)) (hb : PE X b (tM X.K mb)) (hs : PlainIx b := by exact fun _ _ => rfl) : PE X (.Subscript a b pos) (tM X.K (mIxV i mb)) :=
  (pe_ix ix_seq ha hb hs).imp fun σ H Q q => by
    obtain ⟨U, ms, He, S, x, S2, R, h, q⟩ := q
    unfold mIxV at h
    split at h
    · cases h
    · rename_i x0 h0
      split at h
      · rename_i y S1 h1
        split at h
        · rename_i x1 h2
          split at h
          · rename_i z h3
            cases h
            obtain ⟨v, e1, _, _⟩ := slot_read R h0
            refine ⟨v, e1, .mk R h1 fun w H1 He1 G1 R1 d1 => ?_⟩
            obtain ⟨v', e2, _, f⟩ := slot_read R1 h2
            rw [e1] at e2
            cases e2
            obtain ⟨u, d3, f3⟩ := f y _ w h3 (dp_mono R1.data d1)
            exact f3 Q (q u H1 He1 G1 R1 d3)
          · cases h
        · cases h
      · cases h
/-! ### len -/
def rLenA (K : PySem.W.Frag) : List V → Hp → VK → Prop := fun xs H Q => (∃ p ys, xs = [.ref p] ∧ (SqL K H p ys ∨ SqT K H p ys) ∧ Q (.int ys.length) H) ∨ ∃ z, xs = [.str z] ∧ z.length ≤ sizeLine ∧ Q (.int z.length) H
theorem call_lenA : CallR X (.builtin "len") (rLenA X.K) := call_len_seq.or call_len_str
theorem len_ok {K : PySem.W.Frag} {H : Hp} {v : V} {x z : Dat} (d : Dp K H v x) (h : lenD x = some z) : ∃ n : Nat, z = .int n ∧ ∀ Q : VK, Q (.int n) H → rLenA K [v] H Q := by
  unfold lenD at h
  split at h
  · cases h
    obtain ⟨a, vs, rfl, h1, h2⟩ := dp_lst d
    exact ⟨_, rfl, fun Q q => .inl ⟨a, vs, rfl, .inl h1, by rw [dpAll_length h2]; exact q⟩⟩
  · cases h
    obtain ⟨a, vs, rfl, h1, h2⟩ := dp_tup d
    exact ⟨_, rfl, fun Q q => .inl ⟨a, vs, rfl, .inr h1, by rw [dpAll_length h2]; exact q⟩⟩
  · split at h
    · rename_i hl
      cases h
      cases dp_str d
      exact ⟨_, rfl, fun Q q => .inr ⟨_, rfl, Nat.le_trans hl line_ge, q⟩⟩
    · cases h
  · cases h
/-! ### calls of built-ins -/
def CaD (K : PySem.W.Frag) (r : List V → Hp → VK → Prop) (g : List Dat → Option Dat) : Prop :=
  ∀ (He H : Hp) (vs : List V) (xs : List Dat) (z : Dat) (Q : VK), Same He H → DpAll K He vs xs → g xs = some z → (∀ u H' He', Ext He H He' H' → Dp K He' u z → Q u H') → r vs H Q
def CaF (K : PySem.W.Frag) (r : List V → Hp → VK → Prop) (g : List Dat → Option Ct) : Prop :=
  ∀ (He H : Hp) (vs : List V) (xs : List Dat) (c : Ct) (Q : VK), Same He H → DpAll K He vs xs → g xs = some c → (∀ p o, H p = none → CtAt K He o c → Q (.ref p) (upd H p o)) → r vs H Q
def mApp (g : List Dat → Option Dat) (m : M (List Dat)) : M Dat := fun S => match m S with
  | some (xs, S1) => match g xs with
    | some z => some (z, S1)
    | none => none
  | none => none
def mAppF (g : List Dat → Option Ct) (m : M (List Dat)) : M Ct := fun S => match m S with
  | some (xs, S1) => match g xs with
    | some z => some (z, S1)
    | none => none
  | none => none
theorem tM_app {K : PySem.W.Frag} {σ : L2.St} {H : Hp} {r : List V → Hp → VK → Prop} {g : List Dat → Option Dat} {Q : VK} (hr : CaD K r g) (h : tM K (mApp g mas) σ H Q) : tCB r (tAs K mas) σ H Q := by
  obtain ⟨U, ms, He, S, z, S2, R, h, q⟩ := h
  unfold mApp at h
  split at h
  · rename_i xs S1 h1
    split at h
    · rename_i z' h3
      cases h
      exact ⟨U, ms, He, S, xs, _, R, h1, fun vs H1 He1 G1 R1 d1 => hr He1 H1 vs xs z Q R1.data d1 h3 fun u H' He' E d3 => q u H' He' (G1.trans (E.grow R1)) (E.rel R1) d3⟩
    · cases h
  · cases h
theorem tF_app {K : PySem.W.Frag} {σ : L2.St} {H : Hp} {r : List V → Hp → VK → Prop} {g : List Dat → Option Ct} {Q : VK} (hr : CaF K r g) (h : tF K (mAppF g mas) σ H Q) : tCB r (tAs K mas) σ H Q := by
  obtain ⟨U, ms, He, S, z, S2, R, h, q⟩ := h
  unfold mAppF at h
  split at h
  · rename_i xs S1 h1
    split at h
    · rename_i z' h3
      cases h
      refine ⟨U, ms, He, S, xs, _, R, h1, fun vs H1 He1 G1 R1 d1 => hr He1 H1 vs xs z Q R1.data d1 h3 fun p o hp hc => ?_⟩
      have E := ext_fresh (o := o) R1.data hp
      exact q _ _ _ (G1.trans (E.grow R1)) (E.rel R1) (fresh_laid R1 hp hc)
    · cases h
  · cases h
theorem se_callB {x : Str} {p : Pos} {id : String} {r : List V → Hp → VK → Prop} {g : List Dat → Option Dat} (hc : CallR X (.builtin id) r) (hr : CaD X.K r g) (hg : Gl X x) (hm : X.mg x = none) (hv : bootBuiltins x = some (.builtin id)) (ha : PA X (e :: es) (tAs X.K mas)) (hn : x ≠ "__name__" := by decide) (hdb : (x == ("__debug__" : Str)) = false := by decide)
    (he : starEach (e :: es) X.env = (false, eval e X.env) :: starEach es X.env := by rfl) (hpl : (backTo pos (starEach es X.env)).any (·.1) = false := by rfl) : PE X (.Call (.Name x p) (e :: es) [] pos) (tM X.K (mApp g mas)) :=
  (pe_callB hc hg hm hv ha hn hdb he hpl).imp fun σ H Q q => tM_app hr q
theorem se_callTy {x : Str} {p : Pos} {T : String} {r : List V → Hp → VK → Prop} {g : List Dat → Option Dat} (hc : CallR X (.type T) r) (hr : CaD X.K r g) (hg : Gl X x) (hm : X.mg x = none) (hv : bootBuiltins x = some (.type T)) (ha : PA X (e :: es) (tAs X.K mas)) (hn : x ≠ "__name__" := by decide) (hdb : (x == ("__debug__" : Str)) = false := by decide)
    (he : starEach (e :: es) X.env = (false, eval e X.env) :: starEach es X.env := by rfl) (hpl : (backTo pos (starEach es X.env)).any (·.1) = false := by rfl) : PE X (.Call (.Name x p) (e :: es) [] pos) (tM X.K (mApp g mas)) :=
  (pe_callTy hc hg hm hv ha hn hdb he hpl).imp fun σ H Q q => tM_app hr q
theorem sf_callTy {x : Str} {p : Pos} {T : String} {r : List V → Hp → VK → Prop} {g : List Dat → Option Ct} (hc : CallR X (.type T) r) (hr : CaF X.K r g) (hg : Gl X x) (hm : X.mg x = none) (hv : bootBuiltins x = some (.type T)) (ha : PA X (e :: es) (tAs X.K mas)) (hn : x ≠ "__name__" := by decide) (hdb : (x == ("__debug__" : Str)) = false := by decide)
    (he : starEach (e :: es) X.env = (false, eval e X.env) :: starEach es X.env := by rfl) (hpl : (backTo pos (starEach es X.env)).any (·.1) = false := by rfl) : PE X (.Call (.Name x p) (e :: es) [] pos) (tF X.K (mAppF g mas)) :=
  (pe_callTy hc hg hm hv ha hn hdb he hpl).imp fun σ H Q q => tF_app hr q
/-! len -/
def lenA : List Dat → Option Dat
  | [x] => lenD x
  | _ => none
theorem cd_len {K : PySem.W.Frag} : CaD K (rLenA K) lenA := by
  intro He H vs xs z Q hs d h q
  unfold lenA at h
  split at h
  · rename_i x
    cases d with
    | cons d1 d2 =>
      cases d2
      obtain ⟨n, rfl, f⟩ := len_ok (dp_mono hs d1) h
      exact f Q (q _ _ _ (.refl hs) (.int _))
  · cases h
theorem se_len {p : Pos} (hg : Gl X "len") (hm : X.mg "len" = none) (ha : PA X [a] (tAs X.K mas)) (he : starEach [a] X.env = (false, eval a X.env) :: starEach [] X.env := by rfl) : PE X (.Call (.Name "len" p) [a] [] pos) (tM X.K (mApp lenA mas)) :=
  se_callB call_lenA cd_len hg hm PySem.boot_len ha (by decide) (by decide) he rfl
theorem se_lenv {i : Nat} {p : Pos} (hg : Gl X "len") (hm : X.mg "len" = none) (ha : PE X a (tVar i)) (he : starEach [a] X.env = (false, eval a X.env) :: starEach [] X.env := by rfl) : PE X (.Call (.Name "len" p) [a] [] pos) (tM X.K (mLenV i)) :=
  (pe_callB call_lenA hg hm PySem.boot_len (pa_cons ha pa_nil he) (by decide) (by decide) he rfl).imp fun σ H Q q => by
    obtain ⟨U, ms, He, S, z, S2, R, h, q⟩ := q
    unfold mLenV at h
    split at h
    · rename_i x h0
      split at h
      · rename_i z' h1
        cases h
        obtain ⟨v, e1, d, _⟩ := slot_read R h0
        obtain ⟨n, rfl, f⟩ := len_ok d h1
        exact ⟨v, e1, f Q (q _ _ _ (.refl _ _) R (.int _))⟩
      · cases h
    · cases h
end
end Rp
set_option Elab.async false
set_option linter.all false
set_option maxRecDepth 100000
/-! Calls of the text's defs. -/
namespace Rp
open PySem PySem.Spec PyProof.Rows L2

/-- an argument of a def: data, or a container that it may change -/
inductive FA where
  | d (x : Dat)
  | c (ct : Ct)
/-- what a def gives: data, a new container, an exception of the n-th kind -/
inductive FR where
  | d (x : Dat)
  | f (ct : Ct)
  | x (n : Nat)
abbrev FF := List FA → Option (FR × List Ct)
def FaAt (K : PySem.W.Frag) (He H : Hp) (v : V) : FA → Prop
  | .d x => Dp K He v x
  | .c ct => ∃ a o, v = .ref a ∧ H a = some o ∧ CtAt K He o ct ∧ He a = none
/-- the containers' addresses -/
def mads : List V → List FA → List Addr
  | .ref a :: vs, .c _ :: fs => a :: mads vs fs
  | _ :: vs, _ :: fs => mads vs fs
  | _, _ => []
def NewAt (K : PySem.W.Frag) (He H : Hp) (a : Addr) (ct : Ct) : Prop := ∃ o, H a = some o ∧ CtAt K He o ct
/-- what a call leaves -/
structure After (K : PySem.W.Frag) (He H : Hp) (as : List Addr) (news : List Ct) (He' H' : Hp) : Prop where
  data : Same He He'
  in_ : Same He' H'
  new : ∀ a, H a ≠ none → He a = none → He' a = none
  kept : ∀ a o, H a = some o → a ∉ as → H' a = some o
  news : Paired (NewAt K He' H') as news
def ResAt (K : PySem.W.Frag) (He' H H' : Hp) (v : V) : FR → Prop
  | .d x => Dp K He' v x
  | .f ct => ∃ p o, v = .ref p ∧ H p = none ∧ H' p = some o ∧ CtAt K He' o ct ∧ He' p = none
  | .x _ => False
/-- the promise of a def that computes F -/
def spF (K : PySem.W.Frag) (cls : Nat → Value) (F : FF) : Sp := fun vs H Q E => ∃ He fas r news, Same He H ∧ Paired (FaAt K He H) vs fas ∧ (mads vs fas).Nodup ∧ F fas = some (r, news) ∧
  (∀ v H' He', After K He H (mads vs fas) news He' H' → ResAt K He' H H' v r → Q v H') ∧
  (∀ n, r = .x n → ∀ H' He', After K He H (mads vs fas) news He' H' → E (cls n) none H')

/-- the arguments by the slots -/
def faOf (S : Sl) : CA → Option FA
  | .d x => some (.d x)
  | .t ct => some (.c ct)
  | .c i => match S[i]? with
    | some sv => match sv.own with
      | some ct => some (.c ct)
      | none => none
    | none => none
def fasOf (S : Sl) : List CA → Option (List FA)
  | [] => some []
  | a :: as => match faOf S a with
    | some f => match fasOf S as with
      | some fs => some (f :: fs)
      | none => none
    | none => none
def slotsOf : List CA → List (Option Nat)
  | [] => []
  | .d _ :: as => slotsOf as
  | .c i :: as => some i :: slotsOf as
  | .t _ :: as => none :: slotsOf as
def putN : Sl → List (Option Nat) → List Ct → Sl
  | S, some i :: is, c :: cs => putN (match S[i]? with | some sv => S.set i (sv.put c) | none => S) is cs
  | S, none :: is, _ :: cs => putN S is cs
  | S, _, _ => S
/-- f(..) whose value is data -/
def mCall (F : FF) (ma : M (List CA)) : M Dat := fun S => match ma S with
  | some (as, S1) => match fasOf S1 as with
    | some fas => if ((slotsOf as).filterMap id).Nodup then
        match F fas with
        | some (.d x, news) => some (x, putN S1 (slotsOf as) news)
        | _ => none
      else none
    | none => none
  | none => none
def mCallF (F : FF) (ma : M (List CA)) : M Ct := fun S => match ma S with
  | some (as, S1) => match fasOf S1 as with
    | some fas => if ((slotsOf as).filterMap id).Nodup then
        match F fas with
        | some (.f c, news) => some (c, putN S1 (slotsOf as) news)
        | _ => none
      else none
    | none => none
  | none => none
def aNil : M (List CA) := fun S => some ([], S)
def aCons (a : M Dat) (b : M (List CA)) : M (List CA) := fun S => match a S with
  | some (x, S1) => match b S1 with
    | some (xs, S2) => some (.d x :: xs, S2)
    | none => none
  | none => none
/-- the container of slot i -/
def aSlot (i : Nat) (b : M (List CA)) : M (List CA) := fun S => match S[i]? with
  | some sv => match sv.own with
    | some _ => match b S with
      | some (xs, S2) => some (.c i :: xs, S2)
      | none => none
    | none => none
  | none => none
/-- a new list -/
def aTmp (a : M Ct) (b : M (List CA)) : M (List CA) := fun S => match a S with
  | some (.l c, S1) => match b S1 with
    | some (xs, S2) => some (.t (.l c) :: xs, S2)
    | none => none
  | _ => none

def SlotA (K : PySem.W.Frag) (U He : Hp) (S : Sl) (σ : L2.St) (H : Hp) (a : Addr) : Option Nat → Prop
  | some i => σ[i]? = some (some (V.ref a)) ∧ ∃ sv c, S[i]? = some sv ∧ SV.own sv = some c
  | none => ∃ ct, Fresh K U He S σ H (.ref a) ct
def pick : List Addr → List (Option Nat) → List Addr
  | p :: ps, none :: is => p :: pick ps is
  | _ :: ps, some _ :: is => pick ps is
  | _, _ => []
theorem mem_pick : ∀ {ps : List Addr} {is : List (Option Nat)} {F : Addr → Option Nat → Prop} {a : Addr}, Paired F ps is → a ∈ ps → a ∈ pick ps is ∨ ∃ i, some i ∈ is ∧ F a (some i)
  | _, _, _, _, .nil, h => by cases h
  | p :: ps, none :: is, F, a, .cons g1 g2, h => by
    rcases List.mem_cons.mp h with e | h
    · subst e; exact .inl List.mem_cons_self
    · rcases mem_pick g2 h with q | ⟨i, q1, q2⟩
      · exact .inl (List.mem_cons_of_mem _ q)
      · exact .inr ⟨i, List.mem_cons_of_mem _ q1, q2⟩
  | p :: ps, some i :: is, F, a, .cons g1 g2, h => by
    rcases List.mem_cons.mp h with e | h
    · subst e; exact .inr ⟨i, List.mem_cons_self, g1⟩
    · rcases mem_pick g2 h with q | ⟨i, q1, q2⟩
      · exact .inl q
      · exact .inr ⟨i, List.mem_cons_of_mem _ q1, q2⟩
theorem pick_fresh : ∀ {ps : List Addr} {is : List (Option Nat)} {F : Addr → Option Nat → Prop} {a : Addr}, Paired F ps is → a ∈ pick ps is → F a none
  | _, _, _, _, .nil, h => by cases h
  | p :: ps, none :: is, F, a, .cons g1 g2, h => by
    rcases List.mem_cons.mp h with e | h
    · subst e; exact g1
    · exact pick_fresh g2 h
  | p :: ps, some i :: is, F, a, .cons g1 g2, h => pick_fresh g2 h
theorem paired_left {α β : Type} {F : α → β → Prop} : ∀ {ps : List α} {is : List β} {a : α}, Paired F ps is → a ∈ ps → ∃ j ∈ is, F a j
  | _, _, _, .nil, h => by cases h
  | _, _, a, .cons g1 g2, h => by
    rcases List.mem_cons.mp h with e | h
    · subst e; exact ⟨_, List.mem_cons_self, g1⟩
    · obtain ⟨j, hj, q⟩ := paired_left g2 h; exact ⟨j, List.mem_cons_of_mem _ hj, q⟩
section
variable {K : PySem.W.Frag} {U : Hp} {ms : List Addr} {He : Hp} {S : Sl} {σ : L2.St} {H : Hp}
theorem fas_at (R : Rel K U ms He S σ H) : ∀ {as : List CA} {vs : List V} {fas : List FA}, Paired (CaAt K U He S σ H) vs as → fasOf S as = some fas → Paired (FaAt K He H) vs fas
  | [], _, _, .nil, h => by cases h; exact .nil
  | a :: as, _, _, .cons h1 h2, h => by
    unfold fasOf at h
    split at h
    · rename_i f hf
      split at h
      · rename_i fs hfs
        cases h
        refine .cons ?_ (fas_at R h2 hfs)
        unfold faOf at hf
        split at hf
        · cases hf; exact h1
        · cases hf
          obtain ⟨p, o, e, g1, g2, g3, g4⟩ := h1.at_
          exact ⟨p, o, e, g1, g2, g3⟩
        · split at hf
          · rename_i sv hs
            split at hf
            · rename_i ct ho
              cases hf
              obtain ⟨p, e, O⟩ := R.own hs ho
              have e' : σ[_]? = some (some _) := h1
              rw [e] at e'
              cases e'
              obtain ⟨o, h3, h4⟩ := O.at_
              exact ⟨p, o, rfl, h3, h4, O.he⟩
            · cases hf
          · cases hf
      · cases h
    · cases h
/-- the addresses are the slots' -/
theorem mads_slots (R : Rel K U ms He S σ H) : ∀ {as : List CA} {vs : List V} {fas : List FA}, Paired (CaAt K U He S σ H) vs as → fasOf S as = some fas →
    Paired (SlotA K U He S σ H) (mads vs fas) (slotsOf as) ∧ pick (mads vs fas) (slotsOf as) = temps vs as
  | [], _, _, .nil, h => by cases h; exact ⟨.nil, rfl⟩
  | a :: as, v :: vs, _, .cons h1 h2, h => by
    unfold fasOf at h
    split at h
    · rename_i f hf
      split at h
      · rename_i fs hfs
        cases h
        have ih := mads_slots R h2 hfs
        unfold faOf at hf
        split at hf
        · cases hf
          cases v <;> exact ih
        · cases hf
          obtain ⟨p, o, e, g1, g2, g3, g4⟩ := h1.at_
          subst e
          exact ⟨.cons ⟨_, h1⟩ ih.1, by show p :: pick _ _ = p :: temps _ _; rw [ih.2]⟩
        · split at hf
          · rename_i i sv hs
            split at hf
            · rename_i ct ho
              cases hf
              obtain ⟨p, e, O⟩ := R.own hs ho
              have e' : σ[_]? = some (some _) := h1
              rw [e] at e'
              cases e'
              exact ⟨.cons ⟨e, sv, ct, hs, ho⟩ ih.1, ih.2⟩
            · cases hf
          · cases hf
      · cases h
    · cases h
theorem mads_nodup (R : Rel K U ms He S σ H) : ∀ {ps : List Addr} {is : List (Option Nat)}, Paired (SlotA K U He S σ H) ps is → (is.filterMap id).Nodup → (pick ps is).Nodup → ps.Nodup
  | _, _, .nil, _, _ => List.nodup_nil
  | a :: ps, none :: is, .cons h1 h2, hn, hp => by
    have hp' := List.nodup_cons.mp hp
    rw [List.nodup_cons]
    refine ⟨fun hm => ?_, mads_nodup R h2 hn hp'.2⟩
    rcases mem_pick h2 hm with q | ⟨i, hi, e1, sv1, c1, e2, e3⟩
    · exact hp'.1 q
    · obtain ⟨ct, F⟩ := h1
      exact F.sep i sv1 c1 e2 e3 e1
  | a :: ps, some i :: is, .cons h1 h2, hn, hp => by
    have hn' : i ∉ is.filterMap id ∧ (is.filterMap id).Nodup := by
      have := hn
      simp only [List.filterMap_cons, id] at this
      exact List.nodup_cons.mp this
    rw [List.nodup_cons]
    refine ⟨fun hm => ?_, mads_nodup R h2 hn'.2 hp⟩
    obtain ⟨e4, sv2, c2, e5, e6⟩ := h1
    rcases mem_pick h2 hm with q | ⟨j, hj, e1, sv1, c1, e2, e3⟩
    · obtain ⟨ct, F⟩ := pick_fresh h2 q
      exact F.sep i sv2 c2 e5 e6 e4
    · have hij : i ≠ j := fun z => hn'.1 (by
        rw [List.mem_filterMap]
        exact ⟨some j, hj, by simp [z]⟩)
      exact R.sep i j a sv2 sv1 c2 c1 hij e5 e2 e6 e3 e4 e1
/-- what a call leaves in the slots -/
theorem put_len : ∀ {S : Sl} {is : List (Option Nat)} {cs : List Ct}, (putN S is cs).length = S.length
  | _, [], _ => by unfold putN; rfl
  | _, some _ :: _, [] => by unfold putN; rfl
  | _, none :: _, [] => by unfold putN; rfl
  | S, none :: is, c :: cs => by
    unfold putN
    rw [put_len]
  | S, some i :: is, c :: cs => by
    unfold putN
    rw [put_len]
    split <;> simp
theorem put_get : ∀ {S : Sl} {is : List (Option Nat)} {cs : List Ct} {j : Nat}, some j ∉ is → (putN S is cs)[j]? = S[j]?
  | _, [], _, _, _ => by unfold putN; rfl
  | _, some _ :: _, [], _, _ => by unfold putN; rfl
  | _, none :: _, [], _, _ => by unfold putN; rfl
  | S, none :: is, c :: cs, j, h => by
    unfold putN
    exact put_get fun z => h (List.mem_cons_of_mem _ z)
  | S, some i :: is, c :: cs, j, h => by
    unfold putN
    rw [put_get fun z => h (List.mem_cons_of_mem _ z)]
    have : i ≠ j := fun z => h (z ▸ List.mem_cons_self)
    split
    · rw [List.getElem?_set_ne this]
    · rfl
theorem put_at : ∀ {S : Sl} {ps : List Addr} {is : List (Option Nat)} {cs : List Ct} {N : Addr → Ct → Prop} {j : Nat}, Paired (fun a i => ∀ k, i = some k → σ[k]? = some (some (V.ref a)) ∧ ∃ sv c, S[k]? = some sv ∧ SV.own sv = some c) ps is → Paired N ps cs → (is.filterMap id).Nodup → some j ∈ is →
    ∃ a sv c c', σ[j]? = some (some (.ref a)) ∧ S[j]? = some sv ∧ sv.own = some c ∧ (putN S is cs)[j]? = some (sv.put c') ∧ N a c'
  | _, _, _, _, _, _, .nil, _, _, hj => by cases hj
  | S, a :: ps, none :: is, c :: cs, N, j, .cons h1 h2, .cons n1 n2, hn, hj => by
    have hj' : some j ∈ is := by
      rcases List.mem_cons.mp hj with z | z
      · cases z
      · exact z
    unfold putN
    exact put_at h2 n2 hn hj'
  | S, a :: ps, some i :: is, c :: cs, N, j, .cons h1 h2, .cons n1 n2, hn, hj => by
    have hn' : i ∉ is.filterMap id ∧ (is.filterMap id).Nodup := by
      have := hn
      simp only [List.filterMap_cons, id] at this
      exact List.nodup_cons.mp this
    have hni : some i ∉ is := fun z => hn'.1 (by rw [List.mem_filterMap]; exact ⟨some i, z, rfl⟩)
    obtain ⟨e1, sv, c0, e2, e3⟩ := h1 i rfl
    unfold putN
    simp only [e2]
    by_cases hji : j = i
    · subst hji
      have hl : j < S.length := (List.getElem?_eq_some_iff.mp e2).1
      refine ⟨a, sv, c0, c, e1, e2, e3, ?_, n1⟩
      rw [put_get hni, List.getElem?_set_self hl]
    · have hj' : some j ∈ is := by
        rcases List.mem_cons.mp hj with z | z
        · cases z; exact absurd rfl hji
        · exact z
      have h3 : Paired (fun a i' => ∀ k, i' = some k → σ[k]? = some (some (V.ref a)) ∧ ∃ sv' c', (S.set i (sv.put c))[k]? = some sv' ∧ SV.own sv' = some c') ps is := by
        have : ∀ {ps : List Addr} {is : List (Option Nat)}, some i ∉ is → Paired (fun a i => ∀ k, i = some k → σ[k]? = some (some (V.ref a)) ∧ ∃ sv c, S[k]? = some sv ∧ SV.own sv = some c) ps is → Paired (fun a i' => ∀ k, i' = some k → σ[k]? = some (some (V.ref a)) ∧ ∃ sv' c', (S.set i (sv.put c))[k]? = some sv' ∧ SV.own sv' = some c') ps is := by
          intro ps is hi h
          induction h with
          | nil => exact .nil
          | @cons b k ps is g1 g2 ih =>
            refine .cons (fun k' ek => ?_) (ih fun z => hi (List.mem_cons_of_mem _ z))
            obtain ⟨g3, sv', c', g4, g5⟩ := g1 k' ek
            have hik : i ≠ k' := fun z => hi (by rw [ek, z]; exact List.mem_cons_self)
            exact ⟨g3, sv', c', by rw [List.getElem?_set_ne hik]; exact g4, g5⟩
        exact this hni h2
      obtain ⟨a', sv', c1, c2, q1, q2, q3, q4, q5⟩ := put_at h3 n2 hn'.2 hj'
      rw [List.getElem?_set_ne (Ne.symm hji)] at q2
      exact ⟨a', sv', c1, c2, q1, q2, q3, q4, q5⟩
theorem slotA_some {ps : List Addr} {is : List (Option Nat)} (h : Paired (SlotA K U He S σ H) ps is) : Paired (fun a i => ∀ k, i = some k → σ[k]? = some (some (V.ref a)) ∧ ∃ sv c, S[k]? = some sv ∧ SV.own sv = some c) ps is :=
  Paired.mapP h fun a i q k e => by subst e; exact q
theorem ownAt_put {a : Addr} {sv : SV} {c c' : Ct} {He' H' : Hp} (O : OwnAt K U ms He H a sv c) (hc : sv.own = some c) (h : ∃ o, H' a = some o ∧ CtAt K He' o c') (hn : He' a = none) : OwnAt K U ms He' H' a (sv.put c') c' := by
  refine ⟨h, hn, fun ⟨c1, z⟩ => ?_, fun k1 c1 z => ?_⟩
  · cases sv with
    | no => cases hc
    | d x => cases hc
    | o c' => exact O.u ⟨_, rfl⟩
    | m k c' => cases z
  · cases sv with
    | no => cases hc
    | d x => cases hc
    | o c' => cases z
    | m k c' => cases z; exact O.m _ _ rfl
theorem Rel.called (R : Rel K U ms He S σ H) {ps : List Addr} {is : List (Option Nat)} {news : List Ct} {He' H' : Hp} (hp : Paired (SlotA K U He S σ H) ps is) (hn : (is.filterMap id).Nodup)
    (A : After K He H ps news He' H') : Rel K U ms He' (putN S is news) σ H' ∧ Grow U He He' := by
  have hp' := slotA_some hp
  have inps : ∀ {a : Addr}, a ∈ ps → (∃ ct, Fresh K U He S σ H (.ref a) ct) ∨ ∃ j, some j ∈ is ∧ σ[j]? = some (some (V.ref a)) ∧ ∃ sv c, S[j]? = some sv ∧ SV.own sv = some c := fun {a} hm => by
    rcases mem_pick hp hm with q | ⟨j, hj, q⟩
    · exact .inl (pick_fresh hp q)
    · exact .inr ⟨j, hj, q⟩
  have key : ∀ {j : Nat} {s : SV}, (putN S is news)[j]? = some s → ∃ s', S[j]? = some s' ∧ (∀ c, s.own = some c → ∃ c', s'.own = some c') := by
    intro j s e
    by_cases hj : some j ∈ is
    · obtain ⟨a, sv, c, c', q1, q2, q3, q4, q5⟩ := put_at hp' A.news hn hj
      exact ⟨sv, q2, fun _ _ => ⟨c, q3⟩⟩
    · rw [put_get hj] at e
      exact ⟨s, e, fun c h => ⟨c, h⟩⟩
  refine ⟨⟨by rw [put_len]; exact R.len, fun j s e => ?_, fun x y ad sx sy cx cy ne hx hy ox oy ex ey => ?_, fun a o h hm => ?_, fun a h => ?_, A.in_, R.mu⟩, ⟨A.data, fun a h u => A.new a (R.used a u) h⟩⟩
  · by_cases hj : some j ∈ is
    · obtain ⟨a, sv, c, c', q1, q2, q3, q4, q5⟩ := put_at hp' A.news hn hj
      rw [q4] at e
      cases e
      obtain ⟨a', e1, O⟩ := R.own q2 q3
      rw [q1] at e1
      cases e1
      obtain ⟨o, h1, h2⟩ := O.at_
      exact ⟨_, q1, svAt_of_own (own_put q3) (ownAt_put O q3 q5 (A.new a (by rw [h1]; simp) O.he))⟩
    · rw [put_get hj] at e
      obtain ⟨ov, eo, q⟩ := R.at_ j s e
      refine ⟨ov, eo, ?_⟩
      have out : ∀ {b : Addr} {c : Ct}, ov = some (.ref b) → s.own = some c → b ∉ ps := fun {b c} ho hc hm => by
        rw [ho] at eo
        rcases inps hm with ⟨ct, F⟩ | ⟨i, hi, e1, sv, c1, e2, e3⟩
        · exact F.sep j s c e hc eo
        · have hij : i ≠ j := fun z => hj (z ▸ hi)
          exact R.sep i j b sv s c1 c hij e2 e e3 hc e1 eo
      cases s with
      | no => trivial
      | d x =>
        obtain ⟨v, e1, q⟩ := q
        exact ⟨v, e1, dp_mono A.data q⟩
      | o c =>
        obtain ⟨a, e1, ⟨⟨o, h1, h2⟩, h3, h4, h5⟩⟩ := q
        exact ⟨a, e1, ⟨⟨o, A.kept _ _ h1 (out e1 rfl), ctAt_mono A.data h2⟩, A.new a (by rw [h1]; simp) h3, h4, h5⟩⟩
      | m k c =>
        obtain ⟨a, e1, ⟨⟨o, h1, h2⟩, h3, h4, h5⟩⟩ := q
        exact ⟨a, e1, ⟨⟨o, A.kept _ _ h1 (out e1 rfl), ctAt_mono A.data h2⟩, A.new a (by rw [h1]; simp) h3, h4, h5⟩⟩
  · obtain ⟨sx', g1, g2⟩ := key hx
    obtain ⟨sy', g3, g4⟩ := key hy
    obtain ⟨cx', g5⟩ := g2 cx ox
    obtain ⟨cy', g6⟩ := g4 cy oy
    exact R.sep x y ad sx' sy' cx' cy' ne g1 g3 g5 g6 ex ey
  · refine A.kept a o (R.frame a o h hm) fun z => ?_
    rcases inps z with ⟨ct, F⟩ | ⟨j, _, e1, sv, c, e2, e3⟩
    · obtain ⟨p, o', e, _, _, _, g4⟩ := F.at_
      cases e
      rw [g4] at h; cases h
    · obtain ⟨a', e4, O⟩ := R.own e2 e3
      rw [e1] at e4
      cases e4
      cases sv with
      | no => cases e3
      | d x => cases e3
      | o c' => rw [O.u ⟨_, rfl⟩] at h; cases h
      | m k c' => exact hm (List.mem_of_getElem? (O.m _ _ rfl))
  · by_cases hm : a ∈ ps
    · obtain ⟨ct, _, o, h1, _⟩ := paired_left A.news hm
      rw [h1]; simp
    · cases q : H a with
      | none => exact absurd q (R.used a h)
      | some o => rw [A.kept _ _ q hm]; simp
end
end Rp
set_option Elab.async false
set_option linter.all false
set_option maxRecDepth 100000
/-! The rules for calls; statements. -/
namespace Rp
open PySem PySem.Spec PyProof.Rows L2

section
variable {X : Cx} {e a b c : Expr} {es rest : List Expr} {ma mb : M Dat} {mar : M (List CA)} {pos : Pos}
theorem sr_nil : PA X [] (tAr X.K aNil) := pa_nil.imp fun σ H Q q => by
  obtain ⟨U, ms, He, S, x, S', R, h, q⟩ := q
  cases h
  exact q [] H He (.refl _ _) R .nil List.nodup_nil
theorem sr_cons (ha : PE X e (tM X.K ma)) (hr : PA X es (tAr X.K mar)) (hs : starEach (e :: es) X.env = (false, eval e X.env) :: starEach es X.env := by rfl) : PA X (e :: es) (tAr X.K (aCons ma mar)) :=
  (pa_cons ha hr hs).imp fun σ H Q q => by
    obtain ⟨U, ms, He, S, x, S', R, h, q⟩ := q
    unfold aCons at h
    split at h
    · rename_i y S1 h1
      split at h
      · rename_i ys S2 h2
        cases h
        refine .mk R h1 fun v H1 He1 G1 R1 d1 => ?_
        exact ⟨U, ms, He1, S1, ys, _, R1, h2, fun vs H2 He2 G2 R2 d2 n2 => q _ H2 He2 (G1.trans G2) R2 (.cons (show Dp X.K He2 v y from dp_mono G2.same d1) d2) (by cases v <;> exact n2)⟩
      · cases h
    · cases h
theorem sr_slot {i : Nat} (ha : PE X e (tVar i)) (hr : PA X es (tAr X.K mar)) (hs : starEach (e :: es) X.env = (false, eval e X.env) :: starEach es X.env := by rfl) : PA X (e :: es) (tAr X.K (aSlot i mar)) :=
  (pa_cons ha hr hs).imp fun σ H Q q => by
    obtain ⟨U, ms, He, S, x, S', R, h, q⟩ := q
    unfold aSlot at h
    split at h
    · rename_i sv h0
      split at h
      · rename_i ct h1
        split at h
        · rename_i ys S2 h2
          cases h
          obtain ⟨p, e1, O⟩ := R.own h0 h1
          exact ⟨_, e1, ⟨U, ms, He, S, ys, _, R, h2, fun vs H2 He2 G2 R2 d2 n2 => q _ H2 He2 G2 R2 (.cons (show σ[i]? = some (some (V.ref p)) from e1) d2) n2⟩⟩
        · cases h
      · cases h
    · cases h
theorem call_run {K : PySem.W.Frag} {cls : Nat → Value} {U : Hp} {ms : List Addr} {He : Hp} {S : Sl} {σ : L2.St} {H : Hp} {F : FF} {as : List CA} {vs : List V} {fas : List FA} {r : FR} {news : List Ct} {Q : VK} {E : XK}
    (R : Rel K U ms He S σ H) (d : Paired (CaAt K U He S σ H) vs as) (hT : (temps vs as).Nodup) (hf : fasOf S as = some fas) (hn : ((slotsOf as).filterMap id).Nodup) (hF : F fas = some (r, news))
    (q : ∀ v H' He', Grow U He He' → Rel K U ms He' (putN S (slotsOf as) news) σ H' → (match r with | .d x => Dp K He' v x | .f ct => Fresh K U He' (putN S (slotsOf as) news) σ H' v ct | .x _ => False) → Q v H')
    (qx : ∀ n, r = .x n → ∀ H' He', Grow U He He' → Rel K U ms He' (putN S (slotsOf as) news) σ H' → E (cls n) none H') : spF K cls F vs H Q E := by
  obtain ⟨hm, hpk⟩ := mads_slots R d hf
  refine ⟨He, fas, r, news, R.data, fas_at R d hf, mads_nodup R hm hn (by rw [hpk]; exact hT), hF, fun v H' He' A rs => ?_, fun n hr H' He' A => ?_⟩
  · obtain ⟨R', G⟩ := R.called hm hn A
    refine q v H' He' G R' ?_
    cases r with
    | d x => exact rs
    | f ct =>
      obtain ⟨p, o, rfl, h1, h2, h3, h4⟩ := rs
      refine ⟨⟨p, o, rfl, h2, h3, h4, ?_⟩, fun i sv ci h5 h6 h7 => ?_⟩
      · cases q : U p with
        | none => rfl
        | some u => exact absurd h1 (R.used p (by rw [q]; simp))
      · obtain ⟨a', e, O⟩ := R'.own h5 h6
        rw [h7] at e
        cases e
        -- the slot's address was known ahead of the call
        have hk : ∃ s' c', S[i]? = some s' ∧ s'.own = some c' := by
          by_cases hj : some i ∈ slotsOf as
          · obtain ⟨a, sv, c, c', q1, q2, q3, q4, q5⟩ := put_at (slotA_some hm) A.news hn hj
            exact ⟨sv, c, q2, q3⟩
          · rw [put_get hj] at h5
            exact ⟨sv, ci, h5, h6⟩
        obtain ⟨s', c', k1, k2⟩ := hk
        obtain ⟨a2, e2, O2⟩ := R.own k1 k2
        rw [h7] at e2
        cases e2
        obtain ⟨o2, k3, _⟩ := O2.at_
        rw [h1] at k3; cases k3
    | x n => exact rs
  · obtain ⟨R', G⟩ := R.called hm hn A
    exact qx n hr H' He' G R'
variable {CX : CXT} {k : Nat} {f : Addr} {fd : FuncData} {ps : List Str} {x : Str} {p : Pos} {cls : Nat → Value} {F : FF}
theorem tM_call {K : PySem.W.Frag} {σ : L2.St} {H : Hp} {Q : VK} {E : XK} (h : tM K (mCall F mar) σ H Q) : tCall (spF K cls F) [] E (tAr K mar) σ H Q := by
  obtain ⟨U, ms, He, S, z, S2, R, h, q⟩ := h
  unfold mCall at h
  split at h
  · rename_i as S1 h1
    split at h
    · rename_i fas h2
      split at h
      · rename_i hn
        split at h
        · rename_i y news hF
          cases h
          refine ⟨U, ms, He, S, as, S1, R, h1, fun vs H1 He1 G1 R1 d1 n1 => ?_⟩
          show spF K cls F (vs ++ []) H1 Q E
          rw [List.append_nil]
          refine call_run R1 d1 n1 h2 hn hF (fun v H' He' G R' d => q v H' He' (G1.trans G) R' d) (fun n hr => nomatch hr)
        · cases h
      · cases h
    · cases h
  · cases h
theorem tF_call {K : PySem.W.Frag} {σ : L2.St} {H : Hp} {Q : VK} {E : XK} (h : tF K (mCallF F mar) σ H Q) : tCall (spF K cls F) [] E (tAr K mar) σ H Q := by
  obtain ⟨U, ms, He, S, z, S2, R, h, q⟩ := h
  unfold mCallF at h
  split at h
  · rename_i as S1 h1
    split at h
    · rename_i fas h2
      split at h
      · rename_i hn
        split at h
        · rename_i y news hF
          cases h
          refine ⟨U, ms, He, S, as, S1, R, h1, fun vs H1 He1 G1 R1 d1 n1 => ?_⟩
          show spF K cls F (vs ++ []) H1 Q E
          rw [List.append_nil]
          refine call_run R1 d1 n1 h2 hn hF (fun v H' He' G R' d => q v H' He' (G1.trans G) R' d) (fun n hr => nomatch hr)
        · cases h
      · cases h
    · cases h
  · cases h
theorem passX : Passes (L2N.CX X.prog X.w) X E0 := fun pins σ H s e s' I h => by
  obtain ⟨_, _, _, _, _, _, _, _, _, _, _, _, z⟩ := h
  exact z.elim
theorem se_call (G : FnOk X.prog X.w X.K X.mg X.base (L2N.CX X.prog X.w) k f fd ps (spF X.K cls F)) (hr : Room k X.A) (hg : Gl X x) (hm : X.mg x = some (.ref f)) (hk : PySem.W.keepIn X.K (.ref f) = true) (hb : Binds X.K fd ps [])
    (ha : PA X (e :: es) (tAr X.K mar)) (hdb : (x == ("__debug__" : Str)) = false := by decide) (he : starEach (e :: es) X.env = (false, eval e X.env) :: starEach es X.env := by rfl) (hpl : (backTo pos (starEach es X.env)).any (·.1) = false := by rfl) :
    PE X (.Call (.Name x p) (e :: es) [] pos) (tM X.K (mCall F mar)) := (pe_call G hr hg hm hk hb .nil passX ha hdb he hpl).imp fun σ H Q q => tM_call q
theorem sf_call (G : FnOk X.prog X.w X.K X.mg X.base (L2N.CX X.prog X.w) k f fd ps (spF X.K cls F)) (hr : Room k X.A) (hg : Gl X x) (hm : X.mg x = some (.ref f)) (hk : PySem.W.keepIn X.K (.ref f) = true) (hb : Binds X.K fd ps [])
    (ha : PA X (e :: es) (tAr X.K mar)) (hdb : (x == ("__debug__" : Str)) = false := by decide) (he : starEach (e :: es) X.env = (false, eval e X.env) :: starEach es X.env := by rfl) (hpl : (backTo pos (starEach es X.env)).any (·.1) = false := by rfl) :
    PE X (.Call (.Name x p) (e :: es) [] pos) (tF X.K (mCallF F mar)) := (pe_call G hr hg hm hk hb .nil passX ha hdb he hpl).imp fun σ H Q q => tF_call q
end

/-! ### statements -/
inductive Out where
  | nx (S : Sl)
  | rt (r : FR) (S : Sl)
abbrev MS := Sl → Option Out
def tS (K : PySem.W.Frag) (E : Nat → L2.St → Hp → Prop) (m : MS) : TS := fun D σ H => ∃ U ms He S o, Rel K U ms He S σ H ∧ m S = some o ∧
  match o with
  | .nx S' => ∀ σ' H' He', Grow U He He' → Rel K U ms He' S' σ' H' → D.nx σ' H'
  | .rt (.d x) S' => ∀ v σ' H' He', Grow U He He' → Rel K U ms He' S' σ' H' → Dp K He' v x → D.rt v H'
  | .rt (.f c) S' => ∀ v σ' H' He', Grow U He He' → Rel K U ms He' S' σ' H' → (∃ a o, v = .ref a ∧ H' a = some o ∧ CtAt K He' o c ∧ He' a = none ∧ U a = none) → D.rt v H'
  | .rt (.x n) S' => ∀ σ' H' He', Grow U He He' → Rel K U ms He' S' σ' H' → E n σ' H'
def sNx : MS := fun S => some (.nx S)
def sSeq (a b : MS) : MS := fun S => match a S with
  | some (.nx S1) => b S1
  | r => r
def sAsg (i : Nat) (m : M Dat) : MS := fun S => match m S with
  | some (x, S1) => some (.nx (S1.set i (.d x)))
  | none => none
def sAsgF (i : Nat) (m : M Ct) : MS := fun S => match m S with
  | some (c, S1) => some (.nx (S1.set i (.o c)))
  | none => none
def sDrop (m : M Dat) : MS := fun S => match m S with
  | some (_, S1) => some (.nx S1)
  | none => none
def sIf (t : M Bool) (a b : MS) : MS := fun S => match t S with
  | some (true, S1) => a S1
  | some (false, S1) => b S1
  | none => none
def sRet (m : M Dat) : MS := fun S => match m S with
  | some (x, S1) => some (.rt (.d x) S1)
  | none => none
def sRetF (m : M Ct) : MS := fun S => match m S with
  | some (c, S1) => some (.rt (.f c) S1)
  | none => none
/-- return of a slot: data, or the container that it holds -/
def sRetV (i : Nat) : MS := fun S => match S[i]? with
  | some (.d x) => some (.rt (.d x) S)
  | some (.o c) => some (.rt (.f c) S)
  | _ => none
def sRetN : MS := fun S => some (.rt (.d .none) S)
/-- the places' names: x, y, .. = a tuple -/
def putL : Sl → List Nat → List Dat → Sl
  | S, i :: is, x :: xs => putL (S.set i (.d x)) is xs
  | S, _, _ => S
def sUnp (is : List Nat) (m : M Dat) : MS := fun S => match m S with
  | some (.tuple xs, S1) => if xs.length = is.length then some (.nx (putL S1 is xs)) else none
  | _ => none
/-- while, at most n turns -/
def whileN (t : M Bool) (b : MS) : Nat → MS
  | 0 => fun _ => none
  | n + 1 => fun S => match t S with
    | some (true, S1) => match b S1 with
      | some (.nx S2) => whileN t b n S2
      | r => r
    | some (false, S1) => some (.nx S1)
    | none => none
/-- for over data: the target stored, the body -/
def forL (g : Dat → Sl → Option Sl) (b : MS) : List Dat → MS
  | [], S => some (.nx S)
  | x :: xs, S => match g x S with
    | some S1 => match b S1 with
      | some (.nx S2) => forL g b xs S2
      | r => r
    | none => none

section
variable {X : Cx} {e a b c : Expr} {es rest : List Expr} {st : Stmt} {sts sts' : List Stmt} {ma mb : M Dat} {mf : M Ct} {mt : M Bool} {m1 m2 : MS} {E : Nat → L2.St → Hp → Prop} {pos : Pos}
/-- what follows a statement is shown from its own end -/
theorem tS_then {K : PySem.W.Frag} {D : Ends} {σ : L2.St} {H : Hp} (h : tS K E (sSeq m1 m2) D σ H) : tS K E m1 { D with nx := tS K E m2 D } σ H := by
  obtain ⟨U, ms, He, S, o, R, h, q⟩ := h
  unfold sSeq at h
  split at h
  · rename_i S1 h1
    refine ⟨U, ms, He, S, _, R, h1, fun σ' H' He' G R' => ⟨U, ms, He', S1, o, R', h, ?_⟩⟩
    cases o with
    | nx S' => exact fun σ2 H2 He2 G2 R2 => q σ2 H2 He2 (G.trans G2) R2
    | rt r S' =>
      cases r with
      | d x => exact fun v σ2 H2 He2 G2 R2 d => q v σ2 H2 He2 (G.trans G2) R2 d
      | f c => exact fun v σ2 H2 He2 G2 R2 d => q v σ2 H2 He2 (G.trans G2) R2 d
      | x n => exact fun σ2 H2 He2 G2 R2 => q σ2 H2 He2 (G.trans G2) R2
  · rename_i hn
    refine ⟨U, ms, He, S, o, R, h, ?_⟩
    cases o with
    | nx S' => exact absurd h (hn S')
    | rt r S' => cases r <;> exact q
theorem ss_nil : PSs X [] (tS X.K E sNx) := pss_nil.imp fun D σ H q => by
  obtain ⟨U, ms, He, S, o, R, h, q⟩ := q
  cases h
  exact q σ H He (.refl _ _) R
theorem ss_cons (h1 : PS X st (tS X.K E m1)) (h2 : PSs X sts (tS X.K E m2)) : PSs X (st :: sts) (tS X.K E (sSeq m1 m2)) := (pss_cons h1 h2).imp fun D σ H q => tS_then q
theorem ss_one (h1 : PS X st (tS X.K E m1)) : PSs X [st] (tS X.K E m1) := pss_one h1
theorem ss_asg {i : Nat} {x : Str} {pos' : Pos} (hN : X.N.Nodup) (hi : X.N[i]? = some x) (hx : Loc X.env.scope x) (he : PE X e (tM X.K ma)) (hs : swapsWith e (some (.Name x pos')) pos.line X.env = pure false := by rfl) (hf : X.fn x = true ∨ X.env.scope.names.lookup x = some .local := by first | exact .inl rfl | exact .inr rfl | assumption) :
    PS X (.Assign [.Name x pos'] e pos) (tS X.K E (sAsg i ma)) := (ps_set hN hi hx he hs hf).imp fun D σ H q => by
  obtain ⟨U, ms, He, S, o, R, h, q⟩ := q
  unfold sAsg at h
  split at h
  · rename_i y S1 h1
    cases h
    exact .mk R h1 fun v H' He' G R' d => q _ H' He' G (R'.setD d)
  · cases h
theorem ss_asgF {i : Nat} {x : Str} {pos' : Pos} (hN : X.N.Nodup) (hi : X.N[i]? = some x) (hx : Loc X.env.scope x) (he : PE X e (tF X.K mf)) (hs : swapsWith e (some (.Name x pos')) pos.line X.env = pure false := by rfl) (hf : X.fn x = true ∨ X.env.scope.names.lookup x = some .local := by first | exact .inl rfl | exact .inr rfl | assumption) :
    PS X (.Assign [.Name x pos'] e pos) (tS X.K E (sAsgF i mf)) := (ps_set hN hi hx he hs hf).imp fun D σ H q => by
  obtain ⟨U, ms, He, S, o, R, h, q⟩ := q
  unfold sAsgF at h
  split at h
  · rename_i y S1 h1
    cases h
    exact ⟨U, ms, He, S, _, _, R, h1, fun v H' He' G R' d => q _ H' He' G (R'.setO d)⟩
  · cases h
theorem ss_drop (he : PE X e (tM X.K ma)) (hs : swapsWith e none pos.line X.env = pure false := by rfl) : PS X (.Expr e pos) (tS X.K E (sDrop ma)) := (ps_expr he hs).imp fun D σ H q => by
  obtain ⟨U, ms, He, S, o, R, h, q⟩ := q
  unfold sDrop at h
  split at h
  · rename_i y S1 h1
    cases h
    exact .mk R h1 fun v H' He' G R' d => q _ H' He' G R'
  · cases h
theorem ss_if (hc : PT X c (tT X.K mt)) (ha : PSs X sts (tS X.K E m1)) (hb : PSs X sts' (tS X.K E m2)) : PS X (.If c sts sts' pos) (tS X.K E (sIf mt m1 m2)) := (ps_if hc ha hb).imp fun D σ H q => by
  obtain ⟨U, ms, He, S, o, R, h, q⟩ := q
  unfold sIf at h
  have go : ∀ {S1 : Sl} {m : MS} {H' He' : Hp}, m S1 = some o → Grow U He He' → Rel X.K U ms He' S1 σ H' → tS X.K E m D σ H' := fun {S1 m H' He'} h1 G R' => by
    refine ⟨U, ms, He', S1, o, R', h1, ?_⟩
    cases o with
    | nx S' => exact fun σ2 H2 He2 G2 R2 => q σ2 H2 He2 (G.trans G2) R2
    | rt r S' =>
      cases r with
      | d x => exact fun v σ2 H2 He2 G2 R2 d => q v σ2 H2 He2 (G.trans G2) R2 d
      | f c => exact fun v σ2 H2 He2 G2 R2 d => q v σ2 H2 He2 (G.trans G2) R2 d
      | x n => exact fun σ2 H2 He2 G2 R2 => q σ2 H2 He2 (G.trans G2) R2
  split at h
  · rename_i S1 h1
    exact ⟨U, ms, He, S, true, S1, R, h1, fun H' He' G R' => iteT (go h G R')⟩
  · rename_i S1 h1
    exact ⟨U, ms, He, S, false, S1, R, h1, fun H' He' G R' => iteF (go h G R')⟩
  · cases h
theorem ss_ret (he : PE X e (tM X.K ma)) : PS X (.Return (some e) pos) (tS X.K E (sRet ma)) := (ps_ret he).imp fun D σ H q => by
  obtain ⟨U, ms, He, S, o, R, h, q⟩ := q
  unfold sRet at h
  split at h
  · rename_i y S1 h1
    cases h
    exact .mk R h1 fun v H' He' G R' d => q v σ H' He' G R' d
  · cases h
theorem ss_retF (he : PE X e (tF X.K mf)) : PS X (.Return (some e) pos) (tS X.K E (sRetF mf)) := (ps_ret he).imp fun D σ H q => by
  obtain ⟨U, ms, He, S, o, R, h, q⟩ := q
  unfold sRetF at h
  split at h
  · rename_i y S1 h1
    cases h
    exact ⟨U, ms, He, S, _, _, R, h1, fun v H' He' G R' d => q v σ H' He' G R' d.at_⟩
  · cases h
theorem ss_retV {i : Nat} (he : PE X e (tVar i)) : PS X (.Return (some e) pos) (tS X.K E (sRetV i)) := (ps_ret he).imp fun D σ H q => by
  obtain ⟨U, ms, He, S, o, R, h, q⟩ := q
  unfold sRetV at h
  split at h
  · rename_i y h1
    cases h
    obtain ⟨v, e1, d⟩ := R.dat h1
    exact ⟨v, e1, q v σ H He (.refl _ _) R d⟩
  · rename_i y h1
    cases h
    obtain ⟨p, e1, O⟩ := R.own h1 rfl
    obtain ⟨o, h2, h3⟩ := O.at_
    exact ⟨_, e1, q _ σ H He (.refl _ _) R ⟨p, o, rfl, h2, h3, O.he, O.u ⟨_, rfl⟩⟩⟩
  · cases h
theorem ss_retN : PS X (.Return none pos) (tS X.K E sRetN) := ps_retN.imp fun D σ H q => by
  obtain ⟨U, ms, He, S, o, R, h, q⟩ := q
  cases h
  exact q .non σ H He (.refl _ _) R .non
theorem ss_pass : PS X (.Pass pos) (tS X.K E sNx) := ps_pass.imp fun D σ H q => by
  obtain ⟨U, ms, He, S, o, R, h, q⟩ := q
  cases h
  exact q σ H He (.refl _ _) R
end
end Rp
set_option Elab.async false
set_option linter.all false
set_option maxRecDepth 100000
/-! A def by what its body computes. -/
namespace Rp
open PySem PySem.Spec PyProof.Rows L2

def initS : Nat → List FA → Sl
  | k, .d x :: fs => .d x :: initS k fs
  | k, .c ct :: fs => .m k ct :: initS (k + 1) fs
  | _, [] => []
def newsOf : Nat → List FA → Sl → Option (List Ct)
  | k, .c _ :: fs, .m k' ct :: S => if k' = k then
      match newsOf (k + 1) fs S with
      | some r => some (ct :: r)
      | none => none
    else none
  | k, .d _ :: fs, S => newsOf k fs S.tail
  | _, [], _ => some []
  | _, _, _ => none
def Out.res : Out → FR
  | .nx _ => .d .none
  | .rt r _ => r
def Out.sl : Out → Sl
  | .nx S => S
  | .rt _ S => S
/-- m computes F from n slots -/
def Comp (n : Nat) (m : MS) (F : FF) : Prop := ∀ fas r news, F fas = some (r, news) → fas.length ≤ n ∧ ∃ o, m (initS 0 fas ++ List.replicate (n - fas.length) .no) = some o ∧ o.res = r ∧ newsOf 0 fas o.sl = some news

section
variable {K : PySem.W.Frag}
theorem initS_length : ∀ (fas : List FA) (k : Nat), (initS k fas).length = fas.length
  | [], _ => rfl
  | .d _ :: fs, k => by unfold initS; rw [List.length_cons, List.length_cons, initS_length fs]
  | .c _ :: fs, k => by unfold initS; rw [List.length_cons, List.length_cons, initS_length fs]
theorem init_at {He H U : Hp} {ms : List Addr} (hU : ∀ a, U a = H a) : ∀ {fas : List FA} {vs : List V} {k : Nat}, Paired (FaAt K He H) vs fas → (∀ j a, (mads vs fas)[j]? = some a → ms[k + j]? = some a) →
    ∀ (i : Nat) (sv : SV), (initS k fas)[i]? = some sv → ∃ v, vs[i]? = some v ∧ SvAt K U ms He H (some v) sv
  | [], _, _, .nil, _, i, sv, h => by simp [initS] at h
  | .d x :: fs, v :: vs, k, .cons h1 h2, hm, i, sv, h => by
    cases i with
    | zero =>
      have : sv = .d x := by simpa [initS] using h.symm
      subst this
      exact ⟨v, rfl, v, rfl, h1⟩
    | succ i =>
      have h' : (initS k fs)[i]? = some sv := by simpa [initS] using h
      have hm' : ∀ j a, (mads vs fs)[j]? = some a → ms[k + j]? = some a := fun j a e => hm j a (by cases v <;> exact e)
      obtain ⟨u, e, q⟩ := init_at hU h2 hm' i sv h'
      exact ⟨u, by simpa using e, q⟩
  | .c ct :: fs, v :: vs, k, .cons h1 h2, hm, i, sv, h => by
    obtain ⟨a, o, rfl, g1, g2, g3⟩ := h1
    cases i with
    | zero =>
      have : sv = .m k ct := by simpa [initS] using h.symm
      subst this
      refine ⟨_, rfl, a, rfl, ⟨⟨o, g1, g2⟩, g3, fun z => (by obtain ⟨c, z⟩ := z; cases z), fun k' c' z => ?_⟩⟩
      cases z
      exact hm 0 a rfl
    | succ i =>
      have h' : (initS (k + 1) fs)[i]? = some sv := by simpa [initS] using h
      have hm' : ∀ j b, (mads vs fs)[j]? = some b → ms[k + 1 + j]? = some b := fun j b e => by
        have := hm (j + 1) b (by simpa [mads] using e)
        rwa [Nat.add_assoc, Nat.add_comm 1 j]
      obtain ⟨u, e, q⟩ := init_at hU h2 hm' i sv h'
      exact ⟨u, by simpa using e, q⟩
theorem mads_of : ∀ {fas : List FA} {vs : List V} {He H : Hp} {k i : Nat} {c : Ct} {a : Addr}, Paired (FaAt K He H) vs fas → (initS k fas)[i]? = some (.m (k + 0) c) ∨ (∃ sv, (initS k fas)[i]? = some sv ∧ sv.own = some c) → vs[i]? = some (.ref a) → a ∈ mads vs fas := by
  intro fas
  induction fas with
  | nil => intro vs He H k i c a h1 h2 h3; rcases h2 with h2 | ⟨sv, h2, _⟩ <;> simp [initS] at h2
  | cons f fs ih =>
    intro vs He H k i c a h1 h2 h3
    cases h1 with
    | @cons v _ vs' _ g1 g2 =>
      have h2' : ∃ sv c, (initS k (f :: fs))[i]? = some sv ∧ sv.own = some c := by
        rcases h2 with h2 | ⟨sv, h2, h4⟩
        · exact ⟨_, c, h2, rfl⟩
        · exact ⟨sv, c, h2, h4⟩
      obtain ⟨sv, c2, h5, h6⟩ := h2'
      cases f with
      | d x =>
        cases i with
        | zero =>
          have : sv = .d x := by simpa [initS] using h5.symm
          subst this; cases h6
        | succ i =>
          have h' : (initS k fs)[i]? = some sv := by simpa [initS] using h5
          have := ih (c := c2) g2 (.inr ⟨sv, h', h6⟩) (by simpa using h3)
          cases v <;> exact this
      | c ct =>
        obtain ⟨b, o, rfl, _⟩ := g1
        cases i with
        | zero =>
          have : b = a := by simpa using h3
          subst this
          exact List.mem_cons_self
        | succ i =>
          have h' : (initS (k + 1) fs)[i]? = some sv := by simpa [initS] using h5
          exact List.mem_cons_of_mem _ (ih (c := c2) g2 (.inr ⟨sv, h', h6⟩) (by simpa using h3))
theorem init_sep : ∀ {fas : List FA} {vs : List V} {He H : Hp} {k i j : Nat} {a : Addr} {si sj : SV} {ci cj : Ct}, Paired (FaAt K He H) vs fas → (mads vs fas).Nodup → i < j → (initS k fas)[i]? = some si → (initS k fas)[j]? = some sj → si.own = some ci → sj.own = some cj →
    vs[i]? = some (.ref a) → vs[j]? = some (.ref a) → False := by
  intro fas
  induction fas with
  | nil => intro vs He H k i j a si sj ci cj h1 h2 h3 h4; simp [initS] at h4
  | cons f fs ih =>
    intro vs He H k i j a si sj ci cj h1 hn hij h4 h5 oi oj e1 e2
    cases h1 with
    | @cons v _ vs' _ g1 g2 =>
      cases j with
      | zero => omega
      | succ j =>
        cases f with
        | d x =>
          have hn' : (mads vs' fs).Nodup := by cases v <;> exact hn
          have h5' : (initS k fs)[j]? = some sj := by simpa [initS] using h5
          cases i with
          | zero =>
            have : si = .d x := by simpa [initS] using h4.symm
            subst this; cases oi
          | succ i =>
            exact ih (i := i) (j := j) g2 hn' (by omega) (by simpa [initS] using h4) h5' oi oj (by simpa using e1) (by simpa using e2)
        | c ct =>
          obtain ⟨b, o, rfl, _⟩ := g1
          have hn' : b ∉ mads vs' fs ∧ (mads vs' fs).Nodup := List.nodup_cons.mp hn
          have h5' : (initS (k + 1) fs)[j]? = some sj := by simpa [initS] using h5
          cases i with
          | zero =>
            have : b = a := by simpa using e1
            subst this
            exact hn'.1 (mads_of (c := cj) g2 (.inr ⟨sj, h5', oj⟩) (by simpa using e2))
          | succ i =>
            exact ih (i := i) (j := j) g2 hn'.2 (by omega) (by simpa [initS] using h4) h5' oi oj (by simpa using e1) (by simpa using e2)
theorem mads_used : ∀ {fas : List FA} {vs : List V} {He H : Hp} {a : Addr}, Paired (FaAt K He H) vs fas → a ∈ mads vs fas → H a ≠ none
  | [], [], _, _, _, _, h => by cases h
  | .d x :: fs, v :: vs, _, _, a, .cons _ h2, h => mads_used h2 (by cases v <;> exact h)
  | .c ct :: fs, v :: vs, _, _, a, .cons h1 h2, h => by
    obtain ⟨b, o, rfl, g1, _⟩ := h1
    rcases List.mem_cons.mp h with e | h
    · subst e; rw [g1]; simp
    · exact mads_used h2 h
theorem rel_start {fas : List FA} {vs : List V} {He H : Hp} (n : Nat) (hs : Same He H) (h : Paired (FaAt K He H) vs fas) (hn : (mads vs fas).Nodup) :
    Rel K H (mads vs fas) He (initS 0 fas ++ List.replicate n .no) (vs.map some ++ List.replicate n none) H := by
  have hl : fas.length = vs.length := (Paired.length h).symm
  have li : (initS 0 fas).length = (vs.map (some : V → Option V)).length := by rw [initS_length, List.length_map, hl]
  have slot : ∀ {i : Nat} {sv : SV}, (initS 0 fas ++ List.replicate n .no)[i]? = some sv → (initS 0 fas)[i]? = some sv ∨ sv = .no := by
    intro i sv e
    by_cases hi : i < (initS 0 fas).length
    · rw [List.getElem?_append_left hi] at e; exact .inl e
    · rw [List.getElem?_append_right (by omega)] at e
      have := List.mem_of_getElem? e
      exact .inr (List.eq_of_mem_replicate this)
  have back : ∀ {i : Nat} {sv : SV}, (initS 0 fas)[i]? = some sv → (vs.map (some : V → Option V) ++ List.replicate n none)[i]? = (vs.map some)[i]? := by
    intro i sv e
    have : i < (initS 0 fas).length := (List.getElem?_eq_some_iff.mp e).1
    rw [List.getElem?_append_left (by omega)]
  refine ⟨by simp only [List.length_append, List.length_replicate, li], fun i sv e => ?_, fun i j a si sj ci cj ne hi hj oi oj ei ej => ?_, fun a o e _ => e, fun a e => e, hs, fun a e => mads_used h e⟩
  · rcases slot e with e1 | rfl
    · obtain ⟨v, e2, q⟩ := init_at (K := K) (U := H) (ms := mads vs fas) (fun _ => rfl) h (fun j a e => by simpa using e) i sv e1
      refine ⟨some v, ?_, q⟩
      rw [back e1, List.getElem?_map, e2]; rfl
    · have hi : i < (vs.map (some : V → Option V) ++ List.replicate n none).length := by
        have := (List.getElem?_eq_some_iff.mp e).1
        simp only [List.length_append, List.length_replicate] at this ⊢
        omega
      exact ⟨_, List.getElem?_eq_getElem hi, trivial⟩
  · have hi' : (initS 0 fas)[i]? = some si := by
      rcases slot hi with z | z
      · exact z
      · subst z; cases oi
    have hj' : (initS 0 fas)[j]? = some sj := by
      rcases slot hj with z | z
      · exact z
      · subst z; cases oj
    rw [back hi', List.getElem?_map] at ei
    rw [back hj', List.getElem?_map] at ej
    have ei' : vs[i]? = some (.ref a) := by
      cases q : vs[i]? with
      | none => rw [q] at ei; cases ei
      | some v => rw [q] at ei; cases ei; rfl
    have ej' : vs[j]? = some (.ref a) := by
      cases q : vs[j]? with
      | none => rw [q] at ej; cases ej
      | some v => rw [q] at ej; cases ej; rfl
    rcases Nat.lt_or_gt_of_ne ne with z | z
    · exact init_sep h hn z hi' hj' oi oj ei' ej'
    · exact init_sep h hn z hj' hi' oj oi ej' ei'
/-- the containers at the end -/
theorem news_end {U He H : Hp} {as : List Addr} : ∀ {fas : List FA} {vs : List V} {k : Nat} {S : Sl} {σ : L2.St} {news : List Ct}, newsOf k fas S = some news → vs.length = fas.length →
    (∀ (i : Nat) (sv : SV), S[i]? = some sv → ∃ ov, σ[i]? = some ov ∧ SvAt K U as He H ov sv) → (∀ (j : Nat) (a : Addr), (mads vs fas)[j]? = some a → as[k + j]? = some a) → (∀ (i : Nat) (ct : Ct), fas[i]? = some (FA.c ct) → ∃ a, vs[i]? = some (V.ref a)) → Paired (NewAt K He H) (mads vs fas) news
  | [], [], _, _, _, _, h, _, _, _, _ => by
    have : _ = _ := Option.some.inj h
    subst this
    exact .nil
  | .d x :: fs, v :: vs, k, S, σ, news, h, hl, hS, hm, hv => by
    have h' : newsOf k fs S.tail = some news := h
    have : mads (v :: vs) (FA.d x :: fs) = mads vs fs := by cases v <;> rfl
    rw [this] at hm ⊢
    exact news_end (σ := σ.tail) h' (by simpa using hl) (fun i sv e => by
      obtain ⟨ov, e1, q⟩ := hS (i + 1) sv (by rw [List.getElem?_tail] at e; exact e)
      exact ⟨ov, by rw [List.getElem?_tail]; exact e1, q⟩) hm (fun i ct e => by
      obtain ⟨a, q⟩ := hv (i + 1) ct (by simpa using e)
      exact ⟨a, by simpa using q⟩)
  | .c ct :: fs, v :: vs, k, S, σ, news, h, hl, hS, hm, hv => by
    cases S with
    | nil => simp [newsOf] at h
    | cons s S =>
      cases s with
      | m k' ct' =>
        have h : (if k' = k then (match newsOf (k + 1) fs S with | some r => some (ct' :: r) | none => none) else none) = some news := h
        split at h
        · rename_i hk
          split at h
          · rename_i r hr
            cases h
            obtain ⟨a, ha⟩ := hv 0 ct rfl
            have : v = .ref a := by simpa using ha
            subst this
            refine .cons ?_ (news_end (U := U) (as := as) (σ := σ.tail) hr (by simpa using hl) (fun i sv e => ?_) (fun j b e => ?_) fun i ct e => ?_)
            · obtain ⟨ov, e1, b, e2, O⟩ := hS 0 _ rfl
              obtain ⟨o, g1, g2⟩ := O.at_
              have g3 := O.m _ _ rfl
              rw [hk] at g3
              have g4 := hm 0 a rfl
              rw [Nat.add_zero] at g4
              rw [g3] at g4
              cases g4
              exact ⟨o, g1, g2⟩
            · obtain ⟨ov, e1, q⟩ := hS (i + 1) sv (by simpa using e)
              exact ⟨ov, by rw [List.getElem?_tail]; exact e1, q⟩
            · have := hm (j + 1) b (by simpa [mads] using e)
              rwa [Nat.add_assoc, Nat.add_comm 1 j]
            · obtain ⟨a, q⟩ := hv (i + 1) ct (by simpa using e)
              exact ⟨a, by simpa using q⟩
          · cases h
        · cases h
      | no => exact absurd h (by simp [newsOf])
      | d x => exact absurd h (by simp [newsOf])
      | o c => exact absurd h (by simp [newsOf])
theorem body_ok {cls : Nat → Value} {n : Nat} {m : MS} {F : FF} {vs : List V} {H : Hp} {Q : VK} {E : XK} (hm : Comp n m F) (h : spF K cls F vs H Q E) :
    tS K (fun x _ H' => E (cls x) none H') m { nx := fun _ H' => Q .non H', rt := Q } (vs.map some ++ List.replicate (n - vs.length) none) H := by
  obtain ⟨He, fas, r, news, hs, hp, hn, hF, q, qx⟩ := h
  obtain ⟨hle, o, h1, h2, h3⟩ := hm fas r news hF
  have hl : vs.length = fas.length := Paired.length hp
  have hv : ∀ (i : Nat) (ct : Ct), fas[i]? = some (FA.c ct) → ∃ a, vs[i]? = some (V.ref a) := by
    clear h2 h3 h1 hF q qx hm hle hl hn
    induction hp with
    | nil => intro i ct e; simp at e
    | cons g1 g2 ih =>
      intro i ct e
      cases i with
      | zero =>
        have : _ = _ := Option.some.inj (show some _ = some (FA.c ct) from e)
        subst this
        obtain ⟨a, o, rfl, _⟩ := g1
        exact ⟨a, rfl⟩
      | succ i => simpa using ih i ct (by simpa using e)
  have after : ∀ {σ' : L2.St} {H' He' : Hp}, Grow H He He' → Rel K H (mads vs fas) He' o.sl σ' H' → After K He H (mads vs fas) news He' H' := fun {σ' H' He'} G R' =>
    ⟨G.same, R'.data, fun a h1 h2 => G.new a h2 h1, fun a o e hm => R'.frame a o e hm, news_end h3 hl R'.at_ (fun j a e => by simpa using e) hv⟩
  refine ⟨H, mads vs fas, He, _, o, by rw [hl]; exact rel_start (n - fas.length) hs hp hn, h1, ?_⟩
  cases o with
  | nx S' =>
    exact fun σ' H' He' G R' => q .non H' He' (after G R') (by rw [← h2]; exact (.non : Dp K He' .non .none))
  | rt r' S' =>
    cases r' with
    | d x => exact fun v σ' H' He' G R' d => q v H' He' (after G R') (by rw [← h2]; exact d)
    | f c =>
      intro v σ' H' He' G R' d
      obtain ⟨a, o, e1, e2, e3, e4, e5⟩ := d
      exact q v H' He' (after G R') (by rw [← h2]; exact ⟨a, o, e1, e5, e2, e3, e4⟩)
    | x k => exact fun σ' H' He' G R' => qx k h2.symm H' He' (after G R')
end
section
variable {P : Program} {w : World} {K : PySem.W.Frag} {mg : Str → Option Value} {base : Heap}
theorem sp_len {cls : Nat → Value} {F : FF} {n : Nat} (hl : ∀ fas r, F fas = some r → fas.length = n) {vs : List V} {H : Hp} {Q : VK} {E : XK} (h : spF K cls F vs H Q E) : vs.length = n := by
  obtain ⟨He, fas, r, news, hs, hp, hn, hF, q, qx⟩ := h
  rw [Paired.length hp]
  exact hl fas _ hF
theorem okN {x qual : Str} {st : Stmt} {f : Addr} {fd : FuncData} {N ps : List Str} {k : Nat} {sp : Sp} (Fn : Fun K x qual st f fd) (Sc : FnScope N ps (defScope st)) (hl : ∀ vs H Q E, sp vs H Q E → vs.length = ps.length)
    (hb : ∀ (cdv : Value) (A : Around) (outer : List Env) (s : Shared) (H : Hp) (vs : List V) (Q : VK) (E : XK), Room k (A.deeper (envOfC qual (defScope st) s.heap.objs.size f cdv)) → sp vs H Q E →
      ∃ t, PSs (cxOf (L2N.CX P w) P w K mg base N qual (defScope st) f cdv A outer s H E) (defBody st) t ∧ t { nx := fun _ H' => Q .non H', rt := Q } (start N vs) H) :
    FnOk P w K mg base (L2N.CX P w) (k + 1) f fd ps sp := by
  obtain ⟨oc, od, kV, doc, pm, an, cdv, ct, osl, rfl, h1, h2⟩ := Fn.ex
  exact fn_of h1 h2 Sc hl (hb cdv)
/-- THE RULE: a def that lets nothing out -/
theorem def_ok {cls : Nat → Value} {x qual : Str} {st : Stmt} {f : Addr} {fd : FuncData} {N ps : List Str} {k : Nat} {F : FF} {m : MS} (Fn : Fun K x qual st f fd) (Sc : FnScope N ps (defScope st)) (hl : ∀ fas r, F fas = some r → fas.length = ps.length) (hx : ∀ fas n news, F fas ≠ some (.x n, news))
    (hm : Comp N.length m F)
    (hbody : ∀ (cdv : Value) (A : Around) (outer : List Env) (s : Shared) (H : Hp) (E : XK), Room k (A.deeper (envOfC qual (defScope st) s.heap.objs.size f cdv)) →
      PSs (cxOf (L2N.CX P w) P w K mg base N qual (defScope st) f cdv A outer s H E).nox (defBody st) (tS K (fun _ _ _ => False) m)) :
    FnOk P w K mg base (L2N.CX P w) (k + 1) f fd ps (spF K cls F) := by
  refine okN Fn Sc (fun vs H Q E h => sp_len hl h) (fun cdv A outer s H vs Q E hr h => ?_)
  refine ⟨_, (hbody cdv A outer s H E hr).nox, ?_⟩
  have hb := body_ok (cls := cls) (E := fun _ _ _ => False) hm (n := N.length) (by
    obtain ⟨He, fas, r, news, hs, hp, hn, hF, q, qx⟩ := h
    exact ⟨He, fas, r, news, hs, hp, hn, hF, q, fun n e => absurd (e ▸ hF) (hx fas n news)⟩)
  exact hb
/-- a def that never runs -/
theorem fn_never {cls : Nat → Value} {k : Nat} {f : Addr} {fd : FuncData} {ps : List Str} : FnOk P w K mg base (L2N.CX P w) k f fd ps (spF K cls fun _ => none) :=
  ⟨fun vs H Q E h => (by
    obtain ⟨He, fas, r, news, hs, hp, hn, hF, q, qx⟩ := h
    cases hF), fun A outer s H args us vs Q E _ _ _ _ h => (by
    obtain ⟨He, fas, r, news, hs, hp, hn, hF, q, qx⟩ := h
    cases hF)⟩
end
/-- the function that a body computes: p parameters, n slots -/
def runF (p n : Nat) (m : MS) : FF := fun fas => if fas.length = p then
    match m (initS 0 fas ++ List.replicate (n - p) .no) with
    | some o => match o.res with
      | .x _ => none
      | r => match newsOf 0 fas o.sl with
        | some news => some (r, news)
        | none => none
    | none => none
  else none
theorem runF_len {p n : Nat} {m : MS} : ∀ fas r, runF p n m fas = some r → fas.length = p := fun fas r h => by
  unfold runF at h
  split at h
  · assumption
  · cases h
theorem runF_nox {p n : Nat} {m : MS} : ∀ fas k news, runF p n m fas ≠ some (.x k, news) := fun fas k news h => by
  unfold runF at h
  split at h
  · split at h
    · split at h
      · cases h
      · rename_i r hr
        split at h
        · have := Option.some.inj h
          have e := congrArg Prod.fst this
          exact hr k e
        · cases h
    · cases h
  · cases h
theorem comp_run {p n : Nat} {m : MS} (hpn : p ≤ n) : Comp n m (runF p n m) := fun fas r news h => by
  unfold runF at h
  split at h
  · rename_i hl
    split at h
    · rename_i o ho
      split at h
      · cases h
      · rename_i r' hr
        split at h
        · rename_i news' hn
          have := Option.some.inj h
          cases this
          exact ⟨by omega, o, by rw [hl]; exact ho, rfl, hn⟩
        · cases h
    · cases h
  · cases h
/-- a def of the text -/
structure Df (K : PySem.W.Frag) (mg : Str → Option Value) (x : Str) (st : Stmt) (ps : List Str) where
  f : Addr
  fd : FuncData
  F : Fun K x x st f fd
  b : Binds K fd ps []
  g : mg x = some (.ref f)
theorem run_ok {P : Program} {w : World} {K : PySem.W.Frag} {mg : Str → Option Value} {base : Heap} {cls : Nat → Value} {x : Str} {st : Stmt} {N ps : List Str} (D : Df K mg x st ps) {k p n : Nat} {m : MS} (Sc : FnScope N ps (defScope st)) (hp : ps.length = p) (hn : N.length = n) (hpn : p ≤ n)
    (hbody : ∀ (cdv : Value) (A : Around) (outer : List Env) (s : Shared) (H : Hp) (E : XK), Room k (A.deeper (envOfC x (defScope st) s.heap.objs.size D.f cdv)) →
      PSs (cxOf (L2N.CX P w) P w K mg base N x (defScope st) D.f cdv A outer s H E).nox (defBody st) (tS K (fun _ _ _ => False) m)) :
    FnOk P w K mg base (L2N.CX P w) (k + 1) D.f D.fd ps (spF K cls (runF p n m)) := by
  subst hp hn
  exact def_ok D.F Sc runF_len runF_nox (comp_run hpn) hbody
end Rp
set_option Elab.async false
set_option linter.all false
set_option maxRecDepth 100000
/-! Loops and comprehensions. -/
namespace Rp
open PySem PySem.Spec PyProof.Rows L2

/-! ### while -/
theorem whileN_mono {t : M Bool} {b : MS} : ∀ {n : Nat} {S : Sl} {o : Out}, whileN t b n S = some o → whileN t b (n + 1) S = some o
  | 0, _, _, h => by cases h
  | n + 1, S, o, h => by
    unfold whileN at h ⊢
    split at h
    · rename_i S1 h1
      split at h
      · rename_i S2 h2
        exact whileN_mono h
      · exact h
    · exact h
    · cases h
theorem whileN_le {t : M Bool} {b : MS} {n m : Nat} {S : Sl} {o : Out} (h : whileN t b n S = some o) (hl : n ≤ m) : whileN t b m S = some o := by
  induction hl with
  | refl => exact h
  | step _ ih => exact whileN_mono ih
open Classical in
noncomputable def sWhile (t : M Bool) (b : MS) : MS := fun S => if h : ∃ n o, whileN t b n S = some o then whileN t b h.choose S else none
theorem sWhile_of {t : M Bool} {b : MS} {n : Nat} {S : Sl} {o : Out} (h : whileN t b n S = some o) : sWhile t b S = some o := by
  have hx : ∃ n o, whileN t b n S = some o := ⟨n, o, h⟩
  unfold sWhile
  rw [dif_pos hx]
  obtain ⟨o', e⟩ := hx.choose_spec
  have e1 := whileN_le e (Nat.le_max_left hx.choose n)
  have e2 := whileN_le h (Nat.le_max_right hx.choose n)
  rw [e]
  rw [e1] at e2
  exact e2
theorem sWhile_inv {t : M Bool} {b : MS} {S : Sl} {o : Out} (h : sWhile t b S = some o) : ∃ n, whileN t b n S = some o := by
  unfold sWhile at h
  split at h
  · exact ⟨_, h⟩
  · cases h
theorem sWhile_eq (t : M Bool) (b : MS) (S : Sl) : sWhile t b S = match t S with
    | some (true, S1) => match b S1 with
      | some (.nx S2) => sWhile t b S2
      | r => r
    | some (false, S1) => some (.nx S1)
    | none => none := by
  cases q : sWhile t b S with
  | some o =>
    obtain ⟨n, e⟩ := sWhile_inv q
    cases n with
    | zero => cases e
    | succ n =>
      unfold whileN at e
      split at e
      · rename_i S1 h1
        try rw [h1]
        try simp only
        split at e
        · rename_i S2 h2
          try rw [h2]
          try simp only
          exact (sWhile_of e).symm
        · rename_i r hn
          first | (exact e) | (exact e.symm) | (rw [← e]; split <;> first | rfl | (rename_i S2 h2; exact absurd h2 (hn S2)))
      · rename_i S1 h1
        try rw [h1]
        exact e.symm
      · cases e
  | none =>
    symm
    split
    · rename_i S1 h1
      split
      · rename_i S2 h2
        cases r : sWhile t b S2 with
        | none => rfl
        | some o =>
          obtain ⟨n, e⟩ := sWhile_inv r
          have : whileN t b (n + 1) S = some o := by
            unfold whileN
            rw [h1]; simp only
            rw [h2]; exact e
          rw [sWhile_of this] at q
          cases q
      · rename_i r hn
        cases r1 : b S1 with
        | none => rfl
        | some o =>
          have : whileN t b 1 S = some o := by
            unfold whileN
            rw [h1]; simp only
            rw [r1]
          rw [sWhile_of this] at q
          cases q
    · rename_i S1 h1
      have : whileN t b 1 S = some (.nx S1) := by
        unfold whileN
        rw [h1]
      rw [sWhile_of this] at q
      cases q
    · rfl
section
variable {X : Cx} {e a b c : Expr} {es rest : List Expr} {st : Stmt} {sts sts' : List Stmt} {ma mb : M Dat} {mf : M Ct} {mt : M Bool} {m1 m2 : MS} {E : Nat → L2.St → Hp → Prop} {pos : Pos}
theorem ss_while (hp : PassesOwn (model X.prog X.w) X.A X.env X.xe) (hc : PT X c (tT X.K mt)) (hb : PSs X sts (tS X.K E m1)) : PS X (.While c sts [] pos) (tS X.K E (sWhile mt m1)) := (ps_while hp hc hb).imp fun D σ H q => by
  obtain ⟨U, ms, He, S, o, R, h, q⟩ := q
  obtain ⟨n, h⟩ := sWhile_inv h
  refine ⟨fun m σ' H' => ∃ He' S', Grow U He He' ∧ Rel X.K U ms He' S' σ' H' ∧ whileN mt m1 m S' = some o, ⟨n, He, S, .refl _ _, R, h⟩, fun m σ1 H1 w => ?_⟩
  obtain ⟨He1, S1, G1, R1, h1⟩ := w
  cases m with
  | zero => cases h1
  | succ m =>
    unfold whileN at h1
    split at h1
    · rename_i S2 h2
      refine ⟨U, ms, He1, S1, true, S2, R1, h2, fun H2 He2 G2 R2 => iteT ?_⟩
      refine ⟨fun σ' H' => ∃ He' S', Grow U He He' ∧ Rel X.K U ms He' S' σ' H' ∧ whileN mt m1 m S' = some o, fun σ' H' z => ⟨m, Nat.lt_succ_self m, z⟩, ?_⟩
      split at h1
      · rename_i S3 h3
        exact ⟨U, ms, He2, S2, _, R2, h3, fun σ' H' He' G R' => ⟨He', S3, (G1.trans G2).trans G, R', h1⟩⟩
      · rename_i r hn
        refine ⟨U, ms, He2, S2, o, R2, h1, ?_⟩
        cases o with
        | nx S' => exact absurd h1 (hn S')
        | rt r S' =>
          cases r with
          | d x => exact fun v σ2 H2 He2 G R2 d => q v σ2 H2 He2 ((G1.trans G2).trans G) R2 d
          | f c => exact fun v σ2 H2 He2 G R2 d => q v σ2 H2 He2 ((G1.trans G2).trans G) R2 d
          | x n => exact fun σ2 H2 He2 G R2 => q σ2 H2 He2 ((G1.trans G2).trans G) R2
    · rename_i S2 h2
      cases h1
      exact ⟨U, ms, He1, S1, false, S2, R1, h2, fun H2 He2 G2 R2 => iteF (q σ1 H2 He2 (G1.trans G2) R2)⟩
    · cases h1
/-! ### targets -/
def TgD (K : PySem.W.Frag) (g : TG) (gd : Dat → Sl → Option Sl) : Prop :=
  ∀ (U : Hp) (ms : List Addr) (He : Hp) (S S' : Sl) (σ : L2.St) (H : Hp) (v : V) (x : Dat) (Q : L2.St → Hp → Prop), Rel K U ms He S σ H → Dp K He v x → gd x S = some S' → (∀ σ', Rel K U ms He S' σ' H → Q σ' H) → g v σ H Q
def gN (i : Nat) : Dat → Sl → Option Sl := fun x S => some (S.set i (.d x))
def gT (is : List Nat) : Dat → Sl → Option Sl := fun x S => match x with
  | .tuple xs => if xs.length = is.length then some (putL S is xs) else none
  | _ => none
theorem tg_n {K : PySem.W.Frag} {i : Nat} : TgD K (gName i) (gN i) := fun U ms He S S' σ H v x Q R d h q => by
  cases h
  exact q _ (R.setD d)
def TgsD (K : PySem.W.Frag) (g : TGs) (is : List Nat) : Prop :=
  ∀ (U : Hp) (ms : List Addr) (He : Hp) (S : Sl) (σ : L2.St) (H : Hp) (vs : List V) (xs : List Dat) (Q : L2.St → Hp → Prop), Rel K U ms He S σ H → DpAll K He vs xs → xs.length = is.length → (∀ σ', Rel K U ms He (putL S is xs) σ' H → Q σ' H) → g vs σ H Q
theorem tgs_nil {K : PySem.W.Frag} : TgsD K gNil [] := fun U ms He S σ H vs xs Q R d hl q => by
  cases xs with
  | nil => cases d; exact ⟨rfl, q σ R⟩
  | cons x xs => simp at hl
theorem tgs_cons {K : PySem.W.Frag} {i : Nat} {is : List Nat} {g : TGs} (h : TgsD K g is) : TgsD K (gCons (gName i) g) (i :: is) := fun U ms He S σ H vs xs Q R d hl q => by
  cases xs with
  | nil => simp at hl
  | cons x xs =>
    cases d with
    | cons d1 d2 => exact ⟨_, _, rfl, h U ms He _ _ H _ xs Q (R.setD d1) d2 (by simpa using hl) q⟩
theorem tg_t {K : PySem.W.Frag} {is : List Nat} {n : Nat} {g : TGs} (hn : n = is.length) (h : TgsD K g is) : TgD K (gTup K n g) (gT is) := fun U ms He S S' σ H v x Q R d hh q => by
  unfold gT at hh
  split at hh
  · rename_i xs
    split at hh
    · rename_i hl
      cases hh
      obtain ⟨a, vs, rfl, h1, h2⟩ := dp_tup d
      exact ⟨a, vs, rfl, sqT_mono R.data h1, by rw [dpAll_length h2, hl, hn], h U ms He S σ H vs xs Q R h2 hl q⟩
    · cases hh
  · cases hh
/-- x, y, .. = a tuple -/
theorem ss_unp {tg : Expr} {g : TG} {is : List Nat} (he : PE X e (tM X.K ma)) (hg : PG X tg g) (ht : TgD X.K g (gT is)) (hs : swapsWithSole [tg] e pos.line X.env = pure false := by rfl) (hw : swappedStores [tg] e X.env = pure none := by rfl) (h1 : (assignEach [tg] X.env).map (·.2) = [assign tg X.env] := by rfl) :
    PS X (.Assign [tg] e pos) (tS X.K E (sUnp is ma)) := (ps_asg he hg hs hw h1).imp fun D σ H q => by
  obtain ⟨U, ms, He, S, o, R, h, q⟩ := q
  unfold sUnp at h
  split at h
  · rename_i xs S1 h1
    split at h
    · rename_i hl
      cases h
      refine .mk R h1 fun v H' He' G R' d => ?_
      refine ht U ms He' S1 (putL S1 is xs) σ H' v _ _ R' d ?_ fun σ' R2 => q σ' H' He' G R2
      show (if xs.length = is.length then some (putL S1 is xs) else none) = _
      rw [if_pos hl]
    · cases h
  · cases h
/-! ### what is walked -/
structure Walks (K : PySem.W.Frag) (He : Hp) (J : It) (xs : List Dat) : Prop where
  go : ∀ i H, Same He H → i < xs.length → J.go i H
  yld : ∀ i H x H', Same He H → i < xs.length → J.yld i H x H' → H' = H ∧ ∃ y, xs[i]? = some y ∧ Dp K He x y
  stop : ∀ i H, Same He H → i = xs.length → J.stop i H
def Src (K : PySem.W.Frag) (wi : TI) (m : M (List Dat)) : Prop :=
  ∀ (σ : L2.St) (H : Hp) (R : It → Hp → Prop) (U : Hp) (ms : List Addr) (He : Hp) (S S1 : Sl) (xs : List Dat), Rel K U ms He S σ H → m S = some (xs, S1) → (∀ J H1 He1, Grow U He He1 → Rel K U ms He1 S1 σ H1 → Walks K He1 J xs → R J H1) → wi σ H R
def mItems (m : M Dat) : M (List Dat) := fun S => match m S with
  | some (.list xs, S1) => some (xs, S1)
  | _ => none
theorem src_list {K : PySem.W.Frag} {ma : M Dat} : Src K (iList K (tM K ma)) (mItems ma) := by
  intro σ H R U ms He S S1 xs hR h q
  unfold mItems at h
  split at h
  · rename_i ys S2 h1
    cases h
    refine .mk hR h1 fun v H1 He1 G1 R1 d1 => ?_
    obtain ⟨a, vs, rfl, h2, h3⟩ := dp_lst d1
    refine ⟨a, rfl, ⟨vs, R1.data.seq h2⟩, q _ H1 He1 G1 R1 ⟨fun i H' s hi => ?_, fun i H' x H2 s hi y => ?_, fun i H' s hi => ?_⟩⟩
    · have hv : i < vs.length := by rw [dpAll_length h3]; exact hi
      exact ⟨vs, vs[i], s.seq h2, List.getElem?_eq_getElem hv⟩
    · obtain ⟨e, f⟩ := y
      obtain ⟨z, e2, d⟩ := dpAll_at h3 (f vs (s.seq h2))
      exact ⟨e, z, e2, d⟩
    · exact ⟨vs, s.seq h2, by rw [dpAll_length h3, hi]; exact Nat.le_refl _⟩
  · cases h
/-- lo, lo + 1, .. below hi -/
def rangeD (lo hi : Int) : List Dat := (List.range (hi - lo).toNat).map fun (i : Nat) => PyData.int (lo + i)
theorem rangeD_length (lo hi : Int) : (rangeD lo hi).length = (hi - lo).toNat := by unfold rangeD; simp
theorem rangeD_get {lo hi : Int} {i : Nat} (h : i < (hi - lo).toNat) : (rangeD lo hi)[i]? = some (.int (lo + i)) := by
  unfold rangeD
  rw [List.getElem?_map, List.getElem?_range h]; rfl
theorem walks_range {K : PySem.W.Frag} {He : Hp} {lo hi : Int} : Walks K He (Itr lo (hi - lo).toNat) (rangeD lo hi) := by
  refine ⟨fun i H s h => ?_, fun i H x H' s h y => ?_, fun i H s h => ?_⟩
  · rw [rangeD_length] at h; exact h
  · rw [rangeD_length] at h
    obtain ⟨e, rfl⟩ := y
    exact ⟨e, _, rangeD_get h, .int _⟩
  · rw [rangeD_length] at h; exact Nat.le_of_eq h.symm
def inLine (i : Int) : Bool := Nat.ble i.natAbs 1000000000000000
theorem inLine_ok {i : Int} (h : inLine i = true) : -(2 ^ 62) ≤ i ∧ i < 2 ^ 62 := by
  have := Nat.le_of_ble_eq_true h
  omega
def mRange1 (m : M Dat) : M (List Dat) := fun S => match m S with
  | some (.int j, S1) => if inLine j then some (rangeD 0 j, S1) else none
  | _ => none
def mRange2 (m1 m2 : M Dat) : M (List Dat) := fun S => match m1 S with
  | some (.int i, S1) => match m2 S1 with
    | some (.int j, S2) => if inLine i && inLine j then some (rangeD i j, S2) else none
    | _ => none
  | _ => none
theorem src_range1 {K : PySem.W.Frag} {ma : M Dat} : Src K (iRng1 (tAs K (mCons ma mNil))) (mRange1 ma) := by
  intro σ H R U ms He S S1 xs hR h q
  unfold mRange1 at h
  split at h
  · rename_i j S2 h1
    split at h
    · rename_i hl
      cases h
      refine ⟨U, ms, He, S, [.int j], _, hR, by unfold mCons; rw [h1]; rfl, fun vs H1 He1 G1 R1 d1 => ?_⟩
      have : vs = [V.int j] := by
        cases d1 with
        | cons g1 g2 => cases g2; rw [dp_int g1]
      subst this
      have hl := inLine_ok hl
      refine ⟨j, rfl, hl.1, hl.2, ?_⟩
      have := q _ H1 He1 G1 R1 (walks_range (lo := 0) (hi := j))
      rwa [Int.sub_zero] at this
    · cases h
  · cases h
theorem src_range2 {K : PySem.W.Frag} {ma mb : M Dat} : Src K (iRng2 (tAs K (mCons ma (mCons mb mNil)))) (mRange2 ma mb) := by
  intro σ H R U ms He S S1 xs hR h q
  unfold mRange2 at h
  split at h
  · rename_i i S2 h1
    split at h
    · rename_i j S3 h2
      split at h
      · rename_i hl
        cases h
        refine ⟨U, ms, He, S, [.int i, .int j], _, hR, by unfold mCons; rw [h1]; simp only; rw [h2]; rfl, fun vs H1 He1 G1 R1 d1 => ?_⟩
        have : vs = [V.int i, V.int j] := by
          cases d1 with
          | cons g1 g2 =>
            cases g2 with
            | cons g3 g4 => cases g4; rw [dp_int g1, dp_int g3]
        subst this
        rw [Bool.and_eq_true] at hl
        have h3 := inLine_ok hl.1
        have h4 := inLine_ok hl.2
        exact ⟨i, j, rfl, ⟨h3.1, h3.2, h4.1, h4.2⟩, q _ H1 He1 G1 R1 walks_range⟩
      · cases h
    · cases h
  · cases h
/-! ### for -/
def sFor (src : M (List Dat)) (g : Dat → Sl → Option Sl) (b : MS) : MS := fun S => match src S with
  | some (xs, S1) => forL g b xs S1
  | none => none
theorem ss_for {tg iter : Expr} {wi : TI} {src : M (List Dat)} {g : TG} {gd : Dat → Sl → Option Sl} (hp : PassesOwn (model X.prog X.w) X.A X.env X.xe) (hc : X.calm = true) (hi : PI X tg iter wi) (hw : Src X.K wi src) (hg : PG X tg g) (ht : TgD X.K g gd) (hb : PSs X sts (tS X.K E m1))
    (hs : ∀ x, foldedSetIterable iter X.env x = pure x := by intro _; rfl) : PS X (.For tg iter sts [] pos) (tS X.K E (sFor src gd m1)) := (ps_for hp hc hi hg hb hs).imp fun D σ H q => by
  obtain ⟨U, ms, He, S, o, R, h, q⟩ := q
  unfold sFor at h
  split at h
  · rename_i xs S1 h1
    refine hw σ H _ U ms He S S1 xs R h1 fun J H1 He1 G1 R1 W => ?_
    refine ⟨fun i m σ' H' => m = xs.length - i ∧ i ≤ xs.length ∧ ∃ He' S', Grow U He1 He' ∧ Rel X.K U ms He' S' σ' H' ∧ forL gd m1 (xs.drop i) S' = some o, ⟨xs.length, by simp, Nat.zero_le _, He1, S1, .refl _ _, R1, h⟩, fun i m σ' H' w => ?_⟩
    obtain ⟨rfl, hi, He', S', G, R', h4⟩ := w
    have s : Same He1 H' := G.same.trans R'.data
    by_cases hlt : i < xs.length
    · refine .inr ⟨W.go i H' s hlt, fun σ2 H2 => i + 1 ≤ xs.length ∧ ∃ He' S', Grow U He1 He' ∧ Rel X.K U ms He' S' σ2 H2 ∧ forL gd m1 (xs.drop (i + 1)) S' = some o, fun σ2 H2 w => ⟨xs.length - (i + 1), by omega, rfl, w.1, w.2⟩, fun x H2 y => ?_⟩
      obtain ⟨rfl, y, hy, dy⟩ := W.yld i H' x H2 s hlt y
      rw [List.drop_eq_getElem_cons hlt] at h4
      have ey : xs[i] = y := by
        rw [List.getElem?_eq_getElem hlt] at hy; exact Option.some.inj hy
      rw [ey] at h4
      unfold forL at h4
      split at h4
      · rename_i S2 h5
        refine ht U ms He' S' S2 σ' H2 x y _ R' (dp_mono G.same dy) h5 fun σ2 R2 => ?_
        split at h4
        · rename_i S3 h6
          exact ⟨U, ms, He', S2, _, R2, h6, fun σ3 H3 He3 G3 R3 => ⟨hlt, He3, S3, G.trans G3, R3, h4⟩⟩
        · rename_i r hn
          refine ⟨U, ms, He', S2, o, R2, h4, ?_⟩
          cases o with
          | nx S' => exact absurd h4 (hn S')
          | rt r S' =>
            cases r with
            | d x => exact fun v σ2 H2 He2 G2 R2 d => q v σ2 H2 He2 ((G1.trans G).trans G2) R2 d
            | f c => exact fun v σ2 H2 He2 G2 R2 d => q v σ2 H2 He2 ((G1.trans G).trans G2) R2 d
            | x n => exact fun σ2 H2 He2 G2 R2 => q σ2 H2 He2 ((G1.trans G).trans G2) R2
      · cases h4
    · have e : i = xs.length := by omega
      subst e
      rw [List.drop_length] at h4
      cases h4
      exact .inl ⟨W.stop _ H' s rfl, q σ' H' He' (G1.trans G) R'⟩
  · cases h
/-! ### comprehensions: the target a name in slot j -/
def compL (j : Nat) (t : M Bool) (e : M Dat) : List Dat → Sl → Option (List Dat × Sl)
  | [], S => some ([], S)
  | x :: xs, S => match t (S.set j (.d x)) with
    | some (true, S2) => match e S2 with
      | some (y, S3) => match compL j t e xs (S3.set j .no) with
        | some (ys, S4) => some (y :: ys, S4)
        | none => none
      | none => none
    | some (false, S2) => compL j t e xs (S2.set j .no)
    | none => none
def tYes : M Bool := fun S => some (true, S)
def mComp (src : M (List Dat)) (j : Nat) (t : M Bool) (e : M Dat) : M Ct := fun S => match src S with
  | some (xs, S1) => match compL j t e xs (S1.set j .no) with
    | some (ys, S2) => if xs.length ≤ 100000 then some (.l ys, S2) else none
    | none => none
  | none => none
theorem compL_len {j : Nat} {t : M Bool} {e : M Dat} : ∀ {xs : List Dat} {S S' : Sl} {ys : List Dat}, compL j t e xs S = some (ys, S') → ys.length ≤ xs.length
  | [], _, _, _, h => by cases h; exact Nat.le_refl _
  | x :: xs, S, S', ys, h => by
    unfold compL at h
    split at h
    · split at h
      · split at h
        · rename_i zs S4 h3
          cases h
          have := compL_len h3
          rw [List.length_cons, List.length_cons]; omega
        · cases h
      · cases h
    · have := compL_len h
      rw [List.length_cons]; omega
    · cases h
theorem sts_nil : PTs X [] (tT X.K tYes) := ⟨fun pins s σ H Q I q => by
  obtain ⟨U, ms, He, S, b, S', R, h, q⟩ := q
  cases h
  exact pts_nil.run pins s σ H Q I (q H He (.refl _ _) R)⟩
theorem sts_one (h : PT X c (tT X.K mt)) : PTs X [c] (tT X.K mt) := pts_one h
/-- the turn's state beside the list that is made -/
theorem rel_turn {K : PySem.W.Frag} {U : Hp} {ms : List Addr} {He : Hp} {S : Sl} {σ : L2.St} {H : Hp} {p : Addr} {acc : List V} (R : Rel K U ms He S σ H) (hU : U p = none) (hH : H p = some (.lst acc))
    (hs : ∀ (i : Nat) (sv : SV) (c : Ct), S[i]? = some sv → sv.own = some c → σ[i]? ≠ some (some (.ref p))) : Rel K (L2.upd U p (.lst acc)) ms He S σ H := by
  refine ⟨R.len, fun i sv e => ?_, R.sep, fun a o h hm => ?_, fun a h => ?_, R.data, fun a h => ?_⟩
  · obtain ⟨ov, eo, q⟩ := R.at_ i sv e
    refine ⟨ov, eo, ?_⟩
    cases sv with
    | no => trivial
    | d x => exact q
    | o c =>
      obtain ⟨a, rfl, h1, h3, h4, h5⟩ := q
      have ha : a ≠ p := fun z => hs i _ c e rfl (z ▸ eo)
      exact ⟨a, rfl, h1, h3, fun z => by rw [upd_ne ha]; exact h4 z, h5⟩
    | m k c =>
      obtain ⟨a, rfl, h1, h3, h4, h5⟩ := q
      exact ⟨a, rfl, h1, h3, fun z => (by obtain ⟨c', z⟩ := z; cases z), h5⟩
  · by_cases ha : a = p
    · subst ha; rw [upd_same] at h; rw [← h]; exact hH
    · rw [upd_ne ha] at h; exact R.frame a o h hm
  · by_cases ha : a = p
    · subst ha; rw [hH]; simp
    · rw [upd_ne ha] at h; exact R.used a h
  · by_cases ha : a = p
    · subst ha; rw [upd_same]; simp
    · rw [upd_ne ha]; exact R.mu a h
/-- .. and behind it -/
theorem rel_back {K : PySem.W.Frag} {U : Hp} {ms : List Addr} {He' : Hp} {S : Sl} {σ : L2.St} {H : Hp} {p : Addr} {acc new : List V} (R : Rel K (L2.upd U p (.lst acc)) ms He' S σ H) (hU : U p = none) (hm : ∀ a ∈ ms, U a ≠ none) (hp : He' p = none) :
    Rel K U ms He' S σ (L2.upd H p (.lst new)) ∧ (∀ (i : Nat) (sv : SV) (c : Ct), S[i]? = some sv → sv.own = some c → σ[i]? ≠ some (some (.ref p))) ∧ H p = some (.lst acc) := by
  have pm : p ∉ ms := fun z => hm p z hU
  have hs : ∀ (i : Nat) (sv : SV) (c : Ct), S[i]? = some sv → sv.own = some c → σ[i]? ≠ some (some (.ref p)) := fun i sv c e ho h => by
    obtain ⟨a, ea, O⟩ := R.own e ho
    rw [h] at ea
    cases ea
    cases sv with
    | no => cases ho
    | d x => cases ho
    | o c' => have := O.u ⟨_, rfl⟩; rw [upd_same] at this; cases this
    | m k c' => exact pm (List.mem_of_getElem? (O.m _ _ rfl))
  refine ⟨⟨R.len, fun i sv e => ?_, R.sep, fun a o h hm' => ?_, fun a h => ?_, fun a o h => ?_, hm⟩, hs, R.frame p _ upd_same pm⟩
  · obtain ⟨ov, eo, q⟩ := R.at_ i sv e
    refine ⟨ov, eo, ?_⟩
    cases sv with
    | no => trivial
    | d x => exact q
    | o c =>
      obtain ⟨a, rfl, ⟨o, h1, h2⟩, h3, h4, h5⟩ := q
      have ha : a ≠ p := fun z => hs i _ c e rfl (z ▸ eo)
      exact ⟨a, rfl, ⟨o, by rw [upd_ne ha]; exact h1, h2⟩, h3, fun z => by have := h4 z; rwa [upd_ne ha] at this, h5⟩
    | m k c =>
      obtain ⟨a, rfl, ⟨o, h1, h2⟩, h3, h4, h5⟩ := q
      have ha : a ≠ p := fun z => hs i _ c e rfl (z ▸ eo)
      exact ⟨a, rfl, ⟨o, by rw [upd_ne ha]; exact h1, h2⟩, h3, fun z => (by obtain ⟨c', z⟩ := z; cases z), h5⟩
  · have ha : a ≠ p := fun z => by subst z; rw [hU] at h; cases h
    rw [upd_ne ha]
    exact R.frame a o (by rw [upd_ne ha]; exact h) hm'
  · by_cases ha : a = p
    · subst ha; rw [upd_same]; simp
    · rw [upd_ne ha]
      exact R.used a (by rw [upd_ne ha]; exact h)
  · have ha : a ≠ p := fun z => by subst z; rw [hp] at h; cases h
    rw [upd_ne ha]
    exact R.data a o h
theorem grow_back {U He He' : Hp} {p : Addr} {o : HO} (G : Grow (L2.upd U p o) He He') : Grow U He He' := ⟨G.same, fun a h u => G.new a h (by
  by_cases ha : a = p
  · subst ha; rw [upd_same]; simp
  · rw [upd_ne ha]; exact u)⟩
theorem tF_comp {K : PySem.W.Frag} {σ : L2.St} {H : Hp} {Q : VK} {wi : TI} {src : M (List Dat)} {j : Nat} (hw : Src K wi src) (h : tF K (mComp src j mt ma) σ H Q) : tLc wi (gName j) (tT K mt) (tM K ma) [j] σ H Q := by
  obtain ⟨U, ms, He, S, z, S2, R, h, q⟩ := h
  unfold mComp at h
  split at h
  · rename_i xs S1 h1
    split at h
    · rename_i ys S3 h2
      split at h
      · rename_i hlen
        cases h
        refine hw σ H _ U ms He S S1 xs R h1 fun J H1 He1 G1 R1 W p hp => ?_
        have hUp : U p = none := by
          cases e : U p with
          | none => rfl
          | some u => exact absurd hp (R1.used p (by rw [e]; simp))
        have hHep : He1 p = none := R1.data.free hp
        have hset : (σ.set j none).set j (σ.getD j none) = σ := by
          rw [List.set_set]
          apply List.ext_getElem?
          intro k
          by_cases hk : j = k
          · subst hk
            by_cases hl : j < σ.length
            · rw [List.getElem?_set_self hl, List.getD_eq_getElem?_getD, List.getElem?_eq_getElem hl]; rfl
            · rw [List.getElem?_eq_none (by simpa using hl), List.getElem?_eq_none (by simpa using hl)]
          · rw [List.getElem?_set_ne hk]
        have hno : ∀ {S : Sl} {σ' : L2.St} {i : Nat} {sv : SV} {c : Ct}, S[i]? = some sv → sv.own = some c → (∀ (i : Nat) (sv : SV) (c : Ct), S[i]? = some sv → sv.own = some c → σ'[i]? ≠ some (some (.ref p))) → σ'[i]? ≠ some (some (.ref p)) := fun h1 h2 h3 => h3 _ _ _ h1 h2
        -- the state over the wiped slots
        refine ⟨fun i m H' => m = xs.length - i ∧ i ≤ xs.length ∧ ∃ He' S' acc ds zs, Grow U He1 He' ∧ Rel K U ms He' S' (σ.set j none) H' ∧ He' p = none ∧ (∀ (i : Nat) (sv : SV) (c : Ct), S'[i]? = some sv → sv.own = some c → (σ.set j none)[i]? ≠ some (some (.ref p))) ∧
          (S'[j]? = none ∨ S'[j]? = some .no) ∧ H' p = some (.lst acc) ∧ DpAll K He' acc ds ∧ ds.length ≤ i ∧ compL j mt ma (xs.drop i) S' = some (zs, S2) ∧ ds ++ zs = ys, ⟨xs.length, by simp, Nat.zero_le _, ?_⟩, fun i m H' w => ?_⟩
        · have E := ext_fresh (o := HO.lst []) R1.data hp
          have R2 := (E.rel R1).setNo (i := j) (ov := none)
          refine ⟨He1, S1.set j .no, [], [], ys, .refl _ _, R2, hHep, fun i sv c e ho he => ?_, ?_, upd_same, .nil, Nat.le_refl _, h2, rfl⟩
          · have hij : j ≠ i := fun z => by
              subst z
              have hl : j < S1.length := by
                have := (List.getElem?_eq_some_iff.mp e).1
                simpa using this
              rw [List.getElem?_set_self hl] at e; cases e; cases ho
            rw [List.getElem?_set_ne hij] at e he
            obtain ⟨a, ea, O⟩ := R1.own e ho
            rw [he] at ea
            cases ea
            obtain ⟨o, e1, _⟩ := O.at_
            rw [hp] at e1; cases e1
          · by_cases hl : j < S1.length
            · exact .inr (List.getElem?_set_self hl)
            · exact .inl (List.getElem?_eq_none (by simpa using hl))
        · obtain ⟨rfl, hi, He', S', acc, ds, zs, G, R', hHe', hsep, hj, hacc, dacc, hdl, hc, hys⟩ := w
          have s : Same He1 H' := G.same.trans R'.data
          by_cases hlt : i < xs.length
          · refine .inr ⟨W.go i H' s hlt, fun H' => i + 1 ≤ xs.length ∧ ∃ He' S' acc ds zs, Grow U He1 He' ∧ Rel K U ms He' S' (σ.set j none) H' ∧ He' p = none ∧ (∀ (i : Nat) (sv : SV) (c : Ct), S'[i]? = some sv → sv.own = some c → (σ.set j none)[i]? ≠ some (some (.ref p))) ∧
              (S'[j]? = none ∨ S'[j]? = some .no) ∧ H' p = some (.lst acc) ∧ DpAll K He' acc ds ∧ ds.length ≤ i + 1 ∧ compL j mt ma (xs.drop (i + 1)) S' = some (zs, S2) ∧ ds ++ zs = ys, fun H2 w => ⟨xs.length - (i + 1), by omega, rfl, w.1, w.2⟩, fun x H2 y => ?_⟩
            obtain ⟨rfl, y, hy, dy⟩ := W.yld i H' x H2 s hlt y
            rw [List.drop_eq_getElem_cons hlt] at hc
            have ey : xs[i] = y := by
              rw [List.getElem?_eq_getElem hlt] at hy; exact Option.some.inj hy
            rw [ey] at hc
            unfold compL at hc
            have RT := rel_turn R' hUp hacc hsep
            have RT1 := RT.setD (i := j) (dp_mono G.same dy)
            have ew : wipe (((wipe σ [j]).set j (some x))) [j] = wipe σ [j] := by
              show ((σ.set j none).set j (some x)).set j none = σ.set j none
              rw [List.set_set, List.set_set]
            refine ⟨ew, ?_⟩
            -- behind the turn
            have fin : ∀ {He2 : Hp} {S4 : Sl} {H4 : Hp} {new : List V} {ds' zs' : List Dat}, Grow (L2.upd U p (.lst acc)) He' He2 → Rel K (L2.upd U p (.lst acc)) ms He2 S4 ((σ.set j none).set j (some x)) H4 → DpAll K He2 new ds' → ds'.length ≤ i + 1 → compL j mt ma (xs.drop (i + 1)) (S4.set j .no) = some (zs', S2) → ds' ++ zs' = ys →
                H4 p = some (.lst acc) ∧ (i + 1 ≤ xs.length ∧ ∃ He' S' acc ds zs, Grow U He1 He' ∧ Rel K U ms He' S' (σ.set j none) (L2.upd H4 p (.lst new)) ∧ He' p = none ∧ (∀ (i : Nat) (sv : SV) (c : Ct), S'[i]? = some sv → sv.own = some c → (σ.set j none)[i]? ≠ some (some (.ref p))) ∧
                  (S'[j]? = none ∨ S'[j]? = some .no) ∧ (L2.upd H4 p (.lst new)) p = some (.lst acc) ∧ DpAll K He' acc ds ∧ ds.length ≤ i + 1 ∧ compL j mt ma (xs.drop (i + 1)) S' = some (zs, S2) ∧ ds ++ zs = ys) := by
              intro He2 S4 H4 new ds' zs' G2 R4 hnew hdl' hc' hys'
              have hp2 : He2 p = none := G2.new p hHe' (by rw [upd_same]; simp)
              have R5 := R4.setNo (i := j) (ov := none)
              rw [List.set_set, List.set_set] at R5
              obtain ⟨B1, B2, B3⟩ := rel_back (new := new) R5 hUp R'.mu hp2
              refine ⟨B3, hlt, He2, S4.set j .no, new, ds', zs', G.trans (grow_back G2), B1, hp2, B2, ?_, upd_same, hnew, hdl', hc', hys'⟩
              by_cases hl : j < S4.length
              · exact .inr (List.getElem?_set_self hl)
              · exact .inl (List.getElem?_eq_none (by simpa using hl))
            split at hc
            · rename_i S5 h5
              split at hc
              · rename_i w S6 h6
                split at hc
                · rename_i ws S7 h7
                  cases hc
                  refine ⟨_, ms, He', _, true, S5, RT1, h5, fun H3 He3 G3 R3 => iteT ?_⟩
                  refine ⟨_, ms, He3, S5, w, S6, R3, h6, fun u H4 He4 G4 R4 d4 => ?_⟩
                  obtain ⟨B3, F⟩ := fin (new := acc ++ [u]) (ds' := ds ++ [w]) (zs' := ws) (G3.trans G4) R4 (dpAll_append (dpAll_mono (G3.same.trans G4.same) dacc) (.cons d4 .nil)) (by rw [List.length_append]; simp; omega) h7 (by rw [List.append_assoc]; exact hys)
                  exact ⟨acc, B3, by rw [dpAll_length dacc]; exact Nat.lt_of_lt_of_le (by omega : ds.length < 100001) (by rw [sizeLine_eq]; decide), F⟩
                · cases hc
              · cases hc
            · rename_i S5 h5
              refine ⟨_, ms, He', _, false, S5, RT1, h5, fun H3 He3 G3 R3 => iteF ?_⟩
              obtain ⟨B3, F⟩ := fin (new := acc) (ds' := ds) (zs' := zs) G3 R3 (dpAll_mono G3.same dacc) (by omega) hc hys
              have hu : L2.upd H3 p (.lst acc) = H3 := by
                funext b
                by_cases hb : b = p
                · subst hb; rw [upd_same, B3]
                · rw [upd_ne hb]
              rw [hu] at F
              exact F
            · cases hc
          · have e : i = xs.length := by omega
            subst e
            rw [List.drop_length] at hc
            cases hc
            rw [List.append_nil] at hys
            subst hys
            refine .inl ⟨W.stop _ H' s rfl, ?_⟩
            have R6 : Rel K U ms He' S2 σ H' := by
              have hS : S2.set j .no = S2 := by
                apply List.ext_getElem?
                intro k
                by_cases hk : j = k
                · subst hk
                  rcases hj with hj | hj
                  · rw [hj]; exact List.getElem?_eq_none (by rw [List.length_set]; exact List.getElem?_eq_none_iff.mp hj)
                  · rw [List.getElem?_set_self (List.getElem?_eq_some_iff.mp hj).1, hj]
                · rw [List.getElem?_set_ne hk]
              have := R'.setNo (i := j) (ov := σ.getD j none)
              rwa [hS, hset] at this
            refine q _ H' He' (G1.trans G) R6 ⟨⟨p, _, rfl, hacc, ⟨acc, rfl, dacc⟩, hHe', hUp⟩, fun i sv ci e ho he => ?_⟩
            have hij : j ≠ i := fun z => by
              subst z
              rcases hj with hj | hj
              · rw [hj] at e; cases e
              · rw [hj] at e; cases e; cases ho
            exact hsep i sv ci e ho (by rw [List.getElem?_set_ne hij]; exact he)
      · cases h
    · cases h
  · cases h
theorem sf_comp {elt tg iter : Expr} {ifs : List Expr} {scope : Scope} {y : Str} {j : Nat} {wi : TI} {src : M (List Dat)} (hc : X.calm = true) (hN : X.N.Nodup) (hi : PI X tg iter wi) (hw : Src X.K wi src) (ok : BlkOk X.N X.env.scope scope [(y, j)])
    (hg : ∀ (s : Shared) (H : Hp) (C : Addr) (cl : List (Str × Addr)) (fp : List Addr), PG (X.blk s H scope (compEnvC scope cl C X.env) fp) tg (gName j)) (ht : ∀ (s : Shared) (H : Hp) (C : Addr) (cl : List (Str × Addr)) (fp : List Addr), PTs (X.blk s H scope (compEnvC scope cl C X.env) fp) ifs (tT X.K mt))
    (he : ∀ (s : Shared) (H : Hp) (C : Addr) (cl : List (Str × Addr)) (fp : List Addr), PE (X.blk s H scope (compEnvC scope cl C X.env) fp) elt (tM X.K ma)) (hs : ∀ x, foldedSetIterable iter X.env x = pure x := by intro _; rfl) :
    PE X (.ListComp elt [⟨tg, iter, ifs, 0⟩] scope pos) (tF X.K (mComp src j mt ma)) := (pe_lc (own := [(y, j)]) hc hN hi ok hg ht he hs).imp fun σ H Q q => tF_comp hw q
/-- y = [..] -/
theorem ss_setC {i : Nat} {z : Str} {py : Pos} {elt tg iter : Expr} {ifs : List Expr} {scope : Scope} {y : Str} {j : Nat} {spos : Pos} {wi : TI} {src : M (List Dat)} (hc : X.calm = true) (hN : X.N.Nodup) (hy : X.N[i]? = some z) (hyl : X.env.scope.names.lookup z = some .local)
    (hsw : swapsWith (.ListComp elt [⟨tg, iter, ifs, 0⟩] scope pos) (some (.Name z py)) spos.line X.env = pure true) (hi : PI X tg iter wi) (hw : Src X.K wi src) (ok : BlkOk X.N X.env.scope scope [(y, j)])
    (hg : ∀ (s : Shared) (H : Hp) (C : Addr) (cl : List (Str × Addr)) (fp : List Addr), PG (X.blk s H scope (compEnvC scope cl C X.env) fp) tg (gName j)) (ht : ∀ (s : Shared) (H : Hp) (C : Addr) (cl : List (Str × Addr)) (fp : List Addr), PTs (X.blk s H scope (compEnvC scope cl C X.env) fp) ifs (tT X.K mt))
    (he : ∀ (s : Shared) (H : Hp) (C : Addr) (cl : List (Str × Addr)) (fp : List Addr), PE (X.blk s H scope (compEnvC scope cl C X.env) fp) elt (tM X.K ma)) (hs : ∀ x, foldedSetIterable iter X.env x = pure x := by intro _; rfl) :
    PS X (.Assign [.Name z py] (.ListComp elt [⟨tg, iter, ifs, 0⟩] scope pos) spos) (tS X.K E (sAsgF i (mComp src j mt ma))) := (ps_setLc (own := [(y, j)]) hc hN hy hyl hsw hi ok hg ht he hs).imp fun D σ H q => by
  refine tF_comp (K := X.K) hw ?_
  obtain ⟨U, ms, He, S, o, R, h, q⟩ := q
  unfold sAsgF at h
  split at h
  · rename_i c S1 h1
    cases h
    exact ⟨U, ms, He, S, _, _, R, h1, fun v H' He' G R' d => q _ H' He' G (R'.setO d)⟩
  · cases h
end
end Rp
set_option Elab.async false
set_option linter.all false
set_option maxRecDepth 100000
/-! Methods of lists, slices, built-ins. -/
namespace Rp
open PySem PySem.Spec PyProof.Rows L2

/-! ### a slot's list changed -/
def listV (S : Sl) (i : Nat) : Option (List Dat) := match S[i]? with
  | some (.o (.l xs)) => some xs
  | some (.m _ (.l xs)) => some xs
  | _ => none
def putV (S : Sl) (i : Nat) (c : Ct) : Sl := match S[i]? with
  | some sv => S.set i (sv.put c)
  | none => S
def sApp (i : Nat) (m : M Dat) : MS := fun S => match listV S i with
  | none => none
  | some _ => match m S with
    | some (x, S1) => match listV S1 i with
      | some xs => if xs.length < 100000 then some (.nx (putV S1 i (.l (xs ++ [x])))) else none
      | none => none
    | none => none
def mPop (i : Nat) : M Dat := fun S => match listV S i with
  | some xs => match xs.getLast? with
    | some x => some (x, putV S i (.l xs.dropLast))
    | none => none
  | none => none
def sRev (i : Nat) : MS := fun S => match listV S i with
  | some xs => some (.nx (putV S i (.l xs.reverse)))
  | none => none
/-- x[k] = v -/
def sSetIx (i : Nat) (mk mv : M Dat) : MS := fun S => match mv S with
  | some (x, S1) => match listV S1 i with
    | none => none
    | some _ => match mk S1 with
      | some (.int k, S2) => match listV S2 i with
        | some xs => match ixN xs.length k with
          | some j => some (.nx (putV S2 i (.l (xs.set j x))))
          | none => none
        | none => none
      | _ => none
  | none => none
section
variable {K : PySem.W.Frag} {U : Hp} {ms : List Addr} {He : Hp} {S : Sl} {σ : L2.St} {H : Hp}
theorem listV_own {i : Nat} {xs : List Dat} (h : listV S i = some xs) : ∃ sv, S[i]? = some sv ∧ sv.own = some (.l xs) := by
  unfold listV at h
  split at h
  · cases h; exact ⟨_, by assumption, rfl⟩
  · cases h; exact ⟨_, by assumption, rfl⟩
  · cases h
theorem Rel.listV (R : Rel K U ms He S σ H) {i : Nat} {xs : List Dat} (h : listV S i = some xs) :
    ∃ a vs, σ[i]? = some (some (.ref a)) ∧ H a = some (.lst vs) ∧ DpAll K He vs xs ∧ ∀ (ys : List Dat) (ws : List V), DpAll K He ws ys → Rel K U ms He (putV S i (.l ys)) σ (L2.upd H a (.lst ws)) := by
  obtain ⟨sv, e, o⟩ := listV_own h
  obtain ⟨a, e1, O⟩ := R.own e o
  obtain ⟨ob, h1, vs, rfl, h2⟩ := O.at_
  refine ⟨a, vs, e1, h1, h2, fun ys ws d => ?_⟩
  unfold putV
  rw [e]
  exact R.upd (c' := .l ys) e o e1 ⟨ws, rfl, d⟩
end
section
variable {X : Cx} {e a b c o : Expr} {es rest : List Expr} {st : Stmt} {sts sts' : List Stmt} {ma mb : M Dat} {mf : M Ct} {mt : M Bool} {m1 m2 : MS} {E : Nat → L2.St → Hp → Prop} {pos : Pos}
theorem ss_app {i : Nat} {apos cpos : Pos} (ho : PE X o (tVar i)) (ha : PE X e (tM X.K ma))
    (hbase : attributeBase o "append" X.env (eval o X.env) = eval o X.env := by rfl)
    (hfew : ((backTo cpos (starEach [e] X.env)).all (fun x => !x.1) && (backToKw cpos (keywordEach [] X.env)).all (fun x => x.1.isSome) && decide (([e] : List Expr).length + ([] : List Keyword).length + (if ([] : List Keyword).isEmpty then 0 else 1) < 30)) = true := by rfl)
    (hline : (apos.endLine == cpos.line) = true := by rfl) (hs : starEach [e] X.env = (false, eval e X.env) :: starEach [] X.env := by rfl) (hsw : swapsWith (.Call (.Attribute o "append" apos) [e] [] cpos) none pos.line X.env = pure false := by rfl) :
    PS X (.Expr (.Call (.Attribute o "append" apos) [e] [] cpos) pos) (tS X.K E (sApp i ma)) :=
  (ps_expr (pe_bm PySem.F.plainAttrs_list PySem.F.slot_list_append PySem.F.type_list_append mt_append ho (pa_cons ha pa_nil hs) hbase hfew hline hs rfl) hsw).imp fun D σ H q => by
    obtain ⟨U, ms, He, S, out, R, h, q⟩ := q
    unfold sApp at h
    split at h
    · cases h
    · rename_i xs0 h0
      split at h
      · rename_i x S1 h1
        split at h
        · rename_i xs h2
          split at h
          · rename_i hl
            cases h
            obtain ⟨p, vs0, e0, g0, _, _⟩ := R.listV h0
            refine ⟨_, e0, .inl ⟨rfl, _, SqL.of g0⟩, .mk R h1 fun v H1 He1 G1 R1 d1 => ?_⟩
            obtain ⟨p', vs, e1, g1, d2, f⟩ := R1.listV h2
            rw [e0] at e1
            cases e1
            refine ⟨p, vs, v, rfl, rfl, g1, by rw [dpAll_length d2]; exact Nat.lt_of_lt_of_le hl line_ge, ?_⟩
            exact q σ _ He1 G1 (f _ _ (dpAll_append d2 (.cons d1 .nil)))
          · cases h
        · cases h
      · cases h
theorem se_pop {i : Nat} {apos cpos : Pos} (ho : PE X o (tVar i)) (hbase : attributeBase o "pop" X.env (eval o X.env) = eval o X.env := by rfl) (hline : (apos.endLine == cpos.line) = true := by rfl) :
    PE X (.Call (.Attribute o "pop" apos) [] [] cpos) (tM X.K (mPop i)) :=
  (pe_bm0 PySem.F.plainAttrs_list PySem.F.slot_list_pop PySem.F.type_list_pop mt_pop ho hbase hline).imp fun σ H Q q => by
    obtain ⟨U, ms, He, S, x, S', R, h, q⟩ := q
    unfold mPop at h
    split at h
    · rename_i xs h0
      split at h
      · rename_i y h1
        cases h
        obtain ⟨p, vs, e0, g0, d, f⟩ := R.listV h0
        rw [List.getLast?_eq_getElem?] at h1
        obtain ⟨v, e1, dv⟩ := dpAll_get d h1
        refine ⟨_, e0, .inl ⟨rfl, _, SqL.of g0⟩, p, vs, v, rfl, rfl, g0, by rw [dpAll_length d]; exact e1, ?_⟩
        exact q v _ He (.refl _ _) (f _ _ (dpAll_dropLast d)) dv
      · cases h
    · cases h
theorem ss_rev {i : Nat} {apos cpos : Pos} (ho : PE X o (tVar i)) (hbase : attributeBase o "reverse" X.env (eval o X.env) = eval o X.env := by rfl) (hline : (apos.endLine == cpos.line) = true := by rfl) (hsw : swapsWith (.Call (.Attribute o "reverse" apos) [] [] cpos) none pos.line X.env = pure false := by rfl) :
    PS X (.Expr (.Call (.Attribute o "reverse" apos) [] [] cpos) pos) (tS X.K E (sRev i)) :=
  (ps_expr (pe_bm0 PySem.F.plainAttrs_list PySem.F.slot_list_reverse PySem.F.type_list_reverse mt_reverse ho hbase hline) hsw).imp fun D σ H q => by
    obtain ⟨U, ms, He, S, out, R, h, q⟩ := q
    unfold sRev at h
    split at h
    · rename_i xs h0
      cases h
      obtain ⟨p, vs, e0, g0, d, f⟩ := R.listV h0
      exact ⟨_, e0, .inl ⟨rfl, _, SqL.of g0⟩, p, vs, rfl, rfl, g0, q σ _ He (.refl _ _) (f _ _ (dpAll_reverse d))⟩
    · cases h
theorem ss_setIx {i : Nat} {tpos : Pos} (hg : PG X (.Subscript o b tpos) (gSub (tVar i) (tM X.K mb) rSetL)) (hv : PE X e (tM X.K ma)) (hs : swapsWithSole [.Subscript o b tpos] e pos.line X.env = pure false := by rfl) (hw : swappedStores [.Subscript o b tpos] e X.env = pure none := by rfl)
    (h1 : (assignEach [.Subscript o b tpos] X.env).map (·.2) = [assign (.Subscript o b tpos) X.env] := by rfl) : PS X (.Assign [.Subscript o b tpos] e pos) (tS X.K E (sSetIx i mb ma)) := (ps_asg hv hg hs hw h1).imp fun D σ H q => by
  obtain ⟨U, ms, He, S, out, R, h, q⟩ := q
  unfold sSetIx at h
  split at h
  · rename_i x S1 h1
    split at h
    · cases h
    · rename_i xs0 h0
      split at h
      · rename_i k S2 h2
        split at h
        · rename_i xs h3
          split at h
          · rename_i j hj
            cases h
            refine .mk R h1 fun v H1 He1 G1 R1 d1 => ?_
            obtain ⟨p, vs0, e0, _, _, _⟩ := R1.listV h0
            refine ⟨_, e0, .mk R1 h2 fun w H2 He2 G2 R2 d2 => ?_⟩
            cases dp_int d2
            obtain ⟨p', vs, e1, g1, d3, f⟩ := R2.listV h3
            rw [e0] at e1
            cases e1
            exact ⟨p, vs, k, j, rfl, rfl, g1, by rw [dpAll_length d3]; exact hj, q σ _ He2 (G1.trans G2) (f _ _ (dpAll_set (dp_mono G2.same d1) j d3))⟩
          · cases h
        · cases h
      · cases h
  · cases h
/-! ### a list some times -/
def mRep (ma : M Ct) (mb : M Dat) : M Ct := fun S => match ma S with
  | some (.l xs, S1) => match mb S1 with
    | some (.int k, S2) => if 0 ≤ k ∧ k ≤ 100000 ∧ xs.length * k.toNat ≤ 100000 then some (.l (List.replicate k.toNat xs).flatten, S2) else none
    | _ => none
  | _ => none
theorem dpAll_rep {K : PySem.W.Frag} {H : Hp} {vs : List V} {ds : List Dat} (h : DpAll K H vs ds) : ∀ n : Nat, DpAll K H (List.replicate n vs).flatten (List.replicate n ds).flatten
  | 0 => .nil
  | n + 1 => by
    rw [List.replicate_succ, List.replicate_succ, List.flatten_cons, List.flatten_cons]
    exact dpAll_append h (dpAll_rep h n)
theorem sf_rep (ha : PE X a (tF X.K mf)) (hb : PE X b (tM X.K mb)) : PE X (.BinOp a .Mult b pos) (tF X.K (mRep mf mb)) := (pe_op op_rep ha hb).imp fun σ H Q q => by
  obtain ⟨U, ms, He, S, z, S2, R, h, q⟩ := q
  unfold mRep at h
  split at h
  · rename_i xs S1 h1
    split at h
    · rename_i k S3 h2
      split at h
      · rename_i hk
        cases h
        refine ⟨U, ms, He, S, _, S1, R, h1, fun v H1 He1 G1 R1 F => ?_⟩
        obtain ⟨p, o, rfl, g1, ⟨vs, rfl, dv⟩, g2, g3⟩ := F.at_
        have RT := rel_turn R1 g3 g1 F.sep
        refine ⟨_, ms, He1, S1, _, _, RT, h2, fun w H2 He2 G2 R2 d2 => ?_⟩
        cases dp_int d2
        have hp2 : He2 p = none := G2.new p g2 (by rw [upd_same]; simp)
        obtain ⟨B1, B2, B3⟩ := rel_back (new := vs) R2 g3 R1.mu hp2
        have hu : L2.upd H2 p (.lst vs) = H2 := by
          funext b
          by_cases hb : b = p
          · subst hb; rw [upd_same, B3]
          · rw [upd_ne hb]
        rw [hu] at B1
        refine ⟨p, k, vs, rfl, rfl, B3, by omega, by omega, by rw [dpAll_length dv]; exact Nat.le_trans hk.2.2 line_ge, fun l hl => ?_⟩
        have E2 := ext_fresh (o := HO.lst (List.replicate k.toNat vs).flatten) B1.data hl
        exact q _ _ He2 (G1.trans (grow_back G2)) (E2.rel B1) (fresh_laid B1 hl ⟨_, rfl, dpAll_rep (dpAll_mono G2.same dv) _⟩)
      · cases h
    · cases h
  · cases h
/-! ### a new list handed in -/
theorem fresh_mono {K : PySem.W.Frag} {U He : Hp} {S : Sl} {σ : L2.St} {H : Hp} {v : V} {ct : Ct} {p : Addr} {o : HO} (F : Fresh K (L2.upd U p o) He S σ H v ct) : Fresh K U He S σ H v ct ∧ v ≠ .ref p := by
  obtain ⟨q, u, rfl, h1, h2, h3, h4⟩ := F.at_
  have hq : q ≠ p := fun z => by subst z; rw [upd_same] at h4; cases h4
  refine ⟨⟨⟨q, u, rfl, h1, h2, h3, by rwa [upd_ne hq] at h4⟩, F.sep⟩, fun z => ?_⟩
  cases z
  exact hq rfl
theorem sr_tmp {mar : M (List CA)} (ha : PE X e (tF X.K mf)) (hr : PA X es (tAr X.K mar)) (hs : starEach (e :: es) X.env = (false, eval e X.env) :: starEach es X.env := by rfl) : PA X (e :: es) (tAr X.K (aTmp mf mar)) :=
  (pa_cons ha hr hs).imp fun σ H Q q => by
    obtain ⟨U, ms, He, S, x, S', R, h, q⟩ := q
    unfold aTmp at h
    split at h
    · rename_i c S1 h1
      split at h
      · rename_i ys S2 h2
        cases h
        refine ⟨U, ms, He, S, _, S1, R, h1, fun v H1 He1 G1 R1 F => ?_⟩
        obtain ⟨p, o, rfl, g1, ⟨acc, rfl, dv⟩, g2, g3⟩ := F.at_
        have RT := rel_turn R1 g3 g1 F.sep
        refine ⟨_, ms, He1, S1, ys, _, RT, h2, fun vs H2 He2 G2 R2 d2 n2 => ?_⟩
        have hp2 : He2 p = none := G2.new p g2 (by rw [upd_same]; simp)
        obtain ⟨B1, B2, B3⟩ := rel_back (new := acc) R2 g3 R1.mu hp2
        have hu : L2.upd H2 p (.lst acc) = H2 := by
          funext b
          by_cases hb : b = p
          · subst hb; rw [upd_same, B3]
          · rw [upd_ne hb]
        rw [hu] at B1
        have d3 : Paired (CaAt X.K U He2 S' σ H2) vs ys := Paired.mapP d2 fun v a h => by
          cases a with
          | d x => exact h
          | c i => exact h
          | t ct => exact (fresh_mono h).1
        have hnp : ∀ {vs : List V} {ys : List CA}, Paired (CaAt X.K (L2.upd U p (.lst acc)) He2 S' σ H2) vs ys → p ∉ temps vs ys := by
          intro vs ys h
          induction h with
          | nil => intro z; cases z
          | @cons v a vs ys k1 k2 ih =>
            intro z
            cases a with
            | d x => exact ih (by cases v <;> exact z)
            | c i => exact ih (by cases v <;> exact z)
            | t ct =>
              obtain ⟨_, hne⟩ := fresh_mono k1
              cases v with
              | ref b =>
                rcases List.mem_cons.mp z with e | z
                · subst e; exact hne rfl
                · exact ih z
              | _ => exact ih z
        exact q _ H2 He2 (G1.trans (grow_back G2)) B1 (.cons ⟨⟨p, _, rfl, B3, ⟨acc, rfl, dpAll_mono G2.same dv⟩, hp2, g3⟩, B2⟩ d3) (List.nodup_cons.mpr ⟨hnp d2, n2⟩)
      · cases h
    · cases h
/-! ### slices -/
def mNo : M (Option Int) := fun S => some (none, S)
def mPart (m : M Dat) : M (Option Int) := fun S => match m S with
  | some (.int i, S1) => some (some i, S1)
  | _ => none
theorem so_none : PO X none (tO X.K mNo) := po_none.imp fun σ H Q q => by
  obtain ⟨U, ms, He, S, x, S', R, h, q⟩ := q
  cases h
  exact q H He (.refl _ _) R
theorem so_some (h : PE X e (tM X.K ma)) : PO X (some e) (tO X.K (mPart ma)) := (po_some h).imp fun σ H Q q => by
  obtain ⟨U, ms, He, S, x, S', R, h, q⟩ := q
  unfold mPart at h
  split at h
  · rename_i i S1 h1
    cases h
    refine .mk R h1 fun v H' He' G R' d => ?_
    exact ⟨i, dp_int d, q H' He' G R'⟩
  · cases h
def cutD (xs : List Dat) (lo hi : Option Int) : List Dat := (xs.drop (HT.sIx xs.length 0 lo)).take (HT.sIx xs.length xs.length hi - HT.sIx xs.length 0 lo)
theorem dpAll_cut {K : PySem.W.Frag} {H : Hp} {vs : List V} {ds : List Dat} (h : DpAll K H vs ds) (lo hi : Option Int) : DpAll K H (cutV vs lo hi) (cutD ds lo hi) := by
  unfold cutV cutD
  rw [dpAll_length h]
  exact dpAll_take _ (dpAll_drop _ h)
/-- of a text or a tuple: data -/
def mSl (m : M Dat) (ml mh : M (Option Int)) : M Dat := fun S => match m S with
  | some (x, S1) => match ml S1 with
    | some (lo, S2) => match mh S2 with
      | some (hi, S3) => match x with
        | .str z => if z.length ≤ 100000 then some (.str (cutS z lo hi), S3) else none
        | .tuple xs => some (.tuple (cutD xs lo hi), S3)
        | _ => none
      | none => none
    | none => none
  | none => none
/-- of a list: a new one -/
def mSlF (m : M Dat) (ml mh : M (Option Int)) : M Ct := fun S => match m S with
  | some (.list xs, S1) => match ml S1 with
    | some (lo, S2) => match mh S2 with
      | some (hi, S3) => some (.l (cutD xs lo hi), S3)
      | none => none
    | none => none
  | _ => none
theorem tSl_go {r : V → Option Int → Option Int → Hp → VK → Prop} {K : PySem.W.Frag} {σ : L2.St} {H : Hp} {Q : VK} {ml mh : M (Option Int)} {U : Hp} {ms : List Addr} {He : Hp} {S S1 S2 S3 : Sl} {x : Dat} {lo hi : Option Int} (R : Rel K U ms He S σ H) (h1 : ma S = some (x, S1)) (h2 : ml S1 = some (lo, S2)) (h3 : mh S2 = some (hi, S3))
    (q : ∀ v H' He', Grow U He He' → Rel K U ms He' S3 σ H' → Dp K He' v x → r v lo hi H' Q) : tSl r (tM K ma) (tO K ml) (tO K mh) σ H Q := by
  refine .mk R h1 fun v H1 He1 G1 R1 d1 => ?_
  refine ⟨U, ms, He1, S1, lo, S2, R1, h2, fun H2 He2 G2 R2 => ?_⟩
  exact ⟨U, ms, He2, S2, hi, S3, R2, h3, fun H3 He3 G3 R3 => q v H3 He3 ((G1.trans G2).trans G3) R3 (dp_mono (G2.same.trans G3.same) d1)⟩
def rSlD (K : PySem.W.Frag) : V → Option Int → Option Int → Hp → VK → Prop := fun x lo hi H Q => rSlS x lo hi H Q ∨ rSlA K x lo hi H Q
theorem sl_D : SlR X (rSlD X.K) := sl_str.or sl_tupA
theorem se_sl {lo hi : Option Expr} {p2 : Pos} {ml mh : M (Option Int)} (ha : PE X a (tM X.K ma)) (hl : PO X lo (tO X.K ml)) (hh : PO X hi (tO X.K mh)) : PE X (.Subscript a (.Slice lo hi none p2) pos) (tM X.K (mSl ma ml mh)) :=
  (pe_slice sl_D ha hl hh).imp fun σ H Q q => by
    obtain ⟨U, ms, He, S, z, S', R, h, q⟩ := q
    unfold mSl at h
    split at h
    · rename_i x S1 h1
      split at h
      · rename_i l S2 h2
        split at h
        · rename_i u S3 h3
          split at h
          · split at h
            · rename_i hz
              cases h
              refine tSl_go R h1 h2 h3 fun v H' He' G R' d => .inl ?_
              exact ⟨_, dp_str d, Nat.le_trans hz line_ge, q _ H' He' G R' (.str _)⟩
            · cases h
          · cases h
            refine tSl_go R h1 h2 h3 fun v H' He' G R' d => .inr ?_
            obtain ⟨p, vs, rfl, g1, g2⟩ := dp_tup d
            have hlen := dpAll_length g2
            refine ⟨p, vs, rfl, sqT_mono R'.data g1, fun hw => ?_, fun hw l' hl' => ?_⟩
            · refine q _ H' He' G R' (.tup g1 ?_)
              unfold cutD
              rw [← hlen, hw.1, hw.2, List.drop_zero, Nat.sub_zero, hlen, List.take_length]
              exact g2
            · have E2 := ext_new (o := HO.tup (cutV vs l u)) R'.data hl'
              exact q _ _ _ (G.trans (E2.grow R')) (E2.rel R') (.tup (SqT.of upd_same) (dpAll_cut (dpAll_mono E2.data g2) l u))
          · cases h
        · cases h
      · cases h
    · cases h
theorem sf_sl {lo hi : Option Expr} {p2 : Pos} {ml mh : M (Option Int)} (ha : PE X a (tM X.K ma)) (hl : PO X lo (tO X.K ml)) (hh : PO X hi (tO X.K mh)) : PE X (.Subscript a (.Slice lo hi none p2) pos) (tF X.K (mSlF ma ml mh)) :=
  (pe_slice sl_list ha hl hh).imp fun σ H Q q => by
    obtain ⟨U, ms, He, S, z, S', R, h, q⟩ := q
    unfold mSlF at h
    split at h
    · rename_i xs S1 h1
      split at h
      · rename_i l S2 h2
        split at h
        · rename_i u S3 h3
          cases h
          refine tSl_go R h1 h2 h3 fun v H' He' G R' d => ?_
          obtain ⟨p, vs, rfl, g1, g2⟩ := dp_lst d
          refine ⟨p, vs, rfl, R'.data.seq g1, fun l' hl' => ?_⟩
          have E2 := ext_fresh (o := HO.lst (cutV vs l u)) R'.data hl'
          exact q _ _ _ (G.trans (E2.grow R')) (E2.rel R') (fresh_laid R' hl' ⟨_, rfl, dpAll_cut g2 l u⟩)
        · cases h
      · cases h
    · cases h
/-! ### isinstance(x, T), T a built-in type -/
def tyD : Dat → String
  | .none => "NoneType"
  | .bool _ => "bool"
  | .int _ => "int"
  | .str _ => "str"
  | .list _ => "list"
  | .tuple _ => "tuple"
  | .dict _ => "dict"
theorem tyX_of {K : PySem.W.Frag} {H : Hp} {v : V} {x : Dat} (d : Dp K H v x) : TyX K H v (.type (tyD x)) := by
  cases d with
  | non => exact .base .non
  | bl b => exact .base (.bl b)
  | int b => exact .base (.int b)
  | str b => exact .base (.str b)
  | lst h q =>
    rcases h with (h | ⟨o, h⟩) | ⟨o, its, n, h, c, _⟩
    · exact .base (.lst h)
    · exact .base (.frz h)
    · exact .kList h c
  | tup h q =>
    rcases h with (h | ⟨o, h⟩) | ⟨o, its, n, h, c, _⟩
    · exact .base (.tup h)
    · exact .fTuple h
    · exact .kTuple h c
def isInt : Dat → Bool
  | .int _ => true
  | .bool _ => true
  | _ => false
def isBool : Dat → Bool
  | .bool _ => true
  | _ => false
def isTup : Dat → Bool
  | .tuple _ => true
  | _ => false
def isList : Dat → Bool
  | .list _ => true
  | _ => false
theorem kit_int {x : Dat} (h : ∀ k, x ≠ .dict k) : kitB (tyD x) "int" = some (isInt x) := by
  cases x <;> first | rfl | (exact absurd rfl (h _)) | decide +kernel
theorem kit_bool {x : Dat} (h : ∀ k, x ≠ .dict k) : kitB (tyD x) "bool" = some (isBool x) := by
  cases x <;> first | rfl | (exact absurd rfl (h _)) | decide +kernel
theorem kit_tup {x : Dat} (h : ∀ k, x ≠ .dict k) : kitB (tyD x) "tuple" = some (isTup x) := by
  cases x <;> first | rfl | (exact absurd rfl (h _)) | decide +kernel
theorem kit_list {x : Dat} (h : ∀ k, x ≠ .dict k) : kitB (tyD x) "list" = some (isList x) := by
  cases x <;> first | rfl | (exact absurd rfl (h _)) | decide +kernel
theorem dp_nodict {K : PySem.W.Frag} {H : Hp} {v : V} {x : Dat} (d : Dp K H v x) : ∀ k, x ≠ .dict k := by
  intro k e; subst e; cases d
/-- isinstance(x, T) -/
theorem se_isi {T : String} {g : Dat → Bool} {p : Pos} (hk : ∀ x : Dat, (∀ k, x ≠ .dict k) → kitB (tyD x) T = some (g x)) (hg : Gl X "isinstance") (hm : X.mg "isinstance" = none) (ha : PE X a (tM X.K ma)) (hb : PE X b (tC (.ty T)))
    (h1 : starEach [a, b] X.env = (false, eval a X.env) :: starEach [b] X.env := by rfl) (h2 : starEach [b] X.env = (false, eval b X.env) :: starEach [] X.env := by rfl) (hpl : (backTo pos (starEach [b] X.env)).any (·.1) = false := by rfl) : PE X (.Call (.Name "isinstance" p) [a, b] [] pos) (tM X.K (mUn (fun x => some (.bool (g x))) ma)) :=
  (pe_callB call_isi hg hm boot_isinstance (pa_cons ha (pa_cons hb pa_nil h2) h1) (by decide) (by decide) h1 hpl).imp fun σ H Q q => by
    obtain ⟨U, ms, He, S, z, S', R, h, q⟩ := q
    unfold mUn at h
    split at h
    · rename_i x S1 h1
      cases h
      refine .mk R h1 fun v H1 He1 G1 R1 d1 => ?_
      exact ⟨v, .ty T, _, _, _, rfl, .ty T, tyX_of (dp_mono R1.data d1), kit_ty (hk x (dp_nodict d1)), q _ H1 He1 G1 R1 (.bl _)⟩
    · cases h
/-! ### int(x), tuple(x), list(x), min, max -/
def int1 : List Dat → Option Dat
  | [.int i] => some (.int i)
  | [.bool k] => some (.int (if k then 1 else 0))
  | _ => none
def rInt1 : List V → Hp → VK → Prop := fun xs H Q => (∃ i, xs = [.int i] ∧ Q (.int i) H) ∨ ∃ k, xs = [.bl k] ∧ Q (.int (if k then 1 else 0)) H
theorem call_int1A : CallR X (.type "int") rInt1 := call_int1
theorem one_dp {K : PySem.W.Frag} {H : Hp} {vs : List V} {x : Dat} (d : DpAll K H vs [x]) : ∃ v, vs = [v] ∧ Dp K H v x := by
  cases d with
  | cons g1 g2 => cases g2; exact ⟨_, rfl, g1⟩
theorem two_dp {K : PySem.W.Frag} {H : Hp} {vs : List V} {x y : Dat} (d : DpAll K H vs [x, y]) : ∃ v w, vs = [v, w] ∧ Dp K H v x ∧ Dp K H w y := by
  cases d with
  | cons g1 g2 =>
    obtain ⟨w, rfl, g3⟩ := one_dp g2
    exact ⟨_, w, rfl, g1, g3⟩
theorem cd_int1 {K : PySem.W.Frag} : CaD K rInt1 int1 := by
  intro He H vs xs z Q hs d h q
  unfold int1 at h
  split at h
  · cases h
    obtain ⟨v, rfl, d1⟩ := one_dp d
    cases dp_int d1
    exact .inl ⟨_, rfl, q _ _ _ (.refl hs) (.int _)⟩
  · cases h
    obtain ⟨v, rfl, d1⟩ := one_dp d
    cases dp_bl d1
    exact .inr ⟨_, rfl, q _ _ _ (.refl hs) (.int _)⟩
  · cases h
/-- tuple(xs) of a list -/
def tuple1 : List Dat → Option Dat
  | [.list xs] => some (.tuple xs)
  | _ => none
def rTuple1 (K : PySem.W.Frag) : List V → Hp → VK → Prop := fun xs H Q => ∃ p ys, xs = [.ref p] ∧ ((SqL K H p ys ∧ ∀ l, H l = none → Q (.ref l) (upd H l (.tup ys))) ∨ (SqT K H p ys ∧ Q (.ref p) H))
theorem call_tuple1 : CallR X (.type "tuple") (rTuple1 X.K) := call_tuple_of
theorem cd_tuple1 {K : PySem.W.Frag} : CaD K (rTuple1 K) tuple1 := by
  intro He H vs xs z Q hs d h q
  unfold tuple1 at h
  split at h
  · cases h
    obtain ⟨v, rfl, d1⟩ := one_dp d
    obtain ⟨p, ws, rfl, g1, g2⟩ := dp_lst d1
    refine ⟨p, ws, rfl, .inl ⟨hs.seq g1, fun l hl => ?_⟩⟩
    have E2 := ext_new (o := HO.tup ws) hs hl
    exact q _ _ _ E2 (.tup (SqT.of upd_same) (dpAll_mono E2.data g2))
  · cases h
/-- list(xs) of a list -/
def list1 : List Dat → Option Ct
  | [.list xs] => some (.l xs)
  | _ => none
def rList1 (K : PySem.W.Frag) : List V → Hp → VK → Prop := fun xs H Q => ∃ p ys, xs = [.ref p] ∧ (SqL K H p ys ∨ SqT K H p ys) ∧ ∀ l, H l = none → Q (.ref l) (upd H l (.lst ys))
theorem call_list1 : CallR X (.type "list") (rList1 X.K) := call_list_of
theorem cf_list1 {K : PySem.W.Frag} : CaF K (rList1 K) list1 := by
  intro He H vs xs c Q hs d h q
  unfold list1 at h
  split at h
  · cases h
    obtain ⟨v, rfl, d1⟩ := one_dp d
    obtain ⟨p, ws, rfl, g1, g2⟩ := dp_lst d1
    exact ⟨p, ws, rfl, .inl (hs.seq g1), fun l hl => q l _ hl ⟨ws, rfl, g2⟩⟩
  · cases h
def min2 : List Dat → Option Dat
  | [.int i, .int j] => some (.int (if j < i then j else i))
  | _ => none
def max2 : List Dat → Option Dat
  | [.int i, .int j] => some (.int (if j > i then j else i))
  | _ => none
def rMin2 : List V → Hp → VK → Prop := fun xs H Q => ∃ i j, xs = [.int i, .int j] ∧ Q (.int (if j < i then j else i)) H
def rMax2 : List V → Hp → VK → Prop := fun xs H Q => ∃ i j, xs = [.int i, .int j] ∧ Q (.int (if j > i then j else i)) H
theorem call_min2A (hc : X.calm = true) : CallR X (.builtin "min") rMin2 := call_min2 hc
theorem call_max2A (hc : X.calm = true) : CallR X (.builtin "max") rMax2 := call_max2 hc
theorem cd_min2 {K : PySem.W.Frag} : CaD K rMin2 min2 := by
  intro He H vs xs z Q hs d h q
  unfold min2 at h
  split at h
  · cases h
    obtain ⟨v, w, rfl, d1, d2⟩ := two_dp d
    cases dp_int d1; cases dp_int d2
    exact ⟨_, _, rfl, q _ _ _ (.refl hs) (.int _)⟩
  · cases h
theorem cd_max2 {K : PySem.W.Frag} : CaD K rMax2 max2 := by
  intro He H vs xs z Q hs d h q
  unfold max2 at h
  split at h
  · cases h
    obtain ⟨v, w, rfl, d1, d2⟩ := two_dp d
    cases dp_int d1; cases dp_int d2
    exact ⟨_, _, rfl, q _ _ _ (.refl hs) (.int _)⟩
  · cases h
end
end Rp
set_option Elab.async false
set_option linter.all false
set_option maxRecDepth 100000
namespace Rp
open PySem PySem.Spec PyProof.Rows L2
def noCls : Nat → Value := fun _ => .none
theorem law_sp {K : PySem.W.Frag} {cls : Nat → Value} {F : FF} {H : Hp} {a : Addr} {ns : List Int} (h : F [.d (.list (ns.map PyData.int))] = some (.d (.bool true), [])) (hS : SqL K H a (ns.map V.int)) :
    spF K cls F [.ref a] H (fun v _ => v = .bl true) fun _ _ _ => False :=
  ⟨H, [.d (.list (ns.map PyData.int))], _, _, Same.refl H, .cons (.lst hS (dpAll_ints ns)) .nil, List.nodup_nil, h, fun v H' He' A d => dp_bl d, fun n e => nomatch e⟩
theorem law_cx {P : Program} {w : World} {H : Hp} {s : Shared} {e : Value} {s' : Shared} (h : L2N.CX P w [] H s (fun _ _ _ => False) e s') : False := by
  obtain ⟨_, _, _, _, _, _, _, _, _, _, _, _, z⟩ := h
  exact z.elim
end Rp
set_option Elab.async false
set_option linter.all false
set_option maxRecDepth 100000
/-! Refusals: raise, calls that may raise, try. -/
namespace Rp
open PySem PySem.Spec PyProof.Rows L2

/-- the wish of an exception, by its number -/
abbrev Ew (cls : Nat → Value) (W : WX) : Nat → L2.St → Hp → Prop := fun n σ H => W (cls n) none σ H
/-- a class of the text over ValueError -/
structure Ex (K : PySem.W.Frag) (mg : Str → Option Value) (x : Str) (v : Value) where
  C : Addr
  v : v = .ref C
  g : mg x = some (.ref C)
  x : PySem.W.excIn K C [.type "ValueError", .type "Exception", .type "BaseException", .type "object"] "ValueError.__new__" = true
  k : PySem.W.keepIn K (.ref C) = true
  b : PySem.W.subIn K (.ref C) (.type "BaseException") = some true
  t : PySem.W.typeIn K (.ref C) = some (.type "type")
  i : PySem.W.isClsIn K C = true
/-- what isinstance reads of it -/
structure ExI (K : PySem.W.Frag) (C : Addr) : Prop where
  e : ExcC K C
def sRaise (n : Nat) : MS := fun S => some (.rt (.x n) S)
/-- a call that may raise; what follows it -/
def sCallX (F : FF) (ma : M (List CA)) (k : FR → Sl → Option Out) : MS := fun S => match ma S with
  | some (as, S1) => match fasOf S1 as with
    | some fas => if ((slotsOf as).filterMap id).Nodup then
        match F fas with
        | some (.x n, news) => some (.rt (.x n) (putN S1 (slotsOf as) news))
        | some (.d x, news) => k (.d x) (putN S1 (slotsOf as) news)
        | some (.f c, news) => k (.f c) (putN S1 (slotsOf as) news)
        | none => none
      else none
    | none => none
  | none => none
def kAsg (i : Nat) : FR → Sl → Option Out
  | .d x, S => some (.nx (S.set i (.d x)))
  | .f c, S => some (.nx (S.set i (.o c)))
  | .x _, _ => none
def kDrop : FR → Sl → Option Out
  | .x _, _ => none
  | _, S => some (.nx S)
def kRet : FR → Sl → Option Out
  | .d x, S => some (.rt (.d x) S)
  | .f c, S => some (.rt (.f c) S)
  | .x _, _ => none
def sTry (cs : List Nat) (b h : MS) : MS := fun S => match b S with
  | some (.rt (.x n) S1) => if n ∈ cs then
      match h S1 with
      | some (.rt (.x _) _) => none
      | r => r
    else none
  | r => r
/-- the handler names the exception (slot i) and gives a truth -/
def sTryAs (cs : List Nat) (i : Nat) (ans : Nat → Bool) (b : MS) : MS := fun S => match b S with
  | some (.rt (.x n) S1) => if n ∈ cs ∧ i < S1.length then some (.rt (.d (.bool (ans n))) S1) else none
  | r => r
section
variable {X : Cx} {e a b c : Expr} {es rest : List Expr} {st : Stmt} {sts sts' : List Stmt} {ma mb : M Dat} {mf : M Ct} {mt : M Bool} {m1 m2 : MS} {E : Nat → L2.St → Hp → Prop} {pos : Pos} {cls : Nat → Value} {W : WX} {mar : M (List CA)}
theorem ss_raise {n : Nat} {x m : Str} {j : Nat} {p p2 pos' : Pos} (hc : X.calm = true) (tk : L2N.Takes X W) (T : Ex X.K X.mg x (cls n)) (hg : Gl X x) (hdb : (x == ("__debug__" : Str)) = false := by decide) :
    PS X (.Raise (some (.Call (.Name x p) [.Constant (.str m) j p2] [] pos)) none pos') (tS X.K (Ew cls W) (sRaise n)) :=
  (L2N.ps_raise hc tk (L2N.pmk_own PySem.F.excBase_ValueError T.x T.g T.k (raises_own T.b T.t) hg hdb)).imp fun D σ H q => by
    obtain ⟨U, ms, He, S, o, R, h, q⟩ := q
    cases h
    have := q σ H He (.refl _ _) R
    unfold Ew at this
    rw [T.v] at this
    exact this
variable {CX : CXT} {k : Nat} {f : Addr} {fd : FuncData} {ps : List Str} {x : Str} {p : Pos} {F : FF}
theorem tX_call {K : PySem.W.Frag} {σ : L2.St} {H : Hp} {Q : VK} {U : Hp} {ms : List Addr} {He : Hp} {S : Sl} {o : Out} {kk : FR → Sl → Option Out} (R : Rel K U ms He S σ H) (h : sCallX F mar kk S = some o)
    (q : ∀ r S2 v H' He', kk r S2 = some o → Grow U He He' → Rel K U ms He' S2 σ H' → (match r with | .d x => Dp K He' v x | .f ct => Fresh K U He' S2 σ H' v ct | .x _ => False) → Q v H')
    (qx : ∀ n S2 H' He', o = .rt (.x n) S2 → Grow U He He' → Rel K U ms He' S2 σ H' → W (cls n) none σ H') : tCallS (spF K cls F) (WE W) (tAr K mar) σ H Q := by
  unfold sCallX at h
  split at h
  · rename_i as S1 h1
    split at h
    · rename_i fas h2
      split at h
      · rename_i hn
        have go : ∀ r news, F fas = some (r, news) → (∀ v H' He', Grow U He He' → Rel K U ms He' (putN S1 (slotsOf as) news) σ H' → (match r with | .d x => Dp K He' v x | .f ct => Fresh K U He' (putN S1 (slotsOf as) news) σ H' v ct | .x _ => False) → Q v H') →
            (∀ n, r = .x n → ∀ H' He', Grow U He He' → Rel K U ms He' (putN S1 (slotsOf as) news) σ H' → W (cls n) none σ H') → tCallS (spF K cls F) (WE W) (tAr K mar) σ H Q := fun r news hF q1 q2 => by
          refine ⟨U, ms, He, S, as, S1, R, h1, fun vs H1 He1 G1 R1 d1 n1 => ?_⟩
          exact call_run R1 d1 n1 h2 hn hF (fun v H' He' G R' d => q1 v H' He' (G1.trans G) R' (by cases r <;> exact d)) (fun n hr H' He' G R' => q2 n hr H' He' (G1.trans G) R')
        split at h
        · rename_i n news hF
          cases h
          exact go _ _ hF (fun v H' He' G R' d => d.elim) (fun n' e H' He' G R' => by cases e; exact qx _ _ H' He' rfl G R')
        · rename_i y news hF
          exact go _ _ hF (fun v H' He' G R' d => q _ _ v H' He' h G R' d) (fun n' e => nomatch e)
        · rename_i y news hF
          exact go _ _ hF (fun v H' He' G R' d => q _ _ v H' He' h G R' d) (fun n' e => nomatch e)
        · cases h
      · cases h
    · cases h
  · cases h
/-- x = f(..) that may raise -/
theorem ss_asgX {i : Nat} {x' : Str} {pos' cpos : Pos} (hN : X.N.Nodup) (hi : X.N[i]? = some x') (hx : Loc X.env.scope x') (tk : L2N.Takes X W)
    (G : FnOk X.prog X.w X.K X.mg X.base (L2N.CX X.prog X.w) k f fd ps (spF X.K cls F)) (hr : Room k X.A) (hg : Gl X x) (hm : X.mg x = some (.ref f)) (hk : PySem.W.keepIn X.K (.ref f) = true) (hb : Binds X.K fd ps [])
    (ha : PA X (e :: es) (tAr X.K mar)) (hdb : (x == ("__debug__" : Str)) = false := by decide) (he : starEach (e :: es) X.env = (false, eval e X.env) :: starEach es X.env := by rfl) (hpl : (backTo cpos (starEach es X.env)).any (·.1) = false := by rfl)
    (hs : swapsWith (.Call (.Name x p) (e :: es) [] cpos) (some (.Name x' pos')) pos.line X.env = pure false := by rfl) (hf : X.fn x' = true ∨ X.env.scope.names.lookup x' = some .local := by first | exact .inl rfl | exact .inr rfl | assumption) :
    PS X (.Assign [.Name x' pos'] (.Call (.Name x p) (e :: es) [] cpos) pos) (tS X.K (Ew cls W) (sCallX F mar (kAsg i))) :=
  (ps_set hN hi hx (pe_callS G hr hg hm hk hb (fun σ => L2N.passAt tk σ) ha hdb he hpl) hs hf).imp fun D σ H q => by
    obtain ⟨U, ms, He, S, o, R, h, q⟩ := q
    refine tX_call R h (fun r S2 v H' He' hk G R' d => ?_) (fun n S2 H' He' e G R' => by subst e; exact q σ H' He' G R')
    cases r with
    | d y => cases hk; exact q _ H' He' G (R'.setD d)
    | f ct => cases hk; exact q _ H' He' G (R'.setO d)
    | x n => exact d.elim
theorem ss_dropX {cpos : Pos} (tk : L2N.Takes X W)
    (G : FnOk X.prog X.w X.K X.mg X.base (L2N.CX X.prog X.w) k f fd ps (spF X.K cls F)) (hr : Room k X.A) (hg : Gl X x) (hm : X.mg x = some (.ref f)) (hk : PySem.W.keepIn X.K (.ref f) = true) (hb : Binds X.K fd ps [])
    (ha : PA X (e :: es) (tAr X.K mar)) (hdb : (x == ("__debug__" : Str)) = false := by decide) (he : starEach (e :: es) X.env = (false, eval e X.env) :: starEach es X.env := by rfl) (hpl : (backTo cpos (starEach es X.env)).any (·.1) = false := by rfl)
    (hs : swapsWith (.Call (.Name x p) (e :: es) [] cpos) none pos.line X.env = pure false := by rfl) :
    PS X (.Expr (.Call (.Name x p) (e :: es) [] cpos) pos) (tS X.K (Ew cls W) (sCallX F mar kDrop)) :=
  (ps_expr (pe_callS G hr hg hm hk hb (fun σ => L2N.passAt tk σ) ha hdb he hpl) hs).imp fun D σ H q => by
    obtain ⟨U, ms, He, S, o, R, h, q⟩ := q
    refine tX_call R h (fun r S2 v H' He' hk G R' d => ?_) (fun n S2 H' He' e G R' => by subst e; exact q σ H' He' G R')
    cases r with
    | d y => cases hk; exact q _ H' He' G R'
    | f ct => cases hk; exact q _ H' He' G R'
    | x n => exact d.elim
theorem ss_retX {cpos : Pos} (tk : L2N.Takes X W)
    (G : FnOk X.prog X.w X.K X.mg X.base (L2N.CX X.prog X.w) k f fd ps (spF X.K cls F)) (hr : Room k X.A) (hg : Gl X x) (hm : X.mg x = some (.ref f)) (hk : PySem.W.keepIn X.K (.ref f) = true) (hb : Binds X.K fd ps [])
    (ha : PA X (e :: es) (tAr X.K mar)) (hdb : (x == ("__debug__" : Str)) = false := by decide) (he : starEach (e :: es) X.env = (false, eval e X.env) :: starEach es X.env := by rfl) (hpl : (backTo cpos (starEach es X.env)).any (·.1) = false := by rfl) :
    PS X (.Return (some (.Call (.Name x p) (e :: es) [] cpos)) pos) (tS X.K (Ew cls W) (sCallX F mar kRet)) :=
  (ps_ret (pe_callS G hr hg hm hk hb (fun σ => L2N.passAt tk σ) ha hdb he hpl)).imp fun D σ H q => by
    obtain ⟨U, ms, He, S, o, R, h, q⟩ := q
    refine tX_call R h (fun r S2 v H' He' hk G R' d => ?_) (fun n S2 H' He' e G R' => by subst e; exact q σ H' He' G R')
    cases r with
    | d y => cases hk; exact q v σ H' He' G R' d
    | f ct => cases hk; exact q v σ H' He' G R' d.at_
    | x n => exact d.elim
/-! ### try -/
def OutOk (K : PySem.W.Frag) (E : Nat → L2.St → Hp → Prop) (U : Hp) (ms : List Addr) (He : Hp) (D : Ends) : Out → Prop
  | .nx S' => ∀ σ' H' He', Grow U He He' → Rel K U ms He' S' σ' H' → D.nx σ' H'
  | .rt (.d x) S' => ∀ v σ' H' He', Grow U He He' → Rel K U ms He' S' σ' H' → Dp K He' v x → D.rt v H'
  | .rt (.f c) S' => ∀ v σ' H' He', Grow U He He' → Rel K U ms He' S' σ' H' → (∃ a o, v = .ref a ∧ H' a = some o ∧ CtAt K He' o c ∧ He' a = none ∧ U a = none) → D.rt v H'
  | .rt (.x n) S' => ∀ σ' H' He', Grow U He He' → Rel K U ms He' S' σ' H' → E n σ' H'
theorem tS_more {K : PySem.W.Frag} {U : Hp} {ms : List Addr} {He He' : Hp} {S1 : Sl} {σ : L2.St} {H' : Hp} {m : MS} {o : Out} {D : Ends} (R' : Rel K U ms He' S1 σ H') (h : m S1 = some o) (hx : ∀ n S', o ≠ .rt (.x n) S') (G : Grow U He He') (q : OutOk K E U ms He D o) : tS K (fun _ _ _ => False) m D σ H' := by
  refine ⟨U, ms, He', S1, o, R', h, ?_⟩
  cases o with
  | nx S' => exact fun σ2 H2 He2 G2 R2 => q σ2 H2 He2 (G.trans G2) R2
  | rt r S' =>
    cases r with
    | d x => exact fun v σ2 H2 He2 G2 R2 d => q v σ2 H2 He2 (G.trans G2) R2 d
    | f c => exact fun v σ2 H2 He2 G2 R2 d => q v σ2 H2 He2 (G.trans G2) R2 d
    | x n => exact absurd rfl (hx n S')
theorem ss_try {x : Str} {v : Value} {np pos' : Pos} {body suite : List Stmt} {b₀ : Stmt} {cs : List Nat} (tk : L2N.Takes X W) (hs : X.stack = X.env :: X.outer) (hf : X.env.frame = some X.env.locals) (hc : Names X x v) (hex : ∀ n ∈ cs, PySem.W.exmOne X.K (cls n) v = some true)
    (hb : ∀ (W' : WX) (pn : List (Addr × Obj)) (xe : Value → Shared → Prop), L2N.Takes (X.tr pn xe) W' → PassesOwn (model X.prog X.w) X.A X.env xe → PSs (X.tr pn xe) body (tS X.K (Ew cls W') m1))
    (hh : ∀ (a : Addr) (oe : Obj) (cl : Value) (d : Option Addr) (pn : List (Addr × Obj)), L2N.Zn cl d oe → (∃ vs, oe.data = .fields vs) → PSs (X.suite a ((a, oe) :: pn)) (b₀ :: suite) (tS X.K (fun _ _ _ => False) m2)) :
    PS X (.Try body [.ExceptHandler (some (.Name x np)) none (b₀ :: suite) pos'] [] [] pos) (tS X.K (Ew cls W) (sTry cs m1 m2)) :=
  (L2N.ps_try_many hs hf tk (tb := fun W' => tS X.K (Ew cls W') m1) (l := [(v, fun _ _ _ => tS X.K (fun _ _ _ => False) m2)]) hb (.cons hc hh .nil)).imp fun D σ H q => by
    obtain ⟨U, ms, He, S, o, R, h, q⟩ := q
    unfold sTry at h
    split at h
    · rename_i n S1 h1
      split at h
      · rename_i hn
        split at h
        · cases h
        · rename_i hne
          refine ⟨U, ms, He, S, _, R, h1, fun σ' H' He' G R' => ?_⟩
          exact ⟨true, hex n hn, fun _ a ha => tS_more (E := Ew cls W) (He := He) R' h (fun n' S' e => hne n' S' (e ▸ h)) G (by cases o with
            | nx S' => exact q
            | rt r S' => cases r <;> exact q), fun z => nomatch z⟩
      · cases h
    · rename_i hne
      refine ⟨U, ms, He, S, o, R, h, ?_⟩
      cases o with
      | nx S' => exact q
      | rt r S' =>
        cases r with
        | d x => exact q
        | f c => exact q
        | x n => exact absurd h (hne n S')
theorem ss_tryAs {x nm : Str} {i : Nat} {v : Value} {np pos' : Pos} {body suite : List Stmt} {b₀ : Stmt} {cs : List Nat} {ans : Nat → Bool} (tk : L2N.Takes X W) (hs : X.stack = X.env :: X.outer) (hf : X.env.frame = some X.env.locals) (hN : X.N.Nodup) (hi : X.N[i]? = some nm) (hl : X.env.kindOf nm = some .local) (hc : Names X x v) (hex : ∀ n ∈ cs, PySem.W.exmOne X.K (cls n) v = some true)
    (hb : ∀ (W' : WX) (pn : List (Addr × Obj)) (xe : Value → Shared → Prop), L2N.Takes (X.tr pn xe) W' → PassesOwn (model X.prog X.w) X.A X.env xe → PSs (X.tr pn xe) body (tS X.K (Ew cls W') m1))
    (hh : ∀ n ∈ cs, ∀ (a : Addr) (oe : Obj) (pn : List (Addr × Obj)), L2N.Zn (cls n) none oe → (∃ vs, oe.data = .fields vs) → PSs (X.suite a ((a, oe) :: pn)) (b₀ :: suite) (fun D σ H => σ[i]? = some (some (.ref a)) ∧ D.rt (.bl (ans n)) H)) :
    PS X (.Try body [.ExceptHandler (some (.Name x np)) (some nm) (b₀ :: suite) pos'] [] [] pos) (tS X.K (Ew cls W) (sTryAs cs i ans m1)) :=
  (L2N.ps_try_as (i := i) hs hf hN hi hl hc tk (tb := fun W' => tS X.K (Ew cls W') m1) (ts := fun a cl d D σ H => ∃ n ∈ cs, cl = cls n ∧ d = none ∧ σ[i]? = some (some (.ref a)) ∧ D.rt (.bl (ans n)) H) hb (fun a oe cl d pn z hv => ⟨fun pins s σ H D I t => by
    obtain ⟨n, hn, hcl, hd, h1, h2⟩ := t
    subst hcl hd
    exact (hh n hn a oe pn z hv).run pins s σ H D I ⟨h1, h2⟩⟩)).imp fun D σ H q => by
    obtain ⟨U, ms, He, S, o, R, h, q⟩ := q
    unfold sTryAs at h
    split at h
    · rename_i n S1 h1
      split at h
      · rename_i hn
        cases h
        refine ⟨U, ms, He, S, _, R, h1, fun σ' H' He' G R' => ?_⟩
        refine ⟨true, hex n hn.1, fun _ a ha => ⟨n, hn.1, rfl, rfl, ?_, q _ σ' H' He' G R' (.bl _)⟩, fun z => nomatch z⟩
        rw [List.getElem?_set_self (by rw [← R'.len]; exact hn.2)]
      · cases h
    · rename_i hne
      refine ⟨U, ms, He, S, o, R, h, ?_⟩
      cases o with
      | nx S' => exact q
      | rt r S' =>
        cases r with
        | d x => exact q
        | f c => exact q
        | x n => exact absurd h (hne n S')
end
/-! ### isinstance of the caught exception -/
section
variable {X : Cx} {a : Addr} {oe : Obj} {pn : List (Addr × Obj)} {D : Addr} {i : Nat} {b : Bool} {nm : Str} {e2 : Expr} {cv : V} {u : Value} {p p1 pos : Pos}
def tIs (i : Nat) (a : Addr) (b : Bool) : TT := fun σ H Q => σ[i]? = some (some (.ref a)) ∧ Q b H
def tIsV (i : Nat) (a : Addr) (b : Bool) : TE := fun σ H Q => σ[i]? = some (some (.ref a)) ∧ Q (.bl b) H
theorem pe_isE (hE : ExcC X.K D) (hz : Zc (.ref D) none oe) (hv : ∃ vs, oe.data = .fields vs) (hg : Gl (X.suite a ((a, oe) :: pn)) "isinstance") (hm : X.mg "isinstance" = none)
    (he : PE (X.suite a ((a, oe) :: pn)) (.Name nm p1) (tVar i)) (hc : PE (X.suite a ((a, oe) :: pn)) e2 (tC cv)) (hu : ∀ w, RelV cv w → w = u) (hk : PySem.W.kitOne X.K (.ref D) u = some b)
    (h1 : starEach [.Name nm p1, e2] X.env = (false, eval (.Name nm p1) X.env) :: starEach [e2] X.env := by rfl) (h2 : starEach [e2] X.env = (false, eval e2 X.env) :: starEach [] X.env := by rfl) (hpl : (backTo pos (starEach [e2] X.env)).any (·.1) = false := by rfl) :
    PE (X.suite a ((a, oe) :: pn)) (.Call (.Name "isinstance" p) [.Name nm p1, e2] [] pos) (tIsV i a b) :=
  (pe_callB (call_isE hE hz hv) hg hm boot_isinstance (pa_cons he (pa_cons hc pa_nil h2) h1) (by decide) (by decide) h1 hpl).imp fun σ H Q q => by
    obtain ⟨h, q⟩ := q
    exact ⟨_, h, cv, u, b, rfl, hu, hk, q⟩
theorem pt_is {e : Expr} (h : PE X e (tIsV i a b)) (he : ∀ whole, isTrue e X.env whole = (do let v ← whole; standAt e.pos; holding [v] (truthy v)) := by intro _; rfl) : PT X e (tIs i a b) :=
  (pt_truth h he).imp fun σ H Q q => ⟨q.1, b, rfl, q.2⟩
variable {e f : Expr} {rest : List Expr}
theorem pw_isF (ha : PT X e (tIs i a false)) (hb : PW X (.BoolOp .Or (f :: rest) pos) (tIs i a false)) : PW X (.BoolOp .Or (e :: f :: rest) pos) (tIs i a false) := (pw_or ha hb).imp fun σ H Q q => ⟨q.1, iteF q⟩
theorem pe_isT (ha : PE X e (tIsV i a true)) (hb : PE X (.BoolOp .And (f :: rest) pos) (tIsV i a true)) : PE X (.BoolOp .And (e :: f :: rest) pos) (tIsV i a true) := (pe_and ha hb).imp fun σ H Q q => ⟨q.1, true, rfl, iteT q⟩
theorem hand_ok {c r : Expr} {p2 p3 : Pos} {ps : List Stmt} {ts : TS} (hor : PT X c (tIs i a false)) (hr : PSs X ps ts) (hand : PE X r (tIsV i a true)) :
    PSs X [.If c ps [] p2, .Return (some r) p3] (fun D σ H => σ[i]? = some (some (.ref a)) ∧ D.rt (.bl true) H) :=
  (pss_cons (ps_if hor hr pss_nil) (pss_one (ps_ret hand))).imp fun D σ H q => ⟨q.1, iteF q⟩
theorem exm_is {K : PySem.W.Frag} {D C : Addr} {b : Bool} (h1 : PySem.W.subIn K (.ref C) (.type "BaseException") = some true) (h2 : PySem.W.isClsIn K C = true) (h3 : PySem.W.typeIn K (.ref C) = some (.type "type")) (h4 : PySem.W.subIn K (.ref D) (.ref C) = some b) :
    PySem.W.exmOne K (.ref D) (.ref C) = some b := by
  have e1 : (PySem.W.subIn K (.ref C) (.type "BaseException") == some true) = true := by rw [h1] <;> rfl
  have e3 : ((PySem.W.clsIn K C).isSome && PySem.W.typeIn K (.ref C) == some (.type "type")) = true := by
    have e2 : (PySem.W.clsIn K C).isSome = true := h2
    rw [e2, h3] <;> rfl
  show (if (PySem.W.subIn K (.ref C) (.type "BaseException") == some true) = true then (if ((PySem.W.clsIn K C).isSome && PySem.W.typeIn K (.ref C) == some (.type "type")) = true then PySem.W.subIn K (.ref D) (.ref C) else none) else none) = some b
  rw [if_pos e1, if_pos e3, h4]
end
theorem Ex.exm {K : PySem.W.Frag} {mg : Str → Option Value} {x y : Str} {v v' : Value} {b : Bool} (T : Ex K mg x v) (T' : Ex K mg y v') (h : PySem.W.subIn K (.ref T.C) (.ref T'.C) = some b) : PySem.W.exmOne K v (.ref T'.C) = some b := by
  have e := exm_is T'.b T'.i T'.t h
  rw [← T.v] at e
  exact e
theorem Ex.z {K : PySem.W.Frag} {mg : Str → Option Value} {x : Str} {v : Value} {d : Option Addr} {oe : Obj} (T : Ex K mg x v) (z : Zc v d oe) : Zc (.ref T.C) d oe := by
  have e := z
  rw [T.v] at e
  exact e
/-! ### defs that may raise -/
def runFX (p n : Nat) (m : MS) : FF := fun fas => if fas.length = p then
    match m (initS 0 fas ++ List.replicate (n - p) .no) with
    | some o => match newsOf 0 fas o.sl with
        | some news => some (o.res, news)
        | none => none
    | none => none
  else none
theorem comp_runX {p n : Nat} {m : MS} (hpn : p ≤ n) : Comp n m (runFX p n m) := fun fas r news h => by
  unfold runFX at h
  split at h
  · rename_i hl
    split at h
    · rename_i o ho
      split at h
      · rename_i news' hn
        cases h
        exact ⟨by omega, o, by rw [hl]; exact ho, rfl, hn⟩
      · cases h
    · cases h
  · cases h
theorem runFX_len {p n : Nat} {m : MS} : ∀ fas r, runFX p n m fas = some r → fas.length = p := fun fas r h => by
  unfold runFX at h
  split at h
  · assumption
  · cases h
def WE0 (E : XK) : WX := fun c d _ H => E c d H
theorem run_okX {P : Program} {w : World} {K : PySem.W.Frag} {mg : Str → Option Value} {base : Heap} {cls : Nat → Value} {x : Str} {st : Stmt} {N ps : List Str} (D : Df K mg x st ps) {k p n : Nat} {m : MS} (Sc : FnScope N ps (defScope st)) (hp : ps.length = p) (hn : N.length = n) (hpn : p ≤ n)
    (hbody : ∀ (cdv : Value) (A : Around) (outer : List Env) (s : Shared) (H : Hp) (E : XK), Room k (A.deeper (envOfC x (defScope st) s.heap.objs.size D.f cdv)) →
      L2N.Takes (cxOf (L2N.CX P w) P w K mg base N x (defScope st) D.f cdv A outer s H E) (WE0 E) →
      PSs (cxOf (L2N.CX P w) P w K mg base N x (defScope st) D.f cdv A outer s H E) (defBody st) (tS K (Ew cls (WE0 E)) m)) :
    FnOk P w K mg base (L2N.CX P w) (k + 1) D.f D.fd ps (spF K cls (runFX p n m)) := by
  subst hp hn
  refine okN D.F Sc (fun vs H Q E h => sp_len runFX_len h) (fun cdv A outer s H vs Q E hr h => ?_)
  exact ⟨_, hbody cdv A outer s H E hr (L2N.takes_of rfl rfl rfl rfl), body_ok (comp_runX hpn) h⟩
theorem fn_nox {P : Program} {w : World} {K : PySem.W.Frag} {mg : Str → Option Value} {base : Heap} {cls cls' : Nat → Value} {k : Nat} {f : Addr} {fd : FuncData} {ps : List Str} {F : FF} (h : FnOk P w K mg base (L2N.CX P w) k f fd ps (spF K cls F)) (hx : ∀ fas n news, F fas ≠ some (.x n, news)) :
    FnOk P w K mg base (L2N.CX P w) k f fd ps (spF K cls' F) := by
  have conv : ∀ {vs : List V} {H : Hp} {Q : VK} {E : XK}, spF K cls' F vs H Q E → spF K cls F vs H Q E := fun h => by
    obtain ⟨He, fas, r, news, hs, hp, hn, hF, q, qx⟩ := h
    exact ⟨He, fas, r, news, hs, hp, hn, hF, q, fun n e => absurd (e ▸ hF) (hx fas n news)⟩
  exact ⟨fun vs H Q E q => h.1 vs H Q E (conv q), fun A outer s H args us vs Q E a b c d q => h.2 A outer s H args us vs Q E a b c d (conv q)⟩
end Rp
set_option Elab.async false
set_option linter.all false
set_option maxRecDepth 100000
/-! The defs where an exception is being handled. -/
namespace Rp
open PySem PySem.Spec PyProof.Rows L2

theorem roomH_mark {k : Nat} {A : Around} {v : Option Value} (h : L2H.RoomH k A) : L2H.RoomH k (A.mark v) := ⟨h.1, h.2⟩
theorem unitsH {k : Nat} {A : Around} (h : L2H.RoomH k A) : A.units + 64 < cLine := by have := h.un; omega
theorem roomH_suite {k : Nat} {X : Cx} {a : Addr} {pn : List (Addr × Obj)} (h : Room k X.A) : L2H.RoomH k (X.suite a pn).A := roomH_mark (L2H.roomH_of h)
theorem hot_suite {X : Cx} {a : Addr} {oe : Obj} {cl : Value} {d : Option Addr} {pn : List (Addr × Obj)} (z : L2N.Zn cl d oe) (hv : ∃ vs, oe.data = .fields vs) : L2H.HotC (X.suite a ((a, oe) :: pn)) := by
  obtain ⟨vs, e⟩ := hv
  exact ⟨(a, oe), ⟨rfl, vs, e, z.2.2 vs e⟩, List.mem_cons_self⟩
theorem hot_tr {X : Cx} {pn : List (Addr × Obj)} {xe : Value → Shared → Prop} (h : L2H.HotC X) (hs : ∀ q ∈ X.pn, q ∈ pn) : L2H.HotC (X.tr pn xe) := by
  obtain ⟨p, h1, h2⟩ := h
  exact ⟨p, h1, hs p h2⟩
section
variable {X : Cx} {e a b c : Expr} {es rest : List Expr} {st : Stmt} {sts sts' : List Stmt} {ma mb : M Dat} {mf : M Ct} {mt : M Bool} {m1 m2 : MS} {E : Nat → L2.St → Hp → Prop} {pos : Pos} {cls : Nat → Value} {W : WX} {mar : M (List CA)} {F : FF}
theorem tM_callS {K : PySem.W.Frag} {σ : L2.St} {H : Hp} {Q : VK} (h : tM K (mCall F mar) σ H Q) : tCallS (spF K cls F) (WE W) (tAr K mar) σ H Q := by
  obtain ⟨U, ms, He, S, z, S2, R, h, q⟩ := h
  unfold mCall at h
  split at h
  · rename_i as S1 h1
    split at h
    · rename_i fas h2
      split at h
      · rename_i hn
        split at h
        · rename_i y news hF
          cases h
          refine ⟨U, ms, He, S, as, S1, R, h1, fun vs H1 He1 G1 R1 d1 n1 => ?_⟩
          exact call_run R1 d1 n1 h2 hn hF (fun v H' He' G R' d => q v H' He' (G1.trans G) R' d) (fun n hr => nomatch hr)
        · cases h
      · cases h
    · cases h
  · cases h
theorem tF_callS {K : PySem.W.Frag} {σ : L2.St} {H : Hp} {Q : VK} (h : tF K (mCallF F mar) σ H Q) : tCallS (spF K cls F) (WE W) (tAr K mar) σ H Q := by
  obtain ⟨U, ms, He, S, z, S2, R, h, q⟩ := h
  unfold mCallF at h
  split at h
  · rename_i as S1 h1
    split at h
    · rename_i fas h2
      split at h
      · rename_i hn
        split at h
        · rename_i y news hF
          cases h
          refine ⟨U, ms, He, S, as, S1, R, h1, fun vs H1 He1 G1 R1 d1 n1 => ?_⟩
          exact call_run R1 d1 n1 h2 hn hF (fun v H' He' G R' d => q v H' He' (G1.trans G) R' d) (fun n hr => nomatch hr)
        · cases h
      · cases h
    · cases h
  · cases h
abbrev noW : WX := fun _ _ _ _ => False
theorem takesH : Takes X noW := fun u s' h => by
  obtain ⟨_, _, _, _, _, _, _, _, _, _, _, _, _, _, _, _, z⟩ := h
  exact z.elim
theorem takesN : L2N.Takes X noW := fun u s' h => by
  obtain ⟨_, _, _, _, _, _, _, _, _, _, _, _, _, _, _, _, z⟩ := h
  exact z.elim
/-- f(..) by what its call promises -/
theorem se_callE (h : PE X e (tCallS (spF X.K cls F) (WE noW) (tAr X.K mar))) : PE X e (tM X.K (mCall F mar)) := h.imp fun σ H Q q => tM_callS q
theorem sf_callE (h : PE X e (tCallS (spF X.K cls F) (WE noW) (tAr X.K mar))) : PE X e (tF X.K (mCallF F mar)) := h.imp fun σ H Q q => tF_callS q
theorem ss_asgE {i : Nat} {x' : Str} {pos' : Pos} (hN : X.N.Nodup) (hi : X.N[i]? = some x') (hx : Loc X.env.scope x') (h : PE X e (tCallS (spF X.K cls F) (WE W) (tAr X.K mar)))
    (hs : swapsWith e (some (.Name x' pos')) pos.line X.env = pure false := by rfl) (hf : X.fn x' = true ∨ X.env.scope.names.lookup x' = some .local := by first | exact .inl rfl | exact .inr rfl | assumption) :
    PS X (.Assign [.Name x' pos'] e pos) (tS X.K (Ew cls W) (sCallX F mar (kAsg i))) :=
  (ps_set hN hi hx h hs hf).imp fun D σ H q => by
    obtain ⟨U, ms, He, S, o, R, h, q⟩ := q
    refine tX_call R h (fun r S2 v H' He' hk G R' d => ?_) (fun n S2 H' He' e G R' => by subst e; exact q σ H' He' G R')
    cases r with
    | d y => cases hk; exact q _ H' He' G (R'.setD d)
    | f ct => cases hk; exact q _ H' He' G (R'.setO d)
    | x n => exact d.elim
theorem ss_dropE (h : PE X e (tCallS (spF X.K cls F) (WE W) (tAr X.K mar))) (hs : swapsWith e none pos.line X.env = pure false := by rfl) : PS X (.Expr e pos) (tS X.K (Ew cls W) (sCallX F mar kDrop)) :=
  (ps_expr h hs).imp fun D σ H q => by
    obtain ⟨U, ms, He, S, o, R, h, q⟩ := q
    refine tX_call R h (fun r S2 v H' He' hk G R' d => ?_) (fun n S2 H' He' e G R' => by subst e; exact q σ H' He' G R')
    cases r with
    | d y => cases hk; exact q _ H' He' G R'
    | f ct => cases hk; exact q _ H' He' G R'
    | x n => exact d.elim
theorem ss_retE (h : PE X e (tCallS (spF X.K cls F) (WE W) (tAr X.K mar))) : PS X (.Return (some e) pos) (tS X.K (Ew cls W) (sCallX F mar kRet)) :=
  (ps_ret h).imp fun D σ H q => by
    obtain ⟨U, ms, He, S, o, R, h, q⟩ := q
    refine tX_call R h (fun r S2 v H' He' hk G R' d => ?_) (fun n S2 H' He' e G R' => by subst e; exact q σ H' He' G R')
    cases r with
    | d y => cases hk; exact q v σ H' He' G R' d
    | f ct => cases hk; exact q v σ H' He' G R' d.at_
    | x n => exact d.elim
theorem ss_raiseH {n : Nat} {x m : Str} {j : Nat} {p p2 pos' : Pos} (hc : L2H.HotC X) (tk : Takes X W) (T : Ex X.K X.mg x (cls n)) (hg : Gl X x) (hdb : (x == ("__debug__" : Str)) = false := by decide) :
    PS X (.Raise (some (.Call (.Name x p) [.Constant (.str m) j p2] [] pos)) none pos') (tS X.K (Ew cls W) (sRaise n)) :=
  (L2H.ps_raiseH hc tk (L2N.pmk_own PySem.F.excBase_ValueError T.x T.g T.k (raises_own T.b T.t) hg hdb)).imp fun D σ H q => by
    obtain ⟨U, ms, He, S, o, R, h, q⟩ := q
    cases h
    have := q σ H He (.refl _ _) R
    unfold Ew at this
    rw [T.v] at this
    exact this
theorem ss_tryAsH {x nm : Str} {i : Nat} {v : Value} {np pos' : Pos} {body suite : List Stmt} {b₀ : Stmt} {cs : List Nat} {ans : Nat → Bool} (tk : Takes X W) (hs : X.stack = X.env :: X.outer) (hf : X.env.frame = some X.env.locals) (hN : X.N.Nodup) (hi : X.N[i]? = some nm) (hl : X.env.kindOf nm = some .local) (hc : Names X x v) (hex : ∀ n ∈ cs, PySem.W.exmOne X.K (cls n) v = some true)
    (hb : ∀ (W' : WX) (pn : List (Addr × Obj)) (xe : Value → Shared → Prop), (∀ q ∈ X.pn, q ∈ pn) → Takes (X.tr pn xe) W' → PassesOwn (model X.prog X.w) X.A X.env xe → PSs (X.tr pn xe) body (tS X.K (Ew cls W') m1))
    (hh : ∀ n ∈ cs, ∀ (a : Addr) (oe : Obj) (pn : List (Addr × Obj)), Zc (cls n) none oe → (∃ vs, oe.data = .fields vs) → PSs (X.suite a ((a, oe) :: pn)) (b₀ :: suite) (fun D σ H => σ[i]? = some (some (.ref a)) ∧ D.rt (.bl (ans n)) H)) :
    PS X (.Try body [.ExceptHandler (some (.Name x np)) (some nm) (b₀ :: suite) pos'] [] [] pos) (tS X.K (Ew cls W) (sTryAs cs i ans m1)) :=
  (L2H.ps_try_asH (i := i) hs hf hN hi hl hc tk (tb := fun W' => tS X.K (Ew cls W') m1) (ts := fun a cl d D σ H => ∃ n ∈ cs, cl = cls n ∧ d = none ∧ σ[i]? = some (some (.ref a)) ∧ D.rt (.bl (ans n)) H) hb (fun a oe cl d pn z hv => ⟨fun pins s σ H D I t => by
    obtain ⟨n, hn, hcl, hd, h1, h2⟩ := t
    subst hcl hd
    exact (hh n hn a oe pn z hv).run pins s σ H D I ⟨h1, h2⟩⟩)).imp fun D σ H q => by
    obtain ⟨U, ms, He, S, o, R, h, q⟩ := q
    unfold sTryAs at h
    split at h
    · rename_i n S1 h1
      split at h
      · rename_i hn
        cases h
        refine ⟨U, ms, He, S, _, R, h1, fun σ' H' He' G R' => ?_⟩
        refine ⟨true, hex n hn.1, fun _ a ha => ⟨n, hn.1, rfl, rfl, ?_, q _ σ' H' He' G R' (.bl _)⟩, fun z => nomatch z⟩
        rw [List.getElem?_set_self (by rw [← R'.len]; exact hn.2)]
      · cases h
    · rename_i hne
      refine ⟨U, ms, He, S, o, R, h, ?_⟩
      cases o with
      | nx S' => exact q
      | rt r S' =>
        cases r with
        | d x => exact q
        | f c => exact q
        | x n => exact absurd h (hne n S')
end
/-! ### the defs -/
section
variable {P : Program} {w : World} {K : PySem.W.Frag} {mg : Str → Option Value} {base : Heap} {cls : Nat → Value}
theorem okH {x qual : Str} {st : Stmt} {f : Addr} {fd : FuncData} {N ps : List Str} {k : Nat} {sp : Sp} (Fn : Fun K x qual st f fd) (Sc : FnScope N ps (defScope st)) (hl : ∀ vs H Q E, sp vs H Q E → vs.length = ps.length)
    (hb : ∀ (cdv : Value) (A : Around) (outer : List Env) (s : Shared) (H : Hp) (vs : List V) (Q : VK) (E : XK) (p : Addr × Obj), L2H.Hot1 A p → L2H.RoomH k (A.deeper (envOfC qual (defScope st) s.heap.objs.size f cdv)) → sp vs H Q E →
      ∃ t, PSs (L2H.cxH (L2.CX P w) P w K mg base N qual (defScope st) f cdv A outer s H E p) (defBody st) t ∧ t { nx := fun _ H' => Q .non H', rt := Q } (start N vs) H) :
    L2H.FnH P w K mg base (L2.CX P w) (k + 1) f fd ps sp := by
  obtain ⟨oc, od, kV, doc, pm, an, cdv, ct, osl, rfl, h1, h2⟩ := Fn.ex
  exact L2H.fn_ofH h1 h2 Sc hl (hb cdv)
theorem fn_neverH {k : Nat} {f : Addr} {fd : FuncData} {ps : List Str} : L2H.FnH P w K mg base (L2.CX P w) k f fd ps (spF K cls fun _ => none) :=
  ⟨fun vs H Q E h => (by
    obtain ⟨He, fas, r, news, hs, hp, hn, hF, q, qx⟩ := h
    cases hF), fun A outer s H args us vs Q E p _ _ _ _ _ _ h => (by
    obtain ⟨He, fas, r, news, hs, hp, hn, hF, q, qx⟩ := h
    cases hF)⟩
theorem run_okH {x : Str} {st : Stmt} {N ps : List Str} (D : Df K mg x st ps) {k p n : Nat} {m : MS} (Sc : FnScope N ps (defScope st)) (hp : ps.length = p) (hn : N.length = n) (hpn : p ≤ n)
    (hbody : ∀ (cdv : Value) (A : Around) (outer : List Env) (s : Shared) (H : Hp) (E : XK) (q : Addr × Obj), L2H.RoomH k (A.deeper (envOfC x (defScope st) s.heap.objs.size D.f cdv)) → L2H.HotC (L2H.cxH (L2.CX P w) P w K mg base N x (defScope st) D.f cdv A outer s H E q).nox →
      PSs (L2H.cxH (L2.CX P w) P w K mg base N x (defScope st) D.f cdv A outer s H E q).nox (defBody st) (tS K (fun _ _ _ => False) m)) :
    L2H.FnH P w K mg base (L2.CX P w) (k + 1) D.f D.fd ps (spF K cls (runF p n m)) := by
  subst hp hn
  refine okH D.F Sc (fun vs H Q E h => sp_len runF_len h) (fun cdv A outer s H vs Q E q hq hr h => ?_)
  refine ⟨_, (hbody cdv A outer s H E q hr ⟨q, hq, List.mem_cons_self⟩).nox, ?_⟩
  exact body_ok (cls := cls) (E := fun _ _ _ => False) (comp_run hpn) (by
    obtain ⟨He, fas, r, news, hs, hp, hn, hF, q, qx⟩ := h
    exact ⟨He, fas, r, news, hs, hp, hn, hF, q, fun n e => absurd (e ▸ hF) (runF_nox fas n news)⟩)
theorem run_okXH {x : Str} {st : Stmt} {N ps : List Str} (D : Df K mg x st ps) {k p n : Nat} {m : MS} (Sc : FnScope N ps (defScope st)) (hp : ps.length = p) (hn : N.length = n) (hpn : p ≤ n)
    (hbody : ∀ (cdv : Value) (A : Around) (outer : List Env) (s : Shared) (H : Hp) (E : XK) (q : Addr × Obj), L2H.RoomH k (A.deeper (envOfC x (defScope st) s.heap.objs.size D.f cdv)) → L2H.HotC (L2H.cxH (L2.CX P w) P w K mg base N x (defScope st) D.f cdv A outer s H E q) →
      Takes (L2H.cxH (L2.CX P w) P w K mg base N x (defScope st) D.f cdv A outer s H E q) (WE0 E) →
      PSs (L2H.cxH (L2.CX P w) P w K mg base N x (defScope st) D.f cdv A outer s H E q) (defBody st) (tS K (Ew cls (WE0 E)) m)) :
    L2H.FnH P w K mg base (L2.CX P w) (k + 1) D.f D.fd ps (spF K cls (runFX p n m)) := by
  subst hp hn
  refine okH D.F Sc (fun vs H Q E h => sp_len runFX_len h) (fun cdv A outer s H vs Q E q hq hr h => ?_)
  exact ⟨_, hbody cdv A outer s H E q hr ⟨q, hq, List.mem_cons_self⟩ (takes_of rfl rfl rfl rfl), body_ok (comp_runX hpn) h⟩
end
end Rp
set_option Elab.async false
set_option linter.all false
set_option maxRecDepth 100000
/-! Unpacking a tuple where an exception is being handled. -/
namespace Rp
open PySem PySem.Spec PyProof.Rows L2

theorem next_end_hot {prog : Program} {w : World} {A : Around} {E : Value → Shared → Prop} {s : Shared} {it t x1 : Addr} {i : Nat} {items : Array Value} {Q : Option Value → Shared → Prop}
    (hot : HotX.HotAt A x1 s.heap) (hit : s.heap.IsTupleIter it t i) (ht : s.heap.IsTuple t items) (hx : items[i]? = none)
    (hQ : ∀ h' : Heap, Heap.ExtBut it s.heap h' → Q none { s with heap := h' }) : wpAny (model prog w) A (pyNext (.ref it)) Q E s := by
  have hT := hit.typeIs
  obtain ⟨o, ho, hc, hd⟩ := hit
  obtain ⟨ol, hol, _, nl, hdl⟩ := ht
  obtain ⟨hh, o1, vs1, h1, d1, c1⟩ := hot
  have hne : it ≠ x1 := fun z => by
    subst z
    rw [ho] at h1
    cases h1
    rw [hd] at d1
    cases d1
    simp at c1
  unfold pyNext
  refine wpAny_bind (wpAny_attempt (wpAny_callSpecial?_slot hT F.slot_tuple_iterator_next (wpAny_call_entry F.slot_tuple_iterator_next hT F.entry_tuple_iterator_next ?_)))
  show wpAny (model prog w) A.in1 (field (Value.ref it) 0 >>= _) _ _ _
  refine wpAny_bind (wpAny_field ho hd rfl ?_)
  show wpAny (model prog w) A.in1 (if _ then _ else _) _ _ _
  rw [if_neg (by intro z; exact Bool.false_ne_true z)]
  show wpAny (model prog w) A.in1 (field (Value.ref it) 1 >>= _) _ _ _
  refine wpAny_bind (wpAny_field ho hd rfl ?_)
  show wpAny (model prog w) A.in1 (seqItems? (Value.ref t) >>= _) _ _ _
  refine wpAny_bind (wpAny_seqItems hol hdl ?_)
  have hx' : items[(i : Int).toNat]? = none := hx
  simp only [hx']
  refine wpAny_bind (wpAny_rule ?_)
  refine wpAny_bind (wpAny_setField ho hd (by simp) ?_)
  have k1 : ∀ (b : Addr) (ob : Obj), b ≠ it → s.heap.get? b = some ob → (s.heap.update it (Obj.mapFields fun x => x.setIfInBounds 0 Value.none)).get? b = some ob := fun b ob hb e => by
    rw [Heap.get?_update_other _ _ (Ne.symm hb)]; exact e
  have h1' := k1 x1 o1 (Ne.symm hne) h1
  unfold Builtin.SmallTypes.stopIteration
  refine wpAny_bind ?_
  show wpAny (model prog w) A.in1 (newExc (Value.type "StopIteration") []) _ _ _
  unfold newExc
  refine wpAny_bind (wpAny_newObj_type (wpAny_bind (wpAny_of_eq (Eq.refl (firstArgMember (Value.type "StopIteration") [])) (wpAny_newObj_type ?_))))
  have h2 := Heap.get?_push_of_some { cls := Value.type "tuple", data := Data.seq #[] } h1'
  have h3 := Heap.get?_push_of_some { cls := Value.type "StopIteration", data := Data.fields (#[Value.ref (s.heap.update it (Obj.mapFields fun x => x.setIfInBounds 0 Value.none)).objs.size, Value.none, Value.none, Value.none, Value.bool false, Value.none] ++ ownMembersOf (Value.type "StopIteration") []) } h2
  refine HotX.raiseNew_hot ⟨hh, o1, vs1, h3, d1, c1⟩ (Nat.ne_of_lt (Heap.lt_size h2)) (Heap.get?_push_size _ rfl) rfl (by simp; omega) ?_
  refine wpAny_bind (wpAny_isInstance ⟨_, Heap.get?_update_self _ (Heap.get?_push_size _ rfl) rfl, rfl⟩ isSubtype_stop (wpAny_pure (hQ _ ?_)))
  intro b ob hb e
  have e1 := Heap.get?_push_of_some { cls := Value.type "tuple", data := Data.seq #[] } (k1 b ob hb e)
  have e2 := Heap.get?_push_of_some { cls := Value.type "StopIteration", data := Data.fields (#[Value.ref (s.heap.update it (Obj.mapFields fun x => x.setIfInBounds 0 Value.none)).objs.size, Value.none, Value.none, Value.none, Value.bool false, Value.none] ++ ownMembersOf (Value.type "StopIteration") []) } e1
  rw [Heap.get?_update_other _ _ (Ne.symm (Nat.ne_of_lt (Heap.lt_size e1)))]
  exact e2
theorem unpack_hot {prog : Program} {w : World} {A : Around} {E : Value → Shared → Prop} {s : Shared} {t x1 : Addr} {items : Array Value} {Q : List Value → Shared → Prop}
    (hot : HotX.HotAt A x1 s.heap) (ht : s.heap.IsTuple t items) (hQ : ∀ h' : Heap, Heap.ExtBut s.heap.objs.size s.heap h' → Q items.toList { s with heap := h' }) :
    wpAny (model prog w) A (unpackItems (.ref t) items.size none) Q E s := by
  have hlt : t ≠ s.heap.objs.size := by
    obtain ⟨o, ho, _⟩ := ht
    exact Nat.ne_of_lt (Heap.lt_size ho)
  unfold unpackItems
  refine wpAny_bind ?_
  show wpAny (model prog w) A (notIterableAtAll (Value.ref t)) _ _ _
  unfold notIterableAtAll
  refine wpAny_bind (wpAny_specialOf ht.typeIs F.slot_tuple_iter.lookup (wpAny_pure ?_))
  simp only [Bool.false_eq_true, if_false]
  refine wpAny_bind (wpAny_holding (wpAny_pyIter_tuple ht ?_))
  refine wpAny_bind (wpAny_holding (wpAny_draw_tuple hlt items.size 0 _ _ ⟨_, Heap.get?_push_size _ rfl, rfl, rfl⟩ (Heap.IsTuple.push ht _) (by omega) fun h₁ hit₁ hs₁ => ?_))
  have hall : List.take items.size (List.drop 0 items.toList) = items.toList := by rw [List.drop_zero]; exact List.take_of_length_le (by simp)
  rw [hall, if_neg (by simp)]
  obtain ⟨hh, o1, vs1, h1, d1, c1⟩ := hot
  have n1 : x1 ≠ s.heap.objs.size := Nat.ne_of_lt (Heap.lt_size h1)
  have e1 := (Heap.SameBut.extBut hs₁) x1 o1 n1 (Heap.get?_push_of_some _ h1)
  have e2 : h₁.IsTuple t items := by
    obtain ⟨o, ho, hr⟩ := ht
    exact ⟨o, (Heap.SameBut.extBut hs₁) t o hlt (Heap.get?_push_of_some _ ho), hr⟩
  refine wpAny_bind (wpAny_holding (next_end_hot (items := items) ⟨hh, o1, vs1, e1, d1, c1⟩ hit₁ e2 (by simp) fun h' hx => ?_))
  refine wpAny_pure (hQ h' fun b ob hb e => hx b ob hb ((Heap.SameBut.extBut hs₁) b ob hb (Heap.get?_push_of_some _ e)))
theorem assign_hot {prog : Program} {w : World} {A : Around} {E : Value → Shared → Prop} {s : Shared} {env : Env} {elts : List Expr} {k : Nat} {pos : Pos} {t x1 : Addr} {items : Array Value} {Q : Unit → Shared → Prop}
    (hot : HotX.HotAt A x1 s.heap) (ht : s.heap.IsTuple t items) (hn : (assignEach elts env).length = items.size) (hst : (assignEach elts env).findIdx? (·.1) = none)
    (h : ∀ h' : Heap, Heap.ExtBut s.heap.objs.size s.heap h' → wpAny (model prog w) A (assignInOrder ((assignEach elts env).map (·.2)) items.toList) Q E { s with heap := h' }) :
    wpAny (model prog w) A (assign (.Tuple elts k pos) env (.ref t)) Q E s := by
  rw [arm_assign_Tuple]
  refine wpAny_bind (wpAny_standAt ?_)
  unfold unpack
  rw [hn, hst]
  exact wpAny_bind (wpAny_holding (unpack_hot hot ht h))
theorem pg_tupH {X : Cx} {pos : Pos} {es : List Expr} {k : Nat} {t : TGs} {n : Nat} (hc : L2H.HotC X) (h : PGs X es t) (hn : (assignEach es X.env).length = n := by rfl) (hst : (assignEach es X.env).findIdx? (·.1) = none := by rfl) :
    PG X (.Tuple es k pos) (gTup X.K n t) := ⟨fun pins s σ H v u Q I r hw => by
  obtain ⟨a, xs, e1, hq, hl, hw⟩ := hw
  subst e1
  have hu : u = .ref a := r
  subst hu
  obtain ⟨x1, hot⟩ := hc.at I
  obtain ⟨its, rv, ht, hz⟩ := I.tuple hq
  refine assign_hot hot ht ?_ hst fun h' hx => ?_
  · rw [hn, ← hl, Vals.length rv]; simp
  · have I1 := I.kept (t' := s.toks) fun b o e => hx b o (Nat.ne_of_lt (Heap.lt_size e)) e
    exact h.run pins _ σ H xs _ Q I1 (by simpa using rv) hw⟩
/-- a slice of a slot's list, the list left with its owner -/
def mSlK (i : Nat) (ml mh : M (Option Int)) : M Ct := fun S => match listV S i with
  | some _ => match ml S with
    | some (lo, S2) => match mh S2 with
      | some (hi, S3) => match listV S3 i with
        | some xs => some (.l (cutD xs lo hi), S3)
        | none => none
      | none => none
    | none => none
  | none => none
theorem sf_slk {X : Cx} {a : Expr} {pos : Pos} {i : Nat} {lo hi : Option Expr} {p2 : Pos} {ml mh : M (Option Int)} (ha : PE X a (tVar i)) (hl : PO X lo (tO X.K ml)) (hh : PO X hi (tO X.K mh)) : PE X (.Subscript a (.Slice lo hi none p2) pos) (tF X.K (mSlK i ml mh)) :=
  (pe_slice sl_list ha hl hh).imp fun σ H Q q => by
    obtain ⟨U, ms, He, S, z, S', R, h, q⟩ := q
    unfold mSlK at h
    split at h
    · rename_i xs0 h0
      split at h
      · rename_i l S2 h2
        split at h
        · rename_i u S3 h3
          split at h
          · rename_i xs h4
            cases h
            obtain ⟨p, vs0, e0, _, _, _⟩ := R.listV h0
            refine ⟨_, e0, U, ms, He, S, l, S2, R, h2, fun H2 He2 G2 R2 => ⟨U, ms, He2, S2, u, _, R2, h3, fun H3 He3 G3 R3 => ?_⟩⟩
            obtain ⟨p', vs, e1, g1, d2, f⟩ := R3.listV h4
            rw [e0] at e1
            cases e1
            refine ⟨p, vs, rfl, SqL.of g1, fun l' hl' => ?_⟩
            have E2 := ext_fresh (o := HO.lst (cutV vs l u)) R3.data hl'
            exact q _ _ _ ((G2.trans G3).trans (E2.grow R3)) (E2.rel R3) (fresh_laid R3 hl' ⟨_, rfl, dpAll_cut d2 l u⟩)
          · cases h
        · cases h
      · cases h
    · cases h
end Rp
set_option Elab.async false
set_option linter.all false
set_option maxRecDepth 100000
/-! Dicts: keys ints and texts, values data. -/
namespace Rp
open PySem PySem.Spec PyProof.Rows L2

def keyD : Dat → Option Key
  | .int i => some (.inl i)
  | .str x => some (.inr x)
  | _ => none
theorem keyD_v {K : PySem.W.Frag} {He : Hp} {v : V} {x : Dat} {k : Key} (d : Dp K He v x) (h : keyD x = some k) : v = kV k := by
  cases d with
  | int i => cases h; rfl
  | str i => cases h; rfl
  | _ => cases h
abbrev KD := List (Key × Dat)
def valK (kvs : KD) (k : Key) : Option Dat := (kvs.find? fun p => decide (p.1 = k)).map (·.2)
def setK (kvs : KD) (k : Key) (x : Dat) : KD :=
  if (kvs.any fun p => decide (p.1 = k)) = true then kvs.map (fun p => if p.1 = k then (p.1, x) else p) else kvs ++ [(k, x)]
def cutK (kvs : KD) (k : Key) : KD := kvs.filter fun p => decide (p.1 ≠ k)
def joinK (kvs more : KD) : KD := more.foldl (fun acc p => setK acc p.1 p.2) kvs
section
variable {K : PySem.W.Frag} {He : Hp}
theorem valK_dp {k : Key} : ∀ {ws : List (Key × V)} {kvs : KD}, DpKV K He ws kvs → (valK kvs k = none → valV ws k = none) ∧ ∀ x, valK kvs k = some x → ∃ v, valV ws k = some v ∧ Dp K He v x := by
  intro ws kvs h
  induction h with
  | nil => exact ⟨fun _ => rfl, fun x e => nomatch e⟩
  | @cons p q ws kvs h1 h2 ih =>
    obtain ⟨pk, pv⟩ := p
    obtain ⟨qk, qx⟩ := q
    obtain ⟨e, d⟩ := h1
    have e : pk = qk := e
    subst e
    by_cases hk : pk = k
    · refine ⟨fun z => ?_, fun x z => ?_⟩
      · simp [valK, List.find?_cons, hk] at z
      · simp [valK, List.find?_cons, hk] at z
        subst z
        exact ⟨pv, by simp [valV, List.find?_cons, hk], d⟩
    · have e1 : valK ((pk, qx) :: kvs) k = valK kvs k := by simp [valK, List.find?_cons, hk]
      have e2 : valV ((pk, pv) :: ws) k = valV ws k := by simp [valV, List.find?_cons, hk]
      rw [e1, e2]
      exact ih
theorem any_dp {k : Key} : ∀ {ws : List (Key × V)} {kvs : KD}, DpKV K He ws kvs → (ws.any fun p => decide (p.1 = k)) = kvs.any fun p => decide (p.1 = k) := by
  intro ws kvs h
  induction h with
  | nil => rfl
  | cons h1 h2 ih => rw [List.any_cons, List.any_cons, h1.1, ih]
theorem map_dp {k : Key} {v : V} {x : Dat} (d : Dp K He v x) : ∀ {ws : List (Key × V)} {kvs : KD}, DpKV K He ws kvs → DpKV K He (ws.map fun p => if p.1 = k then (p.1, v) else p) (kvs.map fun p => if p.1 = k then (p.1, x) else p) := by
  intro ws kvs h
  induction h with
  | nil => exact .nil
  | @cons p q ws kvs h1 h2 ih =>
    rw [List.map_cons, List.map_cons]
    refine .cons ?_ ih
    by_cases hk : p.1 = k
    · rw [if_pos hk, if_pos (h1.1 ▸ hk)]; exact ⟨h1.1, d⟩
    · rw [if_neg hk, if_neg (h1.1 ▸ hk)]; exact h1
theorem snoc_dp {k : Key} {v : V} {x : Dat} (d : Dp K He v x) : ∀ {ws : List (Key × V)} {kvs : KD}, DpKV K He ws kvs → DpKV K He (ws ++ [(k, v)]) (kvs ++ [(k, x)]) := by
  intro ws kvs h
  induction h with
  | nil => exact .cons ⟨rfl, d⟩ .nil
  | cons h1 h2 ih => exact .cons h1 ih
theorem setK_dp {k : Key} {v : V} {x : Dat} {ws : List (Key × V)} {kvs : KD} (h : DpKV K He ws kvs) (d : Dp K He v x) : DpKV K He (putK ws k v) (setK kvs k x) := by
  unfold putK setK
  rw [any_dp h]
  split
  · exact map_dp d h
  · exact snoc_dp d h
theorem cutK_dp {k : Key} : ∀ {ws : List (Key × V)} {kvs : KD}, DpKV K He ws kvs → DpKV K He (dropK ws k) (cutK kvs k) := by
  intro ws kvs h
  unfold dropK cutK
  induction h with
  | nil => exact .nil
  | @cons p q ws kvs h1 h2 ih =>
    rw [List.filter_cons, List.filter_cons, h1.1]
    split
    · exact .cons h1 ih
    · exact ih
theorem joinK_dp {m1 : List (Key × V)} {m2 : KD} (h : DpKV K He m1 m2) : ∀ {ws : List (Key × V)} {kvs : KD}, DpKV K He ws kvs → DpKV K He (mergeK ws m1) (joinK kvs m2) := by
  induction h with
  | nil => exact fun h => h
  | @cons p q m1 m2 h1 h2 ih =>
    intro ws kvs h
    show DpKV K He (mergeK (putK ws p.1 p.2) m1) (joinK (setK kvs q.1 q.2) m2)
    rw [h1.1]
    exact ih (setK_dp h h1.2)
theorem dpKV_length {ws : List (Key × V)} {kvs : KD} (h : DpKV K He ws kvs) : ws.length = kvs.length := Paired.length h
theorem dpKV_mono {He' : Hp} (e : Same He He') {ws : List (Key × V)} {kvs : KD} (h : DpKV K He ws kvs) : DpKV K He' ws kvs := Paired.mapP h fun _ _ q => ⟨q.1, dp_mono e q.2⟩
end

/-! ### a slot's dict -/
def dictV (S : Sl) (i : Nat) : Option KD := match S[i]? with
  | some (.o (.k xs)) => some xs
  | some (.m _ (.k xs)) => some xs
  | _ => none
theorem dictV_own {S : Sl} {i : Nat} {xs : KD} (h : dictV S i = some xs) : ∃ sv, S[i]? = some sv ∧ sv.own = some (.k xs) := by
  unfold dictV at h
  split at h
  · cases h; exact ⟨_, by assumption, rfl⟩
  · cases h; exact ⟨_, by assumption, rfl⟩
  · cases h
theorem Rel.dictV {K : PySem.W.Frag} {U : Hp} {ms : List Addr} {He : Hp} {S : Sl} {σ : L2.St} {H : Hp} (R : Rel K U ms He S σ H) {i : Nat} {xs : KD} (h : dictV S i = some xs) :
    ∃ a ws, σ[i]? = some (some (.ref a)) ∧ H a = some (.dK ws) ∧ DpKV K He ws xs ∧ ∀ (ys : KD) (us : List (Key × V)), DpKV K He us ys → Rel K U ms He (putV S i (.k ys)) σ (L2.upd H a (.dK us)) := by
  obtain ⟨sv, e, o⟩ := dictV_own h
  obtain ⟨a, e1, O⟩ := R.own e o
  obtain ⟨ob, h1, vs, rfl, h2⟩ := O.at_
  refine ⟨a, vs, e1, h1, h2, fun ys ws d => ?_⟩
  unfold putV
  rw [e]
  exact R.upd (c' := .k ys) e o e1 ⟨ws, rfl, d⟩
/-- {} -/
def mNewD : M Ct := fun S => some (.k [], S)
/-- k in d -/
def mInV (i : Nat) (mk : M Dat) : M Dat := fun S => match mk S with
  | some (x, S1) => match keyD x with
    | some k => match dictV S1 i with
      | some kvs => some (.bool (valK kvs k).isSome, S1)
      | none => none
    | none => none
  | none => none
def mNinV (i : Nat) (mk : M Dat) : M Dat := fun S => match mk S with
  | some (x, S1) => match keyD x with
    | some k => match dictV S1 i with
      | some kvs => some (.bool (!(valK kvs k).isSome), S1)
      | none => none
    | none => none
  | none => none
/-- d[k] -/
def mGetK (i : Nat) (mk : M Dat) : M Dat := fun S => match dictV S i with
  | none => none
  | some _ => match mk S with
    | some (x, S1) => match keyD x with
      | some k => match dictV S1 i with
        | some kvs => match valK kvs k with
          | some y => some (y, S1)
          | none => none
        | none => none
      | none => none
    | none => none
/-- d[k] = v -/
def sSetK (i : Nat) (mk mv : M Dat) : MS := fun S => match mv S with
  | some (y, S1) => match dictV S1 i with
    | none => none
    | some _ => match mk S1 with
      | some (x, S2) => match keyD x with
        | some k => match dictV S2 i with
          | some kvs => if kvs.length < 100000 then some (.nx (putV S2 i (.k (setK kvs k y)))) else none
          | none => none
        | none => none
      | none => none
  | none => none
/-- d.pop(k, x) -/
def mPopK (i : Nat) (mk mx : M Dat) : M Dat := fun S => match dictV S i with
  | none => none
  | some _ => match mk S with
    | some (x, S1) => match mx S1 with
      | some (z, S2) => match keyD x with
        | some k => match dictV S2 i with
          | some kvs => match valK kvs k with
            | some y => some (y, putV S2 i (.k (cutK kvs k)))
            | none => some (z, S2)
          | none => none
        | none => none
      | none => none
    | none => none
/-- dict(pairs) -/
def pairsD : List Dat → Option KD
  | [] => some []
  | .tuple [k, x] :: xs => match keyD k with
    | some k => match pairsD xs with
      | some kvs => some ((k, x) :: kvs)
      | none => none
    | none => none
  | _ => none
def dict1 : List Dat → Option Ct
  | [.list xs] => match pairsD xs with
    | some kvs => some (.k (joinK [] kvs))
    | none => none
  | _ => none
section
variable {X : Cx} {e a b c o : Expr} {es rest : List Expr} {st : Stmt} {ma mb mk mx : M Dat} {mas : M (List Dat)} {E : Nat → L2.St → Hp → Prop} {pos : Pos}
theorem sf_newD : PE X (.Dict [] [] pos) (tF X.K mNewD) := pe_dnewK.imp fun σ H Q q => by
  obtain ⟨U, ms, He, S, z, S', R, h, q⟩ := q
  cases h
  intro p hp
  have E2 := ext_fresh (o := HO.dK []) R.data hp
  exact q _ _ _ (E2.grow R) (E2.rel R) (fresh_laid R hp ⟨[], rfl, .nil⟩)
theorem tM_inV {K : PySem.W.Frag} {σ : L2.St} {H : Hp} {i : Nat} {Q : VK} (h : tM K (mInV i mk) σ H Q) : tDIn (tM K mk) (tVar i) σ H Q := by
  obtain ⟨U, ms, He, S, z, S', R, h, q⟩ := h
  unfold mInV at h
  split at h
  · rename_i x S1 h1
    split at h
    · rename_i k hk
      split at h
      · rename_i kvs h2
        cases h
        refine .mk R h1 fun v H1 He1 G1 R1 d1 => ?_
        obtain ⟨p, ws, e1, g1, g2, _⟩ := R1.dictV h2
        have hv := valK_dp (k := k) g2
        refine ⟨_, e1, p, valV ws k, rfl, keyD_v d1 hk ▸ DGet.k g1, ?_⟩
        have hs : (valV ws k).isSome = (valK kvs k).isSome := by
          cases e : valK kvs k with
          | none => rw [hv.1 e]; rfl
          | some y => obtain ⟨v', e', _⟩ := hv.2 y e; rw [e']; rfl
        rw [hs]
        exact q _ _ _ G1 R1 (.bl _)
      · cases h
    · cases h
  · cases h
theorem tM_ninV {K : PySem.W.Frag} {σ : L2.St} {H : Hp} {i : Nat} {Q : VK} (h : tM K (mNinV i mk) σ H Q) : tDNotIn (tM K mk) (tVar i) σ H Q := by
  obtain ⟨U, ms, He, S, z, S', R, h, q⟩ := h
  unfold mNinV at h
  split at h
  · rename_i x S1 h1
    split at h
    · rename_i k hk
      split at h
      · rename_i kvs h2
        cases h
        refine .mk R h1 fun v H1 He1 G1 R1 d1 => ?_
        obtain ⟨p, ws, e1, g1, g2, _⟩ := R1.dictV h2
        have hv := valK_dp (k := k) g2
        refine ⟨_, e1, p, valV ws k, rfl, keyD_v d1 hk ▸ DGet.k g1, ?_⟩
        have hs : (valV ws k).isSome = (valK kvs k).isSome := by
          cases e : valK kvs k with
          | none => rw [hv.1 e]; rfl
          | some y => obtain ⟨v', e', _⟩ := hv.2 y e; rw [e']; rfl
        rw [hs]
        exact q _ _ _ G1 R1 (.bl _)
      · cases h
    · cases h
  · cases h
theorem se_inV {i : Nat} (hu : X.A.units + 64 < cLine) (hi : PE X a (tM X.K mk)) (ho : PE X o (tVar i)) (hm : behindInMarks .In o = false := by rfl) : PE X (.Compare a [.In] [o] pos) (tM X.K (mInV i mk)) := (pe_cmp (pc_din (by omega) hi ho) hm).imp fun σ H Q q => tM_inV q
theorem st_inV {i : Nat} (hu : X.A.units + 64 < cLine) (hi : PE X a (tM X.K mk)) (ho : PE X o (tVar i)) (hm : behindInMarks .In o = false := by rfl) : PT X (.Compare a [.In] [o] pos) (tT X.K (Rp.tB (mInV i mk))) := (pt_cmp (pc_din (by omega) hi ho) hm).imp fun σ H Q q => tT_B (fun Q q => tM_inV q) q
theorem se_ninV {i : Nat} (hu : X.A.units + 64 < cLine) (hi : PE X a (tM X.K mk)) (ho : PE X o (tVar i)) (hm : behindInMarks .NotIn o = false := by rfl) : PE X (.Compare a [.NotIn] [o] pos) (tM X.K (mNinV i mk)) := (pe_cmp (pc_dnotin (by omega) hi ho) hm).imp fun σ H Q q => tM_ninV q
theorem st_ninV {i : Nat} (hu : X.A.units + 64 < cLine) (hi : PE X a (tM X.K mk)) (ho : PE X o (tVar i)) (hm : behindInMarks .NotIn o = false := by rfl) : PT X (.Compare a [.NotIn] [o] pos) (tT X.K (Rp.tB (mNinV i mk))) := (pt_cmp (pc_dnotin (by omega) hi ho) hm).imp fun σ H Q q => tT_B (fun Q q => tM_ninV q) q
theorem se_getK {i : Nat} (hu : X.A.units + 64 < cLine) (ho : PE X o (tVar i)) (hi : PE X a (tM X.K mk)) (hs : NoSl a := by exact fun _ _ => rfl) : PE X (.Subscript o a pos) (tM X.K (mGetK i mk)) := (pe_dget (by omega) ho hi hs).imp fun σ H Q q => by
  obtain ⟨U, ms, He, S, z, S', R, h, q⟩ := q
  unfold mGetK at h
  split at h
  · cases h
  · rename_i kv0 h0
    obtain ⟨p0, ws0, e0, _, _, _⟩ := R.dictV h0
    split at h
    · rename_i x S1 h1
      split at h
      · rename_i k hk
        split at h
        · rename_i kvs h2
          split at h
          · rename_i y hy
            cases h
            refine ⟨_, e0, .mk R h1 fun v H1 He1 G1 R1 d1 => ?_⟩
            obtain ⟨p, ws, e1, g1, g2, _⟩ := R1.dictV h2
            rw [e0] at e1
            cases e1
            obtain ⟨w, e2, d2⟩ := (valK_dp g2).2 _ hy
            exact ⟨_, w, rfl, keyD_v d1 hk ▸ e2 ▸ DGet.k g1, q _ _ _ G1 R1 d2⟩
          · cases h
        · cases h
      · cases h
    · cases h
theorem ss_setK {i : Nat} {tpos : Pos} (hu : X.A.units + 64 < cLine) (ho : PE X o (tVar i)) (hi : PE X b (tM X.K mk)) (hv : PE X e (tM X.K ma)) (hs : swapsWith e (some (.Subscript o b tpos)) pos.line X.env = pure false := by rfl) :
    PS X (.Assign [.Subscript o b tpos] e pos) (tS X.K E (sSetK i mk ma)) := (ps_dput (by omega) ho hi hv hs).imp fun D σ H q => by
  obtain ⟨U, ms, He, S, out, R, h, q⟩ := q
  unfold sSetK at h
  split at h
  · rename_i y S1 h1
    split at h
    · cases h
    · rename_i kv0 h0
      split at h
      · rename_i x S2 h2
        split at h
        · rename_i k hk
          split at h
          · rename_i kvs h3
            split at h
            · rename_i hl
              cases h
              refine .mk R h1 fun v H1 He1 G1 R1 d1 => ?_
              obtain ⟨p, ws0, e0, _, _, _⟩ := R1.dictV h0
              refine ⟨_, e0, .mk R1 h2 fun w H2 He2 G2 R2 d2 => ?_⟩
              obtain ⟨p', ws, e1, g1, g2, f⟩ := R2.dictV h3
              rw [e0] at e1
              cases e1
              exact ⟨p, _, rfl, keyD_v d2 hk ▸ DPut.k g1 (by rw [dpKV_length g2]; exact Nat.lt_of_lt_of_le hl line_ge), q σ _ He2 (G1.trans G2) (f _ _ (setK_dp g2 (dp_mono G2.same d1)))⟩
            · cases h
          · cases h
        · cases h
      · cases h
  · cases h
theorem se_popK {i : Nat} {apos cpos : Pos} (ho : PE X o (tVar i)) (hk : PE X a (tM X.K mk)) (hx : PE X b (tM X.K mx)) (m : M2 X o "pop" apos a b cpos := by exact ⟨rfl, rfl, rfl, rfl⟩) : PE X (.Call (.Attribute o "pop" apos) [a, b] [] cpos) (tM X.K (mPopK i mk mx)) :=
  (pe_dpop2 ho hk hx m).imp fun σ H Q q => by
    obtain ⟨U, ms, He, S, r, S', R, h, q⟩ := q
    unfold mPopK at h
    split at h
    · cases h
    · rename_i kv0 h0
      obtain ⟨p, ws0, e0, g0, _, _⟩ := R.dictV h0
      split at h
      · rename_i x S1 h1
        split at h
        · rename_i z S2 h2
          split at h
          · rename_i k hk
            split at h
            · rename_i kvs h3
              refine ⟨_, e0, p, rfl, .inl ⟨_, .inl g0⟩, .mk R h1 fun v H1 He1 G1 R1 d1 => .mk R1 h2 fun w H2 He2 G2 R2 d2 => ?_⟩
              obtain ⟨p', ws, e1, g1, g2, f⟩ := R2.dictV h3
              rw [e0] at e1
              cases e1
              have hv := valK_dp (k := k) g2
              refine ⟨ws, k, g1, keyD_v d1 hk, fun y' ey => ?_, fun en => ?_⟩
              · split at h
                · rename_i y hy
                  cases h
                  obtain ⟨u, e3, d3⟩ := hv.2 _ hy
                  rw [e3] at ey
                  cases ey
                  exact q _ _ He2 (G1.trans G2) (f _ _ (cutK_dp g2)) d3
                · rename_i hy
                  rw [hv.1 hy] at ey; cases ey
              · split at h
                · rename_i y hy
                  obtain ⟨u, e3, d3⟩ := hv.2 _ hy
                  rw [e3] at en; cases en
                · cases h
                  exact q _ _ He2 (G1.trans G2) R2 d2
            · cases h
          · cases h
        · cases h
      · cases h
theorem pairsD_dp {K : PySem.W.Frag} {He : Hp} : ∀ {xs : List Dat} {vs : List V} {kvs : KD}, DpAll K He vs xs → pairsD xs = some kvs → ∃ (ps : List Addr) (ws : List (Key × V)), vs = ps.map V.ref ∧ Paired (fun p kv => SqT K He p [kV kv.1, kv.2]) ps ws ∧ DpKV K He ws kvs
  | [], _, _, .nil, h => by
    cases h
    exact ⟨[], [], rfl, .nil, .nil⟩
  | x :: xs, _, kvs, .cons d ds, h => by
    unfold pairsD at h
    split at h
    · rename_i e
      cases e
    · rename_i k y xs' e
      cases e
      split at h
      · rename_i kk hk
        split at h
        · rename_i kvs' h'
          cases h
          obtain ⟨ps, ws, rfl, g1, g2⟩ := pairsD_dp ds h'
          obtain ⟨p, us, rfl, s1, s2⟩ := dp_tup d
          obtain ⟨v, w, rfl, d1, d2⟩ := two_dp s2
          cases keyD_v d1 hk
          exact ⟨p :: ps, (kk, w) :: ws, rfl, .cons s1 g1, .cons ⟨rfl, d2⟩ g2⟩
        · cases h
      · cases h
    · cases h
def rDict1 (K : PySem.W.Frag) : List V → Hp → VK → Prop := fun xs H Q => ∃ (a : Addr) (ps : List Addr) (kvs : List (Key × V)), xs = [.ref a] ∧ SqL K H a (ps.map V.ref) ∧ Paired (fun p kv => SqT K H p [kV kv.1, kv.2]) ps kvs ∧ ∀ p, H p = none → Q (.ref p) (upd H p (.dK (mergeK [] kvs)))
theorem call_dict1 (hc : X.calm = true) : CallR X (.type "dict") (rDict1 X.K) := call_dictP hc
theorem cf_dict1 {K : PySem.W.Frag} : CaF K (rDict1 K) dict1 := by
  intro He H vs xs c Q hs d h q
  unfold dict1 at h
  split at h
  · split at h
    · rename_i kvs hk
      cases h
      obtain ⟨v, rfl, d1⟩ := one_dp d
      obtain ⟨p, ws, rfl, g1, g2⟩ := dp_lst d1
      obtain ⟨ps, us, rfl, g3, g4⟩ := pairsD_dp g2 hk
      exact ⟨p, ps, us, rfl, hs.seq g1, Paired.mapP g3 fun _ _ z => sqT_mono hs z, fun l hl => q l _ hl ⟨_, rfl, joinK_dp g4 .nil⟩⟩
    · cases h
  · cases h
end
end Rp
set_option Elab.async false
set_option linter.all false
set_option maxRecDepth 100000
/-! Slices of lists with a step. -/
namespace Rp
open PySem PySem.Spec PyProof.Rows L2

def placesL (n : Nat) (lo hi st : Option Int) : List Nat := sliceRange (sliceBounds lo hi st n).1 (sliceBounds lo hi st n).2.1 (sliceBounds lo hi st n).2.2
def stepL {α : Type} (xs : List α) (lo hi st : Option Int) : List α := (placesL xs.length lo hi st).filterMap (xs[·]?)
theorem dpAll_pick {K : PySem.W.Frag} {H : Hp} {vs : List V} {ds : List Dat} (h : DpAll K H vs ds) : ∀ is : List Nat, DpAll K H (is.filterMap (vs[·]?)) (is.filterMap (ds[·]?))
  | [] => .nil
  | i :: is => by
    have ih := dpAll_pick h is
    cases e : ds[i]? with
    | none =>
      have e2 : vs[i]? = none := List.getElem?_eq_none (by rw [dpAll_length h]; exact List.getElem?_eq_none_iff.mp e)
      rw [List.filterMap_cons_none e2, List.filterMap_cons_none e]
      exact ih
    | some d =>
      obtain ⟨v, e2, dv⟩ := dpAll_get h e
      rw [List.filterMap_cons_some e2, List.filterMap_cons_some e]
      exact .cons dv ih
theorem vals_pick {vs : List V} {us : List Value} (h : Vals vs us) : ∀ is : List Nat, Vals (is.filterMap (vs[·]?)) (is.filterMap (us[·]?))
  | [] => .nil
  | i :: is => by
    have ih := vals_pick h is
    cases e : vs[i]? with
    | none =>
      have e2 : us[i]? = none := List.getElem?_eq_none (by rw [← h.length]; exact List.getElem?_eq_none_iff.mp e)
      rw [List.filterMap_cons_none e2, List.filterMap_cons_none e]
      exact ih
    | some v =>
      obtain ⟨u, e2, r⟩ := h.get e
      rw [List.filterMap_cons_some e, List.filterMap_cons_some e2]
      exact .cons r ih
/-- xs[lo:hi:st] -/
def tSl3 (K : PySem.W.Frag) (te : TE) (tl th ts : TO) : TE := fun σ H Q => te σ H fun x H1 => tl σ H1 fun l H2 => th σ H2 fun u H3 => ts σ H3 fun c H4 =>
  ∃ a xs, x = .ref a ∧ SqL K H4 a xs ∧ c ≠ some 0 ∧ ∀ p, H4 p = none → Q (.ref p) (L2.upd H4 p (.lst (stepL xs l u c)))
section
variable {X : Cx} {e a : Expr} {lo hi : Option Expr} {st : Expr} {te : TE} {tl th ts : TO} {p2 pos : Pos} {ma : M Dat} {ml mh mc : M (Option Int)}
theorem pe_slice3 (he : PE X e te) (hl : PO X lo tl) (hu : PO X hi th) (hc : PO X (some st) ts) : PE X (.Subscript e (.Slice lo hi (some st) p2) pos) (tSl3 X.K te tl th ts) := ⟨fun pins s σ H Q I h =>
  Subscript_ (thn (he.run pins s σ H _ I h) fun v s1 ⟨x, H1, I1, r1, q1⟩ =>
    wpAny_Slice (thn (hl.run pins s1 σ H1 _ I1 q1) fun vl s2 ⟨l, H2, I2, pl, q2⟩ => thn (hu.run pins s2 σ H2 _ I2 q2) fun vu s3 ⟨u, H3, I3, pu, q3⟩ => thn (hc.run pins s3 σ H3 _ I3 q3) fun vc s4 ⟨c, H4, I4, pc, q4⟩ => by
      obtain ⟨p, xs, rfl, hx, h0, q⟩ := q4
      cases r1
      have I5 : Inv X pins σ H4 { s4 with heap := s4.heap.push { cls := .type "slice", data := .fields #[vl, vu, vc] } } := I4.kept (t' := s4.toks) fun b ob z => Heap.get?_push_of_some _ z
      obtain ⟨its, rv, ht, hz⟩ := I5.list hx
      have hlen := rv.length
      show wpAny (model X.prog X.w) X.A (subscriptTail e (.Slice lo hi (some st) p2) (.ref p) (.ref s4.heap.objs.size)) (EP X pins σ Q) X.xe { s4 with heap := s4.heap.push { cls := .type "slice", data := .fields #[vl, vu, vc] } }
      refine tail_any (ops := [.ref p, .ref s4.heap.objs.size]) ht.isList.typeIs PySem.F.slot_list_getitem.lookup ?_ (by with_unfolding_all rfl)
      refine wpAny_getItem_list_slice ht.isList (Heap.IsSliceOf.new ..) pl pu pc h0 ?_ (by rw [List.size_toArray, ← hlen]; exact hz)
      have ep : slicePick its.toArray l u c = ((placesL xs.length l u c).filterMap (its[·]?)).toArray := by
        unfold slicePick placesL
        rw [List.size_toArray, hlen]
        congr 1
        congr 1
        funext i
        simp
      rw [ep]
      refine ⟨.ref _, _, I5.laid (t' := s4.toks) (o := .lst (stepL xs l u c)) (fun b ob z => Heap.get?_push_of_some _ z) (Nat.le_refl _) ?_, rfl, q _ (I5.hok.fresh (Nat.le_refl _))⟩
      have hsz := slicePick_size_le its.toArray l u c
      rw [ep, List.size_toArray, List.size_toArray] at hsz
      have hv := vals_pick rv (placesL xs.length l u c)
      exact ⟨by unfold stepL; rw [hv.length]; omega, _, 0, hv, Heap.get?_push_size _ rfl⟩))⟩
def mSl3 (m : M Dat) (ml mh mc : M (Option Int)) : M Ct := fun S => match m S with
  | some (.list xs, S1) => match ml S1 with
    | some (l, S2) => match mh S2 with
      | some (u, S3) => match mc S3 with
        | some (c, S4) => if c = some 0 then none else some (.l (stepL xs l u c), S4)
        | none => none
      | none => none
    | none => none
  | _ => none
theorem sf_sl3 (ha : PE X a (tM X.K ma)) (hl : PO X lo (tO X.K ml)) (hh : PO X hi (tO X.K mh)) (hc : PO X (some st) (tO X.K mc)) : PE X (.Subscript a (.Slice lo hi (some st) p2) pos) (tF X.K (mSl3 ma ml mh mc)) :=
  (pe_slice3 ha hl hh hc).imp fun σ H Q q => by
    obtain ⟨U, ms, He, S, z, S', R, h, q⟩ := q
    unfold mSl3 at h
    split at h
    · rename_i xs S1 h1
      split at h
      · rename_i l S2 h2
        split at h
        · rename_i u S3 h3
          split at h
          · rename_i c S4 h4
            split at h
            · cases h
            · rename_i h0
              cases h
              refine .mk R h1 fun v H1 He1 G1 R1 d1 => ?_
              refine ⟨U, ms, He1, S1, l, S2, R1, h2, fun H2 He2 G2 R2 => ?_⟩
              refine ⟨U, ms, He2, S2, u, S3, R2, h3, fun H3 He3 G3 R3 => ?_⟩
              refine ⟨U, ms, He3, S3, c, _, R3, h4, fun H4 He4 G4 R4 => ?_⟩
              obtain ⟨p, vs, rfl, g1, g2⟩ := dp_lst (dp_mono ((G2.same.trans G3.same).trans G4.same) d1)
              refine ⟨p, vs, rfl, R4.data.seq g1, h0, fun l' hl' => ?_⟩
              have E2 := ext_fresh (o := HO.lst (stepL vs l u c)) R4.data hl'
              refine q _ _ _ ((((G1.trans G2).trans G3).trans G4).trans (E2.grow R4)) (E2.rel R4) (fresh_laid R4 hl' ⟨_, rfl, ?_⟩)
              unfold stepL
              rw [← dpAll_length g2]
              exact dpAll_pick g2 _
          · cases h
        · cases h
      · cases h
    · cases h
end
end Rp
set_option Elab.async false
set_option linter.all false
set_option maxRecDepth 100000
/-! Tuples joined; the least and the greatest of a list; in a list; sorted lists of numbers. -/
namespace Rp
open PySem PySem.Spec PyProof.Rows L2

def addT : Dat → Dat → Option Dat
  | .tuple a, .tuple b => if a.length + b.length ≤ 100000 then some (.tuple (a ++ b)) else none
  | _, _ => none
def inL : Dat → Dat → Option Dat
  | .list ds, x => if SeqAt.shaped x = true ∧ SeqAt.shaped (.list ds) = true then some (.bool (ds.any fun z => PyData.eqv z x)) else none
  | _, _ => none
def inLx (x d : Dat) : Option Dat := inL d x
def ninLx (x d : Dat) : Option Dat := match inL d x with
  | some (.bool b) => some (.bool (!b))
  | _ => none
def intsD : List Dat → Option (List Int)
  | [] => some []
  | .int i :: xs => match intsD xs with
    | some is => some (i :: is)
    | none => none
  | _ => none
@[simp] theorem intsD_map : ∀ ns : List Int, intsD (ns.map PyData.int) = some ns
  | [] => rfl
  | n :: ns => by
    show (match intsD (ns.map PyData.int) with
      | some is => some (n :: is)
      | none => none) = _
    rw [intsD_map ns]
theorem intsD_inv : ∀ {xs : List Dat} {ns : List Int}, intsD xs = some ns → xs = ns.map PyData.int
  | [], ns, h => by cases h; rfl
  | x :: xs, ns, h => by
    unfold intsD at h
    split at h
    · rename_i e; cases e
    · rename_i i xs' e
      cases e
      split at h
      · rename_i is h'
        cases h
        rw [intsD_inv h']; rfl
      · cases h
    · cases h
def minI : Int → List Int → Int := List.foldl min
def maxI : Int → List Int → Int := List.foldl max
def min1 : List Dat → Option Dat
  | [.list xs] => match intsD xs with
    | some (n :: ns) => some (.int (minI n ns))
    | _ => none
  | _ => none
def max1 : List Dat → Option Dat
  | [.list xs] => match intsD xs with
    | some (n :: ns) => some (.int (maxI n ns))
    | _ => none
  | _ => none
def sortI (ns : List Int) : List Int := ns.mergeSort fun a b => decide (a ≤ b)
def sorted1 : List Dat → Option Ct
  | [.list xs] => match intsD xs with
    | some ns => some (.l ((sortI ns).map PyData.int))
    | _ => none
  | _ => none
theorem sortI_perm (ns : List Int) : (sortI ns).Perm ns := List.mergeSort_perm _ _
theorem sortI_le (ns : List Int) : (sortI ns).Pairwise (· ≤ ·) := by
  have := List.pairwise_mergeSort (le := fun (a b : Int) => decide (a ≤ b)) (fun a b c h1 h2 => by simp at *; omega) (fun a b => by simp; omega) ns
  exact this.imp fun h => by simpa using h
theorem sorted_uniq : ∀ {a b : List Int}, a.Perm b → a.Pairwise (· ≤ ·) → b.Pairwise (· ≤ ·) → a = b
  | [], b, p, _, _ => (List.nil_perm.mp p).symm
  | x :: a, [], p, _, _ => absurd p.length_eq (by simp)
  | x :: a, y :: b, p, ha, hb => by
    have h1 := List.pairwise_cons.mp ha
    have h2 := List.pairwise_cons.mp hb
    have e : x = y := by
      have m1 : x ∈ y :: b := p.mem_iff.mp List.mem_cons_self
      have m2 : y ∈ x :: a := p.mem_iff.mpr List.mem_cons_self
      rcases List.mem_cons.mp m1 with e | m1
      · exact e
      · rcases List.mem_cons.mp m2 with e | m2
        · exact e.symm
        · have := h1.1 y m2
          have := h2.1 x m1
          omega
    subst e
    rw [sorted_uniq ((List.perm_cons x).mp p) h1.2 h2.2]
theorem sorted_is {a ns : List Int} (p : a.Perm ns) (h : a.Pairwise (· ≤ ·)) : a = sortI ns := sorted_uniq (p.trans (sortI_perm ns).symm) h (sortI_le ns)
theorem minI_spec : ∀ {ns : List Int} {n : Int}, minI n ns ∈ n :: ns ∧ ∀ y ∈ n :: ns, minI n ns ≤ y
  | [], n => ⟨List.mem_singleton.mpr rfl, fun y hy => by rw [List.mem_singleton.mp hy]; exact Int.le_refl _⟩
  | m :: ns, n => by
    obtain ⟨h1, h2⟩ := minI_spec (ns := ns) (n := min n m)
    have e : minI n (m :: ns) = minI (min n m) ns := rfl
    rw [e]
    have h3 := h2 _ List.mem_cons_self
    refine ⟨?_, fun y hy => ?_⟩
    · rcases List.mem_cons.mp h1 with h | h
      · rw [h]
        by_cases hl : n ≤ m
        · rw [Int.min_eq_left hl]; exact List.mem_cons_self
        · rw [Int.min_eq_right (by omega)]; exact List.mem_cons_of_mem _ List.mem_cons_self
      · exact List.mem_cons_of_mem _ (List.mem_cons_of_mem _ h)
    · rcases List.mem_cons.mp hy with h | hy
      · subst h; omega
      · rcases List.mem_cons.mp hy with h | hy
        · subst h; omega
        · exact h2 y (List.mem_cons_of_mem _ hy)
theorem maxI_spec : ∀ {ns : List Int} {n : Int}, maxI n ns ∈ n :: ns ∧ ∀ y ∈ n :: ns, y ≤ maxI n ns
  | [], n => ⟨List.mem_singleton.mpr rfl, fun y hy => by rw [List.mem_singleton.mp hy]; exact Int.le_refl _⟩
  | m :: ns, n => by
    obtain ⟨h1, h2⟩ := maxI_spec (ns := ns) (n := max n m)
    have e : maxI n (m :: ns) = maxI (max n m) ns := rfl
    rw [e]
    have h3 := h2 _ List.mem_cons_self
    refine ⟨?_, fun y hy => ?_⟩
    · rcases List.mem_cons.mp h1 with h | h
      · rw [h]
        by_cases hl : n ≤ m
        · rw [Int.max_eq_right hl]; exact List.mem_cons_of_mem _ List.mem_cons_self
        · rw [Int.max_eq_left (by omega)]; exact List.mem_cons_self
      · exact List.mem_cons_of_mem _ (List.mem_cons_of_mem _ h)
    · rcases List.mem_cons.mp hy with h | hy
      · subst h; omega
      · rcases List.mem_cons.mp hy with h | hy
        · subst h; omega
        · exact h2 y (List.mem_cons_of_mem _ hy)
section
variable {K : PySem.W.Frag} {X : Cx}
theorem od_addT : OpD K (rCatA K) addT := by
  intro He H v w x y z Q hs dv dw h q
  unfold addT at h
  split at h
  · split at h
    · rename_i hl
      cases h
      obtain ⟨a, xs, rfl, s1, d1⟩ := dp_tup dv
      obtain ⟨b, ys, rfl, s2, d2⟩ := dp_tup dw
      have l1 := dpAll_length d1
      have l2 := dpAll_length d2
      refine ⟨a, b, xs, ys, rfl, rfl, sqT_mono hs s1, sqT_mono hs s2, by rw [l1, l2]; exact Nat.le_trans hl line_ge, fun h0 => ?_, fun _ h0 => ?_, fun _ _ p hp => ?_⟩
      · subst h0
        cases d1
        exact q _ _ _ (.refl hs) (.tup s2 d2)
      · subst h0
        cases d2
        exact q _ _ _ (.refl hs) (.tup s1 (by rw [List.append_nil]; exact d1))
      · have E2 := ext_new (o := HO.tup (xs ++ ys)) hs hp
        exact q _ _ _ E2 (.tup (SqT.of upd_same) (dpAll_mono E2.data (dpAll_append d1 d2)))
    · cases h
  · cases h
theorem od_inL : OpD K (rInD K) inLx := by
  intro He H v w x y z Q hs dv dw h q
  unfold inLx inL at h
  split at h
  · split at h
    · rename_i hh
      cases h
      exact ⟨x, _, dp_mono hs dv, dp_mono hs dw, hh.1, hh.2, q _ _ _ (.refl hs) (.bl _)⟩
    · cases h
  · cases h
theorem od_ninL : OpD K (rNotInD K) ninLx := by
  intro He H v w x y z Q hs dv dw h q
  unfold ninLx inL at h
  split at h
  · rename_i b hb
    split at hb
    · split at hb
      · rename_i hh
        cases hb
        cases h
        exact ⟨x, _, dp_mono hs dv, dp_mono hs dw, hh.1, hh.2, q _ _ _ (.refl hs) (.bl _)⟩
      · cases hb
    · cases hb
  · cases h
variable {e a b c : Expr} {es : List Expr} {ma mb : M Dat} {pos : Pos}
theorem se_addT (ha : PE X a (tM X.K ma)) (hb : PE X b (tM X.K mb)) : PE X (.BinOp a .Add b pos) (tM X.K (mBin addT ma mb)) := se_bin op_catA od_addT ha hb
theorem cd_min1 {K : PySem.W.Frag} : CaD K (rMin K) min1 := by
  intro He H vs xs z Q hs d h q
  unfold min1 at h
  split at h
  · split at h
    · rename_i n ns hi
      cases h
      obtain ⟨v, rfl, d1⟩ := one_dp d
      obtain ⟨p, ws, rfl, g1, g2⟩ := dp_lst d1
      rw [intsD_inv hi] at g2
      rw [ints_of_dpAll g2] at g1
      refine ⟨p, n :: ns, rfl, hs.seq g1, by simp, fun m hm hle => ?_⟩
      obtain ⟨k1, k2⟩ := minI_spec (ns := ns) (n := n)
      have e1 := hle _ k1
      have e2 := k2 _ hm
      have : m = minI n ns := by omega
      rw [this]
      exact q _ _ _ (.refl hs) (.int _)
    · cases h
  · cases h
theorem cd_max1 {K : PySem.W.Frag} : CaD K (rMax K) max1 := by
  intro He H vs xs z Q hs d h q
  unfold max1 at h
  split at h
  · split at h
    · rename_i n ns hi
      cases h
      obtain ⟨v, rfl, d1⟩ := one_dp d
      obtain ⟨p, ws, rfl, g1, g2⟩ := dp_lst d1
      rw [intsD_inv hi] at g2
      rw [ints_of_dpAll g2] at g1
      refine ⟨p, n :: ns, rfl, hs.seq g1, by simp, fun m hm hle => ?_⟩
      obtain ⟨k1, k2⟩ := maxI_spec (ns := ns) (n := n)
      have e1 := hle _ k1
      have e2 := k2 _ hm
      have : m = maxI n ns := by omega
      rw [this]
      exact q _ _ _ (.refl hs) (.int _)
    · cases h
  · cases h
theorem cf_sorted1 {K : PySem.W.Frag} : CaF K (rSortedI K) sorted1 := by
  intro He H vs xs c Q hs d h q
  unfold sorted1 at h
  split at h
  · split at h
    · rename_i ns hi
      cases h
      obtain ⟨v, rfl, d1⟩ := one_dp d
      obtain ⟨p, ws, rfl, g1, g2⟩ := dp_lst d1
      rw [intsD_inv hi] at g2
      rw [ints_of_dpAll g2] at g1
      refine ⟨p, ns, rfl, hs.seq g1, fun ns' l hp hle hl => ?_⟩
      rw [sorted_is hp hle]
      exact q l _ hl ⟨_, rfl, dpAll_ints _⟩
    · cases h
  · cases h
theorem sf_callB {x : Str} {p : Pos} {id : String} {r : List V → Hp → VK → Prop} {g : List Dat → Option Ct} {mas : M (List Dat)} (hc : CallR X (.builtin id) r) (hr : CaF X.K r g) (hg : Gl X x) (hm : X.mg x = none) (hv : bootBuiltins x = some (.builtin id)) (ha : PA X (e :: es) (tAs X.K mas)) (hn : x ≠ "__name__" := by decide) (hdb : (x == ("__debug__" : Str)) = false := by decide)
    (he : starEach (e :: es) X.env = (false, eval e X.env) :: starEach es X.env := by rfl) (hpl : (backTo pos (starEach es X.env)).any (·.1) = false := by rfl) : PE X (.Call (.Name x p) (e :: es) [] pos) (tF X.K (mAppF g mas)) :=
  (pe_callB hc hg hm hv ha hn hdb he hpl).imp fun σ H Q q => tF_app hr q
end
theorem room65 {k : Nat} {A : Around} (h : Room k A) : A.units + 65 < cLine := by have := h.un; omega
theorem room65H {k : Nat} {A : Around} (h : L2H.RoomH k A) : A.units + 65 < cLine := by have := h.un; omega
/-! isinstance(x, str) -/
def isStr : Dat → Bool
  | .str _ => true
  | _ => false
theorem kit_str {x : Dat} (h : ∀ k, x ≠ .dict k) : kitB (tyD x) "str" = some (isStr x) := by
  cases x <;> first | rfl | (exact absurd rfl (h _)) | decide +kernel
end Rp
set_option Elab.async false
set_option linter.all false
set_option maxRecDepth 100000
/-! Walks: objects with two fields. -/
namespace Rp
open PySem PySem.Spec PyProof.Rows L2

theorem tp_ne : ¬ (("tree" : Str) = "place") := by decide +kernel
theorem pt_ne : ¬ (("place" : Str) = "tree") := by decide +kernel
abbrev flds (t p : V) : List (Str × V) := [("tree", t), ("place", p)]
theorem look_t (t p : V) : (flds t p).lookup ("tree" : Str) = some t := by
  show (match ("tree" : Str) == "tree" with | true => some t | false => (match ("tree" : Str) == "place" with | true => some p | false => none)) = _
  rw [beq_self_eq_true]
theorem look_p (t p : V) : (flds t p).lookup ("place" : Str) = some p := by
  have h : (("place" : Str) == "tree") = false := beq_eq_false_iff_ne.mpr pt_ne
  show (match ("place" : Str) == "tree" with | true => some t | false => (match ("place" : Str) == "place" with | true => some p | false => none)) = _
  rw [h, beq_self_eq_true]
theorem look_no (t p : V) {m : Str} (h1 : ¬ m = "tree") (h2 : ¬ m = "place") : (flds t p).lookup m = none := by
  show (match m == "tree" with | true => some t | false => (match m == "place" with | true => some p | false => none)) = _
  rw [beq_eq_false_iff_ne.mpr h1, beq_eq_false_iff_ne.mpr h2]
theorem put_p (t p y : V) : putF "place" y (flds t p) = flds t y := by
  show (if ("tree" : Str) = "place" then _ else (("tree" : Str), t) :: (if ("place" : Str) = "place" then [(("place" : Str), y)] else _)) = _
  rw [if_neg tp_ne, if_pos rfl]
theorem put_new (t p : V) : putF "place" p (putF "tree" t []) = flds t p := by
  show (if ("tree" : Str) = "place" then _ else (("tree" : Str), t) :: [(("place" : Str), p)]) = _
  rw [if_neg tp_ne]
/-! ### a slot's object -/
def obV (S : Sl) (i : Nat) : Option (Dat × Dat) := match S[i]? with
  | some (.o (.ob t p)) => some (t, p)
  | some (.m _ (.ob t p)) => some (t, p)
  | _ => none
theorem obV_own {S : Sl} {i : Nat} {x : Dat × Dat} (h : obV S i = some x) : ∃ sv, S[i]? = some sv ∧ sv.own = some (.ob x.1 x.2) := by
  unfold obV at h
  split at h
  · cases h; exact ⟨_, by assumption, rfl⟩
  · cases h; exact ⟨_, by assumption, rfl⟩
  · cases h
theorem Rel.obV {K : PySem.W.Frag} {U : Hp} {ms : List Addr} {He : Hp} {S : Sl} {σ : L2.St} {H : Hp} (R : Rel K U ms He S σ H) {i : Nat} {x : Dat × Dat} (h : obV S i = some x) {C : Addr} (wc : PySem.W.nsIn K mainGlobals "Walk" = some (some (.ref C))) :
    ∃ a dx vt vp, σ[i]? = some (some (.ref a)) ∧ H a = some (.ins C dx (flds vt vp)) ∧ Dp K He vt x.1 ∧ Dp K He vp x.2 ∧ ∀ (t' p' : Dat) (ut up : V), Dp K He ut t' → Dp K He up p' → Rel K U ms He (putV S i (.ob t' p')) σ (L2.upd H a (.ins C dx (flds ut up))) := by
  obtain ⟨sv, e, o⟩ := obV_own h
  obtain ⟨a, e1, O⟩ := R.own e o
  obtain ⟨ob, h1, C', dx, vt, vp, wc', rfl, d1, d2⟩ := O.at_
  rw [wc] at wc'
  cases wc'
  refine ⟨a, dx, vt, vp, e1, h1, d1, d2, fun t' p' ut up q1 q2 => ?_⟩
  unfold putV
  rw [e]
  exact R.upd (c' := .ob t' p') e o e1 ⟨C, dx, ut, up, wc, rfl, q1, q2⟩
/-- o.tree, o.place -/
def mFldT (i : Nat) : M Dat := fun S => match obV S i with
  | some x => some (x.1, S)
  | none => none
def mFldP (i : Nat) : M Dat := fun S => match obV S i with
  | some x => some (x.2, S)
  | none => none
/-- o.place = v -/
def sFldP (i : Nat) (mv : M Dat) : MS := fun S => match mv S with
  | some (y, S1) => match obV S1 i with
    | some x => some (.nx (putV S1 i (.ob x.1 y)))
    | none => none
  | none => none
/-- o.m(..) -/
def mMeth (F : FF) (i : Nat) (mar : M (List CA)) : M Dat := fun S => match obV S i with
  | some _ => mCall F (aSlot i mar) S
  | none => none
/-- Walk(t) -/
def mMake (ma : M Dat) : M Ct := fun S => match ma S with
  | some (x, S1) => some (.ob x (.int 0), S1)
  | none => none
section
variable {X : Cx} {C : Addr} {o e value : Expr} {es : List Expr} {pos pos' apos : Pos} {ma mv : M Dat} {mar : M (List CA)} {E : Nat → L2.St → Hp → Prop} {i : Nat}
theorem se_fldT (wc : PySem.W.nsIn X.K mainGlobals "Walk" = some (some (.ref C))) (cl : Cls X.K C) (n : NoAttr X.K C "tree") (ho : PE X o (tVar i)) (hb : attributeBase o "tree" X.env (eval o X.env) = eval o X.env := by rfl) : PE X (.Attribute o "tree" pos) (tM X.K (mFldT i)) := (pe_fld ho hb).imp fun σ H Q q => by
  obtain ⟨U, ms, He, S, z, S', R, h, q⟩ := q
  unfold mFldT at h
  split at h
  · rename_i x h0
    cases h
    obtain ⟨a, dx, vt, vp, e1, g, d1, d2, _⟩ := R.obV h0 wc
    exact ⟨_, e1, a, C, dx, _, vt, rfl, g, cl, n, look_t _ _, q _ _ _ (.refl _ _) R d1⟩
  · cases h
theorem se_fldP (wc : PySem.W.nsIn X.K mainGlobals "Walk" = some (some (.ref C))) (cl : Cls X.K C) (n : NoAttr X.K C "place") (ho : PE X o (tVar i)) (hb : attributeBase o "place" X.env (eval o X.env) = eval o X.env := by rfl) : PE X (.Attribute o "place" pos) (tM X.K (mFldP i)) := (pe_fld ho hb).imp fun σ H Q q => by
  obtain ⟨U, ms, He, S, z, S', R, h, q⟩ := q
  unfold mFldP at h
  split at h
  · rename_i x h0
    cases h
    obtain ⟨a, dx, vt, vp, e1, g, d1, d2, _⟩ := R.obV h0 wc
    exact ⟨_, e1, a, C, dx, _, vp, rfl, g, cl, n, look_p _ _, q _ _ _ (.refl _ _) R d2⟩
  · cases h
theorem ss_fldP (wc : PySem.W.nsIn X.K mainGlobals "Walk" = some (some (.ref C))) (cl : Cls X.K C) (n : NoAttr X.K C "place") (ho : PE X o (tVar i)) (hv : PE X value (tM X.K mv)) (hs : swapsWith value (some (.Attribute o "place" pos')) pos.line X.env = pure false := by rfl) :
    PS X (.Assign [.Attribute o "place" pos'] value pos) (tS X.K E (sFldP i mv)) := (ps_fld ho hv hs).imp fun D σ H q => by
  obtain ⟨U, ms, He, S, out, R, h, q⟩ := q
  unfold sFldP at h
  split at h
  · rename_i y S1 h1
    split at h
    · rename_i x h0
      cases h
      refine .mk R h1 fun v H1 He1 G1 R1 d => ?_
      obtain ⟨a, dx, vt, vp, e1, g, d1, d2, f⟩ := R1.obV h0 wc
      refine ⟨_, e1, a, C, dx, _, rfl, g, cl, n, by show 2 < 1000; decide, ?_⟩
      rw [put_p]
      exact q σ _ He1 G1 (f _ _ _ _ d1 d)
    · cases h
  · cases h
variable {cls : Nat → Value} {k : Nat} {f : Addr} {fd : FuncData} {ps : List Str} {m : Str} {F : FF}
theorem tM_meth {K : PySem.W.Frag} {σ : L2.St} {H : Hp} {Q : VK} {E : XK} (wc : PySem.W.nsIn K mainGlobals "Walk" = some (some (.ref C))) (h1 : ¬ m = "tree") (h2 : ¬ m = "place") (h : tM K (mMeth F i mar) σ H Q) :
    tMeth C m (spF K cls F) [] E (tVar i) (tAr K mar) σ H Q := by
  obtain ⟨U, ms, He, S, z, S2, R, h, q⟩ := h
  unfold mMeth at h
  split at h
  · rename_i x h0
    obtain ⟨a, dx, vt, vp, e1, g, _⟩ := R.obV h0 wc
    have c : tCall (spF K cls F) [] E (tAr K (aSlot i mar)) σ H Q := tM_call ⟨U, ms, He, S, z, S2, R, h, q⟩
    refine ⟨_, e1, a, dx, _, rfl, g, look_no _ _ h1 h2, ?_⟩
    obtain ⟨U', ms', He', S', xs, S'', R', h', q'⟩ := c
    unfold aSlot at h'
    split at h'
    · rename_i sv hs
      split at h'
      · split at h'
        · rename_i ys S3 h3
          cases h'
          exact ⟨U', ms', He', S', ys, _, R', h3, fun vs H2 He2 G2 R2 d2 n2 => q' (V.ref a :: vs) H2 He2 G2 R2 (.cons (show σ[i]? = some (some (V.ref a)) from e1) d2) n2⟩
        · cases h'
      · cases h'
    · cases h'
  · cases h
theorem tAr_nil {K : PySem.W.Frag} {σ : L2.St} {H : Hp} {Q : List V → Hp → Prop} (q : tAr K aNil σ H Q) : tNil σ H Q := by
  obtain ⟨U, ms, He, S, x, S', R, h, q⟩ := q
  cases h
  exact q [] H He (.refl _ _) R .nil List.nodup_nil
/-- o.m(e, ..) -/
theorem se_meth {pl : Sem Bool} (wc : PySem.W.nsIn X.K mainGlobals "Walk" = some (some (.ref C))) (cl : Cls X.K C) (hm : Meth X.K C m f) (h1 : ¬ m = "tree") (h2 : ¬ m = "place") (G : FnOk X.prog X.w X.K X.mg X.base (L2N.CX X.prog X.w) k f fd ps (spF X.K cls F)) (hr : Room k X.A) (hb : Binds X.K fd ps [])
    (ho : PE X o (tVar i)) (ha : PA X (e :: es) (tAr X.K mar)) (hst : starEach (e :: es) X.env = (false, eval e X.env) :: starEach es X.env := by rfl) (hpl : (backTo pos (starEach es X.env)).any (·.1) = false := by rfl)
    (ht : eval (.Call (.Attribute o m apos) (e :: es) [] pos) X.env = (do
      let ov ← eval o X.env
      standAt apos.atName
      let (f, first) ← holding [ov] (getMethod ov m pl)
      callWith pos f first (backTo pos (starEach (e :: es) X.env)) (backToKw pos (keywordEach [] X.env))) := by rfl) :
    PE X (.Call (.Attribute o m apos) (e :: es) [] pos) (tM X.K (mMeth F i mar)) :=
  (pe_meth ho cl hm G hr hb .nil passX ha hst hpl ht).imp fun σ H Q q => tM_meth wc h1 h2 q
/-- o.m() -/
theorem se_meth0 {pl : Sem Bool} (wc : PySem.W.nsIn X.K mainGlobals "Walk" = some (some (.ref C))) (cl : Cls X.K C) (hm : Meth X.K C m f) (h1 : ¬ m = "tree") (h2 : ¬ m = "place") (G : FnOk X.prog X.w X.K X.mg X.base (L2N.CX X.prog X.w) k f fd ps (spF X.K cls F)) (hr : Room k X.A) (hb : Binds X.K fd ps [])
    (ho : PE X o (tVar i))
    (ht : eval (.Call (.Attribute o m apos) [] [] pos) X.env = (do
      let ov ← eval o X.env
      standAt apos.atName
      let (f, first) ← holding [ov] (getMethod ov m pl)
      callWith pos f first (backTo pos (starEach [] X.env)) (backToKw pos (keywordEach [] X.env))) := by rfl) :
    PE X (.Call (.Attribute o m apos) [] [] pos) (tM X.K (mMeth F i aNil)) :=
  (pe_meth0 ho cl hm G hr hb .nil passX ht).imp fun σ H Q q => by
    obtain ⟨v, e1, a, dx, fs, e2, g, l, q⟩ := tM_meth wc h1 h2 q
    exact ⟨v, e1, a, dx, fs, e2, g, l, tAr_nil q⟩
/-- __init__ -/
def spInit (C : Addr) : Sp := fun vs H Q _ => ∃ (x dx : Addr) (v : V), vs = [.ref x, v] ∧ H x = some (.ins C dx []) ∧ Q .non (L2.upd H x (.ins C dx (flds v (.int 0))))
/-- Walk(t) -/
theorem sf_make {x : Str} {p : Pos} (wc : PySem.W.nsIn X.K mainGlobals "Walk" = some (some (.ref C))) (M : Mk X.K C f) (G : FnOk X.prog X.w X.K X.mg X.base (L2N.CX X.prog X.w) k f fd ps (spInit C)) (hr : Room (k + 1) X.A) (hg : Gl X x) (hm : X.mg x = some (.ref C)) (hb : Binds X.K fd ps [])
    (ha : PE X e (tM X.K ma)) (hdb : (x == ("__debug__" : Str)) = false := by decide) (he : starEach [e] X.env = (false, eval e X.env) :: starEach [] X.env := by rfl) (hpl : (backTo pos (starEach [] X.env)).any (·.1) = false := by rfl) :
    PE X (.Call (.Name x p) [e] [] pos) (tF X.K (mMake ma)) :=
  (pe_make M G hr hg hm hb .nil passX (pa_cons ha pa_nil he) hdb he hpl).imp fun σ H Q q => by
    obtain ⟨U, ms, He, S, z, S', R, h, q⟩ := q
    unfold mMake at h
    split at h
    · rename_i y S1 h1
      cases h
      refine .mk R h1 fun v H1 He1 G1 R1 d => ?_
      intro a dx na nd ne
      refine ⟨a, dx, v, rfl, upd_same, rfl, ?_⟩
      rw [upd_upd]
      have E2 := ext_fresh (o := HO.own a) R1.data nd
      have R2 := E2.rel R1
      have na2 : L2.upd H1 dx (HO.own a) a = none := by rw [upd_ne (Ne.symm ne)]; exact na
      have E3 := ext_fresh (o := HO.ins C dx (flds v (.int 0))) R2.data na2
      exact q _ _ _ ((G1.trans (E2.grow R1)).trans (E3.grow R2)) (E3.rel R2) (fresh_laid R2 na2 ⟨C, dx, v, .int 0, wc, rfl, d, .int 0⟩)
    · cases h
end
section
variable {P : Program} {w : World} {K : PySem.W.Frag} {mg : Str → Option Value} {base : Heap} {C : Addr}
/-- self.tree = tree; self.place = 0 -/
theorem ok_init {x q : Str} {st : Stmt} {f : Addr} {fd : FuncData} {ps : List Str} (Fn : Fun K x q st f fd) (Sc : FnScope ps ps (defScope st)) (two : ps.length = 2) (cl : Cls K C) (nt : NoAttr K C "tree") (np : NoAttr K C "place")
    (body : ∀ (cdv : Value) (A : Around) (outer : List Env) (s : Shared) (H : Hp) (E : XK), PSs (cxOf (L2N.CX P w) P w K mg base ps q (defScope st) f cdv A outer s H E) (defBody st) (fun D σ H => sFld K (tVar 0) (tVar 1) "tree" { D with nx := fun σ H => sFld K (tVar 0) (tC (.int 0)) "place" D σ H } σ H)) :
    FnOk P w K mg base (L2N.CX P w) 1 f fd ps (spInit C) := by
  refine okN Fn Sc (fun vs H Q E h => ?_) (fun cdv A outer s H vs Q E hr h => ?_)
  · obtain ⟨a, dx, v, rfl, _⟩ := h
    exact two.symm
  · obtain ⟨a, dx, v, rfl, g, q⟩ := h
    refine ⟨_, body cdv A outer s H E, ?_⟩
    refine ⟨v, rfl, V.ref a, rfl, a, C, dx, [], rfl, g, cl, nt, by show 0 < 1000; decide, ?_⟩
    refine ⟨V.ref a, rfl, a, C, dx, _, rfl, upd_same, cl, np, by show 1 < 1000; decide, ?_⟩
    rw [upd_upd, put_new]
    exact q
end
/-- a method of the text -/
structure DfM (K : PySem.W.Frag) (mn q : Str) (st : Stmt) (ps : List Str) where
  f : Addr
  fd : FuncData
  F : Fun K mn q st f fd
  b : Binds K fd ps []
theorem run_okM {P : Program} {w : World} {K : PySem.W.Frag} {mg : Str → Option Value} {base : Heap} {cls : Nat → Value} {mn q : Str} {st : Stmt} {N ps : List Str} (D : DfM K mn q st ps) {k p n : Nat} {m : MS} (Sc : FnScope N ps (defScope st)) (hp : ps.length = p) (hn : N.length = n) (hpn : p ≤ n)
    (hbody : ∀ (cdv : Value) (A : Around) (outer : List Env) (s : Shared) (H : Hp) (E : XK), Room k (A.deeper (envOfC q (defScope st) s.heap.objs.size D.f cdv)) →
      PSs (cxOf (L2N.CX P w) P w K mg base N q (defScope st) D.f cdv A outer s H E).nox (defBody st) (tS K (fun _ _ _ => False) m)) :
    FnOk P w K mg base (L2N.CX P w) (k + 1) D.f D.fd ps (spF K cls (runF p n m)) := by
  subst hp hn
  exact def_ok D.F Sc runF_len runF_nox (comp_run hpn) hbody
end Rp
set_option Elab.async false
set_option linter.all false
set_option maxRecDepth 100000
/-! A row of objects, kept in the frame. -/
namespace Rp
open PySem PySem.Spec PyProof.Rows L2

def delH (U : Hp) (a : Addr) : Hp := fun b => if b = a then none else U b
theorem del_same {U : Hp} {a : Addr} : delH U a a = none := if_pos rfl
theorem del_ne {U : Hp} {a b : Addr} (h : b ≠ a) : delH U a b = U b := if_neg h
/-- the state at a place of law: the frame U holds the objects as, that are walks ws -/
structure At (K : PySem.W.Frag) (U0 : Hp) (ms : List Addr) (He0 : Hp) (S : Sl) (as : List Addr) (ws : List (Dat × Dat)) (σ : L2.St) (H U He : Hp) : Prop where
  R : Rel K U ms He S σ H
  over : ∀ b, U0 b ≠ none → U b = U0 b
  out : ∀ (k : Nat) (a : Addr), as[k]? = some a → U0 a = none
  nd : ∀ (k j : Nat) (a : Addr), as[k]? = some a → as[j]? = some a → k = j
  obs : ∀ (k : Nat) (a : Addr) (w : Dat × Dat), as[k]? = some a → ws[k]? = some w → He a = none ∧ ∃ o, U a = some o ∧ CtAt K He o (.ob w.1 w.2)
  grow : Grow U0 He0 He
  mu : ∀ a, a ∈ ms → U0 a ≠ none
section
variable {K : PySem.W.Frag} {U0 : Hp} {ms : List Addr} {He0 : Hp} {S S' : Sl} {as : List Addr} {ws : List (Dat × Dat)} {σ σ' : L2.St} {H H' U He He' : Hp} {a : Addr} {w : Dat × Dat} {k j : Nat}
theorem At.start (R : Rel K U0 ms He0 S σ H) : At K U0 ms He0 S [] [] σ H U0 He0 := ⟨R, fun _ _ => rfl, fun _ _ h => by simp at h, fun _ _ _ h => by simp at h, fun _ _ _ h => by simp at h, .refl _ _, R.mu⟩
theorem At.next (A : At K U0 ms He0 S as ws σ H U He) (hl : as.length = ws.length) (G : Grow U He He') (R' : Rel K U ms He' S' σ' H') : At K U0 ms He0 S' as ws σ' H' U He' where
  R := R'
  over := A.over
  out := A.out
  nd := A.nd
  obs := fun k a w h1 h2 => by
    obtain ⟨n, o, e, c⟩ := A.obs k a w h1 h2
    exact ⟨G.new a n (by rw [e]; simp), o, e, ctAt_mono G.same c⟩
  grow := ⟨A.grow.same.trans G.same, fun b n u => G.new b (A.grow.new b n u) (by rw [A.over b u]; exact u)⟩
  mu := A.mu
theorem At.get (A : At K U0 ms He0 S as ws σ H U He) (h1 : as[k]? = some a) (h2 : ws[k]? = some w) : He a = none ∧ a ∉ ms ∧ ∃ o, U a = some o ∧ H a = some o ∧ CtAt K He o (.ob w.1 w.2) := by
  obtain ⟨n, o, e, c⟩ := A.obs k a w h1 h2
  have nm : a ∉ ms := fun m => A.mu a m (A.out k a h1)
  exact ⟨n, nm, o, e, A.R.frame a o e nm, c⟩
/-- a smaller frame -/
theorem Rel.lessU {V : Hp} (R : Rel K U ms He S σ H) (h : ∀ b, V b ≠ none → U b = V b) (mu : ∀ a, a ∈ ms → V a ≠ none) : Rel K V ms He S σ H where
  len := R.len
  at_ := fun i sv e => by
    obtain ⟨ov, e1, q⟩ := R.at_ i sv e
    refine ⟨ov, e1, ?_⟩
    have own : ∀ {a : Addr} {c : Ct}, OwnAt K U ms He H a sv c → OwnAt K V ms He H a sv c := fun {a c} O => ⟨O.at_, O.he, (fun z => by
      have u := O.u z
      cases hv : V a with
      | none => rfl
      | some o =>
        have := h a (show V a ≠ none by rw [hv]; simp)
        rw [u, hv] at this
        cases this), O.m⟩
    cases sv with
    | no => trivial
    | d x => exact q
    | o c => obtain ⟨a, e2, O⟩ := q; exact ⟨a, e2, own O⟩
    | m k c => obtain ⟨a, e2, O⟩ := q; exact ⟨a, e2, own O⟩
  sep := R.sep
  frame := fun a o e n => R.frame a o (by rw [h a (by rw [e]; simp), e]) n
  used := fun a u => R.used a (by rw [h a u]; exact u)
  data := R.data
  mu := mu
/-- a new container goes into the frame -/
theorem Rel.promote {v : V} {c : Ct} (R : Rel K U ms He S σ H) (F : Fresh K U He S σ H v c) : ∃ a o, v = .ref a ∧ U a = none ∧ H a = some o ∧ CtAt K He o c ∧ He a = none ∧ Rel K (L2.upd U a o) ms He S σ H := by
  obtain ⟨a, o, rfl, h1, h2, h3, h4⟩ := F.at_
  refine ⟨a, o, rfl, h4, h1, h2, h3, ?_⟩
  have ne : ∀ b, U b ≠ none → b ≠ a := fun b u z => u (by rw [z]; exact h4)
  exact {
    len := R.len
    at_ := fun i sv e => by
      obtain ⟨ov, e1, q⟩ := R.at_ i sv e
      refine ⟨ov, e1, ?_⟩
      have own : ∀ {b : Addr} {c : Ct}, sv.own = some c → ov = some (.ref b) → OwnAt K U ms He H b sv c → OwnAt K (L2.upd U a o) ms He H b sv c := fun {b c} hc e2 O => ⟨O.at_, O.he, (fun z => by
        rw [upd_ne (fun y => F.sep i sv c e hc (by rw [e1, e2, y]))]
        exact O.u z), O.m⟩
      cases sv with
      | no => trivial
      | d x => exact q
      | o c => obtain ⟨b, e2, O⟩ := q; exact ⟨b, e2, own rfl e2 O⟩
      | m k c => obtain ⟨b, e2, O⟩ := q; exact ⟨b, e2, own rfl e2 O⟩
    sep := R.sep
    frame := fun b u e n => by
      by_cases z : b = a
      · subst z; rw [upd_same] at e; rw [← e]; exact h1
      · rw [upd_ne z] at e; exact R.frame b u e n
    used := fun b u => by
      by_cases z : b = a
      · subst z; rw [h1]; simp
      · rw [upd_ne z] at u; exact R.used b u
    data := R.data
    mu := fun b m => by
      have := R.mu b m
      rw [upd_ne (ne b this)]; exact this }
theorem set_back {α : Type} {l : List α} {j : Nat} {x : α} (h : l[j]? = some x) : l.set j x = l := by
  refine List.ext_getElem? fun i => ?_
  by_cases z : j = i
  · subst z
    rw [List.getElem?_set_self (List.getElem?_eq_some_iff.mp h).1, h]
  · rw [List.getElem?_set_ne z]
/-- one more object -/
theorem At.make {v : V} {t p : Dat} (A : At K U0 ms He0 S as ws σ H U He) (hl : as.length = ws.length) (F : Fresh K U He S σ H v (.ob t p)) : ∃ a o, v = .ref a ∧ (∀ k : Nat, as[k]? ≠ some a) ∧ At K U0 ms He0 S (as ++ [a]) (ws ++ [(t, p)]) σ H (L2.upd U a o) He := by
  obtain ⟨a, o, rfl, n1, n2, n3, n4, R'⟩ := A.R.promote F
  have u0 : U0 a = none := by
    cases e : U0 a with
    | none => rfl
    | some z => have := A.over a (by rw [e]; simp); rw [n1, e] at this; cases this
  have notin : ∀ k : Nat, k < as.length → as[k]? ≠ some a := fun k hk e => by
    obtain ⟨w, hw⟩ : ∃ w, ws[k]? = some w := ⟨_, List.getElem?_eq_getElem (by omega)⟩
    obtain ⟨_, o', e', _⟩ := A.obs k a w e hw
    rw [n1] at e'; cases e'
  have notin' : ∀ k : Nat, as[k]? ≠ some a := fun k e => notin k (List.getElem?_eq_some_iff.mp e).1 e
  have at_ : ∀ {k : Nat} {b : Addr}, (as ++ [a])[k]? = some b → (k < as.length ∧ as[k]? = some b) ∨ (k = as.length ∧ b = a) := fun {k b} e => by
    by_cases hk : k < as.length
    · rw [List.getElem?_append_left hk] at e; exact .inl ⟨hk, e⟩
    · rw [List.getElem?_append_right (by omega)] at e
      have : k - as.length = 0 := by
        cases z : k - as.length with
        | zero => rfl
        | succ n => rw [z] at e; simp at e
      rw [this] at e
      simp at e
      exact .inr ⟨by omega, e.symm⟩
  refine ⟨a, o, rfl, notin', R', fun b h => ?_, fun k b e => ?_, fun k j b e1 e2 => ?_, fun k b w e1 e2 => ?_, A.grow, A.mu⟩
  · rw [upd_ne (fun z => h (by rw [z]; exact u0))]; exact A.over b h
  · rcases at_ e with ⟨_, e⟩ | ⟨_, rfl⟩
    · exact A.out k b e
    · exact u0
  · rcases at_ e1 with ⟨h1, g1⟩ | ⟨h1, g1⟩ <;> rcases at_ e2 with ⟨h2, g2⟩ | ⟨h2, g2⟩
    · exact A.nd k j b g1 g2
    · rw [g2] at g1; exact absurd g1 (notin' k)
    · rw [g1] at g2; exact absurd g2 (notin' j)
    · omega
  · rcases at_ e1 with ⟨h1, e1⟩ | ⟨h1, rfl⟩
    · rw [List.getElem?_append_left (by omega)] at e2
      obtain ⟨q1, o', q2, q3⟩ := A.obs k b w e1 e2
      exact ⟨q1, o', by rw [upd_ne (fun z => notin' k (by rw [← z]; exact e1))]; exact q2, q3⟩
    · rw [List.getElem?_append_right (by omega), h1, hl, Nat.sub_self] at e2
      simp at e2
      subst e2
      exact ⟨n4, o, upd_same, n3⟩
/-- the k-th object is another one from now on -/
theorem At.swap {v : V} {t p : Dat} (A : At K U0 ms He0 S as ws σ H U He) (hl : as.length = ws.length) (hk : k < as.length) (F : Fresh K U He S σ H v (.ob t p)) : ∃ a o, v = .ref a ∧ At K U0 ms He0 S (as.set k a) (ws.set k (t, p)) σ H (L2.upd U a o) He := by
  obtain ⟨a, o, e, no, B⟩ := A.make hl F
  have lift : ∀ {i : Nat} {b : Addr}, (as.set k a)[i]? = some b → (i = k ∧ b = a) ∨ (i ≠ k ∧ as[i]? = some b) := fun {i b} h => by
    by_cases z : k = i
    · subst z
      rw [List.getElem?_set_self hk] at h
      cases h
      exact .inl ⟨rfl, rfl⟩
    · rw [List.getElem?_set_ne z] at h
      exact .inr ⟨fun y => z y.symm, h⟩
  have inL : ∀ {i : Nat} {b : Addr}, as[i]? = some b → (as ++ [a])[i]? = some b := fun {i b} h => by rw [List.getElem?_append_left (List.getElem?_eq_some_iff.mp h).1]; exact h
  have inR : (as ++ [a])[as.length]? = some a := by rw [List.getElem?_append_right (Nat.le_refl _), Nat.sub_self]; rfl
  refine ⟨a, o, e, B.R, B.over, fun i b h => ?_, fun i j b h1 h2 => ?_, fun i b w h1 h2 => ?_, B.grow, B.mu⟩
  · rcases lift h with ⟨_, rfl⟩ | ⟨_, h⟩
    · exact B.out _ _ inR
    · exact B.out _ _ (inL h)
  · rcases lift h1 with ⟨i1, g1⟩ | ⟨i1, g1⟩ <;> rcases lift h2 with ⟨j1, g2⟩ | ⟨j1, g2⟩
    · omega
    · rw [g1] at g2; exact absurd g2 (no j)
    · rw [g2] at g1; exact absurd g1 (no i)
    · exact A.nd i j b g1 g2
  · rcases lift h1 with ⟨i1, rfl⟩ | ⟨i1, h1⟩
    · subst i1
      rw [List.getElem?_set_self (by omega)] at h2
      cases h2
      exact B.obs as.length b (t, p) inR (by rw [List.getElem?_append_right (by omega), hl, Nat.sub_self]; rfl)
    · rw [List.getElem?_set_ne (fun y => i1 y.symm)] at h2
      exact B.obs i b w (inL h1) (by rw [List.getElem?_append_left (List.getElem?_eq_some_iff.mp h2).1]; exact h2)
/-- an object out of the frame, into a slot -/
theorem At.take (A : At K U0 ms He0 S as ws σ H U He) (h1 : as[k]? = some a) (h2 : ws[k]? = some w) : Rel K (delH U a) ms He (S.set j (.o (.ob w.1 w.2))) (σ.set j (some (.ref a))) H := by
  obtain ⟨n, nm, o, e, g, c⟩ := A.get h1 h2
  have R1 : Rel K (delH U a) ms He S σ H := A.R.lessU (fun b h => by
    by_cases z : b = a
    · subst z; exact absurd del_same h
    · exact (del_ne z).symm) (fun b m => by
      have : b ≠ a := fun z => nm (z ▸ m)
      rw [del_ne this]
      exact A.R.mu b m)
  refine R1.setO ⟨⟨a, o, rfl, g, c, n, del_same⟩, fun i sv ci s1 s2 s3 => ?_⟩
  obtain ⟨b, e1, O⟩ := A.R.own s1 s2
  rw [e1] at s3
  have : b = a := V.ref.inj (Option.some.inj (Option.some.inj s3))
  subst this
  cases sv with
  | no => cases s2
  | d x => cases s2
  | o c => have := O.u ⟨c, rfl⟩; rw [e] at this; cases this
  | m k c => exact nm (List.mem_of_getElem? (O.m k c rfl))
/-- .. and back again -/
theorem At.put {t' p' : Dat} (A : At K U0 ms He0 S as ws σ H U He) (hl : as.length = ws.length) (h1 : as[k]? = some a) (G : Grow (delH U a) He He') (R' : Rel K (delH U a) ms He' S' σ' H') (hS : S'[j]? = some (.o (.ob t' p'))) (hσ : σ'[j]? = some (some (.ref a))) :
    ∃ o, At K U0 ms He0 (S'.set j .no) as (ws.set k (t', p')) σ' H' (L2.upd (delH U a) a o) He' := by
  obtain ⟨b, e1, O⟩ := R'.own hS rfl
  rw [e1] at hσ
  have : b = a := V.ref.inj (Option.some.inj (Option.some.inj hσ))
  subst this
  obtain ⟨o, g, c⟩ := O.at_
  have R1 : Rel K (delH U b) ms He' (S'.set j .no) σ' H' := by
    have := R'.setNo (i := j) (ov := some (.ref b))
    rwa [set_back e1] at this
  have F : Fresh K (delH U b) He' (S'.set j .no) σ' H' (.ref b) (.ob t' p') := ⟨⟨b, o, rfl, g, c, O.he, del_same⟩, fun i sv ci s1 s2 s3 => by
    by_cases z : j = i
    · subst z
      rw [List.getElem?_set_self (by have := (List.getElem?_eq_some_iff.mp hS).1; exact this)] at s1
      cases s1; cases s2
    · rw [List.getElem?_set_ne z] at s1
      exact R'.sep i j b sv _ ci _ (fun y => z y.symm) s1 hS s2 rfl s3 e1⟩
  obtain ⟨b', o', eb, n1, n2, n3, n4, R2⟩ := R1.promote F
  cases eb
  have u0 := A.out k b h1
  refine ⟨o', R2, fun x h => ?_, A.out, A.nd, fun i x w s1 s2 => ?_, ⟨A.grow.same.trans G.same, fun x n u => ?_⟩, A.mu⟩
  · have ne : x ≠ b := fun z => h (z ▸ u0)
    rw [upd_ne ne, del_ne ne]; exact A.over x h
  · by_cases z : k = i
    · subst z
      rw [h1] at s1
      cases s1
      have hk := (List.getElem?_eq_some_iff.mp h1).1
      rw [List.getElem?_set_self (by omega)] at s2
      cases s2
      exact ⟨n4, o', upd_same, n3⟩
    · rw [List.getElem?_set_ne z] at s2
      obtain ⟨q1, oo, q2, q3⟩ := A.obs i x w s1 s2
      have ne : x ≠ b := fun y => z (A.nd k i b h1 (y ▸ s1))
      exact ⟨G.new x q1 (by rw [del_ne ne, q2]; simp), oo, by rw [upd_ne ne, del_ne ne]; exact q2, ctAt_mono G.same q3⟩
  · have ne : x ≠ b := fun z => u (z ▸ u0)
    exact G.new x (A.grow.new x n u) (by rw [del_ne ne, A.over x u]; exact u)
end
end Rp
set_option Elab.async false
set_option linter.all false
set_option maxRecDepth 100000
/-! Rows of objects: the statements. -/
namespace Rp
open PySem PySem.Spec PyProof.Rows L2

section
variable {K : PySem.W.Frag} {U0 : Hp} {ms : List Addr} {He0 : Hp} {S S' : Sl} {as : List Addr} {ws : List (Dat × Dat)} {σ σ' : L2.St} {H H' U He He' : Hp} {a D : Addr} {w : Dat × Dat} {k j : Nat}
theorem At.ne (A : At K U0 ms He0 S as ws σ H U He) (hl : as.length = ws.length) (n : U D = none) (h : as[k]? = some a) : a ≠ D := fun z => by
  obtain ⟨w, hw⟩ : ∃ w, ws[k]? = some w := ⟨_, List.getElem?_eq_getElem (by have := (List.getElem?_eq_some_iff.mp h).1; omega)⟩
  obtain ⟨_, o, e, _⟩ := A.obs k a w h hw
  rw [z, n] at e; cases e
theorem At.zero (A : At K U0 ms He0 S as ws σ H U He) (n : U D = none) : U0 D = none := by
  cases e : U0 D with
  | none => rfl
  | some z => have := A.over D (by rw [e]; simp); rw [n, e] at this; cases this
/-- a list that stands beside -/
structure Side (U0 : Hp) (as : List Addr) (U He : Hp) (D : Addr) (vs : List V) : Prop where
  u : U D = some (.lst vs)
  he : He D = none
  z : U0 D = none
  n : ∀ k : Nat, as[k]? ≠ some D
theorem At.newD (A : At K U0 ms He0 S as ws σ H U He) (hl : as.length = ws.length) (hp : H D = none) : At K U0 ms He0 S as ws σ (L2.upd H D (.lst [])) (L2.upd U D (.lst [])) He ∧ Side U0 as (L2.upd U D (.lst [])) He D [] := by
  have R1 := (ext_fresh (o := HO.lst []) A.R.data hp).rel A.R
  have F : Fresh K U He S σ (L2.upd H D (.lst [])) (.ref D) (.l []) := fresh_laid A.R hp ⟨[], rfl, .nil⟩
  obtain ⟨a, o, e, n1, n2, n3, n4, R2⟩ := R1.promote F
  cases e
  rw [upd_same] at n2
  cases n2
  have z0 := A.zero n1
  have ne : ∀ (k : Nat) (a : Addr), as[k]? = some a → a ≠ D := fun k a h => A.ne hl n1 h
  refine ⟨⟨R2, fun b h => ?_, A.out, A.nd, fun k a w h1 h2 => ?_, A.grow, A.mu⟩, upd_same, n4, z0, fun k h => ne k D h rfl⟩
  · rw [upd_ne (fun (z : b = D) => h (by rw [z]; exact z0))]; exact A.over b h
  · obtain ⟨q1, o, q2, q3⟩ := A.obs k a w h1 h2
    exact ⟨q1, o, by rw [upd_ne (ne k a h1)]; exact q2, q3⟩
theorem At.updD {vs us : List V} (A : At K U0 ms He0 S as ws σ H U He) (B : Side U0 as U He D vs) : At K U0 ms He0 S as ws σ (L2.upd H D (.lst us)) (L2.upd U D (.lst us)) He ∧ Side U0 as (L2.upd U D (.lst us)) He D us := by
  have nm : D ∉ ms := fun m => A.mu D m B.z
  have ne : ∀ (k : Nat) (a : Addr), as[k]? = some a → a ≠ D := fun k a h z => B.n k (by rw [← z]; exact h)
  have neO : ∀ {b : Addr} {sv : SV} {c : Ct}, sv.own = some c → OwnAt K U ms He H b sv c → b ≠ D := fun {b sv c} hc O z => by
    subst z
    cases sv with
    | no => cases hc
    | d x => cases hc
    | o c => have := O.u ⟨c, rfl⟩; rw [B.u] at this; cases this
    | m k c => exact nm (List.mem_of_getElem? (O.m k c rfl))
  refine ⟨⟨?_, fun b h => ?_, A.out, A.nd, fun k a w h1 h2 => ?_, A.grow, A.mu⟩, upd_same, B.he, B.z, B.n⟩
  · exact {
      len := A.R.len
      at_ := fun i sv e => by
        obtain ⟨ov, e1, q⟩ := A.R.at_ i sv e
        refine ⟨ov, e1, ?_⟩
        have own : ∀ {b : Addr} {c : Ct}, sv.own = some c → OwnAt K U ms He H b sv c → OwnAt K (L2.upd U D (.lst us)) ms He (L2.upd H D (.lst us)) b sv c := fun {b c} hc O => by
          have nb := neO hc O
          obtain ⟨o, g, ca⟩ := O.at_
          exact ⟨⟨o, by rw [upd_ne nb]; exact g, ca⟩, O.he, fun z => by rw [upd_ne nb]; exact O.u z, O.m⟩
        cases sv with
        | no => trivial
        | d x => exact q
        | o c => obtain ⟨b, e2, O⟩ := q; exact ⟨b, e2, own rfl O⟩
        | m k c => obtain ⟨b, e2, O⟩ := q; exact ⟨b, e2, own rfl O⟩
      sep := A.R.sep
      frame := fun b o e n => by
        by_cases z : b = D
        · subst z; rw [upd_same] at e ⊢; exact e
        · rw [upd_ne z] at e ⊢; exact A.R.frame b o e n
      used := fun b u => by
        by_cases z : b = D
        · subst z; rw [upd_same]; simp
        · rw [upd_ne z] at u ⊢; exact A.R.used b u
      data := fun b o e => by
        rw [upd_ne (fun z => by rw [z, B.he] at e; cases e)]
        exact A.R.data b o e
      mu := fun b m => by
        rw [upd_ne (fun (z : b = D) => nm (by rw [← z]; exact m))]
        exact A.R.mu b m }
  · rw [upd_ne (fun (z : b = D) => h (by rw [z]; exact B.z))]; exact A.over b h
  · obtain ⟨q1, o, q2, q3⟩ := A.obs k a w h1 h2
    exact ⟨q1, o, by rw [upd_ne (ne k a h1)]; exact q2, q3⟩
/-- .. becomes data -/
theorem At.endD {vs : List V} {xs : List Dat} (A : At K U0 ms He0 S as ws σ H U He) (B : Side U0 as U He D vs) (d : DpAll K He vs xs) (hl : as.length = ws.length) : ∃ U' He', At K U0 ms He0 S as ws σ H U' He' ∧ Dp K He' (.ref D) (.list xs) := by
  have nm : D ∉ ms := fun m => A.mu D m B.z
  have R1 : Rel K (delH U D) ms He S σ H := A.R.lessU (fun b h => by
    by_cases z : b = D
    · subst z; exact absurd del_same h
    · exact (del_ne z).symm) (fun b m => by
      rw [del_ne (fun (z : b = D) => nm (by rw [← z]; exact m))]
      exact A.R.mu b m)
  have F : Fresh K (delH U D) He S σ H (.ref D) (.l xs) := ⟨⟨D, .lst vs, rfl, A.R.frame D _ B.u nm, ⟨vs, rfl, d⟩, B.he, del_same⟩, fun i sv ci s1 s2 s3 => by
    obtain ⟨b, e1, O⟩ := A.R.own s1 s2
    rw [e1] at s3
    have : b = D := V.ref.inj (Option.some.inj (Option.some.inj s3))
    subst this
    cases sv with
    | no => cases s2
    | d x => cases s2
    | o c => have := O.u ⟨c, rfl⟩; rw [B.u] at this; cases this
    | m k c => exact nm (List.mem_of_getElem? (O.m k c rfl))⟩
  obtain ⟨He2, G2, d2, R2⟩ := R1.freezeF F
  have A1 : At K U0 ms He0 S as ws σ H (delH U D) He := ⟨R1, fun b h => by rw [del_ne (fun (z : b = D) => h (by rw [z]; exact B.z))]; exact A.over b h, A.out, A.nd, fun k a w h1 h2 => by
    obtain ⟨q1, o, q2, q3⟩ := A.obs k a w h1 h2
    exact ⟨q1, o, by rw [del_ne (fun (z : a = D) => B.n k (by rw [← z]; exact h1))]; exact q2, q3⟩, A.grow, A.mu⟩
  exact ⟨_, He2, A1.next hl G2 R2, d2⟩
theorem At.list {i : Nat} (A : At K U0 ms He0 S as ws σ H U He) (hS : S[i]? = some (.o (.w as))) : ∃ p, σ[i]? = some (some (.ref p)) ∧ H p = some (.lst (as.map V.ref)) ∧ ∀ as' : List Addr, Rel K U ms He (putV S i (.w as')) σ (L2.upd H p (.lst (as'.map V.ref))) := by
  obtain ⟨p, e1, O⟩ := A.R.own hS rfl
  obtain ⟨o, g, c⟩ := O.at_
  have c : o = .lst (as.map V.ref) := c
  subst c
  refine ⟨p, e1, g, fun as' => ?_⟩
  unfold putV
  rw [hS]
  exact A.R.upd (c' := .w as') hS rfl e1 rfl
theorem set_no {S : Sl} {j : Nat} (h : S[j]? = some .no) : S.set j .no = S := set_back h
theorem wipe_set {σ : L2.St} {j : Nat} {x : V} : wipe ((wipe σ [j]).set j (some x)) [j] = wipe σ [j] := by
  show (((σ.set j none).set j (some x)).set j none) = σ.set j none
  rw [List.set_set, List.set_set]
theorem wipe_back {σ : L2.St} {j : Nat} {ov : Option V} (h : σ[j]? = some ov) : (wipe σ [j]).set j ov = σ := by
  show (σ.set j none).set j ov = σ
  rw [List.set_set, set_back h]
theorem At.setNo {ov : Option V} (A : At K U0 ms He0 S as ws σ H U He) (hS : S[j]? = some .no) : At K U0 ms He0 S as ws (σ.set j ov) H U He :=
  ⟨by have := A.R.setNo (i := j) (ov := ov); rwa [set_no hS] at this, A.over, A.out, A.nd, A.obs, A.grow, A.mu⟩
/-- [e for w in walks] -/
theorem comp_at {i : Nat} {me : M Dat} {f : Dat × Dat → Dat} {Q : VK} (A : At K U0 ms He0 S as ws σ H U He) (hl : as.length = ws.length) (small : as.length ≤ 100) (hS : S[i]? = some (.o (.w as))) (hj : S[j]? = some .no)
    (he : ∀ w ∈ ws, me (S.set j (.o (.ob w.1 w.2))) = some (f w, S.set j (.o (.ob w.1 w.2)))) (q : ∀ D H' U' He', At K U0 ms He0 S as ws σ H' U' He' → Dp K He' (.ref D) (.list (ws.map f)) → Q (.ref D) H') :
    tLc (iList K (tVar i)) (gName j) L2.tYes (tM K me) [j] σ H Q := by
  obtain ⟨p, e1, g, _⟩ := A.list hS
  refine ⟨_, e1, p, rfl, ⟨_, SqL.of g⟩, fun D hD => ?_⟩
  have hjl : j < σ.length := by rw [← A.R.len]; exact (List.getElem?_eq_some_iff.mp hj).1
  have hjS : j < S.length := (List.getElem?_eq_some_iff.mp hj).1
  obtain ⟨ov, hov⟩ : ∃ ov, σ[j]? = some ov := ⟨_, List.getElem?_eq_getElem hjl⟩
  have hij : i ≠ j := fun z => by rw [z, hj] at hS; cases hS
  obtain ⟨A1, B1⟩ := A.newD hl hD
  have A1' : At K U0 ms He0 S as ws (wipe σ [j]) _ _ _ := A1.setNo (ov := none) hj
  refine lc_list (K := K) (a := p) (xs := as.map V.ref) (fun k H => ∃ U He vs, At K U0 ms He0 S as ws (wipe σ [j]) H U He ∧ Side U0 as U He D vs ∧ DpAll K He vs ((ws.take k).map f) ∧ vs.length = k) ⟨_, _, [], A1', B1, .nil, rfl⟩ (fun k H _ ⟨U, He, vs, A2, _⟩ => ?_) (fun k x H hx ⟨U, He, vs, A2, B2, d2, len⟩ => ?_) (fun H ⟨U, He, vs, A2, B2, d2, len⟩ => ?_)
  · obtain ⟨p', e2, g2, _⟩ := A2.list hS
    have : (wipe σ [j])[i]? = σ[i]? := wipe_out (by simp [hij])
    rw [this, e1] at e2
    cases e2
    exact SqL.of g2
  · rw [List.getElem?_map] at hx
    cases ha : as[k]? with
    | none => rw [ha] at hx; cases hx
    | some a =>
      rw [ha] at hx
      have ex : V.ref a = x := Option.some.inj hx
      subst ex
      have hk := (List.getElem?_eq_some_iff.mp ha).1
      have hwk : ws[k]? = some ws[k] := List.getElem?_eq_getElem (by omega)
      refine ⟨wipe_set, ?_⟩
      unfold L2.tYes
      dsimp only
      rw [if_pos rfl]
      have T := A2.take (j := j) ha hwk
      refine ⟨_, ms, He, _, _, _, T, he _ (List.getElem_mem (by omega)), fun y H4 He4 G4 R4 dy => ?_⟩
      obtain ⟨o, A3⟩ := A2.put (j := j) (t' := ws[k].1) (p' := ws[k].2) hl ha G4 R4 (List.getElem?_set_self hjS) (List.getElem?_set_self (by rw [wipe_length]; exact hjl))
      have s1 : (S.set j (.o (.ob ws[k].1 ws[k].2))).set j .no = S := by rw [List.set_set, set_no hj]
      have s2 : ws.set k (ws[k].1, ws[k].2) = ws := set_back hwk
      rw [s1, s2] at A3
      have ne : D ≠ a := fun z => B2.n k (z ▸ ha)
      have B3 : Side U0 as (L2.upd (delH U a) a o) He4 D vs := ⟨by rw [upd_ne ne, del_ne ne]; exact B2.u, G4.new D B2.he (by rw [del_ne ne, B2.u]; simp), B2.z, B2.n⟩
      have nm : D ∉ ms := fun m => A3.mu D m B3.z
      refine ⟨vs, A3.R.frame D _ B3.u nm, by rw [len, sizeLine_eq]; omega, ?_⟩
      obtain ⟨A4, B4⟩ := A3.updD (us := vs ++ [y]) B3
      have A5 := A4.setNo (ov := none) hj
      have w1 : ((wipe σ [j]).set j (some (V.ref a))).set j none = wipe σ [j] := wipe_set
      rw [w1] at A5
      refine ⟨_, _, vs ++ [y], A5, B4, ?_, by simp [len]⟩
      rw [List.take_add_one, hwk, List.map_append]
      exact dpAll_append (dpAll_mono G4.same d2) (.cons dy .nil)
  · rw [List.length_map] at len d2
    rw [List.take_of_length_le (by omega)] at d2
    obtain ⟨U', He', A3, d3⟩ := A2.endD B2 d2 hl
    have A4 := A3.setNo (ov := ov) hj
    rw [wipe_back hov] at A4
    exact q D H U' He' A4 d3
end
end Rp
set_option Elab.async false
set_option linter.all false
set_option maxRecDepth 100000
/-! Rows of objects: what the law's own statements ask. -/
namespace Rp
open PySem PySem.Spec PyProof.Rows L2

section
variable {K : PySem.W.Frag} {U0 : Hp} {ms : List Addr} {He0 : Hp} {S S' : Sl} {as : List Addr} {ws : List (Dat × Dat)} {σ σ' : L2.St} {H H' U He He' : Hp} {a D : Addr} {w : Dat × Dat} {k j i : Nat} {E : Nat → L2.St → Hp → Prop}
/-- a statement on data -/
theorem st_nx {m : MS} {D : Ends} (A : At K U0 ms He0 S as ws σ H U He) (hl : as.length = ws.length) (e : m S = some (.nx S')) (q : ∀ σ' H' He', At K U0 ms He0 S' as ws σ' H' U He' → D.nx σ' H') : tS K E m D σ H :=
  ⟨U, ms, He, S, _, A.R, e, fun σ' H' He' G R' => q _ _ _ (A.next hl G R')⟩
/-- a test on data -/
theorem tt_at {m : M Bool} {b : Bool} {Q : Bool → Hp → Prop} (A : At K U0 ms He0 S as ws σ H U He) (hl : as.length = ws.length) (e : m S = some (b, S')) (q : ∀ H' He', At K U0 ms He0 S' as ws σ H' U He' → Q b H') : tT K m σ H Q :=
  ⟨U, ms, He, S, b, S', A.R, e, fun H' He' G R' => q _ _ (A.next hl G R')⟩
/-- an expression on data -/
theorem tm_at {m : M Dat} {x : Dat} {Q : VK} (A : At K U0 ms He0 S as ws σ H U He) (hl : as.length = ws.length) (e : m S = some (x, S')) (q : ∀ v H' He', At K U0 ms He0 S' as ws σ H' U He' → Dp K He' v x → Q v H') : tM K m σ H Q :=
  .mk A.R e fun v H' He' G R' d => q _ _ _ (A.next hl G R') d
/-- Walk(e) -/
theorem make_at {m : M Dat} {x : Dat} {Q : VK} (A : At K U0 ms He0 S as ws σ H U He) (hl : as.length = ws.length) (e : m S = some (x, S')) (q : ∀ a H' U' He', (∀ k : Nat, as[k]? ≠ some a) → At K U0 ms He0 S' (as ++ [a]) (ws ++ [(x, .int 0)]) σ H' U' He' → Q (.ref a) H') : tF K (mMake m) σ H Q := by
  refine ⟨U, ms, He, S, .ob x (.int 0), S', A.R, ?_, fun v H' He' G R' F => ?_⟩
  · show (match m S with
      | some (x, S1) => some (Ct.ob x (.int 0), S1)
      | none => none) = _
    rw [e]
  · obtain ⟨a, o, rfl, no, B⟩ := (A.next hl G R').make hl F
    exact q a H' _ He' no B
/-- [Walk(e1), Walk(e2), Walk(e3)] into slot i -/
theorem mk3_at {m1 m2 m3 : M Dat} {x1 x2 x3 : Dat} {S1 S2 S3 : Sl} {D : Ends} (A : At K U0 ms He0 S [] [] σ H U He) (e1 : m1 S = some (x1, S1)) (e2 : m2 S1 = some (x2, S2)) (e3 : m3 S2 = some (x3, S3))
    (q : ∀ as σ' H' U' He', as.length = 3 → At K U0 ms He0 (S3.set i (.o (.w as))) as [(x1, .int 0), (x2, .int 0), (x3, .int 0)] σ' H' U' He' → D.nx σ' H') :
    tAsg (tLst (tCons (tF K (mMake m1)) (tCons (tF K (mMake m2)) (tCons (tF K (mMake m3)) tNil)))) (gName i) D σ H := by
  refine make_at A rfl e1 fun a H1 U1 He1 _ A1 => make_at A1 rfl e2 fun b H2 U2 He2 _ A2 => make_at A2 rfl e3 fun c H3 U3 He3 _ A3 => ⟨by show 3 ≤ _; rw [sizeLine_eq]; decide, fun p hp => ?_⟩
  have A3 : At K U0 ms He0 S3 [a, b, c] [(x1, .int 0), (x2, .int 0), (x3, .int 0)] σ H3 U3 He3 := A3
  have F : Fresh K U3 He3 S3 σ (L2.upd H3 p (.lst [.ref a, .ref b, .ref c])) (.ref p) (.w [a, b, c]) := fresh_laid A3.R hp rfl
  have R1 := (ext_fresh (o := HO.lst [.ref a, .ref b, .ref c]) A3.R.data hp).rel A3.R
  exact q [a, b, c] _ _ U3 He3 rfl ⟨R1.setO F, A3.over, A3.out, A3.nd, A3.obs, A3.grow, A3.mu⟩
theorem putV_self {c c' : Ct} (h : S[i]? = some (.o c)) : putV S i c' = S.set i (.o c') := by
  unfold putV
  rw [h]; rfl
/-- walks[k] = Walk(e) -/
theorem swap_at {m : M Dat} {x : Dat} {kk : Int} {D : Ends} (A : At K U0 ms He0 S as ws σ H U He) (hl : as.length = ws.length) (e : m S = some (x, S')) (hS : S'[i]? = some (.o (.w as))) (hk : ixN as.length kk = some k) (hk2 : k < as.length)
    (q : ∀ as' H' U' He', as'.length = as.length → At K U0 ms He0 (S'.set i (.o (.w as'))) as' (ws.set k (x, .int 0)) σ H' U' He' → D.nx σ H') : tAsg (tF K (mMake m)) (gSub (tVar i) (tC (.int kk)) rSetL) D σ H := by
  refine ⟨U, ms, He, S, .ob x (.int 0), S', A.R, ?_, fun v H1 He1 G R1 F => ?_⟩
  · show (match m S with
      | some (x, S1) => some (Ct.ob x (.int 0), S1)
      | none => none) = _
    rw [e]
  · have A1 := A.next hl G R1
    obtain ⟨p, s1, g, _⟩ := A1.list hS
    obtain ⟨a, o, rfl, B⟩ := A1.swap hl hk2 F
    have up : Rel K (L2.upd U a o) ms He1 (putV S' i (.w (as.set k a))) σ (L2.upd H1 p (.lst ((as.set k a).map V.ref))) := by
      obtain ⟨p', e1, O⟩ := B.R.own hS rfl
      rw [s1] at e1
      cases e1
      unfold putV
      rw [hS]
      exact B.R.upd (c' := .w (as.set k a)) hS rfl s1 rfl
    rw [putV_self hS] at up
    refine ⟨_, s1, p, _, kk, k, rfl, rfl, g, by rw [List.length_map]; exact hk, ?_⟩
    rw [List.map_set] at up
    exact q (as.set k a) _ _ He1 (List.length_set ..) ⟨up, B.over, B.out, B.nd, B.obs, B.grow, B.mu⟩
/-- the comprehension against data -/
theorem cmp_at {r : R2} {g : Dat → Dat → Option Dat} {me mb : M Dat} {f : Dat × Dat → Dat} {y z : Dat} {Q : VK} (hg : OpD K r g) (A : At K U0 ms He0 S as ws σ H U He) (hl : as.length = ws.length) (small : as.length ≤ 100) (hS : S[i]? = some (.o (.w as))) (hj : S[j]? = some .no)
    (he : ∀ w ∈ ws, me (S.set j (.o (.ob w.1 w.2))) = some (f w, S.set j (.o (.ob w.1 w.2)))) (eb : mb S = some (y, S')) (hz : g (.list (ws.map f)) y = some z) (q : ∀ v H' U' He', At K U0 ms He0 S' as ws σ H' U' He' → Dp K He' v z → Q v H') :
    tOp r (tLc (iList K (tVar i)) (gName j) L2.tYes (tM K me) [j]) (tM K mb) σ H Q := by
  refine comp_at A hl small hS hj he fun D H1 U1 He1 A1 d1 => ?_
  refine .mk A1.R eb fun w H2 He2 G R2 d2 => ?_
  have A2 := A1.next hl G R2
  refine hg He2 H2 (.ref D) w _ y z Q A2.R.data (dp_mono G.same d1) d2 hz fun u H3 He3 E3 d3 => ?_
  exact q u H3 U1 He3 (A2.next hl (E3.grow A2.R) (E3.rel A2.R)) d3
theorem ca_data {U1 He1 : Hp} {S1 : Sl} {σ1 : L2.St} {H1 : Hp} : ∀ {vs : List V} {xs : List Dat}, DpAll K He1 vs xs → Paired (CaAt K U1 He1 S1 σ1 H1) vs (xs.map CA.d)
  | _, _, .nil => .nil
  | _, _, .cons d q => .cons d (ca_data q)
theorem temps_data : ∀ {vs : List V} {xs : List Dat}, temps vs (xs.map CA.d) = []
  | [], [] => rfl
  | [], _ :: _ => rfl
  | .ref _ :: _, [] => rfl
  | _ :: _, [] => by cases ‹V› <;> rfl
  | v :: vs, x :: xs => by cases v <;> exact temps_data (vs := vs) (xs := xs)
theorem fas_data : ∀ (xs : List Dat), fasOf S (xs.map CA.d) = some (xs.map FA.d)
  | [] => rfl
  | x :: xs => by
    show (match fasOf S (xs.map CA.d) with
      | some fs => some (FA.d x :: fs)
      | none => none) = _
    rw [fas_data xs]; rfl
theorem slots_data : ∀ (xs : List Dat), slotsOf (xs.map CA.d) = []
  | [] => rfl
  | x :: xs => slots_data xs
/-- f(walks[k], ..) -/
theorem call_at {cls : Nat → Value} {F : FF} {xs : List Dat} {vs : List V} {z t' p' : Dat} {Q : VK} {E : XK} (A : At K U0 ms He0 S as ws σ H U He) (hl : as.length = ws.length) (ha : as[k]? = some a) (hw : ws[k]? = some w) (hj : S[j]? = some .no) (hv : DpAll K He vs xs)
    (hF : F (.c (.ob w.1 w.2) :: xs.map FA.d) = some (.d z, [.ob t' p'])) (q : ∀ v H' U' He', At K U0 ms He0 S as (ws.set k (t', p')) σ H' U' He' → Dp K He' v z → Q v H') : spF K cls F (V.ref a :: vs) H Q E := by
  have hjS : j < S.length := (List.getElem?_eq_some_iff.mp hj).1
  have hjl : j < σ.length := by rw [← A.R.len]; exact hjS
  obtain ⟨ov, hov⟩ : ∃ ov, σ[j]? = some ov := ⟨_, List.getElem?_eq_getElem hjl⟩
  have T := A.take (j := j) ha hw
  have s1 : (S.set j (.o (.ob w.1 w.2)))[j]? = some (.o (.ob w.1 w.2)) := List.getElem?_set_self hjS
  refine call_run (as := .c j :: xs.map CA.d) (news := [.ob t' p']) T (.cons (show (σ.set j (some (V.ref a)))[j]? = some (some (V.ref a)) from List.getElem?_set_self hjl) (ca_data hv)) (by
      show (temps vs (xs.map CA.d)).Nodup
      rw [temps_data]; exact List.nodup_nil) (fas := .c (.ob w.1 w.2) :: xs.map FA.d) (by
      show (match faOf _ (.c j) with
        | some f => match fasOf _ (xs.map CA.d) with
          | some fs => some (f :: fs)
          | none => none
        | none => none) = _
      have : faOf (S.set j (.o (.ob w.1 w.2))) (.c j) = some (.c (.ob w.1 w.2)) := by
        show (match (S.set j (.o (.ob w.1 w.2)))[j]? with
          | some sv => match sv.own with
            | some ct => some (FA.c ct)
            | none => none
          | none => none) = _
        rw [s1]; rfl
      rw [this, fas_data]) (by
      show ((some j :: slotsOf (xs.map CA.d)).filterMap id).Nodup
      rw [slots_data]; simp) hF (fun v H' He' G R' d => ?_) (fun n hr => nomatch hr)
  have es : putN (S.set j (.o (.ob w.1 w.2))) (slotsOf (.c j :: xs.map CA.d)) [.ob t' p'] = S.set j (.o (.ob t' p')) := by
    show putN _ (some j :: slotsOf (xs.map CA.d)) _ = _
    rw [slots_data]
    show putN (match (S.set j (.o (.ob w.1 w.2)))[j]? with | some sv => (S.set j (.o (.ob w.1 w.2))).set j (sv.put (.ob t' p')) | none => _) [] [] = _
    rw [s1]
    show (S.set j _).set j _ = _
    rw [List.set_set]; rfl
  rw [es] at R'
  obtain ⟨o, B⟩ := A.put (j := j) (t' := t') (p' := p') hl ha G R' (List.getElem?_set_self hjS) (List.getElem?_set_self hjl)
  rw [List.set_set, set_no hj] at B
  have B := B.setNo (ov := ov) hj
  rw [List.set_set, set_back hov] at B
  exact q v H' _ He' B d
/-- x, y = data -/
theorem tgt_at {g : TG} {gd : Dat → Sl → Option Sl} {v : V} {x : Dat} {D : Ends} (ht : TgD K g gd) (A : At K U0 ms He0 S as ws σ H U He) (hl : as.length = ws.length) (d : Dp K He v x) (e : gd x S = some S') (q : ∀ σ', At K U0 ms He0 S' as ws σ' H U He → D.nx σ' H) : g v σ H D.nx :=
  ht U ms He S S' σ H v x D.nx A.R d e fun σ' R' => q σ' (A.next hl (.refl _ _) R')
theorem At.rebase (A : At K U0 ms He0 S as ws σ H U He) : At K U0 ms He S as ws σ H U He := ⟨A.R, A.over, A.out, A.nd, A.obs, .refl _ _, A.mu⟩
theorem At.unbase {He1 : Hp} (A : At K U0 ms He1 S as ws σ H U He) (G : Grow U0 He0 He1) : At K U0 ms He0 S as ws σ H U He := ⟨A.R, A.over, A.out, A.nd, A.obs, G.trans A.grow, A.mu⟩
/-- for v in data -/
theorem for_at {wi : TI} {src : M (List Dat)} {tb : TS} {D : Ends} {xs : List Dat} {S1 : Sl} {Iv : Nat → Sl → List Addr → List (Dat × Dat) → Prop} (A : At K U0 ms He0 S as ws σ H U He) (hl : as.length = ws.length) (hw : Src K wi src) (e : src S = some (xs, S1)) (i0 : Iv 0 S1 as ws)
    (len : ∀ n S as ws, Iv n S as ws → as.length = ws.length)
    (step : ∀ He1 n x S as ws σ H U He D', xs[n]? = some x → Iv n S as ws → At K U0 ms He1 (S.set i (.d x)) as ws σ H U He → (∀ S' as' ws' σ' H' U' He', Iv (n + 1) S' as' ws' → At K U0 ms He1 S' as' ws' σ' H' U' He' → D'.nx σ' H') → tb D' σ H)
    (fin : ∀ S as ws σ H U He, Iv xs.length S as ws → At K U0 ms He0 S as ws σ H U He → D.nx σ H) : tFor wi (gName i) tb D σ H := by
  refine hw σ H _ U ms He S S1 xs A.R e fun J H1 He1 G R1 Wk => ?_
  have A1 := A.next hl G R1
  refine ⟨fun n m σ' H' => m = xs.length - n ∧ n ≤ xs.length ∧ ∃ S' as' ws' U' He', Iv n S' as' ws' ∧ At K U0 ms He1 S' as' ws' σ' H' U' He', ⟨xs.length, by simp, Nat.zero_le _, S1, as, ws, U, He1, i0, A1.rebase⟩, fun n m σ' H' ⟨hm, hn, S', as', ws', U', He', iv, A'⟩ => ?_⟩
  have same : Same He1 He' := A'.grow.same
  have sH : Same He1 H' := same.trans A'.R.data
  by_cases lt : n < xs.length
  · refine .inr ⟨Wk.go n H' sH lt, fun σ2 H2 => n + 1 ≤ xs.length ∧ ∃ S' as' ws' U' He', Iv (n + 1) S' as' ws' ∧ At K U0 ms He1 S' as' ws' σ2 H2 U' He', fun σ2 H2 z => ⟨xs.length - (n + 1), by omega, rfl, z.1, z.2⟩, fun v H2 y => ?_⟩
    obtain ⟨rfl, x, hx, dx⟩ := Wk.yld n H' v H2 sH lt y
    have B : At K U0 ms He1 (S'.set i (.d x)) as' ws' (σ'.set i (some v)) H2 U' He' := A'.next (len _ _ _ _ iv) (.refl _ _) (A'.R.setD (dp_mono same dx))
    exact step He1 n x S' as' ws' _ H2 U' He' _ hx iv B fun S2 as2 ws2 σ2 H3 U2 He2 iv2 A2 => ⟨lt, S2, as2, ws2, U2, He2, iv2, A2⟩
  · have : n = xs.length := by omega
    subst this
    exact .inl ⟨Wk.stop _ H' sH rfl, fin _ _ _ _ _ _ _ iv (A'.unbase A1.grow)⟩
/-- the comprehension against a list that stays its slot's -/
theorem cmp_at2 {r : R2} {g : Dat → Dat → Option Dat} {me : M Dat} {f : Dat × Dat → Dat} {i2 : Nat} {ys : List Dat} {b : Bool} {Q : VK} (hg : OpD K r g) (A : At K U0 ms He0 S as ws σ H U He) (hl : as.length = ws.length) (small : as.length ≤ 100) (hS : S[i]? = some (.o (.w as))) (hj : S[j]? = some .no)
    (he : ∀ w ∈ ws, me (S.set j (.o (.ob w.1 w.2))) = some (f w, S.set j (.o (.ob w.1 w.2)))) (h2 : S[i2]? = some (.o (.l ys))) (hz : g (.list (ws.map f)) (.list ys) = some (.bool b)) (q : ∀ H' U' He', At K U0 ms He0 S as ws σ H' U' He' → Q (.bl b) H') :
    tOp r (tLc (iList K (tVar i)) (gName j) L2.tYes (tM K me) [j]) (tVar i2) σ H Q := by
  refine comp_at A hl small hS hj he fun D H1 U1 He1 A1 d1 => ?_
  obtain ⟨p, e1, O⟩ := A1.R.own h2 rfl
  obtain ⟨o, gp, vs, rfl, dv⟩ := O.at_
  have hs : Same He1 (L2.upd He1 p (.lst vs)) := fun c u e => by
    rw [upd_ne (fun z => by rw [z, O.he] at e; cases e)]; exact e
  have hs2 : Same (L2.upd He1 p (.lst vs)) H1 := fun c u e => by
    by_cases z : c = p
    · subst z; rw [upd_same] at e; rw [← e]; exact gp
    · rw [upd_ne z] at e; exact A1.R.data c u e
  refine ⟨_, e1, ?_⟩
  refine hg (L2.upd He1 p (.lst vs)) H1 (.ref D) (.ref p) _ _ _ Q hs2 (dp_mono hs d1) (.lst (SqL.of upd_same) (dpAll_mono hs dv)) hz fun u H2 He2 E2 d2 => ?_
  cases d2
  have E3 : Ext He1 H1 He1 H2 := ⟨Same.refl _, A1.R.data.trans E2.same, E2.same, fun a _ h => h⟩
  exact q H2 U1 He1 (A1.next hl (.refl _ _) (E3.rel A1.R))
theorem ca_back {U1 He1 : Hp} {S1 : Sl} {σ1 : L2.St} {H1 : Hp} : ∀ {vs : List V} {xs : List Dat}, Paired (CaAt K U1 He1 S1 σ1 H1) vs (xs.map CA.d) → DpAll K He1 vs xs
  | _, [], .nil => .nil
  | _, x :: xs, .cons d q => .cons d (ca_back q)
theorem Rel.allNo (R : Rel K U ms He S σ H) : Rel K U ms He (List.replicate S.length .no) σ H where
  len := by rw [List.length_replicate]; exact R.len
  at_ := fun i sv e => by
    have h := List.getElem?_eq_some_iff.mp e
    obtain ⟨hi, e2⟩ := h
    rw [List.length_replicate] at hi
    rw [List.getElem_replicate] at e2
    subst e2
    exact ⟨_, List.getElem?_eq_getElem (by rw [← R.len]; exact hi), trivial⟩
  sep := fun i j a si sj ci cj _ h1 _ h3 => by
    obtain ⟨hi, e2⟩ := List.getElem?_eq_some_iff.mp h1
    rw [List.getElem_replicate] at e2
    subst e2
    cases h3
  frame := R.frame
  used := R.used
  data := R.data
  mu := R.mu
end
end Rp
set_option Elab.async false
set_option linter.all false
set_option maxRecDepth 100000
noncomputable section
namespace Rp
open PySem PySem.Spec PyProof.Rows L2
def m_size_of : MS :=
  (sSeq (sIf (Rp.tB (mBin isD (mV 0) (mC .none))) (sRet (mC (.int 0))) sNx)
    (sRet (mIxV 0 (mC (.int 5)))))
def F_size_of : FF := runF 1 1 m_size_of

def m_knot : MS :=
  (sRet (mTup (mCons (mV 0) (mCons (mV 1) (mCons (mV 2) (mCons (mV 3) (mCons (mV 4) (mCons (mBin addD (mBin addD (mCall F_size_of (aCons (mV 1) aNil)) (mC (.int 1))) (mCall F_size_of (aCons (mV 4) aNil))) mNil))))))))
def F_knot : FF := runF 5 5 m_knot

def m_law_cell_at : MS :=
  (sSeq (sIf (Rp.tB (mBin ltD (mV 1) (mLenV 0))) (sRet (mIxV 0 (mV 1))) sNx)
    (sRet (mC (.int 0))))
def F_law_cell_at : FF := runF 2 2 m_law_cell_at

def m_law_whole : MS :=
  (sRet (mAnd (mUn (fun x => some (.bool (isInt x))) (mV 0)) (mNotT (tTr (mUn (fun x => some (.bool (isBool x))) (mV 0))))))
def F_law_whole : FF := runF 1 1 m_law_whole

def m_law_text : MS :=
  (sSeq (sAsg 2 (mC (.str " !\"#$&'()*+,-./0123456789:;<=>?@ABCDEFGHIJKLMNOPQRSTUVWXYZ[\\]^_`")))
    (sSeq (sAsg 2 (mBin addD (mV 2) (mC (.str "abcdefghijklmnopqrstuvwxyz{|}~\n\t"))))
    (sSeq (sAsg 3 (mSl (mBin addD (mV 2) (mV 2)) (mPart (mBin modD (mV 0) (mC (.int 96)))) (mPart (mBin addD (mBin modD (mV 0) (mC (.int 96))) (mV 1)))))
    (sSeq (sIf (Rp.tB (mBin eqD (mBin modD (mBin fdivD (mV 0) (mC (.int 96))) (mC (.int 3))) (mC (.int 1)))) (sAsg 3 (mBin addD (mBin addD (mV 3) (mBin mulD (mSl (mV 3) (mPart (mUn negD (mC (.int 1)))) mNo) (mC (.int 3)))) (mSl (mV 3) mNo (mPart (mC (.int 9)))))) sNx)
    (sRetV 3)))))
def F_law_text : FF := runF 2 4 m_law_text

def m_law_thing : MS :=
  (sSeq (sAsg 1 (mBin modD (mV 0) (mC (.int 12))))
    (sSeq (sAsg 2 (mBin modD (mBin fdivD (mV 0) (mC (.int 12))) (mC (.int 90))))
    (sSeq (sIf (Rp.tB (mBin eqD (mV 1) (mC (.int 0)))) (sRet (mCall F_law_text (aCons (mBin fdivD (mV 0) (mC (.int 12))) (aCons (mV 2) aNil)))) sNx)
    (sSeq (sIf (Rp.tB (mBin eqD (mV 1) (mC (.int 1)))) (sRet (mBin subD (mBin modD (mBin powD (mV 0) (mC (.int 5))) (mBin powD (mC (.int 10)) (mC (.int 59)))) (mBin powD (mC (.int 10)) (mC (.int 58))))) sNx)
    (sSeq (sIf (Rp.tB (mBin eqD (mV 1) (mC (.int 2)))) (sRet (mApp tuple1 (mCons (mFz (mComp (mRange1 (mBin modD (mV 2) (mC (.int 30)))) 3 Rp.tYes (mBin modD (mBin fdivD (mV 0) (mBin addD (mV 3) (mC (.int 1)))) (mC (.int 9))))) mNil))) sNx)
    (sSeq (sIf (Rp.tB (mBin eqD (mV 1) (mC (.int 3)))) (sSeq (sAsg 4 (mTup (mCons (mBin eqD (mBin modD (mV 0) (mC (.int 2))) (mC (.int 1))) (mCons (mBin modD (mV 0) (mC (.int 3))) mNil))))
    (sSeq (sFor (mRange1 (mBin modD (mV 2) (mC (.int 9)))) (gN 3) (sAsg 4 (mTup (mCons (mV 4) (mCons (mV 3) mNil)))))
    (sRetV 4))) sNx)
    (sSeq (sIf (Rp.tB (mBin eqD (mV 1) (mC (.int 4)))) (sRet (mTup (mCons (mC .none) (mCons (mCall F_law_text (aCons (mBin fdivD (mV 0) (mC (.int 12))) (aCons (mV 2) aNil))) (mCons (mUn negD (mV 2)) (mCons (mTup (mCons (mC (.str "")) (mCons (mTup (mCons (mC .none) mNil)) mNil))) mNil)))))) sNx)
    (sRet (mBin ixD (mFz (mLst (mCons (mC .none) (mCons (mC (.str "")) (mCons (mC (.bool true)) (mCons (mC (.bool false)) (mCons (mC (.int 0)) (mCons (mTup (mCons (mC (.bool true)) (mCons (mTup (mCons (mC (.int 1)) (mCons (mC (.str "x")) mNil))) mNil))) (mCons (mTup mNil) mNil))))))))) (mBin subD (mV 1) (mC (.int 5))))))))))))
def F_law_thing : FF := runF 1 5 m_law_thing

def m_law_rising : MS :=
  (sSeq (sAsg 2 (mBin ixD (mFz (mLst (mCons (mC (.int 1)) (mCons (mC (.int 2)) (mCons (mBin addD (mC (.int 1)) (mBin modD (mBin fdivD (mV 0) (mC (.int 7))) (mC (.int 90)))) (mCons (mBin addD (mC (.int 1)) (mBin modD (mBin fdivD (mV 0) (mC (.int 7))) (mBin powD (mC (.int 10)) (mC (.int 56))))) mNil)))))) (mBin modD (mV 0) (mC (.int 4)))))
    (sSeq (sAsg 3 (mBin ixD (mFz (mLst (mCons (mBin subD (mBin modD (mBin fdivD (mV 0) (mC (.int 4))) (mC (.int 41))) (mC (.int 20))) (mCons (mUn negD (mC (.int 7))) (mCons (mBin subD (mBin modD (mBin fdivD (mV 0) (mC (.int 4))) (mBin powD (mC (.int 10)) (mC (.int 59)))) (mBin mulD (mC (.int 5)) (mBin powD (mC (.int 10)) (mC (.int 58))))) (mCons (mUn negD (mBin powD (mC (.int 10)) (mC (.int 59)))) mNil)))))) (mBin modD (mBin fdivD (mV 0) (mC (.int 5))) (mC (.int 4)))))
    (sSeq (sAsg 4 (mBin modD (mBin fdivD (mV 0) (mC (.int 11))) (mC (.int 9))))
    (sRetF (mComp (mRange1 (mV 1)) 5 Rp.tYes (mTup (mCons (mBin addD (mBin addD (mV 3) (mBin mulD (mV 2) (mV 5))) (mBin fdivD (mBin mulD (mBin mulD (mV 5) (mV 5)) (mV 4)) (mC (.int 7)))) (mCons (mCall F_law_thing (aCons (mBin addD (mV 0) (mV 5)) aNil)) mNil))))))))
def F_law_rising : FF := runF 2 6 m_law_rising

def m_law_bits : MS :=
  (sRetF (mComp (mRange1 (mV 1)) 2 Rp.tYes (mBin modD (mBin fdivD (mBin modD (mBin mulD (mBin addD (mV 0) (mC (.int 1))) (mBin addD (mBin mulD (mV 2) (mC (.int 48271))) (mC (.int 7)))) (mC (.int 65537))) (mC (.int 8))) (mC (.int 2)))))
def F_law_bits : FF := runF 2 3 m_law_bits

def m_law_grown (self : FF) : MS :=
  (sSeq (sAsg 4 (mC (.int 0)))
    (sSeq (sIf (tTrV 0) (sAsg 4 (mPop 0)) sNx)
    (sSeq (sIf (Rp.tAnd (Rp.tB (mBin eqD (mV 2) (mC (.int 0)))) (Rp.tOr (tTrV 3) (Rp.tB (mBin eqD (mV 4) (mC (.int 0)))))) (sRet (mC .none)) sNx)
    (sSeq (sAsg 5 (mAnd (mNotT (tTrV 3)) (mBin eqD (mV 4) (mC (.int 1)))))
    (sSeq (sAsg 6 (mCall self (aSlot 0 (aSlot 1 (aCons (mBin subD (mV 2) (mApp int1 (mCons (mNotT (tTrV 5)) mNil))) (aCons (mV 5) aNil))))))
    (sSeq (sAsg 7 (mPop 1))
    (sSeq (sAsg 8 (mCall self (aSlot 0 (aSlot 1 (aCons (mBin subD (mV 2) (mApp int1 (mCons (mNotT (tTrV 5)) mNil))) (aCons (mV 5) aNil))))))
    (sSeq (sAsg 9 (mC (.int 1)))
    (sSeq (sFor (mItems (mFz (mLst (mCons (mV 6) (mCons (mV 8) mNil))))) (gN 10) (sIf (Rp.tB (mBin isNotD (mV 10) (mC .none))) (sAsg 9 (mBin addD (mV 9) (mIxV 10 (mC (.int 5))))) sNx))
    (sRet (mTup (mCons (mV 5) (mCons (mV 6) (mCons (mIxV 7 (mC (.int 0))) (mCons (mIxV 7 (mC (.int 1))) (mCons (mV 8) (mCons (mV 9) mNil)))))))))))))))))
def R_law_grown : Nat → FF
  | 0 => fun _ => none
  | n + 1 => runF 4 11 (m_law_grown (R_law_grown n))
def F_law_grown : FF := R_law_grown 24

def m_law_many : MS :=
  (sSeq (sIf (Rp.tB (mBin isD (mV 0) (mC .none))) (sRet (mC (.int 0))) sNx)
    (sRet (mIxV 0 (mC (.int 5)))))
def F_law_many : FF := runF 1 1 m_law_many

def m_law_alike (self : FF) : MS :=
  (sSeq (sIf (tTr (mUn (fun x => some (.bool (isTup x))) (mV 1))) (sSeq (sIf (Rp.tOr (Rp.tNot (tTr (mUn (fun x => some (.bool (isTup x))) (mV 0)))) (Rp.tB (mBin neD (mLenV 0) (mLenV 1)))) (sRet (mC (.bool false))) sNx)
    (sRet (mBin eqD (mFz (mComp (mRange1 (mLenV 1)) 2 (Rp.tNot (tTr (mCall self (aCons (mIxV 0 (mV 2)) (aCons (mIxV 1 (mV 2)) aNil))))) (mV 2))) (mFz (mLst mNil))))) sNx)
    (sRet (mAnd (mBin eqD (mUn (fun x => some (.bool (isBool x))) (mV 0)) (mUn (fun x => some (.bool (isBool x))) (mV 1))) (mBin eqD (mV 0) (mV 1)))))
def R_law_alike : Nat → FF
  | 0 => fun _ => none
  | n + 1 => runF 2 3 (m_law_alike (R_law_alike n))
def F_law_alike : FF := R_law_alike 24

def m_knots_to : MS :=
  (sSeq (sAsgF 2 (mLst mNil))
    (sSeq (sWhile (Rp.tB (mBin isNotD (mV 0) (mC .none))) (sSeq (sApp 2 (mV 0))
    (sSeq (sIf (Rp.tB (mBin eqD (mV 1) (mIxV 0 (mC (.int 2))))) (sRetV 2) sNx)
    (sIf (Rp.tB (mBin ltD (mV 1) (mIxV 0 (mC (.int 2))))) (sAsg 0 (mIxV 0 (mC (.int 1)))) (sAsg 0 (mIxV 0 (mC (.int 4))))))))
    (sRetV 2)))
def F_knots_to : FF := runF 2 3 m_knots_to

def m_road_to : MS :=
  (sRetF (mComp (mItems (mFz (mCallF F_knots_to (aCons (mV 0) (aCons (mV 1) aNil))))) 2 Rp.tYes (mIxV 2 (mC (.int 2)))))
def F_road_to : FF := runF 2 3 m_road_to

def m_has_key : MS :=
  (sSeq (sAsgF 2 (mCallF F_knots_to (aCons (mV 0) (aCons (mV 1) aNil))))
    (sRet (mAnd (mBin gtD (mLenV 2) (mC (.int 0))) (mBin eqD (mBin ixD (mIxV 2 (mUn negD (mC (.int 1)))) (mC (.int 2))) (mV 1)))))
def F_has_key : FF := runF 2 3 m_has_key

def m_thing_of : MS :=
  (sSeq (sAsgF 2 (mCallF F_knots_to (aCons (mV 0) (aCons (mV 1) aNil))))
    (sSeq (sIf (Rp.tOr (Rp.tNot (tTrV 2)) (Rp.tB (mBin neD (mBin ixD (mIxV 2 (mUn negD (mC (.int 1)))) (mC (.int 2))) (mV 1)))) (sRaise 1) sNx)
    (sRet (mBin ixD (mIxV 2 (mUn negD (mC (.int 1)))) (mC (.int 3))))))
def F_thing_of : FF := runFX 2 3 m_thing_of

def m_law_tree : MS :=
  (sSeq (sAsg 1 (mApp int1 (mCons (mBin eqD (mBin modD (mBin fdivD (mCall F_law_cell_at (aCons (mV 0) (aCons (mC (.int 1)) aNil))) (mC (.int 65537))) (mC (.int 8))) (mC (.int 1))) mNil)))
    (sSeq (sAsg 2 (mCall F_law_cell_at (aCons (mV 0) (aCons (mC (.int 2)) aNil))))
    (sSeq (sAsg 3 (mBin modD (mBin modD (mV 2) (mC (.int 9))) (mC (.int 4))))
    (sSeq (sAsgF 4 (mCallF F_law_bits (aCons (mCall F_law_cell_at (aCons (mV 0) (aCons (mC (.int 1)) aNil))) (aCons (mBin ixD (mFz (mLst (mCons (mC (.int 700)) (mCons (mC (.int 2500)) mNil)))) (mV 1)) aNil))))
    (sSeq (sIf (Rp.tB (mBin eqD (mBin modD (mV 2) (mC (.int 9))) (mC (.int 8)))) (sAsg 3 (mC (.int 4))) sNx)
    (sSeq (sIf (Rp.tB (mBin eqD (mBin modD (mV 2) (mC (.int 9))) (mC (.int 7)))) (sSeq (sAsg 3 (mC (.int 7)))
    (sAsgF 4 (mSlF (mV 4) mNo (mPart (mC (.int 60)))))) (sIf (Rp.tAnd (Rp.tB (mBin eqD (mV 1) (mC (.int 1)))) (Rp.tB (mBin eqD (mBin modD (mV 2) (mC (.int 3))) (mC (.int 0))))) (sAsg 3 (mC (.int 5))) sNx))
    (sSeq (sAsgF 5 (mCallF F_law_rising (aCons (mCall F_law_cell_at (aCons (mV 0) (aCons (mC (.int 0)) aNil))) (aCons (mBin ixD (mFz (mLst (mCons (mC (.int 260)) (mCons (mC (.int 520)) (mCons (mC (.int 1030)) (mCons (mC (.int 1030)) mNil)))))) (mBin addD (mBin mulD (mV 1) (mC (.int 2))) (mApp int1 (mCons (mBin eqD (mV 3) (mC (.int 7))) mNil)))) aNil))))
    (sSeq (sRev 5)
    (sRet (mCall F_law_grown (aSlot 4 (aSlot 5 (aCons (mV 3) (aCons (mC (.bool true)) aNil))))))))))))))
def F_law_tree : FF := runF 1 6 m_law_tree

def m_law_same : MS :=
  (sSeq (sIf (Rp.tB (mBin neD (mLenV 0) (mLenV 1))) (sRet (mC (.bool false))) sNx)
    (sRet (mBin eqD (mFz (mComp (mRange1 (mLenV 1)) 2 (Rp.tNot (tTr (mCall F_law_alike (aCons (mIxV 0 (mV 2)) (aCons (mIxV 1 (mV 2)) aNil))))) (mV 2))) (mFz (mLst mNil)))))
def F_law_same : FF := runF 2 3 m_law_same

def m_law_road : MS :=
  (sSeq (sAsgF 2 (mLst mNil))
    (sSeq (sWhile (Rp.tB (mBin isNotD (mV 0) (mC .none))) (sSeq (sApp 2 (mIxV 0 (mC (.int 2))))
    (sIf (Rp.tB (mBin ltD (mV 1) (mIxV 0 (mC (.int 2))))) (sAsg 0 (mIxV 0 (mC (.int 1)))) (sIf (Rp.tB (mBin gtD (mV 1) (mIxV 0 (mC (.int 2))))) (sAsg 0 (mIxV 0 (mC (.int 4)))) (sRetV 2)))))
    (sRetV 2)))
def F_law_road : FF := runF 2 3 m_law_road

def m_pairs_of : MS :=
  (sSeq (sAsgF 1 (mLst mNil))
    (sSeq (sAsgF 2 (mLst mNil))
    (sSeq (sWhile (Rp.tOr (Rp.tB (mBin isNotD (mV 0) (mC .none))) (tTrV 2)) (sSeq (sWhile (Rp.tB (mBin isNotD (mV 0) (mC .none))) (sSeq (sApp 2 (mV 0))
    (sAsg 0 (mIxV 0 (mC (.int 1))))))
    (sSeq (sAsg 3 (mPop 2))
    (sSeq (sApp 1 (mTup (mCons (mIxV 3 (mC (.int 2))) (mCons (mIxV 3 (mC (.int 3))) mNil))))
    (sAsg 0 (mIxV 3 (mC (.int 4))))))))
    (sRetV 1))))
def F_pairs_of : FF := runF 1 4 m_pairs_of

def m_pair_at : MS :=
  (sSeq (sIf (Rp.tOr (Rp.tB (mBin ltD (mV 1) (mC (.int 0)))) (Rp.tB (mBin geD (mV 1) (mCall F_size_of (aCons (mV 0) aNil))))) (sRaise 2) sNx)
    (sWhile (tTr (mC (.bool true))) (sSeq (sAsg 2 (mCall F_size_of (aCons (mIxV 0 (mC (.int 1))) aNil)))
    (sSeq (sIf (Rp.tB (mBin eqD (mV 1) (mV 2))) (sRet (mTup (mCons (mIxV 0 (mC (.int 2))) (mCons (mIxV 0 (mC (.int 3))) mNil)))) sNx)
    (sIf (Rp.tB (mBin ltD (mV 1) (mV 2))) (sAsg 0 (mIxV 0 (mC (.int 1)))) (sSeq (sAsg 1 (mBin subD (mBin subD (mV 1) (mV 2)) (mC (.int 1))))
    (sAsg 0 (mIxV 0 (mC (.int 4))))))))))
def F_pair_at : FF := runFX 2 3 m_pair_at

def m_count_below : MS :=
  (sSeq (sAsg 2 (mC (.int 0)))
    (sSeq (sWhile (Rp.tB (mBin isNotD (mV 0) (mC .none))) (sIf (Rp.tB (mBin ltD (mIxV 0 (mC (.int 2))) (mV 1))) (sSeq (sAsg 2 (mBin addD (mBin addD (mV 2) (mCall F_size_of (aCons (mIxV 0 (mC (.int 1))) aNil))) (mC (.int 1))))
    (sAsg 0 (mIxV 0 (mC (.int 4))))) (sAsg 0 (mIxV 0 (mC (.int 1))))))
    (sRetV 2)))
def F_count_below : FF := runF 2 3 m_count_below

def m_law_pair : MS :=
  (sSeq (sIf (Rp.tB (mBin isD (mV 1) (mC .none))) (sRet (mBin isD (mV 0) (mC .none))) sNx)
    (sSeq (sIf (Rp.tOr (Rp.tNot (tTr (mUn (fun x => some (.bool (isTup x))) (mV 0)))) (Rp.tOr (Rp.tB (mBin neD (mLenV 0) (mC (.int 2)))) (Rp.tNot (tTr (mCall F_law_whole (aCons (mIxV 0 (mC (.int 0))) aNil)))))) (sRet (mC (.bool false))) sNx)
    (sRet (mCall F_law_same (aCons (mFz (mLst (mCons (mV 0) mNil))) (aCons (mFz (mLst (mCons (mV 1) mNil))) aNil))))))
def F_law_pair : FF := runF 2 2 m_law_pair

def m_pair_ahead : MS :=
  (sSeq (sAsg 2 (mC .none))
    (sSeq (sWhile (Rp.tB (mBin isNotD (mV 0) (mC .none))) (sIf (Rp.tB (mBin ltD (mIxV 0 (mC (.int 2))) (mV 1))) (sSeq (sAsg 2 (mTup (mCons (mIxV 0 (mC (.int 2))) (mCons (mIxV 0 (mC (.int 3))) mNil))))
    (sAsg 0 (mIxV 0 (mC (.int 4))))) (sAsg 0 (mIxV 0 (mC (.int 1))))))
    (sRetV 2)))
def F_pair_ahead : FF := runF 2 3 m_pair_ahead

def m_pair_behind : MS :=
  (sSeq (sAsg 2 (mC .none))
    (sSeq (sWhile (Rp.tB (mBin isNotD (mV 0) (mC .none))) (sIf (Rp.tB (mBin gtD (mIxV 0 (mC (.int 2))) (mV 1))) (sSeq (sAsg 2 (mTup (mCons (mIxV 0 (mC (.int 2))) (mCons (mIxV 0 (mC (.int 3))) mNil))))
    (sAsg 0 (mIxV 0 (mC (.int 1))))) (sAsg 0 (mIxV 0 (mC (.int 4))))))
    (sRetV 2)))
def F_pair_behind : FF := runF 2 3 m_pair_behind

def m_pairs_between : MS :=
  (sSeq (sAsgF 3 (mLst mNil))
    (sSeq (sFor (mRange2 (mCall F_count_below (aCons (mV 0) (aCons (mV 1) aNil))) (mCall F_count_below (aCons (mV 0) (aCons (mV 2) aNil)))) (gN 4) (sApp 3 (mCall F_pair_at (aCons (mV 0) (aCons (mV 4) aNil)))))
    (sRetV 3)))
def F_pairs_between : FF := runF 3 5 m_pairs_between

def m_unpainted : MS :=
  (sSeq (sIf (Rp.tOr (Rp.tB (mBin isD (mV 0) (mC .none))) (Rp.tNot (tTr (mIxV 0 (mC (.int 0)))))) (sRetV 0) sNx)
    (sRet (mCall F_knot (aCons (mC (.bool false)) (aCons (mIxV 0 (mC (.int 1))) (aCons (mIxV 0 (mC (.int 2))) (aCons (mIxV 0 (mC (.int 3))) (aCons (mIxV 0 (mC (.int 4))) aNil))))))))
def F_unpainted : FF := runF 1 1 m_unpainted

def m_is_painted : MS :=
  (sRet (mAnd (mBin isNotD (mV 0) (mC .none)) (mIxV 0 (mC (.int 0)))))
def F_is_painted : FF := runF 1 1 m_is_painted

def m_rank_of : MS :=
  (sSeq (sAsg 1 (mC (.int 0)))
    (sSeq (sWhile (Rp.tB (mBin isNotD (mV 0) (mC .none))) (sSeq (sIf (Rp.tNot (tTr (mIxV 0 (mC (.int 0))))) (sAsg 1 (mBin addD (mV 1) (mC (.int 1)))) sNx)
    (sAsg 0 (mIxV 0 (mC (.int 1))))))
    (sRetV 1)))
def F_rank_of : FF := runF 1 2 m_rank_of

def m_in_behind (self : FF) : MS :=
  (sSeq (sIf (Rp.tAnd (Rp.tB (mBin eqD (mV 1) (mV 5))) (Rp.tNot (tTr (mCall F_is_painted (aCons (mV 0) aNil))))) (sRet (mCall F_knot (aCons (mC (.bool true)) (aCons (mV 0) (aCons (mV 2) (aCons (mV 3) (aCons (mV 4) aNil))))))) sNx)
    (sSeq (sIf (tTr (mIxV 0 (mC (.int 0)))) (sRet (mCall F_knot (aCons (mC (.bool true)) (aCons (mIxV 0 (mC (.int 1))) (aCons (mIxV 0 (mC (.int 2))) (aCons (mIxV 0 (mC (.int 3))) (aCons (mCall self (aCons (mIxV 0 (mC (.int 4))) (aCons (mV 1) (aCons (mV 2) (aCons (mV 3) (aCons (mV 4) (aCons (mV 5) aNil))))))) aNil))))))) sNx)
    (sSeq (sAsg 6 (mCall self (aCons (mIxV 0 (mC (.int 4))) (aCons (mBin subD (mV 1) (mC (.int 1))) (aCons (mV 2) (aCons (mV 3) (aCons (mV 4) (aCons (mV 5) aNil))))))))
    (sSeq (sIf (Rp.tAnd (tTr (mCall F_is_painted (aCons (mV 6) aNil))) (tTr (mCall F_is_painted (aCons (mIxV 6 (mC (.int 4))) aNil)))) (sSeq (sAsg 7 (mCall F_knot (aCons (mC (.bool false)) (aCons (mIxV 0 (mC (.int 1))) (aCons (mIxV 0 (mC (.int 2))) (aCons (mIxV 0 (mC (.int 3))) (aCons (mIxV 6 (mC (.int 1))) aNil)))))))
    (sRet (mCall F_knot (aCons (mC (.bool true)) (aCons (mV 7) (aCons (mIxV 6 (mC (.int 2))) (aCons (mIxV 6 (mC (.int 3))) (aCons (mCall F_unpainted (aCons (mIxV 6 (mC (.int 4))) aNil)) aNil)))))))) sNx)
    (sRet (mCall F_knot (aCons (mC (.bool false)) (aCons (mIxV 0 (mC (.int 1))) (aCons (mIxV 0 (mC (.int 2))) (aCons (mIxV 0 (mC (.int 3))) (aCons (mV 6) aNil)))))))))))
def R_in_behind : Nat → FF
  | 0 => fun _ => none
  | n + 1 => runF 6 8 (m_in_behind (R_in_behind n))
def F_in_behind : FF := R_in_behind 30

def m_in_ahead (self : FF) : MS :=
  (sSeq (sIf (Rp.tAnd (Rp.tB (mBin eqD (mV 4) (mV 5))) (Rp.tNot (tTr (mCall F_is_painted (aCons (mV 3) aNil))))) (sRet (mCall F_knot (aCons (mC (.bool true)) (aCons (mV 0) (aCons (mV 1) (aCons (mV 2) (aCons (mV 3) aNil))))))) sNx)
    (sSeq (sIf (tTr (mIxV 3 (mC (.int 0)))) (sRet (mCall F_knot (aCons (mC (.bool true)) (aCons (mCall self (aCons (mV 0) (aCons (mV 1) (aCons (mV 2) (aCons (mIxV 3 (mC (.int 1))) (aCons (mV 4) (aCons (mV 5) aNil))))))) (aCons (mIxV 3 (mC (.int 2))) (aCons (mIxV 3 (mC (.int 3))) (aCons (mIxV 3 (mC (.int 4))) aNil))))))) sNx)
    (sSeq (sAsg 6 (mCall self (aCons (mV 0) (aCons (mV 1) (aCons (mV 2) (aCons (mIxV 3 (mC (.int 1))) (aCons (mBin subD (mV 4) (mC (.int 1))) (aCons (mV 5) aNil))))))))
    (sSeq (sIf (Rp.tAnd (tTr (mCall F_is_painted (aCons (mV 6) aNil))) (tTr (mCall F_is_painted (aCons (mIxV 6 (mC (.int 1))) aNil)))) (sSeq (sAsg 7 (mCall F_knot (aCons (mC (.bool false)) (aCons (mIxV 6 (mC (.int 4))) (aCons (mIxV 3 (mC (.int 2))) (aCons (mIxV 3 (mC (.int 3))) (aCons (mIxV 3 (mC (.int 4))) aNil)))))))
    (sRet (mCall F_knot (aCons (mC (.bool true)) (aCons (mCall F_unpainted (aCons (mIxV 6 (mC (.int 1))) aNil)) (aCons (mIxV 6 (mC (.int 2))) (aCons (mIxV 6 (mC (.int 3))) (aCons (mV 7) aNil)))))))) sNx)
    (sRet (mCall F_knot (aCons (mC (.bool false)) (aCons (mV 6) (aCons (mIxV 3 (mC (.int 2))) (aCons (mIxV 3 (mC (.int 3))) (aCons (mIxV 3 (mC (.int 4))) aNil)))))))))))
def R_in_ahead : Nat → FF
  | 0 => fun _ => none
  | n + 1 => runF 6 8 (m_in_ahead (R_in_ahead n))
def F_in_ahead : FF := R_in_ahead 30

def m_put_together : MS :=
  (sSeq (sAsg 4 (mCall F_rank_of (aCons (mV 0) aNil)))
    (sSeq (sAsg 5 (mCall F_rank_of (aCons (mV 3) aNil)))
    (sSeq (sIf (Rp.tB (mBin gtD (mV 4) (mV 5))) (sRet (mCall F_unpainted (aCons (mCall F_in_behind (aCons (mV 0) (aCons (mV 4) (aCons (mV 1) (aCons (mV 2) (aCons (mV 3) (aCons (mV 5) aNil))))))) aNil))) sNx)
    (sSeq (sIf (Rp.tB (mBin ltD (mV 4) (mV 5))) (sRet (mCall F_unpainted (aCons (mCall F_in_ahead (aCons (mV 0) (aCons (mV 1) (aCons (mV 2) (aCons (mV 3) (aCons (mV 5) (aCons (mV 4) aNil))))))) aNil))) sNx)
    (sRet (mCall F_knot (aCons (mC (.bool false)) (aCons (mV 0) (aCons (mV 1) (aCons (mV 2) (aCons (mV 3) aNil)))))))))))
def F_put_together : FF := runF 4 6 m_put_together

def m_joined : MS :=
  (sSeq (sIf (Rp.tAnd (Rp.tB (mBin isNotD (mV 0) (mC .none))) (Rp.tB (mBin geD (mBin ixD (mCall F_pair_at (aCons (mV 0) (aCons (mBin subD (mCall F_size_of (aCons (mV 0) aNil)) (mC (.int 1))) aNil))) (mC (.int 0))) (mV 1)))) (sRaise 3) sNx)
    (sSeq (sIf (Rp.tAnd (Rp.tB (mBin isNotD (mV 3) (mC .none))) (Rp.tB (mBin leD (mBin ixD (mCall F_pair_at (aCons (mV 3) (aCons (mC (.int 0)) aNil))) (mC (.int 0))) (mV 1)))) (sRaise 3) sNx)
    (sRet (mCall F_put_together (aCons (mV 0) (aCons (mV 1) (aCons (mV 2) (aCons (mV 3) aNil))))))))
def F_joined : FF := runFX 4 4 m_joined

def m_cut_at (self : FF) : MS :=
  (sSeq (sIf (Rp.tB (mBin isD (mV 0) (mC .none))) (sRet (mTup (mCons (mC .none) (mCons (mC .none) (mCons (mC .none) mNil))))) sNx)
    (sSeq (sIf (Rp.tB (mBin eqD (mV 1) (mIxV 0 (mC (.int 2))))) (sRet (mTup (mCons (mCall F_unpainted (aCons (mIxV 0 (mC (.int 1))) aNil)) (mCons (mTup (mCons (mIxV 0 (mC (.int 2))) (mCons (mIxV 0 (mC (.int 3))) mNil))) (mCons (mCall F_unpainted (aCons (mIxV 0 (mC (.int 4))) aNil)) mNil))))) sNx)
    (sSeq (sIf (Rp.tB (mBin ltD (mV 1) (mIxV 0 (mC (.int 2))))) (sSeq (sUnp [2, 3, 4] (mCall self (aCons (mIxV 0 (mC (.int 1))) (aCons (mV 1) aNil))))
    (sRet (mTup (mCons (mV 2) (mCons (mV 3) (mCons (mCall F_put_together (aCons (mV 4) (aCons (mIxV 0 (mC (.int 2))) (aCons (mIxV 0 (mC (.int 3))) (aCons (mCall F_unpainted (aCons (mIxV 0 (mC (.int 4))) aNil)) aNil))))) mNil)))))) sNx)
    (sSeq (sUnp [2, 3, 4] (mCall self (aCons (mIxV 0 (mC (.int 4))) (aCons (mV 1) aNil))))
    (sRet (mTup (mCons (mCall F_put_together (aCons (mCall F_unpainted (aCons (mIxV 0 (mC (.int 1))) aNil)) (aCons (mIxV 0 (mC (.int 2))) (aCons (mIxV 0 (mC (.int 3))) (aCons (mV 2) aNil))))) (mCons (mV 3) (mCons (mV 4) mNil)))))))))
def R_cut_at : Nat → FF
  | 0 => fun _ => none
  | n + 1 => runF 2 5 (m_cut_at (R_cut_at n))
def F_cut_at : FF := R_cut_at 30

def m_laid : MS :=
  (sSeq (sIf (Rp.tB (mBin isD (mV 0) (mC .none))) (sRetV 1) sNx)
    (sSeq (sIf (Rp.tB (mBin isD (mV 1) (mC .none))) (sRetV 0) sNx)
    (sSeq (sAsg 2 (mCall F_pair_at (aCons (mV 0) (aCons (mBin subD (mCall F_size_of (aCons (mV 0) aNil)) (mC (.int 1))) aNil))))
    (sSeq (sIf (Rp.tB (mBin geD (mIxV 2 (mC (.int 0))) (mBin ixD (mCall F_pair_at (aCons (mV 1) (aCons (mC (.int 0)) aNil))) (mC (.int 0))))) (sRaise 3) sNx)
    (sRet (mCall F_put_together (aCons (mBin ixD (mCall F_cut_at (aCons (mV 0) (aCons (mIxV 2 (mC (.int 0))) aNil))) (mC (.int 0))) (aCons (mIxV 2 (mC (.int 0))) (aCons (mIxV 2 (mC (.int 1))) (aCons (mV 1) aNil))))))))))
def F_laid : FF := runFX 2 3 m_laid

def m_law_seen (self : FF) : MS :=
  (sSeq (sIf (Rp.tB (mBin isD (mV 0) (mC .none))) (sRet (mC (.int 0))) sNx)
    (sSeq (sIf (Rp.tOr (Rp.tNot (tTr (mUn (fun x => some (.bool (isTup x))) (mV 0)))) (Rp.tOr (Rp.tB (mBin neD (mLenV 0) (mC (.int 6)))) (Rp.tNot (tTr (mUn (fun x => some (.bool (isBool x))) (mIxV 0 (mC (.int 0)))))))) (sRet (mUn negD (mC (.int 1)))) sNx)
    (sSeq (sIf (Rp.tOr (Rp.tAnd (tTr (mIxV 0 (mC (.int 0)))) (tTrV 1)) (Rp.tOr (Rp.tNot (tTr (mCall F_law_whole (aCons (mIxV 0 (mC (.int 2))) aNil)))) (Rp.tNot (tTr (mCall F_law_whole (aCons (mIxV 0 (mC (.int 5))) aNil)))))) (sRet (mUn negD (mC (.int 1)))) sNx)
    (sSeq (sAsg 3 (mLenV 2))
    (sSeq (sAsg 4 (mCall self (aCons (mIxV 0 (mC (.int 1))) (aCons (mIxV 0 (mC (.int 0))) (aSlot 2 aNil)))))
    (sSeq (sApp 2 (mTup (mCons (mIxV 0 (mC (.int 2))) (mCons (mIxV 0 (mC (.int 3))) mNil))))
    (sSeq (sAsg 5 (mCall self (aCons (mIxV 0 (mC (.int 4))) (aCons (mIxV 0 (mC (.int 0))) (aSlot 2 aNil)))))
    (sSeq (sIf (Rp.tOr (Rp.tB (mBin ltD (mV 4) (mC (.int 0)))) (Rp.tOr (Rp.tB (mBin neD (mV 4) (mV 5))) (Rp.tB (mBin neD (mIxV 0 (mC (.int 5))) (mBin subD (mLenV 2) (mV 3)))))) (sRet (mUn negD (mC (.int 1)))) sNx)
    (sRet (mBin addD (mV 4) (mApp int1 (mCons (mNotT (tTr (mIxV 0 (mC (.int 0))))) mNil))))))))))))
def R_law_seen : Nat → FF
  | 0 => fun _ => none
  | n + 1 => runF 3 6 (m_law_seen (R_law_seen n))
def F_law_seen : FF := R_law_seen 30

def m_law_sound : MS :=
  (sSeq (sAsgF 2 (mLst mNil))
    (sRet (mAnd (mBin geD (mCall F_law_seen (aCons (mV 0) (aCons (mC (.bool true)) (aSlot 2 aNil)))) (mC (.int 0))) (mCall F_law_same (aCons (mV 2) (aCons (mV 1) aNil))))))
def F_law_sound : FF := runF 2 3 m_law_sound

def m_law_put : MS :=
  (sSeq (sIf (tTrV 4) (sCallX F_joined (aCons (mV 0) (aCons (mV 1) (aCons (mV 2) (aCons (mV 3) aNil)))) kRet) sNx)
    (sCallX F_laid (aCons (mV 0) (aCons (mV 3) aNil)) kRet))
def F_law_put : FF := runFX 5 5 m_law_put

def m_law_key : MS :=
  (sSeq (sIf (Rp.tAnd (Rp.tB (mBin ltD (mV 3) (mC (.int 2)))) (tTrV 0)) (sRet (mBin addD (mBin ixD (mIxV 0 (mBin ixD (mFz (mLst (mCons (mUn negD (mC (.int 1))) (mCons (mBin modD (mV 4) (mLenV 0)) mNil)))) (mV 3))) (mC (.int 0))) (mBin ixD (mFz (mLst (mCons (mC (.int 0)) (mCons (mC (.int 0)) (mCons (mC (.int 1)) mNil))))) (mBin modD (mV 4) (mC (.int 3)))))) sNx)
    (sSeq (sIf (Rp.tAnd (Rp.tOr (Rp.tB (mBin eqD (mV 3) (mC (.int 2)))) (Rp.tB (mBin eqD (mV 3) (mC (.int 3))))) (tTrV 2)) (sRet (mBin subD (mBin ixD (mIxV 2 (mBin ixD (mFz (mLst (mCons (mC (.int 0)) (mCons (mBin modD (mV 4) (mLenV 2)) mNil)))) (mBin subD (mV 3) (mC (.int 2))))) (mC (.int 0))) (mBin ixD (mFz (mLst (mCons (mC (.int 0)) (mCons (mC (.int 0)) (mCons (mC (.int 1)) mNil))))) (mBin modD (mV 4) (mC (.int 3)))))) sNx)
    (sSeq (sIf (Rp.tB (mBin eqD (mV 3) (mC (.int 5)))) (sRet (mBin subD (mBin modD (mV 4) (mBin subD (mBin mulD (mC (.int 2)) (mBin powD (mC (.int 10)) (mC (.int 60)))) (mC (.int 3)))) (mBin subD (mBin powD (mC (.int 10)) (mC (.int 60))) (mC (.int 2))))) sNx)
    (sRetV 1))))
def F_law_key : FF := runF 5 5 m_law_key

def m_law_side : MS :=
  (sSeq (sIf (Rp.tAnd (Rp.tB (mBin eqD (mBin modD (mV 2) (mC (.int 9))) (mC (.int 8)))) (Rp.tB (mBin eqD (mV 3) (mC (.int 4))))) (sRet (mCall F_law_grown (aTmp (mLst mNil) (aSlot 1 (aCons (mC (.int 10)) (aCons (mC (.bool true)) aNil)))))) sNx)
    (sSeq (sIf (Rp.tB (mBin eqD (mBin modD (mV 2) (mC (.int 9))) (mC (.int 8)))) (sRet (mCall F_law_grown (aTmp (mSlK 0 mNo (mPart (mC (.int 40)))) (aSlot 1 (aCons (mC (.int 6)) (aCons (mC (.bool true)) aNil)))))) sNx)
    (sRet (mCall F_law_grown (aSlot 0 (aSlot 1 (aCons (mBin modD (mBin modD (mV 2) (mC (.int 9))) (mBin addD (mV 3) (mC (.int 1)))) (aCons (mC (.bool true)) aNil))))))))
def F_law_side : FF := runF 4 4 m_law_side

def m_put : MS :=
  (sSeq (sUnp [3, 4, 5] (mCall F_cut_at (aCons (mV 0) (aCons (mV 1) aNil))))
    (sRet (mCall F_put_together (aCons (mV 3) (aCons (mV 1) (aCons (mV 2) (aCons (mV 5) aNil)))))))
def F_put : FF := runF 3 6 m_put

def m_taken : MS :=
  (sSeq (sUnp [2, 3, 4] (mCall F_cut_at (aCons (mV 0) (aCons (mV 1) aNil))))
    (sSeq (sIf (Rp.tB (mBin isD (mV 3) (mC .none))) (sRaise 1) sNx)
    (sRet (mCall F_laid (aCons (mV 2) (aCons (mV 4) aNil))))))
def F_taken : FF := runFX 2 5 m_taken

end Rp
end
set_option Elab.async false
set_option linter.all false
set_option maxRecDepth 100000
/-! Trees, and what the program's defs compute of them. -/
noncomputable section
namespace Rp
open PySem PySem.Spec PyProof.Rows L2

/-! ### the combinators at a state: what follows is not looked at before its state is known -/
def bnd {α β : Type} (o : Option (α × Sl)) (f : α → Sl → Option β) : Option β := match o with
  | some (x, S) => f x S
  | none => none
def opt {α : Type} (o : Option α) (S : Sl) : Option (α × Sl) := match o with
  | some z => some (z, S)
  | none => none
section
variable {α β : Type} {x y : Dat} {xs : List Dat} {S S1 : Sl} {i j n k : Nat} {g : Dat → Dat → Option Dat} {g1 : Dat → Option Dat} {a b : M Dat} {mas : M (List Dat)} {ta tb : M Bool} {m1 m2 : MS} {mf : M Ct} {ct ct' : Ct}
@[simp] theorem bnd_some {z : α} {f : α → Sl → Option β} : bnd (some (z, S)) f = f z S := rfl
@[simp] theorem bnd_none {f : α → Sl → Option β} : bnd none f = none := rfl
@[simp] theorem opt_some {z : α} : opt (some z) S = some (z, S) := rfl
@[simp] theorem opt_none : opt (none : Option α) S = none := rfl
@[simp] theorem mC_e : mC x S = some (x, S) := rfl
def vK (i : Nat) (S : Sl) : Option SV → Option (Dat × Sl)
  | some (.d x) => some (x, S)
  | some (.o (.l xs)) => some (.list xs, S.set i (.d (.list xs)))
  | _ => none
@[simp] theorem mV_e : mV i S = vK i S S[i]? := rfl
@[simp] theorem vK_d : vK i S (some (.d x)) = some (x, S) := rfl
@[simp] theorem vK_o : vK i S (some (.o (.l xs))) = some (.list xs, S.set i (.d (.list xs))) := rfl
def binK2 (g : Dat → Dat → Option Dat) (x y : Dat) (S : Sl) : Option (Dat × Sl) := opt (g x y) S
def binK (g : Dat → Dat → Option Dat) (b : M Dat) (x : Dat) (S : Sl) : Option (Dat × Sl) := bnd (b S) (binK2 g x)
@[simp] theorem mBin_e : mBin g a b S = bnd (a S) (binK g b) := by
  unfold mBin bnd binK binK2 opt bnd
  cases a S with
  | none => rfl
  | some p =>
    cases h : b p.2 with
    | none => simp [h]
    | some q => simp only [h]; cases g p.1 q.1 <;> rfl
@[simp] theorem binK_e : binK g b x S = bnd (b S) (binK2 g x) := rfl
@[simp] theorem binK2_e : binK2 g x y S = opt (g x y) S := rfl
def binFK2 (g : Dat → Dat → Option Ct) (x y : Dat) (S : Sl) : Option (Ct × Sl) := opt (g x y) S
def binFK (g : Dat → Dat → Option Ct) (b : M Dat) (x : Dat) (S : Sl) : Option (Ct × Sl) := bnd (b S) (binFK2 g x)
@[simp] theorem mBinF_e {g : Dat → Dat → Option Ct} : mBinF g a b S = bnd (a S) (binFK g b) := by
  unfold mBinF bnd binFK binFK2 opt bnd
  cases a S with
  | none => rfl
  | some p =>
    cases h : b p.2 with
    | none => simp [h]
    | some q => simp only [h]; cases g p.1 q.1 <;> rfl
@[simp] theorem binFK_e {g : Dat → Dat → Option Ct} : binFK g b x S = bnd (b S) (binFK2 g x) := rfl
@[simp] theorem binFK2_e {g : Dat → Dat → Option Ct} : binFK2 g x y S = opt (g x y) S := rfl
def unK (g : Dat → Option Dat) (x : Dat) (S : Sl) : Option (Dat × Sl) := opt (g x) S
@[simp] theorem mUn_e : mUn g1 a S = bnd (a S) (unK g1) := by unfold mUn bnd unK opt; cases a S with
  | none => rfl
  | some p => simp only; cases g1 p.1 <;> rfl
@[simp] theorem unK_e : unK g1 x S = opt (g1 x) S := rfl
@[simp] theorem mNil_e : mNil S = some ([], S) := rfl
def consK2 (x : Dat) (xs : List Dat) (S : Sl) : Option (List Dat × Sl) := some (x :: xs, S)
def consK (m : M (List Dat)) (x : Dat) (S : Sl) : Option (List Dat × Sl) := bnd (m S) (consK2 x)
@[simp] theorem mCons_e : mCons a mas S = bnd (a S) (consK mas) := by
  unfold mCons bnd consK consK2 bnd
  cases a S with
  | none => rfl
  | some p => cases h : mas p.2 <;> simp [h]
@[simp] theorem consK_e : consK mas x S = bnd (mas S) (consK2 x) := rfl
@[simp] theorem consK2_e : consK2 x xs S = some (x :: xs, S) := rfl
def tupK (xs : List Dat) (S : Sl) : Option (Dat × Sl) := if xs.length ≤ 100000 then some (.tuple xs, S) else none
@[simp] theorem mTup_e : mTup mas S = bnd (mas S) tupK := by unfold mTup bnd tupK; cases mas S <;> rfl
@[simp] theorem tupK_e : tupK xs S = if xs.length ≤ 100000 then some (.tuple xs, S) else none := (Eq.refl _).trans (Eq.refl _)
def lstK (xs : List Dat) (S : Sl) : Option (Ct × Sl) := if xs.length ≤ 100000 then some (.l xs, S) else none
@[simp] theorem mLst_e : mLst mas S = bnd (mas S) lstK := by unfold mLst bnd lstK; cases mas S <;> rfl
@[simp] theorem lstK_e : lstK xs S = if xs.length ≤ 100000 then some (.l xs, S) else none := (Eq.refl _).trans (Eq.refl _)
def fzK : Ct → Sl → Option (Dat × Sl)
  | .l xs, S => some (.list xs, S)
  | _, _ => none
@[simp] theorem mFz_e : mFz mf S = bnd (mf S) fzK := by
  unfold mFz bnd fzK
  cases mf S with
  | none => rfl
  | some p => obtain ⟨c, S'⟩ := p; cases c <;> rfl
@[simp] theorem fzK_l : fzK (.l xs) S = some (.list xs, S) := rfl
def tbK : Dat → Sl → Option (Bool × Sl)
  | .bool b, S => some (b, S)
  | _, _ => none
@[simp] theorem tB_e : tB a S = bnd (a S) tbK := by
  unfold tB bnd tbK
  cases a S with
  | none => rfl
  | some p => obtain ⟨c, S'⟩ := p; cases c <;> rfl
@[simp] theorem tbK_b {c : Bool} : tbK (.bool c) S = some (c, S) := rfl
def trK (x : Dat) (S : Sl) : Option (Bool × Sl) := opt (truD x) S
@[simp] theorem tTr_e : tTr a S = bnd (a S) trK := by unfold tTr bnd trK opt; cases a S with
  | none => rfl
  | some p => simp only; cases truD p.1 <;> rfl
@[simp] theorem trK_e : trK x S = opt (truD x) S := rfl
def trvK (S : Sl) : Option SV → Option (Bool × Sl)
  | some (.d x) => opt (truD x) S
  | some (.o (.l xs)) => some (!xs.isEmpty, S)
  | some (.m _ (.l xs)) => some (!xs.isEmpty, S)
  | some (.o (.k xs)) => some (!xs.isEmpty, S)
  | some (.m _ (.k xs)) => some (!xs.isEmpty, S)
  | _ => none
@[simp] theorem tTrV_e : tTrV i S = trvK S S[i]? := by
  unfold tTrV trvK opt
  cases S[i]? with
  | none => rfl
  | some sv => cases sv with
    | no => rfl
    | d x => simp only; cases truD x <;> rfl
    | o c => cases c <;> rfl
    | m k c => cases c <;> rfl
@[simp] theorem trvK_d : trvK S (some (.d x)) = opt (truD x) S := rfl
@[simp] theorem trvK_o : trvK S (some (.o (.l xs))) = some (!xs.isEmpty, S) := rfl
@[simp] theorem trvK_m : trvK S (some (.m n (.l xs))) = some (!xs.isEmpty, S) := rfl
def andK (t : M Bool) : Bool → Sl → Option (Bool × Sl)
  | true, S => t S
  | false, S => some (false, S)
@[simp] theorem tAnd_e : Rp.tAnd ta tb S = bnd (ta S) (andK tb) := by
  unfold Rp.tAnd bnd andK
  cases ta S with
  | none => rfl
  | some p => obtain ⟨c, S'⟩ := p; cases c <;> rfl
@[simp] theorem andK_t : andK tb true S = tb S := rfl
@[simp] theorem andK_f : andK tb false S = some (false, S) := rfl
def orK (t : M Bool) : Bool → Sl → Option (Bool × Sl)
  | false, S => t S
  | true, S => some (true, S)
@[simp] theorem tOr_e : Rp.tOr ta tb S = bnd (ta S) (orK tb) := by
  unfold Rp.tOr bnd orK
  cases ta S with
  | none => rfl
  | some p => obtain ⟨c, S'⟩ := p; cases c <;> rfl
@[simp] theorem orK_f : orK tb false S = tb S := rfl
@[simp] theorem orK_t : orK tb true S = some (true, S) := rfl
def notK (c : Bool) (S : Sl) : Option (Bool × Sl) := some (!c, S)
@[simp] theorem tNot_e : Rp.tNot ta S = bnd (ta S) notK := by unfold Rp.tNot bnd notK; cases ta S <;> rfl
@[simp] theorem notK_e {c : Bool} : notK c S = some (!c, S) := rfl
@[simp] theorem tYes_e : Rp.tYes S = some (true, S) := rfl
def mandK (b : M Dat) : Dat → Sl → Option (Dat × Sl)
  | .bool true, S => b S
  | .bool false, S => some (.bool false, S)
  | _, _ => none
@[simp] theorem mAnd_e : mAnd a b S = bnd (a S) (mandK b) := by
  unfold mAnd bnd mandK
  cases a S with
  | none => rfl
  | some p => obtain ⟨c, S'⟩ := p; cases c <;> (first | rfl | (rename_i z; cases z <;> rfl))
@[simp] theorem mandK_t : mandK b (.bool true) S = b S := rfl
@[simp] theorem mandK_f : mandK b (.bool false) S = some (.bool false, S) := rfl
def morK (b : M Dat) : Dat → Sl → Option (Dat × Sl)
  | .bool false, S => b S
  | .bool true, S => some (.bool true, S)
  | _, _ => none
@[simp] theorem mOr_e : mOr a b S = bnd (a S) (morK b) := by
  unfold mOr bnd morK
  cases a S with
  | none => rfl
  | some p => obtain ⟨c, S'⟩ := p; cases c <;> (first | rfl | (rename_i z; cases z <;> rfl))
@[simp] theorem morK_f : morK b (.bool false) S = b S := rfl
@[simp] theorem morK_t : morK b (.bool true) S = some (.bool true, S) := rfl
def nottK (c : Bool) (S : Sl) : Option (Dat × Sl) := some (.bool (!c), S)
@[simp] theorem mNotT_e : mNotT ta S = bnd (ta S) nottK := by unfold mNotT bnd nottK; cases ta S <;> rfl
@[simp] theorem nottK_e {c : Bool} : nottK c S = some (.bool (!c), S) := rfl
def slK : Option SV → Option Dat
  | some (.d x) => some x
  | some (.o (.l xs)) => some (.list xs)
  | some (.m _ (.l xs)) => some (.list xs)
  | _ => none
@[simp] theorem slotD_e : slotD S i = slK S[i]? := rfl
@[simp] theorem slK_d : slK (some (.d x)) = some x := rfl
@[simp] theorem slK_o : slK (some (.o (.l xs))) = some (.list xs) := rfl
@[simp] theorem slK_m : slK (some (.m n (.l xs))) = some (.list xs) := rfl
def ixvK3 (y : Dat) (S : Sl) : Option Dat → Option (Dat × Sl)
  | some x => opt (ixD x y) S
  | none => none
def ixvK2 (i : Nat) (y : Dat) (S : Sl) : Option (Dat × Sl) := ixvK3 y S (slotD S i)
def ixvK (i : Nat) (a : M Dat) (S : Sl) : Option Dat → Option (Dat × Sl)
  | some _ => bnd (a S) (ixvK2 i)
  | none => none
@[simp] theorem mIxV_e : mIxV i a S = ixvK i a S (slotD S i) := by
  unfold mIxV ixvK ixvK2 ixvK3 bnd opt
  cases slotD S i with
  | none => rfl
  | some x =>
    cases a S with
    | none => rfl
    | some p =>
      cases h : slotD p.2 i with
      | none => simp only [h]
      | some y => simp only [h]; cases ixD y p.1 <;> rfl
@[simp] theorem ixvK_s : ixvK i a S (some x) = bnd (a S) (ixvK2 i) := rfl
@[simp] theorem ixvK2_e : ixvK2 i y S = ixvK3 y S (slotD S i) := rfl
@[simp] theorem ixvK3_s : ixvK3 y S (some x) = opt (ixD x y) S := rfl
def lenK (S : Sl) : Option Dat → Option (Dat × Sl)
  | some x => opt (lenD x) S
  | none => none
@[simp] theorem mLenV_e : mLenV i S = lenK S (slotD S i) := by unfold mLenV lenK opt; cases slotD S i with
  | none => rfl
  | some x => simp only; cases lenD x <;> rfl
@[simp] theorem lenK_s : lenK S (some x) = opt (lenD x) S := rfl
def appK (g : List Dat → Option Dat) (xs : List Dat) (S : Sl) : Option (Dat × Sl) := opt (g xs) S
@[simp] theorem mApp_e {g : List Dat → Option Dat} : mApp g mas S = bnd (mas S) (appK g) := by unfold mApp bnd appK opt; cases mas S with
  | none => rfl
  | some p => simp only; cases g p.1 <;> rfl
@[simp] theorem appK_e {g : List Dat → Option Dat} : appK g xs S = opt (g xs) S := rfl
def appFK (g : List Dat → Option Ct) (xs : List Dat) (S : Sl) : Option (Ct × Sl) := opt (g xs) S
@[simp] theorem mAppF_e {g : List Dat → Option Ct} : mAppF g mas S = bnd (mas S) (appFK g) := by unfold mAppF bnd appFK opt; cases mas S with
  | none => rfl
  | some p => simp only; cases g p.1 <;> rfl
@[simp] theorem appFK_e {g : List Dat → Option Ct} : appFK g xs S = opt (g xs) S := rfl
def lvK : Option SV → Option (List Dat)
  | some (.o (.l xs)) => some xs
  | some (.m _ (.l xs)) => some xs
  | _ => none
@[simp] theorem listV_e : listV S i = lvK S[i]? := rfl
@[simp] theorem lvK_o : lvK (some (.o (.l xs))) = some xs := rfl
@[simp] theorem lvK_m : lvK (some (.m n (.l xs))) = some xs := rfl
def pvK (S : Sl) (i : Nat) (c : Ct) : Option SV → Sl
  | some sv => S.set i (sv.put c)
  | none => S
@[simp] theorem putV_e : putV S i ct = pvK S i ct S[i]? := by unfold putV pvK; cases S[i]? <;> rfl
@[simp] theorem pvK_s {sv : SV} : pvK S i ct (some sv) = S.set i (sv.put ct) := rfl
@[simp] theorem put_o : (SV.o ct).put ct' = .o ct' := rfl
@[simp] theorem put_m : (SV.m n ct).put ct' = .m n ct' := rfl
@[simp] theorem own_o : (SV.o ct).own = some ct := rfl
@[simp] theorem own_m : (SV.m n ct).own = some ct := rfl
def popK2 (i : Nat) (S : Sl) (xs : List Dat) : Option Dat → Option (Dat × Sl)
  | some x => some (x, putV S i (.l xs.dropLast))
  | none => none
def popK (i : Nat) (S : Sl) : Option (List Dat) → Option (Dat × Sl)
  | some xs => popK2 i S xs xs.getLast?
  | none => none
@[simp] theorem mPop_e : mPop i S = popK i S (listV S i) := by
  unfold mPop popK popK2
  cases listV S i with
  | none => rfl
  | some xs => cases xs.getLast? <;> rfl
@[simp] theorem popK_s : popK i S (some xs) = popK2 i S xs xs.getLast? := rfl
@[simp] theorem popK2_s : popK2 i S xs (some x) = some (x, putV S i (.l xs.dropLast)) := rfl
@[simp] theorem aNil_e : aNil S = some ([], S) := rfl
variable {ar : M (List CA)} {F : FF} {as : List CA} {c : CA}
def aconsK2 (c : CA) (xs : List CA) (S : Sl) : Option (List CA × Sl) := some (c :: xs, S)
def aconsK (m : M (List CA)) (x : Dat) (S : Sl) : Option (List CA × Sl) := bnd (m S) (aconsK2 (.d x))
@[simp] theorem aCons_e : aCons a ar S = bnd (a S) (aconsK ar) := by
  unfold aCons bnd aconsK aconsK2 bnd
  cases a S with
  | none => rfl
  | some p => cases h : ar p.2 <;> simp [h]
@[simp] theorem aconsK_e : aconsK ar x S = bnd (ar S) (aconsK2 (.d x)) := rfl
@[simp] theorem aconsK2_e : aconsK2 c as S = some (c :: as, S) := rfl
def aslK (i : Nat) (ar : M (List CA)) (S : Sl) : Option SV → Option (List CA × Sl)
  | some (.o _) => bnd (ar S) (aconsK2 (.c i))
  | some (.m _ _) => bnd (ar S) (aconsK2 (.c i))
  | _ => none
@[simp] theorem aSlot_e : aSlot i ar S = aslK i ar S S[i]? := by
  unfold aSlot aslK bnd aconsK2
  cases S[i]? with
  | none => rfl
  | some sv => cases sv <;> (first | rfl | (simp only [SV.own]; cases ar S <;> rfl))
@[simp] theorem aslK_o : aslK i ar S (some (.o ct)) = bnd (ar S) (aconsK2 (.c i)) := rfl
@[simp] theorem aslK_m : aslK i ar S (some (.m n ct)) = bnd (ar S) (aconsK2 (.c i)) := rfl
def atmpK (ar : M (List CA)) : Ct → Sl → Option (List CA × Sl)
  | .l xs, S => bnd (ar S) (aconsK2 (.t (.l xs)))
  | _, _ => none
@[simp] theorem aTmp_e : aTmp mf ar S = bnd (mf S) (atmpK ar) := by
  unfold aTmp bnd atmpK aconsK2 bnd
  cases mf S with
  | none => rfl
  | some p =>
    obtain ⟨c, S'⟩ := p
    cases c with
    | k kvs => rfl
    | ob _ _ => rfl
    | w _ => rfl
    | l xs => cases h : ar S' <;> simp [h]
@[simp] theorem atmpK_l : atmpK ar (.l xs) S = bnd (ar S) (aconsK2 (.t (.l xs))) := rfl
def callK3 (as : List CA) (S : Sl) : Option (FR × List Ct) → Option (Dat × Sl)
  | some (.d x, news) => some (x, putN S (slotsOf as) news)
  | _ => none
def callK2 (F : FF) (as : List CA) (S : Sl) : Option (List FA) → Option (Dat × Sl)
  | some fas => if ((slotsOf as).filterMap id).Nodup then callK3 as S (F fas) else none
  | none => none
def callK (F : FF) (as : List CA) (S : Sl) : Option (Dat × Sl) := callK2 F as S (fasOf S as)
@[simp] theorem mCall_e : mCall F ar S = bnd (ar S) (callK F) := by
  unfold mCall bnd callK callK2 callK3
  cases ar S with
  | none => rfl
  | some p => cases h : fasOf p.2 p.1 <;> simp [h] <;> rfl
@[simp] theorem callK_e : callK F as S = callK2 F as S (fasOf S as) := rfl
@[simp] theorem callK2_s {fas : List FA} : callK2 F as S (some fas) = if ((slotsOf as).filterMap id).Nodup then callK3 as S (F fas) else none := (Eq.refl _).trans (Eq.refl _)
@[simp] theorem callK3_d {news : List Ct} : callK3 as S (some (.d x, news)) = some (x, putN S (slotsOf as) news) := rfl
def callFK3 (as : List CA) (S : Sl) : Option (FR × List Ct) → Option (Ct × Sl)
  | some (.f c, news) => some (c, putN S (slotsOf as) news)
  | _ => none
def callFK2 (F : FF) (as : List CA) (S : Sl) : Option (List FA) → Option (Ct × Sl)
  | some fas => if ((slotsOf as).filterMap id).Nodup then callFK3 as S (F fas) else none
  | none => none
def callFK (F : FF) (as : List CA) (S : Sl) : Option (Ct × Sl) := callFK2 F as S (fasOf S as)
@[simp] theorem mCallF_e : mCallF F ar S = bnd (ar S) (callFK F) := by
  unfold mCallF bnd callFK callFK2 callFK3
  cases ar S with
  | none => rfl
  | some p => cases h : fasOf p.2 p.1 <;> simp [h] <;> rfl
@[simp] theorem callFK_e : callFK F as S = callFK2 F as S (fasOf S as) := rfl
@[simp] theorem callFK2_s {fas : List FA} : callFK2 F as S (some fas) = if ((slotsOf as).filterMap id).Nodup then callFK3 as S (F fas) else none := (Eq.refl _).trans (Eq.refl _)
@[simp] theorem callFK3_f {news : List Ct} : callFK3 as S (some (.f ct, news)) = some (ct, putN S (slotsOf as) news) := rfl
def fasK : Option FA → Option (List FA) → Option (List FA)
  | some f, some fs => some (f :: fs)
  | _, _ => none
@[simp] theorem fasOf_nil : fasOf S [] = some [] := rfl
@[simp] theorem fasOf_cons : fasOf S (c :: as) = fasK (faOf S c) (fasOf S as) := by
  unfold fasK
  show (match faOf S c with | some f => (match fasOf S as with | some fs => some (f :: fs) | none => none) | none => none) = _
  cases faOf S c <;> (first | rfl | (cases fasOf S as <;> rfl))
@[simp] theorem fasK_s {f : FA} {fs : List FA} : fasK (some f) (some fs) = some (f :: fs) := rfl
def faK : Option SV → Option FA
  | some (.o c) => some (.c c)
  | some (.m _ c) => some (.c c)
  | _ => none
@[simp] theorem faOf_d : faOf S (.d x) = some (.d x) := rfl
@[simp] theorem faOf_t : faOf S (.t ct) = some (.c ct) := rfl
@[simp] theorem faOf_c : faOf S (.c i) = faK S[i]? := by
  unfold faOf faK
  cases h : S[i]? with
  | none => simp [h]
  | some sv => cases sv <;> simp [h, SV.own]
@[simp] theorem faK_o : faK (some (.o ct)) = some (.c ct) := rfl
@[simp] theorem faK_m : faK (some (.m n ct)) = some (.c ct) := rfl
@[simp] theorem slotsOf_nil : slotsOf [] = [] := rfl
@[simp] theorem slotsOf_d : slotsOf (.d x :: as) = slotsOf as := rfl
@[simp] theorem slotsOf_c : slotsOf (.c i :: as) = some i :: slotsOf as := rfl
@[simp] theorem slotsOf_t : slotsOf (.t ct :: as) = none :: slotsOf as := rfl
@[simp] theorem putN_nil {cs : List Ct} : putN S [] cs = S := by cases cs <;> rfl
@[simp] theorem putN_some {is : List (Option Nat)} {cs : List Ct} : putN S (some i :: is) (ct :: cs) = putN (putV S i ct) is cs := rfl
@[simp] theorem putN_none {is : List (Option Nat)} {cs : List Ct} : putN S (none :: is) (ct :: cs) = putN S is cs := rfl
/-! statements -/
@[simp] theorem sNx_e : sNx S = some (.nx S) := rfl
def seqK (m : MS) : Option Out → Option Out
  | some (.nx S) => m S
  | r => r
@[simp] theorem sSeq_e : sSeq m1 m2 S = seqK m2 (m1 S) := rfl
@[simp] theorem seqK_nx : seqK m1 (some (.nx S)) = m1 S := rfl
@[simp] theorem seqK_rt {r : FR} : seqK m1 (some (.rt r S)) = some (.rt r S) := rfl
def asgK (i : Nat) (x : Dat) (S : Sl) : Option Out := some (.nx (S.set i (.d x)))
@[simp] theorem sAsg_e : sAsg i a S = bnd (a S) (asgK i) := by unfold sAsg bnd asgK; cases a S <;> rfl
@[simp] theorem asgK_e : asgK i x S = some (.nx (S.set i (.d x))) := rfl
def asgFK (i : Nat) (x : Ct) (S : Sl) : Option Out := some (.nx (S.set i (.o x)))
@[simp] theorem sAsgF_e : sAsgF i mf S = bnd (mf S) (asgFK i) := by unfold sAsgF bnd asgFK; cases mf S <;> rfl
@[simp] theorem asgFK_e : asgFK i ct S = some (.nx (S.set i (.o ct))) := rfl
def dropK (_ : Dat) (S : Sl) : Option Out := some (.nx S)
@[simp] theorem sDrop_e : sDrop a S = bnd (a S) dropK := by unfold sDrop bnd dropK; cases a S <;> rfl
@[simp] theorem dropK_e : dropK x S = some (.nx S) := rfl
def ifK (a b : MS) : Bool → Sl → Option Out
  | true, S => a S
  | false, S => b S
@[simp] theorem sIf_e : sIf ta m1 m2 S = bnd (ta S) (ifK m1 m2) := by
  unfold sIf bnd ifK
  cases ta S with
  | none => rfl
  | some p => obtain ⟨c, S'⟩ := p; cases c <;> rfl
@[simp] theorem ifK_t : ifK m1 m2 true S = m1 S := rfl
@[simp] theorem ifK_f : ifK m1 m2 false S = m2 S := rfl
def retK (x : Dat) (S : Sl) : Option Out := some (.rt (.d x) S)
@[simp] theorem sRet_e : sRet a S = bnd (a S) retK := by unfold sRet bnd retK; cases a S <;> rfl
@[simp] theorem retK_e : retK x S = some (.rt (.d x) S) := rfl
def retFK (x : Ct) (S : Sl) : Option Out := some (.rt (.f x) S)
@[simp] theorem sRetF_e : sRetF mf S = bnd (mf S) retFK := by unfold sRetF bnd retFK; cases mf S <;> rfl
@[simp] theorem retFK_e : retFK ct S = some (.rt (.f ct) S) := rfl
def retVK (S : Sl) : Option SV → Option Out
  | some (.d x) => some (.rt (.d x) S)
  | some (.o c) => some (.rt (.f c) S)
  | _ => none
@[simp] theorem sRetV_e : sRetV i S = retVK S S[i]? := rfl
@[simp] theorem retVK_d : retVK S (some (.d x)) = some (.rt (.d x) S) := rfl
@[simp] theorem retVK_o : retVK S (some (.o ct)) = some (.rt (.f ct) S) := rfl
@[simp] theorem sRetN_e : sRetN S = some (.rt (.d .none) S) := rfl
def unpK (is : List Nat) : Dat → Sl → Option Out
  | .tuple xs, S => if xs.length = is.length then some (.nx (putL S is xs)) else none
  | _, _ => none
@[simp] theorem sUnp_e {is : List Nat} : sUnp is a S = bnd (a S) (unpK is) := by
  unfold sUnp bnd unpK
  cases a S with
  | none => rfl
  | some p => obtain ⟨c, S'⟩ := p; cases c <;> rfl
@[simp] theorem unpK_t {is : List Nat} : unpK is (.tuple xs) S = if xs.length = is.length then some (.nx (putL S is xs)) else none := (Eq.refl _).trans (Eq.refl _)
@[simp] theorem putL_nil {is : List Nat} : putL S is [] = S := by cases is <;> rfl
@[simp] theorem putL_nil2 {xs : List Dat} : putL S [] xs = S := by cases xs <;> rfl
@[simp] theorem putL_cons {is : List Nat} {xs : List Dat} : putL S (i :: is) (x :: xs) = putL (S.set i (.d x)) is xs := rfl
def appndK2 (i : Nat) (x : Dat) (S : Sl) : Option (List Dat) → Option Out
  | some xs => if xs.length < 100000 then some (.nx (putV S i (.l (xs ++ [x])))) else none
  | none => none
def appndK (i : Nat) (x : Dat) (S : Sl) : Option Out := appndK2 i x S (listV S i)
def appK0 (i : Nat) (a : M Dat) (S : Sl) : Option (List Dat) → Option Out
  | some _ => bnd (a S) (appndK i)
  | none => none
@[simp] theorem sApp_e : sApp i a S = appK0 i a S (listV S i) := by
  unfold sApp appK0 bnd appndK appndK2
  cases listV S i with
  | none => rfl
  | some xs =>
    cases a S with
    | none => rfl
    | some p => cases h : listV p.2 i <;> simp only [h]
@[simp] theorem appK0_s : appK0 i a S (some xs) = bnd (a S) (appndK i) := rfl
@[simp] theorem appndK_e : appndK i x S = appndK2 i x S (listV S i) := rfl
@[simp] theorem appndK2_s : appndK2 i x S (some xs) = if xs.length < 100000 then some (.nx (putV S i (.l (xs ++ [x])))) else none := (Eq.refl _).trans (Eq.refl _)
def revK (i : Nat) (S : Sl) : Option (List Dat) → Option Out
  | some xs => some (.nx (putV S i (.l xs.reverse)))
  | none => none
@[simp] theorem sRev_e : sRev i S = revK i S (listV S i) := by unfold sRev revK; cases listV S i <;> rfl
@[simp] theorem revK_s : revK i S (some xs) = some (.nx (putV S i (.l xs.reverse))) := rfl
def forK (gd : Dat → Sl → Option Sl) (b : MS) (xs : List Dat) (S : Sl) : Option Out := forL gd b xs S
@[simp] theorem sFor_e {src : M (List Dat)} {gd : Dat → Sl → Option Sl} : sFor src gd m1 S = bnd (src S) (forK gd m1) := by unfold sFor bnd forK; cases src S <;> rfl
@[simp] theorem forK_e {gd : Dat → Sl → Option Sl} : forK gd m1 xs S = forL gd m1 xs S := rfl
def itemsK : Dat → Sl → Option (List Dat × Sl)
  | .list xs, S => some (xs, S)
  | _, _ => none
@[simp] theorem mItems_e : mItems a S = bnd (a S) itemsK := by
  unfold mItems bnd itemsK
  cases a S with
  | none => rfl
  | some p => obtain ⟨c, S'⟩ := p; cases c <;> rfl
@[simp] theorem itemsK_l : itemsK (.list xs) S = some (xs, S) := rfl
def rg1K : Dat → Sl → Option (List Dat × Sl)
  | .int j, S => if inLine j then some (rangeD 0 j, S) else none
  | _, _ => none
@[simp] theorem mRange1_e : mRange1 a S = bnd (a S) rg1K := by
  unfold mRange1 bnd rg1K
  cases a S with
  | none => rfl
  | some p => obtain ⟨c, S'⟩ := p; cases c <;> rfl
@[simp] theorem rg1K_i {k : Int} : rg1K (.int k) S = if inLine k then some (rangeD 0 k, S) else none := (Eq.refl _).trans (Eq.refl _)
def rg2K2 (k : Int) : Dat → Sl → Option (List Dat × Sl)
  | .int j, S => if inLine k && inLine j then some (rangeD k j, S) else none
  | _, _ => none
def rg2K (b : M Dat) : Dat → Sl → Option (List Dat × Sl)
  | .int k, S => bnd (b S) (rg2K2 k)
  | _, _ => none
@[simp] theorem mRange2_e : mRange2 a b S = bnd (a S) (rg2K b) := by
  unfold mRange2 bnd rg2K rg2K2 bnd
  cases a S with
  | none => rfl
  | some p =>
    obtain ⟨c, S'⟩ := p
    cases c <;> (first | rfl | (simp only; cases h : b S' with
      | none => rfl
      | some q => obtain ⟨d, S''⟩ := q; cases d <;> rfl))
@[simp] theorem rg2K_i {k : Int} : rg2K b (.int k) S = bnd (b S) (rg2K2 k) := rfl
@[simp] theorem rg2K2_i {k l : Int} : rg2K2 k (.int l) S = if inLine k && inLine l then some (rangeD k l, S) else none := (Eq.refl _).trans (Eq.refl _)
@[simp] theorem forL_nil {gd : Dat → Sl → Option Sl} : forL gd m1 [] S = some (.nx S) := rfl
theorem forL_cons {gd : Dat → Sl → Option Sl} {xs : List Dat} : forL gd m1 (x :: xs) S = match gd x S with
    | some S1 => match m1 S1 with
      | some (.nx S2) => forL gd m1 xs S2
      | r => r
    | none => none := rfl
@[simp] theorem gN_e : gN i x S = some (S.set i (.d x)) := rfl
def compK2 (xs : List Dat) : Option (List Dat × Sl) → Option (Ct × Sl)
  | some (ys, S) => if xs.length ≤ 100000 then some (.l ys, S) else none
  | none => none
def compK (j : Nat) (t : M Bool) (e : M Dat) (xs : List Dat) (S : Sl) : Option (Ct × Sl) := compK2 xs (compL j t e xs (S.set j .no))
@[simp] theorem mComp_e {src : M (List Dat)} : mComp src j ta a S = bnd (src S) (compK j ta a) := by
  unfold mComp bnd compK compK2
  cases src S with
  | none => rfl
  | some p => cases h : compL j ta a p.1 (p.2.set j .no) <;> simp [h]
@[simp] theorem compK_e : compK j ta a xs S = compK2 xs (compL j ta a xs (S.set j .no)) := rfl
@[simp] theorem compK2_s {ys : List Dat} : compK2 xs (some (ys, S)) = if xs.length ≤ 100000 then some (.l ys, S) else none := (Eq.refl _).trans (Eq.refl _)
def repK2 (xs : List Dat) : Dat → Sl → Option (Ct × Sl)
  | .int k, S => if 0 ≤ k ∧ k ≤ 100000 ∧ xs.length * k.toNat ≤ 100000 then some (.l (List.replicate k.toNat xs).flatten, S) else none
  | _, _ => none
def repK (b : M Dat) : Ct → Sl → Option (Ct × Sl)
  | .l xs, S => bnd (b S) (repK2 xs)
  | _, _ => none
@[simp] theorem mRep_e : mRep mf b S = bnd (mf S) (repK b) := by
  unfold mRep bnd repK repK2 bnd
  cases mf S with
  | none => rfl
  | some p =>
    obtain ⟨c, S'⟩ := p
    cases c with
    | k kvs => rfl
    | ob _ _ => rfl
    | w _ => rfl
    | l xs => simp only; cases h : b S' with
      | none => rfl
      | some q => obtain ⟨d, S''⟩ := q; cases d <;> rfl
@[simp] theorem repK_l : repK b (.l xs) S = bnd (b S) (repK2 xs) := rfl
@[simp] theorem repK2_i {k : Int} : repK2 xs (.int k) S = if 0 ≤ k ∧ k ≤ 100000 ∧ xs.length * k.toNat ≤ 100000 then some (.l (List.replicate k.toNat xs).flatten, S) else none := (Eq.refl _).trans (Eq.refl _)
variable {ml mh : M (Option Int)} {lo hi : Option Int}
@[simp] theorem mNo_e : mNo S = some (none, S) := rfl
def partK : Dat → Sl → Option (Option Int × Sl)
  | .int i, S => some (some i, S)
  | _, _ => none
@[simp] theorem mPart_e : mPart a S = bnd (a S) partK := by
  unfold mPart bnd partK
  cases a S with
  | none => rfl
  | some p => obtain ⟨c, S'⟩ := p; cases c <;> rfl
@[simp] theorem partK_i {k : Int} : partK (.int k) S = some (some k, S) := rfl
def slSK : Dat → Option Int → Option Int → Sl → Option (Dat × Sl)
  | .str z, lo, hi, S => if z.length ≤ 100000 then some (.str (cutS z lo hi), S) else none
  | .tuple xs, lo, hi, S => some (.tuple (cutD xs lo hi), S)
  | _, _, _, _ => none
def slK2 (x : Dat) (lo : Option Int) (hi : Option Int) (S : Sl) : Option (Dat × Sl) := slSK x lo hi S
def slK1 (mh : M (Option Int)) (x : Dat) (lo : Option Int) (S : Sl) : Option (Dat × Sl) := bnd (mh S) (slK2 x lo)
def slK0 (ml mh : M (Option Int)) (x : Dat) (S : Sl) : Option (Dat × Sl) := bnd (ml S) (slK1 mh x)
@[simp] theorem mSl_e : mSl a ml mh S = bnd (a S) (slK0 ml mh) := by
  unfold mSl bnd slK0 slK1 slK2 slSK bnd
  cases a S with
  | none => rfl
  | some p =>
    obtain ⟨x, S1⟩ := p
    simp only
    cases h1 : ml S1 with
    | none => rfl
    | some q =>
      obtain ⟨l, S2⟩ := q
      simp only
      cases h2 : mh S2 with
      | none => rfl
      | some q => cases x <;> rfl
@[simp] theorem slK0_e : slK0 ml mh x S = bnd (ml S) (slK1 mh x) := rfl
@[simp] theorem slK1_e : slK1 mh x lo S = bnd (mh S) (slK2 x lo) := rfl
@[simp] theorem slK2_e : slK2 x lo hi S = slSK x lo hi S := rfl
@[simp] theorem slSK_s {z : Str} : slSK (.str z) lo hi S = if z.length ≤ 100000 then some (.str (cutS z lo hi), S) else none := (Eq.refl _).trans (Eq.refl _)
@[simp] theorem slSK_t : slSK (.tuple xs) lo hi S = some (.tuple (cutD xs lo hi), S) := rfl
def slFK2 (xs : List Dat) (lo hi : Option Int) (S : Sl) : Option (Ct × Sl) := some (.l (cutD xs lo hi), S)
def slFK1 (mh : M (Option Int)) (xs : List Dat) (lo : Option Int) (S : Sl) : Option (Ct × Sl) := bnd (mh S) (slFK2 xs lo)
def slFK0 (ml mh : M (Option Int)) : Dat → Sl → Option (Ct × Sl)
  | .list xs, S => bnd (ml S) (slFK1 mh xs)
  | _, _ => none
@[simp] theorem mSlF_e : mSlF a ml mh S = bnd (a S) (slFK0 ml mh) := by
  unfold mSlF bnd slFK0 slFK1 slFK2 bnd
  cases a S with
  | none => rfl
  | some p =>
    obtain ⟨x, S1⟩ := p
    cases x <;> (first | rfl | (simp only; cases h1 : ml S1 with
      | none => rfl
      | some q =>
        obtain ⟨l, S2⟩ := q
        simp only
        cases h2 : mh S2 <;> rfl))
@[simp] theorem slFK0_l : slFK0 ml mh (.list xs) S = bnd (ml S) (slFK1 mh xs) := rfl
@[simp] theorem slFK1_e : slFK1 mh xs lo S = bnd (mh S) (slFK2 xs lo) := rfl
@[simp] theorem slFK2_e : slFK2 xs lo hi S = some (.l (cutD xs lo hi), S) := rfl
/-! operations -/
@[simp] theorem isD_none : isD x .none = some (.bool (isNoD x)) := rfl
@[simp] theorem isNotD_none : isNotD x .none = some (.bool (!isNoD x)) := rfl
@[simp] theorem isNoD_none : isNoD .none = true := rfl
@[simp] theorem isNoD_tuple {xs : List Dat} : isNoD (.tuple xs) = false := rfl
@[simp] theorem isNoD_list {xs : List Dat} : isNoD (.list xs) = false := rfl
@[simp] theorem isNoD_int {k : Int} : isNoD (.int k) = false := rfl
@[simp] theorem isNoD_bool {k : Bool} : isNoD (.bool k) = false := rfl
@[simp] theorem isNoD_str {k : Str} : isNoD (.str k) = false := rfl
@[simp] theorem truD_none : truD .none = some false := rfl
@[simp] theorem truD_bool {k : Bool} : truD (.bool k) = some k := rfl
@[simp] theorem truD_list {xs : List Dat} : truD (.list xs) = some (!xs.isEmpty) := rfl
@[simp] theorem truD_tuple {xs : List Dat} : truD (.tuple xs) = some (!xs.isEmpty) := rfl
@[simp] theorem addD_int {k l : Int} : addD (.int k) (.int l) = some (.int (k + l)) := rfl
@[simp] theorem subD_int {k l : Int} : subD (.int k) (.int l) = some (.int (k - l)) := rfl
@[simp] theorem negD_int {k : Int} : negD (.int k) = some (.int (-k)) := rfl
@[simp] theorem ltD_int {k l : Int} : ltD (.int k) (.int l) = some (.bool (decide (k < l))) := rfl
@[simp] theorem leD_int {k l : Int} : leD (.int k) (.int l) = some (.bool (decide (k ≤ l))) := rfl
@[simp] theorem gtD_int {k l : Int} : gtD (.int k) (.int l) = some (.bool (decide (l < k))) := rfl
@[simp] theorem geD_int {k l : Int} : geD (.int k) (.int l) = some (.bool (decide (l ≤ k))) := rfl
@[simp] theorem eqD_int {k l : Int} : eqD (.int k) (.int l) = some (.bool (decide (k = l))) := by show some (PyData.bool (k == l)) = _; rw [Bool.beq_eq_decide_eq]
@[simp] theorem neD_int {k l : Int} : neD (.int k) (.int l) = some (.bool (!decide (k = l))) := by show some (PyData.bool (!(k == l))) = _; rw [Bool.beq_eq_decide_eq]
@[simp] theorem eqD_bool {k l : Bool} : eqD (.bool k) (.bool l) = some (.bool (k == l)) := rfl
@[simp] theorem modD_int {k l : Int} : modD (.int k) (.int l) = if 0 < l then some (.int (k % l)) else none := (Eq.refl _).trans (Eq.refl _)
@[simp] theorem fdivD_int {k l : Int} : fdivD (.int k) (.int l) = if 0 < l ∧ l < 1073741824 then some (.int (k / l)) else none := (Eq.refl _).trans (Eq.refl _)
@[simp] theorem ixD_tup {xs : List Dat} {k : Int} : ixD (.tuple xs) (.int k) = atI xs k := rfl
@[simp] theorem ixD_lst {xs : List Dat} {k : Int} : ixD (.list xs) (.int k) = atI xs k := rfl
@[simp] theorem lenD_lst {xs : List Dat} : lenD (.list xs) = some (.int xs.length) := rfl
@[simp] theorem lenD_tup {xs : List Dat} : lenD (.tuple xs) = some (.int xs.length) := rfl
@[simp] theorem lenA_one : lenA [x] = lenD x := rfl
@[simp] theorem int1_b {k : Bool} : int1 [.bool k] = some (.int (if k then 1 else 0)) := rfl
@[simp] theorem int1_i {k : Int} : int1 [.int k] = some (.int k) := rfl
@[simp] theorem tuple1_l {xs : List Dat} : tuple1 [.list xs] = some (.tuple xs) := rfl
@[simp] theorem list1_l {xs : List Dat} : list1 [.list xs] = some (.l xs) := rfl
@[simp] theorem catF_l {xs ys : List Dat} : catF (.list xs) (.list ys) = if xs.length + ys.length ≤ 100000 then some (.l (xs ++ ys)) else none := (Eq.refl _).trans (Eq.refl _)
@[simp] theorem res_nx : (Out.nx S).res = .d .none := rfl
@[simp] theorem res_rt {r : FR} : (Out.rt r S).res = r := rfl
@[simp] theorem sl_nx : (Out.nx S).sl = S := rfl
@[simp] theorem sl_rt {r : FR} : (Out.rt r S).sl = S := rfl
end
theorem atI_ofNat {α : Type} (xs : List α) (k : Nat) : atI xs (k : Int) = xs[k]? := by
  unfold atI ixN
  by_cases h : (k : Int) < xs.length
  · rw [if_pos (by omega), if_pos h]; simp
  · rw [if_pos (by omega), if_neg h]
    simp; omega
@[simp] theorem at0 {α : Type} {x : α} {xs : List α} : atI (x :: xs) 0 = some x := atI_ofNat (x :: xs) 0
@[simp] theorem at6 {α : Type} {a b c d e f : α} : atI [a, b, c, d, e, f] 1 = some b ∧ atI [a, b, c, d, e, f] 2 = some c ∧ atI [a, b, c, d, e, f] 3 = some d ∧ atI [a, b, c, d, e, f] 4 = some e ∧ atI [a, b, c, d, e, f] 5 = some f := ⟨rfl, rfl, rfl, rfl, rfl⟩
@[simp] theorem at2 {α : Type} {a b : α} : atI [a, b] 1 = some b := rfl
@[simp] theorem at3 {α : Type} {a b c : α} : atI [a, b, c] 1 = some b ∧ atI [a, b, c] 2 = some c := ⟨rfl, rfl⟩
/-- the run of a def on data -/
theorem run_d {p n : Nat} {m : MS} {xs : List Dat} (hl : xs.length = p) : runF p n m (xs.map FA.d) = match m (xs.map SV.d ++ List.replicate (n - p) .no) with
    | some o => match o.res with
      | .x _ => none
      | r => some (r, [])
    | none => none := by
  have e1 : ∀ (xs : List Dat) (k : Nat), initS k (xs.map FA.d) = xs.map SV.d := by
    intro xs; induction xs with
    | nil => intro k; rfl
    | cons x xs ih => intro k; show SV.d x :: initS k (xs.map FA.d) = _; rw [ih]; rfl
  have e2 : ∀ (xs : List Dat) (k : Nat) (S : Sl), newsOf k (xs.map FA.d) S = some [] := by
    intro xs; induction xs with
    | nil => intro k S; unfold newsOf; rfl
    | cons x xs ih => intro k S; exact ih k S.tail
  unfold runF
  rw [if_pos (by rw [List.length_map]; exact hl), e1]
  simp only [e2]
  try rfl

/-! ### trees -/
inductive T where
  | nil
  | node (p : Bool) (l : T) (k : Int) (x : Dat) (r : T) (c : Int)
def T.d : T → Dat
  | .nil => .none
  | .node p l k x r c => .tuple [.bool p, l.d, .int k, x, r.d, .int c]
/-- the count as it stands; how many knots -/
def T.sz : T → Int
  | .nil => 0
  | .node _ _ _ _ _ c => c
def T.cnt : T → Nat
  | .nil => 0
  | .node _ l _ _ r _ => l.cnt + 1 + r.cnt
def T.ht : T → Nat
  | .nil => 0
  | .node _ l _ _ r _ => max l.ht r.ht + 1
def T.pt : T → Bool
  | .nil => false
  | .node p _ _ _ _ _ => p
def T.prs : T → List (Int × Dat)
  | .nil => []
  | .node _ l k x r _ => l.prs ++ (k, x) :: r.prs
def mk (p : Bool) (l : T) (k : Int) (x : Dat) (r : T) : T := .node p l k x r (l.sz + 1 + r.sz)
def T.unp : T → T
  | .node true l k x r _ => mk false l k x r
  | t => t
def T.rk : T → Int
  | .nil => 0
  | .node p l _ _ _ _ => (if p then 0 else 1) + l.rk
@[simp] theorem d_nil : T.nil.d = .none := rfl
@[simp] theorem d_node {p l k x r c} : (T.node p l k x r c).d = .tuple [.bool p, l.d, .int k, x, r.d, .int c] := rfl
theorem isNo_d (t : T) : isNoD t.d = true ↔ t = .nil := by cases t <;> simp
theorem e_size (t : T) : F_size_of [.d t.d] = some (.d (.int t.sz), []) := by cases t <;> rfl
theorem e_knot (p : Bool) (l : T) (k : Int) (x : Dat) (r : T) : F_knot [.d (.bool p), .d l.d, .d (.int k), .d x, .d r.d] = some (.d (mk p l k x r).d, []) := by cases l <;> cases r <;> rfl
theorem e_unp (t : T) : F_unpainted [.d t.d] = some (.d t.unp.d, []) := by
  cases t with
  | nil => rfl
  | node p l k x r c =>
    cases p with
    | false => rfl
    | true => cases l <;> cases r <;> rfl
theorem e_pt (t : T) : F_is_painted [.d t.d] = some (.d (.bool t.pt), []) := by cases t <;> rfl
theorem e_rank_loop : ∀ (t : T) (k : Int), sWhile (Rp.tB (mBin isNotD (mV 0) (mC .none))) (sSeq (sIf (Rp.tNot (tTr (mIxV 0 (mC (.int 0))))) (sAsg 1 (mBin addD (mV 1) (mC (.int 1)))) sNx) (sAsg 0 (mIxV 0 (mC (.int 1))))) [.d t.d, .d (.int k)] = some (.nx [.d .none, .d (.int (k + t.rk))])
  | .nil, k => by
    rw [sWhile_eq]
    simp [T.rk]
  | .node p l y x r c, k => by
    rw [sWhile_eq]
    cases p with
    | false =>
      simp
      rw [e_rank_loop l (k + 1)]
      simp [T.rk, Int.add_assoc]
    | true =>
      simp
      rw [e_rank_loop l k]
      simp [T.rk]
theorem e_rank (t : T) : F_rank_of [.d t.d] = some (.d (.int t.rk), []) := by
  have := run_d (p := 1) (n := 2) (m := m_rank_of) (xs := [t.d]) rfl
  refine this.trans ?_
  simp [m_rank_of]
  have e := e_rank_loop t 0
  simp only [Int.zero_add] at e
  rw [e]
  simp
end Rp
end
set_option Elab.async false
set_option linter.all false
set_option maxRecDepth 100000
noncomputable section
namespace Rp
open PySem PySem.Spec PyProof.Rows L2

/-- inner with a painted knot on a painted one's right: turned -/
def fixB (l : T) (k : Int) (x : Dat) : T → T
  | .node true il ik ix ir ic => if ir.pt then mk true (mk false l k x il) ik ix ir.unp else mk false l k x (.node true il ik ix ir ic)
  | t => mk false l k x t
def inB (key : Int) (y : Dat) (other : T) (low : Int) : T → Int → T
  | .nil, _ => mk true .nil key y other
  | .node p l k x r c, rank => if rank = low ∧ p = false then mk true (.node p l k x r c) key y other
    else if p = true then mk true l k x (inB key y other low r rank)
    else fixB l k x (inB key y other low r (rank - 1))
def fixA (k : Int) (x : Dat) (r : T) : T → T
  | .node true il ik ix ir ic => if il.pt then mk true il.unp ik ix (mk false ir k x r) else mk false (.node true il ik ix ir ic) k x r
  | t => mk false t k x r
def inA (other : T) (key : Int) (y : Dat) (low : Int) : T → Int → T
  | .nil, _ => mk true other key y .nil
  | .node p l k x r c, rank => if rank = low ∧ p = false then mk true other key y (.node p l k x r c)
    else if p = true then mk true (inA other key y low l rank) k x r
    else fixA k x r (inA other key y low l (rank - 1))
/-- the black height: at least so much below -/
def T.okB (low : Int) : T → Int → Prop
  | .nil, rank => rank = low
  | .node p l k x r c, rank => rank = low ∧ p = false ∨ (if p = true then r.okB low rank else r.okB low (rank - 1))
def T.okA (low : Int) : T → Int → Prop
  | .nil, rank => rank = low
  | .node p l k x r c, rank => rank = low ∧ p = false ∨ (if p = true then l.okA low rank else l.okA low (rank - 1))
theorem e_inB (key : Int) (y : Dat) (other : T) (low : Int) : ∀ (n : Nat) (t : T) (rank : Int), t.ht < n → t.okB low rank →
    R_in_behind n [.d t.d, .d (.int rank), .d (.int key), .d y, .d other.d, .d (.int low)] = some (.d (inB key y other low t rank).d, [])
  | 0, t, rank, h, _ => by omega
  | n + 1, t, rank, h, hk => by
    have := run_d (p := 6) (n := 8) (m := m_in_behind (R_in_behind n)) (xs := [t.d, .int rank, .int key, y, other.d, .int low]) rfl
    refine this.trans ?_
    cases t with
    | nil =>
      have hk : rank = low := hk
      subst hk
      have e1 := e_pt .nil
      have e2 := e_knot true .nil key y other
      simp only [d_nil] at e1 e2
      simp [m_in_behind, e1, T.pt, e2, inB]
    | node p l k x r c =>
      have hr : r.ht < n := by
        have : (T.node p l k x r c).ht = max l.ht r.ht + 1 := rfl
        omega
      have e1 := e_pt (.node p l k x r c)
      simp only [d_node, T.pt] at e1
      by_cases h1 : rank = low ∧ p = false
      · obtain ⟨rfl, rfl⟩ := h1
        have e2 := e_knot true (.node false l k x r c) key y other
        simp only [d_node] at e2
        simp [m_in_behind, e1, e2, inB]
      · cases p with
        | true =>
          have hk : r.okB low rank := by
            rcases hk with hk | hk
            · exact absurd hk h1
            · exact hk
          have ih := e_inB key y other low n r rank hr hk
          have e2 := e_knot true l k x (inB key y other low r rank)
          by_cases h2 : rank = low
          · subst h2
            simp [m_in_behind, e1, e2, ih, inB]
          · simp [m_in_behind, e1, e2, ih, inB, h2]
        | false =>
          have h2 : rank ≠ low := fun z => h1 ⟨z, rfl⟩
          have hk : r.okB low (rank - 1) := by
            rcases hk with hk | hk
            · exact absurd hk h1
            · exact hk
          have ih := e_inB key y other low n r (rank - 1) hr hk
          have eu : inB key y other low (.node false l k x r c) rank = fixB l k x (inB key y other low r (rank - 1)) := by
            simp [inB, h2]
          rw [eu]
          generalize inB key y other low r (rank - 1) = u at ih
          have e3 := e_pt u
          cases u with
          | nil =>
            have e4 := e_knot false l k x .nil
            simp only [d_nil, T.pt] at e3 e4 ih
            simp [m_in_behind, e1, ih, h2, e3, e4, fixB]
          | node q il ik ix ir ic =>
            simp only [d_node, T.pt] at e3 ih
            have e4 := e_pt ir
            cases q with
            | false =>
              have e5 := e_knot false l k x (.node false il ik ix ir ic)
              simp only [d_node] at e5
              simp [m_in_behind, e1, ih, h2, e3, e5, fixB]
            | true =>
              have e5 := e_knot false l k x (.node true il ik ix ir ic)
              simp only [d_node] at e5
              have e6 := e_knot false l k x il
              have e7 := e_unp ir
              have e8 := e_knot true (mk false l k x il) ik ix ir.unp
              cases hp : ir.pt with
              | false =>
                rw [hp] at e4
                simp [m_in_behind, e1, ih, h2, e3, e4, e5, fixB, hp]
              | true =>
                rw [hp] at e4
                simp [m_in_behind, e1, ih, h2, e3, e4, e6, e7, e8, fixB, hp]
theorem e_inA (key : Int) (y : Dat) (other : T) (low : Int) : ∀ (n : Nat) (t : T) (rank : Int), t.ht < n → t.okA low rank →
    R_in_ahead n [.d other.d, .d (.int key), .d y, .d t.d, .d (.int rank), .d (.int low)] = some (.d (inA other key y low t rank).d, [])
  | 0, t, rank, h, _ => by omega
  | n + 1, t, rank, h, hk => by
    have := run_d (p := 6) (n := 8) (m := m_in_ahead (R_in_ahead n)) (xs := [other.d, .int key, y, t.d, .int rank, .int low]) rfl
    refine this.trans ?_
    cases t with
    | nil =>
      have hk : rank = low := hk
      subst hk
      have e1 := e_pt .nil
      have e2 := e_knot true other key y .nil
      simp only [d_nil] at e1 e2
      simp [m_in_ahead, e1, T.pt, e2, inA]
    | node p l k x r c =>
      have hr : l.ht < n := by
        have : (T.node p l k x r c).ht = max l.ht r.ht + 1 := rfl
        omega
      have e1 := e_pt (.node p l k x r c)
      simp only [d_node, T.pt] at e1
      by_cases h1 : rank = low ∧ p = false
      · obtain ⟨rfl, rfl⟩ := h1
        have e2 := e_knot true other key y (.node false l k x r c)
        simp only [d_node] at e2
        simp [m_in_ahead, e1, e2, inA]
      · cases p with
        | true =>
          have hk : l.okA low rank := by
            rcases hk with hk | hk
            · exact absurd hk h1
            · exact hk
          have ih := e_inA key y other low n l rank hr hk
          have e2 := e_knot true (inA other key y low l rank) k x r
          by_cases h2 : rank = low
          · subst h2
            simp [m_in_ahead, e1, e2, ih, inA]
          · simp [m_in_ahead, e1, e2, ih, inA, h2]
        | false =>
          have h2 : rank ≠ low := fun z => h1 ⟨z, rfl⟩
          have hk : l.okA low (rank - 1) := by
            rcases hk with hk | hk
            · exact absurd hk h1
            · exact hk
          have ih := e_inA key y other low n l (rank - 1) hr hk
          have eu : inA other key y low (.node false l k x r c) rank = fixA k x r (inA other key y low l (rank - 1)) := by
            simp [inA, h2]
          rw [eu]
          generalize inA other key y low l (rank - 1) = u at ih
          have e3 := e_pt u
          cases u with
          | nil =>
            have e4 := e_knot false .nil k x r
            simp only [d_nil, T.pt] at e3 e4 ih
            simp [m_in_ahead, e1, ih, h2, e3, e4, fixA]
          | node q il ik ix ir ic =>
            simp only [d_node, T.pt] at e3 ih
            have e4 := e_pt il
            cases q with
            | false =>
              have e5 := e_knot false (.node false il ik ix ir ic) k x r
              simp only [d_node] at e5
              simp [m_in_ahead, e1, ih, h2, e3, e5, fixA]
            | true =>
              have e5 := e_knot false (.node true il ik ix ir ic) k x r
              simp only [d_node] at e5
              have e6 := e_knot false ir k x r
              have e7 := e_unp il
              have e8 := e_knot true il.unp ik ix (mk false ir k x r)
              cases hp : il.pt with
              | false =>
                rw [hp] at e4
                simp [m_in_ahead, e1, ih, h2, e3, e4, e5, fixA, hp]
              | true =>
                rw [hp] at e4
                simp [m_in_ahead, e1, ih, h2, e3, e4, e6, e7, e8, fixA, hp]
def put2 (one : T) (key : Int) (y : Dat) (other : T) : T :=
  if other.rk < one.rk then (inB key y other other.rk one one.rk).unp
  else if one.rk < other.rk then (inA one key y one.rk other other.rk).unp
  else mk false one key y other
theorem e_put2 (one : T) (key : Int) (y : Dat) (other : T) (h1 : one.ht < 30) (h2 : other.ht < 30) (hB : other.rk < one.rk → one.okB other.rk one.rk) (hA : one.rk < other.rk → other.okA one.rk other.rk) :
    F_put_together [.d one.d, .d (.int key), .d y, .d other.d] = some (.d (put2 one key y other).d, []) := by
  have := run_d (p := 4) (n := 6) (m := m_put_together) (xs := [one.d, .int key, y, other.d]) rfl
  refine this.trans ?_
  have r1 := e_rank one
  have r2 := e_rank other
  unfold put2
  by_cases c1 : other.rk < one.rk
  · have e1 := e_inB key y other other.rk 30 one one.rk h1 (hB c1)
    have e2 := e_unp (inB key y other other.rk one one.rk)
    simp [m_put_together, r1, r2, c1, F_in_behind, e1, e2]
  · by_cases c2 : one.rk < other.rk
    · have e1 := e_inA key y one one.rk 30 other other.rk h2 (hA c2)
      have e2 := e_unp (inA one key y one.rk other other.rk)
      simp [m_put_together, r1, r2, c1, c2, F_in_ahead, e1, e2]
    · have e1 := e_knot false one key y other
      simp [m_put_together, r1, r2, c1, c2, e1]
end Rp
end
set_option Elab.async false
set_option linter.all false
set_option maxRecDepth 100000
/-! Sound trees: joined and cut. -/
noncomputable section
namespace Rp
open PySem PySem.Spec PyProof.Rows L2

/-- sound below: u: the knot above is painted (or there is none); n: the unpainted knots on a road -/
def T.wf : T → Bool → Nat → Prop
  | .nil, _, n => n = 0
  | .node p l k x r c, u, n => c = l.cnt + 1 + r.cnt ∧ (p = true → u = false) ∧ ((p = true ∧ l.wf true n ∧ r.wf true n) ∨ (p = false ∧ ∃ m, n = m + 1 ∧ l.wf false m ∧ r.wf false m))
/-- painted, its right child perhaps too -/
def T.almB : T → Nat → Prop
  | .nil, _ => False
  | .node p l k x r c, n => p = true ∧ c = l.cnt + 1 + r.cnt ∧ l.wf true n ∧ r.wf false n
def T.almA : T → Nat → Prop
  | .nil, _ => False
  | .node p l k x r c, n => p = true ∧ c = l.cnt + 1 + r.cnt ∧ l.wf false n ∧ r.wf true n
theorem cnt_prs : ∀ t : T, t.cnt = t.prs.length
  | .nil => rfl
  | .node p l k x r c => by
    show l.cnt + 1 + r.cnt = (l.prs ++ (k, x) :: r.prs).length
    rw [List.length_append, List.length_cons, cnt_prs l, cnt_prs r]
    omega
theorem wf_sz : ∀ {t : T} {u : Bool} {n : Nat}, t.wf u n → t.sz = t.cnt
  | .nil, _, _, _ => rfl
  | .node p l k x r c, _, _, h => by
    show c = ((l.cnt + 1 + r.cnt : Nat) : Int)
    rw [h.1]; omega
theorem wf_weak : ∀ {t : T} {u : Bool} {n : Nat}, t.wf true n → t.wf u n
  | .nil, _, _, h => h
  | .node p l k x r c, u, n, h => ⟨h.1, fun hp => absurd (h.2.1 hp) (by simp), h.2.2⟩
theorem wf_unpainted : ∀ {t : T} {n : Nat}, t.wf false n → t.pt = false → t.wf true n
  | .nil, _, h, _ => h
  | .node p l k x r c, n, h, hp => ⟨h.1, fun z => absurd z (by rw [show p = false from hp]; simp), h.2.2⟩
theorem wf_pt : ∀ {t : T} {n : Nat}, t.wf true n → t.pt = false
  | .nil, _, _ => rfl
  | .node p l k x r c, n, h => by
    cases p with
    | false => rfl
    | true => exact absurd (h.2.1 rfl) (by simp)
theorem wf_rk : ∀ {t : T} {u : Bool} {n : Nat}, t.wf u n → t.rk = n
  | .nil, _, _, h => by rw [show _ = 0 from h]; rfl
  | .node p l k x r c, u, n, h => by
    rcases h.2.2 with ⟨rfl, h1, _⟩ | ⟨rfl, m, rfl, h1, _⟩
    · show (if true = true then (0 : Int) else 1) + l.rk = n
      rw [wf_rk h1]; simp
    · show (if false = true then (0 : Int) else 1) + l.rk = ((m + 1 : Nat) : Int)
      rw [wf_rk h1]; simp; omega
/-- heights -/
theorem wf_ht : ∀ {t : T} {u : Bool} {n : Nat}, t.wf u n → t.ht ≤ 2 * n + (if u = true then 0 else 1)
  | .nil, _, n, h => Nat.zero_le _
  | .node p l k x r c, u, n, h => by
    show max l.ht r.ht + 1 ≤ _
    rcases h.2.2 with ⟨hp, h1, h2⟩ | ⟨rfl, m, rfl, h1, h2⟩
    · have := wf_ht h1
      have := wf_ht h2
      rw [h.2.1 hp]
      simp at *
      omega
    · have := wf_ht h1
      have := wf_ht h2
      split <;> (simp at *; omega)
/-- so many knots at least -/
theorem wf_cnt : ∀ {t : T} {u : Bool} {n : Nat}, t.wf u n → 2 ^ n ≤ t.cnt + 1
  | .nil, _, n, h => by rw [show n = 0 from h]; exact Nat.le_refl _
  | .node p l k x r c, u, n, h => by
    show 2 ^ n ≤ l.cnt + 1 + r.cnt + 1
    rcases h.2.2 with ⟨hp, h1, h2⟩ | ⟨hp, m, rfl, h1, h2⟩
    · have := wf_cnt h1
      omega
    · have := wf_cnt h1
      have := wf_cnt h2
      rw [Nat.pow_succ]; omega
theorem rank_small {t : T} {u : Bool} {n N : Nat} (h : t.wf u n) (hc : t.cnt + 1 < 2 ^ (N + 1)) : n ≤ N := by
  have h1 := wf_cnt h
  have : 2 ^ n < 2 ^ (N + 1) := by omega
  have := (Nat.pow_lt_pow_iff_right (by omega : 1 < 2)).mp this
  omega
theorem wf_mk_painted {l r : T} {k : Int} {x : Dat} {n : Nat} (h1 : l.wf true n) (h2 : r.wf true n) : (mk true l k x r).wf false n :=
  ⟨by rw [wf_sz h1, wf_sz h2], fun _ => rfl, .inl ⟨rfl, h1, h2⟩⟩
theorem wf_mk {l r : T} {k : Int} {x : Dat} {n : Nat} {u : Bool} (h1 : l.wf false n) (h2 : r.wf false n) : (mk false l k x r).wf u (n + 1) :=
  ⟨by rw [wf_sz h1, wf_sz h2], fun z => absurd z (by simp), .inr ⟨rfl, n, rfl, h1, h2⟩⟩
@[simp] theorem prs_mk (p : Bool) (l : T) (k : Int) (x : Dat) (r : T) : (mk p l k x r).prs = l.prs ++ (k, x) :: r.prs := rfl
@[simp] theorem prs_unp (t : T) : t.unp.prs = t.prs := by
  cases t with
  | nil => rfl
  | node p l k x r c => cases p <;> rfl
@[simp] theorem prs_nil : T.nil.prs = [] := rfl
@[simp] theorem prs_node (p : Bool) (l : T) (k : Int) (x : Dat) (r : T) (c : Int) : (T.node p l k x r c).prs = l.prs ++ (k, x) :: r.prs := rfl
/-- a painted top unpainted: one rank more -/
theorem wf_unp_painted {t : T} {n : Nat} (h : t.wf false n) (hp : t.pt = true) : t.unp.wf true (n + 1) := by
  cases t with
  | nil => cases hp
  | node p l k x r c =>
    have hp : p = true := hp
    subst hp
    rcases h.2.2 with ⟨_, h1, h2⟩ | ⟨z, _⟩
    · exact wf_mk (wf_weak h1) (wf_weak h2)
    · cases z
theorem unp_of_unpainted {t : T} (hp : t.pt = false) : t.unp = t := by
  cases t with
  | nil => rfl
  | node p l k x r c =>
    have hp : p = false := hp
    subst hp; rfl
theorem wf_unp {t : T} {n : Nat} (h : t.wf false n) : ∃ m, t.unp.wf true m ∧ n ≤ m ∧ m ≤ n + 1 := by
  cases hp : t.pt with
  | true => exact ⟨n + 1, wf_unp_painted h hp, by omega, Nat.le_refl _⟩
  | false => rw [unp_of_unpainted hp]; exact ⟨n, wf_unpainted h hp, Nat.le_refl _, by omega⟩
theorem alm_unp_B {t : T} {n : Nat} (h : t.almB n) : t.unp.wf true (n + 1) := by
  cases t with
  | nil => cases h
  | node p l k x r c =>
    obtain ⟨rfl, h1, h2, h3⟩ := h
    exact wf_mk (wf_weak h2) h3
theorem alm_unp_A {t : T} {n : Nat} (h : t.almA n) : t.unp.wf true (n + 1) := by
  cases t with
  | nil => cases h
  | node p l k x r c =>
    obtain ⟨rfl, h1, h2, h3⟩ := h
    exact wf_mk h2 (wf_weak h3)
theorem fixB_wf {l : T} {k : Int} {x : Dat} {t : T} {n : Nat} (hl : l.wf false n) (ht : t.wf false n ∨ t.almB n) : (fixB l k x t).wf false (n + 1) := by
  cases t with
  | nil =>
    rcases ht with ht | ht
    · exact wf_mk hl ht
    · cases ht
  | node q il ik ix ir ic =>
    cases q with
    | false =>
      rcases ht with ht | ht
      · exact wf_mk hl ht
      · cases ht.1
    | true =>
      show (if ir.pt = true then mk true (mk false l k x il) ik ix ir.unp else mk false l k x (.node true il ik ix ir ic)).wf false (n + 1)
      have hh : il.wf true n ∧ ir.wf false n ∧ ic = il.cnt + 1 + ir.cnt := by
        rcases ht with ht | ht
        · rcases ht.2.2 with ⟨_, h1, h2⟩ | ⟨z, _⟩
          · exact ⟨h1, wf_weak h2, ht.1⟩
          · cases z
        · exact ⟨ht.2.2.1, ht.2.2.2, ht.2.1⟩
      obtain ⟨h1, h2, h3⟩ := hh
      cases hp : ir.pt with
      | true => exact wf_mk_painted (wf_mk hl (wf_weak h1)) (wf_unp_painted h2 hp)
      | false => exact wf_mk hl ⟨h3, fun _ => rfl, .inl ⟨rfl, h1, wf_unpainted h2 hp⟩⟩
theorem fixA_wf {r : T} {k : Int} {x : Dat} {t : T} {n : Nat} (hr : r.wf false n) (ht : t.wf false n ∨ t.almA n) : (fixA k x r t).wf false (n + 1) := by
  cases t with
  | nil =>
    rcases ht with ht | ht
    · exact wf_mk ht hr
    · cases ht
  | node q il ik ix ir ic =>
    cases q with
    | false =>
      rcases ht with ht | ht
      · exact wf_mk ht hr
      · cases ht.1
    | true =>
      show (if il.pt = true then mk true il.unp ik ix (mk false ir k x r) else mk false (.node true il ik ix ir ic) k x r).wf false (n + 1)
      have hh : il.wf false n ∧ ir.wf true n ∧ ic = il.cnt + 1 + ir.cnt := by
        rcases ht with ht | ht
        · rcases ht.2.2 with ⟨_, h1, h2⟩ | ⟨z, _⟩
          · exact ⟨wf_weak h1, h2, ht.1⟩
          · cases z
        · exact ⟨ht.2.2.1, ht.2.2.2, ht.2.1⟩
      obtain ⟨h1, h2, h3⟩ := hh
      cases hp : il.pt with
      | true => exact wf_mk_painted (wf_unp_painted h1 hp) (wf_mk (wf_weak h2) hr)
      | false => exact wf_mk ⟨h3, fun _ => rfl, .inl ⟨rfl, wf_unpainted h1 hp, h2⟩⟩ hr
@[simp] theorem prs_fixB (l : T) (k : Int) (x : Dat) (t : T) : (fixB l k x t).prs = l.prs ++ (k, x) :: t.prs := by
  cases t with
  | nil => rfl
  | node q il ik ix ir ic =>
    cases q with
    | false => rfl
    | true =>
      show (if ir.pt = true then mk true (mk false l k x il) ik ix ir.unp else mk false l k x (.node true il ik ix ir ic)).prs = _
      cases ir.pt <;> simp
@[simp] theorem prs_fixA (k : Int) (x : Dat) (r : T) (t : T) : (fixA k x r t).prs = t.prs ++ (k, x) :: r.prs := by
  cases t with
  | nil => rfl
  | node q il ik ix ir ic =>
    cases q with
    | false => rfl
    | true =>
      show (if il.pt = true then mk true il.unp ik ix (mk false ir k x r) else mk false (.node true il ik ix ir ic) k x r).prs = _
      cases il.pt <;> simp
theorem inB_wf (key : Int) (y : Dat) {other : T} {low : Nat} (ho : other.wf true low) : ∀ {t : T} {u : Bool} {n : Nat}, t.wf u n → low ≤ n → t.okB low n ∧ (inB key y other low t n).prs = t.prs ++ (key, y) :: other.prs ∧ ((inB key y other low t n).wf false n ∨ t.pt = true ∧ (inB key y other low t n).almB n)
  | .nil, u, n, h, hl => by
    have h0 : n = 0 := h
    subst h0
    have hl0 : low = 0 := by omega
    subst hl0
    exact ⟨rfl, rfl, .inl (wf_mk_painted (show T.nil.wf true 0 from rfl) ho)⟩
  | .node p l k x r c, u, n, h, hl => by
    by_cases h1 : (n : Int) = low ∧ p = false
    · obtain ⟨e, rfl⟩ := h1
      have e : n = low := by omega
      subst e
      refine ⟨.inl ⟨rfl, rfl⟩, ?_, .inl ?_⟩
      · simp [inB]
      · have : inB key y other n (.node false l k x r c) n = mk true (.node false l k x r c) key y other := by simp [inB]
        rw [this]
        exact wf_mk_painted ⟨h.1, fun z => (by cases z), h.2.2⟩ ho
    · rcases h.2.2 with ⟨rfl, h2, h3⟩ | ⟨rfl, m, rfl, h2, h3⟩
      · obtain ⟨a1, a2, a3⟩ := inB_wf key y ho h3 hl
        have e : inB key y other low (.node true l k x r c) n = mk true l k x (inB key y other low r n) := by simp [inB]
        refine ⟨.inr a1, by rw [e]; simp [a2], .inr ⟨rfl, ?_⟩⟩
        rw [e]
        have hr : r.pt = false := wf_pt h3
        have hw : (inB key y other low r n).wf false n := by
          rcases a3 with a3 | ⟨z, _⟩
          · exact a3
          · rw [hr] at z; cases z
        exact ⟨rfl, by rw [wf_sz h2, wf_sz hw], h2, hw⟩
      · have hne : ((m + 1 : Nat) : Int) ≠ low := fun z => h1 ⟨z, rfl⟩
        have hl' : low ≤ m := by omega
        obtain ⟨a1, a2, a3⟩ := inB_wf key y ho h3 hl'
        have em : ((m + 1 : Nat) : Int) - 1 = m := by omega
        have e : inB key y other low (.node false l k x r c) ((m + 1 : Nat) : Int) = fixB l k x (inB key y other low r m) := by
          show (if ((m + 1 : Nat) : Int) = low ∧ false = false then _ else if false = true then _ else fixB l k x (inB key y other low r (((m + 1 : Nat) : Int) - 1))) = _
          rw [if_neg h1, if_neg (by simp), em]
        refine ⟨.inr ?_, by rw [e]; simp [a2], .inl ?_⟩
        · rw [if_neg (by simp), em]; exact a1
        · rw [e]
          exact fixB_wf h2 (a3.imp id fun z => z.2)
theorem inA_wf (key : Int) (y : Dat) {other : T} {low : Nat} (ho : other.wf true low) : ∀ {t : T} {u : Bool} {n : Nat}, t.wf u n → low ≤ n → t.okA low n ∧ (inA other key y low t n).prs = other.prs ++ (key, y) :: t.prs ∧ ((inA other key y low t n).wf false n ∨ t.pt = true ∧ (inA other key y low t n).almA n)
  | .nil, u, n, h, hl => by
    have h0 : n = 0 := h
    subst h0
    have hl0 : low = 0 := by omega
    subst hl0
    exact ⟨rfl, rfl, .inl (wf_mk_painted ho (show T.nil.wf true 0 from rfl))⟩
  | .node p l k x r c, u, n, h, hl => by
    by_cases h1 : (n : Int) = low ∧ p = false
    · obtain ⟨e, rfl⟩ := h1
      have e : n = low := by omega
      subst e
      refine ⟨.inl ⟨rfl, rfl⟩, ?_, .inl ?_⟩
      · simp [inA]
      · have : inA other key y n (.node false l k x r c) n = mk true other key y (.node false l k x r c) := by simp [inA]
        rw [this]
        exact wf_mk_painted ho ⟨h.1, fun z => (by cases z), h.2.2⟩
    · rcases h.2.2 with ⟨rfl, h2, h3⟩ | ⟨rfl, m, rfl, h2, h3⟩
      · obtain ⟨a1, a2, a3⟩ := inA_wf key y ho h2 hl
        have e : inA other key y low (.node true l k x r c) n = mk true (inA other key y low l n) k x r := by simp [inA]
        refine ⟨.inr a1, by rw [e]; simp [a2], .inr ⟨rfl, ?_⟩⟩
        rw [e]
        have hr : l.pt = false := wf_pt h2
        have hw : (inA other key y low l n).wf false n := by
          rcases a3 with a3 | ⟨z, _⟩
          · exact a3
          · rw [hr] at z; cases z
        exact ⟨rfl, by rw [wf_sz h3, wf_sz hw], hw, h3⟩
      · have hne : ((m + 1 : Nat) : Int) ≠ low := fun z => h1 ⟨z, rfl⟩
        have hl' : low ≤ m := by omega
        obtain ⟨a1, a2, a3⟩ := inA_wf key y ho h2 hl'
        have em : ((m + 1 : Nat) : Int) - 1 = m := by omega
        have e : inA other key y low (.node false l k x r c) ((m + 1 : Nat) : Int) = fixA k x r (inA other key y low l m) := by
          show (if ((m + 1 : Nat) : Int) = low ∧ false = false then _ else if false = true then _ else fixA k x r (inA other key y low l (((m + 1 : Nat) : Int) - 1))) = _
          rw [if_neg h1, if_neg (by simp), em]
        refine ⟨.inr ?_, by rw [e]; simp [a2], .inl ?_⟩
        · rw [if_neg (by simp), em]; exact a1
        · rw [e]
          exact fixA_wf h3 (a3.imp id fun z => z.2)
theorem unp_wf {t : T} {n : Nat} {b : Bool} (h : t.wf false n ∨ b = true ∧ t.almB n) : ∃ m, t.unp.wf true m ∧ n ≤ m ∧ m ≤ n + 1 := by
  rcases h with h | ⟨_, h⟩
  · exact wf_unp h
  · exact ⟨n + 1, alm_unp_B h, by omega, Nat.le_refl _⟩
theorem unp_wfA {t : T} {n : Nat} {b : Bool} (h : t.wf false n ∨ b = true ∧ t.almA n) : ∃ m, t.unp.wf true m ∧ n ≤ m ∧ m ≤ n + 1 := by
  rcases h with h | ⟨_, h⟩
  · exact wf_unp h
  · exact ⟨n + 1, alm_unp_A h, by omega, Nat.le_refl _⟩
/-- two sound trees and a key between -/
theorem put2_wf {one other : T} {n m : Nat} (key : Int) (y : Dat) (h1 : one.wf true n) (h2 : other.wf true m) (hn : n ≤ 14) (hm : m ≤ 14) :
    F_put_together [.d one.d, .d (.int key), .d y, .d other.d] = some (.d (put2 one key y other).d, []) ∧ (put2 one key y other).prs = one.prs ++ (key, y) :: other.prs ∧ ∃ k, (put2 one key y other).wf true k ∧ max n m ≤ k ∧ k ≤ max n m + 1 := by
  have r1 := wf_rk h1
  have r2 := wf_rk h2
  have t1 := wf_ht h1
  have t2 := wf_ht h2
  refine ⟨e_put2 one key y other (by simp at t1; omega) (by simp at t2; omega) (fun h => ?_) (fun h => ?_), ?_⟩
  · rw [r1, r2] at h ⊢
    exact (inB_wf key y h2 h1 (by omega)).1
  · rw [r1, r2] at h ⊢
    exact (inA_wf key y h1 h2 (by omega)).1
  · unfold put2
    rw [r1, r2]
    by_cases c1 : (m : Int) < n
    · rw [if_pos c1]
      obtain ⟨_, a2, a3⟩ := inB_wf key y h2 h1 (by omega)
      obtain ⟨k, k1, k2, k3⟩ := unp_wf a3
      exact ⟨by rw [prs_unp, a2], k, k1, by omega, by omega⟩
    · rw [if_neg c1]
      by_cases c2 : (n : Int) < m
      · rw [if_pos c2]
        obtain ⟨_, a2, a3⟩ := inA_wf key y h1 h2 (by omega)
        obtain ⟨k, k1, k2, k3⟩ := unp_wfA a3
        exact ⟨by rw [prs_unp, a2], k, k1, by omega, by omega⟩
      · rw [if_neg c2]
        have : n = m := by omega
        subst this
        exact ⟨rfl, n + 1, wf_mk (wf_weak h1) (wf_weak h2), by omega, by omega⟩
end Rp
end
set_option Elab.async false
set_option linter.all false
set_option maxRecDepth 100000
/-! A tree cut by a key. -/
noncomputable section
namespace Rp
open PySem PySem.Spec PyProof.Rows L2

abbrev Pr := Int × Dat
def prD (p : Pr) : Dat := .tuple [.int p.1, p.2]
def optD : Option Pr → Dat
  | some p => prD p
  | none => .none
/-- the keys rise -/
def Srt (l : List Pr) : Prop := l.Pairwise fun a b => a.1 < b.1
theorem srt_append {l r : List Pr} : Srt (l ++ r) ↔ Srt l ∧ Srt r ∧ ∀ a ∈ l, ∀ b ∈ r, a.1 < b.1 := List.pairwise_append
theorem srt_cons {a : Pr} {l : List Pr} : Srt (a :: l) ↔ (∀ b ∈ l, a.1 < b.1) ∧ Srt l := List.pairwise_cons
def lessL (key : Int) (l : List Pr) : List Pr := l.filter fun p => decide (p.1 < key)
def grL (key : Int) (l : List Pr) : List Pr := l.filter fun p => decide (key < p.1)
def atL (key : Int) (l : List Pr) : Option Pr := l.find? fun p => decide (p.1 = key)
theorem filter_all {l : List Pr} {f : Pr → Bool} (h : ∀ a ∈ l, f a = true) : l.filter f = l := List.filter_eq_self.mpr h
theorem filter_no {l : List Pr} {f : Pr → Bool} (h : ∀ a ∈ l, f a = false) : l.filter f = [] := List.filter_eq_nil_iff.mpr fun a ha => by rw [h a ha]; simp
theorem find_no {l : List Pr} {f : Pr → Bool} (h : ∀ a ∈ l, f a = false) : l.find? f = none := List.find?_eq_none.mpr fun a ha => by rw [h a ha]; simp
structure CutOk (t : T) (key : Int) (a : T) (m : Option Pr) (b : T) : Prop where
  less : a.prs = lessL key t.prs
  mid : m = atL key t.prs
  gr : b.prs = grL key t.prs
  wa : ∃ n, a.wf true n
  wb : ∃ n, b.wf true n
def cutT : T → Int → T × Option Pr × T
  | .nil, _ => (.nil, none, .nil)
  | .node p l k x r c, key => if key = k then (l.unp, some (k, x), r.unp)
    else if key < k then
      let q := cutT l key
      (q.1, q.2.1, put2 q.2.2 k x r.unp)
    else
      let q := cutT r key
      (put2 l.unp k x q.1, q.2.1, q.2.2)
theorem small_rank {t : T} {u : Bool} {n : Nat} (h : t.wf u n) (hc : t.prs.length ≤ 8000) : n ≤ 12 := rank_small (N := 12) h (by rw [cnt_prs]; omega)
theorem unp_sound {t : T} {u : Bool} {n : Nat} (h : t.wf u n) : ∃ m, t.unp.wf true m := by
  cases u with
  | false => obtain ⟨m, h, _⟩ := wf_unp h; exact ⟨m, h⟩
  | true => rw [unp_of_unpainted (wf_pt h)]; exact ⟨n, h⟩
theorem e_cut (key : Int) : ∀ (f : Nat) (t : T) (u : Bool) (n : Nat), t.wf u n → Srt t.prs → t.prs.length ≤ 8000 → t.ht < f →
    R_cut_at f [.d t.d, .d (.int key)] = some (.d (.tuple [(cutT t key).1.d, optD (cutT t key).2.1, (cutT t key).2.2.d]), []) ∧ CutOk t key (cutT t key).1 (cutT t key).2.1 (cutT t key).2.2
  | 0, t, u, n, _, _, _, h => by omega
  | f + 1, .nil, u, n, hw, hs, hc, hh => by
    refine ⟨?_, rfl, rfl, rfl, ⟨0, rfl⟩, ⟨0, rfl⟩⟩
    refine (run_d (p := 2) (n := 5) (m := m_cut_at (R_cut_at f)) (xs := [T.nil.d, .int key]) rfl).trans ?_
    simp [m_cut_at, cutT, optD]
  | f + 1, .node p l k x r c, u, n, hw, hs, hc, hh => by
    have hs' : Srt (l.prs ++ (k, x) :: r.prs) := hs
    rw [srt_append, srt_cons] at hs'
    obtain ⟨s1, ⟨s2, s3⟩, s4⟩ := hs'
    have hlen : l.prs.length + (r.prs.length + 1) ≤ 8000 := by
      have := hc
      rw [prs_node, List.length_append, List.length_cons] at this
      omega
    have hht : max l.ht r.ht + 1 < f + 1 := hh
    have hl : ∃ (ul : Bool) (nl : Nat), l.wf ul nl := by
      rcases hw.2.2 with ⟨_, h1, _⟩ | ⟨_, m, _, h1, _⟩
      · exact ⟨_, _, h1⟩
      · exact ⟨_, _, h1⟩
    have hr : ∃ (ur : Bool) (nr : Nat), r.wf ur nr := by
      rcases hw.2.2 with ⟨_, _, h1⟩ | ⟨_, m, _, _, h1⟩
      · exact ⟨_, _, h1⟩
      · exact ⟨_, _, h1⟩
    obtain ⟨ul, nl, hl⟩ := hl
    obtain ⟨ur, nr, hr⟩ := hr
    have lk : ∀ a ∈ l.prs, a.1 < k := fun a ha => s4 a ha _ List.mem_cons_self
    have kr : ∀ a ∈ r.prs, k < a.1 := fun a ha => s2 a ha
    have e0 := run_d (p := 2) (n := 5) (m := m_cut_at (R_cut_at f)) (xs := [(T.node p l k x r c).d, .int key]) rfl
    have el := e_unp l
    have er := e_unp r
    by_cases h1 : key = k
    · subst h1
      have ec : cutT (.node p l key x r c) key = (l.unp, some (key, x), r.unp) := by simp [cutT]
      refine ⟨e0.trans ?_, ?_⟩
      · simp [m_cut_at, el, er, ec, optD, prD]
      · rw [ec]
        refine ⟨?_, ?_, ?_, unp_sound hl, unp_sound hr⟩
        · show l.unp.prs = lessL key (l.prs ++ (key, x) :: r.prs)
          unfold lessL
          rw [prs_unp, List.filter_append, filter_all (fun a ha => by simp [lk a ha]), List.filter_cons, if_neg (by simp), filter_no (fun a ha => by have := kr a ha; simp; omega), List.append_nil]
        · show some (key, x) = atL key (l.prs ++ (key, x) :: r.prs)
          unfold atL
          rw [List.find?_append, find_no (fun a ha => by have := lk a ha; simp; omega)]
          simp
        · show r.unp.prs = grL key (l.prs ++ (key, x) :: r.prs)
          unfold grL
          rw [prs_unp, List.filter_append, filter_no (fun a ha => by have := lk a ha; simp; omega), List.filter_cons, if_neg (by simp), filter_all (fun a ha => by simp [kr a ha]), List.nil_append]
    · by_cases h2 : key < k
      · obtain ⟨ih, C⟩ := e_cut key f l ul nl hl s1 (by omega) (by omega)
        have ec : cutT (.node p l k x r c) key = ((cutT l key).1, (cutT l key).2.1, put2 (cutT l key).2.2 k x r.unp) := by simp [cutT, h1, h2]
        generalize cutT l key = q at ih C ec
        obtain ⟨qa, qm, qb⟩ := q
        simp only at ih C ec
        obtain ⟨nb, wb⟩ := C.wb
        obtain ⟨nru, wru⟩ := unp_sound hr
        have hqb : qb.prs.length ≤ 8000 := by
          rw [C.gr]
          have : (grL key l.prs).length ≤ l.prs.length := List.length_filter_le _ _
          omega
        obtain ⟨p1, p2, p3⟩ := put2_wf k x wb wru (by have := small_rank wb hqb; omega) (by have := small_rank wru (by rw [prs_unp]; omega); omega)
        obtain ⟨n3, w3, _⟩ := p3
        refine ⟨e0.trans ?_, ?_⟩
        · have h1' : ¬ key = k := h1
          simp [m_cut_at, ih, h1, h2, el, er, ec, p1]
        · rw [ec]
          refine ⟨?_, ?_, ?_, C.wa, ⟨n3, w3⟩⟩
          · show qa.prs = lessL key (l.prs ++ (k, x) :: r.prs)
            have := C.less
            unfold lessL at this ⊢
            rw [this, List.filter_append, List.filter_cons, if_neg (by simp; omega), filter_no (l := r.prs) (fun a ha => by have := kr a ha; simp; omega), List.append_nil]
          · show qm = atL key (l.prs ++ (k, x) :: r.prs)
            have := C.mid
            unfold atL at this ⊢
            rw [this, List.find?_append, find_no (l := (k, x) :: r.prs) (fun a ha => by
              rcases List.mem_cons.mp ha with e | ha
              · subst e; simp; omega
              · have := kr a ha; simp; omega)]
            simp
          · show (put2 qb k x r.unp).prs = grL key (l.prs ++ (k, x) :: r.prs)
            have := C.gr
            unfold grL at this ⊢
            rw [p2, prs_unp, this, List.filter_append, List.filter_cons, if_pos (by simp [h2]), filter_all (l := r.prs) (fun a ha => by have := kr a ha; simp; omega)]
      · obtain ⟨ih, C⟩ := e_cut key f r ur nr hr s3 (by omega) (by omega)
        have ec : cutT (.node p l k x r c) key = (put2 l.unp k x (cutT r key).1, (cutT r key).2.1, (cutT r key).2.2) := by simp [cutT, h1, h2]
        generalize cutT r key = q at ih C ec
        obtain ⟨qa, qm, qb⟩ := q
        simp only at ih C ec
        obtain ⟨na, wa⟩ := C.wa
        obtain ⟨nlu, wlu⟩ := unp_sound hl
        have hqa : qa.prs.length ≤ 8000 := by
          rw [C.less]
          have : (lessL key r.prs).length ≤ r.prs.length := List.length_filter_le _ _
          omega
        obtain ⟨p1, p2, p3⟩ := put2_wf k x wlu wa (by have := small_rank wlu (by rw [prs_unp]; omega); omega) (by have := small_rank wa hqa; omega)
        obtain ⟨n3, w3, _⟩ := p3
        have h3 : k < key := by omega
        refine ⟨e0.trans ?_, ?_⟩
        · simp [m_cut_at, ih, h1, h2, el, er, ec, p1]
        · rw [ec]
          refine ⟨?_, ?_, ?_, ⟨n3, w3⟩, C.wb⟩
          · show (put2 l.unp k x qa).prs = lessL key (l.prs ++ (k, x) :: r.prs)
            have := C.less
            unfold lessL at this ⊢
            rw [p2, prs_unp, this, List.filter_append, List.filter_cons, if_pos (by simp [h3]), filter_all (l := l.prs) (fun a ha => by have := lk a ha; simp; omega)]
          · show qm = atL key (l.prs ++ (k, x) :: r.prs)
            have := C.mid
            unfold atL at this ⊢
            rw [this, List.find?_append, find_no (l := l.prs) (fun a ha => by have := lk a ha; simp; omega), List.find?_cons_of_neg (by simp; omega)]
            simp
          · show qb.prs = grL key (l.prs ++ (k, x) :: r.prs)
            have := C.gr
            unfold grL at this ⊢
            rw [this, List.filter_append, filter_no (l := l.prs) (fun a ha => by have := lk a ha; simp; omega), List.filter_cons, if_neg (by simp; omega), List.nil_append]
end Rp
end
set_option Elab.async false
set_option linter.all false
set_option maxRecDepth 100000
/-! The laws' own material: cells, things, rows. -/
noncomputable section
namespace Rp
open PySem PySem.Spec PyProof.Rows L2

/-! ### comprehensions of pure elements -/
theorem compL_pure {j : Nat} {t : M Bool} {e : M Dat} {p : Dat → Bool} {f : Dat → Dat} {S : Sl} (hS : S.set j .no = S) : ∀ {xs : List Dat}, (∀ x ∈ xs, t (S.set j (.d x)) = some (p x, S.set j (.d x))) → (∀ x ∈ xs, p x = true → e (S.set j (.d x)) = some (f x, S.set j (.d x))) →
    compL j t e xs S = some ((xs.filter p).map f, S)
  | [], _, _ => rfl
  | x :: xs, ht, he => by
    have ih := compL_pure hS (xs := xs) (fun y hy => ht y (List.mem_cons_of_mem _ hy)) (fun y hy => he y (List.mem_cons_of_mem _ hy))
    unfold compL
    rw [ht x List.mem_cons_self]
    cases hp : p x with
    | true =>
      simp only [he x List.mem_cons_self hp, List.set_set, hS, ih, List.filter_cons_of_pos hp, List.map_cons]
    | false =>
      simp only [List.set_set, hS, ih]
      rw [List.filter_cons_of_neg (by rw [hp]; simp)]
theorem compL_map {j : Nat} {e : M Dat} {f : Dat → Dat} {S : Sl} (hS : S.set j .no = S) {xs : List Dat} (he : ∀ x ∈ xs, e (S.set j (.d x)) = some (f x, S.set j (.d x))) :
    compL j Rp.tYes e xs S = some (xs.map f, S) := by
  have := compL_pure (t := Rp.tYes) (p := fun _ => true) hS (fun x _ => rfl) (fun x hx _ => he x hx)
  rw [this, List.filter_eq_self.mpr (fun _ _ => rfl)]
/-- over the images of a list -/
theorem compL_pureN {α : Type} {g : α → Dat} {j : Nat} {t : M Bool} {e : M Dat} {p : α → Bool} {f : α → Dat} {S : Sl} (hS : S.set j .no = S) : ∀ {xs : List α}, (∀ x ∈ xs, t (S.set j (.d (g x))) = some (p x, S.set j (.d (g x)))) → (∀ x ∈ xs, p x = true → e (S.set j (.d (g x))) = some (f x, S.set j (.d (g x)))) →
    compL j t e (xs.map g) S = some ((xs.filter p).map f, S)
  | [], _, _ => rfl
  | x :: xs, ht, he => by
    have ih := compL_pureN hS (xs := xs) (fun y hy => ht y (List.mem_cons_of_mem _ hy)) (fun y hy => he y (List.mem_cons_of_mem _ hy))
    rw [List.map_cons]
    unfold compL
    rw [ht x List.mem_cons_self]
    cases hp : p x with
    | true =>
      simp only [he x List.mem_cons_self hp, List.set_set, hS, ih, List.filter_cons_of_pos hp, List.map_cons]
    | false =>
      simp only [List.set_set, hS, ih]
      rw [List.filter_cons_of_neg (by rw [hp]; simp)]
theorem compL_mapN {α : Type} {g : α → Dat} {j : Nat} {e : M Dat} {f : α → Dat} {S : Sl} (hS : S.set j .no = S) {xs : List α} (he : ∀ x ∈ xs, e (S.set j (.d (g x))) = some (f x, S.set j (.d (g x)))) :
    compL j Rp.tYes e (xs.map g) S = some (xs.map f, S) := by
  have := compL_pureN (t := Rp.tYes) (p := fun _ => true) (g := g) hS (fun x _ => rfl) (fun x hx _ => he x hx)
  rw [this, List.filter_eq_self.mpr (fun _ _ => rfl)]
theorem rangeD_eq (lo : Int) (n : Nat) : rangeD lo (lo + n) = (List.range n).map fun (i : Nat) => PyData.int (lo + i) := by
  unfold rangeD
  have : (lo + (n : Int) - lo).toNat = n := by omega
  rw [this]
theorem rangeD0 (n : Nat) : rangeD 0 (n : Int) = (List.range n).map fun (i : Nat) => PyData.int (i : Int) := by
  have := rangeD_eq 0 n
  simp only [Int.zero_add] at this
  exact this
theorem mem_rangeD0 {n : Nat} {x : Dat} (h : x ∈ rangeD 0 (n : Int)) : ∃ i : Nat, i < n ∧ x = .int (i : Int) := by
  rw [rangeD0] at h
  obtain ⟨i, hi, rfl⟩ := List.mem_map.mp h
  exact ⟨i, List.mem_range.mp hi, rfl⟩
theorem inLine_nat {n : Nat} (h : n ≤ 100000) : inLine (n : Int) = true := by
  unfold inLine
  rw [Nat.ble_eq]
  omega
/-! ### cells -/
def cellAt (ns : List Int) (k : Nat) : Int := ns.getD k 0
abbrev scr (ns : List Int) : FA := .d (.list (ns.map PyData.int))
theorem e_cell (ns : List Int) (k : Nat) : F_law_cell_at [scr ns, .d (.int (k : Int))] = some (.d (.int (cellAt ns k)), []) := by
  refine (run_d (p := 2) (n := 2) (m := m_law_cell_at) (xs := [.list (ns.map PyData.int), .int (k : Int)]) rfl).trans ?_
  unfold cellAt
  by_cases h : k < ns.length
  · have h' : (k : Int) < ns.length := by omega
    simp [m_law_cell_at, h', atI_ofNat, h, List.getD_eq_getElem?_getD]
  · have h' : ¬ (k : Int) < ns.length := by omega
    simp [m_law_cell_at, h', List.getD_eq_getElem?_getD, List.getElem?_eq_none (by omega : ns.length ≤ k)]
/-- not too great a number -/
def sm (c : Int) : Prop := Builtin.Int.intBits c ≤ 2000000
theorem sm_cell {ns : List Int} (h : ∀ z ∈ ns, Builtin.Int.intBits z ≤ 1048576) (k : Nat) : Builtin.Int.intBits (cellAt ns k) ≤ 1048576 := by
  unfold cellAt
  rw [List.getD_eq_getElem?_getD]
  cases e : ns[k]? with
  | none => decide
  | some z => exact h z (List.mem_of_getElem? e)
theorem bits_nat {k : Nat} (h : k < 2 ^ 64) : Builtin.Int.intBits (k : Int) ≤ 64 := intBits_le_64 (by omega) (by omega)
theorem sm_add {c : Int} {k : Nat} (h : Builtin.Int.intBits c ≤ 1048576) (hk : k < 2 ^ 64) : sm (c + k) := by
  have := intBits_add_le h (bits_nat hk)
  unfold sm
  omega
theorem e_whole (i : Int) : F_law_whole [.d (.int i)] = some (.d (.bool true), []) := rfl
/-! ### texts, things -/
theorem e_text (c s : Int) (hs : 0 ≤ s) (hs2 : s < 90) : ∃ z : Str, F_law_text [.d (.int c), .d (.int s)] = some (.d (.str z), []) := by
  have e0 := run_d (p := 2) (n := 4) (m := m_law_text) (xs := [.int c, .int s]) rfl
  let A : Str := " !\"#$&'()*+,-./0123456789:;<=>?@ABCDEFGHIJKLMNOPQRSTUVWXYZ[\\]^_`"
  let B : Str := "abcdefghijklmnopqrstuvwxyz{|}~\n\t"
  have hA : A.length ≤ 100 := by decide +kernel
  have hB : B.length ≤ 100 := by decide +kernel
  have hAB : (A ++ B).length ≤ 200 := by rw [Str.length_append]; omega
  have hABB : ((A ++ B) ++ (A ++ B)).length ≤ 400 := by rw [Str.length_append]; omega
  generalize hu : cutS ((A ++ B) ++ (A ++ B)) (some (c % 96)) (some (c % 96 + s)) = u
  have hu1 : u.length ≤ 400 := by rw [← hu]; exact Nat.le_trans (cutS_length _ _ _) hABB
  have e1 : addD (.str A) (.str B) = some (.str (A ++ B)) := by
    show (if A.length + B.length ≤ 100000 then some (PyData.str (A ++ B)) else none) = _
    rw [if_pos (by omega)]
  have e2 : addD (.str (A ++ B)) (.str (A ++ B)) = some (.str ((A ++ B) ++ (A ++ B))) := by
    show (if (A ++ B).length + (A ++ B).length ≤ 100000 then some (PyData.str ((A ++ B) ++ (A ++ B))) else none) = _
    rw [if_pos (by omega)]
  have hl4 : ((A ++ B) ++ (A ++ B)).length ≤ 100000 := by omega
  have hu2 : u.length ≤ 100000 := by omega
  by_cases hc : c / 96 % 3 = 1
  · generalize hv : cutS u (some (-1)) none = v
    have hv1 : v.length ≤ 400 := by rw [← hv]; exact Nat.le_trans (cutS_length _ _ _) hu1
    have hm : mulD (.str v) (.int 3) = some (.str ⟨(List.replicate (3 : Int).toNat v.cps.toList).flatten.toArray⟩) := by
      show (if 1 ≤ (3 : Int) ∧ (3 : Int) ≤ 1000 ∧ v.length ≤ 1000 then _ else none) = _
      rw [if_pos ⟨by decide, by decide, by omega⟩]
    generalize hw : (⟨(List.replicate (3 : Int).toNat v.cps.toList).flatten.toArray⟩ : Str) = w at hm
    have hw1 : w.length ≤ 1200 := by
      rw [← hw]
      show (List.replicate (3 : Int).toNat v.cps.toList).flatten.toArray.size ≤ 1200
      rw [List.size_toArray, List.length_flatten, List.map_replicate, List.sum_replicate_nat]
      have : v.cps.toList.length = v.length := by rw [Array.length_toList]; rfl
      rw [this, show (3 : Int).toNat = 3 from rfl]
      omega
    have e3 : addD (.str u) (.str w) = some (.str (u ++ w)) := by
      show (if u.length + w.length ≤ 100000 then some (PyData.str (u ++ w)) else none) = _
      rw [if_pos (by omega)]
    generalize hx : cutS u none (some 9) = x
    have hx1 : x.length ≤ 400 := by rw [← hx]; exact Nat.le_trans (cutS_length _ _ _) hu1
    have huw : (u ++ w).length ≤ 1600 := by rw [Str.length_append]; omega
    have e4 : addD (.str (u ++ w)) (.str x) = some (.str ((u ++ w) ++ x)) := by
      show (if (u ++ w).length + x.length ≤ 100000 then some (PyData.str ((u ++ w) ++ x)) else none) = _
      rw [if_pos (by omega)]
    refine ⟨(u ++ w) ++ x, e0.trans ?_⟩
    simp [m_law_text, A, B] at e1 e2 hl4 hu hv hx e3 e4 hm hc hu2 ⊢
    simp [e1, e2, hl4, hu, hc, hu2, hv, hm, e3, hx, e4]
  · refine ⟨u, e0.trans ?_⟩
    simp [m_law_text, A, B] at e1 e2 hl4 hu hc ⊢
    simp [e1, e2, hl4, hu, hc]
end Rp
end
set_option Elab.async false
set_option linter.all false
set_option maxRecDepth 100000
noncomputable section
namespace Rp
open PySem PySem.Spec PyProof.Rows L2

/-- data without lists, tuples at most n deep -/
def plain : Nat → Dat → Bool
  | 0, x => match x with
    | .none => true
    | .bool _ => true
    | .int _ => true
    | .str _ => true
    | _ => false
  | n + 1, x => match x with
    | .none => true
    | .bool _ => true
    | .int _ => true
    | .str _ => true
    | .tuple xs => decide (xs.length ≤ 1000) && xs.all (plain n)
    | _ => false
@[simp] theorem plain_none {n : Nat} : plain n .none = true := by cases n <;> rfl
@[simp] theorem plain_bool {n : Nat} {b : Bool} : plain n (.bool b) = true := by cases n <;> rfl
@[simp] theorem plain_int {n : Nat} {b : Int} : plain n (.int b) = true := by cases n <;> rfl
@[simp] theorem plain_str {n : Nat} {b : Str} : plain n (.str b) = true := by cases n <;> rfl
@[simp] theorem plain_tup {n : Nat} {xs : List Dat} : plain (n + 1) (.tuple xs) = (decide (xs.length ≤ 1000) && xs.all (plain n)) := rfl
theorem plain_mono : ∀ {n : Nat} {x : Dat}, plain n x = true → plain (n + 1) x = true
  | n, .none, _ => by simp
  | n, .bool _, _ => by simp
  | n, .int _, _ => by simp
  | n, .str _, _ => by simp
  | 0, .tuple xs, h => by cases h
  | n + 1, .tuple xs, h => by
    rw [plain_tup, Bool.and_eq_true] at h ⊢
    refine ⟨h.1, ?_⟩
    rw [List.all_eq_true] at h ⊢
    exact fun y hy => plain_mono (h.2 y hy)
  | 0, .list xs, h => by cases h
  | n + 1, .list xs, h => by cases h
  | 0, .dict xs, h => by cases h
  | n + 1, .dict xs, h => by cases h
theorem plain_le {n m : Nat} {x : Dat} (h : plain n x = true) (hl : n ≤ m) : plain m x = true := by
  induction hl with
  | refl => exact h
  | step _ ih => exact plain_mono ih
theorem pow_i {a : Int} {b : Nat} (h : Builtin.Int.intBits a * b ≤ 134217728) : powD (.int a) (.int (b : Int)) = some (.int (a ^ b)) := by
  show (if Nat.ble (Builtin.Int.intBits a * b) 134217728 = true then some (PyData.int (a ^ b)) else none) = _
  rw [if_pos (Nat.ble_eq.mpr h)]
theorem pow_10 {b : Nat} (h : b ≤ 100) : powD (.int 10) (.int (b : Int)) = some (.int (10 ^ b)) := pow_i (by
  have : Builtin.Int.intBits 10 = 4 := by decide
  rw [this]; omega)
@[simp] theorem pow_59 : powD (.int 10) (.int 59) = some (.int (10 ^ 59)) := pow_10 (b := 59) (by omega)
@[simp] theorem pow_58 : powD (.int 10) (.int 58) = some (.int (10 ^ 58)) := pow_10 (b := 58) (by omega)
@[simp] theorem pow_56 : powD (.int 10) (.int 56) = some (.int (10 ^ 56)) := pow_10 (b := 56) (by omega)
@[simp] theorem pow_60 : powD (.int 10) (.int 60) = some (.int (10 ^ 60)) := pow_10 (b := 60) (by omega)
/-- the nested tuple -/
theorem nest_loop (a b c : SV) : ∀ (ks : List Int) (m : Nat) (x : Dat) (w : SV), plain (m + 1) x = true →
    ∃ z w', forL (gN 3) (sAsg 4 (mTup (mCons (mV 4) (mCons (mV 3) mNil)))) (ks.map PyData.int) [a, b, c, w, .d x] = some (.nx [a, b, c, w', .d z]) ∧ plain (m + 1 + ks.length) z = true
  | [], m, x, w, h => ⟨x, w, rfl, h⟩
  | k :: ks, m, x, w, h => by
    obtain ⟨z, w', e, hz⟩ := nest_loop a b c ks (m + 1) (.tuple [x, .int k]) (.d (.int k)) (by simp [h])
    refine ⟨z, w', ?_, by rw [List.length_cons, show m + 1 + (ks.length + 1) = m + 1 + 1 + ks.length by omega]; exact hz⟩
    rw [List.map_cons, forL_cons]
    simpa using e
theorem range_ints (n : Nat) : rangeD 0 (n : Int) = ((List.range n).map fun (i : Nat) => (i : Int)).map PyData.int := by
  rw [rangeD0, List.map_map]; rfl
theorem all_range_ints {n : Nat} {f : Nat → Int} : ((List.range n).map fun (i : Nat) => PyData.int (f i)).all (plain 0) = true := by
  rw [List.all_eq_true]
  intro x hx
  obtain ⟨i, _, rfl⟩ := List.mem_map.mp hx
  rfl
section
variable {c : Int} {s : Nat} {z : Str} (hs : c / 12 % 90 = s)
include hs
theorem thing_0 (hk : c % 12 = 0) (hz : F_law_text [.d (.int (c / 12)), .d (.int s)] = some (.d (.str z), [])) : m_law_thing [.d (.int c), .no, .no, .no, .no] = some (.rt (.d (.str z)) [.d (.int c), .d (.int 0), .d (.int s), .no, .no]) := by
  simp [m_law_thing, hk, hs, hz]
theorem thing_1 (hk : c % 12 = 1) (hp : powD (.int c) (.int 5) = some (.int (c ^ 5))) : ∃ k S, m_law_thing [.d (.int c), .no, .no, .no, .no] = some (.rt (.d (.int k)) S) := by
  simp [m_law_thing, hk, hs, hp]
theorem thing_2 (hk : c % 12 = 2) (h90 : s < 90) : ∃ x S, m_law_thing [.d (.int c), .no, .no, .no, .no] = some (.rt (.d x) S) ∧ plain 10 x = true := by
  obtain ⟨n, hn⟩ : ∃ n : Nat, (s : Int) % 30 = n := ⟨((s : Int) % 30).toNat, by omega⟩
  have hn1 : n < 30 := by omega
  have hc : compL 3 Rp.tYes (mBin modD (mBin fdivD (mV 0) (mBin addD (mV 3) (mC (.int 1)))) (mC (.int 9))) (rangeD 0 (n : Int)) [.d (.int c), .d (.int 2), .d (.int s), .no, .no] =
      some (((List.range n).map fun (i : Nat) => PyData.int (c / ((i : Int) + 1) % 9)), [.d (.int c), .d (.int 2), .d (.int s), .no, .no]) := by
    rw [compL_map (f := fun x => match x with | .int i => .int (c / (i + 1) % 9) | _ => .none) rfl (fun x hx => ?_)]
    · rw [rangeD0, List.map_map]; rfl
    · obtain ⟨i, hi, rfl⟩ := mem_rangeD0 hx
      have : (0 : Int) < (i : Int) + 1 ∧ (i : Int) + 1 < 1073741824 := by omega
      simp [this]
  have hl : inLine (n : Int) = true := inLine_nat (by omega)
  have hlen : (rangeD 0 (n : Int)).length ≤ 100000 := by rw [rangeD_length]; omega
  refine ⟨.tuple ((List.range n).map fun (i : Nat) => PyData.int (c / ((i : Int) + 1) % 9)), _, by simp [m_law_thing, hk, hs, hn, hl, hc, hlen]; rfl, ?_⟩
  rw [plain_tup, Bool.and_eq_true]
  refine ⟨by simp; omega, ?_⟩
  rw [List.all_eq_true]
  intro x hx
  obtain ⟨i, _, rfl⟩ := List.mem_map.mp hx
  simp
theorem thing_3 (hk : c % 12 = 3) : ∃ x S, m_law_thing [.d (.int c), .no, .no, .no, .no] = some (.rt (.d x) S) ∧ plain 10 x = true := by
  obtain ⟨n, hn⟩ : ∃ n : Nat, (s : Int) % 9 = n := ⟨((s : Int) % 9).toNat, by omega⟩
  have hn1 : n < 9 := by omega
  obtain ⟨z, w, e, hz⟩ := nest_loop (.d (.int c)) (.d (.int 3)) (.d (.int s)) ((List.range n).map fun (i : Nat) => (i : Int)) 0 (.tuple [.bool (decide (c % 2 = 1)), .int (c % 3)]) .no (by simp)
  rw [← range_ints] at e
  have hl : inLine (n : Int) = true := inLine_nat (by omega)
  refine ⟨z, _, by simp [m_law_thing, hk, hs, hn, hl, e]; rfl, plain_le hz (by simp; omega)⟩
theorem thing_4 (hk : c % 12 = 4) (hz : F_law_text [.d (.int (c / 12)), .d (.int s)] = some (.d (.str z), [])) : ∃ x S, m_law_thing [.d (.int c), .no, .no, .no, .no] = some (.rt (.d x) S) ∧ plain 10 x = true := by
  refine ⟨.tuple [.none, .str z, .int (-(s : Int)), .tuple [.str "", .tuple [.none]]], _, by simp [m_law_thing, hk, hs, hz]; rfl, by simp⟩
theorem thing_5 {k : Int} (hk : c % 12 = k) (h5 : 5 ≤ k) (h12 : k < 12) : ∃ x S, m_law_thing [.d (.int c), .no, .no, .no, .no] = some (.rt (.d x) S) ∧ plain 10 x = true := by
  have e : m_law_thing [.d (.int c), .no, .no, .no, .no] = bnd (opt (atI [PyData.none, .str "", .bool true, .bool false, .int 0, .tuple [.bool true, .tuple [.int 1, .str "x"]], .tuple []] (k - 5)) [.d (.int c), .d (.int k), .d (.int s), .no, .no]) retK := by
    have h0 : ¬ k = 0 := by omega
    have h1 : ¬ k = 1 := by omega
    have h2 : ¬ k = 2 := by omega
    have h3 : ¬ k = 3 := by omega
    have h4 : ¬ k = 4 := by omega
    simp [m_law_thing, hk, hs, h0, h1, h2, h3, h4]
  rw [e]
  have cases7 : k = 5 ∨ k = 6 ∨ k = 7 ∨ k = 8 ∨ k = 9 ∨ k = 10 ∨ k = 11 := by omega
  rcases cases7 with r | r | r | r | r | r | r <;> subst r
  · exact ⟨_, _, rfl, rfl⟩
  · exact ⟨_, _, rfl, rfl⟩
  · exact ⟨_, _, rfl, rfl⟩
  · exact ⟨_, _, rfl, rfl⟩
  · exact ⟨_, _, rfl, rfl⟩
  · exact ⟨_, _, rfl, rfl⟩
  · exact ⟨_, _, rfl, rfl⟩
end
theorem e_thing (c : Int) (h : sm c) : ∃ x, F_law_thing [.d (.int c)] = some (.d x, []) ∧ plain 10 x = true := by
  have e0 := run_d (p := 1) (n := 5) (m := m_law_thing) (xs := [.int c]) rfl
  have hk0 : 0 ≤ c % 12 := Int.emod_nonneg _ (by decide)
  have hk1 : c % 12 < 12 := Int.emod_lt_of_pos _ (by decide)
  have hs0 : 0 ≤ c / 12 % 90 := Int.emod_nonneg _ (by decide)
  have hs1 : c / 12 % 90 < 90 := Int.emod_lt_of_pos _ (by decide)
  obtain ⟨s, hs⟩ : ∃ s : Nat, c / 12 % 90 = s := ⟨(c / 12 % 90).toNat, by omega⟩
  obtain ⟨z, hz⟩ := e_text (c / 12) s (by omega) (by omega)
  have fin : (∃ x S, m_law_thing [.d (.int c), .no, .no, .no, .no] = some (.rt (.d x) S) ∧ plain 10 x = true) → ∃ x, F_law_thing [.d (.int c)] = some (.d x, []) ∧ plain 10 x = true := fun ⟨x, S, e, p⟩ => by
    refine ⟨x, e0.trans ?_, p⟩
    show (match m_law_thing [.d (.int c), .no, .no, .no, .no] with | some o => _ | none => none) = _
    rw [e]
    rfl
  apply fin
  by_cases h0 : c % 12 = 0
  · exact ⟨_, _, thing_0 hs h0 hz, by simp⟩
  by_cases h1 : c % 12 = 1
  · have hp : powD (.int c) (.int 5) = some (.int (c ^ 5)) := by
      exact pow_i (b := 5) (by unfold sm at h; omega)
    obtain ⟨k, S, e⟩ := thing_1 hs h1 hp
    exact ⟨_, _, e, by simp⟩
  by_cases h2 : c % 12 = 2
  · exact thing_2 hs h2 (by omega)
  by_cases h3 : c % 12 = 3
  · exact thing_3 hs h3
  by_cases h4 : c % 12 = 4
  · exact thing_4 hs h4 hz
  exact thing_5 hs rfl (by omega) hk1
/-- the thing of a cell -/
def thingD (c : Int) : Dat := match F_law_thing [.d (.int c)] with
  | some (.d x, _) => x
  | _ => .none
theorem thing_e {c : Int} (h : sm c) : F_law_thing [.d (.int c)] = some (.d (thingD c), []) := by
  obtain ⟨x, e, _⟩ := e_thing c h
  unfold thingD
  rw [e]
theorem thing_plain {c : Int} (h : sm c) : plain 10 (thingD c) = true := by
  obtain ⟨x, e, p⟩ := e_thing c h
  unfold thingD
  rw [e]
  exact p
end Rp
end
set_option Elab.async false
set_option linter.all false
set_option maxRecDepth 100000
/-! Rows that rise; trees grown. -/
noncomputable section
namespace Rp
open PySem PySem.Spec PyProof.Rows L2

theorem mul_i {i j : Int} (h : smallI j = true) : mulD (.int i) (.int j) = some (.int (i * j)) := by
  show (if smallI i || smallI j then some (PyData.int (i * j)) else none) = _
  rw [h, Bool.or_true, if_pos rfl]
theorem mul_i' {i j : Int} (h : smallI i = true) : mulD (.int i) (.int j) = some (.int (i * j)) := by
  show (if smallI i || smallI j then some (PyData.int (i * j)) else none) = _
  rw [h, Bool.true_or, if_pos rfl]
theorem small_of {i : Int} (h : i.natAbs ≤ 9223372036854775808) : smallI i = true := Nat.ble_eq.mpr h
def stepOf (c : Int) : Int := if c % 4 = 0 then 1 else if c % 4 = 1 then 2 else if c % 4 = 2 then 1 + c / 7 % 90 else 1 + c / 7 % 10 ^ 56
def baseOf (c : Int) : Int := if c / 5 % 4 = 0 then c / 4 % 41 - 20 else if c / 5 % 4 = 1 then -7 else if c / 5 % 4 = 2 then c / 4 % 10 ^ 59 - 5 * 10 ^ 58 else -(10 ^ 59)
def moreOf (c : Int) : Int := c / 11 % 9
def keyAt (c : Int) (k : Nat) : Int := baseOf c + stepOf c * k + (k : Int) * k * moreOf c / 7
def rowL (c : Int) (m : Nat) : List Pr := (List.range m).map fun k => (keyAt c k, thingD (c + k))
theorem at4 {α : Type} {a b c d : α} {i : Int} (h0 : 0 ≤ i) (h4 : i < 4) : atI [a, b, c, d] i = some (if i = 0 then a else if i = 1 then b else if i = 2 then c else d) := by
  have : i = 0 ∨ i = 1 ∨ i = 2 ∨ i = 3 := by omega
  rcases this with r | r | r | r <;> subst r <;> rfl
theorem e_rising (c : Int) (m : Nat) (hc : Builtin.Int.intBits c ≤ 1048576) (hm : m ≤ 5000) : F_law_rising [.d (.int c), .d (.int (m : Int))] = some (.f (.l ((rowL c m).map prD)), []) := by
  have e0 := run_d (p := 2) (n := 6) (m := m_law_rising) (xs := [.int c, .int (m : Int)]) rfl
  refine e0.trans ?_
  have h1 : 0 ≤ c % 4 := Int.emod_nonneg _ (by decide)
  have h2 : c % 4 < 4 := Int.emod_lt_of_pos _ (by decide)
  have h3 : 0 ≤ c / 5 % 4 := Int.emod_nonneg _ (by decide)
  have h4 : c / 5 % 4 < 4 := Int.emod_lt_of_pos _ (by decide)
  have hmo : 0 ≤ moreOf c ∧ moreOf c < 9 := ⟨Int.emod_nonneg _ (by decide), Int.emod_lt_of_pos _ (by decide)⟩
  have e58 : mulD (.int 5) (.int (10 ^ 58)) = some (.int (5 * 10 ^ 58)) := mul_i' (small_of (by decide))
  have p56 : (0 : Int) < 10 ^ 56 := by decide
  have p59 : (0 : Int) < 10 ^ 59 := by decide
  have a1 : atI [PyData.int 1, .int 2, .int (1 + c / 7 % 90), .int (1 + c / 7 % 10 ^ 56)] (c % 4) = some (.int (stepOf c)) := by
    rw [at4 h1 h2]
    unfold stepOf
    by_cases x0 : c % 4 = 0
    · simp [x0]
    · by_cases x1 : c % 4 = 1
      · simp [x1]
      · by_cases x2 : c % 4 = 2
        · simp [x2]
        · simp [x0, x1, x2]
  have a2 : atI [PyData.int (c / 4 % 41 - 20), .int (-7), .int (c / 4 % 10 ^ 59 - 5 * 10 ^ 58), .int (-(10 ^ 59))] (c / 5 % 4) = some (.int (baseOf c)) := by
    rw [at4 h3 h4]
    unfold baseOf
    by_cases x0 : c / 5 % 4 = 0
    · simp [x0]
    · by_cases x1 : c / 5 % 4 = 1
      · simp [x1]
      · by_cases x2 : c / 5 % 4 = 2
        · simp [x2]
        · simp [x0, x1, x2]
  generalize hst : stepOf c = st at a1
  generalize hba : baseOf c = ba at a2
  have hlen : (rangeD 0 (m : Int)).length ≤ 100000 := by rw [rangeD_length]; omega
  have hl : inLine (m : Int) = true := inLine_nat (by omega)
  have hcomp : compL 5 Rp.tYes (mTup (mCons (mBin addD (mBin addD (mV 3) (mBin mulD (mV 2) (mV 5))) (mBin fdivD (mBin mulD (mBin mulD (mV 5) (mV 5)) (mV 4)) (mC (.int 7)))) (mCons (mCall F_law_thing (aCons (mBin addD (mV 0) (mV 5)) aNil)) mNil))) (rangeD 0 (m : Int))
      [.d (.int c), .d (.int (m : Int)), .d (.int st), .d (.int ba), .d (.int (moreOf c)), .no] = some ((rowL c m).map prD, [.d (.int c), .d (.int (m : Int)), .d (.int st), .d (.int ba), .d (.int (moreOf c)), .no]) := by
    rw [rangeD0, compL_mapN (f := fun (i : Nat) => prD (keyAt c i, thingD (c + i))) rfl (fun i hi => ?_)]
    · unfold rowL
      rw [List.map_map]
      rfl
    · have hi := List.mem_range.mp hi
      have s1 : smallI (i : Int) = true := small_of (by omega)
      have s2 : smallI (moreOf c) = true := small_of (by omega)
      have t1 := thing_e (sm_add hc (k := i) (by omega))
      have ek : keyAt c i = ba + st * i + (i : Int) * i * moreOf c / 7 := by unfold keyAt; rw [hst, hba]
      have m1 := mul_i (i := st) s1
      have m2 := mul_i (i := (i : Int)) s1
      have m3 := mul_i (i := (i : Int) * i) s2
      simp [m1, m2, m3, t1, prD, ek]
  have hmore : c / 11 % 9 = moreOf c := rfl
  simp [m_law_rising, a1, a2, e58, hl, hmore, p56, p59, hcomp, hlen, -Int.reducePow]
end Rp
end
set_option Elab.async false
set_option linter.all false
set_option maxRecDepth 100000
/-! Rows that rise; trees grown. -/
noncomputable section
namespace Rp
open PySem PySem.Spec PyProof.Rows L2

theorem rowL_length (c : Int) (m : Nat) : (rowL c m).length = m := by unfold rowL; simp
theorem rowL_take (c : Int) {m j : Nat} (h : j ≤ m) : (rowL c m).take j = rowL c j := by
  unfold rowL
  rw [← List.map_take, List.take_range, Nat.min_eq_left h]
theorem step_pos (c : Int) : 1 ≤ stepOf c := by
  unfold stepOf
  have h1 : 0 ≤ c / 7 % 90 := Int.emod_nonneg _ (by decide)
  have h2 : 0 ≤ c / 7 % 10 ^ 56 := Int.emod_nonneg _ (by decide)
  split
  · decide
  · split
    · decide
    · split <;> omega
theorem key_mono (c : Int) {i j : Nat} (h : i < j) : keyAt c i < keyAt c j := by
  unfold keyAt
  have h0 : 0 ≤ moreOf c := Int.emod_nonneg _ (by decide)
  have h1 := step_pos c
  have h2 : (i : Int) < j := by omega
  have h3 : stepOf c * i < stepOf c * j := Int.mul_lt_mul_of_pos_left h2 (by omega)
  have h4 : (i : Int) * i ≤ j * j := Int.mul_le_mul (by omega) (by omega) (by omega) (by omega)
  have h5 : (i : Int) * i * moreOf c ≤ j * j * moreOf c := Int.mul_le_mul_of_nonneg_right h4 h0
  have h6 : (i : Int) * i * moreOf c / 7 ≤ j * j * moreOf c / 7 := Int.ediv_le_ediv (by decide) h5
  omega
theorem rowL_srt (c : Int) (m : Nat) : Srt (rowL c m) := by
  unfold Srt rowL
  rw [List.pairwise_map]
  exact List.pairwise_lt_range.imp fun h => key_mono c h
/-! ### bits -/
def bitsL (c : Int) (m : Nat) : List Int := (List.range m).map fun (k : Nat) => (c + 1) * ((k : Int) * 48271 + 7) % 65537 / 8 % 2
theorem bitsL_01 {c : Int} {m : Nat} : ∀ b ∈ bitsL c m, b = 0 ∨ b = 1 := by
  intro b hb
  unfold bitsL at hb
  obtain ⟨k, _, rfl⟩ := List.mem_map.mp hb
  omega
theorem bitsL_length (c : Int) (m : Nat) : (bitsL c m).length = m := by unfold bitsL; simp
theorem e_bits (c : Int) (m : Nat) (hm : m ≤ 5000) : F_law_bits [.d (.int c), .d (.int (m : Int))] = some (.f (.l ((bitsL c m).map PyData.int)), []) := by
  refine (run_d (p := 2) (n := 3) (m := m_law_bits) (xs := [.int c, .int (m : Int)]) rfl).trans ?_
  have hlen : (rangeD 0 (m : Int)).length ≤ 100000 := by rw [rangeD_length]; omega
  have hl : inLine (m : Int) = true := inLine_nat (by omega)
  have hcomp : compL 2 Rp.tYes (mBin modD (mBin fdivD (mBin modD (mBin mulD (mBin addD (mV 0) (mC (.int 1))) (mBin addD (mBin mulD (mV 2) (mC (.int 48271))) (mC (.int 7)))) (mC (.int 65537))) (mC (.int 8))) (mC (.int 2))) (rangeD 0 (m : Int))
      [.d (.int c), .d (.int (m : Int)), .no] = some ((bitsL c m).map PyData.int, [.d (.int c), .d (.int (m : Int)), .no]) := by
    rw [rangeD0, compL_mapN (f := fun (k : Nat) => .int ((c + 1) * ((k : Int) * 48271 + 7) % 65537 / 8 % 2)) rfl (fun i hi => ?_)]
    · unfold bitsL
      rw [List.map_map]
      rfl
    · have hi := List.mem_range.mp hi
      have m1 := mul_i (i := (i : Int)) (j := 48271) (small_of (by decide))
      have m2 := mul_i (i := c + 1) (j := (i : Int) * 48271 + 7) (small_of (by omega))
      simp [m1, m2]
  simp [m_law_bits, hl, hcomp, hlen]
/-! ### trees grown -/
/-- how many knots are grown, and the bits that are left -/
def cntG : Nat → Nat → Bool → List Int → Nat × List Int
  | 0, _, _, bits => (0, bits)
  | f + 1, r, u, bits =>
    if r = 0 ∧ (u = true ∨ bits.getLast?.getD 0 = 0) then (0, bits.dropLast)
    else
      let p := !u && decide (bits.getLast?.getD 0 = 1)
      let r' := if p = true then r else r - 1
      let a := cntG f r' p bits.dropLast
      let b := cntG f r' p a.2
      (a.1 + 1 + b.1, b.2)
theorem many_loop (a b : T) (S0 S1 S2 S3 S4 S5 S6 S7 S8 : SV) (w : SV) : forL (gN 10) (sIf (Rp.tB (mBin isNotD (mV 10) (mC .none))) (sAsg 9 (mBin addD (mV 9) (mIxV 10 (mC (.int 5))))) sNx) [a.d, b.d] [S0, S1, S2, S3, S4, S5, S6, S7, S8, .d (.int 1), w] =
    some (.nx [S0, S1, S2, S3, S4, S5, S6, S7, S8, .d (.int (1 + a.sz + b.sz)), .d b.d]) := by
  rw [forL_cons]
  cases a <;> cases b <;> simp [T.sz, forL_cons]
theorem dropLast_01 {bits : List Int} (h : ∀ b ∈ bits, b = 0 ∨ b = 1) : ∀ b ∈ bits.dropLast, b = 0 ∨ b = 1 := fun b hb => h b (by rw [List.dropLast_eq_take] at hb; exact List.mem_of_mem_take hb)
theorem cntG_bits : ∀ (f r : Nat) (u : Bool) (bits : List Int), ∃ n, (cntG f r u bits).2 = bits.take n
  | 0, _, _, bits => ⟨bits.length, by simp [cntG]⟩
  | f + 1, r, u, bits => by
    unfold cntG
    split
    · exact ⟨bits.length - 1, by rw [List.dropLast_eq_take]⟩
    · obtain ⟨n1, h1⟩ := cntG_bits f (if (!u && decide (bits.getLast?.getD 0 = 1)) = true then r else r - 1) (!u && decide (bits.getLast?.getD 0 = 1)) bits.dropLast
      obtain ⟨n2, h2⟩ := cntG_bits f (if (!u && decide (bits.getLast?.getD 0 = 1)) = true then r else r - 1) (!u && decide (bits.getLast?.getD 0 = 1)) (cntG f (if (!u && decide (bits.getLast?.getD 0 = 1)) = true then r else r - 1) (!u && decide (bits.getLast?.getD 0 = 1)) bits.dropLast).2
      refine ⟨min n2 (min n1 (bits.length - 1)), ?_⟩
      show (cntG f _ _ (cntG f _ _ bits.dropLast).2).2 = _
      rw [h2, h1, List.dropLast_eq_take, List.take_take, List.take_take, Nat.min_assoc]
theorem bits_01 {f r : Nat} {u : Bool} {bits : List Int} (h : ∀ b ∈ bits, b = 0 ∨ b = 1) : ∀ b ∈ (cntG f r u bits).2, b = 0 ∨ b = 1 := fun b hb => by
  obtain ⟨n, e⟩ := cntG_bits f r u bits
  rw [e] at hb
  exact h b (List.mem_of_mem_take hb)
theorem run_grown {m : MS} {a b : Ct} {x y : Dat} {n : Nat} : runF 4 n m [.c a, .c b, .d x, .d y] = match m ([.m 0 a, .m 1 b, .d x, .d y] ++ List.replicate (n - 4) .no) with
    | some o => match o.res with
      | .x _ => none
      | r => match newsOf 0 [.c a, .c b, .d x, .d y] o.sl with
        | some news => some (r, news)
        | none => none
    | none => none := rfl
theorem news2 {a b : Ct} {x y : Dat} {c d : Ct} {S : Sl} : newsOf 0 [.c a, .c b, .d x, .d y] (.m 0 c :: .m 1 d :: S) = some [c, d] := rfl
@[simp] theorem isEmpty_snoc {α : Type} (xs : List α) (b : α) : (xs ++ [b]).isEmpty = false := by cases xs <;> rfl
theorem grown_step (self : FF) (bits : List Int) (hb : ∀ b ∈ bits, b = 0 ∨ b = 1) (prs : List Dat) (r : Nat) (u : Bool) :
    m_law_grown self [.m 0 (.l (bits.map PyData.int)), .m 1 (.l prs), .d (.int r), .d (.bool u), .no, .no, .no, .no, .no, .no, .no] =
      if r = 0 ∧ (u = true ∨ bits.getLast?.getD 0 = 0) then some (.rt (.d .none) [.m 0 (.l (bits.dropLast.map PyData.int)), .m 1 (.l prs), .d (.int r), .d (.bool u), .d (.int (bits.getLast?.getD 0)), .no, .no, .no, .no, .no, .no])
      else m_law_grown self [.m 0 (.l (bits.map PyData.int)), .m 1 (.l prs), .d (.int r), .d (.bool u), .no, .no, .no, .no, .no, .no, .no] := by
  split
  · rename_i h
    obtain ⟨rfl, h⟩ := h
    rcases List.eq_nil_or_concat bits with rfl | ⟨bs, b, rfl⟩
    · cases u <;> simp [m_law_grown]
    · have hb' := hb b (by simp)
      cases u with
      | true => simp [m_law_grown]
      | false =>
        have h0 : b = 0 := by simpa using h
        subst h0
        simp [m_law_grown]
  · rfl
theorem grown_eval {self : FF} {bits : List Int} {P P1 P2 P3 B1 B2 : List Dat} {r r' : Int} {u p : Bool} {bit : Int} {t1 t2 : T} {k : Int} {x : Dat}
    (hbits : bits = [] ∧ bit = 0 ∨ ∃ bs, bits = bs ++ [bit]) (h0 : ¬ (r = 0 ∧ (u = true ∨ bit = 0))) (hp : (!u && decide (bit = 1)) = p) (hr : r - (if p = true then 0 else 1) = r')
    (g1 : self [.c (.l (bits.dropLast.map PyData.int)), .c (.l P), .d (.int r'), .d (.bool p)] = some (.d t1.d, [.l B1, .l P1])) (hgl : P1.getLast? = some (prD (k, x))) (hdl : P1.dropLast = P2)
    (g2 : self [.c (.l B1), .c (.l P2), .d (.int r'), .d (.bool p)] = some (.d t2.d, [.l B2, .l P3])) :
    ∃ S, m_law_grown self [.m 0 (.l (bits.map PyData.int)), .m 1 (.l P), .d (.int r), .d (.bool u), .no, .no, .no, .no, .no, .no, .no] =
      some (.rt (.d (T.node p t1 k x t2 (1 + t1.sz + t2.sz)).d) (.m 0 (.l B2) :: .m 1 (.l P3) :: S)) := by
  have e1 : m_law_grown self [.m 0 (.l (bits.map PyData.int)), .m 1 (.l P), .d (.int r), .d (.bool u), .no, .no, .no, .no, .no, .no, .no] =
      some (.rt (.d (T.node p t1 k x t2 (1 + t1.sz + t2.sz)).d) [.m 0 (.l B2), .m 1 (.l P3), .d (.int r), .d (.bool u), .d (.int bit), .d (.bool p), .d t1.d, .d (prD (k, x)), .d t2.d, .d (.int (1 + t1.sz + t2.sz)), .d t2.d]) := by
    rcases hbits with ⟨rfl, rfl⟩ | ⟨bs, rfl⟩
    · cases u with
      | true =>
        have hr0 : r ≠ 0 := fun z => h0 ⟨z, .inl rfl⟩
        simp at hp
        subst hp
        simp at hr g1 g2
        subst hr
        simp [m_law_grown, hr0, g1, hgl, hdl, g2, many_loop, prD]
      | false =>
        have hr0 : r ≠ 0 := fun z => h0 ⟨z, .inr rfl⟩
        simp at hp
        subst hp
        simp at hr g1 g2
        subst hr
        simp [m_law_grown, hr0, g1, hgl, hdl, g2, many_loop, prD]
    · cases u with
      | true =>
        have hr0 : r ≠ 0 := fun z => h0 ⟨z, .inl rfl⟩
        simp at hp
        subst hp
        simp at hr g1 g2
        subst hr
        simp [m_law_grown, hr0, g1, hgl, hdl, g2, many_loop, prD]
      | false =>
        simp at hp
        by_cases hb1 : bit = 1
        · subst hb1
          simp at hp
          subst hp
          simp at hr g1 g2
          subst hr
          by_cases hr0 : r = 0 <;> simp [m_law_grown, hr0, hgl, hdl, many_loop, prD] at g1 g2 ⊢ <;> simp [g1, hgl, hdl, g2, many_loop, prD]
        · have hb2 : decide (bit = 1) = false := decide_eq_false hb1
          rw [hb2] at hp
          subst hp
          simp at hr g1 g2
          subst hr
          by_cases hr0 : r = 0
          · have hbz : bit ≠ 0 := fun z => h0 ⟨hr0, .inr z⟩
            simp [m_law_grown, hr0, hbz, hb1] at g1 g2 ⊢
            simp [g1, hgl, hdl, g2, many_loop, prD]
          · simp [m_law_grown, hr0, hb1, g1, hgl, hdl, g2, many_loop, prD]
  exact ⟨_, e1⟩
theorem e_grown : ∀ (f r : Nat) (u : Bool) (bits : List Int) (prs : List Pr), 2 * r + (if u = true then 0 else 1) < f → (∀ b ∈ bits, b = 0 ∨ b = 1) → (cntG f r u bits).1 ≤ prs.length →
    ∃ (t : T) (prs' : List Pr), R_law_grown f [.c (.l (bits.map PyData.int)), .c (.l (prs.map prD)), .d (.int r), .d (.bool u)] = some (.d t.d, [.l ((cntG f r u bits).2.map PyData.int), .l (prs'.map prD)]) ∧ t.wf u r ∧ prs = prs' ++ t.prs.reverse ∧ t.cnt = (cntG f r u bits).1
  | 0, r, u, bits, prs, h, _, _ => by omega
  | f + 1, r, u, bits, prs, hf, hb, hc => by
    have e0 : R_law_grown (f + 1) [.c (.l (bits.map PyData.int)), .c (.l (prs.map prD)), .d (.int r), .d (.bool u)] = _ := run_grown (n := 11) (m := m_law_grown (R_law_grown f))
    have e1 := grown_step (R_law_grown f) bits hb (prs.map prD) r u
    by_cases h0 : r = 0 ∧ (u = true ∨ bits.getLast?.getD 0 = 0)
    · rw [if_pos h0] at e1
      have ec : cntG (f + 1) r u bits = (0, bits.dropLast) := by unfold cntG; rw [if_pos h0]
      refine ⟨.nil, prs, ?_, h0.1, by simp, by rw [ec]; rfl⟩
      rw [e0]
      show (match m_law_grown (R_law_grown f) [.m 0 (.l (bits.map PyData.int)), .m 1 (.l (prs.map prD)), .d (.int r), .d (.bool u), .no, .no, .no, .no, .no, .no, .no] with | some o => _ | none => none) = _
      rw [e1, ec]
      rfl
    · generalize hbit : bits.getLast?.getD 0 = bit at h0
      have hbit01 : bit = 0 ∨ bit = 1 := by
        cases hl : bits.getLast? with
        | none => rw [hl] at hbit; left; exact hbit.symm
        | some b =>
          rw [hl] at hbit
          have : b = bit := hbit
          rw [← this]
          exact hb b (List.mem_of_getLast? hl)
      generalize hp : (!u && decide (bit = 1)) = p
      generalize hr' : (if p = true then r else r - 1) = r'
      have ec : cntG (f + 1) r u bits = ((cntG f r' p bits.dropLast).1 + 1 + (cntG f r' p (cntG f r' p bits.dropLast).2).1, (cntG f r' p (cntG f r' p bits.dropLast).2).2) := by
        unfold cntG
        rw [hbit, if_neg h0]
        simp only [hp, hr']
        cases f <;> rfl
      -- what is asked of the recursion
      have hpu : p = true → u = false ∧ bit = 1 := by
        intro hpt
        rw [hpt] at hp
        cases u with
        | true => simp at hp
        | false => simp at hp; exact ⟨rfl, hp⟩
      have hrp : p = false → 1 ≤ r := by
        intro hpf
        rw [hpf] at hp
        apply Nat.one_le_iff_ne_zero.mpr
        intro hr0
        apply h0
        refine ⟨hr0, ?_⟩
        cases u with
        | true => exact .inl rfl
        | false =>
          simp at hp
          rcases hbit01 with z | z
          · exact .inr z
          · exact absurd z hp
      have hf' : 2 * r' + (if p = true then 0 else 1) < f := by
        cases hpc : p with
        | true =>
          rw [hpc] at hr'
          have := (hpu hpc).1
          rw [this] at hf
          simp at hr' hf ⊢
          omega
        | false =>
          rw [hpc] at hr'
          have := hrp hpc
          have : 2 * r + 0 ≤ 2 * r + (if u = true then 0 else 1) := by omega
          simp at hr' ⊢
          omega
      have hri : (r : Int) - (if p = true then 0 else 1) = r' := by
        cases hpc : p with
        | true =>
          rw [hpc] at hr'
          simp at hr'
          subst hr'
          simp
        | false =>
          rw [hpc] at hr'
          have := hrp hpc
          simp at hr' ⊢
          omega
      have hc' : (cntG f r' p bits.dropLast).1 + 1 + (cntG f r' p (cntG f r' p bits.dropLast).2).1 ≤ prs.length := by
        rw [ec] at hc; exact hc
      obtain ⟨t1, prs1, g1, w1, q1, c1⟩ := e_grown f r' p bits.dropLast prs hf' (dropLast_01 hb) (by omega)
      have l1 : prs.length = prs1.length + t1.prs.length := by rw [q1, List.length_append, List.length_reverse]
      have l2 : t1.prs.length = (cntG f r' p bits.dropLast).1 := by rw [← c1, cnt_prs]
      have hne : prs1 ≠ [] := fun z => by subst z; simp at l1; omega
      obtain ⟨prs2, pr, hq⟩ := (List.eq_nil_or_concat prs1).resolve_left hne
      rw [List.concat_eq_append] at hq
      have l3 : prs1.length = prs2.length + 1 := by rw [hq]; simp
      obtain ⟨t2, prs3, g2, w2, q2, c2⟩ := e_grown f r' p (cntG f r' p bits.dropLast).2 prs2 hf' (bits_01 (dropLast_01 hb)) (by omega)
      obtain ⟨k, x⟩ := pr
      refine ⟨.node p t1 k x t2 (1 + t1.sz + t2.sz), prs3, ?_, ?_, ?_, ?_⟩
      · rw [e0, ec]
        have hml := many_loop t1 t2 (.m 0 (.l ((cntG f r' p (cntG f r' p bits.dropLast).2).2.map PyData.int))) (.m 1 (.l (prs3.map prD))) (.d (.int r)) (.d (.bool u)) (.d (.int bit)) (.d (.bool p)) (.d t1.d) (.d (prD (k, x))) (.d t2.d) .no
        have hgl : (prs1.map prD).getLast? = some (prD (k, x)) := by rw [hq]; simp
        have hdl : (prs1.map prD).dropLast = prs2.map prD := by rw [hq]; simp
        show (match m_law_grown (R_law_grown f) [.m 0 (.l (bits.map PyData.int)), .m 1 (.l (prs.map prD)), .d (.int r), .d (.bool u), .no, .no, .no, .no, .no, .no, .no] with | some o => _ | none => none) = _
        have hbits : bits = [] ∧ bit = 0 ∨ ∃ bs, bits = bs ++ [bit] := by
          rcases List.eq_nil_or_concat bits with rfl | ⟨bs, b, rfl⟩
          · exact .inl ⟨rfl, hbit.symm⟩
          · right
            have : b = bit := by simpa using hbit
            exact ⟨bs, by rw [← this]; simp⟩
        have hif : ¬ ((r : Int) = 0 ∧ (u = true ∨ bit = 0)) := fun z => h0 ⟨by omega, z.2⟩
        obtain ⟨S, eS⟩ := grown_eval hbits hif hp hri g1 hgl hdl g2
        rw [eS]
        rfl
      · refine ⟨by rw [wf_sz w1, wf_sz w2]; omega, fun z => (hpu z).1, ?_⟩
        cases hpc : p with
        | true =>
          rw [hpc] at hr' w1 w2
          simp at hr'
          subst hr'
          exact .inl ⟨rfl, w1, w2⟩
        | false =>
          rw [hpc] at hr' w1 w2
          have := hrp hpc
          simp at hr'
          exact .inr ⟨rfl, r', by omega, w1, w2⟩
      · rw [q1, hq, q2]
        simp
      · rw [ec]
        show t1.cnt + 1 + t2.cnt = _
        rw [c1, c2]
end Rp
end
set_option Elab.async false
set_option linter.all false
set_option maxRecDepth 100000
/-! How many knots are grown. -/
noncomputable section
namespace Rp
open PySem PySem.Spec PyProof.Rows L2

def wideG (r : Nat) (u : Bool) : Nat := if u = true then 4 ^ r else 2 * 4 ^ r
theorem cntG_wide : ∀ (f r : Nat) (u : Bool) (bits : List Int), (∀ b ∈ bits, b = 0 ∨ b = 1) → (cntG f r u bits).1 + 1 ≤ wideG r u
  | 0, r, u, bits, _ => by
    have h : 1 ≤ 4 ^ r := Nat.one_le_pow _ _ (by decide)
    simp only [cntG, wideG]
    split <;> omega
  | f + 1, r, u, bits, hb => by
    have h : 1 ≤ 4 ^ r := Nat.one_le_pow _ _ (by decide)
    unfold cntG
    split
    · simp only [wideG]
      split <;> omega
    · rename_i h0
      generalize hbit : bits.getLast?.getD 0 = bit at h0 ⊢
      have ih := cntG_wide f
      have hd := dropLast_01 hb
      cases u with
      | true =>
        have hr : r ≠ 0 := fun z => h0 ⟨z, .inl rfl⟩
        obtain ⟨r, rfl⟩ := Nat.exists_eq_succ_of_ne_zero hr
        have e1 := ih r false bits.dropLast hd
        have e2 := ih r false (cntG f r false bits.dropLast).2 (bits_01 hd)
        have h4 : 4 ^ (r + 1) = 4 * 4 ^ r := by rw [Nat.pow_succ]; omega
        simp [wideG] at e1 e2 ⊢
        omega
      | false =>
        by_cases hb' : bit = 1
        · have e1 := ih r true bits.dropLast hd
          have e2 := ih r true (cntG f r true bits.dropLast).2 (bits_01 hd)
          simp [wideG, hb'] at e1 e2 ⊢
          omega
        · cases r with
          | zero =>
            exfalso
            have hbit01 : bit = 0 ∨ bit = 1 := by
              cases hl : bits.getLast? with
              | none => rw [hl] at hbit; left; exact hbit.symm
              | some b =>
                rw [hl] at hbit
                have : b = bit := hbit
                rw [← this]
                exact hb b (List.mem_of_getLast? hl)
            rcases hbit01 with z | z
            · exact h0 ⟨rfl, .inr z⟩
            · exact hb' z
          | succ r =>
            have e1 := ih r false bits.dropLast hd
            have e2 := ih r false (cntG f r false bits.dropLast).2 (bits_01 hd)
            have h4 : 4 ^ (r + 1) = 4 * 4 ^ r := by rw [Nat.pow_succ]; omega
            simp [wideG, hb'] at e1 e2 ⊢
            omega
def openG (r : Nat) (u : Bool) : Nat := if u = true then 2 * 2 ^ r - 2 else 3 * 2 ^ r - 2
theorem cntG_few : ∀ (f r : Nat) (u : Bool) (bits : List Int), 2 * r + (if u = true then 0 else 1) < f → (∀ b ∈ bits, b = 0 ∨ b = 1) →
    ((cntG f r u bits).2 ≠ [] → 2 * (cntG f r u bits).1 + 1 + (cntG f r u bits).2.length ≤ bits.length) ∧
    2 * (cntG f r u bits).1 + (cntG f r u bits).2.length ≤ 2 * openG r u + bits.length ∧
    (bits = [] → (cntG f r u bits).1 + 1 ≤ 2 ^ r ∧ (cntG f r u bits).2 = [])
  | 0, r, u, bits, h, _ => by omega
  | f + 1, r, u, bits, hf, hb => by
    by_cases h0 : r = 0 ∧ (u = true ∨ bits.getLast?.getD 0 = 0)
    · have ec : cntG (f + 1) r u bits = (0, bits.dropLast) := by unfold cntG; rw [if_pos h0]
      rw [ec]
      refine ⟨fun h => ?_, ?_, fun h => ?_⟩
      · show 2 * 0 + 1 + bits.dropLast.length ≤ _
        have : bits ≠ [] := fun z => h (by rw [z]; rfl)
        have := List.length_pos_iff.mpr this
        rw [List.length_dropLast]
        omega
      · show 2 * 0 + bits.dropLast.length ≤ _
        rw [List.length_dropLast]
        omega
      · subst h
        refine ⟨?_, rfl⟩
        rw [h0.1]
        decide
    · generalize hbit : bits.getLast?.getD 0 = bit at h0
      have hbit01 : bit = 0 ∨ bit = 1 := by
        cases hl : bits.getLast? with
        | none => rw [hl] at hbit; left; exact hbit.symm
        | some b =>
          rw [hl] at hbit
          have : b = bit := hbit
          rw [← this]
          exact hb b (List.mem_of_getLast? hl)
      generalize hp : (!u && decide (bit = 1)) = p
      generalize hr' : (if p = true then r else r - 1) = r'
      have ec : cntG (f + 1) r u bits = ((cntG f r' p bits.dropLast).1 + 1 + (cntG f r' p (cntG f r' p bits.dropLast).2).1, (cntG f r' p (cntG f r' p bits.dropLast).2).2) := by
        unfold cntG
        rw [hbit, if_neg h0]
        simp only [hp, hr']
        cases f <;> rfl
      have hpu : p = true → u = false ∧ bit = 1 := by
        intro hpt
        rw [hpt] at hp
        cases u with
        | true => simp at hp
        | false => simp at hp; exact ⟨rfl, hp⟩
      have hrp : p = false → 1 ≤ r := by
        intro hpf
        rw [hpf] at hp
        apply Nat.one_le_iff_ne_zero.mpr
        intro hr0
        apply h0
        refine ⟨hr0, ?_⟩
        cases u with
        | true => exact .inl rfl
        | false =>
          simp at hp
          rcases hbit01 with z | z
          · exact .inr z
          · exact absurd z hp
      have hne1 : p = true → bits ≠ [] := fun z w => by
        have h1 := (hpu z).2
        rw [w] at hbit
        rw [← hbit] at h1
        exact absurd h1 (by decide)
      have hf' : 2 * r' + (if p = true then 0 else 1) < f := by
        cases hpc : p with
        | true =>
          rw [hpc] at hr'
          have := (hpu hpc).1
          rw [this] at hf
          simp at hr' hf ⊢
          omega
        | false =>
          rw [hpc] at hr'
          have := hrp hpc
          have : 2 * r + 0 ≤ 2 * r + (if u = true then 0 else 1) := by omega
          simp at hr' ⊢
          omega
      have hO : openG r' p + 2 ^ r' ≤ openG r u := by
        cases hpc : p with
        | true =>
          rw [hpc] at hr'
          have := (hpu hpc).1
          simp at hr'
          subst hr' this
          have h : 1 ≤ 2 ^ r := Nat.one_le_pow _ _ (by decide)
          simp [openG]
          omega
        | false =>
          rw [hpc] at hr'
          have := hrp hpc
          simp at hr'
          obtain ⟨r, rfl⟩ := Nat.exists_eq_succ_of_ne_zero (Nat.one_le_iff_ne_zero.mp this)
          have e : r' = r := by omega
          subst e
          have h : 1 ≤ 2 ^ r' := Nat.one_le_pow _ _ (by decide)
          have h2 : 2 ^ (r' + 1) = 2 * 2 ^ r' := by rw [Nat.pow_succ]; omega
          simp [openG]
          split <;> omega
      have i1 := cntG_few f r' p bits.dropLast hf' (dropLast_01 hb)
      have i2 := cntG_few f r' p (cntG f r' p bits.dropLast).2 hf' (bits_01 (dropLast_01 hb))
      rw [ec]
      generalize cntG f r' p bits.dropLast = q1 at i1 i2
      generalize cntG f r' p q1.2 = q2 at i2
      have hlen : bits ≠ [] → bits.dropLast.length + 1 = bits.length := fun z => by
        have := List.length_pos_iff.mpr z
        rw [List.length_dropLast]
        omega
      have hlen' : bits.dropLast.length ≤ bits.length := by rw [List.length_dropLast]; omega
      have h2r : 1 ≤ 2 ^ r' := Nat.one_le_pow _ _ (by decide)
      refine ⟨fun h => ?_, ?_, fun h => ?_⟩
      · show 2 * (q1.1 + 1 + q2.1) + 1 + q2.2.length ≤ _
        have h1 : q1.2 ≠ [] := fun z => h (i2.2.2 z).2
        have h2 : bits ≠ [] := fun z => h1 (i1.2.2 (by rw [z]; rfl)).2
        have := hlen h2
        have a1 := i1.1 h1
        have a2 := i2.1 h
        omega
      · show 2 * (q1.1 + 1 + q2.1) + q2.2.length ≤ _
        by_cases h1 : q1.2 = []
        · obtain ⟨b1, b2⟩ := i2.2.2 h1
          have b3 := i1.2.1
          rw [h1] at b3
          rw [b2]
          simp only [List.length_nil] at b3 ⊢
          omega
        · have h2 : bits ≠ [] := fun z => h1 (i1.2.2 (by rw [z]; rfl)).2
          have := hlen h2
          have a1 := i1.1 h1
          have a2 := i2.2.1
          omega
      · subst h
        have a1 := i1.2.2 rfl
        have a2 := i2.2.2 a1.2
        refine ⟨?_, a2.2⟩
        show q1.1 + 1 + q2.1 + 1 ≤ 2 ^ r
        have hpf : p = false := by
          cases hpc : p with
          | true => exact absurd rfl (hne1 hpc)
          | false => rfl
        have := hrp hpf
        rw [hpf] at hr'
        simp at hr'
        obtain ⟨r, rfl⟩ := Nat.exists_eq_succ_of_ne_zero (Nat.one_le_iff_ne_zero.mp this)
        have e : r' = r := by omega
        subst e
        have h2 : 2 ^ (r' + 1) = 2 * 2 ^ r' := by rw [Nat.pow_succ]; omega
        omega
/-- a tree of rank seven, of sixty bits -/
theorem cntG_far {f : Nat} {bits : List Int} (hf : 14 < f) (hb : ∀ b ∈ bits, b = 0 ∨ b = 1) (hl : bits.length ≤ 60) : (cntG f 7 true bits).1 ≤ 284 := by
  have h := (cntG_few f 7 true bits (by simpa using hf) hb).2.1
  have e : openG 7 true = 254 := rfl
  rw [e] at h
  omega
end Rp
end
set_option Elab.async false
set_option linter.all false
set_option maxRecDepth 100000
/-! Alike, sound. -/
noncomputable section
namespace Rp
open PySem PySem.Spec PyProof.Rows L2

theorem compL_none {j : Nat} {t : M Bool} {e : M Dat} {S : Sl} (hS : S.set j .no = S) : ∀ {xs : List Dat}, (∀ x ∈ xs, t (S.set j (.d x)) = some (false, S.set j (.d x))) → compL j t e xs S = some ([], S)
  | [], _ => rfl
  | x :: xs, ht => by
    have ih := compL_none (e := e) hS (xs := xs) (fun y hy => ht y (List.mem_cons_of_mem _ hy))
    unfold compL
    rw [ht x List.mem_cons_self]
    simp only [List.set_set, hS, ih]
theorem atI_nat {xs : List Dat} {i : Nat} (h : i < xs.length) : atI xs (i : Int) = some xs[i] := by
  have h1 : ¬ (i : Int) < 0 := by omega
  have h2 : (i : Int) < xs.length := by omega
  simp [atI, ixN, h1, h2, h]
@[simp] theorem eqD_nils : eqD (.list []) (.list []) = some (.bool true) := by rfl
@[simp] theorem isTup_tup {xs : List Dat} : isTup (.tuple xs) = true := rfl
@[simp] theorem isBool_bool {b : Bool} : isBool (.bool b) = true := rfl
theorem alike_refl : ∀ (n : Nat) (x : Dat), plain n x = true → R_law_alike (n + 1) [.d x, .d x] = some (.d (.bool true), []) := by
  intro n
  induction n with
  | zero =>
    intro x h
    refine (run_d (p := 2) (n := 3) (m := m_law_alike (R_law_alike 0)) (xs := [x, x]) rfl).trans ?_
    cases x with
    | tuple xs => cases h
    | list xs => cases h
    | dict xs => cases h
    | _ => simp [m_law_alike, eqD, scalD, isTup, isBool]
  | succ n ih =>
    intro x h
    refine (run_d (p := 2) (n := 3) (m := m_law_alike (R_law_alike (n + 1))) (xs := [x, x]) rfl).trans ?_
    cases x with
    | tuple xs =>
      rw [plain_tup, Bool.and_eq_true, List.all_eq_true] at h
      have hl : xs.length ≤ 1000 := of_decide_eq_true h.1
      have hlen : (rangeD 0 (xs.length : Int)).length ≤ 100000 := by rw [rangeD_length]; omega
      have hl' : inLine (xs.length : Int) = true := inLine_nat (by omega)
      have hcomp : compL 2 (Rp.tNot (tTr (mCall (R_law_alike (n + 1)) (aCons (mIxV 0 (mV 2)) (aCons (mIxV 1 (mV 2)) aNil))))) (mV 2) (rangeD 0 (xs.length : Int)) [.d (.tuple xs), .d (.tuple xs), .no] = some ([], [.d (.tuple xs), .d (.tuple xs), .no]) := by
        refine compL_none rfl fun y hy => ?_
        obtain ⟨i, hi, rfl⟩ := mem_rangeD0 hy
        have e := ih xs[i] (h.2 _ (List.getElem_mem hi))
        have e1 := atI_nat hi
        simp [e, e1, ixD]
      simp [m_law_alike, hl', hlen, hcomp]
    | list xs => cases h
    | dict xs => cases h
    | _ => simp [m_law_alike, eqD, scalD, isTup, isBool]

theorem e_alike {x : Dat} (h : plain 23 x = true) : F_law_alike [.d x, .d x] = some (.d (.bool true), []) := alike_refl 23 x h
theorem e_same (xs : List Dat) (hl : xs.length ≤ 10000) (hp : ∀ x ∈ xs, plain 23 x = true) : F_law_same [.d (.list xs), .d (.list xs)] = some (.d (.bool true), []) := by
  refine (run_d (p := 2) (n := 3) (m := m_law_same) (xs := [.list xs, .list xs]) rfl).trans ?_
  have hlen : (rangeD 0 (xs.length : Int)).length ≤ 100000 := by rw [rangeD_length]; omega
  have hl' : inLine (xs.length : Int) = true := inLine_nat (by omega)
  have hcomp : compL 2 (Rp.tNot (tTr (mCall F_law_alike (aCons (mIxV 0 (mV 2)) (aCons (mIxV 1 (mV 2)) aNil))))) (mV 2) (rangeD 0 (xs.length : Int)) [.d (.list xs), .d (.list xs), .no] = some ([], [.d (.list xs), .d (.list xs), .no]) := by
    refine compL_none rfl fun y hy => ?_
    obtain ⟨i, hi, rfl⟩ := mem_rangeD0 hy
    have e := e_alike (hp xs[i] (List.getElem_mem hi))
    have e1 := atI_nat hi
    simp [e, e1]
  simp [m_law_same, hl', hlen, hcomp]
theorem plain_pr {p : Pr} (h : plain 10 p.2 = true) : plain 23 (prD p) = true := by
  unfold prD
  simp [plain_le h (by omega : 10 ≤ 22)]
theorem e_pair_none : F_law_pair [.d .none, .d .none] = some (.d (.bool true), []) := by
  refine (run_d (p := 2) (n := 2) (m := m_law_pair) (xs := [.none, .none]) rfl).trans ?_
  simp [m_law_pair, isNoD]
@[simp] theorem e_whole' (i : Int) : F_law_whole [.d (.int i)] = some (.d (.bool true), []) := rfl
theorem e_pair (p : Pr) (h : plain 10 p.2 = true) : F_law_pair [.d (prD p), .d (prD p)] = some (.d (.bool true), []) := by
  refine (run_d (p := 2) (n := 2) (m := m_law_pair) (xs := [prD p, prD p]) rfl).trans ?_
  have e := e_same [prD p] (by simp) (fun x hx => by rw [List.mem_singleton.mp hx]; exact plain_pr h)
  unfold prD at e ⊢
  simp [m_law_pair, isNoD, e]
theorem e_pairO (o : Option Pr) (h : ∀ p, o = some p → plain 10 p.2 = true) : F_law_pair [.d (optD o), .d (optD o)] = some (.d (.bool true), []) := by
  cases o with
  | none => exact e_pair_none
  | some p => exact e_pair p (h p rfl)
/-! ### seen -/
theorem run_seen {m : MS} {a : Ct} {x y : Dat} {n : Nat} : runF 3 n m [.d x, .d y, .c a] = match m ([.d x, .d y, .m 0 a] ++ List.replicate (n - 3) .no) with
    | some o => match o.res with
      | .x _ => none
      | r => match newsOf 0 [.d x, .d y, .c a] o.sl with
        | some news => some (r, news)
        | none => none
    | none => none := rfl
theorem e_seen : ∀ (f : Nat) (t : T) (u : Bool) (n : Nat) (acc : List Dat), t.wf u n → t.ht < f → acc.length + t.prs.length ≤ 90000 →
    R_law_seen f [.d t.d, .d (.bool u), .c (.l acc)] = some (.d (.int n), [.l (acc ++ t.prs.map prD)])
  | 0, t, u, n, acc, _, h, _ => by omega
  | f + 1, .nil, u, n, acc, hw, hh, hl => by
    refine (run_seen (n := 6) (m := m_law_seen (R_law_seen f))).trans ?_
    have hn : n = 0 := hw
    subst hn
    simp [m_law_seen, T.d, newsOf]
  | f + 1, .node p l k x r c, u, n, acc, hw, hh, hl => by
    refine (run_seen (n := 6) (m := m_law_seen (R_law_seen f))).trans ?_
    obtain ⟨hc, hpu, hw⟩ := hw
    have h1 : l.ht < f := by simp [T.ht] at hh; omega
    have h2 : r.ht < f := by simp [T.ht] at hh; omega
    rw [prs_node, List.length_append, List.length_cons] at hl
    have hc' : c = (acc.length : Int) + (l.prs.length + (r.prs.length + 1)) - acc.length := by
      rw [hc, cnt_prs, cnt_prs]; omega
    have hlt : acc.length + l.prs.length < 100000 := by omega
    have hn0 : ¬ ((n : Nat) : Int) < 0 := by omega
    rcases hw with ⟨rfl, w1, w2⟩ | ⟨rfl, m, rfl, w1, w2⟩
    · have hu := hpu rfl
      subst hu
      have e1 := e_seen f l true n acc w1 h1 (by omega)
      have e2 := e_seen f r true n (acc ++ l.prs.map prD ++ [prD (k, x)]) w2 h2 (by simp; omega)
      simp [prD] at e2
      simp [m_law_seen, e1, prD, hlt, e2, newsOf, hn0, ← hc']
    · have e1 := e_seen f l false m acc w1 h1 (by omega)
      have e2 := e_seen f r false m (acc ++ l.prs.map prD ++ [prD (k, x)]) w2 h2 (by simp; omega)
      simp [prD] at e2
      have hm0 : ¬ ((m : Nat) : Int) < 0 := by omega
      simp [m_law_seen, e1, prD, hlt, e2, newsOf, hm0, ← hc']
/-- all things are plain -/
def plainL (l : List Pr) : Prop := ∀ p ∈ l, plain 10 p.2 = true
theorem e_sound {t : T} {n : Nat} (hw : t.wf true n) (hl : t.prs.length ≤ 8000) (hp : plainL t.prs) : F_law_sound [.d t.d, .d (.list (t.prs.map prD))] = some (.d (.bool true), []) := by
  refine (run_d (p := 2) (n := 3) (m := m_law_sound) (xs := [t.d, .list (t.prs.map prD)]) rfl).trans ?_
  have hn := small_rank hw hl
  have hh := wf_ht hw
  have e1 : F_law_seen [.d t.d, .d (.bool true), .c (.l [])] = _ := e_seen 30 t true n [] hw (by simp at hh; omega) (by simp; omega)
  have e2 := e_same (t.prs.map prD) (by simp; omega) (fun x hx => by
    obtain ⟨p, hp', rfl⟩ := List.mem_map.mp hx
    exact plain_pr (hp p hp'))
  have hn0 : 0 ≤ ((n : Nat) : Int) := by omega
  simp at e1
  simp [m_law_sound, e1, e2, hn0]
end Rp
end
set_option Elab.async false
set_option linter.all false
set_option maxRecDepth 100000
/-! The tree of a script. -/
noncomputable section
namespace Rp
open PySem PySem.Spec PyProof.Rows L2

/-- a sound tree of the first pairs of a row -/
structure GoodT (t : T) (c : Int) (m : Nat) : Prop where
  wf : ∃ n, t.wf true n
  prs : t.prs = rowL c t.cnt
  len : t.cnt ≤ m
theorem grown_row {bits : List Int} (hb : ∀ b ∈ bits, b = 0 ∨ b = 1) {r : Nat} (hr : r ≤ 10) (u : Bool) {c : Int} {m : Nat} (hm : (cntG 24 r u bits).1 ≤ m) :
    ∃ (t : T) (ps : List Pr) (bs : List Int), F_law_grown [.c (.l (bits.map PyData.int)), .c (.l ((rowL c m).reverse.map prD)), .d (.int r), .d (.bool u)] = some (.d t.d, [.l (bs.map PyData.int), .l (ps.map prD)]) ∧
      t.wf u r ∧ t.prs = rowL c t.cnt ∧ t.cnt = (cntG 24 r u bits).1 ∧ ps = ((rowL c m).drop t.cnt).reverse := by
  obtain ⟨t, ps, e, w, q, hc⟩ := e_grown 24 r u bits (rowL c m).reverse (by split <;> omega) hb (by rw [List.length_reverse, rowL_length]; exact hm)
  have h1 : rowL c m = t.prs ++ ps.reverse := by
    have := congrArg List.reverse q
    simpa using this
  have h2 : t.prs.length = t.cnt := (cnt_prs t).symm
  refine ⟨t, ps, _, e, w, ?_, hc, ?_⟩
  · rw [← rowL_take c (hc ▸ hm : t.cnt ≤ m), h1, ← h2, List.take_left]
  · rw [h1, ← h2, List.drop_left, List.reverse_reverse]
theorem bits_take {bits : List Int} (h : ∀ b ∈ bits, b = 0 ∨ b = 1) (n : Nat) : ∀ b ∈ bits.take n, b = 0 ∨ b = 1 := fun b hb => h b (List.mem_of_mem_take hb)
@[simp] theorem cutD_60 {xs : List Dat} : cutD xs none (some 60) = xs.take 60 := by
  have h : HT.sIx xs.length xs.length (some 60) = min 60 xs.length := rfl
  have h0 : HT.sIx xs.length 0 none = 0 := rfl
  unfold cutD
  rw [h, h0, List.drop_zero, Nat.sub_zero, ← List.take_take, List.take_length]
@[simp] theorem atI_1 {α : Type} {xs : List α} : atI xs 1 = xs[1]? := atI_ofNat xs 1
@[simp] theorem atI_2 {α : Type} {xs : List α} : atI xs 2 = xs[2]? := atI_ofNat xs 2
@[simp] theorem atI_3 {α : Type} {xs : List α} : atI xs 3 = xs[3]? := atI_ofNat xs 3
theorem e_tree (ns : List Int) (hb : ∀ z ∈ ns, Builtin.Int.intBits z ≤ 1048576) : ∃ t, F_law_tree [scr ns] = some (.d t.d, []) ∧ GoodT t (cellAt ns 0) 1030 := by
  have run := run_d (p := 1) (n := 6) (m := m_law_tree) (xs := [.list (ns.map PyData.int)]) rfl
  have c0 := e_cell ns 0
  have c1 := e_cell ns 1
  have c2 := e_cell ns 2
  have hc0 := sm_cell hb 0
  simp at c0 c1 c2
  generalize hz0 : cellAt ns 0 = z0 at *
  generalize hz1 : cellAt ns 1 = z1 at *
  generalize hz2 : cellAt ns 2 = z2 at *
  have b700 := e_bits z1 700 (by omega)
  have b2500 := e_bits z1 2500 (by omega)
  have r260 := e_rising z0 260 hc0 (by omega)
  have r520 := e_rising z0 520 hc0 (by omega)
  have r1030 := e_rising z0 1030 hc0 (by omega)
  simp at b700 b2500 r260 r520 r1030
  -- the tree of each way
  have key : ∀ (bits : List Int) (r : Nat) (m : Nat), (∀ b ∈ bits, b = 0 ∨ b = 1) → r ≤ 10 → m ≤ 1030 → (cntG 24 r true bits).1 ≤ m →
      (∀ (t : T) (ps : List Pr) (bs : List Int), F_law_grown [.c (.l (bits.map PyData.int)), .c (.l ((rowL z0 m).reverse.map prD)), .d (.int r), .d (.bool true)] = some (.d t.d, [.l (bs.map PyData.int), .l (ps.map prD)]) →
        F_law_tree [scr ns] = some (.d t.d, [])) → ∃ t, F_law_tree [scr ns] = some (.d t.d, []) ∧ GoodT t z0 1030 := by
    intro bits r m h1 h2 h3 h4 h5
    obtain ⟨t, ps, bs, e, w, q, hc, _⟩ := grown_row h1 h2 true (c := z0) h4
    exact ⟨t, h5 t ps bs e, ⟨⟨_, w⟩, q, by omega⟩⟩
  have wide : ∀ (bits : List Int) (r : Nat), (∀ b ∈ bits, b = 0 ∨ b = 1) → (cntG 24 r true bits).1 + 1 ≤ 4 ^ r := fun bits r h => cntG_wide 24 r true bits h
  have h60 : ∀ m, (cntG 24 7 true ((bitsL z1 m).take 60)).1 ≤ 284 := fun m => cntG_far (by omega) (bits_take bitsL_01 60) (by rw [List.length_take]; omega)
  have t60 : ∀ m, ((bitsL z1 m).map PyData.int).take 60 = ((bitsL z1 m).take 60).map PyData.int := fun m => List.map_take.symm
  have m7 : ∀ m : Nat, List.reverse ((rowL z0 m).map prD) = ((rowL z0 m).reverse).map prD := fun m => by rw [List.map_reverse]
  have mul12 : mulD (.int 1) (.int 2) = some (.int 2) := mul_i (small_of (by decide))
  have mul02 : mulD (.int 0) (.int 2) = some (.int 0) := mul_i (small_of (by decide))
  by_cases hf : z1 / 65537 % 8 = 1
  · by_cases h8 : z2 % 9 = 8
    · have h3 : ¬ z2 % 3 = 0 := by omega
      refine key (bitsL z1 2500) 4 1030 bitsL_01 (by omega) (by omega) (by have := wide (bitsL z1 2500) 4 bitsL_01; omega) fun t ps bs e => run.trans ?_
      simp at e
      simp [m_law_tree, c0, c1, c2, hf, h8, h3, b2500, r1030, e, mul12, mul02]
    by_cases h7 : z2 % 9 = 7
    · refine key ((bitsL z1 2500).take 60) 7 1030 (bits_take bitsL_01 60) (by omega) (by omega) (by have := h60 2500; omega) fun t ps bs e => run.trans ?_
      simp at e
      simp [m_law_tree, c0, c1, c2, hf, h7, b2500, r1030, e, mul12, mul02]
    by_cases h3 : z2 % 3 = 0
    · refine key (bitsL z1 2500) 5 1030 bitsL_01 (by omega) (by omega) (by have := wide (bitsL z1 2500) 5 bitsL_01; omega) fun t ps bs e => run.trans ?_
      simp at e
      simp [m_law_tree, c0, c1, c2, hf, h7, h8, h3, b2500, r1030, e, mul12, mul02]
    · obtain ⟨r, hr⟩ : ∃ r : Nat, z2 % 9 % 4 = r := ⟨(z2 % 9 % 4).toNat, by omega⟩
      have hr3 : r ≤ 3 := by omega
      have hr7 : ¬ (r : Int) = 7 := by omega
      have h4 : 4 ^ r ≤ 4 ^ 3 := Nat.pow_le_pow_right (by decide) hr3
      refine key (bitsL z1 2500) r 1030 bitsL_01 (by omega) (by omega) (by have := wide (bitsL z1 2500) r bitsL_01; omega) fun t ps bs e => run.trans ?_
      simp at e
      simp [m_law_tree, c0, c1, c2, hf, h7, h8, h3, b2500, r1030, hr, hr7, e, mul12, mul02]
  · by_cases h8 : z2 % 9 = 8
    · refine key (bitsL z1 700) 4 260 bitsL_01 (by omega) (by omega) (by have := wide (bitsL z1 700) 4 bitsL_01; omega) fun t ps bs e => run.trans ?_
      simp at e
      simp [m_law_tree, c0, c1, c2, hf, h8, b700, r260, e, mul12, mul02]
    by_cases h7 : z2 % 9 = 7
    · refine key ((bitsL z1 700).take 60) 7 520 (bits_take bitsL_01 60) (by omega) (by omega) (by have := h60 700; omega) fun t ps bs e => run.trans ?_
      simp at e
      simp [m_law_tree, c0, c1, c2, hf, h7, b700, r520, e, mul12, mul02]
    · obtain ⟨r, hr⟩ : ∃ r : Nat, z2 % 9 % 4 = r := ⟨(z2 % 9 % 4).toNat, by omega⟩
      have hr3 : r ≤ 3 := by omega
      have hr7 : ¬ (r : Int) = 7 := by omega
      have h4 : 4 ^ r ≤ 4 ^ 3 := Nat.pow_le_pow_right (by decide) hr3
      refine key (bitsL z1 700) r 260 bitsL_01 (by omega) (by omega) (by have := wide (bitsL z1 700) r bitsL_01; omega) fun t ps bs e => run.trans ?_
      simp at e
      simp [m_law_tree, c0, c1, c2, hf, h7, h8, b700, r260, hr, hr7, e, mul12, mul02]
end Rp
end
set_option Elab.async false
set_option linter.all false
set_option maxRecDepth 100000
/-! Laws of one tree: common facts. -/
noncomputable section
namespace Rp
open PySem PySem.Spec PyProof.Rows L2
theorem e_many (t : T) : F_law_many [.d t.d] = some (.d (.int t.sz), []) := by
  refine (run_d (p := 1) (n := 1) (m := m_law_many) (xs := [t.d]) rfl).trans ?_
  cases t <;> simp [m_law_many, T.sz]
theorem good_row {t : T} {c : Int} {m : Nat} (h : GoodT t c m) (hc : Builtin.Int.intBits c ≤ 1048576) (hm : m ≤ 5000) : F_law_rising [.d (.int c), .d (.int t.sz)] = some (.f (.l (t.prs.map prD)), []) := by
  obtain ⟨n, w⟩ := h.wf
  rw [wf_sz w, e_rising c t.cnt hc (Nat.le_trans h.len hm), h.prs]
theorem row_plain {c : Int} {m : Nat} (hc : Builtin.Int.intBits c ≤ 1048576) (hm : m ≤ 5000) : plainL (rowL c m) := by
  intro p hp
  unfold rowL at hp
  obtain ⟨i, hi, rfl⟩ := List.mem_map.mp hp
  have := List.mem_range.mp hi
  exact thing_plain (sm_add hc (by omega))
theorem good_plain {t : T} {c : Int} {m : Nat} (h : GoodT t c m) (hc : Builtin.Int.intBits c ≤ 1048576) (hm : m ≤ 5000) : plainL t.prs := by
  rw [h.prs]; exact row_plain hc (Nat.le_trans h.len hm)
theorem good_srt {t : T} {c : Int} {m : Nat} (h : GoodT t c m) : Srt t.prs := by
  rw [h.prs]; exact rowL_srt c _
theorem good_len {t : T} {c : Int} {m : Nat} (h : GoodT t c m) : t.prs.length ≤ m := by
  rw [← cnt_prs]; exact h.len
theorem good_ht {t : T} {c : Int} {m : Nat} (h : GoodT t c m) (hm : m ≤ 8000) : t.ht < 30 := by
  obtain ⟨n, w⟩ := h.wf
  have := small_rank w (Nat.le_trans (good_len h) hm)
  have h2 := wf_ht w
  simp at h2
  omega
theorem plain_filter {l : List Pr} {f : Pr → Bool} (h : plainL l) : plainL (l.filter f) := fun p hp => h p (List.mem_filter.mp hp).1
theorem atL_mem {l : List Pr} {key : Int} {p : Pr} (h : atL key l = some p) : p ∈ l := List.mem_of_find?_eq_some h
/-- the pairs of a row that a test takes, as a comprehension writes them -/
theorem comp_prs {j : Nat} {t : M Bool} {p : Pr → Bool} {S : Sl} (hj : j < S.length) (hS : S.set j .no = S) {l : List Pr} (ht : ∀ x ∈ l, t (S.set j (.d (prD x))) = some (p x, S.set j (.d (prD x)))) :
    compL j t (mV j) (l.map prD) S = some ((l.filter p).map prD, S) := by
  refine compL_pureN (g := prD) (f := prD) hS ht fun x _ _ => ?_
  simp [hj, vK]
theorem head_opt {l : List Pr} {key : Int} : ((l.filter fun p => decide (p.1 = key)).map prD ++ [PyData.none])[0]? = some (optD (atL key l)) := by
  unfold atL
  rw [← List.head?_filter]
  cases l.filter (fun p => decide (p.1 = key)) <;> rfl
theorem e_put {t : T} {n : Nat} (key : Int) (x : Dat) (hw : t.wf true n) (hs : Srt t.prs) (hl : t.prs.length ≤ 8000) :
    ∃ u : T, F_put [.d t.d, .d (.int key), .d x] = some (.d u.d, []) ∧ u.prs = lessL key t.prs ++ (key, x) :: grL key t.prs ∧ ∃ k, u.wf true k := by
  have hn := small_rank hw hl
  have hh := wf_ht hw
  obtain ⟨ec, ok⟩ := e_cut key 30 t true n hw hs hl (by simp at hh; omega)
  have ec : F_cut_at [.d t.d, .d (.int key)] = _ := ec
  obtain ⟨na, wa⟩ := ok.wa
  obtain ⟨nb, wb⟩ := ok.wb
  have la : (cutT t key).1.prs.length ≤ 8000 := by rw [ok.less]; exact Nat.le_trans (List.length_filter_le _ _) hl
  have lb : (cutT t key).2.2.prs.length ≤ 8000 := by rw [ok.gr]; exact Nat.le_trans (List.length_filter_le _ _) hl
  have ra := small_rank wa la
  have rb := small_rank wb lb
  obtain ⟨p1, p2, k, wk, _⟩ := put2_wf key x wa wb (by omega) (by omega)
  refine ⟨_, ?_, by rw [p2, ok.less, ok.gr], k, wk⟩
  refine (run_d (p := 3) (n := 6) (m := m_put) (xs := [t.d, .int key, x]) rfl).trans ?_
  simp [m_put, ec, p1]
end Rp
end
set_option Elab.async false
set_option linter.all false
set_option maxRecDepth 100000
/-! Looking: counts, places, neighbours. -/
noncomputable section
namespace Rp
open PySem PySem.Spec PyProof.Rows L2

theorem run_dX {p n : Nat} {m : MS} {xs : List Dat} (hl : xs.length = p) : runFX p n m (xs.map FA.d) = match m (xs.map SV.d ++ List.replicate (n - p) .no) with
    | some o => some (o.res, [])
    | none => none := by
  have e1 : ∀ (xs : List Dat) (k : Nat), initS k (xs.map FA.d) = xs.map SV.d := by
    intro xs; induction xs with
    | nil => intro k; rfl
    | cons x xs ih => intro k; show SV.d x :: initS k (xs.map FA.d) = _; rw [ih]; rfl
  have e2 : ∀ (xs : List Dat) (k : Nat) (S : Sl), newsOf k (xs.map FA.d) S = some [] := by
    intro xs; induction xs with
    | nil => intro k S; unfold newsOf; rfl
    | cons x xs ih => intro k S; exact ih k S.tail
  unfold runFX
  rw [if_pos (by rw [List.length_map]; exact hl), e1]
  simp only [e2]
  try rfl
/-! ### how many keys are less -/
def cb (key : Int) : T → Int
  | .nil => 0
  | .node _ l k _ r _ => if k < key then l.sz + 1 + cb key r else cb key l
@[simp] theorem e_size' (t : T) : F_size_of [.d t.d] = some (.d (.int t.sz), []) := e_size t
theorem cb_loop (key : Int) : ∀ (t : T) (n : Int), sWhile (Rp.tB (mBin isNotD (mV 0) (mC .none))) (sIf (Rp.tB (mBin ltD (mIxV 0 (mC (.int 2))) (mV 1))) (sSeq (sAsg 2 (mBin addD (mBin addD (mV 2) (mCall F_size_of (aCons (mIxV 0 (mC (.int 1))) aNil))) (mC (.int 1)))) (sAsg 0 (mIxV 0 (mC (.int 4))))) (sAsg 0 (mIxV 0 (mC (.int 1)))))
      [.d t.d, .d (.int key), .d (.int n)] = some (.nx [.d .none, .d (.int key), .d (.int (n + cb key t))])
  | .nil, n => by
    rw [sWhile_eq]
    simp [cb]
  | .node p l k x r c, n => by
    rw [sWhile_eq]
    by_cases h : k < key
    · simp [h]
      rw [cb_loop key r]
      simp only [cb, if_pos h]
      rw [show n + l.sz + 1 + cb key r = n + (l.sz + 1 + cb key r) by omega]
    · simp [h]
      rw [cb_loop key l]
      simp only [cb, if_neg h]
theorem e_count (t : T) (key : Int) : F_count_below [.d t.d, .d (.int key)] = some (.d (.int (cb key t)), []) := by
  refine (run_d (p := 2) (n := 3) (m := m_count_below) (xs := [t.d, .int key]) rfl).trans ?_
  have e := cb_loop key t 0
  rw [Int.zero_add] at e
  simp [m_count_below, e]
theorem wf_parts {p : Bool} {l r : T} {k : Int} {x : Dat} {c : Int} {u : Bool} {n : Nat} (h : (T.node p l k x r c).wf u n) : c = l.cnt + 1 + r.cnt ∧ (∃ u' n', l.wf u' n') ∧ ∃ u' n', r.wf u' n' := by
  refine ⟨h.1, ?_⟩
  rcases h.2.2 with ⟨_, h1, h2⟩ | ⟨_, m, _, h1, h2⟩
  · exact ⟨⟨_, _, h1⟩, _, _, h2⟩
  · exact ⟨⟨_, _, h1⟩, _, _, h2⟩
theorem srt_parts {l r : List Pr} {k : Int} {x : Dat} (h : Srt (l ++ (k, x) :: r)) : Srt l ∧ Srt r ∧ (∀ a ∈ l, a.1 < k) ∧ ∀ a ∈ r, k < a.1 := by
  rw [srt_append, srt_cons] at h
  exact ⟨h.1, h.2.1.2, fun a ha => h.2.2 a ha _ List.mem_cons_self, fun a ha => h.2.1.1 a ha⟩
theorem less_node_lt {l r : List Pr} {k key : Int} {x : Dat} (h : Srt (l ++ (k, x) :: r)) (hk : k < key) : lessL key (l ++ (k, x) :: r) = l ++ (k, x) :: lessL key r := by
  obtain ⟨_, _, h1, _⟩ := srt_parts h
  unfold lessL
  rw [List.filter_append, filter_all (fun a ha => by have := h1 a ha; simp; omega), List.filter_cons, if_pos (by simpa using hk)]
theorem less_node_ge {l r : List Pr} {k key : Int} {x : Dat} (h : Srt (l ++ (k, x) :: r)) (hk : ¬ k < key) : lessL key (l ++ (k, x) :: r) = lessL key l := by
  obtain ⟨_, _, _, h2⟩ := srt_parts h
  unfold lessL
  rw [List.filter_append, List.filter_cons, if_neg (by simpa using hk), filter_no (l := r) (fun a ha => by have := h2 a ha; simp; omega), List.append_nil]
theorem gr_node_gt {l r : List Pr} {k key : Int} {x : Dat} (h : Srt (l ++ (k, x) :: r)) (hk : key < k) : grL key (l ++ (k, x) :: r) = grL key l ++ (k, x) :: r := by
  obtain ⟨_, _, _, h2⟩ := srt_parts h
  unfold grL
  rw [List.filter_append, List.filter_cons, if_pos (by simpa using hk), filter_all (l := r) (fun a ha => by have := h2 a ha; simp; omega)]
theorem gr_node_le {l r : List Pr} {k key : Int} {x : Dat} (h : Srt (l ++ (k, x) :: r)) (hk : ¬ key < k) : grL key (l ++ (k, x) :: r) = grL key r := by
  obtain ⟨_, _, h1, _⟩ := srt_parts h
  unfold grL
  rw [List.filter_append, List.filter_cons, if_neg (by simpa using hk), filter_no (l := l) (fun a ha => by have := h1 a ha; simp; omega), List.nil_append]
theorem cb_less (key : Int) : ∀ {t : T} {u : Bool} {n : Nat}, t.wf u n → Srt t.prs → cb key t = (lessL key t.prs).length
  | .nil, _, _, _, _ => rfl
  | .node p l k x r c, u, n, hw, hs => by
    obtain ⟨_, ⟨_, _, hl⟩, _, _, hr⟩ := wf_parts hw
    obtain ⟨s1, s2, _, _⟩ := srt_parts hs
    unfold cb
    rw [prs_node]
    by_cases h : k < key
    · rw [if_pos h, less_node_lt hs h, cb_less key hr s2, wf_sz hl, cnt_prs, List.length_append, List.length_cons]
      omega
    · rw [if_neg h, less_node_ge hs h, cb_less key hl s1]
/-! ### the pair at a place -/
theorem at_loop : ∀ (t : T) (u : Bool) (n : Nat) (i : Nat) (q : Pr) (w : SV), t.wf u n → t.prs[i]? = some q → ∃ S, sWhile (tTr (mC (.bool true))) (sSeq (sAsg 2 (mCall F_size_of (aCons (mIxV 0 (mC (.int 1))) aNil))) (sSeq (sIf (Rp.tB (mBin eqD (mV 1) (mV 2))) (sRet (mTup (mCons (mIxV 0 (mC (.int 2))) (mCons (mIxV 0 (mC (.int 3))) mNil)))) sNx)
      (sIf (Rp.tB (mBin ltD (mV 1) (mV 2))) (sAsg 0 (mIxV 0 (mC (.int 1)))) (sSeq (sAsg 1 (mBin subD (mBin subD (mV 1) (mV 2)) (mC (.int 1)))) (sAsg 0 (mIxV 0 (mC (.int 4)))))))) [.d t.d, .d (.int i), w] = some (.rt (.d (prD q)) S)
  | .nil, _, _, i, q, w, _, h => by simp at h
  | .node p l k x r c, u, n, i, q, w, hw, h => by
    obtain ⟨_, ⟨_, _, hl⟩, _, _, hr⟩ := wf_parts hw
    have hlen : l.sz = (l.prs.length : Int) := by rw [wf_sz hl, cnt_prs]
    rw [prs_node] at h
    rw [sWhile_eq]
    by_cases h1 : i = l.prs.length
    · subst h1
      rw [List.getElem?_append_right (Nat.le_refl _), Nat.sub_self] at h
      cases h
      simp [hlen, prD]
    · have h1' : ¬ (i : Int) = l.prs.length := by omega
      by_cases h2 : i < l.prs.length
      · have h2' : (i : Int) < l.prs.length := by omega
        rw [List.getElem?_append_left h2] at h
        obtain ⟨S, e⟩ := at_loop l _ _ i q (.d (.int l.sz)) hl h
        rw [hlen] at e
        refine ⟨S, ?_⟩
        simp [hlen, h1', h2', e]
      · have h2' : ¬ (i : Int) < l.prs.length := by omega
        rw [List.getElem?_append_right (by omega), show i - l.prs.length = (i - l.prs.length - 1) + 1 by omega, List.getElem?_cons_succ] at h
        obtain ⟨S, e⟩ := at_loop r _ _ (i - l.prs.length - 1) q (.d (.int l.sz)) hr h
        have h4 : ((i - l.prs.length - 1 : Nat) : Int) = i - l.prs.length - 1 := by omega
        rw [h4, hlen] at e
        refine ⟨S, ?_⟩
        simp [hlen, h1', h2', e]
theorem e_at {t : T} {u : Bool} {n : Nat} (hw : t.wf u n) {i : Nat} {q : Pr} (h : t.prs[i]? = some q) : F_pair_at [.d t.d, .d (.int i)] = some (.d (prD q), []) := by
  refine (run_dX (p := 2) (n := 3) (m := m_pair_at) (xs := [t.d, .int i]) rfl).trans ?_
  obtain ⟨S, e⟩ := at_loop t u n i q .no hw h
  have h1 : i < t.prs.length := (List.getElem?_eq_some_iff.mp h).1
  have h2 : ¬ t.sz ≤ (i : Int) := by rw [wf_sz hw, cnt_prs]; omega
  have h3 : ¬ (i : Int) < 0 := by omega
  simp [m_pair_at, h2, h3, e, Out.res]
theorem e_at_no {t : T} {i : Int} (h : i < 0 ∨ t.sz ≤ i) : F_pair_at [.d t.d, .d (.int i)] = some (.x 2, []) := by
  refine (run_dX (p := 2) (n := 3) (m := m_pair_at) (xs := [t.d, .int i]) rfl).trans ?_
  by_cases h1 : i < 0
  · simp [m_pair_at, h1, sRaise, Out.res]
  · have h2 : t.sz ≤ i := h.resolve_left h1
    simp [m_pair_at, h1, h2, sRaise, Out.res]
/-! ### the neighbours -/
def pAh (key : Int) : T → Option Pr → Option Pr
  | .nil, b => b
  | .node _ l k x r _, b => if k < key then pAh key r (some (k, x)) else pAh key l b
def pBe (key : Int) : T → Option Pr → Option Pr
  | .nil, b => b
  | .node _ l k x r _, b => if key < k then pBe key l (some (k, x)) else pBe key r b
theorem ah_loop (key : Int) : ∀ (t : T) (b : Option Pr), sWhile (Rp.tB (mBin isNotD (mV 0) (mC .none))) (sIf (Rp.tB (mBin ltD (mIxV 0 (mC (.int 2))) (mV 1))) (sSeq (sAsg 2 (mTup (mCons (mIxV 0 (mC (.int 2))) (mCons (mIxV 0 (mC (.int 3))) mNil)))) (sAsg 0 (mIxV 0 (mC (.int 4))))) (sAsg 0 (mIxV 0 (mC (.int 1)))))
      [.d t.d, .d (.int key), .d (optD b)] = some (.nx [.d .none, .d (.int key), .d (optD (pAh key t b))])
  | .nil, b => by
    rw [sWhile_eq]
    simp [pAh]
  | .node p l k x r c, b => by
    rw [sWhile_eq]
    by_cases h : k < key
    · have e := ah_loop key r (some (k, x))
      simp only [optD, prD] at e
      simp [h, e, pAh]
      rfl
    · have e := ah_loop key l b
      simp [h, e, pAh]
theorem be_loop (key : Int) : ∀ (t : T) (b : Option Pr), sWhile (Rp.tB (mBin isNotD (mV 0) (mC .none))) (sIf (Rp.tB (mBin gtD (mIxV 0 (mC (.int 2))) (mV 1))) (sSeq (sAsg 2 (mTup (mCons (mIxV 0 (mC (.int 2))) (mCons (mIxV 0 (mC (.int 3))) mNil)))) (sAsg 0 (mIxV 0 (mC (.int 1))))) (sAsg 0 (mIxV 0 (mC (.int 4)))))
      [.d t.d, .d (.int key), .d (optD b)] = some (.nx [.d .none, .d (.int key), .d (optD (pBe key t b))])
  | .nil, b => by
    rw [sWhile_eq]
    simp [pBe]
  | .node p l k x r c, b => by
    rw [sWhile_eq]
    by_cases h : key < k
    · have e := be_loop key l (some (k, x))
      simp only [optD, prD] at e
      simp [h, e, pBe]
      rfl
    · have e := be_loop key r b
      simp [h, e, pBe]
theorem e_ahead (t : T) (key : Int) : F_pair_ahead [.d t.d, .d (.int key)] = some (.d (optD (pAh key t none)), []) := by
  refine (run_d (p := 2) (n := 3) (m := m_pair_ahead) (xs := [t.d, .int key]) rfl).trans ?_
  have e := ah_loop key t none
  simp only [optD] at e
  simp [m_pair_ahead, e, optD]
theorem e_behind (t : T) (key : Int) : F_pair_behind [.d t.d, .d (.int key)] = some (.d (optD (pBe key t none)), []) := by
  refine (run_d (p := 2) (n := 3) (m := m_pair_behind) (xs := [t.d, .int key]) rfl).trans ?_
  have e := be_loop key t none
  simp only [optD] at e
  simp [m_pair_behind, e, optD]
theorem pAh_less (key : Int) : ∀ {t : T} {b : Option Pr}, Srt t.prs → pAh key t b = ((lessL key t.prs).getLast?).or b
  | .nil, b, _ => rfl
  | .node p l k x r c, b, hs => by
    obtain ⟨s1, s2, _, _⟩ := srt_parts hs
    unfold pAh
    rw [prs_node]
    by_cases h : k < key
    · rw [if_pos h, less_node_lt hs h, pAh_less key s2]
      cases e : (lessL key r.prs).getLast? with
      | none =>
        rw [List.getLast?_eq_none_iff.mp e]
        simp
      | some q => simp [List.getLast?_append, List.getLast?_cons, e]
    · rw [if_neg h, less_node_ge hs h, pAh_less key s1]
theorem pBe_gr (key : Int) : ∀ {t : T} {b : Option Pr}, Srt t.prs → pBe key t b = ((grL key t.prs).head?).or b
  | .nil, b, _ => rfl
  | .node p l k x r c, b, hs => by
    obtain ⟨s1, s2, _, _⟩ := srt_parts hs
    unfold pBe
    rw [prs_node]
    by_cases h : key < k
    · rw [if_pos h, gr_node_gt hs h, pBe_gr key s1]
      cases e : grL key l.prs with
      | nil => simp
      | cons q qs => simp
    · rw [if_neg h, gr_node_le hs h, pBe_gr key s2]
end Rp
end
set_option Elab.async false
set_option linter.all false
set_option maxRecDepth 100000
/-! Pairs between two keys; lists that are alike. -/
noncomputable section
namespace Rp
open PySem PySem.Spec PyProof.Rows L2

theorem rangeD_nil {lo hi : Int} (h : hi ≤ lo) : rangeD lo hi = [] := by
  unfold rangeD
  rw [show (hi - lo).toNat = 0 by omega]; rfl
theorem rangeD_cons {lo hi : Int} (h : lo < hi) : rangeD lo hi = .int lo :: rangeD (lo + 1) hi := by
  unfold rangeD
  rw [show (hi - lo).toNat = (hi - (lo + 1)).toNat + 1 by omega, List.range_succ_eq_map, List.map_cons, List.map_map]
  simp
  intro i hi
  omega
theorem between_loop {t : T} {u : Bool} {k : Nat} (hw : t.wf u k) (x y : SV) : ∀ (n a : Nat) (acc : List Dat) (w : SV), a + n ≤ t.prs.length → acc.length + n ≤ 90000 →
    ∃ w', forL (gN 4) (sApp 3 (mCall F_pair_at (aCons (mV 0) (aCons (mV 4) aNil)))) (rangeD a (a + n : Int)) [.d t.d, x, y, .o (.l acc), w] = some (.nx [.d t.d, x, y, .o (.l (acc ++ ((t.prs.drop a).take n).map prD)), w'])
  | 0, a, acc, w, _, _ => ⟨w, by rw [rangeD_nil (by omega)]; simp [forL]⟩
  | n + 1, a, acc, w, h, hl => by
    obtain ⟨q, rest, e1, e2, _⟩ : ∃ q rest, t.prs.drop a = q :: rest ∧ t.prs[a]? = some q ∧ True := ⟨t.prs[a], t.prs.drop (a + 1), List.drop_eq_getElem_cons (by omega), List.getElem?_eq_getElem (by omega), trivial⟩
    have e3 : t.prs.drop (a + 1) = rest := by rw [← List.drop_drop, e1]; rfl
    have ea := e_at hw e2
    have hl' : acc.length < 100000 := by omega
    obtain ⟨w', ih⟩ := between_loop hw x y n (a + 1) (acc ++ [prD q]) (.d (.int a)) (by omega) (by simp; omega)
    refine ⟨w', ?_⟩
    rw [rangeD_cons (by omega), forL_cons, e1, List.take_succ_cons, List.map_cons]
    rw [e3] at ih
    have e4 : ((a + 1 : Nat) : Int) + n = a + (n + 1 : Nat) := by omega
    rw [e4] at ih
    simp at ih
    simp [ea, hl', ih]
theorem less_len_mono {l : List Pr} {a b : Int} (h : a ≤ b) : (lessL a l).length ≤ (lessL b l).length := by
  induction l with
  | nil => exact Nat.le_refl _
  | cons p l ih =>
    unfold lessL at ih ⊢
    rw [List.filter_cons, List.filter_cons]
    by_cases h1 : p.1 < a
    · rw [if_pos (by simpa using h1), if_pos (by simp; omega)]
      simpa using ih
    · rw [if_neg (by simpa using h1)]
      by_cases h2 : p.1 < b
      · rw [if_pos (by simpa using h2), List.length_cons]
        omega
      · rw [if_neg (by simpa using h2)]
        exact ih
theorem take_less {b : Int} : ∀ {l : List Pr}, Srt l → l.take (lessL b l).length = lessL b l
  | [], _ => rfl
  | p :: l, h => by
    have h := srt_cons.mp h
    unfold lessL
    rw [List.filter_cons]
    by_cases h1 : p.1 < b
    · rw [if_pos (by simpa using h1), List.length_cons, List.take_succ_cons]
      have := take_less (b := b) h.2
      unfold lessL at this
      rw [this]
    · rw [if_neg (by simpa using h1), filter_no (l := l) (fun a ha => by have := h.1 a ha; simp; omega)]
      rfl
/-- the pairs from low up to high -/
def midL (low high : Int) (l : List Pr) : List Pr := l.filter fun p => decide (low ≤ p.1) && decide (p.1 < high)
theorem lessL_cons {b : Int} {p : Pr} {l : List Pr} : lessL b (p :: l) = if p.1 < b then p :: lessL b l else lessL b l := by
  unfold lessL; simp [List.filter_cons]
theorem midL_cons {a b : Int} {p : Pr} {l : List Pr} : midL a b (p :: l) = if a ≤ p.1 ∧ p.1 < b then p :: midL a b l else midL a b l := by
  unfold midL; simp [List.filter_cons]
theorem less_none {b : Int} {l : List Pr} (h : ∀ a ∈ l, b ≤ a.1) : lessL b l = [] := filter_no fun a ha => by have := h a ha; simp; omega
theorem mid_cut {low high : Int} : ∀ {l : List Pr}, Srt l → (l.drop (lessL low l).length).take ((lessL high l).length - (lessL low l).length) = midL low high l
  | [], _ => rfl
  | p :: l, h => by
    have hs := srt_cons.mp h
    have ih := mid_cut (low := low) (high := high) hs.2
    rw [lessL_cons, lessL_cons, midL_cons]
    by_cases h1 : p.1 < low
    · rw [if_pos h1, if_neg (c := low ≤ p.1 ∧ p.1 < high) (by omega)]
      by_cases h2 : p.1 < high
      · rw [if_pos h2, List.length_cons, List.length_cons, List.drop_succ_cons, Nat.add_sub_add_right]
        exact ih
      · have e : lessL high l = [] := less_none fun a ha => by have := hs.1 a ha; omega
        rw [if_neg h2, List.length_cons, List.drop_succ_cons]
        rw [e] at ih ⊢
        simp at ih ⊢
        exact ih
    · have e : lessL low l = [] := less_none fun a ha => by have := hs.1 a ha; omega
      rw [if_neg h1, e]
      have ht := take_less (b := high) h
      have e3 : midL low high l = lessL high l := List.filter_congr fun a ha => by have := hs.1 a ha; simp; omega
      rw [lessL_cons] at ht
      rw [List.length_nil, List.drop_zero, Nat.sub_zero, ht, e3]
      by_cases h2 : p.1 < high
      · rw [if_pos h2, if_pos (by omega)]
      · rw [if_neg h2, if_neg (by omega)]
theorem e_between {t : T} {u : Bool} {k : Nat} (hw : t.wf u k) (hs : Srt t.prs) (hl : t.prs.length ≤ 8000) (low high : Int) :
    F_pairs_between [.d t.d, .d (.int low), .d (.int high)] = some (.f (.l ((midL low high t.prs).map prD)), []) := by
  refine (run_d (p := 3) (n := 5) (m := m_pairs_between) (xs := [t.d, .int low, .int high]) rfl).trans ?_
  have ea := e_count t low
  have eb := e_count t high
  rw [cb_less low hw hs] at ea
  rw [cb_less high hw hs] at eb
  have la : (lessL low t.prs).length ≤ t.prs.length := List.length_filter_le _ _
  have lb : (lessL high t.prs).length ≤ t.prs.length := List.length_filter_le _ _
  have hm := mid_cut (low := low) (high := high) hs
  generalize (lessL low t.prs).length = a at *
  generalize (lessL high t.prs).length = b at *
  have ia : inLine (a : Int) = true := inLine_nat (by omega)
  have ib : inLine (b : Int) = true := inLine_nat (by omega)
  by_cases h : a ≤ b
  · obtain ⟨w', e⟩ := between_loop hw (.d (.int low)) (.d (.int high)) (b - a) a [] .no (by omega) (by simp; omega)
    rw [hm] at e
    have e4 : (a : Int) + (b - a : Nat) = b := by omega
    rw [e4] at e
    simp at e
    simp [m_pairs_between, ea, eb, ia, ib, e]
  · have e : rangeD (a : Int) b = [] := rangeD_nil (by omega)
    rw [show b - a = 0 by omega, List.take_zero] at hm
    rw [← hm]
    simp [m_pairs_between, ea, eb, ia, ib, e, forL]
/-! ### lists of truths and of numbers -/
theorem eqv_trues : ∀ n : Nat, PyData.eqvAll (List.replicate n (.bool true)) (List.replicate n (.bool true)) = true
  | 0 => rfl
  | n + 1 => by
    rw [List.replicate_succ]
    simp [PyData.eqvAll, PyData.eqv, eqv_trues n]
theorem lay_all : ∀ {l : List Dat}, (∀ x ∈ l, x.canLay0 = true) → PyData.canLayAll0 l = true
  | [], _ => rfl
  | x :: l, h => by
    simp [PyData.canLayAll0, h x List.mem_cons_self, lay_all fun y hy => h y (List.mem_cons_of_mem _ hy)]
theorem depth_all {n : Nat} : ∀ {l : List Dat}, (∀ x ∈ l, x.depth ≤ n) → PyData.depthAll l ≤ n
  | [], _ => Nat.zero_le _
  | x :: l, h => by
    have h1 := h x List.mem_cons_self
    have h2 := depth_all fun y hy => h y (List.mem_cons_of_mem _ hy)
    simp [PyData.depthAll]
    omega
theorem shaped_flat {l : List Dat} (h : ∀ x ∈ l, x.canLay0 = true ∧ x.depth ≤ 1) : SeqAt.shaped (.list l) = true := by
  have h1 := lay_all fun x hx => (h x hx).1
  have h2 := depth_all (n := 1) fun x hx => (h x hx).2
  unfold SeqAt.shaped
  rw [Bool.and_eq_true, decide_eq_true_eq]
  refine ⟨by simpa [PyData.canLay0] using h1, ?_⟩
  simp [PyData.depth]
  omega
@[simp] theorem isList_l {xs : List Dat} : isList (.list xs) = true := rfl
@[simp] theorem flat_rep {α : Type} (n : Nat) (x : α) : (List.replicate n [x]).flatten = List.replicate n x := by
  induction n with
  | zero => rfl
  | succ n ih => rw [List.replicate_succ, List.flatten_cons, ih]; rfl
@[simp] theorem eqD_trues (n : Nat) : eqD (.list (List.replicate n (.bool true))) (.list (List.replicate n (.bool true))) = some (.bool true) := by
  have h1 : SeqAt.shaped (.list (List.replicate n (.bool true))) = true := shaped_flat fun x hx => by
    rw [List.eq_of_mem_replicate hx]
    exact ⟨rfl, by decide⟩
  have h2 : PyData.eqv (.list (List.replicate n (.bool true))) (.list (List.replicate n (.bool true))) = true := by
    simp [PyData.eqv, eqv_trues n]
  simp only [eqD, scalD, h1, h2, Bool.and_true, if_true]
end Rp
end
set_option Elab.async false
set_option linter.all false
set_option maxRecDepth 100000
/-! Roads; all pairs. -/
noncomputable section
namespace Rp
open PySem PySem.Spec PyProof.Rows L2

/-- the knots that are met on the way to a key -/
def rdT (key : Int) : T → List T
  | .nil => []
  | .node p l k x r c => .node p l k x r c :: (if key = k then [] else if key < k then rdT key l else rdT key r)
def T.key : T → Int
  | .nil => 0
  | .node _ _ k _ _ _ => k
def rdK (key : Int) (t : T) : List Int := (rdT key t).map T.key
theorem rdT_len (key : Int) : ∀ t : T, (rdT key t).length ≤ t.ht
  | .nil => Nat.le_refl _
  | .node p l k x r c => by
    unfold rdT
    have h1 := rdT_len key l
    have h2 := rdT_len key r
    simp only [T.ht, List.length_cons]
    split
    · simp
    · split <;> omega
theorem rdT_node (key : Int) : ∀ {t u : T}, u ∈ rdT key t → ∃ p l k x r c, u = .node p l k x r c
  | .nil, u, h => by simp [rdT] at h
  | .node p l k x r c, u, h => by
    unfold rdT at h
    rcases List.mem_cons.mp h with h | h
    · exact ⟨p, l, k, x, r, c, h⟩
    · split at h
      · simp at h
      · split at h
        · exact rdT_node key h
        · exact rdT_node key h
theorem knots_loop (key : Int) : ∀ (t : T) (acc : List Dat), acc.length + t.ht ≤ 90000 → ∃ o, sWhile (Rp.tB (mBin isNotD (mV 0) (mC .none))) (sSeq (sApp 2 (mV 0)) (sSeq (sIf (Rp.tB (mBin eqD (mV 1) (mIxV 0 (mC (.int 2))))) (sRetV 2) sNx) (sIf (Rp.tB (mBin ltD (mV 1) (mIxV 0 (mC (.int 2))))) (sAsg 0 (mIxV 0 (mC (.int 1)))) (sAsg 0 (mIxV 0 (mC (.int 4)))))))
      [.d t.d, .d (.int key), .o (.l acc)] = some o ∧ (o = .nx [.d .none, .d (.int key), .o (.l (acc ++ (rdT key t).map T.d))] ∨ ∃ S, o = .rt (.f (.l (acc ++ (rdT key t).map T.d))) S)
  | .nil, acc, h => by
    rw [sWhile_eq]
    refine ⟨_, ?_, .inl rfl⟩
    simp [rdT]
  | .node p l k x r c, acc, h => by
    have hh : (T.node p l k x r c).ht = max l.ht r.ht + 1 := rfl
    have hacc : acc.length < 100000 := by omega
    rw [sWhile_eq]
    by_cases h1 : key = k
    · subst h1
      refine ⟨.rt (.f (.l (acc ++ (rdT key (.node p l key x r c)).map T.d))) [.d (T.node p l key x r c).d, .d (.int key), .o (.l (acc ++ [(T.node p l key x r c).d]))], ?_, .inr ⟨_, rfl⟩⟩
      simp [rdT, hacc]
    · by_cases h2 : key < k
      · obtain ⟨o, e, ho⟩ := knots_loop key l (acc ++ [(T.node p l k x r c).d]) (by simp; omega)
        refine ⟨o, ?_, ?_⟩
        · simp at e
          simp [h1, h2, hacc, e]
        · simpa [rdT, h1, h2] using ho
      · obtain ⟨o, e, ho⟩ := knots_loop key r (acc ++ [(T.node p l k x r c).d]) (by simp; omega)
        refine ⟨o, ?_, ?_⟩
        · simp at e
          simp [h1, h2, hacc, e]
        · simpa [rdT, h1, h2] using ho
theorem e_knots (t : T) (key : Int) (h : t.ht ≤ 80000) : F_knots_to [.d t.d, .d (.int key)] = some (.f (.l ((rdT key t).map T.d)), []) := by
  refine (run_d (p := 2) (n := 3) (m := m_knots_to) (xs := [t.d, .int key]) rfl).trans ?_
  obtain ⟨o, e, ho⟩ := knots_loop key t [] (by simp; omega)
  rcases ho with rfl | ⟨S, rfl⟩
  · simp [m_knots_to, e, Out.res]
  · simp [m_knots_to, e, Out.res]
theorem e_road_to (t : T) (key : Int) (h : t.ht ≤ 80000) : F_road_to [.d t.d, .d (.int key)] = some (.f (.l ((rdK key t).map PyData.int)), []) := by
  refine (run_d (p := 2) (n := 3) (m := m_road_to) (xs := [t.d, .int key]) rfl).trans ?_
  have e := e_knots t key h
  have hl := rdT_len key t
  have q := compL_mapN (g := T.d) (f := fun u : T => .int u.key) (j := 2) (e := mIxV 2 (mC (.int 2))) (xs := rdT key t) (S := [.d t.d, .d (.int key), .no]) rfl (fun u hu => by
    obtain ⟨p, l, k, x, r, c, rfl⟩ := rdT_node key hu
    simp [T.d, T.key])
  have hl2 : (rdT key t).length ≤ 100000 := by omega
  have e2 : (rdK key t).map PyData.int = (rdT key t).map fun u : T => .int u.key := by unfold rdK; rw [List.map_map]; rfl
  rw [e2]
  simp [m_road_to, e, q, hl2]
/-- the last knot on the way -/
theorem road_last (key : Int) : ∀ {t : T}, Srt t.prs → (rdT key t = [] ∧ t = .nil) ∨ ∃ rs p l k x r c, rdT key t = rs ++ [.node p l k x r c] ∧ atL key t.prs = if k = key then some (k, x) else none
  | .nil, _ => .inl ⟨rfl, rfl⟩
  | .node p l k x r c, hs => by
    right
    obtain ⟨s1, s2, h1, h2⟩ := srt_parts hs
    unfold rdT
    rw [prs_node]
    by_cases h : key = k
    · subst h
      refine ⟨[], p, l, key, x, r, c, by simp, ?_⟩
      unfold atL
      rw [List.find?_append, find_no (fun a ha => by have := h1 a ha; simp; omega)]
      simp
    · by_cases hl : key < k
      · have ea : atL key (l.prs ++ (k, x) :: r.prs) = atL key l.prs := by
          unfold atL
          rw [List.find?_append, find_no (l := (k, x) :: r.prs) (fun a ha => by
            rcases List.mem_cons.mp ha with e | ha
            · subst e; simp; omega
            · have := h2 a ha; simp; omega)]
          simp
        rw [if_neg h, if_pos hl, ea]
        rcases road_last key s1 with ⟨e, hn⟩ | ⟨rs, p', l', k', x', r', c', e, hk⟩
        · subst hn
          refine ⟨[], p, .nil, k, x, r, c, by rw [e]; rfl, ?_⟩
          rw [if_neg (fun z => h z.symm)]; rfl
        · exact ⟨.node p l k x r c :: rs, p', l', k', x', r', c', by rw [e]; rfl, hk⟩
      · have ea : atL key (l.prs ++ (k, x) :: r.prs) = atL key r.prs := by
          unfold atL
          rw [List.find?_append, find_no (l := l.prs) (fun a ha => by have := h1 a ha; simp; omega), List.find?_cons, Option.none_or]
          simp [show ¬ k = key from fun z => h z.symm]
        rw [if_neg h, if_neg hl, ea]
        rcases road_last key s2 with ⟨e, hn⟩ | ⟨rs, p', l', k', x', r', c', e, hk⟩
        · subst hn
          refine ⟨[], p, l, k, x, .nil, c, by rw [e]; rfl, ?_⟩
          rw [if_neg (fun z => h z.symm)]; rfl
        · exact ⟨.node p l k x r c :: rs, p', l', k', x', r', c', by rw [e]; rfl, hk⟩
@[simp] theorem atI_snoc {xs : List Dat} {x : Dat} : atI (xs ++ [x]) (-1) = some x := by
  have h : ixN (xs.length + 1) (-1) = some xs.length := by
    unfold ixN
    rw [if_neg (by omega), if_pos (by omega)]
    congr 1
    omega
  unfold atI
  rw [List.length_append, List.length_cons, List.length_nil, h]
  simp
theorem e_has {t : T} (key : Int) (h : t.ht ≤ 80000) (hs : Srt t.prs) : F_has_key [.d t.d, .d (.int key)] = some (.d (.bool (atL key t.prs).isSome), []) := by
  refine (run_d (p := 2) (n := 3) (m := m_has_key) (xs := [t.d, .int key]) rfl).trans ?_
  have e := e_knots t key h
  rcases road_last key hs with ⟨e1, rfl⟩ | ⟨rs, p, l, k, x, r, c, e1, e2⟩
  · rw [e1] at e
    simp at e
    simp [m_has_key, e, atL]
  · rw [e1] at e
    rw [e2]
    simp at e
    have h0 : (0 : Int) < (rs.length : Int) + 1 := by omega
    by_cases hk : k = key
    · subst hk; simp [m_has_key, e, h0]
    · simp [m_has_key, e, h0, hk]
theorem e_thing_of {t : T} (key : Int) (h : t.ht ≤ 80000) (hs : Srt t.prs) : F_thing_of [.d t.d, .d (.int key)] = some ((match atL key t.prs with
    | some q => .d q.2
    | none => .x 1), []) := by
  refine (run_dX (p := 2) (n := 3) (m := m_thing_of) (xs := [t.d, .int key]) rfl).trans ?_
  have e := e_knots t key h
  rcases road_last key hs with ⟨e1, rfl⟩ | ⟨rs, p, l, k, x, r, c, e1, e2⟩
  · rw [e1] at e
    simp at e
    simp [m_thing_of, e, atL, sRaise, Out.res]
  · rw [e1] at e
    rw [e2]
    simp at e
    by_cases hk : k = key
    · subst hk; simp [m_thing_of, e, sRaise, Out.res]
    · simp [m_thing_of, e, hk, sRaise, Out.res]
end Rp
end
set_option Elab.async false
set_option linter.all false
set_option maxRecDepth 100000
/-! All pairs in order. -/
noncomputable section
namespace Rp
open PySem PySem.Spec PyProof.Rows L2

def restP : List T → List Pr
  | [] => []
  | .nil :: W => restP W
  | .node _ _ k x r _ :: W => (k, x) :: (r.prs ++ restP W)
def T.isN : T → Prop
  | .nil => False
  | .node _ _ _ _ _ _ => True
/-- the stack (its top ahead) behind the walk to the left -/
def spine : T → List T → List T
  | .nil, W => W
  | .node p l k x r c, W => spine l (.node p l k x r c :: W)
theorem spine_rest : ∀ (t : T) (W : List T), restP (spine t W) = t.prs ++ restP W
  | .nil, W => rfl
  | .node p l k x r c, W => by
    unfold spine
    rw [spine_rest l, prs_node]
    simp [restP]
theorem spine_isN : ∀ (t : T) (W : List T), (∀ u ∈ W, u.isN) → ∀ u ∈ spine t W, u.isN
  | .nil, W, h => h
  | .node p l k x r c, W, h => spine_isN l _ fun u hu => by
    rcases List.mem_cons.mp hu with e | hu
    · subst e; trivial
    · exact h u hu
theorem rest_len : ∀ {W : List T}, (∀ u ∈ W, u.isN) → W.length ≤ (restP W).length
  | [], _ => Nat.le_refl _
  | .nil :: W, h => (h .nil List.mem_cons_self).elim
  | .node p l k x r c :: W, h => by
    have := rest_len (W := W) fun u hu => h u (List.mem_cons_of_mem _ hu)
    simp [restP]
    omega
theorem inner_loop (a w : SV) : ∀ (t : T) (W : List T), W.length + t.prs.length ≤ 90000 → sWhile (Rp.tB (mBin isNotD (mV 0) (mC .none))) (sSeq (sApp 2 (mV 0)) (sAsg 0 (mIxV 0 (mC (.int 1))))) [.d t.d, a, .o (.l (W.reverse.map T.d)), w] = some (.nx [.d .none, a, .o (.l ((spine t W).reverse.map T.d)), w])
  | .nil, W, h => by
    rw [sWhile_eq]
    simp [spine]
  | .node p l k x r c, W, h => by
    have hW : W.length < 100000 := by omega
    rw [prs_node, List.length_append, List.length_cons] at h
    have ih := inner_loop a w l (.node p l k x r c :: W) (by rw [List.length_cons]; omega)
    rw [sWhile_eq]
    simp at ih
    simp [hW, ih, spine]
theorem pairs_loop : ∀ (n : Nat) (t : T) (W : List T) (acc : List Dat) (w : SV), (t.prs ++ restP W).length = n → (∀ u ∈ W, u.isN) → acc.length + n ≤ 80000 →
    ∃ w', sWhile (Rp.tOr (Rp.tB (mBin isNotD (mV 0) (mC .none))) (tTrV 2)) (sSeq (sWhile (Rp.tB (mBin isNotD (mV 0) (mC .none))) (sSeq (sApp 2 (mV 0)) (sAsg 0 (mIxV 0 (mC (.int 1)))))) (sSeq (sAsg 3 (mPop 2)) (sSeq (sApp 1 (mTup (mCons (mIxV 3 (mC (.int 2))) (mCons (mIxV 3 (mC (.int 3))) mNil)))) (sAsg 0 (mIxV 3 (mC (.int 4)))))))
      [.d t.d, .o (.l acc), .o (.l (W.reverse.map T.d)), w] = some (.nx [.d .none, .o (.l (acc ++ (t.prs ++ restP W).map prD)), .o (.l []), w'])
  | 0, t, W, acc, w, h, hN, hl => by
    rw [List.length_append] at h
    have hW : W = [] := List.eq_nil_of_length_eq_zero (by have := rest_len hN; omega)
    subst hW
    have ht : t = .nil := by
      cases t with
      | nil => rfl
      | node p l k x r c => rw [prs_node, List.length_append, List.length_cons] at h; omega
    subst ht
    refine ⟨w, ?_⟩
    rw [sWhile_eq]
    simp [restP]
  | n + 1, t, W, acc, w, h, hN, hl => by
    have hlen := h
    rw [List.length_append] at hlen
    have hr := rest_len hN
    have ei := inner_loop (.o (.l acc)) w t W (by omega)
    have es := spine_rest t W
    have eN := spine_isN t W hN
    cases e : spine t W with
    | nil =>
      rw [e] at es
      rw [← es] at h
      simp [restP] at h
    | cons u W' =>
      rw [e] at es ei eN
      cases u with
      | nil => exact (eN .nil List.mem_cons_self).elim
      | node p l k x r c =>
        have h2 : (r.prs ++ restP W').length = n := by
          rw [← es] at h
          simp only [restP, List.length_cons] at h
          omega
        obtain ⟨w', ih⟩ := pairs_loop n r W' (acc ++ [prD (k, x)]) (.d (T.node p l k x r c).d) h2 (fun u hu => eN u (List.mem_cons_of_mem _ hu)) (by simp; omega)
        refine ⟨w', ?_⟩
        have hacc : acc.length < 100000 := by omega
        rw [sWhile_eq]
        have es' : t.prs ++ restP W = (k, x) :: (r.prs ++ restP W') := es.symm
        rw [es', List.map_cons]
        simp [prD] at ih
        cases t with
        | nil =>
          cases W with
          | nil => simp [restP] at es'
          | cons v W =>
            simp at ei
            simp [ei, hacc, prD, ih]
        | node p2 l2 k2 x2 r2 c2 =>
          simp at ei
          simp [ei, hacc, prD, ih]
theorem e_pairs_of (t : T) (h : t.prs.length ≤ 8000) : F_pairs_of [.d t.d] = some (.f (.l (t.prs.map prD)), []) := by
  refine (run_d (p := 1) (n := 4) (m := m_pairs_of) (xs := [t.d]) rfl).trans ?_
  obtain ⟨w', e⟩ := pairs_loop _ t [] [] .no rfl (by simp) (by simp [restP]; omega)
  simp [restP] at e
  simp [m_pairs_of, e]
end Rp
end
set_option Elab.async false
set_option linter.all false
set_option maxRecDepth 100000
/-! Trees laid together, a key taken. -/
noncomputable section
namespace Rp
open PySem PySem.Spec PyProof.Rows L2

/-- all keys of the one below all of the other -/
def apart (a b : List Pr) : Prop := ∀ p ∈ a, ∀ q ∈ b, p.1 < q.1
theorem prs_nil_iff {t : T} : t.prs = [] ↔ t = .nil := by
  cases t with
  | nil => simp
  | node p l k x r c => simp
theorem is_node {t : T} (h : t ≠ .nil) : ∃ p l k x r c, t = .node p l k x r c := by
  cases t with
  | nil => exact absurd rfl h
  | node p l k x r c => exact ⟨p, l, k, x, r, c, rfl⟩
theorem less_last {l : List Pr} {q : Pr} (h : Srt (l ++ [q])) : lessL q.1 (l ++ [q]) = l := by
  have h := srt_append.mp h
  unfold lessL
  rw [List.filter_append, filter_all (fun a ha => by have := h.2.2 a ha q (by simp); simp; omega)]
  simp
theorem e_laid {a b : T} {n m : Nat} (ha : a.wf true n) (hb : b.wf true m) (sa : Srt a.prs) (sb : Srt b.prs) (hl : a.prs.length ≤ 4000) (hl2 : b.prs.length ≤ 4000) :
    (apart a.prs b.prs → ∃ u : T, F_laid [.d a.d, .d b.d] = some (.d u.d, []) ∧ u.prs = a.prs ++ b.prs ∧ ∃ k, u.wf true k) ∧ (¬ apart a.prs b.prs → F_laid [.d a.d, .d b.d] = some (.x 3, [])) := by
  have run := run_dX (p := 2) (n := 3) (m := m_laid) (xs := [a.d, b.d]) rfl
  by_cases h1 : a = .nil
  · subst h1
    refine ⟨fun _ => ⟨b, run.trans ?_, by simp, m, hb⟩, fun z => absurd (fun p hp => by simp at hp) z⟩
    simp [m_laid, Out.res]
  by_cases h2 : b = .nil
  · subst h2
    refine ⟨fun _ => ⟨a, run.trans ?_, by simp, n, ha⟩, fun z => absurd (fun p hp q hq => by simp at hq) z⟩
    obtain ⟨p, l, k, x, r, c, rfl⟩ := is_node h1
    simp [m_laid, Out.res]
  have hsz : a.sz = (a.prs.length : Int) := by rw [wf_sz ha, cnt_prs]
  have na : a.prs ≠ [] := fun z => h1 (prs_nil_iff.mp z)
  have nb : b.prs ≠ [] := fun z => h2 (prs_nil_iff.mp z)
  obtain ⟨as, ⟨k1, x1⟩, ea⟩ := (List.eq_nil_or_concat a.prs).resolve_left na
  rw [List.concat_eq_append] at ea
  obtain ⟨⟨k2, x2⟩, bs, eb⟩ := List.exists_cons_of_ne_nil nb
  have hla : a.prs.length = as.length + 1 := by rw [ea]; simp
  have e1 := e_at (q := (k1, x1)) ha (i := as.length) (by rw [ea]; simp)
  have e2 := e_at (q := (k2, x2)) hb (i := 0) (by rw [eb]; rfl)
  have ei : a.sz - 1 = (as.length : Int) := by rw [hsz, hla]; omega
  unfold prD at e1 e2
  simp at e2
  obtain ⟨p, l, k, x, r, c, ga⟩ := is_node h1
  obtain ⟨p', l', k', x', r', c', gb⟩ := is_node h2
  have da : a.d = .tuple [.bool p, l.d, .int k, x, r.d, .int c] := by rw [ga]; rfl
  have db : b.d = .tuple [.bool p', l'.d, .int k', x', r'.d, .int c'] := by rw [gb]; rfl
  have isa : isNoD a.d = false := by rw [da]; rfl
  have isb : isNoD b.d = false := by rw [db]; rfl
  have iff : apart a.prs b.prs ↔ k1 < k2 := by
    constructor
    · exact fun h => h (k1, x1) (by rw [ea]; simp) (k2, x2) (by rw [eb]; simp)
    · intro h p hp q hq
      have s1 := srt_append.mp (ea ▸ sa)
      have s2 := srt_cons.mp (eb ▸ sb)
      have hp' : p.1 ≤ k1 := by
        rw [ea] at hp
        rcases List.mem_append.mp hp with z | z
        · exact Int.le_of_lt (s1.2.2 p z (k1, x1) (by simp))
        · rw [List.mem_singleton.mp z]; exact Int.le_refl _
      have hq' : k2 ≤ q.1 := by
        rw [eb] at hq
        rcases List.mem_cons.mp hq with z | z
        · rw [z]; exact Int.le_refl _
        · exact Int.le_of_lt (s2.1 q z)
      omega
  refine ⟨fun h => ?_, fun h => run.trans ?_⟩
  · have hk := iff.mp h
    have hk' : ¬ k2 ≤ k1 := by omega
    have hn := small_rank ha (by omega)
    have hh := wf_ht ha
    obtain ⟨ec, ok⟩ := e_cut k1 30 a true n ha sa (by omega) (by simp at hh; omega)
    have ec : F_cut_at [.d a.d, .d (.int k1)] = _ := ec
    obtain ⟨na, wa⟩ := ok.wa
    have hless : (cutT a k1).1.prs = as := by
      rw [ok.less, ea]
      exact less_last (q := (k1, x1)) (ea ▸ sa)
    have ra := small_rank wa (by rw [hless]; omega)
    have rb := small_rank hb (by omega)
    obtain ⟨p1, p2, kk, wk, _⟩ := put2_wf k1 x1 wa hb (by omega) (by omega)
    refine ⟨_, run.trans ?_, by rw [p2, hless, ea]; simp, kk, wk⟩
    simp [m_laid, isD, isa, isb, ei, e1, e2, hk', ec, p1, Out.res]
  · have hk' : k2 ≤ k1 := by
      have : ¬ k1 < k2 := fun z => h (iff.mpr z)
      omega
    simp [m_laid, isD, isa, isb, ei, e1, e2, hk', sRaise, Out.res]
theorem srt_less {l : List Pr} {key : Int} (h : Srt l) : Srt (lessL key l) := List.Pairwise.filter _ h
theorem srt_gr {l : List Pr} {key : Int} (h : Srt l) : Srt (grL key l) := List.Pairwise.filter _ h
theorem apart_less_gr {l : List Pr} {key : Int} : apart (lessL key l) (grL key l) := fun p hp q hq => by
  have h1 := (List.mem_filter.mp hp).2
  have h2 := (List.mem_filter.mp hq).2
  simp at h1 h2
  omega
theorem e_taken {t : T} {n : Nat} (key : Int) (hw : t.wf true n) (hs : Srt t.prs) (hl : t.prs.length ≤ 4000) :
    (atL key t.prs = none → F_taken [.d t.d, .d (.int key)] = some (.x 1, [])) ∧ (atL key t.prs ≠ none → ∃ u : T, F_taken [.d t.d, .d (.int key)] = some (.d u.d, []) ∧ u.prs = lessL key t.prs ++ grL key t.prs ∧ ∃ k, u.wf true k) := by
  have run := run_dX (p := 2) (n := 5) (m := m_taken) (xs := [t.d, .int key]) rfl
  have hn := small_rank hw (by omega)
  have hh := wf_ht hw
  obtain ⟨ec, ok⟩ := e_cut key 30 t true n hw hs (by omega) (by simp at hh; omega)
  have ec : F_cut_at [.d t.d, .d (.int key)] = _ := ec
  obtain ⟨na, wa⟩ := ok.wa
  obtain ⟨nb, wb⟩ := ok.wb
  have la : (lessL key t.prs).length ≤ 4000 := Nat.le_trans (List.length_filter_le _ _) hl
  have lb : (grL key t.prs).length ≤ 4000 := Nat.le_trans (List.length_filter_le _ _) hl
  have eL := e_laid wa wb (by rw [ok.less]; exact srt_less hs) (by rw [ok.gr]; exact srt_gr hs) (by rw [ok.less]; exact la) (by rw [ok.gr]; exact lb)
  rw [ok.less, ok.gr] at eL
  obtain ⟨u, e1, e2, k, wk⟩ := eL.1 apart_less_gr
  rw [ok.mid] at ec
  refine ⟨fun h => run.trans ?_, fun h => ⟨u, run.trans ?_, e2, k, wk⟩⟩
  · rw [h] at ec
    simp [m_taken, ec, optD, sRaise, Out.res]
  · obtain ⟨q, hq⟩ := Option.ne_none_iff_exists'.mp h
    rw [hq] at ec
    simp only [optD, prD] at ec
    simp [m_taken, ec, e1, Out.res, isD, isNoD]
end Rp
end
set_option Elab.async false
set_option linter.all false
set_option maxRecDepth 100000
/-! Trees joined by a key. -/
noncomputable section
namespace Rp
open PySem PySem.Spec PyProof.Rows L2

def between (key : Int) (a b : List Pr) : Prop := (∀ p ∈ a, p.1 < key) ∧ ∀ q ∈ b, key < q.1
theorem last_lt {as : List Pr} {k1 : Int} {x1 : Dat} {key : Int} (h : Srt (as ++ [(k1, x1)])) : (∀ p ∈ as ++ [(k1, x1)], p.1 < key) ↔ k1 < key := by
  have s1 := srt_append.mp h
  refine ⟨fun h => h (k1, x1) (by simp), fun hk p hp => ?_⟩
  rcases List.mem_append.mp hp with z | z
  · have := s1.2.2 p z (k1, x1) (by simp)
    simp at this
    omega
  · rw [List.mem_singleton.mp z]; exact hk
theorem head_gt {bs : List Pr} {k2 : Int} {x2 : Dat} {key : Int} (h : Srt ((k2, x2) :: bs)) : (∀ p ∈ (k2, x2) :: bs, key < p.1) ↔ key < k2 := by
  have s1 := srt_cons.mp h
  refine ⟨fun h => h (k2, x2) (by simp), fun hk p hp => ?_⟩
  rcases List.mem_cons.mp hp with z | z
  · rw [z]; exact hk
  · have := s1.1 p z
    simp at this
    omega
theorem e_joined {a b : T} {n m : Nat} (key : Int) (y : Dat) (ha : a.wf true n) (hb : b.wf true m) (sa : Srt a.prs) (sb : Srt b.prs) (hl : a.prs.length ≤ 4000) (hl2 : b.prs.length ≤ 4000) :
    (between key a.prs b.prs → ∃ u : T, F_joined [.d a.d, .d (.int key), .d y, .d b.d] = some (.d u.d, []) ∧ u.prs = a.prs ++ (key, y) :: b.prs ∧ ∃ k, u.wf true k) ∧ (¬ between key a.prs b.prs → F_joined [.d a.d, .d (.int key), .d y, .d b.d] = some (.x 3, [])) := by
  have run := run_dX (p := 4) (n := 4) (m := m_joined) (xs := [a.d, .int key, y, b.d]) rfl
  have ra := small_rank ha (by omega)
  have rb := small_rank hb (by omega)
  obtain ⟨p1, p2, kk, wk, _⟩ := put2_wf key y ha hb (by omega) (by omega)
  -- the one's side
  have A : a = .nil ∨ ∃ k1 x1, isNoD a.d = false ∧ F_pair_at [.d a.d, .d (.int (a.sz - 1))] = some (.d (.tuple [.int k1, x1]), []) ∧ ((∀ p ∈ a.prs, p.1 < key) ↔ k1 < key) := by
    by_cases h1 : a = .nil
    · exact .inl h1
    · right
      have na : a.prs ≠ [] := fun z => h1 (prs_nil_iff.mp z)
      obtain ⟨as, ⟨k1, x1⟩, ea⟩ := (List.eq_nil_or_concat a.prs).resolve_left na
      rw [List.concat_eq_append] at ea
      have hsz : a.sz = (a.prs.length : Int) := by rw [wf_sz ha, cnt_prs]
      have hla : a.prs.length = as.length + 1 := by rw [ea]; simp
      have e1 := e_at (q := (k1, x1)) ha (i := as.length) (by rw [ea]; simp)
      have ei : a.sz - 1 = (as.length : Int) := by rw [hsz, hla]; omega
      obtain ⟨p, l, k, x, r, c, ga⟩ := is_node h1
      refine ⟨k1, x1, by rw [ga]; rfl, by rw [ei]; exact e1, ?_⟩
      rw [ea]
      exact last_lt (ea ▸ sa)
  have B : b = .nil ∨ ∃ k2 x2, isNoD b.d = false ∧ F_pair_at [.d b.d, .d (.int 0)] = some (.d (.tuple [.int k2, x2]), []) ∧ ((∀ p ∈ b.prs, key < p.1) ↔ key < k2) := by
    by_cases h1 : b = .nil
    · exact .inl h1
    · right
      have nb : b.prs ≠ [] := fun z => h1 (prs_nil_iff.mp z)
      obtain ⟨⟨k2, x2⟩, bs, eb⟩ := List.exists_cons_of_ne_nil nb
      have e1 := e_at (q := (k2, x2)) hb (i := 0) (by rw [eb]; rfl)
      obtain ⟨p, l, k, x, r, c, gb⟩ := is_node h1
      refine ⟨k2, x2, by rw [gb]; rfl, e1, ?_⟩
      rw [eb]
      exact head_gt (eb ▸ sb)
  refine ⟨fun h => ⟨_, run.trans ?_, p2, kk, wk⟩, fun h => run.trans ?_⟩
  · rcases A with rfl | ⟨k1, x1, na, ea, ia⟩ <;> rcases B with rfl | ⟨k2, x2, nb, eb, ib⟩
    · simp at p1
      simp [m_joined, p1, Out.res]
    · have hk := ib.mp h.2
      have hk' : ¬ k2 ≤ key := by omega
      simp at p1
      simp [m_joined, p1, Out.res, isNotD, nb, eb, hk']
    · have hk := ia.mp h.1
      have hk' : ¬ key ≤ k1 := by omega
      simp at p1
      simp [m_joined, p1, Out.res, isNotD, na, ea, hk']
    · have hk := ia.mp h.1
      have hk' : ¬ key ≤ k1 := by omega
      have hj := ib.mp h.2
      have hj' : ¬ k2 ≤ key := by omega
      simp [m_joined, p1, Out.res, isNotD, na, ea, hk', nb, eb, hj']
  · rcases A with rfl | ⟨k1, x1, na, ea, ia⟩
    · rcases B with rfl | ⟨k2, x2, nb, eb, ib⟩
      · exact absurd ⟨fun p hp => by simp at hp, fun p hp => by simp at hp⟩ h
      · have hk' : k2 ≤ key := by
          have : ¬ key < k2 := fun z => h ⟨fun p hp => by simp at hp, ib.mpr z⟩
          omega
        simp [m_joined, sRaise, Out.res, isNotD, nb, eb, hk']
    · by_cases hk : k1 < key
      · have hk' : ¬ key ≤ k1 := by omega
        rcases B with rfl | ⟨k2, x2, nb, eb, ib⟩
        · exact absurd ⟨ia.mpr hk, fun p hp => by simp at hp⟩ h
        · have hj : k2 ≤ key := by
            have : ¬ key < k2 := fun z => h ⟨ia.mpr hk, ib.mpr z⟩
            omega
          simp [m_joined, sRaise, Out.res, isNotD, na, ea, hk', nb, eb, hj]
      · have hk' : key ≤ k1 := by omega
        simp [m_joined, sRaise, Out.res, isNotD, na, ea, hk']
end Rp
end
set_option Elab.async false
set_option linter.all false
set_option maxRecDepth 100000
noncomputable section
namespace Rp
open PySem PySem.Spec PyProof.Rows L2
def m_united (self : FF) : MS :=
  (sSeq (sIf (Rp.tB (mBin isD (mV 0) (mC .none))) (sRetV 1) sNx)
    (sSeq (sIf (Rp.tB (mBin isD (mV 1) (mC .none))) (sRetV 0) sNx)
    (sSeq (sUnp [2, 3, 4] (mCall F_cut_at (aCons (mV 1) (aCons (mIxV 0 (mC (.int 2))) aNil))))
    (sSeq (sAsg 5 (mCall self (aCons (mCall F_unpainted (aCons (mIxV 0 (mC (.int 1))) aNil)) (aCons (mV 2) aNil))))
    (sSeq (sAsg 6 (mCall self (aCons (mCall F_unpainted (aCons (mIxV 0 (mC (.int 4))) aNil)) (aCons (mV 4) aNil))))
    (sRet (mCall F_put_together (aCons (mV 5) (aCons (mIxV 0 (mC (.int 2))) (aCons (mIxV 0 (mC (.int 3))) (aCons (mV 6) aNil)))))))))))
def R_united : Nat → FF
  | 0 => fun _ => none
  | n + 1 => runF 2 7 (m_united (R_united n))
def F_united : FF := R_united 30

def m_common (self : FF) : MS :=
  (sSeq (sIf (Rp.tOr (Rp.tB (mBin isD (mV 0) (mC .none))) (Rp.tB (mBin isD (mV 1) (mC .none)))) (sRet (mC .none)) sNx)
    (sSeq (sUnp [2, 3, 4] (mCall F_cut_at (aCons (mV 1) (aCons (mIxV 0 (mC (.int 2))) aNil))))
    (sSeq (sAsg 5 (mCall self (aCons (mCall F_unpainted (aCons (mIxV 0 (mC (.int 1))) aNil)) (aCons (mV 2) aNil))))
    (sSeq (sAsg 6 (mCall self (aCons (mCall F_unpainted (aCons (mIxV 0 (mC (.int 4))) aNil)) (aCons (mV 4) aNil))))
    (sSeq (sIf (Rp.tB (mBin isD (mV 3) (mC .none))) (sRet (mCall F_laid (aCons (mV 5) (aCons (mV 6) aNil)))) sNx)
    (sRet (mCall F_put_together (aCons (mV 5) (aCons (mIxV 0 (mC (.int 2))) (aCons (mIxV 0 (mC (.int 3))) (aCons (mV 6) aNil)))))))))))
def R_common : Nat → FF
  | 0 => fun _ => none
  | n + 1 => runF 2 7 (m_common (R_common n))
def F_common : FF := R_common 30

def m_without (self : FF) : MS :=
  (sSeq (sIf (Rp.tOr (Rp.tB (mBin isD (mV 0) (mC .none))) (Rp.tB (mBin isD (mV 1) (mC .none)))) (sRetV 0) sNx)
    (sSeq (sUnp [2, 3, 4] (mCall F_cut_at (aCons (mV 1) (aCons (mIxV 0 (mC (.int 2))) aNil))))
    (sSeq (sAsg 5 (mCall self (aCons (mCall F_unpainted (aCons (mIxV 0 (mC (.int 1))) aNil)) (aCons (mV 2) aNil))))
    (sSeq (sAsg 6 (mCall self (aCons (mCall F_unpainted (aCons (mIxV 0 (mC (.int 4))) aNil)) (aCons (mV 4) aNil))))
    (sSeq (sIf (Rp.tB (mBin isNotD (mV 3) (mC .none))) (sRet (mCall F_laid (aCons (mV 5) (aCons (mV 6) aNil)))) sNx)
    (sRet (mCall F_put_together (aCons (mV 5) (aCons (mIxV 0 (mC (.int 2))) (aCons (mIxV 0 (mC (.int 3))) (aCons (mV 6) aNil)))))))))))
def R_without : Nat → FF
  | 0 => fun _ => none
  | n + 1 => runF 2 7 (m_without (R_without n))
def F_without : FF := R_without 30

def m_raised : MS :=
  (sSeq (sAsg 1 (mC .none))
    (sSeq (sAsg 2 (mC .none))
    (sSeq (sFor (mItems (mV 0)) (gT [3, 4]) (sSeq (sIf (Rp.tAnd (Rp.tB (mBin isNotD (mV 2) (mC .none))) (Rp.tB (mBin leD (mV 3) (mV 2)))) (sRaise 4) sNx)
    (sSeq (sAsg 1 (mCall F_put_together (aCons (mV 1) (aCons (mV 3) (aCons (mV 4) (aCons (mC .none) aNil))))))
    (sAsg 2 (mV 3)))))
    (sRetV 1))))
def F_raised : FF := runFX 1 5 m_raised

def m_looked_at (self : FF) : MS :=
  (sSeq (sIf (Rp.tB (mBin isD (mV 0) (mC .none))) (sRet (mTup (mCons (mC (.int 0)) (mCons (mC (.int 0)) (mCons (mC (.int 0)) mNil))))) sNx)
    (sSeq (sAsg 3 (mCall self (aCons (mIxV 0 (mC (.int 1))) (aSlot 1 (aSlot 2 aNil)))))
    (sSeq (sApp 2 (mIxV 0 (mC (.int 2))))
    (sSeq (sAsg 4 (mCall self (aCons (mIxV 0 (mC (.int 4))) (aSlot 1 (aSlot 2 aNil)))))
    (sSeq (sIf (Rp.tAnd (tTr (mIxV 0 (mC (.int 0)))) (Rp.tOr (tTr (mCall F_is_painted (aCons (mIxV 0 (mC (.int 1))) aNil))) (tTr (mCall F_is_painted (aCons (mIxV 0 (mC (.int 4))) aNil))))) (sSetK 1 (mC (.str "paint")) (mC (.bool true))) sNx)
    (sSeq (sAsg 5 (mBin addD (mBin addD (mIxV 3 (mC (.int 0))) (mC (.int 1))) (mIxV 4 (mC (.int 0)))))
    (sSeq (sIf (Rp.tB (mBin neD (mIxV 0 (mC (.int 5))) (mV 5))) (sSetK 1 (mC (.str "counts")) (mC (.bool true))) sNx)
    (sSeq (sAsg 6 (mC (.int 1)))
    (sSeq (sIf (tTr (mIxV 0 (mC (.int 0)))) (sAsg 6 (mC (.int 0))) sNx)
    (sRet (mTup (mCons (mV 5) (mCons (mBin addD (mApp min2 (mCons (mIxV 3 (mC (.int 1))) (mCons (mIxV 4 (mC (.int 1))) mNil))) (mV 6)) (mCons (mBin addD (mApp max2 (mCons (mIxV 3 (mC (.int 2))) (mCons (mIxV 4 (mC (.int 2))) mNil))) (mV 6)) mNil))))))))))))))
def R_looked_at : Nat → FF
  | 0 => fun _ => none
  | n + 1 => runF 3 7 (m_looked_at (R_looked_at n))
def F_looked_at : FF := R_looked_at 210

def m_faults_of : MS :=
  (sSeq (sAsgF 1 mNewD)
    (sSeq (sAsgF 2 (mLst mNil))
    (sSeq (sAsg 3 (mCall F_looked_at (aCons (mV 0) (aSlot 1 (aSlot 2 aNil)))))
    (sSeq (sIf (tTr (mCall F_is_painted (aCons (mV 0) aNil))) (sSetK 1 (mC (.str "top")) (mC (.bool true))) sNx)
    (sSeq (sIf (Rp.tB (mBin neD (mIxV 3 (mC (.int 1))) (mIxV 3 (mC (.int 2))))) (sSetK 1 (mC (.str "roads")) (mC (.bool true))) sNx)
    (sSeq (sFor (mRange2 (mC (.int 1)) (mLenV 2)) (gN 4) (sIf (Rp.tB (mBin leD (mIxV 2 (mV 4)) (mIxV 2 (mBin subD (mV 4) (mC (.int 1)))))) (sSetK 1 (mC (.str "order")) (mC (.bool true))) sNx))
    (sRetF (mComp (mItems (mFz (mLst (mCons (mC (.str "top")) (mCons (mC (.str "paint")) (mCons (mC (.str "roads")) (mCons (mC (.str "order")) (mCons (mC (.str "counts")) mNil)))))))) 5 (Rp.tB (mInV 1 (mV 5))) (mV 5)))))))))
def F_faults_of : FF := runF 1 6 m_faults_of

end Rp
end
set_option Elab.async false
set_option linter.all false
set_option maxRecDepth 100000
/-! The dict combinators at a state. -/
noncomputable section
namespace Rp
open PySem PySem.Spec PyProof.Rows L2

section
variable {S S1 : Sl} {i : Nat} {a b : M Dat} {x y : Dat} {xs : List Dat} {kvs : KD} {k : Key} {n : Int} {z : Str}
@[simp] theorem keyD_int : keyD (.int n) = some (.inl n) := rfl
@[simp] theorem keyD_str : keyD (.str z) = some (.inr z) := rfl
def dvK : Option SV → Option KD
  | some (.o (.k xs)) => some xs
  | some (.m _ (.k xs)) => some xs
  | _ => none
@[simp] theorem dictV_e : dictV S i = dvK S[i]? := by
  unfold dictV dvK
  rfl
@[simp] theorem dvK_o : dvK (some (.o (.k kvs))) = some kvs := rfl
@[simp] theorem dvK_m {j : Nat} : dvK (some (.m j (.k kvs))) = some kvs := rfl
@[simp] theorem mNewD_e : mNewD S = some (.k [], S) := rfl
def inK (i : Nat) (x : Dat) (S : Sl) : Option (Dat × Sl) := match keyD x with
  | some k => match dvK S[i]? with
    | some kvs => some (.bool (valK kvs k).isSome, S)
    | none => none
  | none => none
@[simp] theorem mInV_e : mInV i a S = bnd (a S) (inK i) := by
  unfold mInV bnd inK
  cases a S with
  | none => rfl
  | some p => obtain ⟨x, S1⟩ := p; simp only [dictV_e] <;> rfl
def ninK (i : Nat) (x : Dat) (S : Sl) : Option (Dat × Sl) := match keyD x with
  | some k => match dvK S[i]? with
    | some kvs => some (.bool (!(valK kvs k).isSome), S)
    | none => none
  | none => none
@[simp] theorem mNinV_e : mNinV i a S = bnd (a S) (ninK i) := by
  unfold mNinV bnd ninK
  cases a S with
  | none => rfl
  | some p => obtain ⟨x, S1⟩ := p; simp only [dictV_e] <;> rfl
def inK2 (k : Key) (S : Sl) : Option KD → Option (Dat × Sl)
  | some kvs => some (.bool (valK kvs k).isSome, S)
  | none => none
@[simp] theorem inK_int : inK i (.int n) S = inK2 (.inl n) S (dvK S[i]?) := rfl
@[simp] theorem inK_str : inK i (.str z) S = inK2 (.inr z) S (dvK S[i]?) := rfl
@[simp] theorem inK2_some : inK2 k S (some kvs) = some (.bool (valK kvs k).isSome, S) := rfl
def ninK2 (k : Key) (S : Sl) : Option KD → Option (Dat × Sl)
  | some kvs => some (.bool (!(valK kvs k).isSome), S)
  | none => none
@[simp] theorem ninK_int : ninK i (.int n) S = ninK2 (.inl n) S (dvK S[i]?) := rfl
@[simp] theorem ninK_str : ninK i (.str z) S = ninK2 (.inr z) S (dvK S[i]?) := rfl
@[simp] theorem ninK2_some : ninK2 k S (some kvs) = some (.bool (!(valK kvs k).isSome), S) := rfl
def getK1 (i : Nat) (x : Dat) (S : Sl) : Option (Dat × Sl) := match keyD x with
  | some k => match dvK S[i]? with
    | some kvs => opt (valK kvs k) S
    | none => none
  | none => none
def getK0 (i : Nat) (a : M Dat) (S : Sl) : Option KD → Option (Dat × Sl)
  | some _ => bnd (a S) (getK1 i)
  | none => none
@[simp] theorem mGetK_e : mGetK i a S = getK0 i a S (dvK S[i]?) := by
  unfold mGetK getK0
  simp only [dictV_e]
  cases dvK S[i]? with
  | none => rfl
  | some kv =>
    simp only
    unfold bnd
    cases a S with
    | none => rfl
    | some p =>
      obtain ⟨x, S1⟩ := p
      simp only
      unfold getK1 opt
      cases keyD x with
      | none => rfl
      | some k =>
        simp only
        cases dvK S1[i]? with
        | none => rfl
        | some kvs => simp only <;> (cases valK kvs k <;> rfl)
@[simp] theorem getK0_some : getK0 i a S (some kvs) = bnd (a S) (getK1 i) := rfl
def getK2 (k : Key) (S : Sl) : Option KD → Option (Dat × Sl)
  | some kvs => opt (valK kvs k) S
  | none => none
@[simp] theorem getK1_int : getK1 i (.int n) S = getK2 (.inl n) S (dvK S[i]?) := rfl
@[simp] theorem getK2_some : getK2 k S (some kvs) = opt (valK kvs k) S := rfl
def setK3 (i : Nat) (y : Dat) (k : Key) (S : Sl) : Option KD → Option Out
  | some kvs => if kvs.length < 100000 then some (.nx (putV S i (.k (setK kvs k y)))) else none
  | none => none
def setK2 (i : Nat) (y x : Dat) (S : Sl) : Option Out := match keyD x with
  | some k => setK3 i y k S (dvK S[i]?)
  | none => none
def setK1 (i : Nat) (a : M Dat) (y : Dat) (S : Sl) : Option KD → Option Out
  | some _ => bnd (a S) (setK2 i y)
  | none => none
def setK0 (i : Nat) (a : M Dat) (y : Dat) (S : Sl) : Option Out := setK1 i a y S (dvK S[i]?)
@[simp] theorem sSetK_e : sSetK i a b S = bnd (b S) (setK0 i a) := by
  unfold sSetK bnd setK0 setK1
  cases b S with
  | none => rfl
  | some p =>
    obtain ⟨y, S1⟩ := p
    simp only [dictV_e]
    cases dvK S1[i]? with
    | none => rfl
    | some kv =>
      simp only
      unfold bnd
      cases a S1 with
      | none => rfl
      | some p =>
        obtain ⟨x, S2⟩ := p
        simp only
        unfold setK2 setK3
        cases keyD x with
        | none => rfl
        | some k => simp only <;> (cases dvK S2[i]? <;> rfl)
@[simp] theorem setK0_e : setK0 i a y S = setK1 i a y S (dvK S[i]?) := rfl
@[simp] theorem setK1_some : setK1 i a y S (some kvs) = bnd (a S) (setK2 i y) := rfl
@[simp] theorem setK2_int : setK2 i y (.int n) S = setK3 i y (.inl n) S (dvK S[i]?) := rfl
@[simp] theorem setK2_str : setK2 i y (.str z) S = setK3 i y (.inr z) S (dvK S[i]?) := rfl
@[simp] theorem setK3_some : setK3 i y k S (some kvs) = if kvs.length < 100000 then some (.nx (putV S i (.k (setK kvs k y)))) else none := rfl
def popK4 (i : Nat) (z : Dat) (k : Key) (S : Sl) (kvs : KD) : Option Dat → Option (Dat × Sl)
  | some y => some (y, putV S i (.k (cutK kvs k)))
  | none => some (z, S)
def popK3 (i : Nat) (z : Dat) (k : Key) (S : Sl) : Option KD → Option (Dat × Sl)
  | some kvs => popK4 i z k S kvs (valK kvs k)
  | none => none
def popDK2 (i : Nat) (x z : Dat) (S : Sl) : Option (Dat × Sl) := match keyD x with
  | some k => popK3 i z k S (dvK S[i]?)
  | none => none
def popDK1 (i : Nat) (b : M Dat) (x : Dat) (S : Sl) : Option (Dat × Sl) := bnd (b S) (popDK2 i x)
def popDK0 (i : Nat) (a b : M Dat) (S : Sl) : Option KD → Option (Dat × Sl)
  | some _ => bnd (a S) (popDK1 i b)
  | none => none
@[simp] theorem mPopK_e : mPopK i a b S = popDK0 i a b S (dvK S[i]?) := by
  unfold mPopK popDK0
  simp only [dictV_e]
  cases dvK S[i]? with
  | none => rfl
  | some kv =>
    simp only
    unfold bnd
    cases a S with
    | none => rfl
    | some p =>
      obtain ⟨x, S1⟩ := p
      simp only
      unfold popDK1 bnd
      cases b S1 with
      | none => rfl
      | some p =>
        obtain ⟨z, S2⟩ := p
        simp only
        unfold popDK2 popK3 popK4
        cases keyD x with
        | none => rfl
        | some k =>
          simp only
          all_goals (
            cases dvK S2[i]? with
            | none => rfl
            | some kvs => simp only <;> (cases valK kvs k <;> rfl))
@[simp] theorem popDK0_some : popDK0 i a b S (some kvs) = bnd (a S) (popDK1 i b) := rfl
@[simp] theorem popDK1_e : popDK1 i b x S = bnd (b S) (popDK2 i x) := rfl
@[simp] theorem popDK2_int : popDK2 i (.int n) y S = popK3 i y (.inl n) S (dvK S[i]?) := rfl
@[simp] theorem popK3_some : popK3 i y k S (some kvs) = popK4 i y k S kvs (valK kvs k) := rfl
@[simp] theorem popK4_some : popK4 i y k S kvs (some x) = some (x, putV S i (.k (cutK kvs k))) := rfl
@[simp] theorem popK4_none : popK4 i y k S kvs none = some (y, S) := rfl
/-! slices with a step -/
variable {ml mh mc : M (Option Int)} {lo hi st : Option Int}
def sl3K3 (xs : List Dat) (lo hi st : Option Int) (S : Sl) : Option (Ct × Sl) := if st = some 0 then none else some (.l (stepL xs lo hi st), S)
def sl3K2 (mc : M (Option Int)) (xs : List Dat) (lo hi : Option Int) (S : Sl) : Option (Ct × Sl) := bnd (mc S) (sl3K3 xs lo hi)
def sl3K1 (mh mc : M (Option Int)) (xs : List Dat) (lo : Option Int) (S : Sl) : Option (Ct × Sl) := bnd (mh S) (sl3K2 mc xs lo)
def sl3K0 (ml mh mc : M (Option Int)) : Dat → Sl → Option (Ct × Sl)
  | .list xs, S => bnd (ml S) (sl3K1 mh mc xs)
  | _, _ => none
@[simp] theorem mSl3_e : mSl3 a ml mh mc S = bnd (a S) (sl3K0 ml mh mc) := by
  unfold mSl3 bnd
  cases a S with
  | none => rfl
  | some p =>
    obtain ⟨x, S1⟩ := p
    cases x with
    | list xs =>
      simp only [sl3K0]
      unfold bnd
      cases ml S1 with
      | none => rfl
      | some p =>
        obtain ⟨l, S2⟩ := p
        simp only [sl3K1]
        unfold bnd
        cases mh S2 with
        | none => rfl
        | some p =>
          obtain ⟨h, S3⟩ := p
          simp only [sl3K2]
          unfold bnd
          cases mc S3 with
          | none => rfl
          | some p => rfl
    | _ => rfl
@[simp] theorem sl3K0_list : sl3K0 ml mh mc (.list xs) S = bnd (ml S) (sl3K1 mh mc xs) := rfl
@[simp] theorem sl3K1_e : sl3K1 mh mc xs lo S = bnd (mh S) (sl3K2 mc xs lo) := rfl
@[simp] theorem sl3K2_e : sl3K2 mc xs lo hi S = bnd (mc S) (sl3K3 xs lo hi) := rfl
@[simp] theorem sl3K3_e : sl3K3 xs lo hi st S = if st = some 0 then none else some (.l (stepL xs lo hi st), S) := (Eq.refl _).trans (Eq.refl _)
@[simp] theorem dict1_e : dict1 [.list xs] = match pairsD xs with
  | some kvs => some (.k (joinK [] kvs))
  | none => none := rfl
end
end Rp
end
set_option Elab.async false
set_option linter.all false
set_option maxRecDepth 100000
/-! Two trees: of either's keys, of both, of the first alone. -/
noncomputable section
namespace Rp
open PySem PySem.Spec PyProof.Rows L2

theorem atL_cons {key : Int} {p : Pr} {l : List Pr} : atL key (p :: l) = if p.1 = key then some p else atL key l := by
  unfold atL
  rw [List.find?_cons]
  by_cases h : p.1 = key <;> simp [h]
theorem atL_nil {key : Int} : atL key [] = none := rfl
theorem atL_append {key : Int} {a b : List Pr} : atL key (a ++ b) = (atL key a).or (atL key b) := by unfold atL; rw [List.find?_append]
theorem atL_none {key : Int} {l : List Pr} : atL key l = none ↔ ∀ p ∈ l, p.1 ≠ key := by
  unfold atL
  rw [List.find?_eq_none]
  simp
theorem atL_key {key : Int} {l : List Pr} {p : Pr} (h : atL key l = some p) : p.1 = key := by
  have := List.find?_some h
  simpa using this
theorem atL_of_mem {l : List Pr} (h : Srt l) {p : Pr} (hp : p ∈ l) : atL p.1 l = some p := by
  induction l with
  | nil => cases hp
  | cons q l ih =>
    have h := srt_cons.mp h
    rw [atL_cons]
    rcases List.mem_cons.mp hp with e | hp
    · subst e; rw [if_pos rfl]
    · have h1 := h.1 p hp
      rw [if_neg (by omega)]
      exact ih h.2 hp
theorem atL_less {key k : Int} {l : List Pr} : atL key (lessL k l) = if key < k then atL key l else none := by
  induction l with
  | nil => simp [lessL, atL]
  | cons q l ih =>
    rw [lessL_cons, atL_cons]
    by_cases h1 : q.1 < k
    · rw [if_pos h1, atL_cons, ih]
      by_cases h2 : q.1 = key
      · have : key < k := by omega
        simp [h2, this]
      · simp [h2]
    · rw [if_neg h1, ih]
      by_cases h2 : q.1 = key
      · have : ¬ key < k := by omega
        simp [h2, this]
      · simp [h2]
theorem grL_cons {b : Int} {p : Pr} {l : List Pr} : grL b (p :: l) = if b < p.1 then p :: grL b l else grL b l := by
  unfold grL; simp [List.filter_cons]
theorem atL_gr {key k : Int} {l : List Pr} : atL key (grL k l) = if k < key then atL key l else none := by
  induction l with
  | nil => simp [grL, atL]
  | cons q l ih =>
    rw [grL_cons, atL_cons]
    by_cases h1 : k < q.1
    · rw [if_pos h1, atL_cons, ih]
      by_cases h2 : q.1 = key
      · have : k < key := by omega
        simp [h2, this]
      · simp [h2]
    · rw [if_neg h1, ih]
      by_cases h2 : q.1 = key
      · have : ¬ k < key := by omega
        simp [h2, this]
      · simp [h2]
/-- a row that rises is known by what it has at each key -/
theorem srt_ext : ∀ {a b : List Pr}, Srt a → Srt b → (∀ key, atL key a = atL key b) → a = b
  | [], [], _, _, _ => rfl
  | [], q :: b, _, _, h => by
    have := h q.1
    rw [atL_cons, if_pos rfl] at this
    cases this
  | p :: a, [], _, _, h => by
    have := h p.1
    rw [atL_cons, if_pos rfl] at this
    cases this
  | p :: a, q :: b, ha, hb, h => by
    have h1 := srt_cons.mp ha
    have h2 := srt_cons.mp hb
    have e1 := h p.1
    rw [atL_cons, if_pos rfl, atL_cons] at e1
    have e2 := h q.1
    rw [atL_cons, atL_cons, if_pos rfl] at e2
    have hpq : p = q := by
      by_cases e : q.1 = p.1
      · rw [if_pos e] at e1
        exact Option.some.inj e1
      · rw [if_neg e] at e1
        rw [if_neg (Ne.symm e)] at e2
        have m1 := h2.1 p (atL_mem e1.symm)
        have m2 := h1.1 q (atL_mem e2)
        omega
    subst hpq
    congr 1
    refine srt_ext h1.2 h2.2 fun key => ?_
    have e3 := h key
    rw [atL_cons, atL_cons] at e3
    by_cases e : p.1 = key
    · subst e
      rw [atL_none.mpr fun r hr => by have := h1.1 r hr; omega, atL_none.mpr fun r hr => by have := h2.1 r hr; omega]
    · rw [if_neg e, if_neg e] at e3
      exact e3
/-- what a deed takes at a key, by what both trees have there -/
structure Gd (g : Option Pr → Option Pr → Option Pr) : Prop where
  nn : g none none = none
  pick : ∀ x y p, g x y = some p → x = some p ∨ y = some p
theorem glue {g : Option Pr → Option Pr → Option Pr} (G : Gd g) {l r b L R M : List Pr} {k : Int} {x : Dat} (ha : Srt (l ++ (k, x) :: r)) (hL : Srt L) (hR : Srt R)
    (eL : ∀ key, atL key L = g (atL key l) (atL key (lessL k b))) (eR : ∀ key, atL key R = g (atL key r) (atL key (grL k b)))
    (hM : (M = [(k, x)] ∧ g (some (k, x)) (atL k b) = some (k, x)) ∨ (M = [] ∧ g (some (k, x)) (atL k b) = none)) :
    (∀ p ∈ L, p.1 < k) ∧ (∀ p ∈ R, k < p.1) ∧ Srt (L ++ (M ++ R)) ∧ ∀ key, atL key (L ++ (M ++ R)) = g (atL key (l ++ (k, x) :: r)) (atL key b) := by
  obtain ⟨s1, s2, h1, h2⟩ := srt_parts ha
  have lt : ∀ p ∈ L, p.1 < k := fun p hp => by
    have e := eL p.1
    rw [atL_of_mem hL hp] at e
    rcases G.pick _ _ _ e.symm with q | q
    · exact h1 p (atL_mem q)
    · have := (List.mem_filter.mp (atL_mem q)).2
      simpa using this
  have gt : ∀ p ∈ R, k < p.1 := fun p hp => by
    have e := eR p.1
    rw [atL_of_mem hR hp] at e
    rcases G.pick _ _ _ e.symm with q | q
    · exact h2 p (atL_mem q)
    · have := (List.mem_filter.mp (atL_mem q)).2
      simpa using this
  refine ⟨lt, gt, ?_, fun key => ?_⟩
  · rcases hM with ⟨rfl, _⟩ | ⟨rfl, _⟩
    · show Srt (L ++ (k, x) :: R)
      rw [srt_append, srt_cons]
      refine ⟨hL, ⟨gt, hR⟩, fun a ha b hb => ?_⟩
      have q1 := lt a ha
      rcases List.mem_cons.mp hb with e | hb
      · subst e; exact q1
      · have := gt b hb; omega
    · show Srt (L ++ R)
      rw [srt_append]
      exact ⟨hL, hR, fun a ha b hb => by have := lt a ha; have := gt b hb; omega⟩
  · rw [atL_append, atL_append, eL, eR, atL_less, atL_gr, atL_append, atL_cons]
    rcases Int.lt_trichotomy key k with hk | hk | hk
    · have n1 : ¬ k < key := by omega
      have n2 : ¬ k = key := by omega
      have e1 : atL key r = none := atL_none.mpr fun p hp => by have := h2 p hp; omega
      have e2 : atL key M = none := by
        rcases hM with ⟨rfl, _⟩ | ⟨rfl, _⟩
        · rw [atL_cons, if_neg n2]; rfl
        · rfl
      rw [if_pos hk, if_neg n1, if_neg n2, e1, e2, G.nn]
      simp
    · subst hk
      have e0 : atL key l = none := atL_none.mpr fun p hp => by have := h1 p hp; omega
      have e1 : atL key r = none := atL_none.mpr fun p hp => by have := h2 p hp; omega
      have n1 : ¬ key < key := by omega
      simp only [if_neg n1, if_true, e0, e1, G.nn, Option.none_or]
      rcases hM with ⟨rfl, e⟩ | ⟨rfl, e⟩
      · rw [e, atL_cons, if_pos rfl]; rfl
      · rw [e]; rfl
    · have n1 : ¬ key < k := by omega
      have n2 : ¬ k = key := by omega
      have e1 : atL key l = none := atL_none.mpr fun p hp => by have := h1 p hp; omega
      have e2 : atL key M = none := by
        rcases hM with ⟨rfl, _⟩ | ⟨rfl, _⟩
        · rw [atL_cons, if_neg n2]; rfl
        · rfl
      rw [if_pos hk, if_neg n1, if_neg n2, e1, e2, G.nn]
      simp
theorem ht_unp (t : T) : t.unp.ht = t.ht := by
  cases t with
  | nil => rfl
  | node p l k x r c => cases p <;> rfl
def gUni (x y : Option Pr) : Option Pr := x.or y
def gCom (x y : Option Pr) : Option Pr := if y.isSome then x else none
def gWo (x y : Option Pr) : Option Pr := if y.isSome then none else x
theorem Gd.uni : Gd gUni := ⟨rfl, fun x y p h => by cases x <;> simp_all [gUni]⟩
theorem Gd.com : Gd gCom := ⟨rfl, fun x y p h => by cases y <;> simp_all [gCom]⟩
theorem Gd.wo : Gd gWo := ⟨rfl, fun x y p h => by cases y <;> simp_all [gWo]⟩
theorem less_gr_len (k : Int) (l : List Pr) : (lessL k l).length + (grL k l).length ≤ l.length := by
  induction l with
  | nil => exact Nat.le_refl _
  | cons p l ih =>
    rw [lessL_cons, grL_cons]
    split <;> split <;> simp only [List.length_cons] <;> omega
/-- what is common to the three: a tree by what it has at each key -/
structure Two (g : Option Pr → Option Pr → Option Pr) (a b u : T) : Prop where
  wf : ∃ k, u.wf true k
  srt : Srt u.prs
  look : ∀ key, atL key u.prs = g (atL key a.prs) (atL key b.prs)
  len : u.prs.length ≤ a.prs.length + b.prs.length
theorem optD_no (o : Option Pr) : isNoD (optD o) = !o.isSome := by cases o <;> rfl
theorem e_united : ∀ (f : Nat) (a b : T) (n m : Nat), a.wf true n → b.wf true m → Srt a.prs → Srt b.prs → a.prs.length + b.prs.length ≤ 4000 → a.ht < f →
    ∃ u : T, R_united f [.d a.d, .d b.d] = some (.d u.d, []) ∧ Two gUni a b u
  | 0, a, b, n, m, _, _, _, _, _, h => by omega
  | f + 1, .nil, b, n, m, ha, hb, sa, sb, hl, hh => by
    refine ⟨b, ?_, ⟨m, hb⟩, sb, fun key => rfl, by simp⟩
    refine (run_d (p := 2) (n := 7) (m := m_united (R_united f)) (xs := [T.nil.d, b.d]) rfl).trans ?_
    simp [m_united]
  | f + 1, .node p l k x r c, .nil, n, m, ha, hb, sa, sb, hl, hh => by
    refine ⟨.node p l k x r c, ?_, ⟨n, ha⟩, sa, fun key => by simp [gUni, atL_nil], by simp⟩
    refine (run_d (p := 2) (n := 7) (m := m_united (R_united f)) (xs := [(T.node p l k x r c).d, T.nil.d]) rfl).trans ?_
    simp [m_united]
  | f + 1, .node p l k x r c, .node p' l' k' x' r' c', n, m, ha, hb, sa, sb, hl, hh => by
    generalize hbe : T.node p' l' k' x' r' c' = b at hb sb hl
    have hbn : isNoD b.d = false := by rw [← hbe]; rfl
    have hlen : l.prs.length + 1 + r.prs.length = (T.node p l k x r c).prs.length := by simp; omega
    obtain ⟨_, ⟨_, _, wl⟩, _, _, wr⟩ := wf_parts ha
    obtain ⟨nl, wl⟩ := unp_sound wl
    obtain ⟨nr, wr⟩ := unp_sound wr
    obtain ⟨s1, s2, _, _⟩ := srt_parts sa
    have hbt := wf_ht hb
    have hbr := small_rank hb (by omega)
    obtain ⟨ec, C⟩ := e_cut k 30 b true m hb sb (by omega) (by simp at hbt; omega)
    have ec : F_cut_at [.d b.d, .d (.int k)] = _ := ec
    obtain ⟨na, wa⟩ := C.wa
    obtain ⟨nb, wb⟩ := C.wb
    have hgl := less_gr_len k b.prs
    have hh' : max l.ht r.ht + 1 < f + 1 := hh
    obtain ⟨L, eL, L1, L2', L3, L4⟩ := e_united f l.unp (cutT b k).1 nl na wl wa (by simpa using s1) (by rw [C.less]; exact srt_less sb) (by rw [C.less, prs_unp]; omega) (by rw [ht_unp]; omega)
    obtain ⟨R, eR, R1, R2', R3, R4⟩ := e_united f r.unp (cutT b k).2.2 nr nb wr wb (by simpa using s2) (by rw [C.gr]; exact srt_gr sb) (by rw [C.gr, prs_unp]; omega) (by rw [ht_unp]; omega)
    simp only [prs_unp, C.less, C.gr] at L3 R3 L4 R4
    obtain ⟨q1, q2, q3, q4⟩ := glue Gd.uni (M := [(k, x)]) sa L2' R2' L3 R3 (.inl ⟨rfl, rfl⟩)
    obtain ⟨kl, L1⟩ := L1
    obtain ⟨kr, R1⟩ := R1
    have rl := small_rank L1 (by omega)
    have rr := small_rank R1 (by omega)
    obtain ⟨p1, p2, kk, wk, _⟩ := put2_wf k x L1 R1 (by omega) (by omega)
    refine ⟨_, ?_, ⟨kk, wk⟩, by rw [p2]; exact q3, fun key => by rw [p2]; exact q4 key, by rw [p2]; simp; omega⟩
    refine (run_d (p := 2) (n := 7) (m := m_united (R_united f)) (xs := [(T.node p l k x r c).d, b.d]) rfl).trans ?_
    have eu1 := e_unp l
    have eu2 := e_unp r
    simp [m_united, hbn, ec, eu1, eu2, eL, eR, p1]
/-- the two trees beside a knot and the middle: how the deed goes on -/
theorem two_parts {a b : T} {p : Bool} {l r : T} {k : Int} {x : Dat} {c : Int} {n m : Nat} (ha : (T.node p l k x r c).wf true n) (hb : b.wf true m) (sa : Srt (T.node p l k x r c).prs) (sb : Srt b.prs) (hl : (T.node p l k x r c).prs.length + b.prs.length ≤ 4000) :
    F_cut_at [.d b.d, .d (.int k)] = some (.d (.tuple [(cutT b k).1.d, optD (cutT b k).2.1, (cutT b k).2.2.d]), []) ∧ CutOk b k (cutT b k).1 (cutT b k).2.1 (cutT b k).2.2 ∧ (∃ n, l.unp.wf true n) ∧ (∃ n, r.unp.wf true n) ∧
    Srt l.unp.prs ∧ Srt r.unp.prs ∧ l.unp.prs.length + (cutT b k).1.prs.length ≤ 4000 ∧ r.unp.prs.length + (cutT b k).2.2.prs.length ≤ 4000 ∧ Srt (cutT b k).1.prs ∧ Srt (cutT b k).2.2.prs := by
  have hlen : l.prs.length + 1 + r.prs.length = (T.node p l k x r c).prs.length := by simp; omega
  obtain ⟨_, ⟨_, _, wl⟩, _, _, wr⟩ := wf_parts ha
  obtain ⟨s1, s2, _, _⟩ := srt_parts sa
  have hbt := wf_ht hb
  have hbr := small_rank hb (by omega)
  obtain ⟨ec, C⟩ := e_cut k 30 b true m hb sb (by omega) (by simp at hbt; omega)
  have hgl := less_gr_len k b.prs
  exact ⟨ec, C, unp_sound wl, unp_sound wr, by simpa using s1, by simpa using s2, by rw [C.less, prs_unp]; omega, by rw [C.gr, prs_unp]; omega, by rw [C.less]; exact srt_less sb, by rw [C.gr]; exact srt_gr sb⟩
theorem e_common : ∀ (f : Nat) (a b : T) (n m : Nat), a.wf true n → b.wf true m → Srt a.prs → Srt b.prs → a.prs.length + b.prs.length ≤ 4000 → a.ht < f →
    ∃ u : T, R_common f [.d a.d, .d b.d] = some (.d u.d, []) ∧ Two gCom a b u ∧ u.prs.length ≤ a.prs.length
  | 0, a, b, n, m, _, _, _, _, _, h => by omega
  | f + 1, .nil, b, n, m, ha, hb, sa, sb, hl, hh => by
    refine ⟨.nil, ?_, ⟨⟨0, rfl⟩, sa, fun key => by simp [gCom, atL_nil], by simp⟩, Nat.le_refl _⟩
    refine (run_d (p := 2) (n := 7) (m := m_common (R_common f)) (xs := [T.nil.d, b.d]) rfl).trans ?_
    simp [m_common]
  | f + 1, .node p l k x r c, .nil, n, m, ha, hb, sa, sb, hl, hh => by
    refine ⟨.nil, ?_, ⟨⟨0, rfl⟩, List.Pairwise.nil, fun key => by simp [gCom, atL_nil], by simp⟩, by simp⟩
    refine (run_d (p := 2) (n := 7) (m := m_common (R_common f)) (xs := [(T.node p l k x r c).d, T.nil.d]) rfl).trans ?_
    simp [m_common]
  | f + 1, .node p l k x r c, .node p' l' k' x' r' c', n, m, ha, hb, sa, sb, hl, hh => by
    generalize hbe : T.node p' l' k' x' r' c' = b at hb sb hl
    have hbn : isNoD b.d = false := by rw [← hbe]; rfl
    have hlen : l.prs.length + 1 + r.prs.length = (T.node p l k x r c).prs.length := by simp; omega
    obtain ⟨ec, C, ⟨nl, wl⟩, ⟨nr, wr⟩, s1, s2, l1, l2, s3, s4⟩ := two_parts (a := b) ha hb sa sb hl
    obtain ⟨na, wa⟩ := C.wa
    obtain ⟨nb, wb⟩ := C.wb
    have hh' : max l.ht r.ht + 1 < f + 1 := hh
    obtain ⟨L, eL, ⟨⟨kl, L1⟩, L2', L3, L4⟩, L5⟩ := e_common f l.unp (cutT b k).1 nl na wl wa s1 s3 l1 (by rw [ht_unp]; omega)
    obtain ⟨R, eR, ⟨⟨kr, R1⟩, R2', R3, R4⟩, R5⟩ := e_common f r.unp (cutT b k).2.2 nr nb wr wb s2 s4 l2 (by rw [ht_unp]; omega)
    simp only [prs_unp, C.less, C.gr] at L3 R3 L5 R5
    have rl := small_rank L1 (by omega)
    have rr := small_rank R1 (by omega)
    have eu1 := e_unp l
    have eu2 := e_unp r
    have run := run_d (p := 2) (n := 7) (m := m_common (R_common f)) (xs := [(T.node p l k x r c).d, b.d]) rfl
    have hmid := C.mid
    cases hm : (cutT b k).2.1 with
    | none =>
      rw [hm] at hmid ec
      obtain ⟨q1, q2, q3, q4⟩ := glue Gd.com (M := []) sa L2' R2' L3 R3 (.inr ⟨rfl, by rw [← hmid]; rfl⟩)
      obtain ⟨u, e1, e2, kk, wk⟩ := (e_laid L1 R1 L2' R2' (by omega) (by omega)).1 fun p hp q hq => by have := q1 p hp; have := q2 q hq; omega
      refine ⟨u, ?_, ⟨⟨kk, wk⟩, by rw [e2]; exact q3, fun key => by rw [e2]; exact q4 key, by rw [e2]; simp; omega⟩, by rw [e2]; simp; omega⟩
      refine run.trans ?_
      simp [optD] at ec
      simp [m_common, hbn, ec, eu1, eu2, eL, eR, e1]
    | some y =>
      rw [hm] at hmid ec
      obtain ⟨q1, q2, q3, q4⟩ := glue Gd.com (M := [(k, x)]) sa L2' R2' L3 R3 (.inl ⟨rfl, by rw [← hmid]; rfl⟩)
      obtain ⟨p1, p2, kk, wk, _⟩ := put2_wf k x L1 R1 (by omega) (by omega)
      refine ⟨_, ?_, ⟨⟨kk, wk⟩, by rw [p2]; exact q3, fun key => by rw [p2]; exact q4 key, by rw [p2]; simp; omega⟩, by rw [p2]; simp; omega⟩
      refine run.trans ?_
      simp [optD, prD] at ec
      simp [m_common, hbn, ec, eu1, eu2, eL, eR, p1]
theorem e_without : ∀ (f : Nat) (a b : T) (n m : Nat), a.wf true n → b.wf true m → Srt a.prs → Srt b.prs → a.prs.length + b.prs.length ≤ 4000 → a.ht < f →
    ∃ u : T, R_without f [.d a.d, .d b.d] = some (.d u.d, []) ∧ Two gWo a b u ∧ u.prs.length ≤ a.prs.length
  | 0, a, b, n, m, _, _, _, _, _, h => by omega
  | f + 1, .nil, b, n, m, ha, hb, sa, sb, hl, hh => by
    refine ⟨.nil, ?_, ⟨⟨0, rfl⟩, sa, fun key => by simp [gWo, atL_nil], by simp⟩, Nat.le_refl _⟩
    refine (run_d (p := 2) (n := 7) (m := m_without (R_without f)) (xs := [T.nil.d, b.d]) rfl).trans ?_
    simp [m_without]
  | f + 1, .node p l k x r c, .nil, n, m, ha, hb, sa, sb, hl, hh => by
    refine ⟨.node p l k x r c, ?_, ⟨⟨n, ha⟩, sa, fun key => by simp [gWo, atL_nil], by simp⟩, Nat.le_refl _⟩
    refine (run_d (p := 2) (n := 7) (m := m_without (R_without f)) (xs := [(T.node p l k x r c).d, T.nil.d]) rfl).trans ?_
    simp [m_without]
  | f + 1, .node p l k x r c, .node p' l' k' x' r' c', n, m, ha, hb, sa, sb, hl, hh => by
    generalize hbe : T.node p' l' k' x' r' c' = b at hb sb hl
    have hbn : isNoD b.d = false := by rw [← hbe]; rfl
    have hlen : l.prs.length + 1 + r.prs.length = (T.node p l k x r c).prs.length := by simp; omega
    obtain ⟨ec, C, ⟨nl, wl⟩, ⟨nr, wr⟩, s1, s2, l1, l2, s3, s4⟩ := two_parts (a := b) ha hb sa sb hl
    obtain ⟨na, wa⟩ := C.wa
    obtain ⟨nb, wb⟩ := C.wb
    have hh' : max l.ht r.ht + 1 < f + 1 := hh
    obtain ⟨L, eL, ⟨⟨kl, L1⟩, L2', L3, L4⟩, L5⟩ := e_without f l.unp (cutT b k).1 nl na wl wa s1 s3 l1 (by rw [ht_unp]; omega)
    obtain ⟨R, eR, ⟨⟨kr, R1⟩, R2', R3, R4⟩, R5⟩ := e_without f r.unp (cutT b k).2.2 nr nb wr wb s2 s4 l2 (by rw [ht_unp]; omega)
    simp only [prs_unp, C.less, C.gr] at L3 R3 L5 R5
    have rl := small_rank L1 (by omega)
    have rr := small_rank R1 (by omega)
    have eu1 := e_unp l
    have eu2 := e_unp r
    have run := run_d (p := 2) (n := 7) (m := m_without (R_without f)) (xs := [(T.node p l k x r c).d, b.d]) rfl
    have hmid := C.mid
    cases hm : (cutT b k).2.1 with
    | some y =>
      rw [hm] at hmid ec
      obtain ⟨q1, q2, q3, q4⟩ := glue Gd.wo (M := []) sa L2' R2' L3 R3 (.inr ⟨rfl, by rw [← hmid]; rfl⟩)
      obtain ⟨u, e1, e2, kk, wk⟩ := (e_laid L1 R1 L2' R2' (by omega) (by omega)).1 fun p hp q hq => by have := q1 p hp; have := q2 q hq; omega
      refine ⟨u, ?_, ⟨⟨kk, wk⟩, by rw [e2]; exact q3, fun key => by rw [e2]; exact q4 key, by rw [e2]; simp; omega⟩, by rw [e2]; simp; omega⟩
      refine run.trans ?_
      simp [optD, prD] at ec
      simp [m_without, hbn, ec, eu1, eu2, eL, eR, e1]
    | none =>
      rw [hm] at hmid ec
      obtain ⟨q1, q2, q3, q4⟩ := glue Gd.wo (M := [(k, x)]) sa L2' R2' L3 R3 (.inl ⟨rfl, by rw [← hmid]; rfl⟩)
      obtain ⟨p1, p2, kk, wk, _⟩ := put2_wf k x L1 R1 (by omega) (by omega)
      refine ⟨_, ?_, ⟨⟨kk, wk⟩, by rw [p2]; exact q3, fun key => by rw [p2]; exact q4 key, by rw [p2]; simp; omega⟩, by rw [p2]; simp; omega⟩
      refine run.trans ?_
      simp [optD] at ec
      simp [m_without, hbn, ec, eu1, eu2, eL, eR, p1]
end Rp
end
set_option Elab.async false
set_option linter.all false
set_option maxRecDepth 100000
/-! Dicts as what they have at a key. -/
noncomputable section
namespace Rp
open PySem PySem.Spec PyProof.Rows L2

theorem valK_cons {p : Key × Dat} {kvs : KD} {k : Key} : valK (p :: kvs) k = if p.1 = k then some p.2 else valK kvs k := by
  unfold valK
  rw [List.find?_cons]
  by_cases h : p.1 = k <;> simp [h]
theorem valK_nil {k : Key} : valK [] k = none := rfl
theorem valK_append {a b : KD} {k : Key} : valK (a ++ b) k = (valK a k).or (valK b k) := by
  unfold valK
  rw [List.find?_append]
  cases List.find? (fun p => decide (p.1 = k)) a <;> rfl
theorem valK_map {k k' : Key} {x : Dat} : ∀ {kvs : KD}, valK (kvs.map fun p => if p.1 = k then (p.1, x) else p) k' = if k = k' then (if (kvs.any fun p => decide (p.1 = k)) = true then some x else none) else valK kvs k'
  | [] => by
    rw [List.map_nil, valK_nil]
    simp
  | p :: kvs => by
    rw [List.map_cons, valK_cons, valK_map (kvs := kvs), valK_cons, List.any_cons]
    by_cases h1 : p.1 = k
    · by_cases h2 : k = k'
      · subst h2; simp [h1]
      · simp [h1, h2]
    · have hd : decide (p.1 = k) = false := decide_eq_false h1
      by_cases h2 : k = k'
      · subst h2; rw [hd, Bool.false_or]; simp [h1]
      · simp [h1, h2]
theorem valK_set {k k' : Key} {x : Dat} {kvs : KD} : valK (setK kvs k x) k' = if k = k' then some x else valK kvs k' := by
  unfold setK
  split
  · rename_i h
    rw [valK_map]
    simp [h]
  · rename_i h
    have hn : valK kvs k = none := by
      unfold valK
      rw [List.find?_eq_none.mpr fun p hp z => h (List.any_eq_true.mpr ⟨p, hp, z⟩)]; rfl
    rw [valK_append, valK_cons, valK_nil]
    by_cases h2 : k = k'
    · subst h2; simp [hn]
    · simp [h2]
theorem valK_join {k : Key} : ∀ {more kvs : KD}, valK (joinK kvs more) k = (valK more.reverse k).or (valK kvs k)
  | [], kvs => rfl
  | p :: more, kvs => by
    show valK (joinK (setK kvs p.1 p.2) more) k = _
    rw [valK_join (more := more), valK_set, List.reverse_cons, valK_append, valK_cons, valK_nil]
    by_cases h : p.1 = k
    · cases valK more.reverse k <;> simp [h]
    · simp [h]
theorem setK_len {k : Key} {x : Dat} {kvs : KD} : (setK kvs k x).length ≤ kvs.length + 1 := by
  unfold setK
  split <;> simp
theorem joinK_len : ∀ {more kvs : KD}, (joinK kvs more).length ≤ kvs.length + more.length
  | [], kvs => Nat.le_refl _
  | p :: more, kvs => by
    show (joinK (setK kvs p.1 p.2) more).length ≤ _
    have h1 := joinK_len (more := more) (kvs := setK kvs p.1 p.2)
    have h2 := setK_len (k := p.1) (x := p.2) (kvs := kvs)
    rw [List.length_cons]; omega
def kvOf (l : List Pr) : KD := l.map fun p => (Sum.inl p.1, p.2)
@[simp] theorem pairsD_prs : ∀ l : List Pr, pairsD (l.map prD) = some (kvOf l)
  | [] => rfl
  | p :: l => by
    have ih := pairsD_prs l
    show (match keyD (.int p.1) with
      | some k => match pairsD (l.map prD) with
        | some kvs => some ((k, p.2) :: kvs)
        | none => none
      | none => none) = _
    rw [keyD_int, ih]
    rfl
theorem valK_kvOf {key : Int} : ∀ {l : List Pr}, valK (kvOf l) (.inl key) = (atL key l).map (·.2)
  | [] => rfl
  | p :: l => by
    show valK ((Sum.inl p.1, p.2) :: kvOf l) (.inl key) = _
    rw [valK_cons, valK_kvOf (l := l), atL_cons]
    by_cases h : p.1 = key
    · simp [h]
    · have h' : ¬ (Sum.inl p.1 : Key) = .inl key := fun z => h (Sum.inl.inj z)
      simp [h, h']
theorem kvOf_rev (l : List Pr) : (kvOf l).reverse = kvOf l.reverse := by unfold kvOf; rw [List.map_reverse]
theorem atL_rev {l : List Pr} (h : Srt l) (key : Int) : atL key l.reverse = atL key l := by
  cases e : atL key l.reverse with
  | none =>
    have := atL_none.mp e
    exact (atL_none.mpr fun p hp => this p (List.mem_reverse.mpr hp)).symm
  | some p =>
    have h1 := List.mem_reverse.mp (atL_mem e)
    have h2 := atL_key e
    rw [← h2, atL_of_mem h h1]
/-- dict(pairs) of a row that rises -/
theorem dict_look {l : List Pr} (h : Srt l) (key : Int) : valK (joinK [] (kvOf l)) (.inl key) = (atL key l).map (·.2) := by
  rw [valK_join, valK_nil, Option.or_none, kvOf_rev, valK_kvOf, atL_rev h]
theorem atL_filter {P : Int → Bool} {key : Int} {l : List Pr} : atL key (l.filter fun p => P p.1) = if P key = true then atL key l else none := by
  induction l with
  | nil => simp [atL]
  | cons p l ih =>
    rw [List.filter_cons, atL_cons]
    by_cases h1 : P p.1 = true
    · rw [if_pos h1, atL_cons, ih]
      by_cases h2 : p.1 = key
      · subst h2; simp [h1]
      · simp [h2]
    · rw [if_neg h1, ih]
      by_cases h2 : p.1 = key
      · subst h2; simp [h1]
      · simp [h2]
theorem srt_filter {P : Pr → Bool} {l : List Pr} (h : Srt l) : Srt (l.filter P) := List.Pairwise.filter _ h
/-- the pairs of a row's keys, by a function of the key -/
def fmL (f : Int → Option Dat) (R : List Pr) : List Pr := R.filterMap fun q => (f q.1).map fun x => (q.1, x)
theorem fm_srt {f : Int → Option Dat} {R : List Pr} (h : Srt R) : Srt (fmL f R) := by
  unfold Srt fmL
  refine List.Pairwise.filterMap _ (fun a b hab a' ha b' hb => ?_) h
  cases ea : f a.1 with
  | none => rw [ea] at ha; simp at ha
  | some x =>
    cases eb : f b.1 with
    | none => rw [eb] at hb; simp at hb
    | some y =>
      rw [ea] at ha
      rw [eb] at hb
      simp at ha hb
      subst ha hb
      exact hab
theorem fm_look {f : Int → Option Dat} {key : Int} : ∀ {R : List Pr}, atL key (fmL f R) = if (atL key R).isSome = true then (f key).map fun x => (key, x) else none
  | [] => by simp [fmL, atL]
  | q :: R => by
    have ih := fm_look (f := f) (key := key) (R := R)
    have hc : fmL f (q :: R) = (match f q.1 with
      | some x => (q.1, x) :: fmL f R
      | none => fmL f R) := by
      unfold fmL
      rw [List.filterMap_cons]
      cases f q.1 <;> rfl
    rw [hc, atL_cons]
    by_cases h : q.1 = key
    · subst h
      cases e : f q.1 with
      | some x => simp [atL_cons]
      | none =>
        simp only [if_pos rfl, Option.isSome_some, Option.map_none, ite_self]
        rw [ih, e]; simp
    · rw [if_neg h]
      cases e : f q.1 with
      | some x =>
        simp only
        rw [atL_cons, if_neg h]; exact ih
      | none => exact ih
/-- a tree and its own pairs, things at most twenty-two deep -/
theorem e_sound2 {t : T} {n : Nat} (hw : t.wf true n) (hl : t.prs.length ≤ 8000) (hp : ∀ p ∈ t.prs, plain 22 p.2 = true) : F_law_sound [.d t.d, .d (.list (t.prs.map prD))] = some (.d (.bool true), []) := by
  refine (run_d (p := 2) (n := 3) (m := m_law_sound) (xs := [t.d, .list (t.prs.map prD)]) rfl).trans ?_
  have hn := small_rank hw hl
  have hh := wf_ht hw
  have e1 : F_law_seen [.d t.d, .d (.bool true), .c (.l [])] = _ := e_seen 30 t true n [] hw (by simp at hh; omega) (by simp; omega)
  have e2 := e_same (t.prs.map prD) (by simp; omega) (fun x hx => by
    obtain ⟨p, hp', rfl⟩ := List.mem_map.mp hx
    have := hp p hp'
    unfold prD
    simp [this])
  have hn0 : 0 ≤ ((n : Nat) : Int) := by omega
  simp at e1
  simp [m_law_sound, e1, e2, hn0]
theorem runF_res {p n : Nat} {m : MS} {xs : List Dat} {x : Dat} (hl : xs.length = p) (h : (m (xs.map SV.d ++ List.replicate (n - p) .no)).map Out.res = some (.d x)) : runF p n m (xs.map FA.d) = some (.d x, []) := by
  rw [run_d hl]
  cases e : m (xs.map SV.d ++ List.replicate (n - p) .no) with
  | none => rw [e] at h; cases h
  | some o =>
    rw [e] at h
    have h : o.res = .d x := Option.some.inj h
    simp only [h]
theorem cutD_head {xs : List Dat} {n : Int} {k : Nat} (hn : n = (k : Int)) (h : k ≤ xs.length) : cutD xs none (some n) = xs.take k := by
  subst hn
  unfold cutD
  rw [HT.sIx_nat, HT.sIx_none, List.drop_zero, Nat.sub_zero, Nat.min_eq_left h]
theorem cutD_mid {xs : List Dat} {n p : Int} {i j : Nat} (hn : n = (i : Int)) (hp : p = (j : Int)) (h : i ≤ xs.length) (hj : j ≤ xs.length) : cutD xs (some n) (some p) = (xs.drop i).take (j - i) := by
  subst hn hp
  unfold cutD
  rw [HT.sIx_nat, HT.sIx_nat, Nat.min_eq_left h, Nat.min_eq_left hj]
/-! ### slices from a place on, by a step -/
theorem places_from (n a c : Nat) (hc : 1 ≤ c) : placesL n (some (a : Int)) none (some (c : Int)) = (List.range ((n - a + c - 1) / c)).map fun k => min a n + c * k := by
  unfold placesL
  have h0 : (c : Int) > 0 := by omega
  have h1 : ¬ (a : Int) < 0 := by omega
  have hb : sliceBounds (some (a : Int)) none (some (c : Int)) n = (((min a n : Nat) : Int), (n : Int), (c : Int)) := by
    unfold sliceBounds
    simp only [Option.getD_some, h0, h1, if_true, if_false]
    refine Prod.ext ?_ rfl
    simp only
    omega
  rw [hb]
  unfold sliceRange
  simp only [h0, if_true]
  have he : (if ((min a n : Nat) : Int) < (n : Int) then ((n : Int) - ((min a n : Nat) : Int) + c - 1) / c else 0).toNat = (n - a + c - 1) / c := by
    by_cases h : a < n
    · have e1 : min a n = a := by omega
      have e2 : ((n : Int) - ((a : Nat) : Int) + c - 1) = ((n - a + c - 1 : Nat) : Int) := by omega
      rw [if_pos (by omega), e1, e2, ← Int.natCast_ediv, Int.toNat_natCast]
    · rw [if_neg (by omega)]
      have e1 : n - a = 0 := by omega
      rw [e1, Nat.zero_add]
      have : (c - 1) / c = 0 := Nat.div_eq_of_lt (by omega)
      rw [this]; rfl
  rw [he]
  refine List.map_congr_left fun k _ => ?_
  omega
theorem stepL_map {α β : Type} (f : α → β) (l : List α) (lo hi st : Option Int) : stepL (l.map f) lo hi st = (stepL l lo hi st).map f := by
  unfold stepL
  rw [List.length_map, List.map_filterMap]
  congr 1
  funext i
  rw [List.getElem?_map]
theorem stepL_mem {l : List Pr} {lo hi st : Option Int} {p : Pr} (h : p ∈ stepL l lo hi st) : p ∈ l := by
  unfold stepL at h
  obtain ⟨i, _, e⟩ := List.mem_filterMap.mp h
  exact List.mem_of_getElem? e
theorem stepL_srt {l : List Pr} (h : Srt l) {a c : Nat} (hc : 1 ≤ c) : Srt (stepL l (some (a : Int)) none (some (c : Int))) := by
  unfold stepL
  rw [places_from _ _ _ hc, List.filterMap_map]
  refine List.Pairwise.filterMap (R := fun i j => i < j) _ (fun i j hij p hp q hq => ?_) List.pairwise_lt_range
  have hp : l[min a l.length + c * i]? = some p := hp
  have hq : l[min a l.length + c * j]? = some q := hq
  have hlt : min a l.length + c * i < min a l.length + c * j := by
    have := Nat.mul_lt_mul_of_pos_left hij (by omega : 0 < c)
    omega
  obtain ⟨h1, rfl⟩ := List.getElem?_eq_some_iff.mp hp
  obtain ⟨h2, rfl⟩ := List.getElem?_eq_some_iff.mp hq
  exact List.pairwise_iff_getElem.mp h _ _ h1 h2 hlt
theorem stepL_len {α : Type} (l : List α) {a c : Nat} (hc : 1 ≤ c) : (stepL l (some (a : Int)) none (some (c : Int))).length = (l.length - a + c - 1) / c := by
  have hall : ∀ (is : List Nat), (∀ i ∈ is, i < l.length) → (is.filterMap (l[·]?)).length = is.length := by
    intro is h
    induction is with
    | nil => rfl
    | cons i is ih =>
      have h1 := h i List.mem_cons_self
      rw [List.filterMap_cons_some (List.getElem?_eq_getElem h1), List.length_cons, List.length_cons, ih fun j hj => h j (List.mem_cons_of_mem _ hj)]
  unfold stepL
  rw [places_from _ _ _ hc, hall]
  · simp
  · intro i hi
    obtain ⟨k, hk, rfl⟩ := List.mem_map.mp hi
    have hk := List.mem_range.mp hk
    have h1 : c * (k + 1) ≤ l.length - a + c - 1 := by
      have := Nat.div_mul_le_self (l.length - a + c - 1) c
      have h2 : (k + 1) * c ≤ (l.length - a + c - 1) / c * c := Nat.mul_le_mul_right c hk
      rw [Nat.mul_comm c]; omega
    rw [Nat.mul_add, Nat.mul_one] at h1
    omega
end Rp
end
set_option Elab.async false
set_option linter.all false
set_option maxRecDepth 100000
/-! A place of a list stored to. -/
noncomputable section
namespace Rp
open PySem PySem.Spec PyProof.Rows L2
section
variable {S : Sl} {i : Nat} {a b : M Dat} {x : Dat} {xs : List Dat} {k : Int} {j : Nat}
def six4 (i : Nat) (x : Dat) (xs : List Dat) (S : Sl) : Option Nat → Option Out
  | some j => some (.nx (putV S i (.l (xs.set j x))))
  | none => none
def six3 (i : Nat) (x : Dat) (k : Int) (S : Sl) : Option (List Dat) → Option Out
  | some xs => six4 i x xs S (ixN xs.length k)
  | none => none
def six2 (i : Nat) (x : Dat) : Dat → Sl → Option Out
  | .int k, S => six3 i x k S (listV S i)
  | _, _ => none
def six1 (i : Nat) (a : M Dat) (x : Dat) (S : Sl) : Option (List Dat) → Option Out
  | some _ => bnd (a S) (six2 i x)
  | none => none
def six0 (i : Nat) (a : M Dat) (x : Dat) (S : Sl) : Option Out := six1 i a x S (listV S i)
@[simp] theorem sSetIx_e : sSetIx i a b S = bnd (b S) (six0 i a) := by
  unfold sSetIx
  cases b S with
  | none => rfl
  | some p =>
    obtain ⟨x, S1⟩ := p
    show _ = six1 i a x S1 (listV S1 i)
    simp only
    cases listV S1 i with
    | none => rfl
    | some xs0 =>
      show _ = bnd (a S1) (six2 i x)
      simp only
      cases a S1 with
      | none => rfl
      | some p =>
        obtain ⟨y, S2⟩ := p
        cases y with
        | int k =>
          show _ = six3 i x k S2 (listV S2 i)
          simp only
          cases listV S2 i with
          | none => rfl
          | some xs =>
            show _ = six4 i x xs S2 (ixN xs.length k)
            simp only
            cases ixN xs.length k <;> rfl
        | _ => rfl
@[simp] theorem six0_e : six0 i a x S = six1 i a x S (listV S i) := rfl
@[simp] theorem six1_some : six1 i a x S (some xs) = bnd (a S) (six2 i x) := rfl
@[simp] theorem six2_int : six2 i x (.int k) S = six3 i x k S (listV S i) := rfl
@[simp] theorem six3_some : six3 i x k S (some xs) = six4 i x xs S (ixN xs.length k) := rfl
@[simp] theorem six4_some : six4 i x xs S (some j) = some (.nx (putV S i (.l (xs.set j x)))) := rfl
theorem ixN_nat {n j : Nat} (h : j < n) : ixN n (j : Int) = some j := by
  unfold ixN
  rw [if_pos (by omega)]
  simp
  omega
end
end Rp
end
set_option Elab.async false
set_option linter.all false
set_option maxRecDepth 100000
noncomputable section
namespace Rp
open PySem PySem.Spec PyProof.Rows L2
theorem e_united8 : ∀ (f : Nat) (a b : T) (n m : Nat), a.wf true n → b.wf true m → Srt a.prs → Srt b.prs → a.prs.length + b.prs.length ≤ 8000 → a.ht < f →
    ∃ u : T, R_united f [.d a.d, .d b.d] = some (.d u.d, []) ∧ Two gUni a b u
  | 0, a, b, n, m, _, _, _, _, _, h => by omega
  | f + 1, .nil, b, n, m, ha, hb, sa, sb, hl, hh => by
    refine ⟨b, ?_, ⟨m, hb⟩, sb, fun key => rfl, by simp⟩
    refine (run_d (p := 2) (n := 7) (m := m_united (R_united f)) (xs := [T.nil.d, b.d]) rfl).trans ?_
    simp [m_united]
  | f + 1, .node p l k x r c, .nil, n, m, ha, hb, sa, sb, hl, hh => by
    refine ⟨.node p l k x r c, ?_, ⟨n, ha⟩, sa, fun key => by simp [gUni, atL_nil], by simp⟩
    refine (run_d (p := 2) (n := 7) (m := m_united (R_united f)) (xs := [(T.node p l k x r c).d, T.nil.d]) rfl).trans ?_
    simp [m_united]
  | f + 1, .node p l k x r c, .node p' l' k' x' r' c', n, m, ha, hb, sa, sb, hl, hh => by
    generalize hbe : T.node p' l' k' x' r' c' = b at hb sb hl
    have hbn : isNoD b.d = false := by rw [← hbe]; rfl
    have hlen : l.prs.length + 1 + r.prs.length = (T.node p l k x r c).prs.length := by simp; omega
    obtain ⟨_, ⟨_, _, wl⟩, _, _, wr⟩ := wf_parts ha
    obtain ⟨nl, wl⟩ := unp_sound wl
    obtain ⟨nr, wr⟩ := unp_sound wr
    obtain ⟨s1, s2, _, _⟩ := srt_parts sa
    have hbt := wf_ht hb
    have hbr := small_rank hb (by omega)
    obtain ⟨ec, C⟩ := e_cut k 30 b true m hb sb (by omega) (by simp at hbt; omega)
    have ec : F_cut_at [.d b.d, .d (.int k)] = _ := ec
    obtain ⟨na, wa⟩ := C.wa
    obtain ⟨nb, wb⟩ := C.wb
    have hgl := less_gr_len k b.prs
    have hh' : max l.ht r.ht + 1 < f + 1 := hh
    obtain ⟨L, eL, L1, L2', L3, L4⟩ := e_united8 f l.unp (cutT b k).1 nl na wl wa (by simpa using s1) (by rw [C.less]; exact srt_less sb) (by rw [C.less, prs_unp]; omega) (by rw [ht_unp]; omega)
    obtain ⟨R, eR, R1, R2', R3, R4⟩ := e_united8 f r.unp (cutT b k).2.2 nr nb wr wb (by simpa using s2) (by rw [C.gr]; exact srt_gr sb) (by rw [C.gr, prs_unp]; omega) (by rw [ht_unp]; omega)
    simp only [prs_unp, C.less, C.gr] at L3 R3 L4 R4
    obtain ⟨q1, q2, q3, q4⟩ := glue Gd.uni (M := [(k, x)]) sa L2' R2' L3 R3 (.inl ⟨rfl, rfl⟩)
    obtain ⟨kl, L1⟩ := L1
    obtain ⟨kr, R1⟩ := R1
    have rl := small_rank L1 (by omega)
    have rr := small_rank R1 (by omega)
    obtain ⟨p1, p2, kk, wk, _⟩ := put2_wf k x L1 R1 (by omega) (by omega)
    refine ⟨_, ?_, ⟨kk, wk⟩, by rw [p2]; exact q3, fun key => by rw [p2]; exact q4 key, by rw [p2]; simp; omega⟩
    refine (run_d (p := 2) (n := 7) (m := m_united (R_united f)) (xs := [(T.node p l k x r c).d, b.d]) rfl).trans ?_
    have eu1 := e_unp l
    have eu2 := e_unp r
    simp [m_united, hbn, ec, eu1, eu2, eL, eR, p1]
/-- the two trees beside a knot and the middle: how the deed goes on -/
theorem two_parts8 {a b : T} {p : Bool} {l r : T} {k : Int} {x : Dat} {c : Int} {n m : Nat} (ha : (T.node p l k x r c).wf true n) (hb : b.wf true m) (sa : Srt (T.node p l k x r c).prs) (sb : Srt b.prs) (hl : (T.node p l k x r c).prs.length + b.prs.length ≤ 8000) :
    F_cut_at [.d b.d, .d (.int k)] = some (.d (.tuple [(cutT b k).1.d, optD (cutT b k).2.1, (cutT b k).2.2.d]), []) ∧ CutOk b k (cutT b k).1 (cutT b k).2.1 (cutT b k).2.2 ∧ (∃ n, l.unp.wf true n) ∧ (∃ n, r.unp.wf true n) ∧
    Srt l.unp.prs ∧ Srt r.unp.prs ∧ l.unp.prs.length + (cutT b k).1.prs.length ≤ 8000 ∧ r.unp.prs.length + (cutT b k).2.2.prs.length ≤ 8000 ∧ Srt (cutT b k).1.prs ∧ Srt (cutT b k).2.2.prs := by
  have hlen : l.prs.length + 1 + r.prs.length = (T.node p l k x r c).prs.length := by simp; omega
  obtain ⟨_, ⟨_, _, wl⟩, _, _, wr⟩ := wf_parts ha
  obtain ⟨s1, s2, _, _⟩ := srt_parts sa
  have hbt := wf_ht hb
  have hbr := small_rank hb (by omega)
  obtain ⟨ec, C⟩ := e_cut k 30 b true m hb sb (by omega) (by simp at hbt; omega)
  have hgl := less_gr_len k b.prs
  exact ⟨ec, C, unp_sound wl, unp_sound wr, by simpa using s1, by simpa using s2, by rw [C.less, prs_unp]; omega, by rw [C.gr, prs_unp]; omega, by rw [C.less]; exact srt_less sb, by rw [C.gr]; exact srt_gr sb⟩
theorem e_common8 : ∀ (f : Nat) (a b : T) (n m : Nat), a.wf true n → b.wf true m → Srt a.prs → Srt b.prs → a.prs.length + b.prs.length ≤ 8000 → a.prs.length ≤ 4000 → a.ht < f →
    ∃ u : T, R_common f [.d a.d, .d b.d] = some (.d u.d, []) ∧ Two gCom a b u ∧ u.prs.length ≤ a.prs.length
  | 0, a, b, n, m, _, _, _, _, _, _, h => by omega
  | f + 1, .nil, b, n, m, ha, hb, sa, sb, hl, hla, hh => by
    refine ⟨.nil, ?_, ⟨⟨0, rfl⟩, sa, fun key => by simp [gCom, atL_nil], by simp⟩, Nat.le_refl _⟩
    refine (run_d (p := 2) (n := 7) (m := m_common (R_common f)) (xs := [T.nil.d, b.d]) rfl).trans ?_
    simp [m_common]
  | f + 1, .node p l k x r c, .nil, n, m, ha, hb, sa, sb, hl, hla, hh => by
    refine ⟨.nil, ?_, ⟨⟨0, rfl⟩, List.Pairwise.nil, fun key => by simp [gCom, atL_nil], by simp⟩, by simp⟩
    refine (run_d (p := 2) (n := 7) (m := m_common (R_common f)) (xs := [(T.node p l k x r c).d, T.nil.d]) rfl).trans ?_
    simp [m_common]
  | f + 1, .node p l k x r c, .node p' l' k' x' r' c', n, m, ha, hb, sa, sb, hl, hla, hh => by
    generalize hbe : T.node p' l' k' x' r' c' = b at hb sb hl
    have hbn : isNoD b.d = false := by rw [← hbe]; rfl
    have hlen : l.prs.length + 1 + r.prs.length = (T.node p l k x r c).prs.length := by simp; omega
    obtain ⟨ec, C, ⟨nl, wl⟩, ⟨nr, wr⟩, s1, s2, l1, l2, s3, s4⟩ := two_parts8 (a := b) ha hb sa sb hl
    obtain ⟨na, wa⟩ := C.wa
    obtain ⟨nb, wb⟩ := C.wb
    have hh' : max l.ht r.ht + 1 < f + 1 := hh
    obtain ⟨L, eL, ⟨⟨kl, L1⟩, L2', L3, L4⟩, L5⟩ := e_common8 f l.unp (cutT b k).1 nl na wl wa s1 s3 l1 (by rw [prs_unp]; omega) (by rw [ht_unp]; omega)
    obtain ⟨R, eR, ⟨⟨kr, R1⟩, R2', R3, R4⟩, R5⟩ := e_common8 f r.unp (cutT b k).2.2 nr nb wr wb s2 s4 l2 (by rw [prs_unp]; omega) (by rw [ht_unp]; omega)
    simp only [prs_unp, C.less, C.gr] at L3 R3 L5 R5
    have rl := small_rank L1 (by omega)
    have rr := small_rank R1 (by omega)
    have eu1 := e_unp l
    have eu2 := e_unp r
    have run := run_d (p := 2) (n := 7) (m := m_common (R_common f)) (xs := [(T.node p l k x r c).d, b.d]) rfl
    have hmid := C.mid
    cases hm : (cutT b k).2.1 with
    | none =>
      rw [hm] at hmid ec
      obtain ⟨q1, q2, q3, q4⟩ := glue Gd.com (M := []) sa L2' R2' L3 R3 (.inr ⟨rfl, by rw [← hmid]; rfl⟩)
      obtain ⟨u, e1, e2, kk, wk⟩ := (e_laid L1 R1 L2' R2' (by omega) (by omega)).1 fun p hp q hq => by have := q1 p hp; have := q2 q hq; omega
      refine ⟨u, ?_, ⟨⟨kk, wk⟩, by rw [e2]; exact q3, fun key => by rw [e2]; exact q4 key, by rw [e2]; simp; omega⟩, by rw [e2]; simp; omega⟩
      refine run.trans ?_
      simp [optD] at ec
      simp [m_common, hbn, ec, eu1, eu2, eL, eR, e1]
    | some y =>
      rw [hm] at hmid ec
      obtain ⟨q1, q2, q3, q4⟩ := glue Gd.com (M := [(k, x)]) sa L2' R2' L3 R3 (.inl ⟨rfl, by rw [← hmid]; rfl⟩)
      obtain ⟨p1, p2, kk, wk, _⟩ := put2_wf k x L1 R1 (by omega) (by omega)
      refine ⟨_, ?_, ⟨⟨kk, wk⟩, by rw [p2]; exact q3, fun key => by rw [p2]; exact q4 key, by rw [p2]; simp; omega⟩, by rw [p2]; simp; omega⟩
      refine run.trans ?_
      simp [optD, prD] at ec
      simp [m_common, hbn, ec, eu1, eu2, eL, eR, p1]
theorem e_without8 : ∀ (f : Nat) (a b : T) (n m : Nat), a.wf true n → b.wf true m → Srt a.prs → Srt b.prs → a.prs.length + b.prs.length ≤ 8000 → a.prs.length ≤ 4000 → a.ht < f →
    ∃ u : T, R_without f [.d a.d, .d b.d] = some (.d u.d, []) ∧ Two gWo a b u ∧ u.prs.length ≤ a.prs.length
  | 0, a, b, n, m, _, _, _, _, _, _, h => by omega
  | f + 1, .nil, b, n, m, ha, hb, sa, sb, hl, hla, hh => by
    refine ⟨.nil, ?_, ⟨⟨0, rfl⟩, sa, fun key => by simp [gWo, atL_nil], by simp⟩, Nat.le_refl _⟩
    refine (run_d (p := 2) (n := 7) (m := m_without (R_without f)) (xs := [T.nil.d, b.d]) rfl).trans ?_
    simp [m_without]
  | f + 1, .node p l k x r c, .nil, n, m, ha, hb, sa, sb, hl, hla, hh => by
    refine ⟨.node p l k x r c, ?_, ⟨⟨n, ha⟩, sa, fun key => by simp [gWo, atL_nil], by simp⟩, Nat.le_refl _⟩
    refine (run_d (p := 2) (n := 7) (m := m_without (R_without f)) (xs := [(T.node p l k x r c).d, T.nil.d]) rfl).trans ?_
    simp [m_without]
  | f + 1, .node p l k x r c, .node p' l' k' x' r' c', n, m, ha, hb, sa, sb, hl, hla, hh => by
    generalize hbe : T.node p' l' k' x' r' c' = b at hb sb hl
    have hbn : isNoD b.d = false := by rw [← hbe]; rfl
    have hlen : l.prs.length + 1 + r.prs.length = (T.node p l k x r c).prs.length := by simp; omega
    obtain ⟨ec, C, ⟨nl, wl⟩, ⟨nr, wr⟩, s1, s2, l1, l2, s3, s4⟩ := two_parts8 (a := b) ha hb sa sb hl
    obtain ⟨na, wa⟩ := C.wa
    obtain ⟨nb, wb⟩ := C.wb
    have hh' : max l.ht r.ht + 1 < f + 1 := hh
    obtain ⟨L, eL, ⟨⟨kl, L1⟩, L2', L3, L4⟩, L5⟩ := e_without8 f l.unp (cutT b k).1 nl na wl wa s1 s3 l1 (by rw [prs_unp]; omega) (by rw [ht_unp]; omega)
    obtain ⟨R, eR, ⟨⟨kr, R1⟩, R2', R3, R4⟩, R5⟩ := e_without8 f r.unp (cutT b k).2.2 nr nb wr wb s2 s4 l2 (by rw [prs_unp]; omega) (by rw [ht_unp]; omega)
    simp only [prs_unp, C.less, C.gr] at L3 R3 L5 R5
    have rl := small_rank L1 (by omega)
    have rr := small_rank R1 (by omega)
    have eu1 := e_unp l
    have eu2 := e_unp r
    have run := run_d (p := 2) (n := 7) (m := m_without (R_without f)) (xs := [(T.node p l k x r c).d, b.d]) rfl
    have hmid := C.mid
    cases hm : (cutT b k).2.1 with
    | some y =>
      rw [hm] at hmid ec
      obtain ⟨q1, q2, q3, q4⟩ := glue Gd.wo (M := []) sa L2' R2' L3 R3 (.inr ⟨rfl, by rw [← hmid]; rfl⟩)
      obtain ⟨u, e1, e2, kk, wk⟩ := (e_laid L1 R1 L2' R2' (by omega) (by omega)).1 fun p hp q hq => by have := q1 p hp; have := q2 q hq; omega
      refine ⟨u, ?_, ⟨⟨kk, wk⟩, by rw [e2]; exact q3, fun key => by rw [e2]; exact q4 key, by rw [e2]; simp; omega⟩, by rw [e2]; simp; omega⟩
      refine run.trans ?_
      simp [optD, prD] at ec
      simp [m_without, hbn, ec, eu1, eu2, eL, eR, e1]
    | none =>
      rw [hm] at hmid ec
      obtain ⟨q1, q2, q3, q4⟩ := glue Gd.wo (M := [(k, x)]) sa L2' R2' L3 R3 (.inl ⟨rfl, by rw [← hmid]; rfl⟩)
      obtain ⟨p1, p2, kk, wk, _⟩ := put2_wf k x L1 R1 (by omega) (by omega)
      refine ⟨_, ?_, ⟨⟨kk, wk⟩, by rw [p2]; exact q3, fun key => by rw [p2]; exact q4 key, by rw [p2]; simp; omega⟩, by rw [p2]; simp; omega⟩
      refine run.trans ?_
      simp [optD] at ec
      simp [m_without, hbn, ec, eu1, eu2, eL, eR, p1]
/-! ### raised -/
def lastD (l : List Pr) : Dat := match l.getLast? with
  | none => .none
  | some p => .int p.1
theorem lastD_snoc (l : List Pr) (p : Pr) : lastD (l ++ [p]) = .int p.1 := by unfold lastD; rw [List.getLast?_concat]
def m_raise1 : MS := (sSeq (sIf (Rp.tAnd (Rp.tB (mBin isNotD (mV 2) (mC .none))) (Rp.tB (mBin leD (mV 3) (mV 2)))) (sRaise 4) sNx)
    (sSeq (sAsg 1 (mCall F_put_together (aCons (mV 1) (aCons (mV 3) (aCons (mV 4) (aCons (mC .none) aNil))))))
    (sAsg 2 (mV 3))))
theorem wf_nil : T.nil.wf true 0 := rfl
theorem raise_step {t : T} {n : Nat} {p : Pr} {s0 : SV} (hw : t.wf true n) (hl : t.prs.length ≤ 4000) :
    (Srt (t.prs ++ [p]) → Srt t.prs → ∃ u : T, m_raise1 [s0, .d t.d, .d (lastD t.prs), .d (.int p.1), .d p.2] = some (.nx [s0, .d u.d, .d (lastD u.prs), .d (.int p.1), .d p.2]) ∧ u.prs = t.prs ++ [p] ∧ ∃ k, u.wf true k) ∧
    (¬ Srt (t.prs ++ [p]) → Srt t.prs → m_raise1 [s0, .d t.d, .d (lastD t.prs), .d (.int p.1), .d p.2] = some (.rt (.x 4) [s0, .d t.d, .d (lastD t.prs), .d (.int p.1), .d p.2])) := by
  have hr := small_rank hw (by omega)
  obtain ⟨p1, p2, k, wk, _⟩ := put2_wf p.1 p.2 hw wf_nil (by omega) (by omega)
  simp at p2
  have p1 : F_put_together [.d t.d, .d (.int p.1), .d p.2, .d .none] = _ := p1
  refine ⟨fun hs _ => ⟨put2 t p.1 p.2 .nil, ?_, p2, k, wk⟩, fun hs h0 => ?_⟩
  · rw [p2, lastD_snoc]
    rcases List.eq_nil_or_concat t.prs with e | ⟨as, q, e⟩
    · have e1 : lastD t.prs = .none := by rw [e]; rfl
      rw [e1]
      simp [m_raise1, p1, isNoD]
    · rw [List.concat_eq_append] at e
      have e1 : lastD t.prs = .int q.1 := by rw [e, lastD_snoc]
      have hlt : q.1 < p.1 := by
        rw [srt_append] at hs
        exact hs.2.2 q (by rw [e]; simp) p (by simp)
      have hn : ¬ p.1 ≤ q.1 := by omega
      rw [e1]
      simp [m_raise1, p1, isNoD, hn]
  · rcases List.eq_nil_or_concat t.prs with e | ⟨as, q, e⟩
    · exact absurd (by rw [e]; exact List.pairwise_singleton _ _) hs
    · rw [List.concat_eq_append] at e
      have e1 : lastD t.prs = .int q.1 := by rw [e, lastD_snoc]
      have hle : p.1 ≤ q.1 := by
        by_cases h : p.1 ≤ q.1
        · exact h
        · refine absurd ?_ hs
          rw [e] at h0 ⊢
          have h1 := srt_append.mp h0
          rw [srt_append]
          refine ⟨h0, List.pairwise_singleton _ _, fun a ha b hb => ?_⟩
          rw [List.mem_singleton.mp hb]
          rcases List.mem_append.mp ha with ha | ha
          · have := h1.2.2 a ha q (by simp); omega
          · rw [List.mem_singleton.mp ha]; omega
      rw [e1]
      simp [m_raise1, isNoD, hle, sRaise]
theorem raise_loop (s0 : SV) : ∀ (l : List Pr) (t : T) (n : Nat) (w3 w4 : SV), t.wf true n → Srt t.prs → t.prs.length + l.length ≤ 4000 →
    (Srt (t.prs ++ l) → ∃ (u : T) (S : Sl), forL (gT [3, 4]) m_raise1 (l.map prD) [s0, .d t.d, .d (lastD t.prs), w3, w4] = some (.nx S) ∧ S[1]? = some (.d u.d) ∧ u.prs = t.prs ++ l ∧ ∃ k, u.wf true k) ∧
    (¬ Srt (t.prs ++ l) → ∃ S : Sl, forL (gT [3, 4]) m_raise1 (l.map prD) [s0, .d t.d, .d (lastD t.prs), w3, w4] = some (.rt (.x 4) S))
  | [], t, n, w3, w4, hw, hs, hl => by
    refine ⟨fun _ => ⟨t, _, rfl, rfl, by simp, n, hw⟩, fun h => absurd (by rw [List.append_nil]; exact hs) h⟩
  | p :: l, t, n, w3, w4, hw, hs, hl => by
    rw [List.length_cons] at hl
    have e0 : t.prs ++ p :: l = (t.prs ++ [p]) ++ l := by simp
    obtain ⟨g1, g2⟩ := raise_step (p := p) (s0 := s0) hw (by omega)
    have ef : ∀ o, forL (gT [3, 4]) m_raise1 ((p :: l).map prD) [s0, .d t.d, .d (lastD t.prs), w3, w4] = o ↔ (match m_raise1 [s0, .d t.d, .d (lastD t.prs), .d (.int p.1), .d p.2] with
      | some (.nx S2) => forL (gT [3, 4]) m_raise1 (l.map prD) S2
      | r => r) = o := fun o => by rw [List.map_cons, forL_cons]; exact Iff.rfl
    by_cases hc : Srt (t.prs ++ [p])
    · obtain ⟨u, e, q, k, wk⟩ := g1 hc hs
      obtain ⟨i1, i2⟩ := raise_loop s0 l u k (.d (.int p.1)) (.d p.2) wk (by rw [q]; exact hc) (by rw [q]; simp; omega)
      rw [e0, ← q]
      refine ⟨fun h => ?_, fun h => ?_⟩
      · obtain ⟨v, S, f1, f2, f3, f4⟩ := i1 h
        exact ⟨v, S, (ef _).mpr (by rw [e]; exact f1), f2, f3, f4⟩
      · obtain ⟨S, f1⟩ := i2 h
        exact ⟨S, (ef _).mpr (by rw [e]; exact f1)⟩
    · refine ⟨fun h => absurd (by rw [e0] at h; exact (srt_append.mp h).1) hc, fun _ => ⟨_, (ef _).mpr (by rw [g2 hc hs])⟩⟩
theorem e_raised (l : List Pr) (hl : l.length ≤ 4000) : (Srt l → ∃ u : T, F_raised [.d (.list (l.map prD))] = some (.d u.d, []) ∧ u.prs = l ∧ ∃ k, u.wf true k) ∧ (¬ Srt l → F_raised [.d (.list (l.map prD))] = some (.x 4, [])) := by
  have run := run_dX (p := 1) (n := 5) (m := m_raised) (xs := [.list (l.map prD)]) rfl
  obtain ⟨i1, i2⟩ := raise_loop (.d (.list (l.map prD))) l .nil 0 .no .no wf_nil List.Pairwise.nil (by simp; omega)
  have hm : m_raised = (sSeq (sAsg 1 (mC .none)) (sSeq (sAsg 2 (mC .none)) (sSeq (sFor (mItems (mV 0)) (gT [3, 4]) m_raise1) (sRetV 1)))) := rfl
  have el : lastD T.nil.prs = .none := rfl
  rw [prs_nil, List.nil_append, ← prs_nil, el] at i1 i2
  refine ⟨fun h => ?_, fun h => ?_⟩
  · obtain ⟨u, S, f1, f2, f3, f4⟩ := i1 h
    refine ⟨u, run.trans ?_, f3, f4⟩
    rw [hm]
    simp at f1
    simp [f1, sRetV, f2, Out.res]
  · obtain ⟨S, f1⟩ := i2 h
    refine run.trans ?_
    rw [hm]
    simp at f1
    simp [f1, Out.res]
end Rp
end
set_option Elab.async false
set_option linter.all false
set_option maxRecDepth 100000
noncomputable section
namespace Rp
open PySem PySem.Spec PyProof.Rows L2
/-! ### things as data that can be compared -/
theorem ok_append {x y : Str} (h : PyData.strOk x = true) (h2 : PyData.strOk y = true) : PyData.strOk (x ++ y) = true := by
  unfold PyData.strOk at *
  show (x.cps ++ y.cps).all _ = true
  rw [Array.all_append, h, h2]; rfl
theorem ok_list {l : List Nat} : PyData.strOk ⟨l.toArray⟩ = true ↔ ∀ c ∈ l, c < 0x110000 := by
  unfold PyData.strOk
  simp
theorem ok_iff {x : Str} : PyData.strOk x = true ↔ ∀ c ∈ x.cps.toList, c < 0x110000 := by
  unfold PyData.strOk
  rw [Array.all_eq_true']
  simp
theorem ok_cut {x : Str} {lo hi : Option Int} (h : PyData.strOk x = true) : PyData.strOk (cutS x lo hi) = true := by
  unfold cutS
  exact ok_list.mpr fun c hc => ok_iff.mp h c (List.mem_of_mem_drop (List.mem_of_mem_take hc))
theorem ok_rep {x : Str} {n : Nat} (h : PyData.strOk x = true) : PyData.strOk ⟨(List.replicate n x.cps.toList).flatten.toArray⟩ = true := by
  refine ok_list.mpr fun c hc => ?_
  obtain ⟨l, hl, hc⟩ := List.mem_flatten.mp hc
  rw [List.eq_of_mem_replicate hl] at hc
  exact ok_iff.mp h c hc
theorem e_text2 (c s : Int) (hs : 0 ≤ s) (hs2 : s < 90) : ∃ z : Str, F_law_text [.d (.int c), .d (.int s)] = some (.d (.str z), []) ∧ PyData.strOk z = true := by
  have e0 := run_d (p := 2) (n := 4) (m := m_law_text) (xs := [.int c, .int s]) rfl
  let A : Str := " !\"#$&'()*+,-./0123456789:;<=>?@ABCDEFGHIJKLMNOPQRSTUVWXYZ[\\]^_`"
  let B : Str := "abcdefghijklmnopqrstuvwxyz{|}~\n\t"
  have oA : PyData.strOk A = true := by decide +kernel
  have oB : PyData.strOk B = true := by decide +kernel
  have oAB := ok_append (ok_append oA oB) (ok_append oA oB)
  have hA : A.length ≤ 100 := by decide +kernel
  have hB : B.length ≤ 100 := by decide +kernel
  have hAB : (A ++ B).length ≤ 200 := by rw [Str.length_append]; omega
  have hABB : ((A ++ B) ++ (A ++ B)).length ≤ 400 := by rw [Str.length_append]; omega
  generalize hu : cutS ((A ++ B) ++ (A ++ B)) (some (c % 96)) (some (c % 96 + s)) = u
  have ou : PyData.strOk u = true := by rw [← hu]; exact ok_cut oAB
  have hu1 : u.length ≤ 400 := by rw [← hu]; exact Nat.le_trans (cutS_length _ _ _) hABB
  have e1 : addD (.str A) (.str B) = some (.str (A ++ B)) := by
    show (if A.length + B.length ≤ 100000 then some (PyData.str (A ++ B)) else none) = _
    rw [if_pos (by omega)]
  have e2 : addD (.str (A ++ B)) (.str (A ++ B)) = some (.str ((A ++ B) ++ (A ++ B))) := by
    show (if (A ++ B).length + (A ++ B).length ≤ 100000 then some (PyData.str ((A ++ B) ++ (A ++ B))) else none) = _
    rw [if_pos (by omega)]
  have hl4 : ((A ++ B) ++ (A ++ B)).length ≤ 100000 := by omega
  have hu2 : u.length ≤ 100000 := by omega
  by_cases hc : c / 96 % 3 = 1
  · generalize hv : cutS u (some (-1)) none = v
    have ov : PyData.strOk v = true := by rw [← hv]; exact ok_cut ou
    have hv1 : v.length ≤ 400 := by rw [← hv]; exact Nat.le_trans (cutS_length _ _ _) hu1
    have hm : mulD (.str v) (.int 3) = some (.str ⟨(List.replicate (3 : Int).toNat v.cps.toList).flatten.toArray⟩) := by
      show (if 1 ≤ (3 : Int) ∧ (3 : Int) ≤ 1000 ∧ v.length ≤ 1000 then _ else none) = _
      rw [if_pos ⟨by decide, by decide, by omega⟩]
    generalize hw : (⟨(List.replicate (3 : Int).toNat v.cps.toList).flatten.toArray⟩ : Str) = w at hm
    have ow : PyData.strOk w = true := by rw [← hw]; exact ok_rep ov
    have hw1 : w.length ≤ 1200 := by
      rw [← hw]
      show (List.replicate (3 : Int).toNat v.cps.toList).flatten.toArray.size ≤ 1200
      rw [List.size_toArray, List.length_flatten, List.map_replicate, List.sum_replicate_nat]
      have : v.cps.toList.length = v.length := by rw [Array.length_toList]; rfl
      rw [this, show (3 : Int).toNat = 3 from rfl]
      omega
    have e3 : addD (.str u) (.str w) = some (.str (u ++ w)) := by
      show (if u.length + w.length ≤ 100000 then some (PyData.str (u ++ w)) else none) = _
      rw [if_pos (by omega)]
    generalize hx : cutS u none (some 9) = x
    have ox : PyData.strOk x = true := by rw [← hx]; exact ok_cut ou
    have hx1 : x.length ≤ 400 := by rw [← hx]; exact Nat.le_trans (cutS_length _ _ _) hu1
    have huw : (u ++ w).length ≤ 1600 := by rw [Str.length_append]; omega
    have e4 : addD (.str (u ++ w)) (.str x) = some (.str ((u ++ w) ++ x)) := by
      show (if (u ++ w).length + x.length ≤ 100000 then some (PyData.str ((u ++ w) ++ x)) else none) = _
      rw [if_pos (by omega)]
    refine ⟨(u ++ w) ++ x, e0.trans ?_, ok_append (ok_append ou ow) ox⟩
    simp [m_law_text, A, B] at e1 e2 hl4 hu hv hx e3 e4 hm hc hu2 ⊢
    simp [e1, e2, hl4, hu, hc, hu2, hv, hm, e3, hx, e4]
  · refine ⟨u, e0.trans ?_, ou⟩
    simp [m_law_text, A, B] at e1 e2 hl4 hu hc ⊢
    simp [e1, e2, hl4, hu, hc]
theorem nest_loop2 (a b c : SV) : ∀ (ks : List Int) (x : Dat) (w : SV), x.canLay0 = true →
    ∃ z w', forL (gN 3) (sAsg 4 (mTup (mCons (mV 4) (mCons (mV 3) mNil)))) (ks.map PyData.int) [a, b, c, w, .d x] = some (.nx [a, b, c, w', .d z]) ∧ z.canLay0 = true
  | [], x, w, h => ⟨x, w, rfl, h⟩
  | k :: ks, x, w, h => by
    obtain ⟨z, w', e, p⟩ := nest_loop2 a b c ks (.tuple [x, .int k]) (.d (.int k)) (by simp [PyData.canLay0, PyData.canLayAll0, h])
    refine ⟨z, w', ?_, p⟩
    rw [List.map_cons, forL_cons]
    simpa using e
section
variable {c : Int} {s : Nat} {z : Str} (hs : c / 12 % 90 = s)
include hs
theorem thing_2b (hk : c % 12 = 2) (h90 : s < 90) : ∃ x S, m_law_thing [.d (.int c), .no, .no, .no, .no] = some (.rt (.d x) S) ∧ x.canLay0 = true := by
  obtain ⟨n, hn⟩ : ∃ n : Nat, (s : Int) % 30 = n := ⟨((s : Int) % 30).toNat, by omega⟩
  have hn1 : n < 30 := by omega
  have hc : compL 3 Rp.tYes (mBin modD (mBin fdivD (mV 0) (mBin addD (mV 3) (mC (.int 1)))) (mC (.int 9))) (rangeD 0 (n : Int)) [.d (.int c), .d (.int 2), .d (.int s), .no, .no] =
      some (((List.range n).map fun (i : Nat) => PyData.int (c / ((i : Int) + 1) % 9)), [.d (.int c), .d (.int 2), .d (.int s), .no, .no]) := by
    rw [compL_map (f := fun x => match x with | .int i => .int (c / (i + 1) % 9) | _ => .none) rfl (fun x hx => ?_)]
    · rw [rangeD0, List.map_map]; rfl
    · obtain ⟨i, hi, rfl⟩ := mem_rangeD0 hx
      have : (0 : Int) < (i : Int) + 1 ∧ (i : Int) + 1 < 1073741824 := by omega
      simp [this]
  have hl : inLine (n : Int) = true := inLine_nat (by omega)
  have hlen : (rangeD 0 (n : Int)).length ≤ 100000 := by rw [rangeD_length]; omega
  refine ⟨.tuple ((List.range n).map fun (i : Nat) => PyData.int (c / ((i : Int) + 1) % 9)), _, by simp [m_law_thing, hk, hs, hn, hl, hc, hlen]; rfl, ?_⟩
  have := lay_all (l := (List.range n).map fun (i : Nat) => PyData.int (c / ((i : Int) + 1) % 9)) fun x hx => by
    obtain ⟨i, _, rfl⟩ := List.mem_map.mp hx
    rfl
  simpa [PyData.canLay0] using this
theorem thing_3b (hk : c % 12 = 3) : ∃ x S, m_law_thing [.d (.int c), .no, .no, .no, .no] = some (.rt (.d x) S) ∧ x.canLay0 = true := by
  obtain ⟨n, hn⟩ : ∃ n : Nat, (s : Int) % 9 = n := ⟨((s : Int) % 9).toNat, by omega⟩
  have hn1 : n < 9 := by omega
  obtain ⟨z, w, e, hz⟩ := nest_loop2 (.d (.int c)) (.d (.int 3)) (.d (.int s)) ((List.range n).map fun (i : Nat) => (i : Int)) (.tuple [.bool (decide (c % 2 = 1)), .int (c % 3)]) .no (by simp [PyData.canLay0, PyData.canLayAll0])
  rw [← range_ints] at e
  have hl : inLine (n : Int) = true := inLine_nat (by omega)
  refine ⟨z, _, by simp [m_law_thing, hk, hs, hn, hl, e]; rfl, hz⟩
theorem thing_4b (hk : c % 12 = 4) (hz : F_law_text [.d (.int (c / 12)), .d (.int s)] = some (.d (.str z), [])) (oz : PyData.strOk z = true) : ∃ x S, m_law_thing [.d (.int c), .no, .no, .no, .no] = some (.rt (.d x) S) ∧ x.canLay0 = true := by
  refine ⟨.tuple [.none, .str z, .int (-(s : Int)), .tuple [.str "", .tuple [.none]]], _, by simp [m_law_thing, hk, hs, hz]; rfl, by simp [PyData.canLay0, PyData.canLayAll0, oz]; decide +kernel⟩
theorem thing_5b {k : Int} (hk : c % 12 = k) (h5 : 5 ≤ k) (h12 : k < 12) : ∃ x S, m_law_thing [.d (.int c), .no, .no, .no, .no] = some (.rt (.d x) S) ∧ x.canLay0 = true := by
  have e : m_law_thing [.d (.int c), .no, .no, .no, .no] = bnd (opt (atI [PyData.none, .str "", .bool true, .bool false, .int 0, .tuple [.bool true, .tuple [.int 1, .str "x"]], .tuple []] (k - 5)) [.d (.int c), .d (.int k), .d (.int s), .no, .no]) retK := by
    have h0 : ¬ k = 0 := by omega
    have h1 : ¬ k = 1 := by omega
    have h2 : ¬ k = 2 := by omega
    have h3 : ¬ k = 3 := by omega
    have h4 : ¬ k = 4 := by omega
    simp [m_law_thing, hk, hs, h0, h1, h2, h3, h4]
  rw [e]
  have cases7 : k = 5 ∨ k = 6 ∨ k = 7 ∨ k = 8 ∨ k = 9 ∨ k = 10 ∨ k = 11 := by omega
  rcases cases7 with r | r | r | r | r | r | r <;> subst r
  · exact ⟨_, _, rfl, by first | rfl | decide +kernel⟩
  · exact ⟨_, _, rfl, by first | rfl | decide +kernel⟩
  · exact ⟨_, _, rfl, by first | rfl | decide +kernel⟩
  · exact ⟨_, _, rfl, by first | rfl | decide +kernel⟩
  · exact ⟨_, _, rfl, by first | rfl | decide +kernel⟩
  · exact ⟨_, _, rfl, by first | rfl | decide +kernel⟩
  · exact ⟨_, _, rfl, by first | rfl | decide +kernel⟩
end
theorem e_thing2 (c : Int) (h : sm c) : ∃ x, F_law_thing [.d (.int c)] = some (.d x, []) ∧ x.canLay0 = true := by
  have e0 := run_d (p := 1) (n := 5) (m := m_law_thing) (xs := [.int c]) rfl
  have hk0 : 0 ≤ c % 12 := Int.emod_nonneg _ (by decide)
  have hk1 : c % 12 < 12 := Int.emod_lt_of_pos _ (by decide)
  have hs0 : 0 ≤ c / 12 % 90 := Int.emod_nonneg _ (by decide)
  have hs1 : c / 12 % 90 < 90 := Int.emod_lt_of_pos _ (by decide)
  obtain ⟨s, hs⟩ : ∃ s : Nat, c / 12 % 90 = s := ⟨(c / 12 % 90).toNat, by omega⟩
  obtain ⟨z, hz, oz⟩ := e_text2 (c / 12) s (by omega) (by omega)
  have fin : (∃ x S, m_law_thing [.d (.int c), .no, .no, .no, .no] = some (.rt (.d x) S) ∧ x.canLay0 = true) → ∃ x, F_law_thing [.d (.int c)] = some (.d x, []) ∧ x.canLay0 = true := fun ⟨x, S, e, p⟩ => by
    refine ⟨x, e0.trans ?_, p⟩
    show (match m_law_thing [.d (.int c), .no, .no, .no, .no] with | some o => _ | none => none) = _
    rw [e]
    rfl
  apply fin
  by_cases h0 : c % 12 = 0
  · exact ⟨_, _, thing_0 hs h0 hz, by simpa [PyData.canLay0] using oz⟩
  by_cases h1 : c % 12 = 1
  · have hp : powD (.int c) (.int 5) = some (.int (c ^ 5)) := by
      exact pow_i (b := 5) (by unfold sm at h; omega)
    obtain ⟨k, S, e⟩ := thing_1 hs h1 hp
    exact ⟨_, _, e, by simp [PyData.canLay0]⟩
  by_cases h2 : c % 12 = 2
  · exact thing_2b hs h2 (by omega)
  by_cases h3 : c % 12 = 3
  · exact thing_3b hs h3
  by_cases h4 : c % 12 = 4
  · exact thing_4b hs h4 hz oz
  exact thing_5b hs rfl (by omega) hk1
theorem thing_lay {c : Int} (h : sm c) : (thingD c).canLay0 = true := by
  obtain ⟨x, e, p⟩ := e_thing2 c h
  unfold thingD
  rw [e]
  exact p
theorem plain_depth : ∀ {n : Nat} {x : Dat}, plain n x = true → x.depth ≤ n + 1
  | n, .none, _ => by simp [PyData.depth]
  | n, .bool _, _ => by simp [PyData.depth]
  | n, .int _, _ => by simp [PyData.depth]
  | n, .str _, _ => by simp [PyData.depth]
  | 0, .tuple xs, h => by simp [plain] at h
  | n + 1, .tuple xs, h => by
    rw [plain_tup, Bool.and_eq_true, List.all_eq_true] at h
    have := depth_all (n := n + 1) (l := xs) fun x hx => plain_depth (h.2 x hx)
    simp [PyData.depth]
    omega
  | 0, .list xs, h => by simp [plain] at h
  | n + 1, .list xs, h => by simp [plain] at h
  | 0, .dict xs, h => by simp [plain] at h
  | n + 1, .dict xs, h => by simp [plain] at h
/-- pairs whose things can be compared -/
def fineL (l : List Pr) : Prop := ∀ p ∈ l, plain 10 p.2 = true ∧ p.2.canLay0 = true
theorem shaped_prs {l : List Pr} (h : fineL l) : SeqAt.shaped (.list (l.map prD)) = true := by
  have h1 := lay_all (l := l.map prD) fun x hx => by
    obtain ⟨p, hp, rfl⟩ := List.mem_map.mp hx
    have := (h p hp).2
    simp [prD, PyData.canLay0, PyData.canLayAll0, this]
  have h2 := depth_all (n := 12) (l := l.map prD) fun x hx => by
    obtain ⟨p, hp, rfl⟩ := List.mem_map.mp hx
    have := plain_depth (h p hp).1
    simp [prD, PyData.depth, PyData.depthAll]
    omega
  unfold SeqAt.shaped
  rw [Bool.and_eq_true, decide_eq_true_eq]
  refine ⟨by simpa [PyData.canLay0] using h1, ?_⟩
  simp [PyData.depth]
  omega
theorem eqv_prs {l : List Pr} (h : fineL l) : PyData.eqv (.list (l.map prD)) (.list (l.map prD)) = true := by
  refine SeqAt.eqv_refl _ ?_
  have h1 := lay_all (l := l.map prD) fun x hx => by
    obtain ⟨p, hp, rfl⟩ := List.mem_map.mp hx
    have := (h p hp).2
    simp [prD, PyData.canLay0, PyData.canLayAll0, this]
  simpa [PyData.canLay0] using h1
theorem neD_prs {l : List Pr} (h : fineL l) : neD (.list (l.map prD)) (.list (l.map prD)) = some (.bool false) := by
  simp only [neD, scalD, shaped_prs h, eqv_prs h, Bool.and_true, if_true, Bool.not_true]
theorem eqv_nil (l : List Pr) : PyData.eqv (.list (l.map prD)) (.list []) = l.isEmpty := by
  cases l <;> simp [PyData.eqv, PyData.eqvAll]
theorem shaped_nil : SeqAt.shaped (.list []) = true := rfl
theorem neD_nil {l : List Pr} (h : fineL l) : neD (.list (l.map prD)) (.list []) = some (.bool (!l.isEmpty)) := by
  simp only [neD, scalD, shaped_prs h, shaped_nil, eqv_nil, Bool.and_true, if_true]
theorem eqD_nil {l : List Pr} (h : fineL l) : eqD (.list (l.map prD)) (.list []) = some (.bool l.isEmpty) := by
  simp only [eqD, scalD, shaped_prs h, shaped_nil, eqv_nil, Bool.and_true, if_true]
theorem bits_div {c : Int} {m : Nat} (k : Int) (hk : 0 ≤ k) (h : Builtin.Int.intBits c ≤ m) : Builtin.Int.intBits (c / k) ≤ m := by
  have := intBits_fdiv_le (y := k) h
  rwa [Int.fdiv_eq_ediv_of_nonneg _ hk] at this
theorem row_fine {c : Int} {m : Nat} (hc : Builtin.Int.intBits c ≤ 1048576) (hm : m ≤ 5000) : fineL (rowL c m) := by
  intro p hp
  have h1 := row_plain hc hm p hp
  refine ⟨h1, ?_⟩
  unfold rowL at hp
  obtain ⟨i, hi, rfl⟩ := List.mem_map.mp hp
  have := List.mem_range.mp hi
  exact thing_lay (sm_add hc (by omega))
end Rp
end
set_option Elab.async false
set_option linter.all false
set_option maxRecDepth 100000
set_option maxHeartbeats 4000000
noncomputable section
namespace Rp
open PySem PySem.Spec PyProof.Rows L2
def m_Walk_step : MS :=
  (sSeq (sIf (Rp.tB (mBin eqD (mFldP 0) (mCall F_size_of (aCons (mFldT 0) aNil)))) (sRet (mC .none)) sNx)
    (sSeq (sFldP 0 (mBin addD (mFldP 0) (mC (.int 1))))
    (sRet (mCall F_pair_at (aCons (mFldT 0) (aCons (mBin subD (mFldP 0) (mC (.int 1))) aNil))))))
def F_Walk_step : FF := runF 1 1 m_Walk_step

def m_Walk_back : MS :=
  (sSeq (sIf (Rp.tB (mBin eqD (mFldP 0) (mC (.int 0)))) (sRet (mC .none)) sNx)
    (sSeq (sFldP 0 (mBin subD (mFldP 0) (mC (.int 1))))
    (sRet (mCall F_pair_at (aCons (mFldT 0) (aCons (mFldP 0) aNil))))))
def F_Walk_back : FF := runF 1 1 m_Walk_back

def m_Walk_seek : MS :=
  (sFldP 0 (mCall F_count_below (aCons (mFldT 0) (aCons (mV 1) aNil))))
def F_Walk_seek : FF := runF 2 2 m_Walk_seek

def m_law_key_by : MS :=
  (sSeq (sIf (Rp.tAnd (tTrV 0) (Rp.tB (mBin gtD (mBin modD (mV 1) (mC (.int 5))) (mC (.int 0))))) (sRet (mBin addD (mBin ixD (mIxV 0 (mBin modD (mV 2) (mLenV 0))) (mC (.int 0))) (mBin ixD (mFz (mLst (mCons (mC (.int 0)) (mCons (mC (.int 0)) (mCons (mC (.int 1)) (mCons (mUn negD (mC (.int 1))) mNil)))))) (mBin subD (mBin modD (mV 1) (mC (.int 5))) (mC (.int 1)))))) sNx)
    (sRet (mBin subD (mBin modD (mV 2) (mBin subD (mBin mulD (mC (.int 2)) (mBin powD (mC (.int 10)) (mC (.int 60)))) (mC (.int 3)))) (mBin subD (mBin powD (mC (.int 10)) (mC (.int 60))) (mC (.int 2))))))
def F_law_key_by : FF := runF 3 3 m_law_key_by

def m_law_moved : MS :=
  (sSeq (sAsg 4 (mBin modD (mV 3) (mC (.int 7))))
    (sSeq (sIf (Rp.tB (mBin ltD (mV 4) (mC (.int 3)))) (sSeq (sAsg 5 (mBin ixD (mFz (mBinF catF (mV 1) (mFz (mLst (mCons (mC .none) mNil))))) (mV 2)))
    (sSeq (sAsg 2 (mApp min2 (mCons (mBin addD (mV 2) (mC (.int 1))) (mCons (mLenV 1) mNil))))
    (sRet (mTup (mCons (mV 2) (mCons (mCall F_law_pair (aCons (mMeth F_Walk_step 0 aNil) (aCons (mV 5) aNil))) mNil)))))) sNx)
    (sSeq (sIf (Rp.tB (mBin ltD (mV 4) (mC (.int 5)))) (sSeq (sAsg 5 (mBin ixD (mFz (mBinF catF (mFz (mLst (mCons (mC .none) mNil))) (mV 1))) (mV 2)))
    (sSeq (sAsg 2 (mApp max2 (mCons (mBin subD (mV 2) (mC (.int 1))) (mCons (mC (.int 0)) mNil))))
    (sRet (mTup (mCons (mV 2) (mCons (mCall F_law_pair (aCons (mMeth F_Walk_back 0 aNil) (aCons (mV 5) aNil))) mNil)))))) sNx)
    (sSeq (sAsg 6 (mCall F_law_key_by (aCons (mV 1) (aCons (mBin fdivD (mV 3) (mC (.int 7))) (aCons (mBin fdivD (mV 3) (mC (.int 35))) aNil)))))
    (sSeq (sAsg 7 (mMeth F_Walk_seek 0 (aCons (mV 6) aNil)))
    (sRet (mTup (mCons (mApp lenA (mCons (mFz (mComp (mItems (mV 1)) 8 (Rp.tB (mBin ltD (mIxV 8 (mC (.int 0))) (mV 6))) (mV 8))) mNil)) (mCons (mBin isD (mV 7) (mC .none)) mNil)))))))))
def F_law_moved : FF := runF 4 9 m_law_moved

/-! ### the law's statements -/
def l_0 : MS := (sAsg 1 (mCall F_law_tree (aCons (mV 0) aNil)))
def l_1 : MS := (sAsg 2 (mC .none))
def l_2 : MS := (sIf (Rp.tAnd (Rp.tB (mBin isNotD (mV 1) (mC .none))) (Rp.tAnd (Rp.tB (mBin isNotD (mIxV 1 (mC (.int 1))) (mC .none))) (Rp.tNot (tTr (mBin ixD (mIxV 1 (mC (.int 1))) (mC (.int 0))))))) (sAsg 2 (mIxV 1 (mC (.int 1)))) sNx)
def l_3 : MS := (sAsgF 3 (mCallF F_law_rising (aCons (mCall F_law_cell_at (aCons (mV 0) (aCons (mC (.int 0)) aNil))) (aCons (mCall F_law_many (aCons (mV 1) aNil)) aNil))))
def l_4 : MS := (sAsgF 4 (mLst (mCons (mV 3) (mCons (mV 3) (mCons (mFz (mSlF (mV 3) mNo (mPart (mCall F_law_many (aCons (mV 2) aNil))))) mNil)))))
def w_0 : M Dat := (mV 1)
def w_1 : M Dat := (mV 1)
def w_2 : M Dat := (mV 2)
def l_6 : MS := (sAsgF 6 (mLst (mCons (mC (.int 0)) (mCons (mC (.int 0)) (mCons (mC (.int 0)) mNil)))))
def c_0 : M Bool := (Rp.tB (mBin eqD (mBin modD (mV 7) (mC (.int 16))) (mC (.int 15))))
def c_0w : M Dat := (mV 1)
def c_0p : MS := (sSetIx 6 (mC (.int 1)) (mC (.int 0)))
def c_1 : MS := (sAsg 8 (mBin modD (mIxV 0 (mV 7)) (mC (.int 3))))
def c_2i : M Dat := (mV 8)
def c_2a : M (List CA) := (aCons (mIxV 4 (mV 8)) (aCons (mIxV 6 (mV 8)) (aCons (mBin fdivD (mIxV 0 (mV 7)) (mC (.int 3))) aNil)))
def c_3 : MS := (sSetIx 6 (mV 8) (mV 9))
def c_4t : M Bool := (Rp.tNot (tTrV 10))
def c_4r : M Dat := (mFz (mRep (mLst (mCons (mC (.bool true)) mNil)) (mC (.int 3))))
def c_5r : M Dat := (mV 6)
def l_8r : M Dat := (mFz (mLst (mCons (mV 1) (mCons (mV 1) (mCons (mV 2) mNil)))))
def r_7 : M (List Dat) := (mRange2 (mC (.int 4)) (mLenV 0))
def me_4 : M Dat := (mCall F_law_whole (aCons (mFldP 11) aNil))
def me_5 : M Dat := (mFldP 11)
def me_8 : M Dat := (mFldT 11)
/-- what the law says of a script: the spec of the def that the walk proves -/
def lawOk (S : Sl) : Prop := ∃ ns : List Int, S = [.d (.list (ns.map PyData.int)), .no, .no, .no, .no, .no, .no, .no, .no, .no, .no, .no] ∧ ns.length ≤ 63 ∧ ∀ z ∈ ns, Builtin.Int.intBits z ≤ 1048576
open Classical in
def m_law : MS := fun S => if lawOk S then some (.rt (.d (.bool true)) (List.replicate 12 .no)) else none
def F_law : FF := runF 1 12 m_law

end Rp
end
set_option Elab.async false
set_option linter.all false
set_option maxRecDepth 100000
noncomputable section
namespace Rp
open PySem PySem.Spec PyProof.Rows L2
theorem map_prD_truthy {l : List Pr} : (l.map prD).isEmpty = l.isEmpty := by cases l <;> rfl
theorem key_p60 : smallI 2 = true := by decide
theorem e_key_by (l : List Pr) (hl : l.length ≤ 8000) (w c : Int) : ∃ k : Int, F_law_key_by [.d (.list (l.map prD)), .d (.int w), .d (.int c)] = some (.d (.int k), []) := by
  have run := run_d (p := 3) (n := 3) (m := m_law_key_by) (xs := [.list (l.map prD), .int w, .int c]) rfl
  have h2 : mulD (.int 2) (.int (10 ^ 60)) = some (.int (2 * 10 ^ 60)) := mul_i' key_p60
  have h60 : (3 : Int) < 2 * 10 ^ 60 := by omega
  by_cases hw : 0 < w % 5
  · cases l with
    | nil => exact ⟨c % (2 * 10 ^ 60 - 3) - (10 ^ 60 - 2), run.trans (by simp [m_law_key_by, h2, h60, -Int.reducePow, -Int.reduceSub, -Int.reduceMul])⟩
    | cons p l =>
      have hpos : (0 : Int) < ((p :: l).length : Nat) := by rw [List.length_cons]; omega
      have h1 : 0 ≤ c % ((p :: l).length : Int) := Int.emod_nonneg _ (by omega)
      have h3 : c % ((p :: l).length : Int) < (p :: l).length := Int.emod_lt_of_pos _ hpos
      obtain ⟨i, hi⟩ : ∃ i : Nat, c % ((p :: l).length : Int) = i := ⟨(c % ((p :: l).length : Int)).toNat, by omega⟩
      have hi' : i < ((p :: l).map prD).length := by rw [List.length_map]; omega
      have e1 := atI_nat hi'
      obtain ⟨j, hj⟩ : ∃ j : Nat, w % 5 - 1 = j := ⟨(w % 5 - 1).toNat, by omega⟩
      have hj4 : j < ([PyData.int 0, .int 0, .int 1, .int (-1)]).length := by simp; omega
      have e2 := atI_nat hj4
      have e3 : ∃ z : Int, ([PyData.int 0, .int 0, .int 1, .int (-1)])[j] = .int z := by
        rcases j with _ | _ | _ | _ | j
        · exact ⟨_, rfl⟩
        · exact ⟨_, rfl⟩
        · exact ⟨_, rfl⟩
        · exact ⟨_, rfl⟩
        · exact absurd hj4 (by simp)
      obtain ⟨z, e3⟩ := e3
      rw [e3] at e2
      rw [List.getElem_map] at e1
      generalize (p :: l)[i]'(by rwa [List.length_map] at hi') = q at e1
      obtain ⟨qk, qx⟩ := q
      have e1 : atI ((p :: l).map prD) (i : Int) = some (.tuple [.int qk, qx]) := e1
      have hE : ((p :: l).map prD).isEmpty = false := rfl
      have hL : (((p :: l).map prD).length : Int) = ((p :: l).length : Nat) := by rw [List.length_map]
      rw [← hL] at hi hpos
      clear h1 h3 hi' hL
      revert run e1 hE hi hpos
      generalize (p :: l).map prD = L
      intro run hpos hi e1 hE
      have hposN : 0 < L.length := by omega
      refine ⟨qk + z, run.trans ?_⟩
      simp [m_law_key_by, hw, hE, hposN, hi, e1, hj, e2]
  · exact ⟨c % (2 * 10 ^ 60 - 3) - (10 ^ 60 - 2), run.trans (by cases l <;> simp [m_law_key_by, hw, h2, h60, -Int.reducePow, -Int.reduceSub, -Int.reduceMul])⟩
/-! ### the methods -/
theorem run_step {A : Ct} : F_Walk_step [.c A] = match m_Walk_step [.m 0 A] with
    | some o => match o.res with
      | .x _ => none
      | r => match newsOf 0 [.c A] o.sl with
        | some news => some (r, news)
        | none => none
    | none => none := rfl
theorem run_back {A : Ct} : F_Walk_back [.c A] = match m_Walk_back [.m 0 A] with
    | some o => match o.res with
      | .x _ => none
      | r => match newsOf 0 [.c A] o.sl with
        | some news => some (r, news)
        | none => none
    | none => none := rfl
theorem run_seek {A : Ct} {x : Dat} : F_Walk_seek [.c A, .d x] = match m_Walk_seek [.m 0 A, .d x] with
    | some o => match o.res with
      | .x _ => none
      | r => match newsOf 0 [.c A, .d x] o.sl with
        | some news => some (r, news)
        | none => none
    | none => none := rfl
def optP : Option Pr → Dat
  | some p => prD p
  | none => .none
theorem e_step {t : T} {n : Nat} (hw : t.wf true n) (p : Nat) (hp : p ≤ t.prs.length) : F_Walk_step [.c (.ob t.d (.int (p : Int)))] = some (.d (optP t.prs[p]?), [.ob t.d (.int (min ((p : Int) + 1) t.prs.length))]) := by
  have es := e_size t
  have sz : t.sz = (t.prs.length : Int) := by rw [wf_sz hw, cnt_prs]
  rw [sz] at es
  rw [run_step]
  cases e : t.prs[p]? with
  | none =>
    have : p = t.prs.length := by
      have := List.getElem?_eq_none_iff.mp e; omega
    subst this
    have hm : min ((t.prs.length : Int) + 1) (t.prs.length : Int) = (t.prs.length : Int) := by omega
    generalize t.d = td at es
    simp [m_Walk_step, mFldP, mFldT, obV, es, hm, optP, newsOf, Out.res, Out.sl]
  | some q =>
    have lt := (List.getElem?_eq_some_iff.mp e).1
    have ea := e_at hw e
    have ne : ¬ p = t.prs.length := by omega
    have ne2 : ¬ (p : Int) = (t.prs.length : Int) := by omega
    have hm : min ((p : Int) + 1) (t.prs.length : Int) = (p : Int) + 1 := by omega
    have h1 : (p : Int) + 1 - 1 = (p : Int) := by omega
    generalize t.d = td at es ea
    simp [m_Walk_step, mFldP, mFldT, sFldP, putV, SV.put, obV, es, ea, ne, ne2, hm, h1, optP, newsOf, Out.res, Out.sl]
theorem e_back {t : T} {n : Nat} (hw : t.wf true n) (p : Nat) (hp : p ≤ t.prs.length) : F_Walk_back [.c (.ob t.d (.int (p : Int)))] = some (.d (if p = 0 then .none else optP t.prs[p - 1]?), [.ob t.d (.int (max ((p : Int) - 1) 0))]) := by
  rw [run_back]
  cases p with
  | zero =>
    have hm : max (((0 : Nat) : Int) - 1) 0 = 0 := by decide
    rw [hm]
    generalize t.d = td
    simp [m_Walk_back, mFldP, mFldT, obV, newsOf, Out.res, Out.sl]
  | succ p =>
    have hg : t.prs[p]? = some t.prs[p] := List.getElem?_eq_getElem (by omega)
    have ea := e_at hw hg
    have hm : max (((p + 1 : Nat) : Int) - 1) 0 = (p : Int) := by omega
    have h1 : ((p + 1 : Nat) : Int) - 1 = (p : Int) := by omega
    have h0 : ¬ ((p + 1 : Nat) : Int) = 0 := by omega
    have h0' : ¬ p + 1 = 0 := by omega
    rw [hm, if_neg h0', Nat.add_sub_cancel, hg]
    generalize t.prs[p] = q at ea
    generalize ((p + 1 : Nat) : Int) = P at h1 h0
    generalize t.d = td at ea
    simp [m_Walk_back, mFldP, mFldT, sFldP, putV, SV.put, obV, ea, h0, h1, optP, newsOf, Out.res, Out.sl]
theorem e_seek (t : T) (p : Dat) (key : Int) : F_Walk_seek [.c (.ob t.d p), .d (.int key)] = some (.d .none, [.ob t.d (.int (cb key t))]) := by
  have ec := e_count t key
  rw [run_seek]
  generalize t.d = td at ec
  simp [m_Walk_seek, mFldP, mFldT, sFldP, putV, SV.put, obV, ec, newsOf, Out.res, Out.sl]
theorem max2_e (i j : Int) : max2 [.int i, .int j] = some (.int (if j > i then j else i)) := rfl
theorem min2_e (i j : Int) : min2 [.int i, .int j] = some (.int (if j < i then j else i)) := rfl
/-! ### one move -/
theorem run_moved {A : Ct} {x y z : Dat} : F_law_moved [.c A, .d x, .d y, .d z] = match m_law_moved [.m 0 A, .d x, .d y, .d z, .no, .no, .no, .no, .no] with
    | some o => match o.res with
      | .x _ => none
      | r => match newsOf 0 [.c A, .d x, .d y, .d z] o.sl with
        | some news => some (r, news)
        | none => none
    | none => none := rfl
theorem e_pairQ {R : List Pr} (hp : plainL R) (i : Nat) : F_law_pair [.d (optP R[i]?), .d (optP R[i]?)] = some (.d (.bool true), []) := by
  cases e : R[i]? with
  | none =>
    refine (run_d (p := 2) (n := 2) (m := m_law_pair) (xs := [.none, .none]) rfl).trans ?_
    simp [m_law_pair]
  | some q => exact e_pair q (hp q (List.mem_of_getElem? e))
theorem at_end {R : List Pr} {i : Nat} (h : i ≤ R.length) : atI (R.map prD ++ [PyData.none]) (i : Int) = some (optP R[i]?) := by
  rw [atI_ofNat]
  by_cases lt : i < R.length
  · rw [List.getElem?_append_left (by rw [List.length_map]; exact lt), List.getElem?_map, List.getElem?_eq_getElem lt]; rfl
  · have : i = R.length := by omega
    subst this
    rw [List.getElem?_append_right (by rw [List.length_map]; exact Nat.le_refl _), List.length_map, Nat.sub_self, List.getElem?_eq_none (Nat.le_refl _)]; rfl
theorem at_start {R : List Pr} {i : Nat} (h : i ≤ R.length) : atI (PyData.none :: R.map prD) (i : Int) = some (if i = 0 then .none else optP R[i - 1]?) := by
  rw [atI_ofNat]
  cases i with
  | zero => rfl
  | succ i =>
    rw [List.getElem?_cons_succ, List.getElem?_map, if_neg (by omega), Nat.add_sub_cancel, List.getElem?_eq_getElem (show i < R.length by omega)]; rfl
theorem e_moved {t : T} {n : Nat} (hw : t.wf true n) (hs : Srt t.prs) (hl : t.prs.length ≤ 8000) (hp : plainL t.prs) (p : Nat) (hpl : p ≤ t.prs.length) (cell : Int) :
    ∃ p' : Nat, p' ≤ t.prs.length ∧ F_law_moved [.c (.ob t.d (.int (p : Int))), .d (.list (t.prs.map prD)), .d (.int (p : Int)), .d (.int cell)] = some (.d (.tuple [.int (p' : Int), .bool true]), [.ob t.d (.int (p' : Int))]) := by
  have hl2 : t.prs.length ≤ 100000 := by omega
  have hl3 : t.prs.length + 1 ≤ 100000 := by omega
  have hl4 : 1 + t.prs.length ≤ 100000 := by omega
  by_cases h3 : cell % 7 < 3
  · have e1 := e_step hw p hpl
    have e2 := e_pairQ hp p
    have e3 := at_end hpl
    have hm : (if (t.prs.length : Int) < (p : Int) + 1 then (t.prs.length : Int) else (p : Int) + 1) = min ((p : Int) + 1) t.prs.length := by split <;> omega
    obtain ⟨p', hp'⟩ : ∃ p' : Nat, min ((p : Int) + 1) (t.prs.length : Int) = p' := ⟨(min ((p : Int) + 1) (t.prs.length : Int)).toNat, by omega⟩
    refine ⟨p', by omega, ?_⟩
    rw [run_moved]
    rw [hp'] at e1 hm
    generalize optP t.prs[p]? = x at e1 e2 e3
    generalize t.d = td at e1
    have lm : (t.prs.map prD).length = t.prs.length := List.length_map _
    generalize t.prs.map prD = L at e3 lm
    rw [← lm] at hm hl3
    simp [m_law_moved, mMeth, obV, catF, h3, e1, e2, e3, hl3, min2_e, hm, newsOf, Out.res, Out.sl, SV.own]
  · by_cases h5 : cell % 7 < 5
    · have e1 := e_back hw p hpl
      have e3 := at_start hpl
      have e2 : F_law_pair [.d (if p = 0 then .none else optP t.prs[p - 1]?), .d (if p = 0 then .none else optP t.prs[p - 1]?)] = some (.d (.bool true), []) := by
        by_cases z : p = 0
        · rw [if_pos z]
          refine (run_d (p := 2) (n := 2) (m := m_law_pair) (xs := [.none, .none]) rfl).trans ?_
          simp [m_law_pair]
        · rw [if_neg z]; exact e_pairQ hp _
      have hm : (if (0 : Int) > (p : Int) - 1 then (0 : Int) else (p : Int) - 1) = max ((p : Int) - 1) 0 := by split <;> omega
      obtain ⟨p', hp'⟩ : ∃ p' : Nat, max ((p : Int) - 1) 0 = p' := ⟨p - 1, by omega⟩
      refine ⟨p', by omega, ?_⟩
      rw [run_moved]
      rw [hp'] at e1 hm
      generalize (if p = 0 then PyData.none else optP t.prs[p - 1]?) = x at e1 e2 e3
      generalize t.d = td at e1
      have lm : (t.prs.map prD).length = t.prs.length := List.length_map _
      generalize t.prs.map prD = L at e3 lm
      rw [← lm] at hl4
      simp [m_law_moved, mMeth, obV, catF, h3, h5, e1, e2, e3, hl4, max2_e, hm, newsOf, Out.res, Out.sl, SV.own]
    · obtain ⟨key, ek⟩ := e_key_by t.prs hl (cell / 7) (cell / 35)
      have e1 := e_seek t (.int (p : Int)) key
      rw [cb_less key hw hs] at e1
      have hle : (lessL key t.prs).length ≤ t.prs.length := List.length_filter_le _ _
      refine ⟨(lessL key t.prs).length, hle, ?_⟩
      rw [run_moved]
      have q := comp_prs (j := 8) (t := Rp.tB (mBin ltD (mIxV 8 (mC (.int 0))) (mV 6))) (p := fun p => decide (p.1 < key)) (l := t.prs) (S := [.m 0 (.ob t.d (.int (lessL key t.prs).length)), .d (.list (t.prs.map prD)), .d (.int (p : Int)), .d (.int cell), .d (.int (cell % 7)), .no, .d (.int key), .d .none, .no]) (by simp) rfl (fun p _ => by simp [prD])
      have q : _ = some ((lessL key t.prs).map prD, _) := q
      have lm : ((lessL key t.prs).map prD).length = (lessL key t.prs).length := List.length_map _
      have hll : ((lessL key t.prs).map prD).length ≤ 100000 := by omega
      generalize (lessL key t.prs).length = n' at e1 q lm
      generalize (lessL key t.prs).map prD = LL at q lm hll
      generalize t.d = td at e1 q
      have l5 : (t.prs.map prD).length ≤ 100000 := by rw [List.length_map]; exact hl2
      generalize t.prs.map prD = L at ek q l5
      simp [m_law_moved, mMeth, obV, h3, h5, ek, e1, q, lm, hll, l5, isNoD, newsOf, Out.res, Out.sl, SV.own, putN, SV.put, fasOf, faOf, slotsOf, vK]
/-! ### what stands ahead of the loop -/
def innerT : T → T
  | .node _ (.node false l k x r c) _ _ _ _ => .node false l k x r c
  | _ => .nil
theorem inner_wf {t : T} {n : Nat} (h : t.wf true n) : ∃ m, (innerT t).wf true m := by
  cases t with
  | nil => exact ⟨0, rfl⟩
  | node p l k x r c =>
    cases l with
    | nil => exact ⟨0, rfl⟩
    | node p2 l2 k2 x2 r2 c2 =>
      cases p2 with
      | true => exact ⟨0, rfl⟩
      | false =>
        obtain ⟨_, _, q⟩ := h
        rcases q with ⟨_, q, _⟩ | ⟨_, m, _, q, _⟩
        · exact ⟨_, q⟩
        · obtain ⟨q1, q2, q3⟩ := q
          exact ⟨m, q1, fun z => (by cases z), q3⟩
theorem inner_take (t : T) : (innerT t).prs = t.prs.take (innerT t).prs.length := by
  cases t with
  | nil => rfl
  | node p l k x r c =>
    cases l with
    | nil => rfl
    | node p2 l2 k2 x2 r2 c2 =>
      cases p2 with
      | true => rfl
      | false =>
        show (T.node false l2 k2 x2 r2 c2).prs = ((T.node false l2 k2 x2 r2 c2).prs ++ (k, x) :: r.prs).take (T.node false l2 k2 x2 r2 c2).prs.length
        rw [List.take_left]
abbrev s0 (ns : List Int) : SV := .d (.list (ns.map PyData.int))
theorem l0_ok {ns : List Int} {t : T} (e : F_law_tree [scr ns] = some (.d t.d, [])) : l_0 [s0 ns, .no, .no, .no, .no, .no, .no, .no, .no, .no, .no, .no] = some (.nx [s0 ns, .d t.d, .no, .no, .no, .no, .no, .no, .no, .no, .no, .no]) := by
  have e : F_law_tree [.d (.list (ns.map PyData.int))] = _ := e
  simp [l_0, e]
theorem l1_ok {ns : List Int} {x : Dat} : l_1 [s0 ns, .d x, .no, .no, .no, .no, .no, .no, .no, .no, .no, .no] = some (.nx [s0 ns, .d x, .d .none, .no, .no, .no, .no, .no, .no, .no, .no, .no]) := by
  simp [l_1]
theorem l2_ok {ns : List Int} {t : T} : l_2 [s0 ns, .d t.d, .d .none, .no, .no, .no, .no, .no, .no, .no, .no, .no] = some (.nx [s0 ns, .d t.d, .d (innerT t).d, .no, .no, .no, .no, .no, .no, .no, .no, .no]) := by
  cases t with
  | nil => simp [l_2, innerT, isNoD]
  | node p l k x r c =>
    cases l with
    | nil => simp [l_2, innerT, isNoD]
    | node p2 l2 k2 x2 r2 c2 => cases p2 <;> simp [l_2, innerT, isNoD]
theorem l3_ok {ns : List Int} {t : T} {x : Dat} (hb : ∀ z ∈ ns, Builtin.Int.intBits z ≤ 1048576) (g : GoodT t (cellAt ns 0) 1030) : l_3 [s0 ns, .d t.d, .d x, .no, .no, .no, .no, .no, .no, .no, .no, .no] = some (.nx [s0 ns, .d t.d, .d x, .o (.l (t.prs.map prD)), .no, .no, .no, .no, .no, .no, .no, .no]) := by
  have c0 := e_cell ns 0
  simp at c0
  have em := e_many t
  have er := good_row g (sm_cell hb 0) (by omega)
  generalize t.d = td at em
  simp [l_3, c0, em, er]
theorem l4_ok {ns : List Int} {t : T} {x : Dat} {n : Nat} (hw : (innerT t).wf true n) (hl : t.prs.length ≤ 1030) : l_4 [s0 ns, .d x, .d (innerT t).d, .o (.l (t.prs.map prD)), .no, .no, .no, .no, .no, .no, .no, .no] =
    some (.nx [s0 ns, .d x, .d (innerT t).d, .d (.list (t.prs.map prD)), .o (.l [.list (t.prs.map prD), .list (t.prs.map prD), .list ((innerT t).prs.map prD)]), .no, .no, .no, .no, .no, .no, .no]) := by
  have em := e_many (innerT t)
  have sz : (innerT t).sz = ((innerT t).prs.length : Int) := by rw [wf_sz hw, cnt_prs]
  rw [sz] at em
  have hle : (innerT t).prs.length ≤ (t.prs.map prD).length := by
    rw [inner_take t, List.length_take, List.length_map]; omega
  have ec := cutD_head (xs := t.prs.map prD) (n := ((innerT t).prs.length : Int)) rfl hle
  have hq : (t.prs.map prD).take (innerT t).prs.length = (innerT t).prs.map prD := by
    rw [← List.map_take, ← inner_take t]
  rw [hq] at ec
  generalize (innerT t).prs.map prD = L2 at ec
  generalize (innerT t).d = id at em
  have l5 : (t.prs.map prD).length ≤ 100000 := by rw [List.length_map]; omega
  generalize t.prs.map prD = L at ec l5
  simp [l_4, em, ec, l5]
theorem l6_ok {s0 s1 s2 s3 s4 s5 : SV} : l_6 [s0, s1, s2, s3, s4, s5, .no, .no, .no, .no, .no, .no] = some (.nx [s0, s1, s2, s3, s4, s5, .o (.l [.int 0, .int 0, .int 0]), .no, .no, .no, .no, .no]) := by
  simp [l_6]
/-! ### trees can be compared -/
theorem tree_lay : ∀ {t : T}, fineL t.prs → t.d.canLay0 = true
  | .nil, _ => rfl
  | .node p l k x r c, h => by
    rw [prs_node] at h
    have h1 := tree_lay (t := l) fun q hq => h q (List.mem_append_left _ hq)
    have h2 := (h (k, x) (List.mem_append_right _ List.mem_cons_self)).2
    have h3 := tree_lay (t := r) fun q hq => h q (List.mem_append_right _ (List.mem_cons_of_mem _ hq))
    simp [PyData.canLay0, PyData.canLayAll0, h1, h3]
    exact h2
theorem tree_depth : ∀ {t : T}, fineL t.prs → t.d.depth ≤ t.ht + 12
  | .nil, _ => by simp [PyData.depth]
  | .node p l k x r c, h => by
    rw [prs_node] at h
    have h1 := tree_depth (t := l) fun q hq => h q (List.mem_append_left _ hq)
    have h2 := plain_depth (h (k, x) (List.mem_append_right _ List.mem_cons_self)).1
    have h3 := tree_depth (t := r) fun q hq => h q (List.mem_append_right _ (List.mem_cons_of_mem _ hq))
    have h2 : x.depth ≤ 11 := h2
    have hh : (T.node p l k x r c).ht = max l.ht r.ht + 1 := rfl
    simp [PyData.depth, PyData.depthAll]
    omega
theorem eqD_three {a b : Dat} (ha : a.canLay0 = true) (hb : b.canLay0 = true) (da : a.depth ≤ 60) (db : b.depth ≤ 60) : eqD (.list [a, a, b]) (.list [a, a, b]) = some (.bool true) := by
  have h1 : PyData.canLay0 (.list [a, a, b]) = true := by simp [PyData.canLay0, PyData.canLayAll0, ha, hb]
  have h2 : PyData.depth (.list [a, a, b]) ≤ 64 := by
    simp [PyData.depth, PyData.depthAll]
    omega
  have h3 : SeqAt.shaped (.list [a, a, b]) = true := by
    unfold SeqAt.shaped
    rw [Bool.and_eq_true, decide_eq_true_eq]
    exact ⟨h1, h2⟩
  have h4 := SeqAt.eqv_refl _ h1
  simp only [eqD, scalD, h3, h4, Bool.and_true, if_true]
theorem neD_ints3 (a b c : Int) : neD (.list [.int a, .int b, .int c]) (.list [.int a, .int b, .int c]) = some (.bool false) := by
  have h1 : SeqAt.shaped (.list [.int a, .int b, .int c]) = true := shaped_flat fun x hx => by
    simp at hx
    rcases hx with rfl | rfl | rfl <;> exact ⟨rfl, by simp [PyData.depth]⟩
  have h2 : PyData.eqv (.list [.int a, .int b, .int c]) (.list [.int a, .int b, .int c]) = true := by
    simp [PyData.eqv, PyData.eqvAll]
  simp only [neD, scalD, h1, h2, Bool.and_true, if_true, Bool.not_true]
theorem neD_trues3 : neD (.list [.bool true, .bool true, .bool true]) (.list [.bool true, .bool true, .bool true]) = some (.bool false) := by
  have h1 : SeqAt.shaped (.list [.bool true, .bool true, .bool true]) = true := rfl
  have h2 : PyData.eqv (.list [.bool true, .bool true, .bool true]) (.list [.bool true, .bool true, .bool true]) = true := rfl
  simp only [neD, scalD, h1, h2, Bool.and_true, if_true, Bool.not_true]
/-! ### the loop's data -/
/-- what the law holds at a turn -/
structure Fix (ns : List Int) (t i : T) : Prop where
  wt : ∃ n, t.wf true n
  wi : ∃ n, i.wf true n
  st : Srt t.prs
  si : Srt i.prs
  pt : plainL t.prs
  pi : plainL i.prs
  lt : t.prs.length ≤ 1030
  li : i.prs.length ≤ 1030
abbrev Sx (ns : List Int) (t i : T) (as : List Addr) (p0 p1 p2 : Nat) (v7 v8 v9 v10 : SV) : Sl :=
  [s0 ns, .d t.d, .d i.d, .d (.list (t.prs.map prD)), .o (.l [.list (t.prs.map prD), .list (t.prs.map prD), .list (i.prs.map prD)]), .o (.w as), .o (.l [.int (p0 : Int), .int (p1 : Int), .int (p2 : Int)]), v7, v8, v9, v10, .no]
abbrev Wx (t i : T) (p0 p1 p2 : Nat) : List (Dat × Dat) := [(t.d, .int (p0 : Int)), (t.d, .int (p1 : Int)), (i.d, .int (p2 : Int))]
variable {ns : List Int} {t i : T} {as : List Addr} {p0 p1 p2 : Nat} {v7 v8 v9 v10 : SV}
theorem c0_ok {x : Int} : c_0 (Sx ns t i as p0 p1 p2 (.d (.int x)) v8 v9 v10) = some (decide (x % 16 = 15), Sx ns t i as p0 p1 p2 (.d (.int x)) v8 v9 v10) := by
  simp [c_0]
theorem c0w_ok : c_0w (Sx ns t i as p0 p1 p2 v7 v8 v9 v10) = some (t.d, Sx ns t i as p0 p1 p2 v7 v8 v9 v10) := by
  simp [c_0w]
theorem c0p_ok : c_0p (Sx ns t i as p0 p1 p2 v7 v8 v9 v10) = some (.nx (Sx ns t i as p0 0 p2 v7 v8 v9 v10)) := by
  have ix : ixN 3 1 = some 1 := rfl
  simp [c_0p, ix]
theorem c1_ok {k : Nat} (hk : k < ns.length) : c_1 (Sx ns t i as p0 p1 p2 (.d (.int (k : Int))) v8 v9 v10) = some (.nx (Sx ns t i as p0 p1 p2 (.d (.int (k : Int))) (.d (.int (ns[k] % 3))) v9 v10)) := by
  have e : atI (ns.map PyData.int) (k : Int) = some (.int ns[k]) := by
    rw [atI_nat (by rw [List.length_map]; exact hk), List.getElem_map]
  generalize ns[k] = z at e ⊢
  simp [c_1, e]
theorem c2i_ok {x : Dat} : c_2i (Sx ns t i as p0 p1 p2 v7 (.d x) v9 v10) = some (x, Sx ns t i as p0 p1 p2 v7 (.d x) v9 v10) := by
  simp [c_2i]
theorem c2a_ok {k w : Nat} (hk : k < ns.length) {X Y : Dat} (h1 : [PyData.list (t.prs.map prD), .list (t.prs.map prD), .list (i.prs.map prD)][w]? = some X) (h2 : [PyData.int (p0 : Int), .int (p1 : Int), .int (p2 : Int)][w]? = some Y) :
    c_2a (Sx ns t i as p0 p1 p2 (.d (.int (k : Int))) (.d (.int (w : Int))) v9 v10) = some ([.d X, .d Y, .d (.int (ns[k] / 3))], Sx ns t i as p0 p1 p2 (.d (.int (k : Int))) (.d (.int (w : Int))) v9 v10) := by
  have e : atI (ns.map PyData.int) (k : Int) = some (.int ns[k]) := by
    rw [atI_nat (by rw [List.length_map]; exact hk), List.getElem_map]
  have e1 : atI [PyData.list (t.prs.map prD), .list (t.prs.map prD), .list (i.prs.map prD)] (w : Int) = some X := by rw [atI_ofNat]; exact h1
  have e2 : atI [PyData.int (p0 : Int), .int (p1 : Int), .int (p2 : Int)] (w : Int) = some Y := by rw [atI_ofNat]; exact h2
  generalize ns[k] = z at e ⊢
  simp [c_2a, e, e1, e2]
theorem c3_ok {w : Nat} {x : Dat} (hw : w < 3) : c_3 (Sx ns t i as p0 p1 p2 v7 (.d (.int (w : Int))) (.d x) v10) = some (.nx [s0 ns, .d t.d, .d i.d, .d (.list (t.prs.map prD)), .o (.l [.list (t.prs.map prD), .list (t.prs.map prD), .list (i.prs.map prD)]), .o (.w as), .o (.l ([PyData.int (p0 : Int), .int (p1 : Int), .int (p2 : Int)].set w x)), v7, .d (.int (w : Int)), .d x, v10, .no]) := by
  have ix : ixN 3 (w : Int) = some w := ixN_nat hw
  simp [c_3, ix]
theorem c4t_ok {S : Sl} (h : S[10]? = some (.d (.bool true))) : c_4t S = some (false, S) := by
  simp [c_4t, h]
theorem c4r_ok {S : Sl} : c_4r S = some (.list [.bool true, .bool true, .bool true], S) := by
  have hn : (3 : Int).toNat = 3 := rfl
  simp [c_4r, hn]
theorem l8r_ok : l_8r (Sx ns t i as p0 p1 p2 v7 v8 v9 v10) = some (.list [t.d, t.d, i.d], Sx ns t i as p0 p1 p2 v7 v8 v9 v10) := by
  simp [l_8r]
theorem r7_ok {ns : List Int} (hl : ns.length ≤ 63) {s1 s2 s3 s4 s5 s6 s7 s8 s9 s10 s11 : SV} : r_7 [s0 ns, s1, s2, s3, s4, s5, s6, s7, s8, s9, s10, s11] = some (rangeD 4 (ns.length : Int), [s0 ns, s1, s2, s3, s4, s5, s6, s7, s8, s9, s10, s11]) := by
  have i1 : inLine 4 = true := by decide
  have i2 := inLine_nat (n := ns.length) (by omega)
  simp [r_7, i1, i2]
theorem r7_mem {n k : Nat} {x : Dat} (h : (rangeD 4 (n : Int))[k]? = some x) : ∃ j : Nat, j < n ∧ x = .int (j : Int) := by
  by_cases h4 : n ≤ 4
  · rw [rangeD_nil (by omega)] at h; simp at h
  · have e := rangeD_eq 4 (n - 4)
    rw [show (4 : Int) + ((n - 4 : Nat) : Int) = (n : Int) by omega] at e
    rw [e, List.getElem?_map] at h
    cases hr : (List.range (n - 4))[k]? with
    | none => rw [hr] at h; cases h
    | some i =>
      rw [hr] at h
      have hi := List.mem_range.mp (List.mem_of_getElem? hr)
      have hx : PyData.int (4 + (i : Int)) = x := Option.some.inj h
      exact ⟨4 + i, by omega, by rw [← hx]; congr 1⟩
theorem w0_ok {S : Sl} {x : Dat} (h : S[1]? = some (.d x)) : w_0 S = some (x, S) := by
  simp [w_0, h]
theorem w1_ok {S : Sl} {x : Dat} (h : S[1]? = some (.d x)) : w_1 S = some (x, S) := by
  simp [w_1, h]
theorem w2_ok {S : Sl} {x : Dat} (h : S[2]? = some (.d x)) : w_2 S = some (x, S) := by
  simp [w_2, h]
theorem pick_w {w : Nat} (hw : w < 3) (fx : Fix ns t i) (b0 : p0 ≤ t.prs.length) (b1 : p1 ≤ t.prs.length) (b2 : p2 ≤ i.prs.length) : ∃ (tw : T) (pw : Nat), pw ≤ tw.prs.length ∧ (∃ n, tw.wf true n) ∧ Srt tw.prs ∧ plainL tw.prs ∧ tw.prs.length ≤ 1030 ∧
    (Wx t i p0 p1 p2)[w]? = some (tw.d, .int (pw : Int)) ∧ [PyData.list (t.prs.map prD), .list (t.prs.map prD), .list (i.prs.map prD)][w]? = some (.list (tw.prs.map prD)) ∧ [PyData.int (p0 : Int), .int (p1 : Int), .int (p2 : Int)][w]? = some (.int (pw : Int)) ∧
    ∀ p' : Nat, p' ≤ tw.prs.length → ∃ q0 q1 q2 : Nat, q0 ≤ t.prs.length ∧ q1 ≤ t.prs.length ∧ q2 ≤ i.prs.length ∧ (Wx t i p0 p1 p2).set w (tw.d, .int (p' : Int)) = Wx t i q0 q1 q2 ∧ [PyData.int (p0 : Int), .int (p1 : Int), .int (p2 : Int)].set w (.int (p' : Int)) = [.int (q0 : Int), .int (q1 : Int), .int (q2 : Int)] := by
  rcases (by omega : w = 0 ∨ w = 1 ∨ w = 2) with rfl | rfl | rfl
  · exact ⟨t, p0, b0, fx.wt, fx.st, fx.pt, fx.lt, rfl, rfl, rfl, fun p' h => ⟨p', p1, p2, h, b1, b2, rfl, rfl⟩⟩
  · exact ⟨t, p1, b1, fx.wt, fx.st, fx.pt, fx.lt, rfl, rfl, rfl, fun p' h => ⟨p0, p', p2, b0, h, b2, rfl, rfl⟩⟩
  · exact ⟨i, p2, b2, fx.wi, fx.si, fx.pi, fx.li, rfl, rfl, rfl, fun p' h => ⟨p0, p1, p', b0, b1, h, rfl, rfl⟩⟩
theorem me4_ok {S : Sl} {x : Dat} {p : Int} (h : S[11]? = some (.o (.ob x (.int p)))) : me_4 S = some (.bool true, S) := by
  have e : F_law_whole [.d (.int p)] = some (.d (.bool true), []) := rfl
  simp [me_4, mFldP, obV, h, e]
theorem me5_ok {S : Sl} {x p : Dat} (h : S[11]? = some (.o (.ob x p))) : me_5 S = some (p, S) := by
  simp [me_5, mFldP, obV, h]
theorem law_true (ns : List Int) (hl : ns.length ≤ 63) (hb : ∀ z ∈ ns, Builtin.Int.intBits z ≤ 1048576) : F_law [scr ns] = some (.d (.bool true), []) := by
  refine (run_d (p := 1) (n := 12) (m := m_law) (xs := [.list (ns.map PyData.int)]) rfl).trans ?_
  have h : m_law [.d (.list (ns.map PyData.int)), .no, .no, .no, .no, .no, .no, .no, .no, .no, .no, .no] = some (.rt (.d (.bool true)) (List.replicate 12 .no)) := if_pos ⟨ns, rfl, hl, hb⟩
  show (match m_law [.d (.list (ns.map PyData.int)), .no, .no, .no, .no, .no, .no, .no, .no, .no, .no, .no] with
    | some o => match o.res with
      | .x _ => none
      | r => some (r, [])
    | none => none) = _
  rw [h]; rfl
end Rp
end
set_option Elab.async false
set_option linter.all false
set_option maxRecDepth 100000
set_option maxHeartbeats 4000000
noncomputable section
namespace Rp
open PySem PySem.Spec PyProof.Rows L2
/-! ### the text -/
def topS (i : Nat) : Stmt := PySem.Challenge.pw_redpaint_k12_walks.main.body.getD i (.Pass ⟨0, 0, 0, 0⟩)
abbrev s_size_of : Stmt := topS 1
theorem sc_size_of : FnScope ["tree"] ["tree"] (defScope s_size_of) := ⟨rfl, rfl, rfl, by decide +kernel, rfl, by decide +kernel, by decide +kernel⟩
abbrev s_pair_at : Stmt := topS 6
theorem sc_pair_at : FnScope ["tree", "place", "ahead"] ["tree", "place"] (defScope s_pair_at) := ⟨rfl, rfl, rfl, by decide +kernel, rfl, by decide +kernel, by decide +kernel⟩
abbrev s_count_below : Stmt := topS 7
theorem sc_count_below : FnScope ["tree", "key", "count"] ["tree", "key"] (defScope s_count_below) := ⟨rfl, rfl, rfl, by decide +kernel, rfl, by decide +kernel, by decide +kernel⟩
abbrev s_Walk_init : Stmt := inClass (topS 9) 0
theorem sc_Walk_init : FnScope ["self", "tree"] ["self", "tree"] (defScope s_Walk_init) := ⟨rfl, rfl, rfl, by decide +kernel, rfl, by decide +kernel, by decide +kernel⟩
abbrev s_Walk_step : Stmt := inClass (topS 9) 1
theorem sc_Walk_step : FnScope ["self"] ["self"] (defScope s_Walk_step) := ⟨rfl, rfl, rfl, by decide +kernel, rfl, by decide +kernel, by decide +kernel⟩
abbrev s_Walk_back : Stmt := inClass (topS 9) 2
theorem sc_Walk_back : FnScope ["self"] ["self"] (defScope s_Walk_back) := ⟨rfl, rfl, rfl, by decide +kernel, rfl, by decide +kernel, by decide +kernel⟩
abbrev s_Walk_seek : Stmt := inClass (topS 9) 3
theorem sc_Walk_seek : FnScope ["self", "key"] ["self", "key"] (defScope s_Walk_seek) := ⟨rfl, rfl, rfl, by decide +kernel, rfl, by decide +kernel, by decide +kernel⟩
abbrev s_law_cell_at : Stmt := topS 11
theorem sc_law_cell_at : FnScope ["_law_script", "_law_k"] ["_law_script", "_law_k"] (defScope s_law_cell_at) := ⟨rfl, rfl, rfl, by decide +kernel, rfl, by decide +kernel, by decide +kernel⟩
abbrev s_law_whole : Stmt := topS 12
theorem sc_law_whole : FnScope ["_law_told"] ["_law_told"] (defScope s_law_whole) := ⟨rfl, rfl, rfl, by decide +kernel, rfl, by decide +kernel, by decide +kernel⟩
abbrev s_law_text : Stmt := topS 13
theorem sc_law_text : FnScope ["_law_cell", "_law_size", "_law_some", "_law_told"] ["_law_cell", "_law_size"] (defScope s_law_text) := ⟨rfl, rfl, rfl, by decide +kernel, rfl, by decide +kernel, by decide +kernel⟩
abbrev s_law_thing : Stmt := topS 14
theorem sc_law_thing : FnScope ["_law_cell", "_law_kind", "_law_size", "_law_k", "_law_nested"] ["_law_cell"] (defScope s_law_thing) := ⟨rfl, rfl, rfl, by decide +kernel, rfl, by decide +kernel, by decide +kernel⟩
abbrev s_law_rising : Stmt := topS 15
theorem sc_law_rising : FnScope ["_law_cell", "_law_many_here", "_law_step", "_law_base", "_law_more", "_law_k"] ["_law_cell", "_law_many_here"] (defScope s_law_rising) := ⟨rfl, rfl, rfl, by decide +kernel, rfl, by decide +kernel, by decide +kernel⟩
abbrev s_law_bits : Stmt := topS 16
theorem sc_law_bits : FnScope ["_law_cell", "_law_many_here", "_law_k"] ["_law_cell", "_law_many_here"] (defScope s_law_bits) := ⟨rfl, rfl, rfl, by decide +kernel, rfl, by decide +kernel, by decide +kernel⟩
abbrev s_law_grown : Stmt := topS 17
theorem sc_law_grown : FnScope ["_law_bits_here", "_law_pairs", "_law_rank", "_law_under", "_law_bit", "_law_paint", "_law_left", "_law_pair_here", "_law_right", "_law_many_here", "_law_one"] ["_law_bits_here", "_law_pairs", "_law_rank", "_law_under"] (defScope s_law_grown) := ⟨rfl, rfl, rfl, by decide +kernel, rfl, by decide +kernel, by decide +kernel⟩
abbrev s_law_many : Stmt := topS 18
theorem sc_law_many : FnScope ["_law_tree_here"] ["_law_tree_here"] (defScope s_law_many) := ⟨rfl, rfl, rfl, by decide +kernel, rfl, by decide +kernel, by decide +kernel⟩
abbrev s_law_tree : Stmt := topS 19
theorem sc_law_tree : FnScope ["_law_script", "_law_far", "_law_cell", "_law_rank", "_law_bits_here", "_law_pairs"] ["_law_script"] (defScope s_law_tree) := ⟨rfl, rfl, rfl, by decide +kernel, rfl, by decide +kernel, by decide +kernel⟩
abbrev s_law_key_by : Stmt := topS 20
theorem sc_law_key_by : FnScope ["_law_listed", "_law_way", "_law_cell"] ["_law_listed", "_law_way", "_law_cell"] (defScope s_law_key_by) := ⟨rfl, rfl, rfl, by decide +kernel, rfl, by decide +kernel, by decide +kernel⟩
abbrev s_law_alike : Stmt := topS 21
theorem sc_law_alike : FnScope ["_law_told", "_law_due", "_law_k"] ["_law_told", "_law_due"] (defScope s_law_alike) := ⟨rfl, rfl, rfl, by decide +kernel, rfl, by decide +kernel, by decide +kernel⟩
abbrev s_law_same : Stmt := topS 22
theorem sc_law_same : FnScope ["_law_pairs", "_law_due", "_law_k"] ["_law_pairs", "_law_due"] (defScope s_law_same) := ⟨rfl, rfl, rfl, by decide +kernel, rfl, by decide +kernel, by decide +kernel⟩
abbrev s_law_pair : Stmt := topS 23
theorem sc_law_pair : FnScope ["_law_told", "_law_due"] ["_law_told", "_law_due"] (defScope s_law_pair) := ⟨rfl, rfl, rfl, by decide +kernel, rfl, by decide +kernel, by decide +kernel⟩
abbrev s_law_moved : Stmt := topS 24
theorem sc_law_moved : FnScope ["_law_walk", "_law_listed", "_law_place", "_law_cell", "_law_kind", "_law_due", "_law_key", "_law_told", "_law_pair_here"] ["_law_walk", "_law_listed", "_law_place", "_law_cell"] (defScope s_law_moved) := ⟨rfl, rfl, rfl, by decide +kernel, rfl, by decide +kernel, by decide +kernel⟩
abbrev s_law : Stmt := topS 25
theorem sc_law : FnScope ["_law_script", "_law_tree_here", "_law_inner", "_law_listed", "_law_rows", "_law_walks", "_law_places", "_law_k", "_law_which", "_law_moved_here", "_law_good", "_law_walk"] ["_law_script"] (defScope s_law) := ⟨rfl, rfl, rfl, by decide +kernel, rfl, by decide +kernel, by decide +kernel⟩
structure Txt (K : PySem.W.Frag) (mg : Str → Option Value) (cls : Nat → Value) where
  d_size_of : Df K mg "size_of" s_size_of ["tree"]
  d_pair_at : Df K mg "pair_at" s_pair_at ["tree", "place"]
  d_count_below : Df K mg "count_below" s_count_below ["tree", "key"]
  d_Walk_init : DfM K "__init__" "Walk.__init__" s_Walk_init ["self", "tree"]
  d_Walk_step : DfM K "step" "Walk.step" s_Walk_step ["self"]
  d_Walk_back : DfM K "back" "Walk.back" s_Walk_back ["self"]
  d_Walk_seek : DfM K "seek" "Walk.seek" s_Walk_seek ["self", "key"]
  d_law_cell_at : Df K mg "_law_cell_at" s_law_cell_at ["_law_script", "_law_k"]
  d_law_whole : Df K mg "_law_whole" s_law_whole ["_law_told"]
  d_law_text : Df K mg "_law_text" s_law_text ["_law_cell", "_law_size"]
  d_law_thing : Df K mg "_law_thing" s_law_thing ["_law_cell"]
  d_law_rising : Df K mg "_law_rising" s_law_rising ["_law_cell", "_law_many_here"]
  d_law_bits : Df K mg "_law_bits" s_law_bits ["_law_cell", "_law_many_here"]
  d_law_grown : Df K mg "_law_grown" s_law_grown ["_law_bits_here", "_law_pairs", "_law_rank", "_law_under"]
  d_law_many : Df K mg "_law_many" s_law_many ["_law_tree_here"]
  d_law_tree : Df K mg "_law_tree" s_law_tree ["_law_script"]
  d_law_key_by : Df K mg "_law_key_by" s_law_key_by ["_law_listed", "_law_way", "_law_cell"]
  d_law_alike : Df K mg "_law_alike" s_law_alike ["_law_told", "_law_due"]
  d_law_same : Df K mg "_law_same" s_law_same ["_law_pairs", "_law_due"]
  d_law_pair : Df K mg "_law_pair" s_law_pair ["_law_told", "_law_due"]
  d_law_moved : Df K mg "_law_moved" s_law_moved ["_law_walk", "_law_listed", "_law_place", "_law_cell"]
  d_law : Df K mg "law" s_law ["_law_script"]
  e_NoPlace : Ex K mg "NoPlace" (cls 2)
  b_bool : mg "bool" = none
  b_int : mg "int" = none
  b_isinstance : mg "isinstance" = none
  b_len : mg "len" = none
  b_max : mg "max" = none
  b_min : mg "min" = none
  b_range : mg "range" = none
  b_tuple : mg "tuple" = none
  wC : Addr
  wc : PySem.W.nsIn K mainGlobals "Walk" = some (some (.ref wC))
  gC : mg "Walk" = some (.ref wC)
  cl : Cls K wC
  nT : NoAttr K wC "tree"
  nP : NoAttr K wC "place"
  wmk : Mk K wC d_Walk_init.f
  m_Walk_step : Meth K wC "step" d_Walk_step.f
  m_Walk_back : Meth K wC "back" d_Walk_back.f
  m_Walk_seek : Meth K wC "seek" d_Walk_seek.f
/-! ### the walk -/
section
variable {P : Program} {w : World} {K : PySem.W.Frag} {mg : Str → Option Value} {base : Heap} {cls : Nat → Value}
theorem ok_size_of (T : Txt K mg cls) : FnOk P w K mg base (L2N.CX P w) 1 T.d_size_of.f T.d_size_of.fd ["tree"] (spF K cls F_size_of) := by
  have sc := sc_size_of
  refine run_ok T.d_size_of (k := 0) (p := 1) (n := 1) (m := m_size_of) sc rfl rfl (by decide) (fun cdv A outer s H E hr => ?_)
  have hu := hr.units
  exact (ss_cons (ss_if (st_cmp op_isA od_is (se_v (pv 0)) se_non (nomark _)) (ss_one (ss_ret se_int)) ss_nil)
      (ss_one (ss_ret (se_ixv (pv 0) se_int))))
theorem ok_pair_at (T : Txt K mg cls) : FnOk P w K mg base (L2N.CX P w) 2 T.d_pair_at.f T.d_pair_at.fd ["tree", "place"] (spF K cls F_pair_at) := by
  have sc := sc_pair_at
  have g_size_of := (ok_size_of (P := P) (w := w) (base := base) (cls := cls) T).mono (show 1 ≤ 1 by omega)
  refine run_okX T.d_pair_at (k := 1) (p := 2) (n := 3) (m := m_pair_at) sc rfl rfl (by decide) (fun cdv A outer s H E hr tk => ?_)
  have hu := hr.units
  exact (ss_cons (ss_if (PW.pt (sw_or (st_cmp op_lt od_lt (se_v (pv 1)) se_int (nomark _)) (sw_or1 (st_cmp op_ge od_ge (se_v (pv 1)) (se_call g_size_of hr (by rfl) T.d_size_of.g T.d_size_of.F.kp T.d_size_of.b (sr_cons (se_v (pv 0)) sr_nil)) (nomark _))))) (ss_one (ss_raise (n := 2) rfl tk T.e_NoPlace (by rfl))) ss_nil)
      (ss_one (ss_while PassesOwn.leaving (st_tr se_bl) (ss_cons (ss_asg (i := 2) sc.nd rfl (Or.inl rfl) (se_call g_size_of hr (by rfl) T.d_size_of.g T.d_size_of.F.kp T.d_size_of.b (sr_cons (se_ixv (pv 0) se_int) sr_nil)))
      (ss_cons (ss_if (st_cmp (op_eqA hu) od_eq (se_v (pv 1)) (se_v (pv 2)) (nomark _)) (ss_one (ss_ret (se_tup (sa_cons (se_ixv (pv 0) se_int) (sa_cons (se_ixv (pv 0) se_int) sa_nil))))) ss_nil)
      (ss_one (ss_if (st_cmp op_lt od_lt (se_v (pv 1)) (se_v (pv 2)) (nomark _)) (ss_one (ss_asg (i := 0) sc.nd rfl (Or.inl rfl) (se_ixv (pv 0) se_int))) (ss_cons (ss_asg (i := 1) sc.nd rfl (Or.inl rfl) (se_sub (se_sub (se_v (pv 1)) (se_v (pv 2))) se_int))
      (ss_one (ss_asg (i := 0) sc.nd rfl (Or.inl rfl) (se_ixv (pv 0) se_int)))))))))))
theorem ok_count_below (T : Txt K mg cls) : FnOk P w K mg base (L2N.CX P w) 2 T.d_count_below.f T.d_count_below.fd ["tree", "key"] (spF K cls F_count_below) := by
  have sc := sc_count_below
  have g_size_of := (ok_size_of (P := P) (w := w) (base := base) (cls := cls) T).mono (show 1 ≤ 1 by omega)
  refine run_ok T.d_count_below (k := 1) (p := 2) (n := 3) (m := m_count_below) sc rfl rfl (by decide) (fun cdv A outer s H E hr => ?_)
  have hu := hr.units
  exact (ss_cons (ss_asg (i := 2) sc.nd rfl (Or.inl rfl) se_int)
      (ss_cons (ss_while PassesOwn.never (st_cmp op_notA od_isNot (se_v (pv 0)) se_non (nomark _)) (ss_one (ss_if (st_cmp op_lt od_lt (se_ixv (pv 0) se_int) (se_v (pv 1)) (nomark _)) (ss_cons (ss_asg (i := 2) sc.nd rfl (Or.inl rfl) (se_add (se_add (se_v (pv 2)) (se_call g_size_of hr (by rfl) T.d_size_of.g T.d_size_of.F.kp T.d_size_of.b (sr_cons (se_ixv (pv 0) se_int) sr_nil))) se_int))
      (ss_one (ss_asg (i := 0) sc.nd rfl (Or.inl rfl) (se_ixv (pv 0) se_int)))) (ss_one (ss_asg (i := 0) sc.nd rfl (Or.inl rfl) (se_ixv (pv 0) se_int))))))
      (ss_one (ss_retV (pv 2)))))
theorem ok_Walk_init (T : Txt K mg cls) : FnOk P w K mg base (L2N.CX P w) 1 T.d_Walk_init.f T.d_Walk_init.fd ["self", "tree"] (spInit T.wC) := ok_init T.d_Walk_init.F sc_Walk_init rfl T.cl T.nT T.nP fun cdv A outer s H E => pss_cons (ps_fld (pv 0) (pv 1) rfl) (pss_one (ps_fld (pv 0) pe_int rfl))
theorem ok_Walk_step (T : Txt K mg cls) : FnOk P w K mg base (L2N.CX P w) 3 T.d_Walk_step.f T.d_Walk_step.fd ["self"] (spF K cls F_Walk_step) := by
  have sc := sc_Walk_step
  have g_pair_at := (ok_pair_at (P := P) (w := w) (base := base) (cls := cls) T).mono (show 2 ≤ 2 by omega)
  have g_size_of := (ok_size_of (P := P) (w := w) (base := base) (cls := cls) T).mono (show 1 ≤ 2 by omega)
  refine run_okM T.d_Walk_step (k := 2) (p := 1) (n := 1) (m := m_Walk_step) sc rfl rfl (by decide) (fun cdv A outer s H E hr => ?_)
  have hu := hr.units
  exact (ss_cons (ss_if (st_cmp (op_eqA hu) od_eq (se_fldP T.wc T.cl T.nP (pv 0)) (se_call g_size_of hr (by rfl) T.d_size_of.g T.d_size_of.F.kp T.d_size_of.b (sr_cons (se_fldT T.wc T.cl T.nT (pv 0)) sr_nil)) (nomark _)) (ss_one (ss_ret se_non)) ss_nil)
      (ss_cons (ss_fldP T.wc T.cl T.nP (pv 0) (se_add (se_fldP T.wc T.cl T.nP (pv 0)) se_int))
      (ss_one (ss_ret (se_call g_pair_at hr (by rfl) T.d_pair_at.g T.d_pair_at.F.kp T.d_pair_at.b (sr_cons (se_fldT T.wc T.cl T.nT (pv 0)) (sr_cons (se_sub (se_fldP T.wc T.cl T.nP (pv 0)) se_int) sr_nil)))))))
theorem ok_Walk_back (T : Txt K mg cls) : FnOk P w K mg base (L2N.CX P w) 3 T.d_Walk_back.f T.d_Walk_back.fd ["self"] (spF K cls F_Walk_back) := by
  have sc := sc_Walk_back
  have g_pair_at := (ok_pair_at (P := P) (w := w) (base := base) (cls := cls) T).mono (show 2 ≤ 2 by omega)
  refine run_okM T.d_Walk_back (k := 2) (p := 1) (n := 1) (m := m_Walk_back) sc rfl rfl (by decide) (fun cdv A outer s H E hr => ?_)
  have hu := hr.units
  exact (ss_cons (ss_if (st_cmp (op_eqA hu) od_eq (se_fldP T.wc T.cl T.nP (pv 0)) se_int (nomark _)) (ss_one (ss_ret se_non)) ss_nil)
      (ss_cons (ss_fldP T.wc T.cl T.nP (pv 0) (se_sub (se_fldP T.wc T.cl T.nP (pv 0)) se_int))
      (ss_one (ss_ret (se_call g_pair_at hr (by rfl) T.d_pair_at.g T.d_pair_at.F.kp T.d_pair_at.b (sr_cons (se_fldT T.wc T.cl T.nT (pv 0)) (sr_cons (se_fldP T.wc T.cl T.nP (pv 0)) sr_nil)))))))
theorem ok_Walk_seek (T : Txt K mg cls) : FnOk P w K mg base (L2N.CX P w) 3 T.d_Walk_seek.f T.d_Walk_seek.fd ["self", "key"] (spF K cls F_Walk_seek) := by
  have sc := sc_Walk_seek
  have g_count_below := (ok_count_below (P := P) (w := w) (base := base) (cls := cls) T).mono (show 2 ≤ 2 by omega)
  refine run_okM T.d_Walk_seek (k := 2) (p := 2) (n := 2) (m := m_Walk_seek) sc rfl rfl (by decide) (fun cdv A outer s H E hr => ?_)
  have hu := hr.units
  exact (ss_one (ss_fldP T.wc T.cl T.nP (pv 0) (se_call g_count_below hr (by rfl) T.d_count_below.g T.d_count_below.F.kp T.d_count_below.b (sr_cons (se_fldT T.wc T.cl T.nT (pv 0)) (sr_cons (se_v (pv 1)) sr_nil)))))
theorem ok_law_cell_at (T : Txt K mg cls) : FnOk P w K mg base (L2N.CX P w) 1 T.d_law_cell_at.f T.d_law_cell_at.fd ["_law_script", "_law_k"] (spF K cls F_law_cell_at) := by
  have sc := sc_law_cell_at
  refine run_ok T.d_law_cell_at (k := 0) (p := 2) (n := 2) (m := m_law_cell_at) sc rfl rfl (by decide) (fun cdv A outer s H E hr => ?_)
  have hu := hr.units
  exact (ss_cons (ss_if (st_cmp op_lt od_lt (se_v (pv 1)) (se_lenv (by rfl) T.b_len (pv 0)) (nomark _)) (ss_one (ss_ret (se_ixv (pv 0) (se_v (pv 1))))) ss_nil)
      (ss_one (ss_ret se_int)))
theorem ok_law_whole (T : Txt K mg cls) : FnOk P w K mg base (L2N.CX P w) 1 T.d_law_whole.f T.d_law_whole.fd ["_law_told"] (spF K cls F_law_whole) := by
  have sc := sc_law_whole
  refine run_ok T.d_law_whole (k := 0) (p := 1) (n := 1) (m := m_law_whole) sc rfl rfl (by decide) (fun cdv A outer s H E hr => ?_)
  have hu := hr.units
  exact (ss_one (ss_ret (se_and (se_isi (T := "int") (fun _ => kit_int) (by rfl) T.b_isinstance (se_v (pv 0)) (pe_bltn (v := .ty "int") (by rfl) T.b_int boot_int rfl)) (se_one (se_not (se_isi (T := "bool") (fun _ => kit_bool) (by rfl) T.b_isinstance (se_v (pv 0)) (pe_bltn (v := .ty "bool") (by rfl) T.b_bool boot_bool rfl)))))))
theorem ok_law_text (T : Txt K mg cls) : FnOk P w K mg base (L2N.CX P w) 1 T.d_law_text.f T.d_law_text.fd ["_law_cell", "_law_size"] (spF K cls F_law_text) := by
  have sc := sc_law_text
  refine run_ok T.d_law_text (k := 0) (p := 2) (n := 4) (m := m_law_text) sc rfl rfl (by decide) (fun cdv A outer s H E hr => ?_)
  have hu := hr.units
  exact (ss_cons (ss_asg (i := 2) sc.nd rfl (Or.inl rfl) se_str)
      (ss_cons (ss_asg (i := 2) sc.nd rfl (Or.inl rfl) (se_add (se_v (pv 2)) se_str))
      (ss_cons (ss_asg (i := 3) sc.nd rfl (Or.inl rfl) (se_sl (se_add (se_v (pv 2)) (se_v (pv 2))) (so_some (se_mod (se_v (pv 0)) se_int)) (so_some (se_add (se_mod (se_v (pv 0)) se_int) (se_v (pv 1))))))
      (ss_cons (ss_if (st_cmp (op_eqA hu) od_eq (se_mod (se_fdiv (se_v (pv 0)) se_int) se_int) se_int (nomark _)) (ss_one (ss_asg (i := 3) sc.nd rfl (Or.inl rfl) (se_add (se_add (se_v (pv 3)) (se_mul (se_sl (se_v (pv 3)) (so_some (se_neg se_int)) so_none) se_int)) (se_sl (se_v (pv 3)) so_none (so_some se_int))))) ss_nil)
      (ss_one (ss_retV (pv 3)))))))
theorem ok_law_thing (T : Txt K mg cls) : FnOk P w K mg base (L2N.CX P w) 2 T.d_law_thing.f T.d_law_thing.fd ["_law_cell"] (spF K cls F_law_thing) := by
  have sc := sc_law_thing
  have g_law_text := (ok_law_text (P := P) (w := w) (base := base) (cls := cls) T).mono (show 1 ≤ 1 by omega)
  refine run_ok T.d_law_thing (k := 1) (p := 1) (n := 5) (m := m_law_thing) sc rfl rfl (by decide) (fun cdv A outer s H E hr => ?_)
  have hu := hr.units
  exact (ss_cons (ss_asg (i := 1) sc.nd rfl (Or.inl rfl) (se_mod (se_v (pv 0)) se_int))
      (ss_cons (ss_asg (i := 2) sc.nd rfl (Or.inl rfl) (se_mod (se_fdiv (se_v (pv 0)) se_int) se_int))
      (ss_cons (ss_if (st_cmp (op_eqA hu) od_eq (se_v (pv 1)) se_int (nomark _)) (ss_one (ss_ret (se_call g_law_text hr (by rfl) T.d_law_text.g T.d_law_text.F.kp T.d_law_text.b (sr_cons (se_fdiv (se_v (pv 0)) se_int) (sr_cons (se_v (pv 2)) sr_nil))))) ss_nil)
      (ss_cons (ss_if (st_cmp (op_eqA hu) od_eq (se_v (pv 1)) se_int (nomark _)) (ss_one (ss_ret (se_sub (se_mod (se_pow (se_v (pv 0)) se_int) (se_pow se_int se_int)) (se_pow se_int se_int)))) ss_nil)
      (ss_cons (ss_if (st_cmp (op_eqA hu) od_eq (se_v (pv 1)) se_int (nomark _)) (ss_one (ss_ret (se_callTy call_tuple1 cd_tuple1 (by rfl) T.b_tuple boot_tuple (sa_cons (se_fz (sf_comp rfl sc.nd (pi_range1 (by rfl) T.b_range (sa_cons (se_mod (se_v (pv 2)) se_int) sa_nil)) src_range1 (blkOk_by (own := [("_law_k", 3)]) (N := ["_law_cell", "_law_kind", "_law_size", "_law_k", "_law_nested"]) (sc := defScope s_law_thing) (by decide +kernel)) (fun _ _ _ _ _ => pg_name (i := 3) sc.nd rfl (Or.inl rfl)) (fun _ _ _ _ _ => sts_nil) (fun _ _ _ _ _ => (se_mod (se_fdiv (se_v (pv 0)) (se_add (se_v (pv 3)) se_int)) se_int)))) sa_nil)))) ss_nil)
      (ss_cons (ss_if (st_cmp (op_eqA hu) od_eq (se_v (pv 1)) se_int (nomark _)) (ss_cons (ss_asg (i := 4) sc.nd rfl (Or.inl rfl) (se_tup (sa_cons (se_cmp (op_eqA hu) od_eq (se_mod (se_v (pv 0)) se_int) se_int (nomark _)) (sa_cons (se_mod (se_v (pv 0)) se_int) sa_nil))))
      (ss_cons (ss_for PassesOwn.never rfl (pi_range1 (by rfl) T.b_range (sa_cons (se_mod (se_v (pv 2)) se_int) sa_nil)) src_range1 (pg_name (i := 3) sc.nd rfl (Or.inl rfl)) tg_n (ss_one (ss_asg (i := 4) sc.nd rfl (Or.inl rfl) (se_tup (sa_cons (se_v (pv 4)) (sa_cons (se_v (pv 3)) sa_nil))))))
      (ss_one (ss_retV (pv 4))))) ss_nil)
      (ss_cons (ss_if (st_cmp (op_eqA hu) od_eq (se_v (pv 1)) se_int (nomark _)) (ss_one (ss_ret (se_tup (sa_cons se_non (sa_cons (se_call g_law_text hr (by rfl) T.d_law_text.g T.d_law_text.F.kp T.d_law_text.b (sr_cons (se_fdiv (se_v (pv 0)) se_int) (sr_cons (se_v (pv 2)) sr_nil))) (sa_cons (se_neg (se_v (pv 2))) (sa_cons (se_tup (sa_cons se_str (sa_cons (se_tup (sa_cons se_non sa_nil)) sa_nil))) sa_nil))))))) ss_nil)
      (ss_one (ss_ret (se_ix (se_fz (sf_lst (sa_cons se_non (sa_cons se_str (sa_cons se_bl (sa_cons se_bl (sa_cons se_int (sa_cons (se_tup (sa_cons se_bl (sa_cons (se_tup (sa_cons se_int (sa_cons se_str sa_nil))) sa_nil))) (sa_cons (se_tup sa_nil) sa_nil))))))))) (se_sub (se_v (pv 1)) se_int)))))))))))
theorem ok_law_rising (T : Txt K mg cls) : FnOk P w K mg base (L2N.CX P w) 3 T.d_law_rising.f T.d_law_rising.fd ["_law_cell", "_law_many_here"] (spF K cls F_law_rising) := by
  have sc := sc_law_rising
  have g_law_thing := (ok_law_thing (P := P) (w := w) (base := base) (cls := cls) T).mono (show 2 ≤ 2 by omega)
  refine run_ok T.d_law_rising (k := 2) (p := 2) (n := 6) (m := m_law_rising) sc rfl rfl (by decide) (fun cdv A outer s H E hr => ?_)
  have hu := hr.units
  exact (ss_cons (ss_asg (i := 2) sc.nd rfl (Or.inr rfl) (se_ix (se_fz (sf_lst (sa_cons se_int (sa_cons se_int (sa_cons (se_add se_int (se_mod (se_fdiv (se_v (pv 0)) se_int) se_int)) (sa_cons (se_add se_int (se_mod (se_fdiv (se_v (pv 0)) se_int) (se_pow se_int se_int))) sa_nil)))))) (se_mod (se_v (pv 0)) se_int)))
      (ss_cons (ss_asg (i := 3) sc.nd rfl (Or.inr rfl) (se_ix (se_fz (sf_lst (sa_cons (se_sub (se_mod (se_fdiv (se_v (pv 0)) se_int) se_int) se_int) (sa_cons (se_neg se_int) (sa_cons (se_sub (se_mod (se_fdiv (se_v (pv 0)) se_int) (se_pow se_int se_int)) (se_mul se_int (se_pow se_int se_int))) (sa_cons (se_neg (se_pow se_int se_int)) sa_nil)))))) (se_mod (se_fdiv (se_v (pv 0)) se_int) se_int)))
      (ss_cons (ss_asg (i := 4) sc.nd rfl (Or.inr rfl) (se_mod (se_fdiv (se_v (pv 0)) se_int) se_int))
      (ss_one (ss_retF (sf_comp rfl sc.nd (pi_range1 (by rfl) T.b_range (sa_cons (se_v (pv 1)) sa_nil)) src_range1 (blkOk_by (own := [("_law_k", 5)]) (N := ["_law_cell", "_law_many_here", "_law_step", "_law_base", "_law_more", "_law_k"]) (sc := defScope s_law_rising) (by decide +kernel)) (fun _ _ _ _ _ => pg_name (i := 5) sc.nd rfl (Or.inl rfl)) (fun _ _ _ _ _ => sts_nil) (fun _ _ _ _ _ => (se_tup (sa_cons (se_add (se_add (se_v (pv 3)) (se_mul (se_v (pv 2)) (se_v (pv 5)))) (se_fdiv (se_mul (se_mul (se_v (pv 5)) (se_v (pv 5))) (se_v (pv 4))) se_int)) (sa_cons (se_call g_law_thing hr (by rfl) T.d_law_thing.g T.d_law_thing.F.kp T.d_law_thing.b (sr_cons (se_add (se_v (pv 0)) (se_v (pv 5))) sr_nil)) sa_nil))))))))))
theorem ok_law_bits (T : Txt K mg cls) : FnOk P w K mg base (L2N.CX P w) 1 T.d_law_bits.f T.d_law_bits.fd ["_law_cell", "_law_many_here"] (spF K cls F_law_bits) := by
  have sc := sc_law_bits
  refine run_ok T.d_law_bits (k := 0) (p := 2) (n := 3) (m := m_law_bits) sc rfl rfl (by decide) (fun cdv A outer s H E hr => ?_)
  have hu := hr.units
  exact (ss_one (ss_retF (sf_comp rfl sc.nd (pi_range1 (by rfl) T.b_range (sa_cons (se_v (pv 1)) sa_nil)) src_range1 (blkOk_by (own := [("_law_k", 2)]) (N := ["_law_cell", "_law_many_here", "_law_k"]) (sc := defScope s_law_bits) (by decide +kernel)) (fun _ _ _ _ _ => pg_name (i := 2) sc.nd rfl (Or.inl rfl)) (fun _ _ _ _ _ => sts_nil) (fun _ _ _ _ _ => (se_mod (se_fdiv (se_mod (se_mul (se_add (se_v (pv 0)) se_int) (se_add (se_mul (se_v (pv 2)) se_int) se_int)) se_int) se_int) se_int)))))
theorem okR_law_grown (T : Txt K mg cls) : ∀ n : Nat, FnOk P w K mg base (L2N.CX P w) (0 + n) T.d_law_grown.f T.d_law_grown.fd ["_law_bits_here", "_law_pairs", "_law_rank", "_law_under"] (spF K cls (R_law_grown n))
  | 0 => fn_never
  | n + 1 => by
    have sc := sc_law_grown
    have self_ok := okR_law_grown T n
    refine run_ok T.d_law_grown (k := 0 + n) (p := 4) (n := 11) (m := m_law_grown (R_law_grown n)) sc rfl rfl (by decide) (fun cdv A outer s H E hr => ?_)
    have hu := hr.units
    exact (ss_cons (ss_asg (i := 4) sc.nd rfl (Or.inl rfl) se_int)
      (ss_cons (ss_if (st_trv (pv 0)) (ss_one (ss_asg (i := 4) sc.nd rfl (Or.inl rfl) (se_pop (pv 0)))) ss_nil)
      (ss_cons (ss_if (PW.pt (sw_and (st_cmp (op_eqA hu) od_eq (se_v (pv 2)) se_int (nomark _)) (sw_and1 (PW.pt (sw_or (st_trv (pv 3)) (sw_or1 (st_cmp (op_eqA hu) od_eq (se_v (pv 4)) se_int (nomark _)))))))) (ss_one (ss_ret se_non)) ss_nil)
      (ss_cons (ss_asg (i := 5) sc.nd rfl (Or.inl rfl) (se_and (se_notv (pv 3)) (se_one (se_cmp (op_eqA hu) od_eq (se_v (pv 4)) se_int (nomark _)))))
      (ss_cons (ss_asg (i := 6) sc.nd rfl (Or.inl rfl) (se_call self_ok hr (by rfl) T.d_law_grown.g T.d_law_grown.F.kp T.d_law_grown.b (sr_slot (pv 0) (sr_slot (pv 1) (sr_cons (se_sub (se_v (pv 2)) (se_callTy call_int1A cd_int1 (by rfl) T.b_int boot_int (sa_cons (se_notv (pv 5)) sa_nil))) (sr_cons (se_v (pv 5)) sr_nil))))))
      (ss_cons (ss_asg (i := 7) sc.nd rfl (Or.inl rfl) (se_pop (pv 1)))
      (ss_cons (ss_asg (i := 8) sc.nd rfl (Or.inl rfl) (se_call self_ok hr (by rfl) T.d_law_grown.g T.d_law_grown.F.kp T.d_law_grown.b (sr_slot (pv 0) (sr_slot (pv 1) (sr_cons (se_sub (se_v (pv 2)) (se_callTy call_int1A cd_int1 (by rfl) T.b_int boot_int (sa_cons (se_notv (pv 5)) sa_nil))) (sr_cons (se_v (pv 5)) sr_nil))))))
      (ss_cons (ss_asg (i := 9) sc.nd rfl (Or.inl rfl) se_int)
      (ss_cons (ss_for PassesOwn.never rfl (pi_list (se_fz (sf_lst (sa_cons (se_v (pv 6)) (sa_cons (se_v (pv 8)) sa_nil))))) src_list (pg_name (i := 10) sc.nd rfl (Or.inl rfl)) tg_n (ss_one (ss_if (st_cmp op_notA od_isNot (se_v (pv 10)) se_non (nomark _)) (ss_one (ss_asg (i := 9) sc.nd rfl (Or.inl rfl) (se_add (se_v (pv 9)) (se_ixv (pv 10) se_int)))) ss_nil)))
      (ss_one (ss_ret (se_tup (sa_cons (se_v (pv 5)) (sa_cons (se_v (pv 6)) (sa_cons (se_ixv (pv 7) se_int) (sa_cons (se_ixv (pv 7) se_int) (sa_cons (se_v (pv 8)) (sa_cons (se_v (pv 9)) sa_nil))))))))))))))))))
theorem ok_law_grown (T : Txt K mg cls) : FnOk P w K mg base (L2N.CX P w) 24 T.d_law_grown.f T.d_law_grown.fd ["_law_bits_here", "_law_pairs", "_law_rank", "_law_under"] (spF K cls F_law_grown) := okR_law_grown T 24
theorem ok_law_many (T : Txt K mg cls) : FnOk P w K mg base (L2N.CX P w) 1 T.d_law_many.f T.d_law_many.fd ["_law_tree_here"] (spF K cls F_law_many) := by
  have sc := sc_law_many
  refine run_ok T.d_law_many (k := 0) (p := 1) (n := 1) (m := m_law_many) sc rfl rfl (by decide) (fun cdv A outer s H E hr => ?_)
  have hu := hr.units
  exact (ss_cons (ss_if (st_cmp op_isA od_is (se_v (pv 0)) se_non (nomark _)) (ss_one (ss_ret se_int)) ss_nil)
      (ss_one (ss_ret (se_ixv (pv 0) se_int))))
theorem ok_law_tree (T : Txt K mg cls) : FnOk P w K mg base (L2N.CX P w) 25 T.d_law_tree.f T.d_law_tree.fd ["_law_script"] (spF K cls F_law_tree) := by
  have sc := sc_law_tree
  have g_law_bits := (ok_law_bits (P := P) (w := w) (base := base) (cls := cls) T).mono (show 1 ≤ 24 by omega)
  have g_law_cell_at := (ok_law_cell_at (P := P) (w := w) (base := base) (cls := cls) T).mono (show 1 ≤ 24 by omega)
  have g_law_grown := (ok_law_grown (P := P) (w := w) (base := base) (cls := cls) T).mono (show 24 ≤ 24 by omega)
  have g_law_rising := (ok_law_rising (P := P) (w := w) (base := base) (cls := cls) T).mono (show 3 ≤ 24 by omega)
  refine run_ok T.d_law_tree (k := 24) (p := 1) (n := 6) (m := m_law_tree) sc rfl rfl (by decide) (fun cdv A outer s H E hr => ?_)
  have hu := hr.units
  exact (ss_cons (ss_asg (i := 1) sc.nd rfl (Or.inl rfl) (se_callTy call_int1A cd_int1 (by rfl) T.b_int boot_int (sa_cons (se_cmp (op_eqA hu) od_eq (se_mod (se_fdiv (se_call g_law_cell_at hr (by rfl) T.d_law_cell_at.g T.d_law_cell_at.F.kp T.d_law_cell_at.b (sr_cons (se_v (pv 0)) (sr_cons se_int sr_nil))) se_int) se_int) se_int (nomark _)) sa_nil)))
      (ss_cons (ss_asg (i := 2) sc.nd rfl (Or.inl rfl) (se_call g_law_cell_at hr (by rfl) T.d_law_cell_at.g T.d_law_cell_at.F.kp T.d_law_cell_at.b (sr_cons (se_v (pv 0)) (sr_cons se_int sr_nil))))
      (ss_cons (ss_asg (i := 3) sc.nd rfl (Or.inl rfl) (se_mod (se_mod (se_v (pv 2)) se_int) se_int))
      (ss_cons (ss_asgF (i := 4) sc.nd rfl (Or.inl rfl) (sf_call g_law_bits hr (by rfl) T.d_law_bits.g T.d_law_bits.F.kp T.d_law_bits.b (sr_cons (se_call g_law_cell_at hr (by rfl) T.d_law_cell_at.g T.d_law_cell_at.F.kp T.d_law_cell_at.b (sr_cons (se_v (pv 0)) (sr_cons se_int sr_nil))) (sr_cons (se_ix (se_fz (sf_lst (sa_cons se_int (sa_cons se_int sa_nil)))) (se_v (pv 1))) sr_nil))))
      (ss_cons (ss_if (st_cmp (op_eqA hu) od_eq (se_mod (se_v (pv 2)) se_int) se_int (nomark _)) (ss_one (ss_asg (i := 3) sc.nd rfl (Or.inl rfl) se_int)) ss_nil)
      (ss_cons (ss_if (st_cmp (op_eqA hu) od_eq (se_mod (se_v (pv 2)) se_int) se_int (nomark _)) (ss_cons (ss_asg (i := 3) sc.nd rfl (Or.inl rfl) se_int)
      (ss_one (ss_asgF (i := 4) sc.nd rfl (Or.inl rfl) (sf_sl (se_v (pv 4)) so_none (so_some se_int))))) (ss_one (ss_if (PW.pt (sw_and (st_cmp (op_eqA hu) od_eq (se_v (pv 1)) se_int (nomark _)) (sw_and1 (st_cmp (op_eqA hu) od_eq (se_mod (se_v (pv 2)) se_int) se_int (nomark _))))) (ss_one (ss_asg (i := 3) sc.nd rfl (Or.inl rfl) se_int)) ss_nil)))
      (ss_cons (ss_asgF (i := 5) sc.nd rfl (Or.inl rfl) (sf_call g_law_rising hr (by rfl) T.d_law_rising.g T.d_law_rising.F.kp T.d_law_rising.b (sr_cons (se_call g_law_cell_at hr (by rfl) T.d_law_cell_at.g T.d_law_cell_at.F.kp T.d_law_cell_at.b (sr_cons (se_v (pv 0)) (sr_cons se_int sr_nil))) (sr_cons (se_ix (se_fz (sf_lst (sa_cons se_int (sa_cons se_int (sa_cons se_int (sa_cons se_int sa_nil)))))) (se_add (se_mul (se_v (pv 1)) se_int) (se_callTy call_int1A cd_int1 (by rfl) T.b_int boot_int (sa_cons (se_cmp (op_eqA hu) od_eq (se_v (pv 3)) se_int (nomark _)) sa_nil)))) sr_nil))))
      (ss_cons (ss_rev (pv 5))
      (ss_one (ss_ret (se_call g_law_grown hr (by rfl) T.d_law_grown.g T.d_law_grown.F.kp T.d_law_grown.b (sr_slot (pv 4) (sr_slot (pv 5) (sr_cons (se_v (pv 3)) (sr_cons se_bl sr_nil)))))))))))))))
theorem ok_law_key_by (T : Txt K mg cls) : FnOk P w K mg base (L2N.CX P w) 1 T.d_law_key_by.f T.d_law_key_by.fd ["_law_listed", "_law_way", "_law_cell"] (spF K cls F_law_key_by) := by
  have sc := sc_law_key_by
  refine run_ok T.d_law_key_by (k := 0) (p := 3) (n := 3) (m := m_law_key_by) sc rfl rfl (by decide) (fun cdv A outer s H E hr => ?_)
  have hu := hr.units
  exact (ss_cons (ss_if (PW.pt (sw_and (st_trv (pv 0)) (sw_and1 (st_cmp op_gt od_gt (se_mod (se_v (pv 1)) se_int) se_int (nomark _))))) (ss_one (ss_ret (se_add (se_ix (se_ixv (pv 0) (se_mod (se_v (pv 2)) (se_lenv (by rfl) T.b_len (pv 0)))) se_int) (se_ix (se_fz (sf_lst (sa_cons se_int (sa_cons se_int (sa_cons se_int (sa_cons (se_neg se_int) sa_nil)))))) (se_sub (se_mod (se_v (pv 1)) se_int) se_int))))) ss_nil)
      (ss_one (ss_ret (se_sub (se_mod (se_v (pv 2)) (se_sub (se_mul se_int (se_pow se_int se_int)) se_int)) (se_sub (se_pow se_int se_int) se_int)))))
theorem okR_law_alike (T : Txt K mg cls) : ∀ n : Nat, FnOk P w K mg base (L2N.CX P w) (0 + n) T.d_law_alike.f T.d_law_alike.fd ["_law_told", "_law_due"] (spF K cls (R_law_alike n))
  | 0 => fn_never
  | n + 1 => by
    have sc := sc_law_alike
    have self_ok := okR_law_alike T n
    refine run_ok T.d_law_alike (k := 0 + n) (p := 2) (n := 3) (m := m_law_alike (R_law_alike n)) sc rfl rfl (by decide) (fun cdv A outer s H E hr => ?_)
    have hu := hr.units
    exact (ss_cons (ss_if (st_tr (se_isi (T := "tuple") (fun _ => kit_tup) (by rfl) T.b_isinstance (se_v (pv 1)) (pe_bltn (v := .ty "tuple") (by rfl) T.b_tuple boot_tuple rfl))) (ss_cons (ss_if (PW.pt (sw_or (st_not (st_tr (se_isi (T := "tuple") (fun _ => kit_tup) (by rfl) T.b_isinstance (se_v (pv 0)) (pe_bltn (v := .ty "tuple") (by rfl) T.b_tuple boot_tuple rfl)))) (sw_or1 (st_cmp (op_neA hu) od_ne (se_lenv (by rfl) T.b_len (pv 0)) (se_lenv (by rfl) T.b_len (pv 1)) (nomark _))))) (ss_one (ss_ret se_bl)) ss_nil)
      (ss_one (ss_ret (se_cmp (op_eqA hu) od_eq (se_fz (sf_comp rfl sc.nd (pi_range1 (by rfl) T.b_range (sa_cons (se_lenv (by rfl) T.b_len (pv 1)) sa_nil)) src_range1 (blkOk_by (own := [("_law_k", 2)]) (N := ["_law_told", "_law_due", "_law_k"]) (sc := defScope s_law_alike) (by decide +kernel)) (fun _ _ _ _ _ => pg_name (i := 2) sc.nd rfl (Or.inl rfl)) (fun _ _ _ _ _ => (sts_one (st_not (st_tr (se_call self_ok hr (by rfl) T.d_law_alike.g T.d_law_alike.F.kp T.d_law_alike.b (sr_cons (se_ixv (pv 0) (se_v (pv 2))) (sr_cons (se_ixv (pv 1) (se_v (pv 2))) sr_nil))))))) (fun _ _ _ _ _ => (se_v (pv 2))))) (se_fz (sf_lst sa_nil)) (nomark _))))) ss_nil)
      (ss_one (ss_ret (se_and (se_cmp (op_eqA hu) od_eq (se_isi (T := "bool") (fun _ => kit_bool) (by rfl) T.b_isinstance (se_v (pv 0)) (pe_bltn (v := .ty "bool") (by rfl) T.b_bool boot_bool rfl)) (se_isi (T := "bool") (fun _ => kit_bool) (by rfl) T.b_isinstance (se_v (pv 1)) (pe_bltn (v := .ty "bool") (by rfl) T.b_bool boot_bool rfl)) (nomark _)) (se_one (se_cmp (op_eqA hu) od_eq (se_v (pv 0)) (se_v (pv 1)) (nomark _)))))))
theorem ok_law_alike (T : Txt K mg cls) : FnOk P w K mg base (L2N.CX P w) 24 T.d_law_alike.f T.d_law_alike.fd ["_law_told", "_law_due"] (spF K cls F_law_alike) := okR_law_alike T 24
theorem ok_law_same (T : Txt K mg cls) : FnOk P w K mg base (L2N.CX P w) 25 T.d_law_same.f T.d_law_same.fd ["_law_pairs", "_law_due"] (spF K cls F_law_same) := by
  have sc := sc_law_same
  have g_law_alike := (ok_law_alike (P := P) (w := w) (base := base) (cls := cls) T).mono (show 24 ≤ 24 by omega)
  refine run_ok T.d_law_same (k := 24) (p := 2) (n := 3) (m := m_law_same) sc rfl rfl (by decide) (fun cdv A outer s H E hr => ?_)
  have hu := hr.units
  exact (ss_cons (ss_if (st_cmp (op_neA hu) od_ne (se_lenv (by rfl) T.b_len (pv 0)) (se_lenv (by rfl) T.b_len (pv 1)) (nomark _)) (ss_one (ss_ret se_bl)) ss_nil)
      (ss_one (ss_ret (se_cmp (op_eqA hu) od_eq (se_fz (sf_comp rfl sc.nd (pi_range1 (by rfl) T.b_range (sa_cons (se_lenv (by rfl) T.b_len (pv 1)) sa_nil)) src_range1 (blkOk_by (own := [("_law_k", 2)]) (N := ["_law_pairs", "_law_due", "_law_k"]) (sc := defScope s_law_same) (by decide +kernel)) (fun _ _ _ _ _ => pg_name (i := 2) sc.nd rfl (Or.inl rfl)) (fun _ _ _ _ _ => (sts_one (st_not (st_tr (se_call g_law_alike hr (by rfl) T.d_law_alike.g T.d_law_alike.F.kp T.d_law_alike.b (sr_cons (se_ixv (pv 0) (se_v (pv 2))) (sr_cons (se_ixv (pv 1) (se_v (pv 2))) sr_nil))))))) (fun _ _ _ _ _ => (se_v (pv 2))))) (se_fz (sf_lst sa_nil)) (nomark _)))))
theorem ok_law_pair (T : Txt K mg cls) : FnOk P w K mg base (L2N.CX P w) 26 T.d_law_pair.f T.d_law_pair.fd ["_law_told", "_law_due"] (spF K cls F_law_pair) := by
  have sc := sc_law_pair
  have g_law_same := (ok_law_same (P := P) (w := w) (base := base) (cls := cls) T).mono (show 25 ≤ 25 by omega)
  have g_law_whole := (ok_law_whole (P := P) (w := w) (base := base) (cls := cls) T).mono (show 1 ≤ 25 by omega)
  refine run_ok T.d_law_pair (k := 25) (p := 2) (n := 2) (m := m_law_pair) sc rfl rfl (by decide) (fun cdv A outer s H E hr => ?_)
  have hu := hr.units
  exact (ss_cons (ss_if (st_cmp op_isA od_is (se_v (pv 1)) se_non (nomark _)) (ss_one (ss_ret (se_cmp op_isA od_is (se_v (pv 0)) se_non (nomark _)))) ss_nil)
      (ss_cons (ss_if (PW.pt (sw_or (st_not (st_tr (se_isi (T := "tuple") (fun _ => kit_tup) (by rfl) T.b_isinstance (se_v (pv 0)) (pe_bltn (v := .ty "tuple") (by rfl) T.b_tuple boot_tuple rfl)))) (sw_or (st_cmp (op_neA hu) od_ne (se_lenv (by rfl) T.b_len (pv 0)) se_int (nomark _)) (sw_or1 (st_not (st_tr (se_call g_law_whole hr (by rfl) T.d_law_whole.g T.d_law_whole.F.kp T.d_law_whole.b (sr_cons (se_ixv (pv 0) se_int) sr_nil)))))))) (ss_one (ss_ret se_bl)) ss_nil)
      (ss_one (ss_ret (se_call g_law_same hr (by rfl) T.d_law_same.g T.d_law_same.F.kp T.d_law_same.b (sr_cons (se_fz (sf_lst (sa_cons (se_v (pv 0)) sa_nil))) (sr_cons (se_fz (sf_lst (sa_cons (se_v (pv 1)) sa_nil))) sr_nil)))))))
theorem ok_law_moved (T : Txt K mg cls) : FnOk P w K mg base (L2N.CX P w) 27 T.d_law_moved.f T.d_law_moved.fd ["_law_walk", "_law_listed", "_law_place", "_law_cell"] (spF K cls F_law_moved) := by
  have sc := sc_law_moved
  have g_Walk_back := (ok_Walk_back (P := P) (w := w) (base := base) (cls := cls) T).mono (show 3 ≤ 26 by omega)
  have g_Walk_seek := (ok_Walk_seek (P := P) (w := w) (base := base) (cls := cls) T).mono (show 3 ≤ 26 by omega)
  have g_Walk_step := (ok_Walk_step (P := P) (w := w) (base := base) (cls := cls) T).mono (show 3 ≤ 26 by omega)
  have g_law_key_by := (ok_law_key_by (P := P) (w := w) (base := base) (cls := cls) T).mono (show 1 ≤ 26 by omega)
  have g_law_pair := (ok_law_pair (P := P) (w := w) (base := base) (cls := cls) T).mono (show 26 ≤ 26 by omega)
  refine run_ok T.d_law_moved (k := 26) (p := 4) (n := 9) (m := m_law_moved) sc rfl rfl (by decide) (fun cdv A outer s H E hr => ?_)
  have hu := hr.units
  exact (ss_cons (ss_asg (i := 4) sc.nd rfl (Or.inl rfl) (se_mod (se_v (pv 3)) se_int))
      (ss_cons (ss_if (st_cmp op_lt od_lt (se_v (pv 4)) se_int (nomark _)) (ss_cons (ss_asg (i := 5) sc.nd rfl (Or.inl rfl) (se_ix (se_fz (sf_cat (se_v (pv 1)) (se_fz (sf_lst (sa_cons se_non sa_nil))))) (se_v (pv 2))))
      (ss_cons (ss_asg (i := 2) sc.nd rfl (Or.inl rfl) (se_callB (call_min2A rfl) cd_min2 (by rfl) T.b_min boot_min (sa_cons (se_add (se_v (pv 2)) se_int) (sa_cons (se_lenv (by rfl) T.b_len (pv 1)) sa_nil))))
      (ss_one (ss_ret (se_tup (sa_cons (se_v (pv 2)) (sa_cons (se_call g_law_pair hr (by rfl) T.d_law_pair.g T.d_law_pair.F.kp T.d_law_pair.b (sr_cons (se_meth0 T.wc T.cl T.m_Walk_step (by decide +kernel) (by decide +kernel) g_Walk_step hr T.d_Walk_step.b (pv 0)) (sr_cons (se_v (pv 5)) sr_nil))) sa_nil))))))) ss_nil)
      (ss_cons (ss_if (st_cmp op_lt od_lt (se_v (pv 4)) se_int (nomark _)) (ss_cons (ss_asg (i := 5) sc.nd rfl (Or.inl rfl) (se_ix (se_fz (sf_cat (se_fz (sf_lst (sa_cons se_non sa_nil))) (se_v (pv 1)))) (se_v (pv 2))))
      (ss_cons (ss_asg (i := 2) sc.nd rfl (Or.inl rfl) (se_callB (call_max2A rfl) cd_max2 (by rfl) T.b_max boot_max (sa_cons (se_sub (se_v (pv 2)) se_int) (sa_cons se_int sa_nil))))
      (ss_one (ss_ret (se_tup (sa_cons (se_v (pv 2)) (sa_cons (se_call g_law_pair hr (by rfl) T.d_law_pair.g T.d_law_pair.F.kp T.d_law_pair.b (sr_cons (se_meth0 T.wc T.cl T.m_Walk_back (by decide +kernel) (by decide +kernel) g_Walk_back hr T.d_Walk_back.b (pv 0)) (sr_cons (se_v (pv 5)) sr_nil))) sa_nil))))))) ss_nil)
      (ss_cons (ss_asg (i := 6) sc.nd rfl (Or.inr rfl) (se_call g_law_key_by hr (by rfl) T.d_law_key_by.g T.d_law_key_by.F.kp T.d_law_key_by.b (sr_cons (se_v (pv 1)) (sr_cons (se_fdiv (se_v (pv 3)) se_int) (sr_cons (se_fdiv (se_v (pv 3)) se_int) sr_nil)))))
      (ss_cons (ss_asg (i := 7) sc.nd rfl (Or.inl rfl) (se_meth T.wc T.cl T.m_Walk_seek (by decide +kernel) (by decide +kernel) g_Walk_seek hr T.d_Walk_seek.b (pv 0) (sr_cons (se_v (pv 6)) sr_nil)))
      (ss_one (ss_ret (se_tup (sa_cons (se_len (by rfl) T.b_len (sa_cons (se_fz (sf_comp rfl sc.nd (pi_list (se_v (pv 1))) src_list (blkOk_by (own := [("_law_pair_here", 8)]) (N := ["_law_walk", "_law_listed", "_law_place", "_law_cell", "_law_kind", "_law_due", "_law_key", "_law_told", "_law_pair_here"]) (sc := defScope s_law_moved) (by decide +kernel)) (fun _ _ _ _ _ => pg_name (i := 8) sc.nd rfl (Or.inl rfl)) (fun _ _ _ _ _ => (sts_one (st_cmp op_lt od_lt (se_ixv (pv 8) se_int) (se_v (pv 6)) (nomark _)))) (fun _ _ _ _ _ => (se_v (pv 8))))) sa_nil)) (sa_cons (se_cmp op_isA od_is (se_v (pv 7)) se_non (nomark _)) sa_nil))))))))))
--BYHAND
theorem seq_at {t1 t2 : TS} {D : Ends} {σ : L2.St} {H : Hp} (Ψ : L2.St → Hp → Prop) (h1 : ∀ D1 : Ends, (∀ σ' H', Ψ σ' H' → D1.nx σ' H') → t1 D1 σ H) (h2 : ∀ σ' H', Ψ σ' H' → t2 D σ' H') : tSeq t1 t2 D σ H := h1 _ h2
theorem ok_law (T : Txt K mg cls) : FnOk P w K mg base (L2N.CX P w) 28 T.d_law.f T.d_law.fd ["_law_script"] (spF K cls F_law) := by
  have sc := sc_law
  have g_law_cell_at := (ok_law_cell_at (P := P) (w := w) (base := base) (cls := cls) T).mono (show 1 ≤ 27 by omega)
  have g_law_many := (ok_law_many (P := P) (w := w) (base := base) (cls := cls) T).mono (show 1 ≤ 27 by omega)
  have g_law_moved := (ok_law_moved (P := P) (w := w) (base := base) (cls := cls) T).mono (show 27 ≤ 27 by omega)
  have g_law_rising := (ok_law_rising (P := P) (w := w) (base := base) (cls := cls) T).mono (show 3 ≤ 27 by omega)
  have g_law_tree := (ok_law_tree (P := P) (w := w) (base := base) (cls := cls) T).mono (show 25 ≤ 27 by omega)
  have g_law_whole := (ok_law_whole (P := P) (w := w) (base := base) (cls := cls) T).mono (show 1 ≤ 27 by omega)
  have g_init := ok_Walk_init (P := P) (w := w) (base := base) (cls := cls) T
  refine run_ok T.d_law (k := 27) (p := 1) (n := 12) (m := m_law) sc rfl rfl (by decide) (fun cdv A outer s H E hr => ?_)
  have hu := hr.units
  have hr2 := hr.mono (show 2 ≤ 27 by omega)
  refine (pss_cons ((ss_asg (i := 1) sc.nd rfl (Or.inl rfl) (se_call g_law_tree hr (by rfl) T.d_law_tree.g T.d_law_tree.F.kp T.d_law_tree.b (sr_cons (se_v (pv 0)) sr_nil))) : PS _ _ (tS K (fun _ _ _ => False) l_0)) (pss_cons ((ss_asg (i := 2) sc.nd rfl (Or.inl rfl) se_non) : PS _ _ (tS K (fun _ _ _ => False) l_1)) (pss_cons ((ss_if (PW.pt (sw_and (st_cmp op_notA od_isNot (se_v (pv 1)) se_non (nomark _)) (sw_and (st_cmp op_notA od_isNot (se_ixv (pv 1) se_int) se_non (nomark _)) (sw_and1 (st_not (st_tr (se_ix (se_ixv (pv 1) se_int) se_int))))))) (ss_one (ss_asg (i := 2) sc.nd rfl (Or.inl rfl) (se_ixv (pv 1) se_int))) ss_nil) : PS _ _ (tS K (fun _ _ _ => False) l_2))
    (pss_cons ((ss_asgF (i := 3) sc.nd rfl (Or.inl rfl) (sf_call g_law_rising hr (by rfl) T.d_law_rising.g T.d_law_rising.F.kp T.d_law_rising.b (sr_cons (se_call g_law_cell_at hr (by rfl) T.d_law_cell_at.g T.d_law_cell_at.F.kp T.d_law_cell_at.b (sr_cons (se_v (pv 0)) (sr_cons se_int sr_nil))) (sr_cons (se_call g_law_many hr (by rfl) T.d_law_many.g T.d_law_many.F.kp T.d_law_many.b (sr_cons (se_v (pv 1)) sr_nil)) sr_nil)))) : PS _ _ (tS K (fun _ _ _ => False) l_3)) (pss_cons ((ss_asgF (i := 4) sc.nd rfl (Or.inl rfl) (sf_lst (sa_cons (se_v (pv 3)) (sa_cons (se_v (pv 3)) (sa_cons (se_fz (sf_sl (se_v (pv 3)) so_none (so_some (se_call g_law_many hr (by rfl) T.d_law_many.g T.d_law_many.F.kp T.d_law_many.b (sr_cons (se_v (pv 2)) sr_nil))))) sa_nil))))) : PS _ _ (tS K (fun _ _ _ => False) l_4))
    (pss_cons (ps_set (i := 5) sc.nd rfl (Or.inl rfl) (pe_lst (pa_cons (sf_make (ma := w_0) T.wc T.wmk g_init hr2 (by rfl) T.gC T.d_Walk_init.b (se_v (pv 1))) (pa_cons (sf_make (ma := w_1) T.wc T.wmk g_init hr2 (by rfl) T.gC T.d_Walk_init.b (se_v (pv 1))) (pa_cons (sf_make (ma := w_2) T.wc T.wmk g_init hr2 (by rfl) T.gC T.d_Walk_init.b (se_v (pv 2))) pa_nil)))))
    (pss_cons ((ss_asgF (i := 6) sc.nd rfl (Or.inl rfl) (sf_lst (sa_cons se_int (sa_cons se_int (sa_cons se_int sa_nil))))) : PS _ _ (tS K (fun _ _ _ => False) l_6))
    (pss_cons (ps_for PassesOwn.never rfl (pi_range2 (by rfl) T.b_range (sa_cons se_int (sa_cons (se_lenv (by rfl) T.b_len (pv 0)) sa_nil))) (pg_name (i := 7) sc.nd rfl (Or.inl rfl))
      (pss_cons (ps_if ((st_cmp (op_eqA hu) od_eq (se_mod (se_v (pv 7)) se_int) se_int (nomark _)) : PT _ _ (tT K c_0)) (pss_cons (ps_asg (sf_make (ma := c_0w) T.wc T.wmk g_init hr2 (by rfl) T.gC T.d_Walk_init.b (se_v (pv 1))) (pg_sub (pv 5) pe_int set_list)) (pss_one ((ss_setIx (pg_sub (pv 6) se_int set_list) se_int) : PS _ _ (tS K (fun _ _ _ => False) c_0p)))) pss_nil)
      (pss_cons ((ss_asg (i := 8) sc.nd rfl (Or.inl rfl) (se_mod (se_ixv (pv 0) (se_v (pv 7))) se_int)) : PS _ _ (tS K (fun _ _ _ => False) c_1))
      (pss_cons (ps_asg (pe_call g_law_moved hr (by rfl) T.d_law_moved.g T.d_law_moved.F.kp T.d_law_moved.b .nil passX (pa_cons (pe_ix ix_list (pv 5) ((se_v (pv 8)) : PE _ _ (tM K c_2i)) (fun _ _ => rfl)) ((sr_cons (se_ixv (pv 4) (se_v (pv 8))) (sr_cons (se_ixv (pv 6) (se_v (pv 8))) (sr_cons (se_fdiv (se_ixv (pv 0) (se_v (pv 7))) se_int) sr_nil))) : PA _ _ (tAr K c_2a)))) (pg_tup rfl (pgs_cons (pg_name (i := 9) sc.nd rfl (Or.inl rfl)) (pgs_cons (pg_name (i := 10) sc.nd rfl (Or.inl rfl)) pgs_nil))))
      (pss_cons ((ss_setIx (pg_sub (pv 6) (se_v (pv 8)) set_list) (se_v (pv 9))) : PS _ _ (tS K (fun _ _ _ => False) c_3))
      (pss_cons (ps_if (PW.pt (pw_or ((st_not (st_trv (pv 10))) : PT _ _ (tT K c_4t)) (pw_or1 (pt_cmpR (op_neA hu) (pe_lc rfl sc.nd (pi_list (pv 5)) (blkOk_by (own := [("_law_walk", 11)]) (N := ["_law_script", "_law_tree_here", "_law_inner", "_law_listed", "_law_rows", "_law_walks", "_law_places", "_law_k", "_law_which", "_law_moved_here", "_law_good", "_law_walk"]) (sc := defScope s_law) (by decide +kernel)) (fun _ _ _ _ _ => pg_name (i := 11) sc.nd rfl (Or.inl rfl)) (fun _ _ _ _ _ => L2.pts_nil) (fun _ _ _ _ _ => ((se_call g_law_whole hr (by rfl) T.d_law_whole.g T.d_law_whole.F.kp T.d_law_whole.b (sr_cons (se_fldP T.wc T.cl T.nP (pv 11)) sr_nil)) : PE _ _ (tM K me_4)))) ((se_fz (sf_rep (sf_lst (sa_cons se_bl sa_nil)) se_int)) : PE _ _ (tM K c_4r)) (nomark _))))) (pss_one (ps_ret pe_bl)) pss_nil)
      (pss_one (ps_if (pt_cmpR (op_neA hu) (pe_lc rfl sc.nd (pi_list (pv 5)) (blkOk_by (own := [("_law_walk", 11)]) (N := ["_law_script", "_law_tree_here", "_law_inner", "_law_listed", "_law_rows", "_law_walks", "_law_places", "_law_k", "_law_which", "_law_moved_here", "_law_good", "_law_walk"]) (sc := defScope s_law) (by decide +kernel)) (fun _ _ _ _ _ => pg_name (i := 11) sc.nd rfl (Or.inl rfl)) (fun _ _ _ _ _ => L2.pts_nil) (fun _ _ _ _ _ => ((se_fldP T.wc T.cl T.nP (pv 11)) : PE _ _ (tM K me_5)))) (pv 6) (nomark _)) (pss_one (ps_ret pe_bl)) pss_nil))))))))
    (pss_one (ps_ret (pe_cmpR (op_eqA hu) (pe_lc rfl sc.nd (pi_list (pv 5)) (blkOk_by (own := [("_law_walk", 11)]) (N := ["_law_script", "_law_tree_here", "_law_inner", "_law_listed", "_law_rows", "_law_walks", "_law_places", "_law_k", "_law_which", "_law_moved_here", "_law_good", "_law_walk"]) (sc := defScope s_law) (by decide +kernel)) (fun _ _ _ _ _ => pg_name (i := 11) sc.nd rfl (Or.inl rfl)) (fun _ _ _ _ _ => L2.pts_nil) (fun _ _ _ _ _ => ((se_fldT T.wc T.cl T.nT (pv 11)) : PE _ _ (tM K me_8)))) ((se_fz (sf_lst (sa_cons (se_v (pv 1)) (sa_cons (se_v (pv 1)) (sa_cons (se_v (pv 2)) sa_nil))))) : PE _ _ (tM K l_8r)) (nomark _)))))))))))).imp fun D σ H q => ?_
  obtain ⟨U0, ms, He0, S, o, R, h, q⟩ := q
  unfold m_law at h
  split at h
  case isFalse => cases h
  rename_i hok
  obtain ⟨ns, rfl, hl, hb⟩ := hok
  cases h
  obtain ⟨t, et, gt⟩ := e_tree ns hb
  obtain ⟨n, wt⟩ := gt.wf
  obtain ⟨n2, wi⟩ := inner_wf wt
  have ft : fineL t.prs := by rw [gt.prs]; exact row_fine (sm_cell hb 0) (Nat.le_trans gt.len (by omega))
  have hsub : ∀ p ∈ (innerT t).prs, p ∈ t.prs := fun p hp => by rw [inner_take t] at hp; exact List.mem_of_mem_take hp
  have fi : fineL (innerT t).prs := fun p hp => ft p (hsub p hp)
  have hlt := good_len gt
  have hli : (innerT t).prs.length ≤ 1030 := by rw [inner_take t, List.length_take]; omega
  have si : Srt (innerT t).prs := by rw [inner_take t]; exact (good_srt gt).sublist (List.take_sublist _ _)
  have fx : Fix ns t (innerT t) := ⟨⟨n, wt⟩, ⟨n2, wi⟩, good_srt gt, si, fun p hp => (ft p hp).1, fun p hp => (fi p hp).1, hlt, hli⟩
  have A0 := At.start R
  refine st_nx A0 rfl (l0_ok et) fun σ1 H1 He1 A1 => st_nx A1 rfl l1_ok fun σ2 H2 He2 A2 => st_nx A2 rfl l2_ok fun σ3 H3 He3 A3 => st_nx A3 rfl (l3_ok hb gt) fun σ4 H4 He4 A4 => st_nx A4 rfl (l4_ok wi hlt) fun σ5 H5 He5 A5 => ?_
  refine mk3_at A5 (w0_ok rfl) (w1_ok rfl) (w2_ok rfl) fun as σ6 H6 U6 He6 has A6 => ?_
  refine st_nx A6 has l6_ok fun σ7 H7 He7 A7 => ?_
  refine for_at (Iv := fun k S as ws => ∃ p0 p1 p2 : Nat, ∃ v7 v8 v9 v10 : SV, S = Sx ns t (innerT t) as p0 p1 p2 v7 v8 v9 v10 ∧ ws = Wx t (innerT t) p0 p1 p2 ∧ as.length = 3 ∧ p0 ≤ t.prs.length ∧ p1 ≤ t.prs.length ∧ p2 ≤ (innerT t).prs.length) A7 has src_range2 (r7_ok hl) ⟨0, 0, 0, _, _, _, _, rfl, rfl, has, Nat.zero_le _, Nat.zero_le _, Nat.zero_le _⟩ (fun k S as ws ⟨_, _, _, _, _, _, _, _, e, h, _⟩ => by rw [e, h]; rfl) ?_ ?_
  · rintro He8 k x S as ws σ8 H8 U8 He8' D' hx ⟨p0, p1, p2, v7, v8, v9, v10, rfl, rfl, h3, b0, b1, b2⟩ A8 kont
    obtain ⟨kk, hk, rfl⟩ := r7_mem hx
    have A8 : At K U0 ms He8 (Sx ns t (innerT t) as p0 p1 p2 (.d (.int (kk : Int))) v8 v9 v10) as (Wx t (innerT t) p0 p1 p2) σ8 H8 U8 He8' := A8
    have l3 : ∀ {as' : List Addr} {q0 q1 q2 : Nat}, as'.length = 3 → as'.length = (Wx t (innerT t) q0 q1 q2).length := fun h => h
    refine seq_at (fun σ' H' => ∃ (as' : List Addr) (p1' : Nat) (U' He' : Hp), as'.length = 3 ∧ p1' ≤ t.prs.length ∧ At K U0 ms He8 (Sx ns t (innerT t) as' p0 p1' p2 (.d (.int (kk : Int))) v8 v9 v10) as' (Wx t (innerT t) p0 p1' p2) σ' H' U' He') (fun D1 k1 => ?_) (fun σ9 H9 ⟨as', p1', U9, He9, h3', b1', A9⟩ => ?_)
    · refine tt_at A8 (l3 h3) c0_ok fun H9 He9 A9 => ?_
      by_cases hc : (kk : Int) % 16 = 15
      · rw [decide_eq_true hc]
        refine iteT ?_
        refine swap_at A9 (l3 h3) c0w_ok rfl (k := 1) (by rw [h3]; rfl) (by omega) fun as' H10 U10 He10 hl' A10 => ?_
        exact st_nx A10 (l3 (hl'.trans h3)) c0p_ok fun σ11 H11 He11 A11 => k1 _ _ ⟨as', 0, _, _, hl'.trans h3, Nat.zero_le _, A11⟩
      · rw [decide_eq_false hc]
        refine iteF ?_
        exact k1 _ _ ⟨as, p1, _, _, h3, b1, A9⟩
    · refine st_nx A9 (l3 h3') (c1_ok hk) fun σ10 H10 He10 A10 => ?_
      obtain ⟨w, hw, hw3⟩ : ∃ w : Nat, ns[kk] % 3 = (w : Int) ∧ w < 3 := ⟨(ns[kk] % 3).toNat, by omega, by omega⟩
      rw [hw] at A10
      obtain ⟨tw, pw, c1, ⟨nw, c2⟩, c3, c4, c5, c6, c7, c8, c9⟩ := pick_w hw3 fx b0 b1' b2
      obtain ⟨p', c10, em⟩ := e_moved c2 c3 (by omega) c4 pw c1 (ns[kk] / 3)
      obtain ⟨q0, q1, q2, d0, d1, d2, d3, d4⟩ := c9 p' c10
      obtain ⟨a, ha⟩ : ∃ a, as'[w]? = some a := ⟨_, List.getElem?_eq_getElem (by omega)⟩
      obtain ⟨pL, e5, _, _⟩ := A10.list (i := 5) rfl
      refine ⟨_, e5, tm_at A10 (l3 h3') c2i_ok fun v H11 He11 A11 d11 => ?_⟩
      cases d11
      obtain ⟨pL', e5', gL, _⟩ := A11.list (i := 5) rfl
      rw [e5] at e5'
      cases e5'
      refine ⟨pL, _, (w : Int), V.ref a, rfl, rfl, SqL.of gL, by rw [atI_ofNat, List.getElem?_map, ha]; rfl, ?_⟩
      refine ⟨_, ms, He11, _, _, _, A11.R, c2a_ok hk c7 c8, fun vs H12 He12 G12 R12 ca _ => ?_⟩
      have A12 := A11.next (l3 h3') G12 R12
      have dv : DpAll K He12 vs [.list (tw.prs.map prD), .int (pw : Int), .int (ns[kk] / 3)] := ca_back ca
      show spF K cls F_law_moved ((V.ref a :: vs) ++ []) H12 _ _
      rw [List.append_nil]
      refine call_at A12 (l3 h3') ha c6 (j := 11) rfl dv em fun v H13 U13 He13 A13 d13 => ?_
      rw [d3] at A13
      refine tgt_at (tg_t rfl (tgs_cons (tgs_cons tgs_nil))) A13 (l3 h3') d13 rfl fun σ14 A14 => ?_
      refine st_nx A14 (l3 h3') (c3_ok hw3) fun σ15 H15 He15 A15 => ?_
      rw [d4] at A15
      refine tt_at A15 (l3 h3') (c4t_ok rfl) fun H16 He16 A16 => ?_
      refine iteF ?_
      refine cmp_at od_ne A16 (l3 h3') (by omega) rfl rfl (f := fun _ => .bool true) (fun z hz => ?_) c4r_ok neD_trues3 fun v H17 U17 He17 A17 d17 => ?_
      · simp at hz
        rcases hz with rfl | rfl | rfl <;> exact me4_ok rfl
      cases d17
      refine ⟨false, rfl, iteF ?_⟩
      refine cmp_at2 od_ne A17 (l3 h3') (by omega) rfl rfl (f := fun z => z.2) (fun z _ => me5_ok rfl) (i2 := 6) rfl (neD_ints3 _ _ _) fun H18 U18 He18 A18 => ⟨false, rfl, iteF ?_⟩
      exact kont _ as' _ _ _ _ _ ⟨q0, q1, q2, _, _, _, _, rfl, rfl, h3', d0, d1, d2⟩ A18
  · rintro S as ws σ8 H8 U8 He8 ⟨p0, p1, p2, v7, v8, v9, v10, rfl, rfl, h3, b0, b1, b2⟩ A8
    have dt : t.d.depth ≤ 60 := by
      have := tree_depth ft
      have := good_ht gt (by omega)
      omega
    have di : (innerT t).d.depth ≤ 60 := by
      have := tree_depth fi
      have h1 := wf_ht wi
      have h2 := small_rank wi (by omega)
      simp at h1
      omega
    refine cmp_at od_eq A8 h3 (by omega) rfl rfl (f := fun w => w.1) (fun w _ => by simp [me_8, mFldT, obV]) l8r_ok (eqD_three (tree_lay ft) (tree_lay fi) dt di) fun v H9 U9 He9 A9 d9 => ?_
    have R9 := A9.R.lessU A9.over A9.mu
    exact q v σ8 H9 He9 A9.grow R9.allNo d9

end
/-! ### what the top has written -/
theorem all_mk {l : PySem.W.OpenLaw} {w : World} {K : PySem.W.Frag} {h : Heap} {mg : Str → Option Value} {fa : Addr} (X : K.In h) (G : h.Ns mainGlobals mg) (hfa : mg "law" = some (.ref fa))
    {wC : Addr} (aC : PySem.W.nsIn K mainGlobals "Walk" = some (some (.ref wC)))
    {f0 : Addr} {od0 an0 : Option Addr} {sl0 : Array (Option Value)} {oc0 kV0 dc0 pm0 cd0 ct0 : Value}
    (a0 : PySem.W.nsIn K mainGlobals "size_of" = some (some (.ref f0))) (l0 : K.lookup f0 = some ⟨oc0, od0, .func (PySem.W.fnOf "size_of" "size_of" (defArgs s_size_of) (defBody s_size_of) (defScope s_size_of) .none kV0 dc0 pm0 an0 cd0 ct0), sl0⟩) (c0 : PySem.W.codeIn K cd0 "size_of" = true) (k0 : PySem.W.keepIn K (.ref f0) = true)
    {f1 : Addr} {od1 an1 : Option Addr} {sl1 : Array (Option Value)} {oc1 kV1 dc1 pm1 cd1 ct1 : Value}
    (a1 : PySem.W.nsIn K mainGlobals "pair_at" = some (some (.ref f1))) (l1 : K.lookup f1 = some ⟨oc1, od1, .func (PySem.W.fnOf "pair_at" "pair_at" (defArgs s_pair_at) (defBody s_pair_at) (defScope s_pair_at) .none kV1 dc1 pm1 an1 cd1 ct1), sl1⟩) (c1 : PySem.W.codeIn K cd1 "pair_at" = true) (k1 : PySem.W.keepIn K (.ref f1) = true)
    {f2 : Addr} {od2 an2 : Option Addr} {sl2 : Array (Option Value)} {oc2 kV2 dc2 pm2 cd2 ct2 : Value}
    (a2 : PySem.W.nsIn K mainGlobals "count_below" = some (some (.ref f2))) (l2 : K.lookup f2 = some ⟨oc2, od2, .func (PySem.W.fnOf "count_below" "count_below" (defArgs s_count_below) (defBody s_count_below) (defScope s_count_below) .none kV2 dc2 pm2 an2 cd2 ct2), sl2⟩) (c2 : PySem.W.codeIn K cd2 "count_below" = true) (k2 : PySem.W.keepIn K (.ref f2) = true)
    {f3 : Addr} {od3 an3 : Option Addr} {sl3 : Array (Option Value)} {oc3 kV3 dc3 pm3 cd3 ct3 : Value}
    (a3 : PySem.W.findIn K (.ref wC) "__init__" = some (some (.ref f3))) (i3 : PySem.W.isFn K (.ref f3) = true) (l3 : K.lookup f3 = some ⟨oc3, od3, .func (PySem.W.fnOf "__init__" "Walk.__init__" (defArgs s_Walk_init) (defBody s_Walk_init) (defScope s_Walk_init) .none kV3 dc3 pm3 an3 cd3 ct3), sl3⟩) (c3 : PySem.W.codeIn K cd3 "Walk.__init__" = true) (k3 : PySem.W.keepIn K (.ref f3) = true)
    {f4 : Addr} {od4 an4 : Option Addr} {sl4 : Array (Option Value)} {oc4 kV4 dc4 pm4 cd4 ct4 : Value}
    (a4 : PySem.W.findIn K (.ref wC) "step" = some (some (.ref f4))) (i4 : PySem.W.isFn K (.ref f4) = true) (l4 : K.lookup f4 = some ⟨oc4, od4, .func (PySem.W.fnOf "step" "Walk.step" (defArgs s_Walk_step) (defBody s_Walk_step) (defScope s_Walk_step) .none kV4 dc4 pm4 an4 cd4 ct4), sl4⟩) (c4 : PySem.W.codeIn K cd4 "Walk.step" = true) (k4 : PySem.W.keepIn K (.ref f4) = true)
    {f5 : Addr} {od5 an5 : Option Addr} {sl5 : Array (Option Value)} {oc5 kV5 dc5 pm5 cd5 ct5 : Value}
    (a5 : PySem.W.findIn K (.ref wC) "back" = some (some (.ref f5))) (i5 : PySem.W.isFn K (.ref f5) = true) (l5 : K.lookup f5 = some ⟨oc5, od5, .func (PySem.W.fnOf "back" "Walk.back" (defArgs s_Walk_back) (defBody s_Walk_back) (defScope s_Walk_back) .none kV5 dc5 pm5 an5 cd5 ct5), sl5⟩) (c5 : PySem.W.codeIn K cd5 "Walk.back" = true) (k5 : PySem.W.keepIn K (.ref f5) = true)
    {f6 : Addr} {od6 an6 : Option Addr} {sl6 : Array (Option Value)} {oc6 kV6 dc6 pm6 cd6 ct6 : Value}
    (a6 : PySem.W.findIn K (.ref wC) "seek" = some (some (.ref f6))) (i6 : PySem.W.isFn K (.ref f6) = true) (l6 : K.lookup f6 = some ⟨oc6, od6, .func (PySem.W.fnOf "seek" "Walk.seek" (defArgs s_Walk_seek) (defBody s_Walk_seek) (defScope s_Walk_seek) .none kV6 dc6 pm6 an6 cd6 ct6), sl6⟩) (c6 : PySem.W.codeIn K cd6 "Walk.seek" = true) (k6 : PySem.W.keepIn K (.ref f6) = true)
    {f7 : Addr} {od7 an7 : Option Addr} {sl7 : Array (Option Value)} {oc7 kV7 dc7 pm7 cd7 ct7 : Value}
    (a7 : PySem.W.nsIn K mainGlobals "_law_cell_at" = some (some (.ref f7))) (l7 : K.lookup f7 = some ⟨oc7, od7, .func (PySem.W.fnOf "_law_cell_at" "_law_cell_at" (defArgs s_law_cell_at) (defBody s_law_cell_at) (defScope s_law_cell_at) .none kV7 dc7 pm7 an7 cd7 ct7), sl7⟩) (c7 : PySem.W.codeIn K cd7 "_law_cell_at" = true) (k7 : PySem.W.keepIn K (.ref f7) = true)
    {f8 : Addr} {od8 an8 : Option Addr} {sl8 : Array (Option Value)} {oc8 kV8 dc8 pm8 cd8 ct8 : Value}
    (a8 : PySem.W.nsIn K mainGlobals "_law_whole" = some (some (.ref f8))) (l8 : K.lookup f8 = some ⟨oc8, od8, .func (PySem.W.fnOf "_law_whole" "_law_whole" (defArgs s_law_whole) (defBody s_law_whole) (defScope s_law_whole) .none kV8 dc8 pm8 an8 cd8 ct8), sl8⟩) (c8 : PySem.W.codeIn K cd8 "_law_whole" = true) (k8 : PySem.W.keepIn K (.ref f8) = true)
    {f9 : Addr} {od9 an9 : Option Addr} {sl9 : Array (Option Value)} {oc9 kV9 dc9 pm9 cd9 ct9 : Value}
    (a9 : PySem.W.nsIn K mainGlobals "_law_text" = some (some (.ref f9))) (l9 : K.lookup f9 = some ⟨oc9, od9, .func (PySem.W.fnOf "_law_text" "_law_text" (defArgs s_law_text) (defBody s_law_text) (defScope s_law_text) .none kV9 dc9 pm9 an9 cd9 ct9), sl9⟩) (c9 : PySem.W.codeIn K cd9 "_law_text" = true) (k9 : PySem.W.keepIn K (.ref f9) = true)
    {f10 : Addr} {od10 an10 : Option Addr} {sl10 : Array (Option Value)} {oc10 kV10 dc10 pm10 cd10 ct10 : Value}
    (a10 : PySem.W.nsIn K mainGlobals "_law_thing" = some (some (.ref f10))) (l10 : K.lookup f10 = some ⟨oc10, od10, .func (PySem.W.fnOf "_law_thing" "_law_thing" (defArgs s_law_thing) (defBody s_law_thing) (defScope s_law_thing) .none kV10 dc10 pm10 an10 cd10 ct10), sl10⟩) (c10 : PySem.W.codeIn K cd10 "_law_thing" = true) (k10 : PySem.W.keepIn K (.ref f10) = true)
    {f11 : Addr} {od11 an11 : Option Addr} {sl11 : Array (Option Value)} {oc11 kV11 dc11 pm11 cd11 ct11 : Value}
    (a11 : PySem.W.nsIn K mainGlobals "_law_rising" = some (some (.ref f11))) (l11 : K.lookup f11 = some ⟨oc11, od11, .func (PySem.W.fnOf "_law_rising" "_law_rising" (defArgs s_law_rising) (defBody s_law_rising) (defScope s_law_rising) .none kV11 dc11 pm11 an11 cd11 ct11), sl11⟩) (c11 : PySem.W.codeIn K cd11 "_law_rising" = true) (k11 : PySem.W.keepIn K (.ref f11) = true)
    {f12 : Addr} {od12 an12 : Option Addr} {sl12 : Array (Option Value)} {oc12 kV12 dc12 pm12 cd12 ct12 : Value}
    (a12 : PySem.W.nsIn K mainGlobals "_law_bits" = some (some (.ref f12))) (l12 : K.lookup f12 = some ⟨oc12, od12, .func (PySem.W.fnOf "_law_bits" "_law_bits" (defArgs s_law_bits) (defBody s_law_bits) (defScope s_law_bits) .none kV12 dc12 pm12 an12 cd12 ct12), sl12⟩) (c12 : PySem.W.codeIn K cd12 "_law_bits" = true) (k12 : PySem.W.keepIn K (.ref f12) = true)
    {f13 : Addr} {od13 an13 : Option Addr} {sl13 : Array (Option Value)} {oc13 kV13 dc13 pm13 cd13 ct13 : Value}
    (a13 : PySem.W.nsIn K mainGlobals "_law_grown" = some (some (.ref f13))) (l13 : K.lookup f13 = some ⟨oc13, od13, .func (PySem.W.fnOf "_law_grown" "_law_grown" (defArgs s_law_grown) (defBody s_law_grown) (defScope s_law_grown) .none kV13 dc13 pm13 an13 cd13 ct13), sl13⟩) (c13 : PySem.W.codeIn K cd13 "_law_grown" = true) (k13 : PySem.W.keepIn K (.ref f13) = true)
    {f14 : Addr} {od14 an14 : Option Addr} {sl14 : Array (Option Value)} {oc14 kV14 dc14 pm14 cd14 ct14 : Value}
    (a14 : PySem.W.nsIn K mainGlobals "_law_many" = some (some (.ref f14))) (l14 : K.lookup f14 = some ⟨oc14, od14, .func (PySem.W.fnOf "_law_many" "_law_many" (defArgs s_law_many) (defBody s_law_many) (defScope s_law_many) .none kV14 dc14 pm14 an14 cd14 ct14), sl14⟩) (c14 : PySem.W.codeIn K cd14 "_law_many" = true) (k14 : PySem.W.keepIn K (.ref f14) = true)
    {f15 : Addr} {od15 an15 : Option Addr} {sl15 : Array (Option Value)} {oc15 kV15 dc15 pm15 cd15 ct15 : Value}
    (a15 : PySem.W.nsIn K mainGlobals "_law_tree" = some (some (.ref f15))) (l15 : K.lookup f15 = some ⟨oc15, od15, .func (PySem.W.fnOf "_law_tree" "_law_tree" (defArgs s_law_tree) (defBody s_law_tree) (defScope s_law_tree) .none kV15 dc15 pm15 an15 cd15 ct15), sl15⟩) (c15 : PySem.W.codeIn K cd15 "_law_tree" = true) (k15 : PySem.W.keepIn K (.ref f15) = true)
    {f16 : Addr} {od16 an16 : Option Addr} {sl16 : Array (Option Value)} {oc16 kV16 dc16 pm16 cd16 ct16 : Value}
    (a16 : PySem.W.nsIn K mainGlobals "_law_key_by" = some (some (.ref f16))) (l16 : K.lookup f16 = some ⟨oc16, od16, .func (PySem.W.fnOf "_law_key_by" "_law_key_by" (defArgs s_law_key_by) (defBody s_law_key_by) (defScope s_law_key_by) .none kV16 dc16 pm16 an16 cd16 ct16), sl16⟩) (c16 : PySem.W.codeIn K cd16 "_law_key_by" = true) (k16 : PySem.W.keepIn K (.ref f16) = true)
    {f17 : Addr} {od17 an17 : Option Addr} {sl17 : Array (Option Value)} {oc17 kV17 dc17 pm17 cd17 ct17 : Value}
    (a17 : PySem.W.nsIn K mainGlobals "_law_alike" = some (some (.ref f17))) (l17 : K.lookup f17 = some ⟨oc17, od17, .func (PySem.W.fnOf "_law_alike" "_law_alike" (defArgs s_law_alike) (defBody s_law_alike) (defScope s_law_alike) .none kV17 dc17 pm17 an17 cd17 ct17), sl17⟩) (c17 : PySem.W.codeIn K cd17 "_law_alike" = true) (k17 : PySem.W.keepIn K (.ref f17) = true)
    {f18 : Addr} {od18 an18 : Option Addr} {sl18 : Array (Option Value)} {oc18 kV18 dc18 pm18 cd18 ct18 : Value}
    (a18 : PySem.W.nsIn K mainGlobals "_law_same" = some (some (.ref f18))) (l18 : K.lookup f18 = some ⟨oc18, od18, .func (PySem.W.fnOf "_law_same" "_law_same" (defArgs s_law_same) (defBody s_law_same) (defScope s_law_same) .none kV18 dc18 pm18 an18 cd18 ct18), sl18⟩) (c18 : PySem.W.codeIn K cd18 "_law_same" = true) (k18 : PySem.W.keepIn K (.ref f18) = true)
    {f19 : Addr} {od19 an19 : Option Addr} {sl19 : Array (Option Value)} {oc19 kV19 dc19 pm19 cd19 ct19 : Value}
    (a19 : PySem.W.nsIn K mainGlobals "_law_pair" = some (some (.ref f19))) (l19 : K.lookup f19 = some ⟨oc19, od19, .func (PySem.W.fnOf "_law_pair" "_law_pair" (defArgs s_law_pair) (defBody s_law_pair) (defScope s_law_pair) .none kV19 dc19 pm19 an19 cd19 ct19), sl19⟩) (c19 : PySem.W.codeIn K cd19 "_law_pair" = true) (k19 : PySem.W.keepIn K (.ref f19) = true)
    {f20 : Addr} {od20 an20 : Option Addr} {sl20 : Array (Option Value)} {oc20 kV20 dc20 pm20 cd20 ct20 : Value}
    (a20 : PySem.W.nsIn K mainGlobals "_law_moved" = some (some (.ref f20))) (l20 : K.lookup f20 = some ⟨oc20, od20, .func (PySem.W.fnOf "_law_moved" "_law_moved" (defArgs s_law_moved) (defBody s_law_moved) (defScope s_law_moved) .none kV20 dc20 pm20 an20 cd20 ct20), sl20⟩) (c20 : PySem.W.codeIn K cd20 "_law_moved" = true) (k20 : PySem.W.keepIn K (.ref f20) = true)
    {f21 : Addr} {od21 an21 : Option Addr} {sl21 : Array (Option Value)} {oc21 kV21 dc21 pm21 cd21 ct21 : Value}
    (a21 : PySem.W.nsIn K mainGlobals "law" = some (some (.ref f21))) (l21 : K.lookup f21 = some ⟨oc21, od21, .func (PySem.W.fnOf "law" "law" (defArgs s_law) (defBody s_law) (defScope s_law) .none kV21 dc21 pm21 an21 cd21 ct21), sl21⟩) (c21 : PySem.W.codeIn K cd21 "law" = true) (k21 : PySem.W.keepIn K (.ref f21) = true)
    (z0 : PySem.W.nsIn K mainGlobals "bool" = some none)
    (z1 : PySem.W.nsIn K mainGlobals "int" = some none)
    (z2 : PySem.W.nsIn K mainGlobals "isinstance" = some none)
    (z3 : PySem.W.nsIn K mainGlobals "len" = some none)
    (z4 : PySem.W.nsIn K mainGlobals "max" = some none)
    (z5 : PySem.W.nsIn K mainGlobals "min" = some none)
    (z6 : PySem.W.nsIn K mainGlobals "range" = some none)
    (z7 : PySem.W.nsIn K mainGlobals "tuple" = some none)
    (pg : PySem.W.plainGet K wC Str.empty = true)
    (hd : PySem.W.hasDictIn K wC = true)
    (po : PySem.W.plainOver K wC = true)
    (sa : PySem.W.findIn K (.ref wC) "__setattr__" = some (some (.builtin "object.__setattr__")))
    (mk : PySem.W.makesIn K wC = true)
    (kc : PySem.W.keepIn K (.ref wC) = true)
    (nT : PySem.W.findIn K (.ref wC) "tree" = some none)
    (nP : PySem.W.findIn K (.ref wC) "place" = some none)
    {C2 : Addr}
    (ea2 : PySem.W.nsIn K mainGlobals "NoPlace" = some (some (.ref C2)))
    (ex2 : PySem.W.excIn K C2 [.type "ValueError", .type "Exception", .type "BaseException", .type "object"] "ValueError.__new__" = true)
    (ek2 : PySem.W.keepIn K (.ref C2) = true)
    (eb2 : PySem.W.subIn K (.ref C2) (.type "BaseException") = some true)
    (et2 : PySem.W.typeIn K (.ref C2) = some (.type "type"))
    (ei2 : PySem.W.isClsIn K C2 = true)
    : ∃ fd : FuncData, (∀ (s : Shared) (v : Value), BindsTo s fd ⟨[v], []⟩ [("_law_script", v)]) ∧ ∀ base : Heap, K.In base → base.Ns mainGlobals mg → FnOk l.prog w K mg base (L2N.CX l.prog w) 28 fa fd ["_law_script"] (spF K noCls F_law) := by
  have e := hfa.symm.trans (PySem.W.mg_of X G a21)
  cases e
  have F0 := fun_mk (st := s_size_of) l0 c0 k0
  have b0 := F0.binds (ps := ["tree"]) fun _ _ _ _ _ _ us hl => match us, hl with | [_], _ => rfl
  have F1 := fun_mk (st := s_pair_at) l1 c1 k1
  have b1 := F1.binds (ps := ["tree", "place"]) fun _ _ _ _ _ _ us hl => match us, hl with | [_, _], _ => rfl
  have F2 := fun_mk (st := s_count_below) l2 c2 k2
  have b2 := F2.binds (ps := ["tree", "key"]) fun _ _ _ _ _ _ us hl => match us, hl with | [_, _], _ => rfl
  have F3 := fun_mk (st := s_Walk_init) l3 c3 k3
  have b3 := F3.binds (ps := ["self", "tree"]) fun _ _ _ _ _ _ us hl => match us, hl with | [_, _], _ => rfl
  have F4 := fun_mk (st := s_Walk_step) l4 c4 k4
  have b4 := F4.binds (ps := ["self"]) fun _ _ _ _ _ _ us hl => match us, hl with | [_], _ => rfl
  have F5 := fun_mk (st := s_Walk_back) l5 c5 k5
  have b5 := F5.binds (ps := ["self"]) fun _ _ _ _ _ _ us hl => match us, hl with | [_], _ => rfl
  have F6 := fun_mk (st := s_Walk_seek) l6 c6 k6
  have b6 := F6.binds (ps := ["self", "key"]) fun _ _ _ _ _ _ us hl => match us, hl with | [_, _], _ => rfl
  have F7 := fun_mk (st := s_law_cell_at) l7 c7 k7
  have b7 := F7.binds (ps := ["_law_script", "_law_k"]) fun _ _ _ _ _ _ us hl => match us, hl with | [_, _], _ => rfl
  have F8 := fun_mk (st := s_law_whole) l8 c8 k8
  have b8 := F8.binds (ps := ["_law_told"]) fun _ _ _ _ _ _ us hl => match us, hl with | [_], _ => rfl
  have F9 := fun_mk (st := s_law_text) l9 c9 k9
  have b9 := F9.binds (ps := ["_law_cell", "_law_size"]) fun _ _ _ _ _ _ us hl => match us, hl with | [_, _], _ => rfl
  have F10 := fun_mk (st := s_law_thing) l10 c10 k10
  have b10 := F10.binds (ps := ["_law_cell"]) fun _ _ _ _ _ _ us hl => match us, hl with | [_], _ => rfl
  have F11 := fun_mk (st := s_law_rising) l11 c11 k11
  have b11 := F11.binds (ps := ["_law_cell", "_law_many_here"]) fun _ _ _ _ _ _ us hl => match us, hl with | [_, _], _ => rfl
  have F12 := fun_mk (st := s_law_bits) l12 c12 k12
  have b12 := F12.binds (ps := ["_law_cell", "_law_many_here"]) fun _ _ _ _ _ _ us hl => match us, hl with | [_, _], _ => rfl
  have F13 := fun_mk (st := s_law_grown) l13 c13 k13
  have b13 := F13.binds (ps := ["_law_bits_here", "_law_pairs", "_law_rank", "_law_under"]) fun _ _ _ _ _ _ us hl => match us, hl with | [_, _, _, _], _ => rfl
  have F14 := fun_mk (st := s_law_many) l14 c14 k14
  have b14 := F14.binds (ps := ["_law_tree_here"]) fun _ _ _ _ _ _ us hl => match us, hl with | [_], _ => rfl
  have F15 := fun_mk (st := s_law_tree) l15 c15 k15
  have b15 := F15.binds (ps := ["_law_script"]) fun _ _ _ _ _ _ us hl => match us, hl with | [_], _ => rfl
  have F16 := fun_mk (st := s_law_key_by) l16 c16 k16
  have b16 := F16.binds (ps := ["_law_listed", "_law_way", "_law_cell"]) fun _ _ _ _ _ _ us hl => match us, hl with | [_, _, _], _ => rfl
  have F17 := fun_mk (st := s_law_alike) l17 c17 k17
  have b17 := F17.binds (ps := ["_law_told", "_law_due"]) fun _ _ _ _ _ _ us hl => match us, hl with | [_, _], _ => rfl
  have F18 := fun_mk (st := s_law_same) l18 c18 k18
  have b18 := F18.binds (ps := ["_law_pairs", "_law_due"]) fun _ _ _ _ _ _ us hl => match us, hl with | [_, _], _ => rfl
  have F19 := fun_mk (st := s_law_pair) l19 c19 k19
  have b19 := F19.binds (ps := ["_law_told", "_law_due"]) fun _ _ _ _ _ _ us hl => match us, hl with | [_, _], _ => rfl
  have F20 := fun_mk (st := s_law_moved) l20 c20 k20
  have b20 := F20.binds (ps := ["_law_walk", "_law_listed", "_law_place", "_law_cell"]) fun _ _ _ _ _ _ us hl => match us, hl with | [_, _, _, _], _ => rfl
  have F21 := fun_mk (st := s_law) l21 c21 k21
  have b21 := F21.binds (ps := ["_law_script"]) fun _ _ _ _ _ _ us hl => match us, hl with | [_], _ => rfl
  let T : Txt K mg (fun n => match n with | 2 => .ref C2 | _ => .none) := ⟨⟨_, _, F0, b0, PySem.W.mg_of X G a0⟩, ⟨_, _, F1, b1, PySem.W.mg_of X G a1⟩, ⟨_, _, F2, b2, PySem.W.mg_of X G a2⟩, ⟨_, _, F3, b3⟩, ⟨_, _, F4, b4⟩, ⟨_, _, F5, b5⟩, ⟨_, _, F6, b6⟩, ⟨_, _, F7, b7, PySem.W.mg_of X G a7⟩, ⟨_, _, F8, b8, PySem.W.mg_of X G a8⟩, ⟨_, _, F9, b9, PySem.W.mg_of X G a9⟩, ⟨_, _, F10, b10, PySem.W.mg_of X G a10⟩, ⟨_, _, F11, b11, PySem.W.mg_of X G a11⟩, ⟨_, _, F12, b12, PySem.W.mg_of X G a12⟩, ⟨_, _, F13, b13, PySem.W.mg_of X G a13⟩, ⟨_, _, F14, b14, PySem.W.mg_of X G a14⟩, ⟨_, _, F15, b15, PySem.W.mg_of X G a15⟩, ⟨_, _, F16, b16, PySem.W.mg_of X G a16⟩, ⟨_, _, F17, b17, PySem.W.mg_of X G a17⟩, ⟨_, _, F18, b18, PySem.W.mg_of X G a18⟩, ⟨_, _, F19, b19, PySem.W.mg_of X G a19⟩, ⟨_, _, F20, b20, PySem.W.mg_of X G a20⟩, ⟨_, _, F21, b21, PySem.W.mg_of X G a21⟩, ⟨C2, rfl, PySem.W.mg_of X G ea2, ex2, ek2, eb2, et2, ei2⟩, PySem.W.mg_none_of X G z0, PySem.W.mg_none_of X G z1, PySem.W.mg_none_of X G z2, PySem.W.mg_none_of X G z3, PySem.W.mg_none_of X G z4, PySem.W.mg_none_of X G z5, PySem.W.mg_none_of X G z6, PySem.W.mg_none_of X G z7, wC, aC, PySem.W.mg_of X G aC, ⟨pg, hd, po, sa⟩, nT, nP, ⟨mk, a3, i3, kc⟩, ⟨a4, i4, k4⟩, ⟨a5, i5, k5⟩, ⟨a6, i6, k6⟩⟩
  exact ⟨_, fun s v => .of_eq rfl, fun base _ _ => fn_nox (ok_law T) runF_nox⟩
end Rp
end
open PySem PySem.W PyProof.Rows
set_option maxHeartbeats 0 in
theorem PySem.Challenge.cw_redpaint_k12_walks_holds : PySem.Challenge.rw_redpaint_k12_walks.Holds := by
  w_on; o_law; k_head; (case hw => w_witness2)
  k_fill
  refine L2.walk_ofB (l := PySem.Challenge.rw_redpaint_k12_walks) (n := 63) (k := 28) (x := "_law_script") (CX := fun w => L2N.CX PySem.Challenge.rw_redpaint_k12_walks.prog w) (sp := fun w => Rp.spF _ Rp.noCls Rp.F_law) rfl (by decide) rfl ⟨rfl, by decide, by decide⟩ (fun w h Y => PySem.W.kIn_of Y) ?F (fun w H a ns hl hb _ hS => Rp.law_sp (Rp.law_true ns hl hb) hS) (fun w H s e s' h => Rp.law_cx h)
  case F =>
    intro w mg fa h KX G hmg
    refine' Rp.all_mk KX G hmg ?aC ?a0 ?l0 ?c0 ?k0 ?a1 ?l1 ?c1 ?k1 ?a2 ?l2 ?c2 ?k2 ?a3 ?i3 ?l3 ?c3 ?k3 ?a4 ?i4 ?l4 ?c4 ?k4 ?a5 ?i5 ?l5 ?c5 ?k5 ?a6 ?i6 ?l6 ?c6 ?k6 ?a7 ?l7 ?c7 ?k7 ?a8 ?l8 ?c8 ?k8 ?a9 ?l9 ?c9 ?k9 ?a10 ?l10 ?c10 ?k10 ?a11 ?l11 ?c11 ?k11 ?a12 ?l12 ?c12 ?k12 ?a13 ?l13 ?c13 ?k13 ?a14 ?l14 ?c14 ?k14 ?a15 ?l15 ?c15 ?k15 ?a16 ?l16 ?c16 ?k16 ?a17 ?l17 ?c17 ?k17 ?a18 ?l18 ?c18 ?k18 ?a19 ?l19 ?c19 ?k19 ?a20 ?l20 ?c20 ?k20 ?a21 ?l21 ?c21 ?k21 ?z0 ?z1 ?z2 ?z3 ?z4 ?z5 ?z6 ?z7 ?pg ?hd ?po ?sa ?mk ?kc ?nT ?nP ?ea2 ?ex2 ?ek2 ?eb2 ?et2 ?ei2
    (case aC => k_is); (case a0 => k_is); (case l0 => k_is); (case c0 => k_is); (case k0 => k_is); (case a1 => k_is); (case l1 => k_is); (case c1 => k_is); (case k1 => k_is); (case a2 => k_is); (case l2 => k_is); (case c2 => k_is); (case k2 => k_is); (case a3 => k_is); (case i3 => k_is); (case l3 => k_is); (case c3 => k_is); (case k3 => k_is); (case a4 => k_is); (case i4 => k_is); (case l4 => k_is); (case c4 => k_is); (case k4 => k_is); (case a5 => k_is); (case i5 => k_is); (case l5 => k_is); (case c5 => k_is); (case k5 => k_is); (case a6 => k_is); (case i6 => k_is); (case l6 => k_is); (case c6 => k_is); (case k6 => k_is); (case a7 => k_is); (case l7 => k_is); (case c7 => k_is); (case k7 => k_is); (case a8 => k_is); (case l8 => k_is); (case c8 => k_is); (case k8 => k_is); (case a9 => k_is); (case l9 => k_is); (case c9 => k_is); (case k9 => k_is); (case a10 => k_is); (case l10 => k_is); (case c10 => k_is); (case k10 => k_is); (case a11 => k_is); (case l11 => k_is); (case c11 => k_is); (case k11 => k_is); (case a12 => k_is); (case l12 => k_is); (case c12 => k_is); (case k12 => k_is); (case a13 => k_is); (case l13 => k_is); (case c13 => k_is); (case k13 => k_is); (case a14 => k_is); (case l14 => k_is); (case c14 => k_is); (case k14 => k_is); (case a15 => k_is); (case l15 => k_is); (case c15 => k_is); (case k15 => k_is); (case a16 => k_is); (case l16 => k_is); (case c16 => k_is); (case k16 => k_is); (case a17 => k_is); (case l17 => k_is); (case c17 => k_is); (case k17 => k_is); (case a18 => k_is); (case l18 => k_is); (case c18 => k_is); (case k18 => k_is); (case a19 => k_is); (case l19 => k_is); (case c19 => k_is); (case k19 => k_is); (case a20 => k_is); (case l20 => k_is); (case c20 => k_is); (case k20 => k_is); (case a21 => k_is); (case l21 => k_is); (case c21 => k_is); (case k21 => k_is); (case z0 => k_is); (case z1 => k_is); (case z2 => k_is); (case z3 => k_is); (case z4 => k_is); (case z5 => k_is); (case z6 => k_is); (case z7 => k_is); (case pg => k_is); (case hd => k_is); (case po => k_is); (case sa => k_is); (case mk => k_is); (case kc => k_is); (case nT => k_is); (case nP => k_is); (case ea2 => k_is); (case ex2 => k_exc); (case ek2 => k_is); (case eb2 => k_is); (case et2 => k_is); (case ei2 => k_is)

