import PyProof.Rows.All
import Wide.All
import OpenK.AllK
import Wide.FinOn
import PyProof.EqAt
import PyProof.ReprRoads
import HandS.ForMost
import HandS.Exc
import HandS.WordsExc
import HandS.IsInst
import HandS.Wide
import HandS.Defaults
import HandS.Zip
import HandS.Evl
import HandS.HeadHook1
import HandS.ExcInit
import HandS.HeadHook4
import HandS.Lambda
import HandS.TryOnly
import HandS.HeadHook2
import HandS.Head0
import HandS.Head1
import HandS.Head2
import HandS.HeadEnd
import KE.KStateDown
import HandS.Style
import PyProof.P3Eq
import HandS.Zip0
import PyProof.LongRange
import PyProof.EnumMake
import HandS.List
import KE.KExcSuper
import HandS.FStr
import HandS.HeadHook3
import HandS.ExcField
import HandS.ExcIs
import KE.KExcIs
import KE.KDflt
import HandS.Sort
import KE.GoesRaise
import HandS.OwnEq
import KE.KSuper
import HandS.Star
import HandS.ClsMeth
import PySem.Challenge.RW_timesfloor_k61_whole_one_line_at_each_st
set_option Elab.async false
set_option linter.all false
set_option maxRecDepth 100000
set_option maxHeartbeats 4000000
/-! DL: plain data over the abstract heap. A value stands for a datum D; what may change stands in a store G. -/
namespace DL
open PySem PySem.Spec PyProof.Rows L2 Evl

/-! ## Data -/
inductive D where
  | non | bl (b : Bool) | int (i : Int) | str (x : Str) | ty (n : String) | ref (a : Addr)
  | tup (xs : List D) | lst (xs : List D) | dct (ks : List Key) (xs : List D) | ins (C : Str) (ns : List Str) (xs : List D)
  /-- an exception that is held -/
  | exc (C : Str) (ns : List Str) (xs : List D)
  /-- a def of the top, as a value -/
  | fnc (x : Str)
/-- the object of an exception, as far as it is told -/
def exh (a C d : Addr) : HO := .ext fun h => ∃ o vs, h.get? a = some o ∧ o.cls = .ref C ∧ o.dict = some d ∧ o.data = .fields vs

mutual
/-- v stands for d over the heap H of what never changes -/
inductive Rp (K : PySem.W.Frag) (H : Hp) : V → D → Prop
  | non : Rp K H .non .non
  | bl (b : Bool) : Rp K H (.bl b) (.bl b)
  | int (i : Int) : Rp K H (.int i) (.int i)
  | str (x : Str) : Rp K H (.str x) (.str x)
  | ty (n : String) : Rp K H (.ty n) (.ty n)
  | ref (a : Addr) : Rp K H (.ref a) (.ref a)
  | tup {a : Addr} {xs : List V} {ds : List D} : SqT K H a xs → RpL K H xs ds → Rp K H (.ref a) (.tup ds)
  | lst {a : Addr} {xs : List V} {ds : List D} : SqL K H a xs → RpL K H xs ds → Rp K H (.ref a) (.lst ds)
  | dct {a : Addr} {ks : List Key} {xs : List V} {ds : List D} : H a = some (.dK (ks.zip xs)) → ks.length = xs.length → RpL K H xs ds → Rp K H (.ref a) (.dct ks ds)
  | ins {a dx : Addr} {C : Str} {ns : List Str} {xs : List V} {ds : List D} : H a = some (.ins (He.ga K C) dx (ns.zip xs)) → ns.length = xs.length → RpL K H xs ds → Rp K H (.ref a) (.ins C ns ds)
  | exc {a d : Addr} {C : Str} {ns : List Str} {xs : List V} {ds : List D} : H a = some (exh a (He.ga K C) d) → H d = some (.xd (ns.zip xs)) → ns.length = xs.length → RpL K H xs ds → Rp K H (.ref a) (.exc C ns ds)
  | fnc (x : Str) : Rp K H (.ref (He.ga K x)) (.fnc x)
inductive RpL (K : PySem.W.Frag) (H : Hp) : List V → List D → Prop
  | nil : RpL K H [] []
  | cons {v : V} {vs : List V} {d : D} {ds : List D} : Rp K H v d → RpL K H vs ds → RpL K H (v :: vs) (d :: ds)
end

section
variable {K : PySem.W.Frag} {H H' : Hp}
mutual
theorem Rp.mono (e : Ex H H') : ∀ {v : V} {d : D}, Rp K H v d → Rp K H' v d
  | _, _, .non => .non
  | _, _, .bl b => .bl b
  | _, _, .int i => .int i
  | _, _, .str x => .str x
  | _, _, .ty n => .ty n
  | _, _, .ref a => .ref a
  | _, _, .tup s r => .tup (ex_t e s) (RpL.mono e r)
  | _, _, .lst s r => .lst (ex_l e s) (RpL.mono e r)
  | _, _, .dct s z r => .dct (e _ _ s) z (RpL.mono e r)
  | _, _, .ins s z r => .ins (e _ _ s) z (RpL.mono e r)
  | _, _, .exc s s2 z r => .exc (e _ _ s) (e _ _ s2) z (RpL.mono e r)
  | _, _, .fnc x => .fnc x
theorem RpL.mono (e : Ex H H') : ∀ {vs : List V} {ds : List D}, RpL K H vs ds → RpL K H' vs ds
  | _, _, .nil => .nil
  | _, _, .cons a b => .cons (Rp.mono e a) (RpL.mono e b)
end
theorem RpL.length : ∀ {vs : List V} {ds : List D}, RpL K H vs ds → vs.length = ds.length
  | _, _, .nil => rfl
  | _, _, .cons _ b => congrArg (· + 1) (RpL.length b)
theorem RpL.app : ∀ {vs ws : List V} {ds es : List D}, RpL K H vs ds → RpL K H ws es → RpL K H (vs ++ ws) (ds ++ es)
  | _, _, _, _, .nil, h => h
  | _, _, _, _, .cons a b, h => .cons a (RpL.app b h)
theorem RpL.at : ∀ {vs : List V} {ds : List D} {i : Nat} {d : D}, RpL K H vs ds → ds[i]? = some d → ∃ v, vs[i]? = some v ∧ Rp K H v d
  | _, _, _, _, .nil, h => nomatch h
  | _, _, 0, _, .cons a _, h => ⟨_, rfl, by cases Option.some.inj h; exact a⟩
  | _, _, i + 1, _, .cons _ b, h => RpL.at (i := i) b h
theorem RpL.atV : ∀ {vs : List V} {ds : List D} {i : Nat} {v : V}, RpL K H vs ds → vs[i]? = some v → ∃ d, ds[i]? = some d ∧ Rp K H v d
  | _, _, _, _, .nil, h => nomatch h
  | _, _, 0, _, .cons a _, h => ⟨_, rfl, by cases Option.some.inj h; exact a⟩
  | _, _, i + 1, _, .cons _ b, h => RpL.atV (i := i) b h
theorem RpL.take : ∀ {vs : List V} {ds : List D} (n : Nat), RpL K H vs ds → RpL K H (vs.take n) (ds.take n)
  | _, _, 0, _ => .nil
  | _, _, _ + 1, .nil => .nil
  | _, _, n + 1, .cons a b => .cons a (RpL.take n b)
theorem RpL.drop : ∀ {vs : List V} {ds : List D} (n : Nat), RpL K H vs ds → RpL K H (vs.drop n) (ds.drop n)
  | _, _, 0, h => h
  | _, _, _ + 1, .nil => .nil
  | _, _, n + 1, .cons _ b => RpL.drop n b
theorem RpL.set : ∀ {vs : List V} {ds : List D} {v : V} {d : D} (i : Nat), Rp K H v d → RpL K H vs ds → RpL K H (vs.set i v) (ds.set i d)
  | _, _, _, _, _, _, .nil => .nil
  | _, _, _, _, 0, h, .cons _ b => .cons h b
  | _, _, _, _, i + 1, h, .cons a b => .cons a (RpL.set i h b)
end

/-! ## What may change -/
inductive Mt where
  | lst (xs : List D) | ins (C : Str) (ns : List Str) (xs : List D) | gau (T : Nat)
  /-- a def's table of code objects, all of the name q -/
  | tab (q : Str)
/-- the defs of the top that make lambdas -/
class TabC where
  tf : List Str
def lamQ (n : Str) : Str := n ++ ".<locals>." ++ "<lambda>"
/-- their tables -/
def tabT [TabC] (K : PySem.W.Frag) : List (Addr × Str) := (TabC.tf).map fun n => ((He.cT K (n, none)).2, lamQ n)
def TabD (Hd H : Hp) (P : Addr) (q : Str) : Prop := ∃ ps : Array Value, H P = some (.tbl ps) ∧ TriplesOk ps.toList ∧ ∀ (pos : Pos) (cv : Value), codeAmong pos ps.toList = some cv → ∃ c, cv = .ref c ∧ Hd c = some (LamX.CodeO c q)
variable [TabC]
abbrev Gm := Addr → Option Mt
def gup (G : Gm) (a : Addr) (m : Mt) : Gm := fun b => if b = a then some m else G b
theorem gup_same {G : Gm} {a : Addr} {m : Mt} : gup G a m a = some m := if_pos rfl
theorem gup_ne {G : Gm} {a b : Addr} {m : Mt} (h : b ≠ a) : gup G a m b = G b := if_neg h
theorem gup_gup {G : Gm} {a : Addr} {m n : Mt} : gup (gup G a m) a n = gup G a n := by
  funext b
  unfold gup
  split <;> rfl
/-- the drawing list: its cells (frozen), a count of at most T, a rest -/
def HoldM (K : PySem.W.Frag) (Hd H : Hp) (a : Addr) : Mt → Prop
  | .lst ds => ∃ xs, H a = some (.lst xs) ∧ RpL K Hd xs ds
  | .ins C ns ds => ∃ dx xs, H a = some (.ins (He.ga K C) dx (ns.zip xs)) ∧ ns.length = xs.length ∧ RpL K Hd xs ds
  | .tab q => TabD Hd H a q
  | .gau T => ∃ (l : Addr) (t : Nat) (r : Int) (cs : List Int), H a = some (.lst [.ref l, .int t, .int r]) ∧ Hd l = some (.lst (cs.map V.int)) ∧ cs.length ≤ 63 ∧ t ≤ T ∧ 0 ≤ r
/-- F: what others keep in their store -/
structure Sim (K : PySem.W.Frag) (F : Gm) (Hd H : Hp) (G : Gm) : Prop where
  sub : Ex Hd H
  off : ∀ a m, G a = some m → Hd a = none
  hold : ∀ a m, G a = some m → HoldM K Hd H a m
  offF : ∀ a m, F a = some m → Hd a = none
  holdF : ∀ a m, F a = some m → HoldM K Hd H a m
  apart : ∀ a m, F a = some m → G a = none
  tabs : ∀ p ∈ tabT K, F p.1 = some (.tab p.2)
theorem HoldM.mono {K : PySem.W.Frag} {Hd Hd' H : Hp} {a : Addr} (e : Ex Hd Hd') : ∀ {m : Mt}, HoldM K Hd H a m → HoldM K Hd' H a m
  | .lst _, ⟨xs, h, r⟩ => ⟨xs, h, r.mono e⟩
  | .ins _ _ _, ⟨dx, xs, h, z, r⟩ => ⟨dx, xs, h, z, r.mono e⟩
  | .gau _, ⟨l, t, r, cs, h, hl, z⟩ => ⟨l, t, r, cs, h, e _ _ hl, z⟩
  | .tab _, ⟨ps, h, ht, hc⟩ => ⟨ps, h, ht, fun pos cv z => let ⟨c, e1, e2⟩ := hc pos cv z; ⟨c, e1, e _ _ e2⟩⟩
theorem HoldM.there {K : PySem.W.Frag} {Hd H : Hp} {a : Addr} : ∀ {m : Mt}, HoldM K Hd H a m → ∃ o, H a = some o
  | .lst _, ⟨_, h, _⟩ => ⟨_, h⟩
  | .ins _ _ _, ⟨_, _, h, _⟩ => ⟨_, h⟩
  | .gau _, ⟨_, _, _, _, h, _⟩ => ⟨_, h⟩
  | .tab _, ⟨_, h, _⟩ => ⟨_, h⟩
/-- the same but at the object p of the heap, which no part of the store is -/
theorem HoldM.other {K : PySem.W.Frag} {Hd H : Hp} {a p : Addr} {o : HO} (hp : a ≠ p) : ∀ {m : Mt}, HoldM K Hd H a m → HoldM K Hd (upd H p o) a m
  | .lst _, ⟨xs, h, r⟩ => ⟨xs, by rw [upd_ne hp]; exact h, r⟩
  | .ins _ _ _, ⟨dx, xs, h, z⟩ => ⟨dx, xs, by rw [upd_ne hp]; exact h, z⟩
  | .gau _, ⟨l, t, r, cs, h, z⟩ => ⟨l, t, r, cs, by rw [upd_ne hp]; exact h, z⟩
  | .tab _, ⟨ps, h, z⟩ => ⟨ps, by rw [upd_ne hp]; exact h, z⟩
section
variable {K : PySem.W.Frag} {F : Gm} {Hd H : Hp} {G : Gm}
theorem Sim.free (S : Sim K F Hd H G) {p : Addr} (h : H p = none) : Hd p = none := fresh_back S.sub h
theorem Sim.gfree (S : Sim K F Hd H G) {p : Addr} (h : H p = none) : G p = none := by
  cases e : G p with
  | none => rfl
  | some m =>
    obtain ⟨o, q⟩ := (S.hold p m e).there
    rw [h] at q
    cases q
theorem Sim.ffree (S : Sim K F Hd H G) {p : Addr} (h : H p = none) : F p = none := by
  cases e : F p with
  | none => rfl
  | some m =>
    obtain ⟨o, q⟩ := (S.holdF p m e).there
    rw [h] at q
    cases q
theorem ne_g {G : Gm} {a p : Addr} {m : Mt} (e : G a = some m) (h : G p = none) : a ≠ p := fun z => by
  rw [z, h] at e
  cases e
/-- a new object that never changes -/
theorem Sim.new (S : Sim K F Hd H G) {p : Addr} {o : HO} (h : H p = none) : Sim K F (upd Hd p o) (upd H p o) G where
  sub := fun a u e => by
    by_cases q : a = p
    · subst q
      rw [upd_same] at e ⊢
      exact e
    · rw [upd_ne q] at e ⊢
      exact S.sub a u e
  off := fun a m e => by
    rw [upd_ne (ne_g e (S.gfree h))]
    exact S.off a m e
  hold := fun a m e => ((S.hold a m e).mono (Ex.new (S.free h))).other (ne_g e (S.gfree h))
  offF := fun a m e => by
    rw [upd_ne (ne_g e (S.ffree h))]
    exact S.offF a m e
  holdF := fun a m e => ((S.holdF a m e).mono (Ex.new (S.free h))).other (ne_g e (S.ffree h))
  apart := S.apart
  tabs := S.tabs
theorem Sim.exn (S : Sim K F Hd H G) {p : Addr} {o : HO} (h : H p = none) : Ex Hd (upd Hd p o) := Ex.new (S.free h)
/-- an object beside: tracked, of no matter -/
theorem Sim.side (S : Sim K F Hd H G) {p : Addr} {o : HO} (h : H p = none) : Sim K F Hd (upd H p o) G where
  sub := S.sub.trans (Ex.new h)
  off := S.off
  hold := fun a m e => (S.hold a m e).other (ne_g e (S.gfree h))
  offF := S.offF
  holdF := fun a m e => (S.holdF a m e).other (ne_g e (S.ffree h))
  apart := S.apart
  tabs := S.tabs
/-- the object p of the heap and its part n of the store are set -/
theorem Sim.setG (S : Sim K F Hd H G) {p : Addr} {o : HO} {n : Mt} (hs : Ex Hd (upd H p o)) (hd : Hd p = none) (hf : F p = none) (hm : HoldM K Hd (upd H p o) p n) : Sim K F Hd (upd H p o) (gup G p n) where
  sub := hs
  off := fun a k e => by
    by_cases q : a = p
    · rw [q]
      exact hd
    · rw [gup_ne q] at e
      exact S.off a k e
  hold := fun a k e => by
    by_cases q : a = p
    · subst q
      rw [gup_same] at e
      cases e
      exact hm
    · rw [gup_ne q] at e
      exact (S.hold a k e).other q
  offF := S.offF
  holdF := fun a m e => (S.holdF a m e).other (ne_g e hf)
  apart := fun a m e => by
    rw [gup_ne (ne_g e hf)]
    exact S.apart a m e
  tabs := S.tabs
/-- a new object that may change -/
theorem Sim.cell (S : Sim K F Hd H G) {p : Addr} {o : HO} {m : Mt} (h : H p = none) (hm : HoldM K Hd (upd H p o) p m) : Sim K F Hd (upd H p o) (gup G p m) :=
  S.setG (S.sub.trans (Ex.new h)) (S.free h) (S.ffree h) hm
theorem Sim.gf (S : Sim K F Hd H G) {p : Addr} {m : Mt} (h : G p = some m) : F p = none := by
  cases e : F p with
  | none => rfl
  | some k =>
    rw [S.apart p k e] at h
    cases h
theorem ex_put {Hd H : Hp} {p : Addr} {o : HO} (e : Ex Hd H) (h : Hd p = none) : Ex Hd (upd H p o) := fun a u q => by
  have z : a ≠ p := fun z => by
    rw [z, h] at q
    cases q
  rw [upd_ne z]
  exact e a u q
/-- one that may change is changed -/
theorem Sim.put (S : Sim K F Hd H G) {p : Addr} {o : HO} {m n : Mt} (h : G p = some m) (hm : HoldM K Hd (upd H p o) p n) : Sim K F Hd (upd H p o) (gup G p n) :=
  S.setG (ex_put S.sub (S.off p m h)) (S.off p m h) (S.gf h) hm
/-- .. said otherwise -/
theorem Sim.again (S : Sim K F Hd H G) {p : Addr} {m n : Mt} (h : G p = some m) (hm : HoldM K Hd H p n) : Sim K F Hd H (gup G p n) where
  sub := S.sub
  off := fun a k e => by
    by_cases q : a = p
    · rw [q]
      exact S.off p m h
    · rw [gup_ne q] at e
      exact S.off a k e
  hold := fun a k e => by
    by_cases q : a = p
    · subst q
      rw [gup_same] at e
      cases e
      exact hm
    · rw [gup_ne q] at e
      exact S.hold a k e
  offF := S.offF
  holdF := S.holdF
  apart := fun a k e => by
    rw [gup_ne (ne_g e (S.gf h))]
    exact S.apart a k e
  tabs := S.tabs
/-- a part of the store that others need not see -/
theorem Sim.hide (S : Sim K F Hd H G) {p : Addr} {m : Mt} {o : HO} (hfp : F p = none) (hd : Hd p = none) (hs : Ex Hd (upd H p o)) (hg : G p = none) (hm : HoldM K Hd (upd H p o) p m) : Sim K (gup F p m) Hd (upd H p o) G where
  sub := hs
  off := S.off
  hold := fun a k e => (S.hold a k e).other (ne_g e hg)
  offF := fun a k e => by
    by_cases q : a = p
    · rw [q]
      exact hd
    · rw [gup_ne q] at e
      exact S.offF a k e
  holdF := fun a k e => by
    by_cases q : a = p
    · subst q
      rw [gup_same] at e
      cases e
      exact hm
    · rw [gup_ne q] at e
      exact (S.holdF a k e).other q
  apart := fun a k e => by
    by_cases q : a = p
    · rw [q]
      exact hg
    · rw [gup_ne q] at e
      exact S.apart a k e
  tabs := fun q hq => by
    rw [gup_ne (ne_g (S.tabs q hq) hfp)]
    exact S.tabs q hq
/-- .. shown again as what never changes -/
theorem Sim.bare {p : Addr} {m : Mt} (S : Sim K (gup F p m) Hd H G) {xs : List V} (h : H p = some (.lst xs)) (hf : F p = none) : Sim K F (upd Hd p (.lst xs)) H G := by
  have hd : Hd p = none := S.offF p m gup_same
  have e : Ex Hd (upd Hd p (.lst xs)) := Ex.new hd
  have hg : G p = none := S.apart p m gup_same
  refine ⟨fun a u q => ?_, fun a k q => ?_, fun a k q => (S.hold a k q).mono e, fun a k q => ?_, fun a k q => ?_, fun a k q => ?_, fun q hq => ?_⟩
  · by_cases z : a = p
    · subst z
      rw [upd_same] at q
      cases q
      exact h
    · rw [upd_ne z] at q
      exact S.sub a u q
  · rw [upd_ne (ne_g q hg)]
    exact S.off a k q
  · rw [upd_ne (ne_g q hf)]
    exact S.offF a k (by rw [gup_ne (ne_g q hf)]; exact q)
  · exact (S.holdF a k (by rw [gup_ne (ne_g q hf)]; exact q)).mono e
  · exact S.apart a k (by rw [gup_ne (ne_g q hf)]; exact q)
  · have t := S.tabs q hq
    by_cases z : q.1 = p
    · obtain ⟨ps, e1, _⟩ := (show TabD Hd H q.1 q.2 from S.holdF q.1 (.tab q.2) t)
      rw [z, h] at e1
      cases e1
    · rw [gup_ne z] at t
      exact t
end

/-! ## Names -/
abbrev En := List (Option D)
def RpE (K : PySem.W.Frag) (H : Hp) (σ : L2.St) (ρ : En) : Prop := σ.length = ρ.length ∧ ∀ (i : Nat) (d : D), ρ[i]? = some (some d) → ∃ v, σ[i]? = some (some v) ∧ Rp K H v d
section
variable {K : PySem.W.Frag} {H H' : Hp} {σ : L2.St} {ρ : En}
theorem RpE.mono (e : Ex H H') (r : RpE K H σ ρ) : RpE K H' σ ρ := ⟨r.1, fun i d h => let ⟨v, a, b⟩ := r.2 i d h; ⟨v, a, b.mono e⟩⟩
theorem RpE.set (r : RpE K H σ ρ) (i : Nat) {v : V} {d : D} (h : Rp K H v d) : RpE K H (σ.set i (some v)) (ρ.set i (some d)) := by
  refine ⟨by rw [List.length_set, List.length_set]; exact r.1, fun j x e => ?_⟩
  by_cases q : i = j
  · subst q
    by_cases z : i < ρ.length
    · rw [List.getElem?_set_self z] at e
      cases e
      exact ⟨v, by rw [List.getElem?_set_self (by rw [r.1]; exact z)], h⟩
    · rw [List.getElem?_eq_none (by simpa using z)] at e
      cases e
  · rw [List.getElem?_set_ne q] at e ⊢
    exact r.2 j x e
theorem RpE.unset (r : RpE K H σ ρ) (i : Nat) : RpE K H (σ.set i none) (ρ.set i none) := by
  refine ⟨by rw [List.length_set, List.length_set]; exact r.1, fun j x e => ?_⟩
  by_cases q : i = j
  · subst q
    by_cases z : i < ρ.length
    · rw [List.getElem?_set_self z] at e
      cases e
    · rw [List.getElem?_eq_none (by simpa using z)] at e
      cases e
  · rw [List.getElem?_set_ne q] at e ⊢
    exact r.2 j x e
/-- the names of a comprehension's block forgotten -/
def wipeD (ρ : En) : List Nat → En
  | [] => ρ
  | v :: vs => (wipeD ρ vs).set v none
theorem RpE.wipe (r : RpE K H σ ρ) : ∀ vs : List Nat, RpE K H (L2.wipe σ vs) (wipeD ρ vs)
  | [] => r
  | v :: vs => by
    unfold L2.wipe wipeD
    exact (RpE.wipe r vs).unset v
theorem RpE.start {N : List Str} {vs : List V} {ds : List D} (r : RpL K H vs ds) : RpE K H (L2.start N vs) (ds.map some ++ List.replicate (N.length - ds.length) none) := by
  refine ⟨by unfold L2.start; simp [r.length], fun i d e => ?_⟩
  by_cases h : i < ds.length
  · rw [List.getElem?_append_left (by simpa using h), List.getElem?_map] at e
    cases q : ds[i]? with
    | none =>
      rw [q] at e
      cases e
    | some x =>
      rw [q] at e
      cases e
      obtain ⟨v, a, b⟩ := r.at q
      refine ⟨v, ?_, b⟩
      unfold L2.start
      rw [List.getElem?_append_left (by rw [List.length_map, r.length]; exact h), List.getElem?_map, a]
      rfl
  · rw [List.getElem?_append_right (by simpa using h), List.getElem?_replicate] at e
    split at e <;> cases e
end

/-! ## Readings over data -/
abbrev KD := D → Gm → Prop
abbrev DE := En → Gm → KD → Prop
abbrev DT := En → Gm → (Bool → Gm → Prop) → Prop
abbrev DA := En → Gm → (List D → Gm → Prop) → Prop
structure DEnds where
  nx : En → Gm → Prop
  rt : KD
  bk : En → Gm → Prop := fun _ _ => False
  ct : En → Gm → Prop := fun _ _ => False
abbrev DS := DEnds → En → Gm → Prop
/-- Q takes whatever stands for what R takes -/
def KE (K : PySem.W.Frag) (F : Gm) (Hd : Hp) (R : KD) (Q : VK) : Prop := ∀ v H' Hd' x G', Ex Hd Hd' → Sim K F Hd' H' G' → Rp K Hd' v x → R x G' → Q v H'
def KT (K : PySem.W.Frag) (F : Gm) (Hd : Hp) (R : Bool → Gm → Prop) (Q : Bool → Hp → Prop) : Prop := ∀ b H' Hd' G', Ex Hd Hd' → Sim K F Hd' H' G' → R b G' → Q b H'
def KA (K : PySem.W.Frag) (F : Gm) (Hd : Hp) (R : List D → Gm → Prop) (Q : List V → Hp → Prop) : Prop := ∀ vs H' Hd' xs G', Ex Hd Hd' → Sim K F Hd' H' G' → RpL K Hd' vs xs → R xs G' → Q vs H'
def KN (K : PySem.W.Frag) (F : Gm) (Hd : Hp) (R : En → Gm → Prop) (Q : L2.St → Hp → Prop) : Prop := ∀ σ' H' Hd' ρ' G', Ex Hd Hd' → RpE K Hd' σ' ρ' → Sim K F Hd' H' G' → R ρ' G' → Q σ' H'
structure KS (K : PySem.W.Frag) (F : Gm) (Hd : Hp) (E : DEnds) (D : Ends) : Prop where
  nx : KN K F Hd E.nx D.nx
  rt : KE K F Hd E.rt D.rt
  bk : KN K F Hd E.bk D.bk
  ct : KN K F Hd E.ct D.ct
/-- what stands from a block's beginning on: what never changes, what others keep -/
structure Bs where
  b : Hp
  f : Gm
/-- where one stands: names, store -/
structure At (K : PySem.W.Frag) (B : Bs) (σ : L2.St) (H : Hp) (ρ : En) (Hd : Hp) (G : Gm) : Prop where
  b : Ex B.b Hd
  e : RpE K Hd σ ρ
  s : Sim K B.f Hd H G
theorem At.step {K : PySem.W.Frag} {B : Bs} {σ : L2.St} {H H' : Hp} {ρ : En} {Hd Hd' : Hp} {G G' : Gm} (a : At K B σ H ρ Hd G) (e : Ex Hd Hd') (s : Sim K B.f Hd' H' G') : At K B σ H' ρ Hd' G' :=
  ⟨a.b.trans e, a.e.mono e, s⟩
/-- a reading over data as one over the heap -/
def upE (K : PySem.W.Frag) (B : Bs) (d : DE) : TE := fun σ H Q => ∃ ρ Hd G R, At K B σ H ρ Hd G ∧ d ρ G R ∧ KE K B.f Hd R Q
def upT (K : PySem.W.Frag) (B : Bs) (d : DT) : TT := fun σ H Q => ∃ ρ Hd G R, At K B σ H ρ Hd G ∧ d ρ G R ∧ KT K B.f Hd R Q
def upA (K : PySem.W.Frag) (B : Bs) (d : DA) : TA := fun σ H Q => ∃ ρ Hd G R, At K B σ H ρ Hd G ∧ d ρ G R ∧ KA K B.f Hd R Q
def upS (K : PySem.W.Frag) (B : Bs) (d : DS) : TS := fun D σ H => ∃ ρ Hd G E, At K B σ H ρ Hd G ∧ d E ρ G ∧ KS K B.f Hd E D

section
variable {K : PySem.W.Frag} {F : Gm} {Hd Hd' : Hp}
theorem KE.mono {R : KD} {Q : VK} (k : KE K F Hd R Q) (e : Ex Hd Hd') : KE K F Hd' R Q := fun v H' Hd2 x G' e2 => k v H' Hd2 x G' (e.trans e2)
theorem KT.mono {R : Bool → Gm → Prop} {Q : Bool → Hp → Prop} (k : KT K F Hd R Q) (e : Ex Hd Hd') : KT K F Hd' R Q := fun b H' Hd2 G' e2 => k b H' Hd2 G' (e.trans e2)
theorem KA.mono {R : List D → Gm → Prop} {Q : List V → Hp → Prop} (k : KA K F Hd R Q) (e : Ex Hd Hd') : KA K F Hd' R Q := fun v H' Hd2 x G' e2 => k v H' Hd2 x G' (e.trans e2)
theorem KN.mono {R : En → Gm → Prop} {Q : L2.St → Hp → Prop} (k : KN K F Hd R Q) (e : Ex Hd Hd') : KN K F Hd' R Q := fun v H' Hd2 x G' e2 => k v H' Hd2 x G' (e.trans e2)
theorem KS.mono {E : DEnds} {D : Ends} (k : KS K F Hd E D) (e : Ex Hd Hd') : KS K F Hd' E D := ⟨k.nx.mono e, k.rt.mono e, k.bk.mono e, k.ct.mono e⟩
end
section
variable {X : Cx}
theorem pe_imp {e : Expr} {t t' : TE} (h : PE X e t) (i : ∀ σ H Q, t' σ H Q → t σ H Q) : PE X e t' := ⟨fun pins s σ H Q I w => h.run pins s σ H Q I (i σ H Q w)⟩
theorem pt_imp {e : Expr} {t t' : TT} (h : PT X e t) (i : ∀ σ H Q, t' σ H Q → t σ H Q) : PT X e t' := ⟨fun pins s σ H Q I w => h.run pins s σ H Q I (i σ H Q w)⟩
theorem pw_imp {e : Expr} {t t' : TT} (h : PW X e t) (i : ∀ σ H Q, t' σ H Q → t σ H Q) : PW X e t' := ⟨fun wh pins s σ H Q I w => h.run wh pins s σ H Q I (i σ H Q w)⟩
theorem pa_imp {e : List Expr} {t t' : TA} (h : PA X e t) (i : ∀ σ H Q, t' σ H Q → t σ H Q) : PA X e t' := ⟨fun p pins s σ H Q I w => h.run p pins s σ H Q I (i σ H Q w)⟩
theorem ps_imp {e : Stmt} {t t' : TS} (h : PS X e t) (i : ∀ D σ H, t' D σ H → t D σ H) : PS X e t' := ⟨fun pins s σ H D I w => h.run pins s σ H D I (i D σ H w)⟩
theorem pss_imp {e : List Stmt} {t t' : TS} (h : PSs X e t) (i : ∀ D σ H, t' D σ H → t D σ H) : PSs X e t' := ⟨fun pins s σ H D I w => h.run pins s σ H D I (i D σ H w)⟩
end
end DL

/-! DL2: the rules for expressions. -/
namespace DL
open PySem PySem.Spec PyProof.Rows L2 Evl
variable [TabC]

section
variable {X : Cx} {B : Bs} {pos : Pos} {a b c : Expr} {da db dc : DE} {ta tb : DT}

/-! ### names, constants -/
def dVar (i : Nat) : DE := fun ρ G R => ∃ d, ρ[i]? = some (some d) ∧ R d G
def dC (d : D) : DE := fun _ G R => R d G
theorem pd_v {i : Nat} {e : Expr} (h : PE X e (tVar i)) : PE X e (upE X.K B (dVar i)) := pe_imp h fun σ H Q ⟨ρ, Hd, G, R, at_, ⟨d, hd, hr⟩, k⟩ =>
  let ⟨v, h1, h2⟩ := at_.e.2 i d hd
  ⟨v, h1, k v H Hd d G (Ex.refl _) at_.s h2 hr⟩
theorem pd_var (i : Nat) {x : Str} (hN : X.N[i]? = some x := by rfl) (hv : Vis X.env.scope x := by first | exact Or.inl rfl | exact Or.inr (Or.inl rfl) | exact Or.inr (Or.inr rfl)) (hd : (x == ("__debug__" : Str)) = false := by decide)
    (hcd : (x == ("__classdict__" : Str)) = false := by decide) : PE X (.Name x pos) (upE X.K B (dVar i)) := pd_v (pe_var hN hv hd hcd)
theorem pd_c {e : Expr} {v : V} {d : D} (h : PE X e (tC v)) (r : ∀ Hd, Rp X.K Hd v d) : PE X e (upE X.K B (dC d)) := pe_imp h fun σ H Q ⟨ρ, Hd, G, R, at_, hr, k⟩ =>
  k v H Hd d G (Ex.refl _) at_.s (r Hd) hr
theorem pd_int {i : Int} {j : Nat} : PE X (.Constant (.int i) j pos) (upE X.K B (dC (.int i))) := pd_c pe_int fun _ => .int i
theorem pd_bl {i : Bool} {j : Nat} : PE X (.Constant (.bool i) j pos) (upE X.K B (dC (.bl i))) := pd_c pe_bl fun _ => .bl i
theorem pd_str {i : Str} {j : Nat} : PE X (.Constant (.str i) j pos) (upE X.K B (dC (.str i))) := pd_c pe_str fun _ => .str i
theorem pd_non {j : Nat} : PE X (.Constant .none j pos) (upE X.K B (dC .non)) := pd_c pe_non fun _ => .non
/-- a module's int -/
theorem pd_gint {x : Str} {i : Int} (hg : Gl X x) (hm : ∃ t, X.mg x = some (.int i t)) (hd : (x == ("__debug__" : Str)) = false := by decide) : PE X (.Name x pos) (upE X.K B (dC (.int i))) :=
  let ⟨t, h⟩ := hm
  pd_c (v := .int i) (pe_glob hg h ⟨t, rfl⟩ hd) fun _ => .int i
theorem pd_gstr {x : Str} {i : Str} (hg : Gl X x) (hm : ∃ t, X.mg x = some (.str i t)) (hd : (x == ("__debug__" : Str)) = false := by decide) : PE X (.Name x pos) (upE X.K B (dC (.str i))) :=
  let ⟨t, h⟩ := hm
  pd_c (v := .str i) (pe_glob hg h ⟨t, rfl⟩ hd) fun _ => .str i
/-- a built-in class as a value -/
theorem pd_bty {x : Str} {n : String} (hg : Gl X x) (hm : X.mg x = none) (hv : bootBuiltins x = some (.type n)) (hn : x ≠ "__name__" := by decide) (hd : (x == ("__debug__" : Str)) = false := by decide) : PE X (.Name x pos) (upE X.K B (dC (.ty n))) :=
  pd_c (v := .ty n) (pe_bltn hg hm hv rfl hn hd) fun _ => .ty n

/-! ### lists of arguments, displays -/
def dNil : DA := fun _ G R => R [] G
def dCons (da : DE) (dr : DA) : DA := fun ρ G R => da ρ G fun x G1 => dr ρ G1 fun xs G2 => R (x :: xs) G2
theorem pda_nil : PA X [] (upA X.K B dNil) := pa_imp pa_nil fun σ H Q ⟨ρ, Hd, G, R, at_, hr, k⟩ => k [] H Hd [] G (Ex.refl _) at_.s .nil hr
theorem pda_cons {e : Expr} {es : List Expr} {de : DE} {dr : DA} (he : PE X e (upE X.K B de)) (hr : PA X es (upA X.K B dr)) (hs : starEach (e :: es) X.env = (false, eval e X.env) :: starEach es X.env := by rfl) : PA X (e :: es) (upA X.K B (dCons de dr)) :=
  pa_imp (pa_cons he hr hs) fun σ H Q ⟨ρ, Hd, G, R, at_, h, k⟩ =>
    ⟨ρ, Hd, G, _, at_, h, fun v H1 Hd1 x G1 e1 s1 r1 h1 => ⟨ρ, Hd1, G1, _, at_.step e1 s1, h1, fun vs H2 Hd2 xs G2 e2 s2 r2 h2 => k _ H2 Hd2 _ G2 (e1.trans e2) s2 (.cons (r1.mono e2) r2) h2⟩⟩
def dTup (dA : DA) : DE := fun ρ G R => dA ρ G fun xs G1 => xs.length ≤ sizeLine ∧ R (.tup xs) G1
def dLst (dA : DA) : DE := fun ρ G R => dA ρ G fun xs G1 => xs.length ≤ sizeLine ∧ R (.lst xs) G1
/-- a list that may change -/
def dLstM (dA : DA) : DE := fun ρ G R => dA ρ G fun xs G1 => xs.length ≤ sizeLine ∧ ∀ p, G1 p = none → R (.ref p) (gup G1 p (.lst xs))
theorem sq_new {K : PySem.W.Frag} {H : Hp} {p : Addr} {xs : List V} : SqL K (upd H p (.lst xs)) p xs := sq_of upd_same
theorem st_new {K : PySem.W.Frag} {H : Hp} {p : Addr} {xs : List V} : SqT K (upd H p (.tup xs)) p xs := st_of upd_same
theorem pd_tup {es : List Expr} {dA : DA} {x1 : Nat} (h : PA X es (upA X.K B dA)) : PE X (.Tuple es x1 pos) (upE X.K B (dTup dA)) := pe_imp (pe_tup h) fun σ H Q ⟨ρ, Hd, G, R, at_, h, k⟩ =>
  ⟨ρ, Hd, G, _, at_, h, fun vs H1 Hd1 xs G1 e1 s1 r1 ⟨hz, h1⟩ => ⟨by rw [r1.length]; exact hz, fun p hp => k _ _ _ (.tup xs) G1 (e1.trans (s1.exn hp)) (s1.new hp) (.tup st_new (r1.mono (s1.exn hp))) h1⟩⟩
theorem pd_lst {es : List Expr} {dA : DA} (h : PA X es (upA X.K B dA)) : PE X (.List es pos) (upE X.K B (dLst dA)) := pe_imp (pe_lst h) fun σ H Q ⟨ρ, Hd, G, R, at_, h, k⟩ =>
  ⟨ρ, Hd, G, _, at_, h, fun vs H1 Hd1 xs G1 e1 s1 r1 ⟨hz, h1⟩ => ⟨by rw [r1.length]; exact hz, fun p hp => k _ _ _ (.lst xs) G1 (e1.trans (s1.exn hp)) (s1.new hp) (.lst sq_new (r1.mono (s1.exn hp))) h1⟩⟩
theorem pd_lstM {es : List Expr} {dA : DA} (h : PA X es (upA X.K B dA)) : PE X (.List es pos) (upE X.K B (dLstM dA)) := pe_imp (pe_lst h) fun σ H Q ⟨ρ, Hd, G, R, at_, h, k⟩ =>
  ⟨ρ, Hd, G, _, at_, h, fun vs H1 Hd1 xs G1 e1 s1 r1 ⟨hz, h1⟩ => ⟨by rw [r1.length]; exact hz, fun p hp => k _ _ _ (.ref p) _ e1 (s1.cell (m := .lst xs) hp ⟨_, upd_same, r1⟩) (.ref p) (h1 p (s1.gfree hp))⟩⟩

/-! ### operators -/
def OpD (K : PySem.W.Frag) (r : R2) (f : D → D → D → Prop) : Prop := ∀ (F : Gm) (Hd H : Hp) (G : Gm) (v u : V) (x y z : D) (Q : VK), Sim K F Hd H G → Rp K Hd v x → Rp K Hd u y → f x y z → (∀ w H' Hd', Ex Hd Hd' → Sim K F Hd' H' G → Rp K Hd' w z → Q w H') → r v u H Q
def dOp (f : D → D → D → Prop) (da db : DE) : DE := fun ρ G R => da ρ G fun x G1 => db ρ G1 fun y G2 => ∃ z, f x y z ∧ R z G2
theorem opd_imp {K : PySem.W.Frag} {r : R2} {f : D → D → D → Prop} (hd : OpD K r f) {B : Bs} {da db : DE} : ∀ σ H Q, upE K B (dOp f da db) σ H Q → tOp r (upE K B da) (upE K B db) σ H Q := fun σ H Q ⟨ρ, Hd, G, R, at_, h, k⟩ =>
  ⟨ρ, Hd, G, _, at_, h, fun v H1 Hd1 x G1 e1 s1 r1 h1 => ⟨ρ, Hd1, G1, _, at_.step e1 s1, h1, fun u H2 Hd2 y G2 e2 s2 r2 ⟨z, hf, hz⟩ =>
    hd B.f Hd2 H2 G2 v u x y z _ s2 (r1.mono e2) r2 hf fun w H3 Hd3 e3 s3 r3 => k w H3 Hd3 z G2 ((e1.trans e2).trans e3) s3 r3 hz⟩⟩
theorem pd_op {op : Operator} {r : R2} {f : D → D → D → Prop} (ho : OpR X (binaryOp op) r) (hd : OpD X.K r f) (ha : PE X a (upE X.K B da)) (hb : PE X b (upE X.K B db)) : PE X (.BinOp a op b pos) (upE X.K B (dOp f da db)) :=
  pe_imp (pe_op ho ha hb) (opd_imp hd)
theorem pd_cmp {op : CmpOp} {r : R2} {f : D → D → D → Prop} (ho : OpR X (compareOp op) r) (hd : OpD X.K r f) (ha : PE X a (upE X.K B da)) (hb : PE X b (upE X.K B db)) (hm : behindInMarks op b = false) : PE X (.Compare a [op] [b] pos) (upE X.K B (dOp f da db)) :=
  pe_imp (pe_cmpR ho ha hb hm) (opd_imp hd)
/-- a value that is a truth, as a test -/
def dTst (d : DE) : DT := fun ρ G R => d ρ G fun x G1 => ∃ k, x = .bl k ∧ R k G1
theorem tst_imp {K : PySem.W.Frag} {d : DE} : ∀ σ H Q, upT K B (dTst d) σ H Q → upE K B d σ H fun x H' => ∃ k, x = .bl k ∧ Q k H' := fun σ H Q ⟨ρ, Hd, G, R, at_, h, k⟩ =>
  ⟨ρ, Hd, G, _, at_, h, fun v H1 Hd1 x G1 e1 s1 r1 ⟨t, et, ht⟩ => by
    subst et
    cases r1
    exact ⟨t, rfl, k t H1 Hd1 G1 e1 s1 ht⟩⟩
theorem ptd_cmp {op : CmpOp} {r : R2} {f : D → D → D → Prop} (ho : OpR X (compareOp op) r) (hd : OpD X.K r f) (ha : PE X a (upE X.K B da)) (hb : PE X b (upE X.K B db)) (hm : behindInMarks op b = false) : PT X (.Compare a [op] [b] pos) (upT X.K B (dTst (dOp f da db))) :=
  pt_imp (pt_cmpR ho ha hb hm) fun σ H Q h => opd_imp hd σ H _ (tst_imp σ H Q h)
theorem ptd_val {e : Expr} {d : DE} (h : PE X e (upE X.K B d)) (he : ∀ whole, isTrue e X.env whole = (do let v ← whole; standAt e.pos; holding [v] (truthy v)) := by intro _; rfl) : PT X e (upT X.K B (dTst d)) :=
  pt_imp (pt_val h he) fun σ H Q h => tst_imp σ H Q h
/-- two ints -/
def fInt (g : Int → Int → D) (x y z : D) : Prop := ∃ i j, x = .int i ∧ y = .int j ∧ z = g i j
def fIntC (C : Int → Int → Prop) (g : Int → Int → D) (x y z : D) : Prop := ∃ i j, x = .int i ∧ y = .int j ∧ C i j ∧ z = g i j
theorem od_int {K : PySem.W.Frag} {g : Int → Int → Int} : OpD K (rI0 fun i j => .int (g i j)) (fInt fun i j => .int (g i j)) := fun F Hd H G v u x y z Q s rv ru ⟨i, j, ex, ey, ez⟩ k => by
  subst ex ey ez
  cases rv
  cases ru
  exact ⟨i, j, rfl, rfl, k _ H Hd (Ex.refl _) s (.int _)⟩
theorem od_intC {K : PySem.W.Frag} {C : Int → Int → Prop} {g : Int → Int → Int} : OpD K (rI C fun i j => .int (g i j)) (fIntC C fun i j => .int (g i j)) := fun F Hd H G v u x y z Q s rv ru ⟨i, j, ex, ey, c, ez⟩ k => by
  subst ex ey ez
  cases rv
  cases ru
  exact ⟨i, j, rfl, rfl, c, k _ H Hd (Ex.refl _) s (.int _)⟩
theorem od_bl {K : PySem.W.Frag} {g : Int → Int → Bool} : OpD K (rI0 fun i j => .bl (g i j)) (fInt fun i j => .bl (g i j)) := fun F Hd H G v u x y z Q s rv ru ⟨i, j, ex, ey, ez⟩ k => by
  subst ex ey ez
  cases rv
  cases ru
  exact ⟨i, j, rfl, rfl, k _ H Hd (Ex.refl _) s (.bl _)⟩
theorem pd_sub (ha : PE X a (upE X.K B da)) (hb : PE X b (upE X.K B db)) : PE X (.BinOp a .Sub b pos) (upE X.K B (dOp (fInt fun i j => .int (i - j)) da db)) := pd_op op_sub od_int ha hb
/-- / of great ints, the divisor above 0 and below 2 ^ 9000 -/
theorem pd_fdiv (ha : PE X a (upE X.K B da)) (hb : PE X b (upE X.K B db)) : PE X (.BinOp a .FloorDiv b pos) (upE X.K B (dOp (fIntC CDivW fun i j => .int (i / j)) da db)) := pd_op op_fdivW od_intC ha hb
theorem pd_mod (ha : PE X a (upE X.K B da)) (hb : PE X b (upE X.K B db)) : PE X (.BinOp a .Mod b pos) (upE X.K B (dOp (fIntC (fun _ j => 0 < j) fun i j => .int (i % j)) da db)) := pd_op op_mod od_intC ha hb
/-- a power: base and exponent together below 2 ^ 27 bits -/
def CPw (i j : Int) : Prop := 0 ≤ j ∧ (Builtin.Int.intBits i : Int) * j ≤ 2 ^ 27
theorem op_pw : OpR X (binaryOp .Pow) (rI CPw fun i j => .int (i ^ j.toNat)) := opI fun _ _ _ _ _ _ _ hc q => pow_int hc.1 hc.2 q
theorem pd_pow (ha : PE X a (upE X.K B da)) (hb : PE X b (upE X.K B db)) : PE X (.BinOp a .Pow b pos) (upE X.K B (dOp (fIntC CPw fun i j => .int (i ^ j.toNat)) da db)) := pd_op op_pw od_intC ha hb
/-- + of ints, texts -/
def fAdd (x y z : D) : Prop := (∃ i j, x = .int i ∧ y = .int j ∧ z = .int (i + j)) ∨ (∃ i j, x = .str i ∧ y = .str j ∧ i.length + j.length ≤ sizeLine ∧ z = .str (i ++ j))
theorem od_add {K : PySem.W.Frag} : OpD K (fun x y H Q => (rI0 fun i j => .int (i + j)) x y H Q ∨ ∃ i j, x = .str i ∧ y = .str j ∧ i.length + j.length ≤ sizeLine ∧ Q (.str (i ++ j)) H) fAdd := fun F Hd H G v u x y z Q s rv ru f k => by
  rcases f with ⟨i, j, rfl, rfl, rfl⟩ | ⟨i, j, rfl, rfl, h, rfl⟩
  · cases rv
    cases ru
    exact .inl ⟨i, j, rfl, rfl, k _ H Hd (Ex.refl _) s (.int _)⟩
  · cases rv
    cases ru
    exact .inr ⟨i, j, rfl, rfl, h, k _ H Hd (Ex.refl _) s (.str _)⟩
theorem pd_add (ha : PE X a (upE X.K B da)) (hb : PE X b (upE X.K B db)) : PE X (.BinOp a .Add b pos) (upE X.K B (dOp fAdd da db)) := pd_op (op_add.or op_add_str) od_add ha hb
/-- * of ints -/
theorem op_mulOk : OpR X (binaryOp .Mult) (rI IntMulOk fun i j => .int (i * j)) := opI fun _ _ _ _ _ _ _ hc q => mul_int q hc
theorem pd_mul (ha : PE X a (upE X.K B da)) (hb : PE X b (upE X.K B db)) : PE X (.BinOp a .Mult b pos) (upE X.K B (dOp (fIntC IntMulOk fun i j => .int (i * j)) da db)) := pd_op op_mulOk od_intC ha hb
def dNeg (da : DE) : DE := fun ρ G R => da ρ G fun x G1 => ∃ i, x = .int i ∧ R (.int (-i)) G1
theorem pd_neg (ha : PE X a (upE X.K B da)) : PE X (.UnaryOp .USub a pos) (upE X.K B (dNeg da)) := pe_imp (pe_un un_neg ha) fun σ H Q ⟨ρ, Hd, G, R, at_, h, k⟩ =>
  ⟨ρ, Hd, G, _, at_, h, fun v H1 Hd1 x G1 e1 s1 r1 ⟨i, ex, hi⟩ => by
    subst ex
    cases r1
    exact ⟨i, rfl, k _ H1 Hd1 _ G1 e1 s1 (.int _) hi⟩⟩

/-! ### comparisons -/
abbrev gLt : Int → Int → D := fun i j => .bl (decide (i < j))
abbrev gLe : Int → Int → D := fun i j => .bl (decide (i ≤ j))
abbrev gGt : Int → Int → D := fun i j => .bl (decide (j < i))
abbrev gGe : Int → Int → D := fun i j => .bl (decide (j ≤ i))
end
end DL

/-! DL3: data as the library has it: ==, repr, isinstance, len; subscripts; and, or, not. -/
namespace DL
open PySem PySem.Spec PyProof.Rows L2 Evl
variable [TabC]

mutual
/-- a datum as the library has it -/
def D.py : D → Option PyData
  | .non => some .none
  | .bl b => some (.bool b)
  | .int i => some (.int i)
  | .str x => some (.str x)
  | .tup xs => (D.pyL xs).map .tuple
  | .lst xs => (D.pyL xs).map .list
  | .ty _ => none
  | .ref _ => none
  | .dct _ _ => none
  | .ins _ _ _ => none
  | .exc _ _ _ => none
  | .fnc _ => none
def D.pyL : List D → Option (List PyData)
  | [] => some []
  | x :: xs => match D.py x, D.pyL xs with
    | some p, some ps => some (p :: ps)
    | _, _ => none
end
mutual
/-- leaves of no great size -/
def D.fit : D → Bool
  | .non => true
  | .bl _ => true
  | .int i => decide (i.natAbs < 10 ^ 560)
  | .str x => PyData.strOk x
  | .tup xs => D.fitL xs
  | .lst xs => D.fitL xs
  | .ty _ => false
  | .ref _ => false
  | .dct _ _ => false
  | .ins _ _ _ => false
  | .exc _ _ _ => false
  | .fnc _ => false
def D.fitL : List D → Bool
  | [] => true
  | x :: xs => D.fit x && D.fitL xs
end
mutual
/-- how much of it there is -/
def D.sz : D → Nat
  | .str x => x.length + 1
  | .tup xs => D.szL xs + 1
  | .lst xs => D.szL xs + 1
  | _ => 1
def D.szL : List D → Nat
  | [] => 0
  | x :: xs => D.sz x + D.szL xs
end
mutual
def D.dp : D → Nat
  | .tup xs => D.dpL xs + 1
  | .lst xs => D.dpL xs + 1
  | _ => 0
def D.dpL : List D → Nat
  | [] => 0
  | x :: xs => max (D.dp x) (D.dpL xs)
end
theorem log_small {n : Nat} (h : n < 10 ^ 560) : n.log2 < 1920 := by
  by_cases z : n = 0
  · subst z
    decide
  · rw [Nat.log2_lt z]
    exact Nat.lt_trans h (by decide +kernel)
theorem str_short {x : Str} (h : PyData.strOk x = true) : x.cps.toList.all (fun c => decide (c < 16 ^ 8)) = true := by
  rw [List.all_eq_true]
  intro c hc
  have h2 : (x.cps.all (· < 0x110000)) = true := h
  rw [← Array.all_toList, List.all_eq_true] at h2
  have h3 := of_decide_eq_true (h2 c hc)
  exact decide_eq_true (Nat.lt_trans h3 (by decide))
mutual
theorem py_fit : ∀ d : D, d.fit = true → ∃ p, d.py = some p ∧ p.showable = true ∧ p.canLay0 = true ∧ p.leavesShort 600 = true ∧ p.bulk + 1 ≤ d.sz ∧ p.depth = d.dp
  | .non, _ => ⟨_, rfl, rfl, rfl, rfl, Nat.le_refl _, rfl⟩
  | .bl b, _ => ⟨_, rfl, rfl, rfl, rfl, Nat.le_refl _, rfl⟩
  | .int i, h => by
    have h2 : i.natAbs < 10 ^ 560 := of_decide_eq_true h
    refine ⟨_, rfl, decide_eq_true (log_small h2), rfl, ?_, Nat.le_refl _, rfl⟩
    refine decide_eq_true ?_
    show (Str.ofString (toString i)).length ≤ 600
    rw [PySem.ofString_length]
    exact Nat.le_trans (int_text_length_le10 (by decide) h2) (by decide)
  | .str x, h => by
    have h2 : PyData.strOk x = true := h
    refine ⟨_, rfl, rfl, h2, str_short h2, Nat.le_refl _, rfl⟩
  | .tup xs, h => by
    obtain ⟨ps, e, h1, h2, h3, h4, h5⟩ := py_fitL xs h
    refine ⟨.tuple ps, by simp only [D.py, e, Option.map_some], h1, h2, h3, ?_, ?_⟩
    · simp only [PyData.bulk, D.sz]
      omega
    · simp only [PyData.depth, D.dp]
      omega
  | .lst xs, h => by
    obtain ⟨ps, e, h1, h2, h3, h4, h5⟩ := py_fitL xs h
    refine ⟨.list ps, by simp only [D.py, e, Option.map_some], h1, h2, h3, ?_, ?_⟩
    · simp only [PyData.bulk, D.sz]
      omega
    · simp only [PyData.depth, D.dp]
      omega
  | .ty _, h => by cases h
  | .ref _, h => by cases h
  | .dct _ _, h => by cases h
  | .ins _ _ _, h => by cases h
  | .exc _ _ _, h => by cases h
  | .fnc _, h => by cases h
theorem py_fitL : ∀ xs : List D, D.fitL xs = true → ∃ ps, D.pyL xs = some ps ∧ PyData.showableAll ps = true ∧ PyData.canLayAll0 ps = true ∧ PyData.leavesShortAll 600 ps = true ∧ PyData.bulkAll ps ≤ D.szL xs ∧ PyData.depthAll ps = D.dpL xs
  | [], _ => ⟨[], rfl, rfl, rfl, rfl, Nat.le_refl _, rfl⟩
  | x :: xs, h => by
    have h2 : (D.fit x && D.fitL xs) = true := h
    rw [Bool.and_eq_true] at h2
    obtain ⟨p, e, a1, a2, a3, a4, a5⟩ := py_fit x h2.1
    obtain ⟨ps, es, b1, b2, b3, b4, b5⟩ := py_fitL xs h2.2
    refine ⟨p :: ps, by simp only [D.pyL, e, es], ?_, ?_, ?_, ?_, ?_⟩
    · simp only [PyData.showableAll, a1, b1, Bool.and_self]
    · simp only [PyData.canLayAll0, a2, b2, Bool.and_self]
    · simp only [PyData.leavesShortAll, a3, b3, Bool.and_self]
    · simp only [PyData.bulkAll, D.szL]
      omega
    · simp only [PyData.depthAll, D.dpL]
      omega
end
mutual
theorem rp_dp {K : PySem.W.Frag} {H H' : Hp} (e : Ex H H') : ∀ (d : D) {v : V} {p : PyData}, Rp K H v d → d.py = some p → Dp K H' v p
  | .non, _, _, r, h => by cases r; cases h; exact .non
  | .bl b, _, _, r, h => by cases r; cases h; exact .bl b
  | .int i, _, _, r, h => by cases r; cases h; exact .int i
  | .str x, _, _, r, h => by cases r; cases h; exact .str x
  | .tup xs, _, p, r, h => by
    cases r with
    | tup s r =>
      cases q : D.pyL xs with
      | none =>
        simp only [D.py, q, Option.map_none] at h
        cases h
      | some ps =>
        simp only [D.py, q, Option.map_some, Option.some.injEq] at h
        subst h
        exact .tup (ex_t e s) (rp_dpL e xs r q)
  | .lst xs, _, p, r, h => by
    cases r with
    | lst s r =>
      cases q : D.pyL xs with
      | none =>
        simp only [D.py, q, Option.map_none] at h
        cases h
      | some ps =>
        simp only [D.py, q, Option.map_some, Option.some.injEq] at h
        subst h
        exact .lst (ex_l e s) (rp_dpL e xs r q)
  | .ty _, _, _, _, h => by cases h
  | .ref _, _, _, _, h => by cases h
  | .dct _ _, _, _, _, h => by cases h
  | .ins _ _ _, _, _, _, h => by cases h
  | .exc _ _ _, _, _, _, h => by cases h
  | .fnc _, _, _, _, h => by cases h
theorem rp_dpL {K : PySem.W.Frag} {H H' : Hp} (e : Ex H H') : ∀ (xs : List D) {vs : List V} {ps : List PyData}, RpL K H vs xs → D.pyL xs = some ps → DpAll K H' vs ps
  | [], _, _, r, h => by
    cases r
    cases h
    exact .nil
  | x :: xs, _, ps, r, h => by
    cases r with
    | cons a b =>
      cases q : D.py x with
      | none =>
        simp only [D.pyL, q] at h
        cases h
      | some p =>
        cases q2 : D.pyL xs with
        | none =>
          simp only [D.pyL, q, q2] at h
          cases h
        | some qs =>
          simp only [D.pyL, q, q2, Option.some.injEq] at h
          subst h
          exact .cons (rp_dp e x a q) (rp_dpL e xs b q2)
end

/-! ### == -/
/-- what == tells of two data -/
def D.eqv (x y : D) : Bool := match D.py x, D.py y with
  | some p, some q => PyData.eqv p q
  | _, _ => false
mutual
/-- data that == takes -/
def D.lay : D → Bool
  | .non => true
  | .bl _ => true
  | .int _ => true
  | .str x => PyData.strOk x
  | .tup xs => D.layL xs
  | .lst xs => D.layL xs
  | .ty _ => false
  | .ref _ => false
  | .dct _ _ => false
  | .ins _ _ _ => false
  | .exc _ _ _ => false
  | .fnc _ => false
def D.layL : List D → Bool
  | [] => true
  | x :: xs => D.lay x && D.layL xs
end
mutual
theorem py_lay : ∀ d : D, d.lay = true → ∃ p, d.py = some p ∧ p.canLay0 = true ∧ p.depth = d.dp
  | .non, _ => ⟨_, rfl, rfl, rfl⟩
  | .bl b, _ => ⟨_, rfl, rfl, rfl⟩
  | .int i, _ => ⟨_, rfl, rfl, rfl⟩
  | .str x, h => ⟨_, rfl, h, rfl⟩
  | .tup xs, h => by
    obtain ⟨ps, e, h1, h2⟩ := py_layL xs h
    refine ⟨.tuple ps, by simp only [D.py, e, Option.map_some], h1, ?_⟩
    simp only [PyData.depth, D.dp]
    omega
  | .lst xs, h => by
    obtain ⟨ps, e, h1, h2⟩ := py_layL xs h
    refine ⟨.list ps, by simp only [D.py, e, Option.map_some], h1, ?_⟩
    simp only [PyData.depth, D.dp]
    omega
  | .ty _, h => by cases h
  | .ref _, h => by cases h
  | .dct _ _, h => by cases h
  | .ins _ _ _, h => by cases h
  | .exc _ _ _, h => by cases h
  | .fnc _, h => by cases h
theorem py_layL : ∀ xs : List D, D.layL xs = true → ∃ ps, D.pyL xs = some ps ∧ PyData.canLayAll0 ps = true ∧ PyData.depthAll ps = D.dpL xs
  | [], _ => ⟨[], rfl, rfl, rfl⟩
  | x :: xs, h => by
    have h2 : (D.lay x && D.layL xs) = true := h
    rw [Bool.and_eq_true] at h2
    obtain ⟨p, e, a1, a2⟩ := py_lay x h2.1
    obtain ⟨ps, es, b1, b2⟩ := py_layL xs h2.2
    refine ⟨p :: ps, by simp only [D.pyL, e, es], ?_, ?_⟩
    · simp only [PyData.canLayAll0, a1, b1, Bool.and_self]
    · simp only [PyData.depthAll, D.dpL]
      omega
end
structure Cmp (x : D) : Prop where
  lay : x.lay = true
  dp : x.dp ≤ 60
theorem Cmp.shaped {x : D} (h : Cmp x) : ∃ p, x.py = some p ∧ SeqAt.shaped p = true := by
  obtain ⟨p, e, h2, h5⟩ := py_lay x h.lay
  refine ⟨p, e, ?_⟩
  unfold SeqAt.shaped
  rw [h2, h5, decide_eq_true (Nat.le_trans h.dp (by decide))]
  rfl
/-- == as it is told: ints, texts, truths at once -/
def fEq (x y z : D) : Prop := match x, y with
  | .int i, .int j => z = .bl (decide (i = j))
  | .str i, .str j => z = .bl (decide (i = j))
  | .bl i, .bl j => z = .bl (decide (i = j))
  | x, y => Cmp x ∧ Cmp y ∧ z = .bl (D.eqv x y)
def fNe (x y z : D) : Prop := match x, y with
  | .int i, .int j => z = .bl (!decide (i = j))
  | .str i, .str j => z = .bl (!decide (i = j))
  | .bl i, .bl j => z = .bl (!decide (i = j))
  | x, y => Cmp x ∧ Cmp y ∧ z = .bl (!D.eqv x y)
theorem eqv_of {x y : D} {p q : PyData} (h : x.py = some p) (h' : y.py = some q) : D.eqv x y = PyData.eqv p q := by
  unfold D.eqv
  rw [h, h']
def rEq2 (K : PySem.W.Frag) : R2 := fun x y H Q => rEq x y H Q ∨ rEqD K x y H Q
def rNe2 (K : PySem.W.Frag) : R2 := fun x y H Q => rNe x y H Q ∨ rNeD K x y H Q
theorem od_eq0 {K : PySem.W.Frag} : OpD K (rEqD K) (fun x y z => Cmp x ∧ Cmp y ∧ z = .bl (D.eqv x y)) := fun F Hd H G v u x y z Q s rv ru ⟨cx, cy, ez⟩ k => by
  subst ez
  obtain ⟨p, ep, sp⟩ := cx.shaped
  obtain ⟨q, eq, sq⟩ := cy.shaped
  refine ⟨p, q, rp_dp s.sub x rv ep, rp_dp s.sub y ru eq, sp, sq, ?_⟩
  rw [← eqv_of ep eq]
  exact k _ H Hd (Ex.refl _) s (.bl _)
theorem od_ne0 {K : PySem.W.Frag} : OpD K (rNeD K) (fun x y z => Cmp x ∧ Cmp y ∧ z = .bl (!D.eqv x y)) := fun F Hd H G v u x y z Q s rv ru ⟨cx, cy, ez⟩ k => by
  subst ez
  obtain ⟨p, ep, sp⟩ := cx.shaped
  obtain ⟨q, eq, sq⟩ := cy.shaped
  refine ⟨p, q, rp_dp s.sub x rv ep, rp_dp s.sub y ru eq, sp, sq, ?_⟩
  rw [← eqv_of ep eq]
  exact k _ H Hd (Ex.refl _) s (.bl _)
theorem vint {i j : Int} : decide (V.int i = V.int j) = decide (i = j) := decide_eq_decide.mpr ⟨fun h => by injection h, fun h => by rw [h]⟩
theorem vstr {i j : Str} : decide (V.str i = V.str j) = decide (i = j) := decide_eq_decide.mpr ⟨fun h => by injection h, fun h => by rw [h]⟩
theorem vbl {i j : Bool} : decide (V.bl i = V.bl j) = decide (i = j) := decide_eq_decide.mpr ⟨fun h => by injection h, fun h => by rw [h]⟩
theorem od_eq {K : PySem.W.Frag} : OpD K (rEq2 K) fEq := fun F Hd H G v u x y z Q s rv ru f k => by
  unfold fEq at f
  split at f
  · subst f; cases rv; cases ru
    exact .inl ⟨rfl, by rw [vint]; exact k _ H Hd (Ex.refl _) s (.bl _)⟩
  · subst f; cases rv; cases ru
    exact .inl ⟨rfl, by rw [vstr]; exact k _ H Hd (Ex.refl _) s (.bl _)⟩
  · subst f; cases rv; cases ru
    exact .inl ⟨rfl, by rw [vbl]; exact k _ H Hd (Ex.refl _) s (.bl _)⟩
  · exact .inr (od_eq0 F Hd H G v u _ _ z Q s rv ru f k)
theorem od_ne {K : PySem.W.Frag} : OpD K (rNe2 K) fNe := fun F Hd H G v u x y z Q s rv ru f k => by
  unfold fNe at f
  split at f
  · subst f; cases rv; cases ru
    exact .inl ⟨rfl, by rw [vint]; exact k _ H Hd (Ex.refl _) s (.bl _)⟩
  · subst f; cases rv; cases ru
    exact .inl ⟨rfl, by rw [vstr]; exact k _ H Hd (Ex.refl _) s (.bl _)⟩
  · subst f; cases rv; cases ru
    exact .inl ⟨rfl, by rw [vbl]; exact k _ H Hd (Ex.refl _) s (.bl _)⟩
  · exact .inr (od_ne0 F Hd H G v u _ _ z Q s rv ru f k)
section
variable {X : Cx}
theorem op_eq2 (hu : X.A.units + 64 < cLine) : OpR X (compareOp .Eq) (rEq2 X.K) := op_eq.or (op_eqD hu)
theorem op_ne2 (hu : X.A.units + 64 < cLine) : OpR X (compareOp .NotEq) (rNe2 X.K) := op_ne.or (op_neD hu)
end

/-! ### repr -/
def D.shown (d : D) : Str := match d with
  | .dct [] [] => "{}"
  | d => match D.py d with
    | some p => p.shown
    | none => ""
/-- data that repr takes -/
structure Shw (x : D) : Prop where
  fit : x.fit = true
  dp : x.dp ≤ 60
  sz : x.sz ≤ 27000
theorem Shw.py {x : D} (h : Shw x) : ∃ p, x.py = some p ∧ p.showable = true ∧ p.shown.length ≤ sizeLine ∧ p.depth ≤ 60 ∧ p.hasDict = false ∧ x.shown = p.shown := by
  obtain ⟨p, e, h1, h2, h3, h4, h5⟩ := py_fit x h.fit
  refine ⟨p, e, h1, ?_, by rw [h5]; exact h.dp, PyData.hasDict_of_canLay p h2, ?_⟩
  · have z := PyData.shown_le_bulk 600 (by decide) p h3
    have z2 := h.sz
    rw [sizeLine_eq]
    omega
  · cases x with
    | dct ks xs => cases e
    | _ => simp only [D.shown, e]
def rRepr0 (K : PySem.W.Frag) : List V → Hp → VK → Prop := fun vs H Q => ∃ (v : V) (p : PyData), vs = [v] ∧ Dp K H v p ∧ p.showable = true ∧ p.shown.length ≤ sizeLine ∧ p.depth ≤ 60 ∧ p.hasDict = false ∧ Q (.str p.shown) H
def rRepr (K : PySem.W.Frag) : List V → Hp → VK → Prop := fun vs H Q => rRepr0 K vs H Q ∨ ∃ a, vs = [.ref a] ∧ H a = some (.dK []) ∧ Q (.str "{}") H
section
variable {X : Cx}
theorem call_repr0 (hg : X.A.guards = some []) (hu : X.A.units + 64 < cLine) : CallR X (.builtin "repr") (rRepr0 X.K) := by
  intro pins s σ H vs us Q I r h
  obtain ⟨v, p, rfl, hd, h1, h2, h3, h4, q⟩ := h
  obtain ⟨u, rfl, ru⟩ := vals1 r
  obtain ⟨as, rd⟩ := Dp.reads I p v u hd ru
  have fin : ∀ {s' : Shared} {t : Tok}, Inv X pins σ H s' → EP X pins σ Q (.str p.shown t) s' := fun {s' t} I' => ⟨.str _, H, I', ⟨_, rfl⟩, q⟩
  cases hd with
  | non => cases ru; exact PySem.P.repr_of_none (fin (I.tok _))
  | bl b => cases ru; exact PySem.P.repr_of_bool (by have e := fin (t := s.toks) (I.tok (s.toks + 1)); cases b <;> exact e)
  | int i =>
    obtain ⟨t, rfl⟩ := ru
    exact PySem.P.repr_of_int (of_decide_eq_true h1) (fin (I.tok _))
  | str x =>
    obtain ⟨t, rfl⟩ := ru
    exact PySem.P.repr_of_str (fin (I.tok _)) h2
  | lst _ _ =>
    cases ru
    exact repr_of_reads' rd h1 (PyData.noDict_hsm h4) hg (by omega) (fun _ _ e => e) (fun h' t tk k => fin (I.kept k)) h2
  | tup _ _ =>
    cases ru
    exact repr_of_reads' rd h1 (PyData.noDict_hsm h4) hg (by omega) (fun _ _ e => e) (fun h' t tk k => fin (I.kept k)) h2
theorem call_repr (hg : X.A.guards = some []) (hu : X.A.units + 64 < cLine) : CallR X (.builtin "repr") (rRepr X.K) := by
  intro pins s σ H vs us Q I r h
  rcases h with h | ⟨a, rfl, ha, q⟩
  · exact call_repr0 hg hu pins s σ H vs us Q I r h
  · obtain ⟨u, rfl, ru⟩ := vals1 r
    cases (show u = Value.ref a from ru)
    obtain ⟨_, hs, vs2, r2, o, es, ep, h1, h2, h3, _, h5, _⟩ := (show ObjOk X.prog X.w H s.heap a (.dK []) from I.hok a _ ha)
    cases r2
    have e0 : es.toList = [] := by
      generalize es.toList = l at h5
      cases h5
      rfl
    have rd : Reads s.heap (.ref a) (.dict []) (a :: [] ++ []) := .dict h1 h2.1 h3 (by rw [e0]; exact .nil) (by rw [e0]; exact .nil)
    refine repr_of_reads' rd rfl (fun _ z => ?_) hg (by show X.A.units + (0 + 1 + 1) < cLine; omega) (fun _ _ e => e) (fun h' t tk k => ⟨.str "{}", H, I.kept k, ⟨t, rfl⟩, q⟩) (by decide)
    have z2 : a = sysModules := (List.mem_singleton.mp z).symm
    rw [z2] at hs
    simp at hs
end
end DL

/-! DL4: built-ins, subscripts, and / or / not, a if t else b. -/
namespace DL
open PySem PySem.Spec PyProof.Rows L2 Evl
variable [TabC]

/-! ### lists and tuples that are read -/
/-- x is a list of ds: a datum, or one that may change -/
def LstAt (G : Gm) (x : D) (ds : List D) : Prop := x = .lst ds ∨ ∃ a, x = .ref a ∧ G a = some (.lst ds)
def SeqAt (G : Gm) (x : D) (ds : List D) : Prop := x = .tup ds ∨ LstAt G x ds
section
variable {K : PySem.W.Frag} {F : Gm} {Hd H : Hp} {G : Gm} {v : V} {x : D} {ds : List D}
theorem LstAt.sq (s : Sim K F Hd H G) (r : Rp K Hd v x) (h : LstAt G x ds) : ∃ a xs, v = .ref a ∧ SqL K H a xs ∧ RpL K Hd xs ds := by
  rcases h with rfl | ⟨a, rfl, h⟩
  · cases r with
    | lst q r => exact ⟨_, _, rfl, ex_l s.sub q, r⟩
  · cases r
    obtain ⟨xs, h1, h2⟩ := s.hold a _ h
    exact ⟨a, xs, rfl, SqL.of h1, h2⟩
theorem SeqAt.sq (s : Sim K F Hd H G) (r : Rp K Hd v x) (h : SeqAt G x ds) : ∃ a xs, v = .ref a ∧ (SqL K H a xs ∨ SqT K H a xs) ∧ RpL K Hd xs ds := by
  rcases h with rfl | h
  · cases r with
    | tup q r => exact ⟨_, _, rfl, .inr (ex_t s.sub q), r⟩
  · obtain ⟨a, xs, e, q, r⟩ := h.sq s r
    exact ⟨a, xs, e, .inl q, r⟩
theorem seq_tup : SeqAt G (.tup ds) ds := .inl rfl
theorem seq_lst : SeqAt G (.lst ds) ds := .inr (.inl rfl)
theorem seq_ref {a : Addr} (h : G a = some (.lst ds)) : SeqAt G (.ref a) ds := .inr (.inr ⟨a, rfl, h⟩)
theorem lst_lst : LstAt G (.lst ds) ds := .inl rfl
theorem lst_ref {a : Addr} (h : G a = some (.lst ds)) : LstAt G (.ref a) ds := .inr ⟨a, rfl, h⟩
end

section
variable {X : Cx} {B : Bs} {pos p : Pos} {a b c e : Expr} {es : List Expr} {da db dc : DE} {dA : DA} {ta tb : DT}
/-! ### calls of built-ins by their values -/
def CalD (K : PySem.W.Frag) (r : List V → Hp → VK → Prop) (f : Gm → List D → D → Prop) : Prop :=
  ∀ (F : Gm) (Hd H : Hp) (G : Gm) (vs : List V) (xs : List D) (z : D) (Q : VK), Sim K F Hd H G → RpL K Hd vs xs → f G xs z → (∀ w H' Hd', Ex Hd Hd' → Sim K F Hd' H' G → Rp K Hd' w z → Q w H') → r vs H Q
def dCal (f : Gm → List D → D → Prop) (dA : DA) : DE := fun ρ G R => dA ρ G fun xs G1 => ∃ z, f G1 xs z ∧ R z G1
theorem cal_imp {K : PySem.W.Frag} {r : List V → Hp → VK → Prop} {f : Gm → List D → D → Prop} (hd : CalD K r f) {B : Bs} {dA : DA} : ∀ σ H Q, upE K B (dCal f dA) σ H Q → tCB r (upA K B dA) σ H Q := fun σ H Q ⟨ρ, Hd, G, R, at_, h, k⟩ =>
  ⟨ρ, Hd, G, _, at_, h, fun vs H1 Hd1 xs G1 e1 s1 r1 ⟨z, hf, hz⟩ => hd B.f Hd1 H1 G1 vs xs z _ s1 r1 hf fun w H3 Hd3 e3 s3 r3 => k w H3 Hd3 z G1 (e1.trans e3) s3 r3 hz⟩
theorem pd_callB {id : String} {r : List V → Hp → VK → Prop} {f : Gm → List D → D → Prop} {x : Str} (hc : CallR X (.builtin id) r) (hd : CalD X.K r f) (hg : Gl X x) (hm : X.mg x = none) (hv : bootBuiltins x = some (.builtin id)) (ha : PA X (e :: es) (upA X.K B dA))
    (hn : x ≠ "__name__" := by decide) (hdb : (x == ("__debug__" : Str)) = false := by decide)
    (he : starEach (e :: es) X.env = (false, eval e X.env) :: starEach es X.env := by rfl) (hpl : (backTo pos (starEach es X.env)).any (·.1) = false := by rfl) : PE X (.Call (.Name x p) (e :: es) [] pos) (upE X.K B (dCal f dA)) :=
  pe_imp (pe_callB hc hg hm hv ha hn hdb he hpl) (cal_imp hd)
theorem pd_callTy {T : String} {r : List V → Hp → VK → Prop} {f : Gm → List D → D → Prop} {x : Str} (hc : CallR X (.type T) r) (hd : CalD X.K r f) (hg : Gl X x) (hm : X.mg x = none) (hv : bootBuiltins x = some (.type T)) (ha : PA X (e :: es) (upA X.K B dA))
    (hn : x ≠ "__name__" := by decide) (hdb : (x == ("__debug__" : Str)) = false := by decide)
    (he : starEach (e :: es) X.env = (false, eval e X.env) :: starEach es X.env := by rfl) (hpl : (backTo pos (starEach es X.env)).any (·.1) = false := by rfl) : PE X (.Call (.Name x p) (e :: es) [] pos) (upE X.K B (dCal f dA)) :=
  pe_imp (pe_callTy hc hg hm hv ha hn hdb he hpl) (cal_imp hd)
theorem rpl1 {K : PySem.W.Frag} {Hd : Hp} {vs : List V} {x : D} (r : RpL K Hd vs [x]) : ∃ v, vs = [v] ∧ Rp K Hd v x := by
  cases r with
  | cons a b =>
    cases b
    exact ⟨_, rfl, a⟩
theorem rpl2 {K : PySem.W.Frag} {Hd : Hp} {vs : List V} {x y : D} (r : RpL K Hd vs [x, y]) : ∃ v u, vs = [v, u] ∧ Rp K Hd v x ∧ Rp K Hd u y := by
  cases r with
  | cons a b =>
    obtain ⟨u, rfl, h⟩ := rpl1 b
    exact ⟨_, _, rfl, a, h⟩
/-- data that repr is asked of -/
def RepOk (x : D) : Prop := Shw x ∨ x = .dct [] []
def fRepr (_ : Gm) (xs : List D) (z : D) : Prop := ∃ x, xs = [x] ∧ RepOk x ∧ z = .str x.shown
theorem cd_repr {K : PySem.W.Frag} : CalD K (rRepr K) fRepr := fun F Hd H G vs xs z Q s r ⟨x, ex, h, ez⟩ k => by
  subst ex ez
  obtain ⟨v, rfl, rv⟩ := rpl1 r
  rcases h with h | rfl
  · obtain ⟨q, e, h1, h2, h3, h4, h5⟩ := h.py
    refine .inl ⟨v, q, rfl, rp_dp s.sub x rv e, h1, h2, h3, h4, ?_⟩
    rw [← h5]
    exact k _ H Hd (Ex.refl _) s (.str _)
  · cases rv with
    | @dct a ks xs ds q l r2 =>
      cases r2
      exact .inr ⟨_, rfl, s.sub _ _ q, k _ H Hd (Ex.refl _) s (.str _)⟩
/-- len -/
def fLen (G : Gm) (xs : List D) (z : D) : Prop := ∃ x, xs = [x] ∧ ((∃ ds, SeqAt G x ds ∧ z = .int ds.length) ∨ ∃ y, x = .str y ∧ y.length ≤ sizeLine ∧ z = .int y.length)
theorem cd_len {K : PySem.W.Frag} : CalD K (fun xs H Q => ∃ x n, xs = [x] ∧ LenV K x H n ∧ Q (.int n) H) fLen := fun F Hd H G vs xs z Q s r ⟨x, ex, h⟩ k => by
  subst ex
  obtain ⟨v, rfl, rv⟩ := rpl1 r
  rcases h with ⟨ds, h, rfl⟩ | ⟨y, rfl, h, rfl⟩
  · obtain ⟨a, ys, rfl, q, r2⟩ := h.sq s rv
    refine ⟨_, ys.length, rfl, ?_, by rw [r2.length]; exact k _ H Hd (Ex.refl _) s (.int _)⟩
    rcases q with q | q
    · exact .inl ⟨ys, q, rfl⟩
    · exact .inr ⟨ys, q, rfl⟩
  · cases rv
    exact ⟨_, y.length, rfl, ⟨h, rfl⟩, k _ H Hd (Ex.refl _) s (.int _)⟩
theorem pd_len {x : Str} (hx : x = "len") (hg : Gl X x) (hm : X.mg x = none) (ha : PE X e (upE X.K B da)) (he : starEach (e :: []) X.env = (false, eval e X.env) :: starEach [] X.env := by rfl) (hpl : (backTo pos (starEach [] X.env)).any (·.1) = false := by rfl) :
    PE X (.Call (.Name x p) (e :: []) [] pos) (upE X.K B (dCal fLen (dCons da dNil))) := by
  subst hx
  exact pd_callB call_len cd_len hg hm PySem.boot_len (pda_cons ha pda_nil he) (by decide) (by decide) he hpl
/-- abs -/
def fAbs (_ : Gm) (xs : List D) (z : D) : Prop := ∃ i : Int, xs = [.int i] ∧ z = .int (if i < 0 then -i else i)
theorem cd_abs {K : PySem.W.Frag} : CalD K (fun xs H Q => ∃ i, xs = [.int i] ∧ Q (.int (if i < 0 then -i else i)) H) fAbs := fun F Hd H G vs xs z Q s r ⟨i, ex, ez⟩ k => by
  subst ex ez
  obtain ⟨v, rfl, rv⟩ := rpl1 r
  cases rv
  exact ⟨i, rfl, k _ H Hd (Ex.refl _) s (.int _)⟩
/-- int of an int, a truth -/
def fIntOf (_ : Gm) (xs : List D) (z : D) : Prop := (∃ i : Int, xs = [.int i] ∧ z = .int i) ∨ ∃ b : Bool, xs = [.bl b] ∧ z = .int (if b then 1 else 0)
theorem cd_int {K : PySem.W.Frag} : CalD K (fun xs H Q => (∃ i, xs = [.int i] ∧ Q (.int i) H) ∨ ∃ k, xs = [.bl k] ∧ Q (.int (if k then 1 else 0)) H) fIntOf := fun F Hd H G vs xs z Q s r h k => by
  rcases h with ⟨i, ex, ez⟩ | ⟨b, ex, ez⟩
  · subst ex ez
    obtain ⟨v, rfl, rv⟩ := rpl1 r
    cases rv
    exact .inl ⟨i, rfl, k _ H Hd (Ex.refl _) s (.int _)⟩
  · subst ex ez
    obtain ⟨v, rfl, rv⟩ := rpl1 r
    cases rv
    exact .inr ⟨b, rfl, k _ H Hd (Ex.refl _) s (.int _)⟩
/-! ### tuple, list of a list or tuple -/
def fTupOf (G : Gm) (xs : List D) (z : D) : Prop := ∃ x ds, xs = [x] ∧ SeqAt G x ds ∧ z = .tup ds
theorem Inv.sqLen {pins : List (Addr × Obj)} {σ : L2.St} {H : Hp} {s : Shared} {q : Addr} {xs : List V} (I : Inv X pins σ H s) (h : SqL X.K H q xs ∨ SqT X.K H q xs) : xs.length ≤ sizeLine := by
  rcases h with h | h
  · exact (I.list h).choose_spec.2.2
  · exact (I.tuple h).choose_spec.2.2
theorem cd_tuple {K : PySem.W.Frag} : CalD K (fun xs H Q => ∃ p ys, xs = [.ref p] ∧ ((SqL K H p ys ∧ ∀ l, H l = none → Q (.ref l) (upd H l (.tup ys))) ∨ (SqT K H p ys ∧ Q (.ref p) H))) fTupOf := fun F Hd H G vs xs z Q s r ⟨x, ds, ex, h, ez⟩ k => by
  subst ex ez
  obtain ⟨v, rfl, rv⟩ := rpl1 r
  rcases h with rfl | h
  · cases rv with
    | tup q r2 => exact ⟨_, _, rfl, .inr ⟨ex_t s.sub q, k _ H Hd (Ex.refl _) s (.tup q r2)⟩⟩
  · obtain ⟨a, ys, rfl, q, r2⟩ := h.sq s rv
    exact ⟨a, ys, rfl, .inl ⟨q, fun l hl => k _ _ _ (s.exn hl) (s.new hl) (.tup st_new (r2.mono (s.exn hl)))⟩⟩
def fLstOf (G : Gm) (xs : List D) (z : D) : Prop := ∃ x ds, xs = [x] ∧ SeqAt G x ds ∧ z = .lst ds
theorem cd_list {K : PySem.W.Frag} : CalD K (fun xs H Q => ∃ p ys, xs = [.ref p] ∧ (SqL K H p ys ∨ SqT K H p ys) ∧ ∀ l, H l = none → Q (.ref l) (upd H l (.lst ys))) fLstOf := fun F Hd H G vs xs z Q s r ⟨x, ds, ex, h, ez⟩ k => by
  subst ex ez
  obtain ⟨v, rfl, rv⟩ := rpl1 r
  obtain ⟨a, ys, rfl, q, r2⟩ := h.sq s rv
  exact ⟨a, ys, rfl, q, fun l hl => k _ _ _ (s.exn hl) (s.new hl) (.lst sq_new (r2.mono (s.exn hl)))⟩
/-! ### all, any, sum of a list -/
def fAll (G : Gm) (xs : List D) (z : D) : Prop := ∃ x, ∃ bs : List Bool, xs = [x] ∧ LstAt G x (bs.map D.bl) ∧ z = .bl (bs.all id)
def fAny (G : Gm) (xs : List D) (z : D) : Prop := ∃ x, ∃ bs : List Bool, xs = [x] ∧ LstAt G x (bs.map D.bl) ∧ z = .bl (bs.any id)
def fSum (G : Gm) (xs : List D) (z : D) : Prop := ∃ x, ∃ ns : List Int, xs = [x] ∧ LstAt G x (ns.map D.int) ∧ z = .int ns.sum
theorem rp_bls {K : PySem.W.Frag} {H : Hp} : ∀ {bs : List Bool} {vs : List V}, RpL K H vs (bs.map D.bl) → vs = bs.map V.bl
  | [], _, r => by cases r; rfl
  | b :: bs, _, r => by
    cases r with
    | cons x y =>
      cases x
      rw [rp_bls y]
      rfl
theorem rp_ints {K : PySem.W.Frag} {H : Hp} : ∀ {ns : List Int} {vs : List V}, RpL K H vs (ns.map D.int) → vs = ns.map V.int
  | [], _, r => by cases r; rfl
  | b :: bs, _, r => by
    cases r with
    | cons x y =>
      cases x
      rw [rp_ints y]
      rfl
theorem cd_all {K : PySem.W.Frag} : CalD K (rAll K) fAll := fun F Hd H G vs xs z Q s r ⟨x, bs, ex, h, ez⟩ k => by
  subst ex ez
  obtain ⟨v, rfl, rv⟩ := rpl1 r
  obtain ⟨a, ys, rfl, q, r2⟩ := h.sq s rv
  rw [rp_bls r2] at q
  exact ⟨a, bs, rfl, q, k _ H Hd (Ex.refl _) s (.bl _)⟩
theorem cd_any {K : PySem.W.Frag} : CalD K (rAny K) fAny := fun F Hd H G vs xs z Q s r ⟨x, bs, ex, h, ez⟩ k => by
  subst ex ez
  obtain ⟨v, rfl, rv⟩ := rpl1 r
  obtain ⟨a, ys, rfl, q, r2⟩ := h.sq s rv
  rw [rp_bls r2] at q
  exact ⟨a, bs, rfl, q, k _ H Hd (Ex.refl _) s (.bl _)⟩
theorem cd_sum {K : PySem.W.Frag} : CalD K (rSum K) fSum := fun F Hd H G vs xs z Q s r ⟨x, ns, ex, h, ez⟩ k => by
  subst ex ez
  obtain ⟨v, rfl, rv⟩ := rpl1 r
  obtain ⟨a, ys, rfl, q, r2⟩ := h.sq s rv
  rw [rp_ints r2] at q
  exact ⟨a, ns, rfl, q, k _ H Hd (Ex.refl _) s (.int _)⟩

/-! ### isinstance of built-in classes -/
def D.tyn : D → Option String
  | .non => some "NoneType"
  | .bl _ => some "bool"
  | .int _ => some "int"
  | .str _ => some "str"
  | .tup _ => some "tuple"
  | .lst _ => some "list"
  | .dct _ _ => some "dict"
  | _ => none
theorem ty_of {K : PySem.W.Frag} {F : Gm} {Hd H : Hp} {G : Gm} {v : V} {x : D} {t : String} (s : Sim K F Hd H G) (r : Rp K Hd v x) (h : x.tyn = some t) : TyX K H v (.type t) := by
  cases r with
  | non => cases h; exact .base .non
  | bl b => cases h; exact .base (.bl b)
  | int i => cases h; exact .base (.int i)
  | str y => cases h; exact .base (.str y)
  | tup q _ =>
    cases h
    rcases ex_t s.sub q with (q | ⟨o, q⟩) | ⟨o, its, n, q, c, _⟩
    · exact .base (.tup q)
    · exact .fTuple q
    · exact .kTuple q c
  | lst q _ =>
    cases h
    rcases ex_l s.sub q with (q | ⟨o, q⟩) | ⟨o, its, n, q, c, _⟩
    · exact .base (.lst q)
    · exact .base (.frz q)
    · exact .kList q c
  | dct q _ _ => cases h; exact .base (.dK (s.sub _ _ q))
  | ty _ => cases h
  | ref _ => cases h
  | ins _ _ _ => cases h
  | exc _ _ _ _ => cases h
  | fnc _ => cases h
/-- which built-in classes stand below which -/
def isK (t n : String) : Bool := t == n || (t == "bool" && n == "int")
theorem kit_is : ∀ t ∈ ["NoneType", "bool", "int", "str", "tuple", "list", "dict"], ∀ n ∈ ["int", "bool", "str", "list", "tuple", "dict"], kitB t n = some (isK t n) := by decide +kernel
theorem tyn_in {x : D} {t : String} (h : x.tyn = some t) : t ∈ ["NoneType", "bool", "int", "str", "tuple", "list", "dict"] := by
  cases x <;> cases h <;> decide
/-- isinstance(x, n) -/
def fIsi (n : String) (_ : Gm) (xs : List D) (z : D) : Prop := ∃ x t, xs = [x, .ty n] ∧ x.tyn = some t ∧ z = .bl (isK t n)
theorem cd_isi {K : PySem.W.Frag} {n : String} (hn : n ∈ ["int", "bool", "str", "list", "tuple", "dict"]) : CalD K (rIsi K) (fIsi n) := fun F Hd H G vs xs z Q s r ⟨x, t, ex, h, ez⟩ k => by
  subst ex ez
  obtain ⟨v, u, rfl, rv, ru⟩ := rpl2 r
  cases ru
  exact ⟨v, .ty n, .type t, .type n, _, rfl, .ty n, ty_of s rv h, kit_ty (kit_is t (tyn_in h) n hn), k _ H Hd (Ex.refl _) s (.bl _)⟩
theorem pd_isi {n : String} {q : Pos} {m x : Str} (hx : x = "isinstance") (hn : n ∈ ["int", "bool", "str", "list", "tuple", "dict"]) (hg : Gl X x) (hm : X.mg x = none) (ha : PE X e (upE X.K B da)) (ht : PE X (.Name m q) (upE X.K B (dC (.ty n))))
    (he : starEach (e :: [.Name m q]) X.env = (false, eval e X.env) :: starEach [.Name m q] X.env := by rfl) (he2 : starEach ((.Name m q) :: []) X.env = (false, eval (.Name m q) X.env) :: starEach [] X.env := by rfl) (hpl : (backTo pos (starEach [.Name m q] X.env)).any (·.1) = false := by rfl) :
    PE X (.Call (.Name x p) (e :: [.Name m q]) [] pos) (upE X.K B (dCal (fIsi n) (dCons da (dCons (dC (.ty n)) dNil)))) := by
  subst hx
  exact pd_callB call_isi (cd_isi hn) hg hm (by decide +kernel) (pda_cons ha (pda_cons ht pda_nil he2) he) (by decide) (by decide) he hpl
/-- a written tuple of built-in classes -/
def tTys (ns : List String) : TA := fun _ H Q => Q (ns.map V.ty) H
theorem pty_nil : PA X [] (tTys []) := pa_imp pa_nil fun _ _ _ h => h
theorem pty_cons {n : String} {ns : List String} (ht : PE X e (tC (.ty n))) (hr : PA X es (tTys ns)) (hs : starEach (e :: es) X.env = (false, eval e X.env) :: starEach es X.env := by rfl) : PA X (e :: es) (tTys (n :: ns)) := pa_imp (pa_cons ht hr hs) fun _ _ _ h => h
theorem pe_ty {x : Str} {n : String} {q : Pos} (hg : Gl X x) (hm : X.mg x = none) (hv : bootBuiltins x = some (.type n)) (hn : x ≠ "__name__" := by decide) (hd : (x == ("__debug__" : Str)) = false := by decide) : PE X (.Name x q) (tC (.ty n)) := pe_bltn hg hm hv rfl hn hd
theorem paired_ty : ∀ ns : List String, Paired ClsV (ns.map V.ty) (ns.map Value.type)
  | [] => .nil
  | n :: ns => .cons (.ty n) (paired_ty ns)
theorem kit_any {K : PySem.W.Frag} {t : String} (ht : t ∈ ["NoneType", "bool", "int", "str", "tuple", "list", "dict"]) : ∀ ns : List String, (∀ n ∈ ns, n ∈ ["int", "bool", "str", "list", "tuple", "dict"]) → PySem.W.kitAny K (.type t) (ns.map Value.type) = some (ns.any (isK t))
  | [], _ => rfl
  | n :: ns, h => by
    have h1 := kit_is t ht n (h n List.mem_cons_self)
    refine kitAny_cons (kit_ty h1) (fun hb => ?_) (fun hb => ?_)
    · rw [kit_any ht ns fun m hm => h m (List.mem_cons_of_mem _ hm)]
      rw [List.any_cons, hb, Bool.false_or]
    · rw [List.any_cons, hb, Bool.true_or]
def dIsiT (ns : List String) (da : DE) : DE := fun ρ G R => da ρ G fun x G1 => ∃ t, x.tyn = some t ∧ R (.bl (ns.any (isK t))) G1
theorem pd_isiT {ns : List String} {x1 : Nat} {q : Pos} {x : Str} (hx : x = "isinstance") (hn : ∀ n ∈ ns, n ∈ ["int", "bool", "str", "list", "tuple", "dict"]) (hz : ns.length ≤ sizeLine) (hg : Gl X x) (hm : X.mg x = none) (ha : PE X e (upE X.K B da)) (ht : PA X es (tTys ns))
    (he : starEach (e :: [.Tuple es x1 q]) X.env = (false, eval e X.env) :: starEach [.Tuple es x1 q] X.env := by rfl) (he2 : starEach ((.Tuple es x1 q) :: []) X.env = (false, eval (.Tuple es x1 q) X.env) :: starEach [] X.env := by rfl) (hpl : (backTo pos (starEach [.Tuple es x1 q] X.env)).any (·.1) = false := by rfl) :
    PE X (.Call (.Name x p) (e :: [.Tuple es x1 q]) [] pos) (upE X.K B (dIsiT ns da)) := by
  subst hx
  refine pe_imp (pe_callB call_isiT hg hm (by decide +kernel) (pa_cons ha (pa_cons (pe_tup ht) pa_nil he2) he) (by decide) (by decide) he hpl) fun σ H Q ⟨ρ, Hd, G, R, at_, h, k⟩ => ?_
  refine ⟨ρ, Hd, G, _, at_, h, fun v H1 Hd1 x G1 e1 s1 r1 ⟨t, et, hr⟩ => ?_⟩
  refine ⟨by rw [List.length_map]; exact hz, fun pp hp => ?_⟩
  exact ⟨v, pp, ns.map V.ty, .type t, ns.map Value.type, _, rfl, upd_same, paired_ty ns, ty_of (s1.side hp) r1 et, kit_any (tyn_in et) ns hn, k _ _ Hd1 _ G1 e1 (s1.side hp) (.bl _) hr⟩

/-! ### subscripts -/
def atD (ds : List D) (i : Int) : Option D := atI ds i
theorem rpl_atI {K : PySem.W.Frag} {H : Hp} {vs : List V} {ds : List D} {i : Int} {d : D} (r : RpL K H vs ds) (h : atI ds i = some d) : ∃ v, atI vs i = some v ∧ Rp K H v d := by
  unfold atI at h ⊢
  rw [r.length]
  cases e : ixN ds.length i with
  | none =>
    rw [e] at h
    cases h
  | some j =>
    rw [e] at h
    exact r.at h
def fIx (G : Gm) (x y z : D) : Prop := (∃ ds i, SeqAt G x ds ∧ y = .int i ∧ atI ds i = some z) ∨ ∃ (t : Str) (i : Int) (c : Nat), x = .str t ∧ y = .int i ∧ t.length ≤ sizeLine ∧ atI t.cps.toList i = some c ∧ z = .str ⟨#[c]⟩
def dIx (da db : DE) : DE := fun ρ G R => da ρ G fun x G1 => db ρ G1 fun y G2 => ∃ z, fIx G2 x y z ∧ R z G2
theorem pd_ix (ha : PE X a (upE X.K B da)) (hb : PE X b (upE X.K B db)) (hs : PlainIx b) : PE X (.Subscript a b pos) (upE X.K B (dIx da db)) := pe_imp (pe_ix ix_seq ha hb hs) fun σ H Q ⟨ρ, Hd, G, R, at_, h, k⟩ =>
  ⟨ρ, Hd, G, _, at_, h, fun v H1 Hd1 x G1 e1 s1 r1 h1 => ⟨ρ, Hd1, G1, _, at_.step e1 s1, h1, fun u H2 Hd2 y G2 e2 s2 r2 ⟨z, hf, hz⟩ => by
    have fin : ∀ w, Rp X.K Hd2 w z → Q w H2 := fun w r => k w H2 Hd2 z G2 (e1.trans e2) s2 r hz
    rcases hf with ⟨ds, i, hs, rfl, hi⟩ | ⟨t, i, cc, rfl, rfl, hz2, hi, rfl⟩
    · cases r2
      obtain ⟨q, xs, rfl, hq, r3⟩ := hs.sq s2 (r1.mono e2)
      obtain ⟨w, hw, rw_⟩ := rpl_atI r3 hi
      rcases hq with hq | hq
      · exact .inl ⟨q, xs, i, w, rfl, rfl, hq, hw, fin w rw_⟩
      · exact .inr (.inl ⟨q, xs, i, w, rfl, rfl, hq, hw, fin w rw_⟩)
    · cases r2
      cases r1
      exact .inr (.inr ⟨t, i, cc, rfl, rfl, hz2, hi, fin _ (.str _)⟩)⟩⟩

/-! ### and, or, not, if -/
def dAndV (da db : DE) : DE := fun ρ G R => da ρ G fun x G1 => ∃ k, x = .bl k ∧ if k = true then db ρ G1 R else R (.bl false) G1
def dOrV (da db : DE) : DE := fun ρ G R => da ρ G fun x G1 => ∃ k, x = .bl k ∧ if k = true then R (.bl true) G1 else db ρ G1 R
def dNotV (da : DE) : DE := fun ρ G R => da ρ G fun x G1 => ∃ k, x = .bl k ∧ R (.bl (!k)) G1
variable {rest : List Expr} {A2 B2 : Expr}
theorem pd_one {op : BoolOp} (h : PE X a (upE X.K B da)) : PE X (.BoolOp op [a] pos) (upE X.K B da) := pe_one h
theorem pd_and (ha : PE X a (upE X.K B da)) (hb : PE X (.BoolOp .And (b :: rest) pos) (upE X.K B db)) : PE X (.BoolOp .And (a :: b :: rest) pos) (upE X.K B (dAndV da db)) := pe_imp (pe_and ha hb) fun σ H Q ⟨ρ, Hd, G, R, at_, h, k⟩ =>
  ⟨ρ, Hd, G, _, at_, h, fun v H1 Hd1 x G1 e1 s1 r1 ⟨t, et, h1⟩ => by
    subst et
    cases r1
    refine ⟨t, rfl, ?_⟩
    cases t with
    | true => exact ⟨ρ, Hd1, G1, R, at_.step e1 s1, h1, k.mono e1⟩
    | false => exact k _ H1 Hd1 _ G1 e1 s1 (.bl _) h1⟩
theorem pd_or (ha : PE X a (upE X.K B da)) (hb : PE X (.BoolOp .Or (b :: rest) pos) (upE X.K B db)) : PE X (.BoolOp .Or (a :: b :: rest) pos) (upE X.K B (dOrV da db)) := pe_imp (pe_or ha hb) fun σ H Q ⟨ρ, Hd, G, R, at_, h, k⟩ =>
  ⟨ρ, Hd, G, _, at_, h, fun v H1 Hd1 x G1 e1 s1 r1 ⟨t, et, h1⟩ => by
    subst et
    cases r1
    refine ⟨t, rfl, ?_⟩
    cases t with
    | true => exact k _ H1 Hd1 _ G1 e1 s1 (.bl _) h1
    | false => exact ⟨ρ, Hd1, G1, R, at_.step e1 s1, h1, k.mono e1⟩⟩
theorem pd_not (ha : PE X a (upE X.K B da)) : PE X (.UnaryOp .Not a pos) (upE X.K B (dNotV da)) := pe_imp (pe_not ha) fun σ H Q ⟨ρ, Hd, G, R, at_, h, k⟩ =>
  ⟨ρ, Hd, G, _, at_, h, fun v H1 Hd1 x G1 e1 s1 r1 ⟨t, et, h1⟩ => by
    subst et
    cases r1
    exact ⟨t, rfl, k _ H1 Hd1 _ G1 e1 s1 (.bl _) h1⟩⟩
def dAnd (t u : DT) : DT := fun ρ G R => t ρ G fun k G1 => if k = true then u ρ G1 R else R false G1
def dOr (t u : DT) : DT := fun ρ G R => t ρ G fun k G1 => if k = true then R true G1 else u ρ G1 R
def dNot (t : DT) : DT := fun ρ G R => t ρ G fun k G1 => R (!k) G1
theorem pwd_and1 (ha : PT X a (upT X.K B ta)) : PW X (.BoolOp .And [a] pos) (upT X.K B ta) := pw_and1 ha
theorem pwd_or1 (ha : PT X a (upT X.K B ta)) : PW X (.BoolOp .Or [a] pos) (upT X.K B ta) := pw_or1 ha
theorem pwd_and (ha : PT X a (upT X.K B ta)) (hb : PW X (.BoolOp .And (b :: rest) pos) (upT X.K B tb)) : PW X (.BoolOp .And (a :: b :: rest) pos) (upT X.K B (dAnd ta tb)) := pw_imp (pw_and ha hb) fun σ H Q ⟨ρ, Hd, G, R, at_, h, k⟩ =>
  ⟨ρ, Hd, G, _, at_, h, fun t H1 Hd1 G1 e1 s1 h1 => by
    cases t with
    | true => exact ⟨ρ, Hd1, G1, R, at_.step e1 s1, h1, k.mono e1⟩
    | false => exact k _ H1 Hd1 G1 e1 s1 h1⟩
theorem pwd_or (ha : PT X a (upT X.K B ta)) (hb : PW X (.BoolOp .Or (b :: rest) pos) (upT X.K B tb)) : PW X (.BoolOp .Or (a :: b :: rest) pos) (upT X.K B (dOr ta tb)) := pw_imp (pw_or ha hb) fun σ H Q ⟨ρ, Hd, G, R, at_, h, k⟩ =>
  ⟨ρ, Hd, G, _, at_, h, fun t H1 Hd1 G1 e1 s1 h1 => by
    cases t with
    | true => exact k _ H1 Hd1 G1 e1 s1 h1
    | false => exact ⟨ρ, Hd1, G1, R, at_.step e1 s1, h1, k.mono e1⟩⟩
theorem ptd_not (ha : PT X a (upT X.K B ta)) : PT X (.UnaryOp .Not a pos) (upT X.K B (dNot ta)) := pt_imp (pt_not ha) fun σ H Q ⟨ρ, Hd, G, R, at_, h, k⟩ =>
  ⟨ρ, Hd, G, _, at_, h, fun t H1 Hd1 G1 e1 s1 h1 => k _ H1 Hd1 G1 e1 s1 h1⟩
def dIf (t : DT) (da db : DE) : DE := fun ρ G R => t ρ G fun k G1 => if k = true then da ρ G1 R else db ρ G1 R
theorem pd_if (hc : PT X c (upT X.K B ta)) (ha : PE X a (upE X.K B da)) (hb : PE X b (upE X.K B db)) : PE X (.IfExp c a b pos) (upE X.K B (dIf ta da db)) := pe_imp (pe_ifExp hc ha hb) fun σ H Q ⟨ρ, Hd, G, R, at_, h, k⟩ =>
  ⟨ρ, Hd, G, _, at_, h, fun t H1 Hd1 G1 e1 s1 h1 => by
    cases t with
    | true => exact ⟨ρ, Hd1, G1, R, at_.step e1 s1, h1, k.mono e1⟩
    | false => exact ⟨ρ, Hd1, G1, R, at_.step e1 s1, h1, k.mono e1⟩⟩
/-- is None, is not None -/
def D.isN : D → Bool
  | .non => true
  | _ => false
def dIsN (da : DE) : DE := fun ρ G R => da ρ G fun x G1 => R (.bl x.isN) G1
def dNotN (da : DE) : DE := fun ρ G R => da ρ G fun x G1 => R (.bl (!x.isN)) G1
theorem non_iff {K : PySem.W.Frag} {H : Hp} {v : V} {x : D} (r : Rp K H v x) : decide (v = .non) = x.isN := by
  cases r <;> first | rfl | exact decide_eq_false (fun z => nomatch z)
theorem isn_imp {K : PySem.W.Frag} : ∀ σ H Q, upE K B (dIsN da) σ H Q → tIsN (upE K B da) σ H Q := fun σ H Q ⟨ρ, Hd, G, R, at_, h, k⟩ =>
  ⟨ρ, Hd, G, _, at_, h, fun v H1 Hd1 x G1 e1 s1 r1 h1 => by
    show Q (.bl (decide (v = .non))) H1
    rw [non_iff r1]
    exact k _ H1 Hd1 _ G1 e1 s1 (.bl _) h1⟩
theorem notn_imp {K : PySem.W.Frag} : ∀ σ H Q, upE K B (dNotN da) σ H Q → tNotN (upE K B da) σ H Q := fun σ H Q ⟨ρ, Hd, G, R, at_, h, k⟩ =>
  ⟨ρ, Hd, G, _, at_, h, fun v H1 Hd1 x G1 e1 s1 r1 h1 => by
    show Q (.bl (!decide (v = .non))) H1
    rw [non_iff r1]
    exact k _ H1 Hd1 _ G1 e1 s1 (.bl _) h1⟩
theorem pd_isN {j : Nat} {pp : Pos} (ha : PE X a (upE X.K B da)) : PE X (.Compare a [.Is] [.Constant .none j pp] pos) (upE X.K B (dIsN da)) := pe_imp (pe_cmp (pc_isN ha) rfl) isn_imp
theorem pd_notN {j : Nat} {pp : Pos} (ha : PE X a (upE X.K B da)) : PE X (.Compare a [.IsNot] [.Constant .none j pp] pos) (upE X.K B (dNotN da)) := pe_imp (pe_cmp (pc_notN ha) rfl) notn_imp
theorem ptd_isn {d : DE} {op : CmpOp} {r : Expr} (h : PE X (.Compare a [op] [r] pos) (upE X.K B d)) (he : ∀ whole, isTrue (.Compare a [op] [r] pos) X.env whole = (do let v ← whole; standAt (Expr.pos (.Compare a [op] [r] pos)); holding [v] (truthy v)) := by intro _; rfl) : PT X (.Compare a [op] [r] pos) (upT X.K B (dTst d)) := ptd_val h he
/-- a chain of two comparisons of ints -/
def dChain (f g : D → D → D → Prop) (da db dc : DE) : DE := fun ρ G R => da ρ G fun x G1 => db ρ G1 fun y G2 => ∃ k, f x y (.bl k) ∧ if k = true then dc ρ G2 fun z G3 => ∃ w, g y z w ∧ R w G3 else R (.bl false) G2
theorem chain_imp {K : PySem.W.Frag} {r r' : R2} {f g : D → D → D → Prop} (hd : OpD K r f) (hd' : OpD K r' g) : ∀ σ H Q, upE K B (dChain f g da db dc) σ H Q → tChain r r' (upE K B da) (upE K B db) (upE K B dc) σ H Q := fun σ H Q ⟨ρ, Hd, G, R, at_, h, k⟩ =>
  ⟨ρ, Hd, G, _, at_, h, fun v H1 Hd1 x G1 e1 s1 r1 h1 => ⟨ρ, Hd1, G1, _, at_.step e1 s1, h1, fun u H2 Hd2 y G2 e2 s2 r2 ⟨t, hf, hz⟩ =>
    hd B.f Hd2 H2 G2 v u x y (.bl t) _ s2 (r1.mono e2) r2 hf fun w H3 Hd3 e3 s3 r3 => by
      cases r3
      refine ⟨t, rfl, ?_⟩
      cases t with
      | false => exact k _ H3 Hd3 _ G2 ((e1.trans e2).trans e3) s3 (.bl _) hz
      | true => exact ⟨ρ, Hd3, G2, _, (at_.step (e1.trans e2) s2).step e3 s3, hz, fun w4 H4 Hd4 z G4 e4 s4 r4 ⟨w5, hg, h5⟩ =>
          hd' B.f Hd4 H4 G4 u w4 y z w5 _ s4 (r2.mono (e3.trans e4)) r4 hg fun w6 H6 Hd6 e6 s6 r6 => k w6 H6 Hd6 w5 G4 ((((e1.trans e2).trans e3).trans e4).trans e6) s6 r6 h5⟩⟩⟩
theorem pd_chain {op op' : CmpOp} {r r' : R2} {f g : D → D → D → Prop} (ho : OpR X (compareOp op) r) (ho' : OpR X (compareOp op') r') (hd : OpD X.K r f) (hd' : OpD X.K r' g) (ha : PE X a (upE X.K B da)) (hb : PE X b (upE X.K B db)) (hc : PE X c (upE X.K B dc))
    (hm : lastMarks [op, op'] [b, c] = false := by with_unfolding_all rfl) : PE X (.Compare a [op, op'] [b, c] pos) (upE X.K B (dChain f g da db dc)) := pe_imp (pe_chain ho ho' ha hb hc hm) (chain_imp hd hd')
theorem ptd_chain {op op' : CmpOp} {r r' : R2} {f g : D → D → D → Prop} (ho : OpR X (compareOp op) r) (ho' : OpR X (compareOp op') r') (hd : OpD X.K r f) (hd' : OpD X.K r' g) (ha : PE X a (upE X.K B da)) (hb : PE X b (upE X.K B db)) (hc : PE X c (upE X.K B dc))
    (hm : lastMarks [op, op'] [b, c] = false := by with_unfolding_all rfl) : PT X (.Compare a [op, op'] [b, c] pos) (upT X.K B (dTst (dChain f g da db dc))) := pt_imp (pt_chain ho ho' ha hb hc hm) fun σ H Q h => chain_imp hd hd' σ H _ (tst_imp σ H Q h)
/-! ### {}, slices -/
def dDct0 : DE := fun _ G R => R (.dct [] []) G
theorem pd_dct0 : PE X (.Dict [] [] pos) (upE X.K B dDct0) := pe_imp pe_dnewK fun σ H Q ⟨ρ, Hd, G, R, at_, h, k⟩ =>
  fun pp hp => k _ _ _ _ G (at_.s.exn hp) (at_.s.new hp) (.dct (ks := []) (xs := []) (by rw [upd_same]; rfl) rfl .nil) h
/-- a part of a slice -/
abbrev DO := En → Gm → (Option Int → Gm → Prop) → Prop
def upO (K : PySem.W.Frag) (B : Bs) (d : DO) : TO := fun σ H Q => ∃ ρ Hd G R, At K B σ H ρ Hd G ∧ d ρ G R ∧ ∀ o H' Hd' G', Ex Hd Hd' → Sim K B.f Hd' H' G' → R o G' → Q o H'
def dNoP : DO := fun _ G R => R none G
def dPart (de : DE) : DO := fun ρ G R => de ρ G fun x G1 => ∃ i, x = .int i ∧ R (some i) G1
theorem po_imp {eo : Option Expr} {t t' : TO} (h : PO X eo t) (i : ∀ σ H Q, t' σ H Q → t σ H Q) : PO X eo t' := ⟨fun pins s σ H Q I w => h.run pins s σ H Q I (i σ H Q w)⟩
theorem pod_none : PO X none (upO X.K B dNoP) := po_imp po_none fun σ H Q ⟨ρ, Hd, G, R, at_, h, k⟩ => k none H Hd G (Ex.refl _) at_.s h
theorem pod_some (h : PE X e (upE X.K B da)) : PO X (some e) (upO X.K B (dPart da)) := po_imp (po_some h) fun σ H Q ⟨ρ, Hd, G, R, at_, h, k⟩ =>
  ⟨ρ, Hd, G, _, at_, h, fun v H1 Hd1 x G1 e1 s1 r1 ⟨i, ex, h1⟩ => by
    subst ex
    cases r1
    exact ⟨i, rfl, k _ H1 Hd1 G1 e1 s1 h1⟩⟩
def cutD (xs : List D) (lo hi : Option Int) : List D := (xs.drop (HT.sIx xs.length 0 lo)).take (HT.sIx xs.length xs.length hi - HT.sIx xs.length 0 lo)
theorem rpl_cut {K : PySem.W.Frag} {H : Hp} {vs : List V} {ds : List D} (r : RpL K H vs ds) (lo hi : Option Int) : RpL K H (cutV vs lo hi) (cutD ds lo hi) := by
  unfold cutV cutD
  rw [r.length]
  exact (r.drop _).take _
/-- a slice of a list; of a tuple, not the whole of it -/
def fSl (G : Gm) (x : D) (lo hi : Option Int) (z : D) : Prop := (∃ ds, LstAt G x ds ∧ z = .lst (cutD ds lo hi)) ∨ ∃ ds, x = .tup ds ∧ z = .tup (cutD ds lo hi) ∧ ¬ (HT.sIx ds.length 0 lo = 0 ∧ HT.sIx ds.length ds.length hi = ds.length)
def dSl (da : DE) (l h : DO) : DE := fun ρ G R => da ρ G fun x G1 => l ρ G1 fun lo G2 => h ρ G2 fun hi G3 => ∃ z, fSl G3 x lo hi z ∧ R z G3
theorem pd_slice {lo hi : Option Expr} {l h : DO} {p2 : Pos} (he : PE X e (upE X.K B da)) (hl : PO X lo (upO X.K B l)) (hh : PO X hi (upO X.K B h)) : PE X (.Subscript e (.Slice lo hi none p2) pos) (upE X.K B (dSl da l h)) :=
  pe_imp (pe_slice (sl_list.or sl_tup) he hl hh) fun σ H Q ⟨ρ, Hd, G, R, at_, h, k⟩ =>
    ⟨ρ, Hd, G, _, at_, h, fun v H1 Hd1 x G1 e1 s1 r1 h1 => ⟨ρ, Hd1, G1, _, at_.step e1 s1, h1, fun lo H2 Hd2 G2 e2 s2 h2 => ⟨ρ, Hd2, G2, _, (at_.step e1 s1).step e2 s2, h2, fun hi H3 Hd3 G3 e3 s3 ⟨z, hz, h3⟩ => by
      have e123 := (e1.trans e2).trans e3
      rcases hz with ⟨ds, hl, rfl⟩ | ⟨ds, rfl, rfl, hn⟩
      · obtain ⟨q, ys, rfl, hq, r3⟩ := hl.sq s3 (r1.mono (e2.trans e3))
        exact .inl ⟨q, ys, rfl, hq, fun pp hp => k _ _ _ _ G3 (e123.trans (s3.exn hp)) (s3.new hp) (.lst sq_new ((rpl_cut r3 lo hi).mono (s3.exn hp))) h3⟩
      · cases r1.mono (e2.trans e3) with
        | tup hq r3 =>
          refine .inr ⟨_, _, rfl, ex_t s3.sub hq, ?_, fun pp hp => k _ _ _ _ G3 (e123.trans (s3.exn hp)) (s3.new hp) (.tup st_new ((rpl_cut r3 lo hi).mono (s3.exn hp))) h3⟩
          rw [r3.length]
          exact hn⟩⟩⟩
end
end DL

/-! DL5: statements, loops, comprehensions. -/
namespace DL
open PySem PySem.Spec PyProof.Rows L2 Evl
variable [TabC]

section
variable {X : Cx} {B : Bs} {pos p : Pos} {a b c e : Expr} {es : List Expr} {da db dc de : DE} {dA : DA} {ta tb : DT} {st : Stmt} {sts : List Stmt} {s1 s2 : DS}
/-! ### blocks -/
def dNext : DS := fun E ρ G => E.nx ρ G
def dSeq (s t : DS) : DS := fun E ρ G => s { E with nx := t E } ρ G
theorem psd_nil : PSs X [] (upS X.K B dNext) := pss_imp pss_nil fun D σ H ⟨ρ, Hd, G, E, at_, h, k⟩ => k.nx σ H Hd ρ G (Ex.refl _) at_.e at_.s h
theorem psd_cons (h1 : PS X st (upS X.K B s1)) (h2 : PSs X sts (upS X.K B s2)) : PSs X (st :: sts) (upS X.K B (dSeq s1 s2)) := pss_imp (pss_cons h1 h2) fun D σ H ⟨ρ, Hd, G, E, at_, h, k⟩ =>
  ⟨ρ, Hd, G, _, at_, h, ⟨fun σ' H' Hd' ρ' G' e r s h' => ⟨ρ', Hd', G', E, ⟨at_.b.trans e, r, s⟩, h', k.mono e⟩, k.rt, k.bk, k.ct⟩⟩
theorem psd_one (h1 : PS X st (upS X.K B s1)) : PSs X [st] (upS X.K B s1) := pss_one h1
def dBreak : DS := fun E ρ G => E.bk ρ G
def dCont : DS := fun E ρ G => E.ct ρ G
theorem psd_pass : PS X (.Pass pos) (upS X.K B dNext) := ps_imp ps_pass fun D σ H ⟨ρ, Hd, G, E, at_, h, k⟩ => k.nx σ H Hd ρ G (Ex.refl _) at_.e at_.s h
theorem psd_break : PS X (.Break pos) (upS X.K B dBreak) := ps_imp ps_break fun D σ H ⟨ρ, Hd, G, E, at_, h, k⟩ => k.bk σ H Hd ρ G (Ex.refl _) at_.e at_.s h
theorem psd_continue : PS X (.Continue pos) (upS X.K B dCont) := ps_imp ps_continue fun D σ H ⟨ρ, Hd, G, E, at_, h, k⟩ => k.ct σ H Hd ρ G (Ex.refl _) at_.e at_.s h
def dRet (de : DE) : DS := fun E ρ G => de ρ G E.rt
theorem psd_ret (he : PE X e (upE X.K B de)) : PS X (.Return (some e) pos) (upS X.K B (dRet de)) := ps_imp (ps_ret he) fun D σ H ⟨ρ, Hd, G, E, at_, h, k⟩ => ⟨ρ, Hd, G, E.rt, at_, h, k.rt⟩
def dRetN : DS := fun E _ G => E.rt .non G
theorem psd_retN : PS X (.Return none pos) (upS X.K B dRetN) := ps_imp ps_retN fun D σ H ⟨ρ, Hd, G, E, at_, h, k⟩ => k.rt .non H Hd .non G (Ex.refl _) at_.s .non h
def dDrop (de : DE) : DS := fun E ρ G => de ρ G fun _ G1 => E.nx ρ G1
theorem psd_expr (he : PE X e (upE X.K B de)) (hs : swapsWith e none pos.line X.env = pure false := by rfl) : PS X (.Expr e pos) (upS X.K B (dDrop de)) := ps_imp (ps_expr he hs) fun D σ H ⟨ρ, Hd, G, E, at_, h, k⟩ =>
  ⟨ρ, Hd, G, _, at_, h, fun v H1 Hd1 x G1 e1 s1 r1 h1 => k.nx σ H1 Hd1 ρ G1 e1 (at_.e.mono e1) s1 h1⟩
def dIfS (t : DT) (s1 s2 : DS) : DS := fun E ρ G => t ρ G fun k G1 => if k = true then s1 E ρ G1 else s2 E ρ G1
theorem psd_if {A2 B2 : List Stmt} (hc : PT X c (upT X.K B ta)) (ha : PSs X A2 (upS X.K B s1)) (hb : PSs X B2 (upS X.K B s2)) : PS X (.If c A2 B2 pos) (upS X.K B (dIfS ta s1 s2)) := ps_imp (ps_if hc ha hb) fun D σ H ⟨ρ, Hd, G, E, at_, h, k⟩ =>
  ⟨ρ, Hd, G, _, at_, h, fun t H1 Hd1 G1 e1 s1 h1 => by
    cases t with
    | true => exact ⟨ρ, Hd1, G1, E, at_.step e1 s1, h1, k.mono e1⟩
    | false => exact ⟨ρ, Hd1, G1, E, at_.step e1 s1, h1, k.mono e1⟩⟩
/-- a statement that is never reached -/
def dNever : DS := fun _ _ _ => False
theorem psd_never : PS X st (upS X.K B dNever) := ps_imp ps_never fun D σ H ⟨ρ, Hd, G, E, at_, h, k⟩ => h

/-! ### targets -/
abbrev DG := D → En → Gm → (En → Gm → Prop) → Prop
abbrev DGs := List D → En → Gm → (En → Gm → Prop) → Prop
/-- no name but these is stored -/
def OnlyAt (js : List Nat) (σ σ' : L2.St) : Prop := σ'.length = σ.length ∧ ∀ j, j ∉ js → σ'[j]? = σ[j]?
theorem OnlyAt.trans {js ks : List Nat} {σ σ1 σ2 : L2.St} (h : OnlyAt js σ σ1) (h' : OnlyAt ks σ1 σ2) : OnlyAt (js ++ ks) σ σ2 :=
  ⟨h'.1.trans h.1, fun j hj => (h'.2 j fun z => hj (List.mem_append_right _ z)).trans (h.2 j fun z => hj (List.mem_append_left _ z))⟩
def KG (K : PySem.W.Frag) (F : Gm) (Hd : Hp) (js : List Nat) (σ : L2.St) (R : En → Gm → Prop) (Q : L2.St → Hp → Prop) : Prop := ∀ σ' H' Hd' ρ' G', Ex Hd Hd' → RpE K Hd' σ' ρ' → Sim K F Hd' H' G' → R ρ' G' → OnlyAt js σ σ' → Q σ' H'
theorem KN.kg {K : PySem.W.Frag} {F : Gm} {Hd : Hp} {js : List Nat} {σ : L2.St} {R : En → Gm → Prop} {Q : L2.St → Hp → Prop} (k : KN K F Hd R Q) : KG K F Hd js σ R Q := fun σ' H' Hd' ρ' G' e r s h _ => k σ' H' Hd' ρ' G' e r s h
def upG (K : PySem.W.Frag) (B : Bs) (js : List Nat) (g : DG) : TG := fun v σ H Q => ∃ x ρ Hd G R, At K B σ H ρ Hd G ∧ Rp K Hd v x ∧ g x ρ G R ∧ KG K B.f Hd js σ R Q
def upGs (K : PySem.W.Frag) (B : Bs) (js : List Nat) (g : DGs) : TGs := fun vs σ H Q => ∃ xs ρ Hd G R, At K B σ H ρ Hd G ∧ RpL K Hd vs xs ∧ g xs ρ G R ∧ KG K B.f Hd js σ R Q
theorem pg_imp {t t' : TG} (h : PG X e t) (i : ∀ v σ H Q, t' v σ H Q → t v σ H Q) : PG X e t' := ⟨fun pins s σ H v u Q I r w => h.run pins s σ H v u Q I r (i v σ H Q w)⟩
theorem pgs_imp {t t' : TGs} (h : PGs X es t) (i : ∀ v σ H Q, t' v σ H Q → t v σ H Q) : PGs X es t' := ⟨fun pins s σ H v u Q I r w => h.run pins s σ H v u Q I r (i v σ H Q w)⟩
def gN (i : Nat) : DG := fun x ρ G R => R (ρ.set i (some x)) G
theorem only_set {σ : L2.St} {i : Nat} {v : Option V} : OnlyAt [i] σ (σ.set i v) := ⟨List.length_set, fun j hj => List.getElem?_set_ne fun z => hj (by rw [z]; exact List.mem_singleton_self _)⟩
theorem pgd_name {i : Nat} {x : Str} (hN : X.N.Nodup) (hi : X.N[i]? = some x) (hx : Loc X.env.scope x) (hf : X.fn x = true ∨ X.env.scope.names.lookup x = some .local := by first | exact .inl rfl | exact .inr rfl | assumption) : PG X (.Name x pos) (upG X.K B [i] (gN i)) :=
  pg_imp (pg_name hN hi hx hf) fun v σ H Q ⟨x, ρ, Hd, G, R, at_, r, h, k⟩ => k _ H Hd _ G (Ex.refl _) (at_.e.set i r) at_.s h only_set
def gNil : DGs := fun xs ρ G R => xs = [] ∧ R ρ G
def gCons (g : DG) (gs : DGs) : DGs := fun xs ρ G R => ∃ y ys, xs = y :: ys ∧ g y ρ G fun ρ' G' => gs ys ρ' G' R
theorem pgsd_nil : PGs X [] (upGs X.K B [] gNil) := pgs_imp pgs_nil fun v σ H Q ⟨xs, ρ, Hd, G, R, at_, r, ⟨ex, h⟩, k⟩ => by
  subst ex
  cases r
  exact ⟨rfl, k _ H Hd _ G (Ex.refl _) at_.e at_.s h ⟨rfl, fun _ _ => rfl⟩⟩
theorem pgsd_cons {g : DG} {gs : DGs} {js ks : List Nat} (h1 : PG X e (upG X.K B js g)) (h2 : PGs X es (upGs X.K B ks gs)) (hs : (assignEach (e :: es) X.env).map (·.2) = assign e X.env :: (assignEach es X.env).map (·.2) := by rfl) : PGs X (e :: es) (upGs X.K B (js ++ ks) (gCons g gs)) :=
  pgs_imp (pgs_cons h1 h2 hs) fun v σ H Q ⟨xs, ρ, Hd, G, R, at_, r, ⟨y, ys, ex, h⟩, k⟩ => by
    subst ex
    cases r with
    | cons a b =>
      exact ⟨_, _, rfl, y, ρ, Hd, G, _, at_, a, h, fun σ' H' Hd' ρ' G' e1 r1 s1 h1 o1 => ⟨ys, ρ', Hd', G', R, ⟨at_.b.trans e1, r1, s1⟩, b.mono e1, h1, fun σ2 H2 Hd2 ρ2 G2 e2 r2 s2 h2 o2 => k σ2 H2 Hd2 ρ2 G2 (e1.trans e2) r2 s2 h2 (o1.trans o2)⟩⟩
def gSeq (n : Nat) (gs : DGs) : DG := fun x ρ G R => ∃ xs, SeqAt G x xs ∧ xs.length = n ∧ gs xs ρ G R
theorem pg_or {t t' : TG} (h : PG X e t) (h' : PG X e t') : PG X e (fun v σ H Q => t v σ H Q ∨ t' v σ H Q) := ⟨fun pins s σ H v u Q I r w => w.elim (h.run pins s σ H v u Q I r) (h'.run pins s σ H v u Q I r)⟩
theorem pgd_seq {k n : Nat} {gs : DGs} {js : List Nat} (hc : X.calm = true) (h : PGs X es (upGs X.K B js gs)) (hn : (assignEach es X.env).length = n := by rfl) (hst : (assignEach es X.env).findIdx? (·.1) = none := by rfl) : PG X (.Tuple es k pos) (upG X.K B js (gSeq n gs)) :=
  pg_imp (pg_or (pg_tup hc h hn hst) (pg_lst hc h hn hst)) fun v σ H Q ⟨x, ρ, Hd, G, R, at_, r, ⟨xs, hs, hl, h⟩, k⟩ => by
    obtain ⟨q, ys, rfl, hq, r2⟩ := hs.sq at_.s r
    have e : ys.length = n := by rw [r2.length, hl]
    have w : upGs X.K B js gs ys σ H Q := ⟨xs, ρ, Hd, G, R, at_, r2, h, k⟩
    rcases hq with hq | hq
    · exact .inr ⟨q, ys, rfl, hq, e, w⟩
    · exact .inl ⟨q, ys, rfl, hq, e, w⟩
def dAsg (de : DE) (g : DG) : DS := fun E ρ G => de ρ G fun x G1 => g x ρ G1 E.nx
theorem asg_imp {K : PySem.W.Frag} {g : DG} {js : List Nat} : ∀ D σ H, upS K B (dAsg de g) D σ H → tAsg (upE K B de) (upG K B js g) D σ H := fun D σ H ⟨ρ, Hd, G, E, at_, h, k⟩ =>
  ⟨ρ, Hd, G, _, at_, h, fun v H1 Hd1 x G1 e1 s1 r1 h1 => ⟨x, ρ, Hd1, G1, _, at_.step e1 s1, r1, h1, (k.nx.mono e1).kg⟩⟩
theorem psd_asg {tg : Expr} {g : DG} {js : List Nat} (he : PE X e (upE X.K B de)) (hg : PG X tg (upG X.K B js g)) (hs : swapsWithSole [tg] e pos.line X.env = pure false := by rfl) (hw : swappedStores [tg] e X.env = pure none := by rfl)
    (h1 : (assignEach [tg] X.env).map (·.2) = [assign tg X.env] := by rfl) : PS X (.Assign [tg] e pos) (upS X.K B (dAsg de g)) := ps_imp (ps_asg he hg hs hw h1) asg_imp
def dSet (i : Nat) (de : DE) : DS := fun E ρ G => de ρ G fun x G1 => E.nx (ρ.set i (some x)) G1
theorem set_imp {K : PySem.W.Frag} {i : Nat} : ∀ D σ H, upS K B (dSet i de) D σ H → tAsg (upE K B de) (gName i) D σ H := fun D σ H ⟨ρ, Hd, G, E, at_, h, k⟩ =>
  ⟨ρ, Hd, G, _, at_, h, fun v H1 Hd1 x G1 e1 s1 r1 h1 => k.nx _ H1 Hd1 _ G1 e1 ((at_.e.mono e1).set i r1) s1 h1⟩
theorem psd_set {i : Nat} {x : Str} {pp : Pos} (hN : X.N.Nodup) (hi : X.N[i]? = some x) (hx : Loc X.env.scope x) (he : PE X e (upE X.K B de)) (hs : swapsWith e (some (.Name x pp)) pos.line X.env = pure false := by rfl)
    (hf : X.fn x = true ∨ X.env.scope.names.lookup x = some .local := by first | exact .inl rfl | exact .inr rfl | assumption) : PS X (.Assign [.Name x pp] e pos) (upS X.K B (dSet i de)) := ps_imp (ps_set hN hi hx he hs hf) set_imp
/-- a, b = x, y -/
def dPar (i j : Nat) (dA : DA) : DS := fun E ρ G => dA ρ G fun xs G1 => ∃ x y, xs = [x, y] ∧ E.nx ((ρ.set i (some x)).set j (some y)) G1
theorem psd_par {i j : Nat} {x y : Str} {px py pt : Pos} {kt k2 : Nat} {pt2 : Pos} (hc : X.calm = true) (hN : X.N.Nodup) (hi : X.N[i]? = some x) (hj : X.N[j]? = some y) (hij : i ≠ j) (hx : X.env.scope.names.lookup x = some .local) (hy : X.env.scope.names.lookup y = some .local)
    (ha : PA X [a, b] (upA X.K B dA)) (hw : swappedStores [.Tuple [.Name x px, .Name y py] kt pt] (.Tuple [a, b] k2 pt2) X.env = pure (some [x, y])) (hs : swapsWithSole [.Tuple [.Name x px, .Name y py] kt pt] (.Tuple [a, b] k2 pt2) pos.line X.env = pure false := by rfl) :
    PS X (.Assign [.Tuple [.Name x px, .Name y py] kt pt] (.Tuple [a, b] k2 pt2) pos) (upS X.K B (dPar i j dA)) := ps_imp (ps_par hc hN hi hj hij hx hy ha hw hs) fun D σ H ⟨ρ, Hd, G, E, at_, h, k⟩ =>
  ⟨ρ, Hd, G, _, at_, h, fun vs H1 Hd1 xs G1 e1 s1 r1 ⟨x, y, ex, h1⟩ => by
    subst ex
    obtain ⟨v, u, rfl, rv, ru⟩ := rpl2 r1
    exact ⟨v, u, rfl, k.nx _ H1 Hd1 _ G1 e1 (((at_.e.mono e1).set i rv).set j ru) s1 h1⟩⟩

/-- o[i] = e, o a list that may change -/
def dSetIx (de dobj di : DE) : DS := fun E ρ G => de ρ G fun x G1 => dobj ρ G1 fun o G2 => di ρ G2 fun i G3 => ∃ q ds k j, o = .ref q ∧ G3 q = some (.lst ds) ∧ i = .int k ∧ ixN ds.length k = some j ∧ E.nx ρ (gup G3 q (.lst (ds.set j x)))
theorem psd_setIx {o i : Expr} {dobj di : DE} {pp : Pos} (he : PE X e (upE X.K B de)) (ho : PE X o (upE X.K B dobj)) (hi : PE X i (upE X.K B di))
    (hs : swapsWithSole [.Subscript o i pp] e pos.line X.env = pure false := by rfl) (hw : swappedStores [.Subscript o i pp] e X.env = pure none := by rfl) (h1 : (assignEach [.Subscript o i pp] X.env).map (·.2) = [assign (.Subscript o i pp) X.env] := by rfl)
    (ha : ∀ v, assign (.Subscript o i pp) X.env v = (do
      let ov ← holding [v] (eval o X.env)
      let iv ← holding [v, ov] (eval i X.env)
      standAt pp
      holding [v, ov, iv] (setItem ov iv v)
      release [v, ov, iv] []) := by intro _; rfl) : PS X (.Assign [.Subscript o i pp] e pos) (upS X.K B (dSetIx de dobj di)) := ps_imp (ps_asg he (pg_sub ho hi set_list ha) hs hw h1) fun D σ H ⟨ρ, Hd, G, E, at_, h, k⟩ =>
  ⟨ρ, Hd, G, _, at_, h, fun v H1 Hd1 x G1 e1 s1 r1 h1 => ⟨ρ, Hd1, G1, _, at_.step e1 s1, h1, fun u H2 Hd2 y G2 e2 s2 r2 h2 => ⟨ρ, Hd2, G2, _, (at_.step e1 s1).step e2 s2, h2, fun w H3 Hd3 z G3 e3 s3 r3 ⟨q, ds, kk, j, ey, hg, ez, hj, h3⟩ => by
    subst ey ez
    cases r2
    cases r3
    obtain ⟨ys, hy, ry⟩ := s3.hold q _ hg
    refine ⟨q, ys, kk, j, rfl, rfl, hy, by rw [ry.length]; exact hj, ?_⟩
    have e123 := (e1.trans e2).trans e3
    exact k.nx _ _ Hd3 ρ _ e123 (at_.e.mono e123) (s3.put (n := .lst (ds.set j x)) hg ⟨_, upd_same, ry.set j (r1.mono (e2.trans e3))⟩) h3⟩⟩⟩

/-! ### while -/
def dWhile (t : DT) (s : DS) : DS := fun E ρ G => ∃ W : Nat → En → Gm → Prop, (∃ m, W m ρ G) ∧ ∀ m ρ G, W m ρ G → t ρ G fun k G1 => if k = true then s { E with nx := fun ρ' G' => ∃ m', m' < m ∧ W m' ρ' G', ct := fun ρ' G' => ∃ m', m' < m ∧ W m' ρ' G', bk := E.nx } ρ G1 else E.nx ρ G1
theorem psd_while {body : List Stmt} (hp : PassesOwn (model X.prog X.w) X.A X.env X.xe) (hc : PT X c (upT X.K B ta)) (hb : PSs X body (upS X.K B s1)) : PS X (.While c body [] pos) (upS X.K B (dWhile ta s1)) := ps_imp (ps_while hp hc hb) fun D σ H ⟨ρ, Hd, G, E, at_, ⟨W, ⟨m, w0⟩, turn⟩, k⟩ => by
  refine ⟨fun m σ H => ∃ ρ Hd' G, At X.K B σ H ρ Hd' G ∧ Ex Hd Hd' ∧ W m ρ G, ⟨m, ρ, Hd, G, at_, Ex.refl _, w0⟩, ?_⟩
  rintro m σ H ⟨ρ, Hd1, G, at1, e0, w⟩
  refine ⟨ρ, Hd1, G, _, at1, turn m ρ G w, fun t H1 Hd2 G1 e1 s1 h1 => ?_⟩
  cases t with
  | false => exact k.nx σ H1 Hd2 ρ G1 (e0.trans e1) (at1.e.mono e1) s1 h1
  | true =>
    refine ⟨fun σ' H' => ∃ m', m' < m ∧ ∃ ρ Hd' G, At X.K B σ' H' ρ Hd' G ∧ Ex Hd Hd' ∧ W m' ρ G, fun σ' H' h => h, ρ, Hd2, G1, _, at1.step e1 s1, h1, ?_⟩
    have again : KN X.K B.f Hd2 (fun ρ' G' => ∃ m', m' < m ∧ W m' ρ' G') (fun σ' H' => ∃ m', m' < m ∧ ∃ ρ Hd' G, At X.K B σ' H' ρ Hd' G ∧ Ex Hd Hd' ∧ W m' ρ G) := fun σ' H' Hd3 ρ' G' e3 r3 s3 ⟨m', l, w'⟩ =>
      ⟨m', l, ρ', Hd3, G', ⟨(at1.b.trans e1).trans e3, r3, s3⟩, (e0.trans e1).trans e3, w'⟩
    exact ⟨again, (k.mono (e0.trans e1)).rt, (k.mono (e0.trans e1)).nx, again⟩

/-! ### what is walked -/
/-- J yields the data xs one behind another, as long as what never changes stands -/
def Walks (K : PySem.W.Frag) (Hd : Hp) (J : It) (xs : List D) : Prop := ∀ (F : Gm) (i : Nat) (H2 Hd2 : Hp) (G2 : Gm), Ex Hd Hd2 → Sim K F Hd2 H2 G2 →
  (∀ d, xs[i]? = some d → J.go i H2 ∧ ∀ v H3, J.yld i H2 v H3 → ∃ Hd3, Ex Hd2 Hd3 ∧ Sim K F Hd3 H3 G2 ∧ Rp K Hd3 v d) ∧ (xs.length ≤ i → J.stop i H2)
abbrev DI := En → Gm → (List D → Gm → Prop) → Prop
def upI (K : PySem.W.Frag) (B : Bs) (di : DI) : TI := fun σ H R => ∃ ρ Hd G S, At K B σ H ρ Hd G ∧ di ρ G S ∧ ∀ J H' Hd' xs G', Ex Hd Hd' → Sim K B.f Hd' H' G' → Walks K Hd' J xs → S xs G' → R J H'
theorem Walks.mono {K : PySem.W.Frag} {Hd Hd' : Hp} {J : It} {xs : List D} (w : Walks K Hd J xs) (e : Ex Hd Hd') : Walks K Hd' J xs := fun F i H2 Hd2 G2 e2 => w F i H2 Hd2 G2 (e.trans e2)
theorem pi_imp {tg iter : Expr} {t t' : TI} (h : PI X tg iter t) (i : ∀ σ H R, t' σ H R → t σ H R) : PI X tg iter t' := ⟨fun pins s σ H R I w => h.run pins s σ H R I (i σ H R w)⟩
/-- a list that never changes -/
theorem walks_lst {K : PySem.W.Frag} {Hd : Hp} {q : Addr} {ys : List V} {xs : List D} (h : SqL K Hd q ys) (r : RpL K Hd ys xs) : Walks K Hd (Itl K q) xs := fun F i H2 Hd2 G2 e s => by
  have hH : SqL K H2 q ys := ex_l (e.trans s.sub) h
  refine ⟨fun d hd => ?_, fun hl => ⟨ys, hH, by rw [r.length]; exact hl⟩⟩
  obtain ⟨v, hv, rv⟩ := r.at hd
  refine ⟨⟨ys, v, hH, hv⟩, fun w H3 ⟨eH, hw⟩ => ?_⟩
  subst eH
  have e2 : v = w := Option.some.inj (hv.symm.trans (hw ys hH))
  subst e2
  exact ⟨Hd2, Ex.refl _, s, rv.mono e⟩
theorem walks_tup {K : PySem.W.Frag} {Hd : Hp} {q : Addr} {ys : List V} {xs : List D} (h : SqT K Hd q ys) (r : RpL K Hd ys xs) : Walks K Hd (Itt K q) xs := fun F i H2 Hd2 G2 e s => by
  have hH : SqT K H2 q ys := ex_t (e.trans s.sub) h
  refine ⟨fun d hd => ?_, fun hl => ⟨ys, hH, by rw [r.length]; exact hl⟩⟩
  obtain ⟨v, hv, rv⟩ := r.at hd
  refine ⟨⟨ys, v, hH, hv⟩, fun w H3 ⟨eH, hw⟩ => ?_⟩
  subst eH
  have e2 : v = w := Option.some.inj (hv.symm.trans (hw ys hH))
  subst e2
  exact ⟨Hd2, Ex.refl _, s, rv.mono e⟩
theorem walks_rng {K : PySem.W.Frag} {Hd : Hp} {lo : Int} {n : Nat} : Walks K Hd (Itr lo n) ((List.range n).map fun i : Nat => D.int (lo + i)) := fun F i H2 Hd2 G2 e s => by
  refine ⟨fun d hd => ?_, fun hl => by
    show n ≤ i
    simpa using hl⟩
  rw [List.getElem?_map] at hd
  by_cases hi : i < n
  · rw [List.getElem?_range hi] at hd
    cases hd
    refine ⟨hi, fun w H3 ⟨eH, hw⟩ => ?_⟩
    subst eH hw
    exact ⟨Hd2, Ex.refl _, s, .int _⟩
  · rw [List.getElem?_eq_none (by simpa using hi)] at hd
    cases hd
/-- a list or a tuple -/
def iSeq (K : PySem.W.Frag) (tl : TE) : TI := fun σ H R => tl σ H fun x H1 => ∃ q, x = .ref q ∧ (((∃ xs, SqL K H1 q xs) ∧ R (Itl K q) H1) ∨ ((∃ xs, SqT K H1 q xs) ∧ R (Itt K q) H1))
theorem pi_seq {tg l : Expr} {tl : TE} (hl : PE X l tl) : PI X tg l (iSeq X.K tl) := by
  refine ⟨fun pins s σ H R I h => ?_⟩
  refine thn (hl.run pins s σ H _ I h) fun v s2 hv => ?_
  obtain ⟨x, H1, I1, rx, q, ex, hx⟩ := hv
  subst ex
  cases rx
  have fp : ∀ b ∈ [s2.heap.objs.size], FpOk X pins H1 b := fun b hb => by
    cases List.mem_singleton.mp hb
    exact I1.fpOk (Nat.le_refl _) (I1.hok.fresh (Nat.le_refl _))
  rcases hx with ⟨⟨xs, hq⟩, w⟩ | ⟨⟨xs, hq⟩, w⟩
  · obtain ⟨its, _, pl, _⟩ := I1.list hq
    refine wpAny_pyIter_list pl.isList ?_
    exact ⟨_, _, _, _, H1, rfl, I1.kept (t' := s2.toks) fun b o e => Heap.get?_push_of_some _ e, turn_list q _, ⟨_, Heap.get?_push_size _ rfl, rfl, rfl⟩, fp, w⟩
  · obtain ⟨its, _, pl, _⟩ := I1.tuple hq
    refine wpAny_pyIter_tuple (show s2.heap.IsTuple q its.toArray from pl) ?_
    exact ⟨_, _, _, _, H1, rfl, I1.kept (t' := s2.toks) fun b o e => Heap.get?_push_of_some _ e, turn_tuple q _, ⟨_, Heap.get?_push_size _ rfl, rfl, rfl⟩, fp, w⟩
/-- what never changes is walked -/
def dISeq (de : DE) : DI := fun ρ G S => de ρ G fun x G1 => ∃ xs, (x = .lst xs ∨ x = .tup xs) ∧ S xs G1
theorem pid_seq {tg : Expr} (he : PE X e (upE X.K B de)) : PI X tg e (upI X.K B (dISeq de)) := pi_imp (pi_seq he) fun σ H R ⟨ρ, Hd, G, S, at_, h, k⟩ =>
  ⟨ρ, Hd, G, _, at_, h, fun v H1 Hd1 x G1 e1 s1 r1 ⟨xs, hx, h1⟩ => by
    rcases hx with rfl | rfl
    · cases r1 with
      | lst q r => exact ⟨_, rfl, .inl ⟨⟨_, ex_l s1.sub q⟩, k _ H1 Hd1 xs G1 e1 s1 (walks_lst q r) h1⟩⟩
    · cases r1 with
      | tup q r => exact ⟨_, rfl, .inr ⟨⟨_, ex_t s1.sub q⟩, k _ H1 Hd1 xs G1 e1 s1 (walks_tup q r) h1⟩⟩⟩
def rngD (lo : Int) (n : Nat) : List D := (List.range n).map fun i : Nat => D.int (lo + i)
def dIRng1 (da : DE) : DI := fun ρ G S => da ρ G fun x G1 => ∃ j, x = .int j ∧ -(2 ^ 62) ≤ j ∧ j < 2 ^ 62 ∧ S (rngD 0 j.toNat) G1
theorem pid_rng1 {tg : Expr} (hg : Gl X "range") (hm : X.mg "range" = none) (ha : PE X a (upE X.K B da)) (hs : starEach [a] X.env = [(false, eval a X.env)] := by rfl) : PI X tg (.Call (.Name "range" p) [a] [] pos) (upI X.K B (dIRng1 da)) :=
  pi_imp (pi_range1 hg hm (pda_cons ha pda_nil hs) hs) fun σ H R ⟨ρ, Hd, G, S, at_, h, k⟩ =>
    ⟨ρ, Hd, G, fun xs G1 => ∃ j, xs = [.int j] ∧ -(2 ^ 62) ≤ j ∧ j < 2 ^ 62 ∧ S (rngD 0 j.toNat) G1, at_, by
      show da ρ G _
      exact cast (congrArg (da ρ G) (funext fun x => funext fun G1 => propext ⟨fun ⟨j, e, r⟩ => ⟨j, by rw [e], r⟩, fun ⟨j, e, r⟩ => ⟨j, by cases e; rfl, r⟩⟩)) h, fun vs H1 Hd1 xs G1 e1 s1 r1 ⟨j, ex, l, u, h1⟩ => by
      subst ex
      obtain ⟨v, rfl, rv⟩ := rpl1 r1
      cases rv
      exact ⟨j, rfl, l, u, k _ H1 Hd1 _ G1 e1 s1 walks_rng h1⟩⟩
def dIRng2 (da db : DE) : DI := fun ρ G S => da ρ G fun x G1 => db ρ G1 fun y G2 => ∃ i j, x = .int i ∧ y = .int j ∧ (-(2 ^ 62) ≤ i ∧ i < 2 ^ 62 ∧ -(2 ^ 62) ≤ j ∧ j < 2 ^ 62) ∧ S (rngD i (j - i).toNat) G2
theorem pid_rng2 {tg : Expr} (hg : Gl X "range") (hm : X.mg "range" = none) (ha : PE X a (upE X.K B da)) (hb : PE X b (upE X.K B db)) (hs : starEach [a, b] X.env = [(false, eval a X.env), (false, eval b X.env)] := by rfl) (hs2 : starEach [b] X.env = [(false, eval b X.env)] := by rfl) :
    PI X tg (.Call (.Name "range" p) [a, b] [] pos) (upI X.K B (dIRng2 da db)) :=
  pi_imp (pi_range2 hg hm (pda_cons ha (pda_cons hb pda_nil hs2) (by rw [hs, hs2])) hs hs2) fun σ H R ⟨ρ, Hd, G, S, at_, h, k⟩ =>
    ⟨ρ, Hd, G, fun xs G1 => ∃ i j, xs = [.int i, .int j] ∧ (-(2 ^ 62) ≤ i ∧ i < 2 ^ 62 ∧ -(2 ^ 62) ≤ j ∧ j < 2 ^ 62) ∧ S (rngD i (j - i).toNat) G1, at_, by
      show da ρ G fun x G1 => db ρ G1 _
      refine cast (congrArg (da ρ G) (funext fun x => funext fun G1 => congrArg (db ρ G1) (funext fun y => funext fun G2 => propext ⟨fun ⟨i, j, e, e2, r⟩ => ⟨i, j, by rw [e, e2], r⟩, fun ⟨i, j, e, r⟩ => ?_⟩))) h
      injection e with e e2
      injection e2 with e2 _
      exact ⟨i, j, e, e2, r⟩, fun vs H1 Hd1 xs G1 e1 s1 r1 ⟨i, j, ex, bd, h1⟩ => by
      subst ex
      obtain ⟨v, u, rfl, rv, ru⟩ := rpl2 r1
      cases rv
      cases ru
      exact ⟨i, j, rfl, bd, k _ H1 Hd1 _ G1 e1 s1 walks_rng h1⟩⟩

/-! ### for -/
/-- the body turn by turn -/
def forL (g : DG) (s : DS) (E : DEnds) : List D → En → Gm → Prop
  | [] => E.nx
  | x :: xs => fun ρ G => g x ρ G fun ρ1 G1 => s { E with nx := forL g s E xs, ct := forL g s E xs, bk := E.nx } ρ1 G1
def dFor (di : DI) (g : DG) (s : DS) : DS := fun E ρ G => di ρ G fun xs G1 => forL g s E xs ρ G1
theorem psd_for {tg iter : Expr} {body : List Stmt} {di : DI} {g : DG} {sb : DS} {js : List Nat} (hp : PassesOwn (model X.prog X.w) X.A X.env X.xe) (hc : X.calm = true) (hi : PI X tg iter (upI X.K B di)) (hg : PG X tg (upG X.K B js g)) (hb : PSs X body (upS X.K B sb))
    (hs : ∀ x, foldedSetIterable iter X.env x = pure x := by intro _; rfl) : PS X (.For tg iter body [] pos) (upS X.K B (dFor di g sb)) := ps_imp (ps_for hp hc hi hg hb hs) fun D σ H ⟨ρ, Hd, G, E, at_, h, k⟩ => by
  refine ⟨ρ, Hd, G, _, at_, h, fun J H1 Hd1 xs G1 e1 s1 w h1 => ?_⟩
  refine ⟨fun i m σ H => m = xs.length - i ∧ i ≤ xs.length ∧ ∃ ρ Hd2 G2, At X.K B σ H ρ Hd2 G2 ∧ Ex Hd1 Hd2 ∧ forL g sb E (xs.drop i) ρ G2, ⟨_, rfl, Nat.zero_le _, ρ, Hd1, G1, at_.step e1 s1, Ex.refl _, h1⟩, ?_⟩
  rintro i m σ2 H2 ⟨rfl, hi2, ρ2, Hd2, G2, at2, e2, h2⟩
  obtain ⟨w1, w2⟩ := w B.f i H2 Hd2 G2 e2 at2.s
  by_cases hl : i < xs.length
  · rw [List.drop_eq_getElem_cons hl] at h2
    obtain ⟨go, yl⟩ := w1 xs[i] (by simp [hl])
    let N : L2.St → Hp → Prop := fun σ' H' => ∃ ρ Hd3 G3, At X.K B σ' H' ρ Hd3 G3 ∧ Ex Hd1 Hd3 ∧ forL g sb E (xs.drop (i + 1)) ρ G3
    refine .inr ⟨go, N, fun σ' H' h' => ⟨xs.length - (i + 1), by omega, rfl, hl, h'⟩, fun v H3 y => ?_⟩
    obtain ⟨Hd3, e3, s3, r3⟩ := yl v H3 y
    have again : ∀ {Hd4 : Hp}, Ex Hd1 Hd4 → Ex B.b Hd4 → KN X.K B.f Hd4 (forL g sb E (xs.drop (i + 1))) N := fun {Hd4} f1 f2 σ' H' Hd' ρ' G' e' r' s' h' => ⟨ρ', Hd', G', ⟨f2.trans e', r', s'⟩, f1.trans e', h'⟩
    refine ⟨xs[i], ρ2, Hd3, G2, _, at2.step e3 s3, r3, h2, fun σ' H' Hd' ρ' G' e' r' s' h' _ => ?_⟩
    have eB : Ex B.b Hd' := ((at2.b.trans e3).trans e')
    have e1' : Ex Hd1 Hd' := (e2.trans e3).trans e'
    have k' := k.mono (e1.trans e1')
    exact ⟨ρ', Hd', G', _, ⟨eB, r', s'⟩, h', ⟨again e1' eB, k'.rt, k'.nx, again e1' eB⟩⟩
  · have e0 : xs.drop i = [] := List.drop_eq_nil_of_le (by omega)
    rw [e0] at h2
    exact .inl ⟨w2 (by omega), k.nx σ2 H2 Hd2 ρ2 G2 (e1.trans e2) at2.e at2.s h2⟩
end
end DL

/-! DL6: comprehensions. -/
namespace DL
open PySem PySem.Spec PyProof.Rows L2 Evl
variable [TabC]

theorem wipe_in {σ : L2.St} {j : Nat} : ∀ {vs : List Nat}, j ∈ vs → (L2.wipe σ vs)[j]? = if j < σ.length then some none else none
  | [], h => nomatch h
  | v :: vs, h => by
    unfold L2.wipe
    by_cases e : v = j
    · subst e
      by_cases l : v < σ.length
      · rw [List.getElem?_set_self (by rw [wipe_length]; exact l), if_pos l]
      · rw [if_neg l, List.getElem?_eq_none (by rw [List.length_set, wipe_length]; omega)]
    · rw [List.getElem?_set_ne e]
      rcases List.mem_cons.mp h with z | z
      · exact absurd z.symm e
      · exact wipe_in z
theorem wipe_only {σ σ' : L2.St} {js vs : List Nat} (o : OnlyAt js (L2.wipe σ vs) σ') (h : ∀ j ∈ js, j ∈ vs) : L2.wipe σ' vs = L2.wipe σ vs := by
  have hl : σ'.length = σ.length := by rw [o.1, wipe_length]
  refine List.ext_getElem? fun j => ?_
  by_cases hj : j ∈ vs
  · rw [wipe_in hj, wipe_in hj, hl]
  · rw [wipe_out hj, o.2 j fun z => hj (h j z)]

section
variable {X : Cx}
theorem pe_ex {ι : Type} {e : Expr} {t : ι → TE} (h : ∀ i, PE X e (t i)) : PE X e (fun σ H Q => ∃ i, t i σ H Q) := ⟨fun pins s σ H Q I ⟨i, w⟩ => (h i).run pins s σ H Q I w⟩
theorem pg_ex {ι : Type} {e : Expr} {t : ι → TG} (h : ∀ i, PG X e (t i)) : PG X e (fun v σ H Q => ∃ i, t i v σ H Q) := ⟨fun pins s σ H v u Q I r ⟨i, w⟩ => (h i).run pins s σ H v u Q I r w⟩
theorem pts_ex {ι : Type} {es : List Expr} {t : ι → TT} (h : ∀ i, PTs X es (t i)) : PTs X es (fun σ H Q => ∃ i, t i σ H Q) := ⟨fun pins s σ H Q I ⟨i, w⟩ => (h i).run pins s σ H Q I w⟩
end
theorem Sim.putF {K : PySem.W.Frag} {F : Gm} {Hd H : Hp} {G : Gm} {p : Addr} {m n : Mt} {o : HO} (S : Sim K (gup F p m) Hd H G) (hm0 : ∀ q, m ≠ .tab q) (hm : HoldM K Hd (upd H p o) p n) : Sim K (gup F p n) Hd (upd H p o) G := by
  have hd : Hd p = none := S.offF p m gup_same
  have hg : G p = none := S.apart p m gup_same
  refine ⟨ex_put S.sub hd, S.off, fun a k e => (S.hold a k e).other (ne_g e hg), fun a k e => ?_, fun a k e => ?_, fun a k e => ?_, fun q hq => ?_⟩
  · by_cases q : a = p
    · rw [q]
      exact hd
    · exact S.offF a k (by rw [gup_ne q] at e ⊢; exact e)
  · by_cases q : a = p
    · subst q
      rw [gup_same] at e
      cases e
      exact hm
    · exact (S.holdF a k (by rw [gup_ne q] at e ⊢; exact e)).other q
  · by_cases q : a = p
    · rw [q]
      exact hg
    · exact S.apart a k (by rw [gup_ne q] at e ⊢; exact e)
  · have t := S.tabs q hq
    by_cases z : q.1 = p
    · rw [z, gup_same] at t
      exact (hm0 q.2 (Option.some.inj t)).elim
    · rw [gup_ne z] at t ⊢
      exact t

section
variable {X : Cx} {B : Bs} {pos p : Pos} {a b c e : Expr} {es : List Expr} {da db dc de : DE} {dA : DA} {ta tb : DT}
/-- the items one behind another: acc was made so far -/
def cmpL (ρ0 : En) (g : DG) (t : DT) (de : DE) : List D → List D → Gm → (List D → Gm → Prop) → Prop
  | [], acc, G, S => S acc G
  | x :: xs, acc, G, S => g x ρ0 G fun ρ1 G1 => t ρ1 G1 fun k G2 => if k = true then de ρ1 G2 fun y G3 => acc.length < sizeLine ∧ cmpL ρ0 g t de xs (acc ++ [y]) G3 S else cmpL ρ0 g t de xs acc G2 S
def dCmp (di : DI) (g : DG) (t : DT) (de : DE) (vs : List Nat) : DE := fun ρ G R => di ρ G fun xs G1 => cmpL (wipeD ρ vs) g t de xs [] G1 fun acc G2 => R (.lst acc) G2
def dYes : DT := fun _ G R => R true G
theorem ptsd_nil : PTs X [] (upT X.K B dYes) := ⟨fun pins s σ H Q I ⟨ρ, Hd, G, R, at_, h, k⟩ => pts_nil.run pins s σ H Q I (k true H Hd G (Ex.refl _) at_.s h)⟩
theorem ptsd_one (h : PT X c (upT X.K B ta)) : PTs X [c] (upT X.K B ta) := pts_one h
theorem lc_imp {K : PySem.W.Frag} {di : DI} {g : DG} {t : DT} {de : DE} {js vs : List Nat} (hj : ∀ j ∈ js, j ∈ vs) : ∀ σ H Q, upE K B (dCmp di g t de vs) σ H Q →
    tLc (upI K B di) (fun v σ H Q => ∃ B', upG K B' js g v σ H Q) (fun σ H Q => ∃ B', upT K B' t σ H Q) (fun σ H Q => ∃ B', upE K B' de σ H Q) vs σ H Q := fun σ H Q ⟨ρ, Hd, G, R, at_, h, k⟩ => by
  refine ⟨ρ, Hd, G, _, at_, h, fun J H1 Hd1 xs G1 e1 s1 w h1 Dl hD => ?_⟩
  have hF : B.f Dl = none := s1.ffree hD
  have ere : RpE K Hd1 (L2.wipe σ vs) (wipeD ρ vs) := (at_.e.mono e1).wipe vs
  refine ⟨fun i m H2 => m = xs.length - i ∧ i ≤ xs.length ∧ ∃ Hd2 G2 acc, Ex Hd1 Hd2 ∧ Sim K (gup B.f Dl (.lst acc)) Hd2 H2 G2 ∧ cmpL (wipeD ρ vs) g t de (xs.drop i) acc G2 fun acc G2 => R (.lst acc) G2,
    ⟨_, rfl, Nat.zero_le _, Hd1, G1, [], Ex.refl _, s1.hide (s1.ffree hD) (s1.free hD) (ex_put s1.sub (s1.free hD)) (s1.gfree hD) ⟨[], upd_same, .nil⟩, h1⟩, ?_⟩
  rintro i m H2 ⟨rfl, hi2, Hd2, G2, acc, e2, s2, h2⟩
  obtain ⟨w1, w2⟩ := w _ i H2 Hd2 G2 e2 s2
  by_cases hl : i < xs.length
  · rw [List.drop_eq_getElem_cons hl] at h2
    obtain ⟨go, yl⟩ := w1 xs[i] (by simp [hl])
    let N : Hp → Prop := fun H' => ∃ Hd2 G2 acc, Ex Hd1 Hd2 ∧ Sim K (gup B.f Dl (.lst acc)) Hd2 H' G2 ∧ cmpL (wipeD ρ vs) g t de (xs.drop (i + 1)) acc G2 fun acc G2 => R (.lst acc) G2
    refine .inr ⟨go, N, fun H' h' => ⟨xs.length - (i + 1), by omega, rfl, hl, h'⟩, fun v H3 y => ?_⟩
    obtain ⟨Hd3, e3, s3, r3⟩ := yl v H3 y
    have at3 : At K ⟨Hd3, gup B.f Dl (.lst acc)⟩ (L2.wipe σ vs) H3 (wipeD ρ vs) Hd3 G2 := ⟨Ex.refl _, ere.mono (e2.trans e3), s3⟩
    refine ⟨⟨Hd3, gup B.f Dl (.lst acc)⟩, xs[i], wipeD ρ vs, Hd3, G2, _, at3, r3, h2, fun σ4 H4 Hd4 ρ4 G4 e4 r4 s4 h4 o4 => ⟨wipe_only o4 hj, ?_⟩⟩
    refine ⟨⟨Hd3, gup B.f Dl (.lst acc)⟩, ρ4, Hd4, G4, _, ⟨e4, r4, s4⟩, h4, fun kk H5 Hd5 G5 e5 s5 h5 => ?_⟩
    cases kk with
    | false =>
      show N H5
      exact ⟨Hd5, G5, acc, ((e2.trans e3).trans e4).trans e5, s5, h5⟩
    | true =>
      refine ⟨⟨Hd3, gup B.f Dl (.lst acc)⟩, ρ4, Hd5, G5, _, ⟨e4.trans e5, r4.mono e5, s5⟩, h5, fun u H6 Hd6 y6 G6 e6 s6 r6 ⟨hz, h6⟩ => ?_⟩
      obtain ⟨ys, hy, ry⟩ := s6.holdF Dl (.lst acc) gup_same
      refine ⟨ys, hy, by rw [ry.length]; exact hz, Hd6, G6, acc ++ [y6], (((e2.trans e3).trans e4).trans e5).trans e6, s6.putF (fun q z => nomatch z) ⟨_, upd_same, ry.app (.cons r6 .nil)⟩, h6⟩
  · have e0 : xs.drop i = [] := List.drop_eq_nil_of_le (by omega)
    rw [e0] at h2
    obtain ⟨ys, hy, ry⟩ := s2.holdF Dl (.lst acc) gup_same
    have hd : Hd2 Dl = none := s2.offF Dl _ gup_same
    have ee : Ex Hd2 (upd Hd2 Dl (.lst ys)) := Ex.new hd
    exact .inl ⟨w2 (by omega), k (.ref Dl) H2 _ (.lst acc) G2 ((e1.trans e2).trans ee) (s2.bare hy hF) (.lst sq_new (ry.mono ee)) h2⟩
theorem pd_lc {elt tg iter : Expr} {ifs : List Expr} {scope : Scope} {own : List (Str × Nat)} {di : DI} {g : DG} {t : DT} {js : List Nat} (hc : X.calm = true) (hN : X.N.Nodup) (hi : PI X tg iter (upI X.K B di)) (ok : BlkOk X.N X.env.scope scope own) (hj : ∀ j ∈ js, j ∈ own.map (·.2))
    (hg : ∀ (B : Bs) (s : Shared) (H : Hp) (C : Addr) (cl : List (Str × Addr)) (fp : List Addr), PG (X.blk s H scope (compEnvC scope cl C X.env) fp) tg (upG X.K B js g)) (ht : ∀ (B : Bs) (s : Shared) (H : Hp) (C : Addr) (cl : List (Str × Addr)) (fp : List Addr), PTs (X.blk s H scope (compEnvC scope cl C X.env) fp) ifs (upT X.K B t))
    (he : ∀ (B : Bs) (s : Shared) (H : Hp) (C : Addr) (cl : List (Str × Addr)) (fp : List Addr), PE (X.blk s H scope (compEnvC scope cl C X.env) fp) elt (upE X.K B de)) (hs : ∀ x, foldedSetIterable iter X.env x = pure x := by intro _; rfl) :
    PE X (.ListComp elt [⟨tg, iter, ifs, 0⟩] scope pos) (upE X.K B (dCmp di g t de (own.map (·.2)))) :=
  pe_imp (pe_lc hc hN hi ok (fun s H C cl fp => pg_ex fun B => hg B s H C cl fp) (fun s H C cl fp => pts_ex fun B => ht B s H C cl fp) (fun s H C cl fp => pe_ex fun B => he B s H C cl fp) hs) (lc_imp hj)
theorem psd_setLc {i : Nat} {y : Str} {py spos : Pos} {elt tg iter : Expr} {ifs : List Expr} {scope : Scope} {own : List (Str × Nat)} {di : DI} {g : DG} {t : DT} {js : List Nat} (hc : X.calm = true) (hN : X.N.Nodup) (hy : X.N[i]? = some y) (hyl : X.env.scope.names.lookup y = some .local)
    (hsw : swapsWith (.ListComp elt [⟨tg, iter, ifs, 0⟩] scope pos) (some (.Name y py)) spos.line X.env = pure true) (hi : PI X tg iter (upI X.K B di)) (ok : BlkOk X.N X.env.scope scope own) (hj : ∀ j ∈ js, j ∈ own.map (·.2))
    (hg : ∀ (B : Bs) (s : Shared) (H : Hp) (C : Addr) (cl : List (Str × Addr)) (fp : List Addr), PG (X.blk s H scope (compEnvC scope cl C X.env) fp) tg (upG X.K B js g)) (ht : ∀ (B : Bs) (s : Shared) (H : Hp) (C : Addr) (cl : List (Str × Addr)) (fp : List Addr), PTs (X.blk s H scope (compEnvC scope cl C X.env) fp) ifs (upT X.K B t))
    (he : ∀ (B : Bs) (s : Shared) (H : Hp) (C : Addr) (cl : List (Str × Addr)) (fp : List Addr), PE (X.blk s H scope (compEnvC scope cl C X.env) fp) elt (upE X.K B de)) (hs : ∀ x, foldedSetIterable iter X.env x = pure x := by intro _; rfl) :
    PS X (.Assign [.Name y py] (.ListComp elt [⟨tg, iter, ifs, 0⟩] scope pos) spos) (upS X.K B (dSet i (dCmp di g t de (own.map (·.2))))) :=
  ps_imp (ps_setLc hc hN hy hyl hsw hi ok (fun s H C cl fp => pg_ex fun B => hg B s H C cl fp) (fun s H C cl fp => pts_ex fun B => ht B s H C cl fp) (fun s H C cl fp => pe_ex fun B => he B s H C cl fp) hs) fun D σ H h => lc_imp hj σ H _ (set_imp D σ H h)
end
end DL

/-! DL7: defs, their promises over data, calls; the law's call. -/
namespace DL
open PySem PySem.Spec PyProof.Rows L2 Evl
variable [TabC]

/-! ### a def that keeps a promise where no repr is under way -/
structure FnG (P : Program) (w : World) (K : PySem.W.Frag) (mg : Str → Option Value) (base : Heap) (k : Nat) (f : Addr) (fd : FuncData) (ps : List Str) (sp : Sp) : Prop where
  len : ∀ vs H Q E, sp vs H Q E → vs.length = ps.length
  run : ∀ (A : Around) (outer : List Env) (s : Shared) (H : Hp) (args : Args) (us : List Value) (vs : List V) (Q : VK) (E : XK), Room k A → A.guards = some [] → Env0 P w K mg base A outer s H → BindsTo s fd args (ps.zip us) → Vals vs us →
    sp vs H Q E → codeAny (model P w) A (.call (.ref f) args) (CR (L2.CX P w) outer P w H s Q E) s
section
variable {P : Program} {w : World} {K : PySem.W.Frag} {mg : Str → Option Value} {base : Heap}
theorem FnG.mono {j k : Nat} {f : Addr} {fd : FuncData} {ps : List Str} {sp : Sp} (F : FnG P w K mg base j f fd ps sp) (h : j ≤ k) : FnG P w K mg base k f fd ps sp :=
  ⟨F.len, fun A outer s H args us vs Q E r => F.run A outer s H args us vs Q E (r.mono h)⟩
theorem guards_in {A : Around} {env : Env} (h : A.guards = some []) : (A.deeper env).guards = some [] := h
/-- the code object of the def at f -/
def cdAt (K : PySem.W.Frag) (f : Addr) : Addr := match K.lookup f with
  | some ⟨_, _, .func fd, _⟩ => (match fd.code with
    | .ref c => c
    | _ => 0)
  | _ => 0
theorem cdAt_of {K : PySem.W.Frag} {f : Addr} {x qual : Str} {params : Arguments} {body : List Stmt} {scope : Scope} {oc : Value} {od : Option Addr} {dV kV doc pm cdv ct : Value} {an : Option Addr} {osl : Array (Option Value)}
    (lk : K.lookup f = some ⟨oc, od, .func (PySem.W.fnOf x qual params body scope dV kV doc pm an cdv ct), osl⟩) (hcd : PySem.W.codeIn K cdv qual = true) : cdv = .ref (cdAt K f) := by
  obtain ⟨c, rfl⟩ := He.codeIn_ref hcd
  unfold cdAt
  rw [lk]
/-- by its body -/
theorem fng_of {x qual : Str} {params : Arguments} {body : List Stmt} {scope : Scope} {dvs : List V} {kws : List (Str × V)} {f : Addr} {fd : FuncData} {N ps : List Str} {k : Nat} {sp : Sp} (F : FunD K x qual params body scope dvs kws f fd) (S : FnScope N ps scope)
    (len : ∀ vs H Q E, sp vs H Q E → vs.length = ps.length)
    (hbody : ∀ (cdv : Value), cdv = .ref (cdAt K f) → ∀ (A : Around) (outer : List Env) (s : Shared) (H : Hp) (vs : List V) (Q : VK) (E : XK), Room k (A.deeper (envOfC qual scope s.heap.objs.size f cdv)) → (A.deeper (envOfC qual scope s.heap.objs.size f cdv)).guards = some [] → sp vs H Q E →
      ∃ t, PSs (cxOf (L2.CX P w) P w K mg base N qual scope f cdv A outer s H E) body t ∧ t { nx := fun _ H' => Q .non H', rt := Q } (start N vs) H) : FnG P w K mg base (k + 1) f fd ps sp := by
  obtain ⟨oc, od, dV, kV, doc, pm, an, cdv, ct, osl, rfl, lk, hcd, _, _⟩ := F.ex
  refine ⟨len, fun A outer s H args us vs Q E room hgd e0 hb hv hs => ?_⟩
  have keepB : ∀ b o, base.get? b = some o → s.heap.get? b = some o := fun b o e => (e0.bs b o e).1
  have hK : K.In s.heap := e0.mod.kin.keeps keepB
  refine codeAny_call_function room.depth (hK _ _ lk) rfl S.co S.gen rfl (PySem.W.codeRec_of hK hcd) (hb _ _ _ _ ?_)
  refine wpAny_newFunctionEnv_cells S.kind (fun y hy => ?_) fun env henv s1 hx => ?_
  · obtain ⟨n, u⟩ := y
    rcases S.par n (List.of_mem_zip hy).1 with q | q
    · exact .inl q
    · exact .inr ⟨q, PySem.W.cellsFrom_some _ _ _ (.inl q)⟩
  · subst henv
    obtain ⟨t, ht, hq⟩ := hbody cdv (cdAt_of lk hcd) A outer s H vs Q E (room.deeper _) (guards_in hgd) hs
    have I := inv_start (CX := L2.CX P w) (E := E) (w := w) S room.hd e0 (len _ _ _ _ hs) hv hx
    refine ⟨(e0.mod.nolimit.keeps keepB).keeps hx.toInCall.keep, codeAny_func (wpAny_mono (ht.run [] s1 (start N vs) H _ I hq) (fun fl s2 h2 => ?_) fun _ _ h2 => h2)⟩
    cases fl with
    | next =>
      obtain ⟨σ', H', J, q⟩ := h2
      exact ⟨.non, H', J.os, J.bare, J.base, J.hok, rfl, q⟩
    | ret u =>
      obtain ⟨v, σ', H', J, rv, q⟩ := h2
      exact ⟨v, H', J.os, J.bare, J.base, J.hok, rv, q⟩
    | brk =>
      obtain ⟨_, _, _, q⟩ := h2
      exact q.elim
    | cont =>
      obtain ⟨_, _, _, q⟩ := h2
      exact q.elim
end

/-! ### promises over data -/
/-- what is raised: the class, its fields -/
abbrev XD := Str → List Str → List D → Gm → Prop
abbrev X0 : XD := fun _ _ _ _ => False
abbrev DSp := List D → Gm → KD → XD → Prop
def KX (K : PySem.W.Frag) (F : Gm) (Hd : Hp) (RX : XD) (E : XK) : Prop := ∀ (C : Str) (d : Addr) H' Hd' ns vs xs G', Ex Hd Hd' → Sim K F Hd' H' G' → H' d = some (.xd (List.zip ns vs)) → ns.length = vs.length → RpL K Hd' vs xs → RX C ns xs G' → E (.ref (He.ga K C)) (some d) H'
/-- over any store of others -/
def spU (K : PySem.W.Frag) (p : DSp) : Sp := fun vs H Q E => ∃ xs F Hd G R RX, RpL K Hd vs xs ∧ Sim K F Hd H G ∧ p xs G R RX ∧ KE K F Hd R Q ∧ KX K F Hd RX E
theorem KX.none {K : PySem.W.Frag} {F : Gm} {Hd : Hp} {E : XK} : KX K F Hd X0 E := fun _ _ _ _ _ _ _ _ _ _ _ _ _ h => h.elim
theorem KX.mono {K : PySem.W.Frag} {F : Gm} {Hd Hd' : Hp} {RX : XD} {E : XK} (k : KX K F Hd RX E) (e : Ex Hd Hd') : KX K F Hd' RX E := fun C d H' Hd2 ns vs xs G' e2 => k C d H' Hd2 ns vs xs G' (e.trans e2)

/-- a def of the top, what it promises -/
structure Kn (P : Program) (w : World) (K : PySem.W.Frag) (mg : Str → Option Value) (base : Heap) (k : Nat) (x : Str) (st : Stmt) (ps : List Str) (p : DSp) : Prop where
  g : mg x = some (.ref (He.ga K x))
  fn : ∃ fd, FunD K x x (defArgs st) (defBody st) (defScope st) [] [] (He.ga K x) fd ∧ FnG P w K mg base k (He.ga K x) fd ps (spU K p)
section
variable {P : Program} {w : World} {K : PySem.W.Frag} {mg : Str → Option Value} {base : Heap}
theorem Kn.mono {j k : Nat} {x : Str} {st : Stmt} {ps : List Str} {p : DSp} (h : Kn P w K mg base j x st ps p) (l : j ≤ k) : Kn P w K mg base k x st ps p :=
  ⟨h.g, let ⟨fd, a, b⟩ := h.fn; ⟨fd, a, b.mono l⟩⟩
/-- by its body's reading -/
theorem kn_of {x : Str} {st : Stmt} {N ps : List Str} {k : Nat} {p : DSp} (g : mg x = some (.ref (He.ga K x))) (F : ∃ fd, FunD K x x (defArgs st) (defBody st) (defScope st) [] [] (He.ga K x) fd) (S : FnScope N ps (defScope st)) (len : ∀ xs G R RX, p xs G R RX → xs.length = ps.length)
    (hbody : ∀ (cdv : Value), cdv = .ref (cdAt K (He.ga K x)) → ∀ (A : Around) (outer : List Env) (s : Shared) (H : Hp) (E : XK) (B : Bs) (RX : XD), Room k (A.deeper (envOfC x (defScope st) s.heap.objs.size (He.ga K x) cdv)) → (A.deeper (envOfC x (defScope st) s.heap.objs.size (He.ga K x) cdv)).guards = some [] → KX K B.f B.b RX E →
      ∃ t : DS, PSs (cxOf (L2.CX P w) P w K mg base N x (defScope st) (He.ga K x) cdv A outer s H E) (defBody st) (upS K B t) ∧ ∀ xs G R, p xs G R RX → t { nx := fun _ G => R .non G, rt := R } (xs.map some ++ List.replicate (N.length - xs.length) none) G) :
    Kn P w K mg base (k + 1) x st ps p := by
  obtain ⟨fd, F⟩ := F
  refine ⟨g, fd, F, fng_of F S (fun vs H Q E h => ?_) fun cdv hcv A outer s H vs Q E hr hg h => ?_⟩
  · obtain ⟨xs, _, _, G, R, RX, r, _, hp, _⟩ := h
    rw [r.length]
    exact len xs G R RX hp
  · obtain ⟨xs, F, Hd, G, R, RX, r, sm, hp, ke, kx⟩ := h
    obtain ⟨t, ht, h2⟩ := hbody cdv hcv A outer s H E ⟨Hd, F⟩ RX hr hg kx
    refine ⟨_, ht, _, Hd, G, _, ⟨Ex.refl _, RpE.start r, sm⟩, h2 xs G R hp, ?_⟩
    exact ⟨fun σ' H' Hd' ρ' G' e _ s h => ke .non H' Hd' .non G' e s .non h, ke, fun _ _ _ _ _ _ _ _ h => h.elim, fun _ _ _ _ _ _ _ _ h => h.elim⟩
end

section
variable {X : Cx} {B : Bs} {pos p : Pos} {e : Expr} {es : List Expr} {dA : DA}
/-! ### calls -/
theorem run_fng {k : Nat} {f : Addr} {fd : FuncData} {ps : List Str} {sp : Sp} {E : XK} {pins : List (Addr × Obj)} {σ : L2.St} {H : Hp} {s : Shared} {Q : VK} {args : Args} {us : List Value} {vs : List V} (F : FnG X.prog X.w X.K X.mg X.base k f fd ps sp) (hr : Room k X.A) (hgd : X.A.guards = some [])
    (hx : Passes (L2.CX X.prog X.w) X E) (I : Inv X pins σ H s) (hb : BindsTo s fd args (ps.zip us)) (r : Vals vs us) (h : sp vs H Q E) : codeAny (model X.prog X.w) X.A (.call (.ref f) args) (fun r s' => match r with | .ok (.ret u) => EP X pins σ Q u s' | .ok _ => False | .error e => X.xe e s') s := by
  refine codeAny_mono (F.run X.A X.stack s H args us vs Q E hr hgd I.env0 hb r h) fun r s' hq => ?_
  cases r with
  | error e => exact hx pins σ H s e s' I hq
  | ok fl =>
    cases fl with
    | ret u => exact I.after hq
    | next => exact hq.elim
    | brk => exact hq.elim
    | cont => exact hq.elim
/-- a promise at a call: RX, what is wanted of what is raised -/
def dCall (q : DSp) (RX : XD) (dA : DA) : DE := fun ρ G R => dA ρ G fun xs G1 => q xs G1 R RX
theorem call_imp {K : PySem.W.Frag} {q : DSp} {RX : XD} {E : XK} (hx : ∀ Hd, Ex B.b Hd → KX K B.f Hd RX E) : ∀ σ H Q, upE K B (dCall q RX dA) σ H Q → tCall (spU K q) [] E (upA K B dA) σ H Q := fun σ H Q ⟨ρ, Hd, G, R, at_, h, k⟩ =>
  ⟨ρ, Hd, G, _, at_, h, fun vs H1 Hd1 xs G1 e1 s1 r1 h1 => ⟨xs, B.f, Hd1, G1, R, RX, by rw [List.append_nil]; exact r1, s1, h1, k.mono e1, hx Hd1 (at_.b.trans e1)⟩⟩
/-- f(e, ..) by place; hb: how its parameters are bound -/
theorem pe_callG {k : Nat} {f : Addr} {fd : FuncData} {ps : List Str} {sp : Sp} {E : XK} {x : Str} {t : TA} (F : FnG X.prog X.w X.K X.mg X.base k f fd ps sp) (hr : Room k X.A) (hgd : X.A.guards = some []) (hg : Gl X x) (hm : X.mg x = some (.ref f)) (hk : PySem.W.keepIn X.K (.ref f) = true) (hb : Binds X.K fd ps [])
    (hx : Passes (L2.CX X.prog X.w) X E) (ha : PA X (e :: es) t) (hdb : (x == ("__debug__" : Str)) = false := by decide) (he : starEach (e :: es) X.env = (false, eval e X.env) :: starEach es X.env := by rfl) (hpl : (backTo pos (starEach es X.env)).any (·.1) = false := by rfl) :
    PE X (.Call (.Name x p) (e :: es) [] pos) (tCall sp [] E t) := ⟨fun pins s σ H Q I h => by
  refine wpAny_Call_Name_kw (ld_glob I hg hm (PySem.W.callWith_K (h₀ := X.base) I.ok.mod.kin hk (thn (ha.run pos pins s σ H _ I h) fun us s1 hh => ?_) he hpl) hdb)
  obtain ⟨vs, H1, I1, r, q⟩ := hh
  rw [List.append_nil] at q
  have hl : us.length = ps.length := by rw [← r.length]; exact F.len _ _ _ _ q
  have hb1 := hb s1 us I1.kIn (by rw [List.append_nil]; exact hl)
  rw [List.append_nil] at hb1
  refine ⟨I1.kIn, wpAny_call (codeAny_mono (run_fng F hr hgd hx I1 hb1 r q) fun r s2 hq => ?_)⟩
  cases r with
  | error e => exact hq
  | ok fl => cases fl <;> first | exact hq | exact hq.elim⟩
theorem pd_call {k : Nat} {x : Str} {st : Stmt} {ps : List Str} {q : DSp} {RX : XD} {E : XK} (h : Kn X.prog X.w X.K X.mg X.base k x st ps q) (hr : Room k X.A) (hgd : X.A.guards = some []) (hg : Gl X x) (hx : Passes (L2.CX X.prog X.w) X E) (kx : ∀ Hd, Ex B.b Hd → KX X.K B.f Hd RX E)
    (hb : ∀ (kV doc pm : Value) (an : Option Addr) (cdv ct : Value) (us : List Value), us.length = ps.length → bindArgs (PySem.W.fnOf x x (defArgs st) (defBody st) (defScope st) .none kV doc pm an cdv ct) ⟨us, []⟩ = pure (ps.zip us))
    (ha : PA X (e :: es) (upA X.K B dA)) (hdb : (x == ("__debug__" : Str)) = false := by decide) (he : starEach (e :: es) X.env = (false, eval e X.env) :: starEach es X.env := by rfl) (hpl : (backTo pos (starEach es X.env)).any (·.1) = false := by rfl) :
    PE X (.Call (.Name x p) (e :: es) [] pos) (upE X.K B (dCall q RX dA)) := by
  obtain ⟨fd, F, G⟩ := h.fn
  exact pe_imp (pe_callG G hr hgd hg h.g F.kp (F.bindsN hb) hx ha hdb he hpl) (call_imp kx)
/-- keywords alone: ks their names as they stand, g puts their values in the parameters' order -/
theorem pkd_cons {nm : Option Str} {kpos : Pos} {kws : List Keyword} {de : DE} {dr : DA} (ha : PE X e (upE X.K B de)) (hr : PK X kws (upA X.K B dr)) (hk : ∀ {t : TA}, PK X kws t → PK X (⟨nm, e, kpos⟩ :: kws) (tCons (upE X.K B de) t)) : PK X (⟨nm, e, kpos⟩ :: kws) (upA X.K B (dCons de dr)) :=
  ⟨fun pos pins s σ H Q I ⟨ρ, Hd, G, R, at_, h, k⟩ => (hk hr).run pos pins s σ H Q I
    ⟨ρ, Hd, G, _, at_, h, fun v H1 Hd1 x G1 e1 s1 r1 h1 => ⟨ρ, Hd1, G1, _, at_.step e1 s1, h1, fun vs H2 Hd2 xs G2 e2 s2 r2 h2 => k _ H2 Hd2 _ G2 (e1.trans e2) s2 (.cons (r1.mono e2) r2) h2⟩⟩⟩
theorem pkd_nil : PK X [] (upA X.K B dNil) := ⟨fun pos pins s σ H Q I ⟨ρ, Hd, G, R, at_, h, k⟩ => pk_nil.run pos pins s σ H Q I (k [] H Hd [] G (Ex.refl _) at_.s .nil h)⟩
/-- a reordering of lists, of any kind of things -/
structure Ord where
  go : {α : Type} → List α → List α
  rel : ∀ {α β : Type} (R : α → β → Prop) (xs : List α) (ys : List β), Paired R xs ys → Paired R (go xs) (go ys)
def ordOf (pm : List Nat) : Ord where
  go := fun l => if l.length = pm.length then pm.filterMap (fun i => l[i]?) else l
  rel := fun {α β} R xs ys h => by
    have hl : xs.length = ys.length := Paired.length h
    have at_ : ∀ {xs : List α} {ys : List β}, Paired R xs ys → ∀ i : Nat, (xs[i]? = none ∧ ys[i]? = none) ∨ ∃ x y, xs[i]? = some x ∧ ys[i]? = some y ∧ R x y := fun {xs ys} h => by
      induction h with
      | nil => exact fun i => .inl ⟨rfl, rfl⟩
      | cons a _ ih => exact fun i => match i with
        | 0 => .inr ⟨_, _, rfl, rfl, a⟩
        | i + 1 => ih i
    have all : ∀ l : List Nat, Paired R (l.filterMap fun i => xs[i]?) (l.filterMap fun i => ys[i]?) := fun l => by
      induction l with
      | nil => exact .nil
      | cons i l ih =>
        rcases at_ h i with ⟨e1, e2⟩ | ⟨x, y, e1, e2, r⟩
        · rw [List.filterMap_cons_none e1, List.filterMap_cons_none e2]
          exact ih
        · rw [List.filterMap_cons_some e1, List.filterMap_cons_some e2]
          exact .cons r ih
    by_cases z : xs.length = pm.length
    · rw [if_pos z, if_pos (by rw [← hl]; exact z)]
      exact all pm
    · rw [if_neg z, if_neg (by rw [← hl]; exact z)]
      exact h
theorem ordOf_len {pm : List Nat} {n : Nat} (hn : n = pm.length) {α : Type} (l : List α) (h : ((ordOf pm).go l).length = n) : l.length = n := by
  by_cases z : l.length = pm.length
  · rw [z, hn]
  · have e : (ordOf pm).go l = l := if_neg z
    rw [e] at h
    exact h
theorem rpl_paired {K : PySem.W.Frag} {H : Hp} : ∀ {vs : List V} {ds : List D}, RpL K H vs ds → Paired (Rp K H) vs ds
  | _, _, .nil => .nil
  | _, _, .cons a b => .cons a (rpl_paired b)
theorem paired_rpl {K : PySem.W.Frag} {H : Hp} : ∀ {vs : List V} {ds : List D}, Paired (Rp K H) vs ds → RpL K H vs ds
  | _, _, .nil => .nil
  | _, _, .cons a b => .cons a (paired_rpl b)
def dCallK (q : DSp) (o : Ord) (RX : XD) (dA : DA) : DE := fun ρ G R => dA ρ G fun xs G1 => q (o.go xs) G1 R RX
theorem pd_callK {k : Nat} {x : Str} {st : Stmt} {ps ks : List Str} {q : DSp} {RX : XD} {E : XK} {kws : List Keyword} (o : Ord) (h : Kn X.prog X.w X.K X.mg X.base k x st ps q) (hr : Room k X.A) (hgd : X.A.guards = some []) (hg : Gl X x) (hx : Passes (L2.CX X.prog X.w) X E) (kx : ∀ Hd, Ex B.b Hd → KX X.K B.f Hd RX E)
    (hb : ∀ (kV doc pm : Value) (an : Option Addr) (cdv ct : Value) (us : List Value), us.length = ps.length → bindArgs (PySem.W.fnOf x x (defArgs st) (defBody st) (defScope st) .none kV doc pm an cdv ct) ⟨[], ks.zip us⟩ = pure (ps.zip (o.go us)))
    (hn : ks.length = ps.length) (ho : ∀ {α : Type} (l : List α), (o.go l).length = ps.length → l.length = ps.length)
    (hkw : PK X kws (upA X.K B dA)) (hall : (backToKw pos (keywordEach kws X.env)).all (·.1.isSome) = true := by rfl) (hks : (backToKw pos (keywordEach kws X.env)).filterMap (·.1) = ks := by rfl)
    (hdb : (x == ("__debug__" : Str)) = false := by decide) (hpl : ((backTo pos (starEach [] X.env)).any (·.1) || (backToKw pos (keywordEach kws X.env)).any (·.1.isNone)) = false := by rfl) :
    PE X (.Call (.Name x p) [] kws pos) (upE X.K B (dCallK q o RX dA)) := by
  obtain ⟨fd, F, G⟩ := h.fn
  refine ⟨fun pins s σ H Q I hw => ?_⟩
  refine wpAny_Call_Name_kw (ld_glob I hg h.g (PySem.W.callWith_KW0 (h₀ := X.base) I.ok.mod.kin F.kp hall (thn (hkw.run pos pins s σ H (fun vs H1 => spU X.K q (o.go vs) H1 Q E) I ?_) fun us s1 hh => ?_) hpl) hdb)
  · obtain ⟨ρ, Hd, G0, R, at_, h0, k0⟩ := hw
    exact ⟨ρ, Hd, G0, _, at_, h0, fun vs H1 Hd1 xs G1 e1 s1 r1 h1 => ⟨o.go xs, B.f, Hd1, G1, R, RX, paired_rpl (o.rel _ _ _ (rpl_paired r1)), s1, h1, k0.mono e1, kx Hd1 (at_.b.trans e1)⟩⟩
  · obtain ⟨vs, H1, I1, r, q1⟩ := hh
    have r2 : Vals (o.go vs) (o.go us) := o.rel _ _ _ r
    have hl : (o.go us).length = ps.length := by rw [← r2.length]; exact G.len _ _ _ _ q1
    have hus := ho us hl
    refine ⟨I1.kIn, ?_⟩
    rw [hks, List.append_nil]
    have hb1 : BindsTo s1 fd ⟨[], ks.zip us⟩ (ps.zip (o.go us)) := by
      obtain ⟨oc, od, dV, kV, doc, pm, an, cdv, ct, osl, rfl, lk, hcd, hD, hK⟩ := F.ex
      rcases hD with ⟨_, rfl⟩ | ⟨z, _⟩
      · exact .of_eq (hb kV doc pm an cdv ct us hus)
      · exact absurd rfl z
    refine wpAny_call (codeAny_mono (run_fng G hr hgd hx I1 hb1 r2 q1) fun r s2 hq => ?_)
    cases r with
    | error e => exact hq
    | ok fl => cases fl <;> first | exact hq | exact hq.elim
/-- nothing is raised -/
theorem pass0 : Passes (L2.CX X.prog X.w) X E0 := passL
theorem kx0 {K : PySem.W.Frag} : ∀ Hd, Ex B.b Hd → KX K B.f Hd X0 E0 := fun _ _ => .none
/-- repr -/
theorem pd_repr {da : DE} {x : Str} (hx : x = "repr") (hgd : X.A.guards = some []) (hu : X.A.units + 64 < cLine) (hg : Gl X x) (hm : X.mg x = none) (ha : PE X e (upE X.K B da)) (he : starEach (e :: []) X.env = (false, eval e X.env) :: starEach [] X.env := by rfl) (hpl : (backTo pos (starEach [] X.env)).any (·.1) = false := by rfl) :
    PE X (.Call (.Name x p) (e :: []) [] pos) (upE X.K B (dCal fRepr (dCons da dNil))) := by
  subst hx
  exact pd_callB (call_repr hgd hu) cd_repr hg hm (by decide +kernel) (pda_cons ha pda_nil he) (by decide) (by decide) he hpl
end
end DL

/-! DL8: the law's call at the head's end. -/
namespace DL
open PySem PySem.Spec PyProof.Rows L2 Evl
variable [TabC]

/-- the script as it is tracked: frozen, or (where the top itself holds it) not at all -/
def scrH (K : PySem.W.Frag) (a : Addr) (o : Obj) (xs : List V) : Hp := fun b => if b = a ∧ K.lookup a = none then some (.frz o (.lst xs)) else none
section
variable {K : PySem.W.Frag} {a : Addr} {o : Obj} {xs : List V}
theorem scr_at (h : K.lookup a = none) : scrH K a o xs a = some (.frz o (.lst xs)) := if_pos ⟨rfl, h⟩
theorem scr_some {b : Addr} {u : HO} (h : scrH K a o xs b = some u) : b = a ∧ K.lookup a = none ∧ u = .frz o (.lst xs) := by
  unfold scrH at h
  by_cases z : b = a ∧ K.lookup a = none
  · rw [if_pos z] at h
    cases h
    exact ⟨z.1, z.2, rfl⟩
  · rw [if_neg z] at h
    cases h
theorem scr_ne {b : Addr} (h : b ≠ a) : scrH K a o xs b = none := if_neg fun z => h z.1
theorem scr_in (h : K.lookup a ≠ none) (b : Addr) : scrH K a o xs b = none := if_neg fun z => h z.2
end
/-- what is tracked at the law's call: the script, the empty tables of code objects -/
def sttH (K : PySem.W.Frag) (ts : List Addr) (a : Addr) (o : Obj) (xs : List V) : Hp := fun b => if b ∈ ts then some (.tbl #[]) else scrH K a o xs b
section
variable {K : PySem.W.Frag} {ts : List Addr} {a : Addr} {o : Obj} {xs : List V}
theorem stt_in {b : Addr} (h : b ∈ ts) : sttH K ts a o xs b = some (.tbl #[]) := if_pos h
theorem stt_out {b : Addr} (h : b ∉ ts) : sttH K ts a o xs b = scrH K a o xs b := if_neg h
end
abbrev tabO (us : Array Value) : Obj := { cls := .none, data := .fields us }
/-- the module of the built-ins, as a def's making asks for it -/
def BltMod (mg : Str → Option Value) (h : Heap) : Prop := ∃ (u : Addr) (ou : Obj), mg "__builtins__" = some (.ref u) ∧ u ≠ builtinsNs ∧ h.get? u = some ou ∧ ou.cls = .type "module" ∧ ou.dict = some builtinsNs ∧ ou.data = .plain
theorem law_callG {P : Program} {w : World} {K : PySem.W.Frag} {mg mb : Str → Option Value} {k : Nat} {fa a : Addr} {fd : FuncData} {x : Str} {sp : Sp} {s : Shared} {vs : List Value} {ns : List Int} {ct : List (Addr × Addr)}
    (hK : K.In s.heap) (hns : s.heap.Ns mainGlobals mg) (hb : s.heap.Ns builtinsNs mb) (hbb : ∀ x : Str, x ≠ "__name__" → mb x = bootBuiltins x) (hlim : s.heap.NoLimit) (hg : s.gens = #[])
    (tE : ∀ q ∈ ct, s.heap.get? q.2 = some (tabO #[])) (tK : ∀ q ∈ ct, K.lookup q.2 = none) (tC : ∀ q ∈ ct, PySem.W.CodeHd s.heap q.1 q.2) (hbm : BltMod mg s.heap)
    (ha : s.heap.get? a = some { cls := .type "list", data := .seq vs.toArray }) (hi : IntsAre vs ns) (hl : ns.length ≤ sizeLine) (hr : Room k callerA)
    (F : ∀ base : Heap, K.In base → base.Ns mainGlobals mg → (∀ q ∈ ct, LamX.TabB base mg q.1 q.2) → FnG P w K mg base k fa fd [x] sp) (hbind : ∀ (s : Shared) (u : Value), BindsTo s fd ⟨[u], []⟩ [(x, u)])
    (hsp : ∀ Hd H : Hp, Ex Hd H → (∀ q ∈ ct, H q.2 = some (.tbl #[]) ∧ Hd q.2 = none) → SqL K Hd a (ns.map V.int) → sp [.ref a] H (fun v _ => v = .bl true) fun _ _ _ => False) :
    codeAny (model P w) callerA (.call (.ref fa) ⟨[.ref a], []⟩) (fun r s' => r = .ok (.ret (.bool true)) ∧ OldK s.heap s'.heap ∧ s'.os = s.os ∧ AllBare s'.gens) s := by
  have rv := vals_ints hi
  generalize eo : ({ cls := .type "list", data := .seq vs.toArray } : Obj) = o at ha
  generalize eT : ct.map (·.2) = ts
  have inT : ∀ {q : Addr × Addr}, q ∈ ct → q.2 ∈ ts := fun hq => by
    rw [← eT]
    exact List.mem_map_of_mem hq
  have ofT : ∀ {b : Addr}, b ∈ ts → ∃ q ∈ ct, q.2 = b := fun hb => by
    rw [← eT] at hb
    exact List.mem_map.mp hb
  have aT : a ∉ ts := fun z => by
    obtain ⟨q, hq, e⟩ := ofT z
    have e2 := tE q hq
    rw [e, ha, ← eo] at e2
    cases e2
  generalize eHd : scrH K a o (ns.map V.int) = Hd
  generalize eH : sttH K ts a o (ns.map V.int) = H
  have hin : ∀ {b : Addr}, b ∈ ts → H b = some (.tbl #[]) := fun z => by
    rw [← eH]
    exact stt_in z
  have hout : ∀ {b : Addr}, b ∉ ts → H b = Hd b := fun z => by
    rw [← eH, ← eHd]
    exact stt_out z
  have dT : ∀ {b : Addr}, b ∈ ts → Hd b = none := fun {b} z => by
    rw [← eHd]
    exact scr_ne fun e => aT (by rw [← e]; exact z)
  have exd : Ex Hd H := fun b u e => by
    by_cases z : b ∈ ts
    · rw [dT z] at e
      cases e
    · rw [hout z]
      exact e
  have rd : SqL K Hd a (ns.map V.int) := by
    subst eHd
    cases q : K.lookup a with
    | none => exact .inl (.inr ⟨o, scr_at q⟩)
    | some o2 =>
      have e2 : o2 = o := Option.some.inj ((hK a o2 q).symm.trans ha)
      subst e2 eo
      exact .inr ⟨_, vs.toArray, _, q, rfl, rfl, rfl, by rw [List.size_toArray, hi.length]; exact hl, by simpa using rv⟩
  have ofD : ∀ {b : Addr} {u : HO}, Hd b = some u → b = a ∧ K.lookup a = none ∧ u = .frz o (.lst (ns.map V.int)) := fun e => by
    rw [← eHd] at e
    exact scr_some e
  have held : HOk P w H s.heap := fun b u q => by
    by_cases z : b ∈ ts
    · rw [hin z] at q
      cases q
      obtain ⟨r, hr, e⟩ := ofT z
      rw [← e]
      exact tE r hr
    · rw [hout z] at q
      obtain ⟨rfl, _, rfl⟩ := ofD q
      subst eo
      exact ⟨ha, by rw [List.length_map]; exact hl, vs, _, rv, ha⟩
  -- what is neither a list nor an empty record is untracked
  have freeO : ∀ {b : Addr} {ob : Obj}, s.heap.get? b = some ob → (∀ us m, ob.data ≠ .seq us m) → ob.data ≠ .fields #[] → H b = none := fun {b ob} e n1 n2 => by
    by_cases z : b ∈ ts
    · obtain ⟨r, hr, e2⟩ := ofT z
      have e3 := tE r hr
      rw [e2, e] at e3
      cases e3
      exact (n2 rfl).elim
    · rw [hout z]
      cases q : Hd b with
      | none => rfl
      | some u =>
        obtain ⟨rfl, _, _⟩ := ofD q
        rw [ha, ← eo] at e
        cases e
        exact (n1 _ _ rfl).elim
  have freeD : ∀ {b : Addr} {ob : Obj} {es : Array DictEntry} {ep : Nat}, s.heap.get? b = some ob → ob.data = .dict es ep → H b = none := fun {b ob es ep} e d =>
    freeO e (fun us m z => by rw [d] at z; cases z) (fun z => by rw [d] at z; cases z)
  have toB : ∀ {b : Addr} {m : Str → Option Value}, s.heap.Ns b m → (hidT s.heap H).Ns b m := fun {b m} ⟨ob, es, ep, e, d, r⟩ => ⟨ob, es, ep, hidT_get e (freeD e d), d, r⟩
  have kB : K.In (hidT s.heap H) := fun b ob e => hidT_get (hK b ob e) (by
    by_cases z : b ∈ ts
    · obtain ⟨r, hr, e2⟩ := ofT z
      rw [← e2, tK r hr] at e
      cases e
    · rw [hout z]
      cases q : Hd b with
      | none => rfl
      | some u =>
        obtain ⟨rfl, q2, _⟩ := ofD q
        rw [q2] at e
        cases e)
  have md : Mod K mg (hidT s.heap H) := ⟨kB, toB hns, ⟨mb, toB hb, hbb⟩, let ⟨mc, h1, h2⟩ := hlim; ⟨mc, toB h1, h2⟩⟩
  have tB : ∀ q ∈ ct, LamX.TabB (hidT s.heap H) mg q.1 q.2 := fun q hq => by
    have isP := tE q hq
    obtain ⟨gO, gE, gP, gG, gD, gR⟩ := hns
    obtain ⟨u, ou, m1, m2, m3, m4, m5, m6⟩ := hbm
    refine ⟨?_, ⟨u, ou, m1, m2, fun z => ?_, fun z => ?_, hidT_get m3 (freeO m3 (fun us m z => ?_) fun z => ?_), m4, m5, m6⟩, fun z => ?_⟩
    · obtain ⟨co, cf, c3, c4, c5, c6, c7, c8, c9, k1, k2, k3, k4, k5, k6, k7, k8, k9, k10⟩ := tC q hq
      refine ⟨co, cf, c3, c4, c5, c6, c7, c8, c9, hidT_get k1 (freeO k1 (fun us m z => ?_) fun z => ?_), k2, k3, k4, k5, k6, k7, k8, k9, k10⟩
      · rw [k3] at z
        cases z
      · rw [k3] at z
        cases z
        simp at k4
    · rw [z, gG] at m3
      cases m3
      rw [gD] at m6
      cases m6
    · rw [z, isP] at m3
      cases m3
      cases m6
    · rw [m6] at z
      cases z
    · rw [m6] at z
      cases z
    · rw [z, isP] at gG
      cases gG
      cases gD
  have e0 : Env0 P w K mg (hidT s.heap H) callerA [] s H := ⟨rfl, md, fun b o e => of_hidT e, Nat.le_of_eq (hidT_size _ _), trivial, fun b hb => (nomatch (show b ∈ ([] : List Addr) from hb)), held, .of_eq hg⟩
  refine codeAny_mono ((F _ kB (toB hns) tB).run callerA [] s H ⟨[.ref a], []⟩ [.ref a] [.ref a] _ _ hr rfl e0 (hbind s (.ref a)) (.cons rfl .nil) (hsp Hd H exd (fun q hq => ⟨hin (inT hq), dT (inT hq)⟩) rd)) fun r s' hq => ?_
  cases r with
  | error e =>
    obtain ⟨_, _, _, _, _, _, _, _, _, _, _, _, z⟩ := hq
    exact z.elim
  | ok fl =>
    cases fl with
    | next => exact hq.elim
    | brk => exact hq.elim
    | cont => exact hq.elim
    | ret u =>
      obtain ⟨v, H', os, bare, un, hok', r', q⟩ := hq
      have q2 : v = .bl true := q
      subst q2
      cases (show u = Value.bool true from r')
      have old : ∀ b ob, b ∉ ts → s.heap.get? b = some ob → s'.heap.get? b = some ob := fun b ob nb e => by
        cases z : Hd b with
        | none => exact un.keep b ob e (by rw [hout nb]; exact z) (by intro y; exact nomatch (show b ∈ ([] : List Addr) from y)) (by simp)
        | some u =>
          obtain ⟨rfl, _, rfl⟩ := ofD z
          have zH : H b = some (.frz o (.lst (ns.map V.int))) := by
            rw [hout nb]
            exact z
          have e1 := (held b _ zH).1
          have e2 := (hok' b _ (un.frzs b o _ zH)).1
          have e3 := e.symm.trans e1
          cases e3
          exact e2
      have more : ∀ q ∈ ct, ∃ us : Array Value, s'.heap.get? q.2 = some (tabO us) := fun q hq => by
        obtain ⟨us, z⟩ := un.tbls q.2 #[] (hin (inT hq))
        exact ⟨_, hok' q.2 _ z⟩
      refine ⟨rfl, ⟨fun b ob e => ?_, fun b ob e => ?_⟩, os, bare⟩
      · by_cases z : b ∈ ts
        · obtain ⟨r, hr, e2⟩ := ofT z
          obtain ⟨us, hm⟩ := more r hr
          rw [← e2] at e ⊢
          rw [tE r hr] at e
          cases e
          exact .inr (.inl ⟨((tC r hr).tab (tE r hr)).isCodeTable, rfl, #[], us, rfl, by rw [Array.empty_append]; exact hm⟩)
        · exact .inl (old b ob z e)
      · by_cases z : b ∈ ts
        · obtain ⟨r, hr, e2⟩ := ofT z
          obtain ⟨us, hm⟩ := more r hr
          exact ⟨_, by rw [← e2]; exact hm⟩
        · exact ⟨ob, old b ob z e⟩
/-- a law over a head by facts; ct: the code objects that make lambdas, their tables -/
theorem walk_lawT {l : PySem.W.OpenLaw} {n k : Nat} {q : Program} {loose : List Str} {XP : (Str → Option Value) → Heap → Prop} {YP : World → Heap → Prop} {d : DefRec} {x : Str}
    (hn : l.most = some n) (hn2 : n ≤ sizeLine) (hdf : d.params.defaults = []) (hr : Room k callerA)
    (F : ∀ (w : World) (mg : Str → Option Value) (fa : Addr) (h : Heap), YP w h → h.Ns mainGlobals mg → mg d.name = some (.ref fa) →
      ∃ (K : PySem.W.Frag) (fd : FuncData) (sp : Sp) (ct : List (Addr × Addr)), K.In h ∧ (∀ q ∈ ct, h.get? q.2 = some (tabO #[])) ∧ (∀ q ∈ ct, K.lookup q.2 = none) ∧ (∀ q ∈ ct, PySem.W.CodeHd h q.1 q.2) ∧ (∀ (s : Shared) (u : Value), BindsTo s fd ⟨[u], []⟩ [(x, u)]) ∧
        (∀ (Hd H : Hp) (a : Addr) (ns : List Int), ns.length ≤ n → Ex Hd H → (∀ q ∈ ct, H q.2 = some (.tbl #[]) ∧ Hd q.2 = none) → SqL K Hd a (ns.map V.int) → sp [.ref a] H (fun v _ => v = .bl true) fun _ _ _ => False) ∧
        ∀ base : Heap, K.In base → base.Ns mainGlobals mg → (∀ q ∈ ct, LamX.TabB base mg q.1 q.2) → FnG l.prog w K mg base k fa fd [x] sp) :
    PySem.W.WalkO q loose XP YP l.row.toRowW d [] (fun f vs => PySem.call f vs) := by
  refine Att.attach_call hn hdf fun w s0 s1 mg mb fa o pm cd doc a vs ns G Y ho hd hcd hmg hobj hints hlen hg => ?_
  obtain ⟨K, fd, sp, ct, KX, tE, tK, tC, hb, hsp, hF⟩ := F w mg fa _ Y G.T.g hmg
  exact law_callG KX G.T.g G.T.b G.T.builtins G.T.nolimit hg tE tK tC G.T.bmain hobj hints (Nat.le_trans hlen hn2) hr hF hb fun Hd H e hT hS => hsp Hd H a ns hlen e hT hS
theorem walk_lawG {l : PySem.W.OpenLaw} {n k : Nat} {q : Program} {loose : List Str} {XP : (Str → Option Value) → Heap → Prop} {YP : World → Heap → Prop} {d : DefRec} {x : Str}
    (hn : l.most = some n) (hn2 : n ≤ sizeLine) (hdf : d.params.defaults = []) (hr : Room k callerA)
    (F : ∀ (w : World) (mg : Str → Option Value) (fa : Addr) (h : Heap), YP w h → h.Ns mainGlobals mg → mg d.name = some (.ref fa) →
      ∃ (K : PySem.W.Frag) (fd : FuncData) (sp : Sp), K.In h ∧ (∀ (s : Shared) (u : Value), BindsTo s fd ⟨[u], []⟩ [(x, u)]) ∧
        (∀ (H : Hp) (a : Addr) (ns : List Int), ns.length ≤ n → SqL K H a (ns.map V.int) → sp [.ref a] H (fun v _ => v = .bl true) fun _ _ _ => False) ∧
        ∀ base : Heap, K.In base → base.Ns mainGlobals mg → FnG l.prog w K mg base k fa fd [x] sp) :
    PySem.W.WalkO q loose XP YP l.row.toRowW d [] (fun f vs => PySem.call f vs) :=
  walk_lawT hn hn2 hdf hr fun w mg fa h Y G hm => by
    obtain ⟨K, fd, sp, KX, hb, hsp, hF⟩ := F w mg fa h Y G hm
    exact ⟨K, fd, sp, [], KX, fun q z => (nomatch z), fun q z => (nomatch z), fun q z => (nomatch z), hb, fun Hd H a ns hl e _ hS => hsp H a ns hl (ex_l e hS), fun base k1 k2 _ => hF base k1 k2⟩
/-- the script as data: nothing else is there -/
theorem rp_script {K : PySem.W.Frag} {H : Hp} {a : Addr} {ns : List Int} (h : SqL K H a (ns.map V.int)) : RpL K H [.ref a] [.lst (ns.map D.int)] := by
  refine .cons (.lst h ?_) .nil
  induction ns with
  | nil => exact .nil
  | cons n ns ih => exact .cons (.int n) (RpL_ints ns)
where RpL_ints : ∀ ns : List Int, RpL K H (ns.map V.int) (ns.map D.int)
  | [] => .nil
  | n :: ns => .cons (.int n) (RpL_ints ns)
def G0 : Gm := fun _ => none
theorem g0 {a : Addr} {m : Mt} (h : G0 a = some m) : False := nomatch (show (none : Option Mt) = some m from h)
/-- the tables are others' -/
def F0 (K : PySem.W.Frag) : Gm := fun a => ((tabT K).lookup a).map Mt.tab
/-- a table is one def's alone -/
def TabOk (K : PySem.W.Frag) : Prop := ∀ p ∈ tabT K, ∀ q ∈ tabT K, p.1 = q.1 → p.2 = q.2
theorem lookup_in {α : Type} {a : Addr} : ∀ {l : List (Addr × α)} {x : α}, l.lookup a = some x → (a, x) ∈ l
  | (b, y) :: l, x, h => by
    rw [List.lookup_cons] at h
    split at h
    · rename_i e
      cases h
      rw [beq_iff_eq.mp e]
      exact List.mem_cons_self
    · exact List.mem_cons_of_mem _ (lookup_in h)
theorem lookup_of {α : Type} {a : Addr} {x : α} : ∀ {l : List (Addr × α)}, (a, x) ∈ l → ∃ y, l.lookup a = some y
  | (b, y) :: l, h => by
    rw [List.lookup_cons]
    split
    · exact ⟨_, rfl⟩
    · rename_i e
      rcases List.mem_cons.mp h with z | z
      · cases z
        simp at e
      · exact lookup_of z
theorem sim_start {K : PySem.W.Frag} {Hd H : Hp} (h : TabOk K) (e : Ex Hd H) (ht : ∀ p ∈ tabT K, H p.1 = some (.tbl #[]) ∧ Hd p.1 = none) : Sim K (F0 K) Hd H G0 := by
  have key : ∀ a m, F0 K a = some m → ∃ q, m = .tab q ∧ (a, q) ∈ tabT K := fun a m z => by
    unfold F0 at z
    cases y : (tabT K).lookup a with
    | none =>
      rw [y] at z
      cases z
    | some q =>
      rw [y] at z
      cases z
      exact ⟨q, rfl, lookup_in y⟩
  refine { sub := e, off := fun _ _ h => (g0 h).elim, hold := fun _ _ h => (g0 h).elim, offF := fun a m z => ?_, holdF := fun a m z => ?_, apart := fun _ _ h => rfl, tabs := fun p hp => ?_ }
  · obtain ⟨q, _, hq⟩ := key a m z
    exact (ht _ hq).2
  · obtain ⟨q, rfl, hq⟩ := key a m z
    refine ⟨#[], (ht _ hq).1, True.intro, fun pos cv y => ?_⟩
    have y2 : codeAmong pos [] = some cv := y
    unfold codeAmong at y2
    cases y2
  · obtain ⟨q, hq⟩ := lookup_of (x := p.2) (a := p.1) hp
    show ((tabT K).lookup p.1).map Mt.tab = _
    have e3 : q = p.2 := h (p.1, q) (lookup_in hq) p hp rfl
    rw [hq, e3]
    rfl
/-- the law's promise: True of every script -/
def lawSp : DSp := fun xs G R _ => ∃ ns : List Int, xs = [.lst (ns.map D.int)] ∧ ns.length ≤ 63 ∧ (∀ a, G a = none) ∧ ∀ G', R (.bl true) G'
theorem law_sp {K : PySem.W.Frag} {Hd H : Hp} {a : Addr} {ns : List Int} (hl : ns.length ≤ 63) (ok : TabOk K) (e : Ex Hd H) (ht : ∀ p ∈ tabT K, H p.1 = some (.tbl #[]) ∧ Hd p.1 = none) (h : SqL K Hd a (ns.map V.int)) : spU K lawSp [.ref a] H (fun v _ => v = .bl true) fun _ _ _ => False :=
  ⟨_, F0 K, Hd, G0, fun d _ => d = .bl true, X0, rp_script h, sim_start ok e ht, ⟨ns, rfl, hl, fun _ => rfl, fun _ => rfl⟩, fun v H' Hd' x G' _ _ r e => by
    subst e
    cases r
    rfl, .none⟩
end DL

/-! DL9: what is told of data; loops; promises that many laws share. -/
namespace DL
open PySem PySem.Spec PyProof.Rows L2 Evl
variable [TabC]

/-! ### kinds -/
def isIntD : D → Bool
  | .int _ => true
  | _ => false
def isSeqD : D → Bool
  | .tup _ => true
  | .lst _ => true
  | _ => false
mutual
/-- data of built-in kinds, all the way in -/
def D.kn : D → Bool
  | .non => true
  | .bl _ => true
  | .int _ => true
  | .str _ => true
  | .tup xs => D.knL xs
  | .lst xs => D.knL xs
  | .dct _ _ => true
  | .ty _ => false
  | .ref _ => false
  | .ins _ _ _ => false
  | .exc _ _ _ => false
  | .fnc _ => false
def D.knL : List D → Bool
  | [] => true
  | x :: xs => D.kn x && D.knL xs
end
/-- None, or an integer: a bound -/
def bndD : D → Option (Option Int)
  | .non => some none
  | .int i => some (some i)
  | _ => none
def leO (l : Option Int) (i : Int) : Bool := match l with
  | none => true
  | some a => decide (a ≤ i)
def geO (m : Option Int) (i : Int) : Bool := match m with
  | none => true
  | some a => decide (i ≤ a)
def withinD (x : D) (l m : Option Int) : Bool := match x with
  | .int i => leO l i && geO m i
  | _ => false
/-- two integers -/
def pairD : List D → Option (Int × Int)
  | [.int a, .int b] => some (a, b)
  | _ => none
def ratD (p : Option (Int × Int)) : Bool := match p with
  | some (a, b) => decide (2 ≤ b) && decide (Int.gcd a b = 1)
  | none => false
/-- a number: an integer, a fraction in its one form -/
def numD : D → Bool
  | .int _ => true
  | .tup xs => ratD (pairD xs)
  | .lst xs => ratD (pairD xs)
  | _ => false
theorem pair_1 (a : D) : pairD [a] = none := by cases a <;> rfl
theorem pair_3 (a b c : D) (r : List D) : pairD (a :: b :: c :: r) = none := by cases a <;> first | rfl | (cases b <;> rfl)
theorem pair_2a (a b : D) (h : isIntD a = false) : pairD [a, b] = none := by cases a <;> first | rfl | cases h
theorem pair_2b (a b : D) (h : isIntD b = false) : pairD [a, b] = none := by cases a <;> first | rfl | (cases b <;> first | rfl | cases h)

/-! ### loops -/
theorem forL_inv {g : DG} {s : DS} {E : DEnds} (I : En → Gm → Prop) : ∀ {xs : List D} {ρ : En} {G : Gm},
    (∀ x ∈ xs, ∀ (N : En → Gm → Prop) (ρ : En) (G : Gm), (∀ ρ G, I ρ G → N ρ G) → I ρ G → g x ρ G fun ρ1 G1 => s { E with nx := N, ct := N, bk := E.nx } ρ1 G1) → (∀ ρ G, I ρ G → E.nx ρ G) → I ρ G → forL g s E xs ρ G
  | [], ρ, G, _, hd, h0 => hd ρ G h0
  | x :: xs, ρ, G, hs, hd, h0 => hs x List.mem_cons_self (forL g s E xs) ρ G (fun ρ G h => forL_inv I (fun y hy => hs y (List.mem_cons_of_mem _ hy)) hd h) h0
/-- .. by the turn -/
theorem forL_at {g : DG} {s : DS} {E : DEnds} (I : List D → En → Gm → Prop) : ∀ {xs : List D} {ρ : En} {G : Gm},
    (∀ x rest, ∀ (N : En → Gm → Prop) (ρ : En) (G : Gm), (x :: rest) <:+ xs → (∀ ρ G, I rest ρ G → N ρ G) → I (x :: rest) ρ G → g x ρ G fun ρ1 G1 => s { E with nx := N, ct := N, bk := E.nx } ρ1 G1) → (∀ ρ G, I [] ρ G → E.nx ρ G) → I xs ρ G → forL g s E xs ρ G
  | [], ρ, G, _, hd, h0 => hd ρ G h0
  | x :: xs, ρ, G, hs, hd, h0 => hs x xs (forL g s E xs) ρ G (List.suffix_refl _) (fun ρ G h => forL_at I (fun y r N ρ G hy => hs y r N ρ G (hy.trans (List.suffix_cons _ _))) hd h) h0
theorem cmpL_inv {ρ0 : En} {g : DG} {t : DT} {de : DE} {S : List D → Gm → Prop} (I : List D → List D → Gm → Prop) : ∀ {xs acc : List D} {G : Gm},
    (∀ x rest acc G, ∀ (N : List D → Gm → Prop), (x :: rest) <:+ xs → (∀ acc G, I rest acc G → N acc G) → I (x :: rest) acc G → g x ρ0 G fun ρ1 G1 => t ρ1 G1 fun k G2 => if k = true then de ρ1 G2 fun y G3 => acc.length < sizeLine ∧ N (acc ++ [y]) G3 else N acc G2) →
    (∀ acc G, I [] acc G → S acc G) → I xs acc G → cmpL ρ0 g t de xs acc G S
  | [], acc, G, _, hd, h0 => hd acc G h0
  | x :: xs, acc, G, hs, hd, h0 => hs x xs acc G (fun acc G => cmpL ρ0 g t de xs acc G S) (List.suffix_refl _) (fun acc G h => cmpL_inv I (fun y r acc G N hy => hs y r acc G N (hy.trans (List.suffix_cons _ _))) hd h) h0
/-- the element is a function of the item -/
theorem cmpL_map {ρ0 : En} {i : Nat} {de : DE} {S : List D → Gm → Prop} {G : Gm} (f : D → D) : ∀ {xs acc : List D}, (∀ x ∈ xs, ∀ S' : KD, S' (f x) G → de (ρ0.set i (some x)) G S') → acc.length + xs.length ≤ sizeLine → S (acc ++ xs.map f) G → cmpL ρ0 (gN i) dYes de xs acc G S
  | [], acc, _, _, h => by
    rw [List.map_nil, List.append_nil] at h
    exact h
  | x :: xs, acc, hf, hz, h => by
    show de _ _ _
    rw [List.length_cons] at hz
    refine hf x List.mem_cons_self _ ⟨by omega, cmpL_map f (fun y hy => hf y (List.mem_cons_of_mem _ hy)) (by rw [List.length_append, List.length_singleton]; omega) ?_⟩
    rw [List.append_assoc, List.singleton_append]
    exact h

/-! ### the drawing list -/
/-- cells, a count of at most T, a rest -/
def Gau (m : Mt) (T : Nat) : Prop := ∃ (cs : List Int) (t : Nat) (r : Int), m = .lst [.lst (cs.map D.int), .int t, .int r] ∧ cs.length ≤ 63 ∧ t ≤ T ∧ 0 ≤ r
theorem Gau.mono {m : Mt} {T T' : Nat} (h : Gau m T) (l : T ≤ T') : Gau m T' := by
  obtain ⟨cs, t, r, e, h1, h2, h3⟩ := h
  exact ⟨cs, t, r, e, h1, Nat.le_trans h2 l, h3⟩
/-- a drawing list stands at a; T: how many were drawn at most -/
def GauAt (G : Gm) (a : Addr) (T : Nat) : Prop := ∃ m, G a = some m ∧ Gau m T
theorem gau_gup {G : Gm} {a : Addr} {m : Mt} {T : Nat} (h : Gau m T) : GauAt (gup G a m) a T := ⟨m, gup_same, h⟩
def spGauge : DSp := fun xs G R _ => ∃ ns : List Int, xs = [.lst (ns.map D.int)] ∧ ns.length ≤ 63 ∧ ∀ p m, G p = none → Gau m 0 → R (.ref p) (gup G p m)
/-- an integer from 0 below n -/
def spDial : DSp := fun xs G R _ => ∃ a n T, xs = [.ref a, .int n] ∧ GauAt G a T ∧ T ≤ 1000000000 ∧ 1 ≤ n ∧ n < 2 ^ 8000 ∧ ∀ v m, 0 ≤ v → v < n → Gau m (T + 1) → R (.int v) (gup G a m)
def spPick : DSp := fun xs G R _ => ∃ a x ds T, xs = [.ref a, x] ∧ (x = .lst ds ∨ x = .tup ds) ∧ ds ≠ [] ∧ ds.length ≤ 1000000 ∧ GauAt G a T ∧ T ≤ 1000000000 ∧ ∀ v m, v ∈ ds → Gau m (T + 1) → R v (gup G a m)
theorem bits_lt {i : Int} {n : Nat} (h : i.natAbs < 2 ^ n) : Builtin.Int.intBits i ≤ n := by
  unfold Builtin.Int.intBits
  split
  · exact Nat.zero_le _
  · rename_i z
    have z2 : i.natAbs ≠ 0 := fun e => by
      have e2 : i = 0 := Int.natAbs_eq_zero.mp e
      rw [e2] at z
      simp at z
    exact (Nat.log2_lt z2).mpr h
theorem mul_left {i j : Int} (h : i.natAbs < 2 ^ 64) : IntMulOk i j := .of_left (bits_lt h)
theorem mul_right {i j : Int} (h : j.natAbs < 2 ^ 64) : IntMulOk i j := .of_right (bits_lt h)
/-- both together below 2 ^ 27 bits -/
theorem mul_both {i j : Int} {a b : Nat} (h : i.natAbs < 2 ^ a) (h' : j.natAbs < 2 ^ b) (hz : a + b ≤ 134217728) : IntMulOk i j := by
  have h1 := bits_lt h
  have h2 := bits_lt h'
  unfold IntMulOk
  intro z
  rw [Bool.and_eq_true] at z
  have z2 := z.2
  unfold Builtin.Int.intTooBig at z2
  have z3 := of_decide_eq_true z2
  rw [show bitsLine = 134217728 from by decide] at z3
  omega
theorem pow_ok {i j : Int} {n : Nat} (h : i.natAbs < 2 ^ n) (h0 : 0 ≤ j) (hz : (n : Int) * j ≤ 2 ^ 27) : CPw i j := by
  refine ⟨h0, Int.le_trans (Int.mul_le_mul_of_nonneg_right ?_ h0) hz⟩
  exact Int.ofNat_le.mpr (bits_lt h)
theorem div_ok {i j : Int} (h : 1 ≤ j) (h' : j < 2 ^ 8000) : CDivW i j := by
  refine wide_div (b := 8000) (by omega) ?_ (by decide) (by decide)
  have : (j.natAbs : Int) = j := by omega
  have h2 : ((j.natAbs : Nat) : Int) < ((2 ^ 8000 : Nat) : Int) := by rw [this]; exact_mod_cast h'
  exact Int.ofNat_lt.mp h2
end DL

/-! DL10: expressions that change nothing; the drawing function, in its three shapes. -/
namespace DL
open PySem PySem.Spec PyProof.Rows L2 Evl
variable [TabC]

/-- d comes to z, and nothing changes -/
def Ev (d : DE) (ρ : En) (G : Gm) (z : D) : Prop := ∀ R : KD, R z G → d ρ G R
def EvA (d : DA) (ρ : En) (G : Gm) (zs : List D) : Prop := ∀ R : List D → Gm → Prop, R zs G → d ρ G R
def EvT (d : DT) (ρ : En) (G : Gm) (k : Bool) : Prop := ∀ R : Bool → Gm → Prop, R k G → d ρ G R
section
variable {ρ : En} {G : Gm} {da db : DE} {dA : DA} {x y z : D} {xs : List D} {ta tb : DT} {j k : Bool}
theorem Ev.var {i : Nat} (h : ρ[i]? = some (some z)) : Ev (dVar i) ρ G z := fun R r => ⟨z, h, r⟩
theorem Ev.c : Ev (dC z) ρ G z := fun R r => r
theorem Ev.op {f : D → D → D → Prop} (ha : Ev da ρ G x) (hb : Ev db ρ G y) (h : f x y z) : Ev (dOp f da db) ρ G z := fun R r => ha _ (hb _ ⟨z, h, r⟩)
theorem Ev.cal {f : Gm → List D → D → Prop} (ha : EvA dA ρ G xs) (h : f G xs z) : Ev (dCal f dA) ρ G z := fun R r => ha _ ⟨z, h, r⟩
theorem Ev.ix (ha : Ev da ρ G x) (hb : Ev db ρ G y) (h : fIx G x y z) : Ev (dIx da db) ρ G z := fun R r => ha _ (hb _ ⟨z, h, r⟩)
theorem Ev.lst (ha : EvA dA ρ G xs) (h : xs.length ≤ sizeLine) : Ev (dLst dA) ρ G (.lst xs) := fun R r => ha _ ⟨h, r⟩
theorem Ev.tup (ha : EvA dA ρ G xs) (h : xs.length ≤ sizeLine) : Ev (dTup dA) ρ G (.tup xs) := fun R r => ha _ ⟨h, r⟩
theorem EvA.nil : EvA dNil ρ G [] := fun R r => r
theorem EvA.cons (ha : Ev da ρ G x) (hb : EvA dA ρ G xs) : EvA (dCons da dA) ρ G (x :: xs) := fun R r => ha _ (hb _ r)
theorem EvA.one (ha : Ev da ρ G x) : EvA (dCons da dNil) ρ G [x] := .cons ha .nil
theorem EvT.tst (ha : Ev da ρ G (.bl k)) : EvT (dTst da) ρ G k := fun R r => ha _ ⟨k, rfl, r⟩
theorem EvT.and (ha : EvT ta ρ G j) (hb : EvT tb ρ G k) : EvT (dAnd ta tb) ρ G (j && k) := fun R r => ha _ (by
  cases j with
  | true => exact hb _ r
  | false => exact r)
theorem EvT.or (ha : EvT ta ρ G j) (hb : EvT tb ρ G k) : EvT (dOr ta tb) ρ G (j || k) := fun R r => ha _ (by
  cases j with
  | true => exact r
  | false => exact hb _ r)
theorem EvT.not (ha : EvT ta ρ G j) : EvT (dNot ta) ρ G (!j) := fun R r => ha _ r
theorem Ev.int {i j : Int} {g : Int → Int → D} (ha : Ev da ρ G (.int i)) (hb : Ev db ρ G (.int j)) : Ev (dOp (fInt g) da db) ρ G (g i j) := .op ha hb ⟨i, j, rfl, rfl, rfl⟩
theorem Ev.intC {i j : Int} {C : Int → Int → Prop} {g : Int → Int → D} (ha : Ev da ρ G (.int i)) (hb : Ev db ρ G (.int j)) (h : C i j) : Ev (dOp (fIntC C g) da db) ρ G (g i j) := .op ha hb ⟨i, j, rfl, rfl, h, rfl⟩
theorem Ev.add {i j : Int} (ha : Ev da ρ G (.int i)) (hb : Ev db ρ G (.int j)) : Ev (dOp fAdd da db) ρ G (.int (i + j)) := .op ha hb (.inl ⟨i, j, rfl, rfl, rfl⟩)
theorem Ev.mod {i j : Int} (ha : Ev da ρ G (.int i)) (hb : Ev db ρ G (.int j)) (h : (fun _ j => 0 < j) i j) : Ev (dOp (fIntC (fun _ j => 0 < j) fun i j => .int (i % j)) da db) ρ G (.int (i % j)) := .intC ha hb h
theorem Ev.mul {i j : Int} (ha : Ev da ρ G (.int i)) (hb : Ev db ρ G (.int j)) (h : (IntMulOk) i j) : Ev (dOp (fIntC (IntMulOk) fun i j => .int (i * j)) da db) ρ G (.int (i * j)) := .intC ha hb h
theorem Ev.pow {i j : Int} (ha : Ev da ρ G (.int i)) (hb : Ev db ρ G (.int j)) (h : (CPw) i j) : Ev (dOp (fIntC (CPw) fun i j => .int (i ^ j.toNat)) da db) ρ G (.int (i ^ j.toNat)) := .intC ha hb h
theorem Ev.fdiv {i j : Int} (ha : Ev da ρ G (.int i)) (hb : Ev db ρ G (.int j)) (h : (CDivW) i j) : Ev (dOp (fIntC (CDivW) fun i j => .int (i / j)) da db) ρ G (.int (i / j)) := .intC ha hb h
theorem Ev.sub {i j : Int} (ha : Ev da ρ G (.int i)) (hb : Ev db ρ G (.int j)) : Ev (dOp (fInt fun i j => .int (i - j)) da db) ρ G (.int (i - j)) := .int ha hb
theorem Ev.lt {i j : Int} (ha : Ev da ρ G (.int i)) (hb : Ev db ρ G (.int j)) : Ev (dOp (fInt gLt) da db) ρ G (.bl (decide (i < j))) := .int ha hb
theorem Ev.le {i j : Int} (ha : Ev da ρ G (.int i)) (hb : Ev db ρ G (.int j)) : Ev (dOp (fInt gLe) da db) ρ G (.bl (decide (i ≤ j))) := .int ha hb
theorem Ev.gt {i j : Int} (ha : Ev da ρ G (.int i)) (hb : Ev db ρ G (.int j)) : Ev (dOp (fInt gGt) da db) ρ G (.bl (decide (j < i))) := .int ha hb
theorem Ev.ge {i j : Int} (ha : Ev da ρ G (.int i)) (hb : Ev db ρ G (.int j)) : Ev (dOp (fInt gGe) da db) ρ G (.bl (decide (j ≤ i))) := .int ha hb
theorem Ev.intOf {i : Int} (ha : Ev da ρ G (.int i)) : Ev (dCal fIntOf (dCons da dNil)) ρ G (.int i) := .cal (.one ha) (.inl ⟨i, rfl, rfl⟩)
theorem Ev.intB (ha : Ev da ρ G (.bl k)) : Ev (dCal fIntOf (dCons da dNil)) ρ G (.int (if k then 1 else 0)) := .cal (.one ha) (.inr ⟨k, rfl, rfl⟩)
theorem Ev.abs {i : Int} (ha : Ev da ρ G (.int i)) : Ev (dCal fAbs (dCons da dNil)) ρ G (.int (if i < 0 then -i else i)) := .cal (.one ha) ⟨i, rfl, rfl⟩
theorem Ev.len (ha : Ev da ρ G x) (h : SeqAt G x xs) : Ev (dCal fLen (dCons da dNil)) ρ G (.int xs.length) := .cal (.one ha) ⟨x, rfl, .inl ⟨xs, h, rfl⟩⟩
theorem Ev.at {i : Int} (ha : Ev da ρ G x) (hb : Ev db ρ G (.int i)) (h : SeqAt G x xs) (h' : atI xs i = some z) : Ev (dIx da db) ρ G z := .ix ha hb (.inl ⟨xs, i, h, rfl, h'⟩)
theorem Ev.absN {i : Int} (ha : Ev da ρ G (.int i)) : Ev (dCal fAbs (dCons da dNil)) ρ G (.int (i.natAbs : Int)) := .cal (.one ha) ⟨i, rfl, by congr 1; split <;> omega⟩
theorem ds_set {E : DEnds} {i : Nat} (ha : Ev da ρ G x) (h : E.nx (ρ.set i (some x)) G) : dSet i da E ρ G := ha _ h
theorem ds_ret {E : DEnds} (ha : Ev da ρ G x) (h : E.rt x G) : dRet da E ρ G := ha _ h
theorem ds_if {E : DEnds} {s1 s2 : DS} (ha : EvT ta ρ G k) (h : if k = true then s1 E ρ G else s2 E ρ G) : dIfS ta s1 s2 E ρ G := ha _ h
theorem ds_setIx {E : DEnds} {dc : DE} {a : Addr} {i : Int} {j : Nat} (ha : Ev da ρ G x) (hb : Ev db ρ G (.ref a)) (hc : Ev dc ρ G (.int i)) (hg : G a = some (.lst xs)) (hj : ixN xs.length i = some j) (h : E.nx ρ (gup G a (.lst (xs.set j x)))) : dSetIx da db dc E ρ G :=
  ha _ (hb _ (hc _ ⟨a, xs, i, j, rfl, hg, rfl, hj, h⟩))
end
theorem abs_if0 {i : Int} : (if i < 0 then -i else i) = (i.natAbs : Int) := by split <;> omega
def dialA (c0 c1 c2 c3 c4 c5 c6 c7 : Int) : DS := (dSeq (dIfS (dTst (dOp (fInt gGt) (dIx (dVar 0) (dC (.int 2))) (dC (.int 0)))) (dSeq (dSet 2 (dCal fIntOf (dCons (dIx (dVar 0) (dC (.int 2))) dNil))) (dSeq (dSetIx (dOp (fIntC CDivW fun i j => .int (i / j)) (dVar 2) (dVar 1)) (dVar 0) (dC (.int 2))) (dRet (dOp (fIntC (fun _ j => 0 < j) fun i j => .int (i % j)) (dCal fIntOf (dCons (dVar 2) dNil)) (dVar 1))))) dNext) (dSeq (dSet 3 (dIx (dVar 0) (dC (.int 1)))) (dSeq (dSetIx (dOp fAdd (dVar 3) (dC (.int 1))) (dVar 0) (dC (.int 1))) (dSeq (dIfS (dTst (dOp fEq (dIx (dVar 0) (dC (.int 0))) (dLst dNil))) (dRet (dC (.int 0))) dNext) (dSeq (dSet 4 (dIx (dIx (dVar 0) (dC (.int 0))) (dOp (fIntC (fun _ j => 0 < j) fun i j => .int (i % j)) (dCal fIntOf (dCons (dVar 3) dNil)) (dCal fLen (dCons (dIx (dVar 0) (dC (.int 0))) dNil))))) (dSeq (dIfS (dAnd (dTst (dOp (fInt gLt) (dVar 3) (dCal fLen (dCons (dIx (dVar 0) (dC (.int 0))) dNil)))) (dTst (dOp (fInt gGe) (dCal fAbs (dCons (dVar 4) dNil)) (dOp (fIntC CPw fun i j => .int (i ^ j.toNat)) (dC (.int 10)) (dC (.int 18)))))) (dSeq (dSet 2 (dOp fAdd (dOp (fIntC IntMulOk fun i j => .int (i * j)) (dC (.int 2)) (dOp (fInt fun i j => .int (i - j)) (dCal fAbs (dCons (dCal fIntOf (dCons (dVar 4) dNil)) dNil)) (dOp (fIntC CPw fun i j => .int (i ^ j.toNat)) (dC (.int 10)) (dC (.int 18))))) (dCal fIntOf (dCons (dOp (fInt gLt) (dVar 4) (dC (.int 0))) dNil)))) (dSeq (dSetIx (dOp (fIntC CDivW fun i j => .int (i / j)) (dVar 2) (dVar 1)) (dVar 0) (dC (.int 2))) (dRet (dOp (fIntC (fun _ j => 0 < j) fun i j => .int (i % j)) (dCal fIntOf (dCons (dVar 2) dNil)) (dVar 1))))) dNext) (dSeq (dSet 5 (dOp (fIntC (fun _ j => 0 < j) fun i j => .int (i % j)) (dCal fIntOf (dCons (dOp (fIntC CPw fun i j => .int (i ^ j.toNat)) (dOp fAdd (dOp fAdd (dOp (fIntC (fun _ j => 0 < j) fun i j => .int (i % j)) (dCal fIntOf (dCons (dVar 4) dNil)) (dC (.int c0))) (dOp (fIntC IntMulOk fun i j => .int (i * j)) (dC (.int c1)) (dVar 3))) (dC (.int c2))) (dC (.int 5))) dNil)) (dC (.int c3)))) (dSeq (dSet 5 (dOp (fIntC (fun _ j => 0 < j) fun i j => .int (i % j)) (dCal fIntOf (dCons (dOp (fIntC CPw fun i j => .int (i ^ j.toNat)) (dOp fAdd (dOp fAdd (dOp (fIntC IntMulOk fun i j => .int (i * j)) (dVar 5) (dOp fAdd (dOp (fIntC IntMulOk fun i j => .int (i * j)) (dC (.int 2)) (dVar 3)) (dC (.int c4)))) (dOp (fIntC IntMulOk fun i j => .int (i * j)) (dOp (fIntC IntMulOk fun i j => .int (i * j)) (dC (.int c5)) (dVar 3)) (dVar 3))) (dC (.int c6))) (dC (.int 3))) dNil)) (dC (.int c7)))) (dRet (dOp (fIntC (fun _ j => 0 < j) fun i j => .int (i % j)) (dCal fIntOf (dCons (dOp (fIntC CDivW fun i j => .int (i / j)) (dVar 5) (dC (.int 64))) dNil)) (dVar 1)))))))))))
def dialB (c0 c1 c2 c3 c4 c5 c6 c7 c8 c9 : Int) : DS := (dSeq (dIfS (dTst (dOp (fInt gGt) (dIx (dVar 0) (dC (.int 2))) (dC (.int 0)))) (dSeq (dSet 2 (dCal fIntOf (dCons (dIx (dVar 0) (dC (.int 2))) dNil))) (dSeq (dSetIx (dOp (fIntC CDivW fun i j => .int (i / j)) (dVar 2) (dVar 1)) (dVar 0) (dC (.int 2))) (dRet (dOp (fIntC (fun _ j => 0 < j) fun i j => .int (i % j)) (dCal fIntOf (dCons (dVar 2) dNil)) (dVar 1))))) dNext) (dSeq (dSet 3 (dIx (dVar 0) (dC (.int 1)))) (dSeq (dSetIx (dOp fAdd (dVar 3) (dC (.int 1))) (dVar 0) (dC (.int 1))) (dSeq (dSet 4 (dOp fAdd (dOp (fIntC IntMulOk fun i j => .int (i * j)) (dC (.int c0)) (dVar 3)) (dC (.int c1)))) (dSeq (dIfS (dTst (dOp fNe (dIx (dVar 0) (dC (.int 0))) (dLst dNil))) (dSet 4 (dIx (dIx (dVar 0) (dC (.int 0))) (dOp (fIntC (fun _ j => 0 < j) fun i j => .int (i % j)) (dCal fIntOf (dCons (dVar 3) dNil)) (dCal fLen (dCons (dIx (dVar 0) (dC (.int 0))) dNil))))) dNext) (dSeq (dIfS (dAnd (dTst (dOp (fInt gLt) (dVar 3) (dCal fLen (dCons (dIx (dVar 0) (dC (.int 0))) dNil)))) (dTst (dOp (fInt gGe) (dCal fAbs (dCons (dVar 4) dNil)) (dOp (fIntC CPw fun i j => .int (i ^ j.toNat)) (dC (.int 10)) (dC (.int 18)))))) (dSeq (dSet 2 (dOp fAdd (dOp (fIntC IntMulOk fun i j => .int (i * j)) (dC (.int 2)) (dOp (fInt fun i j => .int (i - j)) (dCal fAbs (dCons (dCal fIntOf (dCons (dVar 4) dNil)) dNil)) (dOp (fIntC CPw fun i j => .int (i ^ j.toNat)) (dC (.int 10)) (dC (.int 18))))) (dCal fIntOf (dCons (dOp (fInt gLt) (dVar 4) (dC (.int 0))) dNil)))) (dSeq (dSetIx (dOp (fIntC CDivW fun i j => .int (i / j)) (dVar 2) (dVar 1)) (dVar 0) (dC (.int 2))) (dRet (dOp (fIntC (fun _ j => 0 < j) fun i j => .int (i % j)) (dCal fIntOf (dCons (dVar 2) dNil)) (dVar 1))))) dNext) (dSeq (dSet 5 (dOp (fIntC (fun _ j => 0 < j) fun i j => .int (i % j)) (dCal fIntOf (dCons (dOp (fIntC CPw fun i j => .int (i ^ j.toNat)) (dOp fAdd (dOp fAdd (dOp (fIntC (fun _ j => 0 < j) fun i j => .int (i % j)) (dCal fIntOf (dCons (dVar 4) dNil)) (dC (.int c2))) (dOp (fIntC IntMulOk fun i j => .int (i * j)) (dC (.int c3)) (dVar 3))) (dC (.int c4))) (dC (.int 5))) dNil)) (dC (.int c5)))) (dSeq (dSet 5 (dOp (fIntC (fun _ j => 0 < j) fun i j => .int (i % j)) (dCal fIntOf (dCons (dOp (fIntC CPw fun i j => .int (i ^ j.toNat)) (dOp fAdd (dOp fAdd (dOp (fIntC IntMulOk fun i j => .int (i * j)) (dVar 5) (dOp fAdd (dOp (fIntC IntMulOk fun i j => .int (i * j)) (dC (.int 2)) (dVar 3)) (dC (.int c6)))) (dOp (fIntC IntMulOk fun i j => .int (i * j)) (dOp (fIntC IntMulOk fun i j => .int (i * j)) (dC (.int c7)) (dVar 3)) (dVar 3))) (dC (.int c8))) (dC (.int 3))) dNil)) (dC (.int c9)))) (dRet (dOp (fIntC (fun _ j => 0 < j) fun i j => .int (i % j)) (dCal fIntOf (dCons (dOp (fIntC CDivW fun i j => .int (i / j)) (dVar 5) (dC (.int 64))) dNil)) (dVar 1)))))))))))
def dialC (c0 c1 c2 c3 c4 c5 c6 c7 c8 c9 : Int) : DS := (dSeq (dIfS (dTst (dOp (fInt gGt) (dIx (dVar 0) (dC (.int 2))) (dC (.int 0)))) (dSeq (dSet 2 (dCal fIntOf (dCons (dIx (dVar 0) (dC (.int 2))) dNil))) (dSeq (dSetIx (dOp (fIntC CDivW fun i j => .int (i / j)) (dVar 2) (dVar 1)) (dVar 0) (dC (.int 2))) (dRet (dOp (fIntC (fun _ j => 0 < j) fun i j => .int (i % j)) (dCal fIntOf (dCons (dVar 2) dNil)) (dVar 1))))) dNext) (dSeq (dSet 3 (dIx (dVar 0) (dC (.int 1)))) (dSeq (dSetIx (dOp fAdd (dVar 3) (dC (.int 1))) (dVar 0) (dC (.int 1))) (dSeq (dSet 4 (dOp fAdd (dOp (fIntC IntMulOk fun i j => .int (i * j)) (dC (.int c0)) (dVar 3)) (dC (.int c1)))) (dSeq (dIfS (dTst (dOp fNe (dIx (dVar 0) (dC (.int 0))) (dLst dNil))) (dSet 4 (dIx (dIx (dVar 0) (dC (.int 0))) (dOp (fIntC (fun _ j => 0 < j) fun i j => .int (i % j)) (dCal fIntOf (dCons (dVar 3) dNil)) (dCal fLen (dCons (dIx (dVar 0) (dC (.int 0))) dNil))))) dNext) (dSeq (dIfS (dAnd (dTst (dOp (fInt gLt) (dVar 3) (dCal fLen (dCons (dIx (dVar 0) (dC (.int 0))) dNil)))) (dTst (dOp (fInt gGe) (dCal fAbs (dCons (dVar 4) dNil)) (dOp (fIntC CPw fun i j => .int (i ^ j.toNat)) (dC (.int 10)) (dC (.int 18)))))) (dSeq (dSet 2 (dOp fAdd (dOp (fIntC IntMulOk fun i j => .int (i * j)) (dC (.int 2)) (dOp (fInt fun i j => .int (i - j)) (dCal fAbs (dCons (dVar 4) dNil)) (dOp (fIntC CPw fun i j => .int (i ^ j.toNat)) (dC (.int 10)) (dC (.int 18))))) (dCal fIntOf (dCons (dOp (fInt gLt) (dVar 4) (dC (.int 0))) dNil)))) (dSeq (dSetIx (dOp (fIntC CDivW fun i j => .int (i / j)) (dVar 2) (dVar 1)) (dVar 0) (dC (.int 2))) (dRet (dOp (fIntC (fun _ j => 0 < j) fun i j => .int (i % j)) (dCal fIntOf (dCons (dVar 2) dNil)) (dVar 1))))) dNext) (dSeq (dSet 5 (dOp (fIntC (fun _ j => 0 < j) fun i j => .int (i % j)) (dCal fIntOf (dCons (dOp (fIntC CPw fun i j => .int (i ^ j.toNat)) (dOp fAdd (dOp fAdd (dOp (fIntC (fun _ j => 0 < j) fun i j => .int (i % j)) (dCal fIntOf (dCons (dVar 4) dNil)) (dC (.int c2))) (dOp (fIntC IntMulOk fun i j => .int (i * j)) (dC (.int c3)) (dVar 3))) (dC (.int c4))) (dC (.int 5))) dNil)) (dC (.int c5)))) (dSeq (dSet 5 (dOp (fIntC (fun _ j => 0 < j) fun i j => .int (i % j)) (dCal fIntOf (dCons (dOp (fIntC CPw fun i j => .int (i ^ j.toNat)) (dOp fAdd (dOp fAdd (dOp (fIntC IntMulOk fun i j => .int (i * j)) (dVar 5) (dOp fAdd (dOp (fIntC IntMulOk fun i j => .int (i * j)) (dC (.int 2)) (dVar 3)) (dC (.int c6)))) (dOp (fIntC IntMulOk fun i j => .int (i * j)) (dOp (fIntC IntMulOk fun i j => .int (i * j)) (dC (.int c7)) (dVar 3)) (dVar 3))) (dC (.int c8))) (dC (.int 3))) dNil)) (dC (.int c9)))) (dRet (dOp (fIntC (fun _ j => 0 < j) fun i j => .int (i % j)) (dCal fIntOf (dCons (dOp (fIntC CDivW fun i j => .int (i / j)) (dVar 5) (dC (.int 64))) dNil)) (dVar 1)))))))))))
theorem atI_mod {cs : List Int} (h : cs ≠ []) (t : Nat) : ∃ v, atI (cs.map D.int) ((t : Int) % ((cs.map D.int).length : Int)) = some (.int v) := by
  have hl : 0 < cs.length := List.length_pos_iff.mpr h
  rw [List.length_map]
  have h1 : 0 ≤ (t : Int) % (cs.length : Int) := Int.emod_nonneg _ (by omega)
  have h2 : (t : Int) % (cs.length : Int) < cs.length := Int.emod_lt_of_pos _ (by omega)
  refine ⟨cs[((t : Int) % (cs.length : Int)).toNat]'(by omega), ?_⟩
  unfold atI ixN
  rw [List.length_map, if_pos h1, if_pos h2, Option.bind_some, List.getElem?_map, List.getElem?_eq_getElem (by omega)]
  rfl
/-- a constant of the drawing function -/
def Sml (c : Int) : Prop := 0 < c ∧ c < 2 ^ 32
theorem mb {x y : Int} (a b : Nat) (hx : 0 ≤ x) (hxa : x < 2 ^ a) (hy : 0 ≤ y) (hyb : y < 2 ^ b) : 0 ≤ x * y ∧ x * y < 2 ^ (a + b) := by
  refine ⟨Int.mul_nonneg hx hy, ?_⟩
  rw [Int.pow_add]
  have h1 : x * y ≤ x * 2 ^ b := Int.mul_le_mul_of_nonneg_left (Int.le_of_lt hyb) hx
  have h2 : x * 2 ^ b < 2 ^ a * 2 ^ b := Int.mul_lt_mul_of_pos_right hxa (Int.pow_pos (by decide))
  omega
theorem nab {x : Int} (a : Nat) (h : 0 ≤ x) (h' : x < 2 ^ a) : x.natAbs < 2 ^ a := by
  have h2 : ((x.natAbs : Nat) : Int) < ((2 ^ a : Nat) : Int) := by
    rw [Int.natAbs_of_nonneg h]
    exact_mod_cast h'
  exact Int.ofNat_lt.mp h2
def tailD (c0 c1 c2 c3 c4 c5 c6 c7 : Int) : DS := (dSeq (dSet 5 (dOp (fIntC (fun _ j => 0 < j) fun i j => .int (i % j)) (dCal fIntOf (dCons (dOp (fIntC CPw fun i j => .int (i ^ j.toNat)) (dOp fAdd (dOp fAdd (dOp (fIntC (fun _ j => 0 < j) fun i j => .int (i % j)) (dCal fIntOf (dCons (dVar 4) dNil)) (dC (.int c0))) (dOp (fIntC IntMulOk fun i j => .int (i * j)) (dC (.int c1)) (dVar 3))) (dC (.int c2))) (dC (.int 5))) dNil)) (dC (.int c3)))) (dSeq (dSet 5 (dOp (fIntC (fun _ j => 0 < j) fun i j => .int (i % j)) (dCal fIntOf (dCons (dOp (fIntC CPw fun i j => .int (i ^ j.toNat)) (dOp fAdd (dOp fAdd (dOp (fIntC IntMulOk fun i j => .int (i * j)) (dVar 5) (dOp fAdd (dOp (fIntC IntMulOk fun i j => .int (i * j)) (dC (.int 2)) (dVar 3)) (dC (.int c4)))) (dOp (fIntC IntMulOk fun i j => .int (i * j)) (dOp (fIntC IntMulOk fun i j => .int (i * j)) (dC (.int c5)) (dVar 3)) (dVar 3))) (dC (.int c6))) (dC (.int 3))) dNil)) (dC (.int c7)))) (dRet (dOp (fIntC (fun _ j => 0 < j) fun i j => .int (i % j)) (dCal fIntOf (dCons (dOp (fIntC CDivW fun i j => .int (i / j)) (dVar 5) (dC (.int 64))) dNil)) (dVar 1)))))
theorem tail_ok {c0 c1 c2 c3 c4 c5 c6 c7 : Int} (h0 : Sml c0) (h1 : Sml c1) (h2 : Sml c2) (h3 : Sml c3) (h4 : Sml c4) (h5 : Sml c5) (h6 : Sml c6) (h7 : Sml c7) {E : DEnds} {ρ : En} {G : Gm} {n cell : Int} {t : Nat} (hn : 1 ≤ n) (ht : t ≤ 1000000000)
    (hl : ρ.length = 6) (r1 : ρ[1]? = some (some (.int n))) (r3 : ρ[3]? = some (some (.int t))) (r4 : ρ[4]? = some (some (.int cell))) (k : ∀ v, 0 ≤ v → v < n → E.rt (.int v) G) : tailD c0 c1 c2 c3 c4 c5 c6 c7 E ρ G := by
  obtain ⟨p0, q0⟩ := h0
  obtain ⟨p1, q1⟩ := h1
  obtain ⟨p2, q2⟩ := h2
  obtain ⟨p3, q3⟩ := h3
  obtain ⟨p4, q4⟩ := h4
  obtain ⟨p5, q5⟩ := h5
  obtain ⟨p6, q6⟩ := h6
  obtain ⟨p7, q7⟩ := h7
  have tt : (t : Int) < 2 ^ 30 := by omega
  have t0 : 0 ≤ (t : Int) := by omega
  have a1 := mb 32 30 (Int.le_of_lt p1) q1 t0 tt
  have a2 := Int.emod_nonneg cell (show c0 ≠ 0 by omega)
  have a3 := Int.emod_lt_of_pos cell p0
  have s1 : ∀ {c : Int}, 0 < c → c < 2 ^ 32 → c.natAbs < 2 ^ 64 := fun {c} h h' => Nat.lt_trans (nab 32 (Int.le_of_lt h) h') (by decide)
  refine ds_set (.mod (.intOf (.pow (.add (.add (.mod (.intOf (.var r4)) .c p0) (.mul .c (.var r3) (mul_left (s1 p1 q1)))) .c) .c ?_)) .c p3) ?_
  · exact pow_ok (n := 64) (nab 64 (by omega) (by omega)) (by decide) (by decide)
  generalize em : (cell % c0 + c1 * (t : Int) + c2) ^ Int.toNat 5 % c3 = mx
  have m0 : 0 ≤ mx := by rw [← em]; exact Int.emod_nonneg _ (by omega)
  have m1 : mx < 2 ^ 32 := by rw [← em]; exact Int.lt_trans (Int.emod_lt_of_pos _ p3) q3
  have l5 : (ρ.set 5 (some (.int mx)))[5]? = some (some (.int mx)) := List.getElem?_set_self (by omega)
  have ne5 : ∀ {i : Nat}, 5 ≠ i → (ρ.set 5 (some (D.int mx)))[i]? = ρ[i]? := fun h => List.getElem?_set_ne h
  have r3' : (ρ.set 5 (some (D.int mx)))[3]? = some (some (.int t)) := by rw [ne5 (by decide), r3]
  have b1 := mb 32 33 m0 m1 (show 0 ≤ 2 * (t : Int) + c4 by omega) (show 2 * (t : Int) + c4 < 2 ^ 33 by omega)
  have b2 := mb 32 30 (Int.le_of_lt p5) q5 t0 tt
  have b3 := mb 62 30 b2.1 b2.2 t0 tt
  refine ds_set (.mod (.intOf (.pow (.add (.add (.mul (.var l5) (.add (.mul .c (.var r3') ?_) .c) ?_) (.mul (.mul .c (.var r3') ?_) (.var r3') ?_)) .c) .c ?_)) .c p7) ?_
  · exact mul_left (show Int.natAbs 2 < 2 ^ 64 by decide)
  · exact mul_left (Nat.lt_trans (nab 32 m0 m1) (by decide))
  · exact mul_left (s1 p5 q5)
  · exact mul_right (Nat.lt_trans (nab 30 t0 tt) (by decide))
  · exact pow_ok (n := 100) (nab 100 (by omega) (by omega)) (by decide) (by decide)
  generalize (mx * (2 * (t : Int) + c4) + c5 * (t : Int) * (t : Int) + c6) ^ Int.toNat 3 % c7 = my
  refine ds_ret (.mod (.intOf (.fdiv (.var (List.getElem?_set_self (by rw [List.length_set]; omega))) .c (div_ok (by decide) (by decide +kernel)))) (.var ?_) (by omega)) (k _ (Int.emod_nonneg _ (by omega)) (Int.emod_lt_of_pos _ (by omega)))
  rw [List.getElem?_set_ne (by decide), ne5 (by decide), r1]
def finD : DS := (dSeq (dSetIx (dOp (fIntC CDivW fun i j => .int (i / j)) (dVar 2) (dVar 1)) (dVar 0) (dC (.int 2))) (dRet (dOp (fIntC (fun _ j => 0 < j) fun i j => .int (i % j)) (dCal fIntOf (dCons (dVar 2) dNil)) (dVar 1))))
theorem fin_ok {E : DEnds} {ρ : En} {G : Gm} {n q t r : Int} {a : Addr} {cs : List Int} (hn : 1 ≤ n) (hn2 : n < 2 ^ 8000) (r0 : ρ[0]? = some (some (.ref a))) (r1 : ρ[1]? = some (some (.int n))) (r2 : ρ[2]? = some (some (.int q)))
    (hg : G a = some (.lst [.lst (cs.map D.int), .int t, .int r])) (k : ∀ v, 0 ≤ v → v < n → E.rt (.int v) (gup G a (.lst [.lst (cs.map D.int), .int t, .int (q / n)]))) : finD E ρ G := by
  refine ds_setIx (.fdiv (.var r2) (.var r1) (div_ok hn hn2)) (.var r0) .c hg (j := 2) rfl ?_
  exact ds_ret (.mod (.intOf (.var r2)) (.var r1) (by omega)) (k _ (Int.emod_nonneg _ (by omega)) (Int.emod_lt_of_pos _ (by omega)))
theorem ne_nil_eqv {cs : List Int} : D.eqv (.lst (cs.map D.int)) (.lst []) = cs.isEmpty := by
  have key : ∀ cs : List Int, D.pyL (cs.map D.int) = some (cs.map PyData.int) := fun cs => by
    induction cs with
    | nil => rfl
    | cons c cs ih => simp only [List.map_cons, D.pyL, ih, D.py]
  have e1 : D.py (.lst (cs.map D.int)) = some (.list (cs.map PyData.int)) := by simp only [D.py, key, Option.map_some]
  rw [eqv_of e1 (q := .list []) rfl]
  cases cs <;> rfl
theorem cmp_ints (cs : List Int) : Cmp (.lst (cs.map D.int)) := by
  have l : ∀ cs : List Int, D.layL (cs.map D.int) = true := fun cs => by
    induction cs with
    | nil => rfl
    | cons c cs ih => simp only [List.map_cons, D.layL, ih, D.lay, Bool.and_self]
  have d : ∀ cs : List Int, D.dpL (cs.map D.int) = 0 := fun cs => by
    induction cs with
    | nil => rfl
    | cons c cs ih => simp only [List.map_cons, D.dpL, ih, D.dp, Nat.max_self]
  exact ⟨by simp only [D.lay, l], by simp only [D.dp, d]; decide⟩
theorem Ev.eqNil {ρ : En} {G : Gm} {da : DE} {cs : List Int} (ha : Ev da ρ G (.lst (cs.map D.int))) : Ev (dOp fEq da (dLst dNil)) ρ G (.bl cs.isEmpty) := .op ha (.lst .nil (Nat.zero_le _)) ⟨cmp_ints cs, cmp_ints [], by rw [ne_nil_eqv]⟩
theorem Ev.neNil {ρ : En} {G : Gm} {da : DE} {cs : List Int} (ha : Ev da ρ G (.lst (cs.map D.int))) : Ev (dOp fNe da (dLst dNil)) ρ G (.bl (!cs.isEmpty)) := .op ha (.lst .nil (Nat.zero_le _)) ⟨cmp_ints cs, cmp_ints [], by rw [ne_nil_eqv]⟩
theorem ten18 : CPw 10 18 := pow_ok (n := 4) (by decide) (by decide) (by decide)
theorem dialA_ok {c0 c1 c2 c3 c4 c5 c6 c7 : Int} (h0 : Sml c0) (h1 : Sml c1) (h2 : Sml c2) (h3 : Sml c3) (h4 : Sml c4) (h5 : Sml c5) (h6 : Sml c6) (h7 : Sml c7) (xs : List D) (G : Gm) (R : KD) (RX : XD) (h : spDial xs G R RX) :
    dialA c0 c1 c2 c3 c4 c5 c6 c7 { nx := fun _ G => R .non G, rt := R } (xs.map some ++ List.replicate (6 - xs.length) none) G := by
  obtain ⟨a, n, T, rfl, ⟨m, hg, cs, t, r, rfl, hcs, ht, hr⟩, hT, hn, hn2, hR⟩ := h
  show dialA c0 c1 c2 c3 c4 c5 c6 c7 _ [some (.ref a), some (.int n), none, none, none, none] G
  have kk : ∀ {v : Int} {t' : Nat} {r' : Int}, 0 ≤ v → v < n → t' ≤ T + 1 → 0 ≤ r' → R (.int v) (gup G a (.lst [.lst (cs.map D.int), .int t', .int r'])) := fun h1 h2 h3 h4 => hR _ _ h1 h2 ⟨cs, _, _, rfl, hcs, h3, h4⟩
  have dn : ∀ {q : Int}, 0 ≤ q → 0 ≤ q / n := fun h => Int.ediv_nonneg h (by omega)
  refine ds_if (.tst (.gt (.at (.var rfl) .c (seq_ref hg) rfl) .c)) ?_
  split
  · rename_i hr1
    refine ds_set (.intOf (.at (.var rfl) .c (seq_ref hg) rfl)) ?_
    exact fin_ok hn hn2 rfl rfl rfl hg fun v v0 v1 => kk v0 v1 (by omega) (dn hr)
  refine ds_set (.at (.var rfl) .c (seq_ref hg) rfl) ?_
  refine ds_setIx (.add (.var rfl) .c) (.var rfl) .c hg (j := 1) rfl ?_
  have kk2 : ∀ {v : Int} {r' : Int}, 0 ≤ v → v < n → 0 ≤ r' → R (.int v) (gup G a (.lst [.lst (cs.map D.int), .int ((t : Int) + 1), .int r'])) := fun h1 h2 h4 => kk (t' := t + 1) h1 h2 (by omega) h4
  have hg1 : gup G a (.lst ([D.lst (cs.map D.int), .int t, .int r].set 1 (.int ((t : Int) + 1)))) a = some (.lst [.lst (cs.map D.int), .int ((t : Int) + 1), .int r]) := gup_same
  refine ds_if (.tst (.eqNil (.at (.var rfl) .c (seq_ref hg1) rfl))) ?_
  split
  · exact ds_ret .c (kk2 (by omega) (by omega) hr)
  rename_i hne
  have hne2 : cs ≠ [] := fun e => hne (by rw [e]; rfl)
  obtain ⟨cell, hcell⟩ := atI_mod hne2 t
  refine ds_set (.at (.at (.var rfl) .c (seq_ref hg1) rfl) (.mod (.intOf (.var rfl)) (.len (.at (.var rfl) .c (seq_ref hg1) rfl) seq_lst) ?_) seq_lst hcell) ?_
  · rw [List.length_map]
    have := List.length_pos_iff.mpr hne2
    omega
  refine ds_if (.and (.tst (.lt (.var rfl) (.len (.at (.var rfl) .c (seq_ref hg1) rfl) seq_lst))) (.tst (.ge (.absN (.var rfl)) (.pow .c .c ten18)))) ?_
  split
  · rename_i hb
    rw [Bool.and_eq_true] at hb
    have hb2 := of_decide_eq_true hb.2
    refine ds_set (.add (.mul .c (.sub (.absN (.intOf (.var rfl))) (.pow .c .c ten18)) (mul_left (show Int.natAbs 2 < 2 ^ 64 by decide))) (.intB (.lt (.var rfl) .c))) ?_
    refine fin_ok hn hn2 rfl rfl rfl hg1 fun v v0 v1 => ?_
    rw [gup_gup]
    refine kk2 v0 v1 (dn ?_)
    have : (0 : Int) ≤ if decide (cell < 0) = true then 1 else 0 := by split <;> decide
    omega
  exact tail_ok (E := { nx := fun _ G => R .non G, rt := R }) h0 h1 h2 h3 h4 h5 h6 h7 hn (by omega) rfl rfl rfl rfl fun v v0 v1 => kk2 v0 v1 hr
theorem dialB_ok {c0 c1 c2 c3 c4 c5 c6 c7 c8 c9 : Int} (h0 : Sml c0) (h1 : Sml c1) (h2 : Sml c2) (h3 : Sml c3) (h4 : Sml c4) (h5 : Sml c5) (h6 : Sml c6) (h7 : Sml c7) (h8 : Sml c8) (h9 : Sml c9) (xs : List D) (G : Gm) (R : KD) (RX : XD) (h : spDial xs G R RX) :
    dialB c0 c1 c2 c3 c4 c5 c6 c7 c8 c9 { nx := fun _ G => R .non G, rt := R } (xs.map some ++ List.replicate (6 - xs.length) none) G := by
  obtain ⟨a, n, T, rfl, ⟨m, hg, cs, t, r, rfl, hcs, ht, hr⟩, hT, hn, hn2, hR⟩ := h
  show dialB c0 c1 c2 c3 c4 c5 c6 c7 c8 c9 _ [some (.ref a), some (.int n), none, none, none, none] G
  have kk : ∀ {v : Int} {t' : Nat} {r' : Int}, 0 ≤ v → v < n → t' ≤ T + 1 → 0 ≤ r' → R (.int v) (gup G a (.lst [.lst (cs.map D.int), .int t', .int r'])) := fun h1 h2 h3 h4 => hR _ _ h1 h2 ⟨cs, _, _, rfl, hcs, h3, h4⟩
  have dn : ∀ {q : Int}, 0 ≤ q → 0 ≤ q / n := fun h => Int.ediv_nonneg h (by omega)
  refine ds_if (.tst (.gt (.at (.var rfl) .c (seq_ref hg) rfl) .c)) ?_
  split
  · rename_i hr1
    refine ds_set (.intOf (.at (.var rfl) .c (seq_ref hg) rfl)) ?_
    exact fin_ok hn hn2 rfl rfl rfl hg fun v v0 v1 => kk v0 v1 (by omega) (dn hr)
  refine ds_set (.at (.var rfl) .c (seq_ref hg) rfl) ?_
  refine ds_setIx (.add (.var rfl) .c) (.var rfl) .c hg (j := 1) rfl ?_
  have kk2 : ∀ {v : Int} {r' : Int}, 0 ≤ v → v < n → 0 ≤ r' → R (.int v) (gup G a (.lst [.lst (cs.map D.int), .int ((t : Int) + 1), .int r'])) := fun h1 h2 h4 => kk (t' := t + 1) h1 h2 (by omega) h4
  have hg1 : gup G a (.lst ([D.lst (cs.map D.int), .int t, .int r].set 1 (.int ((t : Int) + 1)))) a = some (.lst [.lst (cs.map D.int), .int ((t : Int) + 1), .int r]) := gup_same
  refine ds_set (.add (.mul .c (.var rfl) (mul_left (Nat.lt_trans (nab 32 (Int.le_of_lt h0.1) h0.2) (by decide)))) .c) ?_
  have go : ∀ (cell : Int), (dSeq (dIfS (dAnd (dTst (dOp (fInt gLt) (dVar 3) (dCal fLen (dCons (dIx (dVar 0) (dC (.int 0))) dNil)))) (dTst (dOp (fInt gGe) (dCal fAbs (dCons (dVar 4) dNil)) (dOp (fIntC CPw fun i j => .int (i ^ j.toNat)) (dC (.int 10)) (dC (.int 18)))))) (dSeq (dSet 2 (dOp fAdd (dOp (fIntC IntMulOk fun i j => .int (i * j)) (dC (.int 2)) (dOp (fInt fun i j => .int (i - j)) (dCal fAbs (dCons (dCal fIntOf (dCons (dVar 4) dNil)) dNil)) (dOp (fIntC CPw fun i j => .int (i ^ j.toNat)) (dC (.int 10)) (dC (.int 18))))) (dCal fIntOf (dCons (dOp (fInt gLt) (dVar 4) (dC (.int 0))) dNil)))) (dSeq (dSetIx (dOp (fIntC CDivW fun i j => .int (i / j)) (dVar 2) (dVar 1)) (dVar 0) (dC (.int 2))) (dRet (dOp (fIntC (fun _ j => 0 < j) fun i j => .int (i % j)) (dCal fIntOf (dCons (dVar 2) dNil)) (dVar 1))))) dNext) (dSeq (dSet 5 (dOp (fIntC (fun _ j => 0 < j) fun i j => .int (i % j)) (dCal fIntOf (dCons (dOp (fIntC CPw fun i j => .int (i ^ j.toNat)) (dOp fAdd (dOp fAdd (dOp (fIntC (fun _ j => 0 < j) fun i j => .int (i % j)) (dCal fIntOf (dCons (dVar 4) dNil)) (dC (.int c2))) (dOp (fIntC IntMulOk fun i j => .int (i * j)) (dC (.int c3)) (dVar 3))) (dC (.int c4))) (dC (.int 5))) dNil)) (dC (.int c5)))) (dSeq (dSet 5 (dOp (fIntC (fun _ j => 0 < j) fun i j => .int (i % j)) (dCal fIntOf (dCons (dOp (fIntC CPw fun i j => .int (i ^ j.toNat)) (dOp fAdd (dOp fAdd (dOp (fIntC IntMulOk fun i j => .int (i * j)) (dVar 5) (dOp fAdd (dOp (fIntC IntMulOk fun i j => .int (i * j)) (dC (.int 2)) (dVar 3)) (dC (.int c6)))) (dOp (fIntC IntMulOk fun i j => .int (i * j)) (dOp (fIntC IntMulOk fun i j => .int (i * j)) (dC (.int c7)) (dVar 3)) (dVar 3))) (dC (.int c8))) (dC (.int 3))) dNil)) (dC (.int c9)))) (dRet (dOp (fIntC (fun _ j => 0 < j) fun i j => .int (i % j)) (dCal fIntOf (dCons (dOp (fIntC CDivW fun i j => .int (i / j)) (dVar 5) (dC (.int 64))) dNil)) (dVar 1)))))) { nx := fun _ G => R .non G, rt := R } [some (.ref a), some (.int n), none, some (.int t), some (.int cell), none] (gup G a (.lst [.lst (cs.map D.int), .int ((t : Int) + 1), .int r])) := fun cell => by
      refine ds_if (.and (.tst (.lt (.var rfl) (.len (.at (.var rfl) .c (seq_ref hg1) rfl) seq_lst))) (.tst (.ge (.absN (.var rfl)) (.pow .c .c ten18)))) ?_
      split
      · rename_i hb
        rw [Bool.and_eq_true] at hb
        have hb2 := of_decide_eq_true hb.2
        refine ds_set (.add (.mul .c (.sub (.absN (.intOf (.var rfl))) (.pow .c .c ten18)) (mul_left (show Int.natAbs 2 < 2 ^ 64 by decide))) (.intB (.lt (.var rfl) .c))) ?_
        refine fin_ok hn hn2 rfl rfl rfl hg1 fun v v0 v1 => ?_
        rw [gup_gup]
        refine kk2 v0 v1 (dn ?_)
        have : (0 : Int) ≤ if decide (cell < 0) = true then 1 else 0 := by split <;> decide
        omega
      exact tail_ok (E := { nx := fun _ G => R .non G, rt := R }) h2 h3 h4 h5 h6 h7 h8 h9 hn (by omega) rfl rfl rfl rfl fun v v0 v1 => kk2 v0 v1 hr
  refine ds_if (.tst (.neNil (.at (.var rfl) .c (seq_ref hg1) rfl))) ?_
  split
  · rename_i hne
    have hne2 : cs ≠ [] := fun e => by
      rw [e] at hne
      cases hne
    obtain ⟨cell, hcell⟩ := atI_mod hne2 t
    refine ds_set (.at (.at (.var rfl) .c (seq_ref hg1) rfl) (.mod (.intOf (.var rfl)) (.len (.at (.var rfl) .c (seq_ref hg1) rfl) seq_lst) ?_) seq_lst hcell) (go cell)
    rw [List.length_map]
    have := List.length_pos_iff.mpr hne2
    omega
  · exact go _
theorem dialC_ok {c0 c1 c2 c3 c4 c5 c6 c7 c8 c9 : Int} (h0 : Sml c0) (h1 : Sml c1) (h2 : Sml c2) (h3 : Sml c3) (h4 : Sml c4) (h5 : Sml c5) (h6 : Sml c6) (h7 : Sml c7) (h8 : Sml c8) (h9 : Sml c9) (xs : List D) (G : Gm) (R : KD) (RX : XD) (h : spDial xs G R RX) :
    dialC c0 c1 c2 c3 c4 c5 c6 c7 c8 c9 { nx := fun _ G => R .non G, rt := R } (xs.map some ++ List.replicate (6 - xs.length) none) G := by
  obtain ⟨a, n, T, rfl, ⟨m, hg, cs, t, r, rfl, hcs, ht, hr⟩, hT, hn, hn2, hR⟩ := h
  show dialC c0 c1 c2 c3 c4 c5 c6 c7 c8 c9 _ [some (.ref a), some (.int n), none, none, none, none] G
  have kk : ∀ {v : Int} {t' : Nat} {r' : Int}, 0 ≤ v → v < n → t' ≤ T + 1 → 0 ≤ r' → R (.int v) (gup G a (.lst [.lst (cs.map D.int), .int t', .int r'])) := fun h1 h2 h3 h4 => hR _ _ h1 h2 ⟨cs, _, _, rfl, hcs, h3, h4⟩
  have dn : ∀ {q : Int}, 0 ≤ q → 0 ≤ q / n := fun h => Int.ediv_nonneg h (by omega)
  refine ds_if (.tst (.gt (.at (.var rfl) .c (seq_ref hg) rfl) .c)) ?_
  split
  · rename_i hr1
    refine ds_set (.intOf (.at (.var rfl) .c (seq_ref hg) rfl)) ?_
    exact fin_ok hn hn2 rfl rfl rfl hg fun v v0 v1 => kk v0 v1 (by omega) (dn hr)
  refine ds_set (.at (.var rfl) .c (seq_ref hg) rfl) ?_
  refine ds_setIx (.add (.var rfl) .c) (.var rfl) .c hg (j := 1) rfl ?_
  have kk2 : ∀ {v : Int} {r' : Int}, 0 ≤ v → v < n → 0 ≤ r' → R (.int v) (gup G a (.lst [.lst (cs.map D.int), .int ((t : Int) + 1), .int r'])) := fun h1 h2 h4 => kk (t' := t + 1) h1 h2 (by omega) h4
  have hg1 : gup G a (.lst ([D.lst (cs.map D.int), .int t, .int r].set 1 (.int ((t : Int) + 1)))) a = some (.lst [.lst (cs.map D.int), .int ((t : Int) + 1), .int r]) := gup_same
  refine ds_set (.add (.mul .c (.var rfl) (mul_left (Nat.lt_trans (nab 32 (Int.le_of_lt h0.1) h0.2) (by decide)))) .c) ?_
  have go : ∀ (cell : Int), (dSeq (dIfS (dAnd (dTst (dOp (fInt gLt) (dVar 3) (dCal fLen (dCons (dIx (dVar 0) (dC (.int 0))) dNil)))) (dTst (dOp (fInt gGe) (dCal fAbs (dCons (dVar 4) dNil)) (dOp (fIntC CPw fun i j => .int (i ^ j.toNat)) (dC (.int 10)) (dC (.int 18)))))) (dSeq (dSet 2 (dOp fAdd (dOp (fIntC IntMulOk fun i j => .int (i * j)) (dC (.int 2)) (dOp (fInt fun i j => .int (i - j)) (dCal fAbs (dCons (dVar 4) dNil)) (dOp (fIntC CPw fun i j => .int (i ^ j.toNat)) (dC (.int 10)) (dC (.int 18))))) (dCal fIntOf (dCons (dOp (fInt gLt) (dVar 4) (dC (.int 0))) dNil)))) (dSeq (dSetIx (dOp (fIntC CDivW fun i j => .int (i / j)) (dVar 2) (dVar 1)) (dVar 0) (dC (.int 2))) (dRet (dOp (fIntC (fun _ j => 0 < j) fun i j => .int (i % j)) (dCal fIntOf (dCons (dVar 2) dNil)) (dVar 1))))) dNext) (dSeq (dSet 5 (dOp (fIntC (fun _ j => 0 < j) fun i j => .int (i % j)) (dCal fIntOf (dCons (dOp (fIntC CPw fun i j => .int (i ^ j.toNat)) (dOp fAdd (dOp fAdd (dOp (fIntC (fun _ j => 0 < j) fun i j => .int (i % j)) (dCal fIntOf (dCons (dVar 4) dNil)) (dC (.int c2))) (dOp (fIntC IntMulOk fun i j => .int (i * j)) (dC (.int c3)) (dVar 3))) (dC (.int c4))) (dC (.int 5))) dNil)) (dC (.int c5)))) (dSeq (dSet 5 (dOp (fIntC (fun _ j => 0 < j) fun i j => .int (i % j)) (dCal fIntOf (dCons (dOp (fIntC CPw fun i j => .int (i ^ j.toNat)) (dOp fAdd (dOp fAdd (dOp (fIntC IntMulOk fun i j => .int (i * j)) (dVar 5) (dOp fAdd (dOp (fIntC IntMulOk fun i j => .int (i * j)) (dC (.int 2)) (dVar 3)) (dC (.int c6)))) (dOp (fIntC IntMulOk fun i j => .int (i * j)) (dOp (fIntC IntMulOk fun i j => .int (i * j)) (dC (.int c7)) (dVar 3)) (dVar 3))) (dC (.int c8))) (dC (.int 3))) dNil)) (dC (.int c9)))) (dRet (dOp (fIntC (fun _ j => 0 < j) fun i j => .int (i % j)) (dCal fIntOf (dCons (dOp (fIntC CDivW fun i j => .int (i / j)) (dVar 5) (dC (.int 64))) dNil)) (dVar 1)))))) { nx := fun _ G => R .non G, rt := R } [some (.ref a), some (.int n), none, some (.int t), some (.int cell), none] (gup G a (.lst [.lst (cs.map D.int), .int ((t : Int) + 1), .int r])) := fun cell => by
      refine ds_if (.and (.tst (.lt (.var rfl) (.len (.at (.var rfl) .c (seq_ref hg1) rfl) seq_lst))) (.tst (.ge (.absN (.var rfl)) (.pow .c .c ten18)))) ?_
      split
      · rename_i hb
        rw [Bool.and_eq_true] at hb
        have hb2 := of_decide_eq_true hb.2
        refine ds_set (.add (.mul .c (.sub (.absN (.var rfl)) (.pow .c .c ten18)) (mul_left (show Int.natAbs 2 < 2 ^ 64 by decide))) (.intB (.lt (.var rfl) .c))) ?_
        refine fin_ok hn hn2 rfl rfl rfl hg1 fun v v0 v1 => ?_
        rw [gup_gup]
        refine kk2 v0 v1 (dn ?_)
        have : (0 : Int) ≤ if decide (cell < 0) = true then 1 else 0 := by split <;> decide
        omega
      exact tail_ok (E := { nx := fun _ G => R .non G, rt := R }) h2 h3 h4 h5 h6 h7 h8 h9 hn (by omega) rfl rfl rfl rfl fun v v0 v1 => kk2 v0 v1 hr
  refine ds_if (.tst (.neNil (.at (.var rfl) .c (seq_ref hg1) rfl))) ?_
  split
  · rename_i hne
    have hne2 : cs ≠ [] := fun e => by
      rw [e] at hne
      cases hne
    obtain ⟨cell, hcell⟩ := atI_mod hne2 t
    refine ds_set (.at (.at (.var rfl) .c (seq_ref hg1) rfl) (.mod (.intOf (.var rfl)) (.len (.at (.var rfl) .c (seq_ref hg1) rfl) seq_lst) ?_) seq_lst hcell) (go cell)
    rw [List.length_map]
    have := List.length_pos_iff.mpr hne2
    omega
  · exact go _
end DL

/-! DL11: what draws; the greatest common divisor; the package's small tests. -/
namespace DL
open PySem PySem.Spec PyProof.Rows L2 Evl
variable [TabC]

section
variable {ρ : En} {G : Gm} {da db dc : DE} {dA : DA} {x y z : D} {xs : List D} {ta tb : DT} {j k : Bool}
theorem EvT.orT (ha : EvT ta ρ G true) : EvT (dOr ta tb) ρ G true := fun R r => ha _ r
theorem EvT.orF (ha : EvT ta ρ G false) (hb : EvT tb ρ G k) : EvT (dOr ta tb) ρ G k := fun R r => ha _ (hb _ r)
theorem EvT.andT (ha : EvT ta ρ G true) (hb : EvT tb ρ G k) : EvT (dAnd ta tb) ρ G k := fun R r => ha _ (hb _ r)
theorem EvT.andF (ha : EvT ta ρ G false) : EvT (dAnd ta tb) ρ G false := fun R r => ha _ r
theorem Ev.andT (ha : Ev da ρ G (.bl true)) (hb : Ev db ρ G z) : Ev (dAndV da db) ρ G z := fun R r => ha _ ⟨true, rfl, hb _ r⟩
theorem Ev.andF (ha : Ev da ρ G (.bl false)) : Ev (dAndV da db) ρ G (.bl false) := fun R r => ha _ ⟨false, rfl, r⟩
theorem Ev.and2 (ha : Ev da ρ G (.bl j)) (hb : j = true → Ev db ρ G (.bl k)) : Ev (dAndV da db) ρ G (.bl (j && k)) := fun R r => ha _ ⟨j, rfl, by
  cases j with
  | true => exact hb rfl _ r
  | false => exact r⟩
theorem Ev.or2 (ha : Ev da ρ G (.bl j)) (hb : j = false → Ev db ρ G (.bl k)) : Ev (dOrV da db) ρ G (.bl (j || k)) := fun R r => ha _ ⟨j, rfl, by
  cases j with
  | true => exact r
  | false => exact hb rfl _ r⟩
theorem Ev.orT (ha : Ev da ρ G (.bl true)) : Ev (dOrV da db) ρ G (.bl true) := fun R r => ha _ ⟨true, rfl, r⟩
theorem Ev.orF (ha : Ev da ρ G (.bl false)) (hb : Ev db ρ G z) : Ev (dOrV da db) ρ G z := fun R r => ha _ ⟨false, rfl, hb _ r⟩
theorem Ev.notV (ha : Ev da ρ G (.bl j)) : Ev (dNotV da) ρ G (.bl (!j)) := fun R r => ha _ ⟨j, rfl, r⟩
theorem Ev.isN (ha : Ev da ρ G x) : Ev (dIsN da) ρ G (.bl x.isN) := fun R r => ha _ r
theorem Ev.ifT (ha : EvT ta ρ G true) (hb : Ev da ρ G z) : Ev (dIf ta da db) ρ G z := fun R r => ha _ (hb _ r)
theorem Ev.ifF (ha : EvT ta ρ G false) (hb : Ev db ρ G z) : Ev (dIf ta da db) ρ G z := fun R r => ha _ (hb _ r)
theorem Ev.call {q : DSp} (ha : EvA dA ρ G xs) (h : ∀ R, R z G → q xs G R X0) : Ev (dCall q X0 dA) ρ G z := fun R r => ha _ (h R r)
theorem Ev.callK {q : DSp} {o : Ord} (ha : EvA dA ρ G xs) (h : ∀ R, R z G → q (o.go xs) G R X0) : Ev (dCallK q o X0 dA) ρ G z := fun R r => ha _ (h R r)
theorem Ev.neg {i : Int} (ha : Ev da ρ G (.int i)) : Ev (dNeg da) ρ G (.int (-i)) := fun R r => ha _ ⟨i, rfl, r⟩
theorem Ev.isi {n t : String} (ha : Ev da ρ G x) (h : x.tyn = some t) : Ev (dCal (fIsi n) (dCons da (dCons (dC (.ty n)) dNil))) ρ G (.bl (isK t n)) := .cal (.cons ha (.one .c)) ⟨x, t, rfl, h, rfl⟩
theorem Ev.isiT {ns : List String} {t : String} (ha : Ev da ρ G x) (h : x.tyn = some t) : Ev (dIsiT ns da) ρ G (.bl (ns.any (isK t))) := fun R r => ha _ ⟨t, h, r⟩
theorem Ev.eqI {i j : Int} (ha : Ev da ρ G (.int i)) (hb : Ev db ρ G (.int j)) : Ev (dOp fEq da db) ρ G (.bl (decide (i = j))) := .op ha hb rfl
theorem Ev.neI {i j : Int} (ha : Ev da ρ G (.int i)) (hb : Ev db ρ G (.int j)) : Ev (dOp fNe da db) ρ G (.bl (!decide (i = j))) := .op ha hb rfl
theorem Ev.neS {i j : Str} (ha : Ev da ρ G (.str i)) (hb : Ev db ρ G (.str j)) : Ev (dOp fNe da db) ρ G (.bl (!decide (i = j))) := .op ha hb rfl
theorem Ev.repr (ha : Ev da ρ G x) (h : RepOk x) : Ev (dCal fRepr (dCons da dNil)) ρ G (.str x.shown) := .cal (.one ha) ⟨x, rfl, h, rfl⟩
theorem ds_call {E : DEnds} {q : DSp} {i : Nat} (ha : EvA dA ρ G xs) (h : q xs G (fun x G1 => E.nx (ρ.set i (some x)) G1) X0) : dSet i (dCall q X0 dA) E ρ G := ha _ h
theorem ds_par {E : DEnds} {i j : Nat} (ha : Ev da ρ G x) (hb : Ev db ρ G y) (h : E.nx ((ρ.set i (some x)).set j (some y)) G) : dPar i j (dCons da (dCons db dNil)) E ρ G := ha _ (hb _ ⟨x, y, rfl, h⟩)
theorem Ev.cast {z' : D} (h : Ev da ρ G z) (e : z = z') : Ev da ρ G z' := e ▸ h
theorem EvT.cast (h : EvT ta ρ G j) (e : j = k) : EvT ta ρ G k := e ▸ h
end

/-! ### what draws -/
theorem gup_self {G : Gm} {a : Addr} {m : Mt} (h : G a = some m) : gup G a m = G := by
  funext b
  unfold gup
  split
  · rename_i e
    rw [e, h]
  · rfl
/-- d draws k times at most, and comes to something that P tells of -/
def Drw (d : DE) (ρ : En) (a : Addr) (k : Nat) (P : D → Prop) : Prop := ∀ (G : Gm) (T : Nat) (R : KD), GauAt G a T → T + k ≤ 1000000000 → (∀ x m, P x → Gau m (T + k) → R x (gup G a m)) → d ρ G R
def DrwA (d : DA) (ρ : En) (a : Addr) (k : Nat) (P : List D → Prop) : Prop := ∀ (G : Gm) (T : Nat) (R : List D → Gm → Prop), GauAt G a T → T + k ≤ 1000000000 → (∀ x m, P x → Gau m (T + k) → R x (gup G a m)) → d ρ G R
section
variable {ρ : En} {a : Addr} {j k : Nat} {da db : DE} {dA : DA} {P P2 P3 : D → Prop} {PL : List D → Prop}
theorem Drw.ev {z : D} (h : ∀ G, Ev da ρ G z) (hp : P z) : Drw da ρ a 0 P := fun G T R ⟨m, hg, hm⟩ _ r => h G R (by
  rw [← gup_self hg]
  exact r z m hp hm)
theorem Drw.mono (h : Drw da ρ a k P) (hp : ∀ x, P x → P2 x) : Drw da ρ a k P2 := fun G T R hg ht r => h G T R hg ht fun x m px hm => r x m (hp x px) hm
theorem Drw.le (h : Drw da ρ a k P) (l : k ≤ j) : Drw da ρ a j P := fun G T R hg ht r => h G T R hg (by omega) fun x m px hm => r x m px (hm.mono (by omega))
theorem DrwA.nil : DrwA dNil ρ a 0 (fun l => l = []) := fun G T R ⟨m, hg, hm⟩ _ r => by
  have := r [] m rfl hm
  rw [gup_self hg] at this
  exact this
theorem DrwA.cons (h : Drw da ρ a j P) (h' : DrwA dA ρ a k PL) : DrwA (dCons da dA) ρ a (j + k) (fun l => ∃ x xs, l = x :: xs ∧ P x ∧ PL xs) := fun G T R hg ht r => h G T _ hg (by omega) fun x m px hm =>
  h' _ (T + j) _ ⟨m, gup_same, hm⟩ (by omega) fun xs m' pxs hm' => by
    rw [gup_gup]
    exact r _ m' ⟨x, xs, rfl, px, pxs⟩ (by rw [← Nat.add_assoc]; exact hm')
/-- all alike -/
theorem DrwA.more (h : Drw da ρ a j P) {n : Nat} (h' : DrwA dA ρ a k (fun l => l.length = n ∧ ∀ x ∈ l, P x)) : DrwA (dCons da dA) ρ a (j + k) (fun l => l.length = n + 1 ∧ ∀ x ∈ l, P x) := fun G T R hg ht r =>
  (DrwA.cons h h') G T R hg ht fun l m ⟨x, xs, e, px, pl, pxs⟩ hm => r l m (by
    subst e
    refine ⟨by rw [List.length_cons, pl], fun y hy => ?_⟩
    rcases List.mem_cons.mp hy with e | e
    · rw [e]
      exact px
    · exact pxs y e) hm
theorem DrwA.none : DrwA dNil ρ a 0 (fun l => l.length = 0 ∧ ∀ x ∈ l, P x) := fun G T R hg ht r => DrwA.nil G T R hg ht fun l m e hm => r l m (by rw [e]; exact ⟨rfl, fun x h => nomatch h⟩) hm
theorem Drw.lst (h : DrwA dA ρ a k PL) (hp : ∀ l, PL l → l.length ≤ sizeLine ∧ P (.lst l)) : Drw (dLst dA) ρ a k P := fun G T R hg ht r => h G T _ hg ht fun l m pl hm => ⟨(hp l pl).1, r _ m (hp l pl).2 hm⟩
theorem Drw.tup (h : DrwA dA ρ a k PL) (hp : ∀ l, PL l → l.length ≤ sizeLine ∧ P (.tup l)) : Drw (dTup dA) ρ a k P := fun G T R hg ht r => h G T _ hg ht fun l m pl hm => ⟨(hp l pl).1, r _ m (hp l pl).2 hm⟩
theorem Drw.op {f : D → D → D → Prop} (h : Drw da ρ a j P) (h' : Drw db ρ a k P2) (hp : ∀ x y, P x → P2 y → ∃ z, f x y z ∧ P3 z) : Drw (dOp f da db) ρ a (j + k) P3 := fun G T R hg ht r => h G T _ hg (by omega) fun x m px hm =>
  h' _ (T + j) _ ⟨m, gup_same, hm⟩ (by omega) fun y m' py hm' => by
    obtain ⟨z, hf, hz⟩ := hp x y px py
    refine ⟨z, hf, ?_⟩
    rw [gup_gup]
    exact r z m' hz (by rw [← Nat.add_assoc]; exact hm')
theorem Drw.dial {i : Nat} {dn : DE} {n : Int} (hi : ρ[i]? = some (some (.ref a))) (hn : ∀ G, Ev dn ρ G (.int n)) (h1 : 1 ≤ n) (h2 : n < 2 ^ 8000) : Drw (dCall spDial X0 (dCons (dVar i) (dCons dn dNil))) ρ a 1 (fun x => ∃ v, x = .int v ∧ 0 ≤ v ∧ v < n) := fun G T R hg ht r =>
  (EvA.cons (Ev.var hi) (EvA.one (hn G))) _ ⟨a, n, T, rfl, hg, by omega, h1, h2, fun v m v0 v1 hm => r _ m ⟨v, rfl, v0, v1⟩ hm⟩
theorem Drw.pick {i : Nat} {dl : DE} (hi : ρ[i]? = some (some (.ref a))) (h : Drw dl ρ a k (fun x => ∃ ds, (x = .lst ds ∨ x = .tup ds) ∧ ds ≠ [] ∧ ds.length ≤ 1000000 ∧ ∀ y ∈ ds, P y)) : Drw (dCall spPick X0 (dCons (dVar i) (dCons dl dNil))) ρ a (k + 1) P := fun G T R hg ht r => by
  refine ⟨_, hi, h G T _ hg (by omega) fun x m ⟨ds, hx, h1, h2, h3⟩ hm => ?_⟩
  refine ⟨a, x, ds, T + k, rfl, hx, h1, h2, ⟨m, gup_same, hm⟩, by omega, fun v m' hv hm' => ?_⟩
  rw [gup_gup]
  exact r v m' (h3 v hv) hm'
/-- from a written list, all alike -/
theorem Drw.pickL {i n : Nat} (hi : ρ[i]? = some (some (.ref a))) (h : DrwA dA ρ a k (fun l => l.length = n ∧ ∀ x ∈ l, P x)) (hn : 1 ≤ n := by decide) (hn2 : n ≤ 1000000 := by decide) : Drw (dCall spPick X0 (dCons (dVar i) (dCons (dLst dA) dNil))) ρ a (k + 1) P :=
  .pick hi (.lst h fun l ⟨hl, hp⟩ => ⟨by rw [hl, sizeLine_eq]; omega, l, .inl rfl, fun e => by rw [e] at hl; simp at hl; omega, by omega, hp⟩)
theorem dw_set {E : DEnds} {G : Gm} {T i : Nat} (h : Drw da ρ a k P) (hg : GauAt G a T) (ht : T + k ≤ 1000000000) (hk : ∀ x m, P x → Gau m (T + k) → E.nx (ρ.set i (some x)) (gup G a m)) : dSet i da E ρ G := h G T _ hg ht hk
theorem dw_if {E : DEnds} {G : Gm} {T : Nat} {s1 s2 : DS} {PB : Bool → Prop} (h : Drw da ρ a k (fun x => ∃ b, x = .bl b ∧ PB b)) (hg : GauAt G a T) (ht : T + k ≤ 1000000000) (hk : ∀ b m, PB b → Gau m (T + k) → if b = true then s1 E ρ (gup G a m) else s2 E ρ (gup G a m)) : dIfS (dTst da) s1 s2 E ρ G :=
  h G T _ hg ht fun x m ⟨b, e, hb⟩ hm => by
    subst e
    exact ⟨b, rfl, hk b m hb hm⟩
theorem dw_ret {E : DEnds} {G : Gm} {T : Nat} (h : Drw da ρ a k P) (hg : GauAt G a T) (ht : T + k ≤ 1000000000) (hk : ∀ x m, P x → Gau m (T + k) → E.rt x (gup G a m)) : dRet da E ρ G := h G T _ hg ht hk
theorem dw_par {E : DEnds} {G : Gm} {T i i2 : Nat} (h : Drw da ρ a j P) (h' : Drw db ρ a k P2) (hg : GauAt G a T) (ht : T + (j + k) ≤ 1000000000) (hk : ∀ x y m, P x → P2 y → Gau m (T + (j + k)) → E.nx ((ρ.set i (some x)).set i2 (some y)) (gup G a m)) : dPar i i2 (dCons da (dCons db dNil)) E ρ G :=
  (DrwA.cons h (DrwA.cons h' .nil)) G T _ hg ht fun l m ⟨x, xs, e, px, y, ys, e2, py, e3⟩ hm => by
    subst e3 e2 e
    exact ⟨x, y, rfl, hk x y m px py hm⟩
end
/-- the making of a drawing list -/
def gaugeD (c : Int) : DS := dRet (dLstM (dCons (dCmp (dISeq (dSl (dVar 0) dNoP (dPart (dC (.int c))))) (gN 1) dYes (dCal fIntOf (dCons (dVar 1) dNil)) [1]) (dCons (dC (.int 0)) (dCons (dC (.int 0)) dNil))))
theorem gauge_ok {c : Int} (xs : List D) (G : Gm) (R : KD) (RX : XD) (h : spGauge xs G R RX) : gaugeD c { nx := fun _ G => R .non G, rt := R } (xs.map some ++ List.replicate (2 - xs.length) none) G := by
  obtain ⟨ns, rfl, hl, h⟩ := h
  have hc : ∃ ms : List Int, cutD (ns.map D.int) none (some c) = ms.map D.int ∧ ms.length ≤ 63 := by
    unfold cutD
    rw [← List.map_drop, ← List.map_take]
    exact ⟨_, rfl, by rw [List.length_take, List.length_drop]; omega⟩
  obtain ⟨ms, hms, hml⟩ := hc
  show dLstM _ [some (.lst (ns.map D.int)), none] G R
  refine ⟨_, rfl, c, rfl, .lst (ms.map D.int), .inl ⟨ns.map D.int, lst_lst, by rw [hms]⟩, ms.map D.int, .inl rfl, ?_⟩
  refine cmpL_map (f := id) (fun x hx S' hS => ?_) (by rw [List.length_map, sizeLine_eq, List.length_nil]; omega) ?_
  · obtain ⟨i, _, rfl⟩ := List.mem_map.mp hx
    exact Ev.intOf (ρ := _) (.var rfl) _ hS
  · rw [List.map_id, List.nil_append]
    exact ⟨by rw [sizeLine_eq, List.length_cons, List.length_cons, List.length_singleton]; omega, fun p hp => h p _ hp ⟨ms, 0, 0, rfl, hml, Nat.le_refl _, Int.le_refl _⟩⟩
def pickD : DS := dRet (dIx (dVar 1) (dCall spDial X0 (dCons (dVar 0) (dCons (dCal fLen (dCons (dVar 1) dNil)) dNil))))
theorem atI_nat {ds : List D} {i : Int} (h : 0 ≤ i) (h' : i < ds.length) : ∃ z, z ∈ ds ∧ atI ds i = some z := by
  refine ⟨ds[i.toNat]'(by omega), List.getElem_mem _, ?_⟩
  unfold atI ixN
  rw [if_pos h, if_pos h', Option.bind_some, List.getElem?_eq_getElem (by omega)]
theorem pick_ok (xs : List D) (G : Gm) (R : KD) (RX : XD) (h : spPick xs G R RX) : pickD { nx := fun _ G => R .non G, rt := R } (xs.map some ++ List.replicate (2 - xs.length) none) G := by
  obtain ⟨a, x, ds, T, rfl, hx, hne, hl, hg, ht, h⟩ := h
  have hs : SeqAt G x ds := by
    rcases hx with rfl | rfl
    · exact seq_lst
    · exact seq_tup
  have h0 := List.length_pos_iff.mpr hne
  show dIx _ _ [some (.ref a), some x] G R
  refine ⟨x, rfl, (EvA.cons (Ev.var rfl) (EvA.one (Ev.len (Ev.var rfl) hs))) _ ⟨a, ds.length, T, rfl, hg, ht, by omega, ?_, fun v m v0 v1 hm => ?_⟩⟩
  · exact Int.lt_of_lt_of_le (b := 2000000) (by omega) (by decide +kernel)
  · obtain ⟨z, hz, he⟩ := atI_nat v0 v1
    refine ⟨z, .inl ⟨ds, v, ?_, rfl, he⟩, h z m hz hm⟩
    rcases hx with rfl | rfl
    · exact seq_lst
    · exact seq_tup
end DL

/-! DL12: what the package's small tests answer. -/
namespace DL
open PySem PySem.Spec PyProof.Rows L2 Evl
variable [TabC]

theorem kn_tyn {x : D} (h : x.kn = true) : ∃ t, x.tyn = some t := by cases x <;> first | exact ⟨_, rfl⟩ | cases h
def sp_is_integer : DSp := fun xs G R _ => ∃ x, xs = [x] ∧ x.kn = true ∧ R (.bl (isIntD x)) G
def sp_is_within : DSp := fun xs G R _ => ∃ x a b l m, xs = [x, a, b] ∧ x.kn = true ∧ bndD a = some l ∧ bndD b = some m ∧ R (.bl (withinD x l m)) G
def sp_is_list : DSp := fun xs G R _ => ∃ x, xs = [x] ∧ x.kn = true ∧ R (.bl (isSeqD x)) G
def halfD (x : D) : D × D := match x with
  | .tup [a, b] => (a, b)
  | .lst [a, b] => (a, b)
  | x => (x, .int 1)
def sp_halves : DSp := fun xs G R _ => ∃ x, xs = [x] ∧ numD x = true ∧ R (.tup [(halfD x).1, (halfD x).2]) G
def sp_common : DSp := fun xs G R _ => ∃ i j : Int, xs = [.int i, .int j] ∧ R (.int (Int.gcd i j)) G
def sp_is_number : DSp := fun xs G R _ => ∃ x, xs = [x] ∧ x.kn = true ∧ R (.bl (numD x)) G
def smallD (x : D) : Bool := numD x && match halfD x with
  | (.int a, .int b) => decide ((a.natAbs : Int) ≤ 1000000) && decide (b ≤ 1000)
  | _ => false
def sp_is_small : DSp := fun xs G R _ => ∃ x, xs = [x] ∧ x.kn = true ∧ R (.bl (smallD x)) G
section
variable {ρ : En} {G : Gm} {da db dc : DE} {x a b : D} {l m : Option Int}
theorem Ev.isInteger (h : Ev da ρ G x) (hk : x.kn = true) : Ev (dCall sp_is_integer X0 (dCons da dNil)) ρ G (.bl (isIntD x)) := .call (.one h) fun R r => ⟨x, rfl, hk, r⟩
theorem Ev.isWithin (h : Ev da ρ G x) (h1 : Ev db ρ G a) (h2 : Ev dc ρ G b) (hk : x.kn = true) (hl : bndD a = some l) (hm : bndD b = some m) : Ev (dCall sp_is_within X0 (dCons da (dCons db (dCons dc dNil)))) ρ G (.bl (withinD x l m)) := .call (.cons h (.cons h1 (.one h2))) fun R r => ⟨x, a, b, l, m, rfl, hk, hl, hm, r⟩
theorem Ev.isList (h : Ev da ρ G x) (hk : x.kn = true) : Ev (dCall sp_is_list X0 (dCons da dNil)) ρ G (.bl (isSeqD x)) := .call (.one h) fun R r => ⟨x, rfl, hk, r⟩
theorem Ev.common {i j : Int} (h : Ev da ρ G (.int i)) (h1 : Ev db ρ G (.int j)) : Ev (dCall sp_common X0 (dCons da (dCons db dNil))) ρ G (.int (Int.gcd i j)) := .call (.cons h (.one h1)) fun R r => ⟨i, j, rfl, r⟩
theorem Ev.isNumber (h : Ev da ρ G x) (hk : x.kn = true) : Ev (dCall sp_is_number X0 (dCons da dNil)) ρ G (.bl (numD x)) := .call (.one h) fun R r => ⟨x, rfl, hk, r⟩
theorem Ev.halves (h : Ev da ρ G x) (hk : numD x = true) : Ev (dCall sp_halves X0 (dCons da dNil)) ρ G (.tup [(halfD x).1, (halfD x).2]) := .call (.one h) fun R r => ⟨x, rfl, hk, r⟩
theorem Ev.isSmall (h : Ev da ρ G x) (hk : x.kn = true) : Ev (dCall sp_is_small X0 (dCons da dNil)) ρ G (.bl (smallD x)) := .call (.one h) fun R r => ⟨x, rfl, hk, r⟩
end
/-- isinstance(x, int) and not isinstance(x, bool) -/
def wholeD : DE := dAndV (dCal (fIsi "int") (dCons (dVar 0) (dCons (dC (.ty "int")) dNil))) (dNotV (dCal (fIsi "bool") (dCons (dVar 0) (dCons (dC (.ty "bool")) dNil))))
theorem ev_whole {ρ : En} {G : Gm} {x : D} (h : ρ[0]? = some (some x)) (hk : x.kn = true) : Ev wholeD ρ G (.bl (isIntD x)) := by
  obtain ⟨t, ht⟩ := kn_tyn hk
  refine (Ev.and2 (.isi (.var h) ht) fun _ => .notV (.isi (.var h) ht)).cast ?_
  cases x <;> cases ht <;> first | rfl | cases hk
theorem is_integer_ok (xs : List D) (G : Gm) (R : KD) (RX : XD) (h : sp_is_integer xs G R RX) : dRet wholeD { nx := fun _ G => R .non G, rt := R } (xs.map some ++ List.replicate (1 - xs.length) none) G := by
  obtain ⟨x, rfl, hk, h⟩ := h
  exact ev_whole rfl hk _ h
def withinR : DS := (dSeq (dIfS (dNot (dTst (dCall sp_is_integer X0 (dCons (dVar 0) dNil)))) (dRet (dC (.bl false))) dNext) (dRet (dAndV (dOrV (dIsN (dVar 1)) (dOp (fInt gLe) (dVar 1) (dVar 0))) (dOrV (dIsN (dVar 2)) (dOp (fInt gLe) (dVar 0) (dVar 2))))))
theorem bnd_le {ρ : En} {G : Gm} {da db : DE} {b : D} {l : Option Int} {i : Int} (hb : bndD b = some l) (h : Ev da ρ G b) (h' : Ev db ρ G (.int i)) : Ev (dOrV (dIsN da) (dOp (fInt gLe) da db)) ρ G (.bl (leO l i)) := by
  cases b <;> cases hb
  · exact .orT (.isN h)
  · exact .orF (.isN h) (.le h h')
theorem bnd_ge {ρ : En} {G : Gm} {da db : DE} {b : D} {l : Option Int} {i : Int} (hb : bndD b = some l) (h : Ev da ρ G b) (h' : Ev db ρ G (.int i)) : Ev (dOrV (dIsN da) (dOp (fInt gLe) db da)) ρ G (.bl (geO l i)) := by
  cases b <;> cases hb
  · exact .orT (.isN h)
  · exact .orF (.isN h) (.le h' h)
theorem bnd_le2 {ρ : En} {G : Gm} {da db : DE} {b : D} {l : Option Int} {i : Int} (hb : bndD b = some l) (h : Ev da ρ G b) (h' : Ev db ρ G (.int i)) : Ev (dOrV (dIsN da) (dOp (fInt gGe) db da)) ρ G (.bl (leO l i)) := by
  cases b <;> cases hb
  · exact .orT (.isN h)
  · exact .orF (.isN h) (.ge h' h)
theorem bnd_ge2 {ρ : En} {G : Gm} {da db : DE} {b : D} {l : Option Int} {i : Int} (hb : bndD b = some l) (h : Ev da ρ G b) (h' : Ev db ρ G (.int i)) : Ev (dOrV (dIsN da) (dOp (fInt gGe) da db)) ρ G (.bl (geO l i)) := by
  cases b <;> cases hb
  · exact .orT (.isN h)
  · exact .orF (.isN h) (.ge h h')
theorem is_within_ok (xs : List D) (G : Gm) (R : KD) (RX : XD) (h : sp_is_within xs G R RX) : withinR { nx := fun _ G => R .non G, rt := R } (xs.map some ++ List.replicate (3 - xs.length) none) G := by
  obtain ⟨x, a, b, l, m, rfl, hk, ha, hb, h⟩ := h
  refine ds_if (.not (.tst (.isInteger (.var rfl) hk))) ?_
  by_cases hx : isIntD x = true
  · cases x <;> cases hx
    rename_i i
    exact (Ev.and2 (bnd_le ha (.var rfl) (.var rfl)) fun _ => bnd_ge hb (.var rfl) (.var rfl)) _ h
  · rw [if_pos (by simpa using hx)]
    refine ds_ret .c ?_
    have e : withinD x l m = false := by cases x <;> first | rfl | exact absurd rfl hx
    rw [e] at h
    exact h
theorem is_list_ok (xs : List D) (G : Gm) (R : KD) (RX : XD) (h : sp_is_list xs G R RX) : dRet (dIsiT ["list", "tuple"] (dVar 0)) { nx := fun _ G => R .non G, rt := R } (xs.map some ++ List.replicate (1 - xs.length) none) G := by
  obtain ⟨x, rfl, hk, h⟩ := h
  obtain ⟨t, ht⟩ := kn_tyn hk
  refine ((Ev.isiT (.var rfl) ht).cast ?_) _ h
  cases x <;> cases ht <;> first | rfl | cases hk
theorem num_cases {x : D} (h : numD x = true) : (∃ i, x = .int i) ∨ ∃ a b : Int, (x = .tup [.int a, .int b] ∨ x = .lst [.int a, .int b]) ∧ 2 ≤ b ∧ Int.gcd a b = 1 := by
  have key : ∀ xs, ratD (pairD xs) = true → ∃ a b : Int, xs = [.int a, .int b] ∧ 2 ≤ b ∧ Int.gcd a b = 1 := fun xs h => by
    unfold pairD at h
    split at h
    · rename_i a b
      have h2 : (decide (2 ≤ b) && decide (Int.gcd a b = 1)) = true := h
      rw [Bool.and_eq_true, decide_eq_true_eq, decide_eq_true_eq] at h2
      exact ⟨a, b, rfl, h2⟩
    · cases h
  cases x with
  | int i => exact .inl ⟨i, rfl⟩
  | tup xs =>
    obtain ⟨a, b, rfl, h2⟩ := key xs h
    exact .inr ⟨a, b, .inl rfl, h2⟩
  | lst xs =>
    obtain ⟨a, b, rfl, h2⟩ := key xs h
    exact .inr ⟨a, b, .inr rfl, h2⟩
  | _ => cases h
def halvesR : DS := (dRet (dIf (dTst (dCall sp_is_integer X0 (dCons (dVar 0) dNil))) (dTup (dCons (dVar 0) (dCons (dC (.int 1)) dNil))) (dTup (dCons (dIx (dVar 0) (dC (.int 0))) (dCons (dIx (dVar 0) (dC (.int 1))) dNil)))))
theorem halves_ok (xs : List D) (G : Gm) (R : KD) (RX : XD) (h : sp_halves xs G R RX) : halvesR { nx := fun _ G => R .non G, rt := R } (xs.map some ++ List.replicate (1 - xs.length) none) G := by
  obtain ⟨x, rfl, hk, h⟩ := h
  rcases num_cases hk with ⟨i, rfl⟩ | ⟨a, b, hx, _⟩
  · exact (Ev.ifT ((EvT.tst (.isInteger (.var rfl) rfl)).cast rfl) (.tup (.cons (.var rfl) (.one .c)) (show 2 ≤ sizeLine by decide))) _ h
  · rcases hx with rfl | rfl
    · exact (Ev.ifF ((EvT.tst (.isInteger (.var rfl) rfl)).cast rfl) (.tup (.cons (.at (.var rfl) .c seq_tup rfl) (.one (.at (.var rfl) .c seq_tup rfl))) (show 2 ≤ sizeLine by decide))) _ h
    · exact (Ev.ifF ((EvT.tst (.isInteger (.var rfl) rfl)).cast rfl) (.tup (.cons (.at (.var rfl) .c seq_lst rfl) (.one (.at (.var rfl) .c seq_lst rfl))) (show 2 ≤ sizeLine by decide))) _ h
/-- Euclid's loop over the names i, j -/
theorem while_gcd {i j : Nat} (hij : i ≠ j) {da : DE} (hda : ∀ (ρ : En) (G : Gm) (p : Int), ρ[i]? = some (some (.int p)) → Ev da ρ G (.int p)) {E : DEnds} {ρ : En} {G : Gm} {p q : Nat} (h1 : ρ[i]? = some (some (.int p))) (h2 : ρ[j]? = some (some (.int q)))
    (k : ∀ ρ', ρ'[i]? = some (some (.int (Nat.gcd p q))) → E.nx ρ' G) : dWhile (dTst (dOp (fInt gGt) (dVar j) (dC (.int 0)))) (dPar i j (dCons (dVar j) (dCons (dOp (fIntC (fun _ j => 0 < j) fun i j => .int (i % j)) da (dVar j)) dNil))) E ρ G := by
  refine ⟨fun m ρ' G' => G' = G ∧ ∃ p' : Nat, ρ'[i]? = some (some (.int p')) ∧ ρ'[j]? = some (some (.int m)) ∧ Nat.gcd p' m = Nat.gcd p q, ⟨q, rfl, p, h1, h2, rfl⟩, ?_⟩
  rintro m ρ' G' ⟨rfl, p', r1, r2, e⟩
  refine (EvT.tst (.gt (.var r2) .c)) _ ?_
  by_cases h0 : 0 < m
  · rw [if_pos (by simpa using h0)]
    refine ds_par (.var r2) (.mod (hda _ _ _ r1) (.var r2) (by omega)) ?_
    refine ⟨p' % m, Nat.mod_lt _ h0, rfl, m, ?_, ?_, ?_⟩
    · rw [List.getElem?_set_ne (fun z => hij z.symm)]
      exact List.getElem?_set_self (by
        by_cases z : i < ρ'.length
        · exact z
        · rw [List.getElem?_eq_none (by omega)] at r1
          cases r1)
    · rw [List.getElem?_set_self (by
        rw [List.length_set]
        by_cases z : j < ρ'.length
        · exact z
        · rw [List.getElem?_eq_none (by omega)] at r2
          cases r2)]
      rfl
    · rw [← e, Nat.gcd_comm p' m, Nat.gcd_rec m p', Nat.gcd_comm]
  · rw [if_neg (by simpa using h0)]
    have m0 : m = 0 := by omega
    subst m0
    refine k ρ' ?_
    rw [← e, Nat.gcd_zero_right]
    exact r1
def commonR : DS := (dSeq (dPar 0 1 (dCons (dCal fAbs (dCons (dVar 0) dNil)) (dCons (dCal fAbs (dCons (dVar 1) dNil)) dNil))) (dSeq (dWhile (dTst (dOp (fInt gGt) (dVar 1) (dC (.int 0)))) (dPar 0 1 (dCons (dVar 1) (dCons (dOp (fIntC (fun _ j => 0 < j) fun i j => .int (i % j)) (dVar 0) (dVar 1)) dNil)))) (dRet (dVar 0))))
theorem common_ok (xs : List D) (G : Gm) (R : KD) (RX : XD) (h : sp_common xs G R RX) : commonR { nx := fun _ G => R .non G, rt := R } (xs.map some ++ List.replicate (2 - xs.length) none) G := by
  obtain ⟨i, j, rfl, h⟩ := h
  refine ds_par (.absN (.var rfl)) (.absN (.var rfl)) ?_
  refine while_gcd (by decide) (fun ρ G p h => .var h) rfl rfl fun ρ' h1 => ?_
  exact ds_ret (.var h1) h
def numberR : DS := (dSeq (dIfS (dNot (dTst (dCall sp_is_list X0 (dCons (dVar 0) dNil)))) (dRet (dCall sp_is_integer X0 (dCons (dVar 0) dNil))) dNext) (dSeq (dIfS (dOr (dTst (dOp fNe (dCal fLen (dCons (dVar 0) dNil)) (dC (.int 2)))) (dOr (dNot (dTst (dCall sp_is_integer X0 (dCons (dIx (dVar 0) (dC (.int 0))) dNil)))) (dNot (dTst (dCall sp_is_within X0 (dCons (dIx (dVar 0) (dC (.int 1))) (dCons (dC (.int 2)) (dCons (dC .non) dNil)))))))) (dRet (dC (.bl false))) dNext) (dRet (dOp fEq (dCall sp_common X0 (dCons (dIx (dVar 0) (dC (.int 0))) (dCons (dIx (dVar 0) (dC (.int 1))) dNil))) (dC (.int 1))))))
/-- the two laws of the odd: not two; not ints -/
theorem rat_long {xs : List D} (h : xs.length ≠ 2) : pairD xs = none := by
  match xs, h with
  | [], _ => rfl
  | [a], _ => exact pair_1 a
  | [a, b], h => exact absurd rfl h
  | a :: b :: c :: r, _ => exact pair_3 a b c r
theorem knL_two {a b : D} (h : D.knL [a, b] = true) : a.kn = true ∧ b.kn = true := by
  simp only [D.knL, Bool.and_eq_true, and_true] at h
  exact h
theorem seq_kn {x : D} {ds : List D} (hx : x = .tup ds ∨ x = .lst ds) (hk : x.kn = true) : D.knL ds = true := by
  rcases hx with rfl | rfl
  · exact hk
  · exact hk
theorem seq_at {G : Gm} {x : D} {ds : List D} (hx : x = .tup ds ∨ x = .lst ds) : SeqAt G x ds := by
  rcases hx with rfl | rfl
  · exact seq_tup
  · exact seq_lst
theorem num_seq {x : D} {ds : List D} (hx : x = .tup ds ∨ x = .lst ds) : numD x = ratD (pairD ds) := by
  rcases hx with rfl | rfl <;> rfl
theorem is_number_ok (xs : List D) (G : Gm) (R : KD) (RX : XD) (h : sp_is_number xs G R RX) : numberR { nx := fun _ G => R .non G, rt := R } (xs.map some ++ List.replicate (1 - xs.length) none) G := by
  obtain ⟨x, rfl, hk, h⟩ := h
  refine ds_if (.not (.tst (.isList (.var rfl) hk))) ?_
  by_cases hx : isSeqD x = true
  · have hx2 : ∃ ds, x = .tup ds ∨ x = .lst ds := by cases x <;> first | exact ⟨_, .inl rfl⟩ | exact ⟨_, .inr rfl⟩ | cases hx
    obtain ⟨ds, hx2⟩ := hx2
    have hs : SeqAt G x ds := seq_at hx2
    have hd := seq_kn hx2 hk
    rw [num_seq hx2] at h
    rw [if_neg (by rw [hx]; decide)]
    by_cases h2 : ds.length = 2
    · match ds, h2 with
      | [a, b], h2 =>
        obtain ⟨ka, kb⟩ := knL_two hd
        by_cases ia : isIntD a = true
        · cases a <;> cases ia
          rename_i i
          by_cases ib : withinD b (some 2) none = true
          · cases b <;> first | cases ib | skip
            rename_i j
            refine ds_if (.orF ((EvT.tst (.neI (.len (.var rfl) hs) .c)).cast rfl) (.orF ((EvT.not (.tst (.isInteger (.at (.var rfl) .c hs rfl) ka))).cast rfl) ((EvT.not (.tst (.isWithin (.at (.var rfl) .c hs rfl) .c .c kb rfl rfl))).cast (by rw [ib])))) ?_
            refine ds_ret ((Ev.eqI (.common (.at (.var rfl) .c hs rfl) (.at (.var rfl) .c hs rfl)) .c).cast ?_) h
            have ib2 : (decide (2 ≤ j) && true) = true := ib
            rw [Bool.and_true] at ib2
            show D.bl _ = D.bl (decide (2 ≤ j) && decide (Int.gcd i j = 1))
            rw [ib2, Bool.true_and]
            congr 1
            exact decide_eq_decide.mpr (by omega)
          · refine ds_if (.orF ((EvT.tst (.neI (.len (.var rfl) hs) .c)).cast rfl) (.orF ((EvT.not (.tst (.isInteger (.at (.var rfl) .c hs rfl) ka))).cast rfl) ((EvT.not (.tst (.isWithin (.at (.var rfl) .c hs rfl) .c .c kb rfl rfl))).cast (k := true) (by simpa using ib)))) ?_
            refine ds_ret .c ?_
            have e : ratD (pairD [.int i, b]) = false := by
              cases b <;> first | rfl | skip
              rename_i j
              have ib2 : ¬ (decide (2 ≤ j) && true) = true := ib
              rw [Bool.and_true] at ib2
              show (decide (2 ≤ j) && _) = false
              rw [Bool.eq_false_iff.mpr ib2, Bool.false_and]
            rw [e] at h
            exact h
        · refine ds_if (.orF ((EvT.tst (.neI (.len (.var rfl) hs) .c)).cast rfl) (.orT ((EvT.not (.tst (.isInteger (.at (.var rfl) .c hs rfl) ka))).cast (by simpa using ia)))) ?_
          refine ds_ret .c ?_
          rw [pair_2a a b (by simpa using ia)] at h
          exact h
    · refine ds_if (.orT ((EvT.tst (.neI (.len (.var rfl) hs) .c)).cast ?_)) ?_
      · rw [Bool.not_eq_true', decide_eq_false_iff_not]
        omega
      · refine ds_ret .c ?_
        rw [rat_long h2] at h
        exact h
  · rw [if_pos (by simpa using hx)]
    refine ds_ret (.isInteger (.var rfl) hk) ?_
    have e : numD x = isIntD x := by cases x <;> first | rfl | exact absurd rfl hx
    rw [e] at h
    exact h
def smallR : DS := (dSeq (dIfS (dNot (dTst (dCall sp_is_number X0 (dCons (dVar 0) dNil)))) (dRet (dC (.bl false))) dNext) (dSeq (dAsg (dCall sp_halves X0 (dCons (dVar 0) dNil)) (gSeq 2 (gCons (gN 1) (gCons (gN 2) gNil)))) (dRet (dAndV (dOp (fInt gLe) (dCal fAbs (dCons (dVar 1) dNil)) (dC (.int 1000000))) (dOp (fInt gLe) (dVar 2) (dC (.int 1000)))))))
theorem half_cases {x : D} (h : numD x = true) : ∃ a b : Int, halfD x = (.int a, .int b) := by
  rcases num_cases h with ⟨i, rfl⟩ | ⟨a, b, hx, _⟩
  · exact ⟨i, 1, rfl⟩
  · rcases hx with rfl | rfl <;> exact ⟨a, b, rfl⟩
theorem is_small_ok (xs : List D) (G : Gm) (R : KD) (RX : XD) (h : sp_is_small xs G R RX) : smallR { nx := fun _ G => R .non G, rt := R } (xs.map some ++ List.replicate (3 - xs.length) none) G := by
  obtain ⟨x, rfl, hk, h⟩ := h
  refine ds_if (.not (.tst (.isNumber (.var rfl) hk))) ?_
  by_cases hx : numD x = true
  · rw [if_neg (by rw [hx]; decide)]
    obtain ⟨a, b, e⟩ := half_cases hx
    refine (Ev.halves (.var rfl) hx) _ ⟨_, seq_tup, rfl, _, _, rfl, _, _, rfl, rfl, ?_⟩
    rw [e]
    refine ds_ret (.and2 (.le (.absN (.var rfl)) .c) fun _ => .le (.var rfl) .c) ?_
    unfold smallD at h
    rw [hx, e, Bool.true_and] at h
    exact h
  · rw [if_pos (by simpa using hx)]
    refine ds_ret .c ?_
    unfold smallD at h
    rw [Bool.eq_false_iff.mpr hx, Bool.false_and] at h
    exact h
end DL

/-! DL13: the law's end. -/
namespace DL
open PySem PySem.Spec PyProof.Rows L2 Evl
variable [TabC]

/-- a def of the top, as the head tells it -/
structure Df (K : PySem.W.Frag) (mg : Str → Option Value) (x : Str) (st : Stmt) : Prop where
  g : mg x = some (.ref (He.ga K x))
  f : ∃ fd, FunD K x x (defArgs st) (defBody st) (defScope st) [] [] (He.ga K x) fd
theorem fund_one {K : PySem.W.Frag} {x qual : Str} {params : Arguments} {body : List Stmt} {scope : Scope} {dvs : List V} {kws : List (Str × V)} {f : Addr} {fd fd' : FuncData} (F : FunD K x qual params body scope dvs kws f fd) (F' : FunD K x qual params body scope dvs kws f fd') : fd = fd' := by
  obtain ⟨oc, od, dV, kV, doc, pm, an, cdv, ct, osl, _, lk, _⟩ := F.ex
  obtain ⟨oc', od', dV', kV', doc', pm', an', cdv', ct', osl', _, lk', _⟩ := F'.ex
  have e := lk.symm.trans lk'
  injection e with e
  injection e with _ _ e _
  injection e
/-- the tables of the defs that make lambdas, at the head's heap -/
structure TabF (K : PySem.W.Frag) (h : Heap) : Prop where
  ok : TabOk K
  empty : ∀ n ∈ TabC.tf, h.get? (He.cT K (n, none)).2 = some (tabO #[])
  out : ∀ n ∈ TabC.tf, K.lookup (He.cT K (n, none)).2 = none
  hd : ∀ n ∈ TabC.tf, PySem.W.CodeHd h (He.cT K (n, none)).1 (He.cT K (n, none)).2
/-- .. at a call's ground -/
def TabsB (K : PySem.W.Frag) (base : Heap) (mg : Str → Option Value) : Prop := ∀ n ∈ TabC.tf, LamX.TabB base mg (He.cT K (n, none)).1 (He.cT K (n, none)).2
theorem tabF_nil {K : PySem.W.Frag} {h : Heap} (e : TabC.tf = []) : TabF K h := by
  have no : ∀ n : Str, n ∉ TabC.tf := fun n z => by
    rw [e] at z
    exact nomatch z
  refine ⟨fun p hp => ?_, fun n z => (no n z).elim, fun n z => (no n z).elim, fun n z => (no n z).elim⟩
  obtain ⟨n, hn, _⟩ := List.mem_map.mp hp
  exact (no n hn).elim
theorem law_of {P : Program} {w : World} {K : PySem.W.Frag} {mg : Str → Option Value} {fa : Addr} {st : Stmt} {y : Str} {k : Nat} {h : Heap} (hm : mg ("law" : Str) = some (.ref fa)) (F : Df K mg "law" st) (T : TabF K h)
    (hb : ∀ (kV doc pm : Value) (an : Option Addr) (cdv ct : Value) (us : List Value), us.length = [y].length → bindArgs (PySem.W.fnOf "law" "law" (defArgs st) (defBody st) (defScope st) .none kV doc pm an cdv ct) ⟨us, []⟩ = pure ([y].zip us))
    (kn : ∀ base : Heap, TabsB K base mg → Kn P w K mg base k "law" st [y] lawSp) : ∃ (fd : FuncData) (sp : Sp) (ct : List (Addr × Addr)), (∀ q ∈ ct, h.get? q.2 = some (tabO #[])) ∧ (∀ q ∈ ct, K.lookup q.2 = none) ∧ (∀ q ∈ ct, PySem.W.CodeHd h q.1 q.2) ∧ (∀ (s : Shared) (u : Value), BindsTo s fd ⟨[u], []⟩ [(y, u)]) ∧
      (∀ (Hd H : Hp) (a : Addr) (ns : List Int), ns.length ≤ 63 → Ex Hd H → (∀ q ∈ ct, H q.2 = some (.tbl #[]) ∧ Hd q.2 = none) → SqL K Hd a (ns.map V.int) → sp [.ref a] H (fun v _ => v = .bl true) fun _ _ _ => False) ∧
      ∀ base : Heap, K.In base → base.Ns mainGlobals mg → (∀ q ∈ ct, LamX.TabB base mg q.1 q.2) → FnG P w K mg base k fa fd [y] sp := by
  obtain ⟨fd, FD⟩ := F.f
  have e := hm.symm.trans F.g
  cases e
  have of : ∀ {q : Addr × Addr}, q ∈ (TabC.tf.map fun n => He.cT K (n, none)) → ∃ n ∈ TabC.tf, He.cT K (n, none) = q := fun hq => List.mem_map.mp hq
  refine ⟨fd, spU K lawSp, TabC.tf.map fun n => He.cT K (n, none), fun q hq => ?_, fun q hq => ?_, fun q hq => ?_, fun s u => FunD.bindsA (ps := [y]) FD hb s [u] rfl, fun Hd H a ns hl ee ht hS => law_sp hl T.ok ee (fun p hp => ?_) hS, fun base _ _ ht => ?_⟩
  · obtain ⟨n, hn, rfl⟩ := of hq
    exact T.empty n hn
  · obtain ⟨n, hn, rfl⟩ := of hq
    exact T.out n hn
  · obtain ⟨n, hn, rfl⟩ := of hq
    exact T.hd n hn
  · obtain ⟨n, hn, rfl⟩ := List.mem_map.mp hp
    exact ht (He.cT K (n, none)) (List.mem_map_of_mem hn)
  · obtain ⟨fd', FD', G⟩ := (kn base fun n hn => ht _ (List.mem_map_of_mem hn)).fn
    rw [fund_one FD FD']
    exact G
end DL

/-! DL14: defaults; zip; a list turned; three names at once; a comprehension in a comprehension. -/
namespace DL
open PySem PySem.Spec PyProof.Rows L2 Evl
variable [TabC]

/-! ### a def with defaults -/
structure DfD (K : PySem.W.Frag) (mg : Str → Option Value) (x : Str) (st : Stmt) (dvs : List V) : Prop where
  g : mg x = some (.ref (He.ga K x))
  f : ∃ fd, FunD K x x (defArgs st) (defBody st) (defScope st) dvs [] (He.ga K x) fd
structure KnD (P : Program) (w : World) (K : PySem.W.Frag) (mg : Str → Option Value) (base : Heap) (k : Nat) (x : Str) (st : Stmt) (ps : List Str) (dvs : List V) (p : DSp) : Prop where
  g : mg x = some (.ref (He.ga K x))
  fn : ∃ fd, FunD K x x (defArgs st) (defBody st) (defScope st) dvs [] (He.ga K x) fd ∧ FnG P w K mg base k (He.ga K x) fd ps (spU K p)
section
variable {P : Program} {w : World} {K : PySem.W.Frag} {mg : Str → Option Value} {base : Heap}
theorem knd_of {x : Str} {st : Stmt} {N ps : List Str} {dvs : List V} {k : Nat} {p : DSp} (g : mg x = some (.ref (He.ga K x))) (F : ∃ fd, FunD K x x (defArgs st) (defBody st) (defScope st) dvs [] (He.ga K x) fd) (S : FnScope N ps (defScope st)) (len : ∀ xs G R RX, p xs G R RX → xs.length = ps.length)
    (hbody : ∀ (cdv : Value), cdv = .ref (cdAt K (He.ga K x)) → ∀ (A : Around) (outer : List Env) (s : Shared) (H : Hp) (E : XK) (B : Bs) (RX : XD), Room k (A.deeper (envOfC x (defScope st) s.heap.objs.size (He.ga K x) cdv)) → (A.deeper (envOfC x (defScope st) s.heap.objs.size (He.ga K x) cdv)).guards = some [] → KX K B.f B.b RX E →
      ∃ t : DS, PSs (cxOf (L2.CX P w) P w K mg base N x (defScope st) (He.ga K x) cdv A outer s H E) (defBody st) (upS K B t) ∧ ∀ xs G R, p xs G R RX → t { nx := fun _ G => R .non G, rt := R } (xs.map some ++ List.replicate (N.length - xs.length) none) G) :
    KnD P w K mg base (k + 1) x st ps dvs p := by
  obtain ⟨fd, F⟩ := F
  refine ⟨g, fd, F, fng_of F S (fun vs H Q E h => ?_) fun cdv hcv A outer s H vs Q E hr hg h => ?_⟩
  · obtain ⟨xs, _, _, G, R, RX, r, _, hp, _⟩ := h
    rw [r.length]
    exact len xs G R RX hp
  · obtain ⟨xs, F, Hd, G, R, RX, r, sm, hp, ke, kx⟩ := h
    obtain ⟨t, ht, h2⟩ := hbody cdv hcv A outer s H E ⟨Hd, F⟩ RX hr hg kx
    exact ⟨_, ht, _, Hd, G, _, ⟨Ex.refl _, RpE.start r, sm⟩, h2 xs G R hp, fun σ' H' Hd' ρ' G' e _ s h => ke .non H' Hd' .non G' e s .non h, ke, fun _ _ _ _ _ _ _ _ h => h.elim, fun _ _ _ _ _ _ _ _ h => h.elim⟩
end
section
variable {X : Cx} {B : Bs} {pos p : Pos} {a b c e : Expr} {es : List Expr} {da db dc de : DE} {dA : DA}
/-- a promise at a call, the defaults ds behind what is written -/
def dCallD (q : DSp) (ds : List D) (RX : XD) (dA : DA) : DE := fun ρ G R => dA ρ G fun xs G1 => q (xs ++ ds) G1 R RX
theorem pe_callGD {k : Nat} {f : Addr} {fd : FuncData} {ps : List Str} {dvs : List V} {dus : List Value} {sp : Sp} {E : XK} {x : Str} {t : TA} (F : FnG X.prog X.w X.K X.mg X.base k f fd ps sp) (hr : Room k X.A) (hgd : X.A.guards = some []) (hg : Gl X x) (hm : X.mg x = some (.ref f)) (hk : PySem.W.keepIn X.K (.ref f) = true) (hb : Binds X.K fd ps dus) (hv : Vals dvs dus)
    (hx : Passes (L2.CX X.prog X.w) X E) (ha : PA X (e :: es) t) (hdb : (x == ("__debug__" : Str)) = false := by decide) (he : starEach (e :: es) X.env = (false, eval e X.env) :: starEach es X.env := by rfl) (hpl : (backTo pos (starEach es X.env)).any (·.1) = false := by rfl) :
    PE X (.Call (.Name x p) (e :: es) [] pos) (tCall sp dvs E t) := ⟨fun pins s σ H Q I h => by
  refine wpAny_Call_Name_kw (ld_glob I hg hm (PySem.W.callWith_K (h₀ := X.base) I.ok.mod.kin hk (thn (ha.run pos pins s σ H _ I h) fun us s1 hh => ?_) he hpl) hdb)
  obtain ⟨vs, H1, I1, r, q⟩ := hh
  have hl : (us ++ dus).length = ps.length := by
    rw [← F.len _ _ _ _ q, List.length_append, List.length_append, r.length, hv.length]
  have hb1 := hb s1 us I1.kIn hl
  refine ⟨I1.kIn, wpAny_call (codeAny_mono (run_fng F hr hgd hx I1 hb1 (r.append hv) q) fun r s2 hq => ?_)⟩
  cases r with
  | error e => exact hq
  | ok fl => cases fl <;> first | exact hq | exact hq.elim⟩
theorem pd_callD {k n j : Nat} {x : Str} {st : Stmt} {ps : List Str} {dvs : List V} {ds : List D} {q : DSp} {RX : XD} {E : XK} (h : KnD X.prog X.w X.K X.mg X.base k x st ps dvs q) (hd : dvs ≠ []) (hr : Room k X.A) (hgd : X.A.guards = some []) (hg : Gl X x) (hx : Passes (L2.CX X.prog X.w) X E) (kx : ∀ Hd, Ex B.b Hd → KX X.K B.f Hd RX E)
    (hn : n + (dvs.length - j) = ps.length) (hds : ∀ Hd, RpL X.K Hd (dvs.drop j) ds)
    (hb : ∀ (T : Addr) (kV doc pm : Value) (an : Option Addr) (cdv ct : Value) (us its : List Value), us.length = n → its.length = dvs.length →
      ∃ k, bindArgs (PySem.W.fnOf x x (defArgs st) (defBody st) (defScope st) (.ref T) kV doc pm an cdv ct) ⟨us, []⟩ = seqItems? (.ref T) >>= k ∧ k (some its.toArray) = pure (ps.zip (us ++ its.drop j)))
    (ha : PA X (e :: es) (upA X.K B dA)) (hdb : (x == ("__debug__" : Str)) = false := by decide) (he : starEach (e :: es) X.env = (false, eval e X.env) :: starEach es X.env := by rfl) (hpl : (backTo pos (starEach es X.env)).any (·.1) = false := by rfl) :
    PE X (.Call (.Name x p) (e :: es) [] pos) (upE X.K B (dCallD q ds RX dA)) := by
  obtain ⟨fd, F, G⟩ := h.fn
  obtain ⟨dus, hv, hbn⟩ := F.binds1 n j hd hn hb
  refine pe_imp (pe_callGD G hr hgd hg h.g F.kp hbn hv hx ha hdb he hpl) fun σ H Q ⟨ρ, Hd, G, R, at_, h, k⟩ => ?_
  exact ⟨ρ, Hd, G, _, at_, h, fun vs H1 Hd1 xs G1 e1 s1 r1 h1 => ⟨xs ++ ds, B.f, Hd1, G1, R, RX, r1.app (hds Hd1), s1, h1, k.mono e1, kx Hd1 (at_.b.trans e1)⟩⟩

/-! ### three names at once -/
def dPar3 (i j l : Nat) (dA : DA) : DS := fun E ρ G => dA ρ G fun xs G1 => ∃ x y z, xs = [x, y, z] ∧ E.nx (((ρ.set i (some x)).set j (some y)).set l (some z)) G1
theorem psd_par3 {i j l : Nat} {x y z : Str} {px py pz pt : Pos} {kt k2 : Nat} {pt2 : Pos} (hc : X.calm = true) (hN : X.N.Nodup) (hi : X.N[i]? = some x) (hj : X.N[j]? = some y) (hl : X.N[l]? = some z) (hij : i ≠ j) (hil : i ≠ l) (hjl : j ≠ l)
    (hx : X.env.scope.names.lookup x = some .local) (hy : X.env.scope.names.lookup y = some .local) (hz : X.env.scope.names.lookup z = some .local) (ha : PA X [a, b, c] (upA X.K B dA))
    (hw : swappedStores [.Tuple [.Name x px, .Name y py, .Name z pz] kt pt] (.Tuple [a, b, c] k2 pt2) X.env = pure (some [x, y, z])) (hs : swapsWithSole [.Tuple [.Name x px, .Name y py, .Name z pz] kt pt] (.Tuple [a, b, c] k2 pt2) pos.line X.env = pure false := by rfl) :
    PS X (.Assign [.Tuple [.Name x px, .Name y py, .Name z pz] kt pt] (.Tuple [a, b, c] k2 pt2) pos) (upS X.K B (dPar3 i j l dA)) := ps_imp (ps_par3 hc hN hi hj hl hij hil hjl hx hy hz ha hw hs) fun D σ H ⟨ρ, Hd, G, E, at_, h, k⟩ =>
  ⟨ρ, Hd, G, _, at_, h, fun vs H1 Hd1 xs G1 e1 s1 r1 ⟨x, y, z, ex, h1⟩ => by
    subst ex
    cases r1 with
    | cons rv r1 =>
      obtain ⟨u, w, rfl, ru, rw_⟩ := rpl2 r1
      exact ⟨_, u, w, rfl, k.nx _ H1 Hd1 _ G1 e1 ((((at_.e.mono e1).set i rv).set j ru).set l rw_) s1 h1⟩⟩

/-! ### xs[::-1] of a list -/
def dRev (da : DE) : DE := fun ρ G R => da ρ G fun x G1 => ∃ ds, LstAt G1 x ds ∧ R (.lst ds.reverse) G1
theorem RpL.rev {K : PySem.W.Frag} {H : Hp} {vs : List V} {ds : List D} (r : RpL K H vs ds) : RpL K H vs.reverse ds.reverse := by
  induction vs generalizing ds with
  | nil =>
    cases r
    exact .nil
  | cons v vs ih =>
    cases r with
    | cons a b =>
      rw [List.reverse_cons, List.reverse_cons]
      exact (ih b).app (.cons a .nil)
theorem pd_rev {k : Nat} {p1 p2 p3 : Pos} (he : PE X e (upE X.K B de)) : PE X (.Subscript e (.Slice none none (some (.UnaryOp .USub (.Constant (.int 1) k p1) p2)) p3) pos) (upE X.K B (dRev de)) := pe_imp (pe_revL he) fun σ H Q ⟨ρ, Hd, G, R, at_, h, k⟩ =>
  ⟨ρ, Hd, G, _, at_, h, fun v H1 Hd1 x G1 e1 s1 r1 ⟨ds, hl, h1⟩ => by
    obtain ⟨q, ys, rfl, hq, r3⟩ := hl.sq s1 r1
    exact ⟨q, ys, rfl, hq, fun pp hp => k _ _ _ _ G1 (e1.trans (s1.exn hp)) (s1.new hp) (.lst sq_new (r3.rev.mono (s1.exn hp))) h1⟩⟩

/-! ### zip of two lists, of two tuples, that never change -/
def zipD (xs ys : List D) : List D := List.zipWith (fun x y => D.tup [x, y]) xs ys
def dIZip (dA : DA) : DI := fun ρ G S => dA ρ G fun vs G1 => ∃ xs ys, (vs = [.lst xs, .lst ys] ∨ vs = [.tup xs, .tup ys]) ∧ S (zipD xs ys) G1
theorem zip_at {xs ys : List D} {i : Nat} {d : D} (h : (zipD xs ys)[i]? = some d) : ∃ x y, xs[i]? = some x ∧ ys[i]? = some y ∧ d = .tup [x, y] := by
  unfold zipD at h
  rw [List.getElem?_zipWith] at h
  cases hx : xs[i]? with
  | none =>
    rw [hx] at h
    cases h
  | some x =>
    cases hy : ys[i]? with
    | none =>
      rw [hx, hy] at h
      cases h
    | some y =>
      rw [hx, hy] at h
      exact ⟨x, y, rfl, rfl, (Option.some.inj h).symm⟩
theorem walks_zipL {K : PySem.W.Frag} {Hd : Hp} {q r : Addr} {us vs : List V} {xs ys : List D} (h : SqL K Hd q us) (h' : SqL K Hd r vs) (hr : RpL K Hd us xs) (hr' : RpL K Hd vs ys) : Walks K Hd (Itz K q r) (zipD xs ys) := fun F i H2 Hd2 G2 e s => by
  have hH : SqL K H2 q us := ex_l (e.trans s.sub) h
  have hH' : SqL K H2 r vs := ex_l (e.trans s.sub) h'
  refine ⟨fun d hd => ?_, fun hl => ⟨us, vs, hH, hH', ?_⟩⟩
  · obtain ⟨x, y, hx, hy, rfl⟩ := zip_at hd
    obtain ⟨v, hv, rv⟩ := hr.at hx
    obtain ⟨u, hu, ru⟩ := hr'.at hy
    refine ⟨⟨us, vs, v, u, hH, hH', hv, hu⟩, fun w H3 ⟨T, v', u', ew, hT, eH, h1, h2⟩ => ?_⟩
    subst ew eH
    cases Option.some.inj (hv.symm.trans (h1 us hH))
    cases Option.some.inj (hu.symm.trans (h2 vs hH'))
    exact ⟨_, s.exn hT, s.new hT, .tup st_new (.cons ((rv.mono e).mono (s.exn hT)) (.cons ((ru.mono e).mono (s.exn hT)) .nil))⟩
  · unfold zipD at hl
    rw [List.length_zipWith] at hl
    have := hr.length
    have := hr'.length
    omega
theorem walks_zipT {K : PySem.W.Frag} {Hd : Hp} {q r : Addr} {us vs : List V} {xs ys : List D} (h : SqT K Hd q us) (h' : SqT K Hd r vs) (hr : RpL K Hd us xs) (hr' : RpL K Hd vs ys) : Walks K Hd (RZ.ItzT K q r) (zipD xs ys) := fun F i H2 Hd2 G2 e s => by
  have hH : SqT K H2 q us := ex_t (e.trans s.sub) h
  have hH' : SqT K H2 r vs := ex_t (e.trans s.sub) h'
  refine ⟨fun d hd => ?_, fun hl => ⟨us, vs, hH, hH', ?_⟩⟩
  · obtain ⟨x, y, hx, hy, rfl⟩ := zip_at hd
    obtain ⟨v, hv, rv⟩ := hr.at hx
    obtain ⟨u, hu, ru⟩ := hr'.at hy
    refine ⟨⟨us, vs, v, u, hH, hH', hv, hu⟩, fun w H3 ⟨T, v', u', ew, hT, eH, h1, h2⟩ => ?_⟩
    subst ew eH
    cases Option.some.inj (hv.symm.trans (h1 us hH))
    cases Option.some.inj (hu.symm.trans (h2 vs hH'))
    exact ⟨_, s.exn hT, s.new hT, .tup st_new (.cons ((rv.mono e).mono (s.exn hT)) (.cons ((ru.mono e).mono (s.exn hT)) .nil))⟩
  · unfold zipD at hl
    rw [List.length_zipWith] at hl
    have := hr.length
    have := hr'.length
    omega
theorem pid_zip {elts : List Expr} {kk : Nat} {tpos : Pos} (hg : Gl X "zip") (hm : X.mg "zip" = none) (ha : PA X [a, b] (upA X.K B dA)) (hs : starEach [a, b] X.env = (false, eval a X.env) :: starEach [b] X.env := by rfl) (hpl : (backTo pos (starEach [b] X.env)).any (·.1) = false := by rfl) :
    PI X (.Tuple elts kk tpos) (.Call (.Name "zip" p) [a, b] [] pos) (upI X.K B (dIZip dA)) := pi_imp (RZ.pi_zipA hg hm ha hs hpl) fun σ H R ⟨ρ, Hd, G, S, at_, h, k⟩ =>
  ⟨ρ, Hd, G, _, at_, h, fun vs H1 Hd1 xs G1 e1 s1 r1 ⟨l, m, hv, h1⟩ => by
    rcases hv with rfl | rfl
    · obtain ⟨v, u, rfl, rv, ru⟩ := rpl2 r1
      cases rv with
      | lst q r =>
        cases ru with
        | lst q' r' => exact ⟨_, _, _, _, rfl, .inl ⟨ex_l s1.sub q, ex_l s1.sub q', k _ H1 Hd1 _ G1 e1 s1 (walks_zipL q q' r r') h1⟩⟩
    · obtain ⟨v, u, rfl, rv, ru⟩ := rpl2 r1
      cases rv with
      | tup q r =>
        cases ru with
        | tup q' r' => exact ⟨_, _, _, _, rfl, .inr ⟨ex_t s1.sub q, ex_t s1.sub q', k _ H1 Hd1 _ G1 e1 s1 (walks_zipT q q' r r') h1⟩⟩⟩
end
end DL

/-! DL15: numbers as pairs, lowest terms; points; wholes, labels. -/
namespace DL
open PySem PySem.Spec PyProof.Rows L2 Evl
variable [TabC]

/-! ### a datum is like itself -/
theorem eqv_self {x : D} (h : x.lay = true) : D.eqv x x = true := by
  obtain ⟨p, e, h1, _⟩ := py_lay x h
  rw [eqv_of e e]
  exact SeqAt.eqv_refl p h1
theorem lay_ints (is : List Int) : D.layL (is.map D.int) = true := by
  induction is with
  | nil => rfl
  | cons i is ih => exact (Bool.true_and _).trans ih
theorem dp_ints (is : List Int) : D.dpL (is.map D.int) = 0 := by
  induction is with
  | nil => rfl
  | cons i is ih =>
    show max 0 (D.dpL (is.map D.int)) = 0
    rw [ih]
    rfl
theorem cmp_tup {is : List Int} : Cmp (.tup (is.map D.int)) := ⟨lay_ints is, by show D.dpL _ + 1 ≤ 60; rw [dp_ints]; decide⟩
theorem cmp_tups {iss : List (List Int)} : Cmp (.tup (iss.map fun is => .tup (is.map D.int))) := by
  have h : D.layL (iss.map fun is => D.tup (is.map D.int)) = true ∧ D.dpL (iss.map fun is => D.tup (is.map D.int)) ≤ 1 := by
    induction iss with
    | nil => exact ⟨rfl, Nat.zero_le _⟩
    | cons is iss ih =>
      refine ⟨?_, ?_⟩
      · show (D.layL (is.map D.int) && D.layL (iss.map fun is => D.tup (is.map D.int))) = true
        rw [lay_ints, ih.1]
        rfl
      · show max (D.dpL (is.map D.int) + 1) (D.dpL (iss.map fun is => D.tup (is.map D.int))) ≤ 1
        rw [dp_ints]
        have := ih.2
        omega
  exact ⟨h.1, by show D.dpL _ + 1 ≤ 60; have := h.2; omega⟩
section
variable {ρ : En} {G : Gm} {da db dc : DE} {x y z : D}
theorem feq_cmp (hx : Cmp x) (hy : Cmp y) (h : ∀ i, x ≠ .int i) (h2 : ∀ i, x ≠ .str i) (h3 : ∀ i, x ≠ .bl i) : fEq x y (.bl (D.eqv x y)) := by
  unfold fEq
  split
  · exact absurd rfl (h _)
  · exact absurd rfl (h2 _)
  · exact absurd rfl (h3 _)
  · exact ⟨hx, hy, rfl⟩
theorem fne_cmp (hx : Cmp x) (hy : Cmp y) (h : ∀ i, x ≠ .int i) (h2 : ∀ i, x ≠ .str i) (h3 : ∀ i, x ≠ .bl i) : fNe x y (.bl (!D.eqv x y)) := by
  unfold fNe
  split
  · exact absurd rfl (h _)
  · exact absurd rfl (h2 _)
  · exact absurd rfl (h3 _)
  · exact ⟨hx, hy, rfl⟩
/-- two like tuples -/
theorem Ev.eqT {xs : List D} (ha : Ev da ρ G (.tup xs)) (hb : Ev db ρ G (.tup xs)) (h : Cmp (.tup xs)) : Ev (dOp fEq da db) ρ G (.bl true) := .op ha hb (by
  have e := feq_cmp h h (fun _ z => nomatch z) (fun _ z => nomatch z) (fun _ z => nomatch z)
  rw [eqv_self h.lay] at e
  exact e)
theorem Ev.neT {xs : List D} (ha : Ev da ρ G (.tup xs)) (hb : Ev db ρ G (.tup xs)) (h : Cmp (.tup xs)) : Ev (dOp fNe da db) ρ G (.bl false) := .op ha hb (by
  have e := fne_cmp h h (fun _ z => nomatch z) (fun _ z => nomatch z) (fun _ z => nomatch z)
  rw [eqv_self h.lay] at e
  exact e)
theorem Ev.neSS {i : Str} (ha : Ev da ρ G (.str i)) (hb : Ev db ρ G (.str i)) : Ev (dOp fNe da db) ρ G (.bl false) := (Ev.neS ha hb).cast (by rw [decide_eq_true rfl]; rfl)
theorem Ev.eqSS {i : Str} (ha : Ev da ρ G (.str i)) (hb : Ev db ρ G (.str i)) : Ev (dOp fEq da db) ρ G (.bl true) := .op ha hb (by
  show D.bl true = .bl (decide (i = i))
  rw [decide_eq_true rfl])
/-- the list of f(x) -/
theorem Ev.lcSeq {i : Nat} {vs : List Nat} {xs : List D} (f : D → D) (ha : Ev da ρ G x) (hx : x = .lst xs ∨ x = .tup xs) (hf : ∀ y ∈ xs, Ev db ((wipeD ρ vs).set i (some y)) G (f y)) (hz : xs.length ≤ sizeLine) : Ev (dCmp (dISeq da) (gN i) dYes db vs) ρ G (.lst (xs.map f)) := fun R r =>
  ha _ ⟨xs, hx, cmpL_map f (fun y hy S' hS => hf y hy _ hS) (by rw [List.length_nil]; omega) (by rw [List.nil_append]; exact r)⟩
theorem Ev.lcRng {i : Nat} {vs : List Nat} {n : Nat} (f : Nat → D) (ha : Ev da ρ G (.int n)) (hf : ∀ j, j < n → Ev db ((wipeD ρ vs).set i (some (.int j))) G (f j)) (hz : n ≤ sizeLine) : Ev (dCmp (dIRng1 da) (gN i) dYes db vs) ρ G (.lst ((List.range n).map f)) := fun R r => by
  have hs := hz
  rw [sizeLine_eq] at hs
  refine ha _ ⟨n, rfl, by omega, by omega, ?_⟩
  refine cmpL_map (fun d => match d with | .int j => f j.toNat | _ => .non) (fun y hy S' hS => ?_) ?_ ?_
  · obtain ⟨j, hj, rfl⟩ := List.mem_map.mp hy
    have hj2 := List.mem_range.mp hj
    have e0 : (0 : Int) + (j : Nat) = (j : Nat) := Int.zero_add _
    rw [e0] at hS ⊢
    refine hf j (by omega) _ ?_
    exact hS
  · unfold rngD
    rw [List.length_map, List.length_range, List.length_nil]
    omega
  · have e : (rngD 0 (n : Int).toNat).map (fun d => match d with | .int j => f j.toNat | _ => .non) = (List.range n).map f := by
      unfold rngD
      rw [List.map_map]
      refine List.map_congr_left fun j _ => ?_
      show f ((0 : Int) + (j : Nat)).toNat = f j
      rw [Int.zero_add]
      rfl
    rw [e, List.nil_append]
    exact r
theorem Ev.tupOf {xs : List D} (ha : Ev da ρ G x) (h : SeqAt G x xs) : Ev (dCal fTupOf (dCons da dNil)) ρ G (.tup xs) := .cal (.one ha) ⟨x, xs, rfl, h, rfl⟩
theorem Ev.all {bs : List Bool} (ha : Ev da ρ G (.lst (bs.map D.bl))) : Ev (dCal fAll (dCons da dNil)) ρ G (.bl (bs.all id)) := .cal (.one ha) ⟨_, bs, rfl, lst_lst, rfl⟩
theorem Ev.callD {q : DSp} {ds xs : List D} {dA : DA} (ha : EvA dA ρ G xs) (h : ∀ R, R z G → q (xs ++ ds) G R X0) : Ev (dCallD q ds X0 dA) ρ G z := fun R r => ha _ (h R r)
theorem Ev.chosen {t : DT} {k : Bool} (ht : EvT t ρ G k) (h1 : k = true → Ev da ρ G z) (h2 : k = false → Ev db ρ G z) : Ev (dIf t da db) ρ G z := fun R r => ht _ (by
  cases k with
  | true => exact h1 rfl _ r
  | false => exact h2 rfl _ r)
theorem ds_asg {E : DEnds} {g : DG} (ha : Ev da ρ G x) (h : g x ρ G E.nx) : dAsg da g E ρ G := ha _ h
/-- a, b = x of two items, at the names i, j -/
theorem ds_asg2 {E : DEnds} {i j : Nat} {a b : D} (ha : Ev da ρ G x) (hs : SeqAt G x [a, b]) (h : E.nx ((ρ.set i (some a)).set j (some b)) G) : dAsg da (gSeq 2 (gCons (gN i) (gCons (gN j) gNil))) E ρ G :=
  ha _ ⟨_, hs, rfl, _, _, rfl, _, _, rfl, rfl, h⟩
theorem ds_drop {E : DEnds} (ha : Ev da ρ G x) (h : E.nx ρ G) : dDrop da E ρ G := ha _ h
theorem ds_par3 {E : DEnds} {i j l : Nat} (ha : Ev da ρ G x) (hb : Ev db ρ G y) (hc : Ev dc ρ G z) (h : E.nx (((ρ.set i (some x)).set j (some y)).set l (some z)) G) : dPar3 i j l (dCons da (dCons db (dCons dc dNil))) E ρ G := ha _ (hb _ (hc _ ⟨x, y, z, rfl, h⟩))
end

/-! ### numbers -/
/-- above, under -/
def numI (x : D) : Int × Int := match x with
  | .int i => (i, 1)
  | .tup xs => (pairD xs).getD (0, 1)
  | .lst xs => (pairD xs).getD (0, 1)
  | _ => (0, 1)
theorem num_half {x : D} (h : numD x = true) : halfD x = (.int (numI x).1, .int (numI x).2) ∧ 0 < (numI x).2 := by
  rcases num_cases h with ⟨i, rfl⟩ | ⟨a, b, hx, h2, _⟩
  · exact ⟨rfl, by show (0 : Int) < 1; decide⟩
  · rcases hx with rfl | rfl
    · exact ⟨rfl, by show 0 < b; omega⟩
    · exact ⟨rfl, by show 0 < b; omega⟩
/-- of no great size: below 2 ^ k -/
def Bn (k : Nat) (x : D) : Prop := (numI x).1.natAbs < 2 ^ k ∧ (numI x).2.natAbs < 2 ^ k
/-- a over u in lowest terms -/
def lowD (a u : Int) : D := if u / (Int.gcd a u : Int) = 1 then .int (a / (Int.gcd a u : Int)) else .tup [.int (a / (Int.gcd a u : Int)), .int (u / (Int.gcd a u : Int))]
theorem gcd_facts {a u : Int} (hu : 0 < u) : ∃ g n d : Int, (Int.gcd a u : Int) = g ∧ 0 < g ∧ a = g * n ∧ u = g * d ∧ 0 < d ∧ a / g = n ∧ u / g = d ∧ Int.gcd n d = 1 ∧ g ≤ u := by
  have hg : 0 < Int.gcd a u := Int.gcd_pos_of_ne_zero_right a (by omega)
  have hg' : (0 : Int) < (Int.gcd a u : Int) := by omega
  obtain ⟨n, hn⟩ := Int.gcd_dvd_left a u
  obtain ⟨d, hd⟩ := Int.gcd_dvd_right a u
  have e1 : a / (Int.gcd a u : Int) = n := by
    conv => lhs; lhs; rw [hn]
    exact Int.mul_ediv_cancel_left n (by omega)
  have e2 : u / (Int.gcd a u : Int) = d := by
    conv => lhs; lhs; rw [hd]
    exact Int.mul_ediv_cancel_left d (by omega)
  have hd0 : 0 < d := by
    refine Int.pos_of_mul_pos_left ?_ hg'
    rw [Int.mul_comm, ← hd]
    exact hu
  refine ⟨_, n, d, rfl, hg', hn, hd, hd0, e1, e2, ?_, ?_⟩
  · have h := Int.gcd_ediv_gcd_ediv_gcd hg
    rw [e1, e2] at h
    exact h
  · have h1 : (Int.gcd a u : Int) * 1 ≤ (Int.gcd a u : Int) * d := Int.mul_le_mul_of_nonneg_left (by omega) (by omega)
    rw [← hd] at h1
    omega
theorem low_num {a u : Int} (hu : 0 < u) : numI (lowD a u) = (a / (Int.gcd a u : Int), u / (Int.gcd a u : Int)) := by
  unfold lowD
  split
  · rename_i h
    rw [h]
    rfl
  · rfl
theorem low_isnum {a u : Int} (hu : 0 < u) : numD (lowD a u) = true := by
  obtain ⟨g, n, d, eg, g0, ea, eu, d0, e1, e2, e3, _⟩ := gcd_facts (a := a) hu
  unfold lowD
  rw [eg, e1, e2]
  split
  · rfl
  · show (decide (2 ≤ d) && decide (Int.gcd n d = 1)) = true
    rw [decide_eq_true e3, decide_eq_true (show 2 ≤ d by omega)]
    rfl
theorem low_bn {a u : Int} {k : Nat} (hu : 0 < u) (h : a.natAbs < 2 ^ k) (h' : u.natAbs < 2 ^ k) : Bn k (lowD a u) := by
  obtain ⟨g, n, d, eg, g0, ea, eu, d0, e1, e2, _⟩ := gcd_facts (a := a) hu
  unfold Bn
  rw [low_num hu, eg, e1, e2]
  have ha : a.natAbs = g.natAbs * n.natAbs := by rw [ea, Int.natAbs_mul]
  have hu' : u.natAbs = g.natAbs * d.natAbs := by rw [eu, Int.natAbs_mul]
  have hg : 1 ≤ g.natAbs := by omega
  have h1 : n.natAbs ≤ g.natAbs * n.natAbs := Nat.le_mul_of_pos_left _ hg
  have h2 : d.natAbs ≤ g.natAbs * d.natAbs := Nat.le_mul_of_pos_left _ hg
  exact ⟨by omega, by omega⟩
/-- the whole of p times it -/
theorem low_floor {a u : Int} (p : Int) (hu : 0 < u) : (numI (lowD a u)).1 * p / (numI (lowD a u)).2 = a * p / u := by
  obtain ⟨g, n, d, eg, g0, ea, eu, d0, e1, e2, _⟩ := gcd_facts (a := a) hu
  rw [low_num hu, eg, e1, e2, ea, eu]
  show n * p / d = g * n * p / (g * d)
  rw [Int.mul_assoc g n p, Int.mul_ediv_mul_of_pos _ _ g0]
theorem low_kn {a u : Int} : (lowD a u).kn = true := by
  unfold lowD
  split <;> rfl
def sp_lowest_in : DSp := fun xs G R _ => ∃ a u : Int, xs = [.int a, .int u] ∧ 0 < u ∧ u < 2 ^ 8000 ∧ R (lowD a u) G
def sp_times_in : DSp := fun xs G R _ => ∃ x y : D, xs = [x, y] ∧ numD x = true ∧ numD y = true ∧ Bn 4000 x ∧ Bn 4000 y ∧ R (lowD ((numI x).1 * (numI y).1) ((numI x).2 * (numI y).2)) G
def sp_whole_in : DSp := fun xs G R _ => ∃ x : D, xs = [x] ∧ numD x = true ∧ Bn 8000 x ∧ R (.int ((numI x).1 / (numI x).2)) G
def lowR : DS := (dSeq (dSet 2 (dIf (dTst (dOp (fInt gGt) (dVar 1) (dC (.int 0)))) (dCall sp_common X0 (dCons (dVar 0) (dCons (dVar 1) dNil))) (dNeg (dCall sp_common X0 (dCons (dVar 0) (dCons (dVar 1) dNil)))))) (dRet (dIf (dTst (dOp fEq (dOp (fIntC CDivW fun i j => .int (i / j)) (dVar 1) (dVar 2)) (dC (.int 1)))) (dOp (fIntC CDivW fun i j => .int (i / j)) (dVar 0) (dVar 2)) (dTup (dCons (dOp (fIntC CDivW fun i j => .int (i / j)) (dVar 0) (dVar 2)) (dCons (dOp (fIntC CDivW fun i j => .int (i / j)) (dVar 1) (dVar 2)) dNil))))))
theorem lowest_in_ok (xs : List D) (G : Gm) (R : KD) (RX : XD) (h : sp_lowest_in xs G R RX) : lowR { nx := fun _ G => R .non G, rt := R } (xs.map some ++ List.replicate (3 - xs.length) none) G := by
  obtain ⟨a, u, rfl, hu, hu2, h⟩ := h
  have hg : 0 < Int.gcd a u := Int.gcd_pos_of_ne_zero_right a (by omega)
  obtain ⟨g, n, d, eg, g0, ea, eu, d0, e1, e2, e3, e4⟩ := gcd_facts (a := a) hu
  have dv : CDivW u (Int.gcd a u : Int) ∧ CDivW a (Int.gcd a u : Int) := ⟨div_ok (by omega) (by omega), div_ok (by omega) (by omega)⟩
  refine ds_set (Ev.ifT ((EvT.tst (.gt (.var rfl) .c)).cast (k := true) (decide_eq_true hu)) (.common (.var rfl) (.var rfl))) ?_
  refine ds_ret (x := lowD a u) (.chosen (.tst (.eqI (.fdiv (.var rfl) (.var rfl) dv.1) .c)) (fun hk => ?_) fun hk => ?_) h
  · unfold lowD
    rw [if_pos (of_decide_eq_true hk)]
    exact .fdiv (.var rfl) (.var rfl) dv.2
  · unfold lowD
    rw [if_neg (of_decide_eq_false hk)]
    exact .tup (.cons (.fdiv (.var rfl) (.var rfl) dv.2) (.one (.fdiv (.var rfl) (.var rfl) dv.1))) (show 2 ≤ sizeLine by decide)
def timesR : DS := (dSeq (dAsg (dTup (dCons (dCall sp_halves X0 (dCons (dVar 0) dNil)) (dCons (dCall sp_halves X0 (dCons (dVar 1) dNil)) dNil))) (gSeq 2 (gCons (gSeq 2 (gCons (gN 2) (gCons (gN 3) gNil))) (gCons (gSeq 2 (gCons (gN 4) (gCons (gN 5) gNil))) gNil)))) (dRet (dCall sp_lowest_in X0 (dCons (dOp (fIntC IntMulOk fun i j => .int (i * j)) (dVar 2) (dVar 4)) (dCons (dOp (fIntC IntMulOk fun i j => .int (i * j)) (dVar 3) (dVar 5)) dNil)))))
theorem pow_split (a b : Nat) : (2 : Int) ^ a * 2 ^ b = 2 ^ (a + b) := (Int.pow_add 2 a b).symm
theorem abs_lt {x : Int} {k : Nat} (h : x.natAbs < 2 ^ k) : x < 2 ^ k := by
  have h2 : ((x.natAbs : Nat) : Int) < ((2 ^ k : Nat) : Int) := Int.ofNat_lt.mpr h
  have h3 : ((2 ^ k : Nat) : Int) = (2 : Int) ^ k := by norm_cast
  omega
theorem times_in_ok (xs : List D) (G : Gm) (R : KD) (RX : XD) (h : sp_times_in xs G R RX) : timesR { nx := fun _ G => R .non G, rt := R } (xs.map some ++ List.replicate (6 - xs.length) none) G := by
  obtain ⟨x, y, rfl, nx, ny, bx, by_, h⟩ := h
  obtain ⟨ex, px⟩ := num_half nx
  obtain ⟨ey, py⟩ := num_half ny
  refine ds_asg (.tup (.cons (.halves (.var rfl) nx) (.one (.halves (.var rfl) ny))) (show 2 ≤ sizeLine by decide)) ?_
  rw [ex, ey]
  refine ⟨_, seq_tup, rfl, _, _, rfl, ⟨_, seq_tup, rfl, _, _, rfl, _, _, rfl, rfl, ?_⟩⟩
  refine ⟨_, _, rfl, ⟨_, seq_tup, rfl, _, _, rfl, _, _, rfl, rfl, ?_⟩⟩
  refine ⟨rfl, ?_⟩
  refine ds_ret (.call (.cons (.mul (.var rfl) (.var rfl) (mul_both bx.1 by_.1 (by decide))) (.one (.mul (.var rfl) (.var rfl) (mul_both bx.2 by_.2 (by decide))))) fun R r => ⟨_, _, rfl, Int.mul_pos px py, ?_, r⟩) h
  have := mb 4000 4000 (Int.le_of_lt px) (abs_lt bx.2) (Int.le_of_lt py) (abs_lt by_.2)
  exact this.2
def wholeR : DS := (dSeq (dAsg (dCall sp_halves X0 (dCons (dVar 0) dNil)) (gSeq 2 (gCons (gN 1) (gCons (gN 2) gNil)))) (dRet (dOp (fIntC CDivW fun i j => .int (i / j)) (dVar 1) (dVar 2))))
theorem whole_in_ok (xs : List D) (G : Gm) (R : KD) (RX : XD) (h : sp_whole_in xs G R RX) : wholeR { nx := fun _ G => R .non G, rt := R } (xs.map some ++ List.replicate (3 - xs.length) none) G := by
  obtain ⟨x, rfl, nx, bx, h⟩ := h
  obtain ⟨ex, px⟩ := num_half nx
  refine ds_asg2 (.halves (.var rfl) nx) seq_tup ?_
  rw [ex]
  exact ds_ret (.fdiv (.var rfl) (.var rfl) (div_ok px (abs_lt bx.2))) h
end DL

/-! DL16: points, wholes, labels. -/
namespace DL
open PySem PySem.Spec PyProof.Rows L2 Evl
variable [TabC]

theorem num_kn {x : D} (h : numD x = true) : x.kn = true := by
  rcases num_cases h with ⟨i, rfl⟩ | ⟨a, b, hx, _⟩
  · rfl
  · rcases hx with rfl | rfl <;> rfl
theorem nums_kn : ∀ {ds : List D}, (∀ d ∈ ds, numD d = true) → D.knL ds = true
  | [], _ => rfl
  | d :: ds, h => by
    show (d.kn && D.knL ds) = true
    rw [num_kn (h d List.mem_cons_self), nums_kn fun e he => h e (List.mem_cons_of_mem _ he)]
    rfl
/-- a list or tuple of numbers -/
structure Pt (x : D) (ds : List D) : Prop where
  sh : x = .tup ds ∨ x = .lst ds
  nm : ∀ d ∈ ds, numD d = true
theorem Pt.kn {x : D} {ds : List D} (h : Pt x ds) : x.kn = true := by
  rcases h.sh with rfl | rfl
  · exact nums_kn h.nm
  · exact nums_kn h.nm
theorem Pt.seq {x : D} {ds : List D} (h : Pt x ds) : isSeqD x = true := by rcases h.sh with rfl | rfl <;> rfl
theorem Pt.at {x : D} {ds : List D} (h : Pt x ds) {G : Gm} : SeqAt G x ds := seq_at h.sh
def keptD (x : D) : D := match x with
  | .lst xs => .tup xs
  | x => x
theorem kept_num {x : D} : numD (keptD x) = numD x := by cases x <;> rfl
theorem kept_I {x : D} : numI (keptD x) = numI x := by cases x <;> rfl
def sp_need_number : DSp := fun xs G R _ => ∃ x p a b l m, xs = [x, p, a, b] ∧ x.kn = true ∧ bndD a = some l ∧ bndD b = some m ∧ withinD x l m = true ∧ R .non G
def needR : DS := (dIfS (dNot (dTst (dCall sp_is_within X0 (dCons (dVar 0) (dCons (dVar 2) (dCons (dVar 3) dNil)))))) dNever dNext)
theorem need_number_ok (xs : List D) (G : Gm) (R : KD) (RX : XD) (h : sp_need_number xs G R RX) : needR { nx := fun _ G => R .non G, rt := R } (xs.map some ++ List.replicate (4 - xs.length) none) G := by
  obtain ⟨x, p, a, b, l, m, rfl, hk, ha, hb, hw, h⟩ := h
  refine ds_if ((EvT.not (.tst (.isWithin (.var rfl) (.var rfl) (.var rfl) hk ha hb))).cast (k := false) (by rw [hw]; rfl)) ?_
  exact h
theorem Ev.needN {ρ : En} {G : Gm} {da dp db dc : DE} {x p a b : D} {l m : Option Int} (h : Ev da ρ G x) (h0 : Ev dp ρ G p) (h1 : Ev db ρ G a) (h2 : Ev dc ρ G b) (hk : x.kn = true) (hl : bndD a = some l) (hm : bndD b = some m) (hw : withinD x l m = true) :
    Ev (dCall sp_need_number X0 (dCons da (dCons dp (dCons db (dCons dc dNil))))) ρ G .non := .call (.cons h (.cons h0 (.cons h1 (.one h2)))) fun R r => ⟨x, p, a, b, l, m, rfl, hk, hl, hm, hw, r⟩
def sp_kept_number : DSp := fun xs G R _ => ∃ x : D, xs = [x] ∧ x.kn = true ∧ R (keptD x) G
def keptR : DS := (dRet (dIf (dTst (dCall sp_is_list X0 (dCons (dVar 0) dNil))) (dCal fTupOf (dCons (dVar 0) dNil)) (dVar 0)))
theorem kept_number_ok (xs : List D) (G : Gm) (R : KD) (RX : XD) (h : sp_kept_number xs G R RX) : keptR { nx := fun _ G => R .non G, rt := R } (xs.map some ++ List.replicate (1 - xs.length) none) G := by
  obtain ⟨x, rfl, hk, h⟩ := h
  refine ds_ret (x := keptD x) (.chosen (.tst (.isList (.var rfl) hk)) (fun e => ?_) fun e => ?_) h
  · cases x <;> first | cases e | skip
    · exact .tupOf (.var rfl) seq_tup
    · exact .tupOf (.var rfl) seq_lst
  · cases x <;> first | exact .var rfl | cases e
def sp_need_point : DSp := fun xs G R _ => ∃ (x p : D) (ds : List D), xs = [x, .int ds.length, p] ∧ Pt x ds ∧ ds.length ≤ 1000000 ∧ R (.tup (ds.map keptD)) G
def pointR : DS := (dSeq (dIfS (dOr (dNot (dTst (dCall sp_is_list X0 (dCons (dVar 0) dNil)))) (dOr (dTst (dOp fNe (dCal fLen (dCons (dVar 0) dNil)) (dVar 1))) (dNot (dTst (dCal fAll (dCons (dCmp (dISeq (dVar 0)) (gN 3) dYes (dCall sp_is_number X0 (dCons (dVar 3) dNil)) [3]) dNil)))))) dNever dNext) (dRet (dCal fTupOf (dCons (dCmp (dISeq (dVar 0)) (gN 3) dYes (dCall sp_kept_number X0 (dCons (dVar 3) dNil)) [3]) dNil))))
theorem all_true : ∀ {ds : List D} (f : D → Bool), (∀ d ∈ ds, f d = true) → (ds.map f).all id = true
  | [], _, _ => rfl
  | d :: ds, f, h => by
    show (f d && (ds.map f).all id) = true
    rw [h d List.mem_cons_self, all_true f fun e he => h e (List.mem_cons_of_mem _ he)]
    rfl
theorem need_point_ok (xs : List D) (G : Gm) (R : KD) (RX : XD) (h : sp_need_point xs G R RX) : pointR { nx := fun _ G => R .non G, rt := R } (xs.map some ++ List.replicate (4 - xs.length) none) G := by
  obtain ⟨x, p, ds, rfl, hp, hl, h⟩ := h
  have hz : ds.length ≤ sizeLine := by rw [sizeLine_eq]; omega
  have hall : Ev (dCmp (dISeq (dVar 0)) (gN 3) dYes (dCall sp_is_number X0 (dCons (dVar 3) dNil)) [3]) [some x, some (.int ds.length), some p, none] G (.lst ((ds.map numD).map D.bl)) := by
    rw [List.map_map]
    exact Ev.lcSeq (fun d => .bl (numD d)) (.var rfl) (hp.sh.symm) (fun y hy => .isNumber (.var rfl) (num_kn (hp.nm y hy))) hz
  refine ds_if (k := false) (.orF ((EvT.not (.tst (.isList (.var rfl) hp.kn))).cast (by rw [hp.seq]; rfl)) (.orF ((EvT.tst (.neI (.len (.var rfl) hp.at) (.var rfl))).cast (by rw [decide_eq_true rfl]; rfl)) ((EvT.not (.tst (.all hall))).cast (by rw [all_true numD hp.nm]; rfl)))) ?_
  exact ds_ret (.tupOf (.lcSeq keptD (.var rfl) hp.sh.symm (fun y hy => .call (.one (.var rfl)) fun R r => ⟨y, rfl, num_kn (hp.nm y hy), r⟩) hz) seq_lst) h
def sp_need_some_point : DSp := fun xs G R _ => ∃ (x : D) (ds : List D), xs = [x] ∧ Pt x ds ∧ 1 ≤ ds.length ∧ ds.length ≤ 2 ∧ R (.tup (ds.map keptD)) G
def someR : DS := (dSeq (dIfS (dOr (dNot (dTst (dCall sp_is_list X0 (dCons (dVar 0) dNil)))) (dNot (dTst (dCall sp_is_within X0 (dCons (dCal fLen (dCons (dVar 0) dNil)) (dCons (dC (.int 1)) (dCons (dC (.int 2)) dNil))))))) dNever dNext) (dRet (dCallD sp_need_point [D.str "point"] X0 (dCons (dVar 0) (dCons (dCal fLen (dCons (dVar 0) dNil)) dNil)))))
theorem need_some_point_ok (xs : List D) (G : Gm) (R : KD) (RX : XD) (h : sp_need_some_point xs G R RX) : someR { nx := fun _ G => R .non G, rt := R } (xs.map some ++ List.replicate (1 - xs.length) none) G := by
  obtain ⟨x, ds, rfl, hp, h1, h2, h⟩ := h
  have hw : withinD (.int ds.length) (some 1) (some 2) = true := by
    show (decide ((1 : Int) ≤ ds.length) && decide ((ds.length : Int) ≤ 2)) = true
    rw [decide_eq_true (by omega), decide_eq_true (by omega)]
    rfl
  refine ds_if (k := false) (.orF ((EvT.not (.tst (.isList (.var rfl) hp.kn))).cast (by rw [hp.seq]; rfl)) ((EvT.not (.tst (.isWithin (.len (.var rfl) hp.at) .c .c rfl rfl rfl))).cast (by rw [hw]; rfl))) ?_
  exact ds_ret (.callD (.cons (.var rfl) (.one (.len (.var rfl) hp.at))) fun R r => ⟨x, _, ds, rfl, hp, by omega, r⟩) h
theorem Ev.somePoint {ρ : En} {G : Gm} {da : DE} {x : D} {ds : List D} (h : Ev da ρ G x) (hp : Pt x ds) (h1 : 1 ≤ ds.length) (h2 : ds.length ≤ 2) : Ev (dCall sp_need_some_point X0 (dCons da dNil)) ρ G (.tup (ds.map keptD)) := .call (.one h) fun R r => ⟨x, ds, rfl, hp, h1, h2, r⟩

/-! ### wholes -/
/-- the whole of p times d -/
def wh (d : D) (p : Int) : Int := (numI d).1 * p / (numI d).2
def lab (d : D) (p : Int) : Int := wh d p - wh d (p - 1)
theorem wh_low {a u : Int} (hu : 0 < u) (p : Int) : wh (lowD a u) p = a * p / u := low_floor p hu
theorem wh_kept {d : D} {p : Int} : wh (keptD d) p = wh d p := by
  unfold wh
  rw [kept_I]
/-- all numbers, of no great size -/
structure Nms (k : Nat) (ds : List D) : Prop where
  nm : ∀ d ∈ ds, numD d = true
  bn : ∀ d ∈ ds, Bn k d
theorem Nms.kept {k : Nat} {ds : List D} (h : Nms k ds) : Nms k (ds.map keptD) := ⟨fun d hd => by
  obtain ⟨e, he, rfl⟩ := List.mem_map.mp hd
  rw [kept_num]
  exact h.nm e he, fun d hd => by
  obtain ⟨e, he, rfl⟩ := List.mem_map.mp hd
  unfold Bn
  rw [kept_I]
  exact h.bn e he⟩
theorem Bn.mono {j k : Nat} {d : D} (h : Bn j d) (l : j ≤ k) : Bn k d := ⟨Nat.lt_of_lt_of_le h.1 (Nat.pow_le_pow_right (by decide) l), Nat.lt_of_lt_of_le h.2 (Nat.pow_le_pow_right (by decide) l)⟩
def tupI (is : List Int) : D := .tup (is.map D.int)
def sp_wholes_in : DSp := fun xs G R _ => ∃ (ds : List D) (p : Int), xs = [.tup ds, .int p] ∧ Nms 3000 ds ∧ p.natAbs < 2 ^ 3000 ∧ ds.length ≤ 1000000 ∧ R (tupI (ds.map fun d => wh d p)) G
def wholesR : DS := (dRet (dCal fTupOf (dCons (dCmp (dISeq (dVar 0)) (gN 2) dYes (dCall sp_whole_in X0 (dCons (dCall sp_times_in X0 (dCons (dVar 2) (dCons (dVar 1) dNil))) dNil)) [2]) dNil)))
theorem nat_mul_lt {x y j k : Nat} (h : x < 2 ^ j) (h' : y < 2 ^ k) : x * y < 2 ^ (j + k) := by
  rw [Nat.pow_add]
  exact Nat.mul_lt_mul'' h h'
theorem wholes_in_ok (xs : List D) (G : Gm) (R : KD) (RX : XD) (h : sp_wholes_in xs G R RX) : wholesR { nx := fun _ G => R .non G, rt := R } (xs.map some ++ List.replicate (3 - xs.length) none) G := by
  obtain ⟨ds, p, rfl, hn, hp, hl, h⟩ := h
  have e : tupI (ds.map fun d => wh d p) = .tup (ds.map fun d => .int (wh d p)) := by
    unfold tupI
    rw [List.map_map]
    rfl
  rw [e] at h
  refine ds_ret (.tupOf (.lcSeq (fun d => .int (wh d p)) (.var rfl) (.inr rfl) (fun y hy => ?_) (by rw [sizeLine_eq]; omega)) seq_lst) h
  obtain ⟨_, py⟩ := num_half (hn.nm y hy)
  have by_ := hn.bn y hy
  have bp : Bn 4000 (.int p) := ⟨Nat.lt_of_lt_of_le hp (Nat.pow_le_pow_right (by decide) (by decide)), Nat.one_lt_two_pow (by decide)⟩
  have pu : 0 < (numI y).2 * (numI (.int p)).2 := by
    show 0 < (numI y).2 * 1
    omega
  refine (Ev.call (z := .int (wh y p)) (.one (.call (.cons (.var rfl) (.one (.var rfl))) fun R r => ⟨y, .int p, rfl, hn.nm y hy, rfl, by_.mono (by decide), bp, r⟩)) fun R r => ⟨_, rfl, low_isnum pu, low_bn pu ?_ ?_, ?_⟩)
  · show ((numI y).1 * p).natAbs < _
    rw [Int.natAbs_mul]
    exact Nat.lt_of_lt_of_le (nat_mul_lt by_.1 hp) (Nat.pow_le_pow_right (by decide) (by decide))
  · show ((numI y).2 * 1).natAbs < _
    rw [Int.mul_one]
    exact (by_.mono (by decide)).2
  · have e2 := low_floor (a := (numI y).1 * (numI (.int p)).1) 1 pu
    rw [Int.mul_one, Int.mul_one] at e2
    rw [e2]
    show R (.int ((numI y).1 * p / ((numI y).2 * 1))) G
    rw [Int.mul_one]
    exact r
def subL (is js : List Int) : List Int := List.zipWith (fun i j => i - j) is js
def sp_gone : DSp := fun xs G R _ => ∃ is js : List Int, xs = [tupI is, tupI js] ∧ is.length ≤ 1000000 ∧ R (tupI (subL is js)) G
def goneR : DS := (dRet (dCal fTupOf (dCons (dCmp (dIZip (dCons (dVar 0) (dCons (dVar 1) dNil))) (gSeq 2 (gCons (gN 2) (gCons (gN 3) gNil))) dYes (dOp (fInt fun i j => .int (i - j)) (dVar 2) (dVar 3)) [2, 3]) dNil)))
/-- the element is a function of the item, whatever the target -/
theorem cmpL_mapG {ρ0 : En} {g : DG} {de : DE} {S : List D → Gm → Prop} {G : Gm} (f : D → D) : ∀ {xs acc : List D}, (∀ x ∈ xs, ∀ S' : KD, S' (f x) G → g x ρ0 G fun ρ1 G1 => de ρ1 G1 S') → acc.length + xs.length ≤ sizeLine → S (acc ++ xs.map f) G → cmpL ρ0 g dYes de xs acc G S
  | [], acc, _, _, h => by
    rw [List.map_nil, List.append_nil] at h
    exact h
  | x :: xs, acc, hf, hz, h => by
    rw [List.length_cons] at hz
    refine hf x List.mem_cons_self (fun y G3 => acc.length < sizeLine ∧ cmpL ρ0 g dYes de xs (acc ++ [y]) G3 S) ⟨by omega, cmpL_mapG f (fun y hy => hf y (List.mem_cons_of_mem _ hy)) (by rw [List.length_append, List.length_singleton]; omega) ?_⟩
    rw [List.append_assoc, List.singleton_append]
    exact h
theorem gone_ok (xs : List D) (G : Gm) (R : KD) (RX : XD) (h : sp_gone xs G R RX) : goneR { nx := fun _ G => R .non G, rt := R } (xs.map some ++ List.replicate (4 - xs.length) none) G := by
  obtain ⟨is, js, rfl, hl, h⟩ := h
  refine ds_ret (x := tupI (subL is js)) (.tupOf (xs := (subL is js).map D.int) ?_ seq_lst) h
  intro R2 r
  refine ⟨_, rfl, _, rfl, is.map D.int, js.map D.int, .inr rfl, ?_⟩
  refine cmpL_mapG (fun d => match d with | .tup [.int a, .int b] => .int (a - b) | _ => .non) (fun x hx S' hS => ?_) ?_ ?_
  · obtain ⟨i, hi⟩ := List.getElem?_of_mem hx
    obtain ⟨a, b, ha, hb, rfl⟩ := zip_at hi
    rw [List.getElem?_map] at ha hb
    cases ea : is[i]? with
    | none =>
      rw [ea] at ha
      cases ha
    | some a' =>
      cases eb : js[i]? with
      | none =>
        rw [eb] at hb
        cases hb
      | some b' =>
        rw [ea] at ha
        rw [eb] at hb
        cases ha
        cases hb
        exact ⟨_, seq_tup, rfl, _, _, rfl, _, _, rfl, rfl, (Ev.sub (.var rfl) (.var rfl)) _ hS⟩
  · unfold zipD
    rw [List.length_zipWith, List.length_map, List.length_map, List.length_nil, sizeLine_eq]
    omega
  · have e : ∀ is js : List Int, (zipD (is.map D.int) (js.map D.int)).map (fun d => match d with | .tup [.int a, .int b] => D.int (a - b) | _ => .non) = (subL is js).map D.int := fun is => by
      induction is with
      | nil => intro js; rfl
      | cons i is ih =>
        intro js
        cases js with
        | nil => rfl
        | cons j js => exact congrArg (D.int (i - j) :: ·) (ih js)
    rw [List.nil_append, e]
    exact r
theorem subL_map {ds : List D} (f g : D → Int) : subL (ds.map f) (ds.map g) = ds.map fun d => f d - g d := by
  induction ds with
  | nil => rfl
  | cons d ds ih => exact congrArg (_ :: ·) ih
/-- labels of a point at a place -/
def labs (ds : List D) (p : Int) : List Int := ds.map fun d => lab d p
theorem labs_kept {ds : List D} {p : Int} : labs (ds.map keptD) p = labs ds p := by
  unfold labs
  rw [List.map_map]
  refine List.map_congr_left fun d _ => ?_
  show lab (keptD d) p = lab d p
  unfold lab
  rw [wh_kept, wh_kept]
section
variable {ρ : En} {G : Gm} {da db dc : DE} {ds : List D} {p q : Int}
theorem Ev.wholes (h : Ev da ρ G (.tup ds)) (h' : Ev db ρ G (.int p)) (hn : Nms 3000 ds) (hp : p.natAbs < 2 ^ 3000) (hl : ds.length ≤ 1000000) : Ev (dCall sp_wholes_in X0 (dCons da (dCons db dNil))) ρ G (tupI (ds.map fun d => wh d p)) := .call (.cons h (.one h')) fun R r => ⟨ds, p, rfl, hn, hp, hl, r⟩
theorem Ev.goneW (h : Ev da ρ G (tupI (ds.map fun d => wh d p))) (h' : Ev db ρ G (tupI (ds.map fun d => wh d q))) (hl : ds.length ≤ 1000000) : Ev (dCall sp_gone X0 (dCons da (dCons db dNil))) ρ G (tupI (ds.map fun d => wh d p - wh d q)) := .call (.cons h (.one h')) fun R r => ⟨_, _, rfl, by rw [List.length_map]; exact hl, by rw [subL_map]; exact r⟩
end
def sp_label_in : DSp := fun xs G R _ => ∃ (ds : List D) (p : Int), xs = [.tup ds, .int p] ∧ Nms 3000 ds ∧ p.natAbs < 2 ^ 2900 ∧ ds.length ≤ 1000000 ∧ R (tupI (labs ds p)) G
def labelR : DS := (dRet (dCall sp_gone X0 (dCons (dCall sp_wholes_in X0 (dCons (dVar 0) (dCons (dVar 1) dNil))) (dCons (dCall sp_wholes_in X0 (dCons (dVar 0) (dCons (dOp (fInt fun i j => .int (i - j)) (dVar 1) (dC (.int 1))) dNil))) dNil))))
theorem p2900 : 2 ^ 2900 + 2001 ≤ 2 ^ 3000 := by decide +kernel
theorem label_in_ok (xs : List D) (G : Gm) (R : KD) (RX : XD) (h : sp_label_in xs G R RX) : labelR { nx := fun _ G => R .non G, rt := R } (xs.map some ++ List.replicate (2 - xs.length) none) G := by
  obtain ⟨ds, p, rfl, hn, hp, hl, h⟩ := h
  have := p2900
  exact ds_ret (.goneW (.wholes (.var rfl) (.var rfl) hn (by omega) hl) (.wholes (.var rfl) (.sub (.var rfl) .c) hn (by omega) hl) hl) h
def labsT (ds : List D) (first : Int) (n : Nat) : List D := (List.range n).map fun i : Nat => tupI (labs ds (first + i))
def sp_labels_in : DSp := fun xs G R _ => ∃ (ds : List D) (first : Int) (n : Nat), xs = [.tup ds, .int first, .int n] ∧ Nms 3000 ds ∧ first.natAbs < 2 ^ 2900 ∧ n ≤ 2000 ∧ ds.length ≤ 1000000 ∧ R (.tup (labsT ds first n)) G
def labelsR : DS := (dSeq (dSet 3 (dCmp (dIRng1 (dOp fAdd (dVar 2) (dC (.int 1)))) (gN 4) dYes (dCall sp_wholes_in X0 (dCons (dVar 0) (dCons (dOp fAdd (dOp (fInt fun i j => .int (i - j)) (dVar 1) (dC (.int 1))) (dVar 4)) dNil))) [4])) (dRet (dCal fTupOf (dCons (dCmp (dIRng1 (dVar 2)) (gN 4) dYes (dCall sp_gone X0 (dCons (dIx (dVar 3) (dOp fAdd (dVar 4) (dC (.int 1)))) (dCons (dIx (dVar 3) (dVar 4)) dNil))) [4]) dNil))))
theorem atI_rng {n i : Nat} {f : Nat → D} (h : i < n) : atI ((List.range n).map f) (i : Int) = some (f i) := by
  unfold atI ixN
  rw [List.length_map, List.length_range, if_pos (by omega), if_pos (by omega), Option.bind_some, List.getElem?_map, Int.toNat_natCast, List.getElem?_range h]
  rfl
theorem labels_in_ok (xs : List D) (G : Gm) (R : KD) (RX : XD) (h : sp_labels_in xs G R RX) : labelsR { nx := fun _ G => R .non G, rt := R } (xs.map some ++ List.replicate (5 - xs.length) none) G := by
  obtain ⟨ds, first, n, rfl, hn, hf, hl2, hl, h⟩ := h
  have := p2900
  refine ds_set (.lcRng (n := n + 1) (fun i : Nat => tupI (ds.map fun d => wh d (first - 1 + i))) ((Ev.add (.var rfl) .c).cast rfl) (fun j hj => .wholes (.var rfl) (.add (.sub (.var rfl) .c) (.var rfl)) hn (by omega) hl) (by rw [sizeLine_eq]; omega)) ?_
  refine ds_ret (.tupOf (.lcRng (n := n) (fun i : Nat => tupI (labs ds (first + i))) (.var rfl) (fun j hj => ?_) (by rw [sizeLine_eq]; omega)) seq_lst) h
  have e1 : atI ((List.range (n + 1)).map fun i : Nat => tupI (ds.map fun d => wh d (first - 1 + i))) ((j : Int) + 1) = some (tupI (ds.map fun d => wh d (first - 1 + (j + 1 : Nat)))) := atI_rng (i := j + 1) (by omega)
  have e2 : atI ((List.range (n + 1)).map fun i : Nat => tupI (ds.map fun d => wh d (first - 1 + i))) (j : Int) = some (tupI (ds.map fun d => wh d (first - 1 + (j : Nat)))) := atI_rng (by omega)
  refine (Ev.goneW (.at (.var rfl) (.add (.var rfl) .c) seq_lst e1) (.at (.var rfl) (.var rfl) seq_lst e2) hl).cast ?_
  have a1 : first - 1 + ((j + 1 : Nat) : Int) = first + j := by omega
  have a2 : first - 1 + ((j : Nat) : Int) = first + j - 1 := by omega
  rw [a1, a2]
  rfl
section
variable {ρ : En} {G : Gm} {da db dc : DE} {ds : List D} {p first : Int} {n : Nat} {x : D}
theorem Ev.labelIn (h : Ev da ρ G (.tup ds)) (h' : Ev db ρ G (.int p)) (hn : Nms 3000 ds) (hp : p.natAbs < 2 ^ 2900) (hl : ds.length ≤ 1000000) : Ev (dCall sp_label_in X0 (dCons da (dCons db dNil))) ρ G (tupI (labs ds p)) := .call (.cons h (.one h')) fun R r => ⟨ds, p, rfl, hn, hp, hl, r⟩
theorem Ev.labelsIn (h : Ev da ρ G (.tup ds)) (h' : Ev db ρ G (.int first)) (h2 : Ev dc ρ G (.int n)) (hn : Nms 3000 ds) (hp : first.natAbs < 2 ^ 2900) (hn2 : n ≤ 2000) (hl : ds.length ≤ 1000000) : Ev (dCall sp_labels_in X0 (dCons da (dCons db (dCons dc dNil)))) ρ G (.tup (labsT ds first n)) := .call (.cons h (.cons h' (.one h2))) fun R r => ⟨ds, first, n, rfl, hn, hp, hn2, hl, r⟩
end
/-- what is passed as a point -/
structure PtN (x : D) (ds : List D) : Prop where
  sh : x = .tup ds ∨ x = .lst ds
  nm : Nms 3000 ds
  l1 : 1 ≤ ds.length
  l2 : ds.length ≤ 2
theorem PtN.pt {x : D} {ds : List D} (h : PtN x ds) : Pt x ds := ⟨h.sh, h.nm.nm⟩
def sp_label_at : DSp := fun xs G R _ => ∃ (x : D) (ds : List D) (p : Int), xs = [x, .int p] ∧ PtN x ds ∧ p.natAbs < 2 ^ 2900 ∧ R (tupI (labs ds p)) G
def labelAtR : DS := (dSeq (dSet 2 (dCall sp_need_some_point X0 (dCons (dVar 0) dNil))) (dSeq (dDrop (dCall sp_need_number X0 (dCons (dVar 1) (dCons (dC (.str "place")) (dCons (dC .non) (dCons (dC .non) dNil)))))) (dRet (dCall sp_label_in X0 (dCons (dVar 2) (dCons (dVar 1) dNil))))))
theorem label_at_ok (xs : List D) (G : Gm) (R : KD) (RX : XD) (h : sp_label_at xs G R RX) : labelAtR { nx := fun _ G => R .non G, rt := R } (xs.map some ++ List.replicate (3 - xs.length) none) G := by
  obtain ⟨x, ds, p, rfl, hp, hb, h⟩ := h
  refine ds_set (.somePoint (.var rfl) hp.pt hp.l1 hp.l2) ?_
  refine ds_drop (.needN (.var rfl) .c .c .c rfl rfl rfl rfl) ?_
  rw [← labs_kept] at h
  have := hp.l2
  exact ds_ret (.labelIn (.var rfl) (.var rfl) hp.nm.kept hb (by rw [List.length_map]; omega)) h
theorem labsT_kept {ds : List D} {first : Int} {n : Nat} : labsT (ds.map keptD) first n = labsT ds first n := by
  unfold labsT
  refine List.map_congr_left fun i _ => ?_
  rw [labs_kept]
def sp_labels_of : DSp := fun xs G R _ => ∃ (x : D) (ds : List D) (first : Int) (n : Nat), xs = [x, .int first, .int n] ∧ PtN x ds ∧ first.natAbs < 2 ^ 2900 ∧ n ≤ 2000 ∧ R (.tup (labsT ds first n)) G
def labelsOfR : DS := (dSeq (dSet 3 (dCall sp_need_some_point X0 (dCons (dVar 0) dNil))) (dSeq (dDrop (dCall sp_need_number X0 (dCons (dVar 1) (dCons (dC (.str "first")) (dCons (dC .non) (dCons (dC .non) dNil)))))) (dSeq (dDrop (dCall sp_need_number X0 (dCons (dVar 2) (dCons (dC (.str "many")) (dCons (dC (.int 0)) (dCons (dC (.int 2000)) dNil)))))) (dRet (dCall sp_labels_in X0 (dCons (dVar 3) (dCons (dVar 1) (dCons (dVar 2) dNil))))))))
theorem labels_of_ok (xs : List D) (G : Gm) (R : KD) (RX : XD) (h : sp_labels_of xs G R RX) : labelsOfR { nx := fun _ G => R .non G, rt := R } (xs.map some ++ List.replicate (4 - xs.length) none) G := by
  obtain ⟨x, ds, first, n, rfl, hp, hb, hn, h⟩ := h
  refine ds_set (.somePoint (.var rfl) hp.pt hp.l1 hp.l2) ?_
  refine ds_drop (.needN (.var rfl) .c .c .c rfl rfl rfl rfl) ?_
  refine ds_drop (.needN (.var rfl) .c .c .c rfl rfl rfl ?_) ?_
  · show (decide ((0 : Int) ≤ n) && decide ((n : Int) ≤ 2000)) = true
    rw [decide_eq_true (by omega), decide_eq_true (by omega)]
    rfl
  rw [← labsT_kept] at h
  have := hp.l2
  exact ds_ret (.labelsIn (.var rfl) (.var rfl) (.var rfl) hp.nm.kept hb hn (by rw [List.length_map]; omega)) h
def sums (ds : List D) (first many : Int) : List Int := ds.map fun d => wh d (first + many - 1) - wh d (first - 1)
def sp_sum_of : DSp := fun xs G R _ => ∃ (x : D) (ds : List D) (first many : Int), xs = [x, .int first, .int many] ∧ PtN x ds ∧ first.natAbs < 2 ^ 2900 ∧ 0 ≤ many ∧ many.natAbs < 2 ^ 2900 ∧ R (tupI (sums ds first many)) G
def sumR : DS := (dSeq (dSet 3 (dCall sp_need_some_point X0 (dCons (dVar 0) dNil))) (dSeq (dDrop (dCall sp_need_number X0 (dCons (dVar 1) (dCons (dC (.str "first")) (dCons (dC .non) (dCons (dC .non) dNil)))))) (dSeq (dDrop (dCall sp_need_number X0 (dCons (dVar 2) (dCons (dC (.str "many")) (dCons (dC (.int 0)) (dCons (dC .non) dNil)))))) (dRet (dCall sp_gone X0 (dCons (dCall sp_wholes_in X0 (dCons (dVar 3) (dCons (dOp (fInt fun i j => .int (i - j)) (dOp fAdd (dVar 1) (dVar 2)) (dC (.int 1))) dNil))) (dCons (dCall sp_wholes_in X0 (dCons (dVar 3) (dCons (dOp (fInt fun i j => .int (i - j)) (dVar 1) (dC (.int 1))) dNil))) dNil)))))))
theorem sum_of_ok (xs : List D) (G : Gm) (R : KD) (RX : XD) (h : sp_sum_of xs G R RX) : sumR { nx := fun _ G => R .non G, rt := R } (xs.map some ++ List.replicate (4 - xs.length) none) G := by
  obtain ⟨x, ds, first, many, rfl, hp, hb, hm, hm2, h⟩ := h
  refine ds_set (.somePoint (.var rfl) hp.pt hp.l1 hp.l2) ?_
  refine ds_drop (.needN (.var rfl) .c .c .c rfl rfl rfl rfl) ?_
  refine ds_drop (.needN (.var rfl) .c .c .c rfl rfl rfl ?_) ?_
  · show (decide ((0 : Int) ≤ many) && true) = true
    rw [decide_eq_true hm]
    rfl
  have e : sums ds first many = sums (ds.map keptD) first many := by
    unfold sums
    rw [List.map_map]
    refine List.map_congr_left fun d _ => ?_
    show _ = wh (keptD d) _ - wh (keptD d) _
    rw [wh_kept, wh_kept]
  rw [e] at h
  have := hp.l2
  have p1 : 2 ^ 2900 + 2 ^ 2900 + 2 ≤ 2 ^ 3000 := by decide +kernel
  have hl : (ds.map keptD).length ≤ 1000000 := by rw [List.length_map]; omega
  exact ds_ret (.goneW (.wholes (.var rfl) (.sub (.add (.var rfl) (.var rfl)) .c) hp.nm.kept (by omega) hl) (.wholes (.var rfl) (.sub (.var rfl) .c) hp.nm.kept (by omega) hl) hl) h
section
variable {ρ : En} {G : Gm} {da db dc : DE} {ds : List D} {p first many : Int} {n : Nat} {x : D}
theorem Ev.labelAt (h : Ev da ρ G x) (h' : Ev db ρ G (.int p)) (hn : PtN x ds) (hp : p.natAbs < 2 ^ 2900) : Ev (dCall sp_label_at X0 (dCons da (dCons db dNil))) ρ G (tupI (labs ds p)) := .call (.cons h (.one h')) fun R r => ⟨x, ds, p, rfl, hn, hp, r⟩
theorem Ev.labelsOf (h : Ev da ρ G x) (h' : Ev db ρ G (.int first)) (h2 : Ev dc ρ G (.int n)) (hn : PtN x ds) (hp : first.natAbs < 2 ^ 2900) (hn2 : n ≤ 2000) : Ev (dCall sp_labels_of X0 (dCons da (dCons db (dCons dc dNil)))) ρ G (.tup (labsT ds first n)) := .call (.cons h (.cons h' (.one h2))) fun R r => ⟨x, ds, first, n, rfl, hn, hp, hn2, r⟩
theorem Ev.sumOf (h : Ev da ρ G x) (h' : Ev db ρ G (.int first)) (h2 : Ev dc ρ G (.int many)) (hn : PtN x ds) (hp : first.natAbs < 2 ^ 2900) (h0 : 0 ≤ many) (hm : many.natAbs < 2 ^ 2900) : Ev (dCall sp_sum_of X0 (dCons da (dCons db (dCons dc dNil)))) ρ G (tupI (sums ds first many)) := .call (.cons h (.cons h' (.one h2))) fun R r => ⟨x, ds, first, many, rfl, hn, hp, h0, hm, r⟩
end
end DL

/-! DL17: what laws themselves reckon with numbers; more of what draws. -/
namespace DL
open PySem PySem.Spec PyProof.Rows L2 Evl
variable [TabC]

theorem while_gcd2 {i j : Nat} (hij : i ≠ j) {da : DE} (hda : ∀ (ρ : En) (G : Gm) (p : Int), ρ[i]? = some (some (.int p)) → Ev da ρ G (.int p)) {E : DEnds} {ρ : En} {G : Gm} {p q : Nat} (h1 : ρ[i]? = some (some (.int p))) (h2 : ρ[j]? = some (some (.int q)))
    (k : ∀ ρ', ρ'[i]? = some (some (.int (Nat.gcd p q))) → (∀ l, l ≠ i → l ≠ j → ρ'[l]? = ρ[l]?) → E.nx ρ' G) : dWhile (dTst (dOp (fInt gGt) (dVar j) (dC (.int 0)))) (dPar i j (dCons (dVar j) (dCons (dOp (fIntC (fun _ j => 0 < j) fun i j => .int (i % j)) da (dVar j)) dNil))) E ρ G := by
  refine ⟨fun m ρ' G' => G' = G ∧ (∃ p' : Nat, ρ'[i]? = some (some (.int p')) ∧ ρ'[j]? = some (some (.int m)) ∧ Nat.gcd p' m = Nat.gcd p q) ∧ ∀ l, l ≠ i → l ≠ j → ρ'[l]? = ρ[l]?, ⟨q, rfl, ⟨p, h1, h2, rfl⟩, fun _ _ _ => rfl⟩, ?_⟩
  rintro m ρ' G' ⟨rfl, ⟨p', r1, r2, e⟩, ho⟩
  have inl : ∀ {l : Nat} {x : Option D}, ρ'[l]? = some x → l < ρ'.length := fun {l x} h => by
    by_cases z : l < ρ'.length
    · exact z
    · rw [List.getElem?_eq_none (by omega)] at h
      cases h
  refine (EvT.tst (.gt (.var r2) .c)) _ ?_
  by_cases h0 : 0 < m
  · rw [if_pos (by simpa using h0)]
    refine ds_par (.var r2) (.mod (hda _ _ _ r1) (.var r2) (by omega)) ?_
    refine ⟨p' % m, Nat.mod_lt _ h0, rfl, ⟨m, ?_, ?_, ?_⟩, fun l l1 l2 => ?_⟩
    · rw [List.getElem?_set_ne (fun z => hij z.symm)]
      exact List.getElem?_set_self (inl r1)
    · rw [List.getElem?_set_self (by rw [List.length_set]; exact inl r2)]
      rfl
    · rw [← e, Nat.gcd_comm p' m, Nat.gcd_rec m p', Nat.gcd_comm]
    · rw [List.getElem?_set_ne (fun z => l2 z.symm), List.getElem?_set_ne (fun z => l1 z.symm), ho l l1 l2]
  · rw [if_neg (by simpa using h0)]
    have m0 : m = 0 := by omega
    subst m0
    refine k ρ' ?_ ho
    rw [← e, Nat.gcd_zero_right]
    exact r1
def lawLowR : DS := (dSeq (dPar 2 3 (dCons (dCal fAbs (dCons (dVar 0) dNil)) (dCons (dVar 1) dNil))) (dSeq (dWhile (dTst (dOp (fInt gGt) (dVar 3) (dC (.int 0)))) (dPar 2 3 (dCons (dVar 3) (dCons (dOp (fIntC (fun _ j => 0 < j) fun i j => .int (i % j)) (dCal fIntOf (dCons (dVar 2) dNil)) (dVar 3)) dNil)))) (dRet (dIf (dTst (dOp fEq (dVar 1) (dVar 2))) (dOp (fIntC CDivW fun i j => .int (i / j)) (dCal fIntOf (dCons (dVar 0) dNil)) (dVar 2)) (dTup (dCons (dOp (fIntC CDivW fun i j => .int (i / j)) (dCal fIntOf (dCons (dVar 0) dNil)) (dVar 2)) (dCons (dOp (fIntC CDivW fun i j => .int (i / j)) (dCal fIntOf (dCons (dVar 1) dNil)) (dVar 2)) dNil)))))))
theorem law_low_ok (xs : List D) (G : Gm) (R : KD) (RX : XD) (h : sp_lowest_in xs G R RX) : lawLowR { nx := fun _ G => R .non G, rt := R } (xs.map some ++ List.replicate (4 - xs.length) none) G := by
  obtain ⟨a, u, rfl, hu, hu2, h⟩ := h
  obtain ⟨g, n, d, eg, g0, ea, eu, d0, e1, e2, e3, e4⟩ := gcd_facts (a := a) hu
  have eu' : (u : Int) = ((u.natAbs : Nat) : Int) := by omega
  refine ds_par (.absN (.var rfl)) (.var rfl) ?_
  refine while_gcd2 (p := a.natAbs) (q := u.natAbs) (by decide) (fun ρ G p h => .intOf (.var h)) rfl (by rw [← eu']; rfl) fun ρ' r2 ho => ?_
  have r0 : ρ'[0]? = some (some (.int a)) := ho 0 (by decide) (by decide)
  have r1 : ρ'[1]? = some (some (.int u)) := ho 1 (by decide) (by decide)
  have eg' : ((Nat.gcd a.natAbs u.natAbs : Nat) : Int) = g := eg
  rw [eg'] at r2
  have dv : CDivW u g ∧ CDivW a g := ⟨div_ok (by omega) (by omega), div_ok (by omega) (by omega)⟩
  refine ds_ret (x := lowD a u) (.chosen (.tst (.eqI (.var r1) (.var r2))) (fun hk => ?_) fun hk => ?_) h
  · have e := of_decide_eq_true hk
    unfold lowD
    rw [eg, if_pos (by rw [e]; exact Int.ediv_self (by omega))]
    exact .fdiv (.intOf (.var r0)) (.var r2) dv.2
  · have e := of_decide_eq_false hk
    unfold lowD
    rw [eg, if_neg (fun z => e (by rw [e2] at z; rw [eu, z, Int.mul_one]))]
    exact .tup (.cons (.fdiv (.intOf (.var r0)) (.var r2) dv.2) (.one (.fdiv (.intOf (.var r1)) (.var r2) dv.1))) (show 2 ≤ sizeLine by decide)
theorem Ev.low {ρ : En} {G : Gm} {da db : DE} {a u : Int} (h : Ev da ρ G (.int a)) (h' : Ev db ρ G (.int u)) (hu : 0 < u) (hu2 : u < 2 ^ 8000) : Ev (dCall sp_lowest_in X0 (dCons da (dCons db dNil))) ρ G (lowD a u) := .call (.cons h (.one h')) fun R r => ⟨a, u, rfl, hu, hu2, r⟩
def sp_ends : DSp := fun xs G R _ => ∃ x : D, xs = [x] ∧ numD x = true ∧ R (.tup [.int (numI x).1, .int (numI x).2]) G
def endsR : DS := (dRet (dIf (dTst (dCal (fIsi "int") (dCons (dVar 0) (dCons (dC (.ty "int")) dNil)))) (dTup (dCons (dVar 0) (dCons (dC (.int 1)) dNil))) (dTup (dCons (dIx (dVar 0) (dC (.int 0))) (dCons (dIx (dVar 0) (dC (.int 1))) dNil)))))
theorem ends_ok (xs : List D) (G : Gm) (R : KD) (RX : XD) (h : sp_ends xs G R RX) : endsR { nx := fun _ G => R .non G, rt := R } (xs.map some ++ List.replicate (1 - xs.length) none) G := by
  obtain ⟨x, rfl, hx, h⟩ := h
  have s2 : 2 ≤ sizeLine := by decide
  rcases num_cases hx with ⟨i, rfl⟩ | ⟨a, b, hx2, _⟩
  · exact ds_ret (.ifT (.tst ((Ev.isi (.var rfl) rfl).cast rfl)) (.tup (.cons (.var rfl) (.one .c)) s2)) h
  · rcases hx2 with rfl | rfl
    · exact ds_ret (.ifF (.tst ((Ev.isi (.var rfl) rfl).cast rfl)) (.tup (.cons (.at (.var rfl) .c seq_tup rfl) (.one (.at (.var rfl) .c seq_tup rfl))) s2)) h
    · exact ds_ret (.ifF (.tst ((Ev.isi (.var rfl) rfl).cast rfl)) (.tup (.cons (.at (.var rfl) .c seq_lst rfl) (.one (.at (.var rfl) .c seq_lst rfl))) s2)) h
theorem Ev.ends {ρ : En} {G : Gm} {da : DE} {x : D} (h : Ev da ρ G x) (hx : numD x = true) : Ev (dCall sp_ends X0 (dCons da dNil)) ρ G (.tup [.int (numI x).1, .int (numI x).2]) := .call (.one h) fun R r => ⟨x, rfl, hx, r⟩
/-- a number of a above, u under -/
def Rat0 (k : Nat) (x : D) : Prop := ∃ a u : Int, x = lowD a u ∧ 0 < u ∧ a.natAbs < 2 ^ k ∧ u.natAbs < 2 ^ k
theorem Rat0.num {k : Nat} {x : D} : Rat0 k x → numD x = true := fun ⟨a, u, e, hu, _⟩ => by
  rw [e]
  exact low_isnum hu
theorem Rat0.bn {k : Nat} {x : D} : Rat0 k x → Bn k x := fun ⟨a, u, e, hu, h, h'⟩ => by
  rw [e]
  exact low_bn hu h h'
theorem Rat0.kn {k : Nat} {x : D} (h : Rat0 k x) : x.kn = true := num_kn h.num
theorem ptn1 {k : Nat} {x : D} (h : numD x = true) (hb : Bn k x) (l : k ≤ 3000 := by decide) : PtN (.lst [x]) [x] := ⟨.inr rfl, ⟨fun d hd => by rw [List.mem_singleton.mp hd]; exact h, fun d hd => by rw [List.mem_singleton.mp hd]; exact hb.mono l⟩, Nat.le_refl _, Nat.le_succ _⟩
theorem ptn2 {k : Nat} {x y : D} (h : numD x = true) (hb : Bn k x) (h' : numD y = true) (hb' : Bn k y) (l : k ≤ 3000 := by decide) : PtN (.lst [x, y]) [x, y] := ⟨.inr rfl, ⟨fun d hd => by
  rcases List.mem_cons.mp hd with e | e
  · rw [e]
    exact h
  · rw [List.mem_singleton.mp e]
    exact h', fun d hd => by
  rcases List.mem_cons.mp hd with e | e
  · rw [e]
    exact hb.mono l
  · rw [List.mem_singleton.mp e]
    exact hb'.mono l⟩, Nat.le_succ _, Nat.le_refl _⟩
/-! ### more of what draws -/
section
variable {ρ : En} {a : Addr} {j k : Nat} {da db : DE} {dA : DA} {P P2 P3 : D → Prop} {PL : List D → Prop}
theorem Drw.dial2 {i : Nat} {dn : DE} {N : Int} (hi : ρ[i]? = some (some (.ref a))) (hn : Drw dn ρ a k (fun x => ∃ n, x = .int n ∧ 1 ≤ n ∧ n ≤ N)) (h2 : N < 2 ^ 8000) : Drw (dCall spDial X0 (dCons (dVar i) (dCons dn dNil))) ρ a (k + 1) (fun x => ∃ v, x = .int v ∧ 0 ≤ v ∧ v < N) := fun G T R hg ht r => by
  refine ⟨_, hi, hn G T _ hg (by omega) fun x m ⟨n, e, n1, n2⟩ hm => ?_⟩
  subst e
  refine ⟨a, n, T + k, rfl, ⟨m, gup_same, hm⟩, by omega, n1, by omega, fun v m' v0 v1 hm' => ?_⟩
  rw [gup_gup]
  exact r _ m' ⟨v, rfl, v0, by omega⟩ hm'
/-- a call that draws not, of what was drawn -/
theorem Drw.call {q : DSp} (h : DrwA dA ρ a k PL) (hq : ∀ l, PL l → ∃ z, P z ∧ ∀ (G : Gm) (R : KD), R z G → q l G R X0) : Drw (dCall q X0 dA) ρ a k P := fun G T R hg ht r => h G T _ hg ht fun l m pl hm => by
  obtain ⟨z, pz, hz⟩ := hq l pl
  exact hz _ _ (r z m pz hm)
theorem Drw.intLe {i : Int} (hi : ∀ G, Ev da ρ G (.int i)) {N : Int} (h0 : 1 ≤ i) (h1 : i ≤ N) : Drw da ρ a 0 (fun x => ∃ n, x = .int n ∧ 1 ≤ n ∧ n ≤ N) := .ev hi ⟨i, rfl, h0, h1⟩
theorem dw_par3 {l : Nat} {dc : DE} {PC : D → Prop} {E : DEnds} {G : Gm} {T i i2 i3 : Nat} (h : Drw da ρ a j P) (h' : Drw db ρ a k P2) (h'' : Drw dc ρ a l PC) (hg : GauAt G a T) (ht : T + (j + (k + l)) ≤ 1000000000)
    (hk : ∀ x y z m, P x → P2 y → PC z → Gau m (T + (j + (k + l))) → E.nx (((ρ.set i (some x)).set i2 (some y)).set i3 (some z)) (gup G a m)) : dPar3 i i2 i3 (dCons da (dCons db (dCons dc dNil))) E ρ G :=
  (DrwA.cons h (DrwA.cons h' (DrwA.cons h'' .nil))) G T _ hg ht fun l m ⟨x, xs, e, px, y, ys, e2, py, z, zs, e3, pz, e4⟩ hm => by
    subst e4 e3 e2 e
    exact ⟨x, y, z, rfl, hk x y z m px py pz hm⟩
end
theorem Ev.rev {ρ : En} {G : Gm} {da : DE} {x : D} {ds : List D} (ha : Ev da ρ G x) (h : LstAt G x ds) : Ev (dRev da) ρ G (.lst ds.reverse) := fun R r => ha _ ⟨ds, h, r⟩
theorem rev_range {α : Type} {n : Nat} (g : Nat → α) : ((List.range n).map g).reverse = (List.range n).map fun i => g (n - 1 - i) := by
  refine List.ext_getElem (by simp) fun i h1 h2 => ?_
  simp
/-! ### plain laws of labels -/
theorem lab_minus {x : D} (hx : numD x = true) (p : Int) : lab (lowD (-(numI x).1) (numI x).2) p = -lab x (1 - p) := by
  have hb := (num_half hx).2
  unfold lab
  rw [wh_low hb, wh_low hb]
  unfold wh
  have e1 : -(numI x).1 * p = (numI x).1 * (1 - p - 1) := by grind
  have e2 : -(numI x).1 * (p - 1) = (numI x).1 * (1 - p) := by grind
  rw [e1, e2]
  omega
theorem lab_more {x : D} (hx : numD x = true) (m p : Int) : lab (lowD ((numI x).1 + m * (numI x).2) (numI x).2) p = lab x p + m := by
  have hb := (num_half hx).2
  unfold lab
  rw [wh_low hb, wh_low hb]
  unfold wh
  have e : ∀ q : Int, ((numI x).1 + m * (numI x).2) * q / (numI x).2 = (numI x).1 * q / (numI x).2 + m * q := fun q => by
    have e1 : ((numI x).1 + m * (numI x).2) * q = (numI x).1 * q + m * q * (numI x).2 := by grind
    rw [e1, Int.add_mul_ediv_right _ _ (by omega)]
  rw [e, e]
  grind
theorem lab_times {x : D} (hx : numD x = true) (t p : Int) : lab (lowD (t * (numI x).1) (numI x).2) p = wh x (t * (p - 1) + 1 + t - 1) - wh x (t * (p - 1) + 1 - 1) := by
  have hb := (num_half hx).2
  unfold lab
  rw [wh_low hb, wh_low hb]
  unfold wh
  have e1 : t * (numI x).1 * p = (numI x).1 * (t * (p - 1) + 1 + t - 1) := by grind
  have e2 : t * (numI x).1 * (p - 1) = (numI x).1 * (t * (p - 1) + 1 - 1) := by grind
  rw [e1, e2]
theorem wh_abs {x : D} {j k : Nat} (hx : Bn j x) {p : Int} (hp : p.natAbs < 2 ^ k) : (wh x p).natAbs < 2 ^ (j + k) := by
  refine Nat.lt_of_le_of_lt (Int.natAbs_ediv_le_natAbs _ _) ?_
  rw [Int.natAbs_mul]
  exact nat_mul_lt hx.1 hp
end DL

/-! DL18: zip of a list and a tuple (either kind at either place). -/
namespace MZ
open PySem PySem.Spec PyProof.Rows L2
open PySem.Sem (wp)

/-- true: of a tuple; false: of a list -/
def ItB (t : Bool) (h : Heap) (i p : Addr) (k : Nat) : Prop := if t = true then h.IsTupleIter i p k else h.IsListIter i p k
def SqB (t : Bool) (h : Heap) (p : Addr) (us : Array Value) : Prop := if t = true then h.IsTuple p us else h.IsList p us
theorem ItB.off {t : Bool} {h h2 : Heap} {i p c : Addr} {k : Nat} (x : ItB t h i p k) (e : Heap.ExtBut c h h2) (n : i ≠ c) : ItB t h2 i p k := by
  cases t with
  | true => exact Heap.IsTupleIter.extBut x e n
  | false => exact Heap.IsListIter.extBut x e n
theorem SqB.off {t : Bool} {h h2 : Heap} {p c : Addr} {us : Array Value} (x : SqB t h p us) (e : Heap.ExtBut c h h2) (n : p ≠ c) : SqB t h2 p us := by
  cases t with
  | true => exact Heap.IsTuple.extBut x e n
  | false => exact Heap.IsList.extBut x e n
theorem ItB.to {t : Bool} {h h2 : Heap} {i p : Addr} {k : Nat} (x : ItB t h i p k) (e : ∀ o, h.get? i = some o → h2.get? i = some o) : ItB t h2 i p k := by
  cases t with
  | true => exact Heap.IsTupleIter.at x e
  | false => exact Heap.IsListIter.at x e
theorem ItB.ob {t : Bool} {h : Heap} {i p : Addr} {k : Nat} (x : ItB t h i p k) : ∃ o, h.get? i = some o ∧ o.data = .fields #[.ref p, .int k 0] := by
  cases t with
  | true =>
    obtain ⟨o, e, _, d⟩ := (show h.IsTupleIter i p k from x)
    exact ⟨o, e, d⟩
  | false =>
    obtain ⟨o, e, _, d⟩ := (show h.IsListIter i p k from x)
    exact ⟨o, e, d⟩
section
variable {prog : Program} {w : World} {A : Around} {E : Value → Shared → Prop} {s : Shared}
theorem nextB {t : Bool} {i p : Addr} {k : Nat} {us : Array Value} {v : Value} {Q : Value → Shared → Prop} (hi : ItB t s.heap i p k) (hp : SqB t s.heap p us) (hv : us[k]? = some v)
    (k1 : ∀ h2, ItB t h2 i p (k + 1) → Heap.SameBut i s.heap h2 → Q v { s with heap := h2 }) : wpAny (model prog w) A (Builtin.SmallTypes.nextOf (.ref i)) Q E s := by
  cases t with
  | true => exact RZ.nextOf_tuple_item hi hp hv k1
  | false => exact wpAny_nextOf_list_item hi hp hv k1
theorem endB {t : Bool} {i p : Addr} {k : Nat} {us : Array Value} {Q : Value → Shared → Prop} (hd : A.handled = none) (hi : ItB t s.heap i p k) (hp : SqB t s.heap p us) (hv : us[k]? = none)
    (k1 : ∀ h2 e, Heap.ExtBut i s.heap h2 → (∃ o, h2.get? e = some o ∧ o.cls = .type "StopIteration") → E (.ref e) { s with heap := h2 }) : wpAny (model prog w) A (Builtin.SmallTypes.nextOf (.ref i)) Q E s := by
  cases t with
  | true => exact RZ.nextOf_tuple_end hd hi hp hv k1
  | false => exact wpAny_nextOf_list_end hd hi hp hv k1
/-- from the zip's fields to the two next calls -/
theorem stepB {t r : Bool} {u ti tw i j p q : Addr} {k m : Nat} {us vs : Array Value} {x y a b : Value} {Q : Value → Shared → Prop} (D : ZipApart u ti tw i j p q) (ku : IsZip s.heap u ti tw .none) (kt : IsPair s.heap ti (.ref i) (.ref j)) (kw : IsPair s.heap tw a b)
    (fi : ItB t s.heap i p k) (fj : ItB r s.heap j q m) (gp : SqB t s.heap p us) (gq : SqB r s.heap q vs) (ex : us[k]? = some x) (ey : vs[m]? = some y)
    (fin : ∀ h2, IsZip h2 u ti tw (rawInt s.heap.objs.size) → IsPair h2 tw x y → ItB t h2 i p (k + 1) → ItB r h2 j q (m + 1) → IsPair h2 s.heap.objs.size x y →
      (∀ c o, c ≠ u → c ≠ tw → c ≠ i → c ≠ j → s.heap.get? c = some o → h2.get? c = some o) → Q (.ref s.heap.objs.size) { s with heap := h2 }) :
    wpAny (model prog w) A (Builtin.«zip.__next__» ⟨[.ref u], []⟩) (fun f s2 => ∃ v, f = .done (.ret v) ∧ Q v s2) E s := by
  show wpAny _ _ (field (.ref u) 2 >>= _) _ _ _
  refine wpAny_bind (wpAny_field ku rfl (x := .bool false) rfl ?_)
  show wpAny _ _ (field (.ref u) 3 >>= _) _ _ _
  refine wpAny_bind (wpAny_field ku rfl (x := .ref ti) rfl (wpAny_bind (wpAny_seqItems kt rfl ?_)))
  show wpAny _ _ (Builtin.SmallTypes.ownedTupleIsFree (.ref u) >>= _) _ _ _
  unfold Builtin.SmallTypes.ownedTupleIsFree
  refine wpAny_bind (wpAny_bind (wpAny_field ku rfl (x := .none) rfl (wpAny_pure ?_)))
  simp only [if_true]
  refine wpAny_bind (wpAny_rule (wpAny_bind (wpAny_field ku rfl (x := .ref tw) rfl ?_)))
  refine wpAny_bind (wpAny_setField_rec ku (by simp) fun ha ka ea => ?_)
  replace ka : IsZip ha u ti tw .ellipsis := ka
  simp only [List.zipIdx_cons, List.zipIdx_nil, List.forIn_cons, List.forIn_nil]; refine wpAny_bind (wpAny_bind (wpAny_bind (wpAny_onRaise ?_)))
  show wpAny _ _ (Builtin.SmallTypes.nextOf (.ref i) >>= _) _ _ _
  refine wpAny_bind (nextB (fi.off ea.extBut D.i1z) (gp.off ea.extBut D.l1z) ex fun hb fb eb => wpAny_pure ?_)
  have kb : IsPair hb tw a b := eb.extBut _ _ D.TOi1 (ea.extBut _ _ D.TOz kw)
  refine wpAny_bind (wpAny_seqItems kb rfl (wpAny_bind (wpAny_updateSeq_pair kb fun hc kc ec => ?_)))
  replace kc : IsPair hc tw x b := kc
  refine wpAny_bind (wpAny_letGo (wpAny_pure (wpAny_bind (wpAny_bind (wpAny_onRaise ?_)))))
  show wpAny _ _ (Builtin.SmallTypes.nextOf (.ref j) >>= _) _ _ _
  refine wpAny_bind (nextB (((fj.off ea.extBut D.i2z).off eb.extBut D.i12.symm).off ec.extBut D.TOi2.symm) (((gq.off ea.extBut D.l2z).off eb.extBut D.l2i1).off ec.extBut D.l2TO) ey fun hd fd ed => wpAny_pure ?_)
  have kd : IsPair hd tw x b := ed.extBut _ _ D.TOi2 kc
  refine wpAny_bind (wpAny_seqItems kd rfl (wpAny_bind (wpAny_updateSeq_pair kd fun he ke ee => ?_)))
  replace ke : IsPair he tw x y := ke
  refine wpAny_bind (wpAny_letGo (wpAny_pure (wpAny_pure (wpAny_bind (wpAny_seqItems ke rfl (wpAny_bind (wpAny_newTuple ?_)))))))
  have size : he.objs.size = s.heap.objs.size := by rw [ee.1, ed.1, ec.1, eb.1, ea.1]
  have zu : IsZip he u ti tw .ellipsis := ee.extBut _ _ D.TOz.symm (ed.extBut _ _ D.i2z.symm (ec.extBut _ _ D.TOz.symm (eb.extBut _ _ D.i1z.symm ka)))
  have rest : ∀ c o, c ≠ u → c ≠ tw → c ≠ i → c ≠ j → s.heap.get? c = some o → he.get? c = some o := fun c o n1 n2 n3 n4 z => ee.extBut _ _ n2 (ed.extBut _ _ n4 (ec.extBut _ _ n2 (eb.extBut _ _ n3 (ea.extBut _ _ n1 z))))
  have fi2 : ItB t he i p (k + 1) := ((fb.off ec.extBut D.TOi1.symm).off ed.extBut D.i12).off ee.extBut D.TOi1.symm
  have fj2 : ItB r he j q (m + 1) := fd.off ee.extBut D.TOi2.symm
  have lu : u < he.objs.size := Heap.lt_size zu
  show wpAny _ _ (Builtin.SmallTypes.ownedTupleHandOut (.ref u) (.ref he.objs.size) >>= _) _ _ _
  unfold Builtin.SmallTypes.ownedTupleHandOut
  have zf : IsZip (he.push { cls := .type "tuple", data := .seq #[x, y] }) u ti tw .ellipsis := Heap.get?_push_of_some _ zu
  refine wpAny_bind (wpAny_bind (wpAny_setField_rec zf (by simp) fun hg kg eg => ?_))
  replace kg : IsZip hg u ti tw (rawInt he.objs.size) := kg
  refine wpAny_setField_rec kg (by simp) fun hl kl el => ?_
  replace kl : IsZip hl u ti tw (rawInt he.objs.size) := kl
  have up : ∀ c o, c ≠ u → he.get? c = some o → hl.get? c = some o := fun c o n z => el.extBut _ _ n (eg.extBut _ _ n (Heap.get?_push_of_some _ z))
  have pr : IsPair hl he.objs.size x y := el.extBut _ _ (Nat.ne_of_gt lu) (eg.extBut _ _ (Nat.ne_of_gt lu) (Heap.get?_push_size _ rfl))
  rw [size] at kl pr
  refine wpAny_pure ⟨_, rfl, ?_⟩
  show Q (.ref he.objs.size) _
  rw [size]
  exact fin hl kl (up _ _ D.TOz ke) (fi2.to fun o z => up _ o D.i1z z) (fj2.to fun o z => up _ o D.i2z z) pr fun c o n1 n2 n3 n4 z => up c o n1 (rest c o n1 n2 n3 n4 z)
theorem stopB {t r : Bool} {u ti tw i j p q : Addr} {k m : Nat} {us vs : Array Value} {a b : Value} {Q : Fin → Shared → Prop} (hn : A.handled = none) (D : ZipApart u ti tw i j p q) (ku : IsZip s.heap u ti tw .none) (kt : IsPair s.heap ti (.ref i) (.ref j)) (kw : IsPair s.heap tw a b)
    (fi : ItB t s.heap i p k) (fj : ItB r s.heap j q m) (gp : SqB t s.heap p us) (gq : SqB r s.heap q vs) (over : us[k]? = none ∨ vs[m]? = none)
    (fin : ∀ h2 e, (∀ c o, c ≠ u → c ≠ tw → c ≠ i → c ≠ j → s.heap.get? c = some o → h2.get? c = some o) → (∃ o, h2.get? e = some o ∧ o.cls = .type "StopIteration") → E (.ref e) { s with heap := h2 }) :
    wpAny (model prog w) A (Builtin.«zip.__next__» ⟨[.ref u], []⟩) Q E s := by
  show wpAny _ _ (field (.ref u) 2 >>= _) _ _ _
  refine wpAny_bind (wpAny_field ku rfl (x := .bool false) rfl ?_)
  show wpAny _ _ (field (.ref u) 3 >>= _) _ _ _
  refine wpAny_bind (wpAny_field ku rfl (x := .ref ti) rfl (wpAny_bind (wpAny_seqItems kt rfl ?_)))
  show wpAny _ _ (Builtin.SmallTypes.ownedTupleIsFree (.ref u) >>= _) _ _ _
  unfold Builtin.SmallTypes.ownedTupleIsFree
  refine wpAny_bind (wpAny_bind (wpAny_field ku rfl (x := .none) rfl (wpAny_pure ?_)))
  simp only [if_true]
  refine wpAny_bind (wpAny_rule (wpAny_bind (wpAny_field ku rfl (x := .ref tw) rfl ?_)))
  refine wpAny_bind (wpAny_setField_rec ku (by simp) fun ha ka ea => ?_)
  replace ka : IsZip ha u ti tw .ellipsis := ka
  simp only [List.zipIdx_cons, List.zipIdx_nil, List.forIn_cons, List.forIn_nil]; refine wpAny_bind (wpAny_bind (wpAny_bind (wpAny_onRaise ?_)))
  show wpAny _ _ (Builtin.SmallTypes.nextOf (.ref i) >>= _) _ _ _
  cases ex : us[k]? with
  | none =>
    refine wpAny_bind (endB hn (fi.off ea.extBut D.i1z) (gp.off ea.extBut D.l1z) ex fun hb e eb ⟨oe, ge, ce⟩ => ?_)
    have kb : IsZip hb u ti tw .ellipsis := eb _ _ D.i1z.symm ka
    have ne : e ≠ u := fun z => by
      subst z
      rw [kb] at ge
      cases ge
      simp at ce
    exact wpAny_setField_rec kb (by simp) fun hc _ ec => fin hc e (fun c o n1 _ n3 _ z => ec.extBut _ _ n1 (eb _ _ n3 (ea.extBut _ _ n1 z))) ⟨oe, ec.extBut _ _ ne ge, ce⟩
  | some x =>
    have ey : vs[m]? = none := over.resolve_left fun z => by
      rw [z] at ex
      cases ex
    refine wpAny_bind (nextB (fi.off ea.extBut D.i1z) (gp.off ea.extBut D.l1z) ex fun hb fb eb => wpAny_pure ?_)
    have kb : IsPair hb tw a b := eb.extBut _ _ D.TOi1 (ea.extBut _ _ D.TOz kw)
    refine wpAny_bind (wpAny_seqItems kb rfl (wpAny_bind (wpAny_updateSeq_pair kb fun hc kc ec => ?_)))
    refine wpAny_bind (wpAny_letGo (wpAny_pure (wpAny_bind (wpAny_bind (wpAny_onRaise ?_)))))
    show wpAny _ _ (Builtin.SmallTypes.nextOf (.ref j) >>= _) _ _ _
    refine wpAny_bind (endB hn (((fj.off ea.extBut D.i2z).off eb.extBut D.i12.symm).off ec.extBut D.TOi2.symm) (((gq.off ea.extBut D.l2z).off eb.extBut D.l2i1).off ec.extBut D.l2TO) ey fun hd e ed ⟨oe, ge, ce⟩ => ?_)
    have kd : IsZip hd u ti tw .ellipsis := ed _ _ D.i2z.symm (ec.extBut _ _ D.TOz.symm (eb.extBut _ _ D.i1z.symm ka))
    have ne : e ≠ u := fun z => by
      subst z
      rw [kd] at ge
      cases ge
      simp at ce
    exact wpAny_setField_rec kd (by simp) fun hf _ ef => fin hf e (fun c o n1 n2 n3 n4 z => ef.extBut _ _ n1 (ed _ _ n4 (ec.extBut _ _ n2 (eb.extBut _ _ n3 (ea.extBut _ _ n1 z))))) ⟨oe, ef.extBut _ _ ne ge, ce⟩
theorem pyNextB {t r : Bool} {u ti tw i j p q : Addr} {k m : Nat} {us vs : Array Value} {x y a b : Value} {Q : Option Value → Shared → Prop} (D : ZipApart u ti tw i j p q) (ku : IsZip s.heap u ti tw .none) (kt : IsPair s.heap ti (.ref i) (.ref j)) (kw : IsPair s.heap tw a b)
    (fi : ItB t s.heap i p k) (fj : ItB r s.heap j q m) (gp : SqB t s.heap p us) (gq : SqB r s.heap q vs) (ex : us[k]? = some x) (ey : vs[m]? = some y)
    (fin : ∀ h2, IsZip h2 u ti tw (rawInt s.heap.objs.size) → IsPair h2 tw x y → ItB t h2 i p (k + 1) → ItB r h2 j q (m + 1) → IsPair h2 s.heap.objs.size x y →
      (∀ c o, c ≠ u → c ≠ tw → c ≠ i → c ≠ j → s.heap.get? c = some o → h2.get? c = some o) → Q (some (.ref s.heap.objs.size)) { s with heap := h2 }) : wpAny (model prog w) A (pyNext (.ref u)) Q E s := by
  have ty : s.TypeIs (.ref u) "zip" := ⟨_, ku, rfl⟩
  unfold pyNext
  refine wpAny_bind (wpAny_attempt (wpAny_callSpecial?_slot (name := Str.ofString "__next__") ty F.slot_zip_next (wpAny_call_entry F.slot_zip_next ty F.entry_zip_next ?_ (F.args_zip_next_1 _))))
  exact stepB D ku kt kw fi fj gp gq ex ey fun h2 a1 a2 a3 a4 a5 a6 => wpAny_pure (fin h2 a1 a2 a3 a4 a5 a6)
theorem pyStopB {t r : Bool} {u ti tw i j p q : Addr} {k m : Nat} {us vs : Array Value} {a b : Value} {Q : Option Value → Shared → Prop} (hn : A.handled = none) (D : ZipApart u ti tw i j p q) (ku : IsZip s.heap u ti tw .none) (kt : IsPair s.heap ti (.ref i) (.ref j)) (kw : IsPair s.heap tw a b)
    (fi : ItB t s.heap i p k) (fj : ItB r s.heap j q m) (gp : SqB t s.heap p us) (gq : SqB r s.heap q vs) (over : us[k]? = none ∨ vs[m]? = none)
    (fin : ∀ h2, (∀ c o, c ≠ u → c ≠ tw → c ≠ i → c ≠ j → s.heap.get? c = some o → h2.get? c = some o) → Q none { s with heap := h2 }) : wpAny (model prog w) A (pyNext (.ref u)) Q E s := by
  have ty : s.TypeIs (.ref u) "zip" := ⟨_, ku, rfl⟩
  unfold pyNext
  refine wpAny_bind (wpAny_attempt (wpAny_callSpecial?_slot (name := Str.ofString "__next__") ty F.slot_zip_next (wpAny_call_entry F.slot_zip_next ty F.entry_zip_next ?_ (F.args_zip_next_1 _))))
  refine stopB hn D ku kt kw fi fj gp gq over fun h2 e kp ⟨o, ge, ce⟩ => ?_
  exact wpAny_bind (wpAny_isInstance (T := "StopIteration") (b := true) ⟨o, ge, ce⟩ isSubtype_stop (wpAny_pure (fin _ kp)))
end
/-! ### a new zip of a list and a tuple -/
abbrev zh1 (h : Heap) (l1 : Addr) : Heap := h.push { cls := .type "list_iterator", data := .fields #[.ref l1, .int 0 0] }
abbrev zh2 (h : Heap) (l1 l2 : Addr) : Heap := (zh1 h l1).push { cls := .type "tuple_iterator", data := .fields #[.ref l2, .int 0 0] }
abbrev zh3 (h : Heap) (l1 l2 : Addr) : Heap := (zh2 h l1 l2).push { cls := .type "tuple", data := .seq #[.ref h.objs.size, .ref (zh1 h l1).objs.size] }
abbrev zh4 (h : Heap) (l1 l2 : Addr) : Heap := (zh3 h l1 l2).push { cls := .type "tuple", data := .seq #[.none, .none] }
abbrev zh5 (h : Heap) (l1 l2 : Addr) : Heap := (zh4 h l1 l2).push { cls := .type "zip", data := .fields #[.none, .bool false, .bool false, .ref (zh2 h l1 l2).objs.size, .ref (zh3 h l1 l2).objs.size] }
theorem meetsM (l1 l2 : Addr) (us vs : Array Value) : Meets (Builtin.«zip.__new__» ⟨[.type "zip", .ref l1, .ref l2], []⟩) (fun _ R s => s.heap.IsList l1 us ∧ s.heap.IsTuple l2 vs ∧ R (.ok (.ret (.ref (zh4 s.heap l1 l2).objs.size))) { s with heap := zh5 s.heap l1 l2 }) :=
  .of_wp fun prog w A R s h => by
    obtain ⟨hp, g, d, tk, os⟩ := s
    obtain ⟨b1, b2, h⟩ := h
    have hsub := sub_zip
    have c1 : Heap.IsList (Shared.heap ⟨hp, g, d, tk, os⟩) l1 us := b1
    have c2 : Heap.IsTuple (Shared.heap ⟨hp.push { cls := .type "list_iterator", data := .fields #[.ref l1, .int 0 0] }, g, d, tk, os⟩) l2 vs := Heap.IsTuple.push b2 _
    wp_walk using wpAny_pyIter_list c1, wpAny_pyIter_tuple c2
    exact ⟨_, rfl, h⟩
section
variable {prog : Program} {w : World} {A : Around} {E : Value → Shared → Prop} {s : Shared}
theorem call_zipM {l1 l2 : Addr} {us vs : Array Value} {Q : Value → Shared → Prop} (b1 : s.heap.IsList l1 us) (b2 : s.heap.IsTuple l2 vs)
    (fin : ∀ h2, IsZip h2 (s.heap.objs.size + 4) (s.heap.objs.size + 2) (s.heap.objs.size + 3) .none → IsPair h2 (s.heap.objs.size + 2) (.ref s.heap.objs.size) (.ref (s.heap.objs.size + 1)) → IsPair h2 (s.heap.objs.size + 3) .none .none →
      ItB false h2 s.heap.objs.size l1 0 → ItB true h2 (s.heap.objs.size + 1) l2 0 → (∀ c o, s.heap.get? c = some o → h2.get? c = some o) → Q (.ref (s.heap.objs.size + 4)) { s with heap := h2 }) :
    wpAny (model prog w) A (call (.type "zip") [.ref l1, .ref l2]) Q E s := by
  refine callType_new F.called_zip (by decide) (F.typeCall_zip_2 _ _) (F.newCall_zip_2 _ _) (fun obj => F.args_object_init_3 obj _ _) F.entry_zip_new (meetsM l1 l2 us vs) ⟨b1, b2, ?_⟩
  have n1 : (zh1 s.heap l1).objs.size = s.heap.objs.size + 1 := Heap.size_push ..
  have n2 : (zh2 s.heap l1 l2).objs.size = s.heap.objs.size + 2 := by rw [Heap.size_push, n1]
  have n3 : (zh3 s.heap l1 l2).objs.size = s.heap.objs.size + 3 := by rw [Heap.size_push, n2]
  have n4 : (zh4 s.heap l1 l2).objs.size = s.heap.objs.size + 4 := by rw [Heap.size_push, n3]
  have up : ∀ {h : Heap} {o : Obj} {c : Addr} {ob : Obj}, h.get? c = some ob → (h.push o).get? c = some ob := fun e => Heap.get?_push_of_some _ e
  have f5 : (zh5 s.heap l1 l2).get? (zh4 s.heap l1 l2).objs.size = some _ := Heap.get?_push_size _ rfl
  have f4 : (zh5 s.heap l1 l2).get? (zh3 s.heap l1 l2).objs.size = some _ := up (Heap.get?_push_size _ rfl)
  have f3 : (zh5 s.heap l1 l2).get? (zh2 s.heap l1 l2).objs.size = some _ := up (up (Heap.get?_push_size _ rfl))
  have f2 : (zh5 s.heap l1 l2).get? (zh1 s.heap l1).objs.size = some _ := up (up (up (Heap.get?_push_size _ rfl)))
  have f1 : (zh5 s.heap l1 l2).get? s.heap.objs.size = some _ := up (up (up (up (Heap.get?_push_size _ rfl))))
  show _ ∧ _
  rw [n2, n3, n4] at f5
  rw [n1, n2] at f3
  rw [n3] at f4
  rw [n1] at f2
  rw [n4]
  exact ⟨⟨_, f5, rfl⟩, fin _ f5 f3 f4 (show Heap.IsListIter _ _ _ _ from ⟨_, f1, rfl, rfl⟩) (show Heap.IsTupleIter _ _ _ _ from ⟨_, f2, rfl, rfl⟩) fun c o e => up (up (up (up (up e))))⟩
end
/-! ### what is walked -/
def SqK (K : PySem.W.Frag) (t : Bool) (H : Hp) (a : Addr) (xs : List V) : Prop := if t = true then SqT K H a xs else SqL K H a xs
/-- the two as they stand at each turn, the items in new pairs -/
def ItM (K : PySem.W.Frag) (t r : Bool) (a b : Addr) : It :=
  ⟨fun i H => ∃ (xs ys : List V) (x y : V), SqK K t H a xs ∧ SqK K r H b ys ∧ xs[i]? = some x ∧ ys[i]? = some y,
    fun i H v H2 => ∃ T x y, v = .ref T ∧ H T = none ∧ H2 = upd H T (.tup [x, y]) ∧ (∀ xs, SqK K t H a xs → xs[i]? = some x) ∧ ∀ ys, SqK K r H b ys → ys[i]? = some y,
    fun i H => ∃ xs ys : List V, SqK K t H a xs ∧ SqK K r H b ys ∧ (xs.length ≤ i ∨ ys.length ≤ i)⟩
section
variable {X : Cx} {pins : List (Addr × Obj)} {σ : L2.St} {H : Hp} {s : Shared}
theorem sqk_get {t : Bool} {a : Addr} {xs : List V} (I : Inv X pins σ H s) (h : SqK X.K t H a xs) : ∃ its : List Value, Vals xs its ∧ SqB t s.heap a its.toArray := by
  cases t with
  | true =>
    obtain ⟨its, rv, p, _⟩ := I.tuple (show SqT X.K H a xs from h)
    exact ⟨its, rv, p⟩
  | false =>
    obtain ⟨its, rv, p, _⟩ := I.list (show SqL X.K H a xs from h)
    exact ⟨its, rv, p.isList⟩
theorem sqk_one {t : Bool} {a : Addr} {xs ys : List V} (I : Inv X pins σ H s) (h : SqK X.K t H a xs) (h' : SqK X.K t H a ys) : xs = ys := by
  cases t with
  | true => exact I.tuple_inj (show SqT X.K H a xs from h) (show SqT X.K H a ys from h')
  | false => exact I.list_inj (show SqL X.K H a xs from h) (show SqL X.K H a ys from h')
end
theorem turnM {P : Program} {w : World} {K : PySem.W.Frag} {elts : List Expr} {kk : Nat} {tpos : Pos} {t r : Bool} {a b u ti tw i1 i2 : Addr} (D : ZipApart u ti tw i1 i2 a b) :
    Turn P w K (.Tuple elts kk tpos) (ItM K t r a b) [u, ti, tw, i1, i2] u (fun i h => IsZip h u ti tw .none ∧ IsPair h ti (.ref i1) (.ref i2) ∧ (∃ x y, IsPair h tw x y) ∧ ItB t h i1 a i ∧ ItB r h i2 b i) where
  mem := by simp
  obj := fun i h ⟨ku, kt, ⟨x, y, kw⟩, f1, f2⟩ c hc => by
    obtain ⟨o1, e1, d1⟩ := f1.ob
    obtain ⟨o2, e2, d2⟩ := f2.ob
    rcases (show c = u ∨ c = ti ∨ c = tw ∨ c = i1 ∨ c = i2 by simpa using hc) with q | q | q | q | q <;> subst q
    · exact ⟨_, ku, fun v q => nomatch q⟩
    · exact ⟨_, kt, fun v q => nomatch q⟩
    · exact ⟨_, kw, fun v q => nomatch q⟩
    · exact ⟨o1, e1, fun v q => by rw [d1] at q; cases q⟩
    · exact ⟨o2, e2, fun v q => by rw [d2] at q; cases q⟩
  keep := fun i h h2 ⟨ku, kt, ⟨x, y, kw⟩, f1, f2⟩ k => ⟨k u (by simp) _ ku, k ti (by simp) _ kt, ⟨x, y, k tw (by simp) _ kw⟩, f1.to fun o q => k i1 (by simp) o q, f2.to fun o q => k i2 (by simp) o q⟩
  item := by
    intro X hP hw hK hc i pins s σ H E I hf ⟨ku, kt, ⟨x0, y0, kw⟩, f1, f2⟩ ⟨xs, ys, x, y, qx, qy, hx, hy⟩
    subst hP hw hK
    obtain ⟨its, rv, g1⟩ := sqk_get I qx
    obtain ⟨its2, rv2, g2⟩ := sqk_get I qy
    obtain ⟨v, hv, r1⟩ := rv.get hx
    obtain ⟨v2, hv2, r2⟩ := rv2.get hy
    have lu : u < s.heap.objs.size := Heap.lt_size ku
    refine pyNextB D ku kt kw f1 f2 g1 g2 (x := v) (y := v2) (by simpa using hv) (by simpa using hv2) fun h2 a1 a2 a3 a4 a5 a6 => ?_
    refine ⟨_, rfl, wpAny_letOwnedTupleGo_zip (s := { s with heap := h2 }) a1 fun h3 a7 sb => ?_⟩
    have new : ObjOk X.prog X.w (upd H s.heap.objs.size (.tup [x, y])) h3 s.heap.objs.size (.tup [x, y]) := ⟨by show 2 ≤ sizeLine; decide, [v, v2], .cons r1 (.cons r2 .nil), ⟨_, (sb.2 _ (Nat.ne_of_gt lu)).trans a5, rfl, _, rfl⟩⟩
    have I2 : Inv X pins σ (upd H s.heap.objs.size (.tup [x, y])) { s with heap := h3 } := I.turnedNew (t' := s.toks) (ch := [u, ti, tw, i1, i2]) (fun c o n q => (sb.2 c fun z => n (by simp [z])).trans (a6 c o (fun z => n (by simp [z])) (fun z => n (by simp [z])) (fun z => n (by simp [z])) (fun z => n (by simp [z])) q)) hf (Nat.le_refl _) new
    refine ⟨.ref s.heap.objs.size, _, I2, rfl, ⟨_, x, y, rfl, I.hok.fresh (Nat.le_refl _), rfl, fun l hl => by rw [sqk_one I hl qx]; exact hx, fun l hl => by rw [sqk_one I hl qy]; exact hy⟩, ⟨a7, ?_, ⟨v, v2, (sb.2 _ D.TOz).trans a2⟩, a3.to fun o q => (sb.2 _ D.i1z).trans q, a4.to fun o q => (sb.2 _ D.i2z).trans q⟩, fun c hcm => ?_⟩
    · exact (sb.2 _ D.TIz).trans (a6 _ _ D.TIz D.TITO D.TIi1 D.TIi2 kt)
    · obtain ⟨_, e1, _⟩ := f1.ob
      obtain ⟨_, e2, _⟩ := f2.ob
      have lt : c < s.heap.objs.size := by
        rcases (show c = u ∨ c = ti ∨ c = tw ∨ c = i1 ∨ c = i2 by simpa using hcm) with q | q | q | q | q <;> rw [q]
        · exact lu
        · exact Heap.lt_size kt
        · exact Heap.lt_size kw
        · exact Heap.lt_size e1
        · exact Heap.lt_size e2
      rw [upd_ne (Nat.ne_of_lt lt)]
      exact (hf c hcm).1
  done := by
    intro X hP hw hK hc i pins s σ H E I hf ⟨ku, kt, ⟨x0, y0, kw⟩, f1, f2⟩ ⟨xs, ys, qx, qy, over⟩
    subst hP hw hK
    obtain ⟨its, rv, g1⟩ := sqk_get I qx
    obtain ⟨its2, rv2, g2⟩ := sqk_get I qy
    have l1 := rv.length
    have l2 := rv2.length
    have he : its.toArray[i]? = none ∨ its2.toArray[i]? = none := over.imp (fun q => by simp; omega) fun q => by simp; omega
    exact pyStopB (I.ok.hd hc) D ku kt kw f1 f2 g1 g2 he fun h2 kp => ⟨rfl, I.turnedL (t' := s.toks) (ch := [u, ti, tw, i1, i2]) (fun c o n q => kp c o (fun z => n (by simp [z])) (fun z => n (by simp [z])) (fun z => n (by simp [z])) (fun z => n (by simp [z])) q) hf⟩
  self := fun A i s Q E st h => wpAny_pyIter_zip st.1 h
def iZipM (K : PySem.W.Frag) (ta : TA) : TI := fun σ H R => ta σ H fun vs H1 => ∃ a b xs ys, vs = [.ref a, .ref b] ∧ SqL K H1 a xs ∧ SqT K H1 b ys ∧ R (ItM K false true a b) H1
theorem pi_zipM {X : Cx} {e e2 : Expr} {ta : TA} {p pos tpos : Pos} {elts : List Expr} {kk : Nat} (hg : Gl X "zip") (hm : X.mg "zip" = none) (ha : PA X [e, e2] ta)
    (hs : starEach [e, e2] X.env = (false, eval e X.env) :: starEach [e2] X.env := by rfl) (hpl : (backTo pos (starEach [e2] X.env)).any (·.1) = false := by rfl) : PI X (.Tuple elts kk tpos) (.Call (.Name "zip" p) [e, e2] [] pos) (iZipM X.K ta) := by
  refine ⟨fun pins s σ H R I h => ?_⟩
  refine Call_ (ld_blt I hg hm PyProof.Rows.boot_zip (PyProof.Rows.callWith_type1 (thn (ha.run pos pins s σ H _ I h) fun us s1 ⟨vs, H1, I1, r1, q1⟩ => ?_) hs hpl))
  obtain ⟨a, b, xs, ys, ex, qx, qy, q⟩ := q1
  subst ex
  obtain ⟨u1, u2, rfl, ru1, ru2⟩ : ∃ u1 u2, us = [u1, u2] ∧ RelV (.ref a) u1 ∧ RelV (.ref b) u2 := by
    cases r1 with
    | cons m1 r1 =>
      cases r1 with
      | cons m2 r1 =>
        cases r1
        exact ⟨_, _, rfl, m1, m2⟩
  cases ru1
  cases ru2
  have fresh : ∀ c, c ∈ [s1.heap.objs.size + 4, s1.heap.objs.size + 2, s1.heap.objs.size + 3, s1.heap.objs.size, s1.heap.objs.size + 1] → FpOk X pins H1 c := fun c hcm => by
    have le : s1.heap.objs.size ≤ c := by
      rcases (show c = s1.heap.objs.size + 4 ∨ c = s1.heap.objs.size + 2 ∨ c = s1.heap.objs.size + 3 ∨ c = s1.heap.objs.size ∨ c = s1.heap.objs.size + 1 by simpa using hcm) with z | z | z | z | z <;> rw [z] <;> first | exact Nat.le_refl _ | exact Nat.le_add_right _ _
    exact I1.fpOk le (I1.hok.fresh le)
  obtain ⟨its, _, p1, _⟩ := I1.list qx
  obtain ⟨its2, _, p2, _⟩ := I1.tuple qy
  obtain ⟨o2, ho2, _⟩ := id p2
  refine call_zipM p1.isList (show s1.heap.IsTuple b its2.toArray from p2) fun h2 a1 a2 a3 a4 a5 a6 => wpAny_pyIter_zip a1 ?_
  have I2 : Inv X pins σ H1 { s1 with heap := h2 } := I1.kept (t' := s1.toks) a6
  exact ⟨_, _, _, _, H1, rfl, I2, turnM (PySem.W.ktu_apart s1.heap.objs.size a b p1.lt (Heap.lt_size ho2)), ⟨a1, a2, ⟨_, _, a3⟩, a4, a5⟩, fresh, q⟩
end MZ
namespace DL
open PySem PySem.Spec PyProof.Rows L2 Evl
variable [TabC]
theorem sqk_mono {K : PySem.W.Frag} {H H' : Hp} {t : Bool} {a : Addr} {xs : List V} (e : Ex H H') (h : MZ.SqK K t H a xs) : MZ.SqK K t H' a xs := by
  cases t with
  | true => exact ex_t e h
  | false => exact ex_l e h
theorem walks_zipM {K : PySem.W.Frag} {Hd : Hp} {t r : Bool} {q q' : Addr} {us vs : List V} {xs ys : List D} (h : MZ.SqK K t Hd q us) (h' : MZ.SqK K r Hd q' vs) (hr : RpL K Hd us xs) (hr' : RpL K Hd vs ys) : Walks K Hd (MZ.ItM K t r q q') (zipD xs ys) := fun F i H2 Hd2 G2 e s => by
  have hH : MZ.SqK K t H2 q us := sqk_mono (e.trans s.sub) h
  have hH' : MZ.SqK K r H2 q' vs := sqk_mono (e.trans s.sub) h'
  refine ⟨fun d hd => ?_, fun hl => ⟨us, vs, hH, hH', ?_⟩⟩
  · obtain ⟨x, y, hx, hy, rfl⟩ := zip_at hd
    obtain ⟨v, hv, rv⟩ := hr.at hx
    obtain ⟨u, hu, ru⟩ := hr'.at hy
    refine ⟨⟨us, vs, v, u, hH, hH', hv, hu⟩, fun w H3 ⟨T, v', u', ew, hT, eH, h1, h2⟩ => ?_⟩
    subst ew eH
    cases Option.some.inj (hv.symm.trans (h1 us hH))
    cases Option.some.inj (hu.symm.trans (h2 vs hH'))
    exact ⟨_, s.exn hT, s.new hT, .tup st_new (.cons ((rv.mono e).mono (s.exn hT)) (.cons ((ru.mono e).mono (s.exn hT)) .nil))⟩
  · unfold zipD at hl
    rw [List.length_zipWith] at hl
    have := hr.length
    have := hr'.length
    omega
/-- zip of a list and a tuple -/
def dIZipM (dA : DA) : DI := fun ρ G S => dA ρ G fun vs G1 => ∃ xs ys, vs = [.lst xs, .tup ys] ∧ S (zipD xs ys) G1
theorem pid_zipM {X : Cx} {B : Bs} {p pos : Pos} {a b : Expr} {dA : DA} {elts : List Expr} {kk : Nat} {tpos : Pos} (hg : Gl X "zip") (hm : X.mg "zip" = none) (ha : PA X [a, b] (upA X.K B dA)) (hs : starEach [a, b] X.env = (false, eval a X.env) :: starEach [b] X.env := by rfl) (hpl : (backTo pos (starEach [b] X.env)).any (·.1) = false := by rfl) :
    PI X (.Tuple elts kk tpos) (.Call (.Name "zip" p) [a, b] [] pos) (upI X.K B (dIZipM dA)) := pi_imp (MZ.pi_zipM hg hm ha hs hpl) fun σ H R ⟨ρ, Hd, G, S, at_, h, k⟩ =>
  ⟨ρ, Hd, G, _, at_, h, fun vs H1 Hd1 xs G1 e1 s1 r1 ⟨l, m, hv, h1⟩ => by
    subst hv
    obtain ⟨v, u, rfl, rv, ru⟩ := rpl2 r1
    cases rv with
    | lst q r =>
      cases ru with
      | tup q' r' => exact ⟨_, _, _, _, rfl, ex_l s1.sub q, ex_t s1.sub q', k _ H1 Hd1 _ G1 e1 s1 (walks_zipM (t := false) (r := true) q q' r r') h1⟩⟩
end DL
namespace DL
open PySem PySem.Spec PyProof.Rows L2 Evl
variable [TabC]
/-- a comprehension in a comprehension -/
theorem pd_lcI {X0 : Cx} {s0 : Shared} {H0 : Hp} {scope0 : Scope} {C0 : Addr} {cl0 : List (Str × Addr)} {fp0 : List Addr} {B : Bs} {pos : Pos} {elt tg iter : Expr} {ifs : List Expr} {scope : Scope} {own : List (Str × Nat)} {di : DI} {g : DG} {t : DT} {de : DE} {js : List Nat} (hc : (X0.blk s0 H0 scope0 (compEnvC scope0 cl0 C0 X0.env) fp0).calm = true) (hN : X0.N.Nodup)
    (hi : PI (X0.blk s0 H0 scope0 (compEnvC scope0 cl0 C0 X0.env) fp0) tg iter (upI X0.K B di)) (ok : BlkOk X0.N (relS scope0 X0.env.scope) scope own) (hj : ∀ j ∈ js, j ∈ own.map (·.2))
    (hg : ∀ (B : Bs) (s : Shared) (H : Hp) (C : Addr) (cl : List (Str × Addr)) (fp : List Addr), PG ((X0.blk s0 H0 scope0 (compEnvC scope0 cl0 C0 X0.env) fp0).blk s H scope (compEnvC scope cl C (compEnvC scope0 cl0 C0 X0.env)) fp) tg (upG X0.K B js g))
    (ht : ∀ (B : Bs) (s : Shared) (H : Hp) (C : Addr) (cl : List (Str × Addr)) (fp : List Addr), PTs ((X0.blk s0 H0 scope0 (compEnvC scope0 cl0 C0 X0.env) fp0).blk s H scope (compEnvC scope cl C (compEnvC scope0 cl0 C0 X0.env)) fp) ifs (upT X0.K B t))
    (he : ∀ (B : Bs) (s : Shared) (H : Hp) (C : Addr) (cl : List (Str × Addr)) (fp : List Addr), PE ((X0.blk s0 H0 scope0 (compEnvC scope0 cl0 C0 X0.env) fp0).blk s H scope (compEnvC scope cl C (compEnvC scope0 cl0 C0 X0.env)) fp) elt (upE X0.K B de))
    (hs : ∀ x, foldedSetIterable iter (X0.blk s0 H0 scope0 (compEnvC scope0 cl0 C0 X0.env) fp0).env x = pure x := by intro _; rfl) :
    PE (X0.blk s0 H0 scope0 (compEnvC scope0 cl0 C0 X0.env) fp0) (.ListComp elt [⟨tg, iter, ifs, 0⟩] scope pos) (upE X0.K B (dCmp di g t de (own.map (·.2)))) :=
  pd_lc (X := X0.blk s0 H0 scope0 (compEnvC scope0 cl0 C0 X0.env) fp0) hc hN hi ok hj hg ht he hs
end DL

/-! DL19: lists that are drawn; filters that let nothing through; texts of rows. -/
namespace DL
open PySem PySem.Spec PyProof.Rows L2 Evl
variable [TabC]

/-- item by item -/
def AllR (P : D → D → Prop) : List D → List D → Prop
  | [], [] => True
  | x :: xs, y :: ys => P x y ∧ AllR P xs ys
  | _, _ => False
theorem AllR.len {P : D → D → Prop} : ∀ {xs ys : List D}, AllR P xs ys → xs.length = ys.length
  | [], [], _ => rfl
  | _ :: _, _ :: _, h => congrArg (· + 1) (AllR.len h.2)
  | [], _ :: _, h => h.elim
  | _ :: _, [], h => h.elim
theorem AllR.map {α : Type} {P : D → D → Prop} {f g : D → α} (hp : ∀ x y, P x y → f x = g y) : ∀ {xs ys : List D}, AllR P xs ys → xs.map f = ys.map g
  | [], [], _ => rfl
  | x :: xs, y :: ys, h => by
    rw [List.map_cons, List.map_cons, hp x y h.1, AllR.map hp h.2]
  | [], _ :: _, h => h.elim
  | _ :: _, [], h => h.elim
theorem AllR.right {P : D → D → Prop} {Q : D → Prop} (hp : ∀ x y, P x y → Q y) : ∀ {xs ys : List D}, AllR P xs ys → ∀ y ∈ ys, Q y
  | [], [], _, y, hy => nomatch hy
  | x :: xs, z :: ys, h, y, hy => by
    rcases List.mem_cons.mp hy with e | e
    · rw [e]
      exact hp x z h.1
    · exact AllR.right hp h.2 y e
  | [], _ :: _, h, _, _ => h.elim
  | _ :: _, [], h, _, _ => h.elim
theorem cmpL_drw {ρ0 : En} {i k : Nat} {a : Addr} {de : DE} {S : List D → Gm → Prop} (P : D → D → Prop) : ∀ {xs acc : List D} {G : Gm} {T : Nat}, (∀ x ∈ xs, Drw de (ρ0.set i (some x)) a k (P x)) → GauAt G a T → T + xs.length * k ≤ 1000000000 → acc.length + xs.length ≤ sizeLine →
    (∀ ys m, AllR P xs ys → Gau m (T + xs.length * k) → S (acc ++ ys) (gup G a m)) → cmpL ρ0 (gN i) dYes de xs acc G S
  | [], acc, G, T, _, ⟨m, hg, hm⟩, _, _, h => by
    have := h [] m trivial (by rw [List.length_nil, Nat.zero_mul]; exact hm)
    rw [List.append_nil, gup_self hg] at this
    exact this
  | x :: xs, acc, G, T, hd, hg, ht, hz, h => by
    rw [List.length_cons] at ht hz
    have e : (xs.length + 1) * k = xs.length * k + k := Nat.succ_mul _ _
    refine hd x List.mem_cons_self G T (fun y G3 => acc.length < sizeLine ∧ cmpL ρ0 (gN i) dYes de xs (acc ++ [y]) G3 S) hg (by omega) fun y m hy hm => ⟨by omega, ?_⟩
    refine cmpL_drw P (T := T + k) (fun z hz => hd z (List.mem_cons_of_mem _ hz)) (gau_gup hm) (by omega) (by rw [List.length_append, List.length_singleton]; omega) fun ys m2 hys hm2 => ?_
    rw [gup_gup, List.append_assoc, List.singleton_append]
    exact h (y :: ys) m2 ⟨hy, hys⟩ (by rw [List.length_cons, e]; exact hm2.mono (by omega))
section
variable {ρ : En} {G : Gm} {a : Addr} {j k : Nat} {da db dc : DE} {P : D → Prop}
/-- [e for x in a list], e draws -/
theorem Drw.lcSeq {i : Nat} {vs : List Nat} {xs : List D} {x : D} (P : D → D → Prop) (ha : ∀ G, Ev da ρ G x) (hx : x = .lst xs ∨ x = .tup xs) (hd : ∀ y ∈ xs, Drw db ((wipeD ρ vs).set i (some y)) a k (P y)) (hz : xs.length ≤ sizeLine) :
    Drw (dCmp (dISeq da) (gN i) dYes db vs) ρ a (xs.length * k) (fun z => ∃ ys, z = .lst ys ∧ AllR P xs ys) := fun G T R hg ht r =>
  ha G _ ⟨xs, hx, cmpL_drw P hd hg ht (by rw [List.length_nil]; omega) fun ys m hys hm => r _ m ⟨ys, rfl, hys⟩ hm⟩
/-- [e for _ in range(n)], both draw -/
theorem Drw.lcRng {i : Nat} {vs : List Nat} {lo N : Nat} (ha : Drw da ρ a j (fun x => ∃ n : Nat, x = .int n ∧ lo ≤ n ∧ n ≤ N)) (hd : ∀ y, Drw db ((wipeD ρ vs).set i (some y)) a k P) (hz : N ≤ 1000000) :
    Drw (dCmp (dIRng1 da) (gN i) dYes db vs) ρ a (j + N * k) (fun z => ∃ ys, z = .lst ys ∧ lo ≤ ys.length ∧ ys.length ≤ N ∧ ∀ y ∈ ys, P y) := fun G T R hg ht r => by
  refine ha G T _ hg (by omega) fun x m ⟨n, e, l1, l2⟩ hm => ?_
  subst e
  have hl : (rngD 0 (n : Int).toNat).length = n := by
    unfold rngD
    rw [List.length_map, List.length_range]
    rfl
  have hnk : n * k ≤ N * k := Nat.mul_le_mul_right _ l2
  refine ⟨n, rfl, by omega, by omega, ?_⟩
  refine cmpL_drw (k := k) (fun _ => P) (fun x _ => hd x) (gau_gup hm) (by rw [hl]; omega) (by rw [hl, List.length_nil, sizeLine_eq]; omega) fun ys m2 hys hm2 => ?_
  rw [gup_gup]
  have h2 := hys.len
  rw [hl] at h2 hm2
  exact r _ m2 ⟨ys, rfl, by omega, by omega, AllR.right (P := fun _ => P) (fun _ _ h => h) hys⟩ (hm2.mono (by omega))
theorem Drw.ifT {PB : Bool → Prop} (ht : Drw da ρ a j (fun x => ∃ b, x = .bl b ∧ PB b)) (h1 : ∀ b, PB b → if b = true then Drw db ρ a k P else Drw dc ρ a k P) : Drw (dIf (dTst da) db dc) ρ a (j + k) P := fun G T R hg htt r =>
  ht G T _ hg (by omega) fun x m ⟨b, e, hb⟩ hm => by
    subst e
    refine ⟨b, rfl, ?_⟩
    have h := h1 b hb
    cases b with
    | true =>
      refine h _ (T + j) _ (gau_gup hm) (by omega) fun x2 m2 p2 hm2 => ?_
      rw [gup_gup]
      exact r x2 m2 p2 (hm2.mono (by omega))
    | false =>
      refine h _ (T + j) _ (gau_gup hm) (by omega) fun x2 m2 p2 hm2 => ?_
      rw [gup_gup]
      exact r x2 m2 p2 (hm2.mono (by omega))
theorem Drw.eq0 {n i : Int} {v : Nat} (hi : ρ[v]? = some (some (.ref a))) (h1 : 1 ≤ n := by decide) (h2 : n < 2 ^ 8000 := by decide +kernel) : Drw (dOp fEq (dCall spDial X0 (dCons (dVar v) (dCons (dC (.int n)) dNil))) (dC (.int i))) ρ a 1 (fun x => ∃ b, x = .bl b ∧ True) :=
  (Drw.op (j := 1) (k := 0) (Drw.dial hi (fun _ => .c) h1 h2) (.ev (fun _ => .c) (rfl : D.int i = .int i)) fun x y ⟨u, e, _⟩ e2 => by
    subst e e2
    exact ⟨_, rfl, _, rfl, trivial⟩)
/-- lo <= x <= hi of ints -/
theorem Ev.chain {i u l : Int} (ha : Ev da ρ G (.int i)) (hb : Ev db ρ G (.int u)) (hc : Ev dc ρ G (.int l)) : Ev (dChain (fInt gLe) (fInt gLe) da db dc) ρ G (.bl (decide (i ≤ u) && decide (u ≤ l))) := fun R r => ha _ (hb _ ⟨decide (i ≤ u), ⟨i, u, rfl, rfl, rfl⟩, by
  split
  · rename_i h
    rw [h, Bool.true_and] at r
    exact hc _ ⟨_, ⟨u, l, rfl, rfl, rfl⟩, r⟩
  · rename_i h
    rw [Bool.eq_false_iff.mpr h, Bool.false_and] at r
    exact r⟩)
end
/-- a filter that lets nothing through -/
theorem cmpL_none {ρ0 : En} {g : DG} {t : DT} {de : DE} {S : List D → Gm → Prop} {G : Gm} : ∀ {xs acc : List D}, (∀ x ∈ xs, ∀ N : En → Bool → Gm → Prop, (∀ ρ1, N ρ1 false G) → g x ρ0 G fun ρ1 G1 => t ρ1 G1 (N ρ1)) → S acc G → cmpL ρ0 g t de xs acc G S
  | [], acc, _, h => h
  | x :: xs, acc, hf, h => by
    have all := cmpL_none (t := t) (de := de) (S := S) (acc := acc) (fun y hy => hf y (List.mem_cons_of_mem _ hy)) h
    exact hf x List.mem_cons_self (fun ρ1 k G2 => if k = true then de ρ1 G2 fun y G3 => acc.length < sizeLine ∧ cmpL ρ0 g t de xs (acc ++ [y]) G3 S else cmpL ρ0 g t de xs acc G2 S) fun ρ1 => by
      rw [if_neg (by decide)]
      exact all
/-- rows of ints of no great size can be shown -/
def Fi (i : Int) : Prop := i.natAbs < 10 ^ 560
theorem fit_ints : ∀ {is : List Int}, (∀ i ∈ is, Fi i) → D.fitL (is.map D.int) = true
  | [], _ => rfl
  | i :: is, h => by
    show (decide (i.natAbs < 10 ^ 560) && D.fitL (is.map D.int)) = true
    rw [fit_ints fun j hj => h j (List.mem_cons_of_mem _ hj), decide_eq_true (show i.natAbs < 10 ^ 560 from h i List.mem_cons_self)]
    rfl
theorem sz_ints (is : List Int) : D.szL (is.map D.int) = is.length := by
  induction is with
  | nil => rfl
  | cons i is ih =>
    show 1 + D.szL (is.map D.int) = is.length + 1
    omega
theorem shw_tupI {is : List Int} (h : ∀ i ∈ is, Fi i) (hl : is.length ≤ 10000) : Shw (tupI is) := ⟨fit_ints h, by show D.dpL _ + 1 ≤ 60; rw [dp_ints]; decide, by show D.szL _ + 1 ≤ 27000; rw [sz_ints]; omega⟩
structure Row (m : Nat) (is : List Int) : Prop where
  f : ∀ i ∈ is, Fi i
  l : is.length ≤ m
theorem rows_all {m : Nat} : ∀ {iss : List (List Int)}, (∀ is ∈ iss, Row m is) → D.fitL (iss.map tupI) = true ∧ D.dpL (iss.map tupI) ≤ 1 ∧ D.szL (iss.map tupI) ≤ iss.length * (m + 1)
  | [], _ => ⟨rfl, Nat.zero_le _, Nat.zero_le _⟩
  | is :: iss, h => by
    obtain ⟨h1, h2, h3⟩ := rows_all fun j hj => h j (List.mem_cons_of_mem _ hj)
    have r := h is List.mem_cons_self
    refine ⟨?_, ?_, ?_⟩
    · show (D.fitL (is.map D.int) && D.fitL (iss.map tupI)) = true
      rw [fit_ints r.f, h1]
      rfl
    · show max (D.dpL (is.map D.int) + 1) (D.dpL (iss.map tupI)) ≤ 1
      rw [dp_ints]
      omega
    · show D.szL (is.map D.int) + 1 + D.szL (iss.map tupI) ≤ (iss.length + 1) * (m + 1)
      rw [sz_ints, Nat.succ_mul]
      have := r.l
      omega
/-- [x, x] of a tuple of rows -/
theorem rep_rows2 {m : Nat} {iss : List (List Int)} (h : ∀ is ∈ iss, Row m is) (hm : iss.length * (m + 1) ≤ 13000) : RepOk (.lst [.tup (iss.map tupI), .tup (iss.map tupI)]) := by
  obtain ⟨h1, h2, h3⟩ := rows_all h
  refine .inl ⟨?_, ?_, ?_⟩
  · show (D.fitL (iss.map tupI) && (D.fitL (iss.map tupI) && true)) = true
    rw [h1]
    rfl
  · show max (D.dpL (iss.map tupI) + 1) (max (D.dpL (iss.map tupI) + 1) 0) + 1 ≤ 60
    omega
  · show D.szL (iss.map tupI) + 1 + (D.szL (iss.map tupI) + 1 + 0) + 1 ≤ 27000
    omega
theorem rep_row2 {m : Nat} {is : List Int} (h : Row m is) (hm : m ≤ 10000) : RepOk (.lst [tupI is, tupI is]) := by
  refine .inl ⟨?_, ?_, ?_⟩
  · show (D.fitL (is.map D.int) && (D.fitL (is.map D.int) && true)) = true
    rw [fit_ints h.f]
    rfl
  · show max (D.dpL (is.map D.int) + 1) (max (D.dpL (is.map D.int) + 1) 0) + 1 ≤ 60
    rw [dp_ints]
    decide
  · show D.szL (is.map D.int) + 1 + (D.szL (is.map D.int) + 1 + 0) + 1 ≤ 27000
    rw [sz_ints]
    have := h.l
    omega
theorem labsT_rows {ds : List D} {first : Int} {n : Nat} : labsT ds first n = ((List.range n).map fun i : Nat => labs ds (first + i)).map tupI := by
  unfold labsT
  rw [List.map_map]
  rfl
/-- labels grow by one at most -/
theorem lab_step {a b p : Int} (hb : 0 < b) : 0 ≤ (p * a / b - (p - 1) * a / b) - a / b ∧ (p * a / b - (p - 1) * a / b) - a / b ≤ if decide (1 < b) then 1 else 0 := by
  have e0 : p * a = ((p - 1) * a % b + a % b) + ((p - 1) * a / b + a / b) * b := by
    have h1 := Int.emod_add_mul_ediv ((p - 1) * a) b
    have h2 := Int.emod_add_mul_ediv a b
    grind
  have e1 : p * a / b = ((p - 1) * a % b + a % b) / b + ((p - 1) * a / b + a / b) := by
    conv => lhs; rw [e0]
    exact Int.add_mul_ediv_right _ _ (by omega)
  have r1 := Int.emod_nonneg ((p - 1) * a) (show b ≠ 0 by omega)
  have r2 := Int.emod_lt_of_pos ((p - 1) * a) hb
  have r3 := Int.emod_nonneg a (show b ≠ 0 by omega)
  have r4 := Int.emod_lt_of_pos a hb
  have q0 : 0 ≤ ((p - 1) * a % b + a % b) / b := Int.ediv_nonneg (by omega) (by omega)
  have q1 : ((p - 1) * a % b + a % b) / b < 2 := Int.ediv_lt_of_lt_mul hb (by omega)
  rw [e1]
  refine ⟨by omega, ?_⟩
  by_cases h : 1 < b
  · rw [if_pos (decide_eq_true h)]
    omega
  · rw [if_neg (by simpa using h)]
    have b1 : b = 1 := by omega
    subst b1
    omega
def facR : DS := (dSeq (dPar 0 1 (dCons (dCal fAbs (dCons (dVar 0) dNil)) (dCons (dCal fAbs (dCons (dVar 1) dNil)) dNil))) (dSeq (dWhile (dTst (dOp (fInt gGt) (dVar 1) (dC (.int 0)))) (dPar 0 1 (dCons (dVar 1) (dCons (dOp (fIntC (fun _ j => 0 < j) fun i j => .int (i % j)) (dCal fIntOf (dCons (dVar 0) dNil)) (dVar 1)) dNil)))) (dRet (dVar 0))))
theorem fac_ok (xs : List D) (G : Gm) (R : KD) (RX : XD) (h : sp_common xs G R RX) : facR { nx := fun _ G => R .non G, rt := R } (xs.map some ++ List.replicate (2 - xs.length) none) G := by
  obtain ⟨i, j, rfl, h⟩ := h
  refine ds_par (.absN (.var rfl)) (.absN (.var rfl)) ?_
  refine while_gcd (by decide) (fun ρ G p h => .intOf (.var h)) rfl rfl fun ρ' h1 => ?_
  exact ds_ret (.var h1) h
end DL

/-! DL20: range of ints of any size. -/
namespace DL
open PySem PySem.Spec PyProof.Rows L2 Evl
variable [TabC]

theorem turn_long {P : Program} {w : World} {K : PySem.W.Frag} {tg : Expr} (q : Addr) (lo : Int) (n : Nat) : Turn P w K tg (Itr lo n) [q] q (fun i h => IsLongIter h q (lo + (i : Nat) * 1) ((n : Int) - (i : Nat)) 1) where
  mem := by simp
  obj := fun i h st b hb => by
    cases List.mem_singleton.mp hb
    exact ⟨_, st, fun v z => nomatch (show Data.fields _ = Data.cell v from z)⟩
  keep := fun i h h2 st k => k q (by simp) _ st
  item := by
    intro X hP hw hK hc i pins s σ H E I hf st hg
    subst hP hw hK
    obtain ⟨f0, f1, _, f3, f4, f5⟩ := hf q (by simp)
    have lt : i < n := hg
    refine wpAny_pyNext_long_item st (by omega) fun h2 st2 sb => ?_
    have e1 : lo + ((i : Nat) : Int) * 1 + 1 = lo + ((i + 1 : Nat) : Int) * 1 := by omega
    have e2 : (n : Int) - ((i : Nat) : Int) - 1 = (n : Int) - ((i + 1 : Nat) : Int) := by omega
    rw [e1, e2] at st2
    have I2 : Inv X pins σ H { s with heap := h2, toks := s.toks + 1 } := I.turned (fun b o hb e => sb.extBut b o hb e) f0 f1 f3 f4 f5
    refine ⟨_, rfl, go_of (s := { s with heap := h2, toks := s.toks + 1 }) (n := "longrange_iterator") st2 rfl rfl (by decide) ⟨.int (lo + i), H, I2, ⟨s.toks, by rw [Int.mul_one]⟩, ⟨rfl, rfl⟩, st2, fun b hb => (hf b hb).1⟩⟩
  done := by
    intro X hP hw hK hc i pins s σ H E I hf st hg
    subst hP hw hK
    obtain ⟨f0, f1, _, f3, f4, f5⟩ := hf q (by simp)
    have ge : n ≤ i := hg
    exact wpAny_pyNext_long_end (I.ok.hd hc) st (by omega) fun h2 eb => ⟨rfl, I.turned (t' := s.toks) (fun b o hb e => eb b o hb e) f0 f1 f3 f4 f5⟩
  self := fun _ _ _ _ _ st h => wpAny_pyIter_longiter st h
theorem range_any {X : Cx} {tg : Expr} {pins : List (Addr × Obj)} {σ : L2.St} {H : Hp} {s : Shared} {R : It → Hp → Prop} {E : Value → Shared → Prop} {lo hi : Int} {t u v : Tok} {tk : Nat} (I : Inv X pins σ H s) (q : R (Itr lo (hi - lo).toNat) H) :
    wpAny (model X.prog X.w) X.A (pyIter (.ref s.heap.objs.size)) (PIE X pins σ tg R) E { s with heap := s.heap.push { cls := .type "range", data := .fields #[.int lo t, .int hi u, .int 1 v] }, toks := tk } := by
  have I1 : Inv X pins σ H { s with heap := s.heap.push { cls := .type "range", data := .fields #[.int lo t, .int hi u, .int 1 v] }, toks := tk } := I.kept fun b o e => Heap.get?_push_of_some _ e
  have e1 : lo + ((0 : Nat) : Int) * 1 = lo := by simp
  have e2 : (((hi - lo).toNat : Nat) : Int) - ((0 : Nat) : Int) = Builtin.Range.rangeSize lo hi 1 := by
    rw [rangeSize_one]
    split <;> omega
  have fp : ∀ b ∈ [(s.heap.push { cls := .type "range", data := .fields #[.int lo t, .int hi u, .int 1 v] }).objs.size], FpOk X pins H b := fun b hb => by
    cases List.mem_singleton.mp hb
    exact I1.fpOk (Nat.le_refl _) (I1.hok.fresh (Nat.le_refl _))
  cases hs : Builtin.Range.small lo hi 1 with
  | true =>
    refine wpAny_pyIter_range (IsRange.new ..) hs ?_
    refine ⟨_, _, _, _, H, rfl, I1.kept (t' := tk) fun b o e => Heap.get?_push_of_some _ e, turn_range _ lo (hi - lo).toNat, ?_, fp, q⟩
    show IsRangeIter _ _ (lo + ((0 : Nat) : Int) * 1) ((((hi - lo).toNat : Nat) : Int) - ((0 : Nat) : Int)) 1
    rw [e1, e2]
    exact Heap.get?_push_size _ rfl
  | false =>
    refine wpAny_pyIter_longrange (IsRange.new ..) hs ?_
    refine ⟨_, _, _, _, H, rfl, I1.kept (t' := tk) fun b o e => Heap.get?_push_of_some _ e, turn_long _ lo (hi - lo).toNat, ?_, fp, q⟩
    show IsLongIter _ _ (lo + ((0 : Nat) : Int) * 1) ((((hi - lo).toNat : Nat) : Int) - ((0 : Nat) : Int)) 1
    rw [e1, e2]
    exact Heap.get?_push_size _ rfl
def iRng2L (ta : TA) : TI := fun σ H R => ta σ H fun vs H1 => ∃ i j : Int, vs = [.int i, .int j] ∧ R (Itr i (j - i).toNat) H1
theorem pi_range2L {X : Cx} {tg a b : Expr} {ta : TA} {p pos : Pos} (hg : Gl X "range") (hm : X.mg "range" = none) (ha : PA X [a, b] ta) (hs : starEach [a, b] X.env = [(false, eval a X.env), (false, eval b X.env)] := by rfl) (hs2 : starEach [b] X.env = [(false, eval b X.env)] := by rfl) :
    PI X tg (.Call (.Name "range" p) [a, b] [] pos) (iRng2L ta) := by
  refine ⟨fun pins s σ H R I h => ?_⟩
  refine Call_ (ld_blt I hg hm boot_range (PyProof.Rows.callWith_type1 (thn (ha.run pos pins s σ H _ I h) fun us s1 ⟨vs, H1, I1, r1, i, j, e, q⟩ => ?_) (by rw [hs, hs2]) (by rw [hs2]; rfl)))
  subst e
  obtain ⟨u1, u2, rfl, ⟨t, rfl⟩, ⟨t2, rfl⟩⟩ : ∃ u1 u2, us = [u1, u2] ∧ (∃ t, u1 = Value.int i t) ∧ (∃ t, u2 = Value.int j t) := by
    cases r1 with
    | cons m1 r1 =>
      cases r1 with
      | cons m2 r1 =>
        cases r1
        exact ⟨_, _, rfl, m1, m2⟩
  exact call_range_2 (range_any I1 q)
def dIRngL (da db : DE) : DI := fun ρ G S => da ρ G fun x G1 => db ρ G1 fun y G2 => ∃ i j, x = .int i ∧ y = .int j ∧ S (rngD i (j - i).toNat) G2
theorem pid_rngL {X : Cx} {B : Bs} {tg a b : Expr} {da db : DE} {p pos : Pos} (hg : Gl X "range") (hm : X.mg "range" = none) (ha : PE X a (upE X.K B da)) (hb : PE X b (upE X.K B db)) (hs : starEach [a, b] X.env = [(false, eval a X.env), (false, eval b X.env)] := by rfl) (hs2 : starEach [b] X.env = [(false, eval b X.env)] := by rfl) :
    PI X tg (.Call (.Name "range" p) [a, b] [] pos) (upI X.K B (dIRngL da db)) :=
  pi_imp (pi_range2L hg hm (pda_cons ha (pda_cons hb pda_nil hs2) (by rw [hs, hs2])) hs hs2) fun σ H R ⟨ρ, Hd, G, S, at_, h, k⟩ =>
    ⟨ρ, Hd, G, fun xs G1 => ∃ i j, xs = [.int i, .int j] ∧ S (rngD i (j - i).toNat) G1, at_, by
      show da ρ G fun x G1 => db ρ G1 _
      refine cast (congrArg (da ρ G) (funext fun x => funext fun G1 => congrArg (db ρ G1) (funext fun y => funext fun G2 => propext ⟨fun ⟨i, j, e, e2, r⟩ => ⟨i, j, by rw [e, e2], r⟩, fun ⟨i, j, e, r⟩ => ?_⟩))) h
      injection e with e e2
      injection e2 with e2 _
      exact ⟨i, j, e, e2, r⟩, fun vs H1 Hd1 xs G1 e1 s1 r1 ⟨i, j, ex, h1⟩ => by
      subst ex
      obtain ⟨v, u, rfl, rv, ru⟩ := rpl2 r1
      cases rv
      cases ru
      exact ⟨i, j, rfl, k _ H1 Hd1 _ G1 e1 s1 walks_rng h1⟩⟩
/-- the list of f(0), f(1), .. over range(i, i + n) -/
theorem Ev.lcRngL {ρ : En} {G : Gm} {da db de : DE} {v : Nat} {vs : List Nat} {i : Int} {n : Nat} (f : Nat → D) (ha : Ev da ρ G (.int i)) (hb : Ev db ρ G (.int (i + n))) (hf : ∀ j : Nat, j < n → Ev de ((wipeD ρ vs).set v (some (.int (i + j)))) G (f j)) (hz : n ≤ sizeLine) : Ev (dCmp (dIRngL da db) (gN v) dYes de vs) ρ G (.lst ((List.range n).map f)) := fun R r => by
  refine ha _ (hb _ ⟨i, i + n, rfl, rfl, ?_⟩)
  have en : (i + (n : Int) - i).toNat = n := by omega
  rw [en]
  refine cmpL_map (fun d => match d with | .int j => f (j - i).toNat | _ => .non) (fun y hy S' hS => ?_) ?_ ?_
  · obtain ⟨j, hj, rfl⟩ := List.mem_map.mp hy
    have hj2 := List.mem_range.mp hj
    refine hf j hj2 _ ?_
    have e0 : (i + (j : Nat) - i).toNat = j := by omega
    have hS2 : S' (f (i + (j : Nat) - i).toNat) G := hS
    rw [e0] at hS2
    exact hS2
  · unfold rngD
    rw [List.length_map, List.length_range, List.length_nil]
    omega
  · have e : (rngD i n).map (fun d => match d with | .int j => f (j - i).toNat | _ => .non) = (List.range n).map f := by
      unfold rngD
      rw [List.map_map]
      refine List.map_congr_left fun j _ => ?_
      show f (i + (j : Nat) - i).toNat = f j
      have e0 : (i + (j : Nat) - i).toNat = j := by omega
      rw [e0]
    rw [e, List.nil_append]
    exact r
end DL
/-! enumerate of a tuple -/
namespace MZ
open PySem PySem.Spec PyProof.Rows L2
open PySem.Sem (wp)
section
variable {prog : Program} {w : World} {A : Around} {E : Value → Shared → Prop} {s : Shared}
theorem enumB {t : Bool} {u i p : Addr} {k : Nat} {us : Array Value} {x old : Value} {Q : Value → Shared → Prop} (ku : IsEnum s.heap u i k old) (fi : ItB t s.heap i p k) (gp : SqB t s.heap p us) (ex : us[k]? = some x) (ne : u ≠ i)
    (fin : ∀ h2, IsEnumOut h2 u i ((k : Int) + 1) x s.heap.objs.size → ItB t h2 i p (k + 1) → h2.get? s.heap.objs.size = some { cls := .type "tuple", data := .seq #[.int k s.toks, x] } →
      (∀ c o, c ≠ u → c ≠ i → s.heap.get? c = some o → h2.get? c = some o) → Q (.ref s.heap.objs.size) { s with heap := h2, toks := s.toks + 1 }) :
    wpAny (model prog w) A (Builtin.«enumerate.__next__» ⟨[.ref u], []⟩) (fun f s2 => ∃ v, f = .done (.ret v) ∧ Q v s2) E s := by
  obtain ⟨hp, g, d, tk, os⟩ := s
  show wpAny _ _ (field (.ref u) 2 >>= _) _ _ _
  refine wpAny_bind (wpAny_field ku rfl (x := .ref i) rfl (wpAny_bind (nextB fi gp ex fun ha fa ea => ?_)))
  replace ea : Heap.SameBut i hp ha := ea
  have ka : IsEnum ha u i k old := (ea.2 u ne).trans ku
  show wpAny _ _ (field (.ref u) 3 >>= _) _ _ ⟨ha, g, d, tk, os⟩
  refine wpAny_bind (wpAny_field ka rfl (x := rawInt k) rfl ?_)
  show wpAny _ _ (field (.ref u) 4 >>= _) _ _ ⟨ha, g, d, tk, os⟩
  refine wpAny_bind (wpAny_field ka rfl (x := .none) rfl ?_)
  show wpAny _ _ (mkInt k >>= _) _ _ ⟨ha, g, d, tk, os⟩
  refine wpAny_bind (wpAny_mkInt ?_)
  show wpAny _ _ (setField (.ref u) 3 (rawInt ((k : Int) + 1)) >>= _) _ _ ⟨ha, g, d, tk + 1, os⟩
  refine wpAny_bind (wpAny_setField_rec ka (by simp) fun hb kb eb => ?_)
  replace eb : Heap.SameBut u ha hb := eb
  replace kb : IsEnum hb u i ((k : Int) + 1) old := kb
  show wpAny _ _ (setField (.ref u) 4 .none >>= _) _ _ ⟨hb, g, d, tk + 1, os⟩
  refine wpAny_bind (wpAny_setField_rec kb (by simp) fun hc kc ec => ?_)
  replace ec : Heap.SameBut u hb hc := ec
  replace kc : IsEnum hc u i ((k : Int) + 1) old := kc
  show wpAny _ _ (newTuple [.int k tk, x] >>= _) _ _ ⟨hc, g, d, tk + 1, os⟩
  refine wpAny_bind (wpAny_newTuple ?_)
  have size : hc.objs.size = hp.objs.size := by rw [ec.1, eb.1, ea.1]
  have kd : IsEnum (hc.push { cls := .type "tuple", data := .seq #[.int k tk, x] }) u i ((k : Int) + 1) old := Heap.get?_push_of_some _ kc
  have lu : u < hp.objs.size := Heap.lt_size ku
  have td : (hc.push { cls := .type "tuple", data := .seq #[.int k tk, x] }).get? hp.objs.size = some { cls := .type "tuple", data := .seq #[.int k tk, x] } := by
    rw [← size]
    exact Heap.get?_push_size _ rfl
  have rest : ∀ c o, c ≠ u → c ≠ i → hp.get? c = some o → (hc.push { cls := .type "tuple", data := .seq #[.int k tk, x] }).get? c = some o := fun c o n1 n2 z => Heap.get?_push_of_some _ (ec.extBut c o n1 (eb.extBut c o n1 (ea.extBut c o n2 z)))
  have fd : ItB t (hc.push { cls := .type "tuple", data := .seq #[.int k tk, x] }) i p (k + 1) := ((fa.off eb.extBut ne.symm).off ec.extBut ne.symm).to fun o z => Heap.get?_push_of_some _ z
  generalize hc.push { cls := .type "tuple", data := .seq #[.int k tk, x] } = hd at kd td rest fd ⊢
  show wpAny _ _ (Builtin.SmallTypes.ownedTupleIsFree (.ref u) >>= _) _ _ ⟨hd, g, d, tk + 1, os⟩
  rw [size]
  unfold Builtin.SmallTypes.ownedTupleIsFree
  refine wpAny_bind (wpAny_bind (wpAny_field kd rfl (x := .none) rfl (wpAny_pure ?_)))
  simp only [if_true]
  refine wpAny_bind (wpAny_rule (wpAny_bind (wpAny_field kd rfl (x := old) rfl ?_)))
  refine wpAny_bind (wpAny_setField_rec kd (by simp) fun he ke ee => ?_)
  replace ee : Heap.SameBut u hd he := ee
  replace ke : IsEnum he u i ((k : Int) + 1) x := ke
  show wpAny _ _ (Builtin.SmallTypes.ownedTupleHandOut (.ref u) (.ref hp.objs.size) >>= _) _ _ ⟨he, g, d, tk + 1, os⟩
  unfold Builtin.SmallTypes.ownedTupleHandOut
  refine wpAny_bind (wpAny_bind (wpAny_setField_rec ke (by simp) fun hf kf ef => ?_))
  replace ef : Heap.SameBut u he hf := ef
  replace kf : IsEnumOut hf u i ((k : Int) + 1) x hp.objs.size := kf
  refine wpAny_setField_rec kf (by simp) fun hg kg eg => ?_
  replace eg : Heap.SameBut u hf hg := eg
  replace kg : IsEnumOut hg u i ((k : Int) + 1) x hp.objs.size := kg
  refine wpAny_bind (wpAny_letGo (wpAny_pure ⟨_, rfl, fin hg kg ?_ ?_ ?_⟩))
  · exact ((fd.off ee.extBut ne.symm).off ef.extBut ne.symm).off eg.extBut ne.symm
  · exact eg.extBut _ _ (Nat.ne_of_gt lu) (ef.extBut _ _ (Nat.ne_of_gt lu) (ee.extBut _ _ (Nat.ne_of_gt lu) td))
  · exact fun c o n1 n2 z => eg.extBut c o n1 (ef.extBut c o n1 (ee.extBut c o n1 (rest c o n1 n2 z)))
theorem pyEnumB {t : Bool} {u i p : Addr} {k : Nat} {us : Array Value} {x old : Value} {Q : Option Value → Shared → Prop} (ku : IsEnum s.heap u i k old) (fi : ItB t s.heap i p k) (gp : SqB t s.heap p us) (ex : us[k]? = some x) (ne : u ≠ i)
    (fin : ∀ h2, IsEnumOut h2 u i ((k : Int) + 1) x s.heap.objs.size → ItB t h2 i p (k + 1) → h2.get? s.heap.objs.size = some { cls := .type "tuple", data := .seq #[.int k s.toks, x] } →
      (∀ c o, c ≠ u → c ≠ i → s.heap.get? c = some o → h2.get? c = some o) → Q (some (.ref s.heap.objs.size)) { s with heap := h2, toks := s.toks + 1 }) : wpAny (model prog w) A (pyNext (.ref u)) Q E s := by
  have ty : s.TypeIs (.ref u) "enumerate" := ⟨_, ku, rfl⟩
  unfold pyNext
  refine wpAny_bind (wpAny_attempt (wpAny_callSpecial?_slot (name := Str.ofString "__next__") ty F.slot_enumerate_next (wpAny_call_entry F.slot_enumerate_next ty F.entry_enumerate_next ?_ (F.args_enumerate_next_1 _))))
  exact enumB ku fi gp ex ne fun h2 a1 a2 a3 a4 => wpAny_pure (fin h2 a1 a2 a3 a4)
theorem pyEnumStop {t : Bool} {u i p : Addr} {k : Nat} {us : Array Value} {old : Value} {Q : Option Value → Shared → Prop} (hn : A.handled = none) (ku : IsEnum s.heap u i k old) (fi : ItB t s.heap i p k) (gp : SqB t s.heap p us) (ex : us[k]? = none)
    (fin : ∀ h2, Heap.ExtBut i s.heap h2 → Q none { s with heap := h2 }) : wpAny (model prog w) A (pyNext (.ref u)) Q E s := by
  have ty : s.TypeIs (.ref u) "enumerate" := ⟨_, ku, rfl⟩
  unfold pyNext
  refine wpAny_bind (wpAny_attempt (wpAny_callSpecial?_slot (name := Str.ofString "__next__") ty F.slot_enumerate_next (wpAny_call_entry F.slot_enumerate_next ty F.entry_enumerate_next ?_ (F.args_enumerate_next_1 _))))
  show wpAny _ _ (field (.ref u) 2 >>= _) _ _ _
  refine wpAny_bind (wpAny_field ku rfl (x := .ref i) rfl (wpAny_bind (endB hn fi gp ex fun h2 e eb ⟨o, ge, ce⟩ => ?_)))
  exact wpAny_bind (wpAny_isInstance (T := "StopIteration") (b := true) ⟨o, ge, ce⟩ isSubtype_stop (wpAny_pure (fin _ eb)))
end
theorem meetsEnumT (l : Addr) (us : Array Value) : Meets (Builtin.«enumerate.__new__» ⟨[.type "enumerate", .ref l], []⟩) (fun _ R s => s.heap.IsTuple l us ∧
    R (.ok (.ret (.ref (s.heap.push { cls := .type "tuple_iterator", data := .fields #[.ref l, .int 0 0] }).objs.size))) { s with heap := (s.heap.push { cls := .type "tuple_iterator", data := .fields #[.ref l, .int 0 0] }).push { cls := .type "enumerate", data := .fields #[.none, .bool false, .ref s.heap.objs.size, rawInt 0, .none, .none] } }) :=
  .of_wp fun prog w A R s h => by
    obtain ⟨hp, g, d, tk, os⟩ := s
    obtain ⟨hl, h⟩ := h
    have hsub := sub_enumerate
    have hT : Heap.IsTuple (Shared.heap ⟨hp, g, d, tk, os⟩) l us := hl
    obtain ⟨o, ho, hc, n, hd⟩ := id hl
    have ho2 : Heap.get? (Shared.heap ⟨hp, g, d, tk, os⟩) l = some o := ho
    wp_walk using AutoSeq1.wpAny_loadPart' ho2
    refine wpAny_stack_any fun st => wpAny_pure ?_
    split
    · rename_i c _ _ _ _ _
      cases (c == Value.type "enumerate")
      · wp_walk using AutoSeq1.wpAny_loadPart' ho2, wpAny_pyIter_tuple hT
        exact ⟨_, rfl, h⟩
      · wp_walk using AutoSeq1.wpAny_loadPart' ho2, wpAny_pyIter_tuple hT
        exact ⟨_, rfl, h⟩
    · wp_walk using AutoSeq1.wpAny_loadPart' ho2, wpAny_pyIter_tuple hT
      exact ⟨_, rfl, h⟩
section
variable {prog : Program} {w : World} {A : Around} {E : Value → Shared → Prop} {s : Shared}
theorem call_enumT {l : Addr} {us : Array Value} {Q : Value → Shared → Prop} (hl : s.heap.IsTuple l us)
    (fin : ∀ h2, IsEnum h2 (s.heap.objs.size + 1) s.heap.objs.size 0 .none → ItB true h2 s.heap.objs.size l 0 → (∀ c o, s.heap.get? c = some o → h2.get? c = some o) → Q (.ref (s.heap.objs.size + 1)) { s with heap := h2 }) :
    wpAny (model prog w) A (call (.type "enumerate") [.ref l]) Q E s := by
  refine callType_new F.called_enumerate (by decide) (F.typeCall_enumerate_1 _) (F.newCall_enumerate_1 _) (fun obj => F.args_object_init_2 obj _) F.entry_enumerate_new (meetsEnumT l us) ⟨hl, ?_⟩
  have n1 : (s.heap.push { cls := .type "tuple_iterator", data := .fields #[.ref l, .int 0 0] }).objs.size = s.heap.objs.size + 1 := Heap.size_push ..
  have f1 : ((s.heap.push { cls := .type "tuple_iterator", data := .fields #[.ref l, .int 0 0] }).push { cls := .type "enumerate", data := .fields #[.none, .bool false, .ref s.heap.objs.size, rawInt 0, .none, .none] }).get? (s.heap.push { cls := .type "tuple_iterator", data := .fields #[.ref l, .int 0 0] }).objs.size = some _ := Heap.get?_push_size _ rfl
  show _ ∧ _
  rw [n1] at f1 ⊢
  exact ⟨⟨_, f1, rfl⟩, fin _ f1 (show Heap.IsTupleIter _ _ _ _ from ⟨_, Heap.get?_push_of_some _ (Heap.get?_push_size _ rfl), rfl, rfl⟩) fun c o e => Heap.get?_push_of_some _ (Heap.get?_push_of_some _ e)⟩
end
/-- the list or tuple at a as it stands at each turn, each item in a new pair with its place -/
def ItE (K : PySem.W.Frag) (t : Bool) (a : Addr) : It :=
  ⟨fun i H => ∃ (xs : List V) (x : V), SqK K t H a xs ∧ xs[i]? = some x, fun i H v H2 => ∃ T x, v = .ref T ∧ H T = none ∧ H2 = upd H T (.tup [.int (i : Nat), x]) ∧ ∀ xs, SqK K t H a xs → xs[i]? = some x, fun i H => ∃ xs : List V, SqK K t H a xs ∧ xs.length ≤ i⟩
theorem turnE {P : Program} {w : World} {K : PySem.W.Frag} {elts : List Expr} {kk : Nat} {tpos : Pos} {t : Bool} (a u q : Addr) :
    Turn P w K (.Tuple elts kk tpos) (ItE K t a) [u, q] u (fun i h => (∃ old, IsEnum h u q ((i : Nat) : Int) old) ∧ ItB t h q a i ∧ u ≠ q) where
  mem := by simp
  obj := fun i h ⟨⟨old, ku⟩, f1, ne⟩ c hc => by
    obtain ⟨o1, e1, d1⟩ := f1.ob
    rcases (show c = u ∨ c = q by simpa using hc) with z | z <;> subst z
    · exact ⟨_, ku, fun v z => nomatch z⟩
    · exact ⟨o1, e1, fun v z => by rw [d1] at z; cases z⟩
  keep := fun i h h2 ⟨⟨old, ku⟩, f1, ne⟩ k => ⟨⟨old, k u (by simp) _ ku⟩, f1.to fun o z => k q (by simp) o z, ne⟩
  item := by
    intro X hP hw hK hc i pins s σ H E I hf ⟨⟨old, ku⟩, f1, ne⟩ ⟨xs, x, qx, hx⟩
    subst hP hw hK
    obtain ⟨its, rv, g1⟩ := sqk_get I qx
    obtain ⟨v, hv, r1⟩ := rv.get hx
    have lu : u < s.heap.objs.size := Heap.lt_size ku
    refine pyEnumB ku f1 g1 (x := v) (by simpa using hv) ne fun h2 a1 a2 a3 a4 => ?_
    refine ⟨_, rfl, wpAny_letOwnedTupleGo_enum (s := { s with heap := h2, toks := s.toks + 1 }) a1 fun h3 a5 sb => ?_⟩
    have new : ObjOk X.prog X.w (upd H s.heap.objs.size (.tup [.int (i : Nat), x])) h3 s.heap.objs.size (.tup [.int (i : Nat), x]) := ⟨by show 2 ≤ sizeLine; decide, [.int i s.toks, v], .cons ⟨_, rfl⟩ (.cons r1 .nil), ⟨_, (sb.2 _ (Nat.ne_of_gt lu)).trans a3, rfl, _, rfl⟩⟩
    have I2 : Inv X pins σ (upd H s.heap.objs.size (.tup [.int (i : Nat), x])) { s with heap := h3, toks := s.toks + 1 } := I.turnedNew (ch := [u, q]) (fun c o n z => (sb.2 c fun y => n (by simp [y])).trans (a4 c o (fun y => n (by simp [y])) (fun y => n (by simp [y])) z)) hf (Nat.le_refl _) new
    have e1 : ((i + 1 : Nat) : Int) = (i : Int) + 1 := by omega
    refine ⟨.ref s.heap.objs.size, _, I2, rfl, ⟨_, x, rfl, I.hok.fresh (Nat.le_refl _), rfl, fun ys hy => by rw [sqk_one I hy qx]; exact hx⟩, ⟨⟨v, by rw [e1]; exact a5⟩, a2.to fun o z => (sb.2 q ne.symm).trans z, ne⟩, fun c hcm => ?_⟩
    obtain ⟨_, e2, _⟩ := f1.ob
    have lt : c < s.heap.objs.size := by
      rcases (show c = u ∨ c = q by simpa using hcm) with z | z <;> rw [z]
      · exact lu
      · exact Heap.lt_size e2
    rw [upd_ne (Nat.ne_of_lt lt)]
    exact (hf c hcm).1
  done := by
    intro X hP hw hK hc i pins s σ H E I hf ⟨⟨old, ku⟩, f1, ne⟩ ⟨xs, qx, over⟩
    subst hP hw hK
    obtain ⟨its, rv, g1⟩ := sqk_get I qx
    obtain ⟨f0, f2, _, f3, f4, f5⟩ := hf q (by simp)
    have l1 := rv.length
    exact pyEnumStop (I.ok.hd hc) ku f1 g1 (by simp; omega) fun h2 eb => ⟨rfl, I.turned (t' := s.toks) (fun b o n z => eb b o n z) f0 f2 f3 f4 f5⟩
  self := fun A i s Q E st h => wpAny_pyIter_enum st.1.choose_spec h
def iEnumT (K : PySem.W.Frag) (ta : TA) : TI := fun σ H R => ta σ H fun vs H1 => ∃ a xs, vs = [.ref a] ∧ SqT K H1 a xs ∧ R (ItE K true a) H1
theorem pi_enumT {X : Cx} {e : Expr} {ta : TA} {p pos tpos : Pos} {elts : List Expr} {kk : Nat} (hg : Gl X "enumerate") (hm : X.mg "enumerate" = none) (ha : PA X [e] ta) (hs : starEach [e] X.env = [(false, eval e X.env)] := by rfl) :
    PI X (.Tuple elts kk tpos) (.Call (.Name "enumerate" p) [e] [] pos) (iEnumT X.K ta) := by
  refine ⟨fun pins s σ H R I h => ?_⟩
  refine Call_ (ld_blt I hg hm boot_enumerate (PyProof.Rows.callWith_type1 (thn (ha.run pos pins s σ H _ I h) fun us s1 ⟨vs, H1, I1, r1, a, xs, ex, qx, q⟩ => ?_) hs rfl))
  subst ex
  obtain ⟨u1, rfl, ru1⟩ : ∃ u1, us = [u1] ∧ RelV (.ref a) u1 := by
    cases r1 with
    | cons m1 r1 =>
      cases r1
      exact ⟨_, rfl, m1⟩
  cases ru1
  obtain ⟨its, _, p1, _⟩ := I1.tuple qx
  refine call_enumT (show s1.heap.IsTuple a its.toArray from p1) fun h2 a1 a2 a3 => wpAny_pyIter_enum a1 ?_
  have I2 : Inv X pins σ H1 { s1 with heap := h2 } := I1.kept (t' := s1.toks) a3
  refine ⟨s1.heap.objs.size + 1, [s1.heap.objs.size + 1, s1.heap.objs.size], _, _, H1, rfl, I2, turnE a (s1.heap.objs.size + 1) s1.heap.objs.size, ⟨⟨.none, a1⟩, a2, Nat.succ_ne_self _⟩, fun c hcm => ?_, q⟩
  have le : s1.heap.objs.size ≤ c := by
    rcases (show c = s1.heap.objs.size + 1 ∨ c = s1.heap.objs.size by simpa using hcm) with z | z <;> rw [z] <;> first | exact Nat.le_refl _ | exact Nat.le_add_right _ _
  exact I1.fpOk le (I1.hok.fresh le)
theorem pi_or {X : Cx} {tg iter : Expr} {t u : TI} (h : PI X tg iter t) (h' : PI X tg iter u) : PI X tg iter (fun σ H R => t σ H R ∨ u σ H R) := ⟨fun pins s σ H R I w => w.elim (h.run pins s σ H R I) (h'.run pins s σ H R I)⟩
end MZ

/-! DL21: enumerate; less of numbers; what a row tells of its number. -/
namespace DL
open PySem PySem.Spec PyProof.Rows L2 Evl
variable [TabC]

theorem enum_both {X : Cx} {e : Expr} {ta : TA} {p pos tpos : Pos} {elts : List Expr} {kk : Nat} (hg : Gl X "enumerate") (hm : X.mg "enumerate" = none) (ha : PA X [e] ta) (hs : starEach [e] X.env = [(false, eval e X.env)] := by rfl) :
    PI X (.Tuple elts kk tpos) (.Call (.Name "enumerate" p) [e] [] pos) (fun σ H R => ta σ H fun vs H1 => ∃ q xs, vs = [.ref q] ∧ ((SqL X.K H1 q xs ∧ R (Ite X.K q) H1) ∨ (SqT X.K H1 q xs ∧ R (MZ.ItE X.K true q) H1))) := by
  refine ⟨fun pins s σ H R I h => ?_⟩
  refine Call_ (ld_blt I hg hm boot_enumerate (PyProof.Rows.callWith_type1 (thn (ha.run pos pins s σ H _ I h) fun us s1 ⟨vs, H1, I1, r1, a, xs, ex, q⟩ => ?_) hs rfl))
  subst ex
  obtain ⟨u1, rfl, ru1⟩ : ∃ u1, us = [u1] ∧ RelV (.ref a) u1 := by
    cases r1 with
    | cons m1 r1 =>
      cases r1
      exact ⟨_, rfl, m1⟩
  cases ru1
  have fp : ∀ c ∈ [s1.heap.objs.size + 1, s1.heap.objs.size], FpOk X pins H1 c := fun c hcm => by
    have le : s1.heap.objs.size ≤ c := by
      rcases (show c = s1.heap.objs.size + 1 ∨ c = s1.heap.objs.size by simpa using hcm) with z | z <;> rw [z] <;> first | exact Nat.le_refl _ | exact Nat.le_add_right _ _
    exact I1.fpOk le (I1.hok.fresh le)
  rcases q with ⟨qx, q⟩ | ⟨qx, q⟩
  · obtain ⟨its, _, p1, _⟩ := I1.list qx
    refine call_enumerate_list p1.isList fun h2 a1 a2 _ a3 => wpAny_pyIter_enum a1 ?_
    exact ⟨s1.heap.objs.size + 1, _, _, _, H1, rfl, I1.kept (t' := s1.toks) a3, turn_enum a (s1.heap.objs.size + 1) s1.heap.objs.size, ⟨⟨.none, a1⟩, a2, Nat.succ_ne_self _⟩, fp, q⟩
  · obtain ⟨its, _, p1, _⟩ := I1.tuple qx
    refine MZ.call_enumT (show s1.heap.IsTuple a its.toArray from p1) fun h2 a1 a2 a3 => wpAny_pyIter_enum a1 ?_
    exact ⟨s1.heap.objs.size + 1, _, _, _, H1, rfl, I1.kept (t' := s1.toks) a3, MZ.turnE a (s1.heap.objs.size + 1) s1.heap.objs.size, ⟨⟨.none, a1⟩, a2, Nat.succ_ne_self _⟩, fp, q⟩
/-! ### enumerate of a list or tuple that never changes -/
def enumD (xs : List D) : List D := xs.zipIdx.map fun p => .tup [.int (p.2 : Nat), p.1]
theorem enum_at {xs : List D} {i : Nat} {d : D} (h : (enumD xs)[i]? = some d) : ∃ x, xs[i]? = some x ∧ d = .tup [.int (i : Nat), x] := by
  unfold enumD at h
  rw [List.getElem?_map, List.getElem?_zipIdx] at h
  cases hx : xs[i]? with
  | none =>
    rw [hx] at h
    cases h
  | some x =>
    rw [hx] at h
    refine ⟨x, rfl, ?_⟩
    have := Option.some.inj h
    rw [← this]
    show D.tup [.int ((0 + i : Nat)), x] = _
    rw [Nat.zero_add]
theorem enum_len {xs : List D} : (enumD xs).length = xs.length := by
  unfold enumD
  rw [List.length_map, List.length_zipIdx]
def dIEnumerate (dA : DA) : DI := fun ρ G S => dA ρ G fun vs G1 => ∃ xs, (vs = [.lst xs] ∨ vs = [.tup xs]) ∧ S (enumD xs) G1
theorem walks_enum {K : PySem.W.Frag} {Hd : Hp} {q : Addr} {us : List V} {xs : List D} (h : SqL K Hd q us) (hr : RpL K Hd us xs) : Walks K Hd (Ite K q) (enumD xs) := fun F i H2 Hd2 G2 e s => by
  have hH : SqL K H2 q us := ex_l (e.trans s.sub) h
  refine ⟨fun d hd => ?_, fun hl => ⟨us, hH, by rw [hr.length]; rw [enum_len] at hl; exact hl⟩⟩
  obtain ⟨x, hx, rfl⟩ := enum_at hd
  obtain ⟨v, hv, rv⟩ := hr.at hx
  refine ⟨⟨us, v, hH, hv⟩, fun w H3 ⟨T, v', ew, hT, eH, h1⟩ => ?_⟩
  subst ew eH
  cases Option.some.inj (hv.symm.trans (h1 us hH))
  exact ⟨_, s.exn hT, s.new hT, .tup st_new (.cons (.int _) (.cons ((rv.mono e).mono (s.exn hT)) .nil))⟩
theorem walks_enumT {K : PySem.W.Frag} {Hd : Hp} {q : Addr} {us : List V} {xs : List D} (h : SqT K Hd q us) (hr : RpL K Hd us xs) : Walks K Hd (MZ.ItE K true q) (enumD xs) := fun F i H2 Hd2 G2 e s => by
  have hH : MZ.SqK K true H2 q us := ex_t (e.trans s.sub) h
  refine ⟨fun d hd => ?_, fun hl => ⟨us, hH, by rw [hr.length]; rw [enum_len] at hl; exact hl⟩⟩
  obtain ⟨x, hx, rfl⟩ := enum_at hd
  obtain ⟨v, hv, rv⟩ := hr.at hx
  refine ⟨⟨us, v, hH, hv⟩, fun w H3 ⟨T, v', ew, hT, eH, h1⟩ => ?_⟩
  subst ew eH
  cases Option.some.inj (hv.symm.trans (h1 us hH))
  exact ⟨_, s.exn hT, s.new hT, .tup st_new (.cons (.int _) (.cons ((rv.mono e).mono (s.exn hT)) .nil))⟩
theorem pid_enumerate {X : Cx} {B : Bs} {p pos : Pos} {a : Expr} {dA : DA} {elts : List Expr} {kk : Nat} {tpos : Pos} (hg : Gl X "enumerate") (hm : X.mg "enumerate" = none) (ha : PA X [a] (upA X.K B dA)) (hs : starEach [a] X.env = [(false, eval a X.env)] := by rfl) :
    PI X (.Tuple elts kk tpos) (.Call (.Name "enumerate" p) [a] [] pos) (upI X.K B (dIEnumerate dA)) := ⟨fun pins s σ H R I ⟨ρ, Hd, G, S, at_, h, k⟩ => by
  have both : PI X (.Tuple elts kk tpos) (.Call (.Name "enumerate" p) [a] [] pos) (fun σ H R => (upA X.K B dA) σ H fun vs H1 => ∃ q xs, vs = [.ref q] ∧ ((SqL X.K H1 q xs ∧ R (Ite X.K q) H1) ∨ (SqT X.K H1 q xs ∧ R (MZ.ItE X.K true q) H1))) := enum_both hg hm ha hs
  refine both.run pins s σ H R I ⟨ρ, Hd, G, _, at_, h, fun vs H1 Hd1 xs G1 e1 s1 r1 ⟨l, hv, h1⟩ => ?_⟩
  rcases hv with rfl | rfl
  · obtain ⟨v, rfl, rv⟩ := rpl1 r1
    cases rv with
    | lst q r => exact ⟨_, _, rfl, .inl ⟨ex_l s1.sub q, k _ H1 Hd1 _ G1 e1 s1 (walks_enum q r) h1⟩⟩
  · obtain ⟨v, rfl, rv⟩ := rpl1 r1
    cases rv with
    | tup q r => exact ⟨_, _, rfl, .inr ⟨ex_t s1.sub q, k _ H1 Hd1 _ G1 e1 s1 (walks_enumT q r) h1⟩⟩⟩

/-! ### less -/
def ltN (x y : D) : Bool := decide ((numI x).1 * (numI y).2 < (numI y).1 * (numI x).2)
def sp_below : DSp := fun xs G R _ => ∃ x y : D, xs = [x, y] ∧ numD x = true ∧ numD y = true ∧ Bn 4000 x ∧ Bn 4000 y ∧ R (.bl (ltN x y)) G
def belowR : DS := (dSeq (dAsg (dTup (dCons (dCall sp_halves X0 (dCons (dVar 0) dNil)) (dCons (dCall sp_halves X0 (dCons (dVar 1) dNil)) dNil))) (gSeq 2 (gCons (gSeq 2 (gCons (gN 2) (gCons (gN 3) gNil))) (gCons (gSeq 2 (gCons (gN 4) (gCons (gN 5) gNil))) gNil)))) (dRet (dOp (fInt gLt) (dOp (fIntC IntMulOk fun i j => .int (i * j)) (dVar 2) (dVar 5)) (dOp (fIntC IntMulOk fun i j => .int (i * j)) (dVar 4) (dVar 3)))))
theorem below_ok (xs : List D) (G : Gm) (R : KD) (RX : XD) (h : sp_below xs G R RX) : belowR { nx := fun _ G => R .non G, rt := R } (xs.map some ++ List.replicate (6 - xs.length) none) G := by
  obtain ⟨x, y, rfl, nx, ny, bx, by_, h⟩ := h
  obtain ⟨ex, px⟩ := num_half nx
  obtain ⟨ey, py⟩ := num_half ny
  refine ds_asg (.tup (.cons (.halves (.var rfl) nx) (.one (.halves (.var rfl) ny))) (show 2 ≤ sizeLine by decide)) ?_
  rw [ex, ey]
  refine ⟨_, seq_tup, rfl, _, _, rfl, ⟨_, seq_tup, rfl, _, _, rfl, _, _, rfl, rfl, ?_⟩⟩
  refine ⟨_, _, rfl, ⟨_, seq_tup, rfl, _, _, rfl, _, _, rfl, rfl, ?_⟩⟩
  refine ⟨rfl, ?_⟩
  exact ds_ret (.lt (.mul (.var rfl) (.var rfl) (mul_both bx.1 by_.2 (by decide))) (.mul (.var rfl) (.var rfl) (mul_both by_.1 bx.2 (by decide)))) h
def lawLessR : DS := (dSeq (dAsg (dTup (dCons (dCall sp_ends X0 (dCons (dVar 0) dNil)) (dCons (dCall sp_ends X0 (dCons (dVar 1) dNil)) dNil))) (gSeq 2 (gCons (gSeq 2 (gCons (gN 2) (gCons (gN 3) gNil))) (gCons (gSeq 2 (gCons (gN 4) (gCons (gN 5) gNil))) gNil)))) (dRet (dOp (fInt gLt) (dOp (fIntC IntMulOk fun i j => .int (i * j)) (dVar 2) (dVar 5)) (dOp (fIntC IntMulOk fun i j => .int (i * j)) (dVar 4) (dVar 3)))))
theorem law_less_ok (xs : List D) (G : Gm) (R : KD) (RX : XD) (h : sp_below xs G R RX) : lawLessR { nx := fun _ G => R .non G, rt := R } (xs.map some ++ List.replicate (6 - xs.length) none) G := by
  obtain ⟨x, y, rfl, nx, ny, bx, by_, h⟩ := h
  refine ds_asg (.tup (.cons (.ends (.var rfl) nx) (.one (.ends (.var rfl) ny))) (show 2 ≤ sizeLine by decide)) ?_
  refine ⟨_, seq_tup, rfl, _, _, rfl, ⟨_, seq_tup, rfl, _, _, rfl, _, _, rfl, rfl, ?_⟩⟩
  refine ⟨_, _, rfl, ⟨_, seq_tup, rfl, _, _, rfl, _, _, rfl, rfl, ?_⟩⟩
  refine ⟨rfl, ?_⟩
  exact ds_ret (.lt (.mul (.var rfl) (.var rfl) (mul_both bx.1 by_.2 (by decide))) (.mul (.var rfl) (.var rfl) (mul_both by_.1 bx.2 (by decide)))) h
theorem Ev.below {ρ : En} {G : Gm} {da db : DE} {x y : D} (h : Ev da ρ G x) (h' : Ev db ρ G y) (nx : numD x = true) (ny : numD y = true) (bx : Bn 4000 x) (by_ : Bn 4000 y) : Ev (dCall sp_below X0 (dCons da (dCons db dNil))) ρ G (.bl (ltN x y)) := .call (.cons h (.one h')) fun R r => ⟨x, y, rfl, nx, ny, bx, by_, r⟩

/-! ### what a row tells: after k labels -/
structure TB where
  lo : D
  hi : D
  s : Int
def tbStep (t : TB) (k : Nat) (l : Int) : TB :=
  { lo := if ltN t.lo (lowD (t.s + l) (k + 1)) = true then lowD (t.s + l) (k + 1) else t.lo, hi := if ltN (lowD (t.s + l + 1) (k + 1)) t.hi = true then lowD (t.s + l + 1) (k + 1) else t.hi, s := t.s + l }
def tbAt (xs : List Int) : Nat → TB
  | 0 => { lo := .int (xs.headD 0), hi := .int (xs.headD 0 + 1), s := 0 }
  | k + 1 => tbStep (tbAt xs k) k (xs.getD k 0)
structure TbOk (t : TB) : Prop where
  nl : numD t.lo = true
  nh : numD t.hi = true
  bl : Bn 4000 t.lo
  bh : Bn 4000 t.hi
theorem tb_s {xs : List Int} {m : Nat} (hm : ∀ i ∈ xs, i.natAbs < 2 ^ m) : ∀ k : Nat, (tbAt xs k).s.natAbs ≤ k * 2 ^ m
  | 0 => by show (0 : Int).natAbs ≤ _; simp
  | k + 1 => by
    have ih := tb_s hm k
    show ((tbAt xs k).s + xs.getD k 0).natAbs ≤ (k + 1) * 2 ^ m
    have h1 : (xs.getD k 0).natAbs ≤ 2 ^ m := by
      show ((xs[k]?).getD 0).natAbs ≤ 2 ^ m
      cases h : xs[k]? with
      | none => exact Nat.zero_le _
      | some v => exact Nat.le_of_lt (hm v (List.mem_of_getElem? h))
    rw [Nat.succ_mul]
    omega
theorem tb_bn {xs : List Int} (hm : ∀ i ∈ xs, i.natAbs < 2 ^ 3000) {k : Nat} (hk : k < 2000) : Bn 4000 (lowD ((tbAt xs k).s + xs.getD k 0) (k + 1)) ∧ Bn 4000 (lowD ((tbAt xs k).s + xs.getD k 0 + 1) (k + 1)) := by
  have hs := tb_s hm (k + 1)
  have e : (tbAt xs (k + 1)).s = (tbAt xs k).s + xs.getD k 0 := rfl
  rw [e] at hs
  have p : (0 : Int) < ((k : Int) + 1) := by omega
  have hz : (k + 1) * 2 ^ 3000 ≤ 2001 * 2 ^ 3000 := Nat.mul_le_mul_right _ (by omega)
  have hz2 : 2001 * 2 ^ 3000 + 1 < 2 ^ 4000 := by decide +kernel
  have h3 : ((k : Int) + 1).natAbs < 2 ^ 4000 := Nat.lt_of_lt_of_le (show ((k : Int) + 1).natAbs < 2 ^ 12 by omega) (Nat.pow_le_pow_right (by decide) (by decide))
  exact ⟨low_bn p (by omega) h3, low_bn p (by omega) h3⟩
theorem tb_ok {xs : List Int} (hm : ∀ i ∈ xs, i.natAbs < 2 ^ 3000) : ∀ k : Nat, k ≤ 2000 → TbOk (tbAt xs k)
  | 0, _ => by
    have h1 : (xs.headD 0).natAbs < 2 ^ 3000 := by
      cases xs with
      | nil => exact Nat.two_pow_pos _
      | cons x xs => exact hm x List.mem_cons_self
    have h2 : 2 ^ 3000 + 1 ≤ 2 ^ 4000 := by decide +kernel
    have h3 : (1 : Int).natAbs < 2 ^ 4000 := Nat.one_lt_two_pow (by decide)
    exact ⟨rfl, rfl, ⟨by show (xs.headD 0).natAbs < _; omega, h3⟩, ⟨by show (xs.headD 0 + 1).natAbs < _; omega, h3⟩⟩
  | k + 1, hk => by
    have ih := tb_ok hm k (by omega)
    have p : (0 : Int) < ((k : Int) + 1) := by omega
    obtain ⟨b1, b2⟩ := tb_bn hm (show k < 2000 by omega)
    refine ⟨?_, ?_, ?_, ?_⟩
    · show numD (if _ then _ else _) = true
      split
      · exact low_isnum p
      · exact ih.nl
    · show numD (if _ then _ else _) = true
      split
      · exact low_isnum p
      · exact ih.nh
    · show Bn 4000 (if _ then _ else _)
      split
      · exact b1
      · exact ih.bl
    · show Bn 4000 (if _ then _ else _)
      split
      · exact b2
      · exact ih.bh
def tellD (xs : List Int) : D := if ltN (tbAt xs xs.length).lo (tbAt xs xs.length).hi = true then .tup [(tbAt xs xs.length).lo, (tbAt xs xs.length).hi] else .non
def sp_told_back : DSp := fun xs G R _ => ∃ (x : D) (is : List Int), xs = [x] ∧ (x = .lst (is.map D.int) ∨ x = .tup (is.map D.int)) ∧ 1 ≤ is.length ∧ is.length ≤ 2000 ∧ (∀ i ∈ is, i.natAbs < 2 ^ 3000) ∧ R (tellD is) G
def toldR : DS := (dSeq (dIfS (dOr (dNot (dTst (dCall sp_is_list X0 (dCons (dVar 0) dNil)))) (dNot (dTst (dCall sp_is_within X0 (dCons (dCal fLen (dCons (dVar 0) dNil)) (dCons (dC (.int 1)) (dCons (dC (.int 2000)) dNil))))))) dNever dNext) (dSeq (dIfS (dNot (dTst (dCal fAll (dCons (dCmp (dISeq (dVar 0)) (gN 1) dYes (dCall sp_is_integer X0 (dCons (dVar 1) dNil)) [1]) dNil)))) dNever dNext) (dSeq (dPar3 2 3 4 (dCons (dIx (dVar 0) (dC (.int 0))) (dCons (dOp fAdd (dIx (dVar 0) (dC (.int 0))) (dC (.int 1))) (dCons (dC (.int 0)) dNil)))) (dSeq (dFor (dIEnumerate (dCons (dVar 0) dNil)) (gSeq 2 (gCons (gN 5) (gCons (gN 6) gNil))) (dSeq (dSet 4 (dOp fAdd (dVar 4) (dVar 6))) (dSeq (dPar 7 8 (dCons (dCall sp_lowest_in X0 (dCons (dVar 4) (dCons (dOp fAdd (dVar 5) (dC (.int 1))) dNil))) (dCons (dCall sp_lowest_in X0 (dCons (dOp fAdd (dVar 4) (dC (.int 1))) (dCons (dOp fAdd (dVar 5) (dC (.int 1))) dNil))) dNil))) (dSeq (dSet 2 (dIf (dTst (dCall sp_below X0 (dCons (dVar 2) (dCons (dVar 7) dNil)))) (dVar 7) (dVar 2))) (dSet 3 (dIf (dTst (dCall sp_below X0 (dCons (dVar 8) (dCons (dVar 3) dNil)))) (dVar 8) (dVar 3))))))) (dRet (dIf (dTst (dCall sp_below X0 (dCons (dVar 2) (dCons (dVar 3) dNil)))) (dTup (dCons (dVar 2) (dCons (dVar 3) dNil))) (dC .non)))))))
theorem kn_ints (is : List Int) : D.knL (is.map D.int) = true := by
  induction is with
  | nil => rfl
  | cons i is ih => exact (Bool.true_and _).trans ih
theorem atI_zero {x : D} {xs : List D} : atI (x :: xs) 0 = some x := by
  unfold atI ixN
  rw [if_pos (by decide), if_pos (by rw [List.length_cons]; omega)]
  rfl
def toldT : DS := (dSeq (dPar3 2 3 4 (dCons (dIx (dVar 0) (dC (.int 0))) (dCons (dOp fAdd (dIx (dVar 0) (dC (.int 0))) (dC (.int 1))) (dCons (dC (.int 0)) dNil)))) (dSeq (dFor (dIEnumerate (dCons (dVar 0) dNil)) (gSeq 2 (gCons (gN 5) (gCons (gN 6) gNil))) (dSeq (dSet 4 (dOp fAdd (dVar 4) (dVar 6))) (dSeq (dPar 7 8 (dCons (dCall sp_lowest_in X0 (dCons (dVar 4) (dCons (dOp fAdd (dVar 5) (dC (.int 1))) dNil))) (dCons (dCall sp_lowest_in X0 (dCons (dOp fAdd (dVar 4) (dC (.int 1))) (dCons (dOp fAdd (dVar 5) (dC (.int 1))) dNil))) dNil))) (dSeq (dSet 2 (dIf (dTst (dCall sp_below X0 (dCons (dVar 2) (dCons (dVar 7) dNil)))) (dVar 7) (dVar 2))) (dSet 3 (dIf (dTst (dCall sp_below X0 (dCons (dVar 8) (dCons (dVar 3) dNil)))) (dVar 8) (dVar 3))))))) (dRet (dIf (dTst (dCall sp_below X0 (dCons (dVar 2) (dCons (dVar 3) dNil)))) (dTup (dCons (dVar 2) (dCons (dVar 3) dNil))) (dC .non)))))
theorem told_tail {x0 : D} {is : List Int} {G : Gm} {R : KD} (hx : x0 = .lst (is.map D.int) ∨ x0 = .tup (is.map D.int)) (l1 : 1 ≤ is.length) (l2 : is.length ≤ 2000) (hm : ∀ i ∈ is, i.natAbs < 2 ^ 3000) (h : R (tellD is) G) : toldT { nx := fun _ G => R .non G, rt := R } [some x0, none, none, none, none, none, none, none, none] G := by
  have ax : ∀ {G : Gm}, SeqAt G x0 (is.map D.int) := fun {G} => seq_at hx.symm
  have hz : (is.map D.int).length ≤ sizeLine := by rw [List.length_map, sizeLine_eq]; omega
  obtain ⟨l0, tl, rfl⟩ : ∃ l0 tl, is = l0 :: tl := by
    cases is with
    | nil => simp at l1
    | cons a b => exact ⟨a, b, rfl⟩
  refine ds_par3 (.at (.var rfl) .c ax (z := .int l0) atI_zero) (.add (.at (.var rfl) .c ax (z := .int l0) atI_zero) .c) .c ?_
  generalize eis : l0 :: tl = is at *
  have hl0 : is.headD 0 = l0 := by rw [← eis]; rfl
  refine ⟨_, rfl, is.map D.int, hx.imp (fun e => by rw [e]) (fun e => by rw [e]), ?_⟩
  refine forL_at (fun rest ρ G' => G' = G ∧ ∃ k, k ≤ is.length ∧ rest = (enumD (is.map D.int)).drop k ∧ ∃ o1 o5 o6 o7 o8, ρ = [some x0, o1, some (tbAt is k).lo, some (tbAt is k).hi, some (.int (tbAt is k).s), o5, o6, o7, o8]) ?_ ?_ ?_
  · rintro x rest N ρ G1 hsuf hN ⟨rfl, k, hk, er, o1, o5, o6, o7, o8, rfl⟩
    have lk : k < is.length := by
      have := congrArg List.length er
      rw [List.length_cons, List.length_drop, enum_len, List.length_map] at this
      omega
    have ex : (enumD (is.map D.int))[k]? = some x := by
      have := congrArg (fun l => l[0]?) er
      rw [List.getElem?_drop] at this
      exact this.symm
    have er2 : rest = (enumD (is.map D.int)).drop (k + 1) := by
      have := congrArg List.tail er
      rw [List.tail_drop] at this
      exact this
    obtain ⟨y, hy, rfl⟩ := enum_at ex
    rw [List.getElem?_map, List.getElem?_eq_getElem lk] at hy
    cases hy
    have eg : is.getD k 0 = is[k] := by
      show (is[k]?).getD 0 = _
      rw [List.getElem?_eq_getElem lk]
      rfl
    have ok := tb_ok hm k (by omega)
    obtain ⟨b1, b2⟩ := tb_bn hm (show k < 2000 by omega)
    rw [eg] at b1 b2
    have p : (0 : Int) < ((k : Int) + 1) := by omega
    have p2 : ((k : Int) + 1) < 2 ^ 8000 := Int.lt_of_le_of_lt (show ((k : Int) + 1) ≤ 3000 by omega) (by decide +kernel)
    refine ⟨_, seq_tup, rfl, _, _, rfl, _, _, rfl, rfl, ?_⟩
    refine ds_set (.add (.var rfl) (.var rfl)) ?_
    refine ds_par (.low (.var rfl) (.add (.var rfl) .c) p p2) (.low (.add (.var rfl) .c) (.add (.var rfl) .c) p p2) ?_
    refine ds_set (x := (tbAt is (k + 1)).lo) (.chosen (.tst (.below (.var rfl) (.var rfl) ok.nl (low_isnum p) ok.bl b1)) (fun e => ?_) fun e => ?_) ?_
    · show Ev _ _ _ (if ltN (tbAt is k).lo (lowD ((tbAt is k).s + is.getD k 0) (k + 1)) = true then lowD ((tbAt is k).s + is.getD k 0) (k + 1) else (tbAt is k).lo)
      rw [eg, if_pos e]
      exact .var rfl
    · show Ev _ _ _ (if ltN (tbAt is k).lo (lowD ((tbAt is k).s + is.getD k 0) (k + 1)) = true then lowD ((tbAt is k).s + is.getD k 0) (k + 1) else (tbAt is k).lo)
      rw [eg, if_neg (by rw [e]; decide)]
      exact .var rfl
    refine ds_set (x := (tbAt is (k + 1)).hi) (.chosen (.tst (.below (.var rfl) (.var rfl) (low_isnum p) ok.nh b2 ok.bh)) (fun e => ?_) fun e => ?_) ?_
    · show Ev _ _ _ (if ltN (lowD ((tbAt is k).s + is.getD k 0 + 1) (k + 1)) (tbAt is k).hi = true then lowD ((tbAt is k).s + is.getD k 0 + 1) (k + 1) else (tbAt is k).hi)
      rw [eg, if_pos e]
      exact .var rfl
    · show Ev _ _ _ (if ltN (lowD ((tbAt is k).s + is.getD k 0 + 1) (k + 1)) (tbAt is k).hi = true then lowD ((tbAt is k).s + is.getD k 0 + 1) (k + 1) else (tbAt is k).hi)
      rw [eg, if_neg (by rw [e]; decide)]
      exact .var rfl
    have es : (tbAt is (k + 1)).s = (tbAt is k).s + is[k] := by
      show (tbAt is k).s + is.getD k 0 = _
      rw [eg]
    refine hN _ _ ⟨rfl, k + 1, lk, er2, o1, some (.int k), some (.int is[k]), some (lowD ((tbAt is k).s + is[k]) (k + 1)), some (lowD ((tbAt is k).s + is[k] + 1) (k + 1)), ?_⟩
    rw [es]
    rfl
  · rintro ρ G1 ⟨rfl, k, hk, er, o1, o5, o6, o7, o8, rfl⟩
    have kl : k = is.length := by
      have := congrArg List.length er
      rw [List.length_nil, List.length_drop, enum_len, List.length_map] at this
      omega
    subst kl
    have ok := tb_ok hm is.length l2
    refine ds_ret (x := tellD is) (.chosen (.tst (.below (.var rfl) (.var rfl) ok.nl ok.nh ok.bl ok.bh)) (fun e => ?_) fun e => ?_) h
    · unfold tellD
      rw [if_pos e]
      exact .tup (.cons (.var rfl) (.one (.var rfl))) (show 2 ≤ sizeLine by decide)
    · unfold tellD
      rw [if_neg (by rw [e]; decide)]
      exact .c
  · refine ⟨rfl, 0, Nat.zero_le _, rfl, none, none, none, none, none, ?_⟩
    show _ = [some x0, none, some (D.int (is.headD 0)), some (D.int (is.headD 0 + 1)), some (.int 0), none, none, none, none]
    rw [hl0]
    rfl
theorem told_back_ok (xs : List D) (G : Gm) (R : KD) (RX : XD) (h : sp_told_back xs G R RX) : toldR { nx := fun _ G => R .non G, rt := R } (xs.map some ++ List.replicate (9 - xs.length) none) G := by
  obtain ⟨x0, is, rfl, hx, l1, l2, hm, h⟩ := h
  have kx : x0.kn = true := by rcases hx with rfl | rfl <;> exact kn_ints is
  have sx : isSeqD x0 = true := by rcases hx with rfl | rfl <;> rfl
  have ax : ∀ {G : Gm}, SeqAt G x0 (is.map D.int) := fun {G} => seq_at hx.symm
  have hz : (is.map D.int).length ≤ sizeLine := by rw [List.length_map, sizeLine_eq]; omega
  have hw : withinD (.int ((is.map D.int).length : Nat)) (some 1) (some 2000) = true := by
    show (decide ((1 : Int) ≤ ((is.map D.int).length : Nat)) && decide ((((is.map D.int).length : Nat) : Int) ≤ 2000)) = true
    rw [List.length_map, decide_eq_true (by omega), decide_eq_true (by omega)]
    rfl
  refine ds_if (k := false) (.orF ((EvT.not (.tst (.isList (.var rfl) kx))).cast (by rw [sx]; rfl)) ((EvT.not (.tst (.isWithin (.len (.var rfl) ax) .c .c rfl rfl rfl))).cast (by rw [hw]; rfl))) ?_
  have hall : Ev (dCmp (dISeq (dVar 0)) (gN 1) dYes (dCall sp_is_integer X0 (dCons (dVar 1) dNil)) [1]) [some x0, none, none, none, none, none, none, none, none] G (.lst ((is.map fun _ => true).map D.bl)) := by
    have e : ((is.map fun _ => true).map D.bl) = (is.map D.int).map fun d => D.bl (isIntD d) := by
      rw [List.map_map, List.map_map]
      rfl
    rw [e]
    exact Ev.lcSeq (fun d => .bl (isIntD d)) (.var rfl) hx (fun y hy => .isInteger (.var rfl) (by
      obtain ⟨i, _, rfl⟩ := List.mem_map.mp hy
      rfl)) hz
  refine ds_if (k := false) ((EvT.not (.tst (.all hall))).cast (by
    have : ((is.map fun _ => true).all id) = true := by
      rw [List.all_eq_true]
      intro b hb
      obtain ⟨_, _, rfl⟩ := List.mem_map.mp hb
      rfl
    rw [this]
    rfl)) (told_tail hx l1 l2 hm h)
end DL

/-! DL22: plain laws: what a row tells of its number. -/
namespace DL
open PySem PySem.Spec PyProof.Rows L2 Evl
variable [TabC]

theorem lt_iff {x y : D} : ltN x y = true ↔ (numI x).1 * (numI y).2 < (numI y).1 * (numI x).2 := decide_eq_true_iff
theorem mul_lt_iff {g a b : Int} (hg : 0 < g) : g * a < g * b ↔ a < b := ⟨fun h => Int.lt_of_mul_lt_mul_left h (Int.le_of_lt hg), fun h => Int.mul_lt_mul_of_pos_left h hg⟩
/-- beside a fraction in lowest terms -/
theorem lt_lowR {y : D} {s k : Int} (hk : 0 < k) : ltN y (lowD s k) = true ↔ (numI y).1 * k < s * (numI y).2 := by
  obtain ⟨g, n, d, eg, g0, ea, eu, d0, e1, e2, _⟩ := gcd_facts (a := s) hk
  rw [lt_iff, low_num hk, eg, e1, e2, ea, eu]
  show (numI y).1 * d < n * (numI y).2 ↔ _
  rw [← mul_lt_iff g0]
  have h1 : (numI y).1 * (g * d) = g * ((numI y).1 * d) := by grind
  have h2 : g * n * (numI y).2 = g * (n * (numI y).2) := by grind
  rw [h1, h2]
theorem lt_lowL {y : D} {s k : Int} (hk : 0 < k) : ltN (lowD s k) y = true ↔ s * (numI y).2 < (numI y).1 * k := by
  obtain ⟨g, n, d, eg, g0, ea, eu, d0, e1, e2, _⟩ := gcd_facts (a := s) hk
  rw [lt_iff, low_num hk, eg, e1, e2, ea, eu]
  show n * (numI y).2 < (numI y).1 * d ↔ _
  rw [← mul_lt_iff g0]
  have h1 : (numI y).1 * (g * d) = g * ((numI y).1 * d) := by grind
  have h2 : g * n * (numI y).2 = g * (n * (numI y).2) := by grind
  rw [h1, h2]
theorem frac_trans {a b c d e f : Int} (hb : 0 < b) (hd : 0 < d) (hf : 0 < f) (h1 : a * d ≤ c * b) (h2 : c * f < e * d) : a * f < e * b := by
  have t1 : a * d * f ≤ c * b * f := Int.mul_le_mul_of_nonneg_right h1 (Int.le_of_lt hf)
  have t2 : b * (c * f) < b * (e * d) := Int.mul_lt_mul_of_pos_left h2 hb
  have t3 : d * (a * f) < d * (e * b) := by
    have e1 : d * (a * f) = a * d * f := by grind
    have e2 : b * (c * f) = c * b * f := by grind
    have e3 : b * (e * d) = d * (e * b) := by grind
    omega
  exact (mul_lt_iff hd).mp t3
theorem frac_trans2 {a b c d e f : Int} (hb : 0 < b) (hd : 0 < d) (hf : 0 < f) (h1 : a * d < c * b) (h2 : c * f ≤ e * d) : a * f < e * b := by
  have t1 : f * (a * d) < f * (c * b) := Int.mul_lt_mul_of_pos_left h1 hf
  have t2 : c * f * b ≤ e * d * b := Int.mul_le_mul_of_nonneg_right h2 (Int.le_of_lt hb)
  have t3 : d * (a * f) < d * (e * b) := by
    have e1 : d * (a * f) = f * (a * d) := by grind
    have e2 : f * (c * b) = c * f * b := by grind
    have e3 : e * d * b = d * (e * b) := by grind
    omega
  exact (mul_lt_iff hd).mp t3
theorem nlt_iff {x y : D} : ltN x y = false ↔ (numI y).1 * (numI x).2 ≤ (numI x).1 * (numI y).2 := by
  rw [Bool.eq_false_iff, Ne, lt_iff]
  omega
/-- the labels of x at 1 to n -/
def rowL (x : D) (n : Nat) : List Int := (List.range n).map fun i : Nat => lab x (1 + i)
theorem wh_zero (x : D) : wh x 0 = 0 := by
  unfold wh
  rw [Int.mul_zero, Int.zero_ediv]
theorem rowL_at {x : D} {n k : Nat} (h : k < n) : (rowL x n).getD k 0 = lab x (1 + (k : Nat)) := by
  unfold rowL
  show (((List.range n).map _)[k]?).getD 0 = _
  rw [List.getElem?_map, List.getElem?_range h]
  rfl
theorem row_s {x : D} {n : Nat} : ∀ k : Nat, k ≤ n → (tbAt (rowL x n) k).s = wh x k
  | 0, _ => (wh_zero x).symm
  | k + 1, h => by
    show (tbAt (rowL x n) k).s + (rowL x n).getD k 0 = wh x ((k + 1 : Nat) : Int)
    rw [row_s k (by omega), rowL_at (by omega)]
    unfold lab
    have e1 : (1 : Int) + (k : Nat) - 1 = (k : Nat) := by omega
    have e2 : ((k + 1 : Nat) : Int) = 1 + (k : Nat) := by omega
    rw [e1, e2]
    omega
theorem low_one (s : Int) : lowD s 1 = .int s := by
  unfold lowD
  have e : (Int.gcd s 1 : Int) = 1 := by
    rw [Int.gcd_one_right]
    rfl
  rw [e, if_pos (by decide), Int.ediv_one]
/-- after k labels: the greatest of the floors, the least of the ceilings -/
structure RowOk (x : D) (k : Nat) (t : TB) : Prop where
  lo : ∃ j : Nat, 1 ≤ j ∧ j ≤ max k 1 ∧ t.lo = lowD (wh x j) j
  hi : ∃ j : Nat, 1 ≤ j ∧ j ≤ max k 1 ∧ t.hi = lowD (wh x j + 1) j
  los : ∀ j : Nat, 1 ≤ j → j ≤ k → ltN t.lo (lowD (wh x j) j) = false
  his : ∀ j : Nat, 1 ≤ j → j ≤ k → ltN (lowD (wh x j + 1) j) t.hi = false
theorem lt_trans_no {x y z : D} (hx : numD x = true) (hy : numD y = true) (hz : numD z = true) (h : ltN x y = true) (h' : ltN x z = false) : ltN y z = false := by
  rw [nlt_iff] at h' ⊢
  rw [lt_iff] at h
  have := frac_trans (num_half hz).2 (num_half hx).2 (num_half hy).2 h' h
  omega
theorem lt_trans_no2 {x y z : D} (hx : numD x = true) (hy : numD y = true) (hz : numD z = true) (h : ltN y x = true) (h' : ltN z x = false) : ltN z y = false := by
  rw [nlt_iff] at h' ⊢
  rw [lt_iff] at h
  have := frac_trans2 (num_half hy).2 (num_half hx).2 (num_half hz).2 h h'
  omega
theorem lt_self {x : D} : ltN x x = false := by
  rw [nlt_iff]
  omega
theorem row_ok {x : D} {n : Nat} (hn : 1 ≤ n) : ∀ k : Nat, k ≤ n → RowOk x k (tbAt (rowL x n) k) ∧ numD (tbAt (rowL x n) k).lo = true ∧ numD (tbAt (rowL x n) k).hi = true
  | 0, _ => by
    have h1 : (rowL x n).headD 0 = wh x (1 : Nat) := by
      have e : (rowL x n).headD 0 = (rowL x n).getD 0 0 := by
        cases rowL x n <;> rfl
      rw [e, rowL_at (by omega)]
      unfold lab
      show wh x (1 + 0) - wh x (1 + 0 - 1) = wh x 1
      rw [show (1 : Int) + 0 - 1 = 0 by decide, wh_zero]
      show wh x 1 - 0 = _
      omega
    refine ⟨⟨⟨1, by decide, by decide, ?_⟩, ⟨1, by decide, by decide, ?_⟩, fun j h h' => by omega, fun j h h' => by omega⟩, rfl, rfl⟩
    · show D.int ((rowL x n).headD 0) = lowD (wh x (1 : Nat)) 1
      rw [low_one, h1]
    · show D.int ((rowL x n).headD 0 + 1) = lowD (wh x (1 : Nat) + 1) 1
      rw [low_one, h1]
  | k + 1, h => by
    obtain ⟨⟨⟨j1, a1, a2, a3⟩, ⟨j2, b1, b2, b3⟩, c1, c2⟩, n1, n2⟩ := row_ok hn k (by omega)
    have p : (0 : Int) < ((k + 1 : Nat) : Int) := by omega
    have es : (tbAt (rowL x n) k).s + (rowL x n).getD k 0 = wh x ((k + 1 : Nat) : Int) := row_s (x := x) (n := n) (k + 1) h
    have ek : ((k : Nat) : Int) + 1 = ((k + 1 : Nat) : Int) := by omega
    have eL : (tbAt (rowL x n) (k + 1)).lo = if ltN (tbAt (rowL x n) k).lo (lowD (wh x ((k + 1 : Nat) : Int)) ((k + 1 : Nat) : Int)) = true then lowD (wh x ((k + 1 : Nat) : Int)) ((k + 1 : Nat) : Int) else (tbAt (rowL x n) k).lo := by
      rw [← es, ← ek]
      rfl
    have eH : (tbAt (rowL x n) (k + 1)).hi = if ltN (lowD (wh x ((k + 1 : Nat) : Int) + 1) ((k + 1 : Nat) : Int)) (tbAt (rowL x n) k).hi = true then lowD (wh x ((k + 1 : Nat) : Int) + 1) ((k + 1 : Nat) : Int) else (tbAt (rowL x n) k).hi := by
      rw [← es, ← ek]
      rfl
    have nL := low_isnum (a := wh x ((k + 1 : Nat) : Int)) p
    have nH := low_isnum (a := wh x ((k + 1 : Nat) : Int) + 1) p
    have hL : (∃ j : Nat, 1 ≤ j ∧ j ≤ max (k + 1) 1 ∧ (tbAt (rowL x n) (k + 1)).lo = lowD (wh x j) j) ∧ (∀ j : Nat, 1 ≤ j → j ≤ k + 1 → ltN (tbAt (rowL x n) (k + 1)).lo (lowD (wh x j) j) = false) ∧ numD (tbAt (rowL x n) (k + 1)).lo = true := by
      rw [eL]
      split
      · rename_i e
        refine ⟨⟨k + 1, by omega, by omega, rfl⟩, fun j h1 h2 => ?_, nL⟩
        by_cases hj : j = k + 1
        · rw [hj]
          exact lt_self
        · exact lt_trans_no n1 nL (low_isnum (by omega)) e (c1 j h1 (by omega))
      · rename_i e
        refine ⟨⟨j1, a1, by omega, a3⟩, fun j h1 h2 => ?_, n1⟩
        by_cases hj : j = k + 1
        · rw [hj]
          exact Bool.eq_false_iff.mpr e
        · exact c1 j h1 (by omega)
    have hH : (∃ j : Nat, 1 ≤ j ∧ j ≤ max (k + 1) 1 ∧ (tbAt (rowL x n) (k + 1)).hi = lowD (wh x j + 1) j) ∧ (∀ j : Nat, 1 ≤ j → j ≤ k + 1 → ltN (lowD (wh x j + 1) j) (tbAt (rowL x n) (k + 1)).hi = false) ∧ numD (tbAt (rowL x n) (k + 1)).hi = true := by
      rw [eH]
      split
      · rename_i e
        refine ⟨⟨k + 1, by omega, by omega, rfl⟩, fun j h1 h2 => ?_, nH⟩
        by_cases hj : j = k + 1
        · rw [hj]
          exact lt_self
        · exact lt_trans_no2 n2 nH (low_isnum (by omega)) e (c2 j h1 (by omega))
      · rename_i e
        refine ⟨⟨j2, b1, by omega, b3⟩, fun j h1 h2 => ?_, n2⟩
        by_cases hj : j = k + 1
        · rw [hj]
          exact Bool.eq_false_iff.mpr e
        · exact c2 j h1 (by omega)
    exact ⟨⟨hL.1, hH.1, hL.2.1, hH.2.1⟩, hL.2.2, hH.2.2⟩
/-- y lies within what the row of x tells, exactly if its row is alike -/
theorem within_iff {x y : D} {n : Nat} (hn : 1 ≤ n) (hx : numD x = true) (hy : numD y = true) : (ltN y (tbAt (rowL x n) n).lo = false ∧ ltN y (tbAt (rowL x n) n).hi = true) ↔ ∀ j : Nat, 1 ≤ j → j ≤ n → wh y j = wh x j := by
  obtain ⟨⟨⟨j1, a1, a2, a3⟩, ⟨j2, b1, b2, b3⟩, c1, c2⟩, n1, n2⟩ := row_ok (x := x) hn n (Nat.le_refl _)
  obtain ⟨_, py⟩ := num_half hy
  have pl := (num_half n1).2
  have ph := (num_half n2).2
  have fl : ∀ (s : Int) (j : Nat), wh y j = s ↔ s * (numI y).2 ≤ (numI y).1 * j ∧ (numI y).1 * j < (s + 1) * (numI y).2 := fun s j => by
    unfold wh
    constructor
    · intro e
      refine ⟨(Int.le_ediv_iff_mul_le py).mp (by omega), (Int.ediv_lt_iff_lt_mul py).mp (by omega)⟩
    · rintro ⟨e1, e2⟩
      have f1 := (Int.le_ediv_iff_mul_le py).mpr e1
      have f2 := (Int.ediv_lt_iff_lt_mul py).mpr e2
      omega
  constructor
  · rintro ⟨h1, h2⟩ j hj1 hj2
    have pj : (0 : Int) < (j : Nat) := by omega
    have k1 := c1 j hj1 hj2
    have k2 := c2 j hj1 hj2
    rw [nlt_iff] at h1
    rw [lt_iff] at h2
    rw [Bool.eq_false_iff, Ne, lt_lowR pj] at k1
    rw [Bool.eq_false_iff, Ne, lt_lowL pj] at k2
    refine (fl _ _).mpr ⟨?_, ?_⟩
    · by_cases hc : wh x j * (numI y).2 ≤ (numI y).1 * j
      · exact hc
      · have := frac_trans (a := (numI (tbAt (rowL x n) n).lo).1) (b := (numI (tbAt (rowL x n) n).lo).2) (c := (numI y).1) (d := (numI y).2) (e := wh x j) (f := (j : Nat)) pl py pj h1 (by omega)
        omega
    · by_cases hc : (numI y).1 * j < (wh x j + 1) * (numI y).2
      · exact hc
      · have := frac_trans (a := wh x j + 1) (b := (j : Nat)) (c := (numI y).1) (d := (numI y).2) (e := (numI (tbAt (rowL x n) n).hi).1) (f := (numI (tbAt (rowL x n) n).hi).2) pj py ph (by omega) h2
        omega
  · intro h
    have p1 : (0 : Int) < (j1 : Nat) := by omega
    have p2 : (0 : Int) < (j2 : Nat) := by omega
    have e1 := (fl _ _).mp (h j1 a1 (by omega))
    have e2 := (fl _ _).mp (h j2 b1 (by omega))
    rw [a3, b3, Bool.eq_false_iff, Ne, lt_lowR p1, lt_lowR p2]
    omega
theorem row_eq {x y : D} {n : Nat} : rowL x n = rowL y n ↔ ∀ j : Nat, 1 ≤ j → j ≤ n → wh x j = wh y j := by
  constructor
  · intro h j _ hj
    rw [← row_s (x := x) (n := n) j hj, ← row_s (x := y) (n := n) j hj, h]
  · intro h
    unfold rowL
    refine List.map_congr_left fun i hi => ?_
    have hi2 := List.mem_range.mp hi
    unfold lab
    have e1 : (1 : Int) + (i : Nat) - 1 = (i : Nat) := by omega
    have e2 : (1 : Int) + (i : Nat) = ((i + 1 : Nat) : Int) := by omega
    rw [e1, e2, h (i + 1) (by omega) (by omega)]
    by_cases h0 : i = 0
    · subst h0
      show _ - wh x 0 = _ - wh y 0
      rw [wh_zero, wh_zero]
    · rw [h i (by omega) (by omega)]
end DL

/-! DL23: numbers in their one form; what == tells of them. -/
namespace DL
open PySem PySem.Spec PyProof.Rows L2 Evl
variable [TabC]

def Cn (x : D) : Prop := (∃ i, x = .int i) ∨ ∃ a b : Int, x = .tup [.int a, .int b] ∧ 2 ≤ b ∧ Int.gcd a b = 1
theorem cn_low {a u : Int} (hu : 0 < u) : Cn (lowD a u) := by
  obtain ⟨g, n, d, eg, g0, ea, eu, d0, e1, e2, e3, _⟩ := gcd_facts (a := a) hu
  unfold lowD
  rw [eg, e1, e2]
  split
  · exact .inl ⟨_, rfl⟩
  · exact .inr ⟨_, _, rfl, by omega, e3⟩
theorem Cn.num {x : D} (h : Cn x) : numD x = true := by
  rcases h with ⟨i, rfl⟩ | ⟨a, b, rfl, h2, h3⟩
  · rfl
  · show (decide (2 ≤ b) && decide (Int.gcd a b = 1)) = true
    rw [decide_eq_true h2, decide_eq_true h3]
    rfl
theorem Cn.cop {x : D} (h : Cn x) : Int.gcd (numI x).1 (numI x).2 = 1 := by
  rcases h with ⟨i, rfl⟩ | ⟨a, b, rfl, h2, h3⟩
  · exact Int.gcd_one_right i
  · exact h3
theorem Cn.eq {x y : D} (h : Cn x) (h' : Cn y) (e : numI x = numI y) : x = y := by
  rcases h with ⟨i, rfl⟩ | ⟨a, b, rfl, h2, h3⟩ <;> rcases h' with ⟨j, rfl⟩ | ⟨c, d, rfl, k2, k3⟩
  · have : i = j := congrArg Prod.fst e
    rw [this]
  · have : (1 : Int) = d := congrArg Prod.snd e
    omega
  · have : b = (1 : Int) := congrArg Prod.snd e
    omega
  · have e1 : a = c := congrArg Prod.fst e
    have e2 : b = d := congrArg Prod.snd e
    rw [e1, e2]
theorem frac_one {a b c d : Int} (hb : 0 < b) (hd : 0 < d) (h1 : Int.gcd a b = 1) (h2 : Int.gcd c d = 1) (e : a * d = c * b) : a = c ∧ b = d := by
  have k1 : b.natAbs ∣ d.natAbs := by
    have : b.natAbs ∣ a.natAbs * d.natAbs := by
      rw [← Int.natAbs_mul, e, Int.natAbs_mul]
      exact Nat.dvd_mul_left _ _
    exact Nat.Coprime.dvd_of_dvd_mul_left (show Nat.Coprime b.natAbs a.natAbs by
      show Nat.gcd b.natAbs a.natAbs = 1
      rw [Nat.gcd_comm]
      exact h1) this
  have k2 : d.natAbs ∣ b.natAbs := by
    have : d.natAbs ∣ c.natAbs * b.natAbs := by
      rw [← Int.natAbs_mul, ← e, Int.natAbs_mul]
      exact Nat.dvd_mul_left _ _
    exact Nat.Coprime.dvd_of_dvd_mul_left (show Nat.Coprime d.natAbs c.natAbs by
      show Nat.gcd d.natAbs c.natAbs = 1
      rw [Nat.gcd_comm]
      exact h2) this
  have k3 := Nat.dvd_antisymm k1 k2
  have bd : b = d := by omega
  subst bd
  refine ⟨?_, rfl⟩
  have : b * a = b * c := by rw [Int.mul_comm, e, Int.mul_comm]
  exact Int.eq_of_mul_eq_mul_left (by omega) this
theorem Cn.uniq {x y : D} (h : Cn x) (h' : Cn y) (e1 : ltN x y = false) (e2 : ltN y x = false) : x = y := by
  rw [nlt_iff] at e1 e2
  have e := frac_one (num_half h.num).2 (num_half h'.num).2 h.cop h'.cop (by omega)
  exact h.eq h' (Prod.ext e.1 e.2)
/-! ### == -/
theorem cn_py {x : D} (h : Cn x) : ∃ p, x.py = some p := by
  rcases h with ⟨i, rfl⟩ | ⟨a, b, rfl, _⟩ <;> exact ⟨_, rfl⟩
theorem cn_eqv {x y : D} {p q : PyData} (h : Cn x) (h' : Cn y) (hp : x.py = some p) (hq : y.py = some q) (e : PyData.eqv p q = true) : x = y := by
  rcases h with ⟨i, rfl⟩ | ⟨a, b, rfl, h2, h3⟩ <;> rcases h' with ⟨j, rfl⟩ | ⟨c, d, rfl, k2, k3⟩ <;> cases hp <;> cases hq <;> simp [PyData.eqv, PyData.eqvAll] at e ⊢
  · exact e
  · exact e
theorem pair_eqv {x y z w : D} (hx : Cn x) (hy : Cn y) (hz : Cn z) (hw : Cn w) (e : D.eqv (.tup [x, y]) (.tup [z, w]) = true) : x = z ∧ y = w := by
  obtain ⟨p, hp⟩ := cn_py hx
  obtain ⟨q, hq⟩ := cn_py hy
  obtain ⟨r, hr⟩ := cn_py hz
  obtain ⟨s, hs⟩ := cn_py hw
  have e1 : D.py (.tup [x, y]) = some (.tuple [p, q]) := by simp only [D.py, D.pyL, hp, hq, Option.map_some]
  have e2 : D.py (.tup [z, w]) = some (.tuple [r, s]) := by simp only [D.py, D.pyL, hr, hs, Option.map_some]
  rw [eqv_of e1 e2] at e
  simp [PyData.eqv, PyData.eqvAll] at e
  exact ⟨cn_eqv hx hz hp hr e.1, cn_eqv hy hw hq hs e.2⟩
theorem cn_lay {x : D} (h : Cn x) : x.lay = true ∧ x.dp ≤ 1 := by
  rcases h with ⟨i, rfl⟩ | ⟨a, b, rfl, _⟩
  · exact ⟨rfl, Nat.zero_le _⟩
  · exact ⟨rfl, by show 0 + 1 ≤ 1; omega⟩
theorem cn_cmp2 {x y : D} (hx : Cn x) (hy : Cn y) : Cmp (.tup [x, y]) := by
  obtain ⟨a, b⟩ := cn_lay hx
  obtain ⟨c, d⟩ := cn_lay hy
  refine ⟨?_, ?_⟩
  · show (x.lay && (y.lay && true)) = true
    rw [a, c]
    rfl
  · show max x.dp (max y.dp 0) + 1 ≤ 60
    omega
theorem ints_eqv : ∀ {is js : List Int}, D.eqv (.lst (is.map D.int)) (.lst (js.map D.int)) = decide (is = js) := by
  have py : ∀ is : List Int, D.py (.lst (is.map D.int)) = some (.list (is.map PyData.int)) := fun is => by
    have : D.pyL (is.map D.int) = some (is.map PyData.int) := by
      induction is with
      | nil => rfl
      | cons i is ih => simp only [List.map_cons, D.pyL, ih, D.py]
    simp only [D.py, this, Option.map_some]
  have all : ∀ is js : List Int, PyData.eqvAll (is.map PyData.int) (js.map PyData.int) = decide (is = js) := fun is => by
    induction is with
    | nil => intro js; cases js <;> simp [PyData.eqvAll]
    | cons i is ih =>
      intro js
      cases js with
      | nil => simp [PyData.eqvAll]
      | cons j js =>
        simp [PyData.eqvAll, PyData.eqv, ih]
        rfl
  intro is js
  rw [eqv_of (py is) (py js)]
  show PyData.eqv (.list _) (.list _) = _
  rw [PyData.eqv, all]
end DL
namespace DL
open PySem PySem.Spec PyProof.Rows L2 Evl
variable [TabC]
/-! ### what told_back answers of a number's own row -/
def loR (x : D) (n : Nat) : D := (tbAt (rowL x n) n).lo
def hiR (x : D) (n : Nat) : D := (tbAt (rowL x n) n).hi
theorem rowL_len {x : D} {n : Nat} : (rowL x n).length = n := by
  unfold rowL
  rw [List.length_map, List.length_range]
theorem row_lo {x : D} {n : Nat} (hn : 1 ≤ n) : Cn (loR x n) := by
  obtain ⟨⟨⟨j, a1, a2, a3⟩, _, _, _⟩, _⟩ := row_ok (x := x) hn n (Nat.le_refl _)
  unfold loR
  rw [a3]
  exact cn_low (by omega)
theorem row_hi {x : D} {n : Nat} (hn : 1 ≤ n) : Cn (hiR x n) := by
  obtain ⟨⟨_, ⟨j, a1, a2, a3⟩, _, _⟩, _⟩ := row_ok (x := x) hn n (Nat.le_refl _)
  unfold hiR
  rw [a3]
  exact cn_low (by omega)
theorem row_in {x : D} {n : Nat} (hn : 1 ≤ n) (hx : numD x = true) : ltN x (loR x n) = false ∧ ltN x (hiR x n) = true := (within_iff hn hx hx).mpr fun _ _ _ => rfl
theorem tell_row {x : D} {n : Nat} (hn : 1 ≤ n) (hx : numD x = true) : tellD (rowL x n) = .tup [loR x n, hiR x n] := by
  obtain ⟨h1, h2⟩ := row_in hn hx
  unfold tellD
  rw [rowL_len]
  refine if_pos ?_
  rw [nlt_iff] at h1
  rw [lt_iff] at h2 ⊢
  exact frac_trans (num_half (row_lo hn).num).2 (num_half hx).2 (num_half (row_hi hn).num).2 h1 h2
theorem in_row {x y : D} {n : Nat} (hn : 1 ≤ n) (hx : numD x = true) (hy : numD y = true) : (!ltN y (loR x n) && ltN y (hiR x n)) = decide (rowL x n = rowL y n) := by
  rw [Bool.eq_iff_iff, Bool.and_eq_true, Bool.not_eq_true', decide_eq_true_iff, row_eq]
  exact (within_iff hn hx hy).trans ⟨fun h j h1 h2 => (h j h1 h2).symm, fun h j h1 h2 => (h j h1 h2).symm⟩
theorem ends_row {x y : D} {n : Nat} (hn : 1 ≤ n) (hx : numD x = true) (hy : numD y = true) : D.eqv (.tup [loR x n, hiR x n]) (.tup [loR y n, hiR y n]) = decide (rowL x n = rowL y n) := by
  rw [Bool.eq_iff_iff, decide_eq_true_iff]
  constructor
  · intro h
    obtain ⟨e1, e2⟩ := pair_eqv (row_lo hn) (row_hi hn) (row_lo hn) (row_hi hn) h
    obtain ⟨h1, h2⟩ := row_in hn hy
    rw [← e1] at h1
    rw [← e2] at h2
    have := in_row hn hx hy
    rw [h1, h2] at this
    exact of_decide_eq_true this.symm
  · intro h
    have e1 : loR x n = loR y n := by unfold loR; rw [h]
    have e2 : hiR x n = hiR y n := by unfold hiR; rw [h]
    rw [e1, e2]
    exact eqv_self (cn_cmp2 (row_lo hn) (row_hi hn)).lay
/-- the ends stand by 1 / n apart at most -/
theorem row_near {x : D} {n : Nat} (hn : 1 ≤ n) : ((numI (hiR x n)).1 * (numI (loR x n)).2 - (numI (loR x n)).1 * (numI (hiR x n)).2) * n ≤ (numI (loR x n)).2 * (numI (hiR x n)).2 := by
  obtain ⟨⟨_, _, c1, c2⟩, _⟩ := row_ok (x := x) hn n (Nat.le_refl _)
  have pn : (0 : Int) < (n : Nat) := by omega
  have k1 := c1 n hn (Nat.le_refl _)
  have k2 := c2 n hn (Nat.le_refl _)
  rw [Bool.eq_false_iff, Ne, lt_lowR pn] at k1
  rw [Bool.eq_false_iff, Ne, lt_lowL pn] at k2
  have pl : 0 < (numI (loR x n)).2 := (num_half (row_lo hn).num).2
  have ph : 0 < (numI (hiR x n)).2 := (num_half (row_hi hn).num).2
  have k1' : wh x n * (numI (loR x n)).2 ≤ (numI (loR x n)).1 * n := Int.not_lt.mp k1
  have k2' : (numI (hiR x n)).1 * n ≤ (wh x n + 1) * (numI (hiR x n)).2 := Int.not_lt.mp k2
  have t1 := Int.mul_le_mul_of_nonneg_right k1' (Int.le_of_lt ph)
  have t2 := Int.mul_le_mul_of_nonneg_right k2' (Int.le_of_lt pl)
  have g1 : ((numI (hiR x n)).1 * (numI (loR x n)).2 - (numI (loR x n)).1 * (numI (hiR x n)).2) * n = (numI (hiR x n)).1 * n * (numI (loR x n)).2 - (numI (loR x n)).1 * n * (numI (hiR x n)).2 := by grind
  have g2 : (wh x n + 1) * (numI (hiR x n)).2 * (numI (loR x n)).2 = wh x n * (numI (loR x n)).2 * (numI (hiR x n)).2 + (numI (loR x n)).2 * (numI (hiR x n)).2 := by grind
  omega
/-- a longer row tells no less -/
theorem row_more {x : D} {n m : Nat} (hn : 1 ≤ n) (h : n ≤ m) : ltN (loR x m) (loR x n) = false ∧ ltN (hiR x n) (hiR x m) = false := by
  obtain ⟨⟨⟨j1, a1, a2, a3⟩, ⟨j2, b1, b2, b3⟩, _, _⟩, _⟩ := row_ok (x := x) hn n (Nat.le_refl _)
  obtain ⟨⟨_, _, c1, c2⟩, _⟩ := row_ok (x := x) (n := m) (by omega) m (Nat.le_refl _)
  have e1 : loR x n = lowD (wh x j1) j1 := a3
  have e2 : hiR x n = lowD (wh x j2 + 1) j2 := b3
  rw [e1, e2]
  exact ⟨c1 j1 a1 (by omega), c2 j2 b1 (by omega)⟩
theorem low_self {x : D} (h : Cn x) : lowD (numI x).1 (numI x).2 = x := by
  have hp := (num_half h.num).2
  refine (cn_low hp).eq h ?_
  rw [low_num hp, h.cop]
  show ((numI x).1 / 1, (numI x).2 / 1) = numI x
  rw [Int.ediv_one, Int.ediv_one]
/-- a row as long as the under tells the number itself -/
theorem row_own {x : D} {n : Nat} (h : Cn x) (hn : (numI x).2 ≤ n) (hn1 : 1 ≤ n) : loR x n = x := by
  obtain ⟨⟨_, _, c1, _⟩, _⟩ := row_ok (x := x) hn1 n (Nat.le_refl _)
  have hp := (num_half h.num).2
  have ej : (((numI x).2.toNat : Nat) : Int) = (numI x).2 := Int.toNat_of_nonneg (by omega)
  have k1 := c1 (numI x).2.toNat (by omega) (by omega)
  rw [ej] at k1
  have ew : wh x (numI x).2 = (numI x).1 := by
    unfold wh
    exact Int.mul_ediv_cancel _ (by omega)
  rw [ew, low_self h] at k1
  exact (row_lo hn1).uniq h k1 (row_in hn1 h.num).1
end DL

/-! DL24: .append of a list that may change; such a list taken as a datum again. -/
namespace DL
open PySem PySem.Spec PyProof.Rows L2 Evl
variable [TabC]

/-- o.append(e) -/
def dApp (dobj de : DE) : DE := fun ρ G R => dobj ρ G fun o G1 => ∃ q, o = .ref q ∧ (∃ ds, G1 q = some (.lst ds)) ∧ dCons de dNil ρ G1 fun xs G2 => ∃ x, xs = [x] ∧ ∃ ds, G2 q = some (.lst ds) ∧ ds.length < sizeLine ∧ R .non (gup G2 q (.lst (ds ++ [x])))
section
variable {X : Cx} {B : Bs} {o e : Expr} {dobj de : DE} {pos p : Pos}
theorem pd_append (ho : PE X o (upE X.K B dobj)) (he : PE X e (upE X.K B de)) (hs : starEach [e] X.env = (false, eval e X.env) :: starEach [] X.env := by rfl) (hbase : attributeBase o "append" X.env (eval o X.env) = eval o X.env := by rfl)
    (hfew : ((backTo pos (starEach [e] X.env)).all (fun x => !x.1) && (backToKw pos (keywordEach [] X.env)).all (fun x => x.1.isSome) && decide ([e].length + ([] : List Keyword).length + (if ([] : List Keyword).isEmpty then 0 else 1) < 30)) = true := by rfl)
    (hline : (p.endLine == pos.line) = true := by rfl) (hplain : (backTo pos (starEach [] X.env)).any (·.1) = false := by rfl) :
    PE X (.Call (.Attribute o "append" p) [e] [] pos) (upE X.K B (dApp dobj de)) := pe_imp (pe_bm PySem.F.plainAttrs_list PySem.F.slot_list_append PySem.F.type_list_append mt_append ho (pda_cons he pda_nil hs) hbase hfew hline hs hplain) fun σ H Q ⟨ρ, Hd, G, R, at_, h, k⟩ =>
  ⟨ρ, Hd, G, fun o G1 => ∃ q, o = .ref q ∧ (∃ ds, G1 q = some (.lst ds)) ∧ dCons de dNil ρ G1 fun xs G2 => ∃ x, xs = [x] ∧ ∃ ds, G2 q = some (.lst ds) ∧ ds.length < sizeLine ∧ R .non (gup G2 q (.lst (ds ++ [x]))), at_, h, fun v H1 Hd1 x G1 e1 s1 r1 ⟨q, ex, ⟨ds0, hg0⟩, h1⟩ => by
    subst ex
    cases r1
    obtain ⟨ys0, hy0, _⟩ := s1.hold q _ hg0
    refine ⟨.inl ⟨rfl, ys0, SqL.of hy0⟩, ρ, Hd1, G1, fun xs G2 => ∃ x, xs = [x] ∧ ∃ ds, G2 q = some (.lst ds) ∧ ds.length < sizeLine ∧ R .non (gup G2 q (.lst (ds ++ [x]))), at_.step e1 s1, ?_, fun us H2 Hd2 xs G2 e2 s2 r2 ⟨x, ex, ds, hg, hz, h2⟩ => ?_⟩
    · exact h1
    · subst ex
      obtain ⟨u, rfl, ru⟩ := rpl1 r2
      obtain ⟨ys, hy, ry⟩ := s2.hold q _ hg
      exact ⟨q, ys, u, rfl, rfl, hy, by rw [ry.length]; exact hz, k .non _ Hd2 .non _ (e1.trans e2) (s2.put (n := .lst (ds ++ [x])) hg ⟨_, upd_same, ry.app (.cons ru .nil)⟩) .non h2⟩⟩
end
/-- the part p of the store let go -/
def gdel (G : Gm) (p : Addr) : Gm := fun b => if b = p then none else G b
theorem Sim.freeze {K : PySem.W.Frag} {F : Gm} {Hd H : Hp} {G : Gm} (S : Sim K F Hd H G) {p : Addr} {ds : List D} (h : G p = some (.lst ds)) : ∃ xs, Sim K F (upd Hd p (.lst xs)) H (gdel G p) ∧ RpL K Hd xs ds := by
  obtain ⟨xs, hx, r⟩ := S.hold p _ h
  have hd := S.off p _ h
  have hf := S.gf h
  have e : Ex Hd (upd Hd p (.lst xs)) := Ex.new hd
  have gd : ∀ {a : Addr} {m : Mt}, gdel G p a = some m → a ≠ p ∧ G a = some m := fun {a m} q => by
    unfold gdel at q
    split at q
    · cases q
    · rename_i z
      exact ⟨z, q⟩
  refine ⟨xs, ⟨fun a u q => ?_, fun a m q => ?_, fun a m q => (S.hold a m (gd q).2).mono e, fun a m q => ?_, fun a m q => (S.holdF a m q).mono e, fun a m q => ?_, S.tabs⟩, r⟩
  · by_cases z : a = p
    · subst z
      rw [upd_same] at q
      cases q
      exact hx
    · rw [upd_ne z] at q
      exact S.sub a u q
  · rw [upd_ne (gd q).1]
    exact S.off a m (gd q).2
  · rw [upd_ne (ne_g q hf)]
    exact S.offF a m q
  · unfold gdel
    split
    · rfl
    · exact S.apart a m q
/-- ahead of s: what the name i holds is a datum from here on -/
def dFrz (i : Nat) (s : DS) : DS := fun E ρ G => ∃ p ds, ρ[i]? = some (some (.ref p)) ∧ G p = some (.lst ds) ∧ s E (ρ.set i (some (.lst ds))) (gdel G p)
theorem frz_imp {K : PySem.W.Frag} {B : Bs} {i : Nat} {s : DS} : ∀ D σ H, upS K B (dFrz i s) D σ H → upS K B s D σ H := fun D σ H ⟨ρ, Hd, G, E, at_, ⟨p, ds, hi, hg, h⟩, k⟩ => by
  obtain ⟨xs, S, r⟩ := at_.s.freeze hg
  have e : Ex Hd (upd Hd p (.lst xs)) := Ex.new (at_.s.off p _ hg)
  refine ⟨_, _, _, E, ⟨at_.b.trans e, ⟨by rw [List.length_set]; exact at_.e.1, fun j d hj => ?_⟩, S⟩, h, k.mono e⟩
  by_cases q : i = j
  · subst q
    have hl : i < ρ.length := by
      by_cases z : i < ρ.length
      · exact z
      · rw [List.getElem?_eq_none (by omega)] at hi
        cases hi
    rw [List.getElem?_set_self hl] at hj
    cases hj
    obtain ⟨v, hv, rv⟩ := at_.e.2 i _ hi
    cases rv
    exact ⟨_, hv, .lst sq_new (r.mono e)⟩
  · rw [List.getElem?_set_ne q] at hj
    obtain ⟨v, hv, rv⟩ := at_.e.2 j d hj
    exact ⟨v, hv, rv.mono e⟩
theorem psd_frz {X : Cx} {B : Bs} {st : Stmt} {s : DS} (i : Nat) (h : PS X st (upS X.K B s)) : PS X st (upS X.K B (dFrz i s)) := ps_imp h frz_imp
theorem pssd_frz {X : Cx} {B : Bs} {st : List Stmt} {s : DS} (i : Nat) (h : PSs X st (upS X.K B s)) : PSs X st (upS X.K B (dFrz i s)) := pss_imp h frz_imp
end DL
/-! ### list + list -/
namespace MZ
open PySem PySem.Spec PyProof.Rows L2
theorem meetsCat (l : Addr) (us : Array Value) (n : Nat) (b : Addr) (vs : Array Value) (m : Nat) (sl sl2 : Array (Option Value)) (hz : us.size + vs.size ≤ sizeLine) : Meets (Builtin.«list.__add__» ⟨[.ref l, .ref b], []⟩) (fun _ R s =>
    s.heap.get? l = some { cls := .type "list", dict := none, data := .seq us n, slots := sl } ∧ s.heap.get? b = some { cls := .type "list", dict := none, data := .seq vs m, slots := sl2 } ∧ R (.ok (.ret (Value.ref s.heap.objs.size))) { s with heap := s.heap.push { cls := Value.type "list", data := Data.seq (us ++ vs) }, toks := s.toks }) :=
  .of_wp fun prog w A R s h => by
    obtain ⟨hp, g, d, tk, os⟩ := s
    obtain ⟨c1, c2, h⟩ := h
    have f1 := AutoSeq1.idx_int
    have f2 := AutoSeq1.sub_tuple_tuple
    have f3 := AutoSeq1.sub_list_list
    have f4 := AutoSeq1.sub_tuple_list
    have f5 := AutoSeq1.sub_list_tuple
    wp_walk using AutoSeq1.wpAny_loadPart' c1, AutoSeq1.wpAny_loadPart' c2
    exact ⟨_, rfl, h⟩
end MZ
namespace DL
open PySem PySem.Spec PyProof.Rows L2 Evl
variable [TabC]
def rCatL (K : PySem.W.Frag) : R2 := fun x y H Q => ∃ a b xs ys, x = .ref a ∧ y = .ref b ∧ SqL K H a xs ∧ SqL K H b ys ∧ xs.length + ys.length ≤ sizeLine ∧ ∀ p, H p = none → Q (.ref p) (upd H p (.lst (xs ++ ys)))
theorem op_catL {X : Cx} : OpR X (binaryOp .Add) (rCatL X.K) := by
  intro pins s σ H x y v u Q I rx ry h
  obtain ⟨a, b, xs, ys, rfl, rfl, ha, hb, hz, q⟩ := h
  cases rx
  cases ry
  obtain ⟨its, r1, ⟨⟨c1, d1, da1, sl1⟩, n1, e1, ec1, ed1, es1⟩, _⟩ := I.list ha
  obtain ⟨its2, r2, ⟨⟨c2, d2, da2, sl2⟩, n2, e2, ec2, ed2, es2⟩, _⟩ := I.list hb
  simp only at ec1 ed1 es1 ec2 ed2 es2
  subst ec1 ed1 es1 ec2 ed2 es2
  have l1 := r1.length
  have l2 := r2.length
  refine concat_meets ⟨_, e1, rfl⟩ ⟨_, e2, rfl⟩ noFill_list_add seq_list_add F.slot_list_add F.entry_list_add (F.args_list_add_2 _ _) (MZ.meetsCat a its.toArray n1 b its2.toArray n2 sl1 sl2 (by rw [List.size_toArray, List.size_toArray]; omega)) ⟨e1, e2, ?_⟩
  have ea : its.toArray ++ its2.toArray = (its ++ its2).toArray := by simp
  rw [ea]
  exact ⟨.ref _, _, I.lnew (t' := s.toks) (r1.append r2) (by rw [List.length_append]; omega), rfl, q _ I.fresh⟩
/-- + of lists that never change -/
def fAddL (x y z : D) : Prop := ∃ xs ys, x = .lst xs ∧ y = .lst ys ∧ xs.length + ys.length ≤ sizeLine ∧ z = .lst (xs ++ ys)
theorem od_addL {K : PySem.W.Frag} : OpD K (rCatL K) fAddL := fun F Hd H G v u x y z Q s rv ru ⟨xs, ys, ex, ey, hz, ez⟩ k => by
  subst ex ey ez
  cases rv with
  | lst q r =>
    cases ru with
    | lst q' r' => exact ⟨_, _, _, _, rfl, rfl, ex_l s.sub q, ex_l s.sub q', by rw [r.length, r'.length]; exact hz, fun p hp => k _ _ _ (s.exn hp) (s.new hp) (.lst sq_new ((r.app r').mono (s.exn hp)))⟩
theorem pd_addL {X : Cx} {B : Bs} {pos : Pos} {a b : Expr} {da db : DE} (ha : PE X a (upE X.K B da)) (hb : PE X b (upE X.K B db)) : PE X (.BinOp a .Add b pos) (upE X.K B (dOp fAddL da db)) := pd_op op_catL od_addL ha hb
theorem Ev.addL {ρ : En} {G : Gm} {da db : DE} {xs ys : List D} (ha : Ev da ρ G (.lst xs)) (hb : Ev db ρ G (.lst ys)) (hz : xs.length + ys.length ≤ sizeLine) : Ev (dOp fAddL da db) ρ G (.lst (xs ++ ys)) := .op ha hb ⟨xs, ys, rfl, rfl, hz, rfl⟩
end DL
namespace DL
open PySem PySem.Spec PyProof.Rows L2 Evl
variable [TabC]
section
variable {X : Cx} {B : Bs} {pos pp : Pos} {a : Expr} {da : DE} {j : Nat}
theorem ptd_isN (ha : PE X a (upE X.K B da)) : PT X (.Compare a [.Is] [.Constant .none j pp] pos) (upT X.K B (dTst (dIsN da))) := pt_imp (pt_cmp (pc_isN ha) rfl) fun σ H Q h => isn_imp σ H _ (tst_imp σ H Q h)
theorem ptd_notN (ha : PE X a (upE X.K B da)) : PT X (.Compare a [.IsNot] [.Constant .none j pp] pos) (upT X.K B (dTst (dNotN da))) := pt_imp (pt_cmp (pc_notN ha) rfl) fun σ H Q h => notn_imp σ H _ (tst_imp σ H Q h)
end
end DL

/-! DL25: told_back as a law itself reckons it; its answer can be shown. -/
namespace DL
open PySem PySem.Spec PyProof.Rows L2 Evl
variable [TabC]

theorem tb_gen {xs : List Int} {m : Nat} (hm : ∀ i ∈ xs, i.natAbs < 2 ^ m) : ∀ k : Nat, k ≤ 2000 → (Cn (tbAt xs k).lo ∧ Bn (m + 13) (tbAt xs k).lo) ∧ Cn (tbAt xs k).hi ∧ Bn (m + 13) (tbAt xs k).hi
  | 0, _ => by
    have h1 : (xs.headD 0).natAbs < 2 ^ m := by
      cases xs with
      | nil => exact Nat.two_pow_pos _
      | cons x xs => exact hm x List.mem_cons_self
    have h2 : 2 ^ m + 1 ≤ 2 ^ (m + 13) := by
      rw [Nat.pow_add]
      have := Nat.two_pow_pos m
      omega
    have h3 : (1 : Int).natAbs < 2 ^ (m + 13) := Nat.one_lt_two_pow (by omega)
    exact ⟨⟨.inl ⟨_, rfl⟩, by show (xs.headD 0).natAbs < _; omega, h3⟩, .inl ⟨_, rfl⟩, by show (xs.headD 0 + 1).natAbs < _; omega, h3⟩
  | k + 1, hk => by
    obtain ⟨⟨c1, d1⟩, c2, d2⟩ := tb_gen hm k (by omega)
    have p : (0 : Int) < ((k : Int) + 1) := by omega
    have hs := tb_s hm (k + 1)
    have e : (tbAt xs (k + 1)).s = (tbAt xs k).s + xs.getD k 0 := rfl
    rw [e] at hs
    have hz : (k + 1) * 2 ^ m ≤ 2001 * 2 ^ m := Nat.mul_le_mul_right _ (by omega)
    have h2 : 2001 * 2 ^ m + 1 < 2 ^ (m + 13) := by
      rw [Nat.pow_add]
      have := Nat.two_pow_pos m
      omega
    have h3 : ((k : Int) + 1).natAbs < 2 ^ (m + 13) := Nat.lt_of_lt_of_le (show ((k : Int) + 1).natAbs < 2 ^ 13 by omega) (Nat.pow_le_pow_right (by decide) (by omega))
    have b1 : Bn (m + 13) (lowD ((tbAt xs k).s + xs.getD k 0) (k + 1)) := low_bn p (by omega) h3
    have b2 : Bn (m + 13) (lowD ((tbAt xs k).s + xs.getD k 0 + 1) (k + 1)) := low_bn p (by omega) h3
    refine ⟨?_, ?_⟩
    · show Cn (if _ then _ else _) ∧ Bn _ (if _ then _ else _)
      split
      · exact ⟨cn_low p, b1⟩
      · exact ⟨c1, d1⟩
    · show Cn (if _ then _ else _) ∧ Bn _ (if _ then _ else _)
      split
      · exact ⟨cn_low p, b2⟩
      · exact ⟨c2, d2⟩
theorem cn_fit {x : D} {k : Nat} (h : Cn x) (hb : Bn k x) (hk : 2 ^ k ≤ 10 ^ 560) : x.fit = true ∧ x.dp ≤ 1 ∧ x.sz ≤ 3 := by
  rcases h with ⟨i, rfl⟩ | ⟨a, b, rfl, _⟩
  · exact ⟨decide_eq_true (show i.natAbs < 10 ^ 560 from Nat.lt_of_lt_of_le hb.1 hk), Nat.zero_le _, by show 1 ≤ 3; decide⟩
  · refine ⟨?_, by show 0 + 1 ≤ 1; omega, by show 1 + (1 + 0) + 1 ≤ 3; omega⟩
    show (decide (a.natAbs < 10 ^ 560) && (decide (b.natAbs < 10 ^ 560) && true)) = true
    rw [decide_eq_true (show a.natAbs < 10 ^ 560 from Nat.lt_of_lt_of_le hb.1 hk), decide_eq_true (show b.natAbs < 10 ^ 560 from Nat.lt_of_lt_of_le hb.2 hk)]
    rfl
theorem rep_tell {is : List Int} {m : Nat} (hm : ∀ i ∈ is, i.natAbs < 2 ^ m) (hk : m ≤ 1000) (hl : is.length ≤ 2000) : RepOk (tellD is) := by
  obtain ⟨⟨c1, d1⟩, c2, d2⟩ := tb_gen hm is.length hl
  have hp : 2 ^ (m + 13) ≤ 10 ^ 560 := Nat.le_trans (Nat.pow_le_pow_right (by decide) (show m + 13 ≤ 1013 by omega)) (by decide +kernel)
  obtain ⟨f1, f2, f3⟩ := cn_fit c1 d1 hp
  obtain ⟨g1, g2, g3⟩ := cn_fit c2 d2 hp
  unfold tellD
  split
  · refine .inl ⟨?_, ?_, ?_⟩
    · show (D.fit _ && (D.fit _ && true)) = true
      rw [f1, g1]
      rfl
    · show max (D.dp _) (max (D.dp _) 0) + 1 ≤ 60
      omega
    · show D.sz _ + (D.sz _ + 0) + 1 ≤ 27000
      omega
  · exact .inl ⟨rfl, Nat.zero_le _, by show 1 ≤ 27000; decide⟩
theorem Ev.tell {ρ : En} {G : Gm} {da : DE} {x : D} {is : List Int} (h : Ev da ρ G x) (hx : x = .lst (is.map D.int) ∨ x = .tup (is.map D.int)) (l1 : 1 ≤ is.length) (l2 : is.length ≤ 2000) (hm : ∀ i ∈ is, i.natAbs < 2 ^ 3000) : Ev (dCall sp_told_back X0 (dCons da dNil)) ρ G (tellD is) := .call (.one h) fun R r => ⟨x, is, rfl, hx, l1, l2, hm, r⟩
def dueR : DS := (dSeq (dAsg (dTup (dCons (dC .non) (dCons (dC .non) (dCons (dC (.int 0)) dNil)))) (gSeq 3 (gCons (gN 1) (gCons (gN 2) (gCons (gN 3) gNil))))) (dSeq (dFor (dIEnumerate (dCons (dVar 0) dNil)) (gSeq 2 (gCons (gN 4) (gCons (gN 5) gNil))) (dSeq (dSet 3 (dOp fAdd (dVar 3) (dVar 5))) (dSeq (dPar 6 7 (dCons (dCall sp_lowest_in X0 (dCons (dVar 3) (dCons (dOp fAdd (dVar 4) (dC (.int 1))) dNil))) (dCons (dCall sp_lowest_in X0 (dCons (dOp fAdd (dVar 3) (dC (.int 1))) (dCons (dOp fAdd (dVar 4) (dC (.int 1))) dNil))) dNil))) (dSeq (dSet 1 (dIf (dOr (dTst (dIsN (dVar 1))) (dTst (dCall sp_below X0 (dCons (dVar 1) (dCons (dVar 6) dNil))))) (dVar 6) (dVar 1))) (dSet 2 (dIf (dOr (dTst (dIsN (dVar 2))) (dTst (dCall sp_below X0 (dCons (dVar 7) (dCons (dVar 2) dNil))))) (dVar 7) (dVar 2))))))) (dRet (dIf (dTst (dCall sp_below X0 (dCons (dVar 1) (dCons (dVar 2) dNil)))) (dTup (dCons (dVar 1) (dCons (dVar 2) dNil))) (dC .non)))))
/-- None at first -/
def dueL (xs : List Int) (k : Nat) : D := if k = 0 then .non else (tbAt xs k).lo
def dueH (xs : List Int) (k : Nat) : D := if k = 0 then .non else (tbAt xs k).hi
theorem num_notN {x : D} (h : numD x = true) : x.isN = false := by cases x <;> first | rfl | cases h
theorem due_ok (xs : List D) (G : Gm) (R : KD) (RX : XD) (h : sp_told_back xs G R RX) : dueR { nx := fun _ G => R .non G, rt := R } (xs.map some ++ List.replicate (8 - xs.length) none) G := by
  obtain ⟨x0, is, rfl, hx, l1, l2, hm, h⟩ := h
  obtain ⟨l0, tl, eis⟩ : ∃ l0 tl, is = l0 :: tl := by
    cases is with
    | nil => simp at l1
    | cons a b => exact ⟨a, b, rfl⟩
  have hl0 : is.headD 0 = l0 := by rw [eis]; rfl
  have hg0 : is.getD 0 0 = l0 := by rw [eis]; rfl
  refine ds_asg (.tup (.cons .c (.cons .c (.one .c))) (show 3 ≤ sizeLine by decide)) ?_
  refine ⟨_, seq_tup, rfl, _, _, rfl, _, _, rfl, _, _, rfl, rfl, ?_⟩
  refine ⟨_, rfl, is.map D.int, hx.imp (fun e => by rw [e]) (fun e => by rw [e]), ?_⟩
  refine forL_at (fun rest ρ G' => G' = G ∧ ∃ k, k ≤ is.length ∧ rest = (enumD (is.map D.int)).drop k ∧ ∃ o4 o5 o6 o7, ρ = [some x0, some (dueL is k), some (dueH is k), some (.int (tbAt is k).s), o4, o5, o6, o7]) ?_ ?_ ?_
  · rintro x rest N ρ G1 hsuf hN ⟨rfl, k, hk, er, o4, o5, o6, o7, rfl⟩
    have lk : k < is.length := by
      have := congrArg List.length er
      rw [List.length_cons, List.length_drop, enum_len, List.length_map] at this
      omega
    have ex : (enumD (is.map D.int))[k]? = some x := by
      have := congrArg (fun l => l[0]?) er
      rw [List.getElem?_drop] at this
      exact this.symm
    have er2 : rest = (enumD (is.map D.int)).drop (k + 1) := by
      have := congrArg List.tail er
      rw [List.tail_drop] at this
      exact this
    obtain ⟨y, hy, rfl⟩ := enum_at ex
    rw [List.getElem?_map, List.getElem?_eq_getElem lk] at hy
    cases hy
    have eg : is.getD k 0 = is[k] := by
      show (is[k]?).getD 0 = _
      rw [List.getElem?_eq_getElem lk]
      rfl
    have ok := tb_ok hm k (by omega)
    obtain ⟨b1, b2⟩ := tb_bn hm (show k < 2000 by omega)
    have p : (0 : Int) < ((k : Int) + 1) := by omega
    have p2 : ((k : Int) + 1) < 2 ^ 8000 := Int.lt_of_le_of_lt (show ((k : Int) + 1) ≤ 3000 by omega) (by decide +kernel)
    have eL : (tbAt is (k + 1)).lo = if ltN (tbAt is k).lo (lowD ((tbAt is k).s + is.getD k 0) (k + 1)) = true then lowD ((tbAt is k).s + is.getD k 0) (k + 1) else (tbAt is k).lo := rfl
    have eH : (tbAt is (k + 1)).hi = if ltN (lowD ((tbAt is k).s + is.getD k 0 + 1) (k + 1)) (tbAt is k).hi = true then lowD ((tbAt is k).s + is.getD k 0 + 1) (k + 1) else (tbAt is k).hi := rfl
    rw [eg] at b1 b2 eL eH
    refine ⟨_, seq_tup, rfl, _, _, rfl, _, _, rfl, rfl, ?_⟩
    refine ds_set (.add (.var rfl) (.var rfl)) ?_
    refine ds_par (.low (.var rfl) (.add (.var rfl) .c) p p2) (.low (.add (.var rfl) .c) (.add (.var rfl) .c) p p2) ?_
    have dL : dueL is (k + 1) = (tbAt is (k + 1)).lo := if_neg (Nat.succ_ne_zero k)
    have dH : dueH is (k + 1) = (tbAt is (k + 1)).hi := if_neg (Nat.succ_ne_zero k)
    have es : (tbAt is (k + 1)).s = (tbAt is k).s + is[k] := by
      show (tbAt is k).s + is.getD k 0 = _
      rw [eg]
    by_cases h0 : k = 0
    · subst h0
      have s0 : (tbAt is 0).s = 0 := rfl
      have i0 : is[0] = l0 := by rw [← eg]; exact hg0
      have z1 : lowD ((tbAt is 0).s + is[0]) ((0 : Nat) + 1) = .int l0 := by
        rw [s0, i0]
        show lowD (0 + l0) (0 + 1) = _
        rw [Int.zero_add, show (0 : Int) + 1 = 1 by decide, low_one]
      have z2 : lowD ((tbAt is 0).s + is[0] + 1) ((0 : Nat) + 1) = .int (l0 + 1) := by
        rw [s0, i0]
        show lowD (0 + l0 + 1) (0 + 1) = _
        rw [Int.zero_add, show (0 : Int) + 1 = 1 by decide, low_one]
      have t1 : (tbAt is 1).lo = lowD ((tbAt is 0).s + is[0]) ((0 : Nat) + 1) := by
        rw [eL]
        have : (tbAt is 0).lo = lowD ((tbAt is 0).s + is[0]) ((0 : Nat) + 1) := by
          rw [z1]
          show D.int (is.headD 0) = _
          rw [hl0]
        rw [this]
        exact ite_self _
      have t2 : (tbAt is 1).hi = lowD ((tbAt is 0).s + is[0] + 1) ((0 : Nat) + 1) := by
        rw [eH]
        have : (tbAt is 0).hi = lowD ((tbAt is 0).s + is[0] + 1) ((0 : Nat) + 1) := by
          rw [z2]
          show D.int (is.headD 0 + 1) = _
          rw [hl0]
        rw [this]
        exact ite_self _
      refine ds_set (x := dueL is 1) (.ifT (.orT (.tst (.isN (x := .non) (.var rfl)))) ((Ev.var rfl).cast (by rw [dL, t1]))) ?_
      refine ds_set (x := dueH is 1) (.ifT (.orT (.tst (.isN (x := .non) (.var rfl)))) ((Ev.var rfl).cast (by rw [dH, t2]))) ?_
      refine hN _ _ ⟨rfl, 0 + 1, lk, er2, some (.int (0 : Nat)), some (.int is[0]), some (lowD ((tbAt is 0).s + is[0]) ((0 : Nat) + 1)), some (lowD ((tbAt is 0).s + is[0] + 1) ((0 : Nat) + 1)), ?_⟩
      rw [es]
      rfl
    · have kL : dueL is k = (tbAt is k).lo := if_neg h0
      have kH : dueH is k = (tbAt is k).hi := if_neg h0
      rw [kL, kH]
      refine ds_set (x := dueL is (k + 1)) (.chosen (.orF (.tst ((Ev.isN (.var rfl)).cast (by rw [num_notN ok.nl]))) (.tst (.below (.var rfl) (.var rfl) ok.nl (low_isnum p) ok.bl b1))) (fun e => ?_) fun e => ?_) ?_
      · rw [dL, eL, if_pos e]
        exact .var rfl
      · rw [dL, eL, if_neg (by rw [e]; decide)]
        exact .var rfl
      refine ds_set (x := dueH is (k + 1)) (.chosen (.orF (.tst ((Ev.isN (.var rfl)).cast (by rw [num_notN ok.nh]))) (.tst (.below (.var rfl) (.var rfl) (low_isnum p) ok.nh b2 ok.bh))) (fun e => ?_) fun e => ?_) ?_
      · rw [dH, eH, if_pos e]
        exact .var rfl
      · rw [dH, eH, if_neg (by rw [e]; decide)]
        exact .var rfl
      refine hN _ _ ⟨rfl, k + 1, lk, er2, some (.int k), some (.int is[k]), some (lowD ((tbAt is k).s + is[k]) (k + 1)), some (lowD ((tbAt is k).s + is[k] + 1) (k + 1)), ?_⟩
      rw [es]
      rfl
  · rintro ρ G1 ⟨rfl, k, hk, er, o4, o5, o6, o7, rfl⟩
    have kl : k = is.length := by
      have := congrArg List.length er
      rw [List.length_nil, List.length_drop, enum_len, List.length_map] at this
      omega
    subst kl
    have ok := tb_ok hm is.length l2
    have kL : dueL is is.length = (tbAt is is.length).lo := if_neg (by omega)
    have kH : dueH is is.length = (tbAt is is.length).hi := if_neg (by omega)
    rw [kL, kH]
    refine ds_ret (x := tellD is) (.chosen (.tst (.below (.var rfl) (.var rfl) ok.nl ok.nh ok.bl ok.bh)) (fun e => ?_) fun e => ?_) h
    · unfold tellD
      rw [if_pos e]
      exact .tup (.cons (.var rfl) (.one (.var rfl))) (show 2 ≤ sizeLine by decide)
    · unfold tellD
      rw [if_neg (by rw [e]; decide)]
      exact .c
  · exact ⟨rfl, 0, Nat.zero_le _, rfl, none, none, none, none, rfl⟩
end DL

/-! DL26: data that == tells apart; what is shown; filters, sums. -/
namespace DL
open PySem PySem.Spec PyProof.Rows L2 Evl
variable [TabC]
mutual
/-- data of which == tells just whether they are the same -/
def D.pln : D → Bool
  | .non => true
  | .int _ => true
  | .str _ => true
  | .tup xs => D.plnL xs
  | .lst xs => D.plnL xs
  | _ => false
def D.plnL : List D → Bool
  | [] => true
  | x :: xs => D.pln x && D.plnL xs
end
mutual
theorem eqv_pln : ∀ (x y : D) (p q : PyData), x.pln = true → y.pln = true → x.py = some p → y.py = some q → (PyData.eqv p q = true ↔ x = y)
  | .non, y, p, q, _, hy, hp, hq => by
    cases y <;> first | (cases hy; done) | (cases hp; cases hq; simp [PyData.eqv]; done) | (cases hp; simp only [D.py, Option.map_eq_some_iff] at hq; obtain ⟨_, _, rfl⟩ := hq; simp [PyData.eqv])
  | .int i, y, p, q, _, hy, hp, hq => by
    cases y <;> first | (cases hy; done) | (cases hp; cases hq; simp [PyData.eqv]; done) | (cases hp; simp only [D.py, Option.map_eq_some_iff] at hq; obtain ⟨_, _, rfl⟩ := hq; simp [PyData.eqv])
  | .str i, y, p, q, _, hy, hp, hq => by
    cases y <;> first | (cases hy; done) | (cases hp; cases hq; simp [PyData.eqv]; done) | (cases hp; simp only [D.py, Option.map_eq_some_iff] at hq; obtain ⟨_, _, rfl⟩ := hq; simp [PyData.eqv])
  | .tup xs, y, p, q, hx, hy, hp, hq => by
    simp only [D.py, Option.map_eq_some_iff] at hp
    obtain ⟨ps, hps, rfl⟩ := hp
    cases y with
    | tup ys =>
      simp only [D.py, Option.map_eq_some_iff] at hq
      obtain ⟨qs, hqs, rfl⟩ := hq
      have := eqv_plnL xs ys ps qs hx hy hps hqs
      simp only [PyData.eqv, this, D.tup.injEq]
    | lst ys =>
      simp only [D.py, Option.map_eq_some_iff] at hq
      obtain ⟨qs, hqs, rfl⟩ := hq
      simp [PyData.eqv]
    | _ => first | (cases hy; done) | (cases hq; simp [PyData.eqv])
  | .lst xs, y, p, q, hx, hy, hp, hq => by
    simp only [D.py, Option.map_eq_some_iff] at hp
    obtain ⟨ps, hps, rfl⟩ := hp
    cases y with
    | lst ys =>
      simp only [D.py, Option.map_eq_some_iff] at hq
      obtain ⟨qs, hqs, rfl⟩ := hq
      have := eqv_plnL xs ys ps qs hx hy hps hqs
      simp only [PyData.eqv, this, D.lst.injEq]
    | tup ys =>
      simp only [D.py, Option.map_eq_some_iff] at hq
      obtain ⟨qs, hqs, rfl⟩ := hq
      simp [PyData.eqv]
    | _ => first | (cases hy; done) | (cases hq; simp [PyData.eqv])
  | .bl _, _, _, _, hx, _, _, _ => by cases hx
  | .ty _, _, _, _, hx, _, _, _ => by cases hx
  | .ref _, _, _, _, hx, _, _, _ => by cases hx
  | .dct _ _, _, _, _, hx, _, _, _ => by cases hx
  | .ins _ _ _, _, _, _, hx, _, _, _ => by cases hx
  | .exc _ _ _, _, _, _, hx, _, _, _ => by cases hx
  | .fnc _, _, _, _, hx, _, _, _ => by cases hx
theorem eqv_plnL : ∀ (xs ys : List D) (ps qs : List PyData), D.plnL xs = true → D.plnL ys = true → D.pyL xs = some ps → D.pyL ys = some qs → (PyData.eqvAll ps qs = true ↔ xs = ys)
  | [], [], ps, qs, _, _, hp, hq => by
    cases hp
    cases hq
    simp [PyData.eqvAll]
  | [], y :: ys, ps, qs, _, hy, hp, hq => by
    cases hp
    cases h : D.py y with
    | none => simp only [D.pyL, h] at hq; cases hq
    | some u =>
      cases h2 : D.pyL ys with
      | none => simp only [D.pyL, h, h2] at hq; cases hq
      | some us =>
        simp only [D.pyL, h, h2, Option.some.injEq] at hq
        subst hq
        simp [PyData.eqvAll]
  | x :: xs, [], ps, qs, _, hy, hp, hq => by
    cases hq
    cases h : D.py x with
    | none => simp only [D.pyL, h] at hp; cases hp
    | some u =>
      cases h2 : D.pyL xs with
      | none => simp only [D.pyL, h, h2] at hp; cases hp
      | some us =>
        simp only [D.pyL, h, h2, Option.some.injEq] at hp
        subst hp
        simp [PyData.eqvAll]
  | x :: xs, y :: ys, ps, qs, hx, hy, hp, hq => by
    have hx2 : (x.pln && D.plnL xs) = true := hx
    have hy2 : (y.pln && D.plnL ys) = true := hy
    rw [Bool.and_eq_true] at hx2 hy2
    cases h : D.py x with
    | none => simp only [D.pyL, h] at hp; cases hp
    | some u =>
      cases h2 : D.pyL xs with
      | none => simp only [D.pyL, h, h2] at hp; cases hp
      | some us =>
        cases h3 : D.py y with
        | none => simp only [D.pyL, h3] at hq; cases hq
        | some v =>
          cases h4 : D.pyL ys with
          | none => simp only [D.pyL, h3, h4] at hq; cases hq
          | some vs =>
            simp only [D.pyL, h, h2, Option.some.injEq] at hp
            simp only [D.pyL, h3, h4, Option.some.injEq] at hq
            subst hp hq
            have e1 := eqv_pln x y u v hx2.1 hy2.1 h h3
            have e2 := eqv_plnL xs ys us vs hx2.2 hy2.2 h2 h4
            simp only [PyData.eqvAll, Bool.and_eq_true, e1, e2, List.cons.injEq]
end
mutual
theorem py_pln : ∀ x : D, x.pln = true → ∃ p, x.py = some p
  | .non, _ => ⟨_, rfl⟩
  | .int _, _ => ⟨_, rfl⟩
  | .str _, _ => ⟨_, rfl⟩
  | .tup xs, h => by
    obtain ⟨ps, e⟩ := py_plnL xs h
    exact ⟨.tuple ps, by simp only [D.py, e, Option.map_some]⟩
  | .lst xs, h => by
    obtain ⟨ps, e⟩ := py_plnL xs h
    exact ⟨.list ps, by simp only [D.py, e, Option.map_some]⟩
  | .bl _, h => by cases h
  | .ty _, h => by cases h
  | .ref _, h => by cases h
  | .dct _ _, h => by cases h
  | .ins _ _ _, h => by cases h
  | .exc _ _ _, h => by cases h
  | .fnc _, h => by cases h
theorem py_plnL : ∀ xs : List D, D.plnL xs = true → ∃ ps, D.pyL xs = some ps
  | [], _ => ⟨[], rfl⟩
  | x :: xs, h => by
    have h2 : (x.pln && D.plnL xs) = true := h
    rw [Bool.and_eq_true] at h2
    obtain ⟨p, e⟩ := py_pln x h2.1
    obtain ⟨ps, es⟩ := py_plnL xs h2.2
    exact ⟨p :: ps, by simp only [D.pyL, e, es]⟩
end
theorem eqv_iff {x y : D} (hx : x.pln = true) (hy : y.pln = true) : D.eqv x y = true ↔ x = y := by
  obtain ⟨p, hp⟩ := py_pln x hx
  obtain ⟨q, hq⟩ := py_pln y hy
  rw [eqv_of hp hq]
  exact eqv_pln x y p q hx hy hp hq
theorem eqv_dec {x y : D} (hx : x.pln = true) (hy : y.pln = true) {k : Prop} [Decidable k] (h : x = y ↔ k) : D.eqv x y = decide k := by
  by_cases z : k
  · rw [decide_eq_true z]
    exact (eqv_iff hx hy).mpr (h.mpr z)
  · rw [decide_eq_false z]
    exact Bool.eq_false_iff.mpr fun e => z (h.mp ((eqv_iff hx hy).mp e))
theorem pln_ints (is : List Int) : D.plnL (is.map D.int) = true := by
  induction is with
  | nil => rfl
  | cons i is ih => exact ih
theorem plnL_all : ∀ {xs : List D}, (∀ x ∈ xs, x.pln = true) → D.plnL xs = true
  | [], _ => rfl
  | x :: xs, h => by
    show (x.pln && D.plnL xs) = true
    rw [h x List.mem_cons_self, plnL_all fun y hy => h y (List.mem_cons_of_mem _ hy)]
    rfl

/-! ### what is shown, by its items -/
theorem fitL_all : ∀ {xs : List D}, (∀ x ∈ xs, x.fit = true) → D.fitL xs = true
  | [], _ => rfl
  | x :: xs, h => by
    show (x.fit && D.fitL xs) = true
    rw [h x List.mem_cons_self, fitL_all fun y hy => h y (List.mem_cons_of_mem _ hy)]
    rfl
theorem layL_all : ∀ {xs : List D}, (∀ x ∈ xs, x.lay = true) → D.layL xs = true
  | [], _ => rfl
  | x :: xs, h => by
    show (x.lay && D.layL xs) = true
    rw [h x List.mem_cons_self, layL_all fun y hy => h y (List.mem_cons_of_mem _ hy)]
    rfl
theorem dpL_all {k : Nat} : ∀ {xs : List D}, (∀ x ∈ xs, x.dp ≤ k) → D.dpL xs ≤ k
  | [], _ => Nat.zero_le _
  | x :: xs, h => Nat.max_le.mpr ⟨h x List.mem_cons_self, dpL_all fun y hy => h y (List.mem_cons_of_mem _ hy)⟩
theorem szL_all {k : Nat} : ∀ {xs : List D}, (∀ x ∈ xs, x.sz ≤ k) → D.szL xs ≤ xs.length * k
  | [], _ => Nat.zero_le _
  | x :: xs, h => by
    show x.sz + D.szL xs ≤ (xs.length + 1) * k
    have h1 := h x List.mem_cons_self
    have h2 := szL_all fun y hy => h y (List.mem_cons_of_mem x hy)
    rw [Nat.add_mul, Nat.one_mul]
    omega
/-- of depth d, of size s, all of it fit to be shown -/
structure Sm (d s : Nat) (x : D) : Prop where
  fit : x.fit = true
  dp : x.dp ≤ d
  sz : x.sz ≤ s
theorem Sm.int {i : Int} (h : i.natAbs < 10 ^ 560) : Sm 0 1 (.int i) := ⟨decide_eq_true h, Nat.le_refl _, Nat.le_refl _⟩
theorem Sm.non : Sm 0 1 .non := ⟨rfl, Nat.le_refl _, Nat.le_refl _⟩
theorem Sm.bl {b : Bool} : Sm 0 1 (.bl b) := ⟨rfl, Nat.le_refl _, Nat.le_refl _⟩
theorem Sm.str {x : Str} {s : Nat} (h : PyData.strOk x = true) (hz : x.length + 1 ≤ s) : Sm 0 s (.str x) := ⟨h, Nat.le_refl _, hz⟩
theorem Sm.mono {d s d' s' : Nat} {x : D} (h : Sm d s x) (h1 : d ≤ d') (h2 : s ≤ s') : Sm d' s' x := ⟨h.fit, Nat.le_trans h.dp h1, Nat.le_trans h.sz h2⟩
theorem Sm.tup {d s : Nat} {xs : List D} (h : ∀ x ∈ xs, Sm d s x) : Sm (d + 1) (xs.length * s + 1) (.tup xs) := ⟨fitL_all fun x hx => (h x hx).fit, Nat.succ_le_succ (dpL_all fun x hx => (h x hx).dp), Nat.succ_le_succ (szL_all fun x hx => (h x hx).sz)⟩
theorem Sm.lst {d s : Nat} {xs : List D} (h : ∀ x ∈ xs, Sm d s x) : Sm (d + 1) (xs.length * s + 1) (.lst xs) := ⟨fitL_all fun x hx => (h x hx).fit, Nat.succ_le_succ (dpL_all fun x hx => (h x hx).dp), Nat.succ_le_succ (szL_all fun x hx => (h x hx).sz)⟩
theorem Sm.nilT : Sm 1 1 (.tup []) := ⟨rfl, Nat.le_refl _, Nat.le_refl _⟩
theorem Sm.rep {d s : Nat} {x : D} (h : Sm d s x) (h1 : d ≤ 60 := by decide) (h2 : s ≤ 27000 := by decide) : RepOk x := .inl ⟨h.fit, Nat.le_trans h.dp h1, Nat.le_trans h.sz h2⟩
/-- two of a kind in a list -/
theorem Sm.two {d s : Nat} {x y : D} (h : Sm d s x) (h' : Sm d s y) : Sm (d + 1) (2 * s + 1) (.lst [x, y]) := Sm.lst fun z hz => by
  rcases List.mem_cons.mp hz with e | e
  · rw [e]; exact h
  · rw [List.mem_singleton.mp e]; exact h'
theorem fit_lay {x : D} (h : x.fit = true) : x.lay = true := go x h
where
  go : ∀ x : D, x.fit = true → x.lay = true
  | .non, _ => rfl
  | .bl _, _ => rfl
  | .int _, _ => rfl
  | .str _, h => h
  | .tup xs, h => goL xs h
  | .lst xs, h => goL xs h
  | .ty _, h => by cases h
  | .ref _, h => by cases h
  | .dct _ _, h => by cases h
  | .ins _ _ _, h => by cases h
  | .exc _ _ _, h => by cases h
  | .fnc _, h => by cases h
  goL : ∀ xs : List D, D.fitL xs = true → D.layL xs = true
  | [], _ => rfl
  | x :: xs, h => by
    have h2 : (x.fit && D.fitL xs) = true := h
    rw [Bool.and_eq_true] at h2
    show (x.lay && D.layL xs) = true
    rw [go x h2.1, goL xs h2.2]
    rfl
theorem Sm.cmp {d s : Nat} {x : D} (h : Sm d s x) (h1 : d ≤ 60 := by decide) : Cmp x := ⟨fit_lay h.fit, Nat.le_trans h.dp h1⟩

/-! ### further Ev -/
section
variable {ρ : En} {G : Gm} {da db dc : DE} {dA : DA} {x y z : D} {xs : List D} {ta tb : DT} {j k : Bool}
theorem Ev.chainLt {i u l : Int} (ha : Ev da ρ G (.int i)) (hb : Ev db ρ G (.int u)) (hc : Ev dc ρ G (.int l)) : Ev (dChain (fInt gLt) (fInt gLt) da db dc) ρ G (.bl (decide (i < u) && decide (u < l))) := fun R r => ha _ (hb _ ⟨decide (i < u), ⟨i, u, rfl, rfl, rfl⟩, by
  by_cases h : i < u
  · rw [if_pos (decide_eq_true h)]
    refine hc _ ⟨_, ⟨u, l, rfl, rfl, rfl⟩, ?_⟩
    rw [decide_eq_true h, Bool.true_and] at r
    exact r
  · rw [if_neg (by simpa using h)]
    rw [decide_eq_false h, Bool.false_and] at r
    exact r⟩)
theorem Ev.sum {ns : List Int} (ha : Ev da ρ G (.lst (ns.map D.int))) : Ev (dCal fSum (dCons da dNil)) ρ G (.int ns.sum) := .cal (.one ha) ⟨_, ns, rfl, lst_lst, rfl⟩
/-- == of two data that are neither both ints nor both texts nor both truths -/
theorem Ev.eqP (ha : Ev da ρ G x) (hb : Ev db ρ G y) (hx : Cmp x) (hy : Cmp y) (px : x.pln = true) (py : y.pln = true) (h : ∀ i, x ≠ .int i) (h2 : ∀ i, x ≠ .str i) {p : Prop} [Decidable p] (e : x = y ↔ p) : Ev (dOp fEq da db) ρ G (.bl (decide p)) := .op ha hb (by
  rw [← eqv_dec px py e]
  exact feq_cmp hx hy h h2 fun i q => by subst q; cases px)
theorem Ev.neP (ha : Ev da ρ G x) (hb : Ev db ρ G y) (hx : Cmp x) (hy : Cmp y) (px : x.pln = true) (py : y.pln = true) (h : ∀ i, x ≠ .int i) (h2 : ∀ i, x ≠ .str i) {p : Prop} [Decidable p] (e : x = y ↔ p) : Ev (dOp fNe da db) ρ G (.bl (!decide p)) := .op ha hb (by
  rw [← eqv_dec px py e]
  exact fne_cmp hx hy h h2 fun i q => by subst q; cases px)
theorem Ev.slL {i : Int} (ha : Ev da ρ G (.lst xs)) (hb : Ev db ρ G (.int i)) : Ev (dSl da dNoP (dPart db)) ρ G (.lst (cutD xs none (some i))) := fun R r => ha _ (hb _ ⟨i, rfl, _, .inl ⟨xs, lst_lst, rfl⟩, r⟩)
/-- a slice of a tuple, not the whole of it -/
theorem Ev.slTo {i : Int} (ha : Ev da ρ G (.tup xs)) (hb : Ev db ρ G (.int i)) (h : (xs.length : Int) > i) (h0 : 0 ≤ i) : Ev (dSl da dNoP (dPart db)) ρ G (.tup (xs.take i.toNat)) := fun R r => ha _ (hb _ ⟨i, rfl, _, .inr ⟨xs, rfl, by
  have e1 : HT.sIx xs.length 0 none = 0 := rfl
  have e2 : HT.sIx xs.length xs.length (some i) = i.toNat := by simp only [HT.sIx]; split <;> omega
  unfold cutD
  rw [e1, e2, List.drop_zero, Nat.sub_zero], by
  have e2 : HT.sIx xs.length xs.length (some i) = i.toNat := by simp only [HT.sIx]; split <;> omega
  rw [e2]
  omega⟩, r⟩)
end
/-- a filter over names -/
theorem cmpL_filt {ρ0 : En} {i : Nat} {t : DT} {de : DE} {S : List D → Gm → Prop} {G : Gm} (p : D → Bool) (f : D → D) : ∀ {xs acc : List D}, (∀ x ∈ xs, EvT t (ρ0.set i (some x)) G (p x) ∧ (p x = true → Ev de (ρ0.set i (some x)) G (f x))) → acc.length + xs.length ≤ sizeLine → S (acc ++ (xs.filter p).map f) G → cmpL ρ0 (gN i) t de xs acc G S
  | [], acc, _, _, h => by
    rw [List.filter_nil, List.map_nil, List.append_nil] at h
    exact h
  | x :: xs, acc, hf, hz, h => by
    rw [List.length_cons] at hz
    obtain ⟨h1, h2⟩ := hf x List.mem_cons_self
    refine h1 _ ?_
    by_cases q : p x = true
    · rw [if_pos q]
      rw [List.filter_cons_of_pos q, List.map_cons] at h
      refine h2 q _ ⟨by omega, cmpL_filt p f (fun y hy => hf y (List.mem_cons_of_mem _ hy)) (by rw [List.length_append, List.length_singleton]; omega) ?_⟩
      rw [List.append_assoc, List.singleton_append]
      exact h
    · rw [if_neg q]
      rw [List.filter_cons_of_neg q] at h
      exact cmpL_filt p f (fun y hy => hf y (List.mem_cons_of_mem _ hy)) (by omega) h
theorem Ev.lcFilt {ρ : En} {G : Gm} {da db : DE} {t : DT} {x : D} {i : Nat} {vs : List Nat} {xs : List D} (p : D → Bool) (f : D → D) (ha : Ev da ρ G x) (hx : x = .lst xs ∨ x = .tup xs) (hf : ∀ y ∈ xs, EvT t ((wipeD ρ vs).set i (some y)) G (p y) ∧ (p y = true → Ev db ((wipeD ρ vs).set i (some y)) G (f y))) (hz : xs.length ≤ sizeLine) :
    Ev (dCmp (dISeq da) (gN i) t db vs) ρ G (.lst ((xs.filter p).map f)) := fun R r => ha _ ⟨xs, hx, cmpL_filt p f hf (by rw [List.length_nil]; omega) (by rw [List.nil_append]; exact r)⟩
theorem Ev.lcFiltR {ρ : En} {G : Gm} {da db dc : DE} {t : DT} {i : Nat} {vs : List Nat} {a b : Int} (p : D → Bool) (f : D → D) (ha : Ev da ρ G (.int a)) (hb : Ev db ρ G (.int b)) (h1 : -(2 ^ 62) ≤ a ∧ a < 2 ^ 62) (h2 : -(2 ^ 62) ≤ b ∧ b < 2 ^ 62) (hf : ∀ y ∈ rngD a (b - a).toNat, EvT t ((wipeD ρ vs).set i (some y)) G (p y) ∧ (p y = true → Ev dc ((wipeD ρ vs).set i (some y)) G (f y))) (hz : (b - a).toNat ≤ sizeLine) :
    Ev (dCmp (dIRng2 da db) (gN i) t dc vs) ρ G (.lst (((rngD a (b - a).toNat).filter p).map f)) := fun R r => ha _ (hb _ ⟨a, b, rfl, rfl, ⟨h1.1, h1.2, h2.1, h2.2⟩, cmpL_filt p f hf (by rw [List.length_nil]; unfold rngD; rw [List.length_map, List.length_range]; omega) (by rw [List.nil_append]; exact r)⟩)
end DL

/-! DL27: what is of no great size, found by itself. -/
namespace DL
open PySem PySem.Spec PyProof.Rows L2 Evl
variable [TabC]
class Bd (i : Int) (k : outParam Nat) : Prop where
  h : i.natAbs < 2 ^ k
class Ps (i : Int) : Prop where
  h : 0 < i
section
variable {i j : Int} {a b : Nat}
theorem two_le (k l : Nat) : 2 ^ k ≤ 2 ^ (max k l) ∧ 2 ^ l ≤ 2 ^ (max k l) := ⟨Nat.pow_le_pow_right (by decide) (Nat.le_max_left k l), Nat.pow_le_pow_right (by decide) (Nat.le_max_right k l)⟩
instance bd_lit {n : Nat} : Bd (no_index (@OfNat.ofNat Int n instOfNat)) (n.log2 + 1) := ⟨by
  show (Int.natAbs (n : Int)) < _
  rw [Int.natAbs_natCast]
  exact Nat.lt_log2_self⟩
instance bd_add [x : Bd i a] [y : Bd j b] : Bd (i + j) (max a b + 1) := ⟨by
  have h1 := x.h
  have h2 := y.h
  have h3 := two_le a b
  rw [Nat.pow_succ]
  omega⟩
instance bd_sub [x : Bd i a] [y : Bd j b] : Bd (i - j) (max a b + 1) := ⟨by
  have h1 := x.h
  have h2 := y.h
  have h3 := two_le a b
  rw [Nat.pow_succ]
  omega⟩
instance bd_neg [x : Bd i a] : Bd (-i) a := ⟨by rw [Int.natAbs_neg]; exact x.h⟩
instance bd_mul [x : Bd i a] [y : Bd j b] : Bd (i * j) (a + b) := ⟨by
  rw [Int.natAbs_mul]
  exact nat_mul_lt x.h y.h⟩
instance bd_div [x : Bd i a] : Bd (i / j) a := ⟨Nat.lt_of_le_of_lt (Int.natAbs_ediv_le_natAbs i j) x.h⟩
instance bd_pow {n : Nat} [x : Bd i a] : Bd (i ^ n) (a * n + 1) := ⟨by
  have h1 : (i ^ n).natAbs ≤ (2 ^ a) ^ n := by
    rw [Int.natAbs_pow]
    exact Nat.pow_le_pow_left (Nat.le_of_lt x.h) n
  rw [Nat.pow_succ, Nat.pow_mul]
  have h2 : 0 < (2 ^ a) ^ n := Nat.pow_pos (Nat.pow_pos (by decide))
  omega⟩
theorem mul_bd [x : Bd i a] [y : Bd j b] (h : a + b ≤ 134217728 := by first | decide | decide +kernel | omega) : IntMulOk i j := mul_both x.h y.h h
theorem div_bd [x : Bd j b] (p : 0 < j) (h : b ≤ 8000 := by first | decide | decide +kernel | omega) : CDivW i j := div_ok (by omega) (Int.lt_of_lt_of_le (abs_lt x.h) (by
  have : (2 : Int) ^ b ≤ 2 ^ 8000 := by
    have z : (2 : Nat) ^ b ≤ 2 ^ 8000 := Nat.pow_le_pow_right (by decide) h
    exact_mod_cast z
  exact this))
theorem pow_bd [x : Bd i a] (h0 : 0 ≤ j) (h : (a : Int) * j ≤ 2 ^ 27) : CPw i j := pow_ok x.h h0 h
theorem Bd.le [x : Bd i a] {k : Nat} (h : a ≤ k := by first | decide | decide +kernel | omega) : i.natAbs < 2 ^ k := Nat.lt_of_lt_of_le x.h (Nat.pow_le_pow_right (by decide) h)
end
example {v w : Int} (h1 : Bd v 110) (h2 : Bd w 200) : IntMulOk ((v + 3 * w) * v) (2 * v + 1) := mul_bd
example {v w : Int} (h1 : Bd v 110) (h2 : Bd w 200) (h : 0 < v) : CDivW (v * w) (2 * v) := div_bd (by omega)
end DL

/-! DL28: super().__init__(..) in the __init__ of an own error. -/
namespace Sup
open PySem PySem.Spec PySem.Calls PyProof.Rows L2 PySem.W

/-- no cells but the class's own one, parameters alone -/
structure ScopeS (N ps : List Str) (sc : Scope) : Prop where
  kind : sc.kind = .function
  co : sc.isCoroutine = false
  gen : sc.isGenerator = false
  nd : N.Nodup
  pre : N.take ps.length = ps
  par : ∀ x ∈ ps, sc.names.lookup x = some .local
  nocell : ∀ y ∈ sc.names, y.2 ≠ .cell
  one : ∀ y ∈ sc.names, y.2 = .free → y.1 = "__class__"
  sup : sc.names.lookup ("super" : Str) = some .globalImplicit
  own : sc.names.lookup ("__class__" : Str) = some .free

def cxS (CX : CXT) (P : Program) (w : World) (K : PySem.W.Frag) (mg : Str → Option Value) (base : Heap) (N : List Str) (qual : Str) (scope : Scope) (f : Addr) (cd : Value) (cc : Addr) (A : Around) (outer : List Env) (s : Shared) (H : Hp) (E : XK) : Cx where
  prog := P
  w := w
  K := K
  mg := mg
  base := base
  A := A.deeper (ksEnv qual scope s.heap.objs.size f cd cc)
  N := N
  s_0 := s
  H_0 := H
  env := ksEnv qual scope s.heap.objs.size f cd cc
  outer := outer
  stack := ksEnv qual scope s.heap.objs.size f cd cc :: outer
  ex := []
  calm := true
  fn := fun _ => false
  pn := []
  xe := fun e s' => wpAny (model P w) (A.deeper (ksEnv qual scope s.heap.objs.size f cd cc)) (leaving (ksEnv qual scope s.heap.objs.size f cd cc) e) (fun _ s'' => CX outer H s E e s'') (fun e' s'' => CX outer H s E e' s'') s'

theorem look_nd {y : Str} {u : Value} : ∀ {l : List (Str × Value)}, (l.map (·.1)).Nodup → (y, u) ∈ l → l.lookup y = some u
  | [], _, h => nomatch h
  | (z, v) :: l, nd, h => by
    rw [List.map_cons, List.nodup_cons] at nd
    rcases List.mem_cons.mp h with e | e
    · cases e
      simp [List.lookup]
    · have ne : y ≠ z := fun q => nd.1 (by rw [← q]; exact List.mem_map.mpr ⟨_, e, rfl⟩)
      have ne2 : (y == z) = false := by simpa using ne
      rw [List.lookup_cons, ne2]
      exact look_nd nd.2 e
theorem look_zip {ps : List Str} {us : List Value} {i : Nat} {y : Str} {u : Value} (nd : ps.Nodup) (hl : us.length = ps.length) (hp : ps[i]? = some y) (hu : us[i]? = some u) : (ps.zip us).reverse.lookup y = some u := by
  refine look_nd ?_ ?_
  · rw [List.map_reverse, List.map_fst_zip (by omega)]
    exact (List.reverse_perm _).nodup_iff.mpr nd
  · rw [List.mem_reverse]
    refine List.mem_of_getElem? (i := i) ?_
    rw [List.getElem?_zip_eq_some]
    exact ⟨hp, hu⟩
section
variable {CX : CXT} {P : Program} {w : World} {K : PySem.W.Frag} {mg : Str → Option Value} {base : Heap} {N ps : List Str} {qual : Str} {scope : Scope} {f cc : Addr} {cd : Value} {A : Around} {outer : List Env} {s : Shared} {H : Hp} {E : XK} {us : List Value} {vs : List V}
theorem inv_startS {h₀ : Heap} {tk : Nat} {oc : Obj} {D : Value} (S : ScopeS N ps scope) (hd : A.handled = none) (e0 : Env0 P w K mg base A outer s H) (hl : vs.length = ps.length) (r : Vals vs us) (hcc : K.lookup cc = some oc) (hcd : oc.data = .cell (some D))
    (hns : h₀.Ns s.heap.objs.size fun x => (ps.zip us).reverse.lookup x) (kp : ∀ b o, s.heap.get? b = some o → h₀.get? b = some o) :
    Inv (cxS CX P w K mg base N qual scope f cd cc A outer s H E) [] (L2.start N vs) H { s with heap := h₀, toks := tk } := by
  have hpl : ps.length ≤ N.length := by have := congrArg List.length S.pre; rw [List.length_take] at this; omega
  have noA : ∀ b : Addr, b ∉ (cxS CX P w K mg base N qual scope f cd cc A outer s H E).ex := fun b z => absurd (show b ∈ ([] : List Addr) from z) (by simp)
  have cl : ∀ {y : Str} {c : Addr}, (cxS CX P w K mg base N qual scope f cd cc A outer s H E).env.cells.lookup y = some c → y = "__class__" ∧ c = cc := fun {y c} h => by
    have h2 : ([(("__class__" : Str), cc)] : List (Str × Addr)).lookup y = some c := h
    rw [List.lookup_cons] at h2
    split at h2
    · rename_i q
      exact ⟨beq_iff_eq.mp q, (Option.some.inj h2).symm⟩
    · cases h2
  obtain ⟨hb, hn⟩ := e0.bs cc oc (e0.mod.kin cc oc hcc)
  refine ⟨⟨e0.mod, S.kind, rfl, rfl, Nat.le_refl _, fun y z c h1 h2 => (cl h1).1.trans (cl h2).1.symm, fun y hy => ?_, fun y c h _ => (nomatch (show false = true from h)), fun _ => hd, Around.frames_deeper e0.frames, .inr ⟨rfl, rfl⟩, fun b z => absurd z (noA b), e0.bs, e0.bsz, fun b _ _ => noA b, fun b z => absurd z (noA b), e0.funs, e0.frf⟩,
    rfl, e0.bare, Un.kept kp, ⟨_, hns, fun i y v h1 h2 h3 => ?_⟩, fun y c h => ?_, e0.hok.fresh (Nat.le_refl _), fun y c h => ?_, fun p hp => absurd (show p ∈ ([] : List (Addr × Obj)) from hp) (by simp), e0.hok.kept kp, ?_⟩
  · have hy : scope.names.lookup y = some .cell ∨ scope.names.lookup y = some .free := hy
    rcases hy with hy | hy
    · exact absurd rfl (S.nocell _ (PySem.mem_of_lookup hy))
    · have e := S.one _ (PySem.mem_of_lookup hy) rfl
      have e2 : y = "__class__" := e
      subst e2
      exact ⟨cc, by show ([(("__class__" : Str), cc)] : List (Str × Addr)).lookup ("__class__" : Str) = some cc; rw [List.lookup_cons]; simp⟩
  · have hi : i < vs.length := by
      unfold L2.start at h2
      by_cases hi : i < vs.length
      · exact hi
      · rw [List.getElem?_append_right (by simpa using hi), List.getElem?_replicate] at h2
        split at h2 <;> cases h2
    have ha : vs[i]? = some v := by
      unfold L2.start at h2
      rw [List.getElem?_append_left (by simpa using hi), List.getElem?_map] at h2
      cases e : vs[i]? with
      | none => rw [e] at h2; cases h2
      | some a => rw [e] at h2; cases h2; rfl
    obtain ⟨u, hu, rv⟩ := r.get ha
    have hp : ps[i]? = some y := by
      rw [← S.pre, List.getElem?_take_of_lt (by omega)]; exact h1
    have ndP : ps.Nodup := by rw [← S.pre]; exact S.nd.sublist (List.take_sublist _ _)
    exact ⟨u, rv, .inl ⟨S.par y (List.mem_of_getElem? hp), look_zip ndP (by rw [← r.length, hl]) hp hu⟩⟩
  · obtain ⟨_, e2⟩ := cl h
    subst e2
    exact ⟨_, _, kp _ _ hb, hcd⟩
  · obtain ⟨_, e2⟩ := cl h
    rw [e2]
    exact hn
  · unfold L2.start
    show _ = N.length
    rw [List.length_append, List.length_map, List.length_replicate]
    omega
end

/-- a block of the def whose whole body is b -/
structure PSsS (X : Cx) (b sts : List Stmt) (t : TS) : Prop where
  run : ∀ (pins : List (Addr × Obj)) (s : Shared) (σ : L2.St) (H : Hp) (D : Ends), Inv X pins σ H s → t D σ H → PySem.wpAt (model X.prog X.w) X.A (.func b X.env) (execs sts X.env) (SP X pins D) X.xe s
theorem PSsS.of {X : Cx} {b sts : List Stmt} {t : TS} (h : PSs X sts t) : PSsS X b sts t := ⟨fun pins s σ H D I w => wpAt_of_wpAny (h.run pins s σ H D I w)⟩

/-- what the written part says of the def f of a class, and of the class -/
structure SupF (P : Program) (K : PySem.W.Frag) (f cda cc C D : Addr) (x qual : Str) (params : Arguments) (body : List Stmt) (scope : Scope) : Prop where
  fn : ∃ oc od osl dV kV doc pm an ct, K.lookup f = some ⟨oc, od, .func (ksFn x qual params body scope dV kV doc pm an (.ref cda) ct cc), osl⟩ ∧ dV = .none
  code : codeIn K (.ref cda) qual = true
  file : ∃ ccl cdd vs ccs fl tf, K.lookup cda = some ⟨ccl, cdd, .fields vs, ccs⟩ ∧ vs[2]? = some (.str fl tf) ∧ ((P.main.file : Str) == fl) = true
  top : (P.main.scope.names.lookup ("super" : Str)).isSome = false
  cell : ∃ cl cld csl, K.lookup cc = some ⟨cl, cld, .cell (some (.ref D)), csl⟩
  base : (clsIn K D).isSome = true
  sub : mroIn K C (.ref D) = some true
  free : nsIn K mainGlobals "super" = some none
  stat : nsIn K cStatics "thirdparty.any" = some none
  up : ks_superIn K C D "__init__" = some (some (.builtin "ValueError.__init__"))
  isV : subIn K (.ref C) (.type "ValueError") = some true
theorem boot_super : bootBuiltins ("super" : Str) = some (.type "super") := by kernel_rfl

section
variable {prog : Program} {w : World} {A : Around} {E : Value → Shared → Prop} {s : Shared}
/-- the built-in __init__, bound, called -/
theorem call_mw {u x t C N : Addr} {nm q : Str} {bs bm : List Value} {hdct : Bool} {sn : List Str} {sub : List Value} {ab : Bool} {col : Option Bool} {dd : Option Addr} {k0 k1 k2 k3 k5 : Option Value} {rest : List Value} {Q : Value → Shared → Prop}
    (hu : s.heap.get? u = some (kxs_mw "ValueError.__init__" x)) (he : s.heap.get? x = some (excObj C t none .none)) (hC : s.heap.get? C = some (excClassObj nm q C N bs bm hdct sn sub ab col dd k0 k1 k2 k3 k5 "ValueError.__new__")) (hz : rest.length ≤ sizeLine)
    (h : ∀ t' h', (∀ b o, b ≠ x → s.heap.get? b = some o → h'.get? b = some o) → h'.get? x = some (excObj C t' none .none) → Q .none { s with heap := h' }) :
    wpAny (model prog w) A (call (.ref u) rest) Q E s := by
  obtain ⟨hh, g, d, tk, os⟩ := s
  refine wpAny_call (codeAny_of_tree ?_)
  show wpAny _ A.in1 (callAny (.ref u) ⟨rest, []⟩) _ _ _
  simp only [callAny]
  refine wpAny_bind (wpAny_load hu ?_)
  have e1 : (Value.type "method-wrapper" == Value.type "method" || Value.type "method-wrapper" == Value.type "builtin_function_or_method" || Value.type "method-wrapper" == Value.type "method-wrapper") = true := by decide
  simp only [kxs_mw, e1, if_true]
  refine KFB.if_so (by decide) ?_
  refine wpAny_bind (check_bound_init F.excBase_ValueError.toExcCallFacts hC he rfl ?_)
  refine wpAny_bind (wpAny_pure (wpAny_pure ?_))
  refine ⟨plainId_quiet F.excBase_ValueError.init.plain _, codeAny_builtin F.excBase_ValueError.initEntry ?_⟩
  exact exc_init_tree (cls := .ref C) (t0 := t) (dv := none) (c2 := .none) (c3 := .none) (b4 := .bool false) he hz fun h' k e' _ => h _ h' k e'
end

section
variable {CX : CXT} {P : Program} {w : World} {K : PySem.W.Frag} {mg : Str → Option Value} {base : Heap} {N ps : List Str} {x qual : Str} {scope : Scope} {f cda cc C D : Addr} {A : Around} {outer : List Env} {s : Shared} {H : Hp} {E : XK} {params : Arguments} {body : List Stmt}
/-- super().__init__(e, ..), self at the name 0 -/
def tSup (K : PySem.W.Frag) (C : Addr) (ta : TA) : TE := fun σ H Q => ∃ a : Addr, σ[0]? = some (some (.ref a)) ∧ OexC K C ∧ H a = some (exo a C none) ∧ ta σ H fun vs H1 => vs.length ≤ 1000 ∧ H1 a = some (exo a C none) ∧ Q .non H1
theorem sup_call {e : Expr} {es : List Expr} {ta : TA} {ar : Arg} {p0 p1 p2 pos : Pos} {pl : Sem Bool} {pins : List (Addr × Obj)} {σ : L2.St} {H1 : Hp} {s1 : Shared} {Q : VK} (S : ScopeS N ps scope) (T : SupF P K f cda cc C D x qual params body scope)
    (hp : (params.posonlyargs ++ params.args).head? = some ar) (hN : N[0]? = some ar.arg) (hka : scope.names.lookup ar.arg = some .local)
    (ha : PA (cxS CX P w K mg base N qual scope f (.ref cda) cc A outer s H E) (e :: es) ta)
    (I : Inv (cxS CX P w K mg base N qual scope f (.ref cda) cc A outer s H E) pins σ H1 s1) (h : tSup K C ta σ H1 Q)
    (he : eval (.Call (.Attribute (.Call (.Name "super" p0) [] [] p1) "__init__" p2) (e :: es) [] pos) (cxS CX P w K mg base N qual scope f (.ref cda) cc A outer s H E).env = (do
      let ov ← attributeBase (.Call (.Name "super" p0) [] [] p1) "__init__" (cxS CX P w K mg base N qual scope f (.ref cda) cc A outer s H E).env (eval (.Call (.Name "super" p0) [] [] p1) (cxS CX P w K mg base N qual scope f (.ref cda) cc A outer s H E).env)
      standAt p2.atName
      let (g, first) ← holding [ov] (getMethod ov "__init__" pl)
      callWith pos g first (backTo pos (starEach (e :: es) (cxS CX P w K mg base N qual scope f (.ref cda) cc A outer s H E).env)) []) := by rfl)
    (hst : starEach (e :: es) (cxS CX P w K mg base N qual scope f (.ref cda) cc A outer s H E).env = (false, eval e (cxS CX P w K mg base N qual scope f (.ref cda) cc A outer s H E).env) :: starEach es (cxS CX P w K mg base N qual scope f (.ref cda) cc A outer s H E).env := by rfl)
    (hpl : (backTo pos (starEach es (cxS CX P w K mg base N qual scope f (.ref cda) cc A outer s H E).env)).any (·.1) = false := by rfl) :
    PySem.wpAt (model P w) (cxS CX P w K mg base N qual scope f (.ref cda) cc A outer s H E).A (.func body (cxS CX P w K mg base N qual scope f (.ref cda) cc A outer s H E).env) (eval (.Call (.Attribute (.Call (.Name "super" p0) [] [] p1) "__init__" p2) (e :: es) [] pos) (cxS CX P w K mg base N qual scope f (.ref cda) cc A outer s H E).env)
      (EP (cxS CX P w K mg base N qual scope f (.ref cda) cc A outer s H E) pins σ Q) (cxS CX P w K mg base N qual scope f (.ref cda) cc A outer s H E).xe s1 := by
  obtain ⟨a, hs, TC, ea, h⟩ := h
  obtain ⟨oc, od, osl, dV, kV, doc, pm, an, ct, lk, _⟩ := T.fn
  obtain ⟨ccl, cdd, vs, ccs, fl, tf, lc, hv2, hfl⟩ := T.file
  obtain ⟨cl, cld, csl, lcc⟩ := T.cell
  obtain ⟨cdD, hD⟩ := Option.isSome_iff_exists.mp T.base
  obtain ⟨nm, q, Nn, bs, bm, sn, sub, ab, col, dd, k0, k1, k2, k3, k5, hC, hbm⟩ := TC.cls
  obtain ⟨t1, ho⟩ := exo_at I.hok ea
  obtain ⟨m, hns, hl⟩ := I.loc
  have hv : m ar.arg = some (.ref a) := by
    obtain ⟨u, ru, lu⟩ := hl 0 ar.arg (.ref a) hN hs (.inl hka)
    cases (show u = Value.ref a from ru)
    rcases lu with ⟨_, q⟩ | ⟨k, _⟩
    · exact q
    · have k2 : scope.names.lookup ar.arg = some .cell ∨ scope.names.lookup ar.arg = some .free := k
      rw [hka] at k2
      rcases k2 with k2 | k2 <;> cases k2
  have X := I.kIn
  obtain ⟨oD, hD1, hD2⟩ : ∃ oD, s1.heap.get? D = some oD ∧ oD.data = .cls cdD := by
    have hD' := hD
    unfold clsIn at hD'
    split at hD'
    · rename_i c d cd' sl ho
      cases hD'
      exact ⟨_, X _ _ ho, rfl⟩
    · cases hD'
  have hClk : clsIn K C = some { name := nm, bases := bs, mro := .ref C :: bm, ns := Nn, qualname := q, hasDict := true, slotNames := sn, subclasses := sub, abstract := ab, collection := col, hasDel := false } := by unfold clsIn; rw [hC] <;> rfl
  have inst : InstAt s1.heap a { cls := .ref C, dict := none, data := .fields #[.ref t1, .none, .none, .none, .bool false, .none] } C none := ⟨ho, rfl, rfl, trivial⟩
  have hxC : a ≠ C := ks_ne (cd := _) X inst hClk
  have hsup := T.up
  unfold ks_superIn at hsup
  rw [hClk] at hsup
  have hsup2 : alongIn K "__init__" (((Value.ref C :: bm).dropWhile (· != .ref D)).drop 1) = some (some (.builtin "ValueError.__init__")) := hsup
  refine ks_wpAt_MethodCall (pl := pl) ?_ he
  refine ks_wpAt_super_base (whole := _) S.sup S.own (by decide) rfl (X _ _ lk) rfl hp rfl (X _ _ lc) rfl hv2 hfl T.top ?_
  obtain ⟨mb, hmb, hbb⟩ := I.mod.blt
  refine ks_loadName_global S.kind S.sup (loadGlobal_builtin (I.mod.glob.keeps I.bk) (mg_none_of X (I.mod.glob.keeps I.bk) T.free) (hmb.keeps I.bk) ((hbb _ (by decide +kernel)).trans boot_super) ⟨rfl, ?_⟩)
  refine wpAny_loadName_free (c := cc) S.kind S.own (by show ([(("__class__" : Str), cc)] : List (Str × Addr)).lookup ("__class__" : Str) = some cc; rw [List.lookup_cons]; simp) ⟨_, X _ _ lcc, rfl⟩ ?_
  refine wpAny_loadName_local S.kind hka hns hv ?_
  obtain ⟨hh, g, d, tk, os⟩ := s1
  refine ks_wpAny_isType_cls hD1 hD2 ⟨rfl, ?_⟩
  refine ks_wpAny_call_super hD1 hD2 ho rfl (fun c z => by cases z) (looks_mroIn X T.sub) (fun h' e1 k1 => ?_)
  have X1 : K.In h' := fun b o z => k1 b o (X b o z)
  have inst1 : InstAt h' a { cls := .ref C, dict := none, data := .fields #[.ref t1, .none, .none, .none, .bool false, .none] } C none := ⟨k1 _ _ ho, rfl, rfl, trivial⟩
  refine kxs_getMethod kxs_ValueError e1 (looks_opaque X1 T.stat) (l₀ := .ref C :: bm) (fun A Q E s k q => wpAny_bind ((looks_clsIn X1 hClk) A _ E s k (wpAny_pure q))) rfl X1 hsup2 (inst1.type.andThen (looks_subIn X1 T.isV)) hxC (by decide) ?_
  have lt1 : hh.objs.size < h'.objs.size := Heap.lt_size e1
  have k2 : ∀ b o, hh.get? b = some o → (h'.push (kxs_mw "ValueError.__init__" a)).get? b = some o := fun b o z => Heap.get?_push_of_some _ (k1 b o z)
  have hu : (h'.push (kxs_mw "ValueError.__init__" a)).get? h'.objs.size = some (kxs_mw "ValueError.__init__" a) := Heap.get?_push_at rfl rfl
  have I2 := (I.kept (t' := tk + 1) k2).pins_of (pins' := (h'.objs.size, kxs_mw "ValueError.__init__" a) :: pins) fun p hp => by
    rcases List.mem_cons.mp hp with z | z
    · rw [z]
      refine ⟨hu, I.hok.fresh (Nat.le_of_lt lt1), fun z => ?_, I.nofs (Nat.le_of_lt lt1), fun v z => by cases z⟩
      have := I.lt
      have z2 : h'.objs.size = (cxS CX P w K mg base N qual scope f (.ref cda) cc A outer s H E).env.locals := z
      rw [← z2] at this
      exact absurd (Nat.lt_trans this lt1) (Nat.lt_irrefl _)
    · have := I.pin p (List.mem_append_right _ z)
      exact ⟨k2 _ _ this.1, this.2⟩
  show wpAny _ _ (callWith pos (.ref h'.objs.size) [] (backTo pos (starEach (e :: es) _)) []) _ _ _
  rw [hst]
  refine kxs_callWith (i := "ValueError.__init__") (x := a) (by show (false || (backTo pos (starEach es _)).any (·.1)) = false; rw [hpl]; rfl) ?_
  have hrun := ha.run pos _ _ σ H1 _ I2 h
  rw [hst] at hrun
  refine evalArgs_plain (thn hrun fun us s3 hh3 => ?_)
  obtain ⟨ws, H3, I3, r3, hz, ea3, q3⟩ := hh3
  have hu3 := (I3.pin _ (List.mem_append_right _ List.mem_cons_self)).1
  refine ⟨hu3, ?_⟩
  obtain ⟨t3, ho3⟩ := exo_at I3.hok ea3
  refine call_mw hu3 ho3 (I3.kIn _ _ hC) (by show us.length ≤ sizeLine; rw [← r3.length, sizeLine_eq]; omega) fun t' h4 k4 e4 => ?_
  have J := I3.write (t' := s3.toks) (x := a) (e := a) (o := exo a C none) (by rw [ea3]; exact True.intro) (.inl rfl) k4 ⟨_, e4⟩ (exo_ok e4)
  have eu : upd H3 a (exo a C none) = H3 := by
    funext b
    by_cases hb : b = a
    · rw [hb, upd_same, ea3]
    · rw [upd_ne hb]
  rw [eu] at J
  exact ⟨.non, H3, J.pins_of fun p hp => J.pin p (List.mem_append_right _ (List.mem_cons_of_mem _ hp)), rfl, q3⟩
end
end Sup
namespace Sup
open PySem PySem.Spec PySem.Calls PyProof.Rows L2 PySem.W
section
variable {CX : CXT} {P : Program} {w : World} {K : PySem.W.Frag} {mg : Str → Option Value} {base : Heap} {N ps : List Str} {x qual : Str} {scope : Scope} {f cda cc C D : Addr} {A : Around} {outer : List Env} {s : Shared} {H : Hp} {E : XK} {params : Arguments} {body : List Stmt}
theorem psS_sup {e : Expr} {es : List Expr} {rest : List Stmt} {ta : TA} {t : TS} {ar : Arg} {p0 p1 p2 pos pos2 : Pos} {pl : Sem Bool} (S : ScopeS N ps scope) (T : SupF P K f cda cc C D x qual params body scope)
    (hp : (params.posonlyargs ++ params.args).head? = some ar) (hN : N[0]? = some ar.arg) (hka : scope.names.lookup ar.arg = some .local)
    (ha : PA (cxS CX P w K mg base N qual scope f (.ref cda) cc A outer s H E) (e :: es) ta) (hr : PSs (cxS CX P w K mg base N qual scope f (.ref cda) cc A outer s H E) rest t)
    (he : eval (.Call (.Attribute (.Call (.Name "super" p0) [] [] p1) "__init__" p2) (e :: es) [] pos) (cxS CX P w K mg base N qual scope f (.ref cda) cc A outer s H E).env = (do
      let ov ← attributeBase (.Call (.Name "super" p0) [] [] p1) "__init__" (cxS CX P w K mg base N qual scope f (.ref cda) cc A outer s H E).env (eval (.Call (.Name "super" p0) [] [] p1) (cxS CX P w K mg base N qual scope f (.ref cda) cc A outer s H E).env)
      standAt p2.atName
      let (g, first) ← holding [ov] (getMethod ov "__init__" pl)
      callWith pos g first (backTo pos (starEach (e :: es) (cxS CX P w K mg base N qual scope f (.ref cda) cc A outer s H E).env)) []) := by rfl)
    (hst : starEach (e :: es) (cxS CX P w K mg base N qual scope f (.ref cda) cc A outer s H E).env = (false, eval e (cxS CX P w K mg base N qual scope f (.ref cda) cc A outer s H E).env) :: starEach es (cxS CX P w K mg base N qual scope f (.ref cda) cc A outer s H E).env := by rfl)
    (hpl : (backTo pos (starEach es (cxS CX P w K mg base N qual scope f (.ref cda) cc A outer s H E).env)).any (·.1) = false := by rfl)
    (hi : interactive (cxS CX P w K mg base N qual scope f (.ref cda) cc A outer s H E).env = false := by rfl) (hsw : swapsWith (.Call (.Attribute (.Call (.Name "super" p0) [] [] p1) "__init__" p2) (e :: es) [] pos) none pos2.line (cxS CX P w K mg base N qual scope f (.ref cda) cc A outer s H E).env = pure false := by rfl) :
    PSsS (cxS CX P w K mg base N qual scope f (.ref cda) cc A outer s H E) body (.Expr (.Call (.Attribute (.Call (.Name "super" p0) [] [] p1) "__init__" p2) (e :: es) [] pos) pos2 :: rest) (fun D σ H => tSup K C ta σ H fun _ H1 => t D σ H1) := by
  refine ⟨fun pins s1 σ H1 D I h => ?_⟩
  refine ks_wpAt_execs_cons (ks_wpAt_Expr_any (ks_wpAt_mono (sup_call (pl := pl) S T hp hN hka ha I h he hst hpl) (fun v s2 hv => ?_) fun _ _ z => z) hi hsw)
  obtain ⟨_, H2, I2, _, q⟩ := hv
  exact wpAt_of_wpAny (hr.run pins s2 σ H2 D I2 q)
/-- a def with the class's cell, by its body -/
theorem fnok_sup {k : Nat} {sp : Sp} {oc : Value} {od : Option Addr} {osl : Array (Option Value)} {dV kV doc pm ct : Value} {an : Option Addr} (S : ScopeS N ps scope) (T : SupF P K f cda cc C D x qual params body scope)
    (lk : K.lookup f = some ⟨oc, od, .func (ksFn x qual params body scope dV kV doc pm an (.ref cda) ct cc), osl⟩) (len : ∀ vs H Q E, sp vs H Q E → vs.length = ps.length)
    (hbody : ∀ (A : Around) (outer : List Env) (s : Shared) (H : Hp) (vs : List V) (Q : VK) (E : XK), Room k (A.deeper (ksEnv qual scope s.heap.objs.size f (.ref cda) cc)) → sp vs H Q E →
      ∃ t, PSsS (cxS CX P w K mg base N qual scope f (.ref cda) cc A outer s H E) body body t ∧ t { nx := fun _ H' => Q .non H', rt := Q } (L2.start N vs) H) :
    FnOk P w K mg base CX (k + 1) f (ksFn x qual params body scope dV kV doc pm an (.ref cda) ct cc) ps sp := by
  refine ⟨len, fun A outer s H args us vs Q E hr e0 hb r hsp => ?_⟩
  have hl := len _ _ _ _ hsp
  obtain ⟨cl, cld, csl, lcc⟩ := T.cell
  have KX : K.In s.heap := e0.mod.kin.keeps fun b o e => (e0.bs b o e).1
  have lim : s.heap.NoLimit := e0.mod.nolimit.keeps fun b o e => (e0.bs b o e).1
  refine ks_codeAny_call_defAt (fd := ksFn x qual params body scope dV kV doc pm an (.ref cda) ct cc) (body := body) (binds := ps.zip us) hr.depth (KX _ _ lk) rfl lim (codeRec_of KX T.code) rfl hb S.nocell (fun y hy => ?_) (fun h₀ hns kp => ?_) S.co S.gen S.kind
  · obtain ⟨n, u⟩ := y
    exact S.par n (List.of_mem_zip hy).1
  obtain ⟨t, ht, hq⟩ := hbody A outer s H vs Q E (hr.deeper _) hsp
  have I : Inv (cxS CX P w K mg base N qual scope f (.ref cda) cc A outer s H E) [] (L2.start N vs) H { s with heap := h₀, toks := s.toks + (ps.zip us).length } := inv_startS S hr.hd e0 hl r lcc rfl hns kp
  refine ks_wpAt_mono (ht.run [] _ (L2.start N vs) H _ I hq) (fun fl s' hs => ?_) fun e s' hs => hs
  have fin : ∀ {σ' : L2.St} {H' : Hp} {v : V} {u : Value}, Inv (cxS CX P w K mg base N qual scope f (.ref cda) cc A outer s H E) [] σ' H' s' → L2.RelV v u → Q v H' → CE outer P w H s Q u s' :=
    fun {σ' H' v u} J rv q => ⟨v, H', J.os, J.bare, J.base, J.hok, rv, q⟩
  cases fl with
  | ret u =>
    obtain ⟨v, σ', H', J, rv, q⟩ := hs
    exact fin J rv q
  | next =>
    obtain ⟨σ', H', J, q⟩ := hs
    exact fin (v := V.non) (u := Value.none) J rfl q
  | brk =>
    obtain ⟨_, _, _, q⟩ := hs
    exact False.elim q
  | cont =>
    obtain ⟨_, _, _, q⟩ := hs
    exact False.elim q
end
end Sup

/-! DL29: own errors over data: what the head tells of them, what their __init__ promises, raise. -/
namespace DL
open PySem PySem.Spec PyProof.Rows L2 Evl Sup
variable [TabC]

/-! ### what the head tells -/
abbrev FnC : Type := Option (Str × Str × Arguments × FuncBody × Scope × Addr × Addr)
def fnC (K : PySem.W.Frag) (C : Str) : FnC := match K.lookup (He.ma K (He.ga K C) "__init__") with
  | some ⟨_, _, .func fd, _⟩ => some (fd.name, fd.qualname, fd.params, fd.body, fd.scope, fd.globals, fd.builtins)
  | _ => none
/-- the __init__ of a class, that says super() -/
structure DefC where
  cls : Str
  qual : Str
  params : Arguments
  body : List Stmt
  scope : Scope
def DefC.val (d : DefC) : FnC := some ("__init__", d.qual, d.params, .stmts d.body, d.scope, mainGlobals, builtinsNs)
def optB {α : Type} (o : Option α) (f : α → Bool) : Bool := match o with
  | some a => f a
  | none => false
theorem optB_ok {α : Type} {o : Option α} {f : α → Bool} (h : optB o f = true) : ∃ a, o = some a ∧ f a = true := by
  cases o with
  | none => cases h
  | some a => exact ⟨a, rfl, h⟩
def fdOf (K : PySem.W.Frag) (f : Addr) : Option FuncData := match K.lookup f with
  | some ⟨_, _, .func fd, _⟩ => some fd
  | _ => none
def vsOf (K : PySem.W.Frag) (f : Addr) : Option (Array Value) := match K.lookup f with
  | some ⟨_, _, .fields vs, _⟩ => some vs
  | _ => none
def cellOf (K : PySem.W.Frag) (f : Addr) : Option Addr := match K.lookup f with
  | some ⟨_, _, .cell (some (.ref D)), _⟩ => some D
  | _ => none
def refOf : Value → Option Addr
  | .ref a => some a
  | _ => none
def txtOf : Option Value → Option Str
  | some (.str x _) => some x
  | _ => none
def noneV : Value → Bool
  | .none => true
  | _ => false
theorem noneV_ok {v : Value} (h : noneV v = true) : v = .none := by
  cases v <;> first | rfl | cases h
def onlyCl : List (Str × Addr) → Option Addr
  | [(x, c)] => if x = "__class__" then some c else none
  | _ => none
theorem fdOf_ok {K : PySem.W.Frag} {f : Addr} {fd : FuncData} (h : fdOf K f = some fd) : ∃ oc od osl, K.lookup f = some ⟨oc, od, .func fd, osl⟩ := by
  unfold fdOf at h
  split at h
  · rename_i oc od fd' osl e
    cases h
    exact ⟨oc, od, osl, e⟩
  · cases h
theorem vsOf_ok {K : PySem.W.Frag} {f : Addr} {vs : Array Value} (h : vsOf K f = some vs) : ∃ oc od osl, K.lookup f = some ⟨oc, od, .fields vs, osl⟩ := by
  unfold vsOf at h
  split at h
  · rename_i oc od fd' osl e
    cases h
    exact ⟨oc, od, osl, e⟩
  · cases h
theorem cellOf_ok {K : PySem.W.Frag} {f D : Addr} (h : cellOf K f = some D) : ∃ oc od osl, K.lookup f = some ⟨oc, od, .cell (some (.ref D)), osl⟩ := by
  unfold cellOf at h
  split at h
  · rename_i oc od fd' osl e
    cases h
    exact ⟨oc, od, osl, e⟩
  · cases h
theorem refOf_ok {v : Value} {a : Addr} (h : refOf v = some a) : v = .ref a := by
  cases v <;> cases h
  rfl
theorem txtOf_ok {v : Option Value} {x : Str} (h : txtOf v = some x) : ∃ t, v = some (.str x t) := by
  unfold txtOf at h
  split at h
  · cases h
    exact ⟨_, rfl⟩
  · cases h
theorem onlyCl_ok {l : List (Str × Addr)} {c : Addr} (h : onlyCl l = some c) : l = [(("__class__" : Str), c)] := by
  unfold onlyCl at h
  split at h
  · split at h
    · rename_i e
      cases h
      rw [e]
    · cases h
  · cases h
def oexB (K : PySem.W.Frag) (C : Addr) : Bool := (match K.lookup C with
  | some ⟨.type t, _, .cls cd, sl⟩ => (match cd.mro, sl.toList with
    | .ref C' :: bm, [_, _, _, _, some (.builtin n), _] => decide (t = "type") && (C' == C && (n == "ValueError.__new__" && (!cd.hasDel && (cd.hasDict && PySem.HandSPX.refsVE bm))))
    | _, _ => false)
  | _ => false) && (He.eqO (PySem.W.findIn K (.ref C) "__setattr__") (some (some (.builtin "object.__setattr__"))) && (decide (PySem.W.subIn K (.ref C) (.type "BaseException") = some true) && (decide (PySem.W.typeIn K (.ref C) = some (.type "type")) && PySem.W.keepIn K (.ref C))))
theorem oexB_ok {K : PySem.W.Frag} {C : Addr} (h : oexB K C = true) : OexC K C := by
  obtain ⟨h1, h2⟩ := He.ba h
  obtain ⟨h2, h3⟩ := He.ba h2
  obtain ⟨h3, h4⟩ := He.ba h3
  obtain ⟨h4, h5⟩ := He.ba h4
  refine ⟨?_, He.eqO_ok h2, of_decide_eq_true h3, of_decide_eq_true h4, h5⟩
  split at h1
  · rename_i t dd cd sl ho
    split at h1
    · rename_i C' bm k0 k1 k2 k3 n k5 hm hs
      simp only [Bool.and_eq_true, beq_iff_eq, Bool.not_eq_true', decide_eq_true_eq] at h1
      obtain ⟨rfl, rfl, rfl, hdel, hdc, hre⟩ := h1
      obtain ⟨nm, bs, mro, ns, qn, hd, sn, sub, ab, col, del⟩ := cd
      dsimp only at hm hdel hdc
      subst hm hdel hdc
      have hsl : sl = #[k0, k1, k2, k3, some (.builtin "ValueError.__new__"), k5] := by
        obtain ⟨l⟩ := sl
        simp only at hs
        rw [hs]
      subst hsl
      exact ⟨nm, qn, ns, bs, bm, sn, sub, ab, col, dd, k0, k1, k2, k3, k5, ho, hre⟩
    · cases h1
  · cases h1
/-- what is asked of an own error with the fields fs -/
def xcB (file : Str) (K : PySem.W.Frag) (C : Str) (fs : List Str) : Bool :=
  oexB K (He.ga K C) && (He.eqO (PySem.W.nsIn K mainGlobals C) (some (some (.ref (He.ga K C)))) && (He.eqO (PySem.W.findIn K (.ref (He.ga K C)) "__init__") (some (some (.ref (He.ma K (He.ga K C) "__init__")))) && (decide (PySem.W.typeIn K (.ref (He.ma K (He.ga K C) "__init__")) = some (.type "function")) && (fs.all (fun f => He.eqO (PySem.W.findIn K (.ref (He.ga K C)) f) (some none)) &&
  (optB (fdOf K (He.ma K (He.ga K C) "__init__")) (fun fd => optB (refOf fd.code) (fun cda => optB (onlyCl fd.closure) fun cc => noneV fd.defaults && (PySem.W.codeIn K (.ref cda) fd.qualname && (optB (vsOf K cda) (fun vs => optB (txtOf vs[2]?) fun fl => (file : Str) == fl) && decide (cellOf K cc = some (He.ga K C)))))) &&
  ((PySem.W.clsIn K (He.ga K C)).isSome && (decide (PySem.W.mroIn K (He.ga K C) (.ref (He.ga K C)) = some true) && (He.eqO (PySem.W.nsIn K mainGlobals "super") (some none) && (He.eqO (PySem.W.nsIn K cStatics "thirdparty.any") (some none) && (He.eqO (PySem.W.ks_superIn K (He.ga K C) (He.ga K C) "__init__") (some (some (.builtin "ValueError.__init__"))) &&
  (decide (PySem.W.subIn K (.ref (He.ga K C)) (.type "ValueError") = some true) && (xfB K (He.ga K C) && (He.eqO (PySem.W.findIn K (.ref (He.ga K C)) "__class__") (some (some (.builtin "object.__class__"))) && (He.eqO (PySem.W.specialIn K (.builtin "object.__class__") "__get__") (some (some (.builtin "getset_descriptor.__get__"))) && (decide (PySem.W.takesIn K (.builtin "object.__class__") = some true) && decide (PySem.W.mroIn K (He.ga K C) (.type "object") = some true))))))))))))))))
structure Xc (P : Program) (K : PySem.W.Frag) (mg : Str → Option Value) (C : Str) (fs : List Str) (qual : Str) (params : Arguments) (body : List Stmt) (scope : Scope) : Prop where
  g : mg C = some (.ref (He.ga K C))
  ox : OexC K (He.ga K C)
  sup : ∃ cda cc, SupF P K (He.ma K (He.ga K C) "__init__") cda cc (He.ga K C) (He.ga K C) "__init__" qual params body scope
  ini : PySem.W.findIn K (.ref (He.ga K C)) "__init__" = some (some (.ref (He.ma K (He.ga K C) "__init__")))
  ti : PySem.W.typeIn K (.ref (He.ma K (He.ga K C) "__init__")) = some (.type "function")
  no : ∀ f ∈ fs, PySem.W.findIn K (.ref (He.ga K C)) f = some none
  xf : XfC K (He.ga K C)
  xd : ExcC K (He.ga K C)
theorem xc_of {P : Program} {K : PySem.W.Frag} {h : Heap} {mg : Str → Option Value} {C : Str} {fs : List Str} {qual : Str} {params : Arguments} {body : List Stmt} {scope : Scope} (X : K.In h) (G : h.Ns mainGlobals mg) (b : xcB P.main.file K C fs = true) (e : fnC K C = (⟨C, qual, params, body, scope⟩ : DefC).val)
    (htop : (P.main.scope.names.lookup ("super" : Str)).isSome = false) : Xc P K mg C fs qual params body scope := by
  unfold xcB at b
  obtain ⟨b1, b⟩ := He.ba b
  obtain ⟨b2, b⟩ := He.ba b
  obtain ⟨b3, b⟩ := He.ba b
  obtain ⟨b4, b⟩ := He.ba b
  obtain ⟨b5, b⟩ := He.ba b
  obtain ⟨b6, b⟩ := He.ba b
  obtain ⟨b7, b⟩ := He.ba b
  obtain ⟨b8, b⟩ := He.ba b
  obtain ⟨b9, b⟩ := He.ba b
  obtain ⟨b10, b⟩ := He.ba b
  obtain ⟨b11, b⟩ := He.ba b
  obtain ⟨b12, b⟩ := He.ba b
  obtain ⟨b13, b⟩ := He.ba b
  obtain ⟨b14, b⟩ := He.ba b
  obtain ⟨b15, b⟩ := He.ba b
  obtain ⟨b16, b17⟩ := He.ba b
  obtain ⟨fd, q1, b6⟩ := optB_ok b6
  obtain ⟨cda, q2, b6⟩ := optB_ok b6
  obtain ⟨cc, q3, b6⟩ := optB_ok b6
  obtain ⟨c0, b6⟩ := He.ba b6
  obtain ⟨c1, b6⟩ := He.ba b6
  obtain ⟨c2, c3⟩ := He.ba b6
  obtain ⟨vs, q4, c2⟩ := optB_ok c2
  obtain ⟨fl, q5, c2⟩ := optB_ok c2
  obtain ⟨oc, od, osl, lk⟩ := fdOf_ok q1
  have e0 := refOf_ok q2
  have e1 := onlyCl_ok q3
  unfold fnC at e
  rw [lk] at e
  obtain ⟨n1, n2, n3, n4, n5, n6, n7, n8, n9, n10, n11, n12, n13, n14, n15⟩ := fd
  have e2 : (some (n1, n2, n3, n4, n5, n6, n15) : FnC) = some (("__init__" : Str), qual, params, FuncBody.stmts body, scope, mainGlobals, builtinsNs) := e
  simp only [Option.some.injEq, Prod.mk.injEq] at e2
  obtain ⟨h1, h2, h3, h4, h5, h6, h7⟩ := e2
  dsimp only at e0 e1 c1 c0
  subst h1 h2 h3 h4 h5 h6 h7 e0 e1
  obtain ⟨ccl, cdd, ccs, lc⟩ := vsOf_ok q4
  obtain ⟨tf, hv⟩ := txtOf_ok q5
  obtain ⟨cl, cld, csl, lcc⟩ := cellOf_ok (of_decide_eq_true c3)
  have xf := xfB_ok b13
  refine ⟨PySem.W.mg_of X G (He.eqO_ok b2), oexB_ok b1, ⟨cda, cc, ⟨⟨oc, od, osl, n8, n9, n10, n11, n12, n14, lk, noneV_ok c0⟩, c1, ⟨ccl, cdd, vs, ccs, fl, tf, lc, hv, c2⟩, htop, ⟨cl, cld, csl, lcc⟩, b7, of_decide_eq_true b8, He.eqO_ok b9, He.eqO_ok b10, He.eqO_ok b11, of_decide_eq_true b12⟩⟩,
    He.eqO_ok b3, of_decide_eq_true b4, fun f hf => He.eqO_ok (List.all_eq_true.mp b5 f hf), xf, ⟨xf.ga, xf.gg, xf.exC, xf.hdC, He.eqO_ok b14, He.eqO_ok b15, of_decide_eq_true b16, of_decide_eq_true b17⟩⟩
end DL

namespace DL
open PySem PySem.Spec PyProof.Rows L2 Evl Sup
variable [TabC]
/-! ### what their __init__ promises -/
/-- an error of the class at C under way, with its fields -/
def finX (C a d : Addr) (fs : List (Str × V)) (H : Hp) : Hp := upd (upd H d (exd d fs)) a (exo a C (some d))
theorem fin_more {C a d : Addr} {fs gs : List (Str × V)} {H : Hp} (h : d ≠ a) : upd (finX C a d fs H) d (exd d gs) = finX C a d gs H := by
  funext b
  unfold finX
  by_cases e1 : b = a
  · subst e1
    rw [upd_ne (Ne.symm h), upd_same, upd_same]
  · by_cases e2 : b = d
    · subst e2
      rw [upd_same, upd_ne e1, upd_same]
    · rw [upd_ne e2, upd_ne e1, upd_ne e2, upd_ne e1, upd_ne e2]
/-- what an f-string takes -/
def FmtOk (v : V) : Prop := (∃ y : Str, v = .str y ∧ y.length ≤ 10000) ∨ ∃ i : Int, v = .int i ∧ i.natAbs < 10 ^ 560
def spI (K : PySem.W.Frag) (C : Addr) (fs : List Str) (tx : List V → Prop) : Sp := fun vs H Q _ => ∃ (a : Addr) (ws : List V), vs = .ref a :: ws ∧ ws.length = fs.length ∧ OexC K C ∧ (∀ f ∈ fs, PySem.W.findIn K (.ref C) f = some none) ∧ H a = some (exo a C none) ∧ tx ws ∧ ∀ d, H d = none → d ≠ a → Q .non (finX C a d (fs.zip ws).reverse H)
theorem spI_len {K : PySem.W.Frag} {C : Addr} {fs : List Str} {tx : List V → Prop} : ∀ vs H Q E, spI K C fs tx vs H Q E → vs.length = fs.length + 1 := fun vs H Q E ⟨a, ws, e, hl, _⟩ => by rw [e, List.length_cons, hl]
/-- the parts of a text -/
inductive JP where
  | k (x : Str) | v (i : Nat)
def JP.t : JP → TE
  | .k x => tC (.str x)
  | .v i => tFmt (tVar i)
theorem len_app (x y : Str) : (x ++ y).length = x.length + y.length := by
  show (x.cps ++ y.cps).size = x.cps.size + y.cps.size
  exact Array.size_append
theorem jts_ok {σ : L2.St} {H : Hp} {Q : Str → Hp → Prop} : ∀ (l : List JP) (acc : Str), (∀ i, JP.v i ∈ l → ∃ w, σ[i]? = some (some w) ∧ FmtOk w) → (∀ x, JP.k x ∈ l → x.length ≤ 10000) → acc.length + l.length * 10000 ≤ sizeLine → (∀ out, Q out H) → tJs (l.map JP.t) acc σ H Q
  | [], acc, _, _, _, q => q acc
  | .k x :: l, acc, hv, hk, hz, q => by
    have hx := hk x List.mem_cons_self
    rw [List.length_cons] at hz
    exact ⟨x, rfl, by rw [len_app]; omega, jts_ok l (acc ++ x) (fun i hi => hv i (List.mem_cons_of_mem _ hi)) (fun y hy => hk y (List.mem_cons_of_mem _ hy)) (by rw [len_app]; omega) q⟩
  | .v i :: l, acc, hv, hk, hz, q => by
    rw [List.length_cons] at hz
    obtain ⟨w, hw, hf⟩ := hv i List.mem_cons_self
    have go : ∀ y : Str, y.length ≤ 10000 → ∃ z : Str, V.str y = V.str z ∧ (acc ++ z).length ≤ sizeLine ∧ tJs (l.map JP.t) (acc ++ z) σ H Q := fun y hy =>
      ⟨y, rfl, by rw [len_app]; omega, jts_ok l (acc ++ y) (fun i hi => hv i (List.mem_cons_of_mem _ hi)) (fun y hy => hk y (List.mem_cons_of_mem _ hy)) (by rw [len_app]; omega) q⟩
    refine ⟨w, hw, ?_⟩
    rcases hf with ⟨y, rfl, hy⟩ | ⟨i, rfl, hi⟩
    · exact .inl ⟨y, rfl, by rw [sizeLine_eq]; omega, go y hy⟩
    · exact .inr ⟨i, rfl, log_small hi, go _ (Nat.le_trans (by rw [PySem.ofString_length]; exact int_text_length_le10 (k := 560) (by decide) hi) (by decide))⟩
/-- self.f = v, the first one -/
theorem ost_first {K : PySem.W.Frag} {C a : Addr} {f : Str} {i : Nat} {w : V} {D : Ends} {σ : L2.St} {H : Hp} (h0 : σ[0]? = some (some (.ref a))) (h1 : σ[i]? = some (some w)) (T : OexC K C) (hno : PySem.W.findIn K (.ref C) f = some none) (ha : H a = some (exo a C none))
    (h : ∀ d, H d = none → d ≠ a → D.nx σ (finX C a d [(f, w)] H)) : tOst K f (tVar 0) (tVar i) D σ H := ⟨w, h1, .ref a, h0, a, C, rfl, T, hno, .inl ⟨ha, fun d hd ne => h d hd ne⟩⟩
theorem ost_next {K : PySem.W.Frag} {C a d : Addr} {f : Str} {i : Nat} {w : V} {fs : List (Str × V)} {D : Ends} {σ : L2.St} {H : Hp} (h0 : σ[0]? = some (some (.ref a))) (h1 : σ[i]? = some (some w)) (T : OexC K C) (hno : PySem.W.findIn K (.ref C) f = some none) (hd : d ≠ a) (hl : fs.length ≤ 900)
    (h : D.nx σ (finX C a d ((f, w) :: fs) H)) : tOst K f (tVar 0) (tVar i) D σ (finX C a d fs H) := ⟨w, h1, .ref a, h0, a, C, rfl, T, hno, .inr ⟨d, fs, upd_same, by unfold finX; rw [upd_ne hd, upd_same], hl, by rw [fin_more hd]; exact h⟩⟩
/-- one field -/
theorem init1 {K : PySem.W.Frag} {C : Addr} {f : Str} {tx : List V → Prop} {ta : TA} {N : List Str} (hN : N.length = 2) (hta : ∀ (a : Addr) (w : V) (H : Hp) (Q : List V → Hp → Prop), tx [w] → (∀ us : List V, us.length ≤ 1000 → Q us H) → ta [some (.ref a), some w] H Q)
    {vs : List V} {H : Hp} {Q : VK} {E : XK} (h : spI K C [f] tx vs H Q E) : (fun D σ H => tSup K C ta σ H fun _ H1 => tOst K f (tVar 0) (tVar 1) D σ H1) { nx := fun _ H' => Q .non H', rt := Q } (L2.start N vs) H := by
  obtain ⟨a, ws, rfl, hl, T, hno, ha, hx, hq⟩ := h
  match ws, hl with
  | [w], _ =>
    have e : L2.start N [.ref a, w] = [some (.ref a), some w] := by
      unfold L2.start
      rw [hN]
      rfl
    rw [e]
    refine ⟨a, rfl, T, ha, hta a w H _ hx fun us hu => ⟨hu, ha, ?_⟩⟩
    exact ost_first rfl rfl T (hno f (List.mem_singleton_self _)) ha fun d hd ne => hq d hd ne
/-- two fields -/
theorem init2 {K : PySem.W.Frag} {C : Addr} {f g : Str} {tx : List V → Prop} {ta : TA} {N : List Str} (hN : N.length = 3) (hta : ∀ (a : Addr) (w u : V) (H : Hp) (Q : List V → Hp → Prop), tx [w, u] → (∀ us : List V, us.length ≤ 1000 → Q us H) → ta [some (.ref a), some w, some u] H Q)
    {vs : List V} {H : Hp} {Q : VK} {E : XK} (h : spI K C [f, g] tx vs H Q E) : (fun D σ H => tSup K C ta σ H fun _ H1 => (tSeq (tOst K f (tVar 0) (tVar 1)) (tOst K g (tVar 0) (tVar 2))) D σ H1) { nx := fun _ H' => Q .non H', rt := Q } (L2.start N vs) H := by
  obtain ⟨a, ws, rfl, hl, T, hno, ha, hx, hq⟩ := h
  match ws, hl with
  | [w, u], _ =>
    have e : L2.start N [.ref a, w, u] = [some (.ref a), some w, some u] := by
      unfold L2.start
      rw [hN]
      rfl
    rw [e]
    refine ⟨a, rfl, T, ha, hta a w u H _ hx fun us hu => ⟨hu, ha, ?_⟩⟩
    exact ost_first rfl rfl T (hno f List.mem_cons_self) ha fun d hd ne => ost_next rfl rfl T (hno g (List.mem_cons_of_mem _ (List.mem_singleton_self _))) ne (by show 1 ≤ 900; decide) (hq d hd ne)
/-- the fields that stand in the text -/
def FmtL (fm : List Bool) (ws : List V) : Prop := ∀ p ∈ fm.zip ws, p.1 = true → FmtOk p.2
/-- an own error whose __init__ is known -/
structure KnX (P : Program) (w : World) (K : PySem.W.Frag) (mg : Str → Option Value) (base : Heap) (C : Str) (ps fs : List Str) (fm : List Bool) : Prop where
  g : mg C = some (.ref (He.ga K C))
  ox : OexC K (He.ga K C)
  ini : PySem.W.findIn K (.ref (He.ga K C)) "__init__" = some (some (.ref (He.ma K (He.ga K C) "__init__")))
  ti : PySem.W.typeIn K (.ref (He.ma K (He.ga K C) "__init__")) = some (.type "function")
  no : ∀ f ∈ fs, PySem.W.findIn K (.ref (He.ga K C)) f = some none
  xf : XfC K (He.ga K C)
  xd : ExcC K (He.ga K C)
  fn : ∃ fd, FnOk P w K mg base (L2.CX P w) 1 (He.ma K (He.ga K C) "__init__") fd ps (spI K (He.ga K C) fs (FmtL fm)) ∧ L2.Binds K fd ps []
def fmtD : D → Prop
  | .str y => y.length ≤ 10000
  | .int i => i.natAbs < 10 ^ 560
  | _ => False
def FmtDL (fm : List Bool) (xs : List D) : Prop := ∀ p ∈ fm.zip xs, p.1 = true → fmtD p.2
theorem fmt_of {K : PySem.W.Frag} {H : Hp} {v : V} {d : D} (r : Rp K H v d) (h : fmtD d) : FmtOk v := by
  cases r with
  | str x => exact .inl ⟨x, rfl, h⟩
  | int i => exact .inr ⟨i, rfl, h⟩
  | _ => exact h.elim
theorem fmt_all {K : PySem.W.Frag} {H : Hp} : ∀ {fm : List Bool} {vs : List V} {ds : List D}, RpL K H vs ds → FmtDL fm ds → FmtL fm vs
  | [], _, _, _, _ => fun p hp => by cases hp
  | _ :: _, _, _, .nil, _ => fun p hp => by cases hp
  | b :: fm, _, _, .cons a r, h => fun p hp hb => by
    rw [List.zip_cons_cons] at hp
    rcases List.mem_cons.mp hp with e | e
    · subst e
      exact fmt_of a (h (b, _) (by rw [List.zip_cons_cons]; exact List.mem_cons_self) hb)
    · exact fmt_all r (fun q hq => h q (by rw [List.zip_cons_cons]; exact List.mem_cons_of_mem _ hq)) p e hb
theorem RpL.revd {K : PySem.W.Frag} {H : Hp} {vs : List V} {ds : List D} (r : RpL K H vs ds) : RpL K H vs.reverse ds.reverse := RpL.rev r
/-- raise C(e, ..) -/
def dRaise (C : Str) (fs : List Str) (fm : List Bool) (RX : XD) (dA : DA) : DS := fun _ ρ G => dA ρ G fun xs G1 => xs.length = fs.length ∧ FmtDL fm xs ∧ RX C fs.reverse xs.reverse G1
section
variable {X : Cx} {B : Bs} {pos p pos2 : Pos} {e : Expr} {es : List Expr} {dA : DA}
theorem psd_raise {C : Str} {ps fs : List Str} {fm : List Bool} {RX : XD} {E : XK} (F : KnX X.prog X.w X.K X.mg X.base C ps fs fm) (hl : fs.length ≤ 900) (hc : X.calm = true) (hr : Room 2 X.A) (hg : Gl X C) (tk : Takes X fun cls d _ H => E cls d H) (kx : ∀ Hd, Ex B.b Hd → KX X.K B.f Hd RX E)
    (hx : Passes (L2.CX X.prog X.w) X fun _ _ _ => False) (ha : PA X (e :: es) (upA X.K B dA)) (hdb : (C == ("__debug__" : Str)) = false := by decide) (he : starEach (e :: es) X.env = (false, eval e X.env) :: starEach es X.env := by rfl) (hpl : (backTo pos (starEach es X.env)).any (·.1) = false := by rfl) :
    PS X (.Raise (some (.Call (.Name C p) (e :: es) [] pos)) none pos2) (upS X.K B (dRaise C fs fm RX dA)) := by
  obtain ⟨fd, F1, hb⟩ := F.fn
  refine ps_imp (ps_raise hc tk (pmk_oex F.ox F.ini F.ti F1 hr hb .nil hx hg F.g ha hdb he hpl)) ?_
  rintro D σ H ⟨ρ, Hd, G, En, at_, h, k⟩
  refine ⟨ρ, Hd, G, _, at_, h, fun vs H1 Hd1 xs G1 e1 s1 r1 ⟨hl1, hf, hR⟩ => ?_⟩
  have hlv : vs.length = fs.length := by rw [r1.length, hl1]
  refine ⟨by omega, fun a ha => ?_⟩
  refine ⟨a, vs, by rw [List.append_nil], hlv, F.ox, F.no, upd_same, fmt_all r1 hf, fun d hd ne => ⟨rfl, d, (fs.zip vs).reverse, upd_same, by unfold finX; rw [upd_ne ne, upd_same], ?_, ?_⟩⟩
  · rw [upd_ne ne] at hd
    exact hd
  · have hd1 : H1 d = none := by
      rw [upd_ne ne] at hd
      exact hd
    have eH : upd (del (finX (He.ga X.K C) a d (fs.zip vs).reverse (upd H1 a (exo a (He.ga X.K C) none))) a) d (.xd (fs.zip vs).reverse) = upd H1 d (.xd (fs.zip vs).reverse) := by
      funext b
      by_cases q : b = d
      · subst q
        rw [upd_same, upd_same]
      · rw [upd_ne q, upd_ne q]
        by_cases q2 : b = a
        · subst q2
          rw [del_same, ha]
        · rw [del_ne q2]
          unfold finX
          rw [upd_ne q2, upd_ne q, upd_ne q2]
    rw [eH]
    have ez : (fs.zip vs).reverse = fs.reverse.zip vs.reverse := by
      rw [List.zip_eq_zipWith, List.zip_eq_zipWith, List.reverse_zipWith hlv.symm]
    rw [ez]
    exact kx Hd1 (at_.b.trans e1) C d _ Hd1 fs.reverse vs.reverse xs.reverse G1 (Ex.refl _) (s1.side hd1) upd_same (by rw [List.length_reverse, List.length_reverse, hlv]) r1.revd hR
end
end DL

/-! DL30: try: body / except X as n: m = n; the error is held by m from there on. -/
namespace Held
open PySem PySem.Spec PyProof.Rows L2 DL
section
variable {X : Cx} {pins : List (Addr × Obj)} {σ : L2.St} {H : Hp} {s : Shared}
/-- an object that nothing told of so far is told of from here on -/
theorem inv_told {a : Addr} {φ : Heap → Prop} (I : Inv X pins σ H s) (na : H a = none) (new : ∀ o, X.s_0.heap.get? a = some o → X.H_0 a = none → a ∉ X.ex → False) (nl : a ≠ X.env.locals) (nc : ∀ y c, X.env.cells.lookup y = some c → c ≠ a) (np : ∀ q ∈ X.pn ++ pins, q.1 ≠ a)
    (ok : ∀ K : Hp, ObjOk X.prog X.w K s.heap a (.ext φ)) : Inv X pins σ (upd H a (.ext φ)) s := by
  have ne : ∀ {b : Addr} {u : HO}, H b = some u → b ≠ a := fun e z => by
    rw [z, na] at e
    cases e
  have put : ∀ {b : Addr} {u : HO}, H b = some u → upd H a (.ext φ) b = some u := fun e => by
    rw [upd_ne (ne e)]
    exact e
  have B := I.base
  refine ⟨I.ok, I.os, I.bare, ⟨fun b o e n h1 h2 => B.keep b o e n h1 h2, fun b o e n h1 h2 => B.slot b o e n h1 h2, fun b o e n h1 => ?_, fun b o e h1 => B.there b o e h1, fun b xs e => put (B.tups b xs e), fun b o u e => put (B.frzs b o u e), fun b ps e => ?_⟩, I.loc, I.cell, ?_, fun y c e => ?_, fun q hq => ?_, fun b u e => ?_, I.len⟩
  · have z : b ≠ a := fun z => new o (by rw [← z]; exact e) (by rw [← z]; exact n) (by rw [← z]; exact h1)
    rw [upd_ne z]
    exact B.free b o e n h1
  · obtain ⟨more, z⟩ := B.tbls b ps e
    exact ⟨more, put z⟩
  · rw [upd_ne (Ne.symm nl)]
    exact I.free
  · rw [upd_ne (nc y c e)]
    exact I.freeC y c e
  · obtain ⟨p1, p2, p3⟩ := I.pin q hq
    exact ⟨p1, by rw [upd_ne (np q hq)]; exact p2, p3⟩
  · by_cases z : b = a
    · rw [z, upd_same] at e
      cases e
      rw [z]
      exact ok _
    · rw [upd_ne z] at e
      exact (I.hok b u e).stay (fun _ _ _ q => q) (fun _ q => put q) fun _ _ q => put q
end
/-- what the clause 'except x as n: m = n' asks of an error of the body: i is n's place, j is m's -/
def wHeld (K : PySem.W.Frag) (c : Value) (i j : Nat) (W : WX) (D : Ends) : WX := fun cls d σ H => ∃ b, PySem.W.exmOne K cls c = some b ∧
  (b = true → ∃ C dd, cls = .ref C ∧ d = some dd ∧ ∀ a, H a = none → D.nx (((σ.set i (some (.ref a))).set j (some (.ref a))).set i none) (upd H a (exh a C dd))) ∧ (b = false → W cls d σ H)
section
variable {X : Cx} {x n m : Str} {c : Value} {body : List Stmt} {px pn pm pa ph pos : Pos} {i j : Nat} {tb : WX → TS} {W0 : WX}
theorem ps_try_held (hst : X.stack = X.env :: X.outer) (hfr : X.env.frame = some X.env.locals) (nd : X.N.Nodup) (hi : X.N[i]? = some n) (hj : X.N[j]? = some m) (kn : X.env.kindOf n = some .local) (km : X.env.scope.names.lookup m = some .local) (hij : i ≠ j) (hc : Names X x c) (tk : Takes X W0)
    (hdn : (n == ("__debug__" : Str)) = false) (hcn : (n == ("__classdict__" : Str)) = false)
    (hsw : swapsWith (.Name n pn) (some (.Name m pm)) pa.line X.env = pure false)
    (hb : ∀ (W : WX) (pins : List (Addr × Obj)) (xe : Value → Shared → Prop), Takes (X.tr pins xe) W → PassesOwn (model X.prog X.w) X.A X.env xe → PSs (X.tr pins xe) body (tb W)) :
    PS X (.Try body [.ExceptHandler (some (.Name x px)) (some n) [.Assign [.Name m pm] (.Name n pn) pa] ph] [] [] pos) (fun D σ H => tb (wHeld X.K c i j W0 D) D σ H) := by
  refine ⟨fun pins s0 σ0 H0 D I0 h0 => ?_⟩
  have ok := I0.ok
  have frames : X.A.frames = some (X.env :: X.outer) := ok.frames.trans (congrArg some hst)
  generalize ecl : ExceptHandler.ExceptHandler (some (.Name x px)) (some n) [.Assign [.Name m pm] (.Name n pn) pa] ph = cl
  refine wpAny_Try_except ?_
  have caught : ∀ u s', XE (X.tr (X.pn ++ pins) fun e s₁ => wpAny (model X.prog X.w) X.A (noteFrame e X.env) (fun _ s₂ => wpAny (model X.prog X.w) X.A (setFlight e none) (fun _ s₃ => wpAny (model X.prog X.w) X.A (handleBy e X.env [cl]) (SP X pins D) X.xe s₃) X.xe s₂) X.xe s₁) (wHeld X.K c i j W0 D) u s' →
      wpAny (model X.prog X.w) X.A (noteFrame u X.env) (fun _ s₂ => wpAny (model X.prog X.w) X.A (setFlight u none) (fun _ s₃ => wpAny (model X.prog X.w) X.A (handleBy u X.env [cl]) (SP X pins D) X.xe s₃) X.xe s₂) X.xe s' := by
    rintro u s' ⟨a, G, t, q0, σ1, H1, cls, d, rfl, Jt, ground, up0, sky, na, eos, eg, b, e1, yes, no⟩
    have J : Inv X pins σ1 H1 t := Jt.ofTry ok
    rw [show (X.tr (X.pn ++ pins) _).stack = X.stack from rfl, hst] at sky
    refine Sky.land Zc.steady frames hfr sky fun h1 fly1 up1 => ?_
    have J1 : Inv X pins σ1 H1 { s' with heap := h1 } := J.landed ground fly1.1 (up0.trans up1) eos eg
    obtain ⟨o1, w1, g1, z1, f1⟩ := fly1.there
    have offFr : a ∉ frs (X.env :: X.outer) := fun z => by
      obtain ⟨_, o, e, nf⟩ := (show h1.FunFrames G (X.env :: X.outer) from fly1.2.2.1).mem z
      rw [g1] at e
      cases e
      exact nf _ f1
    have nl : a ≠ X.env.locals := fun z => offFr (List.mem_filterMap.mpr ⟨X.env, .head _, hfr.trans (congrArg some z.symm)⟩)
    have nf : a ∉ X.fs := fun z => by
      obtain ⟨e, he, q⟩ := List.mem_filterMap.mp z
      exact offFr (List.mem_filterMap.mpr ⟨e, .tail _ he, q⟩)
    have Gn : G.get? a = none := fly1.2.1
    have inG : ∀ {b : Addr} {o : Obj}, t.heap.get? b = some o → b ≠ X.env.locals → b ∉ X.fs → b ≠ a := fun {b o} e k1 k2 z => by
      have e2 := ground b o e fun hm => (List.mem_cons.mp (J.stkSub b hm)).elim k1 k2
      rw [z, Gn] at e2
      cases e2
    have new : ∀ o, X.s_0.heap.get? a = some o → X.H_0 a = none → a ∉ X.ex → False := fun o e n0 hx => inG (J.base.keep a o e n0 nf hx) nl nf rfl
    have np : ∀ q ∈ X.pn ++ pins, q.1 ≠ a := fun q hq => by
      obtain ⟨p1, _, p3, p4, _⟩ := J.pin q hq
      exact inG p1 p3 p4
    have I1 := J1.suite g1 f1 na nl nf
    rw [← ecl]
    refine wpAny_handleBy_cons (codeAny_handlers_test ?_) (fun z => by cases z)
    have ty : PySem.W.Looks (model X.prog X.w) h1 (typeOf (.ref a)) cls := fun A Q E s k q => wpAny_typeOf_ref (k _ _ g1) (by rw [z1.1]; exact q)
    have is := PySem.W.exm_one (M := model X.prog X.w) J1.kIn ty e1
    have name : ∀ {Q : Value → Shared → Prop} {E : Value → Shared → Prop}, Q c { s' with heap := h1 } → wpAny (model X.prog X.w) (X.A.mark (some (.ref a))) (eval (.Name x px) X.env) Q E { s' with heap := h1 } := fun {Q E} q => by
      obtain ⟨k1, k2, k3⟩ := hc
      rcases k3 with k3 | ⟨k3, k4, k5⟩
      · exact ld_glob (X := X.suite a ((a, o1) :: (X.pn ++ pins))) I1 k1 k3 q k2
      · exact ld_blt (X := X.suite a ((a, o1) :: (X.pn ++ pins))) I1 k1 k3 k4 q k5 k2
    refine name (is.here ?_)
    cases b with
    | false =>
      show wpAny _ X.A (handleBy (.ref a) X.env []) _ _ _
      refine wpAny_handleBy_nil ?_
      have fly := fly1
      obtain ⟨_, _, _, oe, us, T, oT, ws, r1, r2, r3, r4, r5⟩ := fly
      have go : wpAny (model X.prog X.w) X.A (setFlight (.ref a) X.env.frame) (fun _ u => wpAny (model X.prog X.w) X.A (throw (.ref a) : Sem Flow) (SP X pins D) X.xe u) X.xe { s' with heap := h1 } := by
        rw [hfr]
        refine HandSPX.setFlight_upZ fly1 fun h2 held up2 => wpAny_throw (tk _ _ ⟨a, G, t, pins, σ1, H1, cls, d, rfl, J, ground, (up0.trans up1).trans up2, ?_, na, eos, eg, no rfl⟩)
        rw [hst]
        exact .inr (.inr held)
      unfold PySem.passOn
      refine wpAny_bind (wpAny_field r1 r3 r4 ?_)
      rw [if_neg (by simp : ¬ ((Value.ref T == Value.none) = true))]
      first
        | exact wpAny_bind go
        | exact wpAny_bind (wpAny_pure (wpAny_bind go))
    | true =>
      obtain ⟨C, dd, rfl, rfl, hd⟩ := yes rfl
      refine codeAny_handlers_suite_as (HandSPX.lands_againZ fly1 fun h2 fly2 up2 => ?_)
      have J2 : Inv X pins σ1 H1 { s' with heap := h2 } := J.landed ground fly2.1 ((up0.trans up1).trans up2) eos eg
      obtain ⟨o2, w2, g2, z2, f2⟩ := fly2.there
      have I2 := J2.suite g2 f2 na nl nf
      refine store_ok (X := X.suite a ((a, o2) :: (X.pn ++ pins))) (v := .ref a) I2 nd hi (.inl kn) rfl (fun s3 I3 => ?_) (.inr kn)
      have run : PSs (X.suite a ((a, o2) :: (X.pn ++ pins))) [.Assign [.Name m pm] (.Name n pn) pa] (tAsg (tVar i) (gName j)) := pss_one (ps_set (X := X.suite a ((a, o2) :: (X.pn ++ pins))) nd hj (.inl km) (pe_var hi (.inl kn) hdn hcn) hsw (.inr km))
      have li : i < X.N.length := (List.getElem?_eq_some_iff.mp hi).1
      refine wpAny_mono (run.run [] s3 _ H1 { nx := fun σ H => σ = (σ1.set i (some (.ref a))).set j (some (.ref a)) ∧ H = H1, rt := fun _ _ => False, bk := fun _ _ => False, ct := fun _ _ => False } I3 ⟨.ref a, by rw [List.getElem?_set_self (by rw [J.len]; exact li)], rfl, rfl⟩) (fun fl s4 q => ?_) fun _ _ z => z.elim
      cases fl with
      | next =>
        obtain ⟨σ4, H4, I4, e4, e5⟩ := q
        subst e4 e5
        obtain ⟨g4, _⟩ := I4.pin (a, o2) (List.mem_append_left _ (.head _))
        have J4 := I4.unsuite ok
        have J5 := inv_told (φ := fun h => ∃ o vs, h.get? a = some o ∧ o.cls = .ref C ∧ o.dict = some dd ∧ o.data = .fields vs) J4 na new nl (fun y u e z => ?_) np fun K => ⟨⟨o2, w2, g4, z2.1, z2.2, f2⟩, ⟨o2, g4⟩, fun h3 h4 ⟨o, vs, k1, k2⟩ st => ⟨o, vs, st _ k1, k2⟩⟩
        · exact gone_ok J5 nd hi kn fun s5 J6 => ⟨_, _, J6, hd a na⟩
        · obtain ⟨v, o, k1, k2⟩ := J4.cell y u e
          rw [z, g4] at k1
          cases k1
          rw [f2] at k2
          cases k2
      | brk =>
        obtain ⟨_, _, _, z⟩ := q
        exact False.elim z
      | cont =>
        obtain ⟨_, _, _, z⟩ := q
        exact False.elim z
      | ret u =>
        obtain ⟨_, _, _, _, _, z⟩ := q
        exact False.elim z
  refine wpAny_mono ((hb (wHeld X.K c i j W0 D) (X.pn ++ pins) _ caught PassesOwn.looking).run [] s0 σ0 H0 D (I0.toTry _) h0) (fun fl s1 q => ?_) fun e s1 q => q
  cases fl with
  | next =>
    obtain ⟨σ1, H1, J, q⟩ := q
    exact wpAny_execs_nil ⟨σ1, H1, J.ofTry ok, q⟩
  | brk =>
    obtain ⟨σ1, H1, J, q⟩ := q
    exact ⟨σ1, H1, J.ofTry ok, q⟩
  | cont =>
    obtain ⟨σ1, H1, J, q⟩ := q
    exact ⟨σ1, H1, J.ofTry ok, q⟩
  | ret u =>
    obtain ⟨v, σ1, H1, J, r, q⟩ := q
    exact ⟨v, σ1, H1, J.ofTry ok, r, q⟩
end
end Held

namespace DL
open PySem PySem.Spec PyProof.Rows L2 Evl Held
variable [TabC]
/-! ### an expression that may raise: W what is wished of it -/
def upEX (K : PySem.W.Frag) (B : Bs) (d : XD → DE) (W : WX) : TE := fun σ H Q => ∃ ρ Hd G R RX, At K B σ H ρ Hd G ∧ d RX ρ G R ∧ KE K B.f Hd R Q ∧ KX K B.f Hd RX fun cls dd H' => W cls dd σ H'
/-- what stands in a name's fields once more as what never changes -/
theorem Sim.fields {K : PySem.W.Frag} {F : Gm} {Hd H : Hp} {G : Gm} (S : Sim K F Hd H G) {d : Addr} {fs : List (Str × V)} (h : H d = some (.xd fs)) : Sim K F (upd Hd d (.xd fs)) H G ∧ Ex Hd (upd Hd d (.xd fs)) := by
  have no : ∀ {a : Addr} {m : Mt}, HoldM K Hd H a m → a ≠ d := fun {a m} hm z => by
    rw [z] at hm
    cases m with
    | lst ds =>
      obtain ⟨_, e, _⟩ := hm
      rw [h] at e
      cases e
    | ins C ns ds =>
      obtain ⟨_, _, e, _⟩ := hm
      rw [h] at e
      cases e
    | gau T =>
      obtain ⟨_, _, _, _, e, _⟩ := hm
      rw [h] at e
      cases e
    | tab q =>
      obtain ⟨_, e, _⟩ := hm
      rw [h] at e
      cases e
  have ex : Ex Hd (upd Hd d (.xd fs)) := fun a u e => by
    by_cases z : a = d
    · have e2 := S.sub a u e
      rw [z, h] at e2
      rw [z, upd_same]
      exact e2
    · rw [upd_ne z]
      exact e
  refine ⟨⟨fun a u e => ?_, fun a m e => ?_, fun a m e => (S.hold a m e).mono ex, fun a m e => ?_, fun a m e => (S.holdF a m e).mono ex, S.apart, S.tabs⟩, ex⟩
  · by_cases z : a = d
    · rw [z, upd_same] at e
      cases e
      rw [z]
      exact h
    · rw [upd_ne z] at e
      exact S.sub a u e
  · rw [upd_ne (no (S.hold a m e))]
    exact S.off a m e
  · rw [upd_ne (no (S.holdF a m e))]
    exact S.offF a m e
/-! ### try: e / except x as n: m = n -/
def dTryH (i j : Nat) (cs : List Str) (dX : XD → DE) : DS := fun E ρ G => dX (fun C ns xs G' => C ∈ cs ∧ E.nx (((ρ.set i (some (.exc C ns xs))).set j (some (.exc C ns xs))).set i none) G') ρ G fun _ G' => E.nx ρ G'
section
variable {X : Cx} {B : Bs} {x n m : Str} {c : Value} {e : Expr} {px pn pm pa pe ph pos : Pos} {i j : Nat} {dX : XD → DE} {cs : List Str}
theorem psd_tryH (hcs : ∀ C ∈ cs, PySem.W.exmOne X.K (.ref (He.ga X.K C)) c = some true) (hst : X.stack = X.env :: X.outer) (hfr : X.env.frame = some X.env.locals) (nd : X.N.Nodup) (hi : X.N[i]? = some n) (hj : X.N[j]? = some m) (kn : X.env.kindOf n = some .local) (km : X.env.scope.names.lookup m = some .local) (hij : i ≠ j) (hc : Names X x c)
    (hb : ∀ (W : WX) (pins : List (Addr × Obj)) (xe : Value → Shared → Prop), Takes (X.tr pins xe) W → PE (X.tr pins xe) e (upEX X.K B dX W))
    (hdn : (n == ("__debug__" : Str)) = false := by decide) (hcn : (n == ("__classdict__" : Str)) = false := by decide) (hsw : swapsWith (.Name n pn) (some (.Name m pm)) pa.line X.env = pure false := by rfl) (hse : swapsWith e none pe.line X.env = pure false := by rfl) :
    PS X (.Try [.Expr e pe] [.ExceptHandler (some (.Name x px)) (some n) [.Assign [.Name m pm] (.Name n pn) pa] ph] [] [] pos) (upS X.K B (dTryH i j cs dX)) :=
  ps_imp (ps_try_held (tb := fun W => tDrop (upEX X.K B dX W)) hst hfr nd hi hj kn km hij hc (W0 := fun _ _ _ _ => False) LamX.takes0 hdn hcn hsw fun W pins xe tk _ => pss_one (ps_expr (hb W pins xe tk) hse)) fun D σ H ⟨ρ, Hd, G, E, at_, h, k⟩ => by
    refine ⟨ρ, Hd, G, _, _, at_, h, fun v H' Hd' y G' ee s' _ q => k.nx σ H' Hd' ρ G' ee (at_.e.mono ee) s' q, fun C d H' Hd' ns vs xs G' ee s' hd hl rl q => ?_⟩
    obtain ⟨hC, q⟩ := q
    refine ⟨true, hcs C hC, fun _ => ⟨He.ga X.K C, d, rfl, rfl, fun a na => ?_⟩, fun z => by cases z⟩
    obtain ⟨s2, e2⟩ := s'.fields hd
    have ra : Rp X.K (upd (upd Hd' d (.xd (List.zip ns vs))) a (exh a (He.ga X.K C) d)) (.ref a) (.exc C ns xs) := by
      refine .exc upd_same ?_ hl (rl.mono (e2.trans (s2.exn na)))
      rw [upd_ne (fun z => by rw [← z, hd] at na; cases na), upd_same]
    have e3 : Ex (upd Hd' d (.xd (List.zip ns vs))) (upd (upd Hd' d (.xd (List.zip ns vs))) a (exh a (He.ga X.K C) d)) := s2.exn na
    have re := at_.e.mono (ee.trans (e2.trans e3))
    exact k.nx _ _ _ _ G' (ee.trans (e2.trans e3)) (((re.set i ra).set j ra).unset i) (s2.new na) q
end
/-! ### isinstance and fields of a held error -/
/-- what the head tells of the own errors: es the classes, sub which stands below which, fl the fields -/
structure IsC (K : PySem.W.Frag) (mg : Str → Option Value) (es : List Str) (sub : Str → Str → Bool) (fl : List Str) : Prop where
  e : ∀ C ∈ es, ∀ D ∈ es, PySem.W.kitOne K (.ref (He.ga K C)) (.ref (He.ga K D)) = some (sub C D)
  t : ∀ t ∈ ["NoneType", "bool", "int", "str", "tuple", "list", "dict"], ∀ D ∈ es, PySem.W.kitOne K (.type t) (.ref (He.ga K D)) = some false
  m : ∀ C ∈ es, ∀ D ∈ es, PySem.W.exmOne K (.ref (He.ga K C)) (.ref (He.ga K D)) = some (sub C D)
  x : ∀ C ∈ es, ExcC K (He.ga K C)
  f : ∀ C ∈ es, XfC K (He.ga K C)
  n : ∀ C ∈ es, ∀ f ∈ fl, PySem.W.findIn K (.ref (He.ga K C)) f = some none
  g : ∀ C ∈ es, mg C = some (.ref (He.ga K C))
def excB (K : PySem.W.Frag) (C : Addr) : Bool := xfB K C && (He.eqO (PySem.W.findIn K (.ref C) "__class__") (some (some (.builtin "object.__class__"))) && (He.eqO (PySem.W.specialIn K (.builtin "object.__class__") "__get__") (some (some (.builtin "getset_descriptor.__get__"))) && (decide (PySem.W.takesIn K (.builtin "object.__class__") = some true) && decide (PySem.W.mroIn K C (.type "object") = some true))))
theorem excB_ok {K : PySem.W.Frag} {C : Addr} (h : excB K C = true) : XfC K C ∧ ExcC K C := by
  obtain ⟨h1, h⟩ := He.ba h
  obtain ⟨h2, h⟩ := He.ba h
  obtain ⟨h3, h⟩ := He.ba h
  obtain ⟨h4, h5⟩ := He.ba h
  have xf := xfB_ok h1
  exact ⟨xf, ⟨xf.ga, xf.gg, xf.exC, xf.hdC, He.eqO_ok h2, He.eqO_ok h3, of_decide_eq_true h4, of_decide_eq_true h5⟩⟩
def isB (K : PySem.W.Frag) (es : List Str) (sub : Str → Str → Bool) (fl : List Str) : Bool :=
  es.all fun C => He.eqO (PySem.W.nsIn K mainGlobals C) (some (some (.ref (He.ga K C)))) && (excB K (He.ga K C) && (fl.all (fun f => He.eqO (PySem.W.findIn K (.ref (He.ga K C)) f) (some none)) &&
    (["NoneType", "bool", "int", "str", "tuple", "list", "dict"].all (fun t => decide (PySem.W.kitOne K (.type t) (.ref (He.ga K C)) = some false)) && es.all fun D => decide (PySem.W.kitOne K (.ref (He.ga K C)) (.ref (He.ga K D)) = some (sub C D)) && decide (PySem.W.exmOne K (.ref (He.ga K C)) (.ref (He.ga K D)) = some (sub C D)))))
theorem isB_ok {K : PySem.W.Frag} {h : Heap} {mg : Str → Option Value} {es : List Str} {sub : Str → Str → Bool} {fl : List Str} (X : K.In h) (G : h.Ns mainGlobals mg) (b : isB K es sub fl = true) : IsC K mg es sub fl := by
  have key := List.all_eq_true.mp b
  refine ⟨fun C hC D hD => ?_, fun t ht C hC => ?_, fun C hC D hD => ?_, fun C hC => ?_, fun C hC => ?_, fun C hC f hf => ?_, fun C hC => ?_⟩ <;> obtain ⟨h1, z⟩ := He.ba (key C hC) <;> obtain ⟨h2, z⟩ := He.ba z <;> obtain ⟨h3, z⟩ := He.ba z <;> obtain ⟨h4, h5⟩ := He.ba z
  · exact of_decide_eq_true (He.ba (List.all_eq_true.mp h5 D hD)).1
  · exact of_decide_eq_true (List.all_eq_true.mp h4 t ht)
  · exact of_decide_eq_true (He.ba (List.all_eq_true.mp h5 D hD)).2
  · exact (excB_ok h2).2
  · exact (excB_ok h2).1
  · exact He.eqO_ok (List.all_eq_true.mp h3 f hf)
  · exact PySem.W.mg_of X G (He.eqO_ok h1)
/-- a value's type, own errors too -/
def TyY (K : PySem.W.Frag) (H : Hp) (v : V) (t : Value) : Prop := TyX K H v t ∨ ∃ a C d fs, v = .ref a ∧ t = .ref C ∧ H a = some (exh a C d) ∧ H d = some (.xd fs) ∧ ExcC K C
section
variable {X : Cx} {B : Bs} {pins : List (Addr × Obj)} {σ : L2.St} {H : Hp} {s : Shared} {p pos q : Pos} {e : Expr} {es : List Expr} {da : DE} {x : Str} {cl fl : List Str} {sub : Str → Str → Bool}
theorem exh_at {a C d : Addr} {fs : List (Str × V)} (I : Inv X pins σ H s) (ha : H a = some (exh a C d)) (hd : H d = some (.xd fs)) : ∃ (o : Obj) (od : Obj) (m : Str → Option Value), PySem.W.InstAt s.heap a o C (some od) ∧ (∀ y, RelO (fs.lookup y) (m y)) ∧ ∀ y, PySem.W.lookIn y od = some (m y) := by
  obtain ⟨⟨o, us, e1, e2, e3, e4⟩, _, _⟩ := I.hok a _ ha
  obtain ⟨m, hns, hr⟩ := (show ObjOk X.prog X.w H s.heap d (.xd fs) from I.hok d _ hd)
  obtain ⟨od, ho, hl⟩ := lookIn_ns hns
  exact ⟨o, od, m, ⟨e1, e2, by unfold PySem.W.notCls; rw [e4] <;> rfl, by rw [e3]; exact ho⟩, hr, hl⟩
theorem kit_ofY {v : V} {u t : Value} (I : Inv X pins σ H s) (r : RelV v u) (ty : TyY X.K H v t) : ∃ P : Heap → Prop, PySem.W.KitX X.K u t P ∧ P s.heap ∧ u ≠ .builtin "__main__.__loader__#opaque" := by
  rcases ty with ty | ⟨a, C, d, fs, rfl, rfl, ha, hd, E⟩
  · exact kit_of I r ty
  · cases (show u = Value.ref a from r)
    obtain ⟨o, od, m, J, _, _⟩ := exh_at I ha hd
    have cl : (PySem.W.clsIn X.K C).isSome = true := by
      obtain ⟨cd, hc, _⟩ := PySem.W.any_some E.hd
      rw [hc]
      rfl
    exact ⟨_, PySem.W.kitx_exc cl E.hg E.hk E.hs E.ha E.hn E.ht E.hm, J, fun z => nomatch z⟩
def rIsY (K : PySem.W.Frag) : List V → Hp → VK → Prop := fun xs H Q => ∃ (v c : V) (t u : Value) (b : Bool), xs = [v, c] ∧ ClsV c u ∧ TyY K H v t ∧ PySem.W.kitOne K t u = some b ∧ Q (.bl b) H
def rIsYT (K : PySem.W.Frag) : List V → Hp → VK → Prop := fun xs H Q => ∃ (v : V) (tp : Addr) (cs : List V) (t : Value) (us : List Value) (b : Bool), xs = [v, .ref tp] ∧ H tp = some (.tup cs) ∧ Paired ClsV cs us ∧ TyY K H v t ∧ PySem.W.kitAny K t us = some b ∧ Q (.bl b) H
theorem call_isY : CallR X (.builtin "isinstance") (rIsY X.K) := by
  intro pins s σ H xs us Q I r ⟨v, c, t, u, b, e1, k, ty, e, hq⟩
  subst e1
  obtain ⟨w1, w2, e2, r1, r2⟩ := vals2 r
  subst e2
  cases k.eq r2
  obtain ⟨P, Z, hp, hn⟩ := kit_ofY I r1 ty
  exact PySem.W.kia_one Z I.kIn hp e hn fun tk => ⟨.bl b, H, I.tok tk, rfl, hq⟩
theorem call_isYT : CallR X (.builtin "isinstance") (rIsYT X.K) := by
  intro pins s σ H xs us Q I r ⟨v, tp, cs, t, ws, b, e1, hT, k, ty, e, hq⟩
  subst e1
  obtain ⟨w1, w2, e2, r1, r2⟩ := vals2 r
  subst e2
  cases (show w2 = Value.ref tp from r2)
  obtain ⟨P, Z, hp, hn⟩ := kit_ofY I r1 ty
  obtain ⟨_, its, rv, ⟨oc, od, dt, sl⟩, g1, g2, m, g3⟩ := (show ObjOk X.prog X.w H s.heap tp (.tup cs) from I.hok tp _ hT)
  cases ClsV.all k rv
  dsimp only at g2 g3
  subst g2 g3
  exact PySem.W.kia_tup Z I.kIn hp g1 e hn fun tk => ⟨.bl b, H, I.tok tk, rfl, hq⟩
/-- own classes, written one behind another -/
def tOwn (K : PySem.W.Frag) (cs : List Str) : TA := fun _ H Q => Q (cs.map fun C => V.ref (He.ga K C)) H
theorem pow_nil : PA X [] (tOwn X.K []) := pa_imp pa_nil fun _ _ _ h => h
theorem pow_cons {C : Str} {cs : List Str} (hg : Gl X C) (hm : X.mg C = some (.ref (He.ga X.K C))) (hr : PA X es (tOwn X.K cs)) (hd : (C == ("__debug__" : Str)) = false := by decide) (hs : starEach (.Name C q :: es) X.env = (false, eval (.Name C q) X.env) :: starEach es X.env := by rfl) :
    PA X (.Name C q :: es) (tOwn X.K (C :: cs)) := pa_imp (pa_cons (pe_glob (v := .ref (He.ga X.K C)) hg hm rfl hd) hr hs) fun _ _ _ h => h
theorem paired_own {K : PySem.W.Frag} : ∀ cs : List Str, Paired ClsV (cs.map fun C => V.ref (He.ga K C)) (cs.map fun C => Value.ref (He.ga K C))
  | [] => .nil
  | C :: cs => .cons (.own _) (paired_own cs)
/-- is x of one of the classes cs -/
def isO (cl : List Str) (sub : Str → Str → Bool) (cs : List Str) (x : D) : Option Bool := match x with
  | .exc C _ _ => if C ∈ cl then some (cs.any (sub C)) else none
  | x => if x.tyn.isSome then some false else none
theorem is_own {K : PySem.W.Frag} {mg : Str → Option Value} {F : Gm} {Hd H : Hp} {G : Gm} {v : V} {y : D} {b : Bool} {cs : List Str} (T : IsC K mg cl sub fl) (hcs : ∀ C ∈ cs, C ∈ cl) (s : Sim K F Hd H G) (r : Rp K Hd v y) (h : isO cl sub cs y = some b) :
    ∃ t, TyY K H v t ∧ PySem.W.kitAny K t (cs.map fun C => Value.ref (He.ga K C)) = some b := by
  have no : ∀ t ∈ ["NoneType", "bool", "int", "str", "tuple", "list", "dict"], ∀ l : List Str, (∀ C ∈ l, C ∈ cl) → PySem.W.kitAny K (.type t) (l.map fun C => Value.ref (He.ga K C)) = some false := fun t ht l => by
    induction l with
    | nil => exact fun _ => rfl
    | cons C l ih => exact fun hl => kitAny_cons (T.t t ht C (hl C List.mem_cons_self)) (fun _ => ih fun D hD => hl D (List.mem_cons_of_mem _ hD)) fun z => by cases z
  have own : ∀ C ∈ cl, ∀ l : List Str, (∀ D ∈ l, D ∈ cl) → PySem.W.kitAny K (.ref (He.ga K C)) (l.map fun D => Value.ref (He.ga K D)) = some (l.any (sub C)) := fun C hC l => by
    induction l with
    | nil => exact fun _ => rfl
    | cons D l ih =>
      intro hl
      refine kitAny_cons (T.e C hC D (hl D List.mem_cons_self)) (fun z => ?_) fun z => ?_
      · rw [List.any_cons, z, Bool.false_or]
        exact ih fun D hD => hl D (List.mem_cons_of_mem _ hD)
      · rw [List.any_cons, z, Bool.true_or]
  have base : ∀ t, y.tyn = some t → b = false → ∃ t, TyY K H v t ∧ PySem.W.kitAny K t (cs.map fun C => Value.ref (He.ga K C)) = some b := fun t ht hb => by
    rw [hb]
    exact ⟨_, .inl (ty_of s r ht), no t (tyn_in ht) cs hcs⟩
  have fin : (if y.tyn.isSome = true then some false else none) = some b → ∃ t, TyY K H v t ∧ PySem.W.kitAny K t (cs.map fun C => Value.ref (He.ga K C)) = some b := fun h => by
    cases q : y.tyn with
    | none =>
      rw [q] at h
      cases h
    | some t =>
      rw [q] at h
      exact base t q (Option.some.inj h).symm
  cases y with
  | exc C ns xs =>
    unfold isO at h
    dsimp only at h
    by_cases hC : C ∈ cl
    · rw [if_pos hC] at h
      cases h
      cases r with
      | exc ha hd _ _ => exact ⟨_, .inr ⟨_, _, _, _, rfl, rfl, s.sub _ _ ha, s.sub _ _ hd, T.x C hC⟩, own C hC cs hcs⟩
    · rw [if_neg hC] at h
      cases h
  | _ => exact fin h
def dIsO (cl : List Str) (sub : Str → Str → Bool) (cs : List Str) (da : DE) : DE := fun ρ G R => da ρ G fun y G1 => ∃ b, isO cl sub cs y = some b ∧ R (.bl b) G1
theorem pd_isO {C : Str} (T : IsC X.K X.mg cl sub fl) (hC : C ∈ cl) (hx : x = "isinstance") (hg : Gl X x) (hm : X.mg x = none) (hgC : Gl X C) (ha : PE X e (upE X.K B da)) (hd : (C == ("__debug__" : Str)) = false := by decide)
    (he : starEach (e :: [.Name C q]) X.env = (false, eval e X.env) :: starEach [.Name C q] X.env := by rfl) (he2 : starEach ((.Name C q) :: []) X.env = (false, eval (.Name C q) X.env) :: starEach [] X.env := by rfl) (hpl : (backTo pos (starEach [.Name C q] X.env)).any (·.1) = false := by rfl) :
    PE X (.Call (.Name x p) (e :: [.Name C q]) [] pos) (upE X.K B (dIsO cl sub [C] da)) := by
  subst hx
  refine pe_imp (pe_callB call_isY hg hm (by decide +kernel) (pa_cons ha (pow_cons hgC (T.g C hC) pow_nil hd he2) he) (by decide) (by decide) he hpl) fun σ H Q ⟨ρ, Hd, G, R, at_, h, k⟩ => ?_
  refine ⟨ρ, Hd, G, _, at_, h, fun v H1 Hd1 y G1 e1 s1 r1 ⟨b, eb, hr⟩ => ?_⟩
  obtain ⟨t, ty, kt⟩ := is_own (cs := [C]) T (fun D hD => by cases List.mem_singleton.mp hD; exact hC) s1 r1 eb
  refine ⟨v, _, t, _, b, rfl, .own _, ty, ?_, k _ H1 Hd1 _ G1 e1 s1 (.bl b) hr⟩
  unfold PySem.W.kitAny at kt
  simp only [List.map] at kt
  revert kt
  cases z : PySem.W.kitOne X.K t (Value.ref (He.ga X.K C)) with
  | none => exact fun kt => by cases kt
  | some w =>
    cases w with
    | true => exact fun kt => kt
    | false => exact fun kt => kt
theorem pd_isOT {cs : List Str} {x1 : Nat} (T : IsC X.K X.mg cl sub fl) (hcs : ∀ C ∈ cs, C ∈ cl) (hx : x = "isinstance") (hz : cs.length ≤ sizeLine) (hg : Gl X x) (hm : X.mg x = none) (ha : PE X e (upE X.K B da)) (ht : PA X es (tOwn X.K cs))
    (he : starEach (e :: [.Tuple es x1 q]) X.env = (false, eval e X.env) :: starEach [.Tuple es x1 q] X.env := by rfl) (he2 : starEach ((.Tuple es x1 q) :: []) X.env = (false, eval (.Tuple es x1 q) X.env) :: starEach [] X.env := by rfl) (hpl : (backTo pos (starEach [.Tuple es x1 q] X.env)).any (·.1) = false := by rfl) :
    PE X (.Call (.Name x p) (e :: [.Tuple es x1 q]) [] pos) (upE X.K B (dIsO cl sub cs da)) := by
  subst hx
  refine pe_imp (pe_callB call_isYT hg hm (by decide +kernel) (pa_cons ha (pa_cons (pe_tup ht) pa_nil he2) he) (by decide) (by decide) he hpl) fun σ H Q ⟨ρ, Hd, G, R, at_, h, k⟩ => ?_
  refine ⟨ρ, Hd, G, _, at_, h, fun v H1 Hd1 y G1 e1 s1 r1 ⟨b, eb, hr⟩ => ?_⟩
  refine ⟨by rw [List.length_map]; exact hz, fun pp hp => ?_⟩
  obtain ⟨t, ty, kt⟩ := is_own T hcs (s1.side (o := .tup (cs.map fun C => V.ref (He.ga X.K C))) hp) r1 eb
  exact ⟨v, pp, _, t, _, b, rfl, upd_same, paired_own cs, ty, kt, k _ _ Hd1 _ G1 e1 (s1.side hp) (.bl b) hr⟩
/-- x.f of a held error -/
def dXf (cl : List Str) (f : Str) (da : DE) : DE := fun ρ G R => da ρ G fun y G1 => ∃ C ns xs z, y = .exc C ns xs ∧ C ∈ cl ∧ (ns.zip xs).lookup f = some z ∧ R z G1
theorem rpl_lookup {K : PySem.W.Frag} {H : Hp} {f : Str} {z : D} : ∀ {ns : List Str} {vs : List V} {xs : List D}, RpL K H vs xs → (ns.zip xs).lookup f = some z → ∃ v, (ns.zip vs).lookup f = some v ∧ Rp K H v z
  | [], _, _, _, h => by cases h
  | _ :: _, _, _, .nil, h => by cases h
  | n :: ns, _, _, .cons (v := v) a b, h => by
    rw [List.zip_cons_cons, List.lookup_cons] at h
    rw [List.zip_cons_cons, List.lookup_cons]
    cases q : (f == n) with
    | true =>
      rw [q] at h
      cases h
      exact ⟨v, rfl, a⟩
    | false =>
      rw [q] at h
      exact rpl_lookup b h
theorem pd_xf {f : Str} (T : IsC X.K X.mg cl sub fl) (hf : f ∈ fl) (ha : PE X e (upE X.K B da)) (hb : attributeBase e f X.env (eval e X.env) = eval e X.env := by rfl) : PE X (.Attribute e f pos) (upE X.K B (dXf cl f da)) := by
  refine ⟨fun pins s σ H Q I ⟨ρ, Hd, G, R, at_, h, k⟩ => attr_of hb (thn (ha.run pins s σ H (fun v H1 => ∃ Hd1 C ns xs z G1, Ex Hd Hd1 ∧ Sim X.K B.f Hd1 H1 G1 ∧ Rp X.K Hd1 v (.exc C ns xs) ∧ C ∈ cl ∧ (ns.zip xs).lookup f = some z ∧ R z G1) I ⟨ρ, Hd, G, _, at_, h, fun v H1 Hd1 y G1 e1 s1 r1 ⟨C, ns, xs, z, ey, hC, hl, hr⟩ => ?_⟩) fun u s1 hh => ?_)⟩
  · subst ey
    exact ⟨Hd1, C, ns, xs, z, G1, e1, s1, r1, hC, hl, hr⟩
  · obtain ⟨v, H1, I1, rv, Hd1, C, ns, xs, z, G1, e1, s1, r1, hC, hl, hr⟩ := hh
    cases r1 with
    | exc h1 h2 h3 h4 =>
      rename_i a d us
      cases (show u = Value.ref a from rv)
      obtain ⟨o, od, m, J, hm, hlk⟩ := exh_at I1 (s1.sub _ _ h1) (s1.sub _ _ h2)
      obtain ⟨w, ew, rw_⟩ := rpl_lookup h4 hl
      obtain ⟨u, hu, ru⟩ := RelO.some_of (v := w) (o := m f) (by rw [← ew]; exact hm f)
      have xf := T.f C hC
      exact HandSPX.exc_get I1.kIn J xf.ga xf.gg xf.exC (PySem.W.findObj_own xf.hdC (T.n C hC f hf) rfl (by rw [hlk, hu])) (handed_of ru) ⟨w, H1, I1.tok _, ru, k w H1 Hd1 z G1 e1 s1 rw_ hr⟩
end
end DL

/-! DL31: a lambda handed to a def; a default beside it. -/
namespace Act
open PySem PySem.Spec PySem.Calls PyProof.Rows L2 LamX PySem.W
/-- the names of a lambda: bs its parameters; N the maker's names, sc the maker's scope -/
structure LamO (N : List Str) (sc scope : Scope) (bs : List Str) : Prop where
  kind : scope.kind = .function
  co : scope.isCoroutine = false
  gen : scope.isGenerator = false
  cell : ∀ y ∈ scope.names, y.2 ≠ .cell
  loc : ∀ y ∈ scope.names, y.2 = .local → y.1 ∉ N
  free : ∀ y ∈ scope.names, y.2 = .free → sc.names.lookup y.1 = some .cell ∨ sc.names.lookup y.1 = some .free
  bs : ∀ x ∈ bs, scope.names.lookup x = some .local
def lamOB (N : List Str) (sc scope : Scope) (bs : List Str) : Bool :=
  decide (scope.kind = .function) && (!scope.isCoroutine && (!scope.isGenerator && (scope.names.all (fun y => !decide (y.2 = .cell)) && (scope.names.all (fun y => !decide (y.2 = .local) || !decide (y.1 ∈ N)) && (scope.names.all (fun y => !decide (y.2 = .free) || (decide (sc.names.lookup y.1 = some .cell) || decide (sc.names.lookup y.1 = some .free))) && bs.all fun x => decide (scope.names.lookup x = some .local))))))
theorem lamO_by {N : List Str} {sc scope : Scope} {bs : List Str} (h : lamOB N sc scope bs = true) : LamO N sc scope bs := by
  unfold lamOB at h
  simp only [Bool.and_eq_true, Bool.or_eq_true, Bool.not_eq_true', decide_eq_true_eq, decide_eq_false_iff_not, List.all_eq_true] at h
  obtain ⟨h1, h2, h3, h4, h5, h6, h7⟩ := h
  exact ⟨h1, h2, h3, h4, fun y hy e => (h5 y hy).resolve_left fun z => z e, fun y hy e => (h6 y hy).resolve_left fun z => z e, h7⟩
section
variable {X : Cx} {pins : List (Addr × Obj)} {σ : L2.St} {H HZ : Hp} {s s1 : Shared} {c P : Addr} {params : Arguments} {body : Expr} {scope : Scope} {pos : Pos} {bs : List Str} {f c' : Addr}
theorem LamO.has (L : LamO X.N X.env.scope scope bs) (ok : X.Ok) : ∀ y ∈ scope.names, y.2 = .free → ∃ u, X.env.cells.lookup y.1 = some u := fun y hy e => ok.has _ (L.free y hy e)
abbrev lq (X : Cx) : Str := X.env.qual ++ "<lambda>"
abbrev lcl (X : Cx) (scope : Scope) : List (Str × Addr) := cloFrom X.env.cells scope.names []
/-- H1 is H but for the table P and what is new -/
structure LamH (H H1 : Hp) (P : Addr) (q : Str) : Prop where
  keep : ∀ b o, b ≠ P → H b = some o → H1 b = some o
  tab : TabS H1 P q
theorem made {dV : Value} {Q E : Value → Shared → Prop} (I : Inv X pins σ H s) (tb : TabB X.base X.mg c P) (hcode : X.env.code = .ref c) (ht : TabS H P (lq X)) (hfree : ∀ y ∈ scope.names, y.2 = .free → ∃ u, X.env.cells.lookup y.1 = some u)
    (h : ∀ (f c' : Addr) (doc pm ctv : Value) (H1 : Hp) (s1 : Shared), Inv X pins σ H1 s1 → LamH H H1 P (lq X) → (∀ b, H b = none → b < s.heap.objs.size → H1 b = none) → (∀ b o, b ≠ P → s.heap.get? b = some o → s1.heap.get? b = some o) →
      s1.heap.get? f = some (kdv_obj "<lambda>" (lq X) params (.expr body) scope (lcl X scope) dV doc pm c' ctv) → H1 f = none → f ∉ frs X.stack → H1 c' = some (CodeO c' (lq X)) → Q (.ref f) s1) :
    wpAny (model X.prog X.w) X.A (makeTail "<lambda>" (lq X) params (.expr body) scope X.env dV .none none pos pos.line) Q E s := by
  obtain ⟨ps, gP, tr, am⟩ := ht
  have gP2 : s.heap.get? P = some { cls := .none, data := .fields ps } := I.hok P _ gP
  have bP := tb.bm.keeps I.bk
  have far : ∀ {b : Addr}, s.heap.objs.size ≤ b → b ∉ frs X.stack := fun {b} hb z => (List.mem_cons.mp (I.stkSub b z)).elim (fun e => by
    have l := I.lt
    rw [← e] at l
    exact absurd l (Nat.not_lt.mpr hb)) (I.nofs hb)
  cases am2 : codeAmong pos ps.toList with
  | some cv =>
    obtain ⟨c', rfl, hc'⟩ := am pos cv am2
    refine kdv_makeTailHit (mg := X.mg) (c := c) (P := P) (ps := ps) (closure_ok hfree) I.ok.glob (I.mod.glob.keeps I.bk) hcode (tb.code.keeps I.bk) gP2 tr am2 bP fun ctv doc h' tk kp sz => ?_
    exact h h'.objs.size c' doc _ ctv H _ (I.kept (t' := tk) fun b o e => Heap.get?_push_of_some _ (kp b o e)) ⟨fun _ _ _ e => e, ps, gP, tr, am⟩ (fun _ e _ => e) (fun b o _ e => Heap.get?_push_of_some _ (kp b o e)) (Heap.get?_push_size _ rfl) (I.hok.fresh sz) (far sz) hc'
  | none =>
    refine kdv_makeTail (mg := X.mg) (c := c) (P := P) (ps := ps) (closure_ok hfree) I.ok.glob (I.mod.glob.keeps I.bk) hcode (tb.code.keeps I.bk) gP2 tr am2 tb.gP bP fun c' ctv doc h' tk but ge lt rec_ new => ?_
    obtain ⟨_, oc, us, t, e2, k1, k2, k3⟩ := rec_
    cases e2
    have sz : s.heap.objs.size ≤ h'.objs.size := Nat.le_trans ge (Nat.le_of_lt lt)
    have n1 : H c' = none := I.hok.fresh ge
    have cP : c' ≠ P := fun z => by
      rw [← z, n1] at gP
      cases gP
    have stays : ∀ b o, b ≠ P → H b = some o → upd (upd H P (.tbl (ps ++ #[rawInt pos.line, rawInt pos.col, .ref c']))) c' (CodeO c' (lq X)) b = some o := fun b o hb e => by
      rw [upd_ne (fun z => by rw [z, n1] at e; cases e), upd_ne hb]
      exact e
    have J := inv_table (t' := tk) (more := #[rawInt pos.line, rawInt pos.col, .ref c']) (c := c') (q := lq X) (h' := h'.push (kdv_obj "<lambda>" (lq X) params (.expr body) scope (lcl X scope) dV doc ((X.mg "__name__").getD .none) c' ctv)) I gP
      (fun b o hb e => Heap.get?_push_of_some _ (but b o hb e)) (Heap.get?_push_of_some _ new) ge ⟨oc, us, t, Heap.get?_push_of_some _ k1, k2, k3⟩
    have app : (ps ++ #[rawInt pos.line, rawInt pos.col, .ref c']).toList = ps.toList ++ [rawInt pos.line, rawInt pos.col, .ref c'] := by simp
    have lP : P < s.heap.objs.size := Heap.lt_size gP2
    refine h h'.objs.size c' doc _ ctv _ _ J ⟨stays, ps ++ #[rawInt pos.line, rawInt pos.col, .ref c'], ?_, ?_, fun p2 cv hcv => ?_⟩ (fun b e hb => ?_) (fun b o hb e => Heap.get?_push_of_some _ (but b o hb e)) (Heap.get?_push_size _ rfl) ?_ (far sz) upd_same
    · rw [upd_ne cP.symm, upd_same]
    · rw [app]
      exact PySem.TriplesOk_snoc _ _ _ _ tr
    · rw [app] at hcv
      rcases among_app _ tr hcv with z | z
      · obtain ⟨c0, e1, e2⟩ := am p2 cv z
        refine ⟨c0, e1, stays _ _ (fun y => ?_) e2⟩
        rw [y, gP] at e2
        exact codeO_ne ps (Option.some.inj e2).symm
      · exact ⟨c', z, upd_same⟩
    · have y1 : b ≠ c' := fun z => by
        rw [z] at hb
        exact absurd hb (Nat.not_lt.mpr ge)
      have y2 : b ≠ P := fun z => by
        rw [z, gP] at e
        cases e
      rw [upd_ne y1, upd_ne y2]
      exact e
    · have y1 : h'.objs.size ≠ c' := Nat.ne_of_gt lt
      have y2 : h'.objs.size ≠ P := Nat.ne_of_gt (Nat.lt_of_lt_of_le lP sz)
      rw [upd_ne y1, upd_ne y2]
      exact I.hok.fresh sz
/-- the lambda at f, as long as what nobody tracks stays -/
def LamAt (X : Cx) (H : Hp) (s : Shared) (params : Arguments) (body : Expr) (scope : Scope) (bs : List Str) (f c' : Addr) : Prop :=
  ∃ dV doc pm ctv, s.heap.get? f = some (kdv_obj "<lambda>" (lq X) params (.expr body) scope (lcl X scope) dV doc pm c' ctv) ∧
    ∀ s1 : Shared, (∀ b o, s.heap.get? b = some o → H b = none → b ∉ frs X.stack → s1.heap.get? b = some o) →
      ∃ binds : List (Str × Value), (∀ y ∈ binds, y.1 ∈ bs) ∧ BindsTo s1 (kdv_fn "<lambda>" (lq X) params (.expr body) scope (lcl X scope) dV doc pm (.ref c') ctv) ⟨[], []⟩ binds
/-- a lambda's making -/
structure PLam (X : Cx) (c P : Addr) (params : Arguments) (body : Expr) (scope : Scope) (pos : Pos) (bs : List Str) : Prop where
  run : ∀ (pins : List (Addr × Obj)) (σ : L2.St) (H : Hp) (s : Shared) (Q : Value → Shared → Prop), Inv X pins σ H s → TabS H P (lq X) →
    (∀ (f c' : Addr) (H1 : Hp) (s1 : Shared), Inv X pins σ H1 s1 → LamH H H1 P (lq X) → LamAt X H1 s1 params body scope bs f c' → H1 f = none → f ∉ frs X.stack → H1 c' = some (CodeO c' (lq X)) → Q (.ref f) s1) →
    wpAny (model X.prog X.w) X.A (eval (.Lambda params body scope pos) X.env) Q X.xe s
theorem plam0 (tb : TabB X.base X.mg c P) (hcode : X.env.code = .ref c) (L : LamO X.N X.env.scope scope []) (hd : defaultsOf params X.env = ([], []))
    (hb : ∀ (q : Str) (cl : List (Str × Addr)) (doc pm cv ctv : Value), bindArgs (kdv_fn "<lambda>" q params (.expr body) scope cl .none doc pm cv ctv) ⟨[], []⟩ = pure []) : PLam X c P params body scope pos [] := by
  refine ⟨fun pins σ H s Q I ht h => kla_eval hd ?_⟩
  rw [makeFunction_eq]
  simp only [List.zip_nil_right, List.filterMap_nil, List.isEmpty_nil, if_true, pure_bind]
  exact made I tb hcode ht (L.has I.ok) fun f c' doc pm ctv H1 s1 I1 lh _ _ g hf hfr hc => h f c' H1 s1 I1 lh ⟨_, doc, pm, ctv, g, fun s2 _ => ⟨[], fun y z => (nomatch z), .of_eq (hb _ _ _ _ _ _)⟩⟩ hf hfr hc
theorem plam1 {x : Str} {k : Int} {j : Nat} {p0 : Pos} (tb : TabB X.base X.mg c P) (hcode : X.env.code = .ref c) (L : LamO X.N X.env.scope scope [x]) (hd : params.defaults = [.Constant (.int k) j p0]) (hk : params.kw_defaults = [])
    (hb : ∀ (T : Addr) (q : Str) (cl : List (Str × Addr)) (doc pm cv ctv u : Value), ∃ kk, bindArgs (kdv_fn "<lambda>" q params (.expr body) scope cl (.ref T) doc pm cv ctv) ⟨[], []⟩ = seqItems? (.ref T) >>= kk ∧ kk (some [u].toArray) = pure [(x, u)]) : PLam X c P params body scope pos [x] := by
  refine ⟨fun pins σ H s Q I ht h => kdv_lam (by rw [hd]; rfl) hk ?_⟩
  rw [hd]
  refine kdv_all1 (thn ((pe_int (X := X) (i := k) (pos := p0)).run pins s σ H (fun _ H1 => H1 = H) I rfl) fun u s1 ⟨v, H1, I1, _, e⟩ => kdv_all0 ?_)
  subst e
  rw [makeFunction_eq]
  simp only [List.zip_nil_right, List.filterMap_nil, List.isEmpty_nil, if_true, pure_bind, List.isEmpty_cons, Bool.false_eq_true, if_false]
  refine wpAny_bind (wpAny_newTextTuple ?_)
  have far : s1.heap.objs.size ∉ frs X.stack := fun z => (List.mem_cons.mp (I1.stkSub _ z)).elim (fun e => by
    have l := I1.lt
    rw [← e] at l
    exact absurd l (Nat.lt_irrefl _)) (I1.nofs (Nat.le_refl _))
  have I2 : Inv X pins σ H1 { s1 with heap := s1.heap.push (kdv_tup [u]) } := I1.kept (t' := s1.toks) fun b o e => Heap.get?_push_of_some _ e
  have T2 : (s1.heap.push (kdv_tup [u])).get? s1.heap.objs.size = some (kdv_tup [u]) := Heap.get?_push_size _ rfl
  have fT : H1 s1.heap.objs.size = none := I1.hok.fresh (Nat.le_refl _)
  refine made I2 tb hcode ht (L.has I2.ok) fun f c' doc pm ctv H3 s3 I3 lh nn kp g hf hfr hc => h f c' H3 s3 I3 lh ⟨_, doc, pm, ctv, g, fun s4 st => ⟨[(x, u)], fun y z => ?_, ?_⟩⟩ hf hfr hc
  · cases List.mem_singleton.mp z
    exact List.mem_singleton_self _
  · obtain ⟨ps, gP, _⟩ := ht
    obtain ⟨kk, h1, h2⟩ := hb s1.heap.objs.size (lq X) (lcl X scope) doc pm (.ref c') ctv u
    have nP : s1.heap.objs.size ≠ P := fun z => by
      rw [z, gP] at fT
      cases fT
    exact BindsTo.of_defaults (T := s1.heap.objs.size) rfl (st _ _ (kp _ _ nP T2) (nn _ fT (by rw [Heap.size_push]; exact Nat.lt_succ_self _)) far) rfl h1 h2
/-- the body's context, entered -/
theorem lam_in {A : Around} {outer : List Env} {E : XK} {h1 : Heap} {tk : Nat} {binds : List (Str × Value)} (I : Inv X pins σ H s) (L : LamO X.N X.env.scope scope bs) (e0 : Env0 X.prog X.w X.K X.mg X.base A outer s1 HZ) (hd : A.handled = none)
    (un : Un (frs X.stack) [] H HZ s.heap s1.heap) (hns : h1.Ns s1.heap.objs.size fun y => binds.reverse.lookup y) (kp : ∀ b o, s1.heap.get? b = some o → h1.get? b = some o) :
    Inv (lamCx X A outer s1 HZ E scope f c') [] σ HZ { s1 with heap := h1, toks := tk } := by
  have hfree := L.has I.ok
  have sub : ∀ {y u}, (lcl X scope).lookup y = some u → X.env.cells.lookup y = some u := fun {y u} e => by
    rcases cloFrom_mem (PySem.mem_of_lookup e) with z | ⟨z1, z2⟩
    · cases z
    · obtain ⟨u1, q⟩ := hfree _ z1 rfl
      have q : X.env.cells.lookup y = some u1 := q
      have : u = u1 := by
        rw [z2, q] <;> rfl
      rw [this]
      exact q
  have has : ∀ {y}, scope.names.lookup y = some .free → ∃ u, (lcl X scope).lookup y = some u := fun {y} e => by
    have m : (y, NameKind.free) ∈ scope.names := PySem.mem_of_lookup e
    exact mem_lookup (cloFrom_has (cells := X.env.cells) (acc := []) m)
  have cells : ∀ {u : Addr} {v : Option Value}, H u = none → s.heap.IsCell u v → h1.IsCell u v := fun {u v} n ⟨o, ho, hd⟩ => by
    obtain ⟨sl, q⟩ := un.any ho n (fun z => nomatch z)
    exact ⟨_, kp _ _ q, hd⟩
  have noX : ∀ {b : Addr}, b ∉ (lamCx X A outer s1 HZ E scope f c').ex := fun {b} z => nomatch (show b ∈ ([] : List Addr) from z)
  have ok : (lamCx X A outer s1 HZ E scope f c').Ok := by
    refine ⟨e0.mod, L.kind, rfl, rfl, Nat.le_refl _, fun y z u e1 e2 => I.ok.inj y z u (sub e1) (sub e2), fun y hy => ?_, fun y u z _ => (nomatch (show false = true from z)), fun _ => hd, Around.frames_deeper e0.frames, .inr ⟨rfl, rfl⟩, fun b z => (noX z).elim, e0.bs, e0.bsz, fun b _ _ => noX, fun b z => (noX z).elim, e0.funs, e0.frf⟩
    rcases (show scope.names.lookup y = some .cell ∨ scope.names.lookup y = some .free from hy) with z | z
    · exact (L.cell _ (PySem.mem_of_lookup z) rfl).elim
    · exact has z
  refine ⟨ok, rfl, e0.bare, Un.kept kp, ⟨_, hns, fun i y v e1 e2 e3 => ?_⟩, fun y u e => ?_, e0.hok.fresh (Nat.le_refl _), fun y u e => ?_, fun q hq => (nomatch (show q ∈ ([] : List (Addr × Obj)) from hq)), e0.hok.kept kp, I.len⟩
  · rcases (show Vis scope y from e3) with z | z | z
    · exact (L.loc _ (PySem.mem_of_lookup z) rfl (List.mem_iff_getElem?.mpr ⟨i, e1⟩)).elim
    · exact (L.cell _ (PySem.mem_of_lookup z) rfl).elim
    · obtain ⟨m, hn, hl⟩ := I.loc
      have fr := L.free _ (PySem.mem_of_lookup z) rfl
      obtain ⟨w, r, q⟩ := hl i y v e1 e2 (fr.elim (fun k => .inr (.inl k)) fun k => .inr (.inr k))
      obtain ⟨u2, h2⟩ := has z
      refine ⟨w, r, .inr ⟨.inr z, u2, h2, ?_⟩⟩
      have g1 := sub h2
      rcases q with ⟨k, _⟩ | ⟨_, u3, g2, g3⟩
      · have k2 : X.env.scope.names.lookup y = some .local := k
        rcases fr with fr | fr <;> rw [show X.env.scope.names.lookup y = _ from fr] at k2 <;> cases k2
      · rw [g1] at g2
        cases g2
        exact cells (I.freeC y _ g1) g3
  · obtain ⟨w, z⟩ := I.cell y u (sub e)
    exact ⟨w, cells (I.freeC y u (sub e)) z⟩
  · obtain ⟨v, o, ho, _⟩ := I.cell y u (sub e)
    exact un.free u o ho (I.freeC y u (sub e)) (fun z => nomatch z)
/-- the lambda called, from wherever -/
theorem act_run {A : Around} {outer : List Env} {Q : VK} {E : XK} {k : Nat} {tb : TE} (I : Inv X pins σ H s) (L : LamO X.N X.env.scope scope bs) (la : LamAt X H s params body scope bs f c') (hf : H f = none) (hfr : f ∉ frs X.stack) (hr : Room (k + 1) A) (e0 : Env0 X.prog X.w X.K X.mg X.base A outer s1 HZ)
    (un : Un (frs X.stack) [] H HZ s.heap s1.heap) (hco : HZ c' = some (CodeO c' (lq X))) (hb : Room k (A.deeper (lamEnv X scope s1.heap.objs.size f c')) → PE (lamCx X A outer s1 HZ E scope f c') body tb) (h : tb σ HZ Q) :
    codeAny (model X.prog X.w) A (.call (.ref f) ⟨[], []⟩) (CR (L2.CX X.prog X.w) outer X.prog X.w HZ s1 Q E) s1 := by
  obtain ⟨dV, doc, pm, ctv, g, bd⟩ := la
  have g1 := un.keep f _ g hf hfr (fun z => nomatch z)
  obtain ⟨binds, hin, hbd⟩ := bd s1 fun b o e n hb => un.keep b o e n hb (fun z => nomatch z)
  obtain ⟨⟨oc, us, t, k1, k2, k3⟩, _, _⟩ := e0.hok c' _ hco
  refine kla_callFunE hr.depth g1 rfl L.co L.gen rfl ⟨c', oc, us, t, rfl, k1, k2, k3⟩ (hbd _ _ _ _ ?_)
  refine wpAny_newFunctionEnv (fun y hy => L.cell y hy) (fun y hy => L.bs _ (hin y hy)) (fun h1 hns hsb => ⟨?_, ?_⟩) L.kind
  · exact (e0.mod.nolimit.keeps fun b o e => (e0.bs b o e).1).fresh _ hsb
  · have kp : ∀ b o, s1.heap.get? b = some o → h1.get? b = some o := fun b o e => hsb.extBut b o (Nat.ne_of_lt (Heap.lt_size e)) (Heap.get?_push_of_some _ e)
    have J : Inv (lamCx X A outer s1 HZ E scope f c') [] σ HZ { s1 with heap := h1, toks := s1.toks + binds.length } := lam_in I L e0 hr.hd un hns kp
    refine kla_codeExpr (wpAny_mono ((hb (hr.deeper _)).run [] _ σ HZ Q J h) (fun v s2 hq => ?_) fun _ _ hq => hq)
    obtain ⟨w, H2, J2, r, q⟩ := hq
    exact ⟨w, H2, J2.os, J2.bare, J2.base, J2.hok, r, q⟩
end
end Act

namespace DL
open PySem PySem.Spec PyProof.Rows L2 Evl Act
variable [TabC]
/-! ### over data -/
/-- what a lambda is for who got it: the store at its call, what it gives, what it raises -/
abbrev ActD := Gm → KD → XD → Prop
def dAct (f : Addr) (act : ActD) : XD → DE := fun RX ρ G R => ρ[0]? = some (some (.ref f)) ∧ ∃ RK RXK, act G RK RXK ∧ (∀ d G', RK d G' → R d G') ∧ ∀ C ns xs G', RXK C ns xs G' → RX C ns xs G'
abbrev cxK (P : Program) (w : World) (K : PySem.W.Frag) (mg : Str → Option Value) (base : Heap) (N : List Str) (x : Str) (st : Stmt) (cdv : Value) (A : Around) (outer : List Env) (s : Shared) (H : Hp) (E : XK) : Cx := cxOf (L2.CX P w) P w K mg base N x (defScope st) (He.ga K x) cdv A outer s H E
/-- a def that gets a lambda, by what it makes of it -/
structure KnL (P : Program) (w : World) (K : PySem.W.Frag) (mg : Str → Option Value) (base : Heap) (k : Nat) (x a : Str) (st : Stmt) (N : List Str) (TT : ActD → Gm → KD → Prop) : Prop where
  g : mg x = some (.ref (He.ga K x))
  f : ∃ fd, FunD K x x (defArgs st) (defBody st) (defScope st) [] [] (He.ga K x) fd
  S : FnScope N [a] (defScope st)
  a0 : N[0]? = some a
  vis : Vis (defScope st) a
  body : ∀ (cdv : Value) (A : Around) (outer : List Env) (s : Shared) (H : Hp) (E : XK) (B : Bs) (f : Addr) (act : ActD), Room k (A.deeper (envOfC x (defScope st) s.heap.objs.size (He.ga K x) cdv)) → (A.deeper (envOfC x (defScope st) s.heap.objs.size (He.ga K x) cdv)).guards = some [] →
    (∀ (W : WX) (pins : List (Addr × Obj)) (xe : Value → Shared → Prop) (p1 p2 : Pos), Takes ((cxK P w K mg base N x st cdv A outer s H E).tr pins xe) W → PE ((cxK P w K mg base N x st cdv A outer s H E).tr pins xe) (.Call (.Name a p1) [] [] p2) (upEX K B (dAct f act) W)) →
    ∃ t : DS, PSs (cxK P w K mg base N x st cdv A outer s H E) (defBody st) (upS K B t) ∧ ∀ G R, TT act G R → t { nx := fun _ G => R .non G, rt := R } (some (.ref f) :: List.replicate (N.length - 1) none) G
/-- what is written in the heap as code, besides -/
def exts (Hd H : Hp) : Hp := fun a => match Hd a with
  | some o => some o
  | none => match H a with
    | some (.ext φ) => some (.ext φ)
    | _ => none
theorem ex_exts {Hd H : Hp} : Ex Hd (exts Hd H) := fun a o e => by
  unfold exts
  rw [e]
theorem exts_in {Hd H : Hp} {a : Addr} {φ : Heap → Prop} (hs : Ex Hd H) (h : H a = some (.ext φ)) : exts Hd H a = some (.ext φ) := by
  unfold exts
  cases e : Hd a with
  | some o =>
    have := hs a o e
    rw [h] at this
    exact this.symm
  | none =>
    dsimp only
    rw [h]
theorem exts_sub {Hd H : Hp} (hs : Ex Hd H) : Ex (exts Hd H) H := fun a o e => by
  unfold exts at e
  cases q : Hd a with
  | some u =>
    rw [q] at e
    cases e
    exact hs a _ q
  | none =>
    rw [q] at e
    dsimp only at e
    split at e
    · rename_i φ z
      cases e
      exact z
    · cases e
theorem exts_off {K : PySem.W.Frag} {Hd H : Hp} {a : Addr} {m : Mt} (h : Hd a = none) (hm : HoldM K Hd H a m) : exts Hd H a = none := by
  unfold exts
  rw [h]
  dsimp only
  cases m with
  | lst ds =>
    obtain ⟨_, e, _⟩ := hm
    rw [e]
  | ins C ns ds =>
    obtain ⟨_, _, e, _⟩ := hm
    rw [e]
  | gau T =>
    obtain ⟨_, _, _, _, e, _⟩ := hm
    rw [e]
  | tab q =>
    obtain ⟨_, e, _⟩ := hm
    rw [e]
theorem HoldM.at {K : PySem.W.Frag} {Hd H H1 : Hp} {a : Addr} (e : ∀ o, H a = some o → H1 a = some o) : ∀ {m : Mt}, HoldM K Hd H a m → HoldM K Hd H1 a m
  | .lst _, ⟨xs, h, r⟩ => ⟨xs, e _ h, r⟩
  | .ins _ _ _, ⟨dx, xs, h, z⟩ => ⟨dx, xs, e _ h, z⟩
  | .gau _, ⟨l, t, r, cs, h, z⟩ => ⟨l, t, r, cs, e _ h, z⟩
  | .tab _, ⟨ps, h, z⟩ => ⟨ps, e _ h, z⟩
/-- a table has grown -/
theorem Sim.table {K : PySem.W.Frag} {F : Gm} {Hd H H1 : Hp} {G : Gm} {P : Addr} {q : Str} (S : Sim K F Hd H G) (hP : (P, q) ∈ tabT K) (lh : LamH H H1 P q) : Sim K F (exts Hd H1) H1 G := by
  have fP := S.tabs (P, q) hP
  have dP := S.offF P _ fP
  have gP := S.apart P _ fP
  have sub : Ex Hd H1 := fun a o e => lh.keep a o (fun z => by rw [z, dP] at e; cases e) (S.sub a o e)
  have hold : ∀ a m, G a = some m → HoldM K Hd H1 a m := fun a m e => (S.hold a m e).at fun o h => lh.keep a o (fun z => by rw [z, gP] at e; cases e) h
  refine ⟨exts_sub sub, fun a m e => exts_off (S.off a m e) (hold a m e), fun a m e => (hold a m e).mono ex_exts, fun a m e => ?_, fun a m e => ?_, S.apart, S.tabs⟩
  · by_cases z : a = P
    · obtain ⟨ps, h1, _⟩ := lh.tab
      unfold exts
      rw [z, dP]
      dsimp only
      rw [h1]
    · exact exts_off (S.offF a m e) ((S.holdF a m e).at fun o h => lh.keep a o z h)
  · by_cases z : a = P
    · rw [z, fP] at e
      cases e
      obtain ⟨ps, h1, h2, h3⟩ := lh.tab
      rw [z]
      refine ⟨ps, h1, h2, fun p v hv => ?_⟩
      obtain ⟨c, e1, e2⟩ := h3 p v hv
      exact ⟨c, e1, exts_in sub e2⟩
    · exact ((S.holdF a m e).at fun o h => lh.keep a o z h).mono ex_exts
/-- x(lambda: e) -/
def dLam (TT : ActD → Gm → KD → Prop) (dE : XD → DE) : DE := fun ρ G R => TT (fun G' R' RX' => dE RX' ρ G' R') G R
section
variable {X : Cx} {B : Bs} {p lpos pos : Pos} {x a : Str} {st : Stmt} {N bs : List Str} {TT : ActD → Gm → KD → Prop} {params : Arguments} {body : Expr} {scope : Scope} {c P : Addr} {dE : XD → DE} {k kl n : Nat}
theorem pd_lam (h : KnL X.prog X.w X.K X.mg X.base k x a st N TT) (hr : Room (n + 1) X.A) (h1 : k ≤ n) (h2 : kl + 1 ≤ n) (hgd : X.A.guards = some []) (hg : Gl X x)
    (hbi : ∀ (kV doc pm : Value) (an : Option Addr) (cdv ct : Value) (us : List Value), us.length = [a].length → bindArgs (PySem.W.fnOf x x (defArgs st) (defBody st) (defScope st) .none kV doc pm an cdv ct) ⟨us, []⟩ = pure ([a].zip us))
    (pl : PLam X c P params body scope lpos bs) (L : LamO X.N X.env.scope scope bs) (hP : (P, lq X) ∈ tabT X.K)
    (hb : ∀ (A : Around) (outer : List Env) (s : Shared) (H : Hp) (E : XK) (f c' : Addr) (Bz : Hp) (RX : XD), Room kl (LamX.lamCx X A outer s H E scope f c').A → (LamX.lamCx X A outer s H E scope f c').A.guards = some [] → KX X.K B.f Bz RX E → PE (LamX.lamCx X A outer s H E scope f c') body (upE X.K ⟨Bz, B.f⟩ (dE RX)))
    (hdb : (x == ("__debug__" : Str)) = false := by decide) (hda : (a == ("__debug__" : Str)) = false := by decide) (hca : (a == ("__classdict__" : Str)) = false := by decide) :
    PE X (.Call (.Name x p) [.Lambda params body scope lpos] [] pos) (upE X.K B (dLam TT dE)) := by
  refine ⟨fun pins s σ H Q I ⟨ρ, Hd, G, R, at_, hw, k0⟩ => ?_⟩
  obtain ⟨fd, FD⟩ := h.f
  have sm := at_.s
  have tabS : LamX.TabS H P (lq X) := by
    obtain ⟨ps, q1, q2, q3⟩ := (show TabD Hd H P (lq X) from sm.holdF P (.tab (lq X)) (sm.tabs (P, lq X) hP))
    exact ⟨ps, q1, q2, fun p cv z => let ⟨u, e1, e2⟩ := q3 p cv z; ⟨u, e1, sm.sub _ _ e2⟩⟩
  refine wpAny_Call_Name_kw (ld_glob I hg h.g (PySem.W.callWith_K (h₀ := X.base) I.ok.mod.kin FD.kp ?_ (by rfl) (by rfl)) hdb)
  show wpAny _ _ (spliced ((false, eval (.Lambda params body scope lpos) X.env) :: backTo pos (starEach [] X.env))) _ _ s
  refine Calls.spliced_cons (pl.run pins σ H s _ I tabS fun f c' H1 s1 I1 lh la hf hfr hco => Calls.spliced_nil ⟨I1.kIn, ?_⟩)
  have S1 := sm.table hP lh
  have e1 : Ex Hd (exts Hd H1) := ex_exts
  have bnd := FD.bindsN (ps := [a]) hbi s1 [.ref f] I1.kIn rfl
  obtain ⟨oc, od, dV, kV, doc, pm, an, cdv, ct, osl, rfl, lk, hcd, _, _⟩ := FD.ex
  have run : codeAny (model X.prog X.w) X.A (.call (.ref (He.ga X.K x)) ⟨[.ref f], []⟩) (CR (L2.CX X.prog X.w) X.stack X.prog X.w H1 s1 Q fun _ _ _ => False) s1 := by
    refine LamX.run_ofS (N := N) (ps := [a]) (us := [.ref f]) (vs := [.ref f]) (k := n) lk hcd h.S hr I1.env0 bnd (.cons rfl .nil) rfl fun hr' => ?_
    have acts : ∀ (W : WX) (pz : List (Addr × Obj)) (xe : Value → Shared → Prop) (p1 p2 : Pos), Takes ((cxK X.prog X.w X.K X.mg X.base N x st cdv X.A X.stack s1 H1 fun _ _ _ => False).tr pz xe) W → PE ((cxK X.prog X.w X.K X.mg X.base N x st cdv X.A X.stack s1 H1 fun _ _ _ => False).tr pz xe) (.Call (.Name a p1) [] [] p2) (upEX X.K ⟨exts Hd H1, B.f⟩ (dAct f fun G' R' RX' => dE RX' ρ G' R') W) := by
      intro W pz xe p1 p2 tk
      refine ⟨fun pinsZ sZ σZ HZ QZ IZ ⟨ρZ, HdZ, GZ, RZ, RXZ, atZ, ⟨h0, RK, RXK, hact, m1, m2⟩, kZ, kxZ⟩ => ?_⟩
      have hs : σZ[0]? = some (some (.ref f)) := by
        obtain ⟨v, e, r⟩ := atZ.e.2 0 _ h0
        cases r
        exact e
      refine wpAny_Call_Name_kw (thn ((pe_var (pos := p1) (i := 0) h.a0 h.vis hda hca).run pinsZ sZ σZ HZ (fun v H2 => v = .ref f ∧ H2 = HZ) IZ ⟨.ref f, hs, rfl, rfl⟩) fun u s2 ⟨v, H2, I2, r2, ev, eH⟩ => ?_)
      subst ev eH
      cases (show u = Value.ref f from r2)
      have un : Un (frs X.stack) [] H1 H2 s1.heap s2.heap := I2.base
      obtain ⟨dV2, doc2, pm2, ctv2, g, bd⟩ := la
      have g2 := un.keep f _ g hf hfr (fun z => nomatch z)
      refine PySem.W.callWith_F0 ⟨_, _, _, _, g2⟩ ?_
      have co2 : H2 c' = some (LamX.CodeO c' (lq X)) := atZ.s.sub _ _ (atZ.b _ _ (exts_in (Ex.trans ex_exts S1.sub) hco))
      have rc : codeAny (model X.prog X.w) (X.A.deeper (envOfC x (defScope st) s1.heap.objs.size (He.ga X.K x) cdv)) (.call (.ref f) ⟨[], []⟩) (CR (L2.CX X.prog X.w) (envOfC x (defScope st) s1.heap.objs.size (He.ga X.K x) cdv :: X.stack) X.prog X.w H2 s2 QZ fun cls dd H' => W cls dd σZ H') s2 :=
        act_run (X := X) (σ := σ) (tb := upE X.K ⟨HdZ, B.f⟩ (dE RXK)) (k := kl) I1 L ⟨dV2, doc2, pm2, ctv2, g, bd⟩ hf hfr (hr'.mono h2) I2.env0 un co2 (fun hrL => hb _ _ _ _ _ _ _ HdZ RXK hrL (guards_in (guards_in hgd)) fun C d H' Hd' ns vs xs G' q1 q2 q3 q4 q5 q6 => kxZ C d H' Hd' ns vs xs G' q1 q2 q3 q4 q5 (m2 _ _ _ _ q6)) ⟨ρ, HdZ, GZ, RK, ⟨Ex.refl _, at_.e.mono (e1.trans atZ.b), atZ.s⟩, hact, fun v H' Hd' y G' q1 q2 q3 q4 => kZ v H' Hd' y G' q1 q2 q3 (m1 _ _ q4)⟩
      refine wpAny_call (codeAny_mono rc fun r s3 hq => ?_)
      cases r with
      | error e => exact tk e s3 (XE.of_call I2 (fun _ _ _ h => h) hq)
      | ok fl =>
        cases fl with
        | ret u => exact I2.after hq
        | next => exact hq.elim
        | brk => exact hq.elim
        | cont => exact hq.elim
    obtain ⟨t, ht, htt⟩ := h.body cdv X.A X.stack s1 H1 (fun _ _ _ => False) ⟨exts Hd H1, B.f⟩ f (fun G' R' RX' => dE RX' ρ G' R') (hr'.mono h1) (guards_in hgd) acts
    refine ⟨_, ht, _, exts Hd H1, G, _, ⟨Ex.refl _, RpE.start (vs := [.ref f]) (ds := [.ref f]) (.cons (.ref f) .nil), S1⟩, htt G R hw, ?_⟩
    have k1 := k0.mono e1
    exact ⟨fun σ' H' Hd' ρ' G' e _ s h => k1 .non H' Hd' .non G' e s .non h, k1, fun _ _ _ _ _ _ _ _ h => h.elim, fun _ _ _ _ _ _ _ _ h => h.elim⟩
  refine wpAny_call (codeAny_mono run fun r s2 hq => ?_)
  cases r with
  | error e =>
    obtain ⟨_, _, _, _, _, _, _, _, _, _, _, _, z⟩ := hq
    exact z.elim
  | ok fl =>
    cases fl with
    | ret u => exact I1.after hq
    | next => exact hq.elim
    | brk => exact hq.elim
    | cont => exact hq.elim
end
end DL

/-! DL32: the head's hook with own errors and code tables. -/
namespace DL
open PySem PySem.Spec PyProof.Rows L2 Evl Sup
variable [TabC]
/-- the __init__ that a class's body writes -/
def clsBody : Stmt → List Stmt
  | .ClassDef _ _ _ b _ _ _ _ _ _ _ => b
  | _ => []
def isInit : Stmt → Bool
  | .FunctionDef n _ _ _ _ _ _ _ _ _ => n == ("__init__" : Str)
  | _ => false
def initOf (st : Stmt) : Stmt := ((clsBody st).find? isInit).getD (.Pass ⟨0, 0, 0, 0⟩)
def defC (C : Str) (st : Stmt) : DefC := ⟨C, C ++ ".__init__", defArgs (initOf st), defBody (initOf st), defScope (initOf st)⟩
/-! ### the hook -/
abbrev AlE : Type := (He.AlT × Bool) × List FnC
/-- what is asked at all: the tables' defs tf, the Bool ex, the own errors cs -/
structure Ask where
  n : Nat
  fa : List He.Fa
  fn : List He.DefD
  tf : List Str
  ex : PySem.W.Frag → Bool
  cs : List DefC
  /-- the module's dicts of texts -/
  ts : List He.Tab := []
def Ask.tfn (q : Ask) : List He.Defn := q.tf.map fun x => (x, none)
/-- what is looked at: from the globals on, the statics beside -/
def eyes (n : Nat) (g : Addr → Option Obj) : PySem.W.Frag := He.frT g (cStatics :: He.asD g n)
def obsE (q : Ask) (g : Addr → Option Obj) : AlE := ((He.obsT q.fa q.fn q.ts (eyes q.n g), q.ex (eyes q.n g) && He.tabsB g q.tfn (eyes q.n g)), q.cs.map fun d => fnC (eyes q.n g) d.cls)
def valE (q : Ask) (w : World) : AlE := ((He.valT q.fn q.ts w, true), q.cs.map DefC.val)
structure SaysE (q : Ask) (w : World) (h : Heap) (K : PySem.W.Frag) : Prop where
  x : He.SaysX q.fa q.fn q.ts q.tfn q.ex w h K
  c : (q.cs.map fun d => fnC K d.cls) = q.cs.map DefC.val
theorem saysE_of {q : Ask} {w : World} {h : Heap} (e : obsE q h.get? = valE q w) : SaysE q w h (eyes q.n h.get?) := by
  have e1 : He.obsT q.fa q.fn q.ts (eyes q.n h.get?) = He.valT q.fn q.ts w := congrArg (fun z : AlE => z.1.1) e
  have e2 : (q.ex (eyes q.n h.get?) && He.tabsB h.get? q.tfn (eyes q.n h.get?)) = true := congrArg (fun z : AlE => z.1.2) e
  have e3 := congrArg (fun z : AlE => z.2) e
  obtain ⟨b1, b2⟩ := He.ba e2
  have tab : ∀ p ∈ q.tfn, PySem.W.codeHdIn (eyes q.n h.get?) (He.cT (eyes q.n h.get?) p).1 (He.cT (eyes q.n h.get?) p).2 = true ∧ ∃ o, h.get? (He.cT (eyes q.n h.get?) p).2 = some o ∧ He.emptyTab o = true := by
    intro p hp
    obtain ⟨c1, c2⟩ := He.ba (List.all_eq_true.mp b2 p hp)
    refine ⟨c1, ?_⟩
    cases z : h.get? (He.cT (eyes q.n h.get?) p).2 with
    | some o =>
      rw [z] at c2
      exact ⟨o, rfl, c2⟩
    | none =>
      rw [z] at c2
      cases c2
  refine ⟨⟨e1, b1, fun p hp => (tab p hp).1, fun p hp => ?_, fun p hp => ?_⟩, e3⟩
  · obtain ⟨_, o, c1, c2⟩ := tab p hp
    exact He.frT_none c1 c2
  · obtain ⟨_, o, c1, c2⟩ := tab p hp
    rw [c1, He.emptyTab_eq c2]
theorem SaysE.d {q : Ask} {w : World} {h : Heap} {K : PySem.W.Frag} (c : SaysE q w h K) : He.SaysD q.fa q.fn K := congrArg (fun z : He.AlT => z.1) c.x.t
theorem SaysE.dic {q : Ask} {w : World} {h : Heap} {K : PySem.W.Frag} (c : SaysE q w h K) (i : Nat) {t : He.Tab} (ht : q.ts[i]? = some t) : He.dicW K (t.1 K) = some (He.keysIn w.params t.2) := by
  have e : q.ts.map (fun t => He.dicW K (t.1 K)) = q.ts.map fun t => some (He.keysIn w.params t.2) := congrArg (fun z : He.AlT => z.2) c.x.t
  have e2 : (q.ts.map fun t => He.dicW K (t.1 K))[i]? = (q.ts.map fun t => some (He.keysIn w.params t.2))[i]? := by rw [e]
  rw [List.getElem?_map, List.getElem?_map, ht] at e2
  exact Option.some.inj e2
theorem SaysE.cls {q : Ask} {w : World} {h : Heap} {K : PySem.W.Frag} (c : SaysE q w h K) (i : Nat) {d : DefC} (hd : q.cs[i]? = some d) : fnC K d.cls = d.val := by
  have e := congrArg (fun l : List FnC => l[i]?) c.c
  rw [List.getElem?_map, List.getElem?_map, hd] at e
  exact Option.some.inj e
def hookE (q : Ask) : PySem.W.Hook where
  α := AlE
  obs := fun s => obsE q s.heap.get?
  val := fun w => valE q w
  says := fun w h => ∃ K : PySem.W.Frag, K.In h ∧ SaysE q w h K
  of := fun w s e => ⟨_, He.frT_in, saysE_of e⟩
  keeps := fun _ _ _ ⟨K, hK, c⟩ k => ⟨K, PySem.W.Frag.In.keeps hK k, ⟨c.x.t, c.x.more, c.x.hd, c.x.out, fun p hp => k _ _ (c.x.empty p hp)⟩, c.c⟩
theorem obsE_eq {q : Ask} {g : Addr → Option Obj} {s : Shared} (h : ∀ a, g a = s.heap.get? a) : obsE q g = (hookE q).obs s := by
  have e : g = s.heap.get? := funext h
  rw [e] <;> rfl
/-- each table is one def's alone -/
def tabOkB (K : PySem.W.Frag) : Bool := (tabT K).all fun p => (tabT K).all fun r => p.1 != r.1 || p.2 == r.2
theorem tabOkB_ok {K : PySem.W.Frag} (h : tabOkB K = true) : TabOk K := fun p hp r hr e => by
  have z := List.all_eq_true.mp (List.all_eq_true.mp h p hp) r hr
  rw [e] at z
  simpa using z
theorem SaysE.tabF {q : Ask} {w : World} {h : Heap} {K : PySem.W.Frag} (c : SaysE q w h K) (X : K.In h) (e : TabC.tf = q.tf) (b : tabOkB K = true) : TabF K h := by
  have mem : ∀ n ∈ TabC.tf, ((n, none) : He.Defn) ∈ q.tfn := fun n hn => by
    rw [e] at hn
    exact List.mem_map_of_mem hn
  exact ⟨tabOkB_ok b, fun n hn => c.x.empty _ (mem n hn), fun n hn => c.x.out _ (mem n hn), fun n hn => PySem.W.codeHd_of_K X (c.x.hd _ (mem n hn))⟩
/-- the code object of a def that makes lambdas -/
theorem code_of {K : PySem.W.Frag} {x qual : Str} {params : Arguments} {body : List Stmt} {scope : Scope} {dvs : List V} {kws : List (Str × V)} {fd : FuncData} {oc : Value} {od : Option Addr} {dV kV doc pm cdv ct : Value} {an : Option Addr} {osl : Array (Option Value)}
    (lk : K.lookup (He.ga K x) = some ⟨oc, od, .func (PySem.W.fnOf x qual params body scope dV kV doc pm an cdv ct), osl⟩) (hcd : PySem.W.codeIn K cdv qual = true) : cdv = .ref (He.cT K (x, none)).1 := by
  obtain ⟨c, rfl⟩ := He.codeIn_ref hcd
  exact congrArg Value.ref (He.codeOf_eq (p := (x, none)) lk rfl).symm
/-! ### {k: v} of ints -/
def dDct1 (k v : Int) : DE := fun _ G R => R (.dct [Sum.inl k] [.int v]) G
theorem pd_dct1 {X : Cx} {B : Bs} {k v : Int} {j1 j2 : Nat} {p1 p2 pos : Pos} : PE X (.Dict [some (.Constant (.int k) j1 p1)] [.Constant (.int v) j2 p2] pos) (upE X.K B (dDct1 k v)) :=
  pe_imp (pe_disp (trs := [(tC (.int k), tC (.int v))]) (pps_cons pe_int pe_int pps_nil) rfl rfl (by simp) (by show 1 ≤ 15; decide)) fun σ H Q ⟨ρ, Hd, G, R, at_, h, k0⟩ => fun pp hp => by
    refine ⟨upd_same, [(Sum.inl k, .int v)], rfl, by show 1 ≤ 15; decide, ?_⟩
    have e : upd (upd H pp (.dK [])) pp (.dK (mergeK [] [((Sum.inl k : Key), V.int v)])) = upd H pp (.dK (([Sum.inl k] : List Key).zip [V.int v])) := by
      funext b
      by_cases z : b = pp
      · rw [z, upd_same, upd_same]
        rfl
      · rw [upd_ne z, upd_ne z, upd_ne z]
    rw [e]
    exact k0 _ _ _ _ G (at_.s.exn hp) (at_.s.new hp) (.dct upd_same rfl (.cons (.int v) .nil)) h
end DL

/-! DL33: a list times an int; the package's checks, as they refuse. -/
namespace DL
open PySem PySem.Spec PyProof.Rows L2 Evl
variable [TabC]
theorem meet_lmul (l : Addr) (its : Array Value) (n : Nat) (dd : Option Addr) (sl : Array (Option Value)) (i : Int) (t : Tok) (c0 : ¬(!Builtin.List.listFitsIndex i) = true) (c1 : ¬its.size * i.toNat > (2 ^ 63 - 1) / 8) (c2 : ¬Builtin.List.listTooLong (its.size * i.toNat) = true) :
    Meets (Builtin.«list.__mul__» ⟨[.ref l, .int i t], []⟩) (fun _ R s => s.heap.get? l = some { cls := .type "list", dict := dd, data := .seq its n, slots := sl } ∧
      R (.ok (.ret (Value.ref s.heap.objs.size))) { s with heap := s.heap.push { cls := Value.type "list", data := Data.seq (List.foldl (fun x1 x2 => x1 ++ x2) #[] (List.replicate (if its.isEmpty = true then 0 else i.toNat) its)) }, toks := s.toks }) :=
  .of_wp fun prog w A R s h => by
    obtain ⟨hp, g, d, tk, os⟩ := s
    obtain ⟨hl, h⟩ := h
    have fits := AutoListH.joined_fits c2
    wp_walk
    refine wpAny_ite_false (decide_eq_false (Nat.not_lt.mpr fits)) ?_
    wp_walk
    exact ⟨_, rfl, h⟩
theorem meet_rmul (i : Int) (t : Tok) (l : Addr) (its : Array Value) (n : Nat) (dd : Option Addr) (sl : Array (Option Value)) :
    Meets (Builtin.«int.__rmul__» ⟨[.int i t, .ref l], []⟩) (fun _ R s => s.heap.get? l = some { cls := .type "list", dict := dd, data := .seq its n, slots := sl } ∧ R (.ok (.ret Value.notImplemented)) s) :=
  .of_wp fun prog w A R s h => by
    obtain ⟨hp, g, d, tk, os⟩ := s
    obtain ⟨hl, h⟩ := h
    wp_walk
    exact ⟨_, rfl, h⟩
def rMulL (K : PySem.W.Frag) : R2 := fun x y H Q => ∃ a xs i, x = V.ref a ∧ y = V.int i ∧ SqL K H a xs ∧ xs.length * i.toNat ≤ sizeLine ∧ -1000000000 ≤ i ∧ i ≤ 1000000000 ∧ ∀ p, H p = none → Q (.ref p) (upd H p (.lst (List.replicate i.toNat xs).flatten))
theorem vals_rep {xs : List V} {us : List Value} (r : Vals xs us) : ∀ n : Nat, Vals (List.replicate n xs).flatten (List.replicate n us).flatten
  | 0 => .nil
  | n + 1 => by
    rw [List.replicate_succ, List.replicate_succ, List.flatten_cons, List.flatten_cons]
    exact r.append (vals_rep r n)
theorem op_mulL {X : Cx} : OpR X (binaryOp .Mult) (rMulL X.K) := by
  intro pins s σ H x y v u Q I rx ry h
  obtain ⟨a, xs, i, ex, ey, hs, hz, b1, b2, q⟩ := h
  subst ex ey
  cases (show v = Value.ref a from rx)
  obtain ⟨t, rfl⟩ := (show ∃ t, u = Value.int i t from ry)
  obtain ⟨its, rv, ⟨⟨cls, dd, data, sl⟩, n, ho, hc, hdn, hd⟩, hlen⟩ := I.list hs
  cases (show cls = Value.type "list" from hc)
  cases (show data = Data.seq its.toArray n from hd)
  have hz2 : its.toArray.size * i.toNat ≤ 16777216 := by
    rw [List.size_toArray, ← rv.length]
    have := sizeLine_eq
    omega
  refine wpAny_binaryOp_repeat_ref (T := "list") (U := "int") (by decide) ⟨_, ho, rfl⟩ (fun s' => typeIs_int s' i t) noFill_list_mul F.fills_int_mul F.slot_int_rmul repeat_list F.slot_int_index.lookup ?_
  refine call_meets F.slot_int_rmul (typeIs_int s i t) F.entry_int_rmul (F.args_int_rmul_2 _ _) (meet_rmul i t a its.toArray n dd sl) ⟨ho, rfl, ⟨_, ho, rfl⟩, ?_⟩
  refine call_meets F.slot_list_mul ⟨_, ho, rfl⟩ F.entry_list_mul (F.args_list_mul_2 _ _) (meet_lmul a its.toArray n dd sl i t (by simp [Builtin.List.listFitsIndex]; omega) (by omega) (by simp only [Builtin.List.listTooLong, decide_eq_true_eq, sizeLine_eq]; omega)) ⟨ho, ?_⟩
  have e : List.foldl (fun x1 x2 => x1 ++ x2) #[] (List.replicate (if its.toArray.isEmpty = true then 0 else i.toNat) its.toArray) = (List.replicate i.toNat its).flatten.toArray := by
    rw [listMul_foldl_if]
  rw [e]
  refine ⟨.ref s.heap.objs.size, upd H s.heap.objs.size (.lst (List.replicate i.toNat xs).flatten), I.lnew (t' := s.toks) (vals_rep rv i.toNat) ?_, rfl, q _ I.fresh⟩
  rw [List.length_flatten, List.map_replicate, List.sum_replicate_nat, Nat.mul_comm]
  exact hz
/-- xs * i -/
def fMulL (x y z : D) : Prop := ∃ ds i, x = .lst ds ∧ y = .int i ∧ ds.length * i.toNat ≤ sizeLine ∧ -1000000000 ≤ i ∧ i ≤ 1000000000 ∧ z = .lst (List.replicate i.toNat ds).flatten
theorem RpL.rep {K : PySem.W.Frag} {H : Hp} {vs : List V} {ds : List D} (r : RpL K H vs ds) : ∀ n : Nat, RpL K H (List.replicate n vs).flatten (List.replicate n ds).flatten
  | 0 => .nil
  | n + 1 => by
    rw [List.replicate_succ, List.replicate_succ, List.flatten_cons, List.flatten_cons]
    exact r.app (RpL.rep r n)
theorem od_mulL {K : PySem.W.Frag} : OpD K (rMulL K) fMulL := fun F Hd H G v u x y z Q s rv ru ⟨ds, i, ex, ey, hz, b1, b2, ez⟩ k => by
  subst ex ey ez
  cases ru
  cases rv with
  | lst q r => exact ⟨_, _, i, rfl, rfl, ex_l s.sub q, by rw [r.length]; exact hz, b1, b2, fun p hp => k _ _ _ (s.exn hp) (s.new hp) (.lst sq_new ((r.rep i.toNat).mono (s.exn hp)))⟩
theorem pd_mulL {X : Cx} {B : Bs} {pos : Pos} {a b : Expr} {da db : DE} (ha : PE X a (upE X.K B da)) (hb : PE X b (upE X.K B db)) : PE X (.BinOp a .Mult b pos) (upE X.K B (dOp fMulL da db)) := pd_op op_mulL od_mulL ha hb
theorem rep_one {x : D} : ∀ n : Nat, (List.replicate n [x]).flatten = List.replicate n x
  | 0 => rfl
  | n + 1 => by
    rw [List.replicate_succ, List.replicate_succ, List.flatten_cons, rep_one n]
    rfl
theorem Ev.mulL {ρ : En} {G : Gm} {da db : DE} {x : D} {n : Nat} (ha : Ev da ρ G (.lst [x])) (hb : Ev db ρ G (.int n)) (hz : n ≤ 10000000) : Ev (dOp fMulL da db) ρ G (.lst (List.replicate n x)) :=
  .op ha hb ⟨[x], n, rfl, rfl, by rw [sizeLine_eq, Int.toNat_natCast]; show 1 * n ≤ _; omega, by omega, by omega, by rw [Int.toNat_natCast, rep_one]⟩
/-- + of lists that never change, into one that may -/
def dAddLM (da db : DE) : DE := fun ρ G R => da ρ G fun x G1 => db ρ G1 fun y G2 => ∃ xs ys, x = .lst xs ∧ y = .lst ys ∧ xs.length + ys.length ≤ sizeLine ∧ ∀ p, G2 p = none → R (.ref p) (gup G2 p (.lst (xs ++ ys)))
theorem pd_addLM {X : Cx} {B : Bs} {pos : Pos} {a b : Expr} {da db : DE} (ha : PE X a (upE X.K B da)) (hb : PE X b (upE X.K B db)) : PE X (.BinOp a .Add b pos) (upE X.K B (dAddLM da db)) :=
  pe_imp (pe_op op_catL ha hb) fun σ H Q ⟨ρ, Hd, G, R, at_, h, k⟩ => ⟨ρ, Hd, G, _, at_, h, fun v H1 Hd1 x G1 e1 s1 r1 h1 => ⟨ρ, Hd1, G1, _, at_.step e1 s1, h1, fun u H2 Hd2 y G2 e2 s2 r2 ⟨xs, ys, ex, ey, hz, h2⟩ => by
    subst ex ey
    have r1 := r1.mono e2
    cases r1 with
    | lst q r =>
      cases r2 with
      | lst q' r' => exact ⟨_, _, _, _, rfl, rfl, ex_l s2.sub q, ex_l s2.sub q', by rw [r.length, r'.length]; exact hz, fun p hp => k (.ref p) _ Hd2 (.ref p) _ (e1.trans e2) (s2.cell (m := .lst (xs ++ ys)) hp ⟨_, upd_same, r.app r'⟩) (.ref p) (h2 p (s2.gfree hp))⟩⟩⟩
end DL

/-! DL34: the package's checks of numbers, points, rows, as they refuse. -/
namespace DL
open PySem PySem.Spec PyProof.Rows L2 Evl
variable [TabC]
section
variable {ρ : En} {G : Gm} {da : DE} {dA : DA} {E : DEnds}
theorem ds_raise1 {C f : Str} {RX : XD} {x : D} (ha : Ev da ρ G x) (hf : fmtD x) (h : RX C [f] [x] G) : dRaise C [f] [true] RX (dCons da dNil) ⟨fun _ _ => False, fun _ _ => False, fun _ _ => False, fun _ _ => False⟩ ρ G :=
  EvA.one ha _ ⟨rfl, fun p hp _ => by cases List.mem_singleton.mp hp; exact hf, h⟩
theorem dx_call {q : DSp} {RX : XD} {dA : DA} {xs : List D} {R : KD} (ha : EvA dA ρ G xs) (h : q xs G R RX) : dCall q RX dA ρ G R := ha _ h
end
/-! ### need_number -/
def sp_needX : DSp := fun xs G R RX => ∃ x p a b l m, xs = [x, .str p, a, b] ∧ x.kn = true ∧ bndD a = some l ∧ bndD b = some m ∧ p.length ≤ 10000 ∧ (withinD x l m = true → R .non G) ∧ (withinD x l m = false → RX "BadNumber" ["part"] [.str p] G)
def needXR (RX : XD) : DS := (dIfS (dNot (dTst (dCall sp_is_within X0 (dCons (dVar 0) (dCons (dVar 2) (dCons (dVar 3) dNil)))))) (dRaise "BadNumber" ["part"] [true] RX (dCons (dVar 1) dNil)) dNext)
theorem needX_ok (xs : List D) (G : Gm) (R : KD) (RX : XD) (h : sp_needX xs G R RX) : needXR RX { nx := fun _ G => R .non G, rt := R } (xs.map some ++ List.replicate (4 - xs.length) none) G := by
  obtain ⟨x, p, a, b, l, m, rfl, hk, ha, hb, hp, hy, hn⟩ := h
  refine ds_if (EvT.not (.tst (.isWithin (.var rfl) (.var rfl) (.var rfl) hk ha hb))) ?_
  cases q : withinD x l m with
  | true => exact hy q
  | false => exact ds_raise1 (.var rfl) hp (hn q)
/-! ### points -/
def seqL : D → List D
  | .tup ds => ds
  | .lst ds => ds
  | _ => []
theorem seq_is {x : D} (h : isSeqD x = true) : x = .tup (seqL x) ∨ x = .lst (seqL x) := by
  cases x <;> first | exact .inl rfl | exact .inr rfl | cases h
theorem seqL_kn {x : D} (h : isSeqD x = true) (hk : x.kn = true) : D.knL (seqL x) = true := seq_kn (seq_is h) hk
theorem knL_all : ∀ {ds : List D}, D.knL ds = true → ∀ d ∈ ds, d.kn = true
  | [], _, _, h => by cases h
  | x :: xs, h, d, hd => by
    have h2 : (x.kn && D.knL xs) = true := h
    rw [Bool.and_eq_true] at h2
    rcases List.mem_cons.mp hd with e | e
    · rw [e]
      exact h2.1
    · exact knL_all h2.2 d e
theorem all_map (f : D → Bool) : ∀ ds : List D, (ds.map f).all id = ds.all f
  | [] => rfl
  | d :: ds => by
    rw [List.map_cons, List.all_cons, List.all_cons, all_map f ds]
    rfl
def ptOk (x : D) (w : Int) : Bool := isSeqD x && (decide (((seqL x).length : Int) = w) && (seqL x).all numD)
def smOk (x : D) : Bool := isSeqD x && (withinD (.int (seqL x).length) (some 1) (some 2) && (seqL x).all numD)
def sp_pointX : DSp := fun xs G R RX => ∃ x w p, xs = [x, .int w, .str p] ∧ x.kn = true ∧ p.length ≤ 10000 ∧ (seqL x).length ≤ 1000000 ∧ (ptOk x w = true → R (.tup ((seqL x).map keptD)) G) ∧ (ptOk x w = false → RX "BadPoint" ["part"] [.str p] G)
def pointXR (RX : XD) : DS := (dSeq (dIfS (dOr (dNot (dTst (dCall sp_is_list X0 (dCons (dVar 0) dNil)))) (dOr (dTst (dOp fNe (dCal fLen (dCons (dVar 0) dNil)) (dVar 1))) (dNot (dTst (dCal fAll (dCons (dCmp (dISeq (dVar 0)) (gN 3) dYes (dCall sp_is_number X0 (dCons (dVar 3) dNil)) [3]) dNil)))))) (dRaise "BadPoint" ["part"] [true] RX (dCons (dVar 2) dNil)) dNext) (dRet (dCal fTupOf (dCons (dCmp (dISeq (dVar 0)) (gN 3) dYes (dCall sp_kept_number X0 (dCons (dVar 3) dNil)) [3]) dNil))))
theorem pointX_ok (xs : List D) (G : Gm) (R : KD) (RX : XD) (h : sp_pointX xs G R RX) : pointXR RX { nx := fun _ G => R .non G, rt := R } (xs.map some ++ List.replicate (4 - xs.length) none) G := by
  obtain ⟨x, w, p, rfl, hk, hp, hl, hy, hn⟩ := h
  have hz : (seqL x).length ≤ sizeLine := by rw [sizeLine_eq]; omega
  cases q1 : isSeqD x with
  | false =>
    refine ds_if (k := true) (.orT ((EvT.not (.tst (.isList (.var rfl) hk))).cast (by rw [q1]; rfl))) (ds_raise1 (.var rfl) hp (hn ?_))
    unfold ptOk
    rw [q1]
    rfl
  | true =>
    have sh := seq_is q1
    have at_ : ∀ {G : Gm}, SeqAt G x (seqL x) := fun {G} => seq_at sh
    have kk := knL_all (seqL_kn q1 hk)
    have f1 : EvT (dNot (dTst (dCall sp_is_list X0 (dCons (dVar 0) dNil)))) [some x, some (.int w), some (.str p), none] G false := (EvT.not (.tst (.isList (.var rfl) hk))).cast (by rw [q1]; rfl)
    cases q2 : decide (((seqL x).length : Int) = w) with
    | false =>
      refine ds_if (k := true) (.orF f1 (.orT ((EvT.tst (.neI (.len (.var rfl) at_) (.var rfl))).cast (by rw [q2]; rfl)))) (ds_raise1 (.var rfl) hp (hn ?_))
      unfold ptOk
      rw [q1, q2]
      rfl
    | true =>
      have f2 : EvT (dTst (dOp fNe (dCal fLen (dCons (dVar 0) dNil)) (dVar 1))) [some x, some (.int w), some (.str p), none] G false := (EvT.tst (.neI (.len (.var rfl) at_) (.var rfl))).cast (by rw [q2]; rfl)
      have hall : Ev (dCmp (dISeq (dVar 0)) (gN 3) dYes (dCall sp_is_number X0 (dCons (dVar 3) dNil)) [3]) [some x, some (.int w), some (.str p), none] G (.lst (((seqL x).map numD).map D.bl)) := by
        rw [List.map_map]
        exact Ev.lcSeq (fun d => .bl (numD d)) (.var rfl) sh.symm (fun y hy => .isNumber (.var rfl) (kk y hy)) hz
      have f3 : EvT (dNot (dTst (dCal fAll (dCons (dCmp (dISeq (dVar 0)) (gN 3) dYes (dCall sp_is_number X0 (dCons (dVar 3) dNil)) [3]) dNil)))) [some x, some (.int w), some (.str p), none] G (!(seqL x).all numD) := (EvT.not (.tst (.all hall))).cast (by rw [all_map])
      have e : ptOk x w = (seqL x).all numD := by
        unfold ptOk
        rw [q1, q2]
        rfl
      refine ds_if (.orF f1 (.orF f2 f3)) ?_
      cases q3 : (seqL x).all numD with
      | false => exact ds_raise1 (.var rfl) hp (hn (by rw [e]; exact q3))
      | true => exact ds_ret (.tupOf (.lcSeq keptD (.var rfl) sh.symm (fun y hy => .call (.one (.var rfl)) fun R r => ⟨y, rfl, kk y hy, r⟩) hz) seq_lst) (hy (by rw [e]; exact q3))
def sp_someX : DSp := fun xs G R RX => ∃ x, xs = [x] ∧ x.kn = true ∧ (seqL x).length ≤ 1000000 ∧ (smOk x = true → R (.tup ((seqL x).map keptD)) G) ∧ (smOk x = false → RX "BadPoint" ["part"] [.str "point"] G)
def someXR (RX : XD) : DS := (dSeq (dIfS (dOr (dNot (dTst (dCall sp_is_list X0 (dCons (dVar 0) dNil)))) (dNot (dTst (dCall sp_is_within X0 (dCons (dCal fLen (dCons (dVar 0) dNil)) (dCons (dC (.int 1)) (dCons (dC (.int 2)) dNil))))))) (dRaise "BadPoint" ["part"] [true] RX (dCons (dC (.str "point")) dNil)) dNext) (dRet (dCallD sp_pointX [D.str "point"] RX (dCons (dVar 0) (dCons (dCal fLen (dCons (dVar 0) dNil)) dNil)))))
theorem point_len : (("point" : Str)).length ≤ 10000 := by decide
theorem someX_ok (xs : List D) (G : Gm) (R : KD) (RX : XD) (h : sp_someX xs G R RX) : someXR RX { nx := fun _ G => R .non G, rt := R } (xs.map some ++ List.replicate (1 - xs.length) none) G := by
  obtain ⟨x, rfl, hk, hl, hy, hn⟩ := h
  cases q1 : isSeqD x with
  | false =>
    refine ds_if (k := true) (.orT ((EvT.not (.tst (.isList (.var rfl) hk))).cast (by rw [q1]; rfl))) (ds_raise1 .c point_len (hn ?_))
    unfold smOk
    rw [q1]
    rfl
  | true =>
    have sh := seq_is q1
    have at_ : ∀ {G : Gm}, SeqAt G x (seqL x) := fun {G} => seq_at sh
    have f1 : EvT (dNot (dTst (dCall sp_is_list X0 (dCons (dVar 0) dNil)))) [some x] G false := (EvT.not (.tst (.isList (.var rfl) hk))).cast (by rw [q1]; rfl)
    refine ds_if (.orF f1 (EvT.not (.tst (.isWithin (.len (.var rfl) at_) .c .c rfl rfl rfl)))) ?_
    cases q2 : withinD (.int (seqL x).length) (some 1) (some 2) with
    | false =>
      refine ds_raise1 .c point_len (hn ?_)
      unfold smOk
      rw [q1, q2]
      rfl
    | true =>
      have e : ptOk x ((seqL x).length : Nat) = smOk x := by
        unfold ptOk smOk
        rw [q2, decide_eq_true rfl]
      have ea : EvA (dCons (dVar 0) (dCons (dCal fLen (dCons (dVar 0) dNil)) dNil)) [some x] G [x, .int (seqL x).length] := .cons (.var rfl) (.one (.len (.var rfl) at_))
      exact ea (fun ys G1 => sp_pointX (ys ++ [D.str "point"]) G1 R RX) (show sp_pointX ([x, .int (seqL x).length] ++ [D.str "point"]) G R RX from ⟨x, _, _, rfl, hk, point_len, hl, fun z => hy (by rw [← e]; exact z), fun z => hn (by rw [← e]; exact z)⟩)
/-- a point that will not do, said by the first check -/
theorem some_no {x : D} {G : Gm} {R : KD} {RX : XD} (hk : x.kn = true) (hl : (seqL x).length ≤ 1000000) (hs : smOk x = false) (h : RX "BadPoint" ["part"] [.str "point"] G) : sp_someX [x] G R RX :=
  ⟨x, rfl, hk, hl, fun z => (by rw [hs] at z; cases z), fun _ => h⟩
theorem some_yes {x : D} {G : Gm} {R : KD} {RX : XD} (hk : x.kn = true) (hl : (seqL x).length ≤ 1000000) (hs : smOk x = true) (h : R (.tup ((seqL x).map keptD)) G) : sp_someX [x] G R RX :=
  ⟨x, rfl, hk, hl, fun _ => h, fun z => (by rw [hs] at z; cases z)⟩
theorem need_no {x a b : D} {p : Str} {l m : Option Int} {G : Gm} {R : KD} {RX : XD} (hk : x.kn = true) (ha : bndD a = some l) (hb : bndD b = some m) (hp : p.length ≤ 10000) (hs : withinD x l m = false) (h : RX "BadNumber" ["part"] [.str p] G) : sp_needX [x, .str p, a, b] G R RX :=
  ⟨x, p, a, b, l, m, rfl, hk, ha, hb, hp, fun z => (by rw [hs] at z; cases z), fun _ => h⟩
theorem need_yes {x a b : D} {p : Str} {l m : Option Int} {G : Gm} {R : KD} {RX : XD} (hk : x.kn = true) (ha : bndD a = some l) (hb : bndD b = some m) (hp : p.length ≤ 10000) (hs : withinD x l m = true) (h : R .non G) : sp_needX [x, .str p, a, b] G R RX :=
  ⟨x, p, a, b, l, m, rfl, hk, ha, hb, hp, fun _ => h, fun z => (by rw [hs] at z; cases z)⟩
theorem sm_of {x : D} {ds : List D} (h : PtN x ds) : smOk x = true ∧ seqL x = ds ∧ x.kn = true := by
  have e : seqL x = ds := by rcases h.sh with rfl | rfl <;> rfl
  refine ⟨?_, e, h.pt.kn⟩
  unfold smOk
  rw [e, h.pt.seq]
  have h1 := h.l1
  have h2 := h.l2
  have w : withinD (.int ds.length) (some 1) (some 2) = true := by
    show (decide ((1 : Int) ≤ ds.length) && decide ((ds.length : Int) ≤ 2)) = true
    rw [decide_eq_true (by omega), decide_eq_true (by omega)]
    rfl
  rw [w]
  exact List.all_eq_true.mpr h.nm.nm
/-! ### rows -/
theorem int_is {y : D} (h : isIntD y = true) : ∃ p, y = .int p := by
  cases y <;> first | exact ⟨_, rfl⟩ | cases h
theorem int_within {y : D} : withinD y none none = isIntD y := by
  cases y <;> rfl
def sp_labelAtX : DSp := fun xs G R RX => ∃ x y, xs = [x, y] ∧ x.kn = true ∧ y.kn = true ∧ (seqL x).length ≤ 1000000 ∧ ((smOk x = false ∧ RX "BadPoint" ["part"] [.str "point"] G) ∨ (smOk x = true ∧ isIntD y = false ∧ RX "BadNumber" ["part"] [.str "place"] G) ∨ ∃ ds p, y = .int p ∧ PtN x ds ∧ p.natAbs < 2 ^ 2900 ∧ R (tupI (labs ds p)) G)
def labelAtXR (RX : XD) : DS := (dSeq (dSet 2 (dCall sp_someX RX (dCons (dVar 0) dNil))) (dSeq (dDrop (dCall sp_needX RX (dCons (dVar 1) (dCons (dC (.str "place")) (dCons (dC .non) (dCons (dC .non) dNil)))))) (dRet (dCall sp_label_in X0 (dCons (dVar 2) (dCons (dVar 1) dNil))))))
theorem labelAtX_ok (xs : List D) (G : Gm) (R : KD) (RX : XD) (h : sp_labelAtX xs G R RX) : labelAtXR RX { nx := fun _ G => R .non G, rt := R } (xs.map some ++ List.replicate (3 - xs.length) none) G := by
  obtain ⟨x, y, rfl, hk, hy, hl, h⟩ := h
  rcases h with ⟨h1, h⟩ | ⟨h1, h2, h⟩ | ⟨ds, p, rfl, hp, hb, h⟩
  · exact dx_call (.one (.var rfl)) (some_no hk hl h1 h)
  · refine dx_call (.one (.var rfl)) (some_yes hk hl h1 ?_)
    exact dx_call (.cons (.var rfl) (.cons .c (.cons .c (.one .c)))) (need_no hy rfl rfl (by decide) (by rw [int_within]; exact h2) h)
  · obtain ⟨h1, e, _⟩ := sm_of hp
    refine dx_call (.one (.var rfl)) (some_yes hk hl h1 ?_)
    refine dx_call (.cons (.var rfl) (.cons .c (.cons .c (.one .c)))) (need_yes rfl rfl rfl (by decide) rfl ?_)
    rw [← labs_kept] at h
    have := hp.l2
    rw [e]
    exact ds_ret (.labelIn (.var rfl) (.var rfl) hp.nm.kept hb (by rw [List.length_map]; omega)) h
def sp_labelsOfX : DSp := fun xs G R RX => ∃ x y z, xs = [x, y, z] ∧ x.kn = true ∧ y.kn = true ∧ z.kn = true ∧ (seqL x).length ≤ 1000000 ∧ ((smOk x = false ∧ RX "BadPoint" ["part"] [.str "point"] G) ∨ (smOk x = true ∧ isIntD y = false ∧ RX "BadNumber" ["part"] [.str "first"] G) ∨
  (smOk x = true ∧ isIntD y = true ∧ withinD z (some 0) (some 2000) = false ∧ RX "BadNumber" ["part"] [.str "many"] G) ∨ ∃ ds first n, y = .int first ∧ z = .int (n : Nat) ∧ PtN x ds ∧ first.natAbs < 2 ^ 2900 ∧ n ≤ 2000 ∧ R (.tup (labsT ds first n)) G)
def labelsOfXR (RX : XD) : DS := (dSeq (dSet 3 (dCall sp_someX RX (dCons (dVar 0) dNil))) (dSeq (dDrop (dCall sp_needX RX (dCons (dVar 1) (dCons (dC (.str "first")) (dCons (dC .non) (dCons (dC .non) dNil)))))) (dSeq (dDrop (dCall sp_needX RX (dCons (dVar 2) (dCons (dC (.str "many")) (dCons (dC (.int 0)) (dCons (dC (.int 2000)) dNil)))))) (dRet (dCall sp_labels_in X0 (dCons (dVar 3) (dCons (dVar 1) (dCons (dVar 2) dNil))))))))
theorem labelsOfX_ok (xs : List D) (G : Gm) (R : KD) (RX : XD) (h : sp_labelsOfX xs G R RX) : labelsOfXR RX { nx := fun _ G => R .non G, rt := R } (xs.map some ++ List.replicate (4 - xs.length) none) G := by
  obtain ⟨x, y, z, rfl, hk, hy, hz, hl, h⟩ := h
  rcases h with ⟨h1, h⟩ | ⟨h1, h2, h⟩ | ⟨h1, h2, h3, h⟩ | ⟨ds, first, n, rfl, rfl, hp, hb, hn, h⟩
  · exact dx_call (.one (.var rfl)) (some_no hk hl h1 h)
  · refine dx_call (.one (.var rfl)) (some_yes hk hl h1 ?_)
    exact dx_call (.cons (.var rfl) (.cons .c (.cons .c (.one .c)))) (need_no hy rfl rfl (by decide) (by rw [int_within]; exact h2) h)
  · refine dx_call (.one (.var rfl)) (some_yes hk hl h1 ?_)
    refine dx_call (.cons (.var rfl) (.cons .c (.cons .c (.one .c)))) (need_yes hy rfl rfl (by decide) (by rw [int_within]; exact h2) ?_)
    exact dx_call (.cons (.var rfl) (.cons .c (.cons .c (.one .c)))) (need_no hz rfl rfl (by decide) h3 h)
  · obtain ⟨h1, e, _⟩ := sm_of hp
    refine dx_call (.one (.var rfl)) (some_yes hk hl h1 ?_)
    refine dx_call (.cons (.var rfl) (.cons .c (.cons .c (.one .c)))) (need_yes rfl rfl rfl (by decide) rfl ?_)
    refine dx_call (.cons (.var rfl) (.cons .c (.cons .c (.one .c)))) (need_yes rfl rfl rfl (by decide) ?_ ?_)
    · show (decide ((0 : Int) ≤ n) && decide ((n : Int) ≤ 2000)) = true
      rw [decide_eq_true (by omega), decide_eq_true (by omega)]
      rfl
    · rw [← labsT_kept] at h
      have := hp.l2
      rw [e]
      exact ds_ret (.labelsIn (.var rfl) (.var rfl) (.var rfl) hp.nm.kept hb hn (by rw [List.length_map]; omega)) h
/-- sum_of, where it refuses -/
def sp_sumX : DSp := fun xs G R RX => ∃ x y z, xs = [x, y, z] ∧ x.kn = true ∧ y.kn = true ∧ z.kn = true ∧ (seqL x).length ≤ 1000000 ∧ ((smOk x = false ∧ RX "BadPoint" ["part"] [.str "point"] G) ∨ (smOk x = true ∧ isIntD y = false ∧ RX "BadNumber" ["part"] [.str "first"] G) ∨
  (smOk x = true ∧ isIntD y = true ∧ withinD z (some 0) none = false ∧ RX "BadNumber" ["part"] [.str "many"] G))
def sumXR (RX : XD) : DS := (dSeq (dSet 3 (dCall sp_someX RX (dCons (dVar 0) dNil))) (dSeq (dDrop (dCall sp_needX RX (dCons (dVar 1) (dCons (dC (.str "first")) (dCons (dC .non) (dCons (dC .non) dNil)))))) (dSeq (dDrop (dCall sp_needX RX (dCons (dVar 2) (dCons (dC (.str "many")) (dCons (dC (.int 0)) (dCons (dC .non) dNil)))))) (dRet (dCall sp_gone X0 (dCons (dCall sp_wholes_in X0 (dCons (dVar 3) (dCons (dOp (fInt fun i j => .int (i - j)) (dOp fAdd (dVar 1) (dVar 2)) (dC (.int 1))) dNil))) (dCons (dCall sp_wholes_in X0 (dCons (dVar 3) (dCons (dOp (fInt fun i j => .int (i - j)) (dVar 1) (dC (.int 1))) dNil))) dNil)))))))
theorem sumX_ok (xs : List D) (G : Gm) (R : KD) (RX : XD) (h : sp_sumX xs G R RX) : sumXR RX { nx := fun _ G => R .non G, rt := R } (xs.map some ++ List.replicate (4 - xs.length) none) G := by
  obtain ⟨x, y, z, rfl, hk, hy, hz, hl, h⟩ := h
  rcases h with ⟨h1, h⟩ | ⟨h1, h2, h⟩ | ⟨h1, h2, h3, h⟩
  · exact dx_call (.one (.var rfl)) (some_no hk hl h1 h)
  · refine dx_call (.one (.var rfl)) (some_yes hk hl h1 ?_)
    exact dx_call (.cons (.var rfl) (.cons .c (.cons .c (.one .c)))) (need_no hy rfl rfl (by decide) (by rw [int_within]; exact h2) h)
  · refine dx_call (.one (.var rfl)) (some_yes hk hl h1 ?_)
    refine dx_call (.cons (.var rfl) (.cons .c (.cons .c (.one .c)))) (need_yes hy rfl rfl (by decide) (by rw [int_within]; exact h2) ?_)
    exact dx_call (.cons (.var rfl) (.cons .c (.cons .c (.one .c)))) (need_no hz rfl rfl (by decide) h3 h)
/-- told_back -/
def tbOk (x : D) : Bool := isSeqD x && (withinD (.int (seqL x).length) (some 1) (some 2000) && (seqL x).all isIntD)
theorem labels_len : (("labels" : Str)).length ≤ 10000 := by decide
def sp_toldX : DSp := fun xs G R RX => (∃ x, xs = [x] ∧ x.kn = true ∧ (seqL x).length ≤ 1000000 ∧ tbOk x = false ∧ RX "BadNumber" ["part"] [.str "labels"] G) ∨ sp_told_back xs G R X0
def toldXR (RX : XD) : DS := (dSeq (dIfS (dOr (dNot (dTst (dCall sp_is_list X0 (dCons (dVar 0) dNil)))) (dNot (dTst (dCall sp_is_within X0 (dCons (dCal fLen (dCons (dVar 0) dNil)) (dCons (dC (.int 1)) (dCons (dC (.int 2000)) dNil))))))) (dRaise "BadNumber" ["part"] [true] RX (dCons (dC (.str "labels")) dNil)) dNext) (dSeq (dIfS (dNot (dTst (dCal fAll (dCons (dCmp (dISeq (dVar 0)) (gN 1) dYes (dCall sp_is_integer X0 (dCons (dVar 1) dNil)) [1]) dNil)))) (dRaise "BadNumber" ["part"] [true] RX (dCons (dC (.str "labels")) dNil)) dNext) (dSeq (dPar3 2 3 4 (dCons (dIx (dVar 0) (dC (.int 0))) (dCons (dOp fAdd (dIx (dVar 0) (dC (.int 0))) (dC (.int 1))) (dCons (dC (.int 0)) dNil)))) (dSeq (dFor (dIEnumerate (dCons (dVar 0) dNil)) (gSeq 2 (gCons (gN 5) (gCons (gN 6) gNil))) (dSeq (dSet 4 (dOp fAdd (dVar 4) (dVar 6))) (dSeq (dPar 7 8 (dCons (dCall sp_lowest_in X0 (dCons (dVar 4) (dCons (dOp fAdd (dVar 5) (dC (.int 1))) dNil))) (dCons (dCall sp_lowest_in X0 (dCons (dOp fAdd (dVar 4) (dC (.int 1))) (dCons (dOp fAdd (dVar 5) (dC (.int 1))) dNil))) dNil))) (dSeq (dSet 2 (dIf (dTst (dCall sp_below X0 (dCons (dVar 2) (dCons (dVar 7) dNil)))) (dVar 7) (dVar 2))) (dSet 3 (dIf (dTst (dCall sp_below X0 (dCons (dVar 8) (dCons (dVar 3) dNil)))) (dVar 8) (dVar 3))))))) (dRet (dIf (dTst (dCall sp_below X0 (dCons (dVar 2) (dCons (dVar 3) dNil)))) (dTup (dCons (dVar 2) (dCons (dVar 3) dNil))) (dC .non)))))))
theorem toldX_ok (xs : List D) (G : Gm) (R : KD) (RX : XD) (h : sp_toldX xs G R RX) : toldXR RX { nx := fun _ G => R .non G, rt := R } (xs.map some ++ List.replicate (9 - xs.length) none) G := by
  rcases h with ⟨x, rfl, hk, hl, hb, h⟩ | h
  · cases q1 : isSeqD x with
    | false => exact ds_if (k := true) (.orT ((EvT.not (.tst (.isList (.var rfl) hk))).cast (by rw [q1]; rfl))) (ds_raise1 .c labels_len h)
    | true =>
      have sh := seq_is q1
      have at_ : ∀ {G : Gm}, SeqAt G x (seqL x) := fun {G} => seq_at sh
      have kk := knL_all (seqL_kn q1 hk)
      have hz : (seqL x).length ≤ sizeLine := by rw [sizeLine_eq]; omega
      have f1 : EvT (dNot (dTst (dCall sp_is_list X0 (dCons (dVar 0) dNil)))) [some x, none, none, none, none, none, none, none, none] G false := (EvT.not (.tst (.isList (.var rfl) hk))).cast (by rw [q1]; rfl)
      refine ds_if (.orF f1 (EvT.not (.tst (.isWithin (.len (.var rfl) at_) .c .c rfl rfl rfl)))) ?_
      cases q2 : withinD (.int (seqL x).length) (some 1) (some 2000) with
      | false => exact ds_raise1 .c labels_len h
      | true =>
        have e : (seqL x).all isIntD = false := by
          unfold tbOk at hb
          rw [q1, q2] at hb
          exact hb
        have hall : Ev (dCmp (dISeq (dVar 0)) (gN 1) dYes (dCall sp_is_integer X0 (dCons (dVar 1) dNil)) [1]) [some x, none, none, none, none, none, none, none, none] G (.lst (((seqL x).map isIntD).map D.bl)) := by
          rw [List.map_map]
          exact Ev.lcSeq (fun d => .bl (isIntD d)) (.var rfl) sh.symm (fun y hy => .isInteger (.var rfl) (kk y hy)) hz
        exact ds_if (k := true) ((EvT.not (.tst (.all hall))).cast (by rw [all_map, e]; rfl)) (ds_raise1 .c labels_len h)
  · obtain ⟨x0, is, rfl, hx, l1, l2, hm, h⟩ := h
    have kx : x0.kn = true := by rcases hx with rfl | rfl <;> exact kn_ints is
    have sx : isSeqD x0 = true := by rcases hx with rfl | rfl <;> rfl
    have ax : ∀ {G : Gm}, SeqAt G x0 (is.map D.int) := fun {G} => seq_at hx.symm
    have hz : (is.map D.int).length ≤ sizeLine := by rw [List.length_map, sizeLine_eq]; omega
    have hw : withinD (.int ((is.map D.int).length : Nat)) (some 1) (some 2000) = true := by
      show (decide ((1 : Int) ≤ ((is.map D.int).length : Nat)) && decide ((((is.map D.int).length : Nat) : Int) ≤ 2000)) = true
      rw [List.length_map, decide_eq_true (by omega), decide_eq_true (by omega)]
      rfl
    refine ds_if (k := false) (.orF ((EvT.not (.tst (.isList (.var rfl) kx))).cast (by rw [sx]; rfl)) ((EvT.not (.tst (.isWithin (.len (.var rfl) ax) .c .c rfl rfl rfl))).cast (by rw [hw]; rfl))) ?_
    have hall : Ev (dCmp (dISeq (dVar 0)) (gN 1) dYes (dCall sp_is_integer X0 (dCons (dVar 1) dNil)) [1]) [some x0, none, none, none, none, none, none, none, none] G (.lst (((is.map D.int).map isIntD).map D.bl)) := by
      rw [List.map_map (l := is.map D.int)]
      exact Ev.lcSeq (fun d => .bl (isIntD d)) (.var rfl) hx (fun y hy => .isInteger (.var rfl) (by
        obtain ⟨i, _, rfl⟩ := List.mem_map.mp hy
        rfl)) hz
    refine ds_if (k := false) ((EvT.not (.tst (.all hall))).cast (by
      rw [all_map, List.all_eq_true.mpr fun d hd => ?_]
      · rfl
      · obtain ⟨i, _, rfl⟩ := List.mem_map.mp hd
        rfl)) (told_tail hx l1 l2 hm h)
theorem pickE {ρ : En} {a : Addr} {i : Nat} {dl : DE} {P : D → Prop} {ds : List D} (hi : ρ[i]? = some (some (.ref a))) (he : ∀ G, Ev dl ρ G (.lst ds)) (h1 : ds ≠ []) (h2 : ds.length ≤ 1000000) (hp : ∀ y ∈ ds, P y) : Drw (dCall spPick X0 (dCons (dVar i) (dCons dl dNil))) ρ a (0 + 1) P :=
  .pick hi (.ev he ⟨ds, .inl rfl, h1, h2, hp⟩)
theorem dw_asg4 {ρ : En} {a : Addr} {j k l n : Nat} {da db dc dd : DE} {P1 P2 P3 P4 : D → Prop} {E : DEnds} {G : Gm} {T i1 i2 i3 i4 : Nat} (h1 : Drw da ρ a j P1) (h2 : Drw db ρ a k P2) (h3 : Drw dc ρ a l P3) (h4 : Drw dd ρ a n P4) (hg : GauAt G a T) (ht : T + (j + (k + (l + (n + 0)))) ≤ 1000000000)
    (hk : ∀ x y z u m, P1 x → P2 y → P3 z → P4 u → Gau m (T + (j + (k + (l + (n + 0))))) → E.nx ((((ρ.set i1 (some x)).set i2 (some y)).set i3 (some z)).set i4 (some u)) (gup G a m)) : dAsg (dTup (dCons da (dCons db (dCons dc (dCons dd dNil))))) (gSeq 4 (gCons (gN i1) (gCons (gN i2) (gCons (gN i3) (gCons (gN i4) gNil))))) E ρ G := by
  show (dCons da (dCons db (dCons dc (dCons dd dNil)))) ρ G fun xs G1 => xs.length ≤ sizeLine ∧ gSeq 4 (DL.gCons (gN i1) (DL.gCons (gN i2) (DL.gCons (gN i3) (DL.gCons (gN i4) DL.gNil)))) (.tup xs) ρ G1 E.nx
  exact (DrwA.cons h1 (DrwA.cons h2 (DrwA.cons h3 (DrwA.cons h4 .nil)))) G T _ hg ht fun l m ⟨x, xs, e1, px, y, ys, e2, py, z, zs, e3, pz, u, us, e4, pu, e5⟩ hm => by
    subst e5 e4 e3 e2 e1
    exact ⟨show 4 ≤ sizeLine by decide, _, seq_tup, rfl, _, _, rfl, _, _, rfl, _, _, rfl, _, _, rfl, rfl, hk x y z u m px py pz pu hm⟩
theorem Ev.isO {ρ : En} {G : Gm} {da : DE} {cl cs : List Str} {sub : Str → Str → Bool} {y : D} {b : Bool} (ha : Ev da ρ G y) (h : isO cl sub cs y = some b) : Ev (dIsO cl sub cs da) ρ G (.bl b) := fun R r => ha _ ⟨b, h, r⟩
theorem Ev.xf {ρ : En} {G : Gm} {da : DE} {cl : List Str} {f C : Str} {ns : List Str} {xs : List D} {z : D} (ha : Ev da ρ G (.exc C ns xs)) (hC : C ∈ cl) (h : (ns.zip xs).lookup f = some z) : Ev (dXf cl f da) ρ G z := fun R r => ha _ ⟨C, ns, xs, z, rfl, hC, h, r⟩
theorem dx_callK {ρ : En} {G : Gm} {dA : DA} {q : DSp} {o : Ord} {RX : XD} {xs : List D} {R : KD} (ha : EvA dA ρ G xs) (h : q (o.go xs) G R RX) : dCallK q o RX dA ρ G R := ha _ h
theorem isO_exc {C : Str} {cl cs ns : List Str} {sub : Str → Str → Bool} {xs : List D} (h : C ∈ cl) : isO cl sub cs (.exc C ns xs) = some (cs.any (sub C)) := if_pos h
theorem to_next {E : DEnds} {ρ : En} {G : Gm} (h : E.nx ρ G) : dNext E ρ G := h
/-! ### a row of ones -/
theorem low_same {n : Nat} (h : 1 ≤ n) : lowD (n : Int) n = .int 1 := by
  have g : (Int.gcd (n : Int) n : Int) = n := by
    show ((Nat.gcd (n : Int).natAbs (n : Int).natAbs : Nat) : Int) = n
    rw [Int.natAbs_natCast, Nat.gcd_self]
  unfold lowD
  rw [g, Int.ediv_self (by omega), if_pos rfl]
theorem low_next {n : Nat} (h : 1 ≤ n) : lowD ((n : Int) + 1) n = if (n : Int) = 1 then .int ((n : Int) + 1) else .tup [.int ((n : Int) + 1), .int n] := by
  have g : (Int.gcd ((n : Int) + 1) n : Int) = 1 := by
    have e : ((n : Int) + 1).natAbs = n + 1 := by omega
    show ((Nat.gcd ((n : Int) + 1).natAbs (n : Int).natAbs : Nat) : Int) = 1
    rw [e, Int.natAbs_natCast]
    have : Nat.gcd (n + 1) n = 1 := by simp
    rw [this]
    rfl
  unfold lowD
  rw [g, Int.ediv_one, Int.ediv_one]
theorem numI_next {n : Nat} (h : 1 ≤ n) : numI (lowD ((n : Int) + 1) n) = ((n : Int) + 1, (n : Int)) := by
  rw [low_next h]
  by_cases z : (n : Int) = 1
  · rw [if_pos z, z]
    rfl
  · rw [if_neg z]
    rfl
theorem tb_ones (N : Nat) : ∀ k : Nat, k < N → (tbAt (List.replicate N 1) (k + 1)).lo = .int 1 ∧ (tbAt (List.replicate N 1) (k + 1)).hi = lowD ((k + 1 : Nat) + 1 : Int) (k + 1 : Nat) ∧ (tbAt (List.replicate N 1) (k + 1)).s = (k + 1 : Nat)
  | 0, h => by
    obtain ⟨N, rfl⟩ : ∃ M, N = M + 1 := ⟨N - 1, by omega⟩
    have l1 : lowD (0 + 1) (((0 : Nat) : Int) + 1) = .int 1 := low_same (n := 1) (Nat.le_refl _)
    have l2 : lowD (0 + 1 + 1) (((0 : Nat) : Int) + 1) = .int 2 := (low_next (n := 1) (Nat.le_refl _)).trans (if_pos rfl)
    have l3 : lowD (((0 + 1 : Nat) : Int) + 1) ((0 + 1 : Nat) : Int) = .int 2 := (low_next (n := 1) (Nat.le_refl _)).trans (if_pos rfl)
    have hd : (List.replicate (N + 1) (1 : Int)).headD 0 = 1 := rfl
    have e : (List.replicate (N + 1) (1 : Int)).getD 0 0 = 1 := rfl
    have t : tbAt (List.replicate (N + 1) 1) (0 + 1) = tbStep { lo := .int 1, hi := .int (1 + 1), s := 0 } 0 1 := by
      show tbStep { lo := .int ((List.replicate (N + 1) (1 : Int)).headD 0), hi := .int ((List.replicate (N + 1) (1 : Int)).headD 0 + 1), s := 0 } 0 ((List.replicate (N + 1) (1 : Int)).getD 0 0) = _
      rw [hd, e]
    rw [t]
    refine ⟨?_, ?_, rfl⟩
    · show (if ltN (.int 1) (lowD (0 + 1) (((0 : Nat) : Int) + 1)) = true then lowD (0 + 1) (((0 : Nat) : Int) + 1) else .int 1) = _
      rw [l1]
      rfl
    · show (if ltN (lowD (0 + 1 + 1) (((0 : Nat) : Int) + 1)) (.int (1 + 1)) = true then lowD (0 + 1 + 1) (((0 : Nat) : Int) + 1) else .int (1 + 1)) = _
      rw [l2, l3]
      rfl
  | k + 1, h => by
    obtain ⟨h1, h2, h3⟩ := tb_ones N k (by omega)
    have e : (List.replicate N (1 : Int)).getD (k + 1) 0 = 1 := by
      rw [List.getD_eq_getElem?_getD, List.getElem?_replicate, if_pos h]
      rfl
    have s : (tbAt (List.replicate N 1) (k + 1)).s + (List.replicate N (1 : Int)).getD (k + 1) 0 = ((k + 1 + 1 : Nat) : Int) := by
      rw [h3, e]
      push_cast
      omega
    have c : ((k + 1 : Nat) : Int) + 1 = ((k + 1 + 1 : Nat) : Int) := by push_cast; omega
    refine ⟨?_, ?_, s⟩
    · show (if ltN (tbAt (List.replicate N 1) (k + 1)).lo (lowD ((tbAt (List.replicate N 1) (k + 1)).s + (List.replicate N (1 : Int)).getD (k + 1) 0) (((k + 1 : Nat) : Int) + 1)) = true then lowD ((tbAt (List.replicate N 1) (k + 1)).s + (List.replicate N (1 : Int)).getD (k + 1) 0) (((k + 1 : Nat) : Int) + 1) else (tbAt (List.replicate N 1) (k + 1)).lo) = _
      rw [s, c, low_same (by omega), h1]
      rfl
    · show (if ltN (lowD ((tbAt (List.replicate N 1) (k + 1)).s + (List.replicate N (1 : Int)).getD (k + 1) 0 + 1) (((k + 1 : Nat) : Int) + 1)) (tbAt (List.replicate N 1) (k + 1)).hi = true then lowD ((tbAt (List.replicate N 1) (k + 1)).s + (List.replicate N (1 : Int)).getD (k + 1) 0 + 1) (((k + 1 : Nat) : Int) + 1) else (tbAt (List.replicate N 1) (k + 1)).hi) = _
      rw [s, c, h2, if_pos]
      unfold ltN
      rw [numI_next (by omega), numI_next (by omega)]
      apply decide_eq_true
      show ((k + 1 + 1 : Nat) + 1 : Int) * ((k + 1 : Nat) : Int) < ((k + 1 : Nat) + 1 : Int) * ((k + 1 + 1 : Nat) : Int)
      push_cast
      have : ((k : Int) + 1 + 1) * (k + 1 + 1) = (k + 1 + 1 + 1) * (k + 1) + 1 := by grind
      omega
theorem tell_ones : tellD (List.replicate 2000 1) = .tup [.int 1, .tup [.int 2001, .int 2000]] := by
  obtain ⟨h1, h2, _⟩ := tb_ones 2000 1999 (by decide)
  have e : (List.replicate 2000 (1 : Int)).length = 1999 + 1 := List.length_replicate
  have l : lowD ((1999 + 1 : Nat) + 1 : Int) (1999 + 1 : Nat) = .tup [.int 2001, .int 2000] := (low_next (n := 2000) (by decide)).trans (if_neg (by decide))
  unfold tellD
  rw [e, h1, h2, l]
  rfl
theorem labsT_len {ds : List D} {f : Int} {n : Nat} : (labsT ds f n).length = n := by
  unfold labsT
  rw [List.length_map, List.length_range]
end DL

/-! DL35: a def of the top as a value; the call of a name that holds one. -/
namespace DL
open PySem PySem.Spec PyProof.Rows L2 Evl
variable [TabC]
/-- a def that is known, with its promise alone -/
def KnF (P : Program) (w : World) (K : PySem.W.Frag) (mg : Str → Option Value) (base : Heap) (k : Nat) (x : Str) (q : DSp) : Prop := ∃ st ps, Kn P w K mg base k x st ps q ∧
  ∀ (kV doc pm : Value) (an : Option Addr) (cdv ct : Value) (us : List Value), us.length = ps.length → bindArgs (PySem.W.fnOf x x (defArgs st) (defBody st) (defScope st) .none kV doc pm an cdv ct) ⟨us, []⟩ = pure (ps.zip us)
theorem kf_nil {P : Program} {w : World} {K : PySem.W.Frag} {mg : Str → Option Value} {base : Heap} {k : Nat} : ∀ p ∈ ([] : List (Str × DSp)), KnF P w K mg base k p.1 p.2 := fun _ h => by cases h
theorem kf_cons {P : Program} {w : World} {K : PySem.W.Frag} {mg : Str → Option Value} {base : Heap} {k : Nat} {x : Str} {q : DSp} {fs : List (Str × DSp)} (h : KnF P w K mg base k x q) (t : ∀ p ∈ fs, KnF P w K mg base k p.1 p.2) : ∀ p ∈ (x, q) :: fs, KnF P w K mg base k p.1 p.2 := fun p hp => by
  rcases List.mem_cons.mp hp with e | e
  · rw [e]
    exact h
  · exact t p e
/-- x(e, ..), x the name of place i that holds one of the defs fs -/
def dCallF (i : Nat) (fs : List (Str × DSp)) (RX : XD) (dA : DA) : DE := fun ρ G R => ∃ x q, ρ[i]? = some (some (.fnc x)) ∧ (x, q) ∈ fs ∧ dA ρ G fun xs G1 => q xs G1 R RX
section
variable {X : Cx} {B : Bs} {pos p : Pos} {e : Expr} {es : List Expr} {dA : DA}
theorem pd_gfn {x : Str} (hg : Gl X x) (hm : X.mg x = some (.ref (He.ga X.K x))) (hd : (x == ("__debug__" : Str)) = false := by decide) : PE X (.Name x p) (upE X.K B (dC (.fnc x))) :=
  pe_imp (pe_glob (v := .ref (He.ga X.K x)) hg hm rfl hd) fun σ H Q ⟨ρ, Hd, G, R, at_, h, k⟩ => k (.ref _) H Hd (.fnc x) G (Ex.refl _) at_.s (.fnc x) h
theorem pd_callF {k i : Nat} {a : Str} {fs : List (Str × DSp)} {RX : XD} {E : XK} (hN : X.N[i]? = some a) (hv : Vis X.env.scope a) (hf : ∀ p ∈ fs, KnF X.prog X.w X.K X.mg X.base k p.1 p.2) (hr : Room k X.A) (hgd : X.A.guards = some []) (hx : Passes (L2.CX X.prog X.w) X E) (kx : ∀ Hd, Ex B.b Hd → KX X.K B.f Hd RX E)
    (ha : PA X (e :: es) (upA X.K B dA)) (hd : (a == ("__debug__" : Str)) = false := by decide) (hcd : (a == ("__classdict__" : Str)) = false := by decide) (he : starEach (e :: es) X.env = (false, eval e X.env) :: starEach es X.env := by rfl) (hpl : (backTo pos (starEach es X.env)).any (·.1) = false := by rfl) :
    PE X (.Call (.Name a p) (e :: es) [] pos) (upE X.K B (dCallF i fs RX dA)) := by
  refine ⟨fun pins s σ H Q I ⟨ρ, Hd, G, R, at_, ⟨x, q, hi, hm, h⟩, k0⟩ => ?_⟩
  obtain ⟨st, ps, K1, hb⟩ := hf (x, q) hm
  obtain ⟨fd, FD, FG⟩ := K1.fn
  have hs : σ[i]? = some (some (.ref (He.ga X.K x))) := by
    obtain ⟨v, e1, r⟩ := at_.e.2 i _ hi
    cases r
    exact e1
  refine wpAny_Call_Name_kw (thn ((pe_var (pos := p) (i := i) hN hv hd hcd).run pins s σ H (fun v H1 => v = .ref (He.ga X.K x) ∧ H1 = H) I ⟨_, hs, rfl, rfl⟩) fun u s1 ⟨v, H1, I1, r1, ev, eH⟩ => ?_)
  subst ev eH
  cases (show u = Value.ref (He.ga X.K x) from r1)
  have wish : upA X.K B dA σ H1 fun vs H2 => spU X.K q vs H2 Q E := ⟨ρ, Hd, G, _, at_, h, fun vs H2 Hd2 xs G2 e2 s2 r2 h2 => ⟨xs, B.f, Hd2, G2, R, RX, r2, s2, h2, k0.mono e2, kx Hd2 (at_.b.trans e2)⟩⟩
  refine PySem.W.callWith_K (h₀ := X.base) I1.ok.mod.kin FD.kp (thn (ha.run pos pins s1 σ H1 _ I1 wish) fun us s2 hh => ?_) he hpl
  obtain ⟨vs, H2, I2, r2, q2⟩ := hh
  have hl : us.length = ps.length := by rw [← r2.length]; exact FG.len _ _ _ _ q2
  have hb1 := FD.bindsN hb s2 us I2.kIn (by rw [List.append_nil]; exact hl)
  rw [List.append_nil] at hb1
  refine ⟨I2.kIn, wpAny_call (codeAny_mono (run_fng FG hr hgd hx I2 hb1 r2 q2) fun r s3 hq => ?_)⟩
  cases r with
  | error e => exact hq
  | ok fl => cases fl <;> first | exact hq | exact hq.elim
end
end DL

/-! DL36: // by any divisor; lowest terms of any two. -/
namespace DL
open PySem PySem.Spec PyProof.Rows L2 Evl
variable [TabC]
def CDivZ (_ j : Int) : Prop := j ≠ 0 ∧ j.natAbs.log2 < 9000
theorem op_fdivZ {X : Cx} : OpR X (binaryOp .FloorDiv) (rI CDivZ fun i j => .int (Int.fdiv i j)) := opI fun i j _ _ _ _ _ hc q => floordiv_int hc.1 q (.inl (PyProof.noPylong_of_log2 hc.2))
theorem pd_fdivZ {X : Cx} {B : Bs} {pos : Pos} {a b : Expr} {da db : DE} (ha : PE X a (upE X.K B da)) (hb : PE X b (upE X.K B db)) : PE X (.BinOp a .FloorDiv b pos) (upE X.K B (dOp (fIntC CDivZ fun i j => .int (Int.fdiv i j)) da db)) := pd_op op_fdivZ od_intC ha hb
theorem divZ_ok {i j : Int} (h : j ≠ 0) (hb : j.natAbs < 2 ^ 8000) : CDivZ i j := ⟨h, Nat.lt_of_lt_of_le (PySem.Flt.log2_lt_of (by decide) hb) (by decide)⟩
/-- a / u in lowest terms -/
def lowZ (a u : Int) : D := if 0 < u then lowD a u else lowD (-a) (-u)
def pairZ (n d : Int) : D := if d = 1 then .int n else .tup [.int n, .int d]
/-- the divisor with the under's sign -/
def sgZ (a u : Int) : Int := if 0 < u then (Int.gcd a u : Int) else -(Int.gcd a u : Int)
theorem lowZ_facts {a u : Int} (hu : u ≠ 0) : ∃ n d : Int, sgZ a u ≠ 0 ∧ (sgZ a u).natAbs ≤ u.natAbs ∧ a = sgZ a u * n ∧ u = sgZ a u * d ∧ 0 < d ∧ Int.gcd n d = 1 ∧ lowZ a u = pairZ n d := by
  by_cases h : 0 < u
  · obtain ⟨g, n, d, eg, g0, ea, eu, d0, e1, e2, e3, e4⟩ := gcd_facts (a := a) h
    have es : sgZ a u = g := (if_pos h).trans eg
    refine ⟨n, d, by rw [es]; omega, by rw [es]; omega, by rw [es]; exact ea, by rw [es]; exact eu, d0, e3, ?_⟩
    unfold lowZ lowD pairZ
    rw [if_pos h, eg, e1, e2]
  · have h2 : 0 < -u := by omega
    obtain ⟨g, n, d, eg, g0, ea, eu, d0, e1, e2, e3, e4⟩ := gcd_facts (a := -a) h2
    have eg2 : (Int.gcd a u : Int) = g := by
      rw [← eg, Int.gcd_neg, Int.neg_gcd]
    have es : sgZ a u = -g := (if_neg h).trans (by rw [eg2])
    refine ⟨n, d, by rw [es]; omega, by rw [es]; omega, ?_, ?_, d0, e3, ?_⟩
    · rw [es, Int.neg_mul]
      omega
    · rw [es, Int.neg_mul]
      omega
    · unfold lowZ lowD pairZ
      rw [if_neg h, eg, e1, e2]
theorem numI_pair {n d : Int} : numI (pairZ n d) = (n, d) := by
  unfold pairZ
  by_cases h : d = 1
  · rw [if_pos h, h]
    rfl
  · rw [if_neg h]
    rfl
theorem numD_pair {n d : Int} (h0 : 0 < d) (hg : Int.gcd n d = 1) : numD (pairZ n d) = true := by
  unfold pairZ
  by_cases h : d = 1
  · rw [if_pos h]
    rfl
  · rw [if_neg h]
    show (decide (2 ≤ d) && decide (Int.gcd n d = 1)) = true
    rw [decide_eq_true (by omega), decide_eq_true hg]
    rfl
theorem dvd_gcd1 {d n e : Int} (h : d ∣ n * e) (c : Int.gcd d n = 1) : d ∣ e := by
  have h2 := Int.natAbs_dvd_natAbs.mpr h
  rw [Int.natAbs_mul] at h2
  have c2 : Nat.Coprime d.natAbs n.natAbs := c
  exact Int.natAbs_dvd_natAbs.mp (c2.dvd_of_dvd_mul_left h2)
/-- the same ratio, the same lowest terms -/
theorem pair_eq {n d m e : Int} (hd : 0 < d) (he : 0 < e) (g1 : Int.gcd n d = 1) (g2 : Int.gcd m e = 1) (h : n * e = m * d) : n = m ∧ d = e := by
  have c1 : Int.gcd d n = 1 := by rw [Int.gcd_comm]; exact g1
  have c2 : Int.gcd e m = 1 := by rw [Int.gcd_comm]; exact g2
  have d1 : d ∣ e := dvd_gcd1 (show d ∣ n * e from ⟨m, by rw [h, Int.mul_comm]⟩) c1
  have d2 : e ∣ d := dvd_gcd1 (show e ∣ m * d from ⟨n, by rw [← h, Int.mul_comm]⟩) c2
  have q : d = e := Int.dvd_antisymm (by omega) (by omega) d1 d2
  subst q
  exact ⟨Int.eq_of_mul_eq_mul_right (by omega) h, rfl⟩
theorem lowZ_eq {a u b v : Int} (hu : u ≠ 0) (hv : v ≠ 0) (h : a * v = b * u) : lowZ a u = lowZ b v := by
  obtain ⟨n, d, s0, _, ea, eu, d0, g1, l1⟩ := lowZ_facts (a := a) hu
  obtain ⟨m, e, t0, _, eb, ev, e0, g2, l2⟩ := lowZ_facts (a := b) hv
  generalize sgZ a u = s at *
  generalize sgZ b v = t at *
  have k : (s * t) * (n * e) = (s * t) * (m * d) := by
    rw [ea, eu, eb, ev] at h
    grind
  have k2 := Int.eq_of_mul_eq_mul_left (Int.mul_ne_zero s0 t0) k
  obtain ⟨q1, q2⟩ := pair_eq d0 e0 g1 g2 k2
  rw [l1, l2, q1, q2]
def sp_lowZ : DSp := fun xs G R _ => ∃ a u : Int, xs = [.int a, .int u] ∧ u ≠ 0 ∧ u.natAbs < 2 ^ 8000 ∧ R (lowZ a u) G
def lowZR : DS := (dSeq (dSet 2 (dIf (dTst (dOp (fInt gGt) (dVar 1) (dC (.int 0)))) (dCall sp_common X0 (dCons (dVar 0) (dCons (dVar 1) dNil))) (dNeg (dCall sp_common X0 (dCons (dVar 0) (dCons (dVar 1) dNil)))))) (dRet (dIf (dTst (dOp fEq (dOp (fIntC CDivZ fun i j => .int (Int.fdiv i j)) (dVar 1) (dVar 2)) (dC (.int 1)))) (dOp (fIntC CDivZ fun i j => .int (Int.fdiv i j)) (dVar 0) (dVar 2)) (dTup (dCons (dOp (fIntC CDivZ fun i j => .int (Int.fdiv i j)) (dVar 0) (dVar 2)) (dCons (dOp (fIntC CDivZ fun i j => .int (Int.fdiv i j)) (dVar 1) (dVar 2)) dNil))))))
theorem Ev.divZ {ρ : En} {G : Gm} {da db : DE} {i j k : Int} (ha : Ev da ρ G (.int i)) (hb : Ev db ρ G (.int j)) (hc : CDivZ i j) (e : i = j * k) : Ev (dOp (fIntC CDivZ fun i j => .int (Int.fdiv i j)) da db) ρ G (.int k) := by
  have q : Int.fdiv i j = k := by
    rw [e]
    exact Int.mul_fdiv_cancel_left k hc.1
  have r := Ev.intC (C := CDivZ) (g := fun i j => .int (Int.fdiv i j)) ha hb hc
  rw [q] at r
  exact r
theorem lowZ_ok (xs : List D) (G : Gm) (R : KD) (RX : XD) (h : sp_lowZ xs G R RX) : lowZR { nx := fun _ G => R .non G, rt := R } (xs.map some ++ List.replicate (3 - xs.length) none) G := by
  obtain ⟨a, u, rfl, hu, hu2, h⟩ := h
  obtain ⟨n, d, s0, sl, ea, eu, d0, g1, l1⟩ := lowZ_facts (a := a) hu
  have cz : ∀ i, CDivZ i (sgZ a u) := fun i => divZ_ok s0 (Nat.lt_of_le_of_lt sl hu2)
  refine ds_set (x := .int (sgZ a u)) ?_ ?_
  · by_cases hp : 0 < u
    · rw [show sgZ a u = (Int.gcd a u : Int) from if_pos hp]
      exact .ifT ((EvT.tst (.gt (.var rfl) .c)).cast (decide_eq_true hp)) (.common (.var rfl) (.var rfl))
    · rw [show sgZ a u = -(Int.gcd a u : Int) from if_neg hp]
      exact .ifF ((EvT.tst (.gt (.var rfl) .c)).cast (decide_eq_false hp)) (.neg (.common (.var rfl) (.var rfl)))
  · rw [l1] at h
    generalize sgZ a u = s at *
    refine ds_ret (x := pairZ n d) (.chosen (.tst (.eqI (.divZ (.var rfl) (.var rfl) (cz u) eu) .c)) (fun hk => ?_) fun hk => ?_) h
    · unfold pairZ
      rw [if_pos (of_decide_eq_true hk)]
      exact .divZ (.var rfl) (.var rfl) (cz a) ea
    · unfold pairZ
      rw [if_neg (of_decide_eq_false hk)]
      exact .tup (.cons (.divZ (.var rfl) (.var rfl) (cz a) ea) (.one (.divZ (.var rfl) (.var rfl) (cz u) eu))) (show 2 ≤ sizeLine by decide)
end DL

/-! DL37: reckoning with numbers. -/
namespace DL
open PySem PySem.Spec PyProof.Rows L2 Evl
variable [TabC]
theorem num_cop {x : D} (h : numD x = true) : Int.gcd (numI x).1 (numI x).2 = 1 := by
  have key : ∀ ds : List D, ratD (pairD ds) = true → Int.gcd ((pairD ds).getD (0, 1)).1 ((pairD ds).getD (0, 1)).2 = 1 := by
    intro ds hr
    cases q : pairD ds with
    | none =>
      rw [q] at hr
      cases hr
    | some p =>
      obtain ⟨a, b⟩ := p
      rw [q] at hr
      have h2 : (decide (2 ≤ b) && decide (Int.gcd a b = 1)) = true := hr
      rw [Bool.and_eq_true] at h2
      exact of_decide_eq_true h2.2
  cases x with
  | int i => exact Int.gcd_one_right i
  | tup ds => exact key ds h
  | lst ds => exact key ds h
  | _ => cases h
theorem lowZ_cop {p q : Int} (hq : 0 < q) (hg : Int.gcd p q = 1) : lowZ p q = pairZ p q := by
  obtain ⟨n, d, s0, _, ea, eu, d0, g1, l1⟩ := lowZ_facts (a := p) (show q ≠ 0 by omega)
  have es : sgZ p q = 1 := (if_pos hq).trans (by rw [hg]; rfl)
  rw [es, Int.one_mul] at ea eu
  rw [l1, ← ea, ← eu]
/-- what a ratio in lowest terms is -/
theorem lowZ_num {a u : Int} (hu : u ≠ 0) : numD (lowZ a u) = true ∧ 0 < (numI (lowZ a u)).2 ∧ (numI (lowZ a u)).1 * u = a * (numI (lowZ a u)).2 := by
  obtain ⟨n, d, s0, _, ea, eu, d0, g1, l1⟩ := lowZ_facts (a := a) hu
  rw [l1, numI_pair]
  refine ⟨numD_pair d0 g1, d0, ?_⟩
  show n * u = a * d
  generalize sgZ a u = s at *
  rw [ea, eu]
  grind
theorem lowZ_bn {a u : Int} {k : Nat} (hu : u ≠ 0) (h : a.natAbs < 2 ^ k) (h' : u.natAbs < 2 ^ k) : Bn k (lowZ a u) := by
  obtain ⟨n, d, s0, _, ea, eu, d0, g1, l1⟩ := lowZ_facts (a := a) hu
  unfold Bn
  rw [l1, numI_pair]
  generalize sgZ a u = s at *
  have ha : a.natAbs = s.natAbs * n.natAbs := by rw [ea, Int.natAbs_mul]
  have hu' : u.natAbs = s.natAbs * d.natAbs := by rw [eu, Int.natAbs_mul]
  have hs : 1 ≤ s.natAbs := by omega
  have h1 : n.natAbs ≤ s.natAbs * n.natAbs := Nat.le_mul_of_pos_left _ hs
  have h2 : d.natAbs ≤ s.natAbs * d.natAbs := Nat.le_mul_of_pos_left _ hs
  exact ⟨show n.natAbs < 2 ^ k by omega, show d.natAbs < 2 ^ k by omega⟩
theorem lowZ_kn {a u : Int} (hu : u ≠ 0) : (lowZ a u).kn = true := by
  obtain ⟨n, d, _, _, _, _, _, _, l1⟩ := lowZ_facts (a := a) hu
  rw [l1]
  unfold pairZ
  split <;> rfl
/-- a number is its own lowest terms -/
theorem lowZ_self {x : D} (h : numD x = true) : lowZ (numI x).1 (numI x).2 = pairZ (numI x).1 (numI x).2 := lowZ_cop (num_half h).2 (num_cop h)
def lawLowZR : DS := (dSeq (dPar 2 3 (dCons (dCal fAbs (dCons (dVar 0) dNil)) (dCons (dCal fAbs (dCons (dVar 1) dNil)) dNil))) (dSeq (dWhile (dTst (dOp (fInt gGt) (dVar 3) (dC (.int 0)))) (dPar 2 3 (dCons (dVar 3) (dCons (dOp (fIntC (fun _ j => 0 < j) fun i j => .int (i % j)) (dCal fIntOf (dCons (dVar 2) dNil)) (dVar 3)) dNil)))) (dSeq (dSet 2 (dIf (dTst (dOp (fInt gGt) (dVar 1) (dC (.int 0)))) (dVar 2) (dNeg (dVar 2)))) (dRet (dIf (dTst (dOp fEq (dOp (fIntC CDivZ fun i j => .int (Int.fdiv i j)) (dCal fIntOf (dCons (dVar 1) dNil)) (dVar 2)) (dC (.int 1)))) (dOp (fIntC CDivZ fun i j => .int (Int.fdiv i j)) (dCal fIntOf (dCons (dVar 0) dNil)) (dVar 2)) (dTup (dCons (dOp (fIntC CDivZ fun i j => .int (Int.fdiv i j)) (dCal fIntOf (dCons (dVar 0) dNil)) (dVar 2)) (dCons (dOp (fIntC CDivZ fun i j => .int (Int.fdiv i j)) (dCal fIntOf (dCons (dVar 1) dNil)) (dVar 2)) dNil))))))))
theorem lawLowZ_ok (xs : List D) (G : Gm) (R : KD) (RX : XD) (h : sp_lowZ xs G R RX) : lawLowZR { nx := fun _ G => R .non G, rt := R } (xs.map some ++ List.replicate (4 - xs.length) none) G := by
  obtain ⟨a, u, rfl, hu, hu2, h⟩ := h
  obtain ⟨n, d, s0, sl, ea, eu, d0, g1, l1⟩ := lowZ_facts (a := a) hu
  have cz : ∀ i, CDivZ i (sgZ a u) := fun i => divZ_ok s0 (Nat.lt_of_le_of_lt sl hu2)
  refine ds_par (.absN (.var rfl)) (.absN (.var rfl)) ?_
  refine while_gcd2 (p := a.natAbs) (q := u.natAbs) (by decide) (fun ρ G p h => .intOf (.var h)) rfl rfl fun ρ' r2 ho => ?_
  have r0 : ρ'[0]? = some (some (.int a)) := ho 0 (by decide) (by decide)
  have r1 : ρ'[1]? = some (some (.int u)) := ho 1 (by decide) (by decide)
  have eg' : ((Nat.gcd a.natAbs u.natAbs : Nat) : Int) = (Int.gcd a u : Int) := rfl
  rw [eg'] at r2
  have l2 : 2 < ρ'.length := (List.getElem?_eq_some_iff.mp r2).1
  dsimp only
  refine ds_set (x := .int (sgZ a u)) ?_ ?_
  · by_cases hp : 0 < u
    · rw [show sgZ a u = (Int.gcd a u : Int) from if_pos hp]
      exact .ifT ((EvT.tst (.gt (.var r1) .c)).cast (decide_eq_true hp)) (.var r2)
    · rw [show sgZ a u = -(Int.gcd a u : Int) from if_neg hp]
      exact .ifF ((EvT.tst (.gt (.var r1) .c)).cast (decide_eq_false hp)) (.neg (.var r2))
  · rw [l1] at h
    generalize sgZ a u = s at *
    have q0 : (ρ'.set 2 (some (.int s)))[0]? = some (some (.int a)) := by rw [List.getElem?_set_ne (by decide)]; exact r0
    have q1 : (ρ'.set 2 (some (.int s)))[1]? = some (some (.int u)) := by rw [List.getElem?_set_ne (by decide)]; exact r1
    have q2 : (ρ'.set 2 (some (.int s)))[2]? = some (some (.int s)) := List.getElem?_set_self l2
    refine ds_ret (x := pairZ n d) (.chosen (.tst (.eqI (.divZ (.intOf (.var q1)) (.var q2) (cz u) eu) .c)) (fun hk => ?_) fun hk => ?_) h
    · unfold pairZ
      rw [if_pos (of_decide_eq_true hk)]
      exact .divZ (.intOf (.var q0)) (.var q2) (cz a) ea
    · unfold pairZ
      rw [if_neg (of_decide_eq_false hk)]
      exact .tup (.cons (.divZ (.intOf (.var q0)) (.var q2) (cz a) ea) (.one (.divZ (.intOf (.var q1)) (.var q2) (cz u) eu))) (show 2 ≤ sizeLine by decide)
/-! ### the package -/
def plusZ (x y : D) : D := lowZ ((numI x).1 * (numI y).2 + (numI y).1 * (numI x).2) ((numI x).2 * (numI y).2)
def minusZ (x y : D) : D := lowZ ((numI x).1 * (numI y).2 - (numI y).1 * (numI x).2) ((numI x).2 * (numI y).2)
def timesZ (x y : D) : D := lowZ ((numI x).1 * (numI y).1) ((numI x).2 * (numI y).2)
def overZ (x y : D) : D := lowZ ((numI x).1 * (numI y).2) ((numI x).2 * (numI y).1)
def sp_2 (k : Nat) (f : D → D → D) : DSp := fun xs G R _ => ∃ x y : D, xs = [x, y] ∧ numD x = true ∧ numD y = true ∧ Bn k x ∧ Bn k y ∧ R (f x y) G
def halvesA (t : DS) : DS := (dSeq (dAsg (dTup (dCons (dCall sp_halves X0 (dCons (dVar 0) dNil)) (dCons (dCall sp_halves X0 (dCons (dVar 1) dNil)) dNil))) (gSeq 2 (gCons (gSeq 2 (gCons (gN 2) (gCons (gN 3) gNil))) (gCons (gSeq 2 (gCons (gN 4) (gCons (gN 5) gNil))) gNil)))) t)
theorem halvesA_ok {x y : D} {t : DS} {E : DEnds} {G : Gm} (nx : numD x = true) (ny : numD y = true) (h : t E [some x, some y, some (.int (numI x).1), some (.int (numI x).2), some (.int (numI y).1), some (.int (numI y).2)] G) : halvesA t E [some x, some y, none, none, none, none] G := by
  obtain ⟨ex, px⟩ := num_half nx
  obtain ⟨ey, py⟩ := num_half ny
  refine ds_asg (.tup (.cons (.halves (.var rfl) nx) (.one (.halves (.var rfl) ny))) (show 2 ≤ sizeLine by decide)) ?_
  rw [ex, ey]
  refine ⟨_, seq_tup, rfl, _, _, rfl, ⟨_, seq_tup, rfl, _, _, rfl, _, _, rfl, rfl, ?_⟩⟩
  refine ⟨_, _, rfl, ⟨_, seq_tup, rfl, _, _, rfl, _, _, rfl, rfl, ?_⟩⟩
  exact ⟨rfl, h⟩
theorem Ev.lowZ {ρ : En} {G : Gm} {da db : DE} {a u : Int} (h : Ev da ρ G (.int a)) (h' : Ev db ρ G (.int u)) (hu : u ≠ 0) (hu2 : u.natAbs < 2 ^ 8000) : Ev (dCall sp_lowZ X0 (dCons da (dCons db dNil))) ρ G (lowZ a u) := .call (.cons h (.one h')) fun R r => ⟨a, u, rfl, hu, hu2, r⟩
theorem bn_mul {x y : Int} (hx : x.natAbs < 2 ^ 3000) (hy : y.natAbs < 2 ^ 3000) : (x * y).natAbs < 2 ^ 8000 := by
  rw [Int.natAbs_mul]
  refine Nat.lt_of_lt_of_le (Nat.mul_lt_mul'' hx hy) ?_
  rw [← Nat.pow_add]
  exact Nat.pow_le_pow_right (by decide) (by decide)
def plusZR : DS := halvesA (dRet (dCall sp_lowZ X0 (dCons (dOp fAdd (dOp (fIntC IntMulOk fun i j => .int (i * j)) (dVar 2) (dVar 5)) (dOp (fIntC IntMulOk fun i j => .int (i * j)) (dVar 4) (dVar 3))) (dCons (dOp (fIntC IntMulOk fun i j => .int (i * j)) (dVar 3) (dVar 5)) dNil))))
theorem plusZ_ok (xs : List D) (G : Gm) (R : KD) (RX : XD) (h : sp_2 3000 plusZ xs G R RX) : plusZR { nx := fun _ G => R .non G, rt := R } (xs.map some ++ List.replicate (6 - xs.length) none) G := by
  obtain ⟨x, y, rfl, nx, ny, bx, by_, h⟩ := h
  have px := (num_half nx).2
  have py := (num_half ny).2
  refine halvesA_ok nx ny ?_
  exact ds_ret (.lowZ (.add (.mul (.var rfl) (.var rfl) (mul_both bx.1 by_.2 (by decide))) (.mul (.var rfl) (.var rfl) (mul_both by_.1 bx.2 (by decide)))) (.mul (.var rfl) (.var rfl) (mul_both bx.2 by_.2 (by decide))) (Int.mul_ne_zero (by omega) (by omega)) (bn_mul bx.2 by_.2)) h
def timesZR : DS := halvesA (dRet (dCall sp_lowZ X0 (dCons (dOp (fIntC IntMulOk fun i j => .int (i * j)) (dVar 2) (dVar 4)) (dCons (dOp (fIntC IntMulOk fun i j => .int (i * j)) (dVar 3) (dVar 5)) dNil))))
theorem timesZ_ok (xs : List D) (G : Gm) (R : KD) (RX : XD) (h : sp_2 3000 timesZ xs G R RX) : timesZR { nx := fun _ G => R .non G, rt := R } (xs.map some ++ List.replicate (6 - xs.length) none) G := by
  obtain ⟨x, y, rfl, nx, ny, bx, by_, h⟩ := h
  have px := (num_half nx).2
  have py := (num_half ny).2
  refine halvesA_ok nx ny ?_
  exact ds_ret (.lowZ (.mul (.var rfl) (.var rfl) (mul_both bx.1 by_.1 (by decide))) (.mul (.var rfl) (.var rfl) (mul_both bx.2 by_.2 (by decide))) (Int.mul_ne_zero (by omega) (by omega)) (bn_mul bx.2 by_.2)) h
def sp_overZ : DSp := fun xs G R _ => ∃ x y : D, xs = [x, y] ∧ numD x = true ∧ numD y = true ∧ Bn 3000 x ∧ Bn 3000 y ∧ (numI y).1 ≠ 0 ∧ R (overZ x y) G
def overZR : DS := halvesA (dRet (dCall sp_lowZ X0 (dCons (dOp (fIntC IntMulOk fun i j => .int (i * j)) (dVar 2) (dVar 5)) (dCons (dOp (fIntC IntMulOk fun i j => .int (i * j)) (dVar 3) (dVar 4)) dNil))))
theorem overZ_ok (xs : List D) (G : Gm) (R : KD) (RX : XD) (h : sp_overZ xs G R RX) : overZR { nx := fun _ G => R .non G, rt := R } (xs.map some ++ List.replicate (6 - xs.length) none) G := by
  obtain ⟨x, y, rfl, nx, ny, bx, by_, hy, h⟩ := h
  have px := (num_half nx).2
  refine halvesA_ok nx ny ?_
  exact ds_ret (.lowZ (.mul (.var rfl) (.var rfl) (mul_both bx.1 by_.2 (by decide))) (.mul (.var rfl) (.var rfl) (mul_both bx.2 by_.1 (by decide))) (Int.mul_ne_zero (by omega) hy) (bn_mul bx.2 by_.1)) h
def minusZR : DS := (dRet (dCall (sp_2 3000 plusZ) X0 (dCons (dVar 0) (dCons (dCall (sp_2 3000 timesZ) X0 (dCons (dVar 1) (dCons (dNeg (dC (.int 1))) dNil))) dNil))))
theorem timesZ_neg {y : D} (ny : numD y = true) : timesZ y (.int (-1)) = pairZ (-(numI y).1) (numI y).2 := by
  show lowZ ((numI y).1 * -1) ((numI y).2 * 1) = _
  rw [Int.mul_one, show (numI y).1 * -1 = -(numI y).1 by omega]
  exact lowZ_cop (num_half ny).2 (by rw [Int.neg_gcd]; exact num_cop ny)
theorem minusZ_ok (xs : List D) (G : Gm) (R : KD) (RX : XD) (h : sp_2 3000 minusZ xs G R RX) : minusZR { nx := fun _ G => R .non G, rt := R } (xs.map some ++ List.replicate (2 - xs.length) none) G := by
  obtain ⟨x, y, rfl, nx, ny, bx, by_, h⟩ := h
  have e := timesZ_neg ny
  have py := (num_half ny).2
  have e1 : Ev (dCall (sp_2 3000 timesZ) X0 (dCons (dVar 1) (dCons (dNeg (dC (.int 1))) dNil))) [some x, some y] G (timesZ y (.int (-1))) :=
    .call (.cons (.var rfl) (.one (.neg .c))) fun R r => ⟨y, .int (-1), rfl, ny, rfl, by_, ⟨Nat.lt_of_lt_of_le (show (-1 : Int).natAbs < 2 ^ 1 by decide) (Nat.pow_le_pow_right (by decide) (by decide)), Nat.lt_of_lt_of_le (show (1 : Int).natAbs < 2 ^ 1 by decide) (Nat.pow_le_pow_right (by decide) (by decide))⟩, r⟩
  rw [e] at e1
  have em : plusZ x (pairZ (-(numI y).1) (numI y).2) = minusZ x y := by
    unfold plusZ minusZ
    rw [numI_pair]
    show lowZ ((numI x).1 * (numI y).2 + -(numI y).1 * (numI x).2) ((numI x).2 * (numI y).2) = _
    rw [Int.neg_mul, ← Int.sub_eq_add_neg]
  refine ds_ret (x := minusZ x y) (.call (.cons (.var rfl) (.one e1)) fun R r => ⟨x, _, rfl, nx, numD_pair py (by rw [Int.neg_gcd]; exact num_cop ny), bx, ?_, by rw [em]; exact r⟩) h
  unfold Bn
  rw [numI_pair]
  exact ⟨by show (-(numI y).1).natAbs < _; rw [Int.natAbs_neg]; exact by_.1, by_.2⟩
/-! ### what the package tells or refuses -/
def sp_fracX : DSp := fun xs G R RX => ∃ x p, xs = [x, .str p] ∧ x.kn = true ∧ p.length ≤ 10000 ∧ (numD x = true → R (keptD x) G) ∧ (numD x = false → RX "BadFraction" ["part"] [.str p] G)
def fracXR (RX : XD) : DS := (dSeq (dIfS (dNot (dTst (dCall sp_is_number X0 (dCons (dVar 0) dNil)))) (dRaise "BadFraction" ["part"] [true] RX (dCons (dVar 1) dNil)) dNext) (dRet (dCall sp_kept_number X0 (dCons (dVar 0) dNil))))
theorem fracX_ok (xs : List D) (G : Gm) (R : KD) (RX : XD) (h : sp_fracX xs G R RX) : fracXR RX { nx := fun _ G => R .non G, rt := R } (xs.map some ++ List.replicate (2 - xs.length) none) G := by
  obtain ⟨x, p, rfl, hk, hp, hy, hn⟩ := h
  refine ds_if (EvT.not (.tst (.isNumber (.var rfl) hk))) ?_
  cases q : numD x with
  | false => exact ds_raise1 (.var rfl) hp (hn q)
  | true => exact ds_ret (.call (.one (.var rfl)) fun R r => ⟨x, rfl, hk, r⟩) (hy q)
end DL

/-! DL38: the numbers' defs, as they tell or refuse. -/
namespace DL
open PySem PySem.Spec PyProof.Rows L2 Evl
variable [TabC]
/-! the least common under -/
def den (q : D) : Nat := (numI q).2.toNat
def lcmL (m : Nat) (qs : List D) : Nat := qs.foldl (fun m q => Nat.lcm m (den q)) m
theorem lcm_le {m n : Nat} : Nat.lcm m n ≤ m * n := Nat.div_le_self _ _
theorem lcmL_pos : ∀ {qs : List D} {m : Nat}, 0 < m → (∀ q ∈ qs, 0 < den q) → 0 < lcmL m qs
  | [], _, h, _ => h
  | q :: qs, m, h, hq => lcmL_pos (qs := qs) (Nat.lcm_pos h (hq q List.mem_cons_self)) fun r hr => hq r (List.mem_cons_of_mem _ hr)
theorem lcmL_dvd0 : ∀ {qs : List D} {m : Nat}, m ∣ lcmL m qs
  | [], _ => Nat.dvd_refl _
  | q :: qs, m => Nat.dvd_trans (Nat.dvd_lcm_left m (den q)) (lcmL_dvd0 (qs := qs))
theorem lcmL_dvd : ∀ {qs : List D} {m : Nat} {q : D}, q ∈ qs → den q ∣ lcmL m qs
  | [], _, _, h => nomatch h
  | r :: qs, m, q, h => by
    rcases List.mem_cons.mp h with e | e
    · rw [e]
      exact Nat.dvd_trans (Nat.dvd_lcm_right m (den r)) (lcmL_dvd0 (qs := qs))
    · exact lcmL_dvd (qs := qs) e
theorem lcmL_min {k : Nat} : ∀ {qs : List D} {m : Nat}, m ∣ k → (∀ q ∈ qs, den q ∣ k) → lcmL m qs ∣ k
  | [], _, h, _ => h
  | q :: qs, m, h, hq => lcmL_min (qs := qs) (Nat.lcm_dvd h (hq q List.mem_cons_self)) fun r hr => hq r (List.mem_cons_of_mem _ hr)
theorem lcmL_le {B : Nat} (hB : 1 ≤ B) : ∀ {qs : List D} {m : Nat}, (∀ q ∈ qs, den q ≤ B) → lcmL m qs ≤ m * B ^ qs.length
  | [], m, _ => by
    show m ≤ m * 1
    omega
  | q :: qs, m, h => by
    refine Nat.le_trans (lcmL_le hB (qs := qs) fun r hr => h r (List.mem_cons_of_mem _ hr)) ?_
    rw [List.length_cons, Nat.pow_succ', ← Nat.mul_assoc]
    exact Nat.mul_le_mul_right _ (Nat.le_trans lcm_le (Nat.mul_le_mul_left m (h q List.mem_cons_self)))
theorem lcmL_map {f : D → D} : ∀ {qs : List D} {m : Nat}, (∀ q ∈ qs, numI (f q) = numI q) → lcmL m (qs.map f) = lcmL m qs
  | [], _, _ => rfl
  | q :: qs, m, h => by
    show lcmL (Nat.lcm m (den (f q))) (qs.map f) = lcmL (Nat.lcm m (den q)) qs
    have e : den (f q) = den q := by
      unfold den
      rw [h q List.mem_cons_self]
    rw [e]
    exact lcmL_map fun r hr => h r (List.mem_cons_of_mem _ hr)
theorem lcm_int {m n : Nat} : ((m : Int) * n) / (Int.gcd m n : Int) = (Nat.lcm m n : Nat) := by
  unfold Nat.lcm
  rw [Int.gcd_natCast_natCast]
  push_cast
  rfl
theorem den_num {d : D} (h : numD d = true) : (den d : Int) = (numI d).2 ∧ 0 < den d := by
  have := (num_half h).2
  unfold den
  omega
theorem lcm_turn {ρ : En} {G : Gm} {da db : DE} {m u : Nat} (ha : Ev da ρ G (.int m)) (hb : Ev db ρ G (.int u)) (hm : 0 < m) (h1 : m < 2 ^ 7000) (h2 : u < 2 ^ 3000) (hu : 0 < u) : Ev (dOp (fIntC CDivW fun i j => .int (i / j)) (dOp (fIntC IntMulOk fun i j => .int (i * j)) da db) (dCall DL.sp_common X0 (dCons da (dCons db dNil)))) ρ G (.int (Nat.lcm m u : Nat)) := by
  refine (Ev.fdiv (.mul ha hb (mul_both (a := 7000) (b := 3000) (by rw [Int.natAbs_natCast]; exact h1) (by rw [Int.natAbs_natCast]; exact h2) (by decide))) (.common ha hb) (div_ok ?_ ?_)).cast (by rw [lcm_int])
  · rw [Int.gcd_natCast_natCast]
    have := Nat.gcd_pos_of_pos_left u hm
    omega
  · rw [Int.gcd_natCast_natCast]
    have e1 : Nat.gcd m u ≤ u := Nat.gcd_le_right m hu
    have e2 : (2 : Nat) ^ 3000 ≤ 2 ^ 8000 := Nat.pow_le_pow_right (by decide) (by decide)
    have e3 : Nat.gcd m u < 2 ^ 8000 := by omega
    exact_mod_cast e3

def sp_least3 : DSp := fun xs G R _ => ∃ (x : D) (ds : List D), xs = [x] ∧ (x = .lst ds ∨ x = .tup ds) ∧ Nms 1000 ds ∧ ds.length ≤ 3 ∧ R (.int (lcmL 1 ds)) G
def leastR : DS := (dSeq (dSet 1 (dC (.int 1))) (dSeq (dFor (dISeq (dVar 0)) (gN 2) (dSeq (dSet 3 (dIx (dCall sp_halves X0 (dCons (dVar 2) dNil)) (dC (.int 1)))) (dSet 1 (dOp (fIntC CDivW fun i j => .int (i / j)) (dOp (fIntC IntMulOk fun i j => .int (i * j)) (dVar 1) (dVar 3)) (dCall sp_common X0 (dCons (dVar 1) (dCons (dVar 3) dNil))))))) (dRet (dVar 1))))
theorem least_ok (xs : List D) (G : Gm) (R : KD) (RX : XD) (h : sp_least3 xs G R RX) : leastR { nx := fun _ G => R .non G, rt := R } (xs.map some ++ List.replicate (4 - xs.length) none) G := by
  obtain ⟨x, ds, rfl, hx, hn, hl, h⟩ := h
  refine ds_set .c ?_
  refine ⟨x, rfl, ds, hx, ?_⟩
  refine forL_at (fun rest ρ G' => (∃ (m : Nat) (o2 o3 : Option D), ρ = [some x, some (.int m), o2, o3] ∧ 0 < m ∧ lcmL m rest = lcmL 1 ds ∧ m * (2 ^ 1000) ^ rest.length ≤ (2 ^ 1000) ^ 3) ∧ G' = G) ?_ ?_ ?_
  · rintro y rest N ρ G1 hsuf hN ⟨⟨m, o2, o3, rfl, hm, e, hb⟩, rfl⟩
    have hy : y ∈ ds := hsuf.subset List.mem_cons_self
    have ny := hn.nm y hy
    obtain ⟨ed, d0⟩ := den_num ny
    refine ds_set ((Ev.at (.halves (.var rfl) ny) .c seq_tup rfl).cast (z' := .int (den y)) (by rw [(num_half ny).1]; exact congrArg D.int ed.symm)) ?_
    have u1 : den y < 2 ^ 1000 := by
      have := (hn.bn y hy).2
      omega
    have u3 : den y < 2 ^ 3000 := Nat.lt_of_lt_of_le u1 (Nat.pow_le_pow_right (by decide) (by decide))
    have m7 : m < 2 ^ 7000 := by
      have h1 : m * 1 ≤ m * (2 ^ 1000) ^ (y :: rest).length := Nat.mul_le_mul_left m (Nat.one_le_pow _ _ (Nat.pow_pos (by decide)))
      have h2 : ((2 : Nat) ^ 1000) ^ 3 < 2 ^ 7000 := by
        rw [← Nat.pow_mul]
        exact Nat.pow_lt_pow_right (by decide) (by decide)
      omega
    refine ds_set (lcm_turn (.var rfl) (.var rfl) hm m7 u3 d0) ?_
    refine hN _ _ ⟨⟨_, _, _, rfl, Nat.lcm_pos hm d0, e, Nat.le_trans ?_ hb⟩, rfl⟩
    rw [List.length_cons, Nat.pow_succ' (m := 2 ^ 1000) (n := rest.length), ← Nat.mul_assoc]
    exact Nat.mul_le_mul_right _ (Nat.le_trans lcm_le (Nat.mul_le_mul_left m (Nat.le_of_lt u1)))
  · rintro ρ G1 ⟨⟨m, o2, o3, rfl, hm, e, _⟩, rfl⟩
    have e' : m = lcmL 1 ds := e
    rw [e']
    exact ds_ret (.var rfl) h
  · refine ⟨⟨1, none, none, rfl, by decide, rfl, ?_⟩, rfl⟩
    rw [Nat.one_mul]
    exact Nat.pow_le_pow_right (Nat.pow_pos (by decide)) hl
/-! ### refused, or told -/
theorem frac_no {x : D} {p : Str} {G : Gm} {R : KD} {RX : XD} (hk : x.kn = true) (hp : p.length ≤ 10000) (hs : numD x = false) (h : RX "BadFraction" ["part"] [.str p] G) : sp_fracX [x, .str p] G R RX :=
  ⟨x, p, rfl, hk, hp, fun z => (by rw [hs] at z; cases z), fun _ => h⟩
theorem frac_yes {x : D} {p : Str} {G : Gm} {R : KD} {RX : XD} (hk : x.kn = true) (hp : p.length ≤ 10000) (hs : numD x = true) (h : R (keptD x) G) : sp_fracX [x, .str p] G R RX :=
  ⟨x, p, rfl, hk, hp, fun _ => h, fun z => (by rw [hs] at z; cases z)⟩
theorem kept_bn {x : D} {k : Nat} (h : Bn k x) : Bn k (keptD x) := by
  unfold Bn
  rw [kept_I]
  exact h
theorem kept_nm {x : D} (h : numD x = true) : numD (keptD x) = true := by
  rw [kept_num]
  exact h
/-- two numbers, refused by their places -/
def sp_2X (f : D → D → D) : DSp := fun xs G R RX => ∃ x y : D, xs = [x, y] ∧ x.kn = true ∧ y.kn = true ∧ ((numD x = false ∧ RX "BadFraction" ["part"] [.str "one"] G) ∨ (numD x = true ∧ numD y = false ∧ RX "BadFraction" ["part"] [.str "other"] G) ∨ (numD x = true ∧ numD y = true ∧ Bn 3000 x ∧ Bn 3000 y ∧ R (f x y) G))
def twoXR (q : DSp) (RX : XD) : DS := (dRet (dCall q X0 (dCons (dCall sp_fracX RX (dCons (dVar 0) (dCons (dC (.str "one")) dNil))) (dCons (dCall sp_fracX RX (dCons (dVar 1) (dCons (dC (.str "other")) dNil))) dNil))))
theorem twoX_ok {q : DSp} {f : D → D → D} (hq : ∀ x y G R, numD x = true → numD y = true → Bn 3000 x → Bn 3000 y → R (f x y) G → q [keptD x, keptD y] G R X0) (xs : List D) (G : Gm) (R : KD) (RX : XD) (h : sp_2X f xs G R RX) : twoXR q RX { nx := fun _ G => R .non G, rt := R } (xs.map some ++ List.replicate (2 - xs.length) none) G := by
  obtain ⟨x, y, rfl, kx, ky, h⟩ := h
  have a1 : EvA (dCons (dVar 0) (dCons (dC (.str "one")) dNil)) [some x, some y] G [x, .str "one"] := .cons (.var rfl) (.one .c)
  have a2 : EvA (dCons (dVar 1) (dCons (dC (.str "other")) dNil)) [some x, some y] G [y, .str "other"] := .cons (.var rfl) (.one .c)
  rcases h with ⟨h1, h⟩ | ⟨h1, h2, h⟩ | ⟨h1, h2, bx, by_, h⟩
  · show dCall sp_fracX RX (dCons (dVar 0) (dCons (dC (.str "one")) dNil)) _ G _
    exact dx_call a1 (frac_no kx (by decide) h1 h)
  · show dCall sp_fracX RX (dCons (dVar 0) (dCons (dC (.str "one")) dNil)) _ G _
    refine dx_call a1 (frac_yes kx (by decide) h1 ?_)
    show dCall sp_fracX RX (dCons (dVar 1) (dCons (dC (.str "other")) dNil)) _ G _
    exact dx_call a2 (frac_no ky (by decide) h2 h)
  · show dCall sp_fracX RX (dCons (dVar 0) (dCons (dC (.str "one")) dNil)) _ G _
    refine dx_call a1 (frac_yes kx (by decide) h1 ?_)
    show dCall sp_fracX RX (dCons (dVar 1) (dCons (dC (.str "other")) dNil)) _ G _
    refine dx_call a2 (frac_yes ky (by decide) h2 ?_)
    exact hq x y G R h1 h2 bx by_ h
theorem plusX_ok (xs : List D) (G : Gm) (R : KD) (RX : XD) (h : sp_2X plusZ xs G R RX) : twoXR (sp_2 3000 plusZ) RX { nx := fun _ G => R .non G, rt := R } (xs.map some ++ List.replicate (2 - xs.length) none) G :=
  twoX_ok (fun x y G R nx ny bx by_ r => ⟨_, _, rfl, kept_nm nx, kept_nm ny, kept_bn bx, kept_bn by_, by unfold plusZ; rw [kept_I, kept_I]; exact r⟩) xs G R RX h
theorem minusX_ok (xs : List D) (G : Gm) (R : KD) (RX : XD) (h : sp_2X minusZ xs G R RX) : twoXR (sp_2 3000 minusZ) RX { nx := fun _ G => R .non G, rt := R } (xs.map some ++ List.replicate (2 - xs.length) none) G :=
  twoX_ok (fun x y G R nx ny bx by_ r => ⟨_, _, rfl, kept_nm nx, kept_nm ny, kept_bn bx, kept_bn by_, by unfold minusZ; rw [kept_I, kept_I]; exact r⟩) xs G R RX h
theorem timesX_ok (xs : List D) (G : Gm) (R : KD) (RX : XD) (h : sp_2X timesZ xs G R RX) : twoXR (sp_2 3000 timesZ) RX { nx := fun _ G => R .non G, rt := R } (xs.map some ++ List.replicate (2 - xs.length) none) G :=
  twoX_ok (fun x y G R nx ny bx by_ r => ⟨_, _, rfl, kept_nm nx, kept_nm ny, kept_bn bx, kept_bn by_, by unfold timesZ; rw [kept_I, kept_I]; exact r⟩) xs G R RX h
theorem belowX_ok (xs : List D) (G : Gm) (R : KD) (RX : XD) (h : sp_2X (fun x y => .bl (ltN x y)) xs G R RX) : twoXR sp_below RX { nx := fun _ G => R .non G, rt := R } (xs.map some ++ List.replicate (2 - xs.length) none) G :=
  twoX_ok (fun x y G R nx ny bx by_ r => ⟨_, _, rfl, kept_nm nx, kept_nm ny, ⟨Nat.lt_of_lt_of_le (kept_bn bx).1 (Nat.pow_le_pow_right (by decide) (by decide)), Nat.lt_of_lt_of_le (kept_bn bx).2 (Nat.pow_le_pow_right (by decide) (by decide))⟩, ⟨Nat.lt_of_lt_of_le (kept_bn by_).1 (Nat.pow_le_pow_right (by decide) (by decide)), Nat.lt_of_lt_of_le (kept_bn by_).2 (Nat.pow_le_pow_right (by decide) (by decide))⟩, by unfold ltN; rw [kept_I, kept_I]; exact r⟩) xs G R RX h
/-- lowest -/
def sp_lowX : DSp := fun xs G R RX => ∃ x y : D, xs = [x, y] ∧ x.kn = true ∧ y.kn = true ∧ ((isIntD x = false ∧ RX "BadNumber" ["part"] [.str "above"] G) ∨ (isIntD x = true ∧ isIntD y = false ∧ RX "BadNumber" ["part"] [.str "under"] G) ∨ (isIntD x = true ∧ y = .int 0 ∧ RX "BadNumber" ["part"] [.str "under"] G) ∨ ∃ a u, x = .int a ∧ y = .int u ∧ u ≠ 0 ∧ u.natAbs < 2 ^ 8000 ∧ R (lowZ a u) G)
def lowXR (RX : XD) : DS := (dSeq (dIfS (dNot (dTst (dCall sp_is_integer X0 (dCons (dVar 0) dNil)))) (dRaise "BadNumber" ["part"] [true] RX (dCons (dC (.str "above")) dNil)) dNext) (dSeq (dIfS (dOr (dNot (dTst (dCall sp_is_integer X0 (dCons (dVar 1) dNil)))) (dTst (dOp fEq (dVar 1) (dC (.int 0))))) (dRaise "BadNumber" ["part"] [true] RX (dCons (dC (.str "under")) dNil)) dNext) (dRet (dCall sp_lowZ X0 (dCons (dVar 0) (dCons (dVar 1) dNil))))))
theorem lowX_ok (xs : List D) (G : Gm) (R : KD) (RX : XD) (h : sp_lowX xs G R RX) : lowXR RX { nx := fun _ G => R .non G, rt := R } (xs.map some ++ List.replicate (2 - xs.length) none) G := by
  obtain ⟨x, y, rfl, kx, ky, h⟩ := h
  have len1 : (("above" : Str)).length ≤ 10000 := by decide
  have len2 : (("under" : Str)).length ≤ 10000 := by decide
  have f1 : EvT (dNot (dTst (dCall sp_is_integer X0 (dCons (dVar 0) dNil)))) [some x, some y] G (!isIntD x) := EvT.not (.tst (.isInteger (.var rfl) kx))
  have f2 : EvT (dNot (dTst (dCall sp_is_integer X0 (dCons (dVar 1) dNil)))) [some x, some y] G (!isIntD y) := EvT.not (.tst (.isInteger (.var rfl) ky))
  rcases h with ⟨h1, h⟩ | ⟨h1, h2, h⟩ | ⟨h1, rfl, h⟩ | ⟨a, u, rfl, rfl, hu, hb, h⟩
  · exact ds_if (k := true) (f1.cast (by rw [h1]; rfl)) (ds_raise1 .c len1 h)
  · refine ds_if (k := false) (f1.cast (by rw [h1]; rfl)) ?_
    exact ds_if (k := true) (.orT (f2.cast (by rw [h2]; rfl))) (ds_raise1 .c len2 h)
  · refine ds_if (k := false) (f1.cast (by rw [h1]; rfl)) ?_
    exact ds_if (k := true) (.orF f2 ((EvT.tst (.eqI (.var rfl) .c)).cast (decide_eq_true rfl))) (ds_raise1 .c len2 h)
  · refine ds_if (k := false) f1 ?_
    refine ds_if (k := false) (.orF f2 ((EvT.tst (.eqI (.var rfl) .c)).cast (decide_eq_false hu))) ?_
    exact ds_ret (.lowZ (.var rfl) (.var rfl) hu hb) h
/-- the whole, the rest -/
def sp_wholeX : DSp := fun xs G R RX => ∃ x : D, xs = [x] ∧ x.kn = true ∧ ((numD x = false ∧ RX "BadFraction" ["part"] [.str "number"] G) ∨ (numD x = true ∧ Bn 3000 x ∧ R (.int ((numI x).1 / (numI x).2)) G))
def wholeXR (RX : XD) : DS := (dRet (dCall sp_whole_in X0 (dCons (dCall sp_fracX RX (dCons (dVar 0) (dCons (dC (.str "number")) dNil))) dNil)))
theorem bn_up {x : D} {j k : Nat} (h : Bn j x) (l : j ≤ k := by decide) : Bn k x := ⟨Nat.lt_of_lt_of_le h.1 (Nat.pow_le_pow_right (by decide) l), Nat.lt_of_lt_of_le h.2 (Nat.pow_le_pow_right (by decide) l)⟩
theorem wholeX_ok (xs : List D) (G : Gm) (R : KD) (RX : XD) (h : sp_wholeX xs G R RX) : wholeXR RX { nx := fun _ G => R .non G, rt := R } (xs.map some ++ List.replicate (1 - xs.length) none) G := by
  obtain ⟨x, rfl, kx, h⟩ := h
  have a1 : EvA (dCons (dVar 0) (dCons (dC (.str "number")) dNil)) [some x] G [x, .str "number"] := .cons (.var rfl) (.one .c)
  rcases h with ⟨h1, h⟩ | ⟨h1, bx, h⟩
  · show dCall sp_fracX RX (dCons (dVar 0) (dCons (dC (.str "number")) dNil)) _ G _
    exact dx_call a1 (frac_no kx (by decide) h1 h)
  · show dCall sp_fracX RX (dCons (dVar 0) (dCons (dC (.str "number")) dNil)) _ G _
    refine dx_call a1 (frac_yes kx (by decide) h1 ?_)
    exact ⟨_, rfl, kept_nm h1, kept_bn (bn_up bx), by rw [kept_I]; exact h⟩
def sp_restX : DSp := fun xs G R RX => ∃ x : D, xs = [x] ∧ x.kn = true ∧ ((numD x = false ∧ RX "BadFraction" ["part"] [.str "number"] G) ∨ (numD x = true ∧ Bn 3000 x ∧ R (minusZ x (.int ((numI x).1 / (numI x).2))) G))
def restXR (RX : XD) : DS := (dSeq (dSet 1 (dCall sp_fracX RX (dCons (dVar 0) (dCons (dC (.str "number")) dNil)))) (dRet (dCall (sp_2 3000 minusZ) X0 (dCons (dVar 1) (dCons (dCall sp_whole_in X0 (dCons (dVar 1) dNil)) dNil)))))
theorem restX_ok (xs : List D) (G : Gm) (R : KD) (RX : XD) (h : sp_restX xs G R RX) : restXR RX { nx := fun _ G => R .non G, rt := R } (xs.map some ++ List.replicate (2 - xs.length) none) G := by
  obtain ⟨x, rfl, kx, h⟩ := h
  have a1 : EvA (dCons (dVar 0) (dCons (dC (.str "number")) dNil)) [some x, none] G [x, .str "number"] := .cons (.var rfl) (.one .c)
  rcases h with ⟨h1, h⟩ | ⟨h1, bx, h⟩
  · show dCall sp_fracX RX (dCons (dVar 0) (dCons (dC (.str "number")) dNil)) _ G _
    exact dx_call a1 (frac_no kx (by decide) h1 h)
  · show dCall sp_fracX RX (dCons (dVar 0) (dCons (dC (.str "number")) dNil)) _ G _
    refine dx_call a1 (frac_yes kx (by decide) h1 ?_)
    have e1 : Ev (dCall sp_whole_in X0 (dCons (dVar 1) dNil)) [some x, some (keptD x)] G (.int ((numI x).1 / (numI x).2)) := .call (.one (.var rfl)) fun R r => ⟨_, rfl, kept_nm h1, kept_bn (bn_up bx), by rw [kept_I]; exact r⟩
    refine ds_ret (x := minusZ x (.int ((numI x).1 / (numI x).2))) (.call (.cons (.var rfl) (.one e1)) fun R r => ⟨_, _, rfl, kept_nm h1, rfl, kept_bn bx, ⟨?_, Nat.lt_of_lt_of_le (show (1 : Int).natAbs < 2 ^ 1 by decide) (Nat.pow_le_pow_right (by decide) (by decide))⟩, by unfold minusZ at r ⊢; rw [kept_I]; exact r⟩) h
    exact Nat.lt_of_le_of_lt (Int.natAbs_ediv_le_natAbs _ _) bx.1
theorem pair_is {ds : List D} {a b : Int} (h : pairD ds = some (a, b)) : ds = [.int a, .int b] := by
  unfold pairD at h
  split at h
  · cases h
    rfl
  · cases h
theorem num_shape {ds : List D} (h : ratD (pairD ds) = true) : ∃ a b : Int, ds = [.int a, .int b] ∧ 2 ≤ b ∧ Int.gcd a b = 1 := by
  cases q : pairD ds with
  | none =>
    rw [q] at h
    cases h
  | some p =>
    obtain ⟨a, b⟩ := p
    rw [q] at h
    have h2 : (decide (2 ≤ b) && decide (Int.gcd a b = 1)) = true := h
    rw [Bool.and_eq_true] at h2
    exact ⟨a, b, pair_is q, of_decide_eq_true h2.1, of_decide_eq_true h2.2⟩
theorem ev_zero {ρ : En} {G : Gm} {da : DE} {y : D} (h : Ev da ρ G (keptD y)) (ny : numD y = true) : Ev (dOp fEq da (dC (.int 0))) ρ G (.bl (decide ((numI y).1 = 0))) := by
  have key : ∀ (ds : List D) (a b : Int), ds = [.int a, .int b] → 2 ≤ b → Int.gcd a b = 1 → Ev da ρ G (.tup ds) → Ev (dOp fEq da (dC (.int 0))) ρ G (.bl (decide (a = 0))) := by
    intro ds a b e hb hg h
    subst e
    have ha : a ≠ 0 := fun z => by
      rw [z, Int.gcd_zero_left] at hg
      omega
    rw [decide_eq_false ha]
    exact (Ev.eqP (p := False) (x := .tup [.int a, .int b]) (y := .int 0) h .c ⟨rfl, Nat.le_of_ble_eq_true rfl⟩ ⟨rfl, Nat.le_of_ble_eq_true rfl⟩ rfl rfl (fun _ z => nomatch z) (fun _ z => nomatch z) ⟨fun z => (nomatch z), fun z => z.elim⟩).cast rfl
  cases y with
  | int i => exact .eqI h .c
  | tup ds =>
    obtain ⟨a, b, e, hb, hg⟩ := num_shape (show ratD (pairD ds) = true from ny)
    have q := key ds a b e hb hg h
    subst e
    exact q
  | lst ds =>
    obtain ⟨a, b, e, hb, hg⟩ := num_shape (show ratD (pairD ds) = true from ny)
    have q := key ds a b e hb hg h
    subst e
    exact q
  | _ => cases ny
def sp_overX : DSp := fun xs G R RX => ∃ x y : D, xs = [x, y] ∧ x.kn = true ∧ y.kn = true ∧ ((numD x = false ∧ RX "BadFraction" ["part"] [.str "one"] G) ∨ (numD x = true ∧ numD y = false ∧ RX "BadFraction" ["part"] [.str "other"] G) ∨ (numD x = true ∧ numD y = true ∧ (numI y).1 = 0 ∧ RX "BadFraction" ["part"] [.str "other"] G) ∨ (numD x = true ∧ numD y = true ∧ Bn 3000 x ∧ Bn 3000 y ∧ (numI y).1 ≠ 0 ∧ R (overZ x y) G))
def overXR (RX : XD) : DS := (dSeq (dPar 2 3 (dCons (dCall sp_fracX RX (dCons (dVar 0) (dCons (dC (.str "one")) dNil))) (dCons (dCall sp_fracX RX (dCons (dVar 1) (dCons (dC (.str "other")) dNil))) dNil))) (dSeq (dIfS (dTst (dOp fEq (dVar 3) (dC (.int 0)))) (dRaise "BadFraction" ["part"] [true] RX (dCons (dC (.str "other")) dNil)) dNext) (dRet (dCall sp_overZ X0 (dCons (dVar 2) (dCons (dVar 3) dNil))))))
theorem overX_ok (xs : List D) (G : Gm) (R : KD) (RX : XD) (h : sp_overX xs G R RX) : overXR RX { nx := fun _ G => R .non G, rt := R } (xs.map some ++ List.replicate (4 - xs.length) none) G := by
  obtain ⟨x, y, rfl, kx, ky, h⟩ := h
  have a1 : EvA (dCons (dVar 0) (dCons (dC (.str "one")) dNil)) [some x, some y, none, none] G [x, .str "one"] := .cons (.var rfl) (.one .c)
  have a2 : EvA (dCons (dVar 1) (dCons (dC (.str "other")) dNil)) [some x, some y, none, none] G [y, .str "other"] := .cons (.var rfl) (.one .c)
  have lo : (("other" : Str)).length ≤ 10000 := by decide
  show dCall sp_fracX RX (dCons (dVar 0) (dCons (dC (.str "one")) dNil)) _ G _
  rcases h with ⟨h1, h⟩ | ⟨h1, h2, h⟩ | ⟨h1, h2, h3, h⟩ | ⟨h1, h2, bx, by_, h3, h⟩
  · exact dx_call a1 (frac_no kx (by decide) h1 h)
  · refine dx_call a1 (frac_yes kx (by decide) h1 ?_)
    show dCall sp_fracX RX (dCons (dVar 1) (dCons (dC (.str "other")) dNil)) _ G _
    exact dx_call a2 (frac_no ky (by decide) h2 h)
  · refine dx_call a1 (frac_yes kx (by decide) h1 ?_)
    show dCall sp_fracX RX (dCons (dVar 1) (dCons (dC (.str "other")) dNil)) _ G _
    refine dx_call a2 (frac_yes ky (by decide) h2 ⟨_, _, rfl, ?_⟩)
    exact ds_if (k := true) ((EvT.tst (ev_zero (y := y) (.var rfl) h2)).cast (decide_eq_true h3)) (ds_raise1 .c lo h)
  · refine dx_call a1 (frac_yes kx (by decide) h1 ?_)
    show dCall sp_fracX RX (dCons (dVar 1) (dCons (dC (.str "other")) dNil)) _ G _
    refine dx_call a2 (frac_yes ky (by decide) h2 ⟨_, _, rfl, ?_⟩)
    refine ds_if (k := false) ((EvT.tst (ev_zero (y := y) (.var rfl) h2)).cast (decide_eq_false h3)) ?_
    refine to_next ?_
    dsimp only
    refine ds_ret (x := overZ x y) ?_ ?_
    · exact .call (.cons (.var rfl) (.one (.var rfl))) fun R r => ⟨_, _, rfl, kept_nm h1, kept_nm h2, kept_bn bx, kept_bn by_, by rw [kept_I]; exact h3, by unfold overZ at r ⊢; rw [kept_I, kept_I]; exact r⟩
    · exact h
/-- a row of numbers, each asked -/
theorem cmp_frac {ρ0 : En} {G : Gm} {RX : XD} {p : Str} {S : List D → Gm → Prop} (hp : p.length ≤ 10000) (hi : 1 < ρ0.length) : ∀ {ds acc : List D}, (∀ d ∈ ds, d.kn = true) → acc.length + ds.length ≤ sizeLine → (ds.all numD = true → S (acc ++ ds.map keptD) G) → (ds.all numD = false → RX "BadFraction" ["part"] [.str p] G) →
    cmpL ρ0 (gN 1) dYes (dCall sp_fracX RX (dCons (dVar 1) (dCons (dC (.str p)) dNil))) ds acc G S
  | [], acc, _, _, hy, _ => by
    have := hy rfl
    rw [List.map_nil, List.append_nil] at this
    exact this
  | d :: ds, acc, hk, hz, hy, hn => by
    rw [List.length_cons] at hz
    show dCall sp_fracX RX (dCons (dVar 1) (dCons (dC (.str p)) dNil)) (ρ0.set 1 (some d)) G _
    have a1 : EvA (dCons (dVar 1) (dCons (dC (.str p)) dNil)) (ρ0.set 1 (some d)) G [d, .str p] := .cons (.var (List.getElem?_set_self hi)) (.one .c)
    have kd := hk d List.mem_cons_self
    cases q : numD d with
    | false => exact dx_call a1 (frac_no kd hp q (hn (by rw [List.all_cons, q]; rfl)))
    | true =>
      refine dx_call a1 (frac_yes kd hp q ⟨by omega, ?_⟩)
      refine cmp_frac hp hi (fun e he => hk e (List.mem_cons_of_mem _ he)) (by rw [List.length_append, List.length_singleton]; omega) (fun z => ?_) fun z => hn (by rw [List.all_cons, q]; exact z)
      rw [List.append_assoc, List.singleton_append, ← List.map_cons]
      exact hy (by rw [List.all_cons, q]; exact z)
def sp_leastX : DSp := fun xs G R RX => ∃ x : D, xs = [x] ∧ x.kn = true ∧ ((isSeqD x = false ∧ RX "BadFraction" ["part"] [.str "numbers"] G) ∨ (isSeqD x = true ∧ (seqL x).all numD = false ∧ (seqL x).length ≤ 1000000 ∧ RX "BadFraction" ["part"] [.str "numbers"] G) ∨ (isSeqD x = true ∧ Nms 1000 (seqL x) ∧ (seqL x).length ≤ 3 ∧ R (.int (lcmL 1 (seqL x))) G))
def leastXR (RX : XD) : DS := (dSeq (dIfS (dNot (dTst (dCall sp_is_list X0 (dCons (dVar 0) dNil)))) (dRaise "BadFraction" ["part"] [true] RX (dCons (dC (.str "numbers")) dNil)) dNext) (dRet (dCall sp_least3 X0 (dCons (dCmp (dISeq (dVar 0)) (gN 1) dYes (dCall sp_fracX RX (dCons (dVar 1) (dCons (dC (.str "numbers")) dNil))) [1]) dNil))))
theorem leastX_ok (xs : List D) (G : Gm) (R : KD) (RX : XD) (h : sp_leastX xs G R RX) : leastXR RX { nx := fun _ G => R .non G, rt := R } (xs.map some ++ List.replicate (2 - xs.length) none) G := by
  obtain ⟨x, rfl, kx, h⟩ := h
  have ln : (("numbers" : Str)).length ≤ 10000 := by decide
  have f1 : EvT (dNot (dTst (dCall sp_is_list X0 (dCons (dVar 0) dNil)))) [some x, none] G (!isSeqD x) := EvT.not (.tst (.isList (.var rfl) kx))
  rcases h with ⟨h1, h⟩ | ⟨h1, h2, h3, h⟩ | ⟨h1, h2, h3, h⟩
  · exact ds_if (k := true) (f1.cast (by rw [h1]; rfl)) (ds_raise1 .c ln h)
  · refine ds_if (k := false) (f1.cast (by rw [h1]; rfl)) ?_
    refine ⟨x, rfl, seqL x, (seq_is h1).symm, ?_⟩
    exact cmp_frac ln (by show 1 < 2; decide) (knL_all (seqL_kn h1 kx)) (by rw [sizeLine_eq, List.length_nil]; omega) (fun z => by rw [h2] at z; cases z) fun _ => h
  · refine ds_if (k := false) (f1.cast (by rw [h1]; rfl)) ?_
    refine ⟨x, rfl, seqL x, (seq_is h1).symm, ?_⟩
    refine cmp_frac ln (by show 1 < 2; decide) (knL_all (seqL_kn h1 kx)) (by rw [sizeLine_eq, List.length_nil]; omega) (fun _ => ?_) fun z => ?_
    · refine ⟨_, _, rfl, .inl rfl, ⟨fun d hd => ?_, fun d hd => ?_⟩, by rw [List.nil_append, List.length_map]; exact h3, ?_⟩
      · obtain ⟨e, he, rfl⟩ := List.mem_map.mp hd
        exact kept_nm (h2.nm e he)
      · obtain ⟨e, he, rfl⟩ := List.mem_map.mp hd
        exact kept_bn (h2.bn e he)
      · rw [List.nil_append, lcmL_map fun q _ => kept_I]
        exact h
    · rw [List.all_eq_true.mpr h2.nm] at z
      cases z
end DL

/-! DL39: the least whole, as laws reckon it. -/
namespace DL
open PySem PySem.Spec PyProof.Rows L2 Evl
variable [TabC]
theorem while_gcd3 {i j : Nat} (hij : i ≠ j) {da : DE} (hda : ∀ (ρ : En) (G : Gm) (p : Int), ρ[i]? = some (some (.int p)) → Ev da ρ G (.int p)) {E : DEnds} {ρ : En} {G : Gm} {p q : Nat} (h1 : ρ[i]? = some (some (.int p))) (h2 : ρ[j]? = some (some (.int q)))
    (k : ∀ ρ', ρ'[i]? = some (some (.int (Nat.gcd p q))) → (∀ l, l ≠ i → l ≠ j → ρ'[l]? = ρ[l]?) → ρ'.length = ρ.length → E.nx ρ' G) : dWhile (dTst (dOp (fInt gGt) (dVar j) (dC (.int 0)))) (dPar i j (dCons (dVar j) (dCons (dOp (fIntC (fun _ j => 0 < j) fun i j => .int (i % j)) da (dVar j)) dNil))) E ρ G := by
  refine ⟨fun m ρ' G' => G' = G ∧ (∃ p' : Nat, ρ'[i]? = some (some (.int p')) ∧ ρ'[j]? = some (some (.int m)) ∧ Nat.gcd p' m = Nat.gcd p q) ∧ (∀ l, l ≠ i → l ≠ j → ρ'[l]? = ρ[l]?) ∧ ρ'.length = ρ.length, ⟨q, rfl, ⟨p, h1, h2, rfl⟩, fun _ _ _ => rfl, rfl⟩, ?_⟩
  rintro m ρ' G' ⟨rfl, ⟨p', r1, r2, e⟩, ho, hl⟩
  have inl : ∀ {l : Nat} {x : Option D}, ρ'[l]? = some x → l < ρ'.length := fun {l x} h => by
    by_cases z : l < ρ'.length
    · exact z
    · rw [List.getElem?_eq_none (by omega)] at h
      cases h
  refine (EvT.tst (.gt (.var r2) .c)) _ ?_
  by_cases h0 : 0 < m
  · rw [if_pos (by simpa using h0)]
    refine ds_par (.var r2) (.mod (hda _ _ _ r1) (.var r2) (by omega)) ?_
    refine ⟨p' % m, Nat.mod_lt _ h0, rfl, ⟨m, ?_, ?_, ?_⟩, fun l l1 l2 => ?_, by rw [List.length_set, List.length_set]; exact hl⟩
    · rw [List.getElem?_set_ne (fun z => hij z.symm)]
      exact List.getElem?_set_self (inl r1)
    · rw [List.getElem?_set_self (by rw [List.length_set]; exact inl r2)]
      rfl
    · rw [← e, Nat.gcd_comm p' m, Nat.gcd_rec m p', Nat.gcd_comm]
    · rw [List.getElem?_set_ne (fun z => l2 z.symm), List.getElem?_set_ne (fun z => l1 z.symm), ho l l1 l2]
  · rw [if_neg (by simpa using h0)]
    have m0 : m = 0 := by omega
    subst m0
    refine k ρ' ?_ ho hl
    rw [← e, Nat.gcd_zero_right]
    exact r1
def sp_lawLeast : DSp := fun xs G R _ => ∃ us : List Nat, xs = [.lst (us.map fun u : Nat => D.int u)] ∧ (∀ u ∈ us, 0 < u ∧ u < 2 ^ 1000) ∧ us.length ≤ 3 ∧ R (.int (us.foldl Nat.lcm 1 : Nat)) G
def lawLeastR : DS := (dSeq (dSet 1 (dC (.int 1))) (dSeq (dFor (dISeq (dVar 0)) (gN 2) (dSeq (dPar 3 4 (dCons (dVar 1) (dCons (dVar 2) dNil))) (dSeq (dWhile (dTst (dOp (fInt gGt) (dVar 4) (dC (.int 0)))) (dPar 3 4 (dCons (dVar 4) (dCons (dOp (fIntC (fun _ j => 0 < j) fun i j => .int (i % j)) (dCal fIntOf (dCons (dVar 3) dNil)) (dVar 4)) dNil)))) (dSet 1 (dOp (fIntC CDivW fun i j => .int (i / j)) (dOp (fIntC IntMulOk fun i j => .int (i * j)) (dVar 1) (dVar 2)) (dVar 3)))))) (dRet (dVar 1))))
theorem lawLeast_ok (xs : List D) (G : Gm) (R : KD) (RX : XD) (h : sp_lawLeast xs G R RX) : lawLeastR { nx := fun _ G => R .non G, rt := R } (xs.map some ++ List.replicate (5 - xs.length) none) G := by
  obtain ⟨us, rfl, hu, hl, h⟩ := h
  refine ds_set .c ?_
  refine ⟨_, rfl, us.map fun u : Nat => D.int u, .inl rfl, ?_⟩
  refine forL_at (fun rest ρ G' => ∃ (vs : List Nat) (m : Nat), rest = (vs.map fun u : Nat => D.int u) ∧ ρ.length = 5 ∧ ρ[1]? = some (some (.int m)) ∧ 0 < m ∧ vs.foldl Nat.lcm m = us.foldl Nat.lcm 1 ∧ m * (2 ^ 1000) ^ vs.length ≤ (2 ^ 1000) ^ 3 ∧ (∀ u ∈ vs, 0 < u ∧ u < 2 ^ 1000) ∧ G' = G) ?_ ?_ ?_
  · rintro y rest N ρ G1 hsuf hN ⟨vs, m, ev, hl5, r1, hm, e, hb, hv, rfl⟩
    cases vs with
    | nil => cases ev
    | cons u vs =>
      rw [List.map_cons] at ev
      injection ev with e1 e2
      subst e1
      obtain ⟨u0, u1⟩ := hv u List.mem_cons_self
      have m7 : m < 2 ^ 7000 := by
        have h1 : m * 1 ≤ m * (2 ^ 1000) ^ (u :: vs).length := Nat.mul_le_mul_left m (Nat.one_le_pow _ _ (Nat.pow_pos (by decide)))
        have h2 : ((2 : Nat) ^ 1000) ^ 3 < 2 ^ 7000 := by
          rw [← Nat.pow_mul]
          exact Nat.pow_lt_pow_right (by decide) (by decide)
        omega
      have s1 : (ρ.set 2 (some (.int u)))[1]? = some (some (.int m)) := by rw [List.getElem?_set_ne (by decide)]; exact r1
      have s2 : (ρ.set 2 (some (.int u)))[2]? = some (some (.int u)) := List.getElem?_set_self (by omega)
      refine ds_par (.var s1) (.var s2) ?_
      refine while_gcd3 (p := m) (q := u) (by decide) (fun ρ G p h => .intOf (.var h)) ?_ ?_ fun ρ' r3 ho hl2 => ?_
      · rw [List.getElem?_set_ne (by decide)]
        exact List.getElem?_set_self (by rw [List.length_set]; omega)
      · exact List.getElem?_set_self (by rw [List.length_set, List.length_set]; omega)
      have q1 : ρ'[1]? = some (some (.int m)) := by
        rw [ho 1 (by decide) (by decide), List.getElem?_set_ne (by decide), List.getElem?_set_ne (by decide)]
        exact s1
      have q2 : ρ'[2]? = some (some (.int u)) := by
        rw [ho 2 (by decide) (by decide), List.getElem?_set_ne (by decide), List.getElem?_set_ne (by decide)]
        exact s2
      have l5 : ρ'.length = 5 := by
        rw [hl2, List.length_set, List.length_set, List.length_set]
        exact hl5
      have u3 : u < 2 ^ 3000 := Nat.lt_of_lt_of_le u1 (Nat.pow_le_pow_right (by decide) (by decide))
      have g0 : 0 < Nat.gcd m u := Nat.gcd_pos_of_pos_right _ u0
      have g1 : Nat.gcd m u ≤ u := Nat.gcd_le_right _ u0
      have u8 : ((2 ^ 3000 : Nat) : Int) < (2 : Int) ^ 8000 := by decide +kernel
      have u4 : (u : Int) < ((2 ^ 3000 : Nat) : Int) := Int.ofNat_lt.mpr u3
      dsimp only
      refine ds_set (x := .int (Nat.lcm m u : Nat)) ((Ev.fdiv (.mul (.var q1) (.var q2) (mul_both (a := 7000) (b := 3000) (by rw [Int.natAbs_natCast]; exact m7) (by rw [Int.natAbs_natCast]; exact u3) (by decide))) (.var r3) (div_ok (by omega) (by omega))).cast (congrArg D.int lcm_int)) ?_
      refine hN _ _ ⟨vs, Nat.lcm m u, e2, by rw [List.length_set]; exact l5, List.getElem?_set_self (by omega), Nat.lcm_pos hm u0, e, Nat.le_trans ?_ hb, fun v hv2 => hv v (List.mem_cons_of_mem _ hv2), rfl⟩
      rw [List.length_cons, Nat.pow_succ' (m := 2 ^ 1000) (n := vs.length), ← Nat.mul_assoc]
      exact Nat.mul_le_mul_right _ (Nat.le_trans lcm_le (Nat.mul_le_mul_left m (Nat.le_of_lt u1)))
  · rintro ρ G1 ⟨vs, m, ev, _, r1, _, e, _, _, rfl⟩
    cases vs with
    | cons u vs => cases ev
    | nil =>
      have e' : m = us.foldl Nat.lcm 1 := e
      rw [← e'] at h
      refine ds_ret (x := .int m) (.var r1) h
  · refine ⟨us, 1, rfl, rfl, rfl, by decide, rfl, ?_, hu, rfl⟩
    rw [Nat.one_mul]
    exact Nat.pow_le_pow_right (Nat.pow_pos (by decide)) hl
end DL

/-! DL40: plain laws of numbers in lowest terms. -/
namespace DL
open PySem PySem.Spec PyProof.Rows L2 Evl
variable [TabC]
/-- a number in its one form, of at most k bits -/
def Cz (k : Nat) (x : D) : Prop := ∃ n d : Int, x = pairZ n d ∧ 0 < d ∧ Int.gcd n d = 1 ∧ n.natAbs < 2 ^ k ∧ d.natAbs < 2 ^ k
theorem cz_low {a u : Int} {k : Nat} (hu : u ≠ 0) (h : a.natAbs < 2 ^ k) (h' : u.natAbs < 2 ^ k) : Cz k (lowZ a u) := by
  obtain ⟨n, d, s0, _, ea, eu, d0, g1, l1⟩ := lowZ_facts (a := a) hu
  have b := lowZ_bn hu h h'
  rw [l1] at b
  unfold Bn at b
  rw [numI_pair] at b
  exact ⟨n, d, l1, d0, g1, b.1, b.2⟩
theorem Cz.num {k : Nat} {x : D} (h : Cz k x) : numD x = true := by
  obtain ⟨n, d, rfl, d0, g, _⟩ := h
  exact numD_pair d0 g
theorem Cz.bn {k : Nat} {x : D} (h : Cz k x) : Bn k x := by
  obtain ⟨n, d, rfl, d0, g, h1, h2⟩ := h
  unfold Bn
  rw [numI_pair]
  exact ⟨h1, h2⟩
theorem Cz.kn {k : Nat} {x : D} (h : Cz k x) : x.kn = true := by
  obtain ⟨n, d, rfl, _⟩ := h
  unfold pairZ
  split <;> rfl
theorem Cz.self {k : Nat} {x : D} (h : Cz k x) : lowZ (numI x).1 (numI x).2 = x := by
  obtain ⟨n, d, rfl, d0, g, _⟩ := h
  rw [numI_pair]
  exact lowZ_cop d0 g
theorem Cz.kept {k : Nat} {x : D} (h : Cz k x) : keptD x = x := by
  obtain ⟨n, d, rfl, _⟩ := h
  unfold pairZ
  split <;> rfl
theorem Cz.mono {j k : Nat} {x : D} (h : Cz j x) (l : j ≤ k := by decide) : Cz k x := by
  obtain ⟨n, d, e, d0, g, h1, h2⟩ := h
  exact ⟨n, d, e, d0, g, Nat.lt_of_lt_of_le h1 (Nat.pow_le_pow_right (by decide) l), Nat.lt_of_lt_of_le h2 (Nat.pow_le_pow_right (by decide) l)⟩
theorem p1800 : 2 ^ 1800 < 10 ^ 560 := by decide +kernel
theorem Cz.sm {x : D} (h : Cz 1800 x) : Sm 1 3 x := by
  obtain ⟨n, d, rfl, d0, g, h1, h2⟩ := h
  have hn : Sm 0 1 (.int n) := .int (Nat.lt_trans h1 p1800)
  have hd : Sm 0 1 (.int d) := .int (Nat.lt_trans h2 p1800)
  unfold pairZ
  split
  · exact hn.mono (by decide) (by decide)
  · exact (Sm.tup (d := 0) (s := 1) (xs := [.int n, .int d]) fun x hx => by
      simp only [List.mem_cons, List.mem_nil_iff, or_false] at hx
      rcases hx with rfl | rfl
      · exact hn
      · exact hd)
/-! ### reckoned twice -/
section
variable {a b c d : Int} {X Y F S : D}
/-- X is a / b, F tells X -/
structure Rat (a b : Int) (X F : D) : Prop where
  b0 : b ≠ 0
  x : X = lowZ a b
  f : numI F = numI X
theorem Rat.pos (h : Rat a b X F) : 0 < (numI X).2 := by
  rw [h.x]
  exact (lowZ_num h.b0).2.1
theorem Rat.cross (h : Rat a b X F) : (numI X).1 * b = a * (numI X).2 := by
  rw [h.x]
  exact (lowZ_num h.b0).2.2
theorem rat_plus (h : Rat a b X F) (h' : Rat c d Y S) : plusZ F S = lowZ (a * d + c * b) (b * d) := by
  have p1 := h.pos
  have p2 := h'.pos
  have e1 := h.cross
  have e2 := h'.cross
  unfold plusZ
  rw [h.f, h'.f]
  generalize numI X = x at *
  generalize numI Y = y at *
  obtain ⟨n1, d1⟩ := x
  obtain ⟨n2, d2⟩ := y
  dsimp only at *
  refine lowZ_eq (Int.mul_ne_zero (by omega) (by omega)) (Int.mul_ne_zero h.b0 h'.b0) ?_
  have k : (n1 * d2 + n2 * d1) * (b * d) = (n1 * b) * (d2 * d) + (n2 * d) * (d1 * b) := by grind
  rw [k, e1, e2]
  grind
theorem rat_minus (h : Rat a b X F) (h' : Rat c d Y S) : minusZ F S = lowZ (a * d - c * b) (b * d) := by
  have p1 := h.pos
  have p2 := h'.pos
  have e1 := h.cross
  have e2 := h'.cross
  unfold minusZ
  rw [h.f, h'.f]
  generalize numI X = x at *
  generalize numI Y = y at *
  obtain ⟨n1, d1⟩ := x
  obtain ⟨n2, d2⟩ := y
  dsimp only at *
  refine lowZ_eq (Int.mul_ne_zero (by omega) (by omega)) (Int.mul_ne_zero h.b0 h'.b0) ?_
  have k : (n1 * d2 - n2 * d1) * (b * d) = (n1 * b) * (d2 * d) - (n2 * d) * (d1 * b) := by grind
  rw [k, e1, e2]
  grind
theorem rat_times (h : Rat a b X F) (h' : Rat c d Y S) : timesZ F S = lowZ (a * c) (b * d) := by
  have p1 := h.pos
  have p2 := h'.pos
  have e1 := h.cross
  have e2 := h'.cross
  unfold timesZ
  rw [h.f, h'.f]
  generalize numI X = x at *
  generalize numI Y = y at *
  obtain ⟨n1, d1⟩ := x
  obtain ⟨n2, d2⟩ := y
  dsimp only at *
  refine lowZ_eq (Int.mul_ne_zero (by omega) (by omega)) (Int.mul_ne_zero h.b0 h'.b0) ?_
  have k : (n1 * n2) * (b * d) = (n1 * b) * (n2 * d) := by grind
  rw [k, e1, e2]
  grind
theorem rat_zero (h : Rat a b X F) : (numI X).1 = 0 ↔ a = 0 := by
  have p1 := h.pos
  have e1 := h.cross
  constructor
  · intro z
    rw [z, Int.zero_mul] at e1
    rcases Int.mul_eq_zero.mp e1.symm with q | q
    · exact q
    · omega
  · intro z
    rw [z, Int.zero_mul] at e1
    rcases Int.mul_eq_zero.mp e1 with q | q
    · exact q
    · exact absurd q h.b0
theorem rat_over (h : Rat a b X F) (h' : Rat c d Y S) (hc : c ≠ 0) : overZ F S = lowZ (a * d) (b * c) := by
  have p1 := h.pos
  have p2 := h'.pos
  have e1 := h.cross
  have e2 := h'.cross
  have z := mt (rat_zero h').mp hc
  unfold overZ
  rw [h.f, h'.f]
  generalize numI X = x at *
  generalize numI Y = y at *
  obtain ⟨n1, d1⟩ := x
  obtain ⟨n2, d2⟩ := y
  dsimp only at *
  refine lowZ_eq (Int.mul_ne_zero (by omega) z) (Int.mul_ne_zero h.b0 hc) ?_
  have k : (n1 * d2) * (b * c) = (n1 * b) * (c * d2) := by grind
  rw [k, e1, ← e2]
  grind
/-- (x + y) - x = y -/
theorem plus_minus (nx : 0 < (numI X).2) (ny : 0 < (numI Y).2) (hY : lowZ (numI Y).1 (numI Y).2 = Y) (fX : numI F = numI X) (fY : numI S = numI Y) : minusZ (plusZ X S) F = Y := by
  have hP : Rat ((numI X).1 * (numI Y).2 + (numI Y).1 * (numI X).2) ((numI X).2 * (numI Y).2) (plusZ X S) (plusZ X S) := ⟨Int.mul_ne_zero (by omega) (by omega), by unfold plusZ; rw [fY], rfl⟩
  have q0 := hP.pos
  have e := hP.cross
  rw [← hY]
  unfold minusZ
  rw [fX]
  generalize numI (plusZ X S) = p at *
  generalize numI X = x at *
  generalize numI Y = y at *
  obtain ⟨p, q⟩ := p
  obtain ⟨n1, d1⟩ := x
  obtain ⟨n2, d2⟩ := y
  dsimp only at *
  refine lowZ_eq (Int.mul_ne_zero (by omega) (by omega)) (by omega) ?_
  have k : (p * d1 - n1 * q) * d2 = p * (d1 * d2) - n1 * q * d2 := by grind
  rw [k, e]
  grind
/-- (x - y) + y = x -/
theorem minus_plus (nx : 0 < (numI X).2) (ny : 0 < (numI Y).2) (hX : lowZ (numI X).1 (numI X).2 = X) (fX : numI F = numI X) (fY : numI S = numI Y) : plusZ (minusZ F Y) S = X := by
  have hP : Rat ((numI X).1 * (numI Y).2 - (numI Y).1 * (numI X).2) ((numI X).2 * (numI Y).2) (minusZ F Y) (minusZ F Y) := ⟨Int.mul_ne_zero (by omega) (by omega), by unfold minusZ; rw [fX], rfl⟩
  have q0 := hP.pos
  have e := hP.cross
  rw [← hX]
  unfold plusZ
  rw [fY]
  generalize numI (minusZ F Y) = p at *
  generalize numI X = x at *
  generalize numI Y = y at *
  obtain ⟨p, q⟩ := p
  obtain ⟨n1, d1⟩ := x
  obtain ⟨n2, d2⟩ := y
  dsimp only at *
  refine lowZ_eq (Int.mul_ne_zero (by omega) (by omega)) (by omega) ?_
  have k : (p * d2 + n2 * q) * d1 = p * (d1 * d2) + n2 * q * d1 := by grind
  rw [k, e]
  grind
end
end DL

/-! DL41: a raise out of a list comprehension's element. -/
namespace DL
open PySem PySem.Spec PyProof.Rows L2 Evl
section
variable {M : Model} {A : Around} {E : Value → Shared → Prop} {s : Shared} {base : Heap} {env : Env} {outer l : List Env} {L e : Addr} {Z : Obj → Prop}
/-- noted where the flight is another frame's -/
theorem looks_otherZ {fl : Value} {Q : Unit → Shared → Prop} (hZ : HandSPX.Steady Z) (hfr : A.frames = some (env :: outer)) (hf : env.frame = some L) (hkb : base.StaysIn s.heap) (hen : base.get? e = none) (hl : s.heap.FunFrames base (env :: outer)) (ht : HandSPX.TracedZ s.heap base e Z fl) (hne : (fl == rawInt L) = false)
    (hQ : ∀ h', HandSPX.HeldZ base (env :: outer) e Z L h' → s.heap.UpToSlots h' → Q () { s with heap := h' }) : wpAny M A (noteFrame (.ref e) env) Q E s := by
  obtain ⟨oe, vs, T, oT, ts, he, hz, hd, h1, hnT, hTe, hT, hdT, h3⟩ := ht
  unfold noteFrame
  simp only [hf]
  refine wpAny_bind (wpAny_field he hd h1 ?_)
  rw [if_pos (show (Value.ref T != Value.none) = true from by simp)]
  refine wpAny_bind (wpAny_field hT hdT h3 ?_)
  rw [if_neg (show ¬ ((fl == rawInt L) = true) from by simp [hne])]
  refine wpAny_bind (wpAny_setField hT hdT (Array.getElem?_eq_some_iff.mp h3).1 ?_)
  have other : ∀ b, b ≠ T → (s.heap.update T (Obj.mapFields (·.setIfInBounds 3 Value.none))).get? b = s.heap.get? b := fun b hb => Heap.get?_update_other _ _ (Ne.symm hb)
  have noRecord : ∀ b o, s.heap.get? b = some o → (∀ vs, o.data ≠ .fields vs) → b ≠ T := fun b o hb hnf q => by
    rw [q, hT] at hb; injection hb with hb; subst hb; exact hnf ts hdT
  refine HandSPX.wpAny_entryZ hZ hfr (hl.of_keeps fun b o hb hnf => ⟨o, (other b (noRecord b o hb hnf)).trans hb, rfl⟩) hf ((other e (Ne.symm hTe)).trans he)
    (fun b o hbo => (other b fun q => by rw [q, hnT] at hbo; cases hbo).trans (hkb b o hbo)) hen hd (Array.getElem?_eq_some_iff.mp h1).1 hz fun h' hN => ?_
  obtain ⟨x1, x2, x3, x4⟩ := hN
  exact hQ h' ⟨x1, hen, x2, x3⟩ fun b o hb hnf => x4 b o ((other b (noRecord b o hb hnf)).trans hb) hnf

/-- what a block's sky owes: noted by the def's own frame -/
theorem Sky.noted {C : Addr} {ce : Env} {Q : Unit → Shared → Prop} (hZ : HandSPX.Steady Z) (hfr : A.frames = some (env :: outer)) (hf : env.frame = some L) (hce : ce.frame = env.frame) (hne : C ≠ L)
    (x : L2.Sky base (env :: outer) e Z C s.heap) (hQ : ∀ h', HandSPX.HeldZ base (env :: outer) e Z L h' → s.heap.UpToSlots h' → Q () { s with heap := h' }) : wpAny M A (noteFrame (.ref e) ce) Q E s := by
  rw [noteFrame_env _ hce]
  rcases x with ⟨hB, hn, hl, oe, vs, he, hz, hd, h1⟩ | fl | ⟨f1, f2, f3, f4⟩
  · exact HandSPX.look_newZ hZ hfr hl hf he hB hn hd h1 hz hQ
  · exact HandSPX.looks_onZ hZ hfr hf fl hQ
  · exact looks_otherZ hZ hfr hf f1 f2 f3 f4 (by simp only [rawInt]; exact beq_false_of_ne fun z => hne (by injection z with z1 z2; exact Int.ofNat.inj z1)) hQ

/-- the block's names let go, the exception goes on -/
theorem passOn_held {ce : Env} {m m' : Str → Option Value} {h2 : Heap} {w : String} (hf : ce.frame = some L) (hC : base.get? ce.locals = none) (hn : s.heap.Ns ce.locals m) (hn2 : h2.Ns ce.locals m') (sb : Heap.SameBut ce.locals s.heap h2) (hh : HandSPX.HeldZ base l e Z L s.heap)
    (hQ : ∀ h', HandSPX.HeldZ base l e Z L h' → h2.UpToSlots h' → E (.ref e) { s with heap := h' }) : wpAny M A (PySem.passOn w (.ref e) ce : Sem Value) (fun _ _ => False) E { s with heap := h2 } := by
  obtain ⟨b1, b0, f1, oe, vs, T, oT, ts, he, hz, hd, h1, hnT, hTe, hT, hdT, h3⟩ := hh
  have nrec : ∀ (b : Addr) (o : Obj) (vs : Array Value), s.heap.get? b = some o → o.data = .fields vs → b ≠ ce.locals := fun b o vs q qd z => by
    obtain ⟨oL, es, ep, hoL, hdL, _⟩ := hn
    rw [z, hoL] at q
    cases q
    rw [hdL] at qd
    cases qd
  have he2 : h2.get? e = some oe := (sb.2 e (nrec e oe vs he hd)).trans he
  have hT2 : h2.get? T = some oT := (sb.2 T (nrec T oT ts hT hdT)).trans hT
  have b2 : base.StaysIn h2 := fun b o hb => (sb.2 b fun q => by rw [q, hC] at hb; cases hb).trans (b1 b o hb)
  have f2 : h2.FunFrames base l := Heap.FunFrames.sameBut sb hn2 f1
  unfold PySem.passOn
  refine wpAny_bind (wpAny_field he2 hd h1 ?_)
  rw [if_neg (show ¬ ((Value.ref T == Value.none) = true) from by simp)]
  rw [hf]
  refine wpAny_bind (HandSPX.setFlight_onZ (base := base) (l := l) (Z := Z) (L := L) (s := { s with heap := h2 }) ⟨b2, b0, f2, oe, vs, T, oT, ts, he2, hz, hd, h1, hnT, hTe, hT2, hdT, h3⟩ fun h' hh' up => ?_)
  exact wpAny_throw (hQ h' hh' up)
end

section
variable {X : Cx}
/-- what a raise in the element owes, in the block's context -/
def xeB (X : Cx) (use : Option (Value → Sem Unit)) (Qf : Value → Shared → Prop) (D : Addr) (ce : Env) : Value → Shared → Prop :=
  notedBy (model X.prog X.w) X.A ce fun e s' => compEnds (model X.prog X.w) X.A X.xe use Qf (.ref D) ce (.error e) s'

theorem takes_blk {pins : List (Addr × Obj)} {σ0 : L2.St} {E : XK} {s3 : Shared} {H3 : Hp} {scope : Scope} {ce : Env} {fp : List Addr} {use : Option (Value → Sem Unit)} {Qf : Value → Shared → Prop} {D : Addr} {pn' : List (Addr × Obj)}
    (hst : X.stack = X.env :: X.outer) (hfr : X.env.frame = some X.env.locals) (tk : Takes X fun cls d _ H => E cls d H) (I3 : Inv X pins σ0 H3 s3) (cL : ce.locals = s3.heap.objs.size) (cf : ce.frame = X.env.frame)
    (f3 : ∀ b ∈ fp, FpOk X pins H3 b) : Takes ((X.blk s3 H3 scope ce fp).tr pn' (xeB X use Qf D ce)) fun cls d _ H => E cls d H := by
  intro u s' ⟨a, B, sI, pins', σ, H, cls, d, e, I, nb, up, sky, na, os, ag, w⟩
  subst e
  have fr : X.A.frames = some (X.env :: X.outer) := by rw [I3.ok.frames, hst]
  have sky : L2.Sky B X.stack a (Zc cls d) ce.locals s'.heap := sky
  rw [hst] at sky
  have nb : ∀ b o, sI.heap.get? b = some o → b ∉ frs X.stack → B.get? b = some o := nb
  have hL : ce.locals ≠ X.env.locals := by
    rw [cL]
    exact Nat.ne_of_gt I3.lt
  have nC : H ce.locals = none := I.free
  obtain ⟨m, hn, _⟩ := I.loc
  have hn : sI.heap.Ns ce.locals m := hn
  -- the block's dict, behind the note
  have upNs : ∀ {h h' : Heap}, h.UpToSlots h' → h.Ns ce.locals m → h'.Ns ce.locals m := fun {h h'} k q => Heap.Ns.upToSlots q k
  have I7 : Inv X pins σ0 H sI := I3.call' (ch := fp) I.os I.base I.hok I.bare fun b hb => ⟨(f3 b hb).2.2.2.1, (f3 b hb).2.1, (f3 b hb).2.2.2.2.1, (f3 b hb).2.2.2.2.2⟩
  obtain ⟨c0, c1, c2, c3, c4, c5⟩ := I3.fpOk (H' := H) (b := ce.locals) (by rw [cL]; exact Nat.le_refl _) nC
  obtain ⟨G, g1, g2⟩ := restrict sI.heap fun b => decide (b ≠ ce.locals)
  obtain ⟨B', k1, k2⟩ := restrict B fun b => decide (b ≠ ce.locals)
  have g1 : ∀ b, b ≠ ce.locals → G.get? b = sI.heap.get? b := fun b hb => g1 b (by simp [hb])
  have g2 : G.get? ce.locals = none := g2 _ (by simp)
  have k1 : ∀ b, b ≠ ce.locals → B'.get? b = B.get? b := fun b hb => k1 b (by simp [hb])
  have k2 : B'.get? ce.locals = none := k2 _ (by simp)
  have I8 : Inv X pins σ0 H { sI with heap := G, toks := sI.toks } := I7.turned (t' := sI.toks) (fun b o hb q => (g1 b hb).trans q) c0 c1 c3 c4 c5
  have kB : ∀ b o, B'.get? b = some o → B.get? b = some o ∧ b ≠ ce.locals := fun b o q => by
    by_cases z : b = ce.locals
    · rw [z, k2] at q
      cases q
    · exact ⟨(k1 b z).symm.trans q, z⟩
  have kN : ∀ b, B.get? b = none → B'.get? b = none := fun b q => by
    by_cases z : b = ce.locals
    · rw [z, k2]
    · rw [k1 b z, q]
  show wpAny _ _ (noteFrame (.ref a) ce) _ _ s'
  refine Sky.noted Zc.steady fr hfr cf hL sky fun h1 hh1 up1 => ?_
  show CompFails _ _ _ ce (.ref a) _
  have hn1 : h1.Ns ce.locals m := upNs up1 (upNs up hn)
  refine ⟨m, hn1, fun h2 m2 hn2 sb2 => ?_⟩
  have hh1' : HandSPX.HeldZ B' (X.env :: X.outer) a (Zc cls d) X.env.locals h1 := by
    obtain ⟨b1, b0, ff, oe, vs, T, oT, ts, he, hz, hd, h1', hnT, r⟩ := hh1
    refine ⟨fun b o q => b1 b o (kB b o q).1, kN _ b0, funFrames_none ff fun L hL' => kN _ ?_, oe, vs, T, oT, ts, he, hz, hd, h1', kN _ hnT, r⟩
    exact (Heap.FunFrames.mem ff hL').1
  refine passOn_held (s := { s' with heap := h1 }) (cf.trans hfr) k2 hn1 hn2 sb2 hh1' fun h3 hh3 up3 => ?_
  refine tk _ _ ⟨a, B', { sI with heap := G, toks := sI.toks }, pins, σ0, H, cls, d, rfl, I8, fun b o q hb => ?_, fun b o q hnf => ?_, .inr (.inr (by rw [hst]; exact hh3)), na, os, ag, w⟩
  · have z : b ≠ ce.locals := fun z => by
      rw [z] at q
      have q : G.get? ce.locals = some o := q
      rw [g2] at q
      cases q
    exact (k1 b z).trans (nb b o ((g1 b z).symm.trans q) hb)
  · have z : b ≠ ce.locals := fun z => by
      rw [z] at q
      have q : G.get? ce.locals = some o := q
      rw [g2] at q
      cases q
    obtain ⟨s1, q1⟩ := up b o ((g1 b z).symm.trans q) hnf
    obtain ⟨s2, q2⟩ := up1 b _ q1 hnf
    obtain ⟨s3', q3⟩ := up3 b _ ((sb2.2 b z).trans q2) hnf
    exact ⟨s3', q3⟩

/-- as HandS.Comp's lc_core, an element that may raise -/
theorem lc_coreX {pins : List (Addr × Obj)} {s : Shared} {σ : L2.St} {H : Hp} {Q : VK} {elt tg iter : Expr} {ifs : List Expr} {scope : Scope} {own : List (Str × Nat)} {pos pos' : Pos} {wi : TI} {g : TG} {tt : TT} {te : TE} {use : Option (Value → Sem Unit)} {Qf : Value → Shared → Prop} {E : XK}
    (hst : X.stack = X.env :: X.outer) (hfr : X.env.frame = some X.env.locals) (tk : Takes X fun cls d _ H => E cls d H)
    (hc : X.calm = true) (hN : X.N.Nodup) (I : Inv X pins σ H s) (hi : PI X tg iter wi) (ok : BlkOk X.N X.env.scope scope own)
    (hg : ∀ (s : Shared) (H : Hp) (C : Addr) (cl : List (Str × Addr)) (fp : List Addr), PG (X.blk s H scope (compEnvC scope cl C X.env) fp) tg g) (ht : ∀ (s : Shared) (H : Hp) (C : Addr) (cl : List (Str × Addr)) (fp : List Addr), PTs (X.blk s H scope (compEnvC scope cl C X.env) fp) ifs tt)
    (he : ∀ (s : Shared) (H : Hp) (C : Addr) (cl : List (Str × Addr)) (fp : List Addr) (pn : List (Addr × Obj)) (xe : Value → Shared → Prop), Takes ((X.blk s H scope (compEnvC scope cl C X.env) fp).tr pn xe) (fun cls d _ H => E cls d H) → PE ((X.blk s H scope (compEnvC scope cl C X.env) fp).tr pn xe) elt te) (hs : ∀ x, foldedSetIterable iter X.env x = pure x)
    (h : tLc wi g tt te (own.map (·.2)) σ H Q)
    (hRR : ∀ D (ce : Env) s' m H', Inv X pins σ H' s' → Q (.ref D) H' → s'.heap.Ns ce.locals m → FpOk X pins H' ce.locals → compEnds (model X.prog X.w) X.A X.xe use Qf (.ref D) ce (.ok .next) s') :
    wpAny (model X.prog X.w) X.A (comprehension (.ListComp elt [⟨tg, iter, ifs, 0⟩] scope pos) scope X.env pos' (newList []) false (eval iter X.env) use) Qf X.xe s := by
  have hfree : ∀ y ∈ scope.names, y.2 = .free → ∃ c, X.env.cells.lookup y.1 = some c := fun y hy e => by
    rcases ok.free y hy e with k | k
    · exact I.ok.has _ (.inl k)
    · exact I.ok.has _ (.inr k)
  refine comprehension_at (use := use) rfl hs (closure_ok hfree) ok.kind (fun y hy e => by rw [ok.uniq y hy, e])
    (thn (hi.run pins s σ H _ I h) fun xv s1 hx => thn hx fun itv s2 h2 => ?_)
  obtain ⟨it, fp, tn, J, H2, e, I2, T, st2, f2, q⟩ := h2
  subst e
  refine wpAny_newObj_type (newEnv_comp ?_) (by show 0 ≤ sizeLine; decide)
  generalize hD : s2.heap.objs.size = D
  have hDn : H2 D = none := I2.hok.fresh (Nat.le_of_eq hD)
  obtain ⟨W, ⟨m0, w0⟩, turn⟩ := q D hDn
  -- the new list
  generalize hs3 : ({ s2 with heap := s2.heap.push { cls := .type "list", data := .seq ([] : List Value).toArray } } : Shared) = s3
  have I3 : Inv X pins σ (upd H2 D (.lst [])) s3 := by
    rw [← hs3]
    refine I2.laid (t' := s2.toks) (fun b o e => Heap.get?_push_of_some _ e) (Nat.le_of_eq hD) ⟨Nat.zero_le _, [], 0, .nil, ?_⟩
    rw [← hD]
    exact Heap.get?_push_size _ rfl
  have h3 : s3.heap = s2.heap.push { cls := .type "list", data := .seq ([] : List Value).toArray } := by rw [← hs3]
  have sz : ∀ b ∈ fp, b < s2.heap.objs.size := fun b hb => by
    obtain ⟨o, e, _⟩ := T.obj _ _ st2 b hb
    exact Heap.lt_size e
  have f3 : ∀ b ∈ fp, FpOk X pins (upd H2 D (.lst [])) b ∧ b < s3.heap.objs.size := fun b hb => by
    have hlt := sz b hb
    refine ⟨⟨?_, (f2 b hb).2⟩, by rw [h3, Heap.size_push]; exact Nat.lt_succ_of_lt hlt⟩
    rw [upd_ne (by rw [← hD]; exact Nat.ne_of_lt hlt)]
    exact (f2 b hb).1
  have st3 : tn 0 s3.heap := T.keep _ _ _ st2 fun b _ o e => by rw [h3]; exact Heap.get?_push_of_some _ e
  have I4 := block_start I3 ok hN f3
  have pg := hg s3 (upd H2 D (.lst [])) s3.heap.objs.size (cellsFrom (s3.heap.objs.size + 1) scope.names (cloFrom X.env.cells scope.names [])) fp
  have pt := ht s3 (upd H2 D (.lst [])) s3.heap.objs.size (cellsFrom (s3.heap.objs.size + 1) scope.names (cloFrom X.env.cells scope.names [])) fp
  have pe := he s3 (upd H2 D (.lst [])) s3.heap.objs.size (cellsFrom (s3.heap.objs.size + 1) scope.names (cloFrom X.env.cells scope.names [])) fp
  show codeAny _ _ (.compStart (.ListComp elt [⟨tg, iter, ifs, 0⟩] scope pos) 0 (.ref it) (.ref D) (compEnvC scope (cellsFrom (s3.heap.objs.size + 1) scope.names (cloFrom X.env.cells scope.names [])) s3.heap.objs.size X.env)) (compEnds (model X.prog X.w) X.A X.xe use Qf (.ref D) (compEnvC scope (cellsFrom (s3.heap.objs.size + 1) scope.names (cloFrom X.env.cells scope.names [])) s3.heap.objs.size X.env)) { s3 with heap := pushCells (s3.heap.push { cls := .type "dict", data := .dict #[] }) scope.names }
  have nfp : ∀ b ∈ fp, (upd H2 D (.lst [])) b = none := fun b hb => (f3 b hb).1.1
  have cf : (compEnvC scope (cellsFrom (s3.heap.objs.size + 1) scope.names (cloFrom X.env.cells scope.names [])) s3.heap.objs.size X.env).frame = X.env.frame := rfl
  generalize hce : compEnvC scope (cellsFrom (s3.heap.objs.size + 1) scope.names (cloFrom X.env.cells scope.names [])) s3.heap.objs.size X.env = ce at I4 pg pt pe cf ⊢
  have cL : ce.locals = s3.heap.objs.size := by subst hce; rfl
  generalize hH3 : upd H2 D (.lst []) = H3 at I3 I4 pg pt pe w0 nfp f3
  generalize hs4 : ({ s3 with heap := pushCells (s3.heap.push { cls := .type "dict", data := .dict #[] }) scope.names } : Shared) = s4 at I4 ⊢
  have st4 : tn 0 s4.heap := T.keep _ _ _ st3 fun b _ o e => by rw [← hs4]; exact pushCells_keeps _ _ _ _ (Heap.get?_push_of_some _ e)
  have stat : ∀ {σ' : L2.St} {H' : Hp} {s' : Shared}, Inv (X.blk s3 H3 scope ce fp) [] σ' H' s' → (∀ b ∈ fp, H' b = none) → ∀ b ∈ fp, FpOk (X.blk s3 H3 scope ce fp) [] H' b := fun {σ' H' s'} I' hn b hb =>
    ⟨hn b hb, (I'.ok.exf b hb).1, I'.ok.exfs b hb, .inl hb, fun x c e => (I'.ok.exf b hb).2 x c e, fun p hp => absurd (show p ∈ ([] : List (Addr × Obj)) ++ [] from hp) (by simp)⟩
  have tkb : ∀ pn, Takes ((X.blk s3 H3 scope ce fp).tr pn (xeB X use Qf D ce)) fun cls d _ H => E cls d H := fun pn => takes_blk hst hfr tk I3 cL cf fun b hb => (f3 b hb).1
  have loop : codeAny (model X.prog X.w) X.A (.compLoop (.ListComp elt [⟨tg, iter, ifs, 0⟩] scope pos) 0 (.ref it) (.ref D) ce) (compEnds (model X.prog X.w) X.A X.xe use Qf (.ref D) ce) s4 := by
    refine compLoop_any (fun n s' => ∃ i H', Inv (X.blk s3 H3 scope ce fp) [] (wipe σ (own.map (·.2))) H' s' ∧ tn i s'.heap ∧ (∀ b ∈ fp, H' b = none) ∧ W i n H') ?_ m0 ⟨0, H3, I4, st4, nfp, w0⟩
    rintro n s5 ⟨i, H5, I5, st5, n5, w5⟩
    rcases turn i n H5 w5 with ⟨stop, qq⟩ | ⟨go, Nx, hNx, step⟩
    · have td := T.done (X.blk s3 H3 scope ce fp) rfl rfl rfl hc i [] s5 _ H5 (fun _ _ => False) I5 (stat I5 n5) st5 stop
      refine thnF td fun r s6 ⟨hr, I6⟩ => ?_
      subst hr
      -- back in the def's context
      have I7 : Inv X pins σ H5 s6 := I3.call' (ch := fp) I6.os I6.base I6.hok I6.bare fun b hb => ⟨(f3 b hb).1.2.2.2.1, (f3 b hb).1.2.1, (f3 b hb).1.2.2.2.2.1, (f3 b hb).1.2.2.2.2.2⟩
      have nC : H5 ce.locals = none := I6.free
      obtain ⟨m, hn, _⟩ := I6.loc
      have hn : s6.heap.Ns ce.locals m := hn
      exact hRR D ce s6 m H5 I7 qq hn (I3.fpOk (by rw [cL]; exact Nat.le_refl _) nC)
    · have ti := T.item (X.blk s3 H3 scope ce fp) rfl rfl rfl hc i [] s5 _ H5 (fun _ _ => False) I5 (stat I5 n5) st5 go
      refine thnF ti fun r s6 ⟨u, hr, h6⟩ => ?_
      subst hr
      refine thnF h6 fun _ s7 ⟨x, H7, I7, r7, y7, st7, n7⟩ => ?_
      have I7' := I7.pinned (stat I7 n7) (T.obj _ _ st7)
      refine thnF (pg.run _ s7 _ H7 x u _ I7' r7 (step x H7 y7)) fun _ s8 ⟨σ8, H8, I8, hw8, q8⟩ => ?_
      refine thnF (pt.run _ s8 σ8 H8 _ I8 q8) fun b s9 ⟨H9, I9, q9⟩ => ?_
      -- the turn's end
      have fin : ∀ {s' : Shared} {H' : Hp}, Inv (X.blk s3 H3 scope ce fp) ([] ++ pinsAt fp s7.heap) σ8 H' s' → Nx H' → ∃ m, m < n ∧ ∃ i H', Inv (X.blk s3 H3 scope ce fp) [] (wipe σ (own.map (·.2))) H' s' ∧ tn i s'.heap ∧ (∀ b ∈ fp, H' b = none) ∧ W i m H' := fun {s' H'} I' nx => by
        obtain ⟨m', hm, w'⟩ := hNx H' nx
        have pin' : ∀ b ∈ fp, ∀ o, s7.heap.get? b = some o → s'.heap.get? b = some o ∧ H' b = none := fun b hb o e =>
          let z := I'.pin (b, o) (List.mem_append_right _ (List.mem_append_right _ (mem_pinsAt hb e)))
          ⟨z.1, z.2.1⟩
        have hl : (wipe σ (own.map (·.2))).length = σ8.length := by rw [← hw8, wipe_length]
        refine ⟨m', hm, i + 1, H', (I'.unpinned (pins := [])).weak hl (fun j v e => ?_), T.keep _ _ _ st7 fun b hb o e => (pin' b hb o e).1, fun b hb => ?_, w'⟩
        · rw [← hw8] at e
          exact (wipe_some e).1
        · obtain ⟨o, e, _⟩ := T.obj _ _ st7 b hb
          exact (pin' b hb o e).2
      cases b with
      | false =>
        simp only [Bool.false_eq_true, if_false] at q9 ⊢
        exact fin I9 q9
      | true =>
        simp only [if_true] at q9 ⊢
        have okb := I9.ok
        refine wpAny_mono ((pe _ (xeB X use Qf D ce) (tkb _)).run [] s9 σ8 H9 _ (I9.toTry _) q9) (fun z s10 ⟨yv, H10, I10', r10, acc, hD10, hz10, nx⟩ => ?_) fun _ _ x => x
        have I10 := Inv.ofTry I10' okb
        exact app_ok (X := X.blk s3 H3 scope ce fp) I10 hD10 hz10 r10 fun s11 I11 => fin I11 nx
  exact codeAny_compStart_list loop (T.self X.A 0 _ _ _ st4 loop)
/-- as a value -/
theorem pe_lcX {elt tg iter : Expr} {ifs : List Expr} {scope : Scope} {own : List (Str × Nat)} {pos : Pos} {wi : TI} {g : TG} {tt : TT} {te : TE} {E : XK} (hst : X.stack = X.env :: X.outer) (hfr : X.env.frame = some X.env.locals) (tk : Takes X fun cls d _ H => E cls d H)
    (hc : X.calm = true) (hN : X.N.Nodup) (hi : PI X tg iter wi) (ok : BlkOk X.N X.env.scope scope own)
    (hg : ∀ (s : Shared) (H : Hp) (C : Addr) (cl : List (Str × Addr)) (fp : List Addr), PG (X.blk s H scope (compEnvC scope cl C X.env) fp) tg g) (ht : ∀ (s : Shared) (H : Hp) (C : Addr) (cl : List (Str × Addr)) (fp : List Addr), PTs (X.blk s H scope (compEnvC scope cl C X.env) fp) ifs tt)
    (he : ∀ (s : Shared) (H : Hp) (C : Addr) (cl : List (Str × Addr)) (fp : List Addr) (pn : List (Addr × Obj)) (xe : Value → Shared → Prop), Takes ((X.blk s H scope (compEnvC scope cl C X.env) fp).tr pn xe) (fun cls d _ H => E cls d H) → PE ((X.blk s H scope (compEnvC scope cl C X.env) fp).tr pn xe) elt te) (hs : ∀ x, foldedSetIterable iter X.env x = pure x := by intro _; rfl) :
    PE X (.ListComp elt [⟨tg, iter, ifs, 0⟩] scope pos) (tLc wi g tt te (own.map (·.2))) := by
  refine ⟨fun pins s σ H Q I h => ?_⟩
  rw [eval_ListComp]
  refine lc_coreX hst hfr tk hc hN I hi ok hg ht he hs h fun D ce s' m H' I' q hn f => ⟨m, hn, fun h'' sb => ?_⟩
  obtain ⟨f0, f1, f2, f3, f4, f5⟩ := f
  exact ⟨.ref D, H', I'.turned (t' := s'.toks) (fun b o hb e => (sb.2 b hb).trans e) f0 f1 f3 f4 f5, rfl, q⟩
end
end DL
namespace DL
open PySem PySem.Spec PyProof.Rows L2 Evl
variable [TabC]
theorem Sim.drop {K : PySem.W.Frag} {F : Gm} {Hd H : Hp} {G : Gm} {p : Addr} {m : Mt} (S : Sim K (gup F p m) Hd H G) (hF : F p = Option.none) (hm : ∀ q, m ≠ .tab q) : Sim K F Hd H G := by
  have ne : ∀ {a k}, F a = some k → gup F p m a = some k := fun {a k} e => by
    have z : a ≠ p := fun z => by
      rw [z, hF] at e
      cases e
    rw [gup_ne z]
    exact e
  refine ⟨S.sub, S.off, S.hold, fun a k e => S.offF a k (ne e), fun a k e => S.holdF a k (ne e), fun a k e => S.apart a k (ne e), fun q hq => ?_⟩
  have t := S.tabs q hq
  by_cases z : q.1 = p
  · rw [z, gup_same] at t
    exact (hm q.2 (Option.some.inj t)).elim
  · rw [gup_ne z] at t
    exact t
theorem KX.drop {K : PySem.W.Frag} {F : Gm} {Hd : Hp} {RX : XD} {E : XK} {p : Addr} {m : Mt} (k : KX K F Hd RX E) (hF : F p = Option.none) (hm : ∀ q, m ≠ .tab q) : KX K (gup F p m) Hd RX E := fun C d H' Hd' ns vs xs G' e S => k C d H' Hd' ns vs xs G' e (S.drop hF hm)
section
variable {X : Cx} {B : Bs} {pos p : Pos} {a b c e : Expr} {es : List Expr} {da db dc de : DE} {dA : DA} {ta tb : DT}
theorem lc_impX {K : PySem.W.Frag} {RX : XD} {E : XK} (kx : KX K B.f B.b RX E) {di : DI} {g : DG} {t : DT} {de : DE} {js vs : List Nat} (hj : ∀ j ∈ js, j ∈ vs) : ∀ σ H Q, upE K B (dCmp di g t de vs) σ H Q →
    tLc (upI K B di) (fun v σ H Q => ∃ B', upG K B' js g v σ H Q) (fun σ H Q => ∃ B', upT K B' t σ H Q) (fun σ H Q => ∃ B' : {B' : Bs // KX K B'.f B'.b RX E}, upE K B'.1 de σ H Q) vs σ H Q := fun σ H Q ⟨ρ, Hd, G, R, at_, h, k⟩ => by
  refine ⟨ρ, Hd, G, _, at_, h, fun J H1 Hd1 xs G1 e1 s1 w h1 Dl hD => ?_⟩
  have hF : B.f Dl = none := s1.ffree hD
  have ere : RpE K Hd1 (L2.wipe σ vs) (wipeD ρ vs) := (at_.e.mono e1).wipe vs
  refine ⟨fun i m H2 => m = xs.length - i ∧ i ≤ xs.length ∧ ∃ Hd2 G2 acc, Ex Hd1 Hd2 ∧ Sim K (gup B.f Dl (.lst acc)) Hd2 H2 G2 ∧ cmpL (wipeD ρ vs) g t de (xs.drop i) acc G2 fun acc G2 => R (.lst acc) G2,
    ⟨_, rfl, Nat.zero_le _, Hd1, G1, [], Ex.refl _, s1.hide (s1.ffree hD) (s1.free hD) (ex_put s1.sub (s1.free hD)) (s1.gfree hD) ⟨[], upd_same, .nil⟩, h1⟩, ?_⟩
  rintro i m H2 ⟨rfl, hi2, Hd2, G2, acc, e2, s2, h2⟩
  obtain ⟨w1, w2⟩ := w _ i H2 Hd2 G2 e2 s2
  by_cases hl : i < xs.length
  · rw [List.drop_eq_getElem_cons hl] at h2
    obtain ⟨go, yl⟩ := w1 xs[i] (by simp [hl])
    let N : Hp → Prop := fun H' => ∃ Hd2 G2 acc, Ex Hd1 Hd2 ∧ Sim K (gup B.f Dl (.lst acc)) Hd2 H' G2 ∧ cmpL (wipeD ρ vs) g t de (xs.drop (i + 1)) acc G2 fun acc G2 => R (.lst acc) G2
    refine .inr ⟨go, N, fun H' h' => ⟨xs.length - (i + 1), by omega, rfl, hl, h'⟩, fun v H3 y => ?_⟩
    obtain ⟨Hd3, e3, s3, r3⟩ := yl v H3 y
    have at3 : At K ⟨Hd3, gup B.f Dl (.lst acc)⟩ (L2.wipe σ vs) H3 (wipeD ρ vs) Hd3 G2 := ⟨Ex.refl _, ere.mono (e2.trans e3), s3⟩
    refine ⟨⟨Hd3, gup B.f Dl (.lst acc)⟩, xs[i], wipeD ρ vs, Hd3, G2, _, at3, r3, h2, fun σ4 H4 Hd4 ρ4 G4 e4 r4 s4 h4 o4 => ⟨wipe_only o4 hj, ?_⟩⟩
    refine ⟨⟨Hd3, gup B.f Dl (.lst acc)⟩, ρ4, Hd4, G4, _, ⟨e4, r4, s4⟩, h4, fun kk H5 Hd5 G5 e5 s5 h5 => ?_⟩
    cases kk with
    | false =>
      show N H5
      exact ⟨Hd5, G5, acc, ((e2.trans e3).trans e4).trans e5, s5, h5⟩
    | true =>
      refine ⟨⟨⟨Hd3, gup B.f Dl (.lst acc)⟩, (kx.mono (((at_.b.trans e1).trans e2).trans e3)).drop hF (fun q z => nomatch z)⟩, ρ4, Hd5, G5, _, ⟨e4.trans e5, r4.mono e5, s5⟩, h5, fun u H6 Hd6 y6 G6 e6 s6 r6 ⟨hz, h6⟩ => ?_⟩
      obtain ⟨ys, hy, ry⟩ := s6.holdF Dl (.lst acc) gup_same
      refine ⟨ys, hy, by rw [ry.length]; exact hz, Hd6, G6, acc ++ [y6], (((e2.trans e3).trans e4).trans e5).trans e6, s6.putF (fun q z => nomatch z) ⟨_, upd_same, ry.app (.cons r6 .nil)⟩, h6⟩
  · have e0 : xs.drop i = [] := List.drop_eq_nil_of_le (by omega)
    rw [e0] at h2
    obtain ⟨ys, hy, ry⟩ := s2.holdF Dl (.lst acc) gup_same
    have hd : Hd2 Dl = none := s2.offF Dl _ gup_same
    have ee : Ex Hd2 (upd Hd2 Dl (.lst ys)) := Ex.new hd
    exact .inl ⟨w2 (by omega), k (.ref Dl) H2 _ (.lst acc) G2 ((e1.trans e2).trans ee) (s2.bare hy hF) (.lst sq_new (ry.mono ee)) h2⟩

theorem pd_lcX {elt tg iter : Expr} {ifs : List Expr} {scope : Scope} {own : List (Str × Nat)} {di : DI} {g : DG} {t : DT} {js : List Nat} {RX : XD} {E : XK} (hst : X.stack = X.env :: X.outer) (hfr : X.env.frame = some X.env.locals) (tk : Takes X fun cls d _ H => E cls d H) (kx : KX X.K B.f B.b RX E)
    (hc : X.calm = true) (hN : X.N.Nodup) (hi : PI X tg iter (upI X.K B di)) (ok : BlkOk X.N X.env.scope scope own) (hj : ∀ j ∈ js, j ∈ own.map (·.2))
    (hg : ∀ (B : Bs) (s : Shared) (H : Hp) (C : Addr) (cl : List (Str × Addr)) (fp : List Addr), PG (X.blk s H scope (compEnvC scope cl C X.env) fp) tg (upG X.K B js g)) (ht : ∀ (B : Bs) (s : Shared) (H : Hp) (C : Addr) (cl : List (Str × Addr)) (fp : List Addr), PTs (X.blk s H scope (compEnvC scope cl C X.env) fp) ifs (upT X.K B t))
    (he : ∀ (B : Bs) (s : Shared) (H : Hp) (C : Addr) (cl : List (Str × Addr)) (fp : List Addr) (pn : List (Addr × Obj)) (xe : Value → Shared → Prop), Takes ((X.blk s H scope (compEnvC scope cl C X.env) fp).tr pn xe) (fun cls d _ H => E cls d H) → KX X.K B.f B.b RX E → PE ((X.blk s H scope (compEnvC scope cl C X.env) fp).tr pn xe) elt (upE X.K B de)) (hs : ∀ x, foldedSetIterable iter X.env x = pure x := by intro _; rfl) :
    PE X (.ListComp elt [⟨tg, iter, ifs, 0⟩] scope pos) (upE X.K B (dCmp di g t de (own.map (·.2)))) :=
  pe_imp (pe_lcX hst hfr tk hc hN hi ok (fun s H C cl fp => pg_ex fun B => hg B s H C cl fp) (fun s H C cl fp => pts_ex fun B => ht B s H C cl fp) (fun s H C cl fp pn xe tk' => pe_ex fun B => he B.1 s H C cl fp pn xe tk' B.2) hs) (lc_impX kx hj)

theorem ps_setLcX {i : Nat} {y : Str} {py : Pos} {elt tg iter : Expr} {ifs : List Expr} {scope : Scope} {own : List (Str × Nat)} {pos spos : Pos} {wi : TI} {g : TG} {tt : TT} {te : TE} {E : XK} (hst : X.stack = X.env :: X.outer) (hfr : X.env.frame = some X.env.locals) (tk : Takes X fun cls d _ H => E cls d H)
    (hc : X.calm = true) (hN : X.N.Nodup) (hy : X.N[i]? = some y) (hyl : X.env.scope.names.lookup y = some .local)
    (hsw : swapsWith (.ListComp elt [⟨tg, iter, ifs, 0⟩] scope pos) (some (.Name y py)) spos.line X.env = pure true) (hi : PI X tg iter wi) (ok : BlkOk X.N X.env.scope scope own)
    (hg : ∀ (s : Shared) (H : Hp) (C : Addr) (cl : List (Str × Addr)) (fp : List Addr), PG (X.blk s H scope (compEnvC scope cl C X.env) fp) tg g) (ht : ∀ (s : Shared) (H : Hp) (C : Addr) (cl : List (Str × Addr)) (fp : List Addr), PTs (X.blk s H scope (compEnvC scope cl C X.env) fp) ifs tt)
    (he : ∀ (s : Shared) (H : Hp) (C : Addr) (cl : List (Str × Addr)) (fp : List Addr) (pn : List (Addr × Obj)) (xe : Value → Shared → Prop), Takes ((X.blk s H scope (compEnvC scope cl C X.env) fp).tr pn xe) (fun cls d _ H => E cls d H) → PE ((X.blk s H scope (compEnvC scope cl C X.env) fp).tr pn xe) elt te) (hs : ∀ x, foldedSetIterable iter X.env x = pure x := by intro _; rfl) :
    PS X (.Assign [.Name y py] (.ListComp elt [⟨tg, iter, ifs, 0⟩] scope pos) spos) (tAsg (tLc wi g tt te (own.map (·.2))) (gName i)) := by
  refine ⟨fun pins s σ H D I h => ?_⟩
  rw [exec_Assign_Name_used _ _ _ _ hsw]
  refine wpAny_bind (wpAny_standAt (wpAny_bind ?_))
  show wpAny _ X.A (do let _ ← comprehension (.ListComp elt [⟨tg, iter, ifs, 0⟩] scope pos) scope X.env (firstIterPos [⟨tg, iter, ifs, 0⟩] pos) (newList []) false (eval iter X.env) (some (assign (.Name y py) X.env))) _ _ s
  have h : tLc wi g tt te (own.map (·.2)) σ H (fun x H1 => gName i x σ H1 D.nx) := h
  refine wpAny_bind (thn (lc_coreX (Qf := fun _ s' => SP X pins D .next s') hst hfr tk hc hN I hi ok hg ht he hs h fun L ce s' m H' I' q hn f => ?_) fun _ s' hq => wpAny_pure (wpAny_pure hq))
  show wpAny _ _ (assign (.Name y py) X.env (.ref L)) _ _ _
  refine wpAny_assign_Name (store_ok2 (v := V.ref L) I' hN hy (.inl hyl) rfl (fun s2 I2 ⟨a, sb, ha⟩ => ?_) (.inr hyl))
  obtain ⟨f0, f1, f2, f3, f4, f5⟩ := f
  have haC : ce.locals ≠ a := by
    rcases ha with z | z
    · rw [z]; exact f1
    · exact fun e => f4 y a z e.symm
  refine ⟨m, hn.sameBut sb haC, fun h3 sb3 => ?_⟩
  exact ⟨_, H', I2.turned (t' := s2.toks) (fun b o hb e => (sb3.2 b hb).trans e) f0 f1 f3 f4 f5, q⟩
theorem psd_setLcX {i : Nat} {y : Str} {py spos : Pos} {elt tg iter : Expr} {ifs : List Expr} {scope : Scope} {own : List (Str × Nat)} {di : DI} {g : DG} {t : DT} {js : List Nat} {RX : XD} {E : XK} (hst : X.stack = X.env :: X.outer) (hfr : X.env.frame = some X.env.locals) (tk : Takes X fun cls d _ H => E cls d H) (kx : KX X.K B.f B.b RX E)
    (hc : X.calm = true) (hN : X.N.Nodup) (hy : X.N[i]? = some y) (hyl : X.env.scope.names.lookup y = some .local)
    (hsw : swapsWith (.ListComp elt [⟨tg, iter, ifs, 0⟩] scope pos) (some (.Name y py)) spos.line X.env = pure true) (hi : PI X tg iter (upI X.K B di)) (ok : BlkOk X.N X.env.scope scope own) (hj : ∀ j ∈ js, j ∈ own.map (·.2))
    (hg : ∀ (B : Bs) (s : Shared) (H : Hp) (C : Addr) (cl : List (Str × Addr)) (fp : List Addr), PG (X.blk s H scope (compEnvC scope cl C X.env) fp) tg (upG X.K B js g)) (ht : ∀ (B : Bs) (s : Shared) (H : Hp) (C : Addr) (cl : List (Str × Addr)) (fp : List Addr), PTs (X.blk s H scope (compEnvC scope cl C X.env) fp) ifs (upT X.K B t))
    (he : ∀ (B : Bs) (s : Shared) (H : Hp) (C : Addr) (cl : List (Str × Addr)) (fp : List Addr) (pn : List (Addr × Obj)) (xe : Value → Shared → Prop), Takes ((X.blk s H scope (compEnvC scope cl C X.env) fp).tr pn xe) (fun cls d _ H => E cls d H) → KX X.K B.f B.b RX E → PE ((X.blk s H scope (compEnvC scope cl C X.env) fp).tr pn xe) elt (upE X.K B de)) (hs : ∀ x, foldedSetIterable iter X.env x = pure x := by intro _; rfl) :
    PS X (.Assign [.Name y py] (.ListComp elt [⟨tg, iter, ifs, 0⟩] scope pos) spos) (upS X.K B (dSet i (dCmp di g t de (own.map (·.2))))) :=
  ps_imp (ps_setLcX hst hfr tk hc hN hy hyl hsw hi ok (fun s H C cl fp => pg_ex fun B => hg B s H C cl fp) (fun s H C cl fp => pts_ex fun B => ht B s H C cl fp) (fun s H C cl fp pn xe tk' => pe_ex fun B => he B.1 s H C cl fp pn xe tk' B.2) hs) fun D σ H h => lc_impX kx hj σ H _ (set_imp D σ H h)
end
end DL

/-! DL42: own classes over data: fields, instances made, methods, isinstance. -/
namespace DL
open PySem PySem.Spec PyProof.Rows L2 Evl
variable [TabC]

/-! ### attributes over data -/
def putNs (f : Str) : List Str → List Str
  | [] => [f]
  | g :: r => if g = f then g :: r else g :: putNs f r
def putXs {α : Type} (f : Str) (z : α) : List Str → List α → List α
  | [], _ => [z]
  | _ :: _, [] => []
  | g :: r, x :: xs => if g = f then z :: xs else x :: putXs f z r xs
theorem putF_zip {f : Str} {v : V} : ∀ {ns : List Str} {vs : List V}, ns.length = vs.length → putF f v (ns.zip vs) = (putNs f ns).zip (putXs f v ns vs)
  | [], [], _ => rfl
  | g :: r, x :: xs, h => by
    show (if g = f then (g, v) :: r.zip xs else (g, x) :: putF f v (r.zip xs)) = _
    unfold putNs putXs
    by_cases q : g = f
    · rw [if_pos q, if_pos q, if_pos q]
      rfl
    · rw [if_neg q, if_neg q, if_neg q, putF_zip (by simpa using h)]
      rfl
theorem put_len {α : Type} {f : Str} {z : α} : ∀ {ns : List Str} {xs : List α}, ns.length = xs.length → (putNs f ns).length = (putXs f z ns xs).length
  | [], [], _ => rfl
  | g :: r, x :: xs, h => by
    unfold putNs putXs
    by_cases q : g = f
    · rw [if_pos q, if_pos q]
      simpa using h
    · rw [if_neg q, if_neg q, List.length_cons, List.length_cons, put_len (by simpa using h)]
theorem RpL.put {K : PySem.W.Frag} {H : Hp} {f : Str} {v : V} {z : D} (hz : Rp K H v z) : ∀ {ns : List Str} {vs : List V} {xs : List D}, RpL K H vs xs → RpL K H (putXs f v ns vs) (putXs f z ns xs)
  | [], _, _, _ => .cons hz .nil
  | _ :: _, _, _, .nil => .nil
  | g :: r, _, _, .cons a b => by
    unfold putXs
    by_cases q : g = f
    · rw [if_pos q, if_pos q]
      exact .cons hz b
    · rw [if_neg q, if_neg q]
      exact .cons a (RpL.put hz b)

/-! ### what the head tells of own classes -/
/-- cl: the classes, the names of their instances' fields -/
abbrev ClT := List (Str × List Str)
def hasF (cl : ClT) (C f : Str) : Bool := cl.any fun p => p.1 == C && p.2.contains f
def hasC (cl : ClT) (C : Str) : Bool := cl.any fun p => p.1 == C
structure OwC (K : PySem.W.Frag) (mg : Str → Option Value) (cl : ClT) (sub : Str → Str → Bool) : Prop where
  g : ∀ p ∈ cl, mg p.1 = some (.ref (He.ga K p.1))
  c : ∀ p ∈ cl, L2.Cls K (He.ga K p.1)
  n : ∀ p ∈ cl, ∀ f ∈ p.2, NoAttr K (He.ga K p.1) f
  a : ∀ p ∈ cl, PySem.W.findIn K (.ref (He.ga K p.1)) "__class__" = some (some (.builtin "object.__class__"))
  s : PySem.W.specialIn K (.builtin "object.__class__") "__get__" = some (some (.builtin "getset_descriptor.__get__"))
  k : PySem.W.takesIn K (.builtin "object.__class__") = some true
  m : ∀ p ∈ cl, PySem.W.mroIn K (He.ga K p.1) (.type "object") = some true
  e : ∀ p ∈ cl, ∀ q ∈ cl, PySem.W.kitOne K (.ref (He.ga K p.1)) (.ref (He.ga K q.1)) = some (sub p.1 q.1)
  t : ∀ t ∈ ["NoneType", "bool", "int", "str", "tuple", "list", "dict"], ∀ p ∈ cl, PySem.W.kitOne K (.type t) (.ref (He.ga K p.1)) = some false
theorem OwC.mem {K : PySem.W.Frag} {mg : Str → Option Value} {cl : ClT} {sub : Str → Str → Bool} (T : OwC K mg cl sub) {C : Str} (h : hasC cl C = true) : ∃ p ∈ cl, p.1 = C := by
  obtain ⟨p, hp, q⟩ := List.any_eq_true.mp h
  exact ⟨p, hp, beq_iff_eq.mp q⟩
theorem OwC.fld {K : PySem.W.Frag} {mg : Str → Option Value} {cl : ClT} {sub : Str → Str → Bool} (T : OwC K mg cl sub) {C f : Str} (h : hasF cl C f = true) : L2.Cls K (He.ga K C) ∧ NoAttr K (He.ga K C) f := by
  obtain ⟨p, hp, q⟩ := List.any_eq_true.mp h
  obtain ⟨q1, q2⟩ := Bool.and_eq_true_iff.mp q
  have e := beq_iff_eq.mp q1
  subst e
  exact ⟨T.c p hp, T.n p hp f (List.contains_iff_mem.mp q2)⟩
def owB (K : PySem.W.Frag) (cl : ClT) (sub : Str → Str → Bool) : Bool :=
  He.eqO (PySem.W.specialIn K (.builtin "object.__class__") "__get__") (some (some (.builtin "getset_descriptor.__get__"))) && (decide (PySem.W.takesIn K (.builtin "object.__class__") = some true) &&
  cl.all fun p => (He.Fa.glo p.1).ok K && ((He.Fa.cls p.1).ok K && (p.2.all (fun f => (He.Fa.noat p.1 f).ok K) && (He.eqO (PySem.W.findIn K (.ref (He.ga K p.1)) "__class__") (some (some (.builtin "object.__class__"))) && (decide (PySem.W.mroIn K (He.ga K p.1) (.type "object") = some true) &&
    (["NoneType", "bool", "int", "str", "tuple", "list", "dict"].all (fun t => decide (PySem.W.kitOne K (.type t) (.ref (He.ga K p.1)) = some false)) && cl.all fun q => decide (PySem.W.kitOne K (.ref (He.ga K p.1)) (.ref (He.ga K q.1)) = some (sub p.1 q.1))))))))
theorem owB_ok {K : PySem.W.Frag} {h : Heap} {mg : Str → Option Value} {cl : ClT} {sub : Str → Str → Bool} (X : K.In h) (G : h.Ns mainGlobals mg) (b : owB K cl sub = true) : OwC K mg cl sub := by
  obtain ⟨b1, b⟩ := He.ba b
  obtain ⟨b2, b⟩ := He.ba b
  have key := List.all_eq_true.mp b
  refine ⟨fun p hp => ?_, fun p hp => ?_, fun p hp f hf => ?_, fun p hp => ?_, He.eqO_ok b1, of_decide_eq_true b2, fun p hp => ?_, fun p hp q hq => ?_, fun t ht p hp => ?_⟩ <;> obtain ⟨h1, z⟩ := He.ba (key p hp) <;> obtain ⟨h2, z⟩ := He.ba z <;> obtain ⟨h3, z⟩ := He.ba z <;> obtain ⟨h4, z⟩ := He.ba z <;> obtain ⟨h5, z⟩ := He.ba z <;> obtain ⟨h6, h7⟩ := He.ba z
  · exact He.glo_ok X G h1
  · exact He.cls_ok h2
  · exact He.noat_ok (List.all_eq_true.mp h3 f hf)
  · exact He.eqO_ok h4
  · exact of_decide_eq_true h5
  · exact of_decide_eq_true (List.all_eq_true.mp h7 q hq)
  · exact of_decide_eq_true (List.all_eq_true.mp h6 t ht)

/-! ### instances -/
/-- an instance: one that never changes, or one of the store -/
def InsAt (G : Gm) (y : D) (C : Str) (ns : List Str) (xs : List D) : Prop := y = .ins C ns xs ∨ ∃ a, y = .ref a ∧ G a = some (.ins C ns xs)
theorem InsAt.heap {K : PySem.W.Frag} {F : Gm} {Hd H : Hp} {G : Gm} {v : V} {y : D} {C : Str} {ns : List Str} {xs : List D} (S : Sim K F Hd H G) (r : Rp K Hd v y) (h : InsAt G y C ns xs) :
    ∃ a dx vs, v = .ref a ∧ H a = some (.ins (He.ga K C) dx (ns.zip vs)) ∧ ns.length = vs.length ∧ RpL K Hd vs xs := by
  rcases h with rfl | ⟨a, rfl, hg⟩
  · cases r with
    | ins h1 hl rl => exact ⟨_, _, _, rfl, S.sub _ _ h1, hl, rl⟩
  · cases r
    obtain ⟨dx, vs, h1, hl, rl⟩ := S.hold a _ hg
    exact ⟨a, dx, vs, rfl, h1, hl, rl⟩
def dFld (cl : ClT) (f : Str) (da : DE) : DE := fun ρ G R => da ρ G fun y G1 => ∃ C ns xs z, InsAt G1 y C ns xs ∧ hasF cl C f = true ∧ (ns.zip xs).lookup f = some z ∧ R z G1
/-- o.f = e; e first -/
def dSetF (cl : ClT) (f : Str) (dv dobj : DE) : DS := fun E ρ G => dv ρ G fun z G1 => dobj ρ G1 fun y G2 => ∃ a C ns xs, y = .ref a ∧ G2 a = some (.ins C ns xs) ∧ hasF cl C f = true ∧ ns.length < 1000 ∧ E.nx ρ (gup G2 a (.ins C (putNs f ns) (putXs f z ns xs)))
section
variable {X : Cx} {B : Bs} {p pos pos' q : Pos} {e o value : Expr} {es : List Expr} {da dv dobj : DE} {dA : DA} {cl : ClT} {sub : Str → Str → Bool} {x f : Str}
theorem pd_fld (T : OwC X.K X.mg cl sub) (ha : PE X e (upE X.K B da)) (hb : attributeBase e f X.env (eval e X.env) = eval e X.env := by rfl) : PE X (.Attribute e f pos) (upE X.K B (dFld cl f da)) :=
  pe_imp (pe_fld ha hb) fun σ H Q ⟨ρ, Hd, G, R, at_, h, k⟩ =>
    ⟨ρ, Hd, G, _, at_, h, fun v H1 Hd1 y G1 e1 s1 r1 ⟨C, ns, xs, z, hi, hf, hl, hr⟩ => by
      obtain ⟨a, dx, vs, rfl, ha, hlen, rl⟩ := hi.heap s1 r1
      obtain ⟨w, ew, rw_⟩ := rpl_lookup rl hl
      obtain ⟨c, n⟩ := T.fld hf
      exact ⟨a, _, dx, _, w, rfl, ha, c, n, ew, k w H1 Hd1 z G1 e1 s1 rw_ hr⟩⟩
theorem psd_setF (T : OwC X.K X.mg cl sub) (ha : PE X o (upE X.K B dobj)) (hv : PE X value (upE X.K B dv)) (hs : swapsWith value (some (.Attribute o f pos')) pos.line X.env = pure false := by rfl) :
    PS X (.Assign [.Attribute o f pos'] value pos) (upS X.K B (dSetF cl f dv dobj)) := ps_imp (ps_fld ha hv hs) fun D σ H ⟨ρ, Hd, G, E, at_, h, k⟩ => by
  refine ⟨ρ, Hd, G, _, at_, h, fun v H1 Hd1 z G1 e1 s1 r1 h1 => ?_⟩
  refine ⟨ρ, Hd1, G1, fun y G2 => ∃ a C ns xs, y = .ref a ∧ G2 a = some (.ins C ns xs) ∧ hasF cl C f = true ∧ ns.length < 1000 ∧ E.nx ρ (gup G2 a (.ins C (putNs f ns) (putXs f z ns xs))), at_.step e1 s1, h1, fun w H2 Hd2 y G2 e2 s2 r2 ⟨a, C, ns, xs, ey, hg, hf, hz, hE⟩ => ?_⟩
  subst ey
  cases r2
  obtain ⟨dx, vs, h2, hl, rl⟩ := s2.hold a _ hg
  obtain ⟨c, n⟩ := T.fld hf
  refine ⟨a, He.ga X.K C, dx, ns.zip vs, rfl, h2, c, n, ?_, ?_⟩
  · rw [List.length_zip, ← hl, Nat.min_self]
    exact hz
  · refine k.nx σ _ Hd2 ρ _ (e1.trans e2) (at_.e.mono (e1.trans e2)) (s2.put (n := .ins C (putNs f ns) (putXs f z ns xs)) hg ⟨dx, putXs f v ns vs, ?_, put_len hl, RpL.put (r1.mono e2) rl⟩) hE
    rw [upd_same, putF_zip hl]

/-! ### isinstance by own classes -/
def isW (cl : ClT) (sub : Str → Str → Bool) (C : Str) (y : D) : Option Bool := match y with
  | .ins E _ _ => if hasC cl E = true then some (sub E C) else none
  | y => if y.tyn.isSome then some false else none
def dIsW (cl : ClT) (sub : Str → Str → Bool) (C : Str) (da : DE) : DE := fun ρ G R => da ρ G fun y G1 => ∃ b, isW cl sub C y = some b ∧ R (.bl b) G1
theorem is_ownW {K : PySem.W.Frag} {mg : Str → Option Value} {F : Gm} {Hd H : Hp} {G : Gm} {v : V} {y : D} {b : Bool} {C : Str} (T : OwC K mg cl sub) (hC : hasC cl C = true) (s : Sim K F Hd H G) (r : Rp K Hd v y) (h : isW cl sub C y = some b) :
    ∃ t, TyX K H v t ∧ PySem.W.kitOne K t (.ref (He.ga K C)) = some b := by
  obtain ⟨p, hp, rfl⟩ := T.mem hC
  have fin : (if y.tyn.isSome = true then some false else none) = some b → ∃ t, TyX K H v t ∧ PySem.W.kitOne K t (.ref (He.ga K p.1)) = some b := fun h => by
    cases q : y.tyn with
    | none =>
      rw [q] at h
      cases h
    | some t =>
      rw [q] at h
      cases h
      exact ⟨_, ty_of s r q, T.t t (tyn_in q) p hp⟩
  cases y with
  | ins E ns xs =>
    unfold isW at h
    dsimp only at h
    by_cases hE : hasC cl E = true
    · rw [if_pos hE] at h
      cases h
      obtain ⟨q, hq, rfl⟩ := T.mem hE
      cases r with
      | ins h1 _ _ => exact ⟨_, .base (.ins (s.sub _ _ h1) (T.c q hq) (T.a q hq) T.s T.k (T.m q hq)), T.e q hq p hp⟩
    · rw [if_neg hE] at h
      cases h
  | _ => exact fin h
theorem pd_isW {C : Str} (T : OwC X.K X.mg cl sub) (hC : hasC cl C = true) (hx : x = "isinstance") (hg : Gl X x) (hm : X.mg x = none) (hgC : Gl X C) (ha : PE X e (upE X.K B da)) (hd : (C == ("__debug__" : Str)) = false := by decide)
    (he : starEach (e :: [.Name C q]) X.env = (false, eval e X.env) :: starEach [.Name C q] X.env := by rfl) (he2 : starEach ((.Name C q) :: []) X.env = (false, eval (.Name C q) X.env) :: starEach [] X.env := by rfl) (hpl : (backTo pos (starEach [.Name C q] X.env)).any (·.1) = false := by rfl) :
    PE X (.Call (.Name x p) (e :: [.Name C q]) [] pos) (upE X.K B (dIsW cl sub C da)) := by
  subst hx
  have gC : X.mg C = some (.ref (He.ga X.K C)) := by
    obtain ⟨p, hp, rfl⟩ := T.mem hC
    exact T.g p hp
  refine pe_imp (pe_callB call_isi hg hm (by decide +kernel) (pa_cons ha (pa_cons (pe_glob (v := .ref (He.ga X.K C)) hgC gC rfl hd) pa_nil he2) he) (by decide) (by decide) he hpl) fun σ H Q ⟨ρ, Hd, G, R, at_, h, k⟩ => ?_
  refine ⟨ρ, Hd, G, _, at_, h, fun v H1 Hd1 y G1 e1 s1 r1 ⟨b, eb, hr⟩ => ?_⟩
  obtain ⟨t, ty, kt⟩ := is_ownW T hC s1 r1 eb
  exact ⟨v, _, t, _, b, rfl, .own _, ty, kt, k _ H1 Hd1 _ G1 e1 s1 (.bl b) hr⟩
end

/-! ### methods -/
structure KnM (P : Program) (w : World) (K : PySem.W.Frag) (mg : Str → Option Value) (base : Heap) (k : Nat) (C m : Str) (st : Stmt) (ps : List Str) (p : DSp) : Prop where
  fn : ∃ fd, FunD K m (C ++ "." ++ m) (defArgs st) (defBody st) (defScope st) [] [] (He.ma K (He.ga K C) m) fd ∧ FnG P w K mg base k (He.ma K (He.ga K C) m) fd ps (spU K p)
section
variable {P : Program} {w : World} {K : PySem.W.Frag} {mg : Str → Option Value} {base : Heap}
theorem KnM.mono {j k : Nat} {C m : Str} {st : Stmt} {ps : List Str} {p : DSp} (h : KnM P w K mg base j C m st ps p) (l : j ≤ k) : KnM P w K mg base k C m st ps p :=
  ⟨let ⟨fd, a, b⟩ := h.fn; ⟨fd, a, b.mono l⟩⟩
/-- a method, where it stands -/
structure DfM (K : PySem.W.Frag) (C m : Str) (st : Stmt) : Prop where
  f : ∃ fd, FunD K m (C ++ "." ++ m) (defArgs st) (defBody st) (defScope st) [] [] (He.ma K (He.ga K C) m) fd
theorem knm_of {C m : Str} {st : Stmt} {N ps : List Str} {k : Nat} {p : DSp} (F : ∃ fd, FunD K m (C ++ "." ++ m) (defArgs st) (defBody st) (defScope st) [] [] (He.ma K (He.ga K C) m) fd) (S : FnScope N ps (defScope st)) (len : ∀ xs G R RX, p xs G R RX → xs.length = ps.length)
    (hbody : ∀ (cdv : Value), cdv = .ref (cdAt K (He.ma K (He.ga K C) m)) → ∀ (A : Around) (outer : List Env) (s : Shared) (H : Hp) (E : XK) (B : Bs) (RX : XD), Room k (A.deeper (envOfC (C ++ "." ++ m) (defScope st) s.heap.objs.size (He.ma K (He.ga K C) m) cdv)) → (A.deeper (envOfC (C ++ "." ++ m) (defScope st) s.heap.objs.size (He.ma K (He.ga K C) m) cdv)).guards = some [] → KX K B.f B.b RX E →
      ∃ t : DS, PSs (cxOf (L2.CX P w) P w K mg base N (C ++ "." ++ m) (defScope st) (He.ma K (He.ga K C) m) cdv A outer s H E) (defBody st) (upS K B t) ∧ ∀ xs G R, p xs G R RX → t { nx := fun _ G => R .non G, rt := R } (xs.map some ++ List.replicate (N.length - xs.length) none) G) :
    KnM P w K mg base (k + 1) C m st ps p := by
  obtain ⟨fd, F⟩ := F
  refine ⟨fd, F, fng_of F S (fun vs H Q E h => ?_) fun cdv hcv A outer s H vs Q E hr hg h => ?_⟩
  · obtain ⟨xs, _, _, G, R, RX, r, _, hp, _⟩ := h
    rw [r.length]
    exact len xs G R RX hp
  · obtain ⟨xs, F, Hd, G, R, RX, r, sm, hp, ke, kx⟩ := h
    obtain ⟨t, ht, h2⟩ := hbody cdv hcv A outer s H E ⟨Hd, F⟩ RX hr hg kx
    refine ⟨_, ht, _, Hd, G, _, ⟨Ex.refl _, RpE.start r, sm⟩, h2 xs G R hp, ?_⟩
    exact ⟨fun σ' H' Hd' ρ' G' e _ s h => ke .non H' Hd' .non G' e s .non h, ke, fun _ _ _ _ _ _ _ _ h => h.elim, fun _ _ _ _ _ _ _ _ h => h.elim⟩
end
/-- o.m(e, ..) -/
def dMeth (C m : Str) (q : DSp) (RX : XD) (dobj : DE) (dA : DA) : DE := fun ρ G R => dobj ρ G fun y G1 => ∃ ns xs, InsAt G1 y C ns xs ∧ (ns.zip xs).lookup m = none ∧ dA ρ G1 fun ys G2 => q (y :: ys) G2 R RX
theorem rpl_nolook {K : PySem.W.Frag} {H : Hp} {f : Str} : ∀ {ns : List Str} {vs : List V} {xs : List D}, RpL K H vs xs → (ns.zip xs).lookup f = none → (ns.zip vs).lookup f = none
  | [], _, _, _, h => rfl
  | _ :: _, _, _, .nil, h => rfl
  | n :: ns, _, _, .cons (v := v) a b, h => by
    rw [List.zip_cons_cons, List.lookup_cons] at h
    rw [List.zip_cons_cons, List.lookup_cons]
    cases q : (f == n) with
    | true =>
      rw [q] at h
      cases h
    | false =>
      rw [q] at h
      exact rpl_nolook b h
section
variable {X : Cx} {B : Bs} {apos pos : Pos} {e o : Expr} {es : List Expr} {dobj : DE} {dA : DA} {k : Nat} {f C : Addr} {m : Str} {fd : FuncData} {ps : List Str} {sp : Sp} {E : XK} {ta : TE} {t : TA} {pl : Sem Bool}
theorem callG_end {σ : L2.St} {H : Hp} {Q : VK} {pins : List (Addr × Obj)} {r : Result} {s2 : Shared} (hq : (match r with | .ok (.ret u) => EP X pins σ Q u s2 | .ok _ => False | .error e => X.xe e s2)) : (match r with | .ok (.ret u) => EP X pins σ Q u s2 | .error e => X.xe e s2 | .ok _ => False) := by
  cases r with
  | error e => exact hq
  | ok fl => cases fl <;> first | exact hq | exact hq.elim
theorem pe_methG (he : PE X o ta) (c : L2.Cls X.K C) (hm : L2.Meth X.K C m f) (F : FnG X.prog X.w X.K X.mg X.base k f fd ps sp) (hr : Room k X.A) (hgd : X.A.guards = some []) (hb : Binds X.K fd ps []) (hx : Passes (L2.CX X.prog X.w) X E) (ha : PA X (e :: es) t)
    (hst : starEach (e :: es) X.env = (false, eval e X.env) :: starEach es X.env := by rfl) (hpl : (backTo pos (starEach es X.env)).any (·.1) = false := by rfl)
    (ht : eval (.Call (.Attribute o m apos) (e :: es) [] pos) X.env = (do
      let ov ← eval o X.env
      standAt apos.atName
      let (f, first) ← holding [ov] (getMethod ov m pl)
      callWith pos f first (backTo pos (starEach (e :: es) X.env)) (backToKw pos (keywordEach [] X.env))) := by rfl) :
    PE X (.Call (.Attribute o m apos) (e :: es) [] pos) (tMeth C m sp [] E ta t) := by
  refine ⟨fun pins s σ H Q I h => ?_⟩
  refine PySem.W.methodCall_KW (pl := pl) (thn (he.run pins s σ H _ I h) fun u s1 ⟨x, H1, I1, rx, a, dx, fs, ex, ea, l, q⟩ => ?_) ht
  subst ex
  obtain rfl : u = Value.ref a := rx
  refine getmeth_ok I1 ea c hm l ?_
  refine PySem.W.callWith_K (first := [.ref a]) (h₀ := X.base) I.ok.mod.kin hm.kp (thn (ha.run pos pins s1 σ H1 _ I1 q) fun us s2 hh => ?_) hst hpl
  obtain ⟨vs, H2, I2, r, q2⟩ := hh
  rw [List.append_nil] at q2
  have hl : (Value.ref a :: us).length = ps.length := by rw [← F.len _ _ _ _ q2, List.length_cons, List.length_cons, r.length]
  have hb1 := hb s2 (.ref a :: us) I2.kIn (by rw [List.append_nil]; exact hl)
  rw [List.append_nil] at hb1
  refine ⟨I2.kIn, wpAny_call (codeAny_mono (run_fng F hr hgd hx I2 hb1 (.cons (show L2.RelV (V.ref a) (Value.ref a) from rfl) r) q2) fun r s2 hq => ?_)⟩
  cases r with
  | error e => exact hq
  | ok fl => cases fl <;> first | exact hq | exact hq.elim
theorem pe_methG0 (he : PE X o ta) (c : L2.Cls X.K C) (hm : L2.Meth X.K C m f) (F : FnG X.prog X.w X.K X.mg X.base k f fd ps sp) (hr : Room k X.A) (hgd : X.A.guards = some []) (hb : Binds X.K fd ps []) (hx : Passes (L2.CX X.prog X.w) X E)
    (ht : eval (.Call (.Attribute o m apos) [] [] pos) X.env = (do
      let ov ← eval o X.env
      standAt apos.atName
      let (f, first) ← holding [ov] (getMethod ov m pl)
      callWith pos f first (backTo pos (starEach [] X.env)) (backToKw pos (keywordEach [] X.env))) := by rfl) :
    PE X (.Call (.Attribute o m apos) [] [] pos) (tMeth C m sp [] E ta tNil) := by
  refine ⟨fun pins s σ H Q I h => ?_⟩
  refine PySem.W.methodCall_KW (pl := pl) (thn (he.run pins s σ H _ I h) fun u s1 ⟨x, H1, I1, rx, a, dx, fs, ex, ea, l, q⟩ => ?_) ht
  subst ex
  obtain rfl : u = Value.ref a := rx
  refine getmeth_ok I1 ea c hm l ?_
  have q2 : sp [.ref a] H1 Q E := q
  have hl : [Value.ref a].length = ps.length := by rw [← F.len _ _ _ _ q2]; rfl
  have hb1 := hb s1 [.ref a] I1.kIn (by rw [List.append_nil]; exact hl)
  rw [List.append_nil] at hb1
  refine PySem.W.callWith_K0 (first := [.ref a]) I1.kIn hm.kp (wpAny_call (codeAny_mono (run_fng F hr hgd hx I1 hb1 (.cons (show L2.RelV (V.ref a) (Value.ref a) from rfl) .nil) q2) fun r s2 hq => ?_))
  cases r with
  | error e => exact hq
  | ok fl => cases fl <;> first | exact hq | exact hq.elim
theorem meth_imp {K : PySem.W.Frag} {C m : Str} {q : DSp} {RX : XD} {E : XK} (hx : ∀ Hd, Ex B.b Hd → KX K B.f Hd RX E) : ∀ σ H Q, upE K B (dMeth C m q RX dobj dA) σ H Q → tMeth (He.ga K C) m (spU K q) [] E (upE K B dobj) (upA K B dA) σ H Q := fun σ H Q ⟨ρ, Hd, G, R, at_, h, k⟩ =>
  ⟨ρ, Hd, G, _, at_, h, fun v H1 Hd1 y G1 e1 s1 r1 ⟨ns, xs, hi, hl, h1⟩ => by
    obtain ⟨a, dx, vs, rfl, ha, hlen, rl⟩ := hi.heap s1 r1
    exact ⟨a, dx, _, rfl, ha, rpl_nolook rl hl, ρ, Hd1, G1, _, at_.step e1 s1, h1, fun us H2 Hd2 ys G2 e2 s2 r2 h2 => ⟨y :: ys, B.f, Hd2, G2, R, RX, by rw [List.append_nil]; exact .cons (r1.mono e2) r2, s2, h2, k.mono (e1.trans e2), hx Hd2 ((at_.b.trans e1).trans e2)⟩⟩⟩
theorem pd_meth {C : Str} {st : Stmt} {q : DSp} {RX : XD} (h : KnM X.prog X.w X.K X.mg X.base k C m st ps q) (c : L2.Cls X.K (He.ga X.K C)) (hm : L2.Meth X.K (He.ga X.K C) m (He.ma X.K (He.ga X.K C) m)) (hr : Room k X.A) (hgd : X.A.guards = some []) (hx : Passes (L2.CX X.prog X.w) X E) (kx : ∀ Hd, Ex B.b Hd → KX X.K B.f Hd RX E)
    (hb : ∀ (kV doc pm : Value) (an : Option Addr) (cdv ct : Value) (us : List Value), us.length = ps.length → bindArgs (PySem.W.fnOf m (C ++ "." ++ m) (defArgs st) (defBody st) (defScope st) .none kV doc pm an cdv ct) ⟨us, []⟩ = pure (ps.zip us))
    (ho : PE X o (upE X.K B dobj)) (ha : PA X (e :: es) (upA X.K B dA)) (hst : starEach (e :: es) X.env = (false, eval e X.env) :: starEach es X.env := by rfl) (hpl : (backTo pos (starEach es X.env)).any (·.1) = false := by rfl)
    (ht : eval (.Call (.Attribute o m apos) (e :: es) [] pos) X.env = (do
      let ov ← eval o X.env
      standAt apos.atName
      let (f, first) ← holding [ov] (getMethod ov m pl)
      callWith pos f first (backTo pos (starEach (e :: es) X.env)) (backToKw pos (keywordEach [] X.env))) := by rfl) :
    PE X (.Call (.Attribute o m apos) (e :: es) [] pos) (upE X.K B (dMeth C m q RX dobj dA)) := by
  obtain ⟨fd, F, G⟩ := h.fn
  exact pe_imp (pe_methG (pl := pl) ho c hm G hr hgd (F.bindsN hb) hx ha hst hpl ht) (meth_imp kx)
theorem pd_meth0 {C : Str} {st : Stmt} {q : DSp} {RX : XD} (h : KnM X.prog X.w X.K X.mg X.base k C m st ps q) (c : L2.Cls X.K (He.ga X.K C)) (hm : L2.Meth X.K (He.ga X.K C) m (He.ma X.K (He.ga X.K C) m)) (hr : Room k X.A) (hgd : X.A.guards = some []) (hx : Passes (L2.CX X.prog X.w) X E) (kx : ∀ Hd, Ex B.b Hd → KX X.K B.f Hd RX E)
    (hb : ∀ (kV doc pm : Value) (an : Option Addr) (cdv ct : Value) (us : List Value), us.length = ps.length → bindArgs (PySem.W.fnOf m (C ++ "." ++ m) (defArgs st) (defBody st) (defScope st) .none kV doc pm an cdv ct) ⟨us, []⟩ = pure (ps.zip us))
    (ho : PE X o (upE X.K B dobj))
    (ht : eval (.Call (.Attribute o m apos) [] [] pos) X.env = (do
      let ov ← eval o X.env
      standAt apos.atName
      let (f, first) ← holding [ov] (getMethod ov m pl)
      callWith pos f first (backTo pos (starEach [] X.env)) (backToKw pos (keywordEach [] X.env))) := by rfl) :
    PE X (.Call (.Attribute o m apos) [] [] pos) (upE X.K B (dMeth C m q RX dobj dNil)) := by
  obtain ⟨fd, F, G⟩ := h.fn
  refine pe_imp (pe_methG0 (pl := pl) ho c hm G hr hgd (F.bindsN hb) hx ht) fun σ H Q h => ?_
  obtain ⟨ρ, Hd, G, R, at_, h0, k0⟩ := h
  exact ⟨ρ, Hd, G, _, at_, h0, fun v H1 Hd1 y G1 e1 s1 r1 ⟨ns, xs, hi, hl, h1⟩ => by
    obtain ⟨a, dx, vs, rfl, ha, hlen, rl⟩ := hi.heap s1 r1
    exact ⟨a, dx, _, rfl, ha, rpl_nolook rl hl, ⟨[y], B.f, Hd1, G1, R, RX, .cons r1 .nil, s1, h1, k0.mono e1, kx Hd1 (at_.b.trans e1)⟩⟩⟩
end

/-! ### instances made -/
theorem Sim.gdel {K : PySem.W.Frag} {F : Gm} {Hd H : Hp} {G : Gm} (S : Sim K F Hd H G) (p : Addr) : Sim K F Hd H (DL.gdel G p) := by
  have gd : ∀ {a : Addr} {m : Mt}, DL.gdel G p a = some m → G a = some m := fun {a m} q => by
    unfold DL.gdel at q
    split at q
    · cases q
    · exact q
  refine ⟨S.sub, fun a m q => S.off a m (gd q), fun a m q => S.hold a m (gd q), S.offF, S.holdF, fun a m q => ?_, S.tabs⟩
  unfold DL.gdel
  split
  · rfl
  · exact S.apart a m q
theorem Sim.freezeO {K : PySem.W.Frag} {F : Gm} {Hd H : Hp} {G : Gm} (S : Sim K F Hd H G) {p : Addr} {m : Mt} {o : HO} (h : G p = some m) (hx : H p = some o) : Sim K F (upd Hd p o) H (DL.gdel G p) ∧ Ex Hd (upd Hd p o) := by
  have hd := S.off p _ h
  have hf := S.gf h
  have e : Ex Hd (upd Hd p o) := Ex.new hd
  have gd : ∀ {a : Addr} {m : Mt}, DL.gdel G p a = some m → a ≠ p ∧ G a = some m := fun {a m} q => by
    unfold DL.gdel at q
    split at q
    · cases q
    · rename_i z
      exact ⟨z, q⟩
  refine ⟨⟨fun a u q => ?_, fun a m q => ?_, fun a m q => (S.hold a m (gd q).2).mono e, fun a m q => ?_, fun a m q => (S.holdF a m q).mono e, fun a m q => ?_, S.tabs⟩, e⟩
  · by_cases z : a = p
    · subst z
      rw [upd_same] at q
      cases q
      exact hx
    · rw [upd_ne z] at q
      exact S.sub a u q
  · rw [upd_ne (gd q).1]
    exact S.off a m (gd q).2
  · rw [upd_ne (ne_g q hf)]
    exact S.offF a m q
  · unfold DL.gdel
    split
    · rfl
    · exact S.apart a m q
theorem gdel_gup {G : Gm} {a : Addr} {m : Mt} (h : G a = none) : DL.gdel (gup G a m) a = G := by
  funext b
  unfold DL.gdel gup
  by_cases q : b = a
  · rw [if_pos q, q, h]
  · rw [if_neg q, if_neg q]
theorem make_guards {A : Around} {C : Addr} {us : List Value} {kw : List (Str × Value)} : (A.under (.builtin "type.__call__" ⟨.ref C :: us, kw⟩)).guards = A.guards := by
  first | rfl | simp [Around.under, Code.weight, Code.isCreation, Code.isGuard, Code.isCaller, Code.frames, Code.isFrame, guardIds]
/-- C(e, ..): q what its __init__ promises; what it leaves never changes from there on -/
def dMake (C : Str) (q : DSp) (RX : XD) (dA : DA) : DE := fun ρ G R => dA ρ G fun xs G1 => ∀ a, G1 a = none → q (.ref a :: xs) (gup G1 a (.ins C [] [])) (fun v G2 => v = .non ∧ ∃ ns ys, G2 a = some (.ins C ns ys) ∧ R (.ins C ns ys) (DL.gdel G2 a)) (fun D ns ys G2 => RX D ns ys (DL.gdel G2 a))
def dMakeK (C : Str) (q : DSp) (o : Ord) (RX : XD) (dA : DA) : DE := fun ρ G R => dA ρ G fun xs G1 => ∀ a, G1 a = none → q (.ref a :: o.go xs) (gup G1 a (.ins C [] [])) (fun v G2 => v = .non ∧ ∃ ns ys, G2 a = some (.ins C ns ys) ∧ R (.ins C ns ys) (DL.gdel G2 a)) (fun D ns ys G2 => RX D ns ys (DL.gdel G2 a))
theorem make_sp {K : PySem.W.Frag} {F : Gm} {Hd H : Hp} {G : Gm} {C : Str} {q : DSp} {RX : XD} {E : XK} {R : KD} {Q : VK} {vs : List V} {xs : List D} (S : Sim K F Hd H G) (r : RpL K Hd vs xs) (ke : KE K F Hd R Q) (kx : KX K F Hd RX E)
    (h : ∀ a, G a = none → q (.ref a :: xs) (gup G a (.ins C [] [])) (fun v G2 => v = .non ∧ ∃ ns ys, G2 a = some (.ins C ns ys) ∧ R (.ins C ns ys) (DL.gdel G2 a)) (fun D ns ys G2 => RX D ns ys (DL.gdel G2 a))) :
    ∀ x dx, H x = none → H dx = none → dx ≠ x → spU K q (.ref x :: vs) (upd (upd H dx (.own x)) x (.ins (He.ga K C) dx [])) (fun v H2 => v = .non ∧ Q (.ref x) H2) E := fun x dx hx hdx ne => by
  have s1 : Sim K F Hd (upd H dx (.own x)) G := S.side hdx
  have hx1 : upd H dx (.own x) x = none := by rw [upd_ne (Ne.symm ne)]; exact hx
  have s2 := s1.cell (m := .ins C [] []) (o := .ins (He.ga K C) dx []) hx1 ⟨dx, [], upd_same, rfl, .nil⟩
  refine ⟨.ref x :: xs, F, Hd, _, _, _, .cons (.ref x) r, s2, h x (S.gfree hx), fun v H' Hd' y G' e1 s3 r3 hh => ?_, fun D d H' Hd' ns ws ys G' e1 s3 hd hl rl hR => kx D d H' Hd' ns ws ys _ e1 (s3.gdel x) hd hl rl hR⟩
  obtain ⟨rfl, ns, ys, hg, hR⟩ := hh
  cases r3
  refine ⟨rfl, ?_⟩
  obtain ⟨dx2, ws, h2, hl, rl⟩ := s3.hold x _ hg
  obtain ⟨s4, e4⟩ := s3.freezeO hg h2
  exact ke (.ref x) H' _ (.ins C ns ys) _ (e1.trans e4) s4 (.ins upd_same hl (rl.mono e4)) hR
section
variable {X : Cx} {B : Bs} {p pos : Pos} {e : Expr} {es : List Expr} {dA : DA} {k : Nat} {f : Addr} {fd : FuncData} {ps : List Str} {sp : Sp} {E : XK} {t : TA}
theorem run_makeG {C : Addr} {pins : List (Addr × Obj)} {σ : L2.St} {H : Hp} {s : Shared} {Q : VK} {us us0 : List Value} {kw : List (Str × Value)} {vs : List V} (M : L2.Mk X.K C f) (F : FnG X.prog X.w X.K X.mg X.base k f fd ps sp) (hr : Room (k + 1) X.A) (hgd : X.A.guards = some [])
    (hb : ∀ (s' : Shared) (x : Addr), X.K.In s'.heap → (Value.ref x :: us).length = ps.length → BindsTo s' fd ⟨.ref x :: us0, kw⟩ (ps.zip (.ref x :: us))) (hx : Passes (L2.CX X.prog X.w) X E) (I : Inv X pins σ H s) (r : Vals vs us)
    (h : ∀ x dx, H x = none → H dx = none → dx ≠ x → sp (.ref x :: vs) (upd (upd H dx (.own x)) x (.ins C dx [])) (fun v H2 => v = .non ∧ Q (.ref x) H2) E) :
    wpAny (model X.prog X.w) X.A (call (.ref C) us0 kw) (EP X pins σ Q) X.xe s := by
  have hq := h (s.heap.objs.size + 1) s.heap.objs.size (I.hok.fresh (Nat.le_succ _)) (I.hok.fresh (Nat.le_refl _)) (Nat.ne_of_lt (Nat.lt_succ_self _))
  have I2 := Inv.made (C := C) I
  have r2 : Vals (V.ref (s.heap.objs.size + 1) :: vs) (Value.ref (s.heap.objs.size + 1) :: us) := .cons rfl r
  have hl : (Value.ref (s.heap.objs.size + 1) :: us).length = ps.length := by
    rw [← r2.length]
    exact F.len _ _ _ _ hq
  refine wpAny_call (make_map (f := f) I.kIn M.makes M.init (beq_iff_eq.mp M.fn) (codeAny_mono (F.run _ X.stack _ _ ⟨Value.ref (s.heap.objs.size + 1) :: us0, kw⟩ (Value.ref (s.heap.objs.size + 1) :: us) _ _ E (hr.make C us0 kw)
    (make_guards.trans hgd) (I2.env0.make C us0 kw) (hb _ _ I2.kIn hl) r2 hq) fun r s' hq' => ?_))
  cases r with
  | error e => exact hx pins σ _ _ e s' I2 hq'
  | ok fl =>
    cases fl with
    | ret u =>
      obtain ⟨v, H', I3, rv, ev, q3⟩ := I2.after hq'
      subst ev
      exact ⟨rv, ⟨V.ref (s.heap.objs.size + 1), H', I3, rfl, q3⟩⟩
    | next => exact False.elim hq'
    | brk => exact False.elim hq'
    | cont => exact False.elim hq'
theorem pd_make {C : Str} {st : Stmt} {q : DSp} {RX : XD} (h : KnM X.prog X.w X.K X.mg X.base k C "__init__" st ps q) (M : L2.Mk X.K (He.ga X.K C) (He.ma X.K (He.ga X.K C) "__init__")) (hm : X.mg C = some (.ref (He.ga X.K C))) (hr : Room (k + 1) X.A) (hgd : X.A.guards = some []) (hg : Gl X C)
    (hx : Passes (L2.CX X.prog X.w) X E) (kx : ∀ Hd, Ex B.b Hd → KX X.K B.f Hd RX E)
    (hb : ∀ (kV doc pm : Value) (an : Option Addr) (cdv ct : Value) (us : List Value), us.length = ps.length → bindArgs (PySem.W.fnOf "__init__" (C ++ "." ++ "__init__") (defArgs st) (defBody st) (defScope st) .none kV doc pm an cdv ct) ⟨us, []⟩ = pure (ps.zip us))
    (ha : PA X (e :: es) (upA X.K B dA)) (hdb : (C == ("__debug__" : Str)) = false := by decide) (he : starEach (e :: es) X.env = (false, eval e X.env) :: starEach es X.env := by rfl) (hpl : (backTo pos (starEach es X.env)).any (·.1) = false := by rfl) :
    PE X (.Call (.Name C p) (e :: es) [] pos) (upE X.K B (dMake C q RX dA)) := by
  obtain ⟨fd, F, G⟩ := h.fn
  have hb1 := F.bindsN hb
  refine ⟨fun pins s σ H Q I ⟨ρ, Hd, G0, R, at_, h0, k0⟩ => ?_⟩
  refine wpAny_Call_Name_kw (ld_glob I hg hm ?_ hdb)
  refine PySem.W.callWith_K (h₀ := X.base) I.ok.mod.kin M.kp (thn (ha.run pos pins s σ H (fun vs H1 => ∀ x dx, H1 x = none → H1 dx = none → dx ≠ x → spU X.K q (.ref x :: vs) (upd (upd H1 dx (.own x)) x (.ins (He.ga X.K C) dx [])) (fun v H2 => v = .non ∧ Q (.ref x) H2) E) I
    ⟨ρ, Hd, G0, _, at_, h0, fun vs H1 Hd1 xs G1 e1 s1 r1 h1 => make_sp s1 r1 (k0.mono e1) (kx Hd1 (at_.b.trans e1)) h1⟩) fun us s1 hh => ?_) he hpl
  obtain ⟨vs, H1, I1, r, q1⟩ := hh
  refine ⟨I1.kIn, run_makeG M G hr hgd (fun s' x hk hl => ?_) hx I1 r q1⟩
  have z := hb1 s' (.ref x :: us) hk (by rw [List.append_nil]; exact hl)
  rw [List.append_nil] at z
  exact z
theorem pd_makeK {C : Str} {st : Stmt} {ks : List Str} {q : DSp} {RX : XD} {kws : List Keyword} (o : Ord) (h : KnM X.prog X.w X.K X.mg X.base k C "__init__" st ps q) (M : L2.Mk X.K (He.ga X.K C) (He.ma X.K (He.ga X.K C) "__init__")) (hm : X.mg C = some (.ref (He.ga X.K C))) (hr : Room (k + 1) X.A) (hgd : X.A.guards = some []) (hg : Gl X C)
    (hx : Passes (L2.CX X.prog X.w) X E) (kx : ∀ Hd, Ex B.b Hd → KX X.K B.f Hd RX E)
    (hb : ∀ (kV doc pm : Value) (an : Option Addr) (cdv ct : Value) (x : Value) (us : List Value), us.length + 1 = ps.length → bindArgs (PySem.W.fnOf "__init__" (C ++ "." ++ "__init__") (defArgs st) (defBody st) (defScope st) .none kV doc pm an cdv ct) ⟨[x], ks.zip us⟩ = pure (ps.zip (x :: o.go us)))
    (hn : ks.length + 1 = ps.length) (ho : ∀ {α : Type} (l : List α), (o.go l).length + 1 = ps.length → l.length + 1 = ps.length)
    (hkw : PK X kws (upA X.K B dA)) (hall : (backToKw pos (keywordEach kws X.env)).all (·.1.isSome) = true := by rfl) (hks : (backToKw pos (keywordEach kws X.env)).filterMap (·.1) = ks := by rfl)
    (hdb : (C == ("__debug__" : Str)) = false := by decide) (hpl : ((backTo pos (starEach [] X.env)).any (·.1) || (backToKw pos (keywordEach kws X.env)).any (·.1.isNone)) = false := by rfl) :
    PE X (.Call (.Name C p) [] kws pos) (upE X.K B (dMakeK C q o RX dA)) := by
  obtain ⟨fd, F, G⟩ := h.fn
  refine ⟨fun pins s σ H Q I ⟨ρ, Hd, G0, R, at_, h0, k0⟩ => ?_⟩
  refine wpAny_Call_Name_kw (ld_glob I hg hm ?_ hdb)
  refine PySem.W.callWith_KW0 (h₀ := X.base) I.ok.mod.kin M.kp hall (thn (hkw.run pos pins s σ H (fun vs H1 => ∀ x dx, H1 x = none → H1 dx = none → dx ≠ x → spU X.K q (.ref x :: o.go vs) (upd (upd H1 dx (.own x)) x (.ins (He.ga X.K C) dx [])) (fun v H2 => v = .non ∧ Q (.ref x) H2) E) I
    ⟨ρ, Hd, G0, _, at_, h0, fun vs H1 Hd1 xs G1 e1 s1 r1 h1 => make_sp s1 (paired_rpl (o.rel _ _ _ (rpl_paired r1))) (k0.mono e1) (kx Hd1 (at_.b.trans e1)) h1⟩) fun us s1 hh => ?_) hpl
  obtain ⟨vs, H1, I1, r, q1⟩ := hh
  refine ⟨I1.kIn, ?_⟩
  rw [hks]
  refine run_makeG M G hr hgd (us := o.go us) (fun s' x hk hl => ?_) hx I1 (o.rel _ _ _ r) q1
  have hus := ho us hl
  obtain ⟨oc, od, dV, kV, doc, pm, an, cdv, ct, osl, rfl, lk, hcd, hD, hK⟩ := F.ex
  rcases hD with ⟨_, rfl⟩ | ⟨z, _⟩
  · exact .of_eq (hb kV doc pm an cdv ct (.ref x) us hus)
  · exact absurd rfl z
end
end DL

/-! DL43: own __eq__ by == and !=, own __bool__ as a truth. -/
namespace OwnNe
open PySem PySem.W PyProof.Rows Builtin
theorem ne_bind (self : Value) : bindSpecial (.builtin "object.__ne__") self = pure (.builtin "object.__ne__", [self]) :=
  (Slot.of (T := "object") (name := "__ne__") (owner := "object") (n := "__ne__") (by rw [typeLookup_type, builtinLookup_eq_fast]; kernel_rfl) (by decide +kernel) (by decide +kernel) (by decide +kernel)
    (.inl (by decide +kernel)) (by rw [isSubtype_type]; kernel_rfl)).bind self
theorem ne_plain : plainId "object.__ne__" = true := by decide +kernel
section
variable {prog : Program} {w : World} {A : Around} {E : Value → Shared → Prop} {s : Shared} {K : Frag} {x C f L : Addr} {ox : Obj} {od : Option Obj} {h₀ : Heap} {m : Str → Option Value} {b tb : Value}
theorem ifBound_ne {M : Model} {args : List Value} {Q : Option Value → Shared → Prop} (X : K.In s.heap) (I : InstAt s.heap x ox C od) (hs : findIn K (.ref C) "__ne__" = some (some (.builtin "object.__ne__")))
    (h : wpAny M A (call (.builtin "object.__ne__") (.ref x :: args)) (fun v => Q (some v)) E s) : wpAny M A (callSpecialIfBound? (.ref x) "__ne__" args) Q E s := by
  simp only [callSpecialIfBound?, bindSpecialIfBound?]
  refine wpAny_holding (wpAny_bind (wpAny_bind (wpAny_bind (I.type.here ((looks_findIn X hs).here ?_)))))
  refine wpAny_bind (wpAny_askSetting (wpAny_ite ?_))
  have fin : wpAny M A (call (.builtin "object.__ne__") ([.ref x] ++ args) >>= fun v => pure (some v)) Q E s := wpAny_bind (wpAny_mono h (fun v s' h' => wpAny_pure h') fun _ _ h' => h')
  have bd : Looks M s.heap (bindSpecial (.builtin "object.__ne__") (.ref x)) (.builtin "object.__ne__", [.ref x]) := Looks.of_pure (ne_bind _)
  split
  · exact wpAny_bind (bd.here (wpAny_pure (by exact fin)))
  · exact wpAny_tryCatch (wpAny_bind (bd.here (wpAny_pure (by exact fin))))
/-- object.__ne__ of an instance with its own __eq__ -/
theorem obj_ne (X : K.In s.heap) (I : InstAt s.heap x ox C od) (hs : findIn K (.ref C) "__eq__" = some (some (.ref f))) (hf : isFn K (.ref f) = true) (hu : A.units < cLine) {Q : Fin → Shared → Prop}
    (hcall : wpAny (model prog w) A (call (.ref f) [.ref x, b]) (fun v s' => ∃ k, v = .bool k ∧ Q (.done (.ret (.bool (!k)))) s') E s) :
    wpAny (model prog w) A (Builtin.«object.__ne__» ⟨[.ref x, b], []⟩) Q E s := by
  unfold Builtin.«object.__ne__»
  repeat (first
    | with_reducible refine wpAny_cRoomFor hu ?_
    | (refine wpAny_bind (m := callSpecialIfBound? (.ref x) (Str.ofString "__eq__") [b])
        (ifBound_K X I hs hf (wpAny_mono hcall (fun r s' hr => by
          obtain ⟨k, rfl, hq⟩ := hr
          repeat (first | exact hq | exact wpAny_pure hq | exact wpAny_truthy_bool hq | (refine wpAny_bind (m := truthy (.bool _)) (wpAny_truthy_bool ?_)) | wp_step)) fun _ _ e => e)))
    | wp_step)
theorem ne_K {Q : Value → Shared → Prop} (hu : A.units + 1 < cLine) (X : K.In s.heap) (I : InstAt s.heap x ox C od) (hb : Looks (model prog w) s.heap (typeOf b) tb) (hn : notFirst K C tb = true)
    (hs : findIn K (.ref C) "__eq__" = some (some (.ref f))) (hf : isFn K (.ref f) = true) (hne : findIn K (.ref C) "__ne__" = some (some (.builtin "object.__ne__"))) (ho : mroIn K C (.type "object") = some true)
    (h : wpAny (model prog w) A.in1 (call (.ref f) [.ref x, b]) (fun v s' => ∃ k, v = .bool k ∧ Q (.bool (!k)) s') E s) : wpAny (model prog w) A (richCompare .NotEq (.ref x) b) Q E s := by
  have one : wpAny (model prog w) A (tryCompare (.ref x) (cmpInfo .NotEq).2.1 b) (fun r s' => ∃ v, r = some v ∧ Q v s') E s := by
    unfold tryCompare
    refine wpAny_bind (ifBound_ne X I hne ?_)
    refine wpAny_call (codeAny_call_builtin ne_plain F.cmpEntry_ne (@check_slot (model prog w) _ _ _ "object.__ne__" "object" "__ne__" (.ref x) [b] [] _ F.cmpKind_ne F.cmpSplit_ne (I.type.andThen (looks_mroIn X ho)) (F.cmpArgs_ne _ _) ?_))
    refine obj_ne X I hs hf (Nat.lt_of_lt_of_le hu (Nat.le_refl _)) (wpAny_mono h (fun v s' hv => ?_) fun _ _ e => e)
    obtain ⟨k, rfl, hq⟩ := hv
    first | exact ⟨k, rfl, wpAny_pure ⟨_, rfl, hq⟩⟩ | exact ⟨k, rfl, ⟨_, rfl, hq⟩⟩
  unfold richCompare
  simp only [oneThing_ref]
  refine wpAny_holding (wpAny_bind (wpAny_cRoomFor (by omega) ?_))
  refine wpAny_bind (I.type.here (wpAny_bind (hb.here ?_)))
  split
  · rename_i q
    have e : subIn K tb (.ref C) = some false := by
      rcases Bool.or_eq_true_iff.mp hn with e | e
      · rw [beq_iff_eq.mp e] at q; simp at q
      · exact beq_iff_eq.mp e
    refine wpAny_bind ((looks_subIn X e).here ?_)
    simp only [Bool.false_eq_true, if_false]
    refine wpAny_bind (wpAny_mono one (fun r s' z => ?_) fun _ _ e => e)
    obtain ⟨v, rfl, hq⟩ := z
    exact wpAny_pure hq
  · refine wpAny_bind (wpAny_pure ?_)
    simp only [Bool.false_eq_true, if_false]
    refine wpAny_bind (wpAny_mono one (fun r s' z => ?_) fun _ _ e => e)
    obtain ⟨v, rfl, hq⟩ := z
    exact wpAny_pure hq
theorem bool_new_own {x : Addr} {Q : Value → Shared → Prop} (ht : wpAny (model prog w) A.in1 (truthy (.ref x)) (fun k s' => Q (.bool k) s') E s) :
    codeAny (model prog w) A (.call (.builtin "bool.__new__") ⟨[.type "bool", .ref x], []⟩) (wants (fun obj s' => ∃ k, obj = .bool k ∧ Q obj s') E) s := by
  refine codeAny_call_builtin (by decide +kernel) F.entry_bool_new ?_
  rw [F.newCall_bool_1]
  refine wpAny_pure ?_
  obtain ⟨hp, g, d, tk, os⟩ := s
  have f1 := F.conv_sub_bool
  unfold Builtin.«bool.__new__»
  repeat (any_goals (first | assumption | (with_reducible refine wpAny_mono ht ?_ ?_) | wp_step))
  · exact fun a s z => wpAny_pure ⟨a, rfl, z⟩
  · exact fun e s z => z
theorem call_bool_own {x : Addr} {Q : Value → Shared → Prop} (ht : wpAny (model prog w) A.in1.in1 (truthy (.ref x)) (fun k s' => Q (.bool k) s') E s) : wpAny (model prog w) A (call (.type "bool") [.ref x]) Q E s := by
  refine callType_codes (Bi := Builtin.«object.__init__») F.called_bool (F.typeCall_bool_1 _) F.entry_object_init (bool_new_own ht) fun obj s1 ⟨k, e, q⟩ => ?_
  subst e
  refine ⟨PySem.typeIs_bool _ _, F.args_object_init_2 _ _, ?_⟩
  have m := object_init_meets (self := .bool k) (rest := [.ref x]) F.called_bool.init.lookup F.called_bool.made F.newNe_bool
  exact m prog w A.in1 (wants (fun r s₂ => r = .none ∧ Q (.bool k) s₂) E) s1 ⟨PySem.typeIs_bool _ _, rfl, q⟩
end
end OwnNe
namespace DL
open PySem PySem.Spec PyProof.Rows L2 Evl
variable [TabC]
/-! ### what the head tells -/
/-- the classes cs have the __eq__ at f, and no __ne__; they are tried first against all of cl but those below them -/
structure EqC (K : PySem.W.Frag) (cl : ClT) (sub : Str → Str → Bool) (cs : List Str) (f : Addr) : Prop where
  q : ∀ C ∈ cs, PySem.W.findIn K (.ref (He.ga K C)) "__eq__" = some (some (.ref f))
  fn : PySem.W.isFn K (.ref f) = true
  ne : ∀ C ∈ cs, PySem.W.findIn K (.ref (He.ga K C)) "__ne__" = some (some (.builtin "object.__ne__"))
  ob : ∀ C ∈ cs, PySem.W.mroIn K (He.ga K C) (.type "object") = some true
  t : ∀ C ∈ cs, ∀ t ∈ ["NoneType", "bool", "int", "str", "tuple", "list", "dict"], PySem.W.notFirst K (He.ga K C) (.type t) = true
  i : ∀ C ∈ cs, ∀ p ∈ cl, (p.1 == C || !sub p.1 C) = true → PySem.W.notFirst K (He.ga K C) (.ref (He.ga K p.1)) = true
def eqB (K : PySem.W.Frag) (cl : ClT) (sub : Str → Str → Bool) (cs : List Str) (f : Addr) : Bool :=
  PySem.W.isFn K (.ref f) && cs.all fun C => He.eqO (PySem.W.findIn K (.ref (He.ga K C)) "__eq__") (some (some (.ref f))) && (He.eqO (PySem.W.findIn K (.ref (He.ga K C)) "__ne__") (some (some (.builtin "object.__ne__"))) && (decide (PySem.W.mroIn K (He.ga K C) (.type "object") = some true) &&
    (["NoneType", "bool", "int", "str", "tuple", "list", "dict"].all (fun t => PySem.W.notFirst K (He.ga K C) (.type t)) && cl.all fun p => !(p.1 == C || !sub p.1 C) || PySem.W.notFirst K (He.ga K C) (.ref (He.ga K p.1)))))
theorem eqB_ok {K : PySem.W.Frag} {cl : ClT} {sub : Str → Str → Bool} {cs : List Str} {f : Addr} (b : eqB K cl sub cs f = true) : EqC K cl sub cs f := by
  obtain ⟨b1, b⟩ := He.ba b
  have key := List.all_eq_true.mp b
  refine ⟨fun C hC => ?_, b1, fun C hC => ?_, fun C hC => ?_, fun C hC t ht => ?_, fun C hC p hp q => ?_⟩ <;> obtain ⟨h1, z⟩ := He.ba (key C hC) <;> obtain ⟨h2, z⟩ := He.ba z <;> obtain ⟨h3, z⟩ := He.ba z <;> obtain ⟨h4, h5⟩ := He.ba z
  · exact He.eqO_ok h1
  · exact He.eqO_ok h2
  · exact of_decide_eq_true h3
  · exact List.all_eq_true.mp h4 t ht
  · have z := List.all_eq_true.mp h5 p hp
    rw [q] at z
    exact z
/-- the type of y, ahead of no C -/
def firstOk (cl : ClT) (sub : Str → Str → Bool) (C : Str) (y : D) : Bool := match y with
  | .ins E _ _ => hasC cl E && (E == C || !sub E C)
  | y => y.tyn.isSome
theorem first_ty {K : PySem.W.Frag} {mg : Str → Option Value} {F : Gm} {Hd H : Hp} {G : Gm} {v : V} {y : D} {C : Str} {cl : ClT} {sub : Str → Str → Bool} {cs : List Str} {f : Addr} (T : OwC K mg cl sub) (Q : EqC K cl sub cs f) (hC : C ∈ cs) (s : Sim K F Hd H G) (r : Rp K Hd v y) (h : firstOk cl sub C y = true) :
    ∃ t, TyX K H v t ∧ PySem.W.notFirst K (He.ga K C) t = true := by
  have fin : y.tyn.isSome = true → ∃ t, TyX K H v t ∧ PySem.W.notFirst K (He.ga K C) t = true := fun h => by
    obtain ⟨t, q⟩ := Option.isSome_iff_exists.mp h
    exact ⟨_, ty_of s r q, Q.t C hC t (tyn_in q)⟩
  cases y with
  | ins E ns xs =>
    obtain ⟨h1, h2⟩ := He.ba (show (hasC cl E && (E == C || !sub E C)) = true from h)
    obtain ⟨p, hp, rfl⟩ := T.mem h1
    cases r with
    | ins h3 _ _ => exact ⟨_, .base (.ins (s.sub _ _ h3) (T.c p hp) (T.a p hp) T.s T.k (T.m p hp)), Q.i C hC p hp h2⟩
  | _ => exact fin h
/-! ### == and != -/
def rOwnEq (neg : Bool) (K : PySem.W.Frag) (f : Addr) (sp : Sp) (E : XK) : R2 := fun x y H Q => ∃ a C dx fs t, x = .ref a ∧ H a = some (.ins C dx fs) ∧ PySem.W.findIn K (.ref C) "__eq__" = some (some (.ref f)) ∧ (neg = true → PySem.W.findIn K (.ref C) "__ne__" = some (some (.builtin "object.__ne__")) ∧ PySem.W.mroIn K C (.type "object") = some true) ∧
  TyX K H y t ∧ PySem.W.notFirst K C t = true ∧ sp [x, y] H (fun v H1 => ∃ b, v = .bl b ∧ Q (.bl (neg != b)) H1) E
section
variable {X : Cx} {k : Nat} {f : Addr} {fd : FuncData} {ps : List Str} {sp : Sp} {E : XK}
theorem guards_in1 {A : Around} (h : A.guards = some []) : A.in1.guards = some [] := h
theorem op_ownEq (F : FnG X.prog X.w X.K X.mg X.base k f fd ps sp) (hf : PySem.W.isFn X.K (.ref f) = true) (hr : Room k X.A) (hgd : X.A.guards = some []) (hb : Binds X.K fd ps []) (hx : Passes (L2.CX X.prog X.w) X E) : OpR X (compareOp .Eq) (rOwnEq false X.K f sp E) := by
  intro pins s σ H x y u v Q I rx ry ⟨a, C, dx, fs, t, ex, ha, hs, _, ty, hn, h⟩
  subst ex
  obtain rfl : u = Value.ref a := rx
  obtain ⟨mA, J, _⟩ := ins_get I.hok ha
  obtain ⟨od, J, _⟩ := J.look
  obtain ⟨m, hF⟩ := I.fr
  obtain ⟨P, Z, hp, _⟩ := kit_of I ry ty
  show wpAny _ _ (richCompare .Eq (.ref a) v) _ _ _
  refine PySem.W.cmp_K (op := .Eq) hr.units0 hF I.ok.mod.kin J (Z.ty _ _ I.kIn hp) hn hs hf ?_
  have hl := F.len _ _ _ _ h
  have hb1 := hb s [.ref a, v] I.kIn (by simpa using hl)
  rw [List.append_nil] at hb1
  refine wpAny_call (codeAny_mono (run_fng F hr hgd hx I hb1 (.cons (show L2.RelV (V.ref a) (Value.ref a) from rfl) (.cons ry .nil)) h) fun r s' hq => ?_)
  cases r with
  | error e => exact hq
  | ok fl =>
    cases fl with
    | ret w =>
      obtain ⟨z, H', I', rz, b, ez, q⟩ := hq
      subst ez
      cases rz
      exact ⟨.bl b, H', I', rfl, by rw [Bool.false_bne] at q; exact q⟩
    | next => exact hq.elim
    | brk => exact hq.elim
    | cont => exact hq.elim
theorem op_ownNe (F : FnG X.prog X.w X.K X.mg X.base k f fd ps sp) (hf : PySem.W.isFn X.K (.ref f) = true) (hr : Room (k + 1) X.A) (hgd : X.A.guards = some []) (hb : Binds X.K fd ps []) (hx : Passes (L2.CX X.prog X.w) X E) : OpR X (compareOp .NotEq) (rOwnEq true X.K f sp E) := by
  intro pins s σ H x y u v Q I rx ry ⟨a, C, dx, fs, t, ex, ha, hs, hne, ty, hn, h⟩
  subst ex
  obtain rfl : u = Value.ref a := rx
  obtain ⟨mA, J, _⟩ := ins_get I.hok ha
  obtain ⟨od, J, _⟩ := J.look
  obtain ⟨P, Z, hp, _⟩ := kit_of I ry ty
  obtain ⟨hne, ho⟩ := hne rfl
  show wpAny _ _ (richCompare .NotEq (.ref a) v) _ _ _
  refine OwnNe.ne_K (by have := hr.un; omega) I.kIn J (Z.ty _ _ I.kIn hp) hn hs hf hne ho ?_
  have hl := F.len _ _ _ _ h
  have hb1 := hb s [.ref a, v] I.kIn (by simpa using hl)
  rw [List.append_nil] at hb1
  refine wpAny_call (codeAny_mono (F.run X.A.in1 X.stack s H ⟨[.ref a, v], []⟩ [.ref a, v] [.ref a, y] _ E hr.in1 (guards_in1 hgd) I.env0.in1 hb1 (.cons (show L2.RelV (V.ref a) (Value.ref a) from rfl) (.cons ry .nil)) h) fun r s' hq => ?_)
  cases r with
  | error e => exact hx pins σ H s e s' I hq
  | ok fl =>
    cases fl with
    | ret w =>
      obtain ⟨z, H', I', rz, b, ez, q⟩ := I.after hq
      subst ez
      cases rz
      exact ⟨b, rfl, .bl (!b), H', I', rfl, by rw [Bool.true_bne] at q; exact q⟩
    | next => exact hq.elim
    | brk => exact hq.elim
    | cont => exact hq.elim
end
def dOwnEq (neg : Bool) (cl : ClT) (sub : Str → Str → Bool) (cs : List Str) (q : DSp) (RX : XD) (da db : DE) : DE := fun ρ G R => da ρ G fun x G1 => db ρ G1 fun y G2 => ∃ C ns xs, InsAt G2 x C ns xs ∧ C ∈ cs ∧ firstOk cl sub C y = true ∧ q [x, y] G2 (fun v G3 => ∃ b, v = .bl b ∧ R (.bl (neg != b)) G3) RX
section
variable {X : Cx} {B : Bs} {p pos : Pos} {a b e : Expr} {da db : DE} {k : Nat} {ps : List Str} {E : XK} {cl : ClT} {sub : Str → Str → Bool} {cs : List Str} {f : Addr} {fd : FuncData} {q : DSp} {RX : XD}
theorem ownEq_imp {neg : Bool} (T : OwC X.K X.mg cl sub) (Q0 : EqC X.K cl sub cs f) (kx : ∀ Hd, Ex B.b Hd → KX X.K B.f Hd RX E) : ∀ σ H Q, upE X.K B (dOwnEq neg cl sub cs q RX da db) σ H Q → tOp (rOwnEq neg X.K f (spU X.K q) E) (upE X.K B da) (upE X.K B db) σ H Q := fun σ H Q ⟨ρ, Hd, G, R, at_, h, k⟩ =>
  ⟨ρ, Hd, G, _, at_, h, fun v H1 Hd1 x G1 e1 s1 r1 h1 => ⟨ρ, Hd1, G1, _, at_.step e1 s1, h1, fun u H2 Hd2 y G2 e2 s2 r2 ⟨C, ns, xs, hi, hC, hf, hq⟩ => by
    obtain ⟨a, dx, vs, rfl, ha, hlen, rl⟩ := hi.heap s2 (r1.mono e2)
    obtain ⟨t, ty, hn⟩ := first_ty T Q0 hC s2 r2 hf
    refine ⟨a, _, dx, _, t, rfl, ha, Q0.q C hC, fun _ => ⟨Q0.ne C hC, Q0.ob C hC⟩, ty, hn, [x, y], B.f, Hd2, G2, _, RX, .cons (r1.mono e2) (.cons r2 .nil), s2, hq, fun w H3 Hd3 z G3 e3 s3 r3 ⟨b, ez, hb⟩ => ?_, kx Hd2 ((at_.b.trans e1).trans e2)⟩
    subst ez
    cases r3
    exact ⟨b, rfl, k _ H3 Hd3 _ G3 ((e1.trans e2).trans e3) s3 (.bl _) hb⟩⟩⟩
/-- the def of __eq__, as it stands in the class D -/
theorem pd_ownEq {D : Str} {st : Stmt} (T : OwC X.K X.mg cl sub) (Q0 : EqC X.K cl sub cs (He.ma X.K (He.ga X.K D) "__eq__")) (h : KnM X.prog X.w X.K X.mg X.base k D "__eq__" st ps q) (hr : Room k X.A) (hgd : X.A.guards = some []) (hx : Passes (L2.CX X.prog X.w) X E) (kx : ∀ Hd, Ex B.b Hd → KX X.K B.f Hd RX E)
    (hb : ∀ (kV doc pm : Value) (an : Option Addr) (cdv ct : Value) (us : List Value), us.length = ps.length → bindArgs (PySem.W.fnOf "__eq__" (D ++ "." ++ "__eq__") (defArgs st) (defBody st) (defScope st) .none kV doc pm an cdv ct) ⟨us, []⟩ = pure (ps.zip us))
    (ha : PE X a (upE X.K B da)) (hbb : PE X b (upE X.K B db)) (hm : behindInMarks .Eq b = false) : PE X (.Compare a [.Eq] [b] pos) (upE X.K B (dOwnEq false cl sub cs q RX da db)) := by
  obtain ⟨fd, F, G⟩ := h.fn
  exact pe_imp (pe_cmpR (op_ownEq G Q0.fn hr hgd (F.bindsN hb) hx) ha hbb hm) (ownEq_imp T Q0 kx)
theorem pd_ownNe {D : Str} {st : Stmt} (T : OwC X.K X.mg cl sub) (Q0 : EqC X.K cl sub cs (He.ma X.K (He.ga X.K D) "__eq__")) (h : KnM X.prog X.w X.K X.mg X.base k D "__eq__" st ps q) (hr : Room (k + 1) X.A) (hgd : X.A.guards = some []) (hx : Passes (L2.CX X.prog X.w) X E) (kx : ∀ Hd, Ex B.b Hd → KX X.K B.f Hd RX E)
    (hb : ∀ (kV doc pm : Value) (an : Option Addr) (cdv ct : Value) (us : List Value), us.length = ps.length → bindArgs (PySem.W.fnOf "__eq__" (D ++ "." ++ "__eq__") (defArgs st) (defBody st) (defScope st) .none kV doc pm an cdv ct) ⟨us, []⟩ = pure (ps.zip us))
    (ha : PE X a (upE X.K B da)) (hbb : PE X b (upE X.K B db)) (hm : behindInMarks .NotEq b = false) : PE X (.Compare a [.NotEq] [b] pos) (upE X.K B (dOwnEq true cl sub cs q RX da db)) := by
  obtain ⟨fd, F, G⟩ := h.fn
  exact pe_imp (pe_cmpR (op_ownNe G Q0.fn hr hgd (F.bindsN hb) hx) ha hbb hm) (ownEq_imp T Q0 kx)
end
theorem ptd_ownEq {X : Cx} {B : Bs} {pos : Pos} {a b : Expr} {da db : DE} {k : Nat} {ps : List Str} {E : XK} {cl : ClT} {sub : Str → Str → Bool} {cs : List Str} {q : DSp} {RX : XD} {D : Str} {st : Stmt} (T : OwC X.K X.mg cl sub) (Q0 : EqC X.K cl sub cs (He.ma X.K (He.ga X.K D) "__eq__")) (h : KnM X.prog X.w X.K X.mg X.base k D "__eq__" st ps q) (hr : Room k X.A) (hgd : X.A.guards = some []) (hx : Passes (L2.CX X.prog X.w) X E) (kx : ∀ Hd, Ex B.b Hd → KX X.K B.f Hd RX E)
    (hb : ∀ (kV doc pm : Value) (an : Option Addr) (cdv ct : Value) (us : List Value), us.length = ps.length → bindArgs (PySem.W.fnOf "__eq__" (D ++ "." ++ "__eq__") (defArgs st) (defBody st) (defScope st) .none kV doc pm an cdv ct) ⟨us, []⟩ = pure (ps.zip us))
    (ha : PE X a (upE X.K B da)) (hbb : PE X b (upE X.K B db)) (hm : behindInMarks .Eq b = false) : PT X (.Compare a [.Eq] [b] pos) (upT X.K B (dTst (dOwnEq false cl sub cs q RX da db))) := by
  obtain ⟨fd, F, G⟩ := h.fn
  exact pt_imp (pt_cmpR (op_ownEq G Q0.fn hr hgd (F.bindsN hb) hx) ha hbb hm) fun σ H Q h => ownEq_imp T Q0 kx σ H _ (tst_imp σ H Q h)
theorem ptd_ownNe {X : Cx} {B : Bs} {pos : Pos} {a b : Expr} {da db : DE} {k : Nat} {ps : List Str} {E : XK} {cl : ClT} {sub : Str → Str → Bool} {cs : List Str} {q : DSp} {RX : XD} {D : Str} {st : Stmt} (T : OwC X.K X.mg cl sub) (Q0 : EqC X.K cl sub cs (He.ma X.K (He.ga X.K D) "__eq__")) (h : KnM X.prog X.w X.K X.mg X.base k D "__eq__" st ps q) (hr : Room (k + 1) X.A) (hgd : X.A.guards = some []) (hx : Passes (L2.CX X.prog X.w) X E) (kx : ∀ Hd, Ex B.b Hd → KX X.K B.f Hd RX E)
    (hb : ∀ (kV doc pm : Value) (an : Option Addr) (cdv ct : Value) (us : List Value), us.length = ps.length → bindArgs (PySem.W.fnOf "__eq__" (D ++ "." ++ "__eq__") (defArgs st) (defBody st) (defScope st) .none kV doc pm an cdv ct) ⟨us, []⟩ = pure (ps.zip us))
    (ha : PE X a (upE X.K B da)) (hbb : PE X b (upE X.K B db)) (hm : behindInMarks .NotEq b = false) : PT X (.Compare a [.NotEq] [b] pos) (upT X.K B (dTst (dOwnEq true cl sub cs q RX da db))) := by
  obtain ⟨fd, F, G⟩ := h.fn
  exact pt_imp (pt_cmpR (op_ownNe G Q0.fn hr hgd (F.bindsN hb) hx) ha hbb hm) fun σ H Q h => ownEq_imp T Q0 kx σ H _ (tst_imp σ H Q h)
/-! ### the truth of an instance -/
def spBool (b : Bool) : DSp := fun xs G R _ => ∃ y, xs = [y] ∧ R (.bl b) G
/-- the instances of C are b -/
def TruOk (P : Program) (w : World) (K : PySem.W.Frag) (mg : Str → Option Value) (base : Heap) (k : Nat) (C : Str) (b : Bool) : Prop := ∃ D st, PySem.W.findIn K (.ref (He.ga K C)) "__bool__" = some (some (.ref (He.ma K (He.ga K D) "__bool__"))) ∧ PySem.W.isFn K (.ref (He.ma K (He.ga K D) "__bool__")) = true ∧
  KnM P w K mg base k D "__bool__" st ["self"] (spBool b) ∧ ∀ (kV doc pm : Value) (an : Option Addr) (cdv ct : Value) (us : List Value), us.length = 1 → bindArgs (PySem.W.fnOf "__bool__" (D ++ "." ++ "__bool__") (defArgs st) (defBody st) (defScope st) .none kV doc pm an cdv ct) ⟨us, []⟩ = pure ((["self"] : List Str).zip us)
abbrev TrT := List (Str × Bool)
def dTruW (tb : TrT) (da : DE) : DT := fun ρ G R => da ρ G fun y G1 => ∃ C ns xs b, InsAt G1 y C ns xs ∧ (C, b) ∈ tb ∧ R b G1
def dBoolW (tb : TrT) (da : DE) : DE := fun ρ G R => dTruW tb da ρ G fun b G1 => R (.bl b) G1
section
variable {X : Cx} {B : Bs} {p pos : Pos} {e : Expr} {da : DE} {k : Nat} {tb : TrT}
theorem tru_own {A : Around} {pins : List (Addr × Obj)} {σ : L2.St} {H : Hp} {s : Shared} {F : Gm} {Hd : Hp} {G : Gm} {v : V} {u : Value} {y : D} {C : Str} {ns : List Str} {xs : List D} {b : Bool} (T : ∀ p ∈ tb, TruOk X.prog X.w X.K X.mg X.base k p.1 p.2) (I : Inv X pins σ H s) (e0 : Env0 X.prog X.w X.K X.mg X.base A X.stack s H) (hr : Room k A) (hgd : A.guards = some [])
    (S : Sim X.K F Hd H G) (r : Rp X.K Hd v y) (hi : InsAt G y C ns xs) (hb : (C, b) ∈ tb) (rv : L2.RelV v u) : wpAny (model X.prog X.w) A (truthy u) (fun b' s' => b' = b ∧ ∃ H' Hd', Ex Hd Hd' ∧ Sim X.K F Hd' H' G ∧ Inv X pins σ H' s') X.xe s := by
  obtain ⟨D, st, hs, hf, ⟨fd, FD, FG⟩, hbd⟩ := T _ hb
  obtain ⟨a, dx, vs, rfl, ha, hlen, rl⟩ := hi.heap S r
  obtain rfl : u = Value.ref a := rv
  obtain ⟨mA, J, _⟩ := ins_get I.hok ha
  obtain ⟨od, J, _⟩ := J.look
  obtain ⟨m, hF⟩ := I.fr
  have hsp : spU X.K (spBool b) [.ref a] H (fun v H' => ∃ Hd', v = .bl b ∧ Ex Hd Hd' ∧ Sim X.K F Hd' H' G) (fun _ _ _ => False) :=
    ⟨[y], F, Hd, G, fun z G' => z = .bl b ∧ G' = G, X0, .cons r .nil, S, ⟨y, rfl, rfl, rfl⟩, fun w H' Hd' z G' e1 s1 r1 ⟨ez, eg⟩ => by
      subst ez eg
      cases r1
      exact ⟨Hd', rfl, e1, s1⟩, KX.none⟩
  have hb1 := FD.bindsN (ps := ["self"]) hbd s [.ref a] I.kIn rfl
  rw [List.append_nil] at hb1
  refine PySem.W.truthy_K hF I.ok.mod.kin J hs hf (wpAny_call (codeAny_mono (FG.run A X.stack s H ⟨[.ref a], []⟩ [.ref a] [.ref a] _ _ hr hgd e0 hb1 (.cons (show L2.RelV (V.ref a) (Value.ref a) from rfl) .nil) hsp) fun r s' hq => ?_))
  cases r with
  | error e => exact pass0 pins σ H s e s' I hq
  | ok fl =>
    cases fl with
    | ret w =>
      obtain ⟨z, H', I', rz, Hd', ez, e1, s1⟩ := I.after hq
      subst ez
      cases rz
      exact ⟨rfl, H', Hd', e1, s1, I'⟩
    | next => exact hq.elim
    | brk => exact hq.elim
    | cont => exact hq.elim
theorem ptd_own (T : ∀ p ∈ tb, TruOk X.prog X.w X.K X.mg X.base k p.1 p.2) (hr : Room k X.A) (hgd : X.A.guards = some []) (ha : PE X e (upE X.K B da)) (he : ∀ whole, isTrue e X.env whole = (do let v ← whole; standAt e.pos; holding [v] (truthy v)) := by intro _; rfl) : PT X e (upT X.K B (dTruW tb da)) := by
  refine ⟨fun pins s σ H Q I ⟨ρ, Hd, G, R, at_, h, k0⟩ => ?_⟩
  refine isTrue_plain (thn (ha.run pins s σ H (fun v H1 => ∃ Hd1 y G1 C ns xs b, Ex Hd Hd1 ∧ Sim X.K B.f Hd1 H1 G1 ∧ Rp X.K Hd1 v y ∧ InsAt G1 y C ns xs ∧ (C, b) ∈ tb ∧ R b G1) I ⟨ρ, Hd, G, _, at_, h, fun v H1 Hd1 y G1 e1 s1 r1 ⟨C, ns, xs, b, hi, hb, hR⟩ => ⟨Hd1, y, G1, C, ns, xs, b, e1, s1, r1, hi, hb, hR⟩⟩) fun u s1 hh => ?_) (he _)
  obtain ⟨v, H1, I1, rv, Hd1, y, G1, C, ns, xs, b, e1, S1, r1, hi, hb, hR⟩ := hh
  refine wpAny_mono (tru_own T I1 I1.env0 hr hgd S1 r1 hi hb rv) (fun b' s' z => ?_) fun _ _ z => z
  obtain ⟨rfl, H', Hd', e2, S2, I2⟩ := z
  exact ⟨H', I2, k0 b' H' Hd' G1 (e1.trans e2) S2 hR⟩
def rBoolW (K : PySem.W.Frag) (tb : TrT) : List V → Hp → VK → Prop := fun xs H Q => ∃ F Hd G v y C ns ys b, xs = [v] ∧ Sim K F Hd H G ∧ Rp K Hd v y ∧ InsAt G y C ns ys ∧ (C, b) ∈ tb ∧ ∀ H' Hd', Ex Hd Hd' → Sim K F Hd' H' G → Q (.bl b) H'
theorem call_boolW (T : ∀ p ∈ tb, TruOk X.prog X.w X.K X.mg X.base k p.1 p.2) (hr : Room (k + 2) X.A) (hgd : X.A.guards = some []) : CallR X (.type "bool") (rBoolW X.K tb) := by
  intro pins s σ H xs us Q I r ⟨F, Hd, G, v, y, C, ns, ys, b, ex, S, ry, hi, hb, q⟩
  subst ex
  obtain ⟨u, rfl, ru⟩ := vals1 r
  obtain ⟨a, dx, vs, ev, ha, hlen, rl⟩ := hi.heap S ry
  subst ev
  obtain rfl : u = Value.ref a := ru
  refine OwnNe.call_bool_own (wpAny_mono (tru_own T I I.env0.in1.in1 (hr.in1).in1 (guards_in1 (guards_in1 hgd)) S ry hi hb rfl) (fun b' s' z => ?_) fun _ _ z => z)
  obtain ⟨rfl, H', Hd', e2, S2, I2⟩ := z
  exact ⟨.bl b', H', I2, rfl, q H' Hd' e2 S2⟩
theorem pd_boolW {x : Str} (T : ∀ p ∈ tb, TruOk X.prog X.w X.K X.mg X.base k p.1 p.2) (hr : Room (k + 2) X.A) (hgd : X.A.guards = some []) (hx : x = "bool") (hg : Gl X x) (hm : X.mg x = none) (ha : PE X e (upE X.K B da)) (he : starEach (e :: []) X.env = (false, eval e X.env) :: starEach [] X.env := by rfl) (hpl : (backTo pos (starEach [] X.env)).any (·.1) = false := by rfl) :
    PE X (.Call (.Name x p) (e :: []) [] pos) (upE X.K B (dBoolW tb da)) := by
  subst hx
  refine pe_imp (pe_callTy (call_boolW T hr hgd) hg hm (by decide +kernel) (pa_cons ha pa_nil he) (by decide) (by decide) he hpl) fun σ H Q ⟨ρ, Hd, G, R, at_, h, k0⟩ => ?_
  exact ⟨ρ, Hd, G, _, at_, h, fun v H1 Hd1 y G1 e1 s1 r1 ⟨C, ns, xs, b, hi, hb, hR⟩ => ⟨B.f, Hd1, G1, v, y, C, ns, xs, b, rfl, s1, r1, hi, hb, fun H' Hd' e2 s2 => k0 _ H' Hd' _ G1 (e1.trans e2) s2 (.bl b) hR⟩⟩
end
end DL

/-! DL44: super().__init__(..) of an own base, a def with *parts, attributes as targets. -/
namespace Sup
open PySem PySem.Spec PySem.Calls PyProof.Rows L2 PySem.W
/-- a promise by values, where no repr is under way -/
def FnRG (P : Program) (w : World) (K : PySem.W.Frag) (mg : Str → Option Value) (base : Heap) (k : Nat) (f : Addr) (sp : Sp) : Prop :=
  ∀ (A : Around) (outer : List Env) (s : Shared) (H : Hp) (us : List Value) (vs : List V) (Q : VK) (E : XK), Room k A → A.guards = some [] → Env0 P w K mg base A outer s H → Vals vs us → sp vs H Q E →
    codeAny (model P w) A (.call (.ref f) ⟨us, []⟩) (CR (L2.CX P w) outer P w H s Q E) s
theorem FnRG.mono {P : Program} {w : World} {K : PySem.W.Frag} {mg : Str → Option Value} {base : Heap} {j k : Nat} {f : Addr} {sp : Sp} (F : FnRG P w K mg base j f sp) (h : j ≤ k) : FnRG P w K mg base k f sp := fun A outer s H us vs Q E r => F A outer s H us vs Q E (r.mono h)
/-- def f(a, .., *v): what is left over is a new tuple -/
theorem fn_starG {P : Program} {w : World} {K : PySem.W.Frag} {mg : Str → Option Value} {base : Heap} {k : Nat} {f : Addr} {name qual : Str} {params : Arguments} {body : List Stmt} {scope : Scope} {dV kV doc pm cdv ct oc : Value} {an od : Option Addr}
    {osl : Array (Option Value)} {N ps : List Str} {sp : Sp} {pv : Str} (lk : K.lookup f = some ⟨oc, od, .func (PySem.W.fnOf name qual params body scope dV kV doc pm an cdv ct), osl⟩) (hcd : PySem.W.codeIn K cdv qual = true) (S : FnScope N (ps ++ [pv]) scope)
    (hb : ∀ us rest : List Value, us.length = ps.length → bindArgs (PySem.W.fnOf name qual params body scope dV kV doc pm an cdv ct) ⟨us ++ rest, []⟩ = (newTuple rest >>= fun t => pure (ps.zip us ++ [(pv, t)])))
    (hbody : ∀ (A : Around) (outer : List Env) (s : Shared) (H : Hp) (vs : List V) (Q : VK) (E : XK), Room k (A.deeper (envOfC qual scope s.heap.objs.size f cdv)) → (A.deeper (envOfC qual scope s.heap.objs.size f cdv)).guards = some [] → sp vs H Q E →
      ∃ t, PSs (cxOf (L2.CX P w) P w K mg base N qual scope f cdv A outer s H E) body t ∧ t { nx := fun _ H' => Q .non H', rt := Q } (start N vs) H) :
    FnRG P w K mg base (k + 1) f (fun vs H Q E => ∃ ws rest, vs = ws ++ rest ∧ ws.length = ps.length ∧ rest.length ≤ sizeLine ∧ ∀ p, H p = Option.none → sp (ws ++ [V.ref p]) (upd H p (.tup rest)) Q E) := by
  intro A outer s H us vs Q E hr hgd e0 r hsp
  obtain ⟨ws, rest, ev, hl, hz, hq⟩ := hsp
  subst ev
  obtain ⟨u1, u2, eu, r1, r2⟩ := StX.vals_split r
  subst eu
  have hn : H s.heap.objs.size = Option.none := e0.hok.fresh (Nat.le_refl _)
  have hl1 : u1.length = ps.length := by rw [← r1.length]; exact hl
  have hl2 : u2.length ≤ sizeLine := by rw [← r2.length]; exact hz
  refine StX.run_bnd lk hcd S hr e0 (G := fun xs H2 => ∃ p, H p = Option.none ∧ xs = ws ++ [V.ref p] ∧ H2 = upd H p (.tup rest)) (fun A' Ex Q' h => ?_) fun s2 H2 xs ⟨p, hp, ex, eH⟩ hr' => ?_
  · rw [hb u1 u2 hl1]
    refine wpAny_bind (wpAny_newTuple (wpAny_pure ?_) hl2)
    have new : ObjOk P w (upd H s.heap.objs.size (.tup rest)) (s.heap.push ({ cls := .type "tuple", data := .seq u2.toArray } : Obj)) s.heap.objs.size (.tup rest) := ⟨hz, u2, r2, ⟨_, Heap.get?_push_size _ rfl, rfl, _, rfl⟩⟩
    have un := StX.un_laid (fs := frs outer) (s := s) (o := ({ cls := .type "tuple", data := .seq u2.toArray } : Obj)) (u := .tup rest) hn
    have z := h _ _ (ws ++ [V.ref s.heap.objs.size]) (u1 ++ [Value.ref s.heap.objs.size]) (StX.env0_laid e0 new) un rfl (fun e s' => StX.cxUp outer s H _ _ E e s' un (fun b o q => Heap.get?_push_of_some _ q) rfl) (r1.append (.cons (show L2.RelV (V.ref s.heap.objs.size) (Value.ref s.heap.objs.size) from rfl) .nil))
      (by rw [List.length_append, List.length_append, hl] <;> rfl) ⟨_, hn, rfl, rfl⟩
    rw [List.zip_append hl1.symm] at z
    exact z
  · subst ex eH
    exact hbody A outer s2 _ _ Q E hr' hgd (hq p hp)

/-- what the written part says of the __init__ at f of the class C, whose base's __init__ is the def at f2 -/
structure SupO (P : Program) (K : PySem.W.Frag) (f cda cc C : Addr) (x qual : Str) (params : Arguments) (body : List Stmt) (scope : Scope) (f2 : Addr) : Prop where
  fn : ∃ oc od osl dV kV doc pm an ct, K.lookup f = some ⟨oc, od, .func (ksFn x qual params body scope dV kV doc pm an (.ref cda) ct cc), osl⟩ ∧ dV = .none
  code : codeIn K (.ref cda) qual = true
  file : ∃ ccl cdd vs ccs fl tf, K.lookup cda = some ⟨ccl, cdd, .fields vs, ccs⟩ ∧ vs[2]? = some (.str fl tf) ∧ ((P.main.file : Str) == fl) = true
  top : (P.main.scope.names.lookup ("super" : Str)).isSome = false
  cell : ∃ cl cld csl, K.lookup cc = some ⟨cl, cld, .cell (some (.ref C)), csl⟩
  base : (clsIn K C).isSome = true
  sub : mroIn K C (.ref C) = some true
  free : nsIn K mainGlobals "super" = some none
  stat : nsIn K cStatics "thirdparty.any" = some none
  up : ks_superIn K C C "__init__" = some (some (.ref f2))
  ty : typeIn K (.ref f2) = some (.type "function")
  fi : fnIn K f2 = true
section
variable {P : Program} {w : World} {K : PySem.W.Frag} {mg : Str → Option Value} {base : Heap} {N ps : List Str} {x qual : Str} {scope : Scope} {f cda cc C f2 : Addr} {A : Around} {outer : List Env} {s : Shared} {H : Hp} {E E2 : XK} {params : Arguments} {body : List Stmt} {k : Nat} {sp : Sp}
/-- super().__init__(e, ..), self at the name 0 -/
def tSupO (C : Addr) (sp : Sp) (E : XK) (ta : TA) : TE := fun σ H Q => ∃ (a dx : Addr) (fs : List (Str × V)), σ[0]? = some (some (.ref a)) ∧ H a = some (.ins C dx fs) ∧ ta σ H fun vs H1 => sp (.ref a :: vs) H1 Q E
theorem sup_callO {e : Expr} {es : List Expr} {ta : TA} {ar : Arg} {p0 p1 p2 pos : Pos} {pl : Sem Bool} {pins : List (Addr × Obj)} {σ : L2.St} {H1 : Hp} {s1 : Shared} {Q : VK} (S : ScopeS N ps scope) (T : SupO P K f cda cc C x qual params body scope f2) (F : FnRG P w K mg base k f2 sp)
    (hr : Room k (cxS (L2.CX P w) P w K mg base N qual scope f (.ref cda) cc A outer s H E).A) (hgd : (cxS (L2.CX P w) P w K mg base N qual scope f (.ref cda) cc A outer s H E).A.guards = some []) (hx : Passes (L2.CX P w) (cxS (L2.CX P w) P w K mg base N qual scope f (.ref cda) cc A outer s H E) E2)
    (hp : (params.posonlyargs ++ params.args).head? = some ar) (hN : N[0]? = some ar.arg) (hka : scope.names.lookup ar.arg = some .local)
    (ha : PA (cxS (L2.CX P w) P w K mg base N qual scope f (.ref cda) cc A outer s H E) (e :: es) ta)
    (I : Inv (cxS (L2.CX P w) P w K mg base N qual scope f (.ref cda) cc A outer s H E) pins σ H1 s1) (h : tSupO C sp E2 ta σ H1 Q)
    (he : eval (.Call (.Attribute (.Call (.Name "super" p0) [] [] p1) "__init__" p2) (e :: es) [] pos) (cxS (L2.CX P w) P w K mg base N qual scope f (.ref cda) cc A outer s H E).env = (do
      let ov ← attributeBase (.Call (.Name "super" p0) [] [] p1) "__init__" (cxS (L2.CX P w) P w K mg base N qual scope f (.ref cda) cc A outer s H E).env (eval (.Call (.Name "super" p0) [] [] p1) (cxS (L2.CX P w) P w K mg base N qual scope f (.ref cda) cc A outer s H E).env)
      standAt p2.atName
      let (g, first) ← holding [ov] (getMethod ov "__init__" pl)
      callWith pos g first (backTo pos (starEach (e :: es) (cxS (L2.CX P w) P w K mg base N qual scope f (.ref cda) cc A outer s H E).env)) []) := by rfl)
    (hst : starEach (e :: es) (cxS (L2.CX P w) P w K mg base N qual scope f (.ref cda) cc A outer s H E).env = (false, eval e (cxS (L2.CX P w) P w K mg base N qual scope f (.ref cda) cc A outer s H E).env) :: starEach es (cxS (L2.CX P w) P w K mg base N qual scope f (.ref cda) cc A outer s H E).env := by rfl)
    (hpl : (backTo pos (starEach es (cxS (L2.CX P w) P w K mg base N qual scope f (.ref cda) cc A outer s H E).env)).any (·.1) = false := by rfl) :
    PySem.wpAt (model P w) (cxS (L2.CX P w) P w K mg base N qual scope f (.ref cda) cc A outer s H E).A (.func body (cxS (L2.CX P w) P w K mg base N qual scope f (.ref cda) cc A outer s H E).env) (eval (.Call (.Attribute (.Call (.Name "super" p0) [] [] p1) "__init__" p2) (e :: es) [] pos) (cxS (L2.CX P w) P w K mg base N qual scope f (.ref cda) cc A outer s H E).env)
      (EP (cxS (L2.CX P w) P w K mg base N qual scope f (.ref cda) cc A outer s H E) pins σ Q) (cxS (L2.CX P w) P w K mg base N qual scope f (.ref cda) cc A outer s H E).xe s1 := by
  obtain ⟨a, dx, fs, hs, ea, h⟩ := h
  obtain ⟨oc, od, osl, dV, kV, doc, pm, an, ct, lk, _⟩ := T.fn
  obtain ⟨ccl, cdd, vs, ccs, fl, tf, lc, hv2, hfl⟩ := T.file
  obtain ⟨cl, cld, csl, lcc⟩ := T.cell
  obtain ⟨cdD, hD⟩ := Option.isSome_iff_exists.mp T.base
  obtain ⟨mA, J, _⟩ := ins_get I.hok ea
  obtain ⟨od2, J, _⟩ := J.look
  obtain ⟨m, hns, hl⟩ := I.loc
  have hv : m ar.arg = some (.ref a) := by
    obtain ⟨u, ru, lu⟩ := hl 0 ar.arg (.ref a) hN hs (.inl hka)
    cases (show u = Value.ref a from ru)
    rcases lu with ⟨_, q⟩ | ⟨k, _⟩
    · exact q
    · have k2 : scope.names.lookup ar.arg = some .cell ∨ scope.names.lookup ar.arg = some .free := k
      rw [hka] at k2
      rcases k2 with k2 | k2 <;> cases k2
  have X := I.kIn
  obtain ⟨oD, hD1, hD2⟩ : ∃ oD, s1.heap.get? C = some oD ∧ oD.data = .cls cdD := by
    have hD' := hD
    unfold clsIn at hD'
    split at hD'
    · rename_i c d cd' sl ho
      cases hD'
      exact ⟨_, X _ _ ho, rfl⟩
    · cases hD'
  have hxC : a ≠ C := ks_ne (cd := _) X J hD
  have hsup := T.up
  unfold ks_superIn at hsup
  rw [hD] at hsup
  have hsup2 : alongIn K "__init__" ((cdD.mro.dropWhile (· != .ref C)).drop 1) = some (some (.ref f2)) := hsup
  obtain ⟨of, hof, hofc⟩ : ∃ of, K.lookup f2 = some of ∧ of.cls = .type "function" := by
    have ht' : (K.lookup f2).map (·.cls) = some (.type "function") := T.ty
    cases z : K.lookup f2 with
    | none => rw [z] at ht'; cases ht'
    | some of => rw [z] at ht'; exact ⟨of, rfl, Option.some.inj ht'⟩
  refine ks_wpAt_MethodCall (pl := pl) ?_ he
  refine ks_wpAt_super_base (whole := _) S.sup S.own (by decide) rfl (X _ _ lk) rfl hp rfl (X _ _ lc) rfl hv2 hfl T.top ?_
  obtain ⟨mb, hmb, hbb⟩ := I.mod.blt
  refine ks_loadName_global S.kind S.sup (loadGlobal_builtin (I.mod.glob.keeps I.bk) (mg_none_of X (I.mod.glob.keeps I.bk) T.free) (hmb.keeps I.bk) ((hbb _ (by decide +kernel)).trans boot_super) ⟨rfl, ?_⟩)
  refine wpAny_loadName_free (c := cc) S.kind S.own (by show ([(("__class__" : Str), cc)] : List (Str × Addr)).lookup ("__class__" : Str) = some cc; rw [List.lookup_cons]; simp) ⟨_, X _ _ lcc, rfl⟩ ?_
  refine wpAny_loadName_local S.kind hka hns hv ?_
  obtain ⟨hh, g, d, tk, os⟩ := s1
  refine ks_wpAny_isType_cls hD1 hD2 ⟨rfl, ?_⟩
  refine ks_wpAny_call_super hD1 hD2 J.at_ J.cls (fun c e => ?_) (looks_mroIn X T.sub) (fun h' e1 k1 => ?_)
  · have := J.no
    unfold notCls at this
    rw [e] at this
    exact Bool.noConfusion this
  have X1 : K.In h' := fun b o z => k1 b o (X b o z)
  refine ks_wpAny_getMethod_super e1 (looks_opaque X1 T.stat) (l₀ := cdD.mro) (fun A Q E s k q => wpAny_bind ((looks_clsIn X1 hD) A _ E s k (wpAny_pure q))) rfl X1 hsup2 (X1 _ _ hof) hofc hxC (by decide) ?_
  have lt1 : hh.objs.size < h'.objs.size := Heap.lt_size e1
  have k2 : ∀ b o, hh.get? b = some o → (h'.push (methodObj (.ref f2) (.ref a))).get? b = some o := fun b o z => Heap.get?_push_of_some _ (k1 b o z)
  have hu : (h'.push (methodObj (.ref f2) (.ref a))).get? h'.objs.size = some (methodObj (.ref f2) (.ref a)) := Heap.get?_push_at rfl rfl
  have hbn : (cxS (L2.CX P w) P w K mg base N qual scope f (.ref cda) cc A outer s H E).base.get? h'.objs.size = none := ClX.base_none I (Nat.le_of_lt lt1)
  have I2 := ClX.pin_new (t' := tk + 1) I k2 (Nat.le_of_lt lt1) hu (fun v z => nomatch z)
  show wpAny _ _ (callWith pos (.ref h'.objs.size) [] (backTo pos (starEach (e :: es) (cxS (L2.CX P w) P w K mg base N qual scope f (.ref cda) cc A outer s H E).env)) []) _ _ _
  have hq := ClX.pin_at I2
  have hL : h'.objs.size ≠ (cxS (L2.CX P w) P w K mg base N qual scope f (.ref cda) cc A outer s H E).env.locals := (I2.pin (h'.objs.size, methodObj (.ref f2) (.ref a)) (List.mem_append_right _ List.mem_cons_self)).2.2.1
  refine PySem.W.callWith_M (K := K) (h₀ := base) (first := []) I2.ok.mod.kin (news_at hL hbn hq) List.mem_cons_self T.fi (thn (ha.run pos _ _ σ H1 _ I2 h) fun us s3 hh3 => ?_) hst hpl
  obtain ⟨ws, H3, I3, r3, q3⟩ := hh3
  refine ⟨⟨ClX.pin_at I3, I3.kIn⟩, ?_⟩
  refine wpAny_call (PySem.W.method_call (ClX.pin_at I3) (codeAny_mono (F _ _ s3 H3 (.ref a :: us) (.ref a :: ws) Q E2 hr hgd I3.env0 (.cons (show L2.RelV (V.ref a) (Value.ref a) from rfl) r3) q3) fun r s' hq => ?_))
  cases r with
  | error e => exact hx _ σ H3 s3 e s' I3 hq
  | ok fl =>
    cases fl with
    | ret u => exact ClX.unpinE (I3.after hq)
    | next => exact hq.elim
    | brk => exact hq.elim
    | cont => exact hq.elim
end
end Sup
namespace Sup
open PySem PySem.Spec PySem.Calls PyProof.Rows L2 PySem.W
section
variable {P : Program} {w : World} {K : PySem.W.Frag} {mg : Str → Option Value} {base : Heap} {N ps : List Str} {x qual : Str} {scope : Scope} {f cda cc C f2 : Addr} {A : Around} {outer : List Env} {s : Shared} {H : Hp} {E E2 : XK} {params : Arguments} {body : List Stmt} {k : Nat} {sp : Sp}
theorem psS_supO {e : Expr} {es : List Expr} {rest : List Stmt} {ta : TA} {t : TS} {ar : Arg} {p0 p1 p2 pos pos2 : Pos} {pl : Sem Bool} (S : ScopeS N ps scope) (T : SupO P K f cda cc C x qual params body scope f2) (F : FnRG P w K mg base k f2 sp)
    (hr : Room k (cxS (L2.CX P w) P w K mg base N qual scope f (.ref cda) cc A outer s H E).A) (hgd : (cxS (L2.CX P w) P w K mg base N qual scope f (.ref cda) cc A outer s H E).A.guards = some []) (hx : Passes (L2.CX P w) (cxS (L2.CX P w) P w K mg base N qual scope f (.ref cda) cc A outer s H E) E2)
    (hp : (params.posonlyargs ++ params.args).head? = some ar) (hN : N[0]? = some ar.arg) (hka : scope.names.lookup ar.arg = some .local)
    (ha : PA (cxS (L2.CX P w) P w K mg base N qual scope f (.ref cda) cc A outer s H E) (e :: es) ta) (hrest : PSs (cxS (L2.CX P w) P w K mg base N qual scope f (.ref cda) cc A outer s H E) rest t)
    (he : eval (.Call (.Attribute (.Call (.Name "super" p0) [] [] p1) "__init__" p2) (e :: es) [] pos) (cxS (L2.CX P w) P w K mg base N qual scope f (.ref cda) cc A outer s H E).env = (do
      let ov ← attributeBase (.Call (.Name "super" p0) [] [] p1) "__init__" (cxS (L2.CX P w) P w K mg base N qual scope f (.ref cda) cc A outer s H E).env (eval (.Call (.Name "super" p0) [] [] p1) (cxS (L2.CX P w) P w K mg base N qual scope f (.ref cda) cc A outer s H E).env)
      standAt p2.atName
      let (g, first) ← holding [ov] (getMethod ov "__init__" pl)
      callWith pos g first (backTo pos (starEach (e :: es) (cxS (L2.CX P w) P w K mg base N qual scope f (.ref cda) cc A outer s H E).env)) []) := by rfl)
    (hst : starEach (e :: es) (cxS (L2.CX P w) P w K mg base N qual scope f (.ref cda) cc A outer s H E).env = (false, eval e (cxS (L2.CX P w) P w K mg base N qual scope f (.ref cda) cc A outer s H E).env) :: starEach es (cxS (L2.CX P w) P w K mg base N qual scope f (.ref cda) cc A outer s H E).env := by rfl)
    (hpl : (backTo pos (starEach es (cxS (L2.CX P w) P w K mg base N qual scope f (.ref cda) cc A outer s H E).env)).any (·.1) = false := by rfl)
    (hi : interactive (cxS (L2.CX P w) P w K mg base N qual scope f (.ref cda) cc A outer s H E).env = false := by rfl) (hsw : swapsWith (.Call (.Attribute (.Call (.Name "super" p0) [] [] p1) "__init__" p2) (e :: es) [] pos) none pos2.line (cxS (L2.CX P w) P w K mg base N qual scope f (.ref cda) cc A outer s H E).env = pure false := by rfl) :
    PSsS (cxS (L2.CX P w) P w K mg base N qual scope f (.ref cda) cc A outer s H E) body (.Expr (.Call (.Attribute (.Call (.Name "super" p0) [] [] p1) "__init__" p2) (e :: es) [] pos) pos2 :: rest) (fun D σ H => tSupO C sp E2 ta σ H fun _ H1 => t D σ H1) := by
  refine ⟨fun pins s1 σ H1 D I h => ?_⟩
  refine ks_wpAt_execs_cons (ks_wpAt_Expr_any (ks_wpAt_mono (sup_callO (pl := pl) S T F hr hgd hx hp hN hka ha I h he hst hpl) (fun v s2 hv => ?_) fun _ _ z => z) hi hsw)
  obtain ⟨_, H2, I2, _, q⟩ := hv
  exact wpAt_of_wpAny (hrest.run pins s2 σ H2 D I2 q)
/-- a def with the class's cell, by its body -/
theorem fng_supO {oc : Value} {od : Option Addr} {osl : Array (Option Value)} {dV kV doc pm ct : Value} {an : Option Addr} (S : ScopeS N ps scope) (T : SupO P K f cda cc C x qual params body scope f2)
    (lk : K.lookup f = some ⟨oc, od, .func (ksFn x qual params body scope dV kV doc pm an (.ref cda) ct cc), osl⟩) (len : ∀ vs H Q E, sp vs H Q E → vs.length = ps.length)
    (hbody : ∀ (A : Around) (outer : List Env) (s : Shared) (H : Hp) (vs : List V) (Q : VK) (E : XK), Room k (A.deeper (ksEnv qual scope s.heap.objs.size f (.ref cda) cc)) → (A.deeper (ksEnv qual scope s.heap.objs.size f (.ref cda) cc)).guards = some [] → sp vs H Q E →
      ∃ t, PSsS (cxS (L2.CX P w) P w K mg base N qual scope f (.ref cda) cc A outer s H E) body body t ∧ t { nx := fun _ H' => Q .non H', rt := Q } (L2.start N vs) H) :
    DL.FnG P w K mg base (k + 1) f (ksFn x qual params body scope dV kV doc pm an (.ref cda) ct cc) ps sp := by
  refine ⟨len, fun A outer s H args us vs Q E hr hgd e0 hb r hsp => ?_⟩
  have hl := len _ _ _ _ hsp
  obtain ⟨cl, cld, csl, lcc⟩ := T.cell
  have KX : K.In s.heap := e0.mod.kin.keeps fun b o e => (e0.bs b o e).1
  have lim : s.heap.NoLimit := e0.mod.nolimit.keeps fun b o e => (e0.bs b o e).1
  refine ks_codeAny_call_defAt (fd := ksFn x qual params body scope dV kV doc pm an (.ref cda) ct cc) (body := body) (binds := ps.zip us) hr.depth (KX _ _ lk) rfl lim (codeRec_of KX T.code) rfl hb S.nocell (fun y hy => ?_) (fun h₀ hns kp => ?_) S.co S.gen S.kind
  · obtain ⟨n, u⟩ := y
    exact S.par n (List.of_mem_zip hy).1
  obtain ⟨t, ht, hq⟩ := hbody A outer s H vs Q E (hr.deeper _) hgd hsp
  have I : Inv (cxS (L2.CX P w) P w K mg base N qual scope f (.ref cda) cc A outer s H E) [] (L2.start N vs) H { s with heap := h₀, toks := s.toks + (ps.zip us).length } := inv_startS S hr.hd e0 hl r lcc rfl hns kp
  refine ks_wpAt_mono (ht.run [] _ (L2.start N vs) H _ I hq) (fun fl s' hs => ?_) fun e s' hs => hs
  have fin : ∀ {σ' : L2.St} {H' : Hp} {v : V} {u : Value}, Inv (cxS (L2.CX P w) P w K mg base N qual scope f (.ref cda) cc A outer s H E) [] σ' H' s' → L2.RelV v u → Q v H' → CE outer P w H s Q u s' :=
    fun {σ' H' v u} J rv q => ⟨v, H', J.os, J.bare, J.base, J.hok, rv, q⟩
  cases fl with
  | ret u =>
    obtain ⟨v, σ', H', J, rv, q⟩ := hs
    exact fin J rv q
  | next =>
    obtain ⟨σ', H', J, q⟩ := hs
    exact fin (v := V.non) (u := Value.none) J rfl q
  | brk =>
    obtain ⟨_, _, _, q⟩ := hs
    exact False.elim q
  | cont =>
    obtain ⟨_, _, _, q⟩ := hs
    exact False.elim q
end
end Sup

namespace DL
open PySem PySem.Spec PyProof.Rows L2 Evl Sup
variable [TabC]
/-! ### super().__init__(e, ..) over data -/
def dSup (C : Str) (q : DSp) (RX : XD) (dA : DA) (s : DS) : DS := fun E ρ G => ∃ a ns xs, ρ[0]? = some (some (.ref a)) ∧ G a = some (.ins C ns xs) ∧ dA ρ G fun ys G1 => q (.ref a :: ys) G1 (fun _ G2 => s E ρ G2) RX
theorem sup_imp {K : PySem.W.Frag} {B : Bs} {C : Str} {q : DSp} {RX : XD} {dA : DA} {s : DS} {E2 : XK} (kx : ∀ Hd, Ex B.b Hd → KX K B.f Hd RX E2) : ∀ D σ H, upS K B (dSup C q RX dA s) D σ H → tSupO (He.ga K C) (spU K q) E2 (upA K B dA) σ H fun _ H1 => upS K B s D σ H1 := fun D σ H ⟨ρ, Hd, G, E, at_, ⟨a, ns, xs, h0, hg, h⟩, k⟩ => by
  obtain ⟨v, hv, rv⟩ := at_.e.2 0 _ h0
  cases rv
  obtain ⟨dx, vs, h1, hl, rl⟩ := at_.s.hold a _ hg
  exact ⟨a, dx, _, hv, h1, ρ, Hd, G, _, at_, h, fun us H1 Hd1 ys G1 e1 s1 r1 hq => ⟨.ref a :: ys, B.f, Hd1, G1, _, RX, .cons (.ref a) r1, s1, hq, fun w H2 Hd2 y G2 e2 s2 r2 h2 => ⟨ρ, Hd2, G2, E, at_.step (e1.trans e2) s2, h2, k.mono (e1.trans e2)⟩, kx Hd1 (at_.b.trans e1)⟩⟩
theorem PSsS.imp {X : Cx} {b sts : List Stmt} {t t' : TS} (h : PSsS X b sts t) (i : ∀ D σ H, t' D σ H → t D σ H) : PSsS X b sts t' := ⟨fun pins s σ H D I w => h.run pins s σ H D I (i D σ H w)⟩
/-! ### an __init__ that is known, however it is bound -/
structure KnI (P : Program) (w : World) (K : PySem.W.Frag) (mg : Str → Option Value) (base : Heap) (k : Nat) (C : Str) (st : Stmt) (ps : List Str) (p : DSp) : Prop where
  fn : ∃ fd, FnG P w K mg base k (He.ma K (He.ga K C) "__init__") fd ps (spU K p) ∧ fd.params = defArgs st ∧ fd.defaults = .none
section
variable {P : Program} {w : World} {K : PySem.W.Frag} {mg : Str → Option Value} {base : Heap}
theorem KnI.mono {j k : Nat} {C : Str} {st : Stmt} {ps : List Str} {p : DSp} (h : KnI P w K mg base j C st ps p) (l : j ≤ k) : KnI P w K mg base k C st ps p :=
  ⟨let ⟨fd, a, b⟩ := h.fn; ⟨fd, a.mono l, b⟩⟩
theorem KnM.toI {k : Nat} {C : Str} {st : Stmt} {ps : List Str} {p : DSp} (h : KnM P w K mg base k C "__init__" st ps p) : KnI P w K mg base k C st ps p := by
  obtain ⟨fd, F, G⟩ := h.fn
  obtain ⟨oc, od, dV, kV, doc, pm, an, cdv, ct, osl, rfl, lk, hcd, hD, hK⟩ := F.ex
  rcases hD with ⟨_, rfl⟩ | ⟨z, _⟩
  · exact ⟨_, G, rfl, rfl⟩
  · exact absurd rfl z
/-- by a body that says super().__init__(..) -/
theorem kni_sup {k : Nat} {C : Str} {st : Stmt} {N ps : List Str} {p : DSp} {cda cc f2 : Addr} (T : SupO P K (He.ma K (He.ga K C) "__init__") cda cc (He.ga K C) "__init__" (C ++ "." ++ "__init__") (defArgs st) (defBody st) (defScope st) f2) (S : ScopeS N ps (defScope st)) (len : ∀ xs G R RX, p xs G R RX → xs.length = ps.length)
    (hbody : ∀ (A : Around) (outer : List Env) (s : Shared) (H : Hp) (E : XK) (B : Bs) (RX : XD), Room k (cxS (L2.CX P w) P w K mg base N (C ++ "." ++ "__init__") (defScope st) (He.ma K (He.ga K C) "__init__") (.ref cda) cc A outer s H E).A → (cxS (L2.CX P w) P w K mg base N (C ++ "." ++ "__init__") (defScope st) (He.ma K (He.ga K C) "__init__") (.ref cda) cc A outer s H E).A.guards = some [] → KX K B.f B.b RX E →
      ∃ t : DS, PSsS (cxS (L2.CX P w) P w K mg base N (C ++ "." ++ "__init__") (defScope st) (He.ma K (He.ga K C) "__init__") (.ref cda) cc A outer s H E) (defBody st) (defBody st) (upS K B t) ∧ ∀ xs G R, p xs G R RX → t { nx := fun _ G => R .non G, rt := R } (xs.map some ++ List.replicate (N.length - xs.length) none) G) :
    KnI P w K mg base (k + 1) C st ps p := by
  obtain ⟨oc, od, osl, dV, kV, doc, pm, an, ct, lk, hD⟩ := T.fn
  subst hD
  refine ⟨_, fng_supO S T lk (fun vs H Q E h => ?_) fun A outer s H vs Q E hr hgd h => ?_, rfl, rfl⟩
  · obtain ⟨xs, _, _, G, R, RX, r, _, hp, _⟩ := h
    rw [r.length]
    exact len xs G R RX hp
  · obtain ⟨xs, F, Hd, G, R, RX, r, sm, hp, ke, kx⟩ := h
    obtain ⟨t, ht, h2⟩ := hbody A outer s H E ⟨Hd, F⟩ RX hr hgd kx
    refine ⟨_, ht, _, Hd, G, _, ⟨Ex.refl _, RpE.start r, sm⟩, h2 xs G R hp, ?_⟩
    exact ⟨fun σ' H' Hd' ρ' G' e _ s h => ke .non H' Hd' .non G' e s .non h, ke, fun _ _ _ _ _ _ _ _ h => h.elim, fun _ _ _ _ _ _ _ _ h => h.elim⟩
end
section
variable {X : Cx} {B : Bs} {p pos : Pos} {e : Expr} {es : List Expr} {dA : DA} {k : Nat} {ps : List Str} {E : XK}
theorem pd_makeI {C : Str} {st : Stmt} {q : DSp} {RX : XD} (h : KnI X.prog X.w X.K X.mg X.base k C st ps q) (M : L2.Mk X.K (He.ga X.K C) (He.ma X.K (He.ga X.K C) "__init__")) (hm : X.mg C = some (.ref (He.ga X.K C))) (hr : Room (k + 1) X.A) (hgd : X.A.guards = some []) (hg : Gl X C)
    (hx : Passes (L2.CX X.prog X.w) X E) (kx : ∀ Hd, Ex B.b Hd → KX X.K B.f Hd RX E)
    (hb : ∀ fd : FuncData, fd.params = defArgs st → fd.defaults = .none → ∀ us : List Value, us.length = ps.length → bindArgs fd ⟨us, []⟩ = pure (ps.zip us))
    (ha : PA X (e :: es) (upA X.K B dA)) (hdb : (C == ("__debug__" : Str)) = false := by decide) (he : starEach (e :: es) X.env = (false, eval e X.env) :: starEach es X.env := by rfl) (hpl : (backTo pos (starEach es X.env)).any (·.1) = false := by rfl) :
    PE X (.Call (.Name C p) (e :: es) [] pos) (upE X.K B (dMake C q RX dA)) := by
  obtain ⟨fd, G, f1, f2⟩ := h.fn
  refine ⟨fun pins s σ H Q I ⟨ρ, Hd, G0, R, at_, h0, k0⟩ => ?_⟩
  refine wpAny_Call_Name_kw (ld_glob I hg hm ?_ hdb)
  refine PySem.W.callWith_K (h₀ := X.base) I.ok.mod.kin M.kp (thn (ha.run pos pins s σ H (fun vs H1 => ∀ x dx, H1 x = none → H1 dx = none → dx ≠ x → spU X.K q (.ref x :: vs) (upd (upd H1 dx (.own x)) x (.ins (He.ga X.K C) dx [])) (fun v H2 => v = .non ∧ Q (.ref x) H2) E) I
    ⟨ρ, Hd, G0, _, at_, h0, fun vs H1 Hd1 xs G1 e1 s1 r1 h1 => make_sp s1 r1 (k0.mono e1) (kx Hd1 (at_.b.trans e1)) h1⟩) fun us s1 hh => ?_) he hpl
  obtain ⟨vs, H1, I1, r, q1⟩ := hh
  exact ⟨I1.kIn, run_makeG M G hr hgd (fun s' x hk hl => .of_eq (hb fd f1 f2 (.ref x :: us) hl)) hx I1 r q1⟩
theorem pd_makeKI {C : Str} {st : Stmt} {ks : List Str} {q : DSp} {RX : XD} {kws : List Keyword} (o : Ord) (h : KnI X.prog X.w X.K X.mg X.base k C st ps q) (M : L2.Mk X.K (He.ga X.K C) (He.ma X.K (He.ga X.K C) "__init__")) (hm : X.mg C = some (.ref (He.ga X.K C))) (hr : Room (k + 1) X.A) (hgd : X.A.guards = some []) (hg : Gl X C)
    (hx : Passes (L2.CX X.prog X.w) X E) (kx : ∀ Hd, Ex B.b Hd → KX X.K B.f Hd RX E)
    (hb : ∀ fd : FuncData, fd.params = defArgs st → fd.defaults = .none → ∀ (x : Value) (us : List Value), us.length + 1 = ps.length → bindArgs fd ⟨[x], ks.zip us⟩ = pure (ps.zip (x :: o.go us)))
    (hn : ks.length + 1 = ps.length) (ho : ∀ {α : Type} (l : List α), (o.go l).length + 1 = ps.length → l.length + 1 = ps.length)
    (hkw : PK X kws (upA X.K B dA)) (hall : (backToKw pos (keywordEach kws X.env)).all (·.1.isSome) = true := by rfl) (hks : (backToKw pos (keywordEach kws X.env)).filterMap (·.1) = ks := by rfl)
    (hdb : (C == ("__debug__" : Str)) = false := by decide) (hpl : ((backTo pos (starEach [] X.env)).any (·.1) || (backToKw pos (keywordEach kws X.env)).any (·.1.isNone)) = false := by rfl) :
    PE X (.Call (.Name C p) [] kws pos) (upE X.K B (dMakeK C q o RX dA)) := by
  obtain ⟨fd, G, f1, f2⟩ := h.fn
  refine ⟨fun pins s σ H Q I ⟨ρ, Hd, G0, R, at_, h0, k0⟩ => ?_⟩
  refine wpAny_Call_Name_kw (ld_glob I hg hm ?_ hdb)
  refine PySem.W.callWith_KW0 (h₀ := X.base) I.ok.mod.kin M.kp hall (thn (hkw.run pos pins s σ H (fun vs H1 => ∀ x dx, H1 x = none → H1 dx = none → dx ≠ x → spU X.K q (.ref x :: o.go vs) (upd (upd H1 dx (.own x)) x (.ins (He.ga X.K C) dx [])) (fun v H2 => v = .non ∧ Q (.ref x) H2) E) I
    ⟨ρ, Hd, G0, _, at_, h0, fun vs H1 Hd1 xs G1 e1 s1 r1 h1 => make_sp s1 (paired_rpl (o.rel _ _ _ (rpl_paired r1))) (k0.mono e1) (kx Hd1 (at_.b.trans e1)) h1⟩) fun us s1 hh => ?_) hpl
  obtain ⟨vs, H1, I1, r, q1⟩ := hh
  refine ⟨I1.kIn, ?_⟩
  rw [hks]
  exact run_makeG M G hr hgd (us := o.go us) (fun s' x hk hl => .of_eq (hb fd f1 f2 (.ref x) us (ho us hl))) hx I1 (o.rel _ _ _ r) q1
end
/-! ### a def with *parts -/
/-- q's last parameter takes what is left over behind n -/
def starOf (n : Nat) (q : DSp) : DSp := fun xs G R RX => ∃ us rest, xs = us ++ rest ∧ us.length = n ∧ rest.length ≤ sizeLine ∧ q (us ++ [.tup rest]) G R RX
theorem rpl_split {K : PySem.W.Frag} {H : Hp} : ∀ {us rest : List D} {vs : List V}, RpL K H vs (us ++ rest) → ∃ v1 v2, vs = v1 ++ v2 ∧ RpL K H v1 us ∧ RpL K H v2 rest
  | [], rest, vs, r => ⟨[], vs, rfl, .nil, r⟩
  | u :: us, rest, _, .cons a r => by
    obtain ⟨v1, v2, rfl, r1, r2⟩ := rpl_split r
    exact ⟨_ :: v1, v2, rfl, .cons a r1, r2⟩
theorem kns_of {P : Program} {w : World} {K : PySem.W.Frag} {mg : Str → Option Value} {base : Heap} {C m : Str} {st : Stmt} {N ps : List Str} {pv : Str} {k : Nat} {p : DSp} (F : ∃ fd, FunD K m (C ++ "." ++ m) (defArgs st) (defBody st) (defScope st) [] [] (He.ma K (He.ga K C) m) fd) (S : FnScope N (ps ++ [pv]) (defScope st))
    (hb : ∀ (kV doc pm : Value) (an : Option Addr) (cdv ct : Value) (us rest : List Value), us.length = ps.length → bindArgs (PySem.W.fnOf m (C ++ "." ++ m) (defArgs st) (defBody st) (defScope st) .none kV doc pm an cdv ct) ⟨us ++ rest, []⟩ = (newTuple rest >>= fun t => pure (ps.zip us ++ [(pv, t)])))
    (hbody : ∀ (cdv : Value), ∀ (A : Around) (outer : List Env) (s : Shared) (H : Hp) (E : XK) (B : Bs) (RX : XD), Room k (A.deeper (envOfC (C ++ "." ++ m) (defScope st) s.heap.objs.size (He.ma K (He.ga K C) m) cdv)) → (A.deeper (envOfC (C ++ "." ++ m) (defScope st) s.heap.objs.size (He.ma K (He.ga K C) m) cdv)).guards = some [] → KX K B.f B.b RX E →
      ∃ t : DS, PSs (cxOf (L2.CX P w) P w K mg base N (C ++ "." ++ m) (defScope st) (He.ma K (He.ga K C) m) cdv A outer s H E) (defBody st) (upS K B t) ∧ ∀ xs G R, p xs G R RX → t { nx := fun _ G => R .non G, rt := R } (xs.map some ++ List.replicate (N.length - xs.length) none) G) :
    FnRG P w K mg base (k + 1) (He.ma K (He.ga K C) m) (spU K (starOf ps.length p)) := by
  obtain ⟨fd, F⟩ := F
  obtain ⟨oc, od, dV, kV, doc, pm, an, cdv, ct, osl, rfl, lk, hcd, hD, hK⟩ := F.ex
  obtain rfl : dV = .none := by
    rcases hD with ⟨_, h⟩ | ⟨z, _⟩
    · exact h
    · exact absurd rfl z
  have G := fn_starG (P := P) (w := w) (mg := mg) (base := base) (k := k) (sp := spU K p) lk hcd S (hb kV doc pm an cdv ct) fun A outer s H vs Q E hr hgd h => by
    obtain ⟨xs, F, Hd, G, R, RX, r, sm, hp, ke, kx⟩ := h
    obtain ⟨t, ht, h2⟩ := hbody cdv A outer s H E ⟨Hd, F⟩ RX hr hgd kx
    refine ⟨_, ht, _, Hd, G, _, ⟨Ex.refl _, RpE.start r, sm⟩, h2 xs G R hp, ?_⟩
    exact ⟨fun σ' H' Hd' ρ' G' e _ s h => ke .non H' Hd' .non G' e s .non h, ke, fun _ _ _ _ _ _ _ _ h => h.elim, fun _ _ _ _ _ _ _ _ h => h.elim⟩
  intro A outer s H us vs Q E hr hgd e0 rv ⟨xs, F, Hd, G0, R, RX, r, sm, ⟨ds, rest, ex, hl, hz, hp⟩, ke, kx⟩
  subst ex
  obtain ⟨v1, v2, ev, r1, r2⟩ := rpl_split r
  subst ev
  refine G A outer s H us (v1 ++ v2) Q E hr hgd e0 rv ⟨v1, v2, rfl, by rw [r1.length, hl], by rw [r2.length]; exact hz, fun p hpn => ?_⟩
  exact ⟨ds ++ [.tup rest], F, upd Hd p (.tup v2), G0, R, RX, (r1.mono (sm.exn hpn)).app (.cons (.tup st_new (r2.mono (sm.exn hpn))) .nil), sm.new hpn, hp, ke.mono (sm.exn hpn), kx.mono (sm.exn hpn)⟩
/-! ### attributes as targets -/
def gFld (K : PySem.W.Frag) (to : TE) (f : Str) : TG := fun v σ H Q => to σ H fun x H1 => ∃ a C dx fs, x = .ref a ∧ H1 a = some (.ins C dx fs) ∧ L2.Cls K C ∧ NoAttr K C f ∧ fs.length < 1000 ∧ Q σ (upd H1 a (.ins C dx (putF f v fs)))
def gF (cl : ClT) (f : Str) (dobj : DE) : DG := fun z ρ G R => dobj ρ G fun y G2 => ∃ a C ns xs, y = .ref a ∧ G2 a = some (.ins C ns xs) ∧ hasF cl C f = true ∧ ns.length < 1000 ∧ R ρ (gup G2 a (.ins C (putNs f ns) (putXs f z ns xs)))
section
variable {X : Cx} {B : Bs} {pos : Pos} {o : Expr} {to : TE} {dobj : DE} {f : Str} {cl : ClT} {sub : Str → Str → Bool}
theorem pg_fld (ho : PE X o to) : PG X (.Attribute o f pos) (gFld X.K to f) := by
  refine ⟨fun pins s σ H v u Q I r h => ?_⟩
  rw [assign_Attribute]
  refine wpAny_bind (wpAny_holding (thn (ho.run pins s σ H _ I h) fun ov s1 ⟨x, H1, I1, rx, a, C, dx, fs, ex, ea, c, n, l, q⟩ => ?_))
  subst ex
  obtain rfl : ov = Value.ref a := rx
  refine wpAny_bind (wpAny_standAt (wpAny_bind (wpAny_holding (setattr_ok I1 ea c n l r fun s3 I3 => ?_))))
  exact wpAny_release ⟨σ, _, I3, q⟩
theorem pgd_fld (T : OwC X.K X.mg cl sub) (ho : PE X o (upE X.K B dobj)) : PG X (.Attribute o f pos) (upG X.K B [] (gF cl f dobj)) := pg_imp (pg_fld ho) fun v σ H Q ⟨z, ρ, Hd, G, R, at_, r, h, k⟩ => by
  refine ⟨ρ, Hd, G, _, at_, h, fun w H2 Hd2 y G2 e2 s2 r2 ⟨a, C, ns, xs, ey, hg, hf, hz, hE⟩ => ?_⟩
  subst ey
  cases r2
  obtain ⟨dx, vs, h2, hl, rl⟩ := s2.hold a _ hg
  obtain ⟨c, n⟩ := T.fld hf
  refine ⟨a, He.ga X.K C, dx, ns.zip vs, rfl, h2, c, n, ?_, ?_⟩
  · rw [List.length_zip, ← hl, Nat.min_self]
    exact hz
  · refine k σ _ Hd2 ρ _ e2 (at_.e.mono e2) (s2.put (n := .ins C (putNs f ns) (putXs f z ns xs)) hg ⟨dx, putXs f v ns vs, ?_, put_len hl, RpL.put (r.mono e2) rl⟩) hE ⟨rfl, fun _ _ => rfl⟩
    rw [upd_same, putF_zip hl]
end
end DL

/-! DL45: tuple + tuple, list(x) into one that may change, pop, a changing list compared, the module's dicts of texts, recursion, the head's word on super(). -/
namespace DL
open PySem PySem.Spec PyProof.Rows L2 Evl Sup
variable [TabC]
/-! ### tuple + tuple -/
def fAddT (x y z : D) : Prop := ∃ xs ys, x = .tup xs ∧ y = .tup ys ∧ xs ≠ [] ∧ xs.length + ys.length ≤ sizeLine ∧ z = .tup (xs ++ ys)
theorem od_addT {K : PySem.W.Frag} : OpD K (rCatT K) fAddT := fun F Hd H G v u x y z Q s rv ru ⟨xs, ys, ex, ey, hx, hz, ez⟩ k => by
  subst ex ey ez
  cases rv with
  | tup q r =>
    cases ru with
    | tup q' r' =>
      rename_i a vs b us
      have nz : ∀ {vs : List V} {ds : List D}, RpL K Hd vs ds → (vs = [] ↔ ds = []) := fun r => by
        cases r with
        | nil => simp
        | cons _ _ => simp
      refine ⟨_, _, _, _, rfl, rfl, ex_t s.sub q, ex_t s.sub q', fun z => hx ((nz r).mp z), by rw [r.length, r'.length]; exact hz, fun z => ?_, fun z p hp => ?_⟩
      · have w := k (.ref a) H Hd (Ex.refl _) s
        rw [(nz r').mp z, List.append_nil] at w
        exact w (.tup q r)
      · exact k _ _ _ (s.exn hp) (s.new hp) (.tup st_new ((r.app r').mono (s.exn hp)))
theorem pd_addT {X : Cx} {B : Bs} {pos : Pos} {a b : Expr} {da db : DE} (ha : PE X a (upE X.K B da)) (hb : PE X b (upE X.K B db)) : PE X (.BinOp a .Add b pos) (upE X.K B (dOp fAddT da db)) := pd_op op_catT od_addT ha hb
theorem Ev.addT {ρ : En} {G : Gm} {da db : DE} {xs ys : List D} (ha : Ev da ρ G (.tup xs)) (hb : Ev db ρ G (.tup ys)) (hx : xs ≠ []) (hz : xs.length + ys.length ≤ sizeLine) : Ev (dOp fAddT da db) ρ G (.tup (xs ++ ys)) := .op ha hb ⟨xs, ys, rfl, rfl, hx, hz, rfl⟩
/-! ### list(x), into one that may change -/
def dLstOfM (dA : DA) : DE := fun ρ G R => dA ρ G fun xs G1 => ∃ x ds, xs = [x] ∧ SeqAt G1 x ds ∧ ∀ p, G1 p = none → R (.ref p) (gup G1 p (.lst ds))
section
variable {X : Cx} {B : Bs} {p pos : Pos} {e o : Expr} {es : List Expr} {dA : DA} {dobj di da db : DE}
theorem pd_lstOfM {x : Str} (hx : x = "list") (hg : Gl X x) (hm : X.mg x = none) (ha : PA X (e :: es) (upA X.K B dA)) (he : starEach (e :: es) X.env = (false, eval e X.env) :: starEach es X.env := by rfl) (hpl : (backTo pos (starEach es X.env)).any (·.1) = false := by rfl) :
    PE X (.Call (.Name x p) (e :: es) [] pos) (upE X.K B (dLstOfM dA)) := by
  subst hx
  refine pe_imp (pe_callTy call_list_of hg hm (by decide +kernel) ha (by decide) (by decide) he hpl) fun σ H Q ⟨ρ, Hd, G, R, at_, h, k⟩ => ?_
  refine ⟨ρ, Hd, G, _, at_, h, fun vs H1 Hd1 xs G1 e1 s1 r1 ⟨x, ds, ex, hs, hR⟩ => ?_⟩
  subst ex
  obtain ⟨v, rfl, rv⟩ := rpl1 r1
  obtain ⟨a, ys, rfl, q, r2⟩ := hs.sq s1 rv
  exact ⟨a, ys, rfl, q, fun l hl => k _ _ _ (.ref l) _ e1 (s1.cell (m := .lst ds) hl ⟨_, upd_same, r2⟩) (.ref l) (hR l (s1.gfree hl))⟩
/-! ### o.pop(i) -/
def dPopAt (dobj di : DE) : DE := fun ρ G R => dobj ρ G fun o G1 => ∃ q, o = .ref q ∧ (∃ ds, G1 q = some (.lst ds)) ∧ dCons di dNil ρ G1 fun xs G2 => ∃ (i : Nat) (ds : List D) (y : D), xs = [.int i] ∧ G2 q = some (.lst ds) ∧ ds[i]? = some y ∧ i < 2 ^ 62 ∧ R y (gup G2 q (.lst (ds.eraseIdx i)))
theorem RpL.erase {K : PySem.W.Frag} {H : Hp} : ∀ {vs : List V} {ds : List D} (i : Nat), RpL K H vs ds → RpL K H (vs.eraseIdx i) (ds.eraseIdx i)
  | _, _, _, .nil => .nil
  | _, _, 0, .cons _ b => b
  | _, _, i + 1, .cons a b => .cons a (RpL.erase i b)
theorem pd_popAt (ho : PE X o (upE X.K B dobj)) (he : PE X e (upE X.K B di)) (hs : starEach [e] X.env = (false, eval e X.env) :: starEach [] X.env := by rfl) (hbase : attributeBase o "pop" X.env (eval o X.env) = eval o X.env := by rfl)
    (hfew : ((backTo pos (starEach [e] X.env)).all (fun x => !x.1) && (backToKw pos (keywordEach [] X.env)).all (fun x => x.1.isSome) && decide ([e].length + ([] : List Keyword).length + (if ([] : List Keyword).isEmpty then 0 else 1) < 30)) = true := by rfl)
    (hline : (p.endLine == pos.line) = true := by rfl) (hplain : (backTo pos (starEach [] X.env)).any (·.1) = false := by rfl) :
    PE X (.Call (.Attribute o "pop" p) [e] [] pos) (upE X.K B (dPopAt dobj di)) := pe_imp (pe_bm PySem.F.plainAttrs_list PySem.F.slot_list_pop PySem.F.type_list_pop mt_popAt ho (pda_cons he pda_nil hs) hbase hfew hline hs hplain) fun σ H Q ⟨ρ, Hd, G, R, at_, h, k⟩ =>
  ⟨ρ, Hd, G, fun o G1 => ∃ q, o = .ref q ∧ (∃ ds, G1 q = some (.lst ds)) ∧ dCons di dNil ρ G1 fun xs G2 => ∃ (i : Nat) (ds : List D) (y : D), xs = [.int i] ∧ G2 q = some (.lst ds) ∧ ds[i]? = some y ∧ i < 2 ^ 62 ∧ R y (gup G2 q (.lst (ds.eraseIdx i))), at_, h, fun v H1 Hd1 x G1 e1 s1 r1 ⟨q, ex, ⟨ds0, hg0⟩, h1⟩ => by
    subst ex
    cases r1
    obtain ⟨ys0, hy0, _⟩ := s1.hold q _ hg0
    refine ⟨.inl ⟨rfl, ys0, SqL.of hy0⟩, ρ, Hd1, G1, fun xs G2 => ∃ (i : Nat) (ds : List D) (y : D), xs = [.int i] ∧ G2 q = some (.lst ds) ∧ ds[i]? = some y ∧ i < 2 ^ 62 ∧ R y (gup G2 q (.lst (ds.eraseIdx i))), at_.step e1 s1, ?_, fun us H2 Hd2 xs G2 e2 s2 r2 ⟨i, ds, y, ex, hg, hy, hi, h2⟩ => ?_⟩
    · exact h1
    · subst ex
      obtain ⟨u, rfl, ru⟩ := rpl1 r2
      cases ru
      obtain ⟨ys, hys, ry⟩ := s2.hold q _ hg
      obtain ⟨w, hw, rw_⟩ := ry.at hy
      have hl : i < ys.length := (List.getElem?_eq_some_iff.mp hw).1
      refine ⟨q, ys, (i : Int), i, w, rfl, rfl, hys, by omega, by omega, ?_, hw, k _ _ Hd2 _ _ (e1.trans e2) (s2.put (n := .lst (ds.eraseIdx i)) hg ⟨_, upd_same, ry.erase i⟩) rw_ h2⟩
      unfold seqIndex?
      have h3 : ¬ ((i : Int) < 0) := by omega
      rw [if_neg h3]
      have h4 : (decide (0 ≤ (i : Int)) && decide ((i : Int) < (ys.length : Int))) = true := by
        rw [decide_eq_true (by omega), decide_eq_true (by omega)]
        rfl
      rw [if_pos h4]
      rfl⟩
/-! ### == and != where the left one may be a list that changes -/
def VwAt (G : Gm) (x x' : D) : Prop := x' = x ∨ ∃ p ds, x = .ref p ∧ G p = some (.lst ds) ∧ x' = .lst ds
theorem VwAt.dp {K : PySem.W.Frag} {F : Gm} {Hd H : Hp} {G : Gm} {v : V} {x x' : D} {p : PyData} (h : VwAt G x x') (s : Sim K F Hd H G) (r : Rp K Hd v x) (e : x'.py = some p) : Dp K H v p := by
  rcases h with rfl | ⟨q, ds, rfl, hg, rfl⟩
  · exact rp_dp s.sub _ r e
  · cases r
    obtain ⟨xs, S, rl⟩ := s.freeze hg
    exact rp_dp (v := .ref q) S.sub (.lst ds) (.lst sq_new (rl.mono (Ex.new (s.off q _ hg)))) e
def dNeM (da db : DE) : DE := fun ρ G R => da ρ G fun x G1 => db ρ G1 fun y G2 => ∃ x' y', VwAt G2 x x' ∧ VwAt G2 y y' ∧ Cmp x' ∧ Cmp y' ∧ R (.bl (!D.eqv x' y')) G2
theorem neM_imp {K : PySem.W.Frag} : ∀ σ H Q, upE K B (dNeM da db) σ H Q → tOp (rNeD K) (upE K B da) (upE K B db) σ H Q := fun σ H Q ⟨ρ, Hd, G, R, at_, h, k⟩ =>
  ⟨ρ, Hd, G, _, at_, h, fun v H1 Hd1 x G1 e1 s1 r1 h1 => ⟨ρ, Hd1, G1, _, at_.step e1 s1, h1, fun u H2 Hd2 y G2 e2 s2 r2 ⟨x', y', vx, vy, cx, cy, hR⟩ => by
    obtain ⟨p, ep, sp⟩ := cx.shaped
    obtain ⟨q, eq, sq⟩ := cy.shaped
    refine ⟨p, q, vx.dp s2 (r1.mono e2) ep, vy.dp s2 r2 eq, sp, sq, ?_⟩
    rw [← eqv_of ep eq]
    exact k _ H2 Hd2 _ G2 (e1.trans e2) s2 (.bl _) hR⟩⟩
theorem pd_neM {a b : Expr} (hu : X.A.units + 64 < cLine) (ha : PE X a (upE X.K B da)) (hb : PE X b (upE X.K B db)) (hm : behindInMarks .NotEq b = false) : PE X (.Compare a [.NotEq] [b] pos) (upE X.K B (dNeM da db)) := pe_imp (pe_cmpR (op_neD hu) ha hb hm) neM_imp
theorem ptd_neM {a b : Expr} (hu : X.A.units + 64 < cLine) (ha : PE X a (upE X.K B da)) (hb : PE X b (upE X.K B db)) (hm : behindInMarks .NotEq b = false) : PT X (.Compare a [.NotEq] [b] pos) (upT X.K B (dTst (dNeM da db))) :=
  pt_imp (pt_cmpR (op_neD hu) ha hb hm) fun σ H Q h => neM_imp σ H _ (tst_imp σ H Q h)
end
/-! ### a dict of the module, texts to ints -/
abbrev KvT := List (Str × Int)
structure DctK (K : PySem.W.Frag) (w : World) (mg : Str → Option Value) (x : Str) (kvs : KvT) : Prop where
  g : mg x = some (.ref (He.ga K x))
  d : ∃ es n, KDict K w (He.ga K x) es n
  no : ∀ z, (kvs.lookup z).isSome = false → PySem.W.nsIn K (He.ga K x) z = some none
  yes : ∀ z i, kvs.lookup z = some i → ∃ u, PySem.W.nsIn K (He.ga K x) z = some (some u) ∧ RelV (.int i) u
theorem nsIn_key {K : PySem.W.Frag} {P : Params} {a : Addr} {ks : List Str} {z : Str} (h : He.dicW K a = some (He.keysIn P ks)) (hz : z ∉ ks) : PySem.W.nsIn K a z = some none := by
  unfold He.dicW at h
  unfold PySem.W.nsIn
  cases q : K.lookup a with
  | none =>
    rw [q] at h
    cases h
  | some o =>
    obtain ⟨oc, od, dt, osl⟩ := o
    rw [q] at h
    cases oc with
    | type c =>
      cases od with
      | none =>
        cases dt with
        | dict es n =>
          dsimp only at h ⊢
          split at h
          · have h1 : es.toList.map He.keyOf = He.keysIn P ks := Option.some.inj h
            have key : ∀ (l : List DictEntry) (ks : List Str), l.map He.keyOf = He.keysIn P ks → z ∉ ks → l.find? (·.key.isStr z) = none ∧ l.any (·.refKey) = false := by
              intro l
              induction l with
              | nil => exact fun _ _ _ => ⟨rfl, rfl⟩
              | cons e r ih =>
                intro ks h hz
                cases ks with
                | nil => cases h
                | cons k ks =>
                  have h2 : He.keyOf e :: r.map He.keyOf = some (k, PyData.keyHash P k) :: He.keysIn P ks := h
                  injection h2 with h3 h4
                  obtain ⟨i1, i2⟩ := ih ks h4 fun m => hz (List.mem_cons_of_mem _ m)
                  unfold He.keyOf at h3
                  split at h3
                  · rename_i x t hx
                    have h5 := Option.some.inj h3
                    obtain ⟨h6, _⟩ := Prod.mk.inj h5
                    have nz : ¬ x = z := fun e => hz (by rw [← e, h6]; exact List.mem_cons_self)
                    have b1 : e.key.isStr z = false := by
                      rw [hx, PySem.W.isStr_of]
                      unfold Value.isStrOf
                      simpa using nz
                    have b2 : e.refKey = false := by simp [DictEntry.refKey, hx]
                    refine ⟨by rw [List.find?_cons, b1]; exact i1, by rw [List.any_cons, b2, Bool.false_or]; exact i2⟩
                  · cases h3
            obtain ⟨k1, k2⟩ := key es.toList ks h1 hz
            rw [k1]
            dsimp only
            rw [k2]
            rfl
          · cases h
        | _ => cases h
      | some b => cases dt <;> cases h
    | _ => cases od <;> cases dt <;> cases h
/-- the table's keys and values, as the head tells them -/
def dctB (K : PySem.W.Frag) (x : Str) (kvs : KvT) : Bool := (He.Fa.glo x).ok K && kvs.all fun p => match PySem.W.nsIn K (He.ga K x) p.1 with
  | some (some (.int j _)) => decide (j = p.2)
  | _ => false
theorem dctk_of {K : PySem.W.Frag} {w : World} {h : Heap} {mg : Str → Option Value} {x : Str} {kvs : KvT} (X : K.In h) (G : h.Ns mainGlobals mg) (b : dctB K x kvs = true) (d : He.dicW K (He.ga K x) = some (He.keysIn w.params (kvs.map (·.1)))) : DctK K w mg x kvs := by
  obtain ⟨b1, b2⟩ := He.ba b
  have key : ∀ p ∈ kvs, ∃ t, PySem.W.nsIn K (He.ga K x) p.1 = some (some (.int p.2 t)) := fun p hp => by
    have z := List.all_eq_true.mp b2 p hp
    split at z
    · rename_i j t q
      rw [← of_decide_eq_true z]
      exact ⟨t, q⟩
    · cases z
  refine ⟨He.glo_ok X G b1, He.dicW_ok d, fun z hz => nsIn_key d fun m => ?_, fun z i hz => ?_⟩
  · obtain ⟨p, hp, e⟩ := List.mem_map.mp m
    have : ∀ l : KvT, p ∈ l → (l.lookup z).isSome = true := fun l => by
      induction l with
      | nil => exact fun m => by cases m
      | cons q r ih =>
        intro m
        rw [List.lookup_cons]
        cases hq : (z == q.1) with
        | true => rfl
        | false =>
          rcases List.mem_cons.mp m with m | m
          · rw [← m, e] at hq
            simp at hq
          · exact ih m
    rw [this kvs hp] at hz
    cases hz
  · have : ∀ l : KvT, l.lookup z = some i → (z, i) ∈ l := fun l => by
      induction l with
      | nil => exact fun m => by cases m
      | cons q r ih =>
        intro m
        rw [List.lookup_cons] at m
        cases hq : (z == q.1) with
        | true =>
          rw [hq] at m
          have e1 := beq_iff_eq.mp hq
          have e2 := Option.some.inj m
          rw [e1, ← e2]
          exact List.mem_cons_self
        | false =>
          rw [hq] at m
          exact List.mem_cons_of_mem _ (ih m)
    obtain ⟨t, ht⟩ := key (z, i) (this kvs hz)
    exact ⟨_, ht, t, rfl⟩
def dInK (kvs : KvT) (neg : Bool) (da : DE) : DE := fun ρ G R => da ρ G fun y G1 => ∃ z, y = .str z ∧ R (.bl (neg != (kvs.lookup z).isSome)) G1
def dIxK (kvs : KvT) (da : DE) : DE := fun ρ G R => da ρ G fun y G1 => ∃ z i, y = .str z ∧ kvs.lookup z = some i ∧ R (.int i) G1
section
variable {X : Cx} {B : Bs} {p pos : Pos} {e : Expr} {da : DE} {x : Str} {kvs : KvT}
theorem DctK.ns {K : PySem.W.Frag} {w : World} {mg : Str → Option Value} (D : DctK K w mg x kvs) (z : Str) : ∃ r, PySem.W.nsIn K (He.ga K x) z = some r ∧ r.isSome = (kvs.lookup z).isSome := by
  cases q : kvs.lookup z with
  | none => exact ⟨none, D.no z (by rw [q]; rfl), rfl⟩
  | some i =>
    obtain ⟨u, hu, _⟩ := D.yes z i q
    exact ⟨some u, hu, rfl⟩
theorem pd_inK (D : DctK X.K X.w X.mg x kvs) (hg : Gl X x) (ha : PE X e (upE X.K B da)) (hm : behindInMarks .In (.Name x p) = false := by first | exact nomark _ | rfl) (hd : (x == ("__debug__" : Str)) = false := by decide) : PE X (.Compare e [.In] [.Name x p] pos) (upE X.K B (dInK kvs false da)) := by
  obtain ⟨es, n, kd⟩ := D.d
  refine pe_imp (pe_cmpR (op_in_kd kd) ha (pe_glob (v := .ref (He.ga X.K x)) hg D.g rfl hd) hm) fun σ H Q ⟨ρ, Hd, G, R, at_, h, k⟩ => ?_
  refine ⟨ρ, Hd, G, _, at_, h, fun v H1 Hd1 y G1 e1 s1 r1 ⟨z, ey, hR⟩ => ?_⟩
  subst ey
  cases r1
  obtain ⟨r, hr, er⟩ := D.ns z
  refine ⟨z, r, rfl, rfl, hr, ?_⟩
  rw [er]
  rw [Bool.false_bne] at hR
  exact k _ H1 Hd1 _ G1 e1 s1 (.bl _) hR
theorem pd_notInK (D : DctK X.K X.w X.mg x kvs) (hg : Gl X x) (ha : PE X e (upE X.K B da)) (hm : behindInMarks .NotIn (.Name x p) = false := by first | exact nomark _ | rfl) (hd : (x == ("__debug__" : Str)) = false := by decide) : PE X (.Compare e [.NotIn] [.Name x p] pos) (upE X.K B (dInK kvs true da)) := by
  obtain ⟨es, n, kd⟩ := D.d
  refine pe_imp (pe_cmpR (op_notIn_kd kd) ha (pe_glob (v := .ref (He.ga X.K x)) hg D.g rfl hd) hm) fun σ H Q ⟨ρ, Hd, G, R, at_, h, k⟩ => ?_
  refine ⟨ρ, Hd, G, _, at_, h, fun v H1 Hd1 y G1 e1 s1 r1 ⟨z, ey, hR⟩ => ?_⟩
  subst ey
  cases r1
  obtain ⟨r, hr, er⟩ := D.ns z
  refine ⟨z, r, rfl, rfl, hr, ?_⟩
  rw [er]
  rw [Bool.true_bne] at hR
  exact k _ H1 Hd1 _ G1 e1 s1 (.bl _) hR
theorem ptd_notInK (D : DctK X.K X.w X.mg x kvs) (hg : Gl X x) (ha : PE X e (upE X.K B da)) (hm : behindInMarks .NotIn (.Name x p) = false := by first | exact nomark _ | rfl) (hd : (x == ("__debug__" : Str)) = false := by decide) : PT X (.Compare e [.NotIn] [.Name x p] pos) (upT X.K B (dTst (dInK kvs true da))) := by
  obtain ⟨es, n, kd⟩ := D.d
  refine pt_imp (pt_cmpR (op_notIn_kd kd) ha (pe_glob (v := .ref (He.ga X.K x)) hg D.g rfl hd) hm) fun σ H Q h0 => ?_
  obtain ⟨ρ, Hd, G, R, at_, h, k⟩ := tst_imp σ H Q h0
  refine ⟨ρ, Hd, G, _, at_, h, fun v H1 Hd1 y G1 e1 s1 r1 ⟨z, ey, hR⟩ => ?_⟩
  subst ey
  cases r1
  obtain ⟨r, hr, er⟩ := D.ns z
  refine ⟨z, r, rfl, rfl, hr, ?_⟩
  rw [er]
  rw [Bool.true_bne] at hR
  exact k _ H1 Hd1 _ G1 e1 s1 (.bl _) hR
theorem ptd_inK (D : DctK X.K X.w X.mg x kvs) (hg : Gl X x) (ha : PE X e (upE X.K B da)) (hm : behindInMarks .In (.Name x p) = false := by first | exact nomark _ | rfl) (hd : (x == ("__debug__" : Str)) = false := by decide) : PT X (.Compare e [.In] [.Name x p] pos) (upT X.K B (dTst (dInK kvs false da))) := by
  obtain ⟨es, n, kd⟩ := D.d
  refine pt_imp (pt_cmpR (op_in_kd kd) ha (pe_glob (v := .ref (He.ga X.K x)) hg D.g rfl hd) hm) fun σ H Q h0 => ?_
  obtain ⟨ρ, Hd, G, R, at_, h, k⟩ := tst_imp σ H Q h0
  refine ⟨ρ, Hd, G, _, at_, h, fun v H1 Hd1 y G1 e1 s1 r1 ⟨z, ey, hR⟩ => ?_⟩
  subst ey
  cases r1
  obtain ⟨r, hr, er⟩ := D.ns z
  refine ⟨z, r, rfl, rfl, hr, ?_⟩
  rw [er]
  rw [Bool.false_bne] at hR
  exact k _ H1 Hd1 _ G1 e1 s1 (.bl _) hR
end
/-! ### a def that is never called -/
theorem Kn.never {P : Program} {w : World} {K : PySem.W.Frag} {mg : Str → Option Value} {base : Heap} {x : Str} {st : Stmt} {ps : List Str} {p : DSp} (g : mg x = some (.ref (He.ga K x))) (F : ∃ fd, FunD K x x (defArgs st) (defBody st) (defScope st) [] [] (He.ga K x) fd) (hp : ∀ xs G R RX, ¬ p xs G R RX) : Kn P w K mg base 0 x st ps p := by
  obtain ⟨fd, F⟩ := F
  exact ⟨g, fd, F, fun _ _ _ _ ⟨_, _, _, _, _, _, _, _, h, _⟩ => (hp _ _ _ _ h).elim, fun _ _ _ _ _ _ _ _ _ _ _ _ _ _ ⟨_, _, _, _, _, _, _, _, h, _⟩ => (hp _ _ _ _ h).elim⟩
theorem ordOf_len1 {pm : List Nat} {n : Nat} (hn : n = pm.length + 1) {α : Type} (l : List α) (h : ((ordOf pm).go l).length + 1 = n) : l.length + 1 = n := by
  have := ordOf_len (pm := pm) (n := pm.length) rfl l (by omega)
  omega
/-! ### the head's word on super() of an own base -/
def soB (file : Str) (K : PySem.W.Frag) (C D : Str) : Bool :=
  He.eqO (PySem.W.findIn K (.ref (He.ga K C)) "__init__") (some (some (.ref (He.ma K (He.ga K C) "__init__")))) &&
  (optB (fdOf K (He.ma K (He.ga K C) "__init__")) (fun fd => optB (refOf fd.code) (fun cda => optB (onlyCl fd.closure) fun cc => noneV fd.defaults && (PySem.W.codeIn K (.ref cda) fd.qualname && (optB (vsOf K cda) (fun vs => optB (txtOf vs[2]?) fun fl => (file : Str) == fl) && decide (cellOf K cc = some (He.ga K C)))))) &&
  ((PySem.W.clsIn K (He.ga K C)).isSome && (decide (PySem.W.mroIn K (He.ga K C) (.ref (He.ga K C)) = some true) && (He.eqO (PySem.W.nsIn K mainGlobals "super") (some none) && (He.eqO (PySem.W.nsIn K cStatics "thirdparty.any") (some none) && (He.eqO (PySem.W.ks_superIn K (He.ga K C) (He.ga K C) "__init__") (some (some (.ref (He.ma K (He.ga K D) "__init__")))) &&
  (decide (PySem.W.typeIn K (.ref (He.ma K (He.ga K D) "__init__")) = some (.type "function")) && PySem.W.fnIn K (He.ma K (He.ga K D) "__init__"))))))))
theorem so_of {P : Program} {K : PySem.W.Frag} {C D : Str} {qual : Str} {params : Arguments} {body : List Stmt} {scope : Scope} (b : soB P.main.file K C D = true) (e : fnC K C = (⟨C, qual, params, body, scope⟩ : DefC).val)
    (htop : (P.main.scope.names.lookup ("super" : Str)).isSome = false) : ∃ cda cc, SupO P K (He.ma K (He.ga K C) "__init__") cda cc (He.ga K C) "__init__" qual params body scope (He.ma K (He.ga K D) "__init__") := by
  unfold soB at b
  obtain ⟨b1, b⟩ := He.ba b
  obtain ⟨b2, b⟩ := He.ba b
  obtain ⟨b3, b⟩ := He.ba b
  obtain ⟨b4, b⟩ := He.ba b
  obtain ⟨b5, b⟩ := He.ba b
  obtain ⟨b6, b⟩ := He.ba b
  obtain ⟨b7, b⟩ := He.ba b
  obtain ⟨b8, b9⟩ := He.ba b
  obtain ⟨fd, q1, b2⟩ := optB_ok b2
  obtain ⟨cda, q2, b2⟩ := optB_ok b2
  obtain ⟨cc, q3, b2⟩ := optB_ok b2
  obtain ⟨c0, b2⟩ := He.ba b2
  obtain ⟨c1, b2⟩ := He.ba b2
  obtain ⟨c2, c3⟩ := He.ba b2
  obtain ⟨vs, q4, c2⟩ := optB_ok c2
  obtain ⟨fl, q5, c2⟩ := optB_ok c2
  obtain ⟨oc, od, osl, lk⟩ := fdOf_ok q1
  have e0 := refOf_ok q2
  have e1 := onlyCl_ok q3
  unfold fnC at e
  rw [lk] at e
  obtain ⟨n1, n2, n3, n4, n5, n6, n7, n8, n9, n10, n11, n12, n13, n14, n15⟩ := fd
  have e2 : (some (n1, n2, n3, n4, n5, n6, n15) : FnC) = some (("__init__" : Str), qual, params, FuncBody.stmts body, scope, mainGlobals, builtinsNs) := e
  simp only [Option.some.injEq, Prod.mk.injEq] at e2
  obtain ⟨h1, h2, h3, h4, h5, h6, h7⟩ := e2
  dsimp only at e0 e1 c1 c0
  subst h1 h2 h3 h4 h5 h6 h7 e0 e1
  obtain ⟨ccl, cdd, ccs, lc⟩ := vsOf_ok q4
  obtain ⟨tf, hv⟩ := txtOf_ok q5
  obtain ⟨cl, cld, csl, lcc⟩ := cellOf_ok (of_decide_eq_true c3)
  exact ⟨cda, cc, ⟨oc, od, osl, n8, n9, n10, n11, n12, n14, lk, noneV_ok c0⟩, c1, ⟨ccl, cdd, vs, ccs, fl, tf, lc, hv, c2⟩, htop, ⟨cl, cld, csl, lcc⟩, b3, of_decide_eq_true b4, He.eqO_ok b5, He.eqO_ok b6, He.eqO_ok b7, of_decide_eq_true b8, b9⟩
end DL
namespace DL
open PySem PySem.Spec PyProof.Rows L2 Evl Sup
variable [TabC]
section
variable {X : Cx} {B : Bs} {p pos : Pos} {e : Expr} {da : DE} {x : Str} {kvs : KvT}
theorem pd_ixK (D : DctK X.K X.w X.mg x kvs) (hg : Gl X x) (ha : PE X e (upE X.K B da)) (hs : PlainIx e) (hd : (x == ("__debug__" : Str)) = false := by decide) : PE X (.Subscript (.Name x p) e pos) (upE X.K B (dIxK kvs da)) := by
  refine pe_imp (pe_ix ix_kdict (pe_glob (v := .ref (He.ga X.K x)) hg D.g rfl hd) ha hs) fun σ H Q ⟨ρ, Hd, G, R, at_, h, k⟩ => ?_
  refine ⟨ρ, Hd, G, _, at_, h, fun v H1 Hd1 y G1 e1 s1 r1 ⟨z, i, ey, hi, hR⟩ => ?_⟩
  subst ey
  cases r1
  obtain ⟨es, n, kd⟩ := D.d
  obtain ⟨u, hu, ru⟩ := D.yes z i hi
  exact ⟨_, z, .int i, rfl, rfl, ⟨es, n, u, kd.at_, kd.lit, hu, ru⟩, k _ H1 Hd1 _ G1 e1 s1 (.int i) hR⟩
end
end DL
namespace DL
open PySem PySem.Spec PyProof.Rows L2
/-- a method of a class's body -/
def isMeth (m : Str) : Stmt → Bool
  | .FunctionDef n _ _ _ _ _ _ _ _ _ => n == m
  | _ => false
def methOf (st : Stmt) (m : Str) : Stmt := ((clsBody st).find? (isMeth m)).getD (.Pass ⟨0, 0, 0, 0⟩)
def defO (C : Str) (st : Stmt) : DefC := ⟨C, C ++ "." ++ "__init__", defArgs (methOf st "__init__"), defBody (methOf st "__init__"), defScope (methOf st "__init__")⟩
end DL

/-! DL46: what a def leaves behind is let go; fixed, papers. -/
namespace DL
open PySem PySem.Spec PyProof.Rows L2 Evl Sup
variable [TabC]
/-! ### what a def leaves behind -/
def gdels (G : Gm) : List Addr → Gm
  | [] => G
  | p :: l => gdels (gdel G p) l
theorem Sim.gdels {K : PySem.W.Frag} {F : Gm} {Hd H : Hp} : ∀ (l : List Addr) {G : Gm}, Sim K F Hd H G → Sim K F Hd H (DL.gdels G l)
  | [], _, S => S
  | p :: l, _, S => Sim.gdels l (S.gdel p)
def Gc (R : KD) : KD := fun x G => ∃ l, R x (gdels G l)
def dGcE (s : DS) : DS := fun E ρ G => s { nx := fun ρ G' => ∃ l, E.nx ρ (gdels G' l), rt := Gc E.rt, bk := fun ρ G' => ∃ l, E.bk ρ (gdels G' l), ct := fun ρ G' => ∃ l, E.ct ρ (gdels G' l) } ρ G
theorem pssd_gc {X : Cx} {B : Bs} {sts : List Stmt} {s : DS} (h : PSs X sts (upS X.K B s)) : PSs X sts (upS X.K B (dGcE s)) := pss_imp h fun D σ H ⟨ρ, Hd, G, E, at_, h, k⟩ =>
  ⟨ρ, Hd, G, _, at_, h, ⟨fun σ' H' Hd' ρ' G' e r s ⟨l, q⟩ => k.nx σ' H' Hd' ρ' _ e r (s.gdels l) q, fun v H' Hd' x G' e s r ⟨l, q⟩ => k.rt v H' Hd' x _ e (s.gdels l) r q, fun σ' H' Hd' ρ' G' e r s ⟨l, q⟩ => k.bk σ' H' Hd' ρ' _ e r (s.gdels l) q, fun σ' H' Hd' ρ' G' e r s ⟨l, q⟩ => k.ct σ' H' Hd' ρ' _ e r (s.gdels l) q⟩⟩
theorem Gc.none {R : KD} {x : D} {G : Gm} (h : R x G) : Gc R x G := ⟨[], h⟩
theorem Gc.one {R : KD} {x : D} {G : Gm} {p : Addr} {m : Mt} (hp : G p = Option.none) (h : R x G) : Gc R x (gup G p m) := ⟨[p], by show R x (gdel (gup G p m) p); rw [gdel_gup hp]; exact h⟩
/-! ### combinators -/
section
variable {ρ : En} {G : Gm} {da db dv dobj : DE} {dA : DA} {x y z : D} {xs ys : List D} {ns : List Str} {cl : ClT} {sub : Str → Str → Bool} {C f : Str} {a : Addr} {E : DEnds}
theorem ins_ins : InsAt G (.ins C ns xs) C ns xs := .inl rfl
theorem ins_ref (h : G a = some (.ins C ns xs)) : InsAt G (.ref a) C ns xs := .inr ⟨a, rfl, h⟩
theorem Ev.fld (ha : Ev da ρ G x) (hi : InsAt G x C ns xs) (hf : hasF cl C f = true) (hl : (ns.zip xs).lookup f = some z) : Ev (dFld cl f da) ρ G z := fun R r => ha _ ⟨C, ns, xs, z, hi, hf, hl, r⟩
theorem Ev.isW {b : Bool} (ha : Ev da ρ G x) (h : isW cl sub C x = some b) : Ev (dIsW cl sub C da) ρ G (.bl b) := fun R r => ha _ ⟨b, h, r⟩
theorem Ev.boolW {b : Bool} {tb : TrT} (ha : Ev da ρ G x) (hi : InsAt G x C ns xs) (hb : (C, b) ∈ tb) : Ev (dBoolW tb da) ρ G (.bl b) := fun R r => ha _ ⟨C, ns, xs, b, hi, hb, r⟩
theorem EvT.truW {b : Bool} {tb : TrT} (ha : Ev da ρ G x) (hi : InsAt G x C ns xs) (hb : (C, b) ∈ tb) : EvT (dTruW tb da) ρ G b := fun R r => ha _ ⟨C, ns, xs, b, hi, hb, r⟩
theorem put_new {α : Type} {f : Str} {z : α} : ∀ {ns : List Str} {xs : List α}, f ∉ ns → ns.length = xs.length → putNs f ns = ns ++ [f] ∧ putXs f z ns xs = xs ++ [z]
  | [], [], _, _ => ⟨rfl, rfl⟩
  | g :: r, x :: xs, h, hl => by
    have ne : ¬ g = f := fun e => h (by rw [e]; exact List.mem_cons_self)
    obtain ⟨e1, e2⟩ := put_new (z := z) (xs := xs) (fun m => h (List.mem_cons_of_mem _ m)) (by simpa using hl)
    unfold putNs putXs
    rw [if_neg ne, if_neg ne, e1, e2]
    exact ⟨rfl, rfl⟩
theorem ds_setF (hv : Ev dv ρ G z) (ho : Ev dobj ρ G (.ref a)) (hg : G a = some (.ins C ns xs)) (hf : hasF cl C f = true) (hn : f ∉ ns) (hl : ns.length = xs.length) (hz : ns.length < 1000) (h : E.nx ρ (gup G a (.ins C (ns ++ [f]) (xs ++ [z])))) : dSetF cl f dv dobj E ρ G := by
  obtain ⟨e1, e2⟩ := put_new (z := z) hn hl
  refine hv _ (ho _ ⟨a, C, ns, xs, rfl, hg, hf, hz, ?_⟩)
  rw [e1, e2]
  exact h
theorem gf_new {g : En → Gm → Prop} (ho : Ev dobj ρ G (.ref a)) (hg : G a = some (.ins C ns xs)) (hf : hasF cl C f = true) (hn : f ∉ ns) (hl : ns.length = xs.length) (hz : ns.length < 1000) (h : g ρ (gup G a (.ins C (ns ++ [f]) (xs ++ [z])))) : gF cl f dobj z ρ G g := by
  obtain ⟨e1, e2⟩ := put_new (z := z) hn hl
  refine ho _ ⟨a, C, ns, xs, rfl, hg, hf, hz, ?_⟩
  rw [e1, e2]
  exact h
/-- C(..), its __init__ sets these fields -/
theorem Ev.make0 {q : DSp} (ha : EvA dA ρ G xs) (h : ∀ (a : Addr) (R : KD), R .non (gup (gup G a (.ins C [] [])) a (.ins C ns ys)) → q (.ref a :: xs) (gup G a (.ins C [] [])) R fun D ns ys G2 => False) (mono : ∀ xs G R RX RX', (∀ D ns ys G, RX D ns ys G → RX' D ns ys G) → q xs G R RX → q xs G R RX') : Ev (dMake C q X0 dA) ρ G (.ins C ns ys) := fun R r => ha _ fun a hn => mono _ _ _ _ _ (fun _ _ _ _ z => z.elim) (h a _ ⟨rfl, ns, ys, gup_same, by rw [gup_gup, gdel_gup hn]; exact r⟩)
end
/-! ### fixed -/
mutual
def fixD : D → D
  | .lst xs => .tup (fixL xs)
  | .tup xs => .tup (fixL xs)
  | x => x
def fixL : List D → List D
  | [] => []
  | x :: xs => fixD x :: fixL xs
end
theorem fixL_map : ∀ xs : List D, fixL xs = xs.map fixD
  | [] => by unfold fixL; rfl
  | x :: xs => by unfold fixL; rw [fixL_map xs]; rfl
def D.flat : D → Bool
  | .non => true
  | .bl _ => true
  | .int _ => true
  | .str _ => true
  | _ => false
def FxOk : Nat → D → Prop
  | 0, _ => False
  | d + 1, x => (∃ xs, (x = .lst xs ∨ x = .tup xs) ∧ xs.length ≤ sizeLine ∧ ∀ y ∈ xs, FxOk d y) ∨ x.flat = true
theorem FxOk.up : ∀ {d : Nat} {x : D}, FxOk d x → FxOk (d + 1) x
  | 0, _, h => h.elim
  | d + 1, x, .inl ⟨xs, e, hz, h⟩ => .inl ⟨xs, e, hz, fun y hy => FxOk.up (h y hy)⟩
  | d + 1, x, .inr h => .inr h
theorem FxOk.mono {d e : Nat} {x : D} (h : FxOk d x) (l : d ≤ e) : FxOk e x := by
  induction l with
  | refl => exact h
  | step _ ih => exact ih.up
def fixedR (q : DSp) : DS := (dRet (dIf (dTst (dIsiT ["list", "tuple"] (dVar 0))) (dCal fTupOf (dCons (dCmp (dISeq (dVar 0)) (gN 1) dYes (dCall q X0 (dCons (dVar 1) dNil)) [1]) dNil)) (dVar 0)))
def sp_fixedN (d : Nat) : DSp := fun xs G R _ => ∃ x, xs = [x] ∧ FxOk d x ∧ R (fixD x) G
theorem fixed_ok (d : Nat) (xs : List D) (G : Gm) (R : KD) (RX : XD) (h : sp_fixedN (d + 1) xs G R RX) : fixedR (sp_fixedN d) { nx := fun _ G => R .non G, rt := R } (xs.map some ++ List.replicate (2 - xs.length) none) G := by
  obtain ⟨x, rfl, hx, h⟩ := h
  rcases hx with ⟨xs, e, hz, hy⟩ | hf
  · have k : Ev (dCmp (dISeq (dVar 0)) (gN 1) dYes (dCall (sp_fixedN d) X0 (dCons (dVar 1) dNil)) [1]) [some x, none] G (.lst (xs.map fixD)) := .lcSeq fixD (.var rfl) e (fun y m => .call (.one (.var rfl)) fun R r => ⟨y, rfl, hy y m, r⟩) hz
    rcases e with rfl | rfl
    · refine ds_ret (.ifT (.tst ((Ev.isiT (t := "list") (.var rfl) rfl).cast rfl)) (.tupOf k seq_lst)) ?_
      unfold fixD at h
      rw [fixL_map] at h
      exact h
    · refine ds_ret (.ifT (.tst ((Ev.isiT (t := "tuple") (.var rfl) rfl).cast rfl)) (.tupOf k seq_lst)) ?_
      unfold fixD at h
      rw [fixL_map] at h
      exact h
  · refine ds_ret ?_ h
    cases x <;> first | cases hf | skip
    · exact .ifF (.tst ((Ev.isiT (t := "NoneType") (.var rfl) rfl).cast rfl)) (.var rfl)
    · exact .ifF (.tst ((Ev.isiT (t := "bool") (.var rfl) rfl).cast rfl)) (.var rfl)
    · exact .ifF (.tst ((Ev.isiT (t := "int") (.var rfl) rfl).cast rfl)) (.var rfl)
    · exact .ifF (.tst ((Ev.isiT (t := "str") (.var rfl) rfl).cast rfl)) (.var rfl)
/-! ### papers -/
def paperR (cl : ClT) (q : DSp) : DS := (dSeq (dSetF cl "word" (dVar 1) (dVar 0)) (dSetF cl "parts" (dCall q X0 (dCons (dVar 2) dNil)) (dVar 0)))
def sp_paper (cl : ClT) (d : Nat) : DSp := fun xs G R _ => ∃ a C w ps, xs = [.ref a, .str w, .tup ps] ∧ G a = some (.ins C [] []) ∧ hasF cl C "word" = true ∧ hasF cl C "parts" = true ∧ FxOk d (.tup ps) ∧ R .non (gup G a (.ins C ["word", "parts"] [.str w, .tup (ps.map fixD)]))
theorem fix_tup (ps : List D) : fixD (.tup ps) = .tup (ps.map fixD) := by
  unfold fixD
  rw [fixL_map]
theorem paper_ok {cl : ClT} {d : Nat} (xs : List D) (G : Gm) (R : KD) (RX : XD) (h : sp_paper cl d xs G R RX) : paperR cl (sp_fixedN d) { nx := fun _ G => R .non G, rt := R } (xs.map some ++ List.replicate (3 - xs.length) none) G := by
  obtain ⟨a, C, w, ps, rfl, hg, hw, hp, hf, h⟩ := h
  refine ds_setF (z := .str w) (.var rfl) (.var rfl) hg hw (by simp) rfl (by decide) ?_
  refine ds_setF (z := .tup (ps.map fixD)) (.call (.one (.var rfl)) fun R r => ⟨.tup ps, rfl, hf, by rw [fix_tup]; exact r⟩) (.var rfl) gup_same hp (by decide +kernel) rfl (by decide) ?_
  rw [gup_gup]
  exact h
/-- a paper of one part -/
def paper1R (cl : ClT) (q : DSp) (C w f : Str) : DS := (dSup C (starOf 2 q) X0 (dCons (dC (.str w)) (dCons (dVar 1) dNil)) (dSetF cl f (dIx (dFld cl "parts" (dVar 0)) (dC (.int 0))) (dVar 0)))
def sp_paper1 (d : Nat) (C w f : Str) : DSp := fun xs G R _ => ∃ a v, xs = [.ref a, v] ∧ G a = some (.ins C [] []) ∧ FxOk d v ∧ R .non (gup G a (.ins C ["word", "parts", f] [.str w, .tup [fixD v], fixD v]))
theorem parts_at {x y : D} {ns : List Str} {xs : List D} : ((("word" : Str) :: "parts" :: ns).zip (x :: y :: xs)).lookup ("parts" : Str) = some y := by
  rw [List.zip_cons_cons, List.zip_cons_cons, List.lookup_cons, List.lookup_cons]
  rw [show (("parts" : Str) == "word") = false by decide +kernel, show (("parts" : Str) == "parts") = true by decide +kernel]
theorem paper1_ok {cl : ClT} {d : Nat} {C w f : Str} (hw : hasF cl C "word" = true) (hp : hasF cl C "parts" = true) (hf : hasF cl C f = true) (hn : f ∉ (["word", "parts"] : List Str)) (xs : List D) (G : Gm) (R : KD) (RX : XD) (h : sp_paper1 d C w f xs G R RX) :
    paper1R cl (sp_paper cl (d + 1)) C w f { nx := fun _ G => R .non G, rt := R } (xs.map some ++ List.replicate (2 - xs.length) none) G := by
  obtain ⟨a, v, rfl, hg, hv, h⟩ := h
  refine ⟨a, [], [], rfl, hg, v, rfl, [.ref a, .str w], [v], rfl, rfl, (show 1 ≤ sizeLine by decide), a, C, w, [v], rfl, hg, hw, hp, .inl ⟨[v], .inr rfl, (show 1 ≤ sizeLine by decide), fun y hy => by rw [List.mem_singleton.mp hy]; exact hv⟩, ?_⟩
  refine ds_setF (z := fixD v) (.at (.fld (.var rfl) (ins_ref gup_same) hp parts_at) .c seq_tup rfl) (.var rfl) gup_same hf hn rfl (by decide) ?_
  rw [gup_gup]
  exact h
/-- a paper of two parts -/
def paper2R (cl : ClT) (q : DSp) (C w f g : Str) : DS := (dSup C (starOf 2 q) X0 (dCons (dC (.str w)) (dCons (dVar 1) (dCons (dVar 2) dNil))) (dAsg (dFld cl "parts" (dVar 0)) (gSeq 2 (gCons (gF cl f (dVar 0)) (gCons (gF cl g (dVar 0)) gNil)))))
def sp_paper2 (d : Nat) (C w f g : Str) : DSp := fun xs G R _ => ∃ a u v, xs = [.ref a, u, v] ∧ G a = some (.ins C [] []) ∧ FxOk d u ∧ FxOk d v ∧ R .non (gup G a (.ins C ["word", "parts", f, g] [.str w, .tup [fixD u, fixD v], fixD u, fixD v]))
theorem paper2_ok {cl : ClT} {d : Nat} {C w f g : Str} (hw : hasF cl C "word" = true) (hp : hasF cl C "parts" = true) (hf : hasF cl C f = true) (hgg : hasF cl C g = true) (hn : f ∉ (["word", "parts"] : List Str)) (hn2 : g ∉ (["word", "parts", f] : List Str)) (xs : List D) (G : Gm) (R : KD) (RX : XD) (h : sp_paper2 d C w f g xs G R RX) :
    paper2R cl (sp_paper cl (d + 1)) C w f g { nx := fun _ G => R .non G, rt := R } (xs.map some ++ List.replicate (3 - xs.length) none) G := by
  obtain ⟨a, u, v, rfl, hg, hu, hv, h⟩ := h
  refine ⟨a, [], [], rfl, hg, u, rfl, v, rfl, [.ref a, .str w], [u, v], rfl, rfl, (show 2 ≤ sizeLine by decide), a, C, w, [u, v], rfl, hg, hw, hp, .inl ⟨[u, v], .inr rfl, (show 2 ≤ sizeLine by decide), fun y hy => ?_⟩, ?_⟩
  · simp only [List.mem_cons, List.mem_nil_iff, or_false] at hy
    rcases hy with rfl | rfl
    · exact hu
    · exact hv
  refine ds_asg (.fld (.var rfl) (ins_ref gup_same) hp parts_at) ⟨[fixD u, fixD v], seq_tup, rfl, _, _, rfl, ?_⟩
  refine gf_new (.var rfl) gup_same hf hn rfl (by decide) ⟨_, _, rfl, ?_⟩
  refine gf_new (.var rfl) gup_same hgg hn2 rfl (show 3 < 1000 by decide) ⟨rfl, ?_⟩
  rw [gup_gup, gup_gup]
  exact h
theorem Ev.make1 {ρ : En} {G : Gm} {dA : DA} {v : D} {d : Nat} {C w f : Str} (ha : EvA dA ρ G [v]) (hv : FxOk d v) : Ev (dMake C (sp_paper1 d C w f) X0 dA) ρ G (.ins C ["word", "parts", f] [.str w, .tup [fixD v], fixD v]) := fun R r => ha _ fun a hn => ⟨a, v, rfl, gup_same, hv, rfl, _, _, gup_same, by rw [gup_gup, gdel_gup hn]; exact r⟩
theorem Ev.make2 {ρ : En} {G : Gm} {dA : DA} {u v : D} {d : Nat} {C w f g : Str} (ha : EvA dA ρ G [u, v]) (hu : FxOk d u) (hv : FxOk d v) : Ev (dMake C (sp_paper2 d C w f g) X0 dA) ρ G (.ins C ["word", "parts", f, g] [.str w, .tup [fixD u, fixD v], fixD u, fixD v]) := fun R r => ha _ fun a hn => ⟨a, u, v, rfl, gup_same, hu, hv, rfl, _, _, gup_same, by rw [gup_gup, gdel_gup hn]; exact r⟩
end DL

/-! DL47: programs of two boxes: lines, stands, courses. -/
namespace DL
open PySem PySem.Spec PyProof.Rows L2 Evl Sup
/-! ### the plain law -/
inductive Ln where
  | up (b g : Nat) | down (b g : Nat) | test (b g h : Nat) | stop
def Ln.its : Ln → List D
  | .up b g => [.str "up", .int b, .int g]
  | .down b g => [.str "down", .int b, .int g]
  | .test b g h => [.str "test", .int b, .int g, .int h]
  | .stop => [.str "stop"]
def Ln.d (l : Ln) : D := .tup l.its
def Ln.ok (n : Nat) : Ln → Prop
  | .up b g => b < 2 ∧ g < n
  | .down b g => b < 2 ∧ g < n
  | .test b g h => b < 2 ∧ g < n ∧ h < n
  | .stop => True
abbrev Bx := Option Nat
def bxD : Bx → D
  | none => .non
  | some n => .int n
structure Sd where
  l : Nat
  x : Bx
  y : Bx
def Sd.d (s : Sd) : D := .tup [.int s.l, bxD s.x, bxD s.y]
def sel (b : Nat) (x y : Bx) : Bx := if b = 0 then x else y
def nextL (ln : Ln) (x y : Bx) : Option Sd := match ln with
  | .stop => none
  | .up b g => some (if b = 0 then ⟨g, x.map (· + 1), y⟩ else ⟨g, x, y.map (· + 1)⟩)
  | .down b g => if sel b x y = some 0 then none else some (if b = 0 then ⟨g, x.map (· - 1), y⟩ else ⟨g, x, y.map (· - 1)⟩)
  | .test b g h => some ⟨if sel b x y = some 0 then g else h, x, y⟩
def nextO (ls : List Ln) (s : Sd) : Option Sd := (ls[s.l]?).bind fun ln => nextL ln s.x s.y
def optD : Option Sd → D
  | none => .non
  | some s => s.d
def LsOk (ls : List Ln) : Prop := 1 ≤ ls.length ∧ ls.length ≤ 15 ∧ ∀ ln ∈ ls, ln.ok ls.length
def progD (ls : List Ln) : D := .ins "Program" ["lines"] [.tup (ls.map Ln.d)]
def courseN (ls : List Ln) : Sd → Nat → List Sd
  | s, 0 => [s]
  | s, n + 1 => match nextO ls s with
    | none => [s]
    | some t => s :: courseN ls t n
theorem course_succ {ls : List Ln} {s : Sd} {n : Nat} : courseN ls s (n + 1) = match nextO ls s with
  | none => [s]
  | some t => s :: courseN ls t n := rfl
theorem nextL_l {ln : Ln} {n : Nat} (h : ln.ok n) {x y : Bx} {t : Sd} (e : nextL ln x y = some t) : t.l < n := by
  cases ln with
  | stop => cases e
  | up b g =>
    cases Option.some.inj e
    split <;> exact h.2
  | down b g =>
    unfold nextL at e
    dsimp only at e
    split at e
    · cases e
    · cases Option.some.inj e
      split <;> exact h.2
  | test b g k =>
    cases Option.some.inj e
    show (if _ then g else k) < n
    split
    · exact h.2.1
    · exact h.2.2
theorem nextO_l {ls : List Ln} (h : LsOk ls) {s t : Sd} (e : nextO ls s = some t) : t.l < ls.length := by
  unfold nextO at e
  cases q : ls[s.l]? with
  | none =>
    rw [q] at e
    cases e
  | some ln =>
    rw [q] at e
    exact nextL_l (h.2.2 ln (List.mem_of_getElem? q)) e
theorem course_len {ls : List Ln} : ∀ {n : Nat} {s : Sd}, (courseN ls s n).length ≤ n + 1
  | 0, s => Nat.le_refl _
  | n + 1, s => by
    unfold courseN
    split
    · exact Nat.succ_le_succ (Nat.zero_le _)
    · rw [List.length_cons]
      exact Nat.succ_le_succ course_len
theorem course_ne {ls : List Ln} {n : Nat} {s : Sd} : courseN ls s n ≠ [] := by
  cases n with
  | zero => exact fun h => nomatch h
  | succ n =>
    unfold courseN
    split <;> exact fun h => nomatch h
theorem course_ok {ls : List Ln} (h : LsOk ls) : ∀ {n : Nat} {s : Sd}, s.l < ls.length → ∀ t ∈ courseN ls s n, t.l < ls.length
  | 0, s, hs, t, ht => by
    cases List.mem_singleton.mp ht
    exact hs
  | n + 1, s, hs, t, ht => by
    unfold courseN at ht
    cases q : nextO ls s with
    | none =>
      rw [q] at ht
      cases List.mem_singleton.mp ht
      exact hs
    | some u =>
      rw [q] at ht
      rcases List.mem_cons.mp ht with e | e
      · rw [e]
        exact hs
      · exact course_ok h (nextO_l h q) t e
variable [TabC]
/-! ### readings -/
section
variable {ρ : En} {G : Gm} {da db dv dobj : DE} {dA : DA} {x y z : D} {xs ys : List D}
theorem Ev.slF {i : Int} (ha : Ev da ρ G x) (hb : Ev db ρ G (.int i)) (h : fSl G x (some i) none z) : Ev (dSl da (dPart db) dNoP) ρ G z := fun R r => ha _ (hb _ ⟨i, rfl, z, h, r⟩)
theorem Ev.eqS {i j : Str} (ha : Ev da ρ G (.str i)) (hb : Ev db ρ G (.str j)) : Ev (dOp fEq da db) ρ G (.bl (decide (i = j))) := .op ha hb rfl
theorem Ev.inK {kvs : KvT} {neg : Bool} {s : Str} (ha : Ev da ρ G (.str s)) : Ev (dInK kvs neg da) ρ G (.bl (neg != (kvs.lookup s).isSome)) := fun R r => ha _ ⟨s, rfl, r⟩
theorem Ev.ixK {kvs : KvT} {s : Str} {i : Int} (ha : Ev da ρ G (.str s)) (h : kvs.lookup s = some i) : Ev (dIxK kvs da) ρ G (.int i) := fun R r => ha _ ⟨s, i, rfl, h, r⟩
theorem Ev.eqB0 {b : Bx} (ha : Ev da ρ G (bxD b)) (hb : Ev db ρ G (.int 0)) : Ev (dOp fEq da db) ρ G (.bl (decide (b = some 0))) := by
  cases b with
  | none => exact .op ha hb ⟨⟨rfl, by decide⟩, ⟨rfl, by decide⟩, by rfl⟩
  | some n =>
    refine (Ev.eqI ha hb).cast ?_
    congr 1
    exact decide_eq_decide.mpr ⟨fun h => congrArg some (by omega), fun h => by have := Option.some.inj h; omega⟩
end
def kvEnds : KvT := [("up", 1), ("down", 1), ("test", 2)]
def isLineR : DS := (dSeq (dIfS (dOr (dNot (dTst (dCall sp_is_list X0 (dCons (dVar 0) dNil)))) (dOr (dTst (dOp fEq (dCal fLen (dCons (dVar 0) dNil)) (dC (.int 0)))) (dNot (dTst (dCal (fIsi "str") (dCons (dIx (dVar 0) (dC (.int 0))) (dCons (dC (.ty "str")) dNil))))))) (dRet (dC (.bl false))) dNext) (dSeq (dIfS (dTst (dOp fEq (dIx (dVar 0) (dC (.int 0))) (dC (.str "stop")))) (dRet (dOp fEq (dCal fLen (dCons (dVar 0) dNil)) (dC (.int 1)))) dNext) (dSeq (dIfS (dOr (dTst (dInK kvEnds true (dIx (dVar 0) (dC (.int 0))))) (dOr (dTst (dOp fNe (dCal fLen (dCons (dVar 0) dNil)) (dOp fAdd (dIxK kvEnds (dIx (dVar 0) (dC (.int 0)))) (dC (.int 2))))) (dNot (dTst (dCall sp_is_within X0 (dCons (dIx (dVar 0) (dC (.int 1))) (dCons (dC (.int 0)) (dCons (dC (.int 1)) dNil)))))))) (dRet (dC (.bl false))) dNext) (dRet (dCal fAll (dCons (dCmp (dISeq (dSl (dVar 0) (dPart (dC (.int 2))) dNoP)) (gN 2) dYes (dCall sp_is_within X0 (dCons (dVar 2) (dCons (dC (.int 0)) (dCons (dOp (fInt fun i j => .int (i - j)) (dVar 1) (dC (.int 1))) dNil)))) [2]) dNil))))))
def sp_is_line : DSp := fun xs G R _ => ∃ (x : D) (ln : Ln) (n : Nat), xs = [x, .int n] ∧ (x = .lst ln.its ∨ x = .tup ln.its) ∧ ln.ok n ∧ R (.bl true) G
theorem within_nat {g n : Nat} (h : g < n) : withinD (.int g) (some 0) (some ((n : Int) - 1)) = true := by
  simp [withinD, leO, geO]
  omega
theorem within_box {b : Nat} (h : b < 2) : withinD (.int b) (some 0) (some 1) = true := by
  simp [withinD, leO, geO]
  omega
theorem cut2 {a b : D} {gs : List D} : cutD (a :: b :: gs) (some 2) none = gs := by
  have e1 : HT.sIx (a :: b :: gs).length 0 (some 2) = 2 := by
    rw [show HT.sIx (a :: b :: gs).length 0 (some 2) = min 2 (a :: b :: gs).length from HT.sIx_nat _ _ 2, List.length_cons, List.length_cons]
    omega
  unfold cutD
  rw [e1]
  show List.take ((a :: b :: gs).length - 2) gs = gs
  rw [List.length_cons, List.length_cons, List.take_of_length_le (by omega)]
theorem its_cases (ln : Ln) : ln = .stop ∨ ∃ (w : Str) (b : Nat) (gs : List Nat), ln.its = .str w :: .int b :: gs.map (fun g : Nat => D.int g) ∧ w ≠ "stop" ∧ kvEnds.lookup w = some (gs.length : Int) ∧ gs.length ≤ 2 ∧ ∀ n, ln.ok n → b < 2 ∧ ∀ g ∈ gs, g < n := by
  cases ln with
  | stop => exact .inl rfl
  | up b g => exact .inr ⟨"up", b, [g], rfl, by decide +kernel, (show kvEnds.lookup ("up" : Str) = some 1 by decide +kernel), (show 1 ≤ 2 by decide), fun n h => ⟨h.1, fun k hk => by rw [List.mem_singleton.mp hk]; exact h.2⟩⟩
  | down b g => exact .inr ⟨"down", b, [g], rfl, by decide +kernel, (show kvEnds.lookup ("down" : Str) = some 1 by decide +kernel), (show 1 ≤ 2 by decide), fun n h => ⟨h.1, fun k hk => by rw [List.mem_singleton.mp hk]; exact h.2⟩⟩
  | test b g k => exact .inr ⟨"test", b, [g, k], rfl, by decide +kernel, (show kvEnds.lookup ("test" : Str) = some 2 by decide +kernel), (show 2 ≤ 2 by decide), fun n h => ⟨h.1, fun j hj => by
      simp only [List.mem_cons, List.mem_nil_iff, or_false] at hj
      rcases hj with rfl | rfl
      · exact h.2.1
      · exact h.2.2⟩⟩
theorem is_line_ok (xs : List D) (G : Gm) (R : KD) (RX : XD) (h : sp_is_line xs G R RX) : isLineR { nx := fun _ G => R .non G, rt := R } (xs.map some ++ List.replicate (3 - xs.length) none) G := by
  obtain ⟨x, ln, n, rfl, hx, ho, h⟩ := h
  have hs : SeqAt G x ln.its := by
    rcases hx with rfl | rfl
    · exact seq_lst
    · exact seq_tup
  have hk : x.kn = true := by
    rcases hx with rfl | rfl <;> cases ln <;> rfl
  have hq : isSeqD x = true := by rcases hx with rfl | rfl <;> rfl
  rcases its_cases ln with rfl | ⟨w, b, gs, hi, hw, hv, hg, hn⟩
  · have e0 : ∀ {ρ : En} {da : DE}, Ev da ρ G x → Ev (dIx da (dC (.int 0))) ρ G (.str "stop") := fun ha => .at ha .c hs rfl
    refine ds_if (k := false) (.orF ((EvT.not (.tst (.isList (.var rfl) hk))).cast (by rw [hq]; rfl)) (.orF (.tst ((Ev.eqI (.len (.var rfl) hs) .c).cast rfl)) ((EvT.not (.tst (.isi (t := "str") (e0 (.var rfl)) rfl))).cast rfl))) ?_
    dsimp only
    refine to_next ?_
    refine ds_if (k := true) (.tst ((Ev.eqS (e0 (.var rfl)) .c).cast (by rw [decide_eq_true rfl]))) ?_
    exact ds_ret ((Ev.eqI (.len (.var rfl) hs) .c).cast rfl) h
  · obtain ⟨hb, hgs⟩ := hn n ho
    rw [hi] at hs hx
    have ne0 : ¬ (((D.str w :: D.int b :: gs.map fun g : Nat => D.int g).length : Int) = 0) := by
      rw [List.length_cons]
      omega
    have e0 : ∀ {ρ : En} {da : DE}, Ev da ρ G x → Ev (dIx da (dC (.int 0))) ρ G (.str w) := fun ha => .at ha .c hs (L2.atI_nat (j := 0) rfl)
    refine ds_if (k := false) (.orF ((EvT.not (.tst (.isList (.var rfl) hk))).cast (by rw [hq]; rfl)) (.orF (.tst ((Ev.eqI (.len (.var rfl) hs) .c).cast (by rw [decide_eq_false ne0]))) ((EvT.not (.tst (.isi (t := "str") (e0 (.var rfl)) rfl))).cast rfl))) ?_
    dsimp only
    refine to_next ?_
    refine ds_if (k := false) (.tst ((Ev.eqS (e0 (.var rfl)) .c).cast (by rw [decide_eq_false hw]))) ?_
    dsimp only
    refine to_next ?_
    refine ds_if (k := false) (.orF (.tst ((Ev.inK (e0 (.var rfl))).cast (by rw [hv]; rfl))) (.orF (.tst ((Ev.neI (.len (.var rfl) hs) (.add (.ixK (e0 (.var rfl)) hv) .c)).cast (by rw [decide_eq_true (by rw [List.length_cons, List.length_cons, List.length_map]; omega)]; rfl))) ((EvT.not (.tst (.isWithin (.at (.var rfl) .c hs (L2.atI_nat (j := 1) rfl)) .c .c rfl rfl rfl))).cast (by rw [within_box hb]; rfl)))) ?_
    dsimp only
    refine to_next ?_
    have all : ∀ {z : D} {d : DE}, Ev d [some x, some (.int n), none] G z → (z = .lst (gs.map fun g : Nat => D.int g) ∨ z = .tup (gs.map fun g : Nat => D.int g)) → Ev (dCmp (dISeq d) (gN 2) dYes (dCall sp_is_within X0 (dCons (dVar 2) (dCons (dC (.int 0)) (dCons (dOp (fInt fun i j => .int (i - j)) (dVar 1) (dC (.int 1))) dNil)))) [2]) [some x, some (.int n), none] G (.lst ((gs.map fun _ => true).map D.bl)) := fun ha hz => by
      refine (Ev.lcSeq (fun y => .bl (withinD y (some 0) (some ((n : Int) - 1)))) ha hz (fun y hy => ?_) (by rw [List.length_map]; exact Nat.le_trans hg (by show 2 ≤ sizeLine; decide))).cast ?_
      · obtain ⟨g, _, rfl⟩ := List.mem_map.mp hy
        exact .isWithin (.var rfl) .c (.sub (.var rfl) .c) rfl rfl rfl
      · rw [List.map_map, List.map_map]
        congr 1
        exact List.map_congr_left fun g hgm => by
          show D.bl (withinD (.int g) (some 0) (some ((n : Int) - 1))) = D.bl true
          rw [within_nat (hgs g hgm)]
    have fin : (gs.map fun _ => true).all id = true := by rw [List.all_map]; exact List.all_eq_true.mpr fun _ _ => rfl
    rcases hx with rfl | rfl
    · exact ds_ret ((Ev.all (all (.slF (.var rfl) .c (.inl ⟨_, lst_lst, by rw [cut2]⟩)) (.inl rfl))).cast (by rw [fin])) h
    · exact ds_ret ((Ev.all (all (.slF (.var rfl) .c (.inr ⟨_, rfl, by rw [cut2], fun z => by
        have := z.1
        rw [show HT.sIx (D.str w :: D.int b :: gs.map fun g : Nat => D.int g).length 0 (some 2) = min 2 (gs.length + 2) by rw [List.length_cons, List.length_cons, List.length_map]; exact HT.sIx_nat _ _ 2] at this
        omega⟩)) (.inr rfl))).cast (by rw [fin])) h
/-! ### a program made -/
def progR (cl : ClT) (q : DSp) : DS := (dSeq (dIfS (dOr (dNot (dTst (dCall sp_is_list X0 (dCons (dVar 1) dNil)))) (dNot (dTst (dChain (fInt gLe) (fInt gLe) (dC (.int 1)) (dCal fLen (dCons (dVar 1) dNil)) (dC (.int 15)))))) dNever dNext) (dSeq (dIfS (dNot (dTst (dCal fAll (dCons (dCmp (dISeq (dVar 1)) (gN 2) dYes (dCall q X0 (dCons (dVar 2) (dCons (dCal fLen (dCons (dVar 1) dNil)) dNil))) [2]) dNil)))) dNever dNext) (dSetF cl "lines" (dCal fTupOf (dCons (dCmp (dISeq (dVar 1)) (gN 2) dYes (dCal fTupOf (dCons (dVar 2) dNil)) [2]) dNil)) (dVar 0))))
def sp_prog : DSp := fun xs G R _ => ∃ a x ls, xs = [.ref a, x] ∧ (x = .lst (ls.map Ln.d) ∨ x = .tup (ls.map Ln.d)) ∧ LsOk ls ∧ G a = some (.ins "Program" [] []) ∧ R .non (gup G a (.ins "Program" ["lines"] [.tup (ls.map Ln.d)]))
theorem Ln.kn (l : Ln) : l.d.kn = true := by cases l <;> rfl
theorem knL_map (ls : List Ln) : D.knL (ls.map Ln.d) = true := by
  induction ls with
  | nil => rfl
  | cons l ls ih =>
    show (l.d.kn && D.knL (ls.map Ln.d)) = true
    rw [l.kn, ih]
    rfl
theorem prog_ok {cl : ClT} (hf : hasF cl "Program" "lines" = true) (xs : List D) (G : Gm) (R : KD) (RX : XD) (h : sp_prog xs G R RX) : progR cl sp_is_line { nx := fun _ G => R .non G, rt := R } (xs.map some ++ List.replicate (3 - xs.length) none) G := by
  obtain ⟨a, x, ls, rfl, hx, ⟨l1, l2, lo⟩, hg, h⟩ := h
  have hs : SeqAt G x (ls.map Ln.d) := by
    rcases hx with rfl | rfl
    · exact seq_lst
    · exact seq_tup
  have hk : x.kn = true := by
    rcases hx with rfl | rfl
    · exact knL_map ls
    · exact knL_map ls
  have hq : isSeqD x = true := by rcases hx with rfl | rfl <;> rfl
  have sz : (ls.map Ln.d).length ≤ sizeLine := by rw [List.length_map]; exact Nat.le_trans l2 (by show 15 ≤ sizeLine; decide)
  have len : ∀ {ρ : En} {da : DE}, Ev da ρ G x → Ev (dCal fLen (dCons da dNil)) ρ G (.int ls.length) := fun ha => (Ev.len ha hs).cast (by rw [List.length_map])
  refine ds_if (k := false) (.orF ((EvT.not (.tst (.isList (.var rfl) hk))).cast (by rw [hq]; rfl)) ((EvT.not (.tst (.chain .c (len (.var rfl)) .c))).cast (by rw [decide_eq_true (by omega), decide_eq_true (by omega)]; rfl))) ?_
  dsimp only
  refine to_next ?_
  have lns : Ev (dCmp (dISeq (dVar 1)) (gN 2) dYes (dCall sp_is_line X0 (dCons (dVar 2) (dCons (dCal fLen (dCons (dVar 1) dNil)) dNil))) [2]) [some (.ref a), some x, none] G (.lst ((ls.map fun _ => true).map D.bl)) := by
    refine (Ev.lcSeq (fun _ => .bl true) (.var rfl) hx (fun y hy => ?_) sz).cast ?_
    · obtain ⟨ln, hm, rfl⟩ := List.mem_map.mp hy
      exact .call (.cons (.var rfl) (.one (len (.var rfl)))) fun R r => ⟨ln.d, ln, ls.length, rfl, .inr rfl, lo ln hm, r⟩
    · rw [List.map_map, List.map_map]
      rfl
  refine ds_if (k := false) ((EvT.not (.tst ((Ev.all lns).cast (by rw [show (ls.map fun _ => true).all id = true by rw [List.all_map]; exact List.all_eq_true.mpr fun _ _ => rfl])))).cast rfl) ?_
  dsimp only
  refine to_next ?_
  have tps : Ev (dCmp (dISeq (dVar 1)) (gN 2) dYes (dCal fTupOf (dCons (dVar 2) dNil)) [2]) [some (.ref a), some x, none] G (.lst (ls.map Ln.d)) := by
    refine (Ev.lcSeq id (.var rfl) hx (fun y hy => ?_) sz).cast (by rw [List.map_id])
    obtain ⟨ln, hm, rfl⟩ := List.mem_map.mp hy
    exact .tupOf (.var rfl) seq_tup
  refine ds_setF (.tupOf tps seq_lst) (.var rfl) hg hf (fun h => nomatch h) rfl (by decide) h
theorem Ev.makeP {ρ : En} {G : Gm} {dA : DA} {x : D} {ls : List Ln} (ha : EvA dA ρ G [x]) (hx : x = .lst (ls.map Ln.d) ∨ x = .tup (ls.map Ln.d)) (ho : LsOk ls) : Ev (dMake "Program" sp_prog X0 dA) ρ G (progD ls) := fun R r => ha _ fun a hn => ⟨a, x, ls, rfl, hx, ho, gup_same, rfl, _, _, gup_same, by rw [gup_gup, gdel_gup hn]; exact r⟩
/-! ### stands -/
def sp_need_program : DSp := fun xs G R _ => ∃ ls y, xs = [progD ls, y] ∧ R .non G
theorem need_program_ok {cl : ClT} {sub : Str → Str → Bool} (hc : hasC cl "Program" = true) (hs : sub "Program" "Program" = true) (xs : List D) (G : Gm) (R : KD) (RX : XD) (h : sp_need_program xs G R RX) : dIfS (dNot (dTst (dIsW cl sub "Program" (dVar 0)))) dNever dNext { nx := fun _ G => R .non G, rt := R } (xs.map some ++ List.replicate (2 - xs.length) none) G := by
  obtain ⟨ls, y, rfl, h⟩ := h
  refine ds_if (k := false) ((EvT.not (.tst (.isW (b := true) (.var rfl) (by show (if hasC cl "Program" = true then some (sub "Program" "Program") else none) = some true; rw [if_pos hc, hs])))).cast rfl) ?_
  exact h
theorem bx_kn (b : Bx) : (bxD b).kn = true := by cases b <;> rfl
def sp_is_contents : DSp := fun xs G R _ => ∃ b : Bx, xs = [bxD b] ∧ R (.bl true) G
theorem is_contents_ok (xs : List D) (G : Gm) (R : KD) (RX : XD) (h : sp_is_contents xs G R RX) : dRet (dOrV (dIsN (dVar 0)) (dCall sp_is_within X0 (dCons (dVar 0) (dCons (dC (.int 0)) (dCons (dC .non) dNil))))) { nx := fun _ G => R .non G, rt := R } (xs.map some ++ List.replicate (1 - xs.length) none) G := by
  obtain ⟨b, rfl, h⟩ := h
  cases b with
  | none => exact ds_ret (.orT ((Ev.isN (x := .non) (.var rfl)).cast rfl)) h
  | some n =>
    refine ds_ret (.orF ((Ev.isN (x := .int (n : Int)) (.var rfl)).cast rfl) (.isWithin (.var rfl) .c .c rfl rfl rfl)) ?_
    rw [show withinD (bxD (some n)) (some 0) none = true by simp [bxD, withinD, leO, geO]]
    exact h
def needStandR (cl : ClT) : DS := (dSeq (dIfS (dOr (dNot (dTst (dCall sp_is_list X0 (dCons (dVar 1) dNil)))) (dOr (dTst (dOp fNe (dCal fLen (dCons (dVar 1) dNil)) (dC (.int 3)))) (dNot (dTst (dCall sp_is_within X0 (dCons (dIx (dVar 1) (dC (.int 0))) (dCons (dC (.int 0)) (dCons (dOp (fInt fun i j => .int (i - j)) (dCal fLen (dCons (dFld cl "lines" (dVar 0)) dNil)) (dC (.int 1))) dNil)))))))) dNever dNext) (dSeq (dIfS (dOr (dNot (dTst (dCall sp_is_contents X0 (dCons (dIx (dVar 1) (dC (.int 1))) dNil)))) (dNot (dTst (dCall sp_is_contents X0 (dCons (dIx (dVar 1) (dC (.int 2))) dNil))))) dNever dNext) (dRet (dCal fTupOf (dCons (dVar 1) dNil)))))
def sp_need_stand : DSp := fun xs G R _ => ∃ (ls : List Ln) (x : D) (s : Sd), xs = [progD ls, x] ∧ (x = .lst [.int s.l, bxD s.x, bxD s.y] ∨ x = .tup [.int s.l, bxD s.x, bxD s.y]) ∧ s.l < ls.length ∧ R s.d G
theorem prog_lines {ls : List Ln} : ((["lines"] : List Str).zip [D.tup (ls.map Ln.d)]).lookup ("lines" : Str) = some (.tup (ls.map Ln.d)) := by
  rw [List.zip_cons_cons, List.lookup_cons, show (("lines" : Str) == "lines") = true by decide +kernel]
theorem Ev.lines {cl : ClT} {ρ : En} {G : Gm} {da : DE} {ls : List Ln} (hf : hasF cl "Program" "lines" = true) (ha : Ev da ρ G (progD ls)) : Ev (dFld cl "lines" da) ρ G (.tup (ls.map Ln.d)) := .fld ha ins_ins hf prog_lines
theorem need_stand_ok {cl : ClT} (hf : hasF cl "Program" "lines" = true) (xs : List D) (G : Gm) (R : KD) (RX : XD) (h : sp_need_stand xs G R RX) : needStandR cl { nx := fun _ G => R .non G, rt := R } (xs.map some ++ List.replicate (2 - xs.length) none) G := by
  obtain ⟨ls, x, s, rfl, hx, hl, h⟩ := h
  have hs : SeqAt G x [.int s.l, bxD s.x, bxD s.y] := by
    rcases hx with rfl | rfl
    · exact seq_lst
    · exact seq_tup
  have hk : x.kn = true := by
    have k : D.knL [.int s.l, bxD s.x, bxD s.y] = true := by
      show ((D.int s.l).kn && ((bxD s.x).kn && ((bxD s.y).kn && true))) = true
      rw [bx_kn, bx_kn]
      rfl
    rcases hx with rfl | rfl <;> exact k
  have hq : isSeqD x = true := by rcases hx with rfl | rfl <;> rfl
  refine ds_if (k := false) (.orF ((EvT.not (.tst (.isList (.var rfl) hk))).cast (by rw [hq]; rfl)) (.orF (.tst ((Ev.neI (.len (.var rfl) hs) .c).cast rfl)) ((EvT.not (.tst (.isWithin (.at (.var rfl) .c hs rfl) .c (.sub (.len (Ev.lines (ls := ls) hf (.var rfl)) seq_tup) .c) rfl rfl rfl))).cast (by rw [List.length_map, within_nat hl]; rfl)))) ?_
  dsimp only
  refine to_next ?_
  refine ds_if (k := false) (.orF ((EvT.not (.tst (.call (z := .bl true) (.one (.at (.var rfl) .c hs rfl)) fun R r => ⟨s.x, rfl, r⟩))).cast rfl) ((EvT.not (.tst (.call (z := .bl true) (.one (.at (.var rfl) .c hs rfl)) fun R r => ⟨s.y, rfl, r⟩))).cast rfl)) ?_
  dsimp only
  refine to_next ?_
  exact ds_ret (.tupOf (.var rfl) hs) h
def chgB (w : Str) (b : Bx) : Bx := if w = "up" then b.map (· + 1) else if w = "down" then b.map (· - 1) else b
def changedR : DS := (dSeq (dIfS (dTst (dIsN (dVar 0))) (dRet (dC .non)) dNext) (dRet (dOp (fInt fun i j => .int (i - j)) (dOp fAdd (dVar 0) (dCal fIntOf (dCons (dOp fEq (dVar 1) (dC (.str "up"))) dNil))) (dCal fIntOf (dCons (dOp fEq (dVar 1) (dC (.str "down"))) dNil)))))
def sp_changed : DSp := fun xs G R _ => ∃ (b : Bx) (w : Str), xs = [bxD b, .str w] ∧ (w = "down" → b ≠ some 0) ∧ R (bxD (chgB w b)) G
theorem changed_ok (xs : List D) (G : Gm) (R : KD) (RX : XD) (h : sp_changed xs G R RX) : changedR { nx := fun _ G => R .non G, rt := R } (xs.map some ++ List.replicate (2 - xs.length) none) G := by
  obtain ⟨b, w, rfl, hd, h⟩ := h
  cases b with
  | none =>
    refine ds_if (k := true) (.tst ((Ev.isN (x := .non) (.var rfl)).cast rfl)) ?_
    refine ds_ret .c ?_
    have e : chgB w none = none := by
      unfold chgB
      split
      · rfl
      · split <;> rfl
    rw [e] at h
    exact h
  | some n =>
    refine ds_if (k := false) (.tst ((Ev.isN (x := .int (n : Int)) (.var rfl)).cast rfl)) ?_
    dsimp only
    refine to_next ?_
    refine ds_ret (.sub (.add (i := (n : Int)) (.var rfl) (.intB (.eqS (.var rfl) .c))) (.intB (.eqS (.var rfl) .c))) ?_
    have ne : ¬ (("down" : Str) = "up") := by decide +kernel
    unfold chgB at h
    by_cases h1 : w = "up"
    · subst h1
      rw [if_pos rfl] at h
      rw [decide_eq_true rfl, decide_eq_false (fun z => ne z.symm)]
      exact h
    · rw [if_neg h1] at h
      rw [decide_eq_false h1]
      by_cases h2 : w = "down"
      · subst h2
        rw [if_pos rfl] at h
        rw [decide_eq_true rfl]
        have n0 : n ≠ 0 := fun z => hd rfl (by rw [z])
        have e : ((n : Int) + (if false = true then 1 else 0) - (if true = true then 1 else 0)) = ((n - 1 : Nat) : Int) := by
          simp
          omega
        rw [e]
        exact h
      · rw [if_neg h2] at h
        rw [decide_eq_false h2]
        have e : ((n : Int) + (if false = true then 1 else 0) - (if false = true then 1 else 0)) = (n : Int) := by simp
        rw [e]
        exact h
/-! ### the next stand -/
theorem its_next (ln : Ln) : ln = .stop ∨ ∃ (w : Str) (b g0 g1 : Nat) (gr : List D), ln.its = .str w :: .int b :: .int g0 :: gr ∧ (w = "test" → gr = [.int g1]) ∧ w ≠ "stop" ∧ (∀ n, ln.ok n → b < 2) ∧
    ∀ x y, nextL ln x y = if w = "down" ∧ sel b x y = some 0 then none else some (if b = 0 then ⟨if w ≠ "test" ∨ sel b x y = some 0 then g0 else g1, chgB w x, y⟩ else ⟨if w ≠ "test" ∨ sel b x y = some 0 then g0 else g1, x, chgB w y⟩) := by
  have n1 : ¬ (("up" : Str) = "down") := by decide +kernel
  have n2 : (("up" : Str) ≠ "test") := by decide +kernel
  have n3 : (("down" : Str) ≠ "test") := by decide +kernel
  have n4 : ¬ (("down" : Str) = "up") := by decide +kernel
  have n5 : ¬ (("test" : Str) = "up") := by decide +kernel
  have n6 : ¬ (("test" : Str) = "down") := by decide +kernel
  cases ln with
  | stop => exact .inl rfl
  | up b g =>
    refine .inr ⟨"up", b, g, 0, [], rfl, fun h => absurd h n2, by decide +kernel, fun n h => h.1, fun x y => ?_⟩
    rw [if_neg (fun h => n1 h.1), if_pos (Or.inl n2)]
    unfold nextL chgB
    rw [if_pos rfl, if_pos rfl]
  | down b g =>
    refine .inr ⟨"down", b, g, 0, [], rfl, fun h => absurd h n3, by decide +kernel, fun n h => h.1, fun x y => ?_⟩
    rw [if_pos (Or.inl n3)]
    unfold nextL chgB
    dsimp only
    rw [if_neg n4, if_neg n4, if_pos rfl, if_pos rfl]
    by_cases h : sel b x y = some 0
    · rw [if_pos h, if_pos ⟨rfl, h⟩]
    · rw [if_neg h]
      exact (if_neg fun z => h z.2).symm
  | test b g k =>
    refine .inr ⟨"test", b, g, k, [.int k], rfl, fun _ => rfl, by decide +kernel, fun n h => h.1, fun x y => ?_⟩
    rw [if_neg (fun h => n6 h.1)]
    unfold nextL chgB
    rw [if_neg n5, if_neg n5, if_neg n6, if_neg n6]
    have e : (if (("test" : Str) ≠ "test" ∨ sel b x y = some 0) then g else k) = if sel b x y = some 0 then g else k := by
      by_cases h : sel b x y = some 0
      · rw [if_pos (Or.inr h), if_pos h]
      · rw [if_neg (fun z => z.elim (fun z => z rfl) h), if_neg h]
    rw [e]
    by_cases hb : b = 0
    · rw [if_pos hb]
    · rw [if_neg hb]
theorem cut1 {a : D} {gs : List D} : cutD (a :: gs) (some 1) none = gs := by
  have e1 : HT.sIx (a :: gs).length 0 (some 1) = 1 := by
    rw [show HT.sIx (a :: gs).length 0 (some 1) = min 1 (a :: gs).length from HT.sIx_nat _ _ 1, List.length_cons]
    omega
  unfold cutD
  rw [e1]
  show List.take ((a :: gs).length - 1) gs = gs
  rw [List.length_cons, List.take_of_length_le (by omega)]
theorem sl_std {G : Gm} {s : Sd} : fSl G s.d (some 1) none (.tup [bxD s.x, bxD s.y]) := .inr ⟨_, rfl, by rw [cut1], fun z => by
  have := z.1
  rw [show HT.sIx [D.int s.l, bxD s.x, bxD s.y].length 0 (some 1) = min 1 3 from HT.sIx_nat _ _ 1] at this
  omega⟩
def nextR (cl : ClT) : DS := (dSeq (dSet 2 (dIx (dFld cl "lines" (dVar 0)) (dIx (dVar 1) (dC (.int 0))))) (dSeq (dIfS (dTst (dOp fEq (dIx (dVar 2) (dC (.int 0))) (dC (.str "stop")))) (dRet (dC .non)) dNext) (dSeq (dPar 3 4 (dCons (dLstOfM (dCons (dSl (dVar 1) (dPart (dC (.int 1))) dNoP) dNil)) (dCons (dIx (dVar 2) (dC (.int 1))) dNil))) (dSeq (dIfS (dAnd (dTst (dOp fEq (dIx (dVar 2) (dC (.int 0))) (dC (.str "down")))) (dTst (dOp fEq (dIx (dVar 3) (dVar 4)) (dC (.int 0))))) (dRet (dC .non)) dNext) (dSeq (dSet 5 (dIf (dOr (dTst (dOp fNe (dIx (dVar 2) (dC (.int 0))) (dC (.str "test")))) (dTst (dOp fEq (dIx (dVar 3) (dVar 4)) (dC (.int 0))))) (dIx (dVar 2) (dC (.int 2))) (dIx (dVar 2) (dC (.int 3))))) (dSeq (dSetIx (dCall sp_changed X0 (dCons (dIx (dVar 3) (dVar 4)) (dCons (dIx (dVar 2) (dC (.int 0))) dNil))) (dVar 3) (dVar 4)) (dRet (dTup (dCons (dVar 5) (dCons (dIx (dVar 3) (dC (.int 0))) (dCons (dIx (dVar 3) (dC (.int 1))) dNil)))))))))))
def sp_next : DSp := fun xs G R _ => ∃ ls s, xs = [progD ls, s.d] ∧ s.l < ls.length ∧ LsOk ls ∧ R (optD (nextO ls s)) G
theorem sel_at {b : Nat} {x y : Bx} (h : b < 2) : atI [bxD x, bxD y] (b : Int) = some (bxD (sel b x y)) := by
  refine L2.atI_nat ?_
  match b, h with
  | 0, _ => rfl
  | 1, _ => rfl
theorem next_ok {cl : ClT} (hf : hasF cl "Program" "lines" = true) (xs : List D) (G : Gm) (R : KD) (RX : XD) (h : sp_next xs G R RX) : dGcE (nextR cl) { nx := fun _ G => R .non G, rt := R } (xs.map some ++ List.replicate (6 - xs.length) none) G := by
  obtain ⟨ls, s, rfl, hl, ho, h⟩ := h
  have hln : ls[s.l]? = some ls[s.l] := List.getElem?_eq_getElem hl
  generalize ls[s.l] = ln at hln
  have lok := ho.2.2 ln (List.mem_of_getElem? hln)
  have en : nextO ls s = nextL ln s.x s.y := by unfold nextO; rw [hln]; rfl
  rw [en] at h
  unfold dGcE nextR
  refine ds_set (x := ln.d) (.at (.lines hf (.var rfl)) (.at (.var rfl) .c seq_tup rfl) seq_tup (L2.atI_nat (j := s.l) (by rw [List.getElem?_map, hln]; rfl))) ?_
  rcases its_next ln with rfl | ⟨w, b, g0, g1, gr, hi, hgr, hw, hb, hn⟩
  · refine ds_if (k := true) (.tst ((Ev.eqS (.at (.var rfl) .c seq_tup rfl) .c).cast (by rw [decide_eq_true rfl]))) ?_
    exact ds_ret .c (.none h)
  · have hb2 := hb _ lok
    rw [hn] at h
    have hd : ln.d = .tup (.str w :: .int b :: .int g0 :: gr) := by unfold Ln.d; rw [hi]
    rw [hd]
    refine ds_if (k := false) (.tst ((Ev.eqS (.at (.var rfl) .c seq_tup (L2.atI_nat (j := 0) rfl)) .c).cast (by rw [decide_eq_false hw]))) ?_
    dsimp only
    refine to_next ?_
    refine (Ev.slF (.var rfl) .c sl_std) _ ⟨_, _, rfl, seq_tup, fun p hp => ?_⟩
    refine (Ev.at (.var rfl) .c seq_tup (L2.atI_nat (j := 1) rfl)) _ ⟨_, _, rfl, ?_⟩
    dsimp only [List.set, List.map, List.replicate, List.length, Nat.sub, List.append]
    have bxe : ∀ {ρ : En}, ρ[3]? = some (some (.ref p)) → ρ[4]? = some (some (.int (b : Int))) → Ev (dIx (dVar 3) (dVar 4)) ρ (gup G p (.lst [bxD s.x, bxD s.y])) (bxD (sel b s.x s.y)) := fun e3 e4 => .at (.var e3) (.var e4) (seq_ref gup_same) (sel_at hb2)
    have wd : ∀ {ρ : En} {G : Gm}, ρ[2]? = some (some (.tup (.str w :: .int b :: .int g0 :: gr))) → Ev (dIx (dVar 2) (dC (.int 0))) ρ G (.str w) := fun e2 => .at (.var e2) .c seq_tup (L2.atI_nat (j := 0) rfl)
    by_cases hz : w = "down" ∧ sel b s.x s.y = some 0
    · refine ds_if (k := true) (.andT (.tst ((Ev.eqS (wd rfl) .c).cast (by rw [decide_eq_true hz.1]))) (.tst ((Ev.eqB0 (bxe rfl rfl) .c).cast (by rw [decide_eq_true hz.2])))) ?_
      rw [if_pos hz] at h
      exact ds_ret .c (.one hp h)
    · rw [if_neg hz] at h
      refine ds_if (k := false) (G := gup G p (.lst [bxD s.x, bxD s.y])) ?_ ?_
      · by_cases hd : w = "down"
        · exact .andT (.tst ((Ev.eqS (wd rfl) .c).cast (by rw [decide_eq_true hd]))) (.tst ((Ev.eqB0 (bxe rfl rfl) .c).cast (by rw [decide_eq_false fun z => hz ⟨hd, z⟩])))
        · exact .andF (.tst ((Ev.eqS (wd rfl) .c).cast (by rw [decide_eq_false hd])))
      dsimp only
      refine to_next ?_
      dsimp only [List.set]
      generalize hg : (if w ≠ "test" ∨ sel b s.x s.y = some 0 then g0 else g1) = g at h
      refine ds_set (x := .int (g : Nat)) ?_ ?_
      · by_cases hc : w ≠ "test" ∨ sel b s.x s.y = some 0
        · rw [if_pos hc] at hg
          subst hg
          refine .ifT ?_ (.at (.var rfl) .c seq_tup (L2.atI_nat (j := 2) rfl))
          by_cases ht : w = "test"
          · exact .orF (.tst ((Ev.neS (wd rfl) .c).cast (by rw [decide_eq_true ht]; rfl))) (.tst ((Ev.eqB0 (bxe rfl rfl) .c).cast (by rw [decide_eq_true (hc.resolve_left fun z => z ht)])))
          · exact .orT (.tst ((Ev.neS (wd rfl) .c).cast (by rw [decide_eq_false ht]; rfl)))
        · rw [if_neg hc] at hg
          subst hg
          have ht : w = "test" := Decidable.byContradiction fun z => hc (.inl z)
          refine .ifF (.orF (.tst ((Ev.neS (wd rfl) .c).cast (by rw [decide_eq_true ht]; rfl))) (.tst ((Ev.eqB0 (bxe rfl rfl) .c).cast (by rw [decide_eq_false fun z => hc (.inr z)])))) (.at (.var rfl) .c seq_tup (L2.atI_nat (j := 3) (by rw [hgr ht]; rfl)))
      dsimp only [List.set]
      have hb01 : b = 0 ∨ b = 1 := by omega
      rcases hb01 with rfl | rfl
      · refine ds_setIx (.call (.cons (bxe rfl rfl) (.one (wd rfl))) fun R r => ⟨sel 0 s.x s.y, w, rfl, fun e z => hz ⟨e, z⟩, r⟩) (.var rfl) (.var rfl) gup_same (j := 0) rfl ?_
        rw [gup_gup]
        refine ds_ret (.tup (.cons (.var rfl) (.cons (.at (.var rfl) .c (seq_ref gup_same) rfl) (.one (.at (.var rfl) .c (seq_ref gup_same) rfl)))) (show 3 ≤ sizeLine by decide)) (.one hp h)
      · refine ds_setIx (.call (.cons (bxe rfl rfl) (.one (wd rfl))) fun R r => ⟨sel 1 s.x s.y, w, rfl, fun e z => hz ⟨e, z⟩, r⟩) (.var rfl) (.var rfl) gup_same (j := 1) rfl ?_
        rw [gup_gup]
        refine ds_ret (.tup (.cons (.var rfl) (.cons (.at (.var rfl) .c (seq_ref gup_same) rfl) (.one (.at (.var rfl) .c (seq_ref gup_same) rfl)))) (show 3 ≤ sizeLine by decide)) (.one hp h)
/-! ### courses -/
theorem ds_app {ρ : En} {G : Gm} {dobj de : DE} {E : DEnds} {q : Addr} {x : D} {ds : List D} (ho : Ev dobj ρ G (.ref q)) (he : Ev de ρ G x) (hg : G q = some (.lst ds)) (hz : ds.length < sizeLine) (h : E.nx ρ (gup G q (.lst (ds ++ [x])))) : dDrop (dApp dobj de) E ρ G :=
  ho _ ⟨q, rfl, ⟨ds, hg⟩, he _ ⟨x, rfl, ds, hg, hz, h⟩⟩
def standsR : DS := (dSeq (dSet 3 (dLstM (dCons (dVar 1) dNil))) (dSeq (dWhile (dTst (dOp (fInt gLe) (dCal fLen (dCons (dVar 3) dNil)) (dVar 2))) (dSeq (dSet 4 (dCall sp_next X0 (dCons (dVar 0) (dCons (dIx (dVar 3) (dNeg (dC (.int 1)))) dNil)))) (dSeq (dIfS (dTst (dIsN (dVar 4))) dBreak dNext) (dDrop (dApp (dVar 3) (dVar 4)))))) (dFrz 3 (dRet (dVar 3)))))
def sp_stands : DSp := fun xs G R _ => ∃ (ls : List Ln) (s : Sd) (n : Nat), xs = [progD ls, s.d, .int n] ∧ s.l < ls.length ∧ LsOk ls ∧ n ≤ 400 ∧ R (.lst ((courseN ls s n).map Sd.d)) G
theorem stands_ok (xs : List D) (G : Gm) (R : KD) (RX : XD) (h : sp_stands xs G R RX) : standsR { nx := fun _ G => R .non G, rt := R } (xs.map some ++ List.replicate (5 - xs.length) none) G := by
  obtain ⟨ls, s, n, rfl, hl, ho, hn, h⟩ := h
  refine (Ev.var rfl) _ ⟨by show 1 ≤ sizeLine; decide, fun p hp => ?_⟩
  dsimp only [List.set, List.map, List.replicate, List.length, Nat.sub, List.append]
  refine ⟨fun m ρ G' => ∃ (acc : List Sd) (cur : Sd) (o4 : Option D), ρ = [some (progD ls), some s.d, some (.int n), some (.ref p), o4] ∧ G' = gup G p (.lst ((acc ++ [cur]).map Sd.d)) ∧ cur.l < ls.length ∧ acc.length + m = n ∧ acc ++ courseN ls cur m = courseN ls s n, ⟨n, [], s, none, rfl, rfl, hl, by simp, rfl⟩, ?_⟩
  have fin : ∀ (c : List Sd) (o4 : Option D), c = courseN ls s n → dFrz 3 (dRet (dVar 3)) { nx := fun _ G => R .non G, rt := R } [some (progD ls), some s.d, some (.int n), some (.ref p), o4] (gup G p (.lst (c.map Sd.d))) := fun c o4 e => by
    subst e
    refine ⟨p, _, rfl, gup_same, ds_ret (.var rfl) ?_⟩
    rw [gdel_gup hp]
    exact h
  rintro m ρ G' ⟨acc, cur, o4, rfl, rfl, hc, hm, he⟩
  have len : Ev (dCal fLen (dCons (dVar 3) dNil)) [some (progD ls), some s.d, some (.int n), some (.ref p), o4] (gup G p (.lst ((acc ++ [cur]).map Sd.d))) (.int ((acc.length + 1 : Nat) : Int)) := (Ev.len (.var rfl) (seq_ref gup_same)).cast (by rw [List.length_map, List.length_append]; rfl)
  refine (EvT.tst (.le len (.var rfl))) _ ?_
  cases m with
  | zero =>
    rw [if_neg (by simp; omega)]
    exact fin _ _ he
  | succ m =>
    rw [if_pos (by simp; omega)]
    have last : Ev (dIx (dVar 3) (dNeg (dC (.int 1)))) [some (progD ls), some s.d, some (.int n), some (.ref p), o4] (gup G p (.lst ((acc ++ [cur]).map Sd.d))) cur.d := .at (.var rfl) (.neg .c) (seq_ref gup_same) (by rw [List.map_append]; exact L2.atI_last _ _)
    refine ds_set (x := optD (nextO ls cur)) (.call (.cons (.var rfl) (.one last)) fun R r => ⟨ls, cur, rfl, hc, ho, r⟩) ?_
    dsimp only [List.set]
    rw [course_succ] at he
    cases q : nextO ls cur with
    | none =>
      rw [q] at he
      refine ds_if (k := true) (.tst ((Ev.isN (x := .non) (.var rfl)).cast rfl)) ?_
      exact fin _ _ he
    | some t =>
      rw [q] at he
      refine ds_if (k := false) (.tst ((Ev.isN (x := t.d) (.var rfl)).cast rfl)) ?_
      dsimp only
      refine to_next ?_
      refine ds_app (.var rfl) (.var rfl) gup_same ?_ ?_
      · rw [List.length_map, List.length_append]
        exact Nat.lt_of_le_of_lt (show acc.length + 1 ≤ 401 by omega) (by show 401 < sizeLine; decide)
      · refine ⟨m, Nat.lt_succ_self _, acc ++ [cur], t, _, rfl, ?_, nextO_l ho q, by rw [List.length_append]; show acc.length + 1 + m = n; omega, by rw [List.append_assoc]; exact he⟩
        rw [gup_gup, List.map_append (l₁ := acc ++ [cur])]
        rfl
/-! ### papers on courses -/
def isStop (ls : List Ln) (t : Sd) : Bool := match ls[t.l]? with
  | some .stop => true
  | _ => false
def endW (ls : List Ln) (c : List Sd) : Str := if (c.getLast?.any (isStop ls)) = true then "stop" else "fault"
def courseD (ls : List Ln) (s : Sd) (n : Nat) : D := if (courseN ls s n).length = n + 1 then .ins "Runs" ["word", "parts", "stands"] [.str "runs", .tup [.tup ((courseN ls s n).map Sd.d)], .tup ((courseN ls s n).map Sd.d)]
  else .ins "Ends" ["word", "parts", "ending", "stands"] [.str "ends", .tup [.str (endW ls (courseN ls s n)), .tup ((courseN ls s n).map Sd.d)], .str (endW ls (courseN ls s n)), .tup ((courseN ls s n).map Sd.d)]
theorem fix_bx (b : Bx) : fixD (bxD b) = bxD b := by cases b <;> (unfold bxD fixD; rfl)
theorem fix_std (s : Sd) : fixD s.d = s.d := by
  unfold Sd.d
  rw [fix_tup]
  show D.tup [fixD (.int s.l), fixD (bxD s.x), fixD (bxD s.y)] = _
  rw [fix_bx, fix_bx]
  unfold fixD
  rfl
theorem fix_stds (c : List Sd) : fixD (.lst (c.map Sd.d)) = .tup (c.map Sd.d) := by
  show fixD (.lst (c.map Sd.d)) = _
  unfold fixD
  rw [fixL_map, List.map_map]
  congr 1
  exact List.map_congr_left fun s _ => fix_std s
theorem bx_flat (b : Bx) : (bxD b).flat = true := by cases b <;> rfl
theorem fx_std (s : Sd) : FxOk 2 s.d := .inl ⟨_, .inr rfl, by show 3 ≤ sizeLine; decide, fun y hy => by
  simp only [List.mem_cons, List.mem_nil_iff, or_false] at hy
  rcases hy with rfl | rfl | rfl
  · exact .inr rfl
  · exact .inr (bx_flat _)
  · exact .inr (bx_flat _)⟩
theorem fx_stds {c : List Sd} (h : c.length ≤ 401) : FxOk 3 (.lst (c.map Sd.d)) := .inl ⟨_, .inl rfl, by rw [List.length_map]; exact Nat.le_trans h (by show 401 ≤ sizeLine; decide), fun y hy => by
  obtain ⟨s, _, rfl⟩ := List.mem_map.mp hy
  exact fx_std s⟩
def courseR (cl : ClT) : DS := (dSeq (dSet 3 (dCall sp_stands X0 (dCons (dVar 0) (dCons (dVar 1) (dCons (dVar 2) dNil))))) (dSeq (dIfS (dTst (dOp fEq (dCal fLen (dCons (dVar 3) dNil)) (dOp fAdd (dVar 2) (dC (.int 1))))) (dRet (dMake "Runs" (sp_paper1 7 "Runs" "runs" "stands") X0 (dCons (dVar 3) dNil))) dNext) (dRet (dMake "Ends" (sp_paper2 7 "Ends" "ends" "ending" "stands") X0 (dCons (dIf (dTst (dOp fEq (dIx (dIx (dFld cl "lines" (dVar 0)) (dIx (dIx (dVar 3) (dNeg (dC (.int 1)))) (dC (.int 0)))) (dC (.int 0))) (dC (.str "stop")))) (dC (.str "stop")) (dC (.str "fault"))) (dCons (dVar 3) dNil))))))
def sp_course : DSp := fun xs G R _ => ∃ (ls : List Ln) (s : Sd) (n : Nat), xs = [progD ls, s.d, .int n] ∧ s.l < ls.length ∧ LsOk ls ∧ n ≤ 400 ∧ R (courseD ls s n) G
theorem course_in_ok {cl : ClT} (hf : hasF cl "Program" "lines" = true) (xs : List D) (G : Gm) (R : KD) (RX : XD) (h : sp_course xs G R RX) : courseR cl { nx := fun _ G => R .non G, rt := R } (xs.map some ++ List.replicate (4 - xs.length) none) G := by
  obtain ⟨ls, s, n, rfl, hl, ho, hn, h⟩ := h
  have cl401 : (courseN ls s n).length ≤ 401 := Nat.le_trans course_len (by omega)
  unfold courseD at h
  refine ds_set (x := .lst ((courseN ls s n).map Sd.d)) (.call (.cons (.var rfl) (.cons (.var rfl) (.one (.var rfl)))) fun R r => ⟨ls, s, n, rfl, hl, ho, hn, r⟩) ?_
  have ne : courseN ls s n ≠ [] := course_ne
  have ok := course_ok ho (n := n) hl
  generalize courseN ls s n = c at *
  dsimp only [List.set, List.map, List.replicate, List.length, Nat.sub, List.append]
  refine ds_if (k := decide (c.length = n + 1)) (.tst ((Ev.eqI (.len (.var rfl) seq_lst) (.add (.var rfl) .c)).cast (by rw [List.length_map]; congr 1; exact decide_eq_decide.mpr ⟨fun h => by omega, fun h => by omega⟩))) ?_
  by_cases hc : c.length = n + 1
  · rw [if_pos (decide_eq_true hc)]
    rw [if_pos hc] at h
    refine ds_ret (.make1 (.one (.var rfl)) ((fx_stds cl401).mono (by decide))) ?_
    rw [fix_stds]
    exact h
  · rw [if_neg (by simpa using hc)]
    rw [if_neg hc] at h
    refine to_next ?_
    obtain ⟨c0, t, rfl⟩ : ∃ c0 t, c = c0 ++ [t] := ⟨c.dropLast, c.getLast ne, (List.dropLast_concat_getLast ne).symm⟩
    have ht : t.l < ls.length := ok t (List.mem_append_right _ (List.mem_singleton_self _))
    have hln : ls[t.l]? = some ls[t.l] := List.getElem?_eq_getElem ht
    have ew : endW ls (c0 ++ [t]) = if isStop ls t = true then ("stop" : Str) else ("fault" : Str) := by
      unfold endW
      rw [List.getLast?_append]
      rfl
    have line : ∀ {ρ : En}, ρ[0]? = some (some (progD ls)) → ρ[3]? = some (some (.lst ((c0 ++ [t]).map Sd.d))) → Ev (dIx (dFld cl "lines" (dVar 0)) (dIx (dIx (dVar 3) (dNeg (dC (.int 1)))) (dC (.int 0)))) ρ G ls[t.l].d := fun e0 e3 =>
      .at (.lines hf (.var e0)) (.at (x := t.d) (.at (.var e3) (.neg .c) seq_lst (by rw [List.map_append]; exact L2.atI_last _ _)) .c seq_tup (i := 0) (z := .int (t.l : Nat)) rfl) seq_tup (L2.atI_nat (j := t.l) (by rw [List.getElem?_map, hln]; rfl))
    have stp : ∀ {ρ : En}, ρ[0]? = some (some (progD ls)) → ρ[3]? = some (some (.lst ((c0 ++ [t]).map Sd.d))) → Ev (dOp fEq (dIx (dIx (dFld cl "lines" (dVar 0)) (dIx (dIx (dVar 3) (dNeg (dC (.int 1)))) (dC (.int 0)))) (dC (.int 0))) (dC (.str "stop"))) ρ G (.bl (isStop ls t)) := fun {ρ} e0 e3 => by
      have l := line e0 e3
      unfold isStop
      rw [hln]
      rcases its_next ls[t.l] with e | ⟨w, b, g0, g1, gr, hi, _, hw, _⟩
      · rw [e] at l ⊢
        exact (Ev.eqS (.at l .c seq_tup (L2.atI_nat (j := 0) rfl)) .c).cast (by rw [decide_eq_true rfl])
      · have ed : ls[t.l].d = .tup (.str w :: .int b :: .int g0 :: gr) := by unfold Ln.d; rw [hi]
        have es : (match some ls[t.l] with
          | some Ln.stop => true
          | _ => false) = false := by
          split
          · rename_i e
            rw [Option.some.inj e] at hi
            cases hi
          · rfl
        rw [es]
        rw [ed] at l
        exact (Ev.eqS (.at l .c seq_tup (L2.atI_nat (j := 0) rfl)) .c).cast (by rw [decide_eq_false hw])
    rw [ew] at h
    by_cases hs : isStop ls t = true
    · rw [if_pos hs] at h
      refine ds_ret (.make2 (u := .str "stop") (.cons (.ifT (.tst ((stp rfl rfl).cast (by rw [hs]))) .c) (.one (.var rfl))) (show FxOk 7 (.str _) from .inr rfl) ((fx_stds cl401).mono (by decide))) ?_
      rw [fix_stds]
      exact h
    · rw [if_neg hs] at h
      refine ds_ret (.make2 (u := .str "fault") (.cons (.ifF (.tst ((stp rfl rfl).cast (by rw [Bool.eq_false_iff.mpr hs]))) .c) (.one (.var rfl))) (show FxOk 7 (.str _) from .inr rfl) ((fx_stds cl401).mono (by decide))) ?_
      rw [fix_stds]
      exact h
/-! ### asked from outside -/
def StdV (x : D) (s : Sd) : Prop := x = .lst [.int s.l, bxD s.x, bxD s.y] ∨ x = .tup [.int s.l, bxD s.x, bxD s.y]
def steppedR : DS := (dSeq (dDrop (dCallD sp_need_program [D.str "program"] X0 (dCons (dVar 0) dNil))) (dRet (dCall sp_next X0 (dCons (dVar 0) (dCons (dCall sp_need_stand X0 (dCons (dVar 0) (dCons (dVar 1) dNil))) dNil)))))
def sp_stepped : DSp := fun xs G R _ => ∃ ls x s, xs = [progD ls, x] ∧ StdV x s ∧ s.l < ls.length ∧ LsOk ls ∧ R (optD (nextO ls s)) G
theorem stepped_ok (xs : List D) (G : Gm) (R : KD) (RX : XD) (h : sp_stepped xs G R RX) : steppedR { nx := fun _ G => R .non G, rt := R } (xs.map some ++ List.replicate (2 - xs.length) none) G := by
  obtain ⟨ls, x, s, rfl, hx, hl, ho, h⟩ := h
  refine ds_drop (x := .non) (.callD (.one (.var rfl)) fun R r => ⟨ls, _, rfl, r⟩) ?_
  exact ds_ret (.call (.cons (.var rfl) (.one (.call (z := s.d) (.cons (.var rfl) (.one (.var rfl))) fun R r => ⟨ls, x, s, rfl, hx, hl, r⟩))) fun R r => ⟨ls, s, rfl, hl, ho, r⟩) h
def judgedR : DS := (dSeq (dDrop (dCallD sp_need_program [D.str "program"] X0 (dCons (dVar 0) dNil))) (dSeq (dSet 3 (dCall sp_need_stand X0 (dCons (dVar 0) (dCons (dVar 1) dNil)))) (dSeq (dDrop (dCall sp_need_number X0 (dCons (dVar 2) (dCons (dC (.str "steps")) (dCons (dC (.int 0)) (dCons (dC (.int 400)) dNil)))))) (dRet (dCall sp_course X0 (dCons (dVar 0) (dCons (dVar 3) (dCons (dVar 2) dNil))))))))
def sp_judged : DSp := fun xs G R _ => ∃ (ls : List Ln) (x : D) (s : Sd) (n : Nat), xs = [progD ls, x, .int n] ∧ StdV x s ∧ s.l < ls.length ∧ LsOk ls ∧ n ≤ 400 ∧ R (courseD ls s n) G
theorem judged_ok (xs : List D) (G : Gm) (R : KD) (RX : XD) (h : sp_judged xs G R RX) : judgedR { nx := fun _ G => R .non G, rt := R } (xs.map some ++ List.replicate (4 - xs.length) none) G := by
  obtain ⟨ls, x, s, n, rfl, hx, hl, ho, hn, h⟩ := h
  refine ds_drop (x := .non) (.callD (.one (.var rfl)) fun R r => ⟨ls, _, rfl, r⟩) ?_
  refine ds_set (x := s.d) (.call (.cons (.var rfl) (.one (.var rfl))) fun R r => ⟨ls, x, s, rfl, hx, hl, r⟩) ?_
  have hw : withinD (.int n) (some 0) (some 400) = true := by
    simp [withinD, leO, geO]
    omega
  refine ds_drop (x := .non) (.call (.cons (.var rfl) (.cons .c (.cons .c (.one .c)))) fun R r => ⟨.int n, _, _, _, some 0, some 400, rfl, rfl, rfl, rfl, hw, r⟩) ?_
  · exact ds_ret (.call (.cons (.var rfl) (.cons (.var rfl) (.one (.var rfl)))) fun R r => ⟨ls, s, n, rfl, hl, ho, hn, r⟩) h
/-! ### the law's own next -/
def lawDueR : DS := (dSeq (dSet 3 (dIf (dAnd (dTst (dOp (fInt gGt) (dCal fLen (dCons (dVar 0) dNil)) (dC (.int 1)))) (dTst (dOp fEq (dIx (dVar 0) (dC (.int 1))) (dC (.int 0))))) (dVar 1) (dVar 2))) (dSeq (dIfS (dOr (dTst (dOp fEq (dVar 0) (dTup (dCons (dC (.str "stop")) dNil)))) (dAnd (dTst (dOp fEq (dIx (dVar 0) (dC (.int 0))) (dC (.str "down")))) (dTst (dOp fEq (dVar 3) (dC (.int 0)))))) (dRet (dC .non)) dNext) (dSeq (dSet 4 (dVar 3)) (dSeq (dIfS (dAnd (dTst (dNotN (dVar 3))) (dTst (dOp fNe (dIx (dVar 0) (dC (.int 0))) (dC (.str "test"))))) (dSet 4 (dIf (dTst (dOp fEq (dIx (dVar 0) (dC (.int 0))) (dC (.str "up")))) (dOp fAdd (dVar 3) (dC (.int 1))) (dOp (fInt fun i j => .int (i - j)) (dVar 3) (dC (.int 1))))) dNext) (dSeq (dSet 5 (dIf (dAnd (dTst (dOp fEq (dIx (dVar 0) (dC (.int 0))) (dC (.str "test")))) (dTst (dOp fNe (dVar 3) (dC (.int 0))))) (dIx (dVar 0) (dC (.int 3))) (dIx (dVar 0) (dC (.int 2))))) (dRet (dIf (dTst (dOp fEq (dIx (dVar 0) (dC (.int 1))) (dC (.int 0)))) (dTup (dCons (dVar 5) (dCons (dVar 4) (dCons (dVar 2) dNil)))) (dTup (dCons (dVar 5) (dCons (dVar 1) (dCons (dVar 4) dNil)))))))))))
def sp_lawDue : DSp := fun xs G R _ => ∃ (ln : Ln) (x y : Bx) (n : Nat), xs = [ln.d, bxD x, bxD y] ∧ ln.ok n ∧ R (optD (nextL ln x y)) G
theorem Ev.notN {x : D} {ρ : En} {G : Gm} {da : DE} (ha : Ev da ρ G x) : Ev (dNotN da) ρ G (.bl (!x.isN)) := fun R r => ha _ r
theorem Ev.neB0 {b : Bx} {ρ : En} {G : Gm} {da db : DE} (ha : Ev da ρ G (bxD b)) (hb : Ev db ρ G (.int 0)) : Ev (dOp fNe da db) ρ G (.bl (!decide (b = some 0))) := by
  cases b with
  | none => exact .op ha hb ⟨⟨rfl, by decide⟩, ⟨rfl, by decide⟩, by rfl⟩
  | some n =>
    refine (Ev.neI ha hb).cast ?_
    congr 2
    exact decide_eq_decide.mpr ⟨fun h => congrArg some (by omega), fun h => by have := Option.some.inj h; omega⟩
theorem its_word (ln : Ln) {w : Str} {b : Nat} {r : List D} (h : ln.its = .str w :: .int b :: r) : w = "up" ∨ w = "down" ∨ w = "test" := by
  cases ln with
  | stop => cases h
  | up b g => cases h; exact .inl rfl
  | down b g => cases h; exact .inr (.inl rfl)
  | test b g k => cases h; exact .inr (.inr rfl)
theorem cmp_stop : Cmp (.tup [.str "stop"]) := ⟨by decide +kernel, by decide⟩
theorem cmp_ln (ln : Ln) : Cmp ln.d := by
  cases ln with
  | stop => exact cmp_stop
  | up b g => exact ⟨by show (PyData.strOk ("up" : Str) && (true && (true && true))) = true; decide +kernel, by show max 0 (max 0 (max 0 0)) + 1 ≤ 60; decide⟩
  | down b g => exact ⟨by show (PyData.strOk ("down" : Str) && (true && (true && true))) = true; decide +kernel, by show max 0 (max 0 (max 0 0)) + 1 ≤ 60; decide⟩
  | test b g k => exact ⟨by show (PyData.strOk ("test" : Str) && (true && (true && (true && true)))) = true; decide +kernel, by show max 0 (max 0 (max 0 (max 0 0))) + 1 ≤ 60; decide⟩
theorem pln_ln (ln : Ln) : ln.d.pln = true := by cases ln <;> rfl
theorem law_due_ok (xs : List D) (G : Gm) (R : KD) (RX : XD) (h : sp_lawDue xs G R RX) : lawDueR { nx := fun _ G => R .non G, rt := R } (xs.map some ++ List.replicate (6 - xs.length) none) G := by
  obtain ⟨ln, x, y, n, rfl, lok, h⟩ := h
  rcases its_next ln with rfl | ⟨w, b, g0, g1, gr, hi, hgr, hw, hb, hn⟩
  · refine ds_set (x := bxD y) (.ifF (.andF (.tst ((Ev.gt (.len (.var rfl) seq_tup) .c).cast rfl))) (.var rfl)) ?_
    refine ds_if (k := true) (.orT (.tst (.op (.var rfl) (.tup (.one .c) (show 1 ≤ sizeLine by decide)) ⟨cmp_stop, cmp_stop, by show D.bl true = D.bl (D.eqv (.tup [.str "stop"]) (.tup [.str "stop"])); rw [eqv_self (by decide +kernel)]⟩))) ?_
    exact ds_ret .c h
  · have hb2 := hb _ lok
    rw [hn] at h
    have hd : ln.d = .tup (.str w :: .int b :: .int g0 :: gr) := by unfold Ln.d; rw [hi]
    rw [hd]
    have wd : ∀ {ρ : En} {G : Gm}, ρ[0]? = some (some (.tup (.str w :: .int b :: .int g0 :: gr))) → Ev (dIx (dVar 0) (dC (.int 0))) ρ G (.str w) := fun e2 => .at (.var e2) .c seq_tup (L2.atI_nat (j := 0) rfl)
    have bx : ∀ {ρ : En} {G : Gm}, ρ[0]? = some (some (.tup (.str w :: .int b :: .int g0 :: gr))) → Ev (dIx (dVar 0) (dC (.int 1))) ρ G (.int b) := fun e2 => .at (.var e2) .c seq_tup (L2.atI_nat (j := 1) rfl)
    refine ds_set (x := bxD (sel b x y)) ?_ ?_
    · unfold sel
      by_cases h0 : b = 0
      · rw [if_pos h0]
        exact .ifT (.andT (.tst ((Ev.gt (.len (.var rfl) seq_tup) .c).cast (by rw [decide_eq_true (by rw [List.length_cons, List.length_cons]; omega)]))) (.tst ((Ev.eqI (bx rfl) .c).cast (by rw [decide_eq_true (by omega)])))) (.var rfl)
      · rw [if_neg h0]
        exact .ifF (.andT (.tst ((Ev.gt (.len (.var rfl) seq_tup) .c).cast (by rw [decide_eq_true (by rw [List.length_cons, List.length_cons]; omega)]))) (.tst ((Ev.eqI (bx rfl) .c).cast (by rw [decide_eq_false (by omega)])))) (.var rfl)
    dsimp only [List.set, List.map, List.replicate, List.length, Nat.sub, List.append]
    have cp : Cmp (.tup (.str w :: .int b :: .int g0 :: gr)) := by rw [← hd]; exact cmp_ln ln
    have pp : (D.tup (.str w :: .int b :: .int g0 :: gr)).pln = true := by rw [← hd]; exact pln_ln ln
    have nst : ∀ {ρ : En} {G : Gm}, ρ[0]? = some (some (.tup (.str w :: .int b :: .int g0 :: gr))) → Ev (dOp fEq (dVar 0) (dTup (dCons (dC (.str "stop")) dNil))) ρ G (.bl false) := fun e0 =>
      (Ev.eqP (p := False) (.var e0) (.tup (.one .c) (show 1 ≤ sizeLine by decide)) cp cmp_stop pp rfl (fun i h => nomatch h) (fun i h => nomatch h) ⟨(fun h => by cases h), (fun h => h.elim)⟩).cast rfl
    by_cases hz : w = "down" ∧ sel b x y = some 0
    · rw [if_pos hz] at h
      refine ds_if (k := true) (.orF (.tst (nst rfl)) (.andT (.tst ((Ev.eqS (wd rfl) .c).cast (by rw [decide_eq_true hz.1]))) (.tst ((Ev.eqB0 (.var rfl) .c).cast (by rw [decide_eq_true hz.2]))))) ?_
      exact ds_ret .c h
    · rw [if_neg hz] at h
      refine ds_if (k := false) (G := G) (.orF (.tst (nst rfl)) ?_) ?_
      · by_cases hdn : w = "down"
        · exact .andT (.tst ((Ev.eqS (wd rfl) .c).cast (by rw [decide_eq_true hdn]))) (.tst ((Ev.eqB0 (.var rfl) .c).cast (by rw [decide_eq_false fun z => hz ⟨hdn, z⟩])))
        · exact .andF (.tst ((Ev.eqS (wd rfl) .c).cast (by rw [decide_eq_false hdn])))
      dsimp only
      refine to_next ?_
      refine ds_set (.var rfl) ?_
      dsimp only [List.set]
      generalize hg : (if w ≠ "test" ∨ sel b x y = some 0 then g0 else g1) = g at h
      -- the box behind
      have fin : ∀ {o4 : Option D}, o4 = some (bxD (chgB w (sel b x y))) → (dSeq (dSet 5 (dIf (dAnd (dTst (dOp fEq (dIx (dVar 0) (dC (.int 0))) (dC (.str "test")))) (dTst (dOp fNe (dVar 3) (dC (.int 0))))) (dIx (dVar 0) (dC (.int 3))) (dIx (dVar 0) (dC (.int 2))))) (dRet (dIf (dTst (dOp fEq (dIx (dVar 0) (dC (.int 1))) (dC (.int 0)))) (dTup (dCons (dVar 5) (dCons (dVar 4) (dCons (dVar 2) dNil)))) (dTup (dCons (dVar 5) (dCons (dVar 1) (dCons (dVar 4) dNil))))))) { nx := fun _ G => R .non G, rt := R } [some (.tup (.str w :: .int b :: .int g0 :: gr)), some (bxD x), some (bxD y), some (bxD (sel b x y)), o4, none] G := fun {o4} e4 => by
        subst e4
        refine ds_set (x := .int (g : Nat)) ?_ ?_
        · by_cases hc : w ≠ "test" ∨ sel b x y = some 0
          · rw [if_pos hc] at hg
            subst hg
            refine .ifF ?_ (.at (.var rfl) .c seq_tup (L2.atI_nat (j := 2) rfl))
            by_cases ht : w = "test"
            · exact .andT (.tst ((Ev.eqS (wd rfl) .c).cast (by rw [decide_eq_true ht]))) (.tst ((Ev.neB0 (.var rfl) .c).cast (by rw [decide_eq_true (hc.resolve_left fun z => z ht)]; rfl)))
            · exact .andF (.tst ((Ev.eqS (wd rfl) .c).cast (by rw [decide_eq_false ht])))
          · rw [if_neg hc] at hg
            subst hg
            have ht : w = "test" := Decidable.byContradiction fun z => hc (.inl z)
            exact .ifT (.andT (.tst ((Ev.eqS (wd rfl) .c).cast (by rw [decide_eq_true ht]))) (.tst ((Ev.neB0 (.var rfl) .c).cast (by rw [decide_eq_false fun z => hc (.inr z)]; rfl)))) (.at (.var rfl) .c seq_tup (L2.atI_nat (j := 3) (by rw [hgr ht]; rfl)))
        dsimp only [List.set]
        have hb01 : b = 0 ∨ b = 1 := by omega
        rcases hb01 with rfl | rfl
        · exact ds_ret (.ifT (.tst ((Ev.eqI (bx rfl) .c).cast rfl)) (.tup (.cons (.var rfl) (.cons (.var rfl) (.one (.var rfl)))) (show 3 ≤ sizeLine by decide))) h
        · exact ds_ret (.ifF (.tst ((Ev.eqI (bx rfl) .c).cast rfl)) (.tup (.cons (.var rfl) (.cons (.var rfl) (.one (.var rfl)))) (show 3 ≤ sizeLine by decide))) h
      generalize hs : sel b x y = m at *
      cases m with
      | none =>
        refine ds_if (k := false) (.andF (.tst ((Ev.notN (x := .non) (.var rfl)).cast rfl))) ?_
        refine to_next (fin ?_)
        unfold chgB
        split
        · rfl
        · split <;> rfl
      | some k =>
        by_cases ht : w = "test"
        · refine ds_if (k := false) (.andT (.tst ((Ev.notN (x := .int (k : Int)) (.var rfl)).cast rfl)) (.tst ((Ev.neS (wd rfl) .c).cast (by rw [decide_eq_true ht]; rfl)))) ?_
          refine to_next (fin ?_)
          subst ht
          unfold chgB
          rw [if_neg (by decide +kernel), if_neg (by decide +kernel)]
        · refine ds_if (k := true) (.andT (.tst ((Ev.notN (x := .int (k : Int)) (.var rfl)).cast rfl)) (.tst ((Ev.neS (wd rfl) .c).cast (by rw [decide_eq_false ht]; rfl)))) ?_
          by_cases hu : w = "up"
          · refine ds_set (.ifT (.tst ((Ev.eqS (wd rfl) .c).cast (by rw [decide_eq_true hu]))) (.add (i := (k : Int)) (.var rfl) .c)) ?_
            refine fin ?_
            unfold chgB
            rw [if_pos hu]
            rfl
          · have hdn : w = "down" := by
              rcases its_word ln hi with q | q | q
              · exact absurd q hu
              · exact q
              · exact absurd q ht
            refine ds_set (.ifF (.tst ((Ev.eqS (wd rfl) .c).cast (by rw [decide_eq_false hu]))) (.sub (i := (k : Int)) (.var rfl) .c)) ?_
            refine fin ?_
            unfold chgB
            rw [if_neg hu, if_pos hdn]
            have k0 : k ≠ 0 := fun z => hz ⟨hdn, by rw [z]⟩
            show some (D.int ((k : Int) - 1)) = some (D.int ((k - 1 : Nat) : Int))
            congr 2
            omega
end DL

open PySem PySem.Spec PyProof.Rows L2 Evl DL
local macro_rules | `(tactic| walk_at "side") => `(tactic| first | exact mul_left (by decide) | exact mul_right (by decide) | exact mul_bd | exact div_bd (by first | assumption | decide | omega) | exact pow_bd (by first | decide | omega) (by first | decide | omega) | assumption | (show (0 : Int) < _; first | decide | omega))
local macro_rules | `(tactic| walk_at "eva") => `(tactic| first | exact DL.EvA.nil | (refine' DL.EvA.cons ?e ?r; (case' e => walk_at "ev"); (case' r => walk_at "eva")))
local macro_rules | `(tactic| walk_at "seq") => `(tactic| first | exact seq_tup | exact seq_lst | exact seq_ref (by assumption))
local macro_rules | `(tactic| walk_at "size") => `(tactic| first | (show _ ≤ sizeLine; simp only [List.length_cons, List.length_nil]; decide) | (rw [sizeLine_eq]; omega))
local macro_rules | `(tactic| walk_at "ev") => `(tactic| first
  | exact DL.Ev.c
  | exact DL.Ev.var rfl
  | (refine' DL.Ev.int ?a ?b; (case' a => walk_at "ev"); (case' b => walk_at "ev"))
  | (refine' DL.Ev.intC ?a ?b ?s; (case' a => walk_at "ev"); (case' b => walk_at "ev"); (case' s => try walk_at "side"))
  | (refine' DL.Ev.add ?a ?b; (case' a => walk_at "ev"); (case' b => walk_at "ev"))
  | (refine' DL.Ev.neg ?a; (case' a => walk_at "ev"))
  | (refine' DL.Ev.intOf ?a; (case' a => walk_at "ev"))
  | (refine' DL.Ev.intB ?a; (case' a => walk_at "ev"))
  | (refine' DL.Ev.absN ?a; (case' a => walk_at "ev"))
  | (refine' DL.Ev.eqI ?a ?b; (case' a => walk_at "ev"); (case' b => walk_at "ev"))
  | (refine' DL.Ev.neI ?a ?b; (case' a => walk_at "ev"); (case' b => walk_at "ev"))
  | (refine' DL.Ev.at ?a ?b ?s ?k; (case' a => walk_at "ev"); (case' b => walk_at "ev"); (case' s => walk_at "seq"); (case' k => try rfl))
  | (refine' DL.Ev.len ?a ?s; (case' a => walk_at "ev"); (case' s => walk_at "seq"))
  | (refine' DL.Ev.tupOf ?a ?s; (case' a => walk_at "ev"); (case' s => walk_at "seq"))
  | (refine' DL.Ev.tup ?a ?z; (case' a => walk_at "eva"); (case' z => try walk_at "size"))
  | (refine' DL.Ev.lst ?a ?z; (case' a => walk_at "eva"); (case' z => try walk_at "size"))
  | (refine' DL.Ev.notV ?a; (case' a => walk_at "ev"))
  | (refine' DL.Ev.isN ?a; (case' a => walk_at "ev"))
  | exact fun R r => r
  | assumption)
local macro_rules | `(tactic| walk_at "set") => `(tactic| (refine' ds_set ?e ?_; (case' e => walk_at "ev")))
local macro_rules | `(tactic| walk_at "ret") => `(tactic| (refine' ds_ret ?e ?_; (case' e => walk_at "ev")))
local macro_rules | `(tactic| walk_at "par") => `(tactic| (refine' ds_par ?e ?f ?_; (case' e => walk_at "ev"); (case' f => walk_at "ev")))
namespace Lw
open PySem PySem.Spec PyProof.Rows L2 Evl DL
instance tabC : TabC := ⟨[]⟩
/-! the text by places -/
def top (i : Nat) : Stmt := PySem.Challenge.pw_timesfloor_k61_whole_one_line_at_each_st.main.body.getD i (.Pass ⟨0, 0, 0, 0⟩)
abbrev st_is_integer : Stmt := top 8
abbrev st_is_within : Stmt := top 9
abbrev st_is_list : Stmt := top 10
abbrev st_need_number : Stmt := top 11
abbrev st_fixed : Stmt := top 13
abbrev st_Paper___init__ : Stmt := methOf (top 14) "__init__"
abbrev st_Paper___bool__ : Stmt := methOf (top 14) "__bool__"
abbrev st_Denial___bool__ : Stmt := methOf (top 15) "__bool__"
abbrev st_is_line : Stmt := top 30
abbrev st_Program___init__ : Stmt := methOf (top 31) "__init__"
abbrev st_need_program : Stmt := top 33
abbrev st_Runs___init__ : Stmt := methOf (top 37) "__init__"
abbrev st_Ends___init__ : Stmt := methOf (top 38) "__init__"
abbrev st_is_contents : Stmt := top 39
abbrev st_need_stand : Stmt := top 40
abbrev st_changed : Stmt := top 41
abbrev st_next_in : Stmt := top 42
abbrev st_stands_on : Stmt := top 43
abbrev st_course_in : Stmt := top 44
abbrev st_stepped : Stmt := top 45
abbrev st_judged_course : Stmt := top 46
abbrev st__law_stoker : Stmt := top 48
abbrev st__law_feed_by : Stmt := top 49
abbrev st__law_pick : Stmt := top 50
abbrev st__law_due : Stmt := top 51
abbrev st_law : Stmt := top 52
structure Tx (mg : Str → Option Value) : Prop where
  f_abs : mg "abs" = none
  f_all : mg "all" = none
  f_bool : mg "bool" = none
  f_enumerate : mg "enumerate" = none
  f_int : mg "int" = none
  f_isinstance : mg "isinstance" = none
  f_len : mg "len" = none
  f_list : mg "list" = none
  f_range : mg "range" = none
  f_repr : mg "repr" = none
  f_str : mg "str" = none
  f_tuple : mg "tuple" = none
  c_BAR : ∃ t, mg "BAR" = some (.str "/" t)
  c_FIGURES : ∃ t, mg "FIGURES" = some (.str "0123456789" t)
  c_MOST_FIGURES : ∃ t, mg "MOST_FIGURES" = some (.int 140 t)
  c_MOST_LINES : ∃ t, mg "MOST_LINES" = some (.int 15 t)
  c_LAST_BOX : ∃ t, mg "LAST_BOX" = some (.int 1 t)
  c_UP : ∃ t, mg "UP" = some (.str "up" t)
  c_DOWN : ∃ t, mg "DOWN" = some (.str "down" t)
  c_TEST : ∃ t, mg "TEST" = some (.str "test" t)
  c_STOP : ∃ t, mg "STOP" = some (.str "stop" t)
  c_MOST_STEPS : ∃ t, mg "MOST_STEPS" = some (.int 400 t)
  c_FAULT : ∃ t, mg "FAULT" = some (.str "fault" t)
def cls : ClT := [("Paper", ["word", "parts"]), ("Denial", ["word", "parts"]), ("Program", ["lines"]), ("Runs", ["word", "parts", "stands"]), ("Ends", ["word", "parts", "ending", "stands"])]
def subCT : List (Str × Str) := [("Denial", "Paper"), ("Runs", "Paper"), ("Ends", "Denial"), ("Ends", "Paper")]
def subC (c d : Str) : Bool := c == d || subCT.contains (c, d)
def trT : TrT := [("Runs", true), ("Ends", false)]
def kv_ENDS : KvT := [("up", 1), ("down", 1), ("test", 2)]

/-- one of a row that may change, too -/
def spPickR : DSp := fun xs G R _ => ∃ a b ds T, xs = [.ref a, .ref b] ∧ b ≠ a ∧ G b = some (.lst ds) ∧ ds ≠ [] ∧ ds.length ≤ 1000000 ∧ GauAt G a T ∧ T ≤ 1000000000 ∧ ∀ v m, v ∈ ds → Gau m (T + 1) → R v (gup G a m)
theorem pickR_ok (xs : List D) (G : Gm) (R : KD) (RX : XD) (h : spPickR xs G R RX) : pickD { nx := fun _ G => R .non G, rt := R } (xs.map some ++ List.replicate (2 - xs.length) none) G := by
  obtain ⟨a, b, ds, T, rfl, ne, hb, hne, hl, hg, ht, h⟩ := h
  have h0 := List.length_pos_iff.mpr hne
  show dIx _ _ [some (.ref a), some (.ref b)] G R
  refine ⟨.ref b, rfl, (EvA.cons (Ev.var rfl) (EvA.one (Ev.len (Ev.var rfl) (seq_ref hb)))) _ ⟨a, ds.length, T, rfl, hg, ht, by omega, ?_, fun v m v0 v1 hm => ?_⟩⟩
  · exact Int.lt_of_lt_of_le (b := 2000000) (by omega) (by decide +kernel)
  · obtain ⟨z, hz, he⟩ := DL.atI_nat v0 v1
    exact ⟨z, .inl ⟨ds, v, seq_ref (by rw [gup_ne ne]; exact hb), rfl, he⟩, h z m hz hm⟩
theorem ga_ne {G : Gm} {p q : Addr} {T : Nat} {m : Mt} (h : GauAt G p T) (ne : p ≠ q) : GauAt (gup G q m) p T := by
  obtain ⟨g, hg, hm⟩ := h
  exact ⟨g, by rw [gup_ne ne]; exact hg, hm⟩
theorem ga_mono {G : Gm} {p : Addr} {T T' : Nat} (h : GauAt G p T) (l : T ≤ T') : GauAt G p T' := by
  obtain ⟨g, hg, hm⟩ := h
  exact ⟨g, hg, hm.mono l⟩
theorem map_erase {α β : Type} (f : α → β) : ∀ (l : List α) (i : Nat), (l.eraseIdx i).map f = (l.map f).eraseIdx i
  | [], _ => rfl
  | _ :: _, 0 => rfl
  | x :: l, i + 1 => by
    show f x :: (l.eraseIdx i).map f = f x :: (l.map f).eraseIdx i
    rw [map_erase f l i]
theorem cmp_lns (ls : List Ln) : Cmp (.lst (ls.map Ln.d)) := by
  have h1 : D.layL (ls.map Ln.d) = true := by
    induction ls with
    | nil => rfl
    | cons l ls ih =>
      show (D.lay l.d && D.layL (ls.map Ln.d)) = true
      rw [(cmp_ln l).lay, ih]
      rfl
  have h2 : D.dpL (ls.map Ln.d) ≤ 2 := by
    induction ls with
    | nil => exact Nat.zero_le _
    | cons l ls ih =>
      show max (D.dp l.d) (D.dpL (ls.map Ln.d)) ≤ 2
      have : D.dp l.d ≤ 1 := by cases l <;> exact Nat.le_refl _
      have := ih (by simp [D.layL] at h1; simpa using h1.2)
      omega
  exact ⟨h1, by show D.dpL _ + 1 ≤ 60; omega⟩
theorem eqv_nil (ls : List Ln) : D.eqv (.lst (ls.map Ln.d)) (.lst []) = ls.isEmpty := by
  cases ls with
  | nil => exact eqv_self rfl
  | cons l ls =>
    have := (cmp_lns (l :: ls)).lay
    refine Bool.eq_false_iff.mpr fun h => ?_
    obtain ⟨p, ep, _⟩ := (cmp_lns (l :: ls)).shaped
    rw [eqv_of ep (q := .list []) rfl] at h
    have pl : (D.lst ((l :: ls).map Ln.d)).pln = true := by
      show D.plnL ((l :: ls).map Ln.d) = true
      generalize l :: ls = k
      induction k with
      | nil => rfl
      | cons a k ih =>
        show (D.pln a.d && D.plnL (k.map Ln.d)) = true
        rw [pln_ln, ih]
        rfl
    have e := (eqv_pln (.lst ((l :: ls).map Ln.d)) (.lst []) _ _ pl rfl ep rfl).mp h
    cases e
theorem ds_addLM {ρ : En} {G : Gm} {E : DEnds} {i : Nat} {da db : DE} {xs ys : List D} (ha : Ev da ρ G (.lst xs)) (hb : Ev db ρ G (.lst ys)) (hz : xs.length + ys.length ≤ sizeLine) (h : ∀ p, G p = none → E.nx (ρ.set i (some (.ref p))) (gup G p (.lst (xs ++ ys)))) : dSet i (dAddLM da db) E ρ G := ha _ (hb _ ⟨xs, ys, rfl, rfl, hz, h⟩)
theorem ds_lstM {ρ : En} {G : Gm} {E : DEnds} {i : Nat} {dA : DA} {xs : List D} (ha : EvA dA ρ G xs) (hz : xs.length ≤ sizeLine) (h : ∀ p, G p = none → E.nx (ρ.set i (some (.ref p))) (gup G p (.lst xs))) : dSet i (dLstM dA) E ρ G := ha _ ⟨hz, h⟩
theorem dt_tst {ρ : En} {G : Gm} {d : DT} {k : Bool} {R : Bool → Gm → Prop} (ha : EvT d ρ G k) (h : R k G) : d ρ G R := ha _ h
theorem ds_app0 {ρ : En} {G : Gm} {E : DEnds} {dobj de : DE} {q : Addr} (ho : Ev dobj ρ G (.ref q)) (hg : ∃ ds, G q = some (.lst ds)) (h : de ρ G fun x G2 => ∃ x', [x] = [x'] ∧ ∃ ds, G2 q = some (.lst ds) ∧ ds.length < sizeLine ∧ E.nx ρ (gup G2 q (.lst (ds ++ [x'])))) : dDrop (dApp dobj de) E ρ G := ho _ ⟨q, rfl, hg, h⟩
theorem de_popAt {ρ : En} {G : Gm} {R : KD} {dobj di : DE} {q : Addr} (ho : Ev dobj ρ G (.ref q)) (hg : ∃ ds, G q = some (.lst ds)) (h : di ρ G fun x G2 => ∃ (i : Nat) (ds : List D) (y : D), [x] = [.int i] ∧ G2 q = some (.lst ds) ∧ ds[i]? = some y ∧ i < 2 ^ 62 ∧ R y (gup G2 q (.lst (ds.eraseIdx i)))) : dPopAt dobj di ρ G R := ho _ ⟨q, rfl, hg, h⟩
theorem de_dial {ρ : En} {G : Gm} {R : KD} {dA : DA} {a : Addr} {n : Int} {T : Nat} (ha : EvA dA ρ G [.ref a, .int n]) (hg : GauAt G a T) (ht : T ≤ 1000000000) (h1 : 1 ≤ n) (h2 : n < 2 ^ 8000) (h : ∀ v m, 0 ≤ v → v < n → Gau m (T + 1) → R (.int v) (gup G a m)) : dCall spDial X0 dA ρ G R := ha _ ⟨a, n, T, rfl, hg, ht, h1, h2, h⟩
theorem de_pickR {ρ : En} {G : Gm} {R : KD} {dA : DA} {a b : Addr} {ds : List D} {T : Nat} (ha : EvA dA ρ G [.ref a, .ref b]) (ne : b ≠ a) (hb : G b = some (.lst ds)) (hne : ds ≠ []) (hl : ds.length ≤ 1000000) (hg : GauAt G a T) (ht : T ≤ 1000000000) (h : ∀ v m, v ∈ ds → Gau m (T + 1) → R v (gup G a m)) : dCall spPickR X0 dA ρ G R := ha _ ⟨a, b, ds, T, rfl, ne, hb, hne, hl, hg, ht, h⟩
theorem ds_forEnum {ρ : En} {G : Gm} {E : DEnds} {dA : DA} {g : DG} {s : DS} {xs : List D} (ha : EvA dA ρ G [.lst xs]) (h : forL g s E (enumD xs) ρ G) : dFor (dIEnumerate dA) g s E ρ G := ha _ ⟨xs, .inl rfl, h⟩
theorem ds_forSeq {ρ : En} {G : Gm} {E : DEnds} {da : DE} {g : DG} {s : DS} {x : D} {xs : List D} (ha : Ev da ρ G x) (hx : x = .lst xs ∨ x = .tup xs) (h : forL g s E xs ρ G) : dFor (dISeq da) g s E ρ G := ha _ ⟨xs, hx, h⟩
theorem ten25 : CPw 10 25 := by first | decide +kernel | exact ⟨by decide, by decide⟩
/-- a box of this law -/
def Bxs (x : D) : Prop := ∃ b : Bx, x = bxD b ∧ ∀ n, b = some n → n ≤ 10 ^ 25
theorem sm_bx {b : Bx} (h : ∀ n, b = some n → n < 10 ^ 26) : Sm 0 1 (bxD b) := by
  cases b with
  | none => exact .non
  | some n => exact .int (Nat.lt_trans (h n rfl) (by decide +kernel))
theorem sm_std {s : Sd} (hl : s.l < 100) (hx : ∀ n, s.x = some n → n < 10 ^ 26) (hy : ∀ n, s.y = some n → n < 10 ^ 26) : Sm 1 4 s.d := Sm.tup (d := 0) (s := 1) (xs := [.int s.l, bxD s.x, bxD s.y]) fun z hz => by
  simp only [List.mem_cons, List.mem_nil_iff, or_false] at hz
  rcases hz with rfl | rfl | rfl
  · exact .int (Nat.lt_trans (m := 100) (by omega) (by decide +kernel))
  · exact sm_bx hx
  · exact sm_bx hy
theorem next_bd {ln : Ln} {x y : Bx} {t : Sd} (e : nextL ln x y = some t) (hx : ∀ n, x = some n → n ≤ 10 ^ 25) (hy : ∀ n, y = some n → n ≤ 10 ^ 25) : (∀ n, t.x = some n → n < 10 ^ 26) ∧ (∀ n, t.y = some n → n < 10 ^ 26) := by
  have b : (10 : Nat) ^ 25 + 1 < 10 ^ 26 := by decide +kernel
  have up : ∀ {z : Bx}, (∀ n, z = some n → n ≤ 10 ^ 25) → ∀ n, z.map (· + 1) = some n → n < 10 ^ 26 := fun {z} h n e => by
    cases z with
    | none => cases e
    | some k =>
      have := h k rfl
      cases e
      show k + 1 < 10 ^ 26
      omega
  have dn : ∀ {z : Bx}, (∀ n, z = some n → n ≤ 10 ^ 25) → ∀ n, z.map (· - 1) = some n → n < 10 ^ 26 := fun {z} h n e => by
    cases z with
    | none => cases e
    | some k =>
      have := h k rfl
      cases e
      show k - 1 < 10 ^ 26
      omega
  have st : ∀ {z : Bx}, (∀ n, z = some n → n ≤ 10 ^ 25) → ∀ n, z = some n → n < 10 ^ 26 := fun {z} h n e => by
    have := h n e
    omega
  cases ln with
  | stop => cases e
  | up b g =>
    cases Option.some.inj e
    split
    · exact ⟨up hx, st hy⟩
    · exact ⟨st hx, up hy⟩
  | down b g =>
    unfold nextL at e
    dsimp only at e
    split at e
    · cases e
    · cases Option.some.inj e
      split
      · exact ⟨dn hx, st hy⟩
      · exact ⟨st hx, dn hy⟩
  | test b g k =>
    cases Option.some.inj e
    exact ⟨st hx, st hy⟩

/-! ### is_integer -/
abbrev sp_is_integer : DSp := DL.sp_is_integer
def r_is_integer : DS := (dRet (dAndV (dCal (fIsi "int") (dCons (dVar 0) (dCons (dC (.ty "int")) dNil))) (dNotV (dCal (fIsi "bool") (dCons (dVar 0) (dCons (dC (.ty "bool")) dNil))))))
theorem sc_is_integer : FnScope ["value"] ["value"] (defScope st_is_integer) := ⟨rfl, rfl, rfl, by decide +kernel, rfl, by decide +kernel, by decide +kernel⟩
theorem v_is_integer (xs : List D) (G : Gm) (R : KD) (RX : XD) (h : sp_is_integer xs G R RX) : r_is_integer { nx := fun _ G => R .non G, rt := R } (xs.map some ++ List.replicate (1 - xs.length) none) G := by
  exact is_integer_ok xs G R RX h
theorem l_is_integer (xs : List D) (G : Gm) (R : KD) (RX : XD) (h : sp_is_integer xs G R RX) : xs.length = 1 := by
  obtain ⟨_, rfl, _⟩ := h
  rfl
set_option maxHeartbeats 4000000 in
theorem k_is_integer {P : Program} {w : World} {K : PySem.W.Frag} {mg : Str → Option Value} {base : Heap} (T : Tx mg) (F : Df K mg "is_integer" st_is_integer) :
    Kn P w K mg base 1 "is_integer" st_is_integer ["value"] sp_is_integer :=
  kn_of F.g F.f sc_is_integer l_is_integer fun cdv hcv A outer s H E B RX hr hg kx => ⟨r_is_integer, (psd_one (psd_ret (pd_and (pd_isi rfl (by decide) rfl T.f_isinstance (pd_var 0) (pd_bty rfl T.f_int (by decide +kernel))) (pd_one (pd_not (pd_isi rfl (by decide) rfl T.f_isinstance (pd_var 0) (pd_bty rfl T.f_bool (by decide +kernel)))))))), fun xs G R h => v_is_integer xs G R RX h⟩
/-! ### is_within -/
abbrev sp_is_within : DSp := DL.sp_is_within
def r_is_within : DS := (dSeq (dIfS (dNot (dTst (dCall sp_is_integer X0 (dCons (dVar 0) dNil)))) (dRet (dC (.bl false))) dNext) (dRet (dAndV (dOrV (dIsN (dVar 1)) (dOp (fInt gLe) (dVar 1) (dVar 0))) (dOrV (dIsN (dVar 2)) (dOp (fInt gLe) (dVar 0) (dVar 2))))))
theorem sc_is_within : FnScope ["value", "least", "most"] ["value", "least", "most"] (defScope st_is_within) := ⟨rfl, rfl, rfl, by decide +kernel, rfl, by decide +kernel, by decide +kernel⟩
theorem v_is_within (xs : List D) (G : Gm) (R : KD) (RX : XD) (h : sp_is_within xs G R RX) : r_is_within { nx := fun _ G => R .non G, rt := R } (xs.map some ++ List.replicate (3 - xs.length) none) G := by
  exact is_within_ok xs G R RX h
theorem l_is_within (xs : List D) (G : Gm) (R : KD) (RX : XD) (h : sp_is_within xs G R RX) : xs.length = 3 := by
  obtain ⟨_, _, _, _, _, rfl, _⟩ := h
  rfl
set_option maxHeartbeats 4000000 in
theorem k_is_within {P : Program} {w : World} {K : PySem.W.Frag} {mg : Str → Option Value} {base : Heap} (T : Tx mg) (F : Df K mg "is_within" st_is_within) (k_is_integer : Kn P w K mg base 1 "is_integer" st_is_integer ["value"] sp_is_integer) :
    Kn P w K mg base 2 "is_within" st_is_within ["value", "least", "most"] sp_is_within :=
  kn_of F.g F.f sc_is_within l_is_within fun cdv hcv A outer s H E B RX hr hg kx => ⟨r_is_within, (psd_cons (psd_if (ptd_not (ptd_val (pd_call k_is_integer (hr.mono (by decide)) hg rfl pass0 kx0 (fun _ _ _ _ _ _ us hl => match us, hl with | [_], _ => rfl) (pda_cons (pd_var 0) pda_nil)))) (psd_one (psd_ret pd_bl)) psd_nil) (psd_one (psd_ret (pd_and (pd_or (pd_isN (pd_var 1)) (pd_one (pd_cmp op_le od_bl (pd_var 1) (pd_var 0) (nomark _)))) (pd_one (pd_or (pd_isN (pd_var 2)) (pd_one (pd_cmp op_le od_bl (pd_var 0) (pd_var 2) (nomark _))))))))), fun xs G R h => v_is_within xs G R RX h⟩
/-! ### is_list -/
abbrev sp_is_list : DSp := DL.sp_is_list
def r_is_list : DS := (dRet (dIsiT ["list", "tuple"] (dVar 0)))
theorem sc_is_list : FnScope ["value"] ["value"] (defScope st_is_list) := ⟨rfl, rfl, rfl, by decide +kernel, rfl, by decide +kernel, by decide +kernel⟩
theorem v_is_list (xs : List D) (G : Gm) (R : KD) (RX : XD) (h : sp_is_list xs G R RX) : r_is_list { nx := fun _ G => R .non G, rt := R } (xs.map some ++ List.replicate (1 - xs.length) none) G := by
  exact is_list_ok xs G R RX h
theorem l_is_list (xs : List D) (G : Gm) (R : KD) (RX : XD) (h : sp_is_list xs G R RX) : xs.length = 1 := by
  obtain ⟨_, rfl, _⟩ := h
  rfl
set_option maxHeartbeats 4000000 in
theorem k_is_list {P : Program} {w : World} {K : PySem.W.Frag} {mg : Str → Option Value} {base : Heap} (T : Tx mg) (F : Df K mg "is_list" st_is_list) :
    Kn P w K mg base 1 "is_list" st_is_list ["value"] sp_is_list :=
  kn_of F.g F.f sc_is_list l_is_list fun cdv hcv A outer s H E B RX hr hg kx => ⟨r_is_list, (psd_one (psd_ret (pd_isiT rfl (by decide) (by decide) rfl T.f_isinstance (pd_var 0) (pty_cons (pe_ty rfl T.f_list (by decide +kernel)) (pty_cons (pe_ty rfl T.f_tuple (by decide +kernel)) pty_nil))))), fun xs G R h => v_is_list xs G R RX h⟩
/-! ### need_number -/
abbrev sp_need_number : DSp := DL.sp_need_number
def r_need_number : DS := (dIfS (dNot (dTst (dCall sp_is_within X0 (dCons (dVar 0) (dCons (dVar 2) (dCons (dVar 3) dNil)))))) dNever dNext)
theorem sc_need_number : FnScope ["value", "part", "least", "most"] ["value", "part", "least", "most"] (defScope st_need_number) := ⟨rfl, rfl, rfl, by decide +kernel, rfl, by decide +kernel, by decide +kernel⟩
theorem v_need_number (xs : List D) (G : Gm) (R : KD) (RX : XD) (h : sp_need_number xs G R RX) : r_need_number { nx := fun _ G => R .non G, rt := R } (xs.map some ++ List.replicate (4 - xs.length) none) G := by
  exact need_number_ok xs G R RX h
theorem l_need_number (xs : List D) (G : Gm) (R : KD) (RX : XD) (h : sp_need_number xs G R RX) : xs.length = 4 := by
  obtain ⟨_, _, _, _, _, _, rfl, _⟩ := h
  rfl
set_option maxHeartbeats 4000000 in
theorem k_need_number {P : Program} {w : World} {K : PySem.W.Frag} {mg : Str → Option Value} {base : Heap} (T : Tx mg) (F : Df K mg "need_number" st_need_number) (k_is_within : Kn P w K mg base 2 "is_within" st_is_within ["value", "least", "most"] sp_is_within) :
    Kn P w K mg base 3 "need_number" st_need_number ["value", "part", "least", "most"] sp_need_number :=
  kn_of F.g F.f sc_need_number l_need_number fun cdv hcv A outer s H E B RX hr hg kx => ⟨r_need_number, (psd_one (psd_if (ptd_not (ptd_val (pd_call k_is_within (hr.mono (by decide)) hg rfl pass0 kx0 (fun _ _ _ _ _ _ us hl => match us, hl with | [_, _, _], _ => rfl) (pda_cons (pd_var 0) (pda_cons (pd_var 2) (pda_cons (pd_var 3) pda_nil)))))) (psd_one psd_never) psd_nil)), fun xs G R h => v_need_number xs G R RX h⟩
/-! ### fixed -/
def spr_fixed : Nat → DSp := sp_fixedN
abbrev sp_fixed : DSp := spr_fixed 8
def r_fixed (d : Nat) : DS := (dRet (dIf (dTst (dIsiT ["list", "tuple"] (dVar 0))) (dCal fTupOf (dCons (dCmp (dISeq (dVar 0)) (gN 1) dYes (dCall (spr_fixed d) X0 (dCons (dVar 1) dNil)) [1]) dNil)) (dVar 0)))
theorem sc_fixed : FnScope ["value", "each"] ["value"] (defScope st_fixed) := ⟨rfl, rfl, rfl, by decide +kernel, rfl, by decide +kernel, by decide +kernel⟩
theorem v_fixed (d : Nat) (xs : List D) (G : Gm) (R : KD) (RX : XD) (h : spr_fixed (d + 1) xs G R RX) : r_fixed d { nx := fun _ G => R .non G, rt := R } (xs.map some ++ List.replicate (2 - xs.length) none) G := by
  exact fixed_ok d xs G R RX h
theorem n_fixed (xs : List D) (G : Gm) (R : KD) (RX : XD) : ¬ spr_fixed 0 xs G R RX := fun ⟨_, _, h, _⟩ => h
theorem l_fixed (d : Nat) (xs : List D) (G : Gm) (R : KD) (RX : XD) (h : spr_fixed d xs G R RX) : xs.length = 1 := by
  obtain ⟨_, rfl, _⟩ := h
  rfl
set_option maxHeartbeats 4000000 in
theorem ks_fixed {P : Program} {w : World} {K : PySem.W.Frag} {mg : Str → Option Value} {base : Heap} (T : Tx mg) (F : Df K mg "fixed" st_fixed) {d : Nat} (k_fixed : Kn P w K mg base d "fixed" st_fixed ["value"] (spr_fixed d)) : Kn P w K mg base (d + 1) "fixed" st_fixed ["value"] (spr_fixed (d + 1)) :=
  kn_of F.g F.f sc_fixed (l_fixed (d + 1)) fun cdv hcv A outer s H E B RX hr hg kx => ⟨r_fixed d, (psd_one (psd_ret (pd_if (ptd_val (pd_isiT rfl (by decide) (by decide) rfl T.f_isinstance (pd_var 0) (pty_cons (pe_ty rfl T.f_list (by decide +kernel)) (pty_cons (pe_ty rfl T.f_tuple (by decide +kernel)) pty_nil)))) (pd_callTy call_tuple_of cd_tuple rfl T.f_tuple (by decide +kernel) (pda_cons (pd_lc (own := [("each", 1)]) rfl sc_fixed.nd (pid_seq (pd_var 0)) (blkOk_by (N := ["value", "each"]) (sc := defScope st_fixed) (by decide +kernel)) (by decide) (fun _ _ _ _ _ _ => (pgd_name (i := 1) sc_fixed.nd rfl (by first | exact Or.inl rfl | exact Or.inr rfl))) (fun _ _ _ _ _ _ => ptsd_nil) (fun _ _ _ _ _ _ => (pd_call k_fixed hr hg rfl pass0 kx0 (fun _ _ _ _ _ _ us hl => match us, hl with | [_], _ => rfl) (pda_cons (pd_var 1) pda_nil)))) pda_nil)) (pd_var 0)))), fun xs G R h => v_fixed d xs G R RX h⟩
theorem k_fixed {P : Program} {w : World} {K : PySem.W.Frag} {mg : Str → Option Value} {base : Heap} (T : Tx mg) (F : Df K mg "fixed" st_fixed) : ∀ d, Kn P w K mg base d "fixed" st_fixed ["value"] (spr_fixed d)
  | 0 => Kn.never F.g F.f n_fixed
  | d + 1 => ks_fixed T F  (k_fixed T F  d)
/-! ### Paper___init__ -/
abbrev sp_Paper___init__ : DSp := sp_paper cls 8
def r_Paper___init__ : DS := (dSeq (dSetF cls "word" (dVar 1) (dVar 0)) (dSetF cls "parts" (dCall sp_fixed X0 (dCons (dVar 2) dNil)) (dVar 0)))
theorem sc_Paper___init__ : FnScope ["self", "word", "parts"] ["self", "word", "parts"] (defScope st_Paper___init__) := ⟨rfl, rfl, rfl, by decide +kernel, rfl, by decide +kernel, by decide +kernel⟩
theorem v_Paper___init__ (xs : List D) (G : Gm) (R : KD) (RX : XD) (h : sp_Paper___init__ xs G R RX) : r_Paper___init__ { nx := fun _ G => R .non G, rt := R } (xs.map some ++ List.replicate (3 - xs.length) none) G := by
  exact paper_ok xs G R RX h
theorem l_Paper___init__ (xs : List D) (G : Gm) (R : KD) (RX : XD) (h : sp_Paper___init__ xs G R RX) : xs.length = 3 := by
  obtain ⟨_, _, _, _, rfl, _⟩ := h
  rfl
set_option maxHeartbeats 4000000 in
theorem k_Paper___init__ {P : Program} {w : World} {K : PySem.W.Frag} {mg : Str → Option Value} {base : Heap} (T : Tx mg) (F : DfM K "Paper" "__init__" st_Paper___init__) (W : OwC K mg cls subC) (k_fixed : Kn P w K mg base 8 "fixed" st_fixed ["value"] sp_fixed) :
    Sup.FnRG P w K mg base 9 (He.ma K (He.ga K "Paper") "__init__") (spU K (starOf 2 sp_Paper___init__)) :=
  kns_of (ps := ["self", "word"]) (pv := "parts") F.f sc_Paper___init__ (by intro kV doc pm an cdv ct us rest hl; exact StX.bind_star2 (B := fun l => bindArgs (PySem.W.fnOf "__init__" (("Paper" : Str) ++ "." ++ "__init__") (defArgs st_Paper___init__) (defBody st_Paper___init__) (defScope st_Paper___init__) .none kV doc pm an cdv ct) ⟨l, []⟩) (fun a b => rfl) (fun a b r rs => rfl) us rest hl) fun cdv A outer s H E B RX hr hg kx => ⟨r_Paper___init__, (psd_cons (psd_setF W (pd_var 0) (pd_var 1)) (psd_one (psd_setF W (pd_var 0) (pd_call k_fixed (hr.mono (by decide)) hg rfl pass0 kx0 (fun _ _ _ _ _ _ us hl => match us, hl with | [_], _ => rfl) (pda_cons (pd_var 2) pda_nil))))), fun xs G R h => v_Paper___init__ xs G R RX h⟩
/-! ### Paper___bool__ -/
abbrev sp_Paper___bool__ : DSp := spBool true
def r_Paper___bool__ : DS := (dRet (dC (.bl true)))
theorem sc_Paper___bool__ : FnScope ["self"] ["self"] (defScope st_Paper___bool__) := ⟨rfl, rfl, rfl, by decide +kernel, rfl, by decide +kernel, by decide +kernel⟩
theorem v_Paper___bool__ (xs : List D) (G : Gm) (R : KD) (RX : XD) (h : sp_Paper___bool__ xs G R RX) : r_Paper___bool__ { nx := fun _ G => R .non G, rt := R } (xs.map some ++ List.replicate (1 - xs.length) none) G := by
  obtain ⟨y, rfl, h⟩ := h
  exact ds_ret .c h
theorem l_Paper___bool__ (xs : List D) (G : Gm) (R : KD) (RX : XD) (h : sp_Paper___bool__ xs G R RX) : xs.length = 1 := by
  obtain ⟨_, rfl, _⟩ := h
  rfl
set_option maxHeartbeats 4000000 in
theorem k_Paper___bool__ {P : Program} {w : World} {K : PySem.W.Frag} {mg : Str → Option Value} {base : Heap} (T : Tx mg) (F : DfM K "Paper" "__bool__" st_Paper___bool__) :
    KnM P w K mg base 1 "Paper" "__bool__" st_Paper___bool__ ["self"] sp_Paper___bool__ :=
  knm_of F.f sc_Paper___bool__ l_Paper___bool__ fun cdv hcv A outer s H E B RX hr hg kx => ⟨r_Paper___bool__, (psd_one (psd_ret pd_bl)), fun xs G R h => v_Paper___bool__ xs G R RX h⟩
/-! ### Denial___bool__ -/
abbrev sp_Denial___bool__ : DSp := spBool false
def r_Denial___bool__ : DS := (dRet (dC (.bl false)))
theorem sc_Denial___bool__ : FnScope ["self"] ["self"] (defScope st_Denial___bool__) := ⟨rfl, rfl, rfl, by decide +kernel, rfl, by decide +kernel, by decide +kernel⟩
theorem v_Denial___bool__ (xs : List D) (G : Gm) (R : KD) (RX : XD) (h : sp_Denial___bool__ xs G R RX) : r_Denial___bool__ { nx := fun _ G => R .non G, rt := R } (xs.map some ++ List.replicate (1 - xs.length) none) G := by
  obtain ⟨y, rfl, h⟩ := h
  exact ds_ret .c h
theorem l_Denial___bool__ (xs : List D) (G : Gm) (R : KD) (RX : XD) (h : sp_Denial___bool__ xs G R RX) : xs.length = 1 := by
  obtain ⟨_, rfl, _⟩ := h
  rfl
set_option maxHeartbeats 4000000 in
theorem k_Denial___bool__ {P : Program} {w : World} {K : PySem.W.Frag} {mg : Str → Option Value} {base : Heap} (T : Tx mg) (F : DfM K "Denial" "__bool__" st_Denial___bool__) :
    KnM P w K mg base 1 "Denial" "__bool__" st_Denial___bool__ ["self"] sp_Denial___bool__ :=
  knm_of F.f sc_Denial___bool__ l_Denial___bool__ fun cdv hcv A outer s H E B RX hr hg kx => ⟨r_Denial___bool__, (psd_one (psd_ret pd_bl)), fun xs G R h => v_Denial___bool__ xs G R RX h⟩
/-! ### is_line -/
abbrev sp_is_line : DSp := DL.sp_is_line
def r_is_line : DS := (dSeq (dIfS (dOr (dNot (dTst (dCall sp_is_list X0 (dCons (dVar 0) dNil)))) (dOr (dTst (dOp fEq (dCal fLen (dCons (dVar 0) dNil)) (dC (.int 0)))) (dNot (dTst (dCal (fIsi "str") (dCons (dIx (dVar 0) (dC (.int 0))) (dCons (dC (.ty "str")) dNil))))))) (dRet (dC (.bl false))) dNext) (dSeq (dIfS (dTst (dOp fEq (dIx (dVar 0) (dC (.int 0))) (dC (.str "stop")))) (dRet (dOp fEq (dCal fLen (dCons (dVar 0) dNil)) (dC (.int 1)))) dNext) (dSeq (dIfS (dOr (dTst (dInK kv_ENDS true (dIx (dVar 0) (dC (.int 0))))) (dOr (dTst (dOp fNe (dCal fLen (dCons (dVar 0) dNil)) (dOp fAdd (dIxK kv_ENDS (dIx (dVar 0) (dC (.int 0)))) (dC (.int 2))))) (dNot (dTst (dCall sp_is_within X0 (dCons (dIx (dVar 0) (dC (.int 1))) (dCons (dC (.int 0)) (dCons (dC (.int 1)) dNil)))))))) (dRet (dC (.bl false))) dNext) (dRet (dCal fAll (dCons (dCmp (dISeq (dSl (dVar 0) (dPart (dC (.int 2))) dNoP)) (gN 2) dYes (dCall sp_is_within X0 (dCons (dVar 2) (dCons (dC (.int 0)) (dCons (dOp (fInt fun i j => .int (i - j)) (dVar 1) (dC (.int 1))) dNil)))) [2]) dNil))))))
theorem sc_is_line : FnScope ["value", "many", "each"] ["value", "many"] (defScope st_is_line) := ⟨rfl, rfl, rfl, by decide +kernel, rfl, by decide +kernel, by decide +kernel⟩
theorem v_is_line (xs : List D) (G : Gm) (R : KD) (RX : XD) (h : sp_is_line xs G R RX) : r_is_line { nx := fun _ G => R .non G, rt := R } (xs.map some ++ List.replicate (3 - xs.length) none) G := by
  exact is_line_ok xs G R RX h
theorem l_is_line (xs : List D) (G : Gm) (R : KD) (RX : XD) (h : sp_is_line xs G R RX) : xs.length = 2 := by
  obtain ⟨_, _, _, rfl, _⟩ := h
  rfl
set_option maxHeartbeats 4000000 in
theorem k_is_line {P : Program} {w : World} {K : PySem.W.Frag} {mg : Str → Option Value} {base : Heap} (T : Tx mg) (F : Df K mg "is_line" st_is_line) (dk_ENDS : DctK K w mg "ENDS" kv_ENDS) (k_is_within : Kn P w K mg base 2 "is_within" st_is_within ["value", "least", "most"] sp_is_within) (k_is_list : Kn P w K mg base 1 "is_list" st_is_list ["value"] sp_is_list) :
    Kn P w K mg base 3 "is_line" st_is_line ["value", "many"] sp_is_line :=
  kn_of F.g F.f sc_is_line l_is_line fun cdv hcv A outer s H E B RX hr hg kx => ⟨r_is_line, (psd_cons (psd_if (PW.pt (pwd_or (ptd_not (ptd_val (pd_call k_is_list (hr.mono (by decide)) hg rfl pass0 kx0 (fun _ _ _ _ _ _ us hl => match us, hl with | [_], _ => rfl) (pda_cons (pd_var 0) pda_nil)))) (pwd_or (ptd_cmp (op_eq2 hr.units) od_eq (pd_len rfl rfl T.f_len (pd_var 0)) pd_int (nomark _)) (pwd_or1 (ptd_not (ptd_val (pd_isi rfl (by decide) rfl T.f_isinstance (pd_ix (pd_var 0) pd_int (fun _ _ => rfl)) (pd_bty rfl T.f_str (by decide +kernel))))))))) (psd_one (psd_ret pd_bl)) psd_nil) (psd_cons (psd_if (ptd_cmp (op_eq2 hr.units) od_eq (pd_ix (pd_var 0) pd_int (fun _ _ => rfl)) (pd_gstr rfl T.c_STOP) (nomark _)) (psd_one (psd_ret (pd_cmp (op_eq2 hr.units) od_eq (pd_len rfl rfl T.f_len (pd_var 0)) pd_int (nomark _)))) psd_nil) (psd_cons (psd_if (PW.pt (pwd_or (ptd_notInK dk_ENDS rfl (pd_ix (pd_var 0) pd_int (fun _ _ => rfl))) (pwd_or (ptd_cmp (op_ne2 hr.units) od_ne (pd_len rfl rfl T.f_len (pd_var 0)) (pd_add (pd_ixK dk_ENDS rfl (pd_ix (pd_var 0) pd_int (fun _ _ => rfl)) (fun _ _ => rfl)) pd_int) (nomark _)) (pwd_or1 (ptd_not (ptd_val (pd_call k_is_within (hr.mono (by decide)) hg rfl pass0 kx0 (fun _ _ _ _ _ _ us hl => match us, hl with | [_, _, _], _ => rfl) (pda_cons (pd_ix (pd_var 0) pd_int (fun _ _ => rfl)) (pda_cons pd_int (pda_cons (pd_gint rfl T.c_LAST_BOX) pda_nil)))))))))) (psd_one (psd_ret pd_bl)) psd_nil) (psd_one (psd_ret (pd_callB (cr_all rfl) cd_all rfl T.f_all (by decide +kernel) (pda_cons (pd_lc (own := [("each", 2)]) rfl sc_is_line.nd (pid_seq (pd_slice (pd_var 0) (pod_some pd_int) pod_none)) (blkOk_by (N := ["value", "many", "each"]) (sc := defScope st_is_line) (by decide +kernel)) (by decide) (fun _ _ _ _ _ _ => (pgd_name (i := 2) sc_is_line.nd rfl (by first | exact Or.inl rfl | exact Or.inr rfl))) (fun _ _ _ _ _ _ => ptsd_nil) (fun _ _ _ _ _ _ => (pd_call k_is_within (hr.mono (by decide)) hg rfl pass0 kx0 (fun _ _ _ _ _ _ us hl => match us, hl with | [_, _, _], _ => rfl) (pda_cons (pd_var 2) (pda_cons pd_int (pda_cons (pd_sub (pd_var 1) pd_int) pda_nil)))))) pda_nil))))))), fun xs G R h => v_is_line xs G R RX h⟩
/-! ### Program___init__ -/
abbrev sp_Program___init__ : DSp := sp_prog
def r_Program___init__ : DS := (dSeq (dIfS (dOr (dNot (dTst (dCall sp_is_list X0 (dCons (dVar 1) dNil)))) (dNot (dTst (dChain (fInt gLe) (fInt gLe) (dC (.int 1)) (dCal fLen (dCons (dVar 1) dNil)) (dC (.int 15)))))) dNever dNext) (dSeq (dIfS (dNot (dTst (dCal fAll (dCons (dCmp (dISeq (dVar 1)) (gN 2) dYes (dCall sp_is_line X0 (dCons (dVar 2) (dCons (dCal fLen (dCons (dVar 1) dNil)) dNil))) [2]) dNil)))) dNever dNext) (dSetF cls "lines" (dCal fTupOf (dCons (dCmp (dISeq (dVar 1)) (gN 2) dYes (dCal fTupOf (dCons (dVar 2) dNil)) [2]) dNil)) (dVar 0))))
theorem sc_Program___init__ : FnScope ["self", "lines", "line"] ["self", "lines"] (defScope st_Program___init__) := ⟨rfl, rfl, rfl, by decide +kernel, rfl, by decide +kernel, by decide +kernel⟩
theorem v_Program___init__ (xs : List D) (G : Gm) (R : KD) (RX : XD) (h : sp_Program___init__ xs G R RX) : r_Program___init__ { nx := fun _ G => R .non G, rt := R } (xs.map some ++ List.replicate (3 - xs.length) none) G := by
  exact prog_ok (cl := cls) (by decide +kernel) xs G R RX h
theorem l_Program___init__ (xs : List D) (G : Gm) (R : KD) (RX : XD) (h : sp_Program___init__ xs G R RX) : xs.length = 2 := by
  obtain ⟨_, _, _, rfl, _⟩ := h
  rfl
set_option maxHeartbeats 4000000 in
theorem k_Program___init__ {P : Program} {w : World} {K : PySem.W.Frag} {mg : Str → Option Value} {base : Heap} (T : Tx mg) (F : DfM K "Program" "__init__" st_Program___init__) (W : OwC K mg cls subC) (k_is_list : Kn P w K mg base 1 "is_list" st_is_list ["value"] sp_is_list) (k_is_line : Kn P w K mg base 3 "is_line" st_is_line ["value", "many"] sp_is_line) :
    KnM P w K mg base 4 "Program" "__init__" st_Program___init__ ["self", "lines"] sp_Program___init__ :=
  knm_of F.f sc_Program___init__ l_Program___init__ fun cdv hcv A outer s H E B RX hr hg kx => ⟨r_Program___init__, (psd_cons (psd_if (PW.pt (pwd_or (ptd_not (ptd_val (pd_call k_is_list (hr.mono (by decide)) hg rfl pass0 kx0 (fun _ _ _ _ _ _ us hl => match us, hl with | [_], _ => rfl) (pda_cons (pd_var 1) pda_nil)))) (pwd_or1 (ptd_not (ptd_chain op_le op_le od_bl od_bl pd_int (pd_len rfl rfl T.f_len (pd_var 1)) (pd_gint rfl T.c_MOST_LINES)))))) (psd_one psd_never) psd_nil) (psd_cons (psd_if (ptd_not (ptd_val (pd_callB (cr_all rfl) cd_all rfl T.f_all (by decide +kernel) (pda_cons (pd_lc (own := [("line", 2)]) rfl sc_Program___init__.nd (pid_seq (pd_var 1)) (blkOk_by (N := ["self", "lines", "line"]) (sc := defScope st_Program___init__) (by decide +kernel)) (by decide) (fun _ _ _ _ _ _ => (pgd_name (i := 2) sc_Program___init__.nd rfl (by first | exact Or.inl rfl | exact Or.inr rfl))) (fun _ _ _ _ _ _ => ptsd_nil) (fun _ _ _ _ _ _ => (pd_call k_is_line (hr.mono (by decide)) hg rfl pass0 kx0 (fun _ _ _ _ _ _ us hl => match us, hl with | [_, _], _ => rfl) (pda_cons (pd_var 2) (pda_cons (pd_len rfl rfl T.f_len (pd_var 1)) pda_nil))))) pda_nil)))) (psd_one psd_never) psd_nil) (psd_one (psd_setF W (pd_var 0) (pd_callTy call_tuple_of cd_tuple rfl T.f_tuple (by decide +kernel) (pda_cons (pd_lc (own := [("line", 2)]) rfl sc_Program___init__.nd (pid_seq (pd_var 1)) (blkOk_by (N := ["self", "lines", "line"]) (sc := defScope st_Program___init__) (by decide +kernel)) (by decide) (fun _ _ _ _ _ _ => (pgd_name (i := 2) sc_Program___init__.nd rfl (by first | exact Or.inl rfl | exact Or.inr rfl))) (fun _ _ _ _ _ _ => ptsd_nil) (fun _ _ _ _ _ _ => (pd_callTy call_tuple_of cd_tuple rfl T.f_tuple (by decide +kernel) (pda_cons (pd_var 2) pda_nil)))) pda_nil)))))), fun xs G R h => v_Program___init__ xs G R RX h⟩
/-! ### need_program -/
abbrev sp_need_program : DSp := DL.sp_need_program
def r_need_program : DS := (dIfS (dNot (dTst (dIsW cls subC "Program" (dVar 0)))) dNever dNext)
theorem sc_need_program : FnScope ["value", "part"] ["value", "part"] (defScope st_need_program) := ⟨rfl, rfl, rfl, by decide +kernel, rfl, by decide +kernel, by decide +kernel⟩
theorem v_need_program (xs : List D) (G : Gm) (R : KD) (RX : XD) (h : sp_need_program xs G R RX) : r_need_program { nx := fun _ G => R .non G, rt := R } (xs.map some ++ List.replicate (2 - xs.length) none) G := by
  exact need_program_ok (cl := cls) (sub := subC) (by decide +kernel) (by decide +kernel) xs G R RX h
theorem l_need_program (xs : List D) (G : Gm) (R : KD) (RX : XD) (h : sp_need_program xs G R RX) : xs.length = 2 := by
  obtain ⟨_, _, rfl, _⟩ := h
  rfl
set_option maxHeartbeats 4000000 in
theorem k_need_program {P : Program} {w : World} {K : PySem.W.Frag} {mg : Str → Option Value} {base : Heap} (T : Tx mg) (F : DfD K mg "need_program" st_need_program [V.str "program"]) (W : OwC K mg cls subC) :
    KnD P w K mg base 1 "need_program" st_need_program ["value", "part"] [V.str "program"] sp_need_program :=
  knd_of F.g F.f sc_need_program l_need_program fun cdv hcv A outer s H E B RX hr hg kx => ⟨r_need_program, (psd_one (psd_if (ptd_not (ptd_val (pd_isW W rfl rfl rfl T.f_isinstance rfl (pd_var 0)))) (psd_one psd_never) psd_nil)), fun xs G R h => v_need_program xs G R RX h⟩
/-! ### Runs___init__ -/
abbrev sp_Runs___init__ : DSp := sp_paper1 7 "Runs" "runs" "stands"
def r_Runs___init__ : DS := (dSup "Runs" (starOf 2 sp_Paper___init__) X0 (dCons (dC (.str "runs")) (dCons (dVar 1) dNil)) (dSetF cls "stands" (dIx (dFld cls "parts" (dVar 0)) (dC (.int 0))) (dVar 0)))
theorem sc_Runs___init__ : Sup.ScopeS ["self", "stands"] ["self", "stands"] (defScope st_Runs___init__) := ⟨rfl, rfl, rfl, by decide +kernel, rfl, by decide +kernel, by decide +kernel, by decide +kernel, rfl, rfl⟩
theorem v_Runs___init__ (xs : List D) (G : Gm) (R : KD) (RX : XD) (h : sp_Runs___init__ xs G R RX) : r_Runs___init__ { nx := fun _ G => R .non G, rt := R } (xs.map some ++ List.replicate (2 - xs.length) none) G := by
  exact paper1_ok (cl := cls) (by decide +kernel) (by decide +kernel) (by decide +kernel) (by decide +kernel) xs G R RX h
theorem l_Runs___init__ (xs : List D) (G : Gm) (R : KD) (RX : XD) (h : sp_Runs___init__ xs G R RX) : xs.length = 2 := by
  obtain ⟨_, _, rfl, _⟩ := h
  rfl
set_option maxHeartbeats 4000000 in
theorem k_Runs___init__ {P : Program} {w : World} {K : PySem.W.Frag} {mg : Str → Option Value} {base : Heap} (T : Tx mg) (SOx : ∃ cda cc, Sup.SupO P K (He.ma K (He.ga K "Runs") "__init__") cda cc (He.ga K "Runs") "__init__" (("Runs" : Str) ++ "." ++ "__init__") (defArgs st_Runs___init__) (defBody st_Runs___init__) (defScope st_Runs___init__) (He.ma K (He.ga K "Paper") "__init__")) (W : OwC K mg cls subC) (k_Paper___init__ : Sup.FnRG P w K mg base 9 (He.ma K (He.ga K "Paper") "__init__") (spU K (starOf 2 sp_Paper___init__))) :
    KnI P w K mg base 10 "Runs" st_Runs___init__ ["self", "stands"] sp_Runs___init__ := by
  obtain ⟨cda, cc, SO⟩ := SOx
  have S := sc_Runs___init__
  exact kni_sup SO S l_Runs___init__ fun A outer s H E B RX hr hg kx => ⟨r_Runs___init__, (PSsS.imp (Sup.psS_supO (pl := pure false) S SO k_Paper___init__ (hr.mono (by decide)) hg pass0 rfl rfl rfl (pda_cons pd_str (pda_cons (pd_var 1) pda_nil)) (psd_one (psd_setF W (pd_var 0) (pd_ix (pd_fld W (pd_var 0)) pd_int (fun _ _ => rfl))))) (sup_imp kx0)), fun xs G R h => v_Runs___init__ xs G R RX h⟩
/-! ### Ends___init__ -/
abbrev sp_Ends___init__ : DSp := sp_paper2 7 "Ends" "ends" "ending" "stands"
def r_Ends___init__ : DS := (dSup "Ends" (starOf 2 sp_Paper___init__) X0 (dCons (dC (.str "ends")) (dCons (dVar 1) (dCons (dVar 2) dNil))) (dAsg (dFld cls "parts" (dVar 0)) (gSeq 2 (gCons (gF cls "ending" (dVar 0)) (gCons (gF cls "stands" (dVar 0)) gNil)))))
theorem sc_Ends___init__ : Sup.ScopeS ["self", "ending", "stands"] ["self", "ending", "stands"] (defScope st_Ends___init__) := ⟨rfl, rfl, rfl, by decide +kernel, rfl, by decide +kernel, by decide +kernel, by decide +kernel, rfl, rfl⟩
theorem v_Ends___init__ (xs : List D) (G : Gm) (R : KD) (RX : XD) (h : sp_Ends___init__ xs G R RX) : r_Ends___init__ { nx := fun _ G => R .non G, rt := R } (xs.map some ++ List.replicate (3 - xs.length) none) G := by
  exact paper2_ok (cl := cls) (by decide +kernel) (by decide +kernel) (by decide +kernel) (by decide +kernel) (by decide +kernel) (by decide +kernel) xs G R RX h
theorem l_Ends___init__ (xs : List D) (G : Gm) (R : KD) (RX : XD) (h : sp_Ends___init__ xs G R RX) : xs.length = 3 := by
  obtain ⟨_, _, _, rfl, _⟩ := h
  rfl
set_option maxHeartbeats 4000000 in
theorem k_Ends___init__ {P : Program} {w : World} {K : PySem.W.Frag} {mg : Str → Option Value} {base : Heap} (T : Tx mg) (SOx : ∃ cda cc, Sup.SupO P K (He.ma K (He.ga K "Ends") "__init__") cda cc (He.ga K "Ends") "__init__" (("Ends" : Str) ++ "." ++ "__init__") (defArgs st_Ends___init__) (defBody st_Ends___init__) (defScope st_Ends___init__) (He.ma K (He.ga K "Paper") "__init__")) (W : OwC K mg cls subC) (k_Paper___init__ : Sup.FnRG P w K mg base 9 (He.ma K (He.ga K "Paper") "__init__") (spU K (starOf 2 sp_Paper___init__))) :
    KnI P w K mg base 10 "Ends" st_Ends___init__ ["self", "ending", "stands"] sp_Ends___init__ := by
  obtain ⟨cda, cc, SO⟩ := SOx
  have S := sc_Ends___init__
  exact kni_sup SO S l_Ends___init__ fun A outer s H E B RX hr hg kx => ⟨r_Ends___init__, (PSsS.imp (Sup.psS_supO (pl := pure false) S SO k_Paper___init__ (hr.mono (by decide)) hg pass0 rfl rfl rfl (pda_cons pd_str (pda_cons (pd_var 1) (pda_cons (pd_var 2) pda_nil))) (psd_one (psd_asg (pd_fld W (pd_var 0)) (pgd_seq rfl (pgsd_cons (pgd_fld W (pd_var 0)) (pgsd_cons (pgd_fld W (pd_var 0)) pgsd_nil)))))) (sup_imp kx0)), fun xs G R h => v_Ends___init__ xs G R RX h⟩
/-! ### is_contents -/
abbrev sp_is_contents : DSp := DL.sp_is_contents
def r_is_contents : DS := (dRet (dOrV (dIsN (dVar 0)) (dCall sp_is_within X0 (dCons (dVar 0) (dCons (dC (.int 0)) (dCons (dC .non) dNil))))))
theorem sc_is_contents : FnScope ["value"] ["value"] (defScope st_is_contents) := ⟨rfl, rfl, rfl, by decide +kernel, rfl, by decide +kernel, by decide +kernel⟩
theorem v_is_contents (xs : List D) (G : Gm) (R : KD) (RX : XD) (h : sp_is_contents xs G R RX) : r_is_contents { nx := fun _ G => R .non G, rt := R } (xs.map some ++ List.replicate (1 - xs.length) none) G := by
  exact is_contents_ok xs G R RX h
theorem l_is_contents (xs : List D) (G : Gm) (R : KD) (RX : XD) (h : sp_is_contents xs G R RX) : xs.length = 1 := by
  obtain ⟨_, rfl, _⟩ := h
  rfl
set_option maxHeartbeats 4000000 in
theorem k_is_contents {P : Program} {w : World} {K : PySem.W.Frag} {mg : Str → Option Value} {base : Heap} (T : Tx mg) (F : Df K mg "is_contents" st_is_contents) (k_is_within : Kn P w K mg base 2 "is_within" st_is_within ["value", "least", "most"] sp_is_within) :
    Kn P w K mg base 3 "is_contents" st_is_contents ["value"] sp_is_contents :=
  kn_of F.g F.f sc_is_contents l_is_contents fun cdv hcv A outer s H E B RX hr hg kx => ⟨r_is_contents, (psd_one (psd_ret (pd_or (pd_isN (pd_var 0)) (pd_one (pd_call k_is_within (hr.mono (by decide)) hg rfl pass0 kx0 (fun _ _ _ _ _ _ us hl => match us, hl with | [_, _, _], _ => rfl) (pda_cons (pd_var 0) (pda_cons pd_int (pda_cons pd_non pda_nil)))))))), fun xs G R h => v_is_contents xs G R RX h⟩
/-! ### need_stand -/
abbrev sp_need_stand : DSp := DL.sp_need_stand
def r_need_stand : DS := (dSeq (dIfS (dOr (dNot (dTst (dCall sp_is_list X0 (dCons (dVar 1) dNil)))) (dOr (dTst (dOp fNe (dCal fLen (dCons (dVar 1) dNil)) (dC (.int 3)))) (dNot (dTst (dCall sp_is_within X0 (dCons (dIx (dVar 1) (dC (.int 0))) (dCons (dC (.int 0)) (dCons (dOp (fInt fun i j => .int (i - j)) (dCal fLen (dCons (dFld cls "lines" (dVar 0)) dNil)) (dC (.int 1))) dNil)))))))) dNever dNext) (dSeq (dIfS (dOr (dNot (dTst (dCall sp_is_contents X0 (dCons (dIx (dVar 1) (dC (.int 1))) dNil)))) (dNot (dTst (dCall sp_is_contents X0 (dCons (dIx (dVar 1) (dC (.int 2))) dNil))))) dNever dNext) (dRet (dCal fTupOf (dCons (dVar 1) dNil)))))
theorem sc_need_stand : FnScope ["program", "value"] ["program", "value"] (defScope st_need_stand) := ⟨rfl, rfl, rfl, by decide +kernel, rfl, by decide +kernel, by decide +kernel⟩
theorem v_need_stand (xs : List D) (G : Gm) (R : KD) (RX : XD) (h : sp_need_stand xs G R RX) : r_need_stand { nx := fun _ G => R .non G, rt := R } (xs.map some ++ List.replicate (2 - xs.length) none) G := by
  exact need_stand_ok (cl := cls) (by decide +kernel) xs G R RX h
theorem l_need_stand (xs : List D) (G : Gm) (R : KD) (RX : XD) (h : sp_need_stand xs G R RX) : xs.length = 2 := by
  obtain ⟨_, _, _, rfl, _⟩ := h
  rfl
set_option maxHeartbeats 4000000 in
theorem k_need_stand {P : Program} {w : World} {K : PySem.W.Frag} {mg : Str → Option Value} {base : Heap} (T : Tx mg) (F : Df K mg "need_stand" st_need_stand) (W : OwC K mg cls subC) (k_is_within : Kn P w K mg base 2 "is_within" st_is_within ["value", "least", "most"] sp_is_within) (k_is_list : Kn P w K mg base 1 "is_list" st_is_list ["value"] sp_is_list) (k_is_contents : Kn P w K mg base 3 "is_contents" st_is_contents ["value"] sp_is_contents) :
    Kn P w K mg base 4 "need_stand" st_need_stand ["program", "value"] sp_need_stand :=
  kn_of F.g F.f sc_need_stand l_need_stand fun cdv hcv A outer s H E B RX hr hg kx => ⟨r_need_stand, (psd_cons (psd_if (PW.pt (pwd_or (ptd_not (ptd_val (pd_call k_is_list (hr.mono (by decide)) hg rfl pass0 kx0 (fun _ _ _ _ _ _ us hl => match us, hl with | [_], _ => rfl) (pda_cons (pd_var 1) pda_nil)))) (pwd_or (ptd_cmp (op_ne2 hr.units) od_ne (pd_len rfl rfl T.f_len (pd_var 1)) pd_int (nomark _)) (pwd_or1 (ptd_not (ptd_val (pd_call k_is_within (hr.mono (by decide)) hg rfl pass0 kx0 (fun _ _ _ _ _ _ us hl => match us, hl with | [_, _, _], _ => rfl) (pda_cons (pd_ix (pd_var 1) pd_int (fun _ _ => rfl)) (pda_cons pd_int (pda_cons (pd_sub (pd_len rfl rfl T.f_len (pd_fld W (pd_var 0))) pd_int) pda_nil)))))))))) (psd_one psd_never) psd_nil) (psd_cons (psd_if (PW.pt (pwd_or (ptd_not (ptd_val (pd_call k_is_contents (hr.mono (by decide)) hg rfl pass0 kx0 (fun _ _ _ _ _ _ us hl => match us, hl with | [_], _ => rfl) (pda_cons (pd_ix (pd_var 1) pd_int (fun _ _ => rfl)) pda_nil)))) (pwd_or1 (ptd_not (ptd_val (pd_call k_is_contents (hr.mono (by decide)) hg rfl pass0 kx0 (fun _ _ _ _ _ _ us hl => match us, hl with | [_], _ => rfl) (pda_cons (pd_ix (pd_var 1) pd_int (fun _ _ => rfl)) pda_nil))))))) (psd_one psd_never) psd_nil) (psd_one (psd_ret (pd_callTy call_tuple_of cd_tuple rfl T.f_tuple (by decide +kernel) (pda_cons (pd_var 1) pda_nil)))))), fun xs G R h => v_need_stand xs G R RX h⟩
/-! ### changed -/
abbrev sp_changed : DSp := DL.sp_changed
def r_changed : DS := (dSeq (dIfS (dTst (dIsN (dVar 0))) (dRet (dC .non)) dNext) (dRet (dOp (fInt fun i j => .int (i - j)) (dOp fAdd (dVar 0) (dCal fIntOf (dCons (dOp fEq (dVar 1) (dC (.str "up"))) dNil))) (dCal fIntOf (dCons (dOp fEq (dVar 1) (dC (.str "down"))) dNil)))))
theorem sc_changed : FnScope ["contents", "word"] ["contents", "word"] (defScope st_changed) := ⟨rfl, rfl, rfl, by decide +kernel, rfl, by decide +kernel, by decide +kernel⟩
theorem v_changed (xs : List D) (G : Gm) (R : KD) (RX : XD) (h : sp_changed xs G R RX) : r_changed { nx := fun _ G => R .non G, rt := R } (xs.map some ++ List.replicate (2 - xs.length) none) G := by
  exact changed_ok xs G R RX h
theorem l_changed (xs : List D) (G : Gm) (R : KD) (RX : XD) (h : sp_changed xs G R RX) : xs.length = 2 := by
  obtain ⟨_, _, rfl, _⟩ := h
  rfl
set_option maxHeartbeats 4000000 in
theorem k_changed {P : Program} {w : World} {K : PySem.W.Frag} {mg : Str → Option Value} {base : Heap} (T : Tx mg) (F : Df K mg "changed" st_changed) :
    Kn P w K mg base 1 "changed" st_changed ["contents", "word"] sp_changed :=
  kn_of F.g F.f sc_changed l_changed fun cdv hcv A outer s H E B RX hr hg kx => ⟨r_changed, (psd_cons (psd_if (ptd_isN (pd_var 0)) (psd_one (psd_ret pd_non)) psd_nil) (psd_one (psd_ret (pd_sub (pd_add (pd_var 0) (pd_callTy call_int1 cd_int rfl T.f_int (by decide +kernel) (pda_cons (pd_cmp (op_eq2 hr.units) od_eq (pd_var 1) (pd_gstr rfl T.c_UP) (nomark _)) pda_nil))) (pd_callTy call_int1 cd_int rfl T.f_int (by decide +kernel) (pda_cons (pd_cmp (op_eq2 hr.units) od_eq (pd_var 1) (pd_gstr rfl T.c_DOWN) (nomark _)) pda_nil)))))), fun xs G R h => v_changed xs G R RX h⟩
/-! ### next_in -/
abbrev sp_next_in : DSp := sp_next
def r_next_in : DS := (dGcE (dSeq (dSet 2 (dIx (dFld cls "lines" (dVar 0)) (dIx (dVar 1) (dC (.int 0))))) (dSeq (dIfS (dTst (dOp fEq (dIx (dVar 2) (dC (.int 0))) (dC (.str "stop")))) (dRet (dC .non)) dNext) (dSeq (dPar 3 4 (dCons (dLstOfM (dCons (dSl (dVar 1) (dPart (dC (.int 1))) dNoP) dNil)) (dCons (dIx (dVar 2) (dC (.int 1))) dNil))) (dSeq (dIfS (dAnd (dTst (dOp fEq (dIx (dVar 2) (dC (.int 0))) (dC (.str "down")))) (dTst (dOp fEq (dIx (dVar 3) (dVar 4)) (dC (.int 0))))) (dRet (dC .non)) dNext) (dSeq (dSet 5 (dIf (dOr (dTst (dOp fNe (dIx (dVar 2) (dC (.int 0))) (dC (.str "test")))) (dTst (dOp fEq (dIx (dVar 3) (dVar 4)) (dC (.int 0))))) (dIx (dVar 2) (dC (.int 2))) (dIx (dVar 2) (dC (.int 3))))) (dSeq (dSetIx (dCall sp_changed X0 (dCons (dIx (dVar 3) (dVar 4)) (dCons (dIx (dVar 2) (dC (.int 0))) dNil))) (dVar 3) (dVar 4)) (dRet (dTup (dCons (dVar 5) (dCons (dIx (dVar 3) (dC (.int 0))) (dCons (dIx (dVar 3) (dC (.int 1))) dNil))))))))))))
theorem sc_next_in : FnScope ["program", "stand", "line", "boxes", "box", "goal"] ["program", "stand"] (defScope st_next_in) := ⟨rfl, rfl, rfl, by decide +kernel, rfl, by decide +kernel, by decide +kernel⟩
theorem v_next_in (xs : List D) (G : Gm) (R : KD) (RX : XD) (h : sp_next_in xs G R RX) : r_next_in { nx := fun _ G => R .non G, rt := R } (xs.map some ++ List.replicate (6 - xs.length) none) G := by
  exact next_ok (cl := cls) (by decide +kernel) xs G R RX h
theorem l_next_in (xs : List D) (G : Gm) (R : KD) (RX : XD) (h : sp_next_in xs G R RX) : xs.length = 2 := by
  obtain ⟨_, _, rfl, _⟩ := h
  rfl
set_option maxHeartbeats 4000000 in
theorem k_next_in {P : Program} {w : World} {K : PySem.W.Frag} {mg : Str → Option Value} {base : Heap} (T : Tx mg) (F : Df K mg "next_in" st_next_in) (W : OwC K mg cls subC) (k_changed : Kn P w K mg base 1 "changed" st_changed ["contents", "word"] sp_changed) :
    Kn P w K mg base 2 "next_in" st_next_in ["program", "stand"] sp_next_in :=
  kn_of F.g F.f sc_next_in l_next_in fun cdv hcv A outer s H E B RX hr hg kx => ⟨r_next_in, (pssd_gc (psd_cons (psd_set (i := 2) sc_next_in.nd rfl (by first | exact Or.inl rfl | exact Or.inr rfl) (pd_ix (pd_fld W (pd_var 0)) (pd_ix (pd_var 1) pd_int (fun _ _ => rfl)) (fun _ _ => rfl))) (psd_cons (psd_if (ptd_cmp (op_eq2 hr.units) od_eq (pd_ix (pd_var 2) pd_int (fun _ _ => rfl)) (pd_gstr rfl T.c_STOP) (nomark _)) (psd_one (psd_ret pd_non)) psd_nil) (psd_cons (psd_par (i := 3) (j := 4) rfl sc_next_in.nd rfl rfl (by decide) rfl rfl (pda_cons (pd_lstOfM rfl rfl T.f_list (pda_cons (pd_slice (pd_var 1) (pod_some pd_int) pod_none) pda_nil)) (pda_cons (pd_ix (pd_var 2) pd_int (fun _ _ => rfl)) pda_nil)) rfl) (psd_cons (psd_if (PW.pt (pwd_and (ptd_cmp (op_eq2 hr.units) od_eq (pd_ix (pd_var 2) pd_int (fun _ _ => rfl)) (pd_gstr rfl T.c_DOWN) (nomark _)) (pwd_and1 (ptd_cmp (op_eq2 hr.units) od_eq (pd_ix (pd_var 3) (pd_var 4) (fun _ _ => rfl)) pd_int (nomark _))))) (psd_one (psd_ret pd_non)) psd_nil) (psd_cons (psd_set (i := 5) sc_next_in.nd rfl (by first | exact Or.inl rfl | exact Or.inr rfl) (pd_if (PW.pt (pwd_or (ptd_cmp (op_ne2 hr.units) od_ne (pd_ix (pd_var 2) pd_int (fun _ _ => rfl)) (pd_gstr rfl T.c_TEST) (nomark _)) (pwd_or1 (ptd_cmp (op_eq2 hr.units) od_eq (pd_ix (pd_var 3) (pd_var 4) (fun _ _ => rfl)) pd_int (nomark _))))) (pd_ix (pd_var 2) pd_int (fun _ _ => rfl)) (pd_ix (pd_var 2) pd_int (fun _ _ => rfl)))) (psd_cons (psd_setIx (pd_call k_changed (hr.mono (by decide)) hg rfl pass0 kx0 (fun _ _ _ _ _ _ us hl => match us, hl with | [_, _], _ => rfl) (pda_cons (pd_ix (pd_var 3) (pd_var 4) (fun _ _ => rfl)) (pda_cons (pd_ix (pd_var 2) pd_int (fun _ _ => rfl)) pda_nil))) (pd_var 3) (pd_var 4)) (psd_one (psd_ret (pd_tup (pda_cons (pd_var 5) (pda_cons (pd_ix (pd_var 3) pd_int (fun _ _ => rfl)) (pda_cons (pd_ix (pd_var 3) pd_int (fun _ _ => rfl)) pda_nil))))))))))))), fun xs G R h => v_next_in xs G R RX h⟩
/-! ### stands_on -/
abbrev sp_stands_on : DSp := sp_stands
def r_stands_on : DS := (dSeq (dSet 3 (dLstM (dCons (dVar 1) dNil))) (dSeq (dWhile (dTst (dOp (fInt gLe) (dCal fLen (dCons (dVar 3) dNil)) (dVar 2))) (dSeq (dSet 4 (dCall sp_next_in X0 (dCons (dVar 0) (dCons (dIx (dVar 3) (dNeg (dC (.int 1)))) dNil)))) (dSeq (dIfS (dTst (dIsN (dVar 4))) dBreak dNext) (dDrop (dApp (dVar 3) (dVar 4)))))) (dFrz 3 (dRet (dVar 3)))))
theorem sc_stands_on : FnScope ["program", "stand", "steps", "found", "later"] ["program", "stand", "steps"] (defScope st_stands_on) := ⟨rfl, rfl, rfl, by decide +kernel, rfl, by decide +kernel, by decide +kernel⟩
theorem v_stands_on (xs : List D) (G : Gm) (R : KD) (RX : XD) (h : sp_stands_on xs G R RX) : r_stands_on { nx := fun _ G => R .non G, rt := R } (xs.map some ++ List.replicate (5 - xs.length) none) G := by
  exact stands_ok xs G R RX h
theorem l_stands_on (xs : List D) (G : Gm) (R : KD) (RX : XD) (h : sp_stands_on xs G R RX) : xs.length = 3 := by
  obtain ⟨_, _, _, rfl, _⟩ := h
  rfl
set_option maxHeartbeats 4000000 in
theorem k_stands_on {P : Program} {w : World} {K : PySem.W.Frag} {mg : Str → Option Value} {base : Heap} (T : Tx mg) (F : Df K mg "stands_on" st_stands_on) (k_next_in : Kn P w K mg base 2 "next_in" st_next_in ["program", "stand"] sp_next_in) :
    Kn P w K mg base 3 "stands_on" st_stands_on ["program", "stand", "steps"] sp_stands_on :=
  kn_of F.g F.f sc_stands_on l_stands_on fun cdv hcv A outer s H E B RX hr hg kx => ⟨r_stands_on, (psd_cons (psd_set (i := 3) sc_stands_on.nd rfl (by first | exact Or.inl rfl | exact Or.inr rfl) (pd_lstM (pda_cons (pd_var 1) pda_nil))) (psd_cons (psd_while (passes_of rfl) (ptd_cmp op_le od_bl (pd_len rfl rfl T.f_len (pd_var 3)) (pd_var 2) (nomark _)) (psd_cons (psd_set (i := 4) sc_stands_on.nd rfl (by first | exact Or.inl rfl | exact Or.inr rfl) (pd_call k_next_in (hr.mono (by decide)) hg rfl pass0 kx0 (fun _ _ _ _ _ _ us hl => match us, hl with | [_, _], _ => rfl) (pda_cons (pd_var 0) (pda_cons (pd_ix (pd_var 3) (pd_neg pd_int) (fun _ _ => rfl)) pda_nil)))) (psd_cons (psd_if (ptd_isN (pd_var 4)) (psd_one psd_break) psd_nil) (psd_one (psd_expr (pd_append (pd_var 3) (pd_var 4))))))) (psd_one (psd_frz 3 (psd_ret (pd_var 3)))))), fun xs G R h => v_stands_on xs G R RX h⟩
/-! ### course_in -/
abbrev sp_course_in : DSp := sp_course
def r_course_in : DS := (dSeq (dSet 3 (dCall sp_stands_on X0 (dCons (dVar 0) (dCons (dVar 1) (dCons (dVar 2) dNil))))) (dSeq (dIfS (dTst (dOp fEq (dCal fLen (dCons (dVar 3) dNil)) (dOp fAdd (dVar 2) (dC (.int 1))))) (dRet (dMake "Runs" sp_Runs___init__ X0 (dCons (dVar 3) dNil))) dNext) (dRet (dMake "Ends" sp_Ends___init__ X0 (dCons (dIf (dTst (dOp fEq (dIx (dIx (dFld cls "lines" (dVar 0)) (dIx (dIx (dVar 3) (dNeg (dC (.int 1)))) (dC (.int 0)))) (dC (.int 0))) (dC (.str "stop")))) (dC (.str "stop")) (dC (.str "fault"))) (dCons (dVar 3) dNil))))))
theorem sc_course_in : FnScope ["program", "stand", "steps", "found"] ["program", "stand", "steps"] (defScope st_course_in) := ⟨rfl, rfl, rfl, by decide +kernel, rfl, by decide +kernel, by decide +kernel⟩
theorem v_course_in (xs : List D) (G : Gm) (R : KD) (RX : XD) (h : sp_course_in xs G R RX) : r_course_in { nx := fun _ G => R .non G, rt := R } (xs.map some ++ List.replicate (4 - xs.length) none) G := by
  exact course_in_ok (cl := cls) (by decide +kernel) xs G R RX h
theorem l_course_in (xs : List D) (G : Gm) (R : KD) (RX : XD) (h : sp_course_in xs G R RX) : xs.length = 3 := by
  obtain ⟨_, _, _, rfl, _⟩ := h
  rfl
set_option maxHeartbeats 4000000 in
theorem k_course_in {P : Program} {w : World} {K : PySem.W.Frag} {mg : Str → Option Value} {base : Heap} (T : Tx mg) (F : Df K mg "course_in" st_course_in) (W : OwC K mg cls subC) (mk_Ends : L2.Mk K (He.ga K "Ends") (He.ma K (He.ga K "Ends") "__init__")) (mk_Runs : L2.Mk K (He.ga K "Runs") (He.ma K (He.ga K "Runs") "__init__")) (k_Runs___init__ : KnI P w K mg base 10 "Runs" st_Runs___init__ ["self", "stands"] sp_Runs___init__) (k_Ends___init__ : KnI P w K mg base 10 "Ends" st_Ends___init__ ["self", "ending", "stands"] sp_Ends___init__) (k_stands_on : Kn P w K mg base 3 "stands_on" st_stands_on ["program", "stand", "steps"] sp_stands_on) :
    Kn P w K mg base 12 "course_in" st_course_in ["program", "stand", "steps"] sp_course_in :=
  kn_of F.g F.f sc_course_in l_course_in fun cdv hcv A outer s H E B RX hr hg kx => ⟨r_course_in, (psd_cons (psd_set (i := 3) sc_course_in.nd rfl (by first | exact Or.inl rfl | exact Or.inr rfl) (pd_call k_stands_on (hr.mono (by decide)) hg rfl pass0 kx0 (fun _ _ _ _ _ _ us hl => match us, hl with | [_, _, _], _ => rfl) (pda_cons (pd_var 0) (pda_cons (pd_var 1) (pda_cons (pd_var 2) pda_nil))))) (psd_cons (psd_if (ptd_cmp (op_eq2 hr.units) od_eq (pd_len rfl rfl T.f_len (pd_var 3)) (pd_add (pd_var 2) pd_int) (nomark _)) (psd_one (psd_ret (pd_makeI k_Runs___init__ mk_Runs (W.g ("Runs", ["word", "parts", "stands"]) (by decide +kernel)) (hr.mono (by decide)) hg rfl pass0 kx0 (fun fd e1 e2 us hl => by obtain ⟨_, _, _, _, _, _, _, _, _, _, _, _, _, _, _⟩ := fd; cases e1; cases e2; exact match us, hl with | [_, _], _ => rfl) (pda_cons (pd_var 3) pda_nil)))) psd_nil) (psd_one (psd_ret (pd_makeI k_Ends___init__ mk_Ends (W.g ("Ends", ["word", "parts", "ending", "stands"]) (by decide +kernel)) (hr.mono (by decide)) hg rfl pass0 kx0 (fun fd e1 e2 us hl => by obtain ⟨_, _, _, _, _, _, _, _, _, _, _, _, _, _, _⟩ := fd; cases e1; cases e2; exact match us, hl with | [_, _, _], _ => rfl) (pda_cons (pd_if (ptd_cmp (op_eq2 hr.units) od_eq (pd_ix (pd_ix (pd_fld W (pd_var 0)) (pd_ix (pd_ix (pd_var 3) (pd_neg pd_int) (fun _ _ => rfl)) pd_int (fun _ _ => rfl)) (fun _ _ => rfl)) pd_int (fun _ _ => rfl)) (pd_gstr rfl T.c_STOP) (nomark _)) (pd_gstr rfl T.c_STOP) (pd_gstr rfl T.c_FAULT)) (pda_cons (pd_var 3) pda_nil))))))), fun xs G R h => v_course_in xs G R RX h⟩
/-! ### stepped -/
abbrev sp_stepped : DSp := DL.sp_stepped
def r_stepped : DS := (dSeq (dDrop (dCallD sp_need_program [D.str "program"] X0 (dCons (dVar 0) dNil))) (dRet (dCall sp_next_in X0 (dCons (dVar 0) (dCons (dCall sp_need_stand X0 (dCons (dVar 0) (dCons (dVar 1) dNil))) dNil)))))
theorem sc_stepped : FnScope ["program", "stand"] ["program", "stand"] (defScope st_stepped) := ⟨rfl, rfl, rfl, by decide +kernel, rfl, by decide +kernel, by decide +kernel⟩
theorem v_stepped (xs : List D) (G : Gm) (R : KD) (RX : XD) (h : sp_stepped xs G R RX) : r_stepped { nx := fun _ G => R .non G, rt := R } (xs.map some ++ List.replicate (2 - xs.length) none) G := by
  exact stepped_ok xs G R RX h
theorem l_stepped (xs : List D) (G : Gm) (R : KD) (RX : XD) (h : sp_stepped xs G R RX) : xs.length = 2 := by
  obtain ⟨_, _, _, rfl, _⟩ := h
  rfl
set_option maxHeartbeats 4000000 in
theorem k_stepped {P : Program} {w : World} {K : PySem.W.Frag} {mg : Str → Option Value} {base : Heap} (T : Tx mg) (F : Df K mg "stepped" st_stepped) (k_need_program : KnD P w K mg base 1 "need_program" st_need_program ["value", "part"] [V.str "program"] sp_need_program) (k_need_stand : Kn P w K mg base 4 "need_stand" st_need_stand ["program", "value"] sp_need_stand) (k_next_in : Kn P w K mg base 2 "next_in" st_next_in ["program", "stand"] sp_next_in) :
    Kn P w K mg base 5 "stepped" st_stepped ["program", "stand"] sp_stepped :=
  kn_of F.g F.f sc_stepped l_stepped fun cdv hcv A outer s H E B RX hr hg kx => ⟨r_stepped, (psd_cons (psd_expr (pd_callD (n := 1) (j := 0) (ds := [D.str "program"]) k_need_program (by simp) (hr.mono (by decide)) hg rfl pass0 kx0 rfl (fun _ => .cons (.str _) (.nil)) (fun _ _ _ _ _ _ _ us its hl hl2 => match us, hl, its, hl2 with | [_], _, [_], _ => ⟨_, rfl, rfl⟩) (pda_cons (pd_var 0) pda_nil))) (psd_one (psd_ret (pd_call k_next_in (hr.mono (by decide)) hg rfl pass0 kx0 (fun _ _ _ _ _ _ us hl => match us, hl with | [_, _], _ => rfl) (pda_cons (pd_var 0) (pda_cons (pd_call k_need_stand (hr.mono (by decide)) hg rfl pass0 kx0 (fun _ _ _ _ _ _ us hl => match us, hl with | [_, _], _ => rfl) (pda_cons (pd_var 0) (pda_cons (pd_var 1) pda_nil))) pda_nil)))))), fun xs G R h => v_stepped xs G R RX h⟩
/-! ### judged_course -/
abbrev sp_judged_course : DSp := sp_judged
def r_judged_course : DS := (dSeq (dDrop (dCallD sp_need_program [D.str "program"] X0 (dCons (dVar 0) dNil))) (dSeq (dSet 3 (dCall sp_need_stand X0 (dCons (dVar 0) (dCons (dVar 1) dNil)))) (dSeq (dDrop (dCall sp_need_number X0 (dCons (dVar 2) (dCons (dC (.str "steps")) (dCons (dC (.int 0)) (dCons (dC (.int 400)) dNil)))))) (dRet (dCall sp_course_in X0 (dCons (dVar 0) (dCons (dVar 3) (dCons (dVar 2) dNil))))))))
theorem sc_judged_course : FnScope ["program", "stand", "steps", "kept"] ["program", "stand", "steps"] (defScope st_judged_course) := ⟨rfl, rfl, rfl, by decide +kernel, rfl, by decide +kernel, by decide +kernel⟩
theorem v_judged_course (xs : List D) (G : Gm) (R : KD) (RX : XD) (h : sp_judged_course xs G R RX) : r_judged_course { nx := fun _ G => R .non G, rt := R } (xs.map some ++ List.replicate (4 - xs.length) none) G := by
  exact judged_ok xs G R RX h
theorem l_judged_course (xs : List D) (G : Gm) (R : KD) (RX : XD) (h : sp_judged_course xs G R RX) : xs.length = 3 := by
  obtain ⟨_, _, _, _, rfl, _⟩ := h
  rfl
set_option maxHeartbeats 4000000 in
theorem k_judged_course {P : Program} {w : World} {K : PySem.W.Frag} {mg : Str → Option Value} {base : Heap} (T : Tx mg) (F : Df K mg "judged_course" st_judged_course) (k_need_number : Kn P w K mg base 3 "need_number" st_need_number ["value", "part", "least", "most"] sp_need_number) (k_need_program : KnD P w K mg base 1 "need_program" st_need_program ["value", "part"] [V.str "program"] sp_need_program) (k_need_stand : Kn P w K mg base 4 "need_stand" st_need_stand ["program", "value"] sp_need_stand) (k_course_in : Kn P w K mg base 12 "course_in" st_course_in ["program", "stand", "steps"] sp_course_in) :
    Kn P w K mg base 13 "judged_course" st_judged_course ["program", "stand", "steps"] sp_judged_course :=
  kn_of F.g F.f sc_judged_course l_judged_course fun cdv hcv A outer s H E B RX hr hg kx => ⟨r_judged_course, (psd_cons (psd_expr (pd_callD (n := 1) (j := 0) (ds := [D.str "program"]) k_need_program (by simp) (hr.mono (by decide)) hg rfl pass0 kx0 rfl (fun _ => .cons (.str _) (.nil)) (fun _ _ _ _ _ _ _ us its hl hl2 => match us, hl, its, hl2 with | [_], _, [_], _ => ⟨_, rfl, rfl⟩) (pda_cons (pd_var 0) pda_nil))) (psd_cons (psd_set (i := 3) sc_judged_course.nd rfl (by first | exact Or.inl rfl | exact Or.inr rfl) (pd_call k_need_stand (hr.mono (by decide)) hg rfl pass0 kx0 (fun _ _ _ _ _ _ us hl => match us, hl with | [_, _], _ => rfl) (pda_cons (pd_var 0) (pda_cons (pd_var 1) pda_nil)))) (psd_cons (psd_expr (pd_call k_need_number (hr.mono (by decide)) hg rfl pass0 kx0 (fun _ _ _ _ _ _ us hl => match us, hl with | [_, _, _, _], _ => rfl) (pda_cons (pd_var 2) (pda_cons pd_str (pda_cons pd_int (pda_cons (pd_gint rfl T.c_MOST_STEPS) pda_nil)))))) (psd_one (psd_ret (pd_call k_course_in (hr.mono (by decide)) hg rfl pass0 kx0 (fun _ _ _ _ _ _ us hl => match us, hl with | [_, _, _], _ => rfl) (pda_cons (pd_var 0) (pda_cons (pd_var 3) (pda_cons (pd_var 2) pda_nil))))))))), fun xs G R h => v_judged_course xs G R RX h⟩
/-! ### _law_stoker -/
abbrev sp__law_stoker : DSp := spGauge
def r__law_stoker : DS := (dRet (dLstM (dCons (dCmp (dISeq (dSl (dVar 0) dNoP (dPart (dC (.int 60))))) (gN 1) dYes (dCal fIntOf (dCons (dVar 1) dNil)) [1]) (dCons (dC (.int 0)) (dCons (dC (.int 0)) dNil)))))
theorem sc__law_stoker : FnScope ["_law_script", "_law_cell"] ["_law_script"] (defScope st__law_stoker) := ⟨rfl, rfl, rfl, by decide +kernel, rfl, by decide +kernel, by decide +kernel⟩
theorem v__law_stoker (xs : List D) (G : Gm) (R : KD) (RX : XD) (h : sp__law_stoker xs G R RX) : r__law_stoker { nx := fun _ G => R .non G, rt := R } (xs.map some ++ List.replicate (2 - xs.length) none) G := by
  exact gauge_ok (c := 60) xs G R RX h
theorem l__law_stoker (xs : List D) (G : Gm) (R : KD) (RX : XD) (h : sp__law_stoker xs G R RX) : xs.length = 1 := by
  obtain ⟨_, rfl, _⟩ := h
  rfl
set_option maxHeartbeats 4000000 in
theorem k__law_stoker {P : Program} {w : World} {K : PySem.W.Frag} {mg : Str → Option Value} {base : Heap} (T : Tx mg) (F : Df K mg "_law_stoker" st__law_stoker) :
    Kn P w K mg base 1 "_law_stoker" st__law_stoker ["_law_script"] sp__law_stoker :=
  kn_of F.g F.f sc__law_stoker l__law_stoker fun cdv hcv A outer s H E B RX hr hg kx => ⟨r__law_stoker, (psd_one (psd_ret (pd_lstM (pda_cons (pd_lc (own := [("_law_cell", 1)]) rfl sc__law_stoker.nd (pid_seq (pd_slice (pd_var 0) pod_none (pod_some pd_int))) (blkOk_by (N := ["_law_script", "_law_cell"]) (sc := defScope st__law_stoker) (by decide +kernel)) (by decide) (fun _ _ _ _ _ _ => (pgd_name (i := 1) sc__law_stoker.nd rfl (by first | exact Or.inl rfl | exact Or.inr rfl))) (fun _ _ _ _ _ _ => ptsd_nil) (fun _ _ _ _ _ _ => (pd_callTy call_int1 cd_int rfl T.f_int (by decide +kernel) (pda_cons (pd_var 1) pda_nil)))) (pda_cons pd_int (pda_cons pd_int pda_nil)))))), fun xs G R h => v__law_stoker xs G R RX h⟩
/-! ### _law_feed_by -/
abbrev sp__law_feed_by : DSp := spDial
def r__law_feed_by : DS := (dSeq (dIfS (dTst (dOp (fInt gGt) (dIx (dVar 0) (dC (.int 2))) (dC (.int 0)))) (dSeq (dSet 2 (dCal fIntOf (dCons (dIx (dVar 0) (dC (.int 2))) dNil))) (dSeq (dSetIx (dOp (fIntC CDivW fun i j => .int (i / j)) (dVar 2) (dVar 1)) (dVar 0) (dC (.int 2))) (dRet (dOp (fIntC (fun _ j => 0 < j) fun i j => .int (i % j)) (dCal fIntOf (dCons (dVar 2) dNil)) (dVar 1))))) dNext) (dSeq (dSet 3 (dIx (dVar 0) (dC (.int 1)))) (dSeq (dSetIx (dOp fAdd (dVar 3) (dC (.int 1))) (dVar 0) (dC (.int 1))) (dSeq (dSet 4 (dOp fAdd (dOp (fIntC IntMulOk fun i j => .int (i * j)) (dC (.int 110251)) (dVar 3)) (dC (.int 8447)))) (dSeq (dIfS (dTst (dOp fNe (dIx (dVar 0) (dC (.int 0))) (dLst dNil))) (dSet 4 (dIx (dIx (dVar 0) (dC (.int 0))) (dOp (fIntC (fun _ j => 0 < j) fun i j => .int (i % j)) (dCal fIntOf (dCons (dVar 3) dNil)) (dCal fLen (dCons (dIx (dVar 0) (dC (.int 0))) dNil))))) dNext) (dSeq (dIfS (dAnd (dTst (dOp (fInt gLt) (dVar 3) (dCal fLen (dCons (dIx (dVar 0) (dC (.int 0))) dNil)))) (dTst (dOp (fInt gGe) (dCal fAbs (dCons (dVar 4) dNil)) (dOp (fIntC CPw fun i j => .int (i ^ j.toNat)) (dC (.int 10)) (dC (.int 18)))))) (dSeq (dSet 2 (dOp fAdd (dOp (fIntC IntMulOk fun i j => .int (i * j)) (dC (.int 2)) (dOp (fInt fun i j => .int (i - j)) (dCal fAbs (dCons (dCal fIntOf (dCons (dVar 4) dNil)) dNil)) (dOp (fIntC CPw fun i j => .int (i ^ j.toNat)) (dC (.int 10)) (dC (.int 18))))) (dCal fIntOf (dCons (dOp (fInt gLt) (dVar 4) (dC (.int 0))) dNil)))) (dSeq (dSetIx (dOp (fIntC CDivW fun i j => .int (i / j)) (dVar 2) (dVar 1)) (dVar 0) (dC (.int 2))) (dRet (dOp (fIntC (fun _ j => 0 < j) fun i j => .int (i % j)) (dCal fIntOf (dCons (dVar 2) dNil)) (dVar 1))))) dNext) (dSeq (dSet 5 (dOp (fIntC (fun _ j => 0 < j) fun i j => .int (i % j)) (dCal fIntOf (dCons (dOp (fIntC CPw fun i j => .int (i ^ j.toNat)) (dOp fAdd (dOp fAdd (dOp (fIntC (fun _ j => 0 < j) fun i j => .int (i % j)) (dCal fIntOf (dCons (dVar 4) dNil)) (dC (.int 2147483563))) (dOp (fIntC IntMulOk fun i j => .int (i * j)) (dC (.int 86179)) (dVar 3))) (dC (.int 8447))) (dC (.int 5))) dNil)) (dC (.int 2147483579)))) (dSeq (dSet 5 (dOp (fIntC (fun _ j => 0 < j) fun i j => .int (i % j)) (dCal fIntOf (dCons (dOp (fIntC CPw fun i j => .int (i ^ j.toNat)) (dOp fAdd (dOp fAdd (dOp (fIntC IntMulOk fun i j => .int (i * j)) (dVar 5) (dOp fAdd (dOp (fIntC IntMulOk fun i j => .int (i * j)) (dC (.int 2)) (dVar 3)) (dC (.int 8447)))) (dOp (fIntC IntMulOk fun i j => .int (i * j)) (dOp (fIntC IntMulOk fun i j => .int (i * j)) (dC (.int 110251)) (dVar 3)) (dVar 3))) (dC (.int 86179))) (dC (.int 3))) dNil)) (dC (.int 2147483549)))) (dRet (dOp (fIntC (fun _ j => 0 < j) fun i j => .int (i % j)) (dCal fIntOf (dCons (dOp (fIntC CDivW fun i j => .int (i / j)) (dVar 5) (dC (.int 64))) dNil)) (dVar 1)))))))))))
theorem sc__law_feed_by : FnScope ["_law_stoker_here", "_law_many", "_law_left", "_law_turn", "_law_cell", "_law_mixed"] ["_law_stoker_here", "_law_many"] (defScope st__law_feed_by) := ⟨rfl, rfl, rfl, by decide +kernel, rfl, by decide +kernel, by decide +kernel⟩
theorem v__law_feed_by (xs : List D) (G : Gm) (R : KD) (RX : XD) (h : sp__law_feed_by xs G R RX) : r__law_feed_by { nx := fun _ G => R .non G, rt := R } (xs.map some ++ List.replicate (6 - xs.length) none) G := by
  exact dialB_ok (c0 := 110251) (c1 := 8447) (c2 := 2147483563) (c3 := 86179) (c4 := 8447) (c5 := 2147483579) (c6 := 8447) (c7 := 110251) (c8 := 86179) (c9 := 2147483549) ⟨by decide, by decide⟩ ⟨by decide, by decide⟩ ⟨by decide, by decide⟩ ⟨by decide, by decide⟩ ⟨by decide, by decide⟩ ⟨by decide, by decide⟩ ⟨by decide, by decide⟩ ⟨by decide, by decide⟩ ⟨by decide, by decide⟩ ⟨by decide, by decide⟩ xs G R RX h
theorem l__law_feed_by (xs : List D) (G : Gm) (R : KD) (RX : XD) (h : sp__law_feed_by xs G R RX) : xs.length = 2 := by
  obtain ⟨_, _, _, rfl, _⟩ := h
  rfl
set_option maxHeartbeats 4000000 in
theorem k__law_feed_by {P : Program} {w : World} {K : PySem.W.Frag} {mg : Str → Option Value} {base : Heap} (T : Tx mg) (F : Df K mg "_law_feed_by" st__law_feed_by) :
    Kn P w K mg base 1 "_law_feed_by" st__law_feed_by ["_law_stoker_here", "_law_many"] sp__law_feed_by :=
  kn_of F.g F.f sc__law_feed_by l__law_feed_by fun cdv hcv A outer s H E B RX hr hg kx => ⟨r__law_feed_by, (psd_cons (psd_if (ptd_cmp op_gt od_bl (pd_ix (pd_var 0) pd_int (fun _ _ => rfl)) pd_int (nomark _)) (psd_cons (psd_set (i := 2) sc__law_feed_by.nd rfl (by first | exact Or.inl rfl | exact Or.inr rfl) (pd_callTy call_int1 cd_int rfl T.f_int (by decide +kernel) (pda_cons (pd_ix (pd_var 0) pd_int (fun _ _ => rfl)) pda_nil))) (psd_cons (psd_setIx (pd_fdiv (pd_var 2) (pd_var 1)) (pd_var 0) pd_int) (psd_one (psd_ret (pd_mod (pd_callTy call_int1 cd_int rfl T.f_int (by decide +kernel) (pda_cons (pd_var 2) pda_nil)) (pd_var 1)))))) psd_nil) (psd_cons (psd_set (i := 3) sc__law_feed_by.nd rfl (by first | exact Or.inl rfl | exact Or.inr rfl) (pd_ix (pd_var 0) pd_int (fun _ _ => rfl))) (psd_cons (psd_setIx (pd_add (pd_var 3) pd_int) (pd_var 0) pd_int) (psd_cons (psd_set (i := 4) sc__law_feed_by.nd rfl (by first | exact Or.inl rfl | exact Or.inr rfl) (pd_add (pd_mul pd_int (pd_var 3)) pd_int)) (psd_cons (psd_if (ptd_cmp (op_ne2 hr.units) od_ne (pd_ix (pd_var 0) pd_int (fun _ _ => rfl)) (pd_lst pda_nil) (nomark _)) (psd_one (psd_set (i := 4) sc__law_feed_by.nd rfl (by first | exact Or.inl rfl | exact Or.inr rfl) (pd_ix (pd_ix (pd_var 0) pd_int (fun _ _ => rfl)) (pd_mod (pd_callTy call_int1 cd_int rfl T.f_int (by decide +kernel) (pda_cons (pd_var 3) pda_nil)) (pd_len rfl rfl T.f_len (pd_ix (pd_var 0) pd_int (fun _ _ => rfl)))) (fun _ _ => rfl)))) psd_nil) (psd_cons (psd_if (PW.pt (pwd_and (ptd_cmp op_lt od_bl (pd_var 3) (pd_len rfl rfl T.f_len (pd_ix (pd_var 0) pd_int (fun _ _ => rfl))) (nomark _)) (pwd_and1 (ptd_cmp op_ge od_bl (pd_callB call_abs cd_abs rfl T.f_abs (by decide +kernel) (pda_cons (pd_var 4) pda_nil)) (pd_pow pd_int pd_int) (nomark _))))) (psd_cons (psd_set (i := 2) sc__law_feed_by.nd rfl (by first | exact Or.inl rfl | exact Or.inr rfl) (pd_add (pd_mul pd_int (pd_sub (pd_callB call_abs cd_abs rfl T.f_abs (by decide +kernel) (pda_cons (pd_callTy call_int1 cd_int rfl T.f_int (by decide +kernel) (pda_cons (pd_var 4) pda_nil)) pda_nil)) (pd_pow pd_int pd_int))) (pd_callTy call_int1 cd_int rfl T.f_int (by decide +kernel) (pda_cons (pd_cmp op_lt od_bl (pd_var 4) pd_int (nomark _)) pda_nil)))) (psd_cons (psd_setIx (pd_fdiv (pd_var 2) (pd_var 1)) (pd_var 0) pd_int) (psd_one (psd_ret (pd_mod (pd_callTy call_int1 cd_int rfl T.f_int (by decide +kernel) (pda_cons (pd_var 2) pda_nil)) (pd_var 1)))))) psd_nil) (psd_cons (psd_set (i := 5) sc__law_feed_by.nd rfl (by first | exact Or.inl rfl | exact Or.inr rfl) (pd_mod (pd_callTy call_int1 cd_int rfl T.f_int (by decide +kernel) (pda_cons (pd_pow (pd_add (pd_add (pd_mod (pd_callTy call_int1 cd_int rfl T.f_int (by decide +kernel) (pda_cons (pd_var 4) pda_nil)) pd_int) (pd_mul pd_int (pd_var 3))) pd_int) pd_int) pda_nil)) pd_int)) (psd_cons (psd_set (i := 5) sc__law_feed_by.nd rfl (by first | exact Or.inl rfl | exact Or.inr rfl) (pd_mod (pd_callTy call_int1 cd_int rfl T.f_int (by decide +kernel) (pda_cons (pd_pow (pd_add (pd_add (pd_mul (pd_var 5) (pd_add (pd_mul pd_int (pd_var 3)) pd_int)) (pd_mul (pd_mul pd_int (pd_var 3)) (pd_var 3))) pd_int) pd_int) pda_nil)) pd_int)) (psd_one (psd_ret (pd_mod (pd_callTy call_int1 cd_int rfl T.f_int (by decide +kernel) (pda_cons (pd_fdiv (pd_var 5) pd_int) pda_nil)) (pd_var 1)))))))))))), fun xs G R h => v__law_feed_by xs G R RX h⟩
/-! ### _law_pick -/
abbrev sp__law_pick : DSp := spPickR
def r__law_pick : DS := (dRet (dIx (dVar 1) (dCall sp__law_feed_by X0 (dCons (dVar 0) (dCons (dCal fLen (dCons (dVar 1) dNil)) dNil)))))
theorem sc__law_pick : FnScope ["_law_stoker_here", "_law_some"] ["_law_stoker_here", "_law_some"] (defScope st__law_pick) := ⟨rfl, rfl, rfl, by decide +kernel, rfl, by decide +kernel, by decide +kernel⟩
theorem v__law_pick (xs : List D) (G : Gm) (R : KD) (RX : XD) (h : sp__law_pick xs G R RX) : r__law_pick { nx := fun _ G => R .non G, rt := R } (xs.map some ++ List.replicate (2 - xs.length) none) G := by
  exact pickR_ok xs G R RX h
theorem l__law_pick (xs : List D) (G : Gm) (R : KD) (RX : XD) (h : sp__law_pick xs G R RX) : xs.length = 2 := by
  obtain ⟨_, _, _, _, rfl, _⟩ := h
  rfl
set_option maxHeartbeats 4000000 in
theorem k__law_pick {P : Program} {w : World} {K : PySem.W.Frag} {mg : Str → Option Value} {base : Heap} (T : Tx mg) (F : Df K mg "_law_pick" st__law_pick) (k__law_feed_by : Kn P w K mg base 1 "_law_feed_by" st__law_feed_by ["_law_stoker_here", "_law_many"] sp__law_feed_by) :
    Kn P w K mg base 2 "_law_pick" st__law_pick ["_law_stoker_here", "_law_some"] sp__law_pick :=
  kn_of F.g F.f sc__law_pick l__law_pick fun cdv hcv A outer s H E B RX hr hg kx => ⟨r__law_pick, (psd_one (psd_ret (pd_ix (pd_var 1) (pd_call k__law_feed_by (hr.mono (by decide)) hg rfl pass0 kx0 (fun _ _ _ _ _ _ us hl => match us, hl with | [_, _], _ => rfl) (pda_cons (pd_var 0) (pda_cons (pd_len rfl rfl T.f_len (pd_var 1)) pda_nil))) (fun _ _ => rfl)))), fun xs G R h => v__law_pick xs G R RX h⟩
/-! ### _law_due -/
abbrev sp__law_due : DSp := sp_lawDue
def r__law_due : DS := (dSeq (dSet 3 (dIf (dAnd (dTst (dOp (fInt gGt) (dCal fLen (dCons (dVar 0) dNil)) (dC (.int 1)))) (dTst (dOp fEq (dIx (dVar 0) (dC (.int 1))) (dC (.int 0))))) (dVar 1) (dVar 2))) (dSeq (dIfS (dOr (dTst (dOp fEq (dVar 0) (dTup (dCons (dC (.str "stop")) dNil)))) (dAnd (dTst (dOp fEq (dIx (dVar 0) (dC (.int 0))) (dC (.str "down")))) (dTst (dOp fEq (dVar 3) (dC (.int 0)))))) (dRet (dC .non)) dNext) (dSeq (dSet 4 (dVar 3)) (dSeq (dIfS (dAnd (dTst (dNotN (dVar 3))) (dTst (dOp fNe (dIx (dVar 0) (dC (.int 0))) (dC (.str "test"))))) (dSet 4 (dIf (dTst (dOp fEq (dIx (dVar 0) (dC (.int 0))) (dC (.str "up")))) (dOp fAdd (dVar 3) (dC (.int 1))) (dOp (fInt fun i j => .int (i - j)) (dVar 3) (dC (.int 1))))) dNext) (dSeq (dSet 5 (dIf (dAnd (dTst (dOp fEq (dIx (dVar 0) (dC (.int 0))) (dC (.str "test")))) (dTst (dOp fNe (dVar 3) (dC (.int 0))))) (dIx (dVar 0) (dC (.int 3))) (dIx (dVar 0) (dC (.int 2))))) (dRet (dIf (dTst (dOp fEq (dIx (dVar 0) (dC (.int 1))) (dC (.int 0)))) (dTup (dCons (dVar 5) (dCons (dVar 4) (dCons (dVar 2) dNil)))) (dTup (dCons (dVar 5) (dCons (dVar 1) (dCons (dVar 4) dNil)))))))))))
theorem sc__law_due : FnScope ["_law_line", "_law_one", "_law_other", "_law_mine", "_law_later", "_law_goal"] ["_law_line", "_law_one", "_law_other"] (defScope st__law_due) := ⟨rfl, rfl, rfl, by decide +kernel, rfl, by decide +kernel, by decide +kernel⟩
theorem v__law_due (xs : List D) (G : Gm) (R : KD) (RX : XD) (h : sp__law_due xs G R RX) : r__law_due { nx := fun _ G => R .non G, rt := R } (xs.map some ++ List.replicate (6 - xs.length) none) G := by
  exact law_due_ok xs G R RX h
theorem l__law_due (xs : List D) (G : Gm) (R : KD) (RX : XD) (h : sp__law_due xs G R RX) : xs.length = 3 := by
  obtain ⟨_, _, _, _, rfl, _⟩ := h
  rfl
set_option maxHeartbeats 4000000 in
theorem k__law_due {P : Program} {w : World} {K : PySem.W.Frag} {mg : Str → Option Value} {base : Heap} (T : Tx mg) (F : Df K mg "_law_due" st__law_due) :
    Kn P w K mg base 1 "_law_due" st__law_due ["_law_line", "_law_one", "_law_other"] sp__law_due :=
  kn_of F.g F.f sc__law_due l__law_due fun cdv hcv A outer s H E B RX hr hg kx => ⟨r__law_due, (psd_cons (psd_set (i := 3) sc__law_due.nd rfl (by first | exact Or.inl rfl | exact Or.inr rfl) (pd_if (PW.pt (pwd_and (ptd_cmp op_gt od_bl (pd_len rfl rfl T.f_len (pd_var 0)) pd_int (nomark _)) (pwd_and1 (ptd_cmp (op_eq2 hr.units) od_eq (pd_ix (pd_var 0) pd_int (fun _ _ => rfl)) pd_int (nomark _))))) (pd_var 1) (pd_var 2))) (psd_cons (psd_if (PW.pt (pwd_or (ptd_cmp (op_eq2 hr.units) od_eq (pd_var 0) (pd_tup (pda_cons pd_str pda_nil)) (nomark _)) (pwd_or1 (PW.pt (pwd_and (ptd_cmp (op_eq2 hr.units) od_eq (pd_ix (pd_var 0) pd_int (fun _ _ => rfl)) pd_str (nomark _)) (pwd_and1 (ptd_cmp (op_eq2 hr.units) od_eq (pd_var 3) pd_int (nomark _)))))))) (psd_one (psd_ret pd_non)) psd_nil) (psd_cons (psd_set (i := 4) sc__law_due.nd rfl (by first | exact Or.inl rfl | exact Or.inr rfl) (pd_var 3)) (psd_cons (psd_if (PW.pt (pwd_and (ptd_notN (pd_var 3)) (pwd_and1 (ptd_cmp (op_ne2 hr.units) od_ne (pd_ix (pd_var 0) pd_int (fun _ _ => rfl)) pd_str (nomark _))))) (psd_one (psd_set (i := 4) sc__law_due.nd rfl (by first | exact Or.inl rfl | exact Or.inr rfl) (pd_if (ptd_cmp (op_eq2 hr.units) od_eq (pd_ix (pd_var 0) pd_int (fun _ _ => rfl)) pd_str (nomark _)) (pd_add (pd_var 3) pd_int) (pd_sub (pd_var 3) pd_int)))) psd_nil) (psd_cons (psd_set (i := 5) sc__law_due.nd rfl (by first | exact Or.inl rfl | exact Or.inr rfl) (pd_if (PW.pt (pwd_and (ptd_cmp (op_eq2 hr.units) od_eq (pd_ix (pd_var 0) pd_int (fun _ _ => rfl)) pd_str (nomark _)) (pwd_and1 (ptd_cmp (op_ne2 hr.units) od_ne (pd_var 3) pd_int (nomark _))))) (pd_ix (pd_var 0) pd_int (fun _ _ => rfl)) (pd_ix (pd_var 0) pd_int (fun _ _ => rfl)))) (psd_one (psd_ret (pd_if (ptd_cmp (op_eq2 hr.units) od_eq (pd_ix (pd_var 0) pd_int (fun _ _ => rfl)) pd_int (nomark _)) (pd_tup (pda_cons (pd_var 5) (pda_cons (pd_var 4) (pda_cons (pd_var 2) pda_nil)))) (pd_tup (pda_cons (pd_var 5) (pda_cons (pd_var 1) (pda_cons (pd_var 4) pda_nil)))))))))))), fun xs G R h => v__law_due xs G R RX h⟩
/-! ### law -/
abbrev sp_law : DSp := lawSp
def r_law : DS := (dSeq (dSet 1 (dCall sp__law_stoker X0 (dCons (dVar 0) dNil))) (dSeq (dSet 2 (dOp fAdd (dC (.int 7)) (dCall sp__law_feed_by X0 (dCons (dVar 1) (dCons (dC (.int 9)) dNil))))) (dSeq (dSet 3 (dCmp (dIRng1 (dC (.int 8))) (gN 4) dYes (dCall sp__law_feed_by X0 (dCons (dVar 1) (dCons (dVar 2) dNil))) [4])) (dSeq (dSet 5 (dLst (dCons (dTup (dCons (dC (.str "up")) (dCons (dC (.int 0)) (dCons (dIx (dVar 3) (dC (.int 0))) dNil)))) (dCons (dTup (dCons (dC (.str "up")) (dCons (dC (.int 1)) (dCons (dIx (dVar 3) (dC (.int 1))) dNil)))) (dCons (dTup (dCons (dC (.str "down")) (dCons (dC (.int 0)) (dCons (dIx (dVar 3) (dC (.int 2))) dNil)))) (dCons (dTup (dCons (dC (.str "down")) (dCons (dC (.int 1)) (dCons (dIx (dVar 3) (dC (.int 3))) dNil)))) dNil)))))) (dSeq (dSet 5 (dAddLM (dVar 5) (dLst (dCons (dTup (dCons (dC (.str "test")) (dCons (dC (.int 0)) (dCons (dIx (dVar 3) (dC (.int 4))) (dCons (dIx (dVar 3) (dC (.int 5))) dNil))))) (dCons (dTup (dCons (dC (.str "test")) (dCons (dC (.int 1)) (dCons (dIx (dVar 3) (dC (.int 6))) (dCons (dIx (dVar 3) (dC (.int 7))) dNil))))) (dCons (dTup (dCons (dC (.str "stop")) dNil)) dNil)))))) (dSeq (dWhile (dTst (dOp (fInt gLt) (dCal fLen (dCons (dVar 5) dNil)) (dVar 2))) (dDrop (dApp (dVar 5) (dCall sp__law_pick X0 (dCons (dVar 1) (dCons (dVar 5) dNil)))))) (dSeq (dSet 6 (dLstM dNil)) (dSeq (dWhile (dTst (dNeM (dVar 5) (dLst dNil))) (dDrop (dApp (dVar 6) (dPopAt (dVar 5) (dCall sp__law_feed_by X0 (dCons (dVar 1) (dCons (dCal fLen (dCons (dVar 5) dNil)) dNil))))))) (dSeq (dFrz 6 (dPar 7 8 (dCons (dMake "Program" sp_Program___init__ X0 (dCons (dVar 6) dNil)) (dCons (dLst (dCons (dC (.int 0)) (dCons (dC (.int 1)) (dCons (dC (.int 2)) (dCons (dOp (fIntC CPw fun i j => .int (i ^ j.toNat)) (dC (.int 10)) (dC (.int 25))) (dCons (dC .non) dNil)))))) dNil)))) (dSeq (dFor (dIEnumerate (dCons (dVar 6) dNil)) (gSeq 2 (gCons (gN 9) (gCons (gN 10) gNil))) (dFor (dISeq (dVar 8)) (gN 11) (dFor (dISeq (dVar 8)) (gN 12) (dSeq (dSet 13 (dCall sp__law_due X0 (dCons (dVar 10) (dCons (dVar 11) (dCons (dVar 12) dNil))))) (dSeq (dIfS (dTst (dOp fNe (dCal fRepr (dCons (dCall sp_stepped X0 (dCons (dVar 7) (dCons (dTup (dCons (dVar 9) (dCons (dVar 11) (dCons (dVar 12) dNil)))) dNil))) dNil)) (dCal fRepr (dCons (dVar 13) dNil)))) (dRet (dC (.bl false))) dNext) (dSeq (dSet 14 (dCall sp_judged_course X0 (dCons (dVar 7) (dCons (dLst (dCons (dVar 9) (dCons (dVar 11) (dCons (dVar 12) dNil)))) (dCons (dC (.int 1)) dNil))))) (dIfS (dTst (dOp fNe (dCal fRepr (dCons (dLst (dCons (dBoolW trT (dVar 14)) (dCons (dFld cls "stands" (dVar 14)) dNil))) dNil)) (dCal fRepr (dCons (dLst (dCons (dNotN (dVar 13)) (dCons (dOp fAddT (dTup (dCons (dTup (dCons (dVar 9) (dCons (dVar 11) (dCons (dVar 12) dNil)))) dNil)) (dIf (dTst (dNotN (dVar 13))) (dTup (dCons (dVar 13) dNil)) (dTup dNil))) dNil))) dNil)))) (dRet (dC (.bl false))) dNext))))))) (dRet (dC (.bl true)))))))))))))
theorem sc_law : FnScope ["_law_script", "_law_stoker_here", "_law_many", "_law_goals", "_law_turn", "_law_lines", "_law_order", "_law_program", "_law_some", "_law_at", "_law_line", "_law_one", "_law_other", "_law_due_here", "_law_told"] ["_law_script"] (defScope st_law) := ⟨rfl, rfl, rfl, by decide +kernel, rfl, by decide +kernel, by decide +kernel⟩
theorem v_law (xs : List D) (G : Gm) (R : KD) (RX : XD) (h : sp_law xs G R RX) : r_law { nx := fun _ G => R .non G, rt := R } (xs.map some ++ List.replicate (15 - xs.length) none) G := by
  obtain ⟨ns, rfl, hl, hG, h⟩ := h
  refine ds_call (.one (.var rfl)) ⟨ns, rfl, hl, fun p m0 hp hm0 => ?_⟩
  have hg0 := gau_gup (G := G) (a := p) hm0
  generalize gup G p m0 = G1 at *
  refine dw_set (P := fun z => ∃ k : Nat, z = .int k ∧ 7 ≤ k ∧ k ≤ 15) (k := 0 + 1) (Drw.op (.ev (P := fun x => x = .int 7) (fun _ => .c) rfl) (Drw.dial rfl (fun _ => .c) (by decide) (by decide +kernel)) fun x y e ⟨i, e2, i0, i1⟩ => ⟨_, .inl ⟨7, i, e, e2, rfl⟩, (7 + i).toNat, by congr 1; omega, by omega, by omega⟩) hg0 (by decide) fun z m1 hz hm1 => ?_
  obtain ⟨many, rfl, l7, l15⟩ := hz
  have hg1 := gau_gup (G := G1) (a := p) hm1
  generalize gup G1 p m1 = G2 at *
  dsimp only [List.set, List.map, List.replicate, List.length, Nat.sub, List.append]
  refine dw_set (P := fun z => ∃ ys, z = .lst ys ∧ 8 ≤ ys.length ∧ ys.length ≤ 8 ∧ ∀ y ∈ ys, ∃ g : Nat, y = .int g ∧ g < many) (k := 0 + 8 * 1) (Drw.lcRng (lo := 8) (N := 8) (.ev (fun _ => .c) ⟨8, rfl, by decide, by decide⟩) (fun y => (Drw.dial rfl (fun _ => .var rfl) (by omega) (Int.lt_of_le_of_lt (b := 15) (by omega) (by decide +kernel))).mono fun x ⟨i, e, i0, i1⟩ => ⟨i.toNat, by rw [e]; congr 1; omega, by omega⟩) (by decide)) hg1 (by decide) fun z m2 hz hm2 => ?_
  obtain ⟨ys, rfl, y8, y8b, hy⟩ := hz
  have ey8 : ys.length = 8 := by omega
  obtain ⟨gs, rfl, gl, hgs⟩ : ∃ gs : List Nat, ys = gs.map (fun g : Nat => D.int g) ∧ gs.length = 8 ∧ ∀ g ∈ gs, g < many := by
    clear y8 y8b
    have key : ∀ ys : List D, (∀ y ∈ ys, ∃ g : Nat, y = .int g ∧ g < many) → ∃ gs : List Nat, ys = gs.map (fun g : Nat => D.int g) ∧ ∀ g ∈ gs, g < many := fun ys => by
      induction ys with
      | nil => exact fun _ => ⟨[], rfl, fun g h => nomatch h⟩
      | cons y ys ih =>
        intro hy
        obtain ⟨g, rfl, hg⟩ := hy y List.mem_cons_self
        obtain ⟨gs, rfl, hgs⟩ := ih fun z hz => hy z (List.mem_cons_of_mem _ hz)
        exact ⟨g :: gs, rfl, fun k hk => (List.mem_cons.mp hk).elim (fun e => by rw [e]; exact hg) (hgs k)⟩
    obtain ⟨gs, e, h2⟩ := key ys hy
    exact ⟨gs, e, by rw [← ey8, e, List.length_map], h2⟩
  have hg2 := gau_gup (G := G2) (a := p) hm2
  generalize gup G2 p m2 = G3 at *
  match gs, gl, hgs with
  | [g0, g1, g2, g3, g4, g5, g6, g7], _, hgs =>
  have o0 : g0 < many := hgs _ (by simp)
  have o1 : g1 < many := hgs _ (by simp)
  have o2 : g2 < many := hgs _ (by simp)
  have o3 : g3 < many := hgs _ (by simp)
  have o4 : g4 < many := hgs _ (by simp)
  have o5 : g5 < many := hgs _ (by simp)
  have o6 : g6 < many := hgs _ (by simp)
  have o7 : g7 < many := hgs _ (by simp)
  dsimp only [List.set]
  have gx : ∀ {ρ : En} {G : Gm} {j : Nat} {g : Nat}, ρ[3]? = some (some (.lst ([g0, g1, g2, g3, g4, g5, g6, g7].map fun g : Nat => D.int g))) → [g0, g1, g2, g3, g4, g5, g6, g7][j]? = some g → Ev (dIx (dVar 3) (dC (.int (j : Nat)))) ρ G (.int g) := fun e3 e => .at (.var e3) .c seq_lst (L2.atI_nat (by rw [List.getElem?_map, e]; rfl))
  have t3 : ∀ {ρ : En} {G : Gm} {da db dc : DE} {x y z : D}, Ev da ρ G x → Ev db ρ G y → Ev dc ρ G z → Ev (dTup (dCons da (dCons db (dCons dc dNil)))) ρ G (.tup [x, y, z]) := fun a b c => .tup (.cons a (.cons b (.one c))) (show 3 ≤ sizeLine by decide)
  have t4 : ∀ {ρ : En} {G : Gm} {da db dc dd : DE} {x y z u : D}, Ev da ρ G x → Ev db ρ G y → Ev dc ρ G z → Ev dd ρ G u → Ev (dTup (dCons da (dCons db (dCons dc (dCons dd dNil))))) ρ G (.tup [x, y, z, u]) := fun a b c d => .tup (.cons a (.cons b (.cons c (.one d)))) (show 4 ≤ sizeLine by decide)
  refine ds_set (x := .lst ([Ln.up 0 g0, .up 1 g1, .down 0 g2, .down 1 g3].map Ln.d)) (.lst (.cons (t3 .c .c (gx (j := 0) rfl rfl)) (.cons (t3 .c .c (gx (j := 1) rfl rfl)) (.cons (t3 .c .c (gx (j := 2) rfl rfl)) (.one (t3 .c .c (gx (j := 3) rfl rfl)))))) (show 4 ≤ sizeLine by decide)) ?_
  dsimp only [List.set]
  refine ds_addLM (.var rfl) (Ev.lst (xs := [Ln.test 0 g4 g5, .test 1 g6 g7, .stop].map Ln.d) (.cons (t4 .c .c (gx (j := 4) rfl rfl) (gx (j := 5) rfl rfl)) (.cons (t4 .c .c (gx (j := 6) rfl rfl) (gx (j := 7) rfl rfl)) (.one (.tup (.one .c) (show 1 ≤ sizeLine by decide))))) (show 3 ≤ sizeLine by decide)) (by show 4 + 3 ≤ sizeLine; decide) fun q hq => ?_
  have npq : p ≠ q := fun z => by
    obtain ⟨g, e, _⟩ := hg2
    rw [z, hq] at e
    cases e
  dsimp only [List.set]
  have hg3 : GauAt (gup G3 q (.lst ([Ln.up 0 g0, .up 1 g1, .down 0 g2, .down 1 g3, .test 0 g4 g5, .test 1 g6 g7, .stop].map Ln.d))) p 20 := ga_ne (ga_mono hg2 (by decide)) npq
  have hq3 : (gup G3 q (.lst ([Ln.up 0 g0, .up 1 g1, .down 0 g2, .down 1 g3, .test 0 g4 g5, .test 1 g6 g7, .stop].map Ln.d))) q = some (.lst ([Ln.up 0 g0, .up 1 g1, .down 0 g2, .down 1 g3, .test 0 g4 g5, .test 1 g6 g7, .stop].map Ln.d)) := gup_same
  have hok3 : ∀ ln ∈ [Ln.up 0 g0, .up 1 g1, .down 0 g2, .down 1 g3, .test 0 g4 g5, .test 1 g6 g7, .stop], ln.ok many := fun ln hln => by
    simp only [List.mem_cons, List.mem_nil_iff, or_false] at hln
    rcases hln with rfl | rfl | rfl | rfl | rfl | rfl | rfl
    · exact ⟨by decide, o0⟩
    · exact ⟨by decide, o1⟩
    · exact ⟨by decide, o2⟩
    · exact ⟨by decide, o3⟩
    · exact ⟨by decide, o4, o5⟩
    · exact ⟨by decide, o6, o7⟩
    · exact True.intro
  have hl3 : [Ln.up 0 g0, .up 1 g1, .down 0 g2, .down 1 g3, .test 0 g4 g5, .test 1 g6 g7, .stop].length = 7 := rfl
  show dSeq _ _ _ _ (gup G3 q (.lst ([Ln.up 0 g0, .up 1 g1, .down 0 g2, .down 1 g3, .test 0 g4 g5, .test 1 g6 g7, .stop].map Ln.d)))
  generalize gup G3 q (.lst ([Ln.up 0 g0, .up 1 g1, .down 0 g2, .down 1 g3, .test 0 g4 g5, .test 1 g6 g7, .stop].map Ln.d)) = G4 at *
  generalize [Ln.up 0 g0, .up 1 g1, .down 0 g2, .down 1 g3, .test 0 g4 g5, .test 1 g6 g7, .stop] = ls at *
  generalize D.lst (List.map (fun g : Nat => D.int g) [g0, g1, g2, g3, g4, g5, g6, g7]) = z3 at *
  refine ⟨fun m ρ G => ∃ ls : List Ln, ρ = [some (.lst (ns.map D.int)), some (.ref p), some (.int many), some z3, none, some (.ref q), none, none, none, none, none, none, none, none, none] ∧ GauAt G p (13 + ls.length) ∧ G q = some (.lst (ls.map Ln.d)) ∧ (∀ ln ∈ ls, ln.ok many) ∧ ls.length + m = many ∧ ls ≠ [], ⟨many - 7, ls, rfl, by rw [hl3]; exact hg3, hq3, hok3, by omega, fun e => by rw [e] at hl3; cases hl3⟩, ?_⟩
  clear hg3 hq3 hok3 hl3 hg2 hg1 hg0
  rintro m ρ G5 ⟨ls, rfl, hg, hq5, hok, hm, hne⟩
  have h0 := List.length_pos_iff.mpr hne
  refine (EvT.tst (.lt ((Ev.len (.var rfl) (seq_ref hq5)).cast (by rw [List.length_map])) (.var rfl))) _ ?_
  cases m with
  | succ m =>
    rw [if_pos (by simp; omega)]
    refine ds_app0 (.var rfl) ⟨_, hq5⟩ ?_
    refine de_pickR (.cons (.var rfl) (.one (.var rfl))) (fun z => npq z.symm) hq5 (fun e => hne (List.map_eq_nil_iff.mp e)) (by rw [List.length_map]; omega) hg (by omega) fun v m5 hv hm5 => ?_
    obtain ⟨ln, hln, rfl⟩ := List.mem_map.mp hv
    refine ⟨_, rfl, ls.map Ln.d, by rw [gup_ne (fun z => npq z.symm)]; exact hq5, by rw [List.length_map]; exact Nat.lt_of_lt_of_le (m := 16) (by omega) (by show 16 ≤ sizeLine; decide), ?_⟩
    refine ⟨m, Nat.lt_succ_self _, ls ++ [ln], rfl, ga_ne (ga_mono (gau_gup hm5) (by rw [List.length_append]; show 13 + ls.length + 1 ≤ 13 + (ls.length + 1); omega)) npq, by rw [gup_same, List.map_append]; rfl, fun k hk => ?_, by rw [List.length_append]; show ls.length + 1 + m = many; omega, fun z => by simp at z⟩
    rcases List.mem_append.mp hk with hk | hk
    · exact hok k hk
    · rw [List.mem_singleton.mp hk]
      exact hok ln hln
  | zero =>
  rw [if_neg (by simp; omega)]
  have hlen : ls.length = many := by omega
  refine ds_lstM .nil (Nat.zero_le _) fun r hr => ?_
  have npr : p ≠ r := fun z => by
    obtain ⟨g, e, _⟩ := hg
    rw [z, hr] at e
    cases e
  have nqr : q ≠ r := fun z => by
    rw [z, hr] at hq5
    cases hq5
  dsimp only [List.set]
  refine ⟨fun m ρ G => ∃ rs os : List Ln, ρ = [some (.lst (ns.map D.int)), some (.ref p), some (.int many), some z3, none, some (.ref q), some (.ref r), none, none, none, none, none, none, none, none] ∧ GauAt G p (40 + os.length) ∧ G q = some (.lst (rs.map Ln.d)) ∧ G r = some (.lst (os.map Ln.d)) ∧ (∀ ln ∈ rs, ln.ok many) ∧ (∀ ln ∈ os, ln.ok many) ∧ os.length + rs.length = many ∧ m = rs.length, ⟨ls.length, ls, [], rfl, ga_ne (ga_mono hg (by show 13 + ls.length ≤ 40; omega)) npr, by rw [gup_ne nqr]; exact hq5, gup_same, hok, (fun ln h => by cases h), by show 0 + ls.length = many; omega, rfl⟩, ?_⟩
  clear hg hq5 hok hm hne h0 hlen hr
  rintro m ρ G6 ⟨rs, os, rfl, hg, hq6, hr6, hok, hos, hlen, rfl⟩
  refine (EvT.tst (k := !rs.isEmpty) fun R k => ?_) _ ?_
  · refine (Ev.var rfl) _ ((Ev.lst .nil (Nat.zero_le _)) _ ⟨.lst (rs.map Ln.d), .lst [], .inr ⟨q, _, rfl, hq6, rfl⟩, .inl rfl, cmp_lns rs, ⟨rfl, by decide⟩, ?_⟩)
    rw [show D.eqv (.lst (rs.map Ln.d)) (.lst []) = rs.isEmpty from eqv_nil rs]
    exact k
  cases rs with
  | cons l0 rs =>
    rw [if_pos (show (!(l0 :: rs).isEmpty) = true from rfl)]
    refine ds_app0 (.var rfl) ⟨_, hr6⟩ ?_
    refine de_popAt (.var rfl) ⟨_, hq6⟩ ?_
    refine de_dial (.cons (.var rfl) (.one (.len (.var rfl) (seq_ref hq6)))) hg (by omega) (by rw [List.length_map, List.length_cons]; omega) (Int.lt_of_le_of_lt (b := 15) (by rw [List.length_map]; omega) (by decide +kernel)) fun v m6 v0 v1 hm6 => ?_
    rw [List.length_map] at v1
    obtain ⟨i, rfl⟩ : ∃ i : Nat, v = i := ⟨v.toNat, by omega⟩
    have hi : i < (l0 :: rs).length := by omega
    have hln : (l0 :: rs)[i]? = some (l0 :: rs)[i] := List.getElem?_eq_getElem hi
    have hmem := List.mem_of_getElem? hln
    generalize (l0 :: rs)[i] = ln at hln hmem
    refine ⟨i, (l0 :: rs).map Ln.d, ln.d, rfl, by rw [gup_ne (fun z => npq z.symm)]; exact hq6, by rw [List.getElem?_map, hln]; rfl, Nat.lt_of_lt_of_le (m := 16) (by omega) (by decide), ?_⟩
    refine ⟨_, rfl, os.map Ln.d, by rw [gup_ne (fun z => nqr z.symm), gup_ne (fun z => npr z.symm)]; exact hr6, by rw [List.length_map]; exact Nat.lt_of_lt_of_le (m := 16) (by omega) (by show 16 ≤ sizeLine; decide), ?_⟩
    have el := List.length_eraseIdx_of_lt hi
    refine ⟨((l0 :: rs).eraseIdx i).length, by rw [el, List.length_cons]; omega, (l0 :: rs).eraseIdx i, os ++ [ln], rfl, ga_ne (ga_ne (ga_mono (gau_gup hm6) (by rw [List.length_append]; show 40 + os.length + 1 ≤ 40 + (os.length + 1); omega)) npq) npr, ?_, by rw [gup_same, List.map_append]; rfl, fun k hk => hok k (List.mem_of_mem_eraseIdx hk), fun k hk => ?_, ?_, rfl⟩
    · rw [gup_ne nqr, gup_same, ← map_erase]
    · rcases List.mem_append.mp hk with hk | hk
      · exact hos k hk
      · rw [List.mem_singleton.mp hk]
        exact hok ln hmem
    · rw [List.length_append, el]
      show os.length + 1 + ((l0 :: rs).length - 1) = many
      rw [List.length_cons] at hlen ⊢
      omega
  | nil =>
  rw [if_neg (by simp)]
  have hol : os.length = many := by simpa using hlen
  have lsok : LsOk os := ⟨by omega, by omega, fun ln hln => by rw [hol]; exact hos ln hln⟩
  refine ⟨r, _, rfl, hr6, ?_⟩
  dsimp only [List.set]
  refine ds_par (.makeP (.one (.var rfl)) (.inl rfl) lsok) (.lst (.cons .c (.cons .c (.cons .c (.cons (.pow .c .c ten25) (.one .c))))) (show 5 ≤ sizeLine by decide)) ?_
  dsimp only [List.set]
  refine ds_forEnum (.one (.var rfl)) ?_
  have bxs : ∀ y ∈ [D.int 0, .int 1, .int 2, .int (10 ^ ((25 : Int).toNat)), .non], Bxs y := fun y hy => by
    simp only [List.mem_cons, List.mem_nil_iff, or_false] at hy
    rcases hy with rfl | rfl | rfl | rfl | rfl
    · exact ⟨some 0, rfl, fun n e => by cases e; decide⟩
    · exact ⟨some 1, rfl, fun n e => by cases e; decide⟩
    · exact ⟨some 2, rfl, fun n e => by cases e; decide⟩
    · exact ⟨some (10 ^ 25), rfl, fun n e => by cases e; exact Nat.le_refl _⟩
    · exact ⟨none, rfl, fun n e => by cases e⟩
  generalize [D.int 0, .int 1, .int 2, .int (10 ^ ((25 : Int).toNat)), .non] = bl at *
  generalize gdel G6 r = G7 at *
  refine forL_inv (fun ρ G => ∃ o9 o10 o11 o12 o13 o14, ρ = [some (.lst (ns.map D.int)), some (.ref p), some (.int many), some z3, none, some (.ref q), some (.lst (os.map Ln.d)), some (progD os), some (.lst bl), o9, o10, o11, o12, o13, o14]) (fun x hx N ρ G8 hN hρ => ?_) (fun ρ G8 hρ => ?_) ⟨_, _, _, _, _, _, rfl⟩
  · obtain ⟨o9, o10, o11, o12, o13, o14, rfl⟩ := hρ
    obtain ⟨i, hi⟩ := List.mem_iff_getElem?.mp hx
    obtain ⟨y, hy, rfl⟩ := enum_at hi
    rw [List.getElem?_map] at hy
    obtain ⟨ln, hln, rfl⟩ := Option.map_eq_some_iff.mp hy
    have il : i < os.length := (List.getElem?_eq_some_iff.mp hln).1
    have lok := lsok.2.2 ln (List.mem_of_getElem? hln)
    refine ⟨_, seq_tup, rfl, _, _, rfl, _, _, rfl, rfl, ?_⟩
    refine ds_forSeq (.var rfl) (.inl rfl) ?_
    refine forL_inv (fun ρ G => ∃ o11 o12 o13 o14, ρ = [some (.lst (ns.map D.int)), some (.ref p), some (.int many), some z3, none, some (.ref q), some (.lst (os.map Ln.d)), some (progD os), some (.lst bl), some (.int (i : Nat)), some ln.d, o11, o12, o13, o14]) (fun x1 hx1 N1 ρ G9 hN1 hρ => ?_) (fun ρ G9 hρ => ?_) ⟨_, _, _, _, rfl⟩
    · obtain ⟨o11, o12, o13, o14, rfl⟩ := hρ
      obtain ⟨b1, rfl, hb1⟩ := bxs x1 hx1
      refine ds_forSeq (.var rfl) (.inl rfl) ?_
      refine forL_inv (fun ρ G => ∃ o12 o13 o14, ρ = [some (.lst (ns.map D.int)), some (.ref p), some (.int many), some z3, none, some (.ref q), some (.lst (os.map Ln.d)), some (progD os), some (.lst bl), some (.int (i : Nat)), some ln.d, some (bxD b1), o12, o13, o14]) (fun x2 hx2 N2 ρ G10 hN2 hρ => ?_) (fun ρ G10 hρ => ?_) ⟨_, _, _, rfl⟩
      · obtain ⟨o12, o13, o14, rfl⟩ := hρ
        obtain ⟨b2, rfl, hb2⟩ := bxs x2 hx2
        have en : nextO os ⟨i, b1, b2⟩ = nextL ln b1 b2 := by unfold nextO; rw [hln]; rfl
        refine ds_set (x := optD (nextL ln b1 b2)) (.call (.cons (.var rfl) (.cons (.var rfl) (.one (.var rfl)))) fun R r => ⟨ln, b1, b2, _, rfl, lok, r⟩) ?_
        dsimp only [List.set]
        have sd : Ev (dTup (dCons (dVar 9) (dCons (dVar 11) (dCons (dVar 12) dNil)))) [some (.lst (ns.map D.int)), some (.ref p), some (.int many), some z3, none, some (.ref q), some (.lst (os.map Ln.d)), some (progD os), some (.lst bl), some (.int (i : Nat)), some ln.d, some (bxD b1), some (bxD b2), some (optD (nextL ln b1 b2)), o14] G10 (Sd.d ⟨i, b1, b2⟩) := t3 (.var rfl) (.var rfl) (.var rfl)
        have st : Ev (dCall sp_stepped X0 (dCons (dVar 7) (dCons (dTup (dCons (dVar 9) (dCons (dVar 11) (dCons (dVar 12) dNil)))) dNil))) [some (.lst (ns.map D.int)), some (.ref p), some (.int many), some z3, none, some (.ref q), some (.lst (os.map Ln.d)), some (progD os), some (.lst bl), some (.int (i : Nat)), some ln.d, some (bxD b1), some (bxD b2), some (optD (nextL ln b1 b2)), o14] G10 (optD (nextL ln b1 b2)) := (Ev.call (z := optD (nextO os ⟨i, b1, b2⟩)) (.cons (.var rfl) (.one sd)) fun R r => ⟨os, _, ⟨i, b1, b2⟩, rfl, .inr rfl, il, lsok, r⟩).cast (by rw [en])
        have so : Sm 1 4 (optD (nextL ln b1 b2)) := by
          cases e : nextL ln b1 b2 with
          | none => exact Sm.non.mono (by decide) (by decide)
          | some t =>
            obtain ⟨h1, h2⟩ := next_bd e hb1 hb2
            exact sm_std (Nat.lt_of_lt_of_le (nextL_l lok e) (by omega)) h1 h2
        refine ds_if (k := false) (.tst (.neSS (.repr st so.rep) (.repr (.var rfl) so.rep))) ?_
        dsimp only
        refine to_next ?_
        dsimp only [List.set]
        refine ds_set (x := courseD os ⟨i, b1, b2⟩ 1) (.call (.cons (.var rfl) (.cons (.lst (.cons (.var rfl) (.cons (.var rfl) (.one (.var rfl)))) (show 3 ≤ sizeLine by decide)) (.one .c))) fun R r => ⟨os, _, ⟨i, b1, b2⟩, 1, rfl, .inl rfl, il, lsok, by decide, r⟩) ?_
        dsimp only [List.set]
        have ss : Sm 1 4 (Sd.d ⟨i, b1, b2⟩) := sm_std (by show i < 100; omega) (fun n e => Nat.lt_of_le_of_lt (hb1 n e) (by decide +kernel)) (fun n e => Nat.lt_of_le_of_lt (hb2 n e) (by decide +kernel))
        have two : ∀ {b : Bool} {xs : List D}, (∀ x ∈ xs, Sm 1 4 x) → xs.length ≤ 2 → RepOk (.lst [.bl b, .tup xs]) := fun {b xs} hxs hl => Sm.rep (Sm.lst (d := 2) (s := 9) fun z hz => by
          simp only [List.mem_cons, List.mem_nil_iff, or_false] at hz
          rcases hz with rfl | rfl
          · exact Sm.bl.mono (by decide) (by decide)
          · exact (Sm.tup hxs).mono (by decide) (by omega)) (by decide) (by show 2 * 9 + 1 ≤ 27000; decide)
        cases e : nextL ln b1 b2 with
        | none =>
          have ec : courseN os ⟨i, b1, b2⟩ 1 = [⟨i, b1, b2⟩] := by rw [course_succ, en, e]
          have ed : courseD os ⟨i, b1, b2⟩ 1 = .ins "Ends" ["word", "parts", "ending", "stands"] [.str "ends", .tup [.str (endW os [⟨i, b1, b2⟩]), .tup [Sd.d ⟨i, b1, b2⟩]], .str (endW os [⟨i, b1, b2⟩]), .tup [Sd.d ⟨i, b1, b2⟩]] := by unfold courseD; rw [ec]; rfl
          rw [ed]
          have rp := two (b := false) (xs := [Sd.d ⟨i, b1, b2⟩]) (fun x hx => by rw [List.mem_singleton.mp hx]; exact ss) (show 1 ≤ 2 by decide)
          refine ds_if (k := false) (.tst (.neSS (.repr (.lst (.cons (.boolW (.var rfl) ins_ins (b := false) (by decide +kernel)) (.one (.fld (.var rfl) ins_ins (by decide +kernel) rfl))) (show 2 ≤ sizeLine by decide)) rp) (.repr (.lst (.cons ((Ev.notN (x := .non) (.var rfl)).cast rfl) (.one ((Ev.addT (.tup (.one (t3 (.var rfl) (.var rfl) (.var rfl))) (show 1 ≤ sizeLine by decide)) (.ifF (.tst ((Ev.notN (x := .non) (.var rfl)).cast rfl)) (.tup .nil (Nat.zero_le _))) (fun z => nomatch z) (show 1 + 0 ≤ sizeLine by decide)).cast rfl))) (show 2 ≤ sizeLine by decide)) rp))) ?_
          exact hN2 _ _ ⟨_, _, _, rfl⟩
        | some t =>
          have ec : courseN os ⟨i, b1, b2⟩ 1 = [⟨i, b1, b2⟩, t] := by rw [course_succ, en, e]; rfl
          have ed : courseD os ⟨i, b1, b2⟩ 1 = .ins "Runs" ["word", "parts", "stands"] [.str "runs", .tup [.tup [Sd.d ⟨i, b1, b2⟩, t.d]], .tup [Sd.d ⟨i, b1, b2⟩, t.d]] := by unfold courseD; rw [ec]; rfl
          rw [ed]
          rw [e] at so
          have rp := two (b := true) (xs := [Sd.d ⟨i, b1, b2⟩, t.d]) (fun x hx => by
            simp only [List.mem_cons, List.mem_nil_iff, or_false] at hx
            rcases hx with rfl | rfl
            · exact ss
            · exact so) (show 2 ≤ 2 by decide)
          refine ds_if (k := false) (.tst (.neSS (.repr (.lst (.cons (.boolW (.var rfl) ins_ins (b := true) (by decide +kernel)) (.one (.fld (.var rfl) ins_ins (by decide +kernel) rfl))) (show 2 ≤ sizeLine by decide)) rp) (.repr (.lst (.cons ((Ev.notN (x := t.d) (.var rfl)).cast rfl) (.one ((Ev.addT (.tup (.one (t3 (.var rfl) (.var rfl) (.var rfl))) (show 1 ≤ sizeLine by decide)) (.ifT (.tst ((Ev.notN (x := t.d) (.var rfl)).cast rfl)) (.tup (.one (.var rfl)) (show 1 ≤ sizeLine by decide))) (fun z => nomatch z) (show 1 + 1 ≤ sizeLine by decide)).cast rfl))) (show 2 ≤ sizeLine by decide)) rp))) ?_
          exact hN2 _ _ ⟨_, _, _, rfl⟩
      · obtain ⟨o12, o13, o14, rfl⟩ := hρ
        exact hN1 _ _ ⟨_, _, _, _, rfl⟩
    · obtain ⟨o11, o12, o13, o14, rfl⟩ := hρ
      exact hN _ _ ⟨_, _, _, _, _, _, rfl⟩
  · obtain ⟨o9, o10, o11, o12, o13, o14, rfl⟩ := hρ
    exact h _
theorem l_law (xs : List D) (G : Gm) (R : KD) (RX : XD) (h : sp_law xs G R RX) : xs.length = 1 := by
  obtain ⟨_, rfl, _⟩ := h
  rfl
set_option maxHeartbeats 4000000 in
theorem k_law {P : Program} {w : World} {K : PySem.W.Frag} {mg : Str → Option Value} {base : Heap} (T : Tx mg) (F : Df K mg "law" st_law) (W : OwC K mg cls subC) (tr : ∀ p ∈ trT, TruOk P w K mg base 1 p.1 p.2) (mk_Program : L2.Mk K (He.ga K "Program") (He.ma K (He.ga K "Program") "__init__")) (k_Program___init__ : KnM P w K mg base 4 "Program" "__init__" st_Program___init__ ["self", "lines"] sp_Program___init__) (k_stepped : Kn P w K mg base 5 "stepped" st_stepped ["program", "stand"] sp_stepped) (k_judged_course : Kn P w K mg base 13 "judged_course" st_judged_course ["program", "stand", "steps"] sp_judged_course) (k__law_stoker : Kn P w K mg base 1 "_law_stoker" st__law_stoker ["_law_script"] sp__law_stoker) (k__law_feed_by : Kn P w K mg base 1 "_law_feed_by" st__law_feed_by ["_law_stoker_here", "_law_many"] sp__law_feed_by) (k__law_pick : Kn P w K mg base 2 "_law_pick" st__law_pick ["_law_stoker_here", "_law_some"] sp__law_pick) (k__law_due : Kn P w K mg base 1 "_law_due" st__law_due ["_law_line", "_law_one", "_law_other"] sp__law_due) :
    Kn P w K mg base 14 "law" st_law ["_law_script"] sp_law :=
  kn_of F.g F.f sc_law l_law fun cdv hcv A outer s H E B RX hr hg kx => ⟨r_law, (psd_cons (psd_set (i := 1) sc_law.nd rfl (by first | exact Or.inl rfl | exact Or.inr rfl) (pd_call k__law_stoker (hr.mono (by decide)) hg rfl pass0 kx0 (fun _ _ _ _ _ _ us hl => match us, hl with | [_], _ => rfl) (pda_cons (pd_var 0) pda_nil))) (psd_cons (psd_set (i := 2) sc_law.nd rfl (by first | exact Or.inl rfl | exact Or.inr rfl) (pd_add pd_int (pd_call k__law_feed_by (hr.mono (by decide)) hg rfl pass0 kx0 (fun _ _ _ _ _ _ us hl => match us, hl with | [_, _], _ => rfl) (pda_cons (pd_var 1) (pda_cons pd_int pda_nil))))) (psd_cons (psd_setLc (i := 3) (own := [("_law_turn", 4)]) rfl sc_law.nd rfl rfl (sw_true rfl rfl rfl (by decide +kernel)) (pid_rng1 rfl T.f_range pd_int) (blkOk_by (N := ["_law_script", "_law_stoker_here", "_law_many", "_law_goals", "_law_turn", "_law_lines", "_law_order", "_law_program", "_law_some", "_law_at", "_law_line", "_law_one", "_law_other", "_law_due_here", "_law_told"]) (sc := defScope st_law) (by decide +kernel)) (by decide) (fun _ _ _ _ _ _ => (pgd_name (i := 4) sc_law.nd rfl (by first | exact Or.inl rfl | exact Or.inr rfl))) (fun _ _ _ _ _ _ => ptsd_nil) (fun _ _ _ _ _ _ => (pd_call k__law_feed_by (hr.mono (by decide)) hg rfl pass0 kx0 (fun _ _ _ _ _ _ us hl => match us, hl with | [_, _], _ => rfl) (pda_cons (pd_var 1) (pda_cons (pd_var 2) pda_nil))))) (psd_cons (psd_set (i := 5) sc_law.nd rfl (by first | exact Or.inl rfl | exact Or.inr rfl) (pd_lst (pda_cons (pd_tup (pda_cons pd_str (pda_cons pd_int (pda_cons (pd_ix (pd_var 3) pd_int (fun _ _ => rfl)) pda_nil)))) (pda_cons (pd_tup (pda_cons pd_str (pda_cons pd_int (pda_cons (pd_ix (pd_var 3) pd_int (fun _ _ => rfl)) pda_nil)))) (pda_cons (pd_tup (pda_cons pd_str (pda_cons pd_int (pda_cons (pd_ix (pd_var 3) pd_int (fun _ _ => rfl)) pda_nil)))) (pda_cons (pd_tup (pda_cons pd_str (pda_cons pd_int (pda_cons (pd_ix (pd_var 3) pd_int (fun _ _ => rfl)) pda_nil)))) pda_nil)))))) (psd_cons (psd_set (i := 5) sc_law.nd rfl (by first | exact Or.inl rfl | exact Or.inr rfl) (pd_addLM (pd_var 5) (pd_lst (pda_cons (pd_tup (pda_cons pd_str (pda_cons pd_int (pda_cons (pd_ix (pd_var 3) pd_int (fun _ _ => rfl)) (pda_cons (pd_ix (pd_var 3) pd_int (fun _ _ => rfl)) pda_nil))))) (pda_cons (pd_tup (pda_cons pd_str (pda_cons pd_int (pda_cons (pd_ix (pd_var 3) pd_int (fun _ _ => rfl)) (pda_cons (pd_ix (pd_var 3) pd_int (fun _ _ => rfl)) pda_nil))))) (pda_cons (pd_tup (pda_cons pd_str pda_nil)) pda_nil)))))) (psd_cons (psd_while (passes_of rfl) (ptd_cmp op_lt od_bl (pd_len rfl rfl T.f_len (pd_var 5)) (pd_var 2) (nomark _)) (psd_one (psd_expr (pd_append (pd_var 5) (pd_call k__law_pick (hr.mono (by decide)) hg rfl pass0 kx0 (fun _ _ _ _ _ _ us hl => match us, hl with | [_, _], _ => rfl) (pda_cons (pd_var 1) (pda_cons (pd_var 5) pda_nil))))))) (psd_cons (psd_set (i := 6) sc_law.nd rfl (by first | exact Or.inl rfl | exact Or.inr rfl) (pd_lstM pda_nil)) (psd_cons (psd_while (passes_of rfl) (ptd_neM hr.units (pd_var 5) (pd_lst pda_nil) (nomark _)) (psd_one (psd_expr (pd_append (pd_var 6) (pd_popAt (pd_var 5) (pd_call k__law_feed_by (hr.mono (by decide)) hg rfl pass0 kx0 (fun _ _ _ _ _ _ us hl => match us, hl with | [_, _], _ => rfl) (pda_cons (pd_var 1) (pda_cons (pd_len rfl rfl T.f_len (pd_var 5)) pda_nil)))))))) (psd_cons (psd_frz 6 (psd_par (i := 7) (j := 8) rfl sc_law.nd rfl rfl (by decide) rfl rfl (pda_cons (pd_makeI k_Program___init__.toI mk_Program (W.g ("Program", ["lines"]) (by decide +kernel)) (hr.mono (by decide)) hg rfl pass0 kx0 (fun fd e1 e2 us hl => by obtain ⟨_, _, _, _, _, _, _, _, _, _, _, _, _, _, _⟩ := fd; cases e1; cases e2; exact match us, hl with | [_, _], _ => rfl) (pda_cons (pd_var 6) pda_nil)) (pda_cons (pd_lst (pda_cons pd_int (pda_cons pd_int (pda_cons pd_int (pda_cons (pd_pow pd_int pd_int) (pda_cons pd_non pda_nil)))))) pda_nil)) rfl)) (psd_cons (psd_for (passes_of rfl) rfl (pid_enumerate rfl T.f_enumerate (pda_cons (pd_var 6) pda_nil)) (pgd_seq rfl (pgsd_cons (pgd_name (i := 9) sc_law.nd rfl (by first | exact Or.inl rfl | exact Or.inr rfl)) (pgsd_cons (pgd_name (i := 10) sc_law.nd rfl (by first | exact Or.inl rfl | exact Or.inr rfl)) pgsd_nil))) (psd_one (psd_for (passes_of rfl) rfl (pid_seq (pd_var 8)) (pgd_name (i := 11) sc_law.nd rfl (by first | exact Or.inl rfl | exact Or.inr rfl)) (psd_one (psd_for (passes_of rfl) rfl (pid_seq (pd_var 8)) (pgd_name (i := 12) sc_law.nd rfl (by first | exact Or.inl rfl | exact Or.inr rfl)) (psd_cons (psd_set (i := 13) sc_law.nd rfl (by first | exact Or.inl rfl | exact Or.inr rfl) (pd_call k__law_due (hr.mono (by decide)) hg rfl pass0 kx0 (fun _ _ _ _ _ _ us hl => match us, hl with | [_, _, _], _ => rfl) (pda_cons (pd_var 10) (pda_cons (pd_var 11) (pda_cons (pd_var 12) pda_nil))))) (psd_cons (psd_if (ptd_cmp (op_ne2 hr.units) od_ne (pd_repr rfl hg hr.units rfl T.f_repr (pd_call k_stepped (hr.mono (by decide)) hg rfl pass0 kx0 (fun _ _ _ _ _ _ us hl => match us, hl with | [_, _], _ => rfl) (pda_cons (pd_var 7) (pda_cons (pd_tup (pda_cons (pd_var 9) (pda_cons (pd_var 11) (pda_cons (pd_var 12) pda_nil)))) pda_nil)))) (pd_repr rfl hg hr.units rfl T.f_repr (pd_var 13)) (nomark _)) (psd_one (psd_ret pd_bl)) psd_nil) (psd_cons (psd_set (i := 14) sc_law.nd rfl (by first | exact Or.inl rfl | exact Or.inr rfl) (pd_call k_judged_course (hr.mono (by decide)) hg rfl pass0 kx0 (fun _ _ _ _ _ _ us hl => match us, hl with | [_, _, _], _ => rfl) (pda_cons (pd_var 7) (pda_cons (pd_lst (pda_cons (pd_var 9) (pda_cons (pd_var 11) (pda_cons (pd_var 12) pda_nil)))) (pda_cons pd_int pda_nil))))) (psd_one (psd_if (ptd_cmp (op_ne2 hr.units) od_ne (pd_repr rfl hg hr.units rfl T.f_repr (pd_lst (pda_cons (pd_boolW tr (hr.mono (by decide)) hg rfl rfl T.f_bool (pd_var 14)) (pda_cons (pd_fld W (pd_var 14)) pda_nil)))) (pd_repr rfl hg hr.units rfl T.f_repr (pd_lst (pda_cons (pd_notN (pd_var 13)) (pda_cons (pd_addT (pd_tup (pda_cons (pd_tup (pda_cons (pd_var 9) (pda_cons (pd_var 11) (pda_cons (pd_var 12) pda_nil)))) pda_nil)) (pd_if (ptd_notN (pd_var 13)) (pd_tup (pda_cons (pd_var 13) pda_nil)) (pd_tup pda_nil))) pda_nil)))) (nomark _)) (psd_one (psd_ret pd_bl)) psd_nil)))))))))) (psd_one (psd_ret pd_bl)))))))))))), fun xs G R h => v_law xs G R RX h⟩
/-! ### the head -/
def dd (x : Str) (i : Nat) : He.DefD := ⟨(x, none), x, x, defArgs (top i), defBody (top i), defScope (top i), [], []⟩
def de (x : Str) (i : Nat) (vs : List He.Dv) : He.DefD := ⟨(x, none), x, x, defArgs (top i), defBody (top i), defScope (top i), vs, []⟩
def dm (C m : Str) (i : Nat) : He.DefD := ⟨(C, some m), m, C ++ "." ++ m, defArgs (methOf (top i) m), defBody (methOf (top i) m), defScope (methOf (top i) m), [], []⟩
def fn : List He.DefD := [dd "is_integer" 8, dd "is_within" 9, dd "is_list" 10, dd "need_number" 11, dd "fixed" 13, dm "Paper" "__init__" 14, dm "Paper" "__bool__" 14, dm "Denial" "__bool__" 15, dd "is_line" 30, dm "Program" "__init__" 31, de "need_program" 33 [He.Dv.str "program"], dd "is_contents" 39, dd "need_stand" 40, dd "changed" 41, dd "next_in" 42, dd "stands_on" 43, dd "course_in" 44, dd "stepped" 45, dd "judged_course" 46, dd "_law_stoker" 48, dd "_law_feed_by" 49, dd "_law_pick" 50, dd "_law_due" 51, dd "law" 52]
def fa : List He.Fa := [.glo "is_integer", .glo "is_within", .glo "is_list", .glo "need_number", .glo "fixed", .glo "Paper", .glo "Paper", .glo "Denial", .glo "is_line", .glo "Program", .glo "need_program", .glo "is_contents", .glo "need_stand", .glo "changed", .glo "next_in", .glo "stands_on", .glo "course_in", .glo "stepped", .glo "judged_course", .glo "_law_stoker", .glo "_law_feed_by", .glo "_law_pick", .glo "_law_due", .glo "law", .mkr "Ends", .mkr "Program", .mkr "Runs", .free "abs", .free "all", .free "bool", .free "enumerate", .free "int", .free "isinstance", .free "len", .free "list", .free "range", .free "repr", .free "str", .free "tuple", .str "BAR" "/", .str "FIGURES" "0123456789", .int "MOST_FIGURES" 140, .int "MOST_LINES" 15, .int "LAST_BOX" 1, .str "UP" "up", .str "DOWN" "down", .str "TEST" "test", .str "STOP" "stop", .int "MOST_STEPS" 400, .str "FAULT" "fault"]
abbrev Rw : PySem.W.OpenRow := PySem.W.OpenLaw.row PySem.Challenge.rw_timesfloor_k61_whole_one_line_at_each_st
def ex (K : PySem.W.Frag) : Bool := tabOkB K && (owB K cls subC && (soB (PySem.Challenge.rw_timesfloor_k61_whole_one_line_at_each_st).prog.main.file K "Runs" "Paper" && (soB (PySem.Challenge.rw_timesfloor_k61_whole_one_line_at_each_st).prog.main.file K "Ends" "Paper" && (dctB K "ENDS" kv_ENDS && (He.eqO (PySem.W.findIn K (.ref (He.ga K "Runs")) "__bool__") (some (some (.ref (He.ma K (He.ga K "Paper") "__bool__")))) && (PySem.W.isFn K (.ref (He.ma K (He.ga K "Paper") "__bool__")) && (He.eqO (PySem.W.findIn K (.ref (He.ga K "Ends")) "__bool__") (some (some (.ref (He.ma K (He.ga K "Denial") "__bool__")))) && (PySem.W.isFn K (.ref (He.ma K (He.ga K "Denial") "__bool__")) && (true)))))))))
def ask : Ask := ⟨5, fa, fn, [], ex, [defO "Runs" (top 37), defO "Ends" (top 38)], [(fun K => He.ga K "ENDS", kv_ENDS.map (·.1))]⟩
abbrev hk : PySem.W.Hook := hookE ask
def ob (s : PySem.W.SharedT) : AlE := obsE ask (HandSHeadRun.getT s)
theorem ob_eq (s : PySem.W.SharedT) : ob s = hk.obs s.abs := obsE_eq (HandSHeadRun.getT_eq s)
def loose : List Str := (["_wall", "TileError", "BadNumber", "BadProgram", "BadStand", "BadText", "is_integer", "is_within", "is_list", "need_number", "fixed", "Paper"] : List Str) ++ (["Denial", "BAR", "FIGURES", "MOST_FIGURES", "written", "Scan", "MOST_LINES", "LAST_BOX", "UP", "DOWN", "TEST", "STOP"] : List Str) ++ (["ENDS", "is_line", "Program", "line_in", "need_program", "MOST_STEPS", "FAULT", "Runs", "Ends", "is_contents", "need_stand", "changed"] : List Str) ++ (["next_in", "stands_on", "course_in", "stepped", "judged_course", "_law_stoker", "_law_feed_by", "_law_pick", "_law_due"] : List Str)
set_option maxHeartbeats 0 in
theorem run_false (w : World) : HandSHeadRun.RunEq Rw (PySem.W.view Rw.prog [52]) hk ob 12000 loose (w.withFollow "special-get-raises" false) := by
  intro os
  kernel_rfl
set_option maxHeartbeats 0 in
theorem run_true (w : World) : HandSHeadRun.RunEq Rw (PySem.W.view Rw.prog [52]) hk ob 12000 loose (w.withFollow "special-get-raises" true) := by
  intro os
  kernel_rfl
theorem run (w : World) : HandSHeadRun.RunEq Rw (PySem.W.view Rw.prog [52]) hk ob 12000 loose w := PySem.W.byRow2 "special-get-raises" (P := fun w => HandSHeadRun.RunEq Rw (PySem.W.view Rw.prog [52]) hk ob 12000 loose w) run_false run_true w
section
variable {K : PySem.W.Frag} {h : Heap} {mg : Str → Option Value}
theorem tx (X : K.In h) (G : h.Ns mainGlobals mg) (c : He.SaysD fa fn K) : Tx mg := ⟨He.free_ok X G (c.fact 27 (f := .free "abs") rfl), He.free_ok X G (c.fact 28 (f := .free "all") rfl), He.free_ok X G (c.fact 29 (f := .free "bool") rfl), He.free_ok X G (c.fact 30 (f := .free "enumerate") rfl), He.free_ok X G (c.fact 31 (f := .free "int") rfl), He.free_ok X G (c.fact 32 (f := .free "isinstance") rfl), He.free_ok X G (c.fact 33 (f := .free "len") rfl), He.free_ok X G (c.fact 34 (f := .free "list") rfl), He.free_ok X G (c.fact 35 (f := .free "range") rfl), He.free_ok X G (c.fact 36 (f := .free "repr") rfl), He.free_ok X G (c.fact 37 (f := .free "str") rfl), He.free_ok X G (c.fact 38 (f := .free "tuple") rfl), He.str_ok X G (c.fact 39 (f := .str "BAR" "/") rfl), He.str_ok X G (c.fact 40 (f := .str "FIGURES" "0123456789") rfl), He.int_ok X G (c.fact 41 (f := .int "MOST_FIGURES" 140) rfl), He.int_ok X G (c.fact 42 (f := .int "MOST_LINES" 15) rfl), He.int_ok X G (c.fact 43 (f := .int "LAST_BOX" 1) rfl), He.str_ok X G (c.fact 44 (f := .str "UP" "up") rfl), He.str_ok X G (c.fact 45 (f := .str "DOWN" "down") rfl), He.str_ok X G (c.fact 46 (f := .str "TEST" "test") rfl), He.str_ok X G (c.fact 47 (f := .str "STOP" "stop") rfl), He.int_ok X G (c.fact 48 (f := .int "MOST_STEPS" 400) rfl), He.str_ok X G (c.fact 49 (f := .str "FAULT" "fault") rfl)⟩
theorem df_is_integer (X : K.In h) (G : h.Ns mainGlobals mg) (c : He.SaysD fa fn K) : Df K mg "is_integer" st_is_integer := ⟨He.glo_ok X G (c.fact 0 (f := .glo "is_integer") rfl), c.def_ 0 (d := dd "is_integer" 8) rfl⟩
theorem df_is_within (X : K.In h) (G : h.Ns mainGlobals mg) (c : He.SaysD fa fn K) : Df K mg "is_within" st_is_within := ⟨He.glo_ok X G (c.fact 1 (f := .glo "is_within") rfl), c.def_ 1 (d := dd "is_within" 9) rfl⟩
theorem df_is_list (X : K.In h) (G : h.Ns mainGlobals mg) (c : He.SaysD fa fn K) : Df K mg "is_list" st_is_list := ⟨He.glo_ok X G (c.fact 2 (f := .glo "is_list") rfl), c.def_ 2 (d := dd "is_list" 10) rfl⟩
theorem df_need_number (X : K.In h) (G : h.Ns mainGlobals mg) (c : He.SaysD fa fn K) : Df K mg "need_number" st_need_number := ⟨He.glo_ok X G (c.fact 3 (f := .glo "need_number") rfl), c.def_ 3 (d := dd "need_number" 11) rfl⟩
theorem df_fixed (X : K.In h) (G : h.Ns mainGlobals mg) (c : He.SaysD fa fn K) : Df K mg "fixed" st_fixed := ⟨He.glo_ok X G (c.fact 4 (f := .glo "fixed") rfl), c.def_ 4 (d := dd "fixed" 13) rfl⟩
theorem df_Paper___init__ (X : K.In h) (G : h.Ns mainGlobals mg) (c : He.SaysD fa fn K) : DfM K "Paper" "__init__" st_Paper___init__ := ⟨c.def_ 5 (d := dm "Paper" "__init__" 14) rfl⟩
theorem df_Paper___bool__ (X : K.In h) (G : h.Ns mainGlobals mg) (c : He.SaysD fa fn K) : DfM K "Paper" "__bool__" st_Paper___bool__ := ⟨c.def_ 6 (d := dm "Paper" "__bool__" 14) rfl⟩
theorem df_Denial___bool__ (X : K.In h) (G : h.Ns mainGlobals mg) (c : He.SaysD fa fn K) : DfM K "Denial" "__bool__" st_Denial___bool__ := ⟨c.def_ 7 (d := dm "Denial" "__bool__" 15) rfl⟩
theorem df_is_line (X : K.In h) (G : h.Ns mainGlobals mg) (c : He.SaysD fa fn K) : Df K mg "is_line" st_is_line := ⟨He.glo_ok X G (c.fact 8 (f := .glo "is_line") rfl), c.def_ 8 (d := dd "is_line" 30) rfl⟩
theorem df_Program___init__ (X : K.In h) (G : h.Ns mainGlobals mg) (c : He.SaysD fa fn K) : DfM K "Program" "__init__" st_Program___init__ := ⟨c.def_ 9 (d := dm "Program" "__init__" 31) rfl⟩
theorem df_need_program (X : K.In h) (G : h.Ns mainGlobals mg) (c : He.SaysD fa fn K) : DfD K mg "need_program" st_need_program [V.str "program"] := ⟨He.glo_ok X G (c.fact 10 (f := .glo "need_program") rfl), c.def_ 10 (d := de "need_program" 33 [He.Dv.str "program"]) rfl⟩
theorem df_is_contents (X : K.In h) (G : h.Ns mainGlobals mg) (c : He.SaysD fa fn K) : Df K mg "is_contents" st_is_contents := ⟨He.glo_ok X G (c.fact 11 (f := .glo "is_contents") rfl), c.def_ 11 (d := dd "is_contents" 39) rfl⟩
theorem df_need_stand (X : K.In h) (G : h.Ns mainGlobals mg) (c : He.SaysD fa fn K) : Df K mg "need_stand" st_need_stand := ⟨He.glo_ok X G (c.fact 12 (f := .glo "need_stand") rfl), c.def_ 12 (d := dd "need_stand" 40) rfl⟩
theorem df_changed (X : K.In h) (G : h.Ns mainGlobals mg) (c : He.SaysD fa fn K) : Df K mg "changed" st_changed := ⟨He.glo_ok X G (c.fact 13 (f := .glo "changed") rfl), c.def_ 13 (d := dd "changed" 41) rfl⟩
theorem df_next_in (X : K.In h) (G : h.Ns mainGlobals mg) (c : He.SaysD fa fn K) : Df K mg "next_in" st_next_in := ⟨He.glo_ok X G (c.fact 14 (f := .glo "next_in") rfl), c.def_ 14 (d := dd "next_in" 42) rfl⟩
theorem df_stands_on (X : K.In h) (G : h.Ns mainGlobals mg) (c : He.SaysD fa fn K) : Df K mg "stands_on" st_stands_on := ⟨He.glo_ok X G (c.fact 15 (f := .glo "stands_on") rfl), c.def_ 15 (d := dd "stands_on" 43) rfl⟩
theorem df_course_in (X : K.In h) (G : h.Ns mainGlobals mg) (c : He.SaysD fa fn K) : Df K mg "course_in" st_course_in := ⟨He.glo_ok X G (c.fact 16 (f := .glo "course_in") rfl), c.def_ 16 (d := dd "course_in" 44) rfl⟩
theorem df_stepped (X : K.In h) (G : h.Ns mainGlobals mg) (c : He.SaysD fa fn K) : Df K mg "stepped" st_stepped := ⟨He.glo_ok X G (c.fact 17 (f := .glo "stepped") rfl), c.def_ 17 (d := dd "stepped" 45) rfl⟩
theorem df_judged_course (X : K.In h) (G : h.Ns mainGlobals mg) (c : He.SaysD fa fn K) : Df K mg "judged_course" st_judged_course := ⟨He.glo_ok X G (c.fact 18 (f := .glo "judged_course") rfl), c.def_ 18 (d := dd "judged_course" 46) rfl⟩
theorem df__law_stoker (X : K.In h) (G : h.Ns mainGlobals mg) (c : He.SaysD fa fn K) : Df K mg "_law_stoker" st__law_stoker := ⟨He.glo_ok X G (c.fact 19 (f := .glo "_law_stoker") rfl), c.def_ 19 (d := dd "_law_stoker" 48) rfl⟩
theorem df__law_feed_by (X : K.In h) (G : h.Ns mainGlobals mg) (c : He.SaysD fa fn K) : Df K mg "_law_feed_by" st__law_feed_by := ⟨He.glo_ok X G (c.fact 20 (f := .glo "_law_feed_by") rfl), c.def_ 20 (d := dd "_law_feed_by" 49) rfl⟩
theorem df__law_pick (X : K.In h) (G : h.Ns mainGlobals mg) (c : He.SaysD fa fn K) : Df K mg "_law_pick" st__law_pick := ⟨He.glo_ok X G (c.fact 21 (f := .glo "_law_pick") rfl), c.def_ 21 (d := dd "_law_pick" 50) rfl⟩
theorem df__law_due (X : K.In h) (G : h.Ns mainGlobals mg) (c : He.SaysD fa fn K) : Df K mg "_law_due" st__law_due := ⟨He.glo_ok X G (c.fact 22 (f := .glo "_law_due") rfl), c.def_ 22 (d := dd "_law_due" 51) rfl⟩
theorem df_law (X : K.In h) (G : h.Ns mainGlobals mg) (c : He.SaysD fa fn K) : Df K mg "law" st_law := ⟨He.glo_ok X G (c.fact 23 (f := .glo "law") rfl), c.def_ 23 (d := dd "law" 52) rfl⟩
set_option maxHeartbeats 4000000 in
theorem law_kn {w : World} {base : Heap} (X : K.In h) (G : h.Ns mainGlobals mg) (c : SaysE ask w h K) (tb : TabsB K base mg) : Kn (PySem.Challenge.rw_timesfloor_k61_whole_one_line_at_each_st).prog w K mg base 14 "law" st_law ["_law_script"] lawSp := by
  obtain ⟨_, bz⟩ := He.ba (show ex K = true from c.x.more)
  obtain ⟨bx, bz⟩ := He.ba bz
  have W : OwC K mg cls subC := owB_ok X G bx
  obtain ⟨bx, bz⟩ := He.ba bz
  have so_Runs___init__ := so_of (P := (PySem.Challenge.rw_timesfloor_k61_whole_one_line_at_each_st).prog) bx (c.cls 0 (d := defO "Runs" (top 37)) rfl) (by kernel_rfl)
  obtain ⟨bx, bz⟩ := He.ba bz
  have so_Ends___init__ := so_of (P := (PySem.Challenge.rw_timesfloor_k61_whole_one_line_at_each_st).prog) bx (c.cls 1 (d := defO "Ends" (top 38)) rfl) (by kernel_rfl)
  obtain ⟨bx, bz⟩ := He.ba bz
  have dk_ENDS : DctK K w mg "ENDS" kv_ENDS := dctk_of X G bx (c.dic 0 (t := (fun K => He.ga K "ENDS", kv_ENDS.map (·.1))) rfl)
  obtain ⟨bt0, bz⟩ := He.ba bz
  obtain ⟨bu0, bz⟩ := He.ba bz
  obtain ⟨bt1, bz⟩ := He.ba bz
  obtain ⟨bu1, bz⟩ := He.ba bz
  have mk_Ends := He.mkr_ok (x := "Ends") (c.d.fact 24 (f := .mkr "Ends") rfl)
  have mk_Program := He.mkr_ok (x := "Program") (c.d.fact 25 (f := .mkr "Program") rfl)
  have mk_Runs := He.mkr_ok (x := "Runs") (c.d.fact 26 (f := .mkr "Runs") rfl)
  have k_is_list := Lw.k_is_list (P := (PySem.Challenge.rw_timesfloor_k61_whole_one_line_at_each_st).prog) (w := w) (base := base) (tx X G c.d) (df_is_list X G c.d)
  have k_is_integer := Lw.k_is_integer (P := (PySem.Challenge.rw_timesfloor_k61_whole_one_line_at_each_st).prog) (w := w) (base := base) (tx X G c.d) (df_is_integer X G c.d)
  have k_is_within := Lw.k_is_within (P := (PySem.Challenge.rw_timesfloor_k61_whole_one_line_at_each_st).prog) (w := w) (base := base) (tx X G c.d) (df_is_within X G c.d) k_is_integer
  have k_is_line := Lw.k_is_line (P := (PySem.Challenge.rw_timesfloor_k61_whole_one_line_at_each_st).prog) (w := w) (base := base) (tx X G c.d) (df_is_line X G c.d) dk_ENDS k_is_within k_is_list
  have k_Program___init__ := Lw.k_Program___init__ (P := (PySem.Challenge.rw_timesfloor_k61_whole_one_line_at_each_st).prog) (w := w) (base := base) (tx X G c.d) (df_Program___init__ X G c.d) W k_is_list k_is_line
  have k_need_program := Lw.k_need_program (P := (PySem.Challenge.rw_timesfloor_k61_whole_one_line_at_each_st).prog) (w := w) (base := base) (tx X G c.d) (df_need_program X G c.d) W
  have k_is_contents := Lw.k_is_contents (P := (PySem.Challenge.rw_timesfloor_k61_whole_one_line_at_each_st).prog) (w := w) (base := base) (tx X G c.d) (df_is_contents X G c.d) k_is_within
  have k_need_stand := Lw.k_need_stand (P := (PySem.Challenge.rw_timesfloor_k61_whole_one_line_at_each_st).prog) (w := w) (base := base) (tx X G c.d) (df_need_stand X G c.d) W k_is_within k_is_list k_is_contents
  have k_changed := Lw.k_changed (P := (PySem.Challenge.rw_timesfloor_k61_whole_one_line_at_each_st).prog) (w := w) (base := base) (tx X G c.d) (df_changed X G c.d)
  have k_next_in := Lw.k_next_in (P := (PySem.Challenge.rw_timesfloor_k61_whole_one_line_at_each_st).prog) (w := w) (base := base) (tx X G c.d) (df_next_in X G c.d) W k_changed
  have k_stepped := Lw.k_stepped (P := (PySem.Challenge.rw_timesfloor_k61_whole_one_line_at_each_st).prog) (w := w) (base := base) (tx X G c.d) (df_stepped X G c.d) k_need_program k_need_stand k_next_in
  have k_need_number := Lw.k_need_number (P := (PySem.Challenge.rw_timesfloor_k61_whole_one_line_at_each_st).prog) (w := w) (base := base) (tx X G c.d) (df_need_number X G c.d) k_is_within
  have k_fixed := Lw.k_fixed (P := (PySem.Challenge.rw_timesfloor_k61_whole_one_line_at_each_st).prog) (w := w) (base := base) (tx X G c.d) (df_fixed X G c.d) 8
  have k_Paper___init__ := Lw.k_Paper___init__ (P := (PySem.Challenge.rw_timesfloor_k61_whole_one_line_at_each_st).prog) (w := w) (base := base) (tx X G c.d) (df_Paper___init__ X G c.d) W k_fixed
  have k_Runs___init__ := Lw.k_Runs___init__ (P := (PySem.Challenge.rw_timesfloor_k61_whole_one_line_at_each_st).prog) (w := w) (base := base) (tx X G c.d) so_Runs___init__ W k_Paper___init__
  have k_Ends___init__ := Lw.k_Ends___init__ (P := (PySem.Challenge.rw_timesfloor_k61_whole_one_line_at_each_st).prog) (w := w) (base := base) (tx X G c.d) so_Ends___init__ W k_Paper___init__
  have k_stands_on := Lw.k_stands_on (P := (PySem.Challenge.rw_timesfloor_k61_whole_one_line_at_each_st).prog) (w := w) (base := base) (tx X G c.d) (df_stands_on X G c.d) k_next_in
  have k_course_in := Lw.k_course_in (P := (PySem.Challenge.rw_timesfloor_k61_whole_one_line_at_each_st).prog) (w := w) (base := base) (tx X G c.d) (df_course_in X G c.d) W mk_Ends mk_Runs k_Runs___init__ k_Ends___init__ k_stands_on
  have k_judged_course := Lw.k_judged_course (P := (PySem.Challenge.rw_timesfloor_k61_whole_one_line_at_each_st).prog) (w := w) (base := base) (tx X G c.d) (df_judged_course X G c.d) k_need_number k_need_program k_need_stand k_course_in
  have k__law_stoker := Lw.k__law_stoker (P := (PySem.Challenge.rw_timesfloor_k61_whole_one_line_at_each_st).prog) (w := w) (base := base) (tx X G c.d) (df__law_stoker X G c.d)
  have k__law_feed_by := Lw.k__law_feed_by (P := (PySem.Challenge.rw_timesfloor_k61_whole_one_line_at_each_st).prog) (w := w) (base := base) (tx X G c.d) (df__law_feed_by X G c.d)
  have k__law_pick := Lw.k__law_pick (P := (PySem.Challenge.rw_timesfloor_k61_whole_one_line_at_each_st).prog) (w := w) (base := base) (tx X G c.d) (df__law_pick X G c.d) k__law_feed_by
  have k__law_due := Lw.k__law_due (P := (PySem.Challenge.rw_timesfloor_k61_whole_one_line_at_each_st).prog) (w := w) (base := base) (tx X G c.d) (df__law_due X G c.d)
  have k_Paper___bool__ := Lw.k_Paper___bool__ (P := (PySem.Challenge.rw_timesfloor_k61_whole_one_line_at_each_st).prog) (w := w) (base := base) (tx X G c.d) (df_Paper___bool__ X G c.d)
  have k_Denial___bool__ := Lw.k_Denial___bool__ (P := (PySem.Challenge.rw_timesfloor_k61_whole_one_line_at_each_st).prog) (w := w) (base := base) (tx X G c.d) (df_Denial___bool__ X G c.d)
  have tr : ∀ p ∈ trT, TruOk (PySem.Challenge.rw_timesfloor_k61_whole_one_line_at_each_st).prog w K mg base 1 p.1 p.2 := fun p hp => by
    simp only [trT, List.mem_cons, List.mem_nil_iff, or_false] at hp
    rcases hp with rfl | rfl
    · exact ⟨"Paper", st_Paper___bool__, He.eqO_ok bt0, bu0, k_Paper___bool__, fun _ _ _ _ _ _ us hl => match us, hl with | [_], _ => rfl⟩
    · exact ⟨"Denial", st_Denial___bool__, He.eqO_ok bt1, bu1, k_Denial___bool__, fun _ _ _ _ _ _ us hl => match us, hl with | [_], _ => rfl⟩
  have k_law := Lw.k_law (P := (PySem.Challenge.rw_timesfloor_k61_whole_one_line_at_each_st).prog) (w := w) (base := base) (tx X G c.d) (df_law X G c.d) W tr mk_Program k_Program___init__ k_stepped k_judged_course k__law_stoker k__law_feed_by k__law_pick k__law_due
  exact k_law
end
end Lw
open PySem PySem.W PySem.Calls PyProof.Rows
set_option maxHeartbeats 0 in
theorem PySem.Challenge.cw_timesfloor_k61_whole_one_line_at_each_st_holds : PySem.Challenge.rw_timesfloor_k61_whole_one_line_at_each_st.Holds := by
  w_on; o_law
  refine HandSHeadRun.head_any (r := OpenLaw.row PySem.Challenge.rw_timesfloor_k61_whole_one_line_at_each_st) (q := view (OpenLaw.row PySem.Challenge.rw_timesfloor_k61_whole_one_line_at_each_st).prog [52]) (H := Lw.hk) (ob := Lw.ob) (M := 12000) (loose := Lw.loose) (d := HandSHeadRun.topDef (OpenLaw.row PySem.Challenge.rw_timesfloor_k61_whole_one_line_at_each_st).prog 52) (kwd := []) Lw.ob_eq
    (by kernel_rfl) (fun s => by kernel_rfl) Lw.run (by kernel_rfl) (by kernel_rfl) (by kernel_rfl) (by rfl) (by first | assumption | decide +kernel) (by decide +kernel) ⟨rfl, rfl, rfl, rfl, rfl, by decide +kernel⟩ ?hw ?hc
  case hw => w_witness2
  case hc =>
    refine DL.walk_lawT (l := PySem.Challenge.rw_timesfloor_k61_whole_one_line_at_each_st) (n := 63) (k := 14) (x := "_law_script") rfl (by decide) (by kernel_rfl) ⟨rfl, by decide, by decide⟩ ?F
    intro w mg fa h Y G hmg0
    obtain ⟨K, KX, c⟩ := Y
    have hmg : mg ("law" : PySem.Str) = some (.ref fa) := by
      have e : (HandSHeadRun.topDef (OpenLaw.row PySem.Challenge.rw_timesfloor_k61_whole_one_line_at_each_st).prog 52).name = ("law" : PySem.Str) := by kernel_rfl
      rw [← e]
      exact hmg0
    have tf := c.tabF KX rfl (He.ba (show Lw.ex K = true from c.x.more)).1
    obtain ⟨fd, sp, ct, q1, q2, q3, q4, q5, q6⟩ := DL.law_of (P := (PySem.Challenge.rw_timesfloor_k61_whole_one_line_at_each_st).prog) (w := w) hmg (Lw.df_law KX G c.d) tf (fun _ _ _ _ _ _ us hl => match us, hl with | [_], _ => rfl) fun base tb => Lw.law_kn KX G c tb
    exact ⟨K, fd, sp, ct, KX, q1, q2, q3, q4, q5, q6⟩
