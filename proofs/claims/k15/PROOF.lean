import PyProof.Rows.All
import Wide.All
import OpenK.AllK
import Wide.FinOn
import PyProof.EqAt
import PyProof.ReprRoads
import HandS.ForMost
import HandS.Exc
import HandS.WordsExc
import HandS.IsInst
import HandS.Wide
import HandS.Defaults
import HandS.Zip
import HandS.Evl
import HandS.TryOnly
import HandS.HeadHook1
import HandS.HeadHook2
import HandS.Head0
import HandS.Head1
import HandS.Head2
import HandS.HeadEnd
import KE.KStateDown
import HandS.Style
import PyProof.P3Eq
import HandS.Zip0
import PyProof.LongRange
import PyProof.EnumMake
import HandS.List
import PySem.Challenge.RW_timesfloor_k15_sums_and_what_comes_again
set_option Elab.async false
set_option linter.all false
set_option maxRecDepth 100000
set_option maxHeartbeats 4000000
/-! DL: plain data over the abstract heap. A value stands for a datum D; what may change stands in a store G. -/
namespace DL
open PySem PySem.Spec PyProof.Rows L2 Evl

/-! ## Data -/
inductive D where
  | non | bl (b : Bool) | int (i : Int) | str (x : Str) | ty (n : String) | ref (a : Addr)
  | tup (xs : List D) | lst (xs : List D) | dct (ks : List Key) (xs : List D) | ins (C : Addr) (ns : List Str) (xs : List D)

mutual
/-- v stands for d over the heap H of what never changes -/
inductive Rp (K : PySem.W.Frag) (H : Hp) : V → D → Prop
  | non : Rp K H .non .non
  | bl (b : Bool) : Rp K H (.bl b) (.bl b)
  | int (i : Int) : Rp K H (.int i) (.int i)
  | str (x : Str) : Rp K H (.str x) (.str x)
  | ty (n : String) : Rp K H (.ty n) (.ty n)
  | ref (a : Addr) : Rp K H (.ref a) (.ref a)
  | tup {a : Addr} {xs : List V} {ds : List D} : SqT K H a xs → RpL K H xs ds → Rp K H (.ref a) (.tup ds)
  | lst {a : Addr} {xs : List V} {ds : List D} : SqL K H a xs → RpL K H xs ds → Rp K H (.ref a) (.lst ds)
  | dct {a : Addr} {ks : List Key} {xs : List V} {ds : List D} : H a = some (.dK (ks.zip xs)) → ks.length = xs.length → RpL K H xs ds → Rp K H (.ref a) (.dct ks ds)
  | ins {a C dx : Addr} {ns : List Str} {xs : List V} {ds : List D} : H a = some (.ins C dx (ns.zip xs)) → ns.length = xs.length → RpL K H xs ds → Rp K H (.ref a) (.ins C ns ds)
inductive RpL (K : PySem.W.Frag) (H : Hp) : List V → List D → Prop
  | nil : RpL K H [] []
  | cons {v : V} {vs : List V} {d : D} {ds : List D} : Rp K H v d → RpL K H vs ds → RpL K H (v :: vs) (d :: ds)
end

section
variable {K : PySem.W.Frag} {H H' : Hp}
mutual
theorem Rp.mono (e : Ex H H') : ∀ {v : V} {d : D}, Rp K H v d → Rp K H' v d
  | _, _, .non => .non
  | _, _, .bl b => .bl b
  | _, _, .int i => .int i
  | _, _, .str x => .str x
  | _, _, .ty n => .ty n
  | _, _, .ref a => .ref a
  | _, _, .tup s r => .tup (ex_t e s) (RpL.mono e r)
  | _, _, .lst s r => .lst (ex_l e s) (RpL.mono e r)
  | _, _, .dct s z r => .dct (e _ _ s) z (RpL.mono e r)
  | _, _, .ins s z r => .ins (e _ _ s) z (RpL.mono e r)
theorem RpL.mono (e : Ex H H') : ∀ {vs : List V} {ds : List D}, RpL K H vs ds → RpL K H' vs ds
  | _, _, .nil => .nil
  | _, _, .cons a b => .cons (Rp.mono e a) (RpL.mono e b)
end
theorem RpL.length : ∀ {vs : List V} {ds : List D}, RpL K H vs ds → vs.length = ds.length
  | _, _, .nil => rfl
  | _, _, .cons _ b => congrArg (· + 1) (RpL.length b)
theorem RpL.app : ∀ {vs ws : List V} {ds es : List D}, RpL K H vs ds → RpL K H ws es → RpL K H (vs ++ ws) (ds ++ es)
  | _, _, _, _, .nil, h => h
  | _, _, _, _, .cons a b, h => .cons a (RpL.app b h)
theorem RpL.at : ∀ {vs : List V} {ds : List D} {i : Nat} {d : D}, RpL K H vs ds → ds[i]? = some d → ∃ v, vs[i]? = some v ∧ Rp K H v d
  | _, _, _, _, .nil, h => nomatch h
  | _, _, 0, _, .cons a _, h => ⟨_, rfl, by cases Option.some.inj h; exact a⟩
  | _, _, i + 1, _, .cons _ b, h => RpL.at (i := i) b h
theorem RpL.atV : ∀ {vs : List V} {ds : List D} {i : Nat} {v : V}, RpL K H vs ds → vs[i]? = some v → ∃ d, ds[i]? = some d ∧ Rp K H v d
  | _, _, _, _, .nil, h => nomatch h
  | _, _, 0, _, .cons a _, h => ⟨_, rfl, by cases Option.some.inj h; exact a⟩
  | _, _, i + 1, _, .cons _ b, h => RpL.atV (i := i) b h
theorem RpL.take : ∀ {vs : List V} {ds : List D} (n : Nat), RpL K H vs ds → RpL K H (vs.take n) (ds.take n)
  | _, _, 0, _ => .nil
  | _, _, _ + 1, .nil => .nil
  | _, _, n + 1, .cons a b => .cons a (RpL.take n b)
theorem RpL.drop : ∀ {vs : List V} {ds : List D} (n : Nat), RpL K H vs ds → RpL K H (vs.drop n) (ds.drop n)
  | _, _, 0, h => h
  | _, _, _ + 1, .nil => .nil
  | _, _, n + 1, .cons _ b => RpL.drop n b
theorem RpL.set : ∀ {vs : List V} {ds : List D} {v : V} {d : D} (i : Nat), Rp K H v d → RpL K H vs ds → RpL K H (vs.set i v) (ds.set i d)
  | _, _, _, _, _, _, .nil => .nil
  | _, _, _, _, 0, h, .cons _ b => .cons h b
  | _, _, _, _, i + 1, h, .cons a b => .cons a (RpL.set i h b)
end

/-! ## What may change -/
inductive Mt where
  | lst (xs : List D) | ins (C : Addr) (ns : List Str) (xs : List D) | gau (T : Nat)
abbrev Gm := Addr → Option Mt
def gup (G : Gm) (a : Addr) (m : Mt) : Gm := fun b => if b = a then some m else G b
theorem gup_same {G : Gm} {a : Addr} {m : Mt} : gup G a m a = some m := if_pos rfl
theorem gup_ne {G : Gm} {a b : Addr} {m : Mt} (h : b ≠ a) : gup G a m b = G b := if_neg h
theorem gup_gup {G : Gm} {a : Addr} {m n : Mt} : gup (gup G a m) a n = gup G a n := by
  funext b
  unfold gup
  split <;> rfl
/-- the drawing list: its cells (frozen), a count of at most T, a rest -/
def HoldM (K : PySem.W.Frag) (Hd H : Hp) (a : Addr) : Mt → Prop
  | .lst ds => ∃ xs, H a = some (.lst xs) ∧ RpL K Hd xs ds
  | .ins C ns ds => ∃ dx xs, H a = some (.ins C dx (ns.zip xs)) ∧ ns.length = xs.length ∧ RpL K Hd xs ds
  | .gau T => ∃ (l : Addr) (t : Nat) (r : Int) (cs : List Int), H a = some (.lst [.ref l, .int t, .int r]) ∧ Hd l = some (.lst (cs.map V.int)) ∧ cs.length ≤ 63 ∧ t ≤ T ∧ 0 ≤ r
/-- F: what others keep in their store -/
structure Sim (K : PySem.W.Frag) (F : Gm) (Hd H : Hp) (G : Gm) : Prop where
  sub : Ex Hd H
  off : ∀ a m, G a = some m → Hd a = none
  hold : ∀ a m, G a = some m → HoldM K Hd H a m
  offF : ∀ a m, F a = some m → Hd a = none
  holdF : ∀ a m, F a = some m → HoldM K Hd H a m
  apart : ∀ a m, F a = some m → G a = none
theorem HoldM.mono {K : PySem.W.Frag} {Hd Hd' H : Hp} {a : Addr} (e : Ex Hd Hd') : ∀ {m : Mt}, HoldM K Hd H a m → HoldM K Hd' H a m
  | .lst _, ⟨xs, h, r⟩ => ⟨xs, h, r.mono e⟩
  | .ins _ _ _, ⟨dx, xs, h, z, r⟩ => ⟨dx, xs, h, z, r.mono e⟩
  | .gau _, ⟨l, t, r, cs, h, hl, z⟩ => ⟨l, t, r, cs, h, e _ _ hl, z⟩
theorem HoldM.there {K : PySem.W.Frag} {Hd H : Hp} {a : Addr} : ∀ {m : Mt}, HoldM K Hd H a m → ∃ o, H a = some o
  | .lst _, ⟨_, h, _⟩ => ⟨_, h⟩
  | .ins _ _ _, ⟨_, _, h, _⟩ => ⟨_, h⟩
  | .gau _, ⟨_, _, _, _, h, _⟩ => ⟨_, h⟩
/-- the same but at the object p of the heap, which no part of the store is -/
theorem HoldM.other {K : PySem.W.Frag} {Hd H : Hp} {a p : Addr} {o : HO} (hp : a ≠ p) : ∀ {m : Mt}, HoldM K Hd H a m → HoldM K Hd (upd H p o) a m
  | .lst _, ⟨xs, h, r⟩ => ⟨xs, by rw [upd_ne hp]; exact h, r⟩
  | .ins _ _ _, ⟨dx, xs, h, z⟩ => ⟨dx, xs, by rw [upd_ne hp]; exact h, z⟩
  | .gau _, ⟨l, t, r, cs, h, z⟩ => ⟨l, t, r, cs, by rw [upd_ne hp]; exact h, z⟩
section
variable {K : PySem.W.Frag} {F : Gm} {Hd H : Hp} {G : Gm}
theorem Sim.free (S : Sim K F Hd H G) {p : Addr} (h : H p = none) : Hd p = none := fresh_back S.sub h
theorem Sim.gfree (S : Sim K F Hd H G) {p : Addr} (h : H p = none) : G p = none := by
  cases e : G p with
  | none => rfl
  | some m =>
    obtain ⟨o, q⟩ := (S.hold p m e).there
    rw [h] at q
    cases q
theorem Sim.ffree (S : Sim K F Hd H G) {p : Addr} (h : H p = none) : F p = none := by
  cases e : F p with
  | none => rfl
  | some m =>
    obtain ⟨o, q⟩ := (S.holdF p m e).there
    rw [h] at q
    cases q
theorem ne_g {G : Gm} {a p : Addr} {m : Mt} (e : G a = some m) (h : G p = none) : a ≠ p := fun z => by
  rw [z, h] at e
  cases e
/-- a new object that never changes -/
theorem Sim.new (S : Sim K F Hd H G) {p : Addr} {o : HO} (h : H p = none) : Sim K F (upd Hd p o) (upd H p o) G where
  sub := fun a u e => by
    by_cases q : a = p
    · subst q
      rw [upd_same] at e ⊢
      exact e
    · rw [upd_ne q] at e ⊢
      exact S.sub a u e
  off := fun a m e => by
    rw [upd_ne (ne_g e (S.gfree h))]
    exact S.off a m e
  hold := fun a m e => ((S.hold a m e).mono (Ex.new (S.free h))).other (ne_g e (S.gfree h))
  offF := fun a m e => by
    rw [upd_ne (ne_g e (S.ffree h))]
    exact S.offF a m e
  holdF := fun a m e => ((S.holdF a m e).mono (Ex.new (S.free h))).other (ne_g e (S.ffree h))
  apart := S.apart
theorem Sim.exn (S : Sim K F Hd H G) {p : Addr} {o : HO} (h : H p = none) : Ex Hd (upd Hd p o) := Ex.new (S.free h)
/-- an object beside: tracked, of no matter -/
theorem Sim.side (S : Sim K F Hd H G) {p : Addr} {o : HO} (h : H p = none) : Sim K F Hd (upd H p o) G where
  sub := S.sub.trans (Ex.new h)
  off := S.off
  hold := fun a m e => (S.hold a m e).other (ne_g e (S.gfree h))
  offF := S.offF
  holdF := fun a m e => (S.holdF a m e).other (ne_g e (S.ffree h))
  apart := S.apart
/-- the object p of the heap and its part n of the store are set -/
theorem Sim.setG (S : Sim K F Hd H G) {p : Addr} {o : HO} {n : Mt} (hs : Ex Hd (upd H p o)) (hd : Hd p = none) (hf : F p = none) (hm : HoldM K Hd (upd H p o) p n) : Sim K F Hd (upd H p o) (gup G p n) where
  sub := hs
  off := fun a k e => by
    by_cases q : a = p
    · rw [q]
      exact hd
    · rw [gup_ne q] at e
      exact S.off a k e
  hold := fun a k e => by
    by_cases q : a = p
    · subst q
      rw [gup_same] at e
      cases e
      exact hm
    · rw [gup_ne q] at e
      exact (S.hold a k e).other q
  offF := S.offF
  holdF := fun a m e => (S.holdF a m e).other (ne_g e hf)
  apart := fun a m e => by
    rw [gup_ne (ne_g e hf)]
    exact S.apart a m e
/-- a new object that may change -/
theorem Sim.cell (S : Sim K F Hd H G) {p : Addr} {o : HO} {m : Mt} (h : H p = none) (hm : HoldM K Hd (upd H p o) p m) : Sim K F Hd (upd H p o) (gup G p m) :=
  S.setG (S.sub.trans (Ex.new h)) (S.free h) (S.ffree h) hm
theorem Sim.gf (S : Sim K F Hd H G) {p : Addr} {m : Mt} (h : G p = some m) : F p = none := by
  cases e : F p with
  | none => rfl
  | some k =>
    rw [S.apart p k e] at h
    cases h
theorem ex_put {Hd H : Hp} {p : Addr} {o : HO} (e : Ex Hd H) (h : Hd p = none) : Ex Hd (upd H p o) := fun a u q => by
  have z : a ≠ p := fun z => by
    rw [z, h] at q
    cases q
  rw [upd_ne z]
  exact e a u q
/-- one that may change is changed -/
theorem Sim.put (S : Sim K F Hd H G) {p : Addr} {o : HO} {m n : Mt} (h : G p = some m) (hm : HoldM K Hd (upd H p o) p n) : Sim K F Hd (upd H p o) (gup G p n) :=
  S.setG (ex_put S.sub (S.off p m h)) (S.off p m h) (S.gf h) hm
/-- .. said otherwise -/
theorem Sim.again (S : Sim K F Hd H G) {p : Addr} {m n : Mt} (h : G p = some m) (hm : HoldM K Hd H p n) : Sim K F Hd H (gup G p n) where
  sub := S.sub
  off := fun a k e => by
    by_cases q : a = p
    · rw [q]
      exact S.off p m h
    · rw [gup_ne q] at e
      exact S.off a k e
  hold := fun a k e => by
    by_cases q : a = p
    · subst q
      rw [gup_same] at e
      cases e
      exact hm
    · rw [gup_ne q] at e
      exact S.hold a k e
  offF := S.offF
  holdF := S.holdF
  apart := fun a k e => by
    rw [gup_ne (ne_g e (S.gf h))]
    exact S.apart a k e
/-- a part of the store that others need not see -/
theorem Sim.hide (S : Sim K F Hd H G) {p : Addr} {m : Mt} {o : HO} (hd : Hd p = none) (hs : Ex Hd (upd H p o)) (hg : G p = none) (hm : HoldM K Hd (upd H p o) p m) : Sim K (gup F p m) Hd (upd H p o) G where
  sub := hs
  off := S.off
  hold := fun a k e => (S.hold a k e).other (ne_g e hg)
  offF := fun a k e => by
    by_cases q : a = p
    · rw [q]
      exact hd
    · rw [gup_ne q] at e
      exact S.offF a k e
  holdF := fun a k e => by
    by_cases q : a = p
    · subst q
      rw [gup_same] at e
      cases e
      exact hm
    · rw [gup_ne q] at e
      exact (S.holdF a k e).other q
  apart := fun a k e => by
    by_cases q : a = p
    · rw [q]
      exact hg
    · rw [gup_ne q] at e
      exact S.apart a k e
/-- .. shown again as what never changes -/
theorem Sim.bare {p : Addr} {m : Mt} (S : Sim K (gup F p m) Hd H G) {xs : List V} (h : H p = some (.lst xs)) (hf : F p = none) : Sim K F (upd Hd p (.lst xs)) H G := by
  have hd : Hd p = none := S.offF p m gup_same
  have e : Ex Hd (upd Hd p (.lst xs)) := Ex.new hd
  have hg : G p = none := S.apart p m gup_same
  refine ⟨fun a u q => ?_, fun a k q => ?_, fun a k q => (S.hold a k q).mono e, fun a k q => ?_, fun a k q => ?_, fun a k q => ?_⟩
  · by_cases z : a = p
    · subst z
      rw [upd_same] at q
      cases q
      exact h
    · rw [upd_ne z] at q
      exact S.sub a u q
  · rw [upd_ne (ne_g q hg)]
    exact S.off a k q
  · rw [upd_ne (ne_g q hf)]
    exact S.offF a k (by rw [gup_ne (ne_g q hf)]; exact q)
  · exact (S.holdF a k (by rw [gup_ne (ne_g q hf)]; exact q)).mono e
  · exact S.apart a k (by rw [gup_ne (ne_g q hf)]; exact q)
end

/-! ## Names -/
abbrev En := List (Option D)
def RpE (K : PySem.W.Frag) (H : Hp) (σ : L2.St) (ρ : En) : Prop := σ.length = ρ.length ∧ ∀ (i : Nat) (d : D), ρ[i]? = some (some d) → ∃ v, σ[i]? = some (some v) ∧ Rp K H v d
section
variable {K : PySem.W.Frag} {H H' : Hp} {σ : L2.St} {ρ : En}
theorem RpE.mono (e : Ex H H') (r : RpE K H σ ρ) : RpE K H' σ ρ := ⟨r.1, fun i d h => let ⟨v, a, b⟩ := r.2 i d h; ⟨v, a, b.mono e⟩⟩
theorem RpE.set (r : RpE K H σ ρ) (i : Nat) {v : V} {d : D} (h : Rp K H v d) : RpE K H (σ.set i (some v)) (ρ.set i (some d)) := by
  refine ⟨by rw [List.length_set, List.length_set]; exact r.1, fun j x e => ?_⟩
  by_cases q : i = j
  · subst q
    by_cases z : i < ρ.length
    · rw [List.getElem?_set_self z] at e
      cases e
      exact ⟨v, by rw [List.getElem?_set_self (by rw [r.1]; exact z)], h⟩
    · rw [List.getElem?_eq_none (by simpa using z)] at e
      cases e
  · rw [List.getElem?_set_ne q] at e ⊢
    exact r.2 j x e
theorem RpE.unset (r : RpE K H σ ρ) (i : Nat) : RpE K H (σ.set i none) (ρ.set i none) := by
  refine ⟨by rw [List.length_set, List.length_set]; exact r.1, fun j x e => ?_⟩
  by_cases q : i = j
  · subst q
    by_cases z : i < ρ.length
    · rw [List.getElem?_set_self z] at e
      cases e
    · rw [List.getElem?_eq_none (by simpa using z)] at e
      cases e
  · rw [List.getElem?_set_ne q] at e ⊢
    exact r.2 j x e
/-- the names of a comprehension's block forgotten -/
def wipeD (ρ : En) : List Nat → En
  | [] => ρ
  | v :: vs => (wipeD ρ vs).set v none
theorem RpE.wipe (r : RpE K H σ ρ) : ∀ vs : List Nat, RpE K H (L2.wipe σ vs) (wipeD ρ vs)
  | [] => r
  | v :: vs => by
    unfold L2.wipe wipeD
    exact (RpE.wipe r vs).unset v
theorem RpE.start {N : List Str} {vs : List V} {ds : List D} (r : RpL K H vs ds) : RpE K H (L2.start N vs) (ds.map some ++ List.replicate (N.length - ds.length) none) := by
  refine ⟨by unfold L2.start; simp [r.length], fun i d e => ?_⟩
  by_cases h : i < ds.length
  · rw [List.getElem?_append_left (by simpa using h), List.getElem?_map] at e
    cases q : ds[i]? with
    | none =>
      rw [q] at e
      cases e
    | some x =>
      rw [q] at e
      cases e
      obtain ⟨v, a, b⟩ := r.at q
      refine ⟨v, ?_, b⟩
      unfold L2.start
      rw [List.getElem?_append_left (by rw [List.length_map, r.length]; exact h), List.getElem?_map, a]
      rfl
  · rw [List.getElem?_append_right (by simpa using h), List.getElem?_replicate] at e
    split at e <;> cases e
end

/-! ## Readings over data -/
abbrev KD := D → Gm → Prop
abbrev DE := En → Gm → KD → Prop
abbrev DT := En → Gm → (Bool → Gm → Prop) → Prop
abbrev DA := En → Gm → (List D → Gm → Prop) → Prop
structure DEnds where
  nx : En → Gm → Prop
  rt : KD
  bk : En → Gm → Prop := fun _ _ => False
  ct : En → Gm → Prop := fun _ _ => False
abbrev DS := DEnds → En → Gm → Prop
/-- Q takes whatever stands for what R takes -/
def KE (K : PySem.W.Frag) (F : Gm) (Hd : Hp) (R : KD) (Q : VK) : Prop := ∀ v H' Hd' x G', Ex Hd Hd' → Sim K F Hd' H' G' → Rp K Hd' v x → R x G' → Q v H'
def KT (K : PySem.W.Frag) (F : Gm) (Hd : Hp) (R : Bool → Gm → Prop) (Q : Bool → Hp → Prop) : Prop := ∀ b H' Hd' G', Ex Hd Hd' → Sim K F Hd' H' G' → R b G' → Q b H'
def KA (K : PySem.W.Frag) (F : Gm) (Hd : Hp) (R : List D → Gm → Prop) (Q : List V → Hp → Prop) : Prop := ∀ vs H' Hd' xs G', Ex Hd Hd' → Sim K F Hd' H' G' → RpL K Hd' vs xs → R xs G' → Q vs H'
def KN (K : PySem.W.Frag) (F : Gm) (Hd : Hp) (R : En → Gm → Prop) (Q : L2.St → Hp → Prop) : Prop := ∀ σ' H' Hd' ρ' G', Ex Hd Hd' → RpE K Hd' σ' ρ' → Sim K F Hd' H' G' → R ρ' G' → Q σ' H'
structure KS (K : PySem.W.Frag) (F : Gm) (Hd : Hp) (E : DEnds) (D : Ends) : Prop where
  nx : KN K F Hd E.nx D.nx
  rt : KE K F Hd E.rt D.rt
  bk : KN K F Hd E.bk D.bk
  ct : KN K F Hd E.ct D.ct
/-- what stands from a block's beginning on: what never changes, what others keep -/
structure Bs where
  b : Hp
  f : Gm
/-- where one stands: names, store -/
structure At (K : PySem.W.Frag) (B : Bs) (σ : L2.St) (H : Hp) (ρ : En) (Hd : Hp) (G : Gm) : Prop where
  b : Ex B.b Hd
  e : RpE K Hd σ ρ
  s : Sim K B.f Hd H G
theorem At.step {K : PySem.W.Frag} {B : Bs} {σ : L2.St} {H H' : Hp} {ρ : En} {Hd Hd' : Hp} {G G' : Gm} (a : At K B σ H ρ Hd G) (e : Ex Hd Hd') (s : Sim K B.f Hd' H' G') : At K B σ H' ρ Hd' G' :=
  ⟨a.b.trans e, a.e.mono e, s⟩
/-- a reading over data as one over the heap -/
def upE (K : PySem.W.Frag) (B : Bs) (d : DE) : TE := fun σ H Q => ∃ ρ Hd G R, At K B σ H ρ Hd G ∧ d ρ G R ∧ KE K B.f Hd R Q
def upT (K : PySem.W.Frag) (B : Bs) (d : DT) : TT := fun σ H Q => ∃ ρ Hd G R, At K B σ H ρ Hd G ∧ d ρ G R ∧ KT K B.f Hd R Q
def upA (K : PySem.W.Frag) (B : Bs) (d : DA) : TA := fun σ H Q => ∃ ρ Hd G R, At K B σ H ρ Hd G ∧ d ρ G R ∧ KA K B.f Hd R Q
def upS (K : PySem.W.Frag) (B : Bs) (d : DS) : TS := fun D σ H => ∃ ρ Hd G E, At K B σ H ρ Hd G ∧ d E ρ G ∧ KS K B.f Hd E D

section
variable {K : PySem.W.Frag} {F : Gm} {Hd Hd' : Hp}
theorem KE.mono {R : KD} {Q : VK} (k : KE K F Hd R Q) (e : Ex Hd Hd') : KE K F Hd' R Q := fun v H' Hd2 x G' e2 => k v H' Hd2 x G' (e.trans e2)
theorem KT.mono {R : Bool → Gm → Prop} {Q : Bool → Hp → Prop} (k : KT K F Hd R Q) (e : Ex Hd Hd') : KT K F Hd' R Q := fun b H' Hd2 G' e2 => k b H' Hd2 G' (e.trans e2)
theorem KA.mono {R : List D → Gm → Prop} {Q : List V → Hp → Prop} (k : KA K F Hd R Q) (e : Ex Hd Hd') : KA K F Hd' R Q := fun v H' Hd2 x G' e2 => k v H' Hd2 x G' (e.trans e2)
theorem KN.mono {R : En → Gm → Prop} {Q : L2.St → Hp → Prop} (k : KN K F Hd R Q) (e : Ex Hd Hd') : KN K F Hd' R Q := fun v H' Hd2 x G' e2 => k v H' Hd2 x G' (e.trans e2)
theorem KS.mono {E : DEnds} {D : Ends} (k : KS K F Hd E D) (e : Ex Hd Hd') : KS K F Hd' E D := ⟨k.nx.mono e, k.rt.mono e, k.bk.mono e, k.ct.mono e⟩
end
section
variable {X : Cx}
theorem pe_imp {e : Expr} {t t' : TE} (h : PE X e t) (i : ∀ σ H Q, t' σ H Q → t σ H Q) : PE X e t' := ⟨fun pins s σ H Q I w => h.run pins s σ H Q I (i σ H Q w)⟩
theorem pt_imp {e : Expr} {t t' : TT} (h : PT X e t) (i : ∀ σ H Q, t' σ H Q → t σ H Q) : PT X e t' := ⟨fun pins s σ H Q I w => h.run pins s σ H Q I (i σ H Q w)⟩
theorem pw_imp {e : Expr} {t t' : TT} (h : PW X e t) (i : ∀ σ H Q, t' σ H Q → t σ H Q) : PW X e t' := ⟨fun wh pins s σ H Q I w => h.run wh pins s σ H Q I (i σ H Q w)⟩
theorem pa_imp {e : List Expr} {t t' : TA} (h : PA X e t) (i : ∀ σ H Q, t' σ H Q → t σ H Q) : PA X e t' := ⟨fun p pins s σ H Q I w => h.run p pins s σ H Q I (i σ H Q w)⟩
theorem ps_imp {e : Stmt} {t t' : TS} (h : PS X e t) (i : ∀ D σ H, t' D σ H → t D σ H) : PS X e t' := ⟨fun pins s σ H D I w => h.run pins s σ H D I (i D σ H w)⟩
theorem pss_imp {e : List Stmt} {t t' : TS} (h : PSs X e t) (i : ∀ D σ H, t' D σ H → t D σ H) : PSs X e t' := ⟨fun pins s σ H D I w => h.run pins s σ H D I (i D σ H w)⟩
end
end DL

/-! DL2: the rules for expressions. -/
namespace DL
open PySem PySem.Spec PyProof.Rows L2 Evl

section
variable {X : Cx} {B : Bs} {pos : Pos} {a b c : Expr} {da db dc : DE} {ta tb : DT}

/-! ### names, constants -/
def dVar (i : Nat) : DE := fun ρ G R => ∃ d, ρ[i]? = some (some d) ∧ R d G
def dC (d : D) : DE := fun _ G R => R d G
theorem pd_v {i : Nat} {e : Expr} (h : PE X e (tVar i)) : PE X e (upE X.K B (dVar i)) := pe_imp h fun σ H Q ⟨ρ, Hd, G, R, at_, ⟨d, hd, hr⟩, k⟩ =>
  let ⟨v, h1, h2⟩ := at_.e.2 i d hd
  ⟨v, h1, k v H Hd d G (Ex.refl _) at_.s h2 hr⟩
theorem pd_var (i : Nat) {x : Str} (hN : X.N[i]? = some x := by rfl) (hv : Vis X.env.scope x := by first | exact Or.inl rfl | exact Or.inr (Or.inl rfl) | exact Or.inr (Or.inr rfl)) (hd : (x == ("__debug__" : Str)) = false := by decide)
    (hcd : (x == ("__classdict__" : Str)) = false := by decide) : PE X (.Name x pos) (upE X.K B (dVar i)) := pd_v (pe_var hN hv hd hcd)
theorem pd_c {e : Expr} {v : V} {d : D} (h : PE X e (tC v)) (r : ∀ Hd, Rp X.K Hd v d) : PE X e (upE X.K B (dC d)) := pe_imp h fun σ H Q ⟨ρ, Hd, G, R, at_, hr, k⟩ =>
  k v H Hd d G (Ex.refl _) at_.s (r Hd) hr
theorem pd_int {i : Int} {j : Nat} : PE X (.Constant (.int i) j pos) (upE X.K B (dC (.int i))) := pd_c pe_int fun _ => .int i
theorem pd_bl {i : Bool} {j : Nat} : PE X (.Constant (.bool i) j pos) (upE X.K B (dC (.bl i))) := pd_c pe_bl fun _ => .bl i
theorem pd_str {i : Str} {j : Nat} : PE X (.Constant (.str i) j pos) (upE X.K B (dC (.str i))) := pd_c pe_str fun _ => .str i
theorem pd_non {j : Nat} : PE X (.Constant .none j pos) (upE X.K B (dC .non)) := pd_c pe_non fun _ => .non
/-- a module's int -/
theorem pd_gint {x : Str} {i : Int} (hg : Gl X x) (hm : ∃ t, X.mg x = some (.int i t)) (hd : (x == ("__debug__" : Str)) = false := by decide) : PE X (.Name x pos) (upE X.K B (dC (.int i))) :=
  let ⟨t, h⟩ := hm
  pd_c (v := .int i) (pe_glob hg h ⟨t, rfl⟩ hd) fun _ => .int i
theorem pd_gstr {x : Str} {i : Str} (hg : Gl X x) (hm : ∃ t, X.mg x = some (.str i t)) (hd : (x == ("__debug__" : Str)) = false := by decide) : PE X (.Name x pos) (upE X.K B (dC (.str i))) :=
  let ⟨t, h⟩ := hm
  pd_c (v := .str i) (pe_glob hg h ⟨t, rfl⟩ hd) fun _ => .str i
/-- a built-in class as a value -/
theorem pd_bty {x : Str} {n : String} (hg : Gl X x) (hm : X.mg x = none) (hv : bootBuiltins x = some (.type n)) (hn : x ≠ "__name__" := by decide) (hd : (x == ("__debug__" : Str)) = false := by decide) : PE X (.Name x pos) (upE X.K B (dC (.ty n))) :=
  pd_c (v := .ty n) (pe_bltn hg hm hv rfl hn hd) fun _ => .ty n

/-! ### lists of arguments, displays -/
def dNil : DA := fun _ G R => R [] G
def dCons (da : DE) (dr : DA) : DA := fun ρ G R => da ρ G fun x G1 => dr ρ G1 fun xs G2 => R (x :: xs) G2
theorem pda_nil : PA X [] (upA X.K B dNil) := pa_imp pa_nil fun σ H Q ⟨ρ, Hd, G, R, at_, hr, k⟩ => k [] H Hd [] G (Ex.refl _) at_.s .nil hr
theorem pda_cons {e : Expr} {es : List Expr} {de : DE} {dr : DA} (he : PE X e (upE X.K B de)) (hr : PA X es (upA X.K B dr)) (hs : starEach (e :: es) X.env = (false, eval e X.env) :: starEach es X.env := by rfl) : PA X (e :: es) (upA X.K B (dCons de dr)) :=
  pa_imp (pa_cons he hr hs) fun σ H Q ⟨ρ, Hd, G, R, at_, h, k⟩ =>
    ⟨ρ, Hd, G, _, at_, h, fun v H1 Hd1 x G1 e1 s1 r1 h1 => ⟨ρ, Hd1, G1, _, at_.step e1 s1, h1, fun vs H2 Hd2 xs G2 e2 s2 r2 h2 => k _ H2 Hd2 _ G2 (e1.trans e2) s2 (.cons (r1.mono e2) r2) h2⟩⟩
def dTup (dA : DA) : DE := fun ρ G R => dA ρ G fun xs G1 => xs.length ≤ sizeLine ∧ R (.tup xs) G1
def dLst (dA : DA) : DE := fun ρ G R => dA ρ G fun xs G1 => xs.length ≤ sizeLine ∧ R (.lst xs) G1
/-- a list that may change -/
def dLstM (dA : DA) : DE := fun ρ G R => dA ρ G fun xs G1 => xs.length ≤ sizeLine ∧ ∀ p, G1 p = none → R (.ref p) (gup G1 p (.lst xs))
theorem sq_new {K : PySem.W.Frag} {H : Hp} {p : Addr} {xs : List V} : SqL K (upd H p (.lst xs)) p xs := sq_of upd_same
theorem st_new {K : PySem.W.Frag} {H : Hp} {p : Addr} {xs : List V} : SqT K (upd H p (.tup xs)) p xs := st_of upd_same
theorem pd_tup {es : List Expr} {dA : DA} {x1 : Nat} (h : PA X es (upA X.K B dA)) : PE X (.Tuple es x1 pos) (upE X.K B (dTup dA)) := pe_imp (pe_tup h) fun σ H Q ⟨ρ, Hd, G, R, at_, h, k⟩ =>
  ⟨ρ, Hd, G, _, at_, h, fun vs H1 Hd1 xs G1 e1 s1 r1 ⟨hz, h1⟩ => ⟨by rw [r1.length]; exact hz, fun p hp => k _ _ _ (.tup xs) G1 (e1.trans (s1.exn hp)) (s1.new hp) (.tup st_new (r1.mono (s1.exn hp))) h1⟩⟩
theorem pd_lst {es : List Expr} {dA : DA} (h : PA X es (upA X.K B dA)) : PE X (.List es pos) (upE X.K B (dLst dA)) := pe_imp (pe_lst h) fun σ H Q ⟨ρ, Hd, G, R, at_, h, k⟩ =>
  ⟨ρ, Hd, G, _, at_, h, fun vs H1 Hd1 xs G1 e1 s1 r1 ⟨hz, h1⟩ => ⟨by rw [r1.length]; exact hz, fun p hp => k _ _ _ (.lst xs) G1 (e1.trans (s1.exn hp)) (s1.new hp) (.lst sq_new (r1.mono (s1.exn hp))) h1⟩⟩
theorem pd_lstM {es : List Expr} {dA : DA} (h : PA X es (upA X.K B dA)) : PE X (.List es pos) (upE X.K B (dLstM dA)) := pe_imp (pe_lst h) fun σ H Q ⟨ρ, Hd, G, R, at_, h, k⟩ =>
  ⟨ρ, Hd, G, _, at_, h, fun vs H1 Hd1 xs G1 e1 s1 r1 ⟨hz, h1⟩ => ⟨by rw [r1.length]; exact hz, fun p hp => k _ _ _ (.ref p) _ e1 (s1.cell (m := .lst xs) hp ⟨_, upd_same, r1⟩) (.ref p) (h1 p (s1.gfree hp))⟩⟩

/-! ### operators -/
def OpD (K : PySem.W.Frag) (r : R2) (f : D → D → D → Prop) : Prop := ∀ (F : Gm) (Hd H : Hp) (G : Gm) (v u : V) (x y z : D) (Q : VK), Sim K F Hd H G → Rp K Hd v x → Rp K Hd u y → f x y z → (∀ w H' Hd', Ex Hd Hd' → Sim K F Hd' H' G → Rp K Hd' w z → Q w H') → r v u H Q
def dOp (f : D → D → D → Prop) (da db : DE) : DE := fun ρ G R => da ρ G fun x G1 => db ρ G1 fun y G2 => ∃ z, f x y z ∧ R z G2
theorem opd_imp {K : PySem.W.Frag} {r : R2} {f : D → D → D → Prop} (hd : OpD K r f) {B : Bs} {da db : DE} : ∀ σ H Q, upE K B (dOp f da db) σ H Q → tOp r (upE K B da) (upE K B db) σ H Q := fun σ H Q ⟨ρ, Hd, G, R, at_, h, k⟩ =>
  ⟨ρ, Hd, G, _, at_, h, fun v H1 Hd1 x G1 e1 s1 r1 h1 => ⟨ρ, Hd1, G1, _, at_.step e1 s1, h1, fun u H2 Hd2 y G2 e2 s2 r2 ⟨z, hf, hz⟩ =>
    hd B.f Hd2 H2 G2 v u x y z _ s2 (r1.mono e2) r2 hf fun w H3 Hd3 e3 s3 r3 => k w H3 Hd3 z G2 ((e1.trans e2).trans e3) s3 r3 hz⟩⟩
theorem pd_op {op : Operator} {r : R2} {f : D → D → D → Prop} (ho : OpR X (binaryOp op) r) (hd : OpD X.K r f) (ha : PE X a (upE X.K B da)) (hb : PE X b (upE X.K B db)) : PE X (.BinOp a op b pos) (upE X.K B (dOp f da db)) :=
  pe_imp (pe_op ho ha hb) (opd_imp hd)
theorem pd_cmp {op : CmpOp} {r : R2} {f : D → D → D → Prop} (ho : OpR X (compareOp op) r) (hd : OpD X.K r f) (ha : PE X a (upE X.K B da)) (hb : PE X b (upE X.K B db)) (hm : behindInMarks op b = false) : PE X (.Compare a [op] [b] pos) (upE X.K B (dOp f da db)) :=
  pe_imp (pe_cmpR ho ha hb hm) (opd_imp hd)
/-- a value that is a truth, as a test -/
def dTst (d : DE) : DT := fun ρ G R => d ρ G fun x G1 => ∃ k, x = .bl k ∧ R k G1
theorem tst_imp {K : PySem.W.Frag} {d : DE} : ∀ σ H Q, upT K B (dTst d) σ H Q → upE K B d σ H fun x H' => ∃ k, x = .bl k ∧ Q k H' := fun σ H Q ⟨ρ, Hd, G, R, at_, h, k⟩ =>
  ⟨ρ, Hd, G, _, at_, h, fun v H1 Hd1 x G1 e1 s1 r1 ⟨t, et, ht⟩ => by
    subst et
    cases r1
    exact ⟨t, rfl, k t H1 Hd1 G1 e1 s1 ht⟩⟩
theorem ptd_cmp {op : CmpOp} {r : R2} {f : D → D → D → Prop} (ho : OpR X (compareOp op) r) (hd : OpD X.K r f) (ha : PE X a (upE X.K B da)) (hb : PE X b (upE X.K B db)) (hm : behindInMarks op b = false) : PT X (.Compare a [op] [b] pos) (upT X.K B (dTst (dOp f da db))) :=
  pt_imp (pt_cmpR ho ha hb hm) fun σ H Q h => opd_imp hd σ H _ (tst_imp σ H Q h)
theorem ptd_val {e : Expr} {d : DE} (h : PE X e (upE X.K B d)) (he : ∀ whole, isTrue e X.env whole = (do let v ← whole; standAt e.pos; holding [v] (truthy v)) := by intro _; rfl) : PT X e (upT X.K B (dTst d)) :=
  pt_imp (pt_val h he) fun σ H Q h => tst_imp σ H Q h
/-- two ints -/
def fInt (g : Int → Int → D) (x y z : D) : Prop := ∃ i j, x = .int i ∧ y = .int j ∧ z = g i j
def fIntC (C : Int → Int → Prop) (g : Int → Int → D) (x y z : D) : Prop := ∃ i j, x = .int i ∧ y = .int j ∧ C i j ∧ z = g i j
theorem od_int {K : PySem.W.Frag} {g : Int → Int → Int} : OpD K (rI0 fun i j => .int (g i j)) (fInt fun i j => .int (g i j)) := fun F Hd H G v u x y z Q s rv ru ⟨i, j, ex, ey, ez⟩ k => by
  subst ex ey ez
  cases rv
  cases ru
  exact ⟨i, j, rfl, rfl, k _ H Hd (Ex.refl _) s (.int _)⟩
theorem od_intC {K : PySem.W.Frag} {C : Int → Int → Prop} {g : Int → Int → Int} : OpD K (rI C fun i j => .int (g i j)) (fIntC C fun i j => .int (g i j)) := fun F Hd H G v u x y z Q s rv ru ⟨i, j, ex, ey, c, ez⟩ k => by
  subst ex ey ez
  cases rv
  cases ru
  exact ⟨i, j, rfl, rfl, c, k _ H Hd (Ex.refl _) s (.int _)⟩
theorem od_bl {K : PySem.W.Frag} {g : Int → Int → Bool} : OpD K (rI0 fun i j => .bl (g i j)) (fInt fun i j => .bl (g i j)) := fun F Hd H G v u x y z Q s rv ru ⟨i, j, ex, ey, ez⟩ k => by
  subst ex ey ez
  cases rv
  cases ru
  exact ⟨i, j, rfl, rfl, k _ H Hd (Ex.refl _) s (.bl _)⟩
theorem pd_sub (ha : PE X a (upE X.K B da)) (hb : PE X b (upE X.K B db)) : PE X (.BinOp a .Sub b pos) (upE X.K B (dOp (fInt fun i j => .int (i - j)) da db)) := pd_op op_sub od_int ha hb
/-- / of great ints, the divisor above 0 and below 2 ^ 9000 -/
theorem pd_fdiv (ha : PE X a (upE X.K B da)) (hb : PE X b (upE X.K B db)) : PE X (.BinOp a .FloorDiv b pos) (upE X.K B (dOp (fIntC CDivW fun i j => .int (i / j)) da db)) := pd_op op_fdivW od_intC ha hb
theorem pd_mod (ha : PE X a (upE X.K B da)) (hb : PE X b (upE X.K B db)) : PE X (.BinOp a .Mod b pos) (upE X.K B (dOp (fIntC (fun _ j => 0 < j) fun i j => .int (i % j)) da db)) := pd_op op_mod od_intC ha hb
/-- a power: base and exponent together below 2 ^ 27 bits -/
def CPw (i j : Int) : Prop := 0 ≤ j ∧ (Builtin.Int.intBits i : Int) * j ≤ 2 ^ 27
theorem op_pw : OpR X (binaryOp .Pow) (rI CPw fun i j => .int (i ^ j.toNat)) := opI fun _ _ _ _ _ _ _ hc q => pow_int hc.1 hc.2 q
theorem pd_pow (ha : PE X a (upE X.K B da)) (hb : PE X b (upE X.K B db)) : PE X (.BinOp a .Pow b pos) (upE X.K B (dOp (fIntC CPw fun i j => .int (i ^ j.toNat)) da db)) := pd_op op_pw od_intC ha hb
/-- + of ints, texts -/
def fAdd (x y z : D) : Prop := (∃ i j, x = .int i ∧ y = .int j ∧ z = .int (i + j)) ∨ (∃ i j, x = .str i ∧ y = .str j ∧ i.length + j.length ≤ sizeLine ∧ z = .str (i ++ j))
theorem od_add {K : PySem.W.Frag} : OpD K (fun x y H Q => (rI0 fun i j => .int (i + j)) x y H Q ∨ ∃ i j, x = .str i ∧ y = .str j ∧ i.length + j.length ≤ sizeLine ∧ Q (.str (i ++ j)) H) fAdd := fun F Hd H G v u x y z Q s rv ru f k => by
  rcases f with ⟨i, j, rfl, rfl, rfl⟩ | ⟨i, j, rfl, rfl, h, rfl⟩
  · cases rv
    cases ru
    exact .inl ⟨i, j, rfl, rfl, k _ H Hd (Ex.refl _) s (.int _)⟩
  · cases rv
    cases ru
    exact .inr ⟨i, j, rfl, rfl, h, k _ H Hd (Ex.refl _) s (.str _)⟩
theorem pd_add (ha : PE X a (upE X.K B da)) (hb : PE X b (upE X.K B db)) : PE X (.BinOp a .Add b pos) (upE X.K B (dOp fAdd da db)) := pd_op (op_add.or op_add_str) od_add ha hb
/-- * of ints -/
theorem op_mulOk : OpR X (binaryOp .Mult) (rI IntMulOk fun i j => .int (i * j)) := opI fun _ _ _ _ _ _ _ hc q => mul_int q hc
theorem pd_mul (ha : PE X a (upE X.K B da)) (hb : PE X b (upE X.K B db)) : PE X (.BinOp a .Mult b pos) (upE X.K B (dOp (fIntC IntMulOk fun i j => .int (i * j)) da db)) := pd_op op_mulOk od_intC ha hb
def dNeg (da : DE) : DE := fun ρ G R => da ρ G fun x G1 => ∃ i, x = .int i ∧ R (.int (-i)) G1
theorem pd_neg (ha : PE X a (upE X.K B da)) : PE X (.UnaryOp .USub a pos) (upE X.K B (dNeg da)) := pe_imp (pe_un un_neg ha) fun σ H Q ⟨ρ, Hd, G, R, at_, h, k⟩ =>
  ⟨ρ, Hd, G, _, at_, h, fun v H1 Hd1 x G1 e1 s1 r1 ⟨i, ex, hi⟩ => by
    subst ex
    cases r1
    exact ⟨i, rfl, k _ H1 Hd1 _ G1 e1 s1 (.int _) hi⟩⟩

/-! ### comparisons -/
abbrev gLt : Int → Int → D := fun i j => .bl (decide (i < j))
abbrev gLe : Int → Int → D := fun i j => .bl (decide (i ≤ j))
abbrev gGt : Int → Int → D := fun i j => .bl (decide (j < i))
abbrev gGe : Int → Int → D := fun i j => .bl (decide (j ≤ i))
end
end DL

/-! DL3: data as the library has it: ==, repr, isinstance, len; subscripts; and, or, not. -/
namespace DL
open PySem PySem.Spec PyProof.Rows L2 Evl

mutual
/-- a datum as the library has it -/
def D.py : D → Option PyData
  | .non => some .none
  | .bl b => some (.bool b)
  | .int i => some (.int i)
  | .str x => some (.str x)
  | .tup xs => (D.pyL xs).map .tuple
  | .lst xs => (D.pyL xs).map .list
  | .ty _ => none
  | .ref _ => none
  | .dct _ _ => none
  | .ins _ _ _ => none
def D.pyL : List D → Option (List PyData)
  | [] => some []
  | x :: xs => match D.py x, D.pyL xs with
    | some p, some ps => some (p :: ps)
    | _, _ => none
end
mutual
/-- leaves of no great size -/
def D.fit : D → Bool
  | .non => true
  | .bl _ => true
  | .int i => decide (i.natAbs < 10 ^ 560)
  | .str x => PyData.strOk x
  | .tup xs => D.fitL xs
  | .lst xs => D.fitL xs
  | .ty _ => false
  | .ref _ => false
  | .dct _ _ => false
  | .ins _ _ _ => false
def D.fitL : List D → Bool
  | [] => true
  | x :: xs => D.fit x && D.fitL xs
end
mutual
/-- how much of it there is -/
def D.sz : D → Nat
  | .str x => x.length + 1
  | .tup xs => D.szL xs + 1
  | .lst xs => D.szL xs + 1
  | _ => 1
def D.szL : List D → Nat
  | [] => 0
  | x :: xs => D.sz x + D.szL xs
end
mutual
def D.dp : D → Nat
  | .tup xs => D.dpL xs + 1
  | .lst xs => D.dpL xs + 1
  | _ => 0
def D.dpL : List D → Nat
  | [] => 0
  | x :: xs => max (D.dp x) (D.dpL xs)
end
theorem log_small {n : Nat} (h : n < 10 ^ 560) : n.log2 < 1920 := by
  by_cases z : n = 0
  · subst z
    decide
  · rw [Nat.log2_lt z]
    exact Nat.lt_trans h (by decide +kernel)
theorem str_short {x : Str} (h : PyData.strOk x = true) : x.cps.toList.all (fun c => decide (c < 16 ^ 8)) = true := by
  rw [List.all_eq_true]
  intro c hc
  have h2 : (x.cps.all (· < 0x110000)) = true := h
  rw [← Array.all_toList, List.all_eq_true] at h2
  have h3 := of_decide_eq_true (h2 c hc)
  exact decide_eq_true (Nat.lt_trans h3 (by decide))
mutual
theorem py_fit : ∀ d : D, d.fit = true → ∃ p, d.py = some p ∧ p.showable = true ∧ p.canLay0 = true ∧ p.leavesShort 600 = true ∧ p.bulk + 1 ≤ d.sz ∧ p.depth = d.dp
  | .non, _ => ⟨_, rfl, rfl, rfl, rfl, Nat.le_refl _, rfl⟩
  | .bl b, _ => ⟨_, rfl, rfl, rfl, rfl, Nat.le_refl _, rfl⟩
  | .int i, h => by
    have h2 : i.natAbs < 10 ^ 560 := of_decide_eq_true h
    refine ⟨_, rfl, decide_eq_true (log_small h2), rfl, ?_, Nat.le_refl _, rfl⟩
    refine decide_eq_true ?_
    show (Str.ofString (toString i)).length ≤ 600
    rw [PySem.ofString_length]
    exact Nat.le_trans (int_text_length_le10 (by decide) h2) (by decide)
  | .str x, h => by
    have h2 : PyData.strOk x = true := h
    refine ⟨_, rfl, rfl, h2, str_short h2, Nat.le_refl _, rfl⟩
  | .tup xs, h => by
    obtain ⟨ps, e, h1, h2, h3, h4, h5⟩ := py_fitL xs h
    refine ⟨.tuple ps, by simp only [D.py, e, Option.map_some], h1, h2, h3, ?_, ?_⟩
    · simp only [PyData.bulk, D.sz]
      omega
    · simp only [PyData.depth, D.dp]
      omega
  | .lst xs, h => by
    obtain ⟨ps, e, h1, h2, h3, h4, h5⟩ := py_fitL xs h
    refine ⟨.list ps, by simp only [D.py, e, Option.map_some], h1, h2, h3, ?_, ?_⟩
    · simp only [PyData.bulk, D.sz]
      omega
    · simp only [PyData.depth, D.dp]
      omega
  | .ty _, h => by cases h
  | .ref _, h => by cases h
  | .dct _ _, h => by cases h
  | .ins _ _ _, h => by cases h
theorem py_fitL : ∀ xs : List D, D.fitL xs = true → ∃ ps, D.pyL xs = some ps ∧ PyData.showableAll ps = true ∧ PyData.canLayAll0 ps = true ∧ PyData.leavesShortAll 600 ps = true ∧ PyData.bulkAll ps ≤ D.szL xs ∧ PyData.depthAll ps = D.dpL xs
  | [], _ => ⟨[], rfl, rfl, rfl, rfl, Nat.le_refl _, rfl⟩
  | x :: xs, h => by
    have h2 : (D.fit x && D.fitL xs) = true := h
    rw [Bool.and_eq_true] at h2
    obtain ⟨p, e, a1, a2, a3, a4, a5⟩ := py_fit x h2.1
    obtain ⟨ps, es, b1, b2, b3, b4, b5⟩ := py_fitL xs h2.2
    refine ⟨p :: ps, by simp only [D.pyL, e, es], ?_, ?_, ?_, ?_, ?_⟩
    · simp only [PyData.showableAll, a1, b1, Bool.and_self]
    · simp only [PyData.canLayAll0, a2, b2, Bool.and_self]
    · simp only [PyData.leavesShortAll, a3, b3, Bool.and_self]
    · simp only [PyData.bulkAll, D.szL]
      omega
    · simp only [PyData.depthAll, D.dpL]
      omega
end
mutual
theorem rp_dp {K : PySem.W.Frag} {H H' : Hp} (e : Ex H H') : ∀ (d : D) {v : V} {p : PyData}, Rp K H v d → d.py = some p → Dp K H' v p
  | .non, _, _, r, h => by cases r; cases h; exact .non
  | .bl b, _, _, r, h => by cases r; cases h; exact .bl b
  | .int i, _, _, r, h => by cases r; cases h; exact .int i
  | .str x, _, _, r, h => by cases r; cases h; exact .str x
  | .tup xs, _, p, r, h => by
    cases r with
    | tup s r =>
      cases q : D.pyL xs with
      | none =>
        simp only [D.py, q, Option.map_none] at h
        cases h
      | some ps =>
        simp only [D.py, q, Option.map_some, Option.some.injEq] at h
        subst h
        exact .tup (ex_t e s) (rp_dpL e xs r q)
  | .lst xs, _, p, r, h => by
    cases r with
    | lst s r =>
      cases q : D.pyL xs with
      | none =>
        simp only [D.py, q, Option.map_none] at h
        cases h
      | some ps =>
        simp only [D.py, q, Option.map_some, Option.some.injEq] at h
        subst h
        exact .lst (ex_l e s) (rp_dpL e xs r q)
  | .ty _, _, _, _, h => by cases h
  | .ref _, _, _, _, h => by cases h
  | .dct _ _, _, _, _, h => by cases h
  | .ins _ _ _, _, _, _, h => by cases h
theorem rp_dpL {K : PySem.W.Frag} {H H' : Hp} (e : Ex H H') : ∀ (xs : List D) {vs : List V} {ps : List PyData}, RpL K H vs xs → D.pyL xs = some ps → DpAll K H' vs ps
  | [], _, _, r, h => by
    cases r
    cases h
    exact .nil
  | x :: xs, _, ps, r, h => by
    cases r with
    | cons a b =>
      cases q : D.py x with
      | none =>
        simp only [D.pyL, q] at h
        cases h
      | some p =>
        cases q2 : D.pyL xs with
        | none =>
          simp only [D.pyL, q, q2] at h
          cases h
        | some qs =>
          simp only [D.pyL, q, q2, Option.some.injEq] at h
          subst h
          exact .cons (rp_dp e x a q) (rp_dpL e xs b q2)
end

/-! ### == -/
/-- what == tells of two data -/
def D.eqv (x y : D) : Bool := match D.py x, D.py y with
  | some p, some q => PyData.eqv p q
  | _, _ => false
mutual
/-- data that == takes -/
def D.lay : D → Bool
  | .non => true
  | .bl _ => true
  | .int _ => true
  | .str x => PyData.strOk x
  | .tup xs => D.layL xs
  | .lst xs => D.layL xs
  | .ty _ => false
  | .ref _ => false
  | .dct _ _ => false
  | .ins _ _ _ => false
def D.layL : List D → Bool
  | [] => true
  | x :: xs => D.lay x && D.layL xs
end
mutual
theorem py_lay : ∀ d : D, d.lay = true → ∃ p, d.py = some p ∧ p.canLay0 = true ∧ p.depth = d.dp
  | .non, _ => ⟨_, rfl, rfl, rfl⟩
  | .bl b, _ => ⟨_, rfl, rfl, rfl⟩
  | .int i, _ => ⟨_, rfl, rfl, rfl⟩
  | .str x, h => ⟨_, rfl, h, rfl⟩
  | .tup xs, h => by
    obtain ⟨ps, e, h1, h2⟩ := py_layL xs h
    refine ⟨.tuple ps, by simp only [D.py, e, Option.map_some], h1, ?_⟩
    simp only [PyData.depth, D.dp]
    omega
  | .lst xs, h => by
    obtain ⟨ps, e, h1, h2⟩ := py_layL xs h
    refine ⟨.list ps, by simp only [D.py, e, Option.map_some], h1, ?_⟩
    simp only [PyData.depth, D.dp]
    omega
  | .ty _, h => by cases h
  | .ref _, h => by cases h
  | .dct _ _, h => by cases h
  | .ins _ _ _, h => by cases h
theorem py_layL : ∀ xs : List D, D.layL xs = true → ∃ ps, D.pyL xs = some ps ∧ PyData.canLayAll0 ps = true ∧ PyData.depthAll ps = D.dpL xs
  | [], _ => ⟨[], rfl, rfl, rfl⟩
  | x :: xs, h => by
    have h2 : (D.lay x && D.layL xs) = true := h
    rw [Bool.and_eq_true] at h2
    obtain ⟨p, e, a1, a2⟩ := py_lay x h2.1
    obtain ⟨ps, es, b1, b2⟩ := py_layL xs h2.2
    refine ⟨p :: ps, by simp only [D.pyL, e, es], ?_, ?_⟩
    · simp only [PyData.canLayAll0, a1, b1, Bool.and_self]
    · simp only [PyData.depthAll, D.dpL]
      omega
end
structure Cmp (x : D) : Prop where
  lay : x.lay = true
  dp : x.dp ≤ 60
theorem Cmp.shaped {x : D} (h : Cmp x) : ∃ p, x.py = some p ∧ SeqAt.shaped p = true := by
  obtain ⟨p, e, h2, h5⟩ := py_lay x h.lay
  refine ⟨p, e, ?_⟩
  unfold SeqAt.shaped
  rw [h2, h5, decide_eq_true (Nat.le_trans h.dp (by decide))]
  rfl
/-- == as it is told: ints, texts, truths at once -/
def fEq (x y z : D) : Prop := match x, y with
  | .int i, .int j => z = .bl (decide (i = j))
  | .str i, .str j => z = .bl (decide (i = j))
  | .bl i, .bl j => z = .bl (decide (i = j))
  | x, y => Cmp x ∧ Cmp y ∧ z = .bl (D.eqv x y)
def fNe (x y z : D) : Prop := match x, y with
  | .int i, .int j => z = .bl (!decide (i = j))
  | .str i, .str j => z = .bl (!decide (i = j))
  | .bl i, .bl j => z = .bl (!decide (i = j))
  | x, y => Cmp x ∧ Cmp y ∧ z = .bl (!D.eqv x y)
theorem eqv_of {x y : D} {p q : PyData} (h : x.py = some p) (h' : y.py = some q) : D.eqv x y = PyData.eqv p q := by
  unfold D.eqv
  rw [h, h']
def rEq2 (K : PySem.W.Frag) : R2 := fun x y H Q => rEq x y H Q ∨ rEqD K x y H Q
def rNe2 (K : PySem.W.Frag) : R2 := fun x y H Q => rNe x y H Q ∨ rNeD K x y H Q
theorem od_eq0 {K : PySem.W.Frag} : OpD K (rEqD K) (fun x y z => Cmp x ∧ Cmp y ∧ z = .bl (D.eqv x y)) := fun F Hd H G v u x y z Q s rv ru ⟨cx, cy, ez⟩ k => by
  subst ez
  obtain ⟨p, ep, sp⟩ := cx.shaped
  obtain ⟨q, eq, sq⟩ := cy.shaped
  refine ⟨p, q, rp_dp s.sub x rv ep, rp_dp s.sub y ru eq, sp, sq, ?_⟩
  rw [← eqv_of ep eq]
  exact k _ H Hd (Ex.refl _) s (.bl _)
theorem od_ne0 {K : PySem.W.Frag} : OpD K (rNeD K) (fun x y z => Cmp x ∧ Cmp y ∧ z = .bl (!D.eqv x y)) := fun F Hd H G v u x y z Q s rv ru ⟨cx, cy, ez⟩ k => by
  subst ez
  obtain ⟨p, ep, sp⟩ := cx.shaped
  obtain ⟨q, eq, sq⟩ := cy.shaped
  refine ⟨p, q, rp_dp s.sub x rv ep, rp_dp s.sub y ru eq, sp, sq, ?_⟩
  rw [← eqv_of ep eq]
  exact k _ H Hd (Ex.refl _) s (.bl _)
theorem vint {i j : Int} : decide (V.int i = V.int j) = decide (i = j) := decide_eq_decide.mpr ⟨fun h => by injection h, fun h => by rw [h]⟩
theorem vstr {i j : Str} : decide (V.str i = V.str j) = decide (i = j) := decide_eq_decide.mpr ⟨fun h => by injection h, fun h => by rw [h]⟩
theorem vbl {i j : Bool} : decide (V.bl i = V.bl j) = decide (i = j) := decide_eq_decide.mpr ⟨fun h => by injection h, fun h => by rw [h]⟩
theorem od_eq {K : PySem.W.Frag} : OpD K (rEq2 K) fEq := fun F Hd H G v u x y z Q s rv ru f k => by
  unfold fEq at f
  split at f
  · subst f; cases rv; cases ru
    exact .inl ⟨rfl, by rw [vint]; exact k _ H Hd (Ex.refl _) s (.bl _)⟩
  · subst f; cases rv; cases ru
    exact .inl ⟨rfl, by rw [vstr]; exact k _ H Hd (Ex.refl _) s (.bl _)⟩
  · subst f; cases rv; cases ru
    exact .inl ⟨rfl, by rw [vbl]; exact k _ H Hd (Ex.refl _) s (.bl _)⟩
  · exact .inr (od_eq0 F Hd H G v u _ _ z Q s rv ru f k)
theorem od_ne {K : PySem.W.Frag} : OpD K (rNe2 K) fNe := fun F Hd H G v u x y z Q s rv ru f k => by
  unfold fNe at f
  split at f
  · subst f; cases rv; cases ru
    exact .inl ⟨rfl, by rw [vint]; exact k _ H Hd (Ex.refl _) s (.bl _)⟩
  · subst f; cases rv; cases ru
    exact .inl ⟨rfl, by rw [vstr]; exact k _ H Hd (Ex.refl _) s (.bl _)⟩
  · subst f; cases rv; cases ru
    exact .inl ⟨rfl, by rw [vbl]; exact k _ H Hd (Ex.refl _) s (.bl _)⟩
  · exact .inr (od_ne0 F Hd H G v u _ _ z Q s rv ru f k)
section
variable {X : Cx}
theorem op_eq2 (hu : X.A.units + 64 < cLine) : OpR X (compareOp .Eq) (rEq2 X.K) := op_eq.or (op_eqD hu)
theorem op_ne2 (hu : X.A.units + 64 < cLine) : OpR X (compareOp .NotEq) (rNe2 X.K) := op_ne.or (op_neD hu)
end

/-! ### repr -/
def D.shown (d : D) : Str := match d with
  | .dct [] [] => "{}"
  | d => match D.py d with
    | some p => p.shown
    | none => ""
/-- data that repr takes -/
structure Shw (x : D) : Prop where
  fit : x.fit = true
  dp : x.dp ≤ 60
  sz : x.sz ≤ 27000
theorem Shw.py {x : D} (h : Shw x) : ∃ p, x.py = some p ∧ p.showable = true ∧ p.shown.length ≤ sizeLine ∧ p.depth ≤ 60 ∧ p.hasDict = false ∧ x.shown = p.shown := by
  obtain ⟨p, e, h1, h2, h3, h4, h5⟩ := py_fit x h.fit
  refine ⟨p, e, h1, ?_, by rw [h5]; exact h.dp, PyData.hasDict_of_canLay p h2, ?_⟩
  · have z := PyData.shown_le_bulk 600 (by decide) p h3
    have z2 := h.sz
    rw [sizeLine_eq]
    omega
  · cases x with
    | dct ks xs => cases e
    | _ => simp only [D.shown, e]
def rRepr0 (K : PySem.W.Frag) : List V → Hp → VK → Prop := fun vs H Q => ∃ (v : V) (p : PyData), vs = [v] ∧ Dp K H v p ∧ p.showable = true ∧ p.shown.length ≤ sizeLine ∧ p.depth ≤ 60 ∧ p.hasDict = false ∧ Q (.str p.shown) H
def rRepr (K : PySem.W.Frag) : List V → Hp → VK → Prop := fun vs H Q => rRepr0 K vs H Q ∨ ∃ a, vs = [.ref a] ∧ H a = some (.dK []) ∧ Q (.str "{}") H
section
variable {X : Cx}
theorem call_repr0 (hg : X.A.guards = some []) (hu : X.A.units + 64 < cLine) : CallR X (.builtin "repr") (rRepr0 X.K) := by
  intro pins s σ H vs us Q I r h
  obtain ⟨v, p, rfl, hd, h1, h2, h3, h4, q⟩ := h
  obtain ⟨u, rfl, ru⟩ := vals1 r
  obtain ⟨as, rd⟩ := Dp.reads I p v u hd ru
  have fin : ∀ {s' : Shared} {t : Tok}, Inv X pins σ H s' → EP X pins σ Q (.str p.shown t) s' := fun {s' t} I' => ⟨.str _, H, I', ⟨_, rfl⟩, q⟩
  cases hd with
  | non => cases ru; exact PySem.P.repr_of_none (fin (I.tok _))
  | bl b => cases ru; exact PySem.P.repr_of_bool (by have e := fin (t := s.toks) (I.tok (s.toks + 1)); cases b <;> exact e)
  | int i =>
    obtain ⟨t, rfl⟩ := ru
    exact PySem.P.repr_of_int (of_decide_eq_true h1) (fin (I.tok _))
  | str x =>
    obtain ⟨t, rfl⟩ := ru
    exact PySem.P.repr_of_str (fin (I.tok _)) h2
  | lst _ _ =>
    cases ru
    exact repr_of_reads' rd h1 (PyData.noDict_hsm h4) hg (by omega) (fun _ _ e => e) (fun h' t tk k => fin (I.kept k)) h2
  | tup _ _ =>
    cases ru
    exact repr_of_reads' rd h1 (PyData.noDict_hsm h4) hg (by omega) (fun _ _ e => e) (fun h' t tk k => fin (I.kept k)) h2
theorem call_repr (hg : X.A.guards = some []) (hu : X.A.units + 64 < cLine) : CallR X (.builtin "repr") (rRepr X.K) := by
  intro pins s σ H vs us Q I r h
  rcases h with h | ⟨a, rfl, ha, q⟩
  · exact call_repr0 hg hu pins s σ H vs us Q I r h
  · obtain ⟨u, rfl, ru⟩ := vals1 r
    cases (show u = Value.ref a from ru)
    obtain ⟨_, hs, vs2, r2, o, es, ep, h1, h2, h3, _, h5, _⟩ := (show ObjOk X.prog X.w H s.heap a (.dK []) from I.hok a _ ha)
    cases r2
    have e0 : es.toList = [] := by
      generalize es.toList = l at h5
      cases h5
      rfl
    have rd : Reads s.heap (.ref a) (.dict []) (a :: [] ++ []) := .dict h1 h2.1 h3 (by rw [e0]; exact .nil) (by rw [e0]; exact .nil)
    refine repr_of_reads' rd rfl (fun _ z => ?_) hg (by show X.A.units + (0 + 1 + 1) < cLine; omega) (fun _ _ e => e) (fun h' t tk k => ⟨.str "{}", H, I.kept k, ⟨t, rfl⟩, q⟩) (by decide)
    have z2 : a = sysModules := (List.mem_singleton.mp z).symm
    rw [z2] at hs
    simp at hs
end
end DL

/-! DL4: built-ins, subscripts, and / or / not, a if t else b. -/
namespace DL
open PySem PySem.Spec PyProof.Rows L2 Evl

/-! ### lists and tuples that are read -/
/-- x is a list of ds: a datum, or one that may change -/
def LstAt (G : Gm) (x : D) (ds : List D) : Prop := x = .lst ds ∨ ∃ a, x = .ref a ∧ G a = some (.lst ds)
def SeqAt (G : Gm) (x : D) (ds : List D) : Prop := x = .tup ds ∨ LstAt G x ds
section
variable {K : PySem.W.Frag} {F : Gm} {Hd H : Hp} {G : Gm} {v : V} {x : D} {ds : List D}
theorem LstAt.sq (s : Sim K F Hd H G) (r : Rp K Hd v x) (h : LstAt G x ds) : ∃ a xs, v = .ref a ∧ SqL K H a xs ∧ RpL K Hd xs ds := by
  rcases h with rfl | ⟨a, rfl, h⟩
  · cases r with
    | lst q r => exact ⟨_, _, rfl, ex_l s.sub q, r⟩
  · cases r
    obtain ⟨xs, h1, h2⟩ := s.hold a _ h
    exact ⟨a, xs, rfl, SqL.of h1, h2⟩
theorem SeqAt.sq (s : Sim K F Hd H G) (r : Rp K Hd v x) (h : SeqAt G x ds) : ∃ a xs, v = .ref a ∧ (SqL K H a xs ∨ SqT K H a xs) ∧ RpL K Hd xs ds := by
  rcases h with rfl | h
  · cases r with
    | tup q r => exact ⟨_, _, rfl, .inr (ex_t s.sub q), r⟩
  · obtain ⟨a, xs, e, q, r⟩ := h.sq s r
    exact ⟨a, xs, e, .inl q, r⟩
theorem seq_tup : SeqAt G (.tup ds) ds := .inl rfl
theorem seq_lst : SeqAt G (.lst ds) ds := .inr (.inl rfl)
theorem seq_ref {a : Addr} (h : G a = some (.lst ds)) : SeqAt G (.ref a) ds := .inr (.inr ⟨a, rfl, h⟩)
theorem lst_lst : LstAt G (.lst ds) ds := .inl rfl
theorem lst_ref {a : Addr} (h : G a = some (.lst ds)) : LstAt G (.ref a) ds := .inr ⟨a, rfl, h⟩
end

section
variable {X : Cx} {B : Bs} {pos p : Pos} {a b c e : Expr} {es : List Expr} {da db dc : DE} {dA : DA} {ta tb : DT}
/-! ### calls of built-ins by their values -/
def CalD (K : PySem.W.Frag) (r : List V → Hp → VK → Prop) (f : Gm → List D → D → Prop) : Prop :=
  ∀ (F : Gm) (Hd H : Hp) (G : Gm) (vs : List V) (xs : List D) (z : D) (Q : VK), Sim K F Hd H G → RpL K Hd vs xs → f G xs z → (∀ w H' Hd', Ex Hd Hd' → Sim K F Hd' H' G → Rp K Hd' w z → Q w H') → r vs H Q
def dCal (f : Gm → List D → D → Prop) (dA : DA) : DE := fun ρ G R => dA ρ G fun xs G1 => ∃ z, f G1 xs z ∧ R z G1
theorem cal_imp {K : PySem.W.Frag} {r : List V → Hp → VK → Prop} {f : Gm → List D → D → Prop} (hd : CalD K r f) {B : Bs} {dA : DA} : ∀ σ H Q, upE K B (dCal f dA) σ H Q → tCB r (upA K B dA) σ H Q := fun σ H Q ⟨ρ, Hd, G, R, at_, h, k⟩ =>
  ⟨ρ, Hd, G, _, at_, h, fun vs H1 Hd1 xs G1 e1 s1 r1 ⟨z, hf, hz⟩ => hd B.f Hd1 H1 G1 vs xs z _ s1 r1 hf fun w H3 Hd3 e3 s3 r3 => k w H3 Hd3 z G1 (e1.trans e3) s3 r3 hz⟩
theorem pd_callB {id : String} {r : List V → Hp → VK → Prop} {f : Gm → List D → D → Prop} {x : Str} (hc : CallR X (.builtin id) r) (hd : CalD X.K r f) (hg : Gl X x) (hm : X.mg x = none) (hv : bootBuiltins x = some (.builtin id)) (ha : PA X (e :: es) (upA X.K B dA))
    (hn : x ≠ "__name__" := by decide) (hdb : (x == ("__debug__" : Str)) = false := by decide)
    (he : starEach (e :: es) X.env = (false, eval e X.env) :: starEach es X.env := by rfl) (hpl : (backTo pos (starEach es X.env)).any (·.1) = false := by rfl) : PE X (.Call (.Name x p) (e :: es) [] pos) (upE X.K B (dCal f dA)) :=
  pe_imp (pe_callB hc hg hm hv ha hn hdb he hpl) (cal_imp hd)
theorem pd_callTy {T : String} {r : List V → Hp → VK → Prop} {f : Gm → List D → D → Prop} {x : Str} (hc : CallR X (.type T) r) (hd : CalD X.K r f) (hg : Gl X x) (hm : X.mg x = none) (hv : bootBuiltins x = some (.type T)) (ha : PA X (e :: es) (upA X.K B dA))
    (hn : x ≠ "__name__" := by decide) (hdb : (x == ("__debug__" : Str)) = false := by decide)
    (he : starEach (e :: es) X.env = (false, eval e X.env) :: starEach es X.env := by rfl) (hpl : (backTo pos (starEach es X.env)).any (·.1) = false := by rfl) : PE X (.Call (.Name x p) (e :: es) [] pos) (upE X.K B (dCal f dA)) :=
  pe_imp (pe_callTy hc hg hm hv ha hn hdb he hpl) (cal_imp hd)
theorem rpl1 {K : PySem.W.Frag} {Hd : Hp} {vs : List V} {x : D} (r : RpL K Hd vs [x]) : ∃ v, vs = [v] ∧ Rp K Hd v x := by
  cases r with
  | cons a b =>
    cases b
    exact ⟨_, rfl, a⟩
theorem rpl2 {K : PySem.W.Frag} {Hd : Hp} {vs : List V} {x y : D} (r : RpL K Hd vs [x, y]) : ∃ v u, vs = [v, u] ∧ Rp K Hd v x ∧ Rp K Hd u y := by
  cases r with
  | cons a b =>
    obtain ⟨u, rfl, h⟩ := rpl1 b
    exact ⟨_, _, rfl, a, h⟩
/-- data that repr is asked of -/
def RepOk (x : D) : Prop := Shw x ∨ x = .dct [] []
def fRepr (_ : Gm) (xs : List D) (z : D) : Prop := ∃ x, xs = [x] ∧ RepOk x ∧ z = .str x.shown
theorem cd_repr {K : PySem.W.Frag} : CalD K (rRepr K) fRepr := fun F Hd H G vs xs z Q s r ⟨x, ex, h, ez⟩ k => by
  subst ex ez
  obtain ⟨v, rfl, rv⟩ := rpl1 r
  rcases h with h | rfl
  · obtain ⟨q, e, h1, h2, h3, h4, h5⟩ := h.py
    refine .inl ⟨v, q, rfl, rp_dp s.sub x rv e, h1, h2, h3, h4, ?_⟩
    rw [← h5]
    exact k _ H Hd (Ex.refl _) s (.str _)
  · cases rv with
    | @dct a ks xs ds q l r2 =>
      cases r2
      exact .inr ⟨_, rfl, s.sub _ _ q, k _ H Hd (Ex.refl _) s (.str _)⟩
/-- len -/
def fLen (G : Gm) (xs : List D) (z : D) : Prop := ∃ x, xs = [x] ∧ ((∃ ds, SeqAt G x ds ∧ z = .int ds.length) ∨ ∃ y, x = .str y ∧ y.length ≤ sizeLine ∧ z = .int y.length)
theorem cd_len {K : PySem.W.Frag} : CalD K (fun xs H Q => ∃ x n, xs = [x] ∧ LenV K x H n ∧ Q (.int n) H) fLen := fun F Hd H G vs xs z Q s r ⟨x, ex, h⟩ k => by
  subst ex
  obtain ⟨v, rfl, rv⟩ := rpl1 r
  rcases h with ⟨ds, h, rfl⟩ | ⟨y, rfl, h, rfl⟩
  · obtain ⟨a, ys, rfl, q, r2⟩ := h.sq s rv
    refine ⟨_, ys.length, rfl, ?_, by rw [r2.length]; exact k _ H Hd (Ex.refl _) s (.int _)⟩
    rcases q with q | q
    · exact .inl ⟨ys, q, rfl⟩
    · exact .inr ⟨ys, q, rfl⟩
  · cases rv
    exact ⟨_, y.length, rfl, ⟨h, rfl⟩, k _ H Hd (Ex.refl _) s (.int _)⟩
theorem pd_len {x : Str} (hx : x = "len") (hg : Gl X x) (hm : X.mg x = none) (ha : PE X e (upE X.K B da)) (he : starEach (e :: []) X.env = (false, eval e X.env) :: starEach [] X.env := by rfl) (hpl : (backTo pos (starEach [] X.env)).any (·.1) = false := by rfl) :
    PE X (.Call (.Name x p) (e :: []) [] pos) (upE X.K B (dCal fLen (dCons da dNil))) := by
  subst hx
  exact pd_callB call_len cd_len hg hm PySem.boot_len (pda_cons ha pda_nil he) (by decide) (by decide) he hpl
/-- abs -/
def fAbs (_ : Gm) (xs : List D) (z : D) : Prop := ∃ i : Int, xs = [.int i] ∧ z = .int (if i < 0 then -i else i)
theorem cd_abs {K : PySem.W.Frag} : CalD K (fun xs H Q => ∃ i, xs = [.int i] ∧ Q (.int (if i < 0 then -i else i)) H) fAbs := fun F Hd H G vs xs z Q s r ⟨i, ex, ez⟩ k => by
  subst ex ez
  obtain ⟨v, rfl, rv⟩ := rpl1 r
  cases rv
  exact ⟨i, rfl, k _ H Hd (Ex.refl _) s (.int _)⟩
/-- int of an int, a truth -/
def fIntOf (_ : Gm) (xs : List D) (z : D) : Prop := (∃ i : Int, xs = [.int i] ∧ z = .int i) ∨ ∃ b : Bool, xs = [.bl b] ∧ z = .int (if b then 1 else 0)
theorem cd_int {K : PySem.W.Frag} : CalD K (fun xs H Q => (∃ i, xs = [.int i] ∧ Q (.int i) H) ∨ ∃ k, xs = [.bl k] ∧ Q (.int (if k then 1 else 0)) H) fIntOf := fun F Hd H G vs xs z Q s r h k => by
  rcases h with ⟨i, ex, ez⟩ | ⟨b, ex, ez⟩
  · subst ex ez
    obtain ⟨v, rfl, rv⟩ := rpl1 r
    cases rv
    exact .inl ⟨i, rfl, k _ H Hd (Ex.refl _) s (.int _)⟩
  · subst ex ez
    obtain ⟨v, rfl, rv⟩ := rpl1 r
    cases rv
    exact .inr ⟨b, rfl, k _ H Hd (Ex.refl _) s (.int _)⟩
/-! ### tuple, list of a list or tuple -/
def fTupOf (G : Gm) (xs : List D) (z : D) : Prop := ∃ x ds, xs = [x] ∧ SeqAt G x ds ∧ z = .tup ds
theorem Inv.sqLen {pins : List (Addr × Obj)} {σ : L2.St} {H : Hp} {s : Shared} {q : Addr} {xs : List V} (I : Inv X pins σ H s) (h : SqL X.K H q xs ∨ SqT X.K H q xs) : xs.length ≤ sizeLine := by
  rcases h with h | h
  · exact (I.list h).choose_spec.2.2
  · exact (I.tuple h).choose_spec.2.2
theorem cd_tuple {K : PySem.W.Frag} : CalD K (fun xs H Q => ∃ p ys, xs = [.ref p] ∧ ((SqL K H p ys ∧ ∀ l, H l = none → Q (.ref l) (upd H l (.tup ys))) ∨ (SqT K H p ys ∧ Q (.ref p) H))) fTupOf := fun F Hd H G vs xs z Q s r ⟨x, ds, ex, h, ez⟩ k => by
  subst ex ez
  obtain ⟨v, rfl, rv⟩ := rpl1 r
  rcases h with rfl | h
  · cases rv with
    | tup q r2 => exact ⟨_, _, rfl, .inr ⟨ex_t s.sub q, k _ H Hd (Ex.refl _) s (.tup q r2)⟩⟩
  · obtain ⟨a, ys, rfl, q, r2⟩ := h.sq s rv
    exact ⟨a, ys, rfl, .inl ⟨q, fun l hl => k _ _ _ (s.exn hl) (s.new hl) (.tup st_new (r2.mono (s.exn hl)))⟩⟩
def fLstOf (G : Gm) (xs : List D) (z : D) : Prop := ∃ x ds, xs = [x] ∧ SeqAt G x ds ∧ z = .lst ds
theorem cd_list {K : PySem.W.Frag} : CalD K (fun xs H Q => ∃ p ys, xs = [.ref p] ∧ (SqL K H p ys ∨ SqT K H p ys) ∧ ∀ l, H l = none → Q (.ref l) (upd H l (.lst ys))) fLstOf := fun F Hd H G vs xs z Q s r ⟨x, ds, ex, h, ez⟩ k => by
  subst ex ez
  obtain ⟨v, rfl, rv⟩ := rpl1 r
  obtain ⟨a, ys, rfl, q, r2⟩ := h.sq s rv
  exact ⟨a, ys, rfl, q, fun l hl => k _ _ _ (s.exn hl) (s.new hl) (.lst sq_new (r2.mono (s.exn hl)))⟩
/-! ### all, any, sum of a list -/
def fAll (G : Gm) (xs : List D) (z : D) : Prop := ∃ x, ∃ bs : List Bool, xs = [x] ∧ LstAt G x (bs.map D.bl) ∧ z = .bl (bs.all id)
def fAny (G : Gm) (xs : List D) (z : D) : Prop := ∃ x, ∃ bs : List Bool, xs = [x] ∧ LstAt G x (bs.map D.bl) ∧ z = .bl (bs.any id)
def fSum (G : Gm) (xs : List D) (z : D) : Prop := ∃ x, ∃ ns : List Int, xs = [x] ∧ LstAt G x (ns.map D.int) ∧ z = .int ns.sum
theorem rp_bls {K : PySem.W.Frag} {H : Hp} : ∀ {bs : List Bool} {vs : List V}, RpL K H vs (bs.map D.bl) → vs = bs.map V.bl
  | [], _, r => by cases r; rfl
  | b :: bs, _, r => by
    cases r with
    | cons x y =>
      cases x
      rw [rp_bls y]
      rfl
theorem rp_ints {K : PySem.W.Frag} {H : Hp} : ∀ {ns : List Int} {vs : List V}, RpL K H vs (ns.map D.int) → vs = ns.map V.int
  | [], _, r => by cases r; rfl
  | b :: bs, _, r => by
    cases r with
    | cons x y =>
      cases x
      rw [rp_ints y]
      rfl
theorem cd_all {K : PySem.W.Frag} : CalD K (rAll K) fAll := fun F Hd H G vs xs z Q s r ⟨x, bs, ex, h, ez⟩ k => by
  subst ex ez
  obtain ⟨v, rfl, rv⟩ := rpl1 r
  obtain ⟨a, ys, rfl, q, r2⟩ := h.sq s rv
  rw [rp_bls r2] at q
  exact ⟨a, bs, rfl, q, k _ H Hd (Ex.refl _) s (.bl _)⟩
theorem cd_any {K : PySem.W.Frag} : CalD K (rAny K) fAny := fun F Hd H G vs xs z Q s r ⟨x, bs, ex, h, ez⟩ k => by
  subst ex ez
  obtain ⟨v, rfl, rv⟩ := rpl1 r
  obtain ⟨a, ys, rfl, q, r2⟩ := h.sq s rv
  rw [rp_bls r2] at q
  exact ⟨a, bs, rfl, q, k _ H Hd (Ex.refl _) s (.bl _)⟩
theorem cd_sum {K : PySem.W.Frag} : CalD K (rSum K) fSum := fun F Hd H G vs xs z Q s r ⟨x, ns, ex, h, ez⟩ k => by
  subst ex ez
  obtain ⟨v, rfl, rv⟩ := rpl1 r
  obtain ⟨a, ys, rfl, q, r2⟩ := h.sq s rv
  rw [rp_ints r2] at q
  exact ⟨a, ns, rfl, q, k _ H Hd (Ex.refl _) s (.int _)⟩

/-! ### isinstance of built-in classes -/
def D.tyn : D → Option String
  | .non => some "NoneType"
  | .bl _ => some "bool"
  | .int _ => some "int"
  | .str _ => some "str"
  | .tup _ => some "tuple"
  | .lst _ => some "list"
  | .dct _ _ => some "dict"
  | _ => none
theorem ty_of {K : PySem.W.Frag} {F : Gm} {Hd H : Hp} {G : Gm} {v : V} {x : D} {t : String} (s : Sim K F Hd H G) (r : Rp K Hd v x) (h : x.tyn = some t) : TyX K H v (.type t) := by
  cases r with
  | non => cases h; exact .base .non
  | bl b => cases h; exact .base (.bl b)
  | int i => cases h; exact .base (.int i)
  | str y => cases h; exact .base (.str y)
  | tup q _ =>
    cases h
    rcases ex_t s.sub q with (q | ⟨o, q⟩) | ⟨o, its, n, q, c, _⟩
    · exact .base (.tup q)
    · exact .fTuple q
    · exact .kTuple q c
  | lst q _ =>
    cases h
    rcases ex_l s.sub q with (q | ⟨o, q⟩) | ⟨o, its, n, q, c, _⟩
    · exact .base (.lst q)
    · exact .base (.frz q)
    · exact .kList q c
  | dct q _ _ => cases h; exact .base (.dK (s.sub _ _ q))
  | ty _ => cases h
  | ref _ => cases h
  | ins _ _ _ => cases h
/-- which built-in classes stand below which -/
def isK (t n : String) : Bool := t == n || (t == "bool" && n == "int")
theorem kit_is : ∀ t ∈ ["NoneType", "bool", "int", "str", "tuple", "list", "dict"], ∀ n ∈ ["int", "bool", "str", "list", "tuple", "dict"], kitB t n = some (isK t n) := by decide +kernel
theorem tyn_in {x : D} {t : String} (h : x.tyn = some t) : t ∈ ["NoneType", "bool", "int", "str", "tuple", "list", "dict"] := by
  cases x <;> cases h <;> decide
/-- isinstance(x, n) -/
def fIsi (n : String) (_ : Gm) (xs : List D) (z : D) : Prop := ∃ x t, xs = [x, .ty n] ∧ x.tyn = some t ∧ z = .bl (isK t n)
theorem cd_isi {K : PySem.W.Frag} {n : String} (hn : n ∈ ["int", "bool", "str", "list", "tuple", "dict"]) : CalD K (rIsi K) (fIsi n) := fun F Hd H G vs xs z Q s r ⟨x, t, ex, h, ez⟩ k => by
  subst ex ez
  obtain ⟨v, u, rfl, rv, ru⟩ := rpl2 r
  cases ru
  exact ⟨v, .ty n, .type t, .type n, _, rfl, .ty n, ty_of s rv h, kit_ty (kit_is t (tyn_in h) n hn), k _ H Hd (Ex.refl _) s (.bl _)⟩
theorem pd_isi {n : String} {q : Pos} {m x : Str} (hx : x = "isinstance") (hn : n ∈ ["int", "bool", "str", "list", "tuple", "dict"]) (hg : Gl X x) (hm : X.mg x = none) (ha : PE X e (upE X.K B da)) (ht : PE X (.Name m q) (upE X.K B (dC (.ty n))))
    (he : starEach (e :: [.Name m q]) X.env = (false, eval e X.env) :: starEach [.Name m q] X.env := by rfl) (he2 : starEach ((.Name m q) :: []) X.env = (false, eval (.Name m q) X.env) :: starEach [] X.env := by rfl) (hpl : (backTo pos (starEach [.Name m q] X.env)).any (·.1) = false := by rfl) :
    PE X (.Call (.Name x p) (e :: [.Name m q]) [] pos) (upE X.K B (dCal (fIsi n) (dCons da (dCons (dC (.ty n)) dNil)))) := by
  subst hx
  exact pd_callB call_isi (cd_isi hn) hg hm (by decide +kernel) (pda_cons ha (pda_cons ht pda_nil he2) he) (by decide) (by decide) he hpl
/-- a written tuple of built-in classes -/
def tTys (ns : List String) : TA := fun _ H Q => Q (ns.map V.ty) H
theorem pty_nil : PA X [] (tTys []) := pa_imp pa_nil fun _ _ _ h => h
theorem pty_cons {n : String} {ns : List String} (ht : PE X e (tC (.ty n))) (hr : PA X es (tTys ns)) (hs : starEach (e :: es) X.env = (false, eval e X.env) :: starEach es X.env := by rfl) : PA X (e :: es) (tTys (n :: ns)) := pa_imp (pa_cons ht hr hs) fun _ _ _ h => h
theorem pe_ty {x : Str} {n : String} {q : Pos} (hg : Gl X x) (hm : X.mg x = none) (hv : bootBuiltins x = some (.type n)) (hn : x ≠ "__name__" := by decide) (hd : (x == ("__debug__" : Str)) = false := by decide) : PE X (.Name x q) (tC (.ty n)) := pe_bltn hg hm hv rfl hn hd
theorem paired_ty : ∀ ns : List String, Paired ClsV (ns.map V.ty) (ns.map Value.type)
  | [] => .nil
  | n :: ns => .cons (.ty n) (paired_ty ns)
theorem kit_any {K : PySem.W.Frag} {t : String} (ht : t ∈ ["NoneType", "bool", "int", "str", "tuple", "list", "dict"]) : ∀ ns : List String, (∀ n ∈ ns, n ∈ ["int", "bool", "str", "list", "tuple", "dict"]) → PySem.W.kitAny K (.type t) (ns.map Value.type) = some (ns.any (isK t))
  | [], _ => rfl
  | n :: ns, h => by
    have h1 := kit_is t ht n (h n List.mem_cons_self)
    refine kitAny_cons (kit_ty h1) (fun hb => ?_) (fun hb => ?_)
    · rw [kit_any ht ns fun m hm => h m (List.mem_cons_of_mem _ hm)]
      rw [List.any_cons, hb, Bool.false_or]
    · rw [List.any_cons, hb, Bool.true_or]
def dIsiT (ns : List String) (da : DE) : DE := fun ρ G R => da ρ G fun x G1 => ∃ t, x.tyn = some t ∧ R (.bl (ns.any (isK t))) G1
theorem pd_isiT {ns : List String} {x1 : Nat} {q : Pos} {x : Str} (hx : x = "isinstance") (hn : ∀ n ∈ ns, n ∈ ["int", "bool", "str", "list", "tuple", "dict"]) (hz : ns.length ≤ sizeLine) (hg : Gl X x) (hm : X.mg x = none) (ha : PE X e (upE X.K B da)) (ht : PA X es (tTys ns))
    (he : starEach (e :: [.Tuple es x1 q]) X.env = (false, eval e X.env) :: starEach [.Tuple es x1 q] X.env := by rfl) (he2 : starEach ((.Tuple es x1 q) :: []) X.env = (false, eval (.Tuple es x1 q) X.env) :: starEach [] X.env := by rfl) (hpl : (backTo pos (starEach [.Tuple es x1 q] X.env)).any (·.1) = false := by rfl) :
    PE X (.Call (.Name x p) (e :: [.Tuple es x1 q]) [] pos) (upE X.K B (dIsiT ns da)) := by
  subst hx
  refine pe_imp (pe_callB call_isiT hg hm (by decide +kernel) (pa_cons ha (pa_cons (pe_tup ht) pa_nil he2) he) (by decide) (by decide) he hpl) fun σ H Q ⟨ρ, Hd, G, R, at_, h, k⟩ => ?_
  refine ⟨ρ, Hd, G, _, at_, h, fun v H1 Hd1 x G1 e1 s1 r1 ⟨t, et, hr⟩ => ?_⟩
  refine ⟨by rw [List.length_map]; exact hz, fun pp hp => ?_⟩
  exact ⟨v, pp, ns.map V.ty, .type t, ns.map Value.type, _, rfl, upd_same, paired_ty ns, ty_of (s1.side hp) r1 et, kit_any (tyn_in et) ns hn, k _ _ Hd1 _ G1 e1 (s1.side hp) (.bl _) hr⟩

/-! ### subscripts -/
def atD (ds : List D) (i : Int) : Option D := atI ds i
theorem rpl_atI {K : PySem.W.Frag} {H : Hp} {vs : List V} {ds : List D} {i : Int} {d : D} (r : RpL K H vs ds) (h : atI ds i = some d) : ∃ v, atI vs i = some v ∧ Rp K H v d := by
  unfold atI at h ⊢
  rw [r.length]
  cases e : ixN ds.length i with
  | none =>
    rw [e] at h
    cases h
  | some j =>
    rw [e] at h
    exact r.at h
def fIx (G : Gm) (x y z : D) : Prop := (∃ ds i, SeqAt G x ds ∧ y = .int i ∧ atI ds i = some z) ∨ ∃ (t : Str) (i : Int) (c : Nat), x = .str t ∧ y = .int i ∧ t.length ≤ sizeLine ∧ atI t.cps.toList i = some c ∧ z = .str ⟨#[c]⟩
def dIx (da db : DE) : DE := fun ρ G R => da ρ G fun x G1 => db ρ G1 fun y G2 => ∃ z, fIx G2 x y z ∧ R z G2
theorem pd_ix (ha : PE X a (upE X.K B da)) (hb : PE X b (upE X.K B db)) (hs : PlainIx b) : PE X (.Subscript a b pos) (upE X.K B (dIx da db)) := pe_imp (pe_ix ix_seq ha hb hs) fun σ H Q ⟨ρ, Hd, G, R, at_, h, k⟩ =>
  ⟨ρ, Hd, G, _, at_, h, fun v H1 Hd1 x G1 e1 s1 r1 h1 => ⟨ρ, Hd1, G1, _, at_.step e1 s1, h1, fun u H2 Hd2 y G2 e2 s2 r2 ⟨z, hf, hz⟩ => by
    have fin : ∀ w, Rp X.K Hd2 w z → Q w H2 := fun w r => k w H2 Hd2 z G2 (e1.trans e2) s2 r hz
    rcases hf with ⟨ds, i, hs, rfl, hi⟩ | ⟨t, i, cc, rfl, rfl, hz2, hi, rfl⟩
    · cases r2
      obtain ⟨q, xs, rfl, hq, r3⟩ := hs.sq s2 (r1.mono e2)
      obtain ⟨w, hw, rw_⟩ := rpl_atI r3 hi
      rcases hq with hq | hq
      · exact .inl ⟨q, xs, i, w, rfl, rfl, hq, hw, fin w rw_⟩
      · exact .inr (.inl ⟨q, xs, i, w, rfl, rfl, hq, hw, fin w rw_⟩)
    · cases r2
      cases r1
      exact .inr (.inr ⟨t, i, cc, rfl, rfl, hz2, hi, fin _ (.str _)⟩)⟩⟩

/-! ### and, or, not, if -/
def dAndV (da db : DE) : DE := fun ρ G R => da ρ G fun x G1 => ∃ k, x = .bl k ∧ if k = true then db ρ G1 R else R (.bl false) G1
def dOrV (da db : DE) : DE := fun ρ G R => da ρ G fun x G1 => ∃ k, x = .bl k ∧ if k = true then R (.bl true) G1 else db ρ G1 R
def dNotV (da : DE) : DE := fun ρ G R => da ρ G fun x G1 => ∃ k, x = .bl k ∧ R (.bl (!k)) G1
variable {rest : List Expr} {A2 B2 : Expr}
theorem pd_one {op : BoolOp} (h : PE X a (upE X.K B da)) : PE X (.BoolOp op [a] pos) (upE X.K B da) := pe_one h
theorem pd_and (ha : PE X a (upE X.K B da)) (hb : PE X (.BoolOp .And (b :: rest) pos) (upE X.K B db)) : PE X (.BoolOp .And (a :: b :: rest) pos) (upE X.K B (dAndV da db)) := pe_imp (pe_and ha hb) fun σ H Q ⟨ρ, Hd, G, R, at_, h, k⟩ =>
  ⟨ρ, Hd, G, _, at_, h, fun v H1 Hd1 x G1 e1 s1 r1 ⟨t, et, h1⟩ => by
    subst et
    cases r1
    refine ⟨t, rfl, ?_⟩
    cases t with
    | true => exact ⟨ρ, Hd1, G1, R, at_.step e1 s1, h1, k.mono e1⟩
    | false => exact k _ H1 Hd1 _ G1 e1 s1 (.bl _) h1⟩
theorem pd_or (ha : PE X a (upE X.K B da)) (hb : PE X (.BoolOp .Or (b :: rest) pos) (upE X.K B db)) : PE X (.BoolOp .Or (a :: b :: rest) pos) (upE X.K B (dOrV da db)) := pe_imp (pe_or ha hb) fun σ H Q ⟨ρ, Hd, G, R, at_, h, k⟩ =>
  ⟨ρ, Hd, G, _, at_, h, fun v H1 Hd1 x G1 e1 s1 r1 ⟨t, et, h1⟩ => by
    subst et
    cases r1
    refine ⟨t, rfl, ?_⟩
    cases t with
    | true => exact k _ H1 Hd1 _ G1 e1 s1 (.bl _) h1
    | false => exact ⟨ρ, Hd1, G1, R, at_.step e1 s1, h1, k.mono e1⟩⟩
theorem pd_not (ha : PE X a (upE X.K B da)) : PE X (.UnaryOp .Not a pos) (upE X.K B (dNotV da)) := pe_imp (pe_not ha) fun σ H Q ⟨ρ, Hd, G, R, at_, h, k⟩ =>
  ⟨ρ, Hd, G, _, at_, h, fun v H1 Hd1 x G1 e1 s1 r1 ⟨t, et, h1⟩ => by
    subst et
    cases r1
    exact ⟨t, rfl, k _ H1 Hd1 _ G1 e1 s1 (.bl _) h1⟩⟩
def dAnd (t u : DT) : DT := fun ρ G R => t ρ G fun k G1 => if k = true then u ρ G1 R else R false G1
def dOr (t u : DT) : DT := fun ρ G R => t ρ G fun k G1 => if k = true then R true G1 else u ρ G1 R
def dNot (t : DT) : DT := fun ρ G R => t ρ G fun k G1 => R (!k) G1
theorem pwd_and1 (ha : PT X a (upT X.K B ta)) : PW X (.BoolOp .And [a] pos) (upT X.K B ta) := pw_and1 ha
theorem pwd_or1 (ha : PT X a (upT X.K B ta)) : PW X (.BoolOp .Or [a] pos) (upT X.K B ta) := pw_or1 ha
theorem pwd_and (ha : PT X a (upT X.K B ta)) (hb : PW X (.BoolOp .And (b :: rest) pos) (upT X.K B tb)) : PW X (.BoolOp .And (a :: b :: rest) pos) (upT X.K B (dAnd ta tb)) := pw_imp (pw_and ha hb) fun σ H Q ⟨ρ, Hd, G, R, at_, h, k⟩ =>
  ⟨ρ, Hd, G, _, at_, h, fun t H1 Hd1 G1 e1 s1 h1 => by
    cases t with
    | true => exact ⟨ρ, Hd1, G1, R, at_.step e1 s1, h1, k.mono e1⟩
    | false => exact k _ H1 Hd1 G1 e1 s1 h1⟩
theorem pwd_or (ha : PT X a (upT X.K B ta)) (hb : PW X (.BoolOp .Or (b :: rest) pos) (upT X.K B tb)) : PW X (.BoolOp .Or (a :: b :: rest) pos) (upT X.K B (dOr ta tb)) := pw_imp (pw_or ha hb) fun σ H Q ⟨ρ, Hd, G, R, at_, h, k⟩ =>
  ⟨ρ, Hd, G, _, at_, h, fun t H1 Hd1 G1 e1 s1 h1 => by
    cases t with
    | true => exact k _ H1 Hd1 G1 e1 s1 h1
    | false => exact ⟨ρ, Hd1, G1, R, at_.step e1 s1, h1, k.mono e1⟩⟩
theorem ptd_not (ha : PT X a (upT X.K B ta)) : PT X (.UnaryOp .Not a pos) (upT X.K B (dNot ta)) := pt_imp (pt_not ha) fun σ H Q ⟨ρ, Hd, G, R, at_, h, k⟩ =>
  ⟨ρ, Hd, G, _, at_, h, fun t H1 Hd1 G1 e1 s1 h1 => k _ H1 Hd1 G1 e1 s1 h1⟩
def dIf (t : DT) (da db : DE) : DE := fun ρ G R => t ρ G fun k G1 => if k = true then da ρ G1 R else db ρ G1 R
theorem pd_if (hc : PT X c (upT X.K B ta)) (ha : PE X a (upE X.K B da)) (hb : PE X b (upE X.K B db)) : PE X (.IfExp c a b pos) (upE X.K B (dIf ta da db)) := pe_imp (pe_ifExp hc ha hb) fun σ H Q ⟨ρ, Hd, G, R, at_, h, k⟩ =>
  ⟨ρ, Hd, G, _, at_, h, fun t H1 Hd1 G1 e1 s1 h1 => by
    cases t with
    | true => exact ⟨ρ, Hd1, G1, R, at_.step e1 s1, h1, k.mono e1⟩
    | false => exact ⟨ρ, Hd1, G1, R, at_.step e1 s1, h1, k.mono e1⟩⟩
/-- is None, is not None -/
def D.isN : D → Bool
  | .non => true
  | _ => false
def dIsN (da : DE) : DE := fun ρ G R => da ρ G fun x G1 => R (.bl x.isN) G1
def dNotN (da : DE) : DE := fun ρ G R => da ρ G fun x G1 => R (.bl (!x.isN)) G1
theorem non_iff {K : PySem.W.Frag} {H : Hp} {v : V} {x : D} (r : Rp K H v x) : decide (v = .non) = x.isN := by
  cases r <;> first | rfl | exact decide_eq_false (fun z => nomatch z)
theorem isn_imp {K : PySem.W.Frag} : ∀ σ H Q, upE K B (dIsN da) σ H Q → tIsN (upE K B da) σ H Q := fun σ H Q ⟨ρ, Hd, G, R, at_, h, k⟩ =>
  ⟨ρ, Hd, G, _, at_, h, fun v H1 Hd1 x G1 e1 s1 r1 h1 => by
    show Q (.bl (decide (v = .non))) H1
    rw [non_iff r1]
    exact k _ H1 Hd1 _ G1 e1 s1 (.bl _) h1⟩
theorem notn_imp {K : PySem.W.Frag} : ∀ σ H Q, upE K B (dNotN da) σ H Q → tNotN (upE K B da) σ H Q := fun σ H Q ⟨ρ, Hd, G, R, at_, h, k⟩ =>
  ⟨ρ, Hd, G, _, at_, h, fun v H1 Hd1 x G1 e1 s1 r1 h1 => by
    show Q (.bl (!decide (v = .non))) H1
    rw [non_iff r1]
    exact k _ H1 Hd1 _ G1 e1 s1 (.bl _) h1⟩
theorem pd_isN {j : Nat} {pp : Pos} (ha : PE X a (upE X.K B da)) : PE X (.Compare a [.Is] [.Constant .none j pp] pos) (upE X.K B (dIsN da)) := pe_imp (pe_cmp (pc_isN ha) rfl) isn_imp
theorem pd_notN {j : Nat} {pp : Pos} (ha : PE X a (upE X.K B da)) : PE X (.Compare a [.IsNot] [.Constant .none j pp] pos) (upE X.K B (dNotN da)) := pe_imp (pe_cmp (pc_notN ha) rfl) notn_imp
theorem ptd_isn {d : DE} {op : CmpOp} {r : Expr} (h : PE X (.Compare a [op] [r] pos) (upE X.K B d)) (he : ∀ whole, isTrue (.Compare a [op] [r] pos) X.env whole = (do let v ← whole; standAt (Expr.pos (.Compare a [op] [r] pos)); holding [v] (truthy v)) := by intro _; rfl) : PT X (.Compare a [op] [r] pos) (upT X.K B (dTst d)) := ptd_val h he
/-- a chain of two comparisons of ints -/
def dChain (f g : D → D → D → Prop) (da db dc : DE) : DE := fun ρ G R => da ρ G fun x G1 => db ρ G1 fun y G2 => ∃ k, f x y (.bl k) ∧ if k = true then dc ρ G2 fun z G3 => ∃ w, g y z w ∧ R w G3 else R (.bl false) G2
theorem chain_imp {K : PySem.W.Frag} {r r' : R2} {f g : D → D → D → Prop} (hd : OpD K r f) (hd' : OpD K r' g) : ∀ σ H Q, upE K B (dChain f g da db dc) σ H Q → tChain r r' (upE K B da) (upE K B db) (upE K B dc) σ H Q := fun σ H Q ⟨ρ, Hd, G, R, at_, h, k⟩ =>
  ⟨ρ, Hd, G, _, at_, h, fun v H1 Hd1 x G1 e1 s1 r1 h1 => ⟨ρ, Hd1, G1, _, at_.step e1 s1, h1, fun u H2 Hd2 y G2 e2 s2 r2 ⟨t, hf, hz⟩ =>
    hd B.f Hd2 H2 G2 v u x y (.bl t) _ s2 (r1.mono e2) r2 hf fun w H3 Hd3 e3 s3 r3 => by
      cases r3
      refine ⟨t, rfl, ?_⟩
      cases t with
      | false => exact k _ H3 Hd3 _ G2 ((e1.trans e2).trans e3) s3 (.bl _) hz
      | true => exact ⟨ρ, Hd3, G2, _, (at_.step (e1.trans e2) s2).step e3 s3, hz, fun w4 H4 Hd4 z G4 e4 s4 r4 ⟨w5, hg, h5⟩ =>
          hd' B.f Hd4 H4 G4 u w4 y z w5 _ s4 (r2.mono (e3.trans e4)) r4 hg fun w6 H6 Hd6 e6 s6 r6 => k w6 H6 Hd6 w5 G4 ((((e1.trans e2).trans e3).trans e4).trans e6) s6 r6 h5⟩⟩⟩
theorem pd_chain {op op' : CmpOp} {r r' : R2} {f g : D → D → D → Prop} (ho : OpR X (compareOp op) r) (ho' : OpR X (compareOp op') r') (hd : OpD X.K r f) (hd' : OpD X.K r' g) (ha : PE X a (upE X.K B da)) (hb : PE X b (upE X.K B db)) (hc : PE X c (upE X.K B dc))
    (hm : lastMarks [op, op'] [b, c] = false := by with_unfolding_all rfl) : PE X (.Compare a [op, op'] [b, c] pos) (upE X.K B (dChain f g da db dc)) := pe_imp (pe_chain ho ho' ha hb hc hm) (chain_imp hd hd')
theorem ptd_chain {op op' : CmpOp} {r r' : R2} {f g : D → D → D → Prop} (ho : OpR X (compareOp op) r) (ho' : OpR X (compareOp op') r') (hd : OpD X.K r f) (hd' : OpD X.K r' g) (ha : PE X a (upE X.K B da)) (hb : PE X b (upE X.K B db)) (hc : PE X c (upE X.K B dc))
    (hm : lastMarks [op, op'] [b, c] = false := by with_unfolding_all rfl) : PT X (.Compare a [op, op'] [b, c] pos) (upT X.K B (dTst (dChain f g da db dc))) := pt_imp (pt_chain ho ho' ha hb hc hm) fun σ H Q h => chain_imp hd hd' σ H _ (tst_imp σ H Q h)
/-! ### {}, slices -/
def dDct0 : DE := fun _ G R => R (.dct [] []) G
theorem pd_dct0 : PE X (.Dict [] [] pos) (upE X.K B dDct0) := pe_imp pe_dnewK fun σ H Q ⟨ρ, Hd, G, R, at_, h, k⟩ =>
  fun pp hp => k _ _ _ _ G (at_.s.exn hp) (at_.s.new hp) (.dct (ks := []) (xs := []) (by rw [upd_same]; rfl) rfl .nil) h
/-- a part of a slice -/
abbrev DO := En → Gm → (Option Int → Gm → Prop) → Prop
def upO (K : PySem.W.Frag) (B : Bs) (d : DO) : TO := fun σ H Q => ∃ ρ Hd G R, At K B σ H ρ Hd G ∧ d ρ G R ∧ ∀ o H' Hd' G', Ex Hd Hd' → Sim K B.f Hd' H' G' → R o G' → Q o H'
def dNoP : DO := fun _ G R => R none G
def dPart (de : DE) : DO := fun ρ G R => de ρ G fun x G1 => ∃ i, x = .int i ∧ R (some i) G1
theorem po_imp {eo : Option Expr} {t t' : TO} (h : PO X eo t) (i : ∀ σ H Q, t' σ H Q → t σ H Q) : PO X eo t' := ⟨fun pins s σ H Q I w => h.run pins s σ H Q I (i σ H Q w)⟩
theorem pod_none : PO X none (upO X.K B dNoP) := po_imp po_none fun σ H Q ⟨ρ, Hd, G, R, at_, h, k⟩ => k none H Hd G (Ex.refl _) at_.s h
theorem pod_some (h : PE X e (upE X.K B da)) : PO X (some e) (upO X.K B (dPart da)) := po_imp (po_some h) fun σ H Q ⟨ρ, Hd, G, R, at_, h, k⟩ =>
  ⟨ρ, Hd, G, _, at_, h, fun v H1 Hd1 x G1 e1 s1 r1 ⟨i, ex, h1⟩ => by
    subst ex
    cases r1
    exact ⟨i, rfl, k _ H1 Hd1 G1 e1 s1 h1⟩⟩
def cutD (xs : List D) (lo hi : Option Int) : List D := (xs.drop (HT.sIx xs.length 0 lo)).take (HT.sIx xs.length xs.length hi - HT.sIx xs.length 0 lo)
theorem rpl_cut {K : PySem.W.Frag} {H : Hp} {vs : List V} {ds : List D} (r : RpL K H vs ds) (lo hi : Option Int) : RpL K H (cutV vs lo hi) (cutD ds lo hi) := by
  unfold cutV cutD
  rw [r.length]
  exact (r.drop _).take _
/-- a slice of a list; of a tuple, not the whole of it -/
def fSl (G : Gm) (x : D) (lo hi : Option Int) (z : D) : Prop := (∃ ds, LstAt G x ds ∧ z = .lst (cutD ds lo hi)) ∨ ∃ ds, x = .tup ds ∧ z = .tup (cutD ds lo hi) ∧ ¬ (HT.sIx ds.length 0 lo = 0 ∧ HT.sIx ds.length ds.length hi = ds.length)
def dSl (da : DE) (l h : DO) : DE := fun ρ G R => da ρ G fun x G1 => l ρ G1 fun lo G2 => h ρ G2 fun hi G3 => ∃ z, fSl G3 x lo hi z ∧ R z G3
theorem pd_slice {lo hi : Option Expr} {l h : DO} {p2 : Pos} (he : PE X e (upE X.K B da)) (hl : PO X lo (upO X.K B l)) (hh : PO X hi (upO X.K B h)) : PE X (.Subscript e (.Slice lo hi none p2) pos) (upE X.K B (dSl da l h)) :=
  pe_imp (pe_slice (sl_list.or sl_tup) he hl hh) fun σ H Q ⟨ρ, Hd, G, R, at_, h, k⟩ =>
    ⟨ρ, Hd, G, _, at_, h, fun v H1 Hd1 x G1 e1 s1 r1 h1 => ⟨ρ, Hd1, G1, _, at_.step e1 s1, h1, fun lo H2 Hd2 G2 e2 s2 h2 => ⟨ρ, Hd2, G2, _, (at_.step e1 s1).step e2 s2, h2, fun hi H3 Hd3 G3 e3 s3 ⟨z, hz, h3⟩ => by
      have e123 := (e1.trans e2).trans e3
      rcases hz with ⟨ds, hl, rfl⟩ | ⟨ds, rfl, rfl, hn⟩
      · obtain ⟨q, ys, rfl, hq, r3⟩ := hl.sq s3 (r1.mono (e2.trans e3))
        exact .inl ⟨q, ys, rfl, hq, fun pp hp => k _ _ _ _ G3 (e123.trans (s3.exn hp)) (s3.new hp) (.lst sq_new ((rpl_cut r3 lo hi).mono (s3.exn hp))) h3⟩
      · cases r1.mono (e2.trans e3) with
        | tup hq r3 =>
          refine .inr ⟨_, _, rfl, ex_t s3.sub hq, ?_, fun pp hp => k _ _ _ _ G3 (e123.trans (s3.exn hp)) (s3.new hp) (.tup st_new ((rpl_cut r3 lo hi).mono (s3.exn hp))) h3⟩
          rw [r3.length]
          exact hn⟩⟩⟩
end
end DL

/-! DL5: statements, loops, comprehensions. -/
namespace DL
open PySem PySem.Spec PyProof.Rows L2 Evl

section
variable {X : Cx} {B : Bs} {pos p : Pos} {a b c e : Expr} {es : List Expr} {da db dc de : DE} {dA : DA} {ta tb : DT} {st : Stmt} {sts : List Stmt} {s1 s2 : DS}
/-! ### blocks -/
def dNext : DS := fun E ρ G => E.nx ρ G
def dSeq (s t : DS) : DS := fun E ρ G => s { E with nx := t E } ρ G
theorem psd_nil : PSs X [] (upS X.K B dNext) := pss_imp pss_nil fun D σ H ⟨ρ, Hd, G, E, at_, h, k⟩ => k.nx σ H Hd ρ G (Ex.refl _) at_.e at_.s h
theorem psd_cons (h1 : PS X st (upS X.K B s1)) (h2 : PSs X sts (upS X.K B s2)) : PSs X (st :: sts) (upS X.K B (dSeq s1 s2)) := pss_imp (pss_cons h1 h2) fun D σ H ⟨ρ, Hd, G, E, at_, h, k⟩ =>
  ⟨ρ, Hd, G, _, at_, h, ⟨fun σ' H' Hd' ρ' G' e r s h' => ⟨ρ', Hd', G', E, ⟨at_.b.trans e, r, s⟩, h', k.mono e⟩, k.rt, k.bk, k.ct⟩⟩
theorem psd_one (h1 : PS X st (upS X.K B s1)) : PSs X [st] (upS X.K B s1) := pss_one h1
def dBreak : DS := fun E ρ G => E.bk ρ G
def dCont : DS := fun E ρ G => E.ct ρ G
theorem psd_pass : PS X (.Pass pos) (upS X.K B dNext) := ps_imp ps_pass fun D σ H ⟨ρ, Hd, G, E, at_, h, k⟩ => k.nx σ H Hd ρ G (Ex.refl _) at_.e at_.s h
theorem psd_break : PS X (.Break pos) (upS X.K B dBreak) := ps_imp ps_break fun D σ H ⟨ρ, Hd, G, E, at_, h, k⟩ => k.bk σ H Hd ρ G (Ex.refl _) at_.e at_.s h
theorem psd_continue : PS X (.Continue pos) (upS X.K B dCont) := ps_imp ps_continue fun D σ H ⟨ρ, Hd, G, E, at_, h, k⟩ => k.ct σ H Hd ρ G (Ex.refl _) at_.e at_.s h
def dRet (de : DE) : DS := fun E ρ G => de ρ G E.rt
theorem psd_ret (he : PE X e (upE X.K B de)) : PS X (.Return (some e) pos) (upS X.K B (dRet de)) := ps_imp (ps_ret he) fun D σ H ⟨ρ, Hd, G, E, at_, h, k⟩ => ⟨ρ, Hd, G, E.rt, at_, h, k.rt⟩
def dRetN : DS := fun E _ G => E.rt .non G
theorem psd_retN : PS X (.Return none pos) (upS X.K B dRetN) := ps_imp ps_retN fun D σ H ⟨ρ, Hd, G, E, at_, h, k⟩ => k.rt .non H Hd .non G (Ex.refl _) at_.s .non h
def dDrop (de : DE) : DS := fun E ρ G => de ρ G fun _ G1 => E.nx ρ G1
theorem psd_expr (he : PE X e (upE X.K B de)) (hs : swapsWith e none pos.line X.env = pure false := by rfl) : PS X (.Expr e pos) (upS X.K B (dDrop de)) := ps_imp (ps_expr he hs) fun D σ H ⟨ρ, Hd, G, E, at_, h, k⟩ =>
  ⟨ρ, Hd, G, _, at_, h, fun v H1 Hd1 x G1 e1 s1 r1 h1 => k.nx σ H1 Hd1 ρ G1 e1 (at_.e.mono e1) s1 h1⟩
def dIfS (t : DT) (s1 s2 : DS) : DS := fun E ρ G => t ρ G fun k G1 => if k = true then s1 E ρ G1 else s2 E ρ G1
theorem psd_if {A2 B2 : List Stmt} (hc : PT X c (upT X.K B ta)) (ha : PSs X A2 (upS X.K B s1)) (hb : PSs X B2 (upS X.K B s2)) : PS X (.If c A2 B2 pos) (upS X.K B (dIfS ta s1 s2)) := ps_imp (ps_if hc ha hb) fun D σ H ⟨ρ, Hd, G, E, at_, h, k⟩ =>
  ⟨ρ, Hd, G, _, at_, h, fun t H1 Hd1 G1 e1 s1 h1 => by
    cases t with
    | true => exact ⟨ρ, Hd1, G1, E, at_.step e1 s1, h1, k.mono e1⟩
    | false => exact ⟨ρ, Hd1, G1, E, at_.step e1 s1, h1, k.mono e1⟩⟩
/-- a statement that is never reached -/
def dNever : DS := fun _ _ _ => False
theorem psd_never : PS X st (upS X.K B dNever) := ps_imp ps_never fun D σ H ⟨ρ, Hd, G, E, at_, h, k⟩ => h

/-! ### targets -/
abbrev DG := D → En → Gm → (En → Gm → Prop) → Prop
abbrev DGs := List D → En → Gm → (En → Gm → Prop) → Prop
/-- no name but these is stored -/
def OnlyAt (js : List Nat) (σ σ' : L2.St) : Prop := σ'.length = σ.length ∧ ∀ j, j ∉ js → σ'[j]? = σ[j]?
theorem OnlyAt.trans {js ks : List Nat} {σ σ1 σ2 : L2.St} (h : OnlyAt js σ σ1) (h' : OnlyAt ks σ1 σ2) : OnlyAt (js ++ ks) σ σ2 :=
  ⟨h'.1.trans h.1, fun j hj => (h'.2 j fun z => hj (List.mem_append_right _ z)).trans (h.2 j fun z => hj (List.mem_append_left _ z))⟩
def KG (K : PySem.W.Frag) (F : Gm) (Hd : Hp) (js : List Nat) (σ : L2.St) (R : En → Gm → Prop) (Q : L2.St → Hp → Prop) : Prop := ∀ σ' H' Hd' ρ' G', Ex Hd Hd' → RpE K Hd' σ' ρ' → Sim K F Hd' H' G' → R ρ' G' → OnlyAt js σ σ' → Q σ' H'
theorem KN.kg {K : PySem.W.Frag} {F : Gm} {Hd : Hp} {js : List Nat} {σ : L2.St} {R : En → Gm → Prop} {Q : L2.St → Hp → Prop} (k : KN K F Hd R Q) : KG K F Hd js σ R Q := fun σ' H' Hd' ρ' G' e r s h _ => k σ' H' Hd' ρ' G' e r s h
def upG (K : PySem.W.Frag) (B : Bs) (js : List Nat) (g : DG) : TG := fun v σ H Q => ∃ x ρ Hd G R, At K B σ H ρ Hd G ∧ Rp K Hd v x ∧ g x ρ G R ∧ KG K B.f Hd js σ R Q
def upGs (K : PySem.W.Frag) (B : Bs) (js : List Nat) (g : DGs) : TGs := fun vs σ H Q => ∃ xs ρ Hd G R, At K B σ H ρ Hd G ∧ RpL K Hd vs xs ∧ g xs ρ G R ∧ KG K B.f Hd js σ R Q
theorem pg_imp {t t' : TG} (h : PG X e t) (i : ∀ v σ H Q, t' v σ H Q → t v σ H Q) : PG X e t' := ⟨fun pins s σ H v u Q I r w => h.run pins s σ H v u Q I r (i v σ H Q w)⟩
theorem pgs_imp {t t' : TGs} (h : PGs X es t) (i : ∀ v σ H Q, t' v σ H Q → t v σ H Q) : PGs X es t' := ⟨fun pins s σ H v u Q I r w => h.run pins s σ H v u Q I r (i v σ H Q w)⟩
def gN (i : Nat) : DG := fun x ρ G R => R (ρ.set i (some x)) G
theorem only_set {σ : L2.St} {i : Nat} {v : Option V} : OnlyAt [i] σ (σ.set i v) := ⟨List.length_set, fun j hj => List.getElem?_set_ne fun z => hj (by rw [z]; exact List.mem_singleton_self _)⟩
theorem pgd_name {i : Nat} {x : Str} (hN : X.N.Nodup) (hi : X.N[i]? = some x) (hx : Loc X.env.scope x) (hf : X.fn x = true ∨ X.env.scope.names.lookup x = some .local := by first | exact .inl rfl | exact .inr rfl | assumption) : PG X (.Name x pos) (upG X.K B [i] (gN i)) :=
  pg_imp (pg_name hN hi hx hf) fun v σ H Q ⟨x, ρ, Hd, G, R, at_, r, h, k⟩ => k _ H Hd _ G (Ex.refl _) (at_.e.set i r) at_.s h only_set
def gNil : DGs := fun xs ρ G R => xs = [] ∧ R ρ G
def gCons (g : DG) (gs : DGs) : DGs := fun xs ρ G R => ∃ y ys, xs = y :: ys ∧ g y ρ G fun ρ' G' => gs ys ρ' G' R
theorem pgsd_nil : PGs X [] (upGs X.K B [] gNil) := pgs_imp pgs_nil fun v σ H Q ⟨xs, ρ, Hd, G, R, at_, r, ⟨ex, h⟩, k⟩ => by
  subst ex
  cases r
  exact ⟨rfl, k _ H Hd _ G (Ex.refl _) at_.e at_.s h ⟨rfl, fun _ _ => rfl⟩⟩
theorem pgsd_cons {g : DG} {gs : DGs} {js ks : List Nat} (h1 : PG X e (upG X.K B js g)) (h2 : PGs X es (upGs X.K B ks gs)) (hs : (assignEach (e :: es) X.env).map (·.2) = assign e X.env :: (assignEach es X.env).map (·.2) := by rfl) : PGs X (e :: es) (upGs X.K B (js ++ ks) (gCons g gs)) :=
  pgs_imp (pgs_cons h1 h2 hs) fun v σ H Q ⟨xs, ρ, Hd, G, R, at_, r, ⟨y, ys, ex, h⟩, k⟩ => by
    subst ex
    cases r with
    | cons a b =>
      exact ⟨_, _, rfl, y, ρ, Hd, G, _, at_, a, h, fun σ' H' Hd' ρ' G' e1 r1 s1 h1 o1 => ⟨ys, ρ', Hd', G', R, ⟨at_.b.trans e1, r1, s1⟩, b.mono e1, h1, fun σ2 H2 Hd2 ρ2 G2 e2 r2 s2 h2 o2 => k σ2 H2 Hd2 ρ2 G2 (e1.trans e2) r2 s2 h2 (o1.trans o2)⟩⟩
def gSeq (n : Nat) (gs : DGs) : DG := fun x ρ G R => ∃ xs, SeqAt G x xs ∧ xs.length = n ∧ gs xs ρ G R
theorem pg_or {t t' : TG} (h : PG X e t) (h' : PG X e t') : PG X e (fun v σ H Q => t v σ H Q ∨ t' v σ H Q) := ⟨fun pins s σ H v u Q I r w => w.elim (h.run pins s σ H v u Q I r) (h'.run pins s σ H v u Q I r)⟩
theorem pgd_seq {k n : Nat} {gs : DGs} {js : List Nat} (hc : X.calm = true) (h : PGs X es (upGs X.K B js gs)) (hn : (assignEach es X.env).length = n := by rfl) (hst : (assignEach es X.env).findIdx? (·.1) = none := by rfl) : PG X (.Tuple es k pos) (upG X.K B js (gSeq n gs)) :=
  pg_imp (pg_or (pg_tup hc h hn hst) (pg_lst hc h hn hst)) fun v σ H Q ⟨x, ρ, Hd, G, R, at_, r, ⟨xs, hs, hl, h⟩, k⟩ => by
    obtain ⟨q, ys, rfl, hq, r2⟩ := hs.sq at_.s r
    have e : ys.length = n := by rw [r2.length, hl]
    have w : upGs X.K B js gs ys σ H Q := ⟨xs, ρ, Hd, G, R, at_, r2, h, k⟩
    rcases hq with hq | hq
    · exact .inr ⟨q, ys, rfl, hq, e, w⟩
    · exact .inl ⟨q, ys, rfl, hq, e, w⟩
def dAsg (de : DE) (g : DG) : DS := fun E ρ G => de ρ G fun x G1 => g x ρ G1 E.nx
theorem asg_imp {K : PySem.W.Frag} {g : DG} {js : List Nat} : ∀ D σ H, upS K B (dAsg de g) D σ H → tAsg (upE K B de) (upG K B js g) D σ H := fun D σ H ⟨ρ, Hd, G, E, at_, h, k⟩ =>
  ⟨ρ, Hd, G, _, at_, h, fun v H1 Hd1 x G1 e1 s1 r1 h1 => ⟨x, ρ, Hd1, G1, _, at_.step e1 s1, r1, h1, (k.nx.mono e1).kg⟩⟩
theorem psd_asg {tg : Expr} {g : DG} {js : List Nat} (he : PE X e (upE X.K B de)) (hg : PG X tg (upG X.K B js g)) (hs : swapsWithSole [tg] e pos.line X.env = pure false := by rfl) (hw : swappedStores [tg] e X.env = pure none := by rfl)
    (h1 : (assignEach [tg] X.env).map (·.2) = [assign tg X.env] := by rfl) : PS X (.Assign [tg] e pos) (upS X.K B (dAsg de g)) := ps_imp (ps_asg he hg hs hw h1) asg_imp
def dSet (i : Nat) (de : DE) : DS := fun E ρ G => de ρ G fun x G1 => E.nx (ρ.set i (some x)) G1
theorem set_imp {K : PySem.W.Frag} {i : Nat} : ∀ D σ H, upS K B (dSet i de) D σ H → tAsg (upE K B de) (gName i) D σ H := fun D σ H ⟨ρ, Hd, G, E, at_, h, k⟩ =>
  ⟨ρ, Hd, G, _, at_, h, fun v H1 Hd1 x G1 e1 s1 r1 h1 => k.nx _ H1 Hd1 _ G1 e1 ((at_.e.mono e1).set i r1) s1 h1⟩
theorem psd_set {i : Nat} {x : Str} {pp : Pos} (hN : X.N.Nodup) (hi : X.N[i]? = some x) (hx : Loc X.env.scope x) (he : PE X e (upE X.K B de)) (hs : swapsWith e (some (.Name x pp)) pos.line X.env = pure false := by rfl)
    (hf : X.fn x = true ∨ X.env.scope.names.lookup x = some .local := by first | exact .inl rfl | exact .inr rfl | assumption) : PS X (.Assign [.Name x pp] e pos) (upS X.K B (dSet i de)) := ps_imp (ps_set hN hi hx he hs hf) set_imp
/-- a, b = x, y -/
def dPar (i j : Nat) (dA : DA) : DS := fun E ρ G => dA ρ G fun xs G1 => ∃ x y, xs = [x, y] ∧ E.nx ((ρ.set i (some x)).set j (some y)) G1
theorem psd_par {i j : Nat} {x y : Str} {px py pt : Pos} {kt k2 : Nat} {pt2 : Pos} (hc : X.calm = true) (hN : X.N.Nodup) (hi : X.N[i]? = some x) (hj : X.N[j]? = some y) (hij : i ≠ j) (hx : X.env.scope.names.lookup x = some .local) (hy : X.env.scope.names.lookup y = some .local)
    (ha : PA X [a, b] (upA X.K B dA)) (hw : swappedStores [.Tuple [.Name x px, .Name y py] kt pt] (.Tuple [a, b] k2 pt2) X.env = pure (some [x, y])) (hs : swapsWithSole [.Tuple [.Name x px, .Name y py] kt pt] (.Tuple [a, b] k2 pt2) pos.line X.env = pure false := by rfl) :
    PS X (.Assign [.Tuple [.Name x px, .Name y py] kt pt] (.Tuple [a, b] k2 pt2) pos) (upS X.K B (dPar i j dA)) := ps_imp (ps_par hc hN hi hj hij hx hy ha hw hs) fun D σ H ⟨ρ, Hd, G, E, at_, h, k⟩ =>
  ⟨ρ, Hd, G, _, at_, h, fun vs H1 Hd1 xs G1 e1 s1 r1 ⟨x, y, ex, h1⟩ => by
    subst ex
    obtain ⟨v, u, rfl, rv, ru⟩ := rpl2 r1
    exact ⟨v, u, rfl, k.nx _ H1 Hd1 _ G1 e1 (((at_.e.mono e1).set i rv).set j ru) s1 h1⟩⟩

/-- o[i] = e, o a list that may change -/
def dSetIx (de dobj di : DE) : DS := fun E ρ G => de ρ G fun x G1 => dobj ρ G1 fun o G2 => di ρ G2 fun i G3 => ∃ q ds k j, o = .ref q ∧ G3 q = some (.lst ds) ∧ i = .int k ∧ ixN ds.length k = some j ∧ E.nx ρ (gup G3 q (.lst (ds.set j x)))
theorem psd_setIx {o i : Expr} {dobj di : DE} {pp : Pos} (he : PE X e (upE X.K B de)) (ho : PE X o (upE X.K B dobj)) (hi : PE X i (upE X.K B di))
    (hs : swapsWithSole [.Subscript o i pp] e pos.line X.env = pure false := by rfl) (hw : swappedStores [.Subscript o i pp] e X.env = pure none := by rfl) (h1 : (assignEach [.Subscript o i pp] X.env).map (·.2) = [assign (.Subscript o i pp) X.env] := by rfl)
    (ha : ∀ v, assign (.Subscript o i pp) X.env v = (do
      let ov ← holding [v] (eval o X.env)
      let iv ← holding [v, ov] (eval i X.env)
      standAt pp
      holding [v, ov, iv] (setItem ov iv v)
      release [v, ov, iv] []) := by intro _; rfl) : PS X (.Assign [.Subscript o i pp] e pos) (upS X.K B (dSetIx de dobj di)) := ps_imp (ps_asg he (pg_sub ho hi set_list ha) hs hw h1) fun D σ H ⟨ρ, Hd, G, E, at_, h, k⟩ =>
  ⟨ρ, Hd, G, _, at_, h, fun v H1 Hd1 x G1 e1 s1 r1 h1 => ⟨ρ, Hd1, G1, _, at_.step e1 s1, h1, fun u H2 Hd2 y G2 e2 s2 r2 h2 => ⟨ρ, Hd2, G2, _, (at_.step e1 s1).step e2 s2, h2, fun w H3 Hd3 z G3 e3 s3 r3 ⟨q, ds, kk, j, ey, hg, ez, hj, h3⟩ => by
    subst ey ez
    cases r2
    cases r3
    obtain ⟨ys, hy, ry⟩ := s3.hold q _ hg
    refine ⟨q, ys, kk, j, rfl, rfl, hy, by rw [ry.length]; exact hj, ?_⟩
    have e123 := (e1.trans e2).trans e3
    exact k.nx _ _ Hd3 ρ _ e123 (at_.e.mono e123) (s3.put (n := .lst (ds.set j x)) hg ⟨_, upd_same, ry.set j (r1.mono (e2.trans e3))⟩) h3⟩⟩⟩

/-! ### while -/
def dWhile (t : DT) (s : DS) : DS := fun E ρ G => ∃ W : Nat → En → Gm → Prop, (∃ m, W m ρ G) ∧ ∀ m ρ G, W m ρ G → t ρ G fun k G1 => if k = true then s { E with nx := fun ρ' G' => ∃ m', m' < m ∧ W m' ρ' G', ct := fun ρ' G' => ∃ m', m' < m ∧ W m' ρ' G', bk := E.nx } ρ G1 else E.nx ρ G1
theorem psd_while {body : List Stmt} (hp : PassesOwn (model X.prog X.w) X.A X.env X.xe) (hc : PT X c (upT X.K B ta)) (hb : PSs X body (upS X.K B s1)) : PS X (.While c body [] pos) (upS X.K B (dWhile ta s1)) := ps_imp (ps_while hp hc hb) fun D σ H ⟨ρ, Hd, G, E, at_, ⟨W, ⟨m, w0⟩, turn⟩, k⟩ => by
  refine ⟨fun m σ H => ∃ ρ Hd' G, At X.K B σ H ρ Hd' G ∧ Ex Hd Hd' ∧ W m ρ G, ⟨m, ρ, Hd, G, at_, Ex.refl _, w0⟩, ?_⟩
  rintro m σ H ⟨ρ, Hd1, G, at1, e0, w⟩
  refine ⟨ρ, Hd1, G, _, at1, turn m ρ G w, fun t H1 Hd2 G1 e1 s1 h1 => ?_⟩
  cases t with
  | false => exact k.nx σ H1 Hd2 ρ G1 (e0.trans e1) (at1.e.mono e1) s1 h1
  | true =>
    refine ⟨fun σ' H' => ∃ m', m' < m ∧ ∃ ρ Hd' G, At X.K B σ' H' ρ Hd' G ∧ Ex Hd Hd' ∧ W m' ρ G, fun σ' H' h => h, ρ, Hd2, G1, _, at1.step e1 s1, h1, ?_⟩
    have again : KN X.K B.f Hd2 (fun ρ' G' => ∃ m', m' < m ∧ W m' ρ' G') (fun σ' H' => ∃ m', m' < m ∧ ∃ ρ Hd' G, At X.K B σ' H' ρ Hd' G ∧ Ex Hd Hd' ∧ W m' ρ G) := fun σ' H' Hd3 ρ' G' e3 r3 s3 ⟨m', l, w'⟩ =>
      ⟨m', l, ρ', Hd3, G', ⟨(at1.b.trans e1).trans e3, r3, s3⟩, (e0.trans e1).trans e3, w'⟩
    exact ⟨again, (k.mono (e0.trans e1)).rt, (k.mono (e0.trans e1)).nx, again⟩

/-! ### what is walked -/
/-- J yields the data xs one behind another, as long as what never changes stands -/
def Walks (K : PySem.W.Frag) (Hd : Hp) (J : It) (xs : List D) : Prop := ∀ (F : Gm) (i : Nat) (H2 Hd2 : Hp) (G2 : Gm), Ex Hd Hd2 → Sim K F Hd2 H2 G2 →
  (∀ d, xs[i]? = some d → J.go i H2 ∧ ∀ v H3, J.yld i H2 v H3 → ∃ Hd3, Ex Hd2 Hd3 ∧ Sim K F Hd3 H3 G2 ∧ Rp K Hd3 v d) ∧ (xs.length ≤ i → J.stop i H2)
abbrev DI := En → Gm → (List D → Gm → Prop) → Prop
def upI (K : PySem.W.Frag) (B : Bs) (di : DI) : TI := fun σ H R => ∃ ρ Hd G S, At K B σ H ρ Hd G ∧ di ρ G S ∧ ∀ J H' Hd' xs G', Ex Hd Hd' → Sim K B.f Hd' H' G' → Walks K Hd' J xs → S xs G' → R J H'
theorem Walks.mono {K : PySem.W.Frag} {Hd Hd' : Hp} {J : It} {xs : List D} (w : Walks K Hd J xs) (e : Ex Hd Hd') : Walks K Hd' J xs := fun F i H2 Hd2 G2 e2 => w F i H2 Hd2 G2 (e.trans e2)
theorem pi_imp {tg iter : Expr} {t t' : TI} (h : PI X tg iter t) (i : ∀ σ H R, t' σ H R → t σ H R) : PI X tg iter t' := ⟨fun pins s σ H R I w => h.run pins s σ H R I (i σ H R w)⟩
/-- a list that never changes -/
theorem walks_lst {K : PySem.W.Frag} {Hd : Hp} {q : Addr} {ys : List V} {xs : List D} (h : SqL K Hd q ys) (r : RpL K Hd ys xs) : Walks K Hd (Itl K q) xs := fun F i H2 Hd2 G2 e s => by
  have hH : SqL K H2 q ys := ex_l (e.trans s.sub) h
  refine ⟨fun d hd => ?_, fun hl => ⟨ys, hH, by rw [r.length]; exact hl⟩⟩
  obtain ⟨v, hv, rv⟩ := r.at hd
  refine ⟨⟨ys, v, hH, hv⟩, fun w H3 ⟨eH, hw⟩ => ?_⟩
  subst eH
  have e2 : v = w := Option.some.inj (hv.symm.trans (hw ys hH))
  subst e2
  exact ⟨Hd2, Ex.refl _, s, rv.mono e⟩
theorem walks_tup {K : PySem.W.Frag} {Hd : Hp} {q : Addr} {ys : List V} {xs : List D} (h : SqT K Hd q ys) (r : RpL K Hd ys xs) : Walks K Hd (Itt K q) xs := fun F i H2 Hd2 G2 e s => by
  have hH : SqT K H2 q ys := ex_t (e.trans s.sub) h
  refine ⟨fun d hd => ?_, fun hl => ⟨ys, hH, by rw [r.length]; exact hl⟩⟩
  obtain ⟨v, hv, rv⟩ := r.at hd
  refine ⟨⟨ys, v, hH, hv⟩, fun w H3 ⟨eH, hw⟩ => ?_⟩
  subst eH
  have e2 : v = w := Option.some.inj (hv.symm.trans (hw ys hH))
  subst e2
  exact ⟨Hd2, Ex.refl _, s, rv.mono e⟩
theorem walks_rng {K : PySem.W.Frag} {Hd : Hp} {lo : Int} {n : Nat} : Walks K Hd (Itr lo n) ((List.range n).map fun i : Nat => D.int (lo + i)) := fun F i H2 Hd2 G2 e s => by
  refine ⟨fun d hd => ?_, fun hl => by
    show n ≤ i
    simpa using hl⟩
  rw [List.getElem?_map] at hd
  by_cases hi : i < n
  · rw [List.getElem?_range hi] at hd
    cases hd
    refine ⟨hi, fun w H3 ⟨eH, hw⟩ => ?_⟩
    subst eH hw
    exact ⟨Hd2, Ex.refl _, s, .int _⟩
  · rw [List.getElem?_eq_none (by simpa using hi)] at hd
    cases hd
/-- a list or a tuple -/
def iSeq (K : PySem.W.Frag) (tl : TE) : TI := fun σ H R => tl σ H fun x H1 => ∃ q, x = .ref q ∧ (((∃ xs, SqL K H1 q xs) ∧ R (Itl K q) H1) ∨ ((∃ xs, SqT K H1 q xs) ∧ R (Itt K q) H1))
theorem pi_seq {tg l : Expr} {tl : TE} (hl : PE X l tl) : PI X tg l (iSeq X.K tl) := by
  refine ⟨fun pins s σ H R I h => ?_⟩
  refine thn (hl.run pins s σ H _ I h) fun v s2 hv => ?_
  obtain ⟨x, H1, I1, rx, q, ex, hx⟩ := hv
  subst ex
  cases rx
  have fp : ∀ b ∈ [s2.heap.objs.size], FpOk X pins H1 b := fun b hb => by
    cases List.mem_singleton.mp hb
    exact I1.fpOk (Nat.le_refl _) (I1.hok.fresh (Nat.le_refl _))
  rcases hx with ⟨⟨xs, hq⟩, w⟩ | ⟨⟨xs, hq⟩, w⟩
  · obtain ⟨its, _, pl, _⟩ := I1.list hq
    refine wpAny_pyIter_list pl.isList ?_
    exact ⟨_, _, _, _, H1, rfl, I1.kept (t' := s2.toks) fun b o e => Heap.get?_push_of_some _ e, turn_list q _, ⟨_, Heap.get?_push_size _ rfl, rfl, rfl⟩, fp, w⟩
  · obtain ⟨its, _, pl, _⟩ := I1.tuple hq
    refine wpAny_pyIter_tuple (show s2.heap.IsTuple q its.toArray from pl) ?_
    exact ⟨_, _, _, _, H1, rfl, I1.kept (t' := s2.toks) fun b o e => Heap.get?_push_of_some _ e, turn_tuple q _, ⟨_, Heap.get?_push_size _ rfl, rfl, rfl⟩, fp, w⟩
/-- what never changes is walked -/
def dISeq (de : DE) : DI := fun ρ G S => de ρ G fun x G1 => ∃ xs, (x = .lst xs ∨ x = .tup xs) ∧ S xs G1
theorem pid_seq {tg : Expr} (he : PE X e (upE X.K B de)) : PI X tg e (upI X.K B (dISeq de)) := pi_imp (pi_seq he) fun σ H R ⟨ρ, Hd, G, S, at_, h, k⟩ =>
  ⟨ρ, Hd, G, _, at_, h, fun v H1 Hd1 x G1 e1 s1 r1 ⟨xs, hx, h1⟩ => by
    rcases hx with rfl | rfl
    · cases r1 with
      | lst q r => exact ⟨_, rfl, .inl ⟨⟨_, ex_l s1.sub q⟩, k _ H1 Hd1 xs G1 e1 s1 (walks_lst q r) h1⟩⟩
    · cases r1 with
      | tup q r => exact ⟨_, rfl, .inr ⟨⟨_, ex_t s1.sub q⟩, k _ H1 Hd1 xs G1 e1 s1 (walks_tup q r) h1⟩⟩⟩
def rngD (lo : Int) (n : Nat) : List D := (List.range n).map fun i : Nat => D.int (lo + i)
def dIRng1 (da : DE) : DI := fun ρ G S => da ρ G fun x G1 => ∃ j, x = .int j ∧ -(2 ^ 62) ≤ j ∧ j < 2 ^ 62 ∧ S (rngD 0 j.toNat) G1
theorem pid_rng1 {tg : Expr} (hg : Gl X "range") (hm : X.mg "range" = none) (ha : PE X a (upE X.K B da)) (hs : starEach [a] X.env = [(false, eval a X.env)] := by rfl) : PI X tg (.Call (.Name "range" p) [a] [] pos) (upI X.K B (dIRng1 da)) :=
  pi_imp (pi_range1 hg hm (pda_cons ha pda_nil hs) hs) fun σ H R ⟨ρ, Hd, G, S, at_, h, k⟩ =>
    ⟨ρ, Hd, G, fun xs G1 => ∃ j, xs = [.int j] ∧ -(2 ^ 62) ≤ j ∧ j < 2 ^ 62 ∧ S (rngD 0 j.toNat) G1, at_, by
      show da ρ G _
      exact cast (congrArg (da ρ G) (funext fun x => funext fun G1 => propext ⟨fun ⟨j, e, r⟩ => ⟨j, by rw [e], r⟩, fun ⟨j, e, r⟩ => ⟨j, by cases e; rfl, r⟩⟩)) h, fun vs H1 Hd1 xs G1 e1 s1 r1 ⟨j, ex, l, u, h1⟩ => by
      subst ex
      obtain ⟨v, rfl, rv⟩ := rpl1 r1
      cases rv
      exact ⟨j, rfl, l, u, k _ H1 Hd1 _ G1 e1 s1 walks_rng h1⟩⟩
def dIRng2 (da db : DE) : DI := fun ρ G S => da ρ G fun x G1 => db ρ G1 fun y G2 => ∃ i j, x = .int i ∧ y = .int j ∧ (-(2 ^ 62) ≤ i ∧ i < 2 ^ 62 ∧ -(2 ^ 62) ≤ j ∧ j < 2 ^ 62) ∧ S (rngD i (j - i).toNat) G2
theorem pid_rng2 {tg : Expr} (hg : Gl X "range") (hm : X.mg "range" = none) (ha : PE X a (upE X.K B da)) (hb : PE X b (upE X.K B db)) (hs : starEach [a, b] X.env = [(false, eval a X.env), (false, eval b X.env)] := by rfl) (hs2 : starEach [b] X.env = [(false, eval b X.env)] := by rfl) :
    PI X tg (.Call (.Name "range" p) [a, b] [] pos) (upI X.K B (dIRng2 da db)) :=
  pi_imp (pi_range2 hg hm (pda_cons ha (pda_cons hb pda_nil hs2) (by rw [hs, hs2])) hs hs2) fun σ H R ⟨ρ, Hd, G, S, at_, h, k⟩ =>
    ⟨ρ, Hd, G, fun xs G1 => ∃ i j, xs = [.int i, .int j] ∧ (-(2 ^ 62) ≤ i ∧ i < 2 ^ 62 ∧ -(2 ^ 62) ≤ j ∧ j < 2 ^ 62) ∧ S (rngD i (j - i).toNat) G1, at_, by
      show da ρ G fun x G1 => db ρ G1 _
      refine cast (congrArg (da ρ G) (funext fun x => funext fun G1 => congrArg (db ρ G1) (funext fun y => funext fun G2 => propext ⟨fun ⟨i, j, e, e2, r⟩ => ⟨i, j, by rw [e, e2], r⟩, fun ⟨i, j, e, r⟩ => ?_⟩))) h
      injection e with e e2
      injection e2 with e2 _
      exact ⟨i, j, e, e2, r⟩, fun vs H1 Hd1 xs G1 e1 s1 r1 ⟨i, j, ex, bd, h1⟩ => by
      subst ex
      obtain ⟨v, u, rfl, rv, ru⟩ := rpl2 r1
      cases rv
      cases ru
      exact ⟨i, j, rfl, bd, k _ H1 Hd1 _ G1 e1 s1 walks_rng h1⟩⟩

/-! ### for -/
/-- the body turn by turn -/
def forL (g : DG) (s : DS) (E : DEnds) : List D → En → Gm → Prop
  | [] => E.nx
  | x :: xs => fun ρ G => g x ρ G fun ρ1 G1 => s { E with nx := forL g s E xs, ct := forL g s E xs, bk := E.nx } ρ1 G1
def dFor (di : DI) (g : DG) (s : DS) : DS := fun E ρ G => di ρ G fun xs G1 => forL g s E xs ρ G1
theorem psd_for {tg iter : Expr} {body : List Stmt} {di : DI} {g : DG} {sb : DS} {js : List Nat} (hp : PassesOwn (model X.prog X.w) X.A X.env X.xe) (hc : X.calm = true) (hi : PI X tg iter (upI X.K B di)) (hg : PG X tg (upG X.K B js g)) (hb : PSs X body (upS X.K B sb))
    (hs : ∀ x, foldedSetIterable iter X.env x = pure x := by intro _; rfl) : PS X (.For tg iter body [] pos) (upS X.K B (dFor di g sb)) := ps_imp (ps_for hp hc hi hg hb hs) fun D σ H ⟨ρ, Hd, G, E, at_, h, k⟩ => by
  refine ⟨ρ, Hd, G, _, at_, h, fun J H1 Hd1 xs G1 e1 s1 w h1 => ?_⟩
  refine ⟨fun i m σ H => m = xs.length - i ∧ i ≤ xs.length ∧ ∃ ρ Hd2 G2, At X.K B σ H ρ Hd2 G2 ∧ Ex Hd1 Hd2 ∧ forL g sb E (xs.drop i) ρ G2, ⟨_, rfl, Nat.zero_le _, ρ, Hd1, G1, at_.step e1 s1, Ex.refl _, h1⟩, ?_⟩
  rintro i m σ2 H2 ⟨rfl, hi2, ρ2, Hd2, G2, at2, e2, h2⟩
  obtain ⟨w1, w2⟩ := w B.f i H2 Hd2 G2 e2 at2.s
  by_cases hl : i < xs.length
  · rw [List.drop_eq_getElem_cons hl] at h2
    obtain ⟨go, yl⟩ := w1 xs[i] (by simp [hl])
    let N : L2.St → Hp → Prop := fun σ' H' => ∃ ρ Hd3 G3, At X.K B σ' H' ρ Hd3 G3 ∧ Ex Hd1 Hd3 ∧ forL g sb E (xs.drop (i + 1)) ρ G3
    refine .inr ⟨go, N, fun σ' H' h' => ⟨xs.length - (i + 1), by omega, rfl, hl, h'⟩, fun v H3 y => ?_⟩
    obtain ⟨Hd3, e3, s3, r3⟩ := yl v H3 y
    have again : ∀ {Hd4 : Hp}, Ex Hd1 Hd4 → Ex B.b Hd4 → KN X.K B.f Hd4 (forL g sb E (xs.drop (i + 1))) N := fun {Hd4} f1 f2 σ' H' Hd' ρ' G' e' r' s' h' => ⟨ρ', Hd', G', ⟨f2.trans e', r', s'⟩, f1.trans e', h'⟩
    refine ⟨xs[i], ρ2, Hd3, G2, _, at2.step e3 s3, r3, h2, fun σ' H' Hd' ρ' G' e' r' s' h' _ => ?_⟩
    have eB : Ex B.b Hd' := ((at2.b.trans e3).trans e')
    have e1' : Ex Hd1 Hd' := (e2.trans e3).trans e'
    have k' := k.mono (e1.trans e1')
    exact ⟨ρ', Hd', G', _, ⟨eB, r', s'⟩, h', ⟨again e1' eB, k'.rt, k'.nx, again e1' eB⟩⟩
  · have e0 : xs.drop i = [] := List.drop_eq_nil_of_le (by omega)
    rw [e0] at h2
    exact .inl ⟨w2 (by omega), k.nx σ2 H2 Hd2 ρ2 G2 (e1.trans e2) at2.e at2.s h2⟩
end
end DL

/-! DL6: comprehensions. -/
namespace DL
open PySem PySem.Spec PyProof.Rows L2 Evl

theorem wipe_in {σ : L2.St} {j : Nat} : ∀ {vs : List Nat}, j ∈ vs → (L2.wipe σ vs)[j]? = if j < σ.length then some none else none
  | [], h => nomatch h
  | v :: vs, h => by
    unfold L2.wipe
    by_cases e : v = j
    · subst e
      by_cases l : v < σ.length
      · rw [List.getElem?_set_self (by rw [wipe_length]; exact l), if_pos l]
      · rw [if_neg l, List.getElem?_eq_none (by rw [List.length_set, wipe_length]; omega)]
    · rw [List.getElem?_set_ne e]
      rcases List.mem_cons.mp h with z | z
      · exact absurd z.symm e
      · exact wipe_in z
theorem wipe_only {σ σ' : L2.St} {js vs : List Nat} (o : OnlyAt js (L2.wipe σ vs) σ') (h : ∀ j ∈ js, j ∈ vs) : L2.wipe σ' vs = L2.wipe σ vs := by
  have hl : σ'.length = σ.length := by rw [o.1, wipe_length]
  refine List.ext_getElem? fun j => ?_
  by_cases hj : j ∈ vs
  · rw [wipe_in hj, wipe_in hj, hl]
  · rw [wipe_out hj, o.2 j fun z => hj (h j z)]

section
variable {X : Cx}
theorem pe_ex {ι : Type} {e : Expr} {t : ι → TE} (h : ∀ i, PE X e (t i)) : PE X e (fun σ H Q => ∃ i, t i σ H Q) := ⟨fun pins s σ H Q I ⟨i, w⟩ => (h i).run pins s σ H Q I w⟩
theorem pg_ex {ι : Type} {e : Expr} {t : ι → TG} (h : ∀ i, PG X e (t i)) : PG X e (fun v σ H Q => ∃ i, t i v σ H Q) := ⟨fun pins s σ H v u Q I r ⟨i, w⟩ => (h i).run pins s σ H v u Q I r w⟩
theorem pts_ex {ι : Type} {es : List Expr} {t : ι → TT} (h : ∀ i, PTs X es (t i)) : PTs X es (fun σ H Q => ∃ i, t i σ H Q) := ⟨fun pins s σ H Q I ⟨i, w⟩ => (h i).run pins s σ H Q I w⟩
end
theorem Sim.putF {K : PySem.W.Frag} {F : Gm} {Hd H : Hp} {G : Gm} {p : Addr} {m n : Mt} {o : HO} (S : Sim K (gup F p m) Hd H G) (hm : HoldM K Hd (upd H p o) p n) : Sim K (gup F p n) Hd (upd H p o) G := by
  have hd : Hd p = none := S.offF p m gup_same
  have hg : G p = none := S.apart p m gup_same
  refine ⟨ex_put S.sub hd, S.off, fun a k e => (S.hold a k e).other (ne_g e hg), fun a k e => ?_, fun a k e => ?_, fun a k e => ?_⟩
  · by_cases q : a = p
    · rw [q]
      exact hd
    · exact S.offF a k (by rw [gup_ne q] at e ⊢; exact e)
  · by_cases q : a = p
    · subst q
      rw [gup_same] at e
      cases e
      exact hm
    · exact (S.holdF a k (by rw [gup_ne q] at e ⊢; exact e)).other q
  · by_cases q : a = p
    · rw [q]
      exact hg
    · exact S.apart a k (by rw [gup_ne q] at e ⊢; exact e)

section
variable {X : Cx} {B : Bs} {pos p : Pos} {a b c e : Expr} {es : List Expr} {da db dc de : DE} {dA : DA} {ta tb : DT}
/-- the items one behind another: acc was made so far -/
def cmpL (ρ0 : En) (g : DG) (t : DT) (de : DE) : List D → List D → Gm → (List D → Gm → Prop) → Prop
  | [], acc, G, S => S acc G
  | x :: xs, acc, G, S => g x ρ0 G fun ρ1 G1 => t ρ1 G1 fun k G2 => if k = true then de ρ1 G2 fun y G3 => acc.length < sizeLine ∧ cmpL ρ0 g t de xs (acc ++ [y]) G3 S else cmpL ρ0 g t de xs acc G2 S
def dCmp (di : DI) (g : DG) (t : DT) (de : DE) (vs : List Nat) : DE := fun ρ G R => di ρ G fun xs G1 => cmpL (wipeD ρ vs) g t de xs [] G1 fun acc G2 => R (.lst acc) G2
def dYes : DT := fun _ G R => R true G
theorem ptsd_nil : PTs X [] (upT X.K B dYes) := ⟨fun pins s σ H Q I ⟨ρ, Hd, G, R, at_, h, k⟩ => pts_nil.run pins s σ H Q I (k true H Hd G (Ex.refl _) at_.s h)⟩
theorem ptsd_one (h : PT X c (upT X.K B ta)) : PTs X [c] (upT X.K B ta) := pts_one h
theorem lc_imp {K : PySem.W.Frag} {di : DI} {g : DG} {t : DT} {de : DE} {js vs : List Nat} (hj : ∀ j ∈ js, j ∈ vs) : ∀ σ H Q, upE K B (dCmp di g t de vs) σ H Q →
    tLc (upI K B di) (fun v σ H Q => ∃ B', upG K B' js g v σ H Q) (fun σ H Q => ∃ B', upT K B' t σ H Q) (fun σ H Q => ∃ B', upE K B' de σ H Q) vs σ H Q := fun σ H Q ⟨ρ, Hd, G, R, at_, h, k⟩ => by
  refine ⟨ρ, Hd, G, _, at_, h, fun J H1 Hd1 xs G1 e1 s1 w h1 Dl hD => ?_⟩
  have hF : B.f Dl = none := s1.ffree hD
  have ere : RpE K Hd1 (L2.wipe σ vs) (wipeD ρ vs) := (at_.e.mono e1).wipe vs
  refine ⟨fun i m H2 => m = xs.length - i ∧ i ≤ xs.length ∧ ∃ Hd2 G2 acc, Ex Hd1 Hd2 ∧ Sim K (gup B.f Dl (.lst acc)) Hd2 H2 G2 ∧ cmpL (wipeD ρ vs) g t de (xs.drop i) acc G2 fun acc G2 => R (.lst acc) G2,
    ⟨_, rfl, Nat.zero_le _, Hd1, G1, [], Ex.refl _, s1.hide (s1.free hD) (ex_put s1.sub (s1.free hD)) (s1.gfree hD) ⟨[], upd_same, .nil⟩, h1⟩, ?_⟩
  rintro i m H2 ⟨rfl, hi2, Hd2, G2, acc, e2, s2, h2⟩
  obtain ⟨w1, w2⟩ := w _ i H2 Hd2 G2 e2 s2
  by_cases hl : i < xs.length
  · rw [List.drop_eq_getElem_cons hl] at h2
    obtain ⟨go, yl⟩ := w1 xs[i] (by simp [hl])
    let N : Hp → Prop := fun H' => ∃ Hd2 G2 acc, Ex Hd1 Hd2 ∧ Sim K (gup B.f Dl (.lst acc)) Hd2 H' G2 ∧ cmpL (wipeD ρ vs) g t de (xs.drop (i + 1)) acc G2 fun acc G2 => R (.lst acc) G2
    refine .inr ⟨go, N, fun H' h' => ⟨xs.length - (i + 1), by omega, rfl, hl, h'⟩, fun v H3 y => ?_⟩
    obtain ⟨Hd3, e3, s3, r3⟩ := yl v H3 y
    have at3 : At K ⟨Hd3, gup B.f Dl (.lst acc)⟩ (L2.wipe σ vs) H3 (wipeD ρ vs) Hd3 G2 := ⟨Ex.refl _, ere.mono (e2.trans e3), s3⟩
    refine ⟨⟨Hd3, gup B.f Dl (.lst acc)⟩, xs[i], wipeD ρ vs, Hd3, G2, _, at3, r3, h2, fun σ4 H4 Hd4 ρ4 G4 e4 r4 s4 h4 o4 => ⟨wipe_only o4 hj, ?_⟩⟩
    refine ⟨⟨Hd3, gup B.f Dl (.lst acc)⟩, ρ4, Hd4, G4, _, ⟨e4, r4, s4⟩, h4, fun kk H5 Hd5 G5 e5 s5 h5 => ?_⟩
    cases kk with
    | false =>
      show N H5
      exact ⟨Hd5, G5, acc, ((e2.trans e3).trans e4).trans e5, s5, h5⟩
    | true =>
      refine ⟨⟨Hd3, gup B.f Dl (.lst acc)⟩, ρ4, Hd5, G5, _, ⟨e4.trans e5, r4.mono e5, s5⟩, h5, fun u H6 Hd6 y6 G6 e6 s6 r6 ⟨hz, h6⟩ => ?_⟩
      obtain ⟨ys, hy, ry⟩ := s6.holdF Dl (.lst acc) gup_same
      refine ⟨ys, hy, by rw [ry.length]; exact hz, Hd6, G6, acc ++ [y6], (((e2.trans e3).trans e4).trans e5).trans e6, s6.putF ⟨_, upd_same, ry.app (.cons r6 .nil)⟩, h6⟩
  · have e0 : xs.drop i = [] := List.drop_eq_nil_of_le (by omega)
    rw [e0] at h2
    obtain ⟨ys, hy, ry⟩ := s2.holdF Dl (.lst acc) gup_same
    have hd : Hd2 Dl = none := s2.offF Dl _ gup_same
    have ee : Ex Hd2 (upd Hd2 Dl (.lst ys)) := Ex.new hd
    exact .inl ⟨w2 (by omega), k (.ref Dl) H2 _ (.lst acc) G2 ((e1.trans e2).trans ee) (s2.bare hy hF) (.lst sq_new (ry.mono ee)) h2⟩
theorem pd_lc {elt tg iter : Expr} {ifs : List Expr} {scope : Scope} {own : List (Str × Nat)} {di : DI} {g : DG} {t : DT} {js : List Nat} (hc : X.calm = true) (hN : X.N.Nodup) (hi : PI X tg iter (upI X.K B di)) (ok : BlkOk X.N X.env.scope scope own) (hj : ∀ j ∈ js, j ∈ own.map (·.2))
    (hg : ∀ (B : Bs) (s : Shared) (H : Hp) (C : Addr) (cl : List (Str × Addr)) (fp : List Addr), PG (X.blk s H scope (compEnvC scope cl C X.env) fp) tg (upG X.K B js g)) (ht : ∀ (B : Bs) (s : Shared) (H : Hp) (C : Addr) (cl : List (Str × Addr)) (fp : List Addr), PTs (X.blk s H scope (compEnvC scope cl C X.env) fp) ifs (upT X.K B t))
    (he : ∀ (B : Bs) (s : Shared) (H : Hp) (C : Addr) (cl : List (Str × Addr)) (fp : List Addr), PE (X.blk s H scope (compEnvC scope cl C X.env) fp) elt (upE X.K B de)) (hs : ∀ x, foldedSetIterable iter X.env x = pure x := by intro _; rfl) :
    PE X (.ListComp elt [⟨tg, iter, ifs, 0⟩] scope pos) (upE X.K B (dCmp di g t de (own.map (·.2)))) :=
  pe_imp (pe_lc hc hN hi ok (fun s H C cl fp => pg_ex fun B => hg B s H C cl fp) (fun s H C cl fp => pts_ex fun B => ht B s H C cl fp) (fun s H C cl fp => pe_ex fun B => he B s H C cl fp) hs) (lc_imp hj)
theorem psd_setLc {i : Nat} {y : Str} {py spos : Pos} {elt tg iter : Expr} {ifs : List Expr} {scope : Scope} {own : List (Str × Nat)} {di : DI} {g : DG} {t : DT} {js : List Nat} (hc : X.calm = true) (hN : X.N.Nodup) (hy : X.N[i]? = some y) (hyl : X.env.scope.names.lookup y = some .local)
    (hsw : swapsWith (.ListComp elt [⟨tg, iter, ifs, 0⟩] scope pos) (some (.Name y py)) spos.line X.env = pure true) (hi : PI X tg iter (upI X.K B di)) (ok : BlkOk X.N X.env.scope scope own) (hj : ∀ j ∈ js, j ∈ own.map (·.2))
    (hg : ∀ (B : Bs) (s : Shared) (H : Hp) (C : Addr) (cl : List (Str × Addr)) (fp : List Addr), PG (X.blk s H scope (compEnvC scope cl C X.env) fp) tg (upG X.K B js g)) (ht : ∀ (B : Bs) (s : Shared) (H : Hp) (C : Addr) (cl : List (Str × Addr)) (fp : List Addr), PTs (X.blk s H scope (compEnvC scope cl C X.env) fp) ifs (upT X.K B t))
    (he : ∀ (B : Bs) (s : Shared) (H : Hp) (C : Addr) (cl : List (Str × Addr)) (fp : List Addr), PE (X.blk s H scope (compEnvC scope cl C X.env) fp) elt (upE X.K B de)) (hs : ∀ x, foldedSetIterable iter X.env x = pure x := by intro _; rfl) :
    PS X (.Assign [.Name y py] (.ListComp elt [⟨tg, iter, ifs, 0⟩] scope pos) spos) (upS X.K B (dSet i (dCmp di g t de (own.map (·.2))))) :=
  ps_imp (ps_setLc hc hN hy hyl hsw hi ok (fun s H C cl fp => pg_ex fun B => hg B s H C cl fp) (fun s H C cl fp => pts_ex fun B => ht B s H C cl fp) (fun s H C cl fp => pe_ex fun B => he B s H C cl fp) hs) fun D σ H h => lc_imp hj σ H _ (set_imp D σ H h)
end
end DL

/-! DL7: defs, their promises over data, calls; the law's call. -/
namespace DL
open PySem PySem.Spec PyProof.Rows L2 Evl

/-! ### a def that keeps a promise where no repr is under way -/
structure FnG (P : Program) (w : World) (K : PySem.W.Frag) (mg : Str → Option Value) (base : Heap) (k : Nat) (f : Addr) (fd : FuncData) (ps : List Str) (sp : Sp) : Prop where
  len : ∀ vs H Q E, sp vs H Q E → vs.length = ps.length
  run : ∀ (A : Around) (outer : List Env) (s : Shared) (H : Hp) (args : Args) (us : List Value) (vs : List V) (Q : VK) (E : XK), Room k A → A.guards = some [] → Env0 P w K mg base A outer s H → BindsTo s fd args (ps.zip us) → Vals vs us →
    sp vs H Q E → codeAny (model P w) A (.call (.ref f) args) (CR (L2.CX P w) outer P w H s Q E) s
section
variable {P : Program} {w : World} {K : PySem.W.Frag} {mg : Str → Option Value} {base : Heap}
theorem FnG.mono {j k : Nat} {f : Addr} {fd : FuncData} {ps : List Str} {sp : Sp} (F : FnG P w K mg base j f fd ps sp) (h : j ≤ k) : FnG P w K mg base k f fd ps sp :=
  ⟨F.len, fun A outer s H args us vs Q E r => F.run A outer s H args us vs Q E (r.mono h)⟩
theorem guards_in {A : Around} {env : Env} (h : A.guards = some []) : (A.deeper env).guards = some [] := h
/-- by its body -/
theorem fng_of {x qual : Str} {params : Arguments} {body : List Stmt} {scope : Scope} {dvs : List V} {kws : List (Str × V)} {f : Addr} {fd : FuncData} {N ps : List Str} {k : Nat} {sp : Sp} (F : FunD K x qual params body scope dvs kws f fd) (S : FnScope N ps scope)
    (len : ∀ vs H Q E, sp vs H Q E → vs.length = ps.length)
    (hbody : ∀ (cdv : Value) (A : Around) (outer : List Env) (s : Shared) (H : Hp) (vs : List V) (Q : VK) (E : XK), Room k (A.deeper (envOfC qual scope s.heap.objs.size f cdv)) → (A.deeper (envOfC qual scope s.heap.objs.size f cdv)).guards = some [] → sp vs H Q E →
      ∃ t, PSs (cxOf (L2.CX P w) P w K mg base N qual scope f cdv A outer s H E) body t ∧ t { nx := fun _ H' => Q .non H', rt := Q } (start N vs) H) : FnG P w K mg base (k + 1) f fd ps sp := by
  obtain ⟨oc, od, dV, kV, doc, pm, an, cdv, ct, osl, rfl, lk, hcd, _, _⟩ := F.ex
  refine ⟨len, fun A outer s H args us vs Q E room hgd e0 hb hv hs => ?_⟩
  have keepB : ∀ b o, base.get? b = some o → s.heap.get? b = some o := fun b o e => (e0.bs b o e).1
  have hK : K.In s.heap := e0.mod.kin.keeps keepB
  refine codeAny_call_function room.depth (hK _ _ lk) rfl S.co S.gen rfl (PySem.W.codeRec_of hK hcd) (hb _ _ _ _ ?_)
  refine wpAny_newFunctionEnv_cells S.kind (fun y hy => ?_) fun env henv s1 hx => ?_
  · obtain ⟨n, u⟩ := y
    rcases S.par n (List.of_mem_zip hy).1 with q | q
    · exact .inl q
    · exact .inr ⟨q, PySem.W.cellsFrom_some _ _ _ (.inl q)⟩
  · subst henv
    obtain ⟨t, ht, hq⟩ := hbody cdv A outer s H vs Q E (room.deeper _) (guards_in hgd) hs
    have I := inv_start (CX := L2.CX P w) (E := E) (w := w) S room.hd e0 (len _ _ _ _ hs) hv hx
    refine ⟨(e0.mod.nolimit.keeps keepB).keeps hx.toInCall.keep, codeAny_func (wpAny_mono (ht.run [] s1 (start N vs) H _ I hq) (fun fl s2 h2 => ?_) fun _ _ h2 => h2)⟩
    cases fl with
    | next =>
      obtain ⟨σ', H', J, q⟩ := h2
      exact ⟨.non, H', J.os, J.bare, J.base, J.hok, rfl, q⟩
    | ret u =>
      obtain ⟨v, σ', H', J, rv, q⟩ := h2
      exact ⟨v, H', J.os, J.bare, J.base, J.hok, rv, q⟩
    | brk =>
      obtain ⟨_, _, _, q⟩ := h2
      exact q.elim
    | cont =>
      obtain ⟨_, _, _, q⟩ := h2
      exact q.elim
end

/-! ### promises over data -/
/-- what is raised: the class, its fields -/
abbrev XD := Addr → List Str → List D → Gm → Prop
abbrev X0 : XD := fun _ _ _ _ => False
abbrev DSp := List D → Gm → KD → XD → Prop
def KX (K : PySem.W.Frag) (F : Gm) (Hd : Hp) (RX : XD) (E : XK) : Prop := ∀ C d H' Hd' ns vs xs G', Ex Hd Hd' → Sim K F Hd' H' G' → H' d = some (.xd (List.zip ns vs)) → ns.length = vs.length → RpL K Hd' vs xs → RX C ns xs G' → E (.ref C) (some d) H'
/-- over any store of others -/
def spU (K : PySem.W.Frag) (p : DSp) : Sp := fun vs H Q E => ∃ xs F Hd G R RX, RpL K Hd vs xs ∧ Sim K F Hd H G ∧ p xs G R RX ∧ KE K F Hd R Q ∧ KX K F Hd RX E
theorem KX.none {K : PySem.W.Frag} {F : Gm} {Hd : Hp} {E : XK} : KX K F Hd X0 E := fun _ _ _ _ _ _ _ _ _ _ _ _ _ h => h.elim
theorem KX.mono {K : PySem.W.Frag} {F : Gm} {Hd Hd' : Hp} {RX : XD} {E : XK} (k : KX K F Hd RX E) (e : Ex Hd Hd') : KX K F Hd' RX E := fun C d H' Hd2 ns vs xs G' e2 => k C d H' Hd2 ns vs xs G' (e.trans e2)

/-- a def of the top, what it promises -/
structure Kn (P : Program) (w : World) (K : PySem.W.Frag) (mg : Str → Option Value) (base : Heap) (k : Nat) (x : Str) (st : Stmt) (ps : List Str) (p : DSp) : Prop where
  g : mg x = some (.ref (He.ga K x))
  fn : ∃ fd, FunD K x x (defArgs st) (defBody st) (defScope st) [] [] (He.ga K x) fd ∧ FnG P w K mg base k (He.ga K x) fd ps (spU K p)
section
variable {P : Program} {w : World} {K : PySem.W.Frag} {mg : Str → Option Value} {base : Heap}
theorem Kn.mono {j k : Nat} {x : Str} {st : Stmt} {ps : List Str} {p : DSp} (h : Kn P w K mg base j x st ps p) (l : j ≤ k) : Kn P w K mg base k x st ps p :=
  ⟨h.g, let ⟨fd, a, b⟩ := h.fn; ⟨fd, a, b.mono l⟩⟩
/-- by its body's reading -/
theorem kn_of {x : Str} {st : Stmt} {N ps : List Str} {k : Nat} {p : DSp} (g : mg x = some (.ref (He.ga K x))) (F : ∃ fd, FunD K x x (defArgs st) (defBody st) (defScope st) [] [] (He.ga K x) fd) (S : FnScope N ps (defScope st)) (len : ∀ xs G R RX, p xs G R RX → xs.length = ps.length)
    (hbody : ∀ (cdv : Value) (A : Around) (outer : List Env) (s : Shared) (H : Hp) (E : XK) (B : Bs) (RX : XD), Room k (A.deeper (envOfC x (defScope st) s.heap.objs.size (He.ga K x) cdv)) → (A.deeper (envOfC x (defScope st) s.heap.objs.size (He.ga K x) cdv)).guards = some [] → KX K B.f B.b RX E →
      ∃ t : DS, PSs (cxOf (L2.CX P w) P w K mg base N x (defScope st) (He.ga K x) cdv A outer s H E) (defBody st) (upS K B t) ∧ ∀ xs G R, p xs G R RX → t { nx := fun _ G => R .non G, rt := R } (xs.map some ++ List.replicate (N.length - xs.length) none) G) :
    Kn P w K mg base (k + 1) x st ps p := by
  obtain ⟨fd, F⟩ := F
  refine ⟨g, fd, F, fng_of F S (fun vs H Q E h => ?_) fun cdv A outer s H vs Q E hr hg h => ?_⟩
  · obtain ⟨xs, _, _, G, R, RX, r, _, hp, _⟩ := h
    rw [r.length]
    exact len xs G R RX hp
  · obtain ⟨xs, F, Hd, G, R, RX, r, sm, hp, ke, kx⟩ := h
    obtain ⟨t, ht, h2⟩ := hbody cdv A outer s H E ⟨Hd, F⟩ RX hr hg kx
    refine ⟨_, ht, _, Hd, G, _, ⟨Ex.refl _, RpE.start r, sm⟩, h2 xs G R hp, ?_⟩
    exact ⟨fun σ' H' Hd' ρ' G' e _ s h => ke .non H' Hd' .non G' e s .non h, ke, fun _ _ _ _ _ _ _ _ h => h.elim, fun _ _ _ _ _ _ _ _ h => h.elim⟩
end

section
variable {X : Cx} {B : Bs} {pos p : Pos} {e : Expr} {es : List Expr} {dA : DA}
/-! ### calls -/
theorem run_fng {k : Nat} {f : Addr} {fd : FuncData} {ps : List Str} {sp : Sp} {E : XK} {pins : List (Addr × Obj)} {σ : L2.St} {H : Hp} {s : Shared} {Q : VK} {args : Args} {us : List Value} {vs : List V} (F : FnG X.prog X.w X.K X.mg X.base k f fd ps sp) (hr : Room k X.A) (hgd : X.A.guards = some [])
    (hx : Passes (L2.CX X.prog X.w) X E) (I : Inv X pins σ H s) (hb : BindsTo s fd args (ps.zip us)) (r : Vals vs us) (h : sp vs H Q E) : codeAny (model X.prog X.w) X.A (.call (.ref f) args) (fun r s' => match r with | .ok (.ret u) => EP X pins σ Q u s' | .ok _ => False | .error e => X.xe e s') s := by
  refine codeAny_mono (F.run X.A X.stack s H args us vs Q E hr hgd I.env0 hb r h) fun r s' hq => ?_
  cases r with
  | error e => exact hx pins σ H s e s' I hq
  | ok fl =>
    cases fl with
    | ret u => exact I.after hq
    | next => exact hq.elim
    | brk => exact hq.elim
    | cont => exact hq.elim
/-- a promise at a call: RX, what is wanted of what is raised -/
def dCall (q : DSp) (RX : XD) (dA : DA) : DE := fun ρ G R => dA ρ G fun xs G1 => q xs G1 R RX
theorem call_imp {K : PySem.W.Frag} {q : DSp} {RX : XD} {E : XK} (hx : ∀ Hd, Ex B.b Hd → KX K B.f Hd RX E) : ∀ σ H Q, upE K B (dCall q RX dA) σ H Q → tCall (spU K q) [] E (upA K B dA) σ H Q := fun σ H Q ⟨ρ, Hd, G, R, at_, h, k⟩ =>
  ⟨ρ, Hd, G, _, at_, h, fun vs H1 Hd1 xs G1 e1 s1 r1 h1 => ⟨xs, B.f, Hd1, G1, R, RX, by rw [List.append_nil]; exact r1, s1, h1, k.mono e1, hx Hd1 (at_.b.trans e1)⟩⟩
/-- f(e, ..) by place; hb: how its parameters are bound -/
theorem pe_callG {k : Nat} {f : Addr} {fd : FuncData} {ps : List Str} {sp : Sp} {E : XK} {x : Str} {t : TA} (F : FnG X.prog X.w X.K X.mg X.base k f fd ps sp) (hr : Room k X.A) (hgd : X.A.guards = some []) (hg : Gl X x) (hm : X.mg x = some (.ref f)) (hk : PySem.W.keepIn X.K (.ref f) = true) (hb : Binds X.K fd ps [])
    (hx : Passes (L2.CX X.prog X.w) X E) (ha : PA X (e :: es) t) (hdb : (x == ("__debug__" : Str)) = false := by decide) (he : starEach (e :: es) X.env = (false, eval e X.env) :: starEach es X.env := by rfl) (hpl : (backTo pos (starEach es X.env)).any (·.1) = false := by rfl) :
    PE X (.Call (.Name x p) (e :: es) [] pos) (tCall sp [] E t) := ⟨fun pins s σ H Q I h => by
  refine wpAny_Call_Name_kw (ld_glob I hg hm (PySem.W.callWith_K (h₀ := X.base) I.ok.mod.kin hk (thn (ha.run pos pins s σ H _ I h) fun us s1 hh => ?_) he hpl) hdb)
  obtain ⟨vs, H1, I1, r, q⟩ := hh
  rw [List.append_nil] at q
  have hl : us.length = ps.length := by rw [← r.length]; exact F.len _ _ _ _ q
  have hb1 := hb s1 us I1.kIn (by rw [List.append_nil]; exact hl)
  rw [List.append_nil] at hb1
  refine ⟨I1.kIn, wpAny_call (codeAny_mono (run_fng F hr hgd hx I1 hb1 r q) fun r s2 hq => ?_)⟩
  cases r with
  | error e => exact hq
  | ok fl => cases fl <;> first | exact hq | exact hq.elim⟩
theorem pd_call {k : Nat} {x : Str} {st : Stmt} {ps : List Str} {q : DSp} {RX : XD} {E : XK} (h : Kn X.prog X.w X.K X.mg X.base k x st ps q) (hr : Room k X.A) (hgd : X.A.guards = some []) (hg : Gl X x) (hx : Passes (L2.CX X.prog X.w) X E) (kx : ∀ Hd, Ex B.b Hd → KX X.K B.f Hd RX E)
    (hb : ∀ (kV doc pm : Value) (an : Option Addr) (cdv ct : Value) (us : List Value), us.length = ps.length → bindArgs (PySem.W.fnOf x x (defArgs st) (defBody st) (defScope st) .none kV doc pm an cdv ct) ⟨us, []⟩ = pure (ps.zip us))
    (ha : PA X (e :: es) (upA X.K B dA)) (hdb : (x == ("__debug__" : Str)) = false := by decide) (he : starEach (e :: es) X.env = (false, eval e X.env) :: starEach es X.env := by rfl) (hpl : (backTo pos (starEach es X.env)).any (·.1) = false := by rfl) :
    PE X (.Call (.Name x p) (e :: es) [] pos) (upE X.K B (dCall q RX dA)) := by
  obtain ⟨fd, F, G⟩ := h.fn
  exact pe_imp (pe_callG G hr hgd hg h.g F.kp (F.bindsN hb) hx ha hdb he hpl) (call_imp kx)
/-- keywords alone: ks their names as they stand, g puts their values in the parameters' order -/
theorem pkd_cons {nm : Option Str} {kpos : Pos} {kws : List Keyword} {de : DE} {dr : DA} (ha : PE X e (upE X.K B de)) (hr : PK X kws (upA X.K B dr)) (hk : ∀ {t : TA}, PK X kws t → PK X (⟨nm, e, kpos⟩ :: kws) (tCons (upE X.K B de) t)) : PK X (⟨nm, e, kpos⟩ :: kws) (upA X.K B (dCons de dr)) :=
  ⟨fun pos pins s σ H Q I ⟨ρ, Hd, G, R, at_, h, k⟩ => (hk hr).run pos pins s σ H Q I
    ⟨ρ, Hd, G, _, at_, h, fun v H1 Hd1 x G1 e1 s1 r1 h1 => ⟨ρ, Hd1, G1, _, at_.step e1 s1, h1, fun vs H2 Hd2 xs G2 e2 s2 r2 h2 => k _ H2 Hd2 _ G2 (e1.trans e2) s2 (.cons (r1.mono e2) r2) h2⟩⟩⟩
theorem pkd_nil : PK X [] (upA X.K B dNil) := ⟨fun pos pins s σ H Q I ⟨ρ, Hd, G, R, at_, h, k⟩ => pk_nil.run pos pins s σ H Q I (k [] H Hd [] G (Ex.refl _) at_.s .nil h)⟩
/-- a reordering of lists, of any kind of things -/
structure Ord where
  go : {α : Type} → List α → List α
  rel : ∀ {α β : Type} (R : α → β → Prop) (xs : List α) (ys : List β), Paired R xs ys → Paired R (go xs) (go ys)
def ordOf (pm : List Nat) : Ord where
  go := fun l => if l.length = pm.length then pm.filterMap (fun i => l[i]?) else l
  rel := fun {α β} R xs ys h => by
    have hl : xs.length = ys.length := Paired.length h
    have at_ : ∀ {xs : List α} {ys : List β}, Paired R xs ys → ∀ i : Nat, (xs[i]? = none ∧ ys[i]? = none) ∨ ∃ x y, xs[i]? = some x ∧ ys[i]? = some y ∧ R x y := fun {xs ys} h => by
      induction h with
      | nil => exact fun i => .inl ⟨rfl, rfl⟩
      | cons a _ ih => exact fun i => match i with
        | 0 => .inr ⟨_, _, rfl, rfl, a⟩
        | i + 1 => ih i
    have all : ∀ l : List Nat, Paired R (l.filterMap fun i => xs[i]?) (l.filterMap fun i => ys[i]?) := fun l => by
      induction l with
      | nil => exact .nil
      | cons i l ih =>
        rcases at_ h i with ⟨e1, e2⟩ | ⟨x, y, e1, e2, r⟩
        · rw [List.filterMap_cons_none e1, List.filterMap_cons_none e2]
          exact ih
        · rw [List.filterMap_cons_some e1, List.filterMap_cons_some e2]
          exact .cons r ih
    by_cases z : xs.length = pm.length
    · rw [if_pos z, if_pos (by rw [← hl]; exact z)]
      exact all pm
    · rw [if_neg z, if_neg (by rw [← hl]; exact z)]
      exact h
theorem ordOf_len {pm : List Nat} {n : Nat} (hn : n = pm.length) {α : Type} (l : List α) (h : ((ordOf pm).go l).length = n) : l.length = n := by
  by_cases z : l.length = pm.length
  · rw [z, hn]
  · have e : (ordOf pm).go l = l := if_neg z
    rw [e] at h
    exact h
theorem rpl_paired {K : PySem.W.Frag} {H : Hp} : ∀ {vs : List V} {ds : List D}, RpL K H vs ds → Paired (Rp K H) vs ds
  | _, _, .nil => .nil
  | _, _, .cons a b => .cons a (rpl_paired b)
theorem paired_rpl {K : PySem.W.Frag} {H : Hp} : ∀ {vs : List V} {ds : List D}, Paired (Rp K H) vs ds → RpL K H vs ds
  | _, _, .nil => .nil
  | _, _, .cons a b => .cons a (paired_rpl b)
def dCallK (q : DSp) (o : Ord) (RX : XD) (dA : DA) : DE := fun ρ G R => dA ρ G fun xs G1 => q (o.go xs) G1 R RX
theorem pd_callK {k : Nat} {x : Str} {st : Stmt} {ps ks : List Str} {q : DSp} {RX : XD} {E : XK} {kws : List Keyword} (o : Ord) (h : Kn X.prog X.w X.K X.mg X.base k x st ps q) (hr : Room k X.A) (hgd : X.A.guards = some []) (hg : Gl X x) (hx : Passes (L2.CX X.prog X.w) X E) (kx : ∀ Hd, Ex B.b Hd → KX X.K B.f Hd RX E)
    (hb : ∀ (kV doc pm : Value) (an : Option Addr) (cdv ct : Value) (us : List Value), us.length = ps.length → bindArgs (PySem.W.fnOf x x (defArgs st) (defBody st) (defScope st) .none kV doc pm an cdv ct) ⟨[], ks.zip us⟩ = pure (ps.zip (o.go us)))
    (hn : ks.length = ps.length) (ho : ∀ {α : Type} (l : List α), (o.go l).length = ps.length → l.length = ps.length)
    (hkw : PK X kws (upA X.K B dA)) (hall : (backToKw pos (keywordEach kws X.env)).all (·.1.isSome) = true := by rfl) (hks : (backToKw pos (keywordEach kws X.env)).filterMap (·.1) = ks := by rfl)
    (hdb : (x == ("__debug__" : Str)) = false := by decide) (hpl : ((backTo pos (starEach [] X.env)).any (·.1) || (backToKw pos (keywordEach kws X.env)).any (·.1.isNone)) = false := by rfl) :
    PE X (.Call (.Name x p) [] kws pos) (upE X.K B (dCallK q o RX dA)) := by
  obtain ⟨fd, F, G⟩ := h.fn
  refine ⟨fun pins s σ H Q I hw => ?_⟩
  refine wpAny_Call_Name_kw (ld_glob I hg h.g (PySem.W.callWith_KW0 (h₀ := X.base) I.ok.mod.kin F.kp hall (thn (hkw.run pos pins s σ H (fun vs H1 => spU X.K q (o.go vs) H1 Q E) I ?_) fun us s1 hh => ?_) hpl) hdb)
  · obtain ⟨ρ, Hd, G0, R, at_, h0, k0⟩ := hw
    exact ⟨ρ, Hd, G0, _, at_, h0, fun vs H1 Hd1 xs G1 e1 s1 r1 h1 => ⟨o.go xs, B.f, Hd1, G1, R, RX, paired_rpl (o.rel _ _ _ (rpl_paired r1)), s1, h1, k0.mono e1, kx Hd1 (at_.b.trans e1)⟩⟩
  · obtain ⟨vs, H1, I1, r, q1⟩ := hh
    have r2 : Vals (o.go vs) (o.go us) := o.rel _ _ _ r
    have hl : (o.go us).length = ps.length := by rw [← r2.length]; exact G.len _ _ _ _ q1
    have hus := ho us hl
    refine ⟨I1.kIn, ?_⟩
    rw [hks, List.append_nil]
    have hb1 : BindsTo s1 fd ⟨[], ks.zip us⟩ (ps.zip (o.go us)) := by
      obtain ⟨oc, od, dV, kV, doc, pm, an, cdv, ct, osl, rfl, lk, hcd, hD, hK⟩ := F.ex
      rcases hD with ⟨_, rfl⟩ | ⟨z, _⟩
      · exact .of_eq (hb kV doc pm an cdv ct us hus)
      · exact absurd rfl z
    refine wpAny_call (codeAny_mono (run_fng G hr hgd hx I1 hb1 r2 q1) fun r s2 hq => ?_)
    cases r with
    | error e => exact hq
    | ok fl => cases fl <;> first | exact hq | exact hq.elim
/-- nothing is raised -/
theorem pass0 : Passes (L2.CX X.prog X.w) X E0 := passL
theorem kx0 {K : PySem.W.Frag} : ∀ Hd, Ex B.b Hd → KX K B.f Hd X0 E0 := fun _ _ => .none
/-- repr -/
theorem pd_repr {da : DE} {x : Str} (hx : x = "repr") (hgd : X.A.guards = some []) (hu : X.A.units + 64 < cLine) (hg : Gl X x) (hm : X.mg x = none) (ha : PE X e (upE X.K B da)) (he : starEach (e :: []) X.env = (false, eval e X.env) :: starEach [] X.env := by rfl) (hpl : (backTo pos (starEach [] X.env)).any (·.1) = false := by rfl) :
    PE X (.Call (.Name x p) (e :: []) [] pos) (upE X.K B (dCal fRepr (dCons da dNil))) := by
  subst hx
  exact pd_callB (call_repr hgd hu) cd_repr hg hm (by decide +kernel) (pda_cons ha pda_nil he) (by decide) (by decide) he hpl
end
end DL

/-! DL8: the law's call at the head's end. -/
namespace DL
open PySem PySem.Spec PyProof.Rows L2 Evl

/-- the script as it is tracked: frozen, or (where the top itself holds it) not at all -/
def scrH (K : PySem.W.Frag) (a : Addr) (o : Obj) (xs : List V) : Hp := fun b => if b = a ∧ K.lookup a = none then some (.frz o (.lst xs)) else none
section
variable {K : PySem.W.Frag} {a : Addr} {o : Obj} {xs : List V}
theorem scr_at (h : K.lookup a = none) : scrH K a o xs a = some (.frz o (.lst xs)) := if_pos ⟨rfl, h⟩
theorem scr_some {b : Addr} {u : HO} (h : scrH K a o xs b = some u) : b = a ∧ K.lookup a = none ∧ u = .frz o (.lst xs) := by
  unfold scrH at h
  by_cases z : b = a ∧ K.lookup a = none
  · rw [if_pos z] at h
    cases h
    exact ⟨z.1, z.2, rfl⟩
  · rw [if_neg z] at h
    cases h
theorem scr_ne {b : Addr} (h : b ≠ a) : scrH K a o xs b = none := if_neg fun z => h z.1
theorem scr_in (h : K.lookup a ≠ none) (b : Addr) : scrH K a o xs b = none := if_neg fun z => h z.2
end
theorem law_callG {P : Program} {w : World} {K : PySem.W.Frag} {mg mb : Str → Option Value} {k : Nat} {fa a : Addr} {fd : FuncData} {x : Str} {sp : Sp} {s : Shared} {vs : List Value} {ns : List Int}
    (hK : K.In s.heap) (hns : s.heap.Ns mainGlobals mg) (hb : s.heap.Ns builtinsNs mb) (hbb : ∀ x : Str, x ≠ "__name__" → mb x = bootBuiltins x) (hlim : s.heap.NoLimit) (hg : s.gens = #[])
    (ha : s.heap.get? a = some { cls := .type "list", data := .seq vs.toArray }) (hi : IntsAre vs ns) (hl : ns.length ≤ sizeLine) (hr : Room k callerA)
    (F : ∀ base : Heap, K.In base → base.Ns mainGlobals mg → FnG P w K mg base k fa fd [x] sp) (hbind : ∀ (s : Shared) (u : Value), BindsTo s fd ⟨[u], []⟩ [(x, u)])
    (hsp : ∀ H : Hp, Only H → SqL K H a (ns.map V.int) → sp [.ref a] H (fun v _ => v = .bl true) fun _ _ _ => False) :
    codeAny (model P w) callerA (.call (.ref fa) ⟨[.ref a], []⟩) (fun r s' => r = .ok (.ret (.bool true)) ∧ OldK s.heap s'.heap ∧ s'.os = s.os ∧ AllBare s'.gens) s := by
  have rv := vals_ints hi
  generalize eo : ({ cls := .type "list", data := .seq vs.toArray } : Obj) = o at ha
  generalize eH : scrH K a o (ns.map V.int) = H
  have only : Only H := fun b => by
    subst eH
    cases q : scrH K a o (ns.map V.int) b with
    | none => exact .inl rfl
    | some u =>
      obtain ⟨_, _, rfl⟩ := scr_some q
      exact .inr ⟨_, _, rfl⟩
  have rd : SqL K H a (ns.map V.int) := by
    subst eH
    cases q : K.lookup a with
    | none => exact .inl (.inr ⟨o, scr_at q⟩)
    | some o2 =>
      have e2 : o2 = o := Option.some.inj ((hK a o2 q).symm.trans ha)
      subst e2 eo
      exact .inr ⟨_, vs.toArray, _, q, rfl, rfl, rfl, by rw [List.size_toArray, hi.length]; exact hl, by simpa using rv⟩
  have held : HOk P w H s.heap := fun b u q => by
    subst eH
    obtain ⟨rfl, _, rfl⟩ := scr_some q
    subst eo
    exact ⟨ha, by rw [List.length_map]; exact hl, vs, _, rv, ha⟩
  -- what the top wrote is untracked
  have freeD : ∀ {b : Addr} {ob : Obj} {es : Array DictEntry} {ep : Nat}, s.heap.get? b = some ob → ob.data = .dict es ep → H b = none := fun {b ob es ep} e d => by
    subst eH
    refine scr_ne fun z => ?_
    subst z eo
    have e2 := e.symm.trans ha
    cases e2
    cases d
  have toB : ∀ {b : Addr} {m : Str → Option Value}, s.heap.Ns b m → (hidT s.heap H).Ns b m := fun {b m} ⟨ob, es, ep, e, d, r⟩ => ⟨ob, es, ep, hidT_get e (freeD e d), d, r⟩
  have kB : K.In (hidT s.heap H) := fun b ob e => hidT_get (hK b ob e) (by
    subst eH
    by_cases z : b = a
    · subst z
      exact scr_in (by rw [e]; simp) b
    · exact scr_ne z)
  have md : Mod K mg (hidT s.heap H) := ⟨kB, toB hns, ⟨mb, toB hb, hbb⟩, let ⟨mc, h1, h2⟩ := hlim; ⟨mc, toB h1, h2⟩⟩
  have e0 : Env0 P w K mg (hidT s.heap H) callerA [] s H := ⟨rfl, md, fun b o e => of_hidT e, Nat.le_of_eq (hidT_size _ _), trivial, fun b hb => (nomatch (show b ∈ ([] : List Addr) from hb)), held, .of_eq hg⟩
  refine codeAny_mono ((F _ kB (toB hns)).run callerA [] s H ⟨[.ref a], []⟩ [.ref a] [.ref a] _ _ hr rfl e0 (hbind s (.ref a)) (.cons rfl .nil) (hsp H only rd)) fun r s' hq => ?_
  cases r with
  | error e =>
    obtain ⟨_, _, _, _, _, _, _, _, _, _, _, _, z⟩ := hq
    exact z.elim
  | ok fl =>
    cases fl with
    | next => exact hq.elim
    | brk => exact hq.elim
    | cont => exact hq.elim
    | ret u =>
      obtain ⟨v, H', os, bare, un, hok', r', q⟩ := hq
      have q2 : v = .bl true := q
      subst q2
      cases (show u = Value.bool true from r')
      refine ⟨rfl, OldK.of_keep fun b ob e => ?_, os, bare⟩
      rcases only b with z | ⟨o2, ys, z⟩
      · exact un.keep b ob e z (by intro y; exact nomatch (show b ∈ ([] : List Addr) from y)) (by simp)
      · have e1 := (held b _ z).1
        have e2 := (hok' b _ (un.frzs b o2 _ z)).1
        have e3 := e.symm.trans e1
        cases e3
        exact e2
/-- a law over a head by facts -/
theorem walk_lawG {l : PySem.W.OpenLaw} {n k : Nat} {q : Program} {loose : List Str} {XP : (Str → Option Value) → Heap → Prop} {YP : World → Heap → Prop} {d : DefRec} {x : Str}
    (hn : l.most = some n) (hn2 : n ≤ sizeLine) (hdf : d.params.defaults = []) (hr : Room k callerA)
    (F : ∀ (w : World) (mg : Str → Option Value) (fa : Addr) (h : Heap), YP w h → h.Ns mainGlobals mg → mg d.name = some (.ref fa) →
      ∃ (K : PySem.W.Frag) (fd : FuncData) (sp : Sp), K.In h ∧ (∀ (s : Shared) (u : Value), BindsTo s fd ⟨[u], []⟩ [(x, u)]) ∧
        (∀ (H : Hp) (a : Addr) (ns : List Int), ns.length ≤ n → Only H → SqL K H a (ns.map V.int) → sp [.ref a] H (fun v _ => v = .bl true) fun _ _ _ => False) ∧
        ∀ base : Heap, K.In base → base.Ns mainGlobals mg → FnG l.prog w K mg base k fa fd [x] sp) :
    PySem.W.WalkO q loose XP YP l.row.toRowW d [] (fun f vs => PySem.call f vs) := by
  refine Att.attach_call hn hdf fun w s0 s1 mg mb fa o pm cd doc a vs ns G Y ho hd hcd hmg hobj hints hlen hg => ?_
  obtain ⟨K, fd, sp, KX, hb, hsp, hF⟩ := F w mg fa _ Y G.T.g hmg
  exact law_callG KX G.T.g G.T.b G.T.builtins G.T.nolimit hg hobj hints (Nat.le_trans hlen hn2) hr hF hb fun H hO hS => hsp H a ns hlen hO hS
/-- the script as data: nothing else is there -/
theorem rp_script {K : PySem.W.Frag} {H : Hp} {a : Addr} {ns : List Int} (h : SqL K H a (ns.map V.int)) : RpL K H [.ref a] [.lst (ns.map D.int)] := by
  refine .cons (.lst h ?_) .nil
  induction ns with
  | nil => exact .nil
  | cons n ns ih => exact .cons (.int n) (RpL_ints ns)
where RpL_ints : ∀ ns : List Int, RpL K H (ns.map V.int) (ns.map D.int)
  | [] => .nil
  | n :: ns => .cons (.int n) (RpL_ints ns)
def G0 : Gm := fun _ => none
theorem g0 {a : Addr} {m : Mt} (h : G0 a = some m) : False := nomatch (show (none : Option Mt) = some m from h)
theorem sim_start {K : PySem.W.Frag} {H : Hp} : Sim K G0 H H G0 :=
  { sub := Ex.refl _, off := fun _ _ h => (g0 h).elim, hold := fun _ _ h => (g0 h).elim, offF := fun _ _ h => (g0 h).elim, holdF := fun _ _ h => (g0 h).elim, apart := fun _ _ h => (g0 h).elim }
/-- the law's promise: True of every script -/
def lawSp : DSp := fun xs G R _ => ∃ ns : List Int, xs = [.lst (ns.map D.int)] ∧ ns.length ≤ 63 ∧ (∀ a, G a = none) ∧ ∀ G', R (.bl true) G'
theorem law_sp {K : PySem.W.Frag} {H : Hp} {a : Addr} {ns : List Int} (hl : ns.length ≤ 63) (h : SqL K H a (ns.map V.int)) : spU K lawSp [.ref a] H (fun v _ => v = .bl true) fun _ _ _ => False :=
  ⟨_, G0, H, G0, fun d _ => d = .bl true, X0, rp_script h, sim_start, ⟨ns, rfl, hl, fun _ => rfl, fun _ => rfl⟩, fun v H' Hd' x G' _ _ r e => by
    subst e
    cases r
    rfl, .none⟩
end DL

/-! DL9: what is told of data; loops; promises that many laws share. -/
namespace DL
open PySem PySem.Spec PyProof.Rows L2 Evl

/-! ### kinds -/
def isIntD : D → Bool
  | .int _ => true
  | _ => false
def isSeqD : D → Bool
  | .tup _ => true
  | .lst _ => true
  | _ => false
mutual
/-- data of built-in kinds, all the way in -/
def D.kn : D → Bool
  | .non => true
  | .bl _ => true
  | .int _ => true
  | .str _ => true
  | .tup xs => D.knL xs
  | .lst xs => D.knL xs
  | .dct _ _ => true
  | .ty _ => false
  | .ref _ => false
  | .ins _ _ _ => false
def D.knL : List D → Bool
  | [] => true
  | x :: xs => D.kn x && D.knL xs
end
/-- None, or an integer: a bound -/
def bndD : D → Option (Option Int)
  | .non => some none
  | .int i => some (some i)
  | _ => none
def leO (l : Option Int) (i : Int) : Bool := match l with
  | none => true
  | some a => decide (a ≤ i)
def geO (m : Option Int) (i : Int) : Bool := match m with
  | none => true
  | some a => decide (i ≤ a)
def withinD (x : D) (l m : Option Int) : Bool := match x with
  | .int i => leO l i && geO m i
  | _ => false
/-- two integers -/
def pairD : List D → Option (Int × Int)
  | [.int a, .int b] => some (a, b)
  | _ => none
def ratD (p : Option (Int × Int)) : Bool := match p with
  | some (a, b) => decide (2 ≤ b) && decide (Int.gcd a b = 1)
  | none => false
/-- a number: an integer, a fraction in its one form -/
def numD : D → Bool
  | .int _ => true
  | .tup xs => ratD (pairD xs)
  | .lst xs => ratD (pairD xs)
  | _ => false
theorem pair_1 (a : D) : pairD [a] = none := by cases a <;> rfl
theorem pair_3 (a b c : D) (r : List D) : pairD (a :: b :: c :: r) = none := by cases a <;> first | rfl | (cases b <;> rfl)
theorem pair_2a (a b : D) (h : isIntD a = false) : pairD [a, b] = none := by cases a <;> first | rfl | cases h
theorem pair_2b (a b : D) (h : isIntD b = false) : pairD [a, b] = none := by cases a <;> first | rfl | (cases b <;> first | rfl | cases h)

/-! ### loops -/
theorem forL_inv {g : DG} {s : DS} {E : DEnds} (I : En → Gm → Prop) : ∀ {xs : List D} {ρ : En} {G : Gm},
    (∀ x ∈ xs, ∀ (N : En → Gm → Prop) (ρ : En) (G : Gm), (∀ ρ G, I ρ G → N ρ G) → I ρ G → g x ρ G fun ρ1 G1 => s { E with nx := N, ct := N, bk := E.nx } ρ1 G1) → (∀ ρ G, I ρ G → E.nx ρ G) → I ρ G → forL g s E xs ρ G
  | [], ρ, G, _, hd, h0 => hd ρ G h0
  | x :: xs, ρ, G, hs, hd, h0 => hs x List.mem_cons_self (forL g s E xs) ρ G (fun ρ G h => forL_inv I (fun y hy => hs y (List.mem_cons_of_mem _ hy)) hd h) h0
/-- .. by the turn -/
theorem forL_at {g : DG} {s : DS} {E : DEnds} (I : List D → En → Gm → Prop) : ∀ {xs : List D} {ρ : En} {G : Gm},
    (∀ x rest, ∀ (N : En → Gm → Prop) (ρ : En) (G : Gm), (x :: rest) <:+ xs → (∀ ρ G, I rest ρ G → N ρ G) → I (x :: rest) ρ G → g x ρ G fun ρ1 G1 => s { E with nx := N, ct := N, bk := E.nx } ρ1 G1) → (∀ ρ G, I [] ρ G → E.nx ρ G) → I xs ρ G → forL g s E xs ρ G
  | [], ρ, G, _, hd, h0 => hd ρ G h0
  | x :: xs, ρ, G, hs, hd, h0 => hs x xs (forL g s E xs) ρ G (List.suffix_refl _) (fun ρ G h => forL_at I (fun y r N ρ G hy => hs y r N ρ G (hy.trans (List.suffix_cons _ _))) hd h) h0
theorem cmpL_inv {ρ0 : En} {g : DG} {t : DT} {de : DE} {S : List D → Gm → Prop} (I : List D → List D → Gm → Prop) : ∀ {xs acc : List D} {G : Gm},
    (∀ x rest acc G, ∀ (N : List D → Gm → Prop), (x :: rest) <:+ xs → (∀ acc G, I rest acc G → N acc G) → I (x :: rest) acc G → g x ρ0 G fun ρ1 G1 => t ρ1 G1 fun k G2 => if k = true then de ρ1 G2 fun y G3 => acc.length < sizeLine ∧ N (acc ++ [y]) G3 else N acc G2) →
    (∀ acc G, I [] acc G → S acc G) → I xs acc G → cmpL ρ0 g t de xs acc G S
  | [], acc, G, _, hd, h0 => hd acc G h0
  | x :: xs, acc, G, hs, hd, h0 => hs x xs acc G (fun acc G => cmpL ρ0 g t de xs acc G S) (List.suffix_refl _) (fun acc G h => cmpL_inv I (fun y r acc G N hy => hs y r acc G N (hy.trans (List.suffix_cons _ _))) hd h) h0
/-- the element is a function of the item -/
theorem cmpL_map {ρ0 : En} {i : Nat} {de : DE} {S : List D → Gm → Prop} {G : Gm} (f : D → D) : ∀ {xs acc : List D}, (∀ x ∈ xs, ∀ S' : KD, S' (f x) G → de (ρ0.set i (some x)) G S') → acc.length + xs.length ≤ sizeLine → S (acc ++ xs.map f) G → cmpL ρ0 (gN i) dYes de xs acc G S
  | [], acc, _, _, h => by
    rw [List.map_nil, List.append_nil] at h
    exact h
  | x :: xs, acc, hf, hz, h => by
    show de _ _ _
    rw [List.length_cons] at hz
    refine hf x List.mem_cons_self _ ⟨by omega, cmpL_map f (fun y hy => hf y (List.mem_cons_of_mem _ hy)) (by rw [List.length_append, List.length_singleton]; omega) ?_⟩
    rw [List.append_assoc, List.singleton_append]
    exact h

/-! ### the drawing list -/
/-- cells, a count of at most T, a rest -/
def Gau (m : Mt) (T : Nat) : Prop := ∃ (cs : List Int) (t : Nat) (r : Int), m = .lst [.lst (cs.map D.int), .int t, .int r] ∧ cs.length ≤ 63 ∧ t ≤ T ∧ 0 ≤ r
theorem Gau.mono {m : Mt} {T T' : Nat} (h : Gau m T) (l : T ≤ T') : Gau m T' := by
  obtain ⟨cs, t, r, e, h1, h2, h3⟩ := h
  exact ⟨cs, t, r, e, h1, Nat.le_trans h2 l, h3⟩
/-- a drawing list stands at a; T: how many were drawn at most -/
def GauAt (G : Gm) (a : Addr) (T : Nat) : Prop := ∃ m, G a = some m ∧ Gau m T
theorem gau_gup {G : Gm} {a : Addr} {m : Mt} {T : Nat} (h : Gau m T) : GauAt (gup G a m) a T := ⟨m, gup_same, h⟩
def spGauge : DSp := fun xs G R _ => ∃ ns : List Int, xs = [.lst (ns.map D.int)] ∧ ns.length ≤ 63 ∧ ∀ p m, G p = none → Gau m 0 → R (.ref p) (gup G p m)
/-- an integer from 0 below n -/
def spDial : DSp := fun xs G R _ => ∃ a n T, xs = [.ref a, .int n] ∧ GauAt G a T ∧ T ≤ 1000000000 ∧ 1 ≤ n ∧ n < 2 ^ 8000 ∧ ∀ v m, 0 ≤ v → v < n → Gau m (T + 1) → R (.int v) (gup G a m)
def spPick : DSp := fun xs G R _ => ∃ a x ds T, xs = [.ref a, x] ∧ (x = .lst ds ∨ x = .tup ds) ∧ ds ≠ [] ∧ ds.length ≤ 1000000 ∧ GauAt G a T ∧ T ≤ 1000000000 ∧ ∀ v m, v ∈ ds → Gau m (T + 1) → R v (gup G a m)
theorem bits_lt {i : Int} {n : Nat} (h : i.natAbs < 2 ^ n) : Builtin.Int.intBits i ≤ n := by
  unfold Builtin.Int.intBits
  split
  · exact Nat.zero_le _
  · rename_i z
    have z2 : i.natAbs ≠ 0 := fun e => by
      have e2 : i = 0 := Int.natAbs_eq_zero.mp e
      rw [e2] at z
      simp at z
    exact (Nat.log2_lt z2).mpr h
theorem mul_left {i j : Int} (h : i.natAbs < 2 ^ 64) : IntMulOk i j := .of_left (bits_lt h)
theorem mul_right {i j : Int} (h : j.natAbs < 2 ^ 64) : IntMulOk i j := .of_right (bits_lt h)
/-- both together below 2 ^ 27 bits -/
theorem mul_both {i j : Int} {a b : Nat} (h : i.natAbs < 2 ^ a) (h' : j.natAbs < 2 ^ b) (hz : a + b ≤ 134217728) : IntMulOk i j := by
  have h1 := bits_lt h
  have h2 := bits_lt h'
  unfold IntMulOk
  intro z
  rw [Bool.and_eq_true] at z
  have z2 := z.2
  unfold Builtin.Int.intTooBig at z2
  have z3 := of_decide_eq_true z2
  rw [show bitsLine = 134217728 from by decide] at z3
  omega
theorem pow_ok {i j : Int} {n : Nat} (h : i.natAbs < 2 ^ n) (h0 : 0 ≤ j) (hz : (n : Int) * j ≤ 2 ^ 27) : CPw i j := by
  refine ⟨h0, Int.le_trans (Int.mul_le_mul_of_nonneg_right ?_ h0) hz⟩
  exact Int.ofNat_le.mpr (bits_lt h)
theorem div_ok {i j : Int} (h : 1 ≤ j) (h' : j < 2 ^ 8000) : CDivW i j := by
  refine wide_div (b := 8000) (by omega) ?_ (by decide) (by decide)
  have : (j.natAbs : Int) = j := by omega
  have h2 : ((j.natAbs : Nat) : Int) < ((2 ^ 8000 : Nat) : Int) := by rw [this]; exact_mod_cast h'
  exact Int.ofNat_lt.mp h2
end DL

/-! DL10: expressions that change nothing; the drawing function, in its three shapes. -/
namespace DL
open PySem PySem.Spec PyProof.Rows L2 Evl

/-- d comes to z, and nothing changes -/
def Ev (d : DE) (ρ : En) (G : Gm) (z : D) : Prop := ∀ R : KD, R z G → d ρ G R
def EvA (d : DA) (ρ : En) (G : Gm) (zs : List D) : Prop := ∀ R : List D → Gm → Prop, R zs G → d ρ G R
def EvT (d : DT) (ρ : En) (G : Gm) (k : Bool) : Prop := ∀ R : Bool → Gm → Prop, R k G → d ρ G R
section
variable {ρ : En} {G : Gm} {da db : DE} {dA : DA} {x y z : D} {xs : List D} {ta tb : DT} {j k : Bool}
theorem Ev.var {i : Nat} (h : ρ[i]? = some (some z)) : Ev (dVar i) ρ G z := fun R r => ⟨z, h, r⟩
theorem Ev.c : Ev (dC z) ρ G z := fun R r => r
theorem Ev.op {f : D → D → D → Prop} (ha : Ev da ρ G x) (hb : Ev db ρ G y) (h : f x y z) : Ev (dOp f da db) ρ G z := fun R r => ha _ (hb _ ⟨z, h, r⟩)
theorem Ev.cal {f : Gm → List D → D → Prop} (ha : EvA dA ρ G xs) (h : f G xs z) : Ev (dCal f dA) ρ G z := fun R r => ha _ ⟨z, h, r⟩
theorem Ev.ix (ha : Ev da ρ G x) (hb : Ev db ρ G y) (h : fIx G x y z) : Ev (dIx da db) ρ G z := fun R r => ha _ (hb _ ⟨z, h, r⟩)
theorem Ev.lst (ha : EvA dA ρ G xs) (h : xs.length ≤ sizeLine) : Ev (dLst dA) ρ G (.lst xs) := fun R r => ha _ ⟨h, r⟩
theorem Ev.tup (ha : EvA dA ρ G xs) (h : xs.length ≤ sizeLine) : Ev (dTup dA) ρ G (.tup xs) := fun R r => ha _ ⟨h, r⟩
theorem EvA.nil : EvA dNil ρ G [] := fun R r => r
theorem EvA.cons (ha : Ev da ρ G x) (hb : EvA dA ρ G xs) : EvA (dCons da dA) ρ G (x :: xs) := fun R r => ha _ (hb _ r)
theorem EvA.one (ha : Ev da ρ G x) : EvA (dCons da dNil) ρ G [x] := .cons ha .nil
theorem EvT.tst (ha : Ev da ρ G (.bl k)) : EvT (dTst da) ρ G k := fun R r => ha _ ⟨k, rfl, r⟩
theorem EvT.and (ha : EvT ta ρ G j) (hb : EvT tb ρ G k) : EvT (dAnd ta tb) ρ G (j && k) := fun R r => ha _ (by
  cases j with
  | true => exact hb _ r
  | false => exact r)
theorem EvT.or (ha : EvT ta ρ G j) (hb : EvT tb ρ G k) : EvT (dOr ta tb) ρ G (j || k) := fun R r => ha _ (by
  cases j with
  | true => exact r
  | false => exact hb _ r)
theorem EvT.not (ha : EvT ta ρ G j) : EvT (dNot ta) ρ G (!j) := fun R r => ha _ r
theorem Ev.int {i j : Int} {g : Int → Int → D} (ha : Ev da ρ G (.int i)) (hb : Ev db ρ G (.int j)) : Ev (dOp (fInt g) da db) ρ G (g i j) := .op ha hb ⟨i, j, rfl, rfl, rfl⟩
theorem Ev.intC {i j : Int} {C : Int → Int → Prop} {g : Int → Int → D} (ha : Ev da ρ G (.int i)) (hb : Ev db ρ G (.int j)) (h : C i j) : Ev (dOp (fIntC C g) da db) ρ G (g i j) := .op ha hb ⟨i, j, rfl, rfl, h, rfl⟩
theorem Ev.add {i j : Int} (ha : Ev da ρ G (.int i)) (hb : Ev db ρ G (.int j)) : Ev (dOp fAdd da db) ρ G (.int (i + j)) := .op ha hb (.inl ⟨i, j, rfl, rfl, rfl⟩)
theorem Ev.mod {i j : Int} (ha : Ev da ρ G (.int i)) (hb : Ev db ρ G (.int j)) (h : (fun _ j => 0 < j) i j) : Ev (dOp (fIntC (fun _ j => 0 < j) fun i j => .int (i % j)) da db) ρ G (.int (i % j)) := .intC ha hb h
theorem Ev.mul {i j : Int} (ha : Ev da ρ G (.int i)) (hb : Ev db ρ G (.int j)) (h : (IntMulOk) i j) : Ev (dOp (fIntC (IntMulOk) fun i j => .int (i * j)) da db) ρ G (.int (i * j)) := .intC ha hb h
theorem Ev.pow {i j : Int} (ha : Ev da ρ G (.int i)) (hb : Ev db ρ G (.int j)) (h : (CPw) i j) : Ev (dOp (fIntC (CPw) fun i j => .int (i ^ j.toNat)) da db) ρ G (.int (i ^ j.toNat)) := .intC ha hb h
theorem Ev.fdiv {i j : Int} (ha : Ev da ρ G (.int i)) (hb : Ev db ρ G (.int j)) (h : (CDivW) i j) : Ev (dOp (fIntC (CDivW) fun i j => .int (i / j)) da db) ρ G (.int (i / j)) := .intC ha hb h
theorem Ev.sub {i j : Int} (ha : Ev da ρ G (.int i)) (hb : Ev db ρ G (.int j)) : Ev (dOp (fInt fun i j => .int (i - j)) da db) ρ G (.int (i - j)) := .int ha hb
theorem Ev.lt {i j : Int} (ha : Ev da ρ G (.int i)) (hb : Ev db ρ G (.int j)) : Ev (dOp (fInt gLt) da db) ρ G (.bl (decide (i < j))) := .int ha hb
theorem Ev.le {i j : Int} (ha : Ev da ρ G (.int i)) (hb : Ev db ρ G (.int j)) : Ev (dOp (fInt gLe) da db) ρ G (.bl (decide (i ≤ j))) := .int ha hb
theorem Ev.gt {i j : Int} (ha : Ev da ρ G (.int i)) (hb : Ev db ρ G (.int j)) : Ev (dOp (fInt gGt) da db) ρ G (.bl (decide (j < i))) := .int ha hb
theorem Ev.ge {i j : Int} (ha : Ev da ρ G (.int i)) (hb : Ev db ρ G (.int j)) : Ev (dOp (fInt gGe) da db) ρ G (.bl (decide (j ≤ i))) := .int ha hb
theorem Ev.intOf {i : Int} (ha : Ev da ρ G (.int i)) : Ev (dCal fIntOf (dCons da dNil)) ρ G (.int i) := .cal (.one ha) (.inl ⟨i, rfl, rfl⟩)
theorem Ev.intB (ha : Ev da ρ G (.bl k)) : Ev (dCal fIntOf (dCons da dNil)) ρ G (.int (if k then 1 else 0)) := .cal (.one ha) (.inr ⟨k, rfl, rfl⟩)
theorem Ev.abs {i : Int} (ha : Ev da ρ G (.int i)) : Ev (dCal fAbs (dCons da dNil)) ρ G (.int (if i < 0 then -i else i)) := .cal (.one ha) ⟨i, rfl, rfl⟩
theorem Ev.len (ha : Ev da ρ G x) (h : SeqAt G x xs) : Ev (dCal fLen (dCons da dNil)) ρ G (.int xs.length) := .cal (.one ha) ⟨x, rfl, .inl ⟨xs, h, rfl⟩⟩
theorem Ev.at {i : Int} (ha : Ev da ρ G x) (hb : Ev db ρ G (.int i)) (h : SeqAt G x xs) (h' : atI xs i = some z) : Ev (dIx da db) ρ G z := .ix ha hb (.inl ⟨xs, i, h, rfl, h'⟩)
theorem Ev.absN {i : Int} (ha : Ev da ρ G (.int i)) : Ev (dCal fAbs (dCons da dNil)) ρ G (.int (i.natAbs : Int)) := .cal (.one ha) ⟨i, rfl, by congr 1; split <;> omega⟩
theorem ds_set {E : DEnds} {i : Nat} (ha : Ev da ρ G x) (h : E.nx (ρ.set i (some x)) G) : dSet i da E ρ G := ha _ h
theorem ds_ret {E : DEnds} (ha : Ev da ρ G x) (h : E.rt x G) : dRet da E ρ G := ha _ h
theorem ds_if {E : DEnds} {s1 s2 : DS} (ha : EvT ta ρ G k) (h : if k = true then s1 E ρ G else s2 E ρ G) : dIfS ta s1 s2 E ρ G := ha _ h
theorem ds_setIx {E : DEnds} {dc : DE} {a : Addr} {i : Int} {j : Nat} (ha : Ev da ρ G x) (hb : Ev db ρ G (.ref a)) (hc : Ev dc ρ G (.int i)) (hg : G a = some (.lst xs)) (hj : ixN xs.length i = some j) (h : E.nx ρ (gup G a (.lst (xs.set j x)))) : dSetIx da db dc E ρ G :=
  ha _ (hb _ (hc _ ⟨a, xs, i, j, rfl, hg, rfl, hj, h⟩))
end
theorem abs_if0 {i : Int} : (if i < 0 then -i else i) = (i.natAbs : Int) := by split <;> omega
def dialA (c0 c1 c2 c3 c4 c5 c6 c7 : Int) : DS := (dSeq (dIfS (dTst (dOp (fInt gGt) (dIx (dVar 0) (dC (.int 2))) (dC (.int 0)))) (dSeq (dSet 2 (dCal fIntOf (dCons (dIx (dVar 0) (dC (.int 2))) dNil))) (dSeq (dSetIx (dOp (fIntC CDivW fun i j => .int (i / j)) (dVar 2) (dVar 1)) (dVar 0) (dC (.int 2))) (dRet (dOp (fIntC (fun _ j => 0 < j) fun i j => .int (i % j)) (dCal fIntOf (dCons (dVar 2) dNil)) (dVar 1))))) dNext) (dSeq (dSet 3 (dIx (dVar 0) (dC (.int 1)))) (dSeq (dSetIx (dOp fAdd (dVar 3) (dC (.int 1))) (dVar 0) (dC (.int 1))) (dSeq (dIfS (dTst (dOp fEq (dIx (dVar 0) (dC (.int 0))) (dLst dNil))) (dRet (dC (.int 0))) dNext) (dSeq (dSet 4 (dIx (dIx (dVar 0) (dC (.int 0))) (dOp (fIntC (fun _ j => 0 < j) fun i j => .int (i % j)) (dCal fIntOf (dCons (dVar 3) dNil)) (dCal fLen (dCons (dIx (dVar 0) (dC (.int 0))) dNil))))) (dSeq (dIfS (dAnd (dTst (dOp (fInt gLt) (dVar 3) (dCal fLen (dCons (dIx (dVar 0) (dC (.int 0))) dNil)))) (dTst (dOp (fInt gGe) (dCal fAbs (dCons (dVar 4) dNil)) (dOp (fIntC CPw fun i j => .int (i ^ j.toNat)) (dC (.int 10)) (dC (.int 18)))))) (dSeq (dSet 2 (dOp fAdd (dOp (fIntC IntMulOk fun i j => .int (i * j)) (dC (.int 2)) (dOp (fInt fun i j => .int (i - j)) (dCal fAbs (dCons (dCal fIntOf (dCons (dVar 4) dNil)) dNil)) (dOp (fIntC CPw fun i j => .int (i ^ j.toNat)) (dC (.int 10)) (dC (.int 18))))) (dCal fIntOf (dCons (dOp (fInt gLt) (dVar 4) (dC (.int 0))) dNil)))) (dSeq (dSetIx (dOp (fIntC CDivW fun i j => .int (i / j)) (dVar 2) (dVar 1)) (dVar 0) (dC (.int 2))) (dRet (dOp (fIntC (fun _ j => 0 < j) fun i j => .int (i % j)) (dCal fIntOf (dCons (dVar 2) dNil)) (dVar 1))))) dNext) (dSeq (dSet 5 (dOp (fIntC (fun _ j => 0 < j) fun i j => .int (i % j)) (dCal fIntOf (dCons (dOp (fIntC CPw fun i j => .int (i ^ j.toNat)) (dOp fAdd (dOp fAdd (dOp (fIntC (fun _ j => 0 < j) fun i j => .int (i % j)) (dCal fIntOf (dCons (dVar 4) dNil)) (dC (.int c0))) (dOp (fIntC IntMulOk fun i j => .int (i * j)) (dC (.int c1)) (dVar 3))) (dC (.int c2))) (dC (.int 5))) dNil)) (dC (.int c3)))) (dSeq (dSet 5 (dOp (fIntC (fun _ j => 0 < j) fun i j => .int (i % j)) (dCal fIntOf (dCons (dOp (fIntC CPw fun i j => .int (i ^ j.toNat)) (dOp fAdd (dOp fAdd (dOp (fIntC IntMulOk fun i j => .int (i * j)) (dVar 5) (dOp fAdd (dOp (fIntC IntMulOk fun i j => .int (i * j)) (dC (.int 2)) (dVar 3)) (dC (.int c4)))) (dOp (fIntC IntMulOk fun i j => .int (i * j)) (dOp (fIntC IntMulOk fun i j => .int (i * j)) (dC (.int c5)) (dVar 3)) (dVar 3))) (dC (.int c6))) (dC (.int 3))) dNil)) (dC (.int c7)))) (dRet (dOp (fIntC (fun _ j => 0 < j) fun i j => .int (i % j)) (dCal fIntOf (dCons (dOp (fIntC CDivW fun i j => .int (i / j)) (dVar 5) (dC (.int 64))) dNil)) (dVar 1)))))))))))
def dialB (c0 c1 c2 c3 c4 c5 c6 c7 c8 c9 : Int) : DS := (dSeq (dIfS (dTst (dOp (fInt gGt) (dIx (dVar 0) (dC (.int 2))) (dC (.int 0)))) (dSeq (dSet 2 (dCal fIntOf (dCons (dIx (dVar 0) (dC (.int 2))) dNil))) (dSeq (dSetIx (dOp (fIntC CDivW fun i j => .int (i / j)) (dVar 2) (dVar 1)) (dVar 0) (dC (.int 2))) (dRet (dOp (fIntC (fun _ j => 0 < j) fun i j => .int (i % j)) (dCal fIntOf (dCons (dVar 2) dNil)) (dVar 1))))) dNext) (dSeq (dSet 3 (dIx (dVar 0) (dC (.int 1)))) (dSeq (dSetIx (dOp fAdd (dVar 3) (dC (.int 1))) (dVar 0) (dC (.int 1))) (dSeq (dSet 4 (dOp fAdd (dOp (fIntC IntMulOk fun i j => .int (i * j)) (dC (.int c0)) (dVar 3)) (dC (.int c1)))) (dSeq (dIfS (dTst (dOp fNe (dIx (dVar 0) (dC (.int 0))) (dLst dNil))) (dSet 4 (dIx (dIx (dVar 0) (dC (.int 0))) (dOp (fIntC (fun _ j => 0 < j) fun i j => .int (i % j)) (dCal fIntOf (dCons (dVar 3) dNil)) (dCal fLen (dCons (dIx (dVar 0) (dC (.int 0))) dNil))))) dNext) (dSeq (dIfS (dAnd (dTst (dOp (fInt gLt) (dVar 3) (dCal fLen (dCons (dIx (dVar 0) (dC (.int 0))) dNil)))) (dTst (dOp (fInt gGe) (dCal fAbs (dCons (dVar 4) dNil)) (dOp (fIntC CPw fun i j => .int (i ^ j.toNat)) (dC (.int 10)) (dC (.int 18)))))) (dSeq (dSet 2 (dOp fAdd (dOp (fIntC IntMulOk fun i j => .int (i * j)) (dC (.int 2)) (dOp (fInt fun i j => .int (i - j)) (dCal fAbs (dCons (dCal fIntOf (dCons (dVar 4) dNil)) dNil)) (dOp (fIntC CPw fun i j => .int (i ^ j.toNat)) (dC (.int 10)) (dC (.int 18))))) (dCal fIntOf (dCons (dOp (fInt gLt) (dVar 4) (dC (.int 0))) dNil)))) (dSeq (dSetIx (dOp (fIntC CDivW fun i j => .int (i / j)) (dVar 2) (dVar 1)) (dVar 0) (dC (.int 2))) (dRet (dOp (fIntC (fun _ j => 0 < j) fun i j => .int (i % j)) (dCal fIntOf (dCons (dVar 2) dNil)) (dVar 1))))) dNext) (dSeq (dSet 5 (dOp (fIntC (fun _ j => 0 < j) fun i j => .int (i % j)) (dCal fIntOf (dCons (dOp (fIntC CPw fun i j => .int (i ^ j.toNat)) (dOp fAdd (dOp fAdd (dOp (fIntC (fun _ j => 0 < j) fun i j => .int (i % j)) (dCal fIntOf (dCons (dVar 4) dNil)) (dC (.int c2))) (dOp (fIntC IntMulOk fun i j => .int (i * j)) (dC (.int c3)) (dVar 3))) (dC (.int c4))) (dC (.int 5))) dNil)) (dC (.int c5)))) (dSeq (dSet 5 (dOp (fIntC (fun _ j => 0 < j) fun i j => .int (i % j)) (dCal fIntOf (dCons (dOp (fIntC CPw fun i j => .int (i ^ j.toNat)) (dOp fAdd (dOp fAdd (dOp (fIntC IntMulOk fun i j => .int (i * j)) (dVar 5) (dOp fAdd (dOp (fIntC IntMulOk fun i j => .int (i * j)) (dC (.int 2)) (dVar 3)) (dC (.int c6)))) (dOp (fIntC IntMulOk fun i j => .int (i * j)) (dOp (fIntC IntMulOk fun i j => .int (i * j)) (dC (.int c7)) (dVar 3)) (dVar 3))) (dC (.int c8))) (dC (.int 3))) dNil)) (dC (.int c9)))) (dRet (dOp (fIntC (fun _ j => 0 < j) fun i j => .int (i % j)) (dCal fIntOf (dCons (dOp (fIntC CDivW fun i j => .int (i / j)) (dVar 5) (dC (.int 64))) dNil)) (dVar 1)))))))))))
def dialC (c0 c1 c2 c3 c4 c5 c6 c7 c8 c9 : Int) : DS := (dSeq (dIfS (dTst (dOp (fInt gGt) (dIx (dVar 0) (dC (.int 2))) (dC (.int 0)))) (dSeq (dSet 2 (dCal fIntOf (dCons (dIx (dVar 0) (dC (.int 2))) dNil))) (dSeq (dSetIx (dOp (fIntC CDivW fun i j => .int (i / j)) (dVar 2) (dVar 1)) (dVar 0) (dC (.int 2))) (dRet (dOp (fIntC (fun _ j => 0 < j) fun i j => .int (i % j)) (dCal fIntOf (dCons (dVar 2) dNil)) (dVar 1))))) dNext) (dSeq (dSet 3 (dIx (dVar 0) (dC (.int 1)))) (dSeq (dSetIx (dOp fAdd (dVar 3) (dC (.int 1))) (dVar 0) (dC (.int 1))) (dSeq (dSet 4 (dOp fAdd (dOp (fIntC IntMulOk fun i j => .int (i * j)) (dC (.int c0)) (dVar 3)) (dC (.int c1)))) (dSeq (dIfS (dTst (dOp fNe (dIx (dVar 0) (dC (.int 0))) (dLst dNil))) (dSet 4 (dIx (dIx (dVar 0) (dC (.int 0))) (dOp (fIntC (fun _ j => 0 < j) fun i j => .int (i % j)) (dCal fIntOf (dCons (dVar 3) dNil)) (dCal fLen (dCons (dIx (dVar 0) (dC (.int 0))) dNil))))) dNext) (dSeq (dIfS (dAnd (dTst (dOp (fInt gLt) (dVar 3) (dCal fLen (dCons (dIx (dVar 0) (dC (.int 0))) dNil)))) (dTst (dOp (fInt gGe) (dCal fAbs (dCons (dVar 4) dNil)) (dOp (fIntC CPw fun i j => .int (i ^ j.toNat)) (dC (.int 10)) (dC (.int 18)))))) (dSeq (dSet 2 (dOp fAdd (dOp (fIntC IntMulOk fun i j => .int (i * j)) (dC (.int 2)) (dOp (fInt fun i j => .int (i - j)) (dCal fAbs (dCons (dVar 4) dNil)) (dOp (fIntC CPw fun i j => .int (i ^ j.toNat)) (dC (.int 10)) (dC (.int 18))))) (dCal fIntOf (dCons (dOp (fInt gLt) (dVar 4) (dC (.int 0))) dNil)))) (dSeq (dSetIx (dOp (fIntC CDivW fun i j => .int (i / j)) (dVar 2) (dVar 1)) (dVar 0) (dC (.int 2))) (dRet (dOp (fIntC (fun _ j => 0 < j) fun i j => .int (i % j)) (dCal fIntOf (dCons (dVar 2) dNil)) (dVar 1))))) dNext) (dSeq (dSet 5 (dOp (fIntC (fun _ j => 0 < j) fun i j => .int (i % j)) (dCal fIntOf (dCons (dOp (fIntC CPw fun i j => .int (i ^ j.toNat)) (dOp fAdd (dOp fAdd (dOp (fIntC (fun _ j => 0 < j) fun i j => .int (i % j)) (dCal fIntOf (dCons (dVar 4) dNil)) (dC (.int c2))) (dOp (fIntC IntMulOk fun i j => .int (i * j)) (dC (.int c3)) (dVar 3))) (dC (.int c4))) (dC (.int 5))) dNil)) (dC (.int c5)))) (dSeq (dSet 5 (dOp (fIntC (fun _ j => 0 < j) fun i j => .int (i % j)) (dCal fIntOf (dCons (dOp (fIntC CPw fun i j => .int (i ^ j.toNat)) (dOp fAdd (dOp fAdd (dOp (fIntC IntMulOk fun i j => .int (i * j)) (dVar 5) (dOp fAdd (dOp (fIntC IntMulOk fun i j => .int (i * j)) (dC (.int 2)) (dVar 3)) (dC (.int c6)))) (dOp (fIntC IntMulOk fun i j => .int (i * j)) (dOp (fIntC IntMulOk fun i j => .int (i * j)) (dC (.int c7)) (dVar 3)) (dVar 3))) (dC (.int c8))) (dC (.int 3))) dNil)) (dC (.int c9)))) (dRet (dOp (fIntC (fun _ j => 0 < j) fun i j => .int (i % j)) (dCal fIntOf (dCons (dOp (fIntC CDivW fun i j => .int (i / j)) (dVar 5) (dC (.int 64))) dNil)) (dVar 1)))))))))))
theorem atI_mod {cs : List Int} (h : cs ≠ []) (t : Nat) : ∃ v, atI (cs.map D.int) ((t : Int) % ((cs.map D.int).length : Int)) = some (.int v) := by
  have hl : 0 < cs.length := List.length_pos_iff.mpr h
  rw [List.length_map]
  have h1 : 0 ≤ (t : Int) % (cs.length : Int) := Int.emod_nonneg _ (by omega)
  have h2 : (t : Int) % (cs.length : Int) < cs.length := Int.emod_lt_of_pos _ (by omega)
  refine ⟨cs[((t : Int) % (cs.length : Int)).toNat]'(by omega), ?_⟩
  unfold atI ixN
  rw [List.length_map, if_pos h1, if_pos h2, Option.bind_some, List.getElem?_map, List.getElem?_eq_getElem (by omega)]
  rfl
/-- a constant of the drawing function -/
def Sml (c : Int) : Prop := 0 < c ∧ c < 2 ^ 32
theorem mb {x y : Int} (a b : Nat) (hx : 0 ≤ x) (hxa : x < 2 ^ a) (hy : 0 ≤ y) (hyb : y < 2 ^ b) : 0 ≤ x * y ∧ x * y < 2 ^ (a + b) := by
  refine ⟨Int.mul_nonneg hx hy, ?_⟩
  rw [Int.pow_add]
  have h1 : x * y ≤ x * 2 ^ b := Int.mul_le_mul_of_nonneg_left (Int.le_of_lt hyb) hx
  have h2 : x * 2 ^ b < 2 ^ a * 2 ^ b := Int.mul_lt_mul_of_pos_right hxa (Int.pow_pos (by decide))
  omega
theorem nab {x : Int} (a : Nat) (h : 0 ≤ x) (h' : x < 2 ^ a) : x.natAbs < 2 ^ a := by
  have h2 : ((x.natAbs : Nat) : Int) < ((2 ^ a : Nat) : Int) := by
    rw [Int.natAbs_of_nonneg h]
    exact_mod_cast h'
  exact Int.ofNat_lt.mp h2
def tailD (c0 c1 c2 c3 c4 c5 c6 c7 : Int) : DS := (dSeq (dSet 5 (dOp (fIntC (fun _ j => 0 < j) fun i j => .int (i % j)) (dCal fIntOf (dCons (dOp (fIntC CPw fun i j => .int (i ^ j.toNat)) (dOp fAdd (dOp fAdd (dOp (fIntC (fun _ j => 0 < j) fun i j => .int (i % j)) (dCal fIntOf (dCons (dVar 4) dNil)) (dC (.int c0))) (dOp (fIntC IntMulOk fun i j => .int (i * j)) (dC (.int c1)) (dVar 3))) (dC (.int c2))) (dC (.int 5))) dNil)) (dC (.int c3)))) (dSeq (dSet 5 (dOp (fIntC (fun _ j => 0 < j) fun i j => .int (i % j)) (dCal fIntOf (dCons (dOp (fIntC CPw fun i j => .int (i ^ j.toNat)) (dOp fAdd (dOp fAdd (dOp (fIntC IntMulOk fun i j => .int (i * j)) (dVar 5) (dOp fAdd (dOp (fIntC IntMulOk fun i j => .int (i * j)) (dC (.int 2)) (dVar 3)) (dC (.int c4)))) (dOp (fIntC IntMulOk fun i j => .int (i * j)) (dOp (fIntC IntMulOk fun i j => .int (i * j)) (dC (.int c5)) (dVar 3)) (dVar 3))) (dC (.int c6))) (dC (.int 3))) dNil)) (dC (.int c7)))) (dRet (dOp (fIntC (fun _ j => 0 < j) fun i j => .int (i % j)) (dCal fIntOf (dCons (dOp (fIntC CDivW fun i j => .int (i / j)) (dVar 5) (dC (.int 64))) dNil)) (dVar 1)))))
theorem tail_ok {c0 c1 c2 c3 c4 c5 c6 c7 : Int} (h0 : Sml c0) (h1 : Sml c1) (h2 : Sml c2) (h3 : Sml c3) (h4 : Sml c4) (h5 : Sml c5) (h6 : Sml c6) (h7 : Sml c7) {E : DEnds} {ρ : En} {G : Gm} {n cell : Int} {t : Nat} (hn : 1 ≤ n) (ht : t ≤ 1000000000)
    (hl : ρ.length = 6) (r1 : ρ[1]? = some (some (.int n))) (r3 : ρ[3]? = some (some (.int t))) (r4 : ρ[4]? = some (some (.int cell))) (k : ∀ v, 0 ≤ v → v < n → E.rt (.int v) G) : tailD c0 c1 c2 c3 c4 c5 c6 c7 E ρ G := by
  obtain ⟨p0, q0⟩ := h0
  obtain ⟨p1, q1⟩ := h1
  obtain ⟨p2, q2⟩ := h2
  obtain ⟨p3, q3⟩ := h3
  obtain ⟨p4, q4⟩ := h4
  obtain ⟨p5, q5⟩ := h5
  obtain ⟨p6, q6⟩ := h6
  obtain ⟨p7, q7⟩ := h7
  have tt : (t : Int) < 2 ^ 30 := by omega
  have t0 : 0 ≤ (t : Int) := by omega
  have a1 := mb 32 30 (Int.le_of_lt p1) q1 t0 tt
  have a2 := Int.emod_nonneg cell (show c0 ≠ 0 by omega)
  have a3 := Int.emod_lt_of_pos cell p0
  have s1 : ∀ {c : Int}, 0 < c → c < 2 ^ 32 → c.natAbs < 2 ^ 64 := fun {c} h h' => Nat.lt_trans (nab 32 (Int.le_of_lt h) h') (by decide)
  refine ds_set (.mod (.intOf (.pow (.add (.add (.mod (.intOf (.var r4)) .c p0) (.mul .c (.var r3) (mul_left (s1 p1 q1)))) .c) .c ?_)) .c p3) ?_
  · exact pow_ok (n := 64) (nab 64 (by omega) (by omega)) (by decide) (by decide)
  generalize em : (cell % c0 + c1 * (t : Int) + c2) ^ Int.toNat 5 % c3 = mx
  have m0 : 0 ≤ mx := by rw [← em]; exact Int.emod_nonneg _ (by omega)
  have m1 : mx < 2 ^ 32 := by rw [← em]; exact Int.lt_trans (Int.emod_lt_of_pos _ p3) q3
  have l5 : (ρ.set 5 (some (.int mx)))[5]? = some (some (.int mx)) := List.getElem?_set_self (by omega)
  have ne5 : ∀ {i : Nat}, 5 ≠ i → (ρ.set 5 (some (D.int mx)))[i]? = ρ[i]? := fun h => List.getElem?_set_ne h
  have r3' : (ρ.set 5 (some (D.int mx)))[3]? = some (some (.int t)) := by rw [ne5 (by decide), r3]
  have b1 := mb 32 33 m0 m1 (show 0 ≤ 2 * (t : Int) + c4 by omega) (show 2 * (t : Int) + c4 < 2 ^ 33 by omega)
  have b2 := mb 32 30 (Int.le_of_lt p5) q5 t0 tt
  have b3 := mb 62 30 b2.1 b2.2 t0 tt
  refine ds_set (.mod (.intOf (.pow (.add (.add (.mul (.var l5) (.add (.mul .c (.var r3') ?_) .c) ?_) (.mul (.mul .c (.var r3') ?_) (.var r3') ?_)) .c) .c ?_)) .c p7) ?_
  · exact mul_left (show Int.natAbs 2 < 2 ^ 64 by decide)
  · exact mul_left (Nat.lt_trans (nab 32 m0 m1) (by decide))
  · exact mul_left (s1 p5 q5)
  · exact mul_right (Nat.lt_trans (nab 30 t0 tt) (by decide))
  · exact pow_ok (n := 100) (nab 100 (by omega) (by omega)) (by decide) (by decide)
  generalize (mx * (2 * (t : Int) + c4) + c5 * (t : Int) * (t : Int) + c6) ^ Int.toNat 3 % c7 = my
  refine ds_ret (.mod (.intOf (.fdiv (.var (List.getElem?_set_self (by rw [List.length_set]; omega))) .c (div_ok (by decide) (by decide +kernel)))) (.var ?_) (by omega)) (k _ (Int.emod_nonneg _ (by omega)) (Int.emod_lt_of_pos _ (by omega)))
  rw [List.getElem?_set_ne (by decide), ne5 (by decide), r1]
def finD : DS := (dSeq (dSetIx (dOp (fIntC CDivW fun i j => .int (i / j)) (dVar 2) (dVar 1)) (dVar 0) (dC (.int 2))) (dRet (dOp (fIntC (fun _ j => 0 < j) fun i j => .int (i % j)) (dCal fIntOf (dCons (dVar 2) dNil)) (dVar 1))))
theorem fin_ok {E : DEnds} {ρ : En} {G : Gm} {n q t r : Int} {a : Addr} {cs : List Int} (hn : 1 ≤ n) (hn2 : n < 2 ^ 8000) (r0 : ρ[0]? = some (some (.ref a))) (r1 : ρ[1]? = some (some (.int n))) (r2 : ρ[2]? = some (some (.int q)))
    (hg : G a = some (.lst [.lst (cs.map D.int), .int t, .int r])) (k : ∀ v, 0 ≤ v → v < n → E.rt (.int v) (gup G a (.lst [.lst (cs.map D.int), .int t, .int (q / n)]))) : finD E ρ G := by
  refine ds_setIx (.fdiv (.var r2) (.var r1) (div_ok hn hn2)) (.var r0) .c hg (j := 2) rfl ?_
  exact ds_ret (.mod (.intOf (.var r2)) (.var r1) (by omega)) (k _ (Int.emod_nonneg _ (by omega)) (Int.emod_lt_of_pos _ (by omega)))
theorem ne_nil_eqv {cs : List Int} : D.eqv (.lst (cs.map D.int)) (.lst []) = cs.isEmpty := by
  have key : ∀ cs : List Int, D.pyL (cs.map D.int) = some (cs.map PyData.int) := fun cs => by
    induction cs with
    | nil => rfl
    | cons c cs ih => simp only [List.map_cons, D.pyL, ih, D.py]
  have e1 : D.py (.lst (cs.map D.int)) = some (.list (cs.map PyData.int)) := by simp only [D.py, key, Option.map_some]
  rw [eqv_of e1 (q := .list []) rfl]
  cases cs <;> rfl
theorem cmp_ints (cs : List Int) : Cmp (.lst (cs.map D.int)) := by
  have l : ∀ cs : List Int, D.layL (cs.map D.int) = true := fun cs => by
    induction cs with
    | nil => rfl
    | cons c cs ih => simp only [List.map_cons, D.layL, ih, D.lay, Bool.and_self]
  have d : ∀ cs : List Int, D.dpL (cs.map D.int) = 0 := fun cs => by
    induction cs with
    | nil => rfl
    | cons c cs ih => simp only [List.map_cons, D.dpL, ih, D.dp, Nat.max_self]
  exact ⟨by simp only [D.lay, l], by simp only [D.dp, d]; decide⟩
theorem Ev.eqNil {ρ : En} {G : Gm} {da : DE} {cs : List Int} (ha : Ev da ρ G (.lst (cs.map D.int))) : Ev (dOp fEq da (dLst dNil)) ρ G (.bl cs.isEmpty) := .op ha (.lst .nil (Nat.zero_le _)) ⟨cmp_ints cs, cmp_ints [], by rw [ne_nil_eqv]⟩
theorem Ev.neNil {ρ : En} {G : Gm} {da : DE} {cs : List Int} (ha : Ev da ρ G (.lst (cs.map D.int))) : Ev (dOp fNe da (dLst dNil)) ρ G (.bl (!cs.isEmpty)) := .op ha (.lst .nil (Nat.zero_le _)) ⟨cmp_ints cs, cmp_ints [], by rw [ne_nil_eqv]⟩
theorem ten18 : CPw 10 18 := pow_ok (n := 4) (by decide) (by decide) (by decide)
theorem dialA_ok {c0 c1 c2 c3 c4 c5 c6 c7 : Int} (h0 : Sml c0) (h1 : Sml c1) (h2 : Sml c2) (h3 : Sml c3) (h4 : Sml c4) (h5 : Sml c5) (h6 : Sml c6) (h7 : Sml c7) (xs : List D) (G : Gm) (R : KD) (RX : XD) (h : spDial xs G R RX) :
    dialA c0 c1 c2 c3 c4 c5 c6 c7 { nx := fun _ G => R .non G, rt := R } (xs.map some ++ List.replicate (6 - xs.length) none) G := by
  obtain ⟨a, n, T, rfl, ⟨m, hg, cs, t, r, rfl, hcs, ht, hr⟩, hT, hn, hn2, hR⟩ := h
  show dialA c0 c1 c2 c3 c4 c5 c6 c7 _ [some (.ref a), some (.int n), none, none, none, none] G
  have kk : ∀ {v : Int} {t' : Nat} {r' : Int}, 0 ≤ v → v < n → t' ≤ T + 1 → 0 ≤ r' → R (.int v) (gup G a (.lst [.lst (cs.map D.int), .int t', .int r'])) := fun h1 h2 h3 h4 => hR _ _ h1 h2 ⟨cs, _, _, rfl, hcs, h3, h4⟩
  have dn : ∀ {q : Int}, 0 ≤ q → 0 ≤ q / n := fun h => Int.ediv_nonneg h (by omega)
  refine ds_if (.tst (.gt (.at (.var rfl) .c (seq_ref hg) rfl) .c)) ?_
  split
  · rename_i hr1
    refine ds_set (.intOf (.at (.var rfl) .c (seq_ref hg) rfl)) ?_
    exact fin_ok hn hn2 rfl rfl rfl hg fun v v0 v1 => kk v0 v1 (by omega) (dn hr)
  refine ds_set (.at (.var rfl) .c (seq_ref hg) rfl) ?_
  refine ds_setIx (.add (.var rfl) .c) (.var rfl) .c hg (j := 1) rfl ?_
  have kk2 : ∀ {v : Int} {r' : Int}, 0 ≤ v → v < n → 0 ≤ r' → R (.int v) (gup G a (.lst [.lst (cs.map D.int), .int ((t : Int) + 1), .int r'])) := fun h1 h2 h4 => kk (t' := t + 1) h1 h2 (by omega) h4
  have hg1 : gup G a (.lst ([D.lst (cs.map D.int), .int t, .int r].set 1 (.int ((t : Int) + 1)))) a = some (.lst [.lst (cs.map D.int), .int ((t : Int) + 1), .int r]) := gup_same
  refine ds_if (.tst (.eqNil (.at (.var rfl) .c (seq_ref hg1) rfl))) ?_
  split
  · exact ds_ret .c (kk2 (by omega) (by omega) hr)
  rename_i hne
  have hne2 : cs ≠ [] := fun e => hne (by rw [e]; rfl)
  obtain ⟨cell, hcell⟩ := atI_mod hne2 t
  refine ds_set (.at (.at (.var rfl) .c (seq_ref hg1) rfl) (.mod (.intOf (.var rfl)) (.len (.at (.var rfl) .c (seq_ref hg1) rfl) seq_lst) ?_) seq_lst hcell) ?_
  · rw [List.length_map]
    have := List.length_pos_iff.mpr hne2
    omega
  refine ds_if (.and (.tst (.lt (.var rfl) (.len (.at (.var rfl) .c (seq_ref hg1) rfl) seq_lst))) (.tst (.ge (.absN (.var rfl)) (.pow .c .c ten18)))) ?_
  split
  · rename_i hb
    rw [Bool.and_eq_true] at hb
    have hb2 := of_decide_eq_true hb.2
    refine ds_set (.add (.mul .c (.sub (.absN (.intOf (.var rfl))) (.pow .c .c ten18)) (mul_left (show Int.natAbs 2 < 2 ^ 64 by decide))) (.intB (.lt (.var rfl) .c))) ?_
    refine fin_ok hn hn2 rfl rfl rfl hg1 fun v v0 v1 => ?_
    rw [gup_gup]
    refine kk2 v0 v1 (dn ?_)
    have : (0 : Int) ≤ if decide (cell < 0) = true then 1 else 0 := by split <;> decide
    omega
  exact tail_ok (E := { nx := fun _ G => R .non G, rt := R }) h0 h1 h2 h3 h4 h5 h6 h7 hn (by omega) rfl rfl rfl rfl fun v v0 v1 => kk2 v0 v1 hr
theorem dialB_ok {c0 c1 c2 c3 c4 c5 c6 c7 c8 c9 : Int} (h0 : Sml c0) (h1 : Sml c1) (h2 : Sml c2) (h3 : Sml c3) (h4 : Sml c4) (h5 : Sml c5) (h6 : Sml c6) (h7 : Sml c7) (h8 : Sml c8) (h9 : Sml c9) (xs : List D) (G : Gm) (R : KD) (RX : XD) (h : spDial xs G R RX) :
    dialB c0 c1 c2 c3 c4 c5 c6 c7 c8 c9 { nx := fun _ G => R .non G, rt := R } (xs.map some ++ List.replicate (6 - xs.length) none) G := by
  obtain ⟨a, n, T, rfl, ⟨m, hg, cs, t, r, rfl, hcs, ht, hr⟩, hT, hn, hn2, hR⟩ := h
  show dialB c0 c1 c2 c3 c4 c5 c6 c7 c8 c9 _ [some (.ref a), some (.int n), none, none, none, none] G
  have kk : ∀ {v : Int} {t' : Nat} {r' : Int}, 0 ≤ v → v < n → t' ≤ T + 1 → 0 ≤ r' → R (.int v) (gup G a (.lst [.lst (cs.map D.int), .int t', .int r'])) := fun h1 h2 h3 h4 => hR _ _ h1 h2 ⟨cs, _, _, rfl, hcs, h3, h4⟩
  have dn : ∀ {q : Int}, 0 ≤ q → 0 ≤ q / n := fun h => Int.ediv_nonneg h (by omega)
  refine ds_if (.tst (.gt (.at (.var rfl) .c (seq_ref hg) rfl) .c)) ?_
  split
  · rename_i hr1
    refine ds_set (.intOf (.at (.var rfl) .c (seq_ref hg) rfl)) ?_
    exact fin_ok hn hn2 rfl rfl rfl hg fun v v0 v1 => kk v0 v1 (by omega) (dn hr)
  refine ds_set (.at (.var rfl) .c (seq_ref hg) rfl) ?_
  refine ds_setIx (.add (.var rfl) .c) (.var rfl) .c hg (j := 1) rfl ?_
  have kk2 : ∀ {v : Int} {r' : Int}, 0 ≤ v → v < n → 0 ≤ r' → R (.int v) (gup G a (.lst [.lst (cs.map D.int), .int ((t : Int) + 1), .int r'])) := fun h1 h2 h4 => kk (t' := t + 1) h1 h2 (by omega) h4
  have hg1 : gup G a (.lst ([D.lst (cs.map D.int), .int t, .int r].set 1 (.int ((t : Int) + 1)))) a = some (.lst [.lst (cs.map D.int), .int ((t : Int) + 1), .int r]) := gup_same
  refine ds_set (.add (.mul .c (.var rfl) (mul_left (Nat.lt_trans (nab 32 (Int.le_of_lt h0.1) h0.2) (by decide)))) .c) ?_
  have go : ∀ (cell : Int), (dSeq (dIfS (dAnd (dTst (dOp (fInt gLt) (dVar 3) (dCal fLen (dCons (dIx (dVar 0) (dC (.int 0))) dNil)))) (dTst (dOp (fInt gGe) (dCal fAbs (dCons (dVar 4) dNil)) (dOp (fIntC CPw fun i j => .int (i ^ j.toNat)) (dC (.int 10)) (dC (.int 18)))))) (dSeq (dSet 2 (dOp fAdd (dOp (fIntC IntMulOk fun i j => .int (i * j)) (dC (.int 2)) (dOp (fInt fun i j => .int (i - j)) (dCal fAbs (dCons (dCal fIntOf (dCons (dVar 4) dNil)) dNil)) (dOp (fIntC CPw fun i j => .int (i ^ j.toNat)) (dC (.int 10)) (dC (.int 18))))) (dCal fIntOf (dCons (dOp (fInt gLt) (dVar 4) (dC (.int 0))) dNil)))) (dSeq (dSetIx (dOp (fIntC CDivW fun i j => .int (i / j)) (dVar 2) (dVar 1)) (dVar 0) (dC (.int 2))) (dRet (dOp (fIntC (fun _ j => 0 < j) fun i j => .int (i % j)) (dCal fIntOf (dCons (dVar 2) dNil)) (dVar 1))))) dNext) (dSeq (dSet 5 (dOp (fIntC (fun _ j => 0 < j) fun i j => .int (i % j)) (dCal fIntOf (dCons (dOp (fIntC CPw fun i j => .int (i ^ j.toNat)) (dOp fAdd (dOp fAdd (dOp (fIntC (fun _ j => 0 < j) fun i j => .int (i % j)) (dCal fIntOf (dCons (dVar 4) dNil)) (dC (.int c2))) (dOp (fIntC IntMulOk fun i j => .int (i * j)) (dC (.int c3)) (dVar 3))) (dC (.int c4))) (dC (.int 5))) dNil)) (dC (.int c5)))) (dSeq (dSet 5 (dOp (fIntC (fun _ j => 0 < j) fun i j => .int (i % j)) (dCal fIntOf (dCons (dOp (fIntC CPw fun i j => .int (i ^ j.toNat)) (dOp fAdd (dOp fAdd (dOp (fIntC IntMulOk fun i j => .int (i * j)) (dVar 5) (dOp fAdd (dOp (fIntC IntMulOk fun i j => .int (i * j)) (dC (.int 2)) (dVar 3)) (dC (.int c6)))) (dOp (fIntC IntMulOk fun i j => .int (i * j)) (dOp (fIntC IntMulOk fun i j => .int (i * j)) (dC (.int c7)) (dVar 3)) (dVar 3))) (dC (.int c8))) (dC (.int 3))) dNil)) (dC (.int c9)))) (dRet (dOp (fIntC (fun _ j => 0 < j) fun i j => .int (i % j)) (dCal fIntOf (dCons (dOp (fIntC CDivW fun i j => .int (i / j)) (dVar 5) (dC (.int 64))) dNil)) (dVar 1)))))) { nx := fun _ G => R .non G, rt := R } [some (.ref a), some (.int n), none, some (.int t), some (.int cell), none] (gup G a (.lst [.lst (cs.map D.int), .int ((t : Int) + 1), .int r])) := fun cell => by
      refine ds_if (.and (.tst (.lt (.var rfl) (.len (.at (.var rfl) .c (seq_ref hg1) rfl) seq_lst))) (.tst (.ge (.absN (.var rfl)) (.pow .c .c ten18)))) ?_
      split
      · rename_i hb
        rw [Bool.and_eq_true] at hb
        have hb2 := of_decide_eq_true hb.2
        refine ds_set (.add (.mul .c (.sub (.absN (.intOf (.var rfl))) (.pow .c .c ten18)) (mul_left (show Int.natAbs 2 < 2 ^ 64 by decide))) (.intB (.lt (.var rfl) .c))) ?_
        refine fin_ok hn hn2 rfl rfl rfl hg1 fun v v0 v1 => ?_
        rw [gup_gup]
        refine kk2 v0 v1 (dn ?_)
        have : (0 : Int) ≤ if decide (cell < 0) = true then 1 else 0 := by split <;> decide
        omega
      exact tail_ok (E := { nx := fun _ G => R .non G, rt := R }) h2 h3 h4 h5 h6 h7 h8 h9 hn (by omega) rfl rfl rfl rfl fun v v0 v1 => kk2 v0 v1 hr
  refine ds_if (.tst (.neNil (.at (.var rfl) .c (seq_ref hg1) rfl))) ?_
  split
  · rename_i hne
    have hne2 : cs ≠ [] := fun e => by
      rw [e] at hne
      cases hne
    obtain ⟨cell, hcell⟩ := atI_mod hne2 t
    refine ds_set (.at (.at (.var rfl) .c (seq_ref hg1) rfl) (.mod (.intOf (.var rfl)) (.len (.at (.var rfl) .c (seq_ref hg1) rfl) seq_lst) ?_) seq_lst hcell) (go cell)
    rw [List.length_map]
    have := List.length_pos_iff.mpr hne2
    omega
  · exact go _
theorem dialC_ok {c0 c1 c2 c3 c4 c5 c6 c7 c8 c9 : Int} (h0 : Sml c0) (h1 : Sml c1) (h2 : Sml c2) (h3 : Sml c3) (h4 : Sml c4) (h5 : Sml c5) (h6 : Sml c6) (h7 : Sml c7) (h8 : Sml c8) (h9 : Sml c9) (xs : List D) (G : Gm) (R : KD) (RX : XD) (h : spDial xs G R RX) :
    dialC c0 c1 c2 c3 c4 c5 c6 c7 c8 c9 { nx := fun _ G => R .non G, rt := R } (xs.map some ++ List.replicate (6 - xs.length) none) G := by
  obtain ⟨a, n, T, rfl, ⟨m, hg, cs, t, r, rfl, hcs, ht, hr⟩, hT, hn, hn2, hR⟩ := h
  show dialC c0 c1 c2 c3 c4 c5 c6 c7 c8 c9 _ [some (.ref a), some (.int n), none, none, none, none] G
  have kk : ∀ {v : Int} {t' : Nat} {r' : Int}, 0 ≤ v → v < n → t' ≤ T + 1 → 0 ≤ r' → R (.int v) (gup G a (.lst [.lst (cs.map D.int), .int t', .int r'])) := fun h1 h2 h3 h4 => hR _ _ h1 h2 ⟨cs, _, _, rfl, hcs, h3, h4⟩
  have dn : ∀ {q : Int}, 0 ≤ q → 0 ≤ q / n := fun h => Int.ediv_nonneg h (by omega)
  refine ds_if (.tst (.gt (.at (.var rfl) .c (seq_ref hg) rfl) .c)) ?_
  split
  · rename_i hr1
    refine ds_set (.intOf (.at (.var rfl) .c (seq_ref hg) rfl)) ?_
    exact fin_ok hn hn2 rfl rfl rfl hg fun v v0 v1 => kk v0 v1 (by omega) (dn hr)
  refine ds_set (.at (.var rfl) .c (seq_ref hg) rfl) ?_
  refine ds_setIx (.add (.var rfl) .c) (.var rfl) .c hg (j := 1) rfl ?_
  have kk2 : ∀ {v : Int} {r' : Int}, 0 ≤ v → v < n → 0 ≤ r' → R (.int v) (gup G a (.lst [.lst (cs.map D.int), .int ((t : Int) + 1), .int r'])) := fun h1 h2 h4 => kk (t' := t + 1) h1 h2 (by omega) h4
  have hg1 : gup G a (.lst ([D.lst (cs.map D.int), .int t, .int r].set 1 (.int ((t : Int) + 1)))) a = some (.lst [.lst (cs.map D.int), .int ((t : Int) + 1), .int r]) := gup_same
  refine ds_set (.add (.mul .c (.var rfl) (mul_left (Nat.lt_trans (nab 32 (Int.le_of_lt h0.1) h0.2) (by decide)))) .c) ?_
  have go : ∀ (cell : Int), (dSeq (dIfS (dAnd (dTst (dOp (fInt gLt) (dVar 3) (dCal fLen (dCons (dIx (dVar 0) (dC (.int 0))) dNil)))) (dTst (dOp (fInt gGe) (dCal fAbs (dCons (dVar 4) dNil)) (dOp (fIntC CPw fun i j => .int (i ^ j.toNat)) (dC (.int 10)) (dC (.int 18)))))) (dSeq (dSet 2 (dOp fAdd (dOp (fIntC IntMulOk fun i j => .int (i * j)) (dC (.int 2)) (dOp (fInt fun i j => .int (i - j)) (dCal fAbs (dCons (dVar 4) dNil)) (dOp (fIntC CPw fun i j => .int (i ^ j.toNat)) (dC (.int 10)) (dC (.int 18))))) (dCal fIntOf (dCons (dOp (fInt gLt) (dVar 4) (dC (.int 0))) dNil)))) (dSeq (dSetIx (dOp (fIntC CDivW fun i j => .int (i / j)) (dVar 2) (dVar 1)) (dVar 0) (dC (.int 2))) (dRet (dOp (fIntC (fun _ j => 0 < j) fun i j => .int (i % j)) (dCal fIntOf (dCons (dVar 2) dNil)) (dVar 1))))) dNext) (dSeq (dSet 5 (dOp (fIntC (fun _ j => 0 < j) fun i j => .int (i % j)) (dCal fIntOf (dCons (dOp (fIntC CPw fun i j => .int (i ^ j.toNat)) (dOp fAdd (dOp fAdd (dOp (fIntC (fun _ j => 0 < j) fun i j => .int (i % j)) (dCal fIntOf (dCons (dVar 4) dNil)) (dC (.int c2))) (dOp (fIntC IntMulOk fun i j => .int (i * j)) (dC (.int c3)) (dVar 3))) (dC (.int c4))) (dC (.int 5))) dNil)) (dC (.int c5)))) (dSeq (dSet 5 (dOp (fIntC (fun _ j => 0 < j) fun i j => .int (i % j)) (dCal fIntOf (dCons (dOp (fIntC CPw fun i j => .int (i ^ j.toNat)) (dOp fAdd (dOp fAdd (dOp (fIntC IntMulOk fun i j => .int (i * j)) (dVar 5) (dOp fAdd (dOp (fIntC IntMulOk fun i j => .int (i * j)) (dC (.int 2)) (dVar 3)) (dC (.int c6)))) (dOp (fIntC IntMulOk fun i j => .int (i * j)) (dOp (fIntC IntMulOk fun i j => .int (i * j)) (dC (.int c7)) (dVar 3)) (dVar 3))) (dC (.int c8))) (dC (.int 3))) dNil)) (dC (.int c9)))) (dRet (dOp (fIntC (fun _ j => 0 < j) fun i j => .int (i % j)) (dCal fIntOf (dCons (dOp (fIntC CDivW fun i j => .int (i / j)) (dVar 5) (dC (.int 64))) dNil)) (dVar 1)))))) { nx := fun _ G => R .non G, rt := R } [some (.ref a), some (.int n), none, some (.int t), some (.int cell), none] (gup G a (.lst [.lst (cs.map D.int), .int ((t : Int) + 1), .int r])) := fun cell => by
      refine ds_if (.and (.tst (.lt (.var rfl) (.len (.at (.var rfl) .c (seq_ref hg1) rfl) seq_lst))) (.tst (.ge (.absN (.var rfl)) (.pow .c .c ten18)))) ?_
      split
      · rename_i hb
        rw [Bool.and_eq_true] at hb
        have hb2 := of_decide_eq_true hb.2
        refine ds_set (.add (.mul .c (.sub (.absN (.var rfl)) (.pow .c .c ten18)) (mul_left (show Int.natAbs 2 < 2 ^ 64 by decide))) (.intB (.lt (.var rfl) .c))) ?_
        refine fin_ok hn hn2 rfl rfl rfl hg1 fun v v0 v1 => ?_
        rw [gup_gup]
        refine kk2 v0 v1 (dn ?_)
        have : (0 : Int) ≤ if decide (cell < 0) = true then 1 else 0 := by split <;> decide
        omega
      exact tail_ok (E := { nx := fun _ G => R .non G, rt := R }) h2 h3 h4 h5 h6 h7 h8 h9 hn (by omega) rfl rfl rfl rfl fun v v0 v1 => kk2 v0 v1 hr
  refine ds_if (.tst (.neNil (.at (.var rfl) .c (seq_ref hg1) rfl))) ?_
  split
  · rename_i hne
    have hne2 : cs ≠ [] := fun e => by
      rw [e] at hne
      cases hne
    obtain ⟨cell, hcell⟩ := atI_mod hne2 t
    refine ds_set (.at (.at (.var rfl) .c (seq_ref hg1) rfl) (.mod (.intOf (.var rfl)) (.len (.at (.var rfl) .c (seq_ref hg1) rfl) seq_lst) ?_) seq_lst hcell) (go cell)
    rw [List.length_map]
    have := List.length_pos_iff.mpr hne2
    omega
  · exact go _
end DL

/-! DL11: what draws; the greatest common divisor; the package's small tests. -/
namespace DL
open PySem PySem.Spec PyProof.Rows L2 Evl

section
variable {ρ : En} {G : Gm} {da db dc : DE} {dA : DA} {x y z : D} {xs : List D} {ta tb : DT} {j k : Bool}
theorem EvT.orT (ha : EvT ta ρ G true) : EvT (dOr ta tb) ρ G true := fun R r => ha _ r
theorem EvT.orF (ha : EvT ta ρ G false) (hb : EvT tb ρ G k) : EvT (dOr ta tb) ρ G k := fun R r => ha _ (hb _ r)
theorem EvT.andT (ha : EvT ta ρ G true) (hb : EvT tb ρ G k) : EvT (dAnd ta tb) ρ G k := fun R r => ha _ (hb _ r)
theorem EvT.andF (ha : EvT ta ρ G false) : EvT (dAnd ta tb) ρ G false := fun R r => ha _ r
theorem Ev.andT (ha : Ev da ρ G (.bl true)) (hb : Ev db ρ G z) : Ev (dAndV da db) ρ G z := fun R r => ha _ ⟨true, rfl, hb _ r⟩
theorem Ev.andF (ha : Ev da ρ G (.bl false)) : Ev (dAndV da db) ρ G (.bl false) := fun R r => ha _ ⟨false, rfl, r⟩
theorem Ev.and2 (ha : Ev da ρ G (.bl j)) (hb : j = true → Ev db ρ G (.bl k)) : Ev (dAndV da db) ρ G (.bl (j && k)) := fun R r => ha _ ⟨j, rfl, by
  cases j with
  | true => exact hb rfl _ r
  | false => exact r⟩
theorem Ev.or2 (ha : Ev da ρ G (.bl j)) (hb : j = false → Ev db ρ G (.bl k)) : Ev (dOrV da db) ρ G (.bl (j || k)) := fun R r => ha _ ⟨j, rfl, by
  cases j with
  | true => exact r
  | false => exact hb rfl _ r⟩
theorem Ev.orT (ha : Ev da ρ G (.bl true)) : Ev (dOrV da db) ρ G (.bl true) := fun R r => ha _ ⟨true, rfl, r⟩
theorem Ev.orF (ha : Ev da ρ G (.bl false)) (hb : Ev db ρ G z) : Ev (dOrV da db) ρ G z := fun R r => ha _ ⟨false, rfl, hb _ r⟩
theorem Ev.notV (ha : Ev da ρ G (.bl j)) : Ev (dNotV da) ρ G (.bl (!j)) := fun R r => ha _ ⟨j, rfl, r⟩
theorem Ev.isN (ha : Ev da ρ G x) : Ev (dIsN da) ρ G (.bl x.isN) := fun R r => ha _ r
theorem Ev.ifT (ha : EvT ta ρ G true) (hb : Ev da ρ G z) : Ev (dIf ta da db) ρ G z := fun R r => ha _ (hb _ r)
theorem Ev.ifF (ha : EvT ta ρ G false) (hb : Ev db ρ G z) : Ev (dIf ta da db) ρ G z := fun R r => ha _ (hb _ r)
theorem Ev.call {q : DSp} (ha : EvA dA ρ G xs) (h : ∀ R, R z G → q xs G R X0) : Ev (dCall q X0 dA) ρ G z := fun R r => ha _ (h R r)
theorem Ev.callK {q : DSp} {o : Ord} (ha : EvA dA ρ G xs) (h : ∀ R, R z G → q (o.go xs) G R X0) : Ev (dCallK q o X0 dA) ρ G z := fun R r => ha _ (h R r)
theorem Ev.neg {i : Int} (ha : Ev da ρ G (.int i)) : Ev (dNeg da) ρ G (.int (-i)) := fun R r => ha _ ⟨i, rfl, r⟩
theorem Ev.isi {n t : String} (ha : Ev da ρ G x) (h : x.tyn = some t) : Ev (dCal (fIsi n) (dCons da (dCons (dC (.ty n)) dNil))) ρ G (.bl (isK t n)) := .cal (.cons ha (.one .c)) ⟨x, t, rfl, h, rfl⟩
theorem Ev.isiT {ns : List String} {t : String} (ha : Ev da ρ G x) (h : x.tyn = some t) : Ev (dIsiT ns da) ρ G (.bl (ns.any (isK t))) := fun R r => ha _ ⟨t, h, r⟩
theorem Ev.eqI {i j : Int} (ha : Ev da ρ G (.int i)) (hb : Ev db ρ G (.int j)) : Ev (dOp fEq da db) ρ G (.bl (decide (i = j))) := .op ha hb rfl
theorem Ev.neI {i j : Int} (ha : Ev da ρ G (.int i)) (hb : Ev db ρ G (.int j)) : Ev (dOp fNe da db) ρ G (.bl (!decide (i = j))) := .op ha hb rfl
theorem Ev.neS {i j : Str} (ha : Ev da ρ G (.str i)) (hb : Ev db ρ G (.str j)) : Ev (dOp fNe da db) ρ G (.bl (!decide (i = j))) := .op ha hb rfl
theorem Ev.repr (ha : Ev da ρ G x) (h : RepOk x) : Ev (dCal fRepr (dCons da dNil)) ρ G (.str x.shown) := .cal (.one ha) ⟨x, rfl, h, rfl⟩
theorem ds_call {E : DEnds} {q : DSp} {i : Nat} (ha : EvA dA ρ G xs) (h : q xs G (fun x G1 => E.nx (ρ.set i (some x)) G1) X0) : dSet i (dCall q X0 dA) E ρ G := ha _ h
theorem ds_par {E : DEnds} {i j : Nat} (ha : Ev da ρ G x) (hb : Ev db ρ G y) (h : E.nx ((ρ.set i (some x)).set j (some y)) G) : dPar i j (dCons da (dCons db dNil)) E ρ G := ha _ (hb _ ⟨x, y, rfl, h⟩)
theorem Ev.cast {z' : D} (h : Ev da ρ G z) (e : z = z') : Ev da ρ G z' := e ▸ h
theorem EvT.cast (h : EvT ta ρ G j) (e : j = k) : EvT ta ρ G k := e ▸ h
end

/-! ### what draws -/
theorem gup_self {G : Gm} {a : Addr} {m : Mt} (h : G a = some m) : gup G a m = G := by
  funext b
  unfold gup
  split
  · rename_i e
    rw [e, h]
  · rfl
/-- d draws k times at most, and comes to something that P tells of -/
def Drw (d : DE) (ρ : En) (a : Addr) (k : Nat) (P : D → Prop) : Prop := ∀ (G : Gm) (T : Nat) (R : KD), GauAt G a T → T + k ≤ 1000000000 → (∀ x m, P x → Gau m (T + k) → R x (gup G a m)) → d ρ G R
def DrwA (d : DA) (ρ : En) (a : Addr) (k : Nat) (P : List D → Prop) : Prop := ∀ (G : Gm) (T : Nat) (R : List D → Gm → Prop), GauAt G a T → T + k ≤ 1000000000 → (∀ x m, P x → Gau m (T + k) → R x (gup G a m)) → d ρ G R
section
variable {ρ : En} {a : Addr} {j k : Nat} {da db : DE} {dA : DA} {P P2 P3 : D → Prop} {PL : List D → Prop}
theorem Drw.ev {z : D} (h : ∀ G, Ev da ρ G z) (hp : P z) : Drw da ρ a 0 P := fun G T R ⟨m, hg, hm⟩ _ r => h G R (by
  rw [← gup_self hg]
  exact r z m hp hm)
theorem Drw.mono (h : Drw da ρ a k P) (hp : ∀ x, P x → P2 x) : Drw da ρ a k P2 := fun G T R hg ht r => h G T R hg ht fun x m px hm => r x m (hp x px) hm
theorem Drw.le (h : Drw da ρ a k P) (l : k ≤ j) : Drw da ρ a j P := fun G T R hg ht r => h G T R hg (by omega) fun x m px hm => r x m px (hm.mono (by omega))
theorem DrwA.nil : DrwA dNil ρ a 0 (fun l => l = []) := fun G T R ⟨m, hg, hm⟩ _ r => by
  have := r [] m rfl hm
  rw [gup_self hg] at this
  exact this
theorem DrwA.cons (h : Drw da ρ a j P) (h' : DrwA dA ρ a k PL) : DrwA (dCons da dA) ρ a (j + k) (fun l => ∃ x xs, l = x :: xs ∧ P x ∧ PL xs) := fun G T R hg ht r => h G T _ hg (by omega) fun x m px hm =>
  h' _ (T + j) _ ⟨m, gup_same, hm⟩ (by omega) fun xs m' pxs hm' => by
    rw [gup_gup]
    exact r _ m' ⟨x, xs, rfl, px, pxs⟩ (by rw [← Nat.add_assoc]; exact hm')
/-- all alike -/
theorem DrwA.more (h : Drw da ρ a j P) {n : Nat} (h' : DrwA dA ρ a k (fun l => l.length = n ∧ ∀ x ∈ l, P x)) : DrwA (dCons da dA) ρ a (j + k) (fun l => l.length = n + 1 ∧ ∀ x ∈ l, P x) := fun G T R hg ht r =>
  (DrwA.cons h h') G T R hg ht fun l m ⟨x, xs, e, px, pl, pxs⟩ hm => r l m (by
    subst e
    refine ⟨by rw [List.length_cons, pl], fun y hy => ?_⟩
    rcases List.mem_cons.mp hy with e | e
    · rw [e]
      exact px
    · exact pxs y e) hm
theorem DrwA.none : DrwA dNil ρ a 0 (fun l => l.length = 0 ∧ ∀ x ∈ l, P x) := fun G T R hg ht r => DrwA.nil G T R hg ht fun l m e hm => r l m (by rw [e]; exact ⟨rfl, fun x h => nomatch h⟩) hm
theorem Drw.lst (h : DrwA dA ρ a k PL) (hp : ∀ l, PL l → l.length ≤ sizeLine ∧ P (.lst l)) : Drw (dLst dA) ρ a k P := fun G T R hg ht r => h G T _ hg ht fun l m pl hm => ⟨(hp l pl).1, r _ m (hp l pl).2 hm⟩
theorem Drw.tup (h : DrwA dA ρ a k PL) (hp : ∀ l, PL l → l.length ≤ sizeLine ∧ P (.tup l)) : Drw (dTup dA) ρ a k P := fun G T R hg ht r => h G T _ hg ht fun l m pl hm => ⟨(hp l pl).1, r _ m (hp l pl).2 hm⟩
theorem Drw.op {f : D → D → D → Prop} (h : Drw da ρ a j P) (h' : Drw db ρ a k P2) (hp : ∀ x y, P x → P2 y → ∃ z, f x y z ∧ P3 z) : Drw (dOp f da db) ρ a (j + k) P3 := fun G T R hg ht r => h G T _ hg (by omega) fun x m px hm =>
  h' _ (T + j) _ ⟨m, gup_same, hm⟩ (by omega) fun y m' py hm' => by
    obtain ⟨z, hf, hz⟩ := hp x y px py
    refine ⟨z, hf, ?_⟩
    rw [gup_gup]
    exact r z m' hz (by rw [← Nat.add_assoc]; exact hm')
theorem Drw.dial {i : Nat} {dn : DE} {n : Int} (hi : ρ[i]? = some (some (.ref a))) (hn : ∀ G, Ev dn ρ G (.int n)) (h1 : 1 ≤ n) (h2 : n < 2 ^ 8000) : Drw (dCall spDial X0 (dCons (dVar i) (dCons dn dNil))) ρ a 1 (fun x => ∃ v, x = .int v ∧ 0 ≤ v ∧ v < n) := fun G T R hg ht r =>
  (EvA.cons (Ev.var hi) (EvA.one (hn G))) _ ⟨a, n, T, rfl, hg, by omega, h1, h2, fun v m v0 v1 hm => r _ m ⟨v, rfl, v0, v1⟩ hm⟩
theorem Drw.pick {i : Nat} {dl : DE} (hi : ρ[i]? = some (some (.ref a))) (h : Drw dl ρ a k (fun x => ∃ ds, (x = .lst ds ∨ x = .tup ds) ∧ ds ≠ [] ∧ ds.length ≤ 1000000 ∧ ∀ y ∈ ds, P y)) : Drw (dCall spPick X0 (dCons (dVar i) (dCons dl dNil))) ρ a (k + 1) P := fun G T R hg ht r => by
  refine ⟨_, hi, h G T _ hg (by omega) fun x m ⟨ds, hx, h1, h2, h3⟩ hm => ?_⟩
  refine ⟨a, x, ds, T + k, rfl, hx, h1, h2, ⟨m, gup_same, hm⟩, by omega, fun v m' hv hm' => ?_⟩
  rw [gup_gup]
  exact r v m' (h3 v hv) hm'
/-- from a written list, all alike -/
theorem Drw.pickL {i n : Nat} (hi : ρ[i]? = some (some (.ref a))) (h : DrwA dA ρ a k (fun l => l.length = n ∧ ∀ x ∈ l, P x)) (hn : 1 ≤ n := by decide) (hn2 : n ≤ 1000000 := by decide) : Drw (dCall spPick X0 (dCons (dVar i) (dCons (dLst dA) dNil))) ρ a (k + 1) P :=
  .pick hi (.lst h fun l ⟨hl, hp⟩ => ⟨by rw [hl, sizeLine_eq]; omega, l, .inl rfl, fun e => by rw [e] at hl; simp at hl; omega, by omega, hp⟩)
theorem dw_set {E : DEnds} {G : Gm} {T i : Nat} (h : Drw da ρ a k P) (hg : GauAt G a T) (ht : T + k ≤ 1000000000) (hk : ∀ x m, P x → Gau m (T + k) → E.nx (ρ.set i (some x)) (gup G a m)) : dSet i da E ρ G := h G T _ hg ht hk
theorem dw_if {E : DEnds} {G : Gm} {T : Nat} {s1 s2 : DS} {PB : Bool → Prop} (h : Drw da ρ a k (fun x => ∃ b, x = .bl b ∧ PB b)) (hg : GauAt G a T) (ht : T + k ≤ 1000000000) (hk : ∀ b m, PB b → Gau m (T + k) → if b = true then s1 E ρ (gup G a m) else s2 E ρ (gup G a m)) : dIfS (dTst da) s1 s2 E ρ G :=
  h G T _ hg ht fun x m ⟨b, e, hb⟩ hm => by
    subst e
    exact ⟨b, rfl, hk b m hb hm⟩
theorem dw_ret {E : DEnds} {G : Gm} {T : Nat} (h : Drw da ρ a k P) (hg : GauAt G a T) (ht : T + k ≤ 1000000000) (hk : ∀ x m, P x → Gau m (T + k) → E.rt x (gup G a m)) : dRet da E ρ G := h G T _ hg ht hk
theorem dw_par {E : DEnds} {G : Gm} {T i i2 : Nat} (h : Drw da ρ a j P) (h' : Drw db ρ a k P2) (hg : GauAt G a T) (ht : T + (j + k) ≤ 1000000000) (hk : ∀ x y m, P x → P2 y → Gau m (T + (j + k)) → E.nx ((ρ.set i (some x)).set i2 (some y)) (gup G a m)) : dPar i i2 (dCons da (dCons db dNil)) E ρ G :=
  (DrwA.cons h (DrwA.cons h' .nil)) G T _ hg ht fun l m ⟨x, xs, e, px, y, ys, e2, py, e3⟩ hm => by
    subst e3 e2 e
    exact ⟨x, y, rfl, hk x y m px py hm⟩
end
/-- the making of a drawing list -/
def gaugeD (c : Int) : DS := dRet (dLstM (dCons (dCmp (dISeq (dSl (dVar 0) dNoP (dPart (dC (.int c))))) (gN 1) dYes (dCal fIntOf (dCons (dVar 1) dNil)) [1]) (dCons (dC (.int 0)) (dCons (dC (.int 0)) dNil))))
theorem gauge_ok {c : Int} (xs : List D) (G : Gm) (R : KD) (RX : XD) (h : spGauge xs G R RX) : gaugeD c { nx := fun _ G => R .non G, rt := R } (xs.map some ++ List.replicate (2 - xs.length) none) G := by
  obtain ⟨ns, rfl, hl, h⟩ := h
  have hc : ∃ ms : List Int, cutD (ns.map D.int) none (some c) = ms.map D.int ∧ ms.length ≤ 63 := by
    unfold cutD
    rw [← List.map_drop, ← List.map_take]
    exact ⟨_, rfl, by rw [List.length_take, List.length_drop]; omega⟩
  obtain ⟨ms, hms, hml⟩ := hc
  show dLstM _ [some (.lst (ns.map D.int)), none] G R
  refine ⟨_, rfl, c, rfl, .lst (ms.map D.int), .inl ⟨ns.map D.int, lst_lst, by rw [hms]⟩, ms.map D.int, .inl rfl, ?_⟩
  refine cmpL_map (f := id) (fun x hx S' hS => ?_) (by rw [List.length_map, sizeLine_eq, List.length_nil]; omega) ?_
  · obtain ⟨i, _, rfl⟩ := List.mem_map.mp hx
    exact Ev.intOf (ρ := _) (.var rfl) _ hS
  · rw [List.map_id, List.nil_append]
    exact ⟨by rw [sizeLine_eq, List.length_cons, List.length_cons, List.length_singleton]; omega, fun p hp => h p _ hp ⟨ms, 0, 0, rfl, hml, Nat.le_refl _, Int.le_refl _⟩⟩
def pickD : DS := dRet (dIx (dVar 1) (dCall spDial X0 (dCons (dVar 0) (dCons (dCal fLen (dCons (dVar 1) dNil)) dNil))))
theorem atI_nat {ds : List D} {i : Int} (h : 0 ≤ i) (h' : i < ds.length) : ∃ z, z ∈ ds ∧ atI ds i = some z := by
  refine ⟨ds[i.toNat]'(by omega), List.getElem_mem _, ?_⟩
  unfold atI ixN
  rw [if_pos h, if_pos h', Option.bind_some, List.getElem?_eq_getElem (by omega)]
theorem pick_ok (xs : List D) (G : Gm) (R : KD) (RX : XD) (h : spPick xs G R RX) : pickD { nx := fun _ G => R .non G, rt := R } (xs.map some ++ List.replicate (2 - xs.length) none) G := by
  obtain ⟨a, x, ds, T, rfl, hx, hne, hl, hg, ht, h⟩ := h
  have hs : SeqAt G x ds := by
    rcases hx with rfl | rfl
    · exact seq_lst
    · exact seq_tup
  have h0 := List.length_pos_iff.mpr hne
  show dIx _ _ [some (.ref a), some x] G R
  refine ⟨x, rfl, (EvA.cons (Ev.var rfl) (EvA.one (Ev.len (Ev.var rfl) hs))) _ ⟨a, ds.length, T, rfl, hg, ht, by omega, ?_, fun v m v0 v1 hm => ?_⟩⟩
  · exact Int.lt_of_lt_of_le (b := 2000000) (by omega) (by decide +kernel)
  · obtain ⟨z, hz, he⟩ := atI_nat v0 v1
    refine ⟨z, .inl ⟨ds, v, ?_, rfl, he⟩, h z m hz hm⟩
    rcases hx with rfl | rfl
    · exact seq_lst
    · exact seq_tup
end DL

/-! DL12: what the package's small tests answer. -/
namespace DL
open PySem PySem.Spec PyProof.Rows L2 Evl

theorem kn_tyn {x : D} (h : x.kn = true) : ∃ t, x.tyn = some t := by cases x <;> first | exact ⟨_, rfl⟩ | cases h
def sp_is_integer : DSp := fun xs G R _ => ∃ x, xs = [x] ∧ x.kn = true ∧ R (.bl (isIntD x)) G
def sp_is_within : DSp := fun xs G R _ => ∃ x a b l m, xs = [x, a, b] ∧ x.kn = true ∧ bndD a = some l ∧ bndD b = some m ∧ R (.bl (withinD x l m)) G
def sp_is_list : DSp := fun xs G R _ => ∃ x, xs = [x] ∧ x.kn = true ∧ R (.bl (isSeqD x)) G
def halfD (x : D) : D × D := match x with
  | .tup [a, b] => (a, b)
  | .lst [a, b] => (a, b)
  | x => (x, .int 1)
def sp_halves : DSp := fun xs G R _ => ∃ x, xs = [x] ∧ numD x = true ∧ R (.tup [(halfD x).1, (halfD x).2]) G
def sp_common : DSp := fun xs G R _ => ∃ i j : Int, xs = [.int i, .int j] ∧ R (.int (Int.gcd i j)) G
def sp_is_number : DSp := fun xs G R _ => ∃ x, xs = [x] ∧ x.kn = true ∧ R (.bl (numD x)) G
def smallD (x : D) : Bool := numD x && match halfD x with
  | (.int a, .int b) => decide ((a.natAbs : Int) ≤ 1000000) && decide (b ≤ 1000)
  | _ => false
def sp_is_small : DSp := fun xs G R _ => ∃ x, xs = [x] ∧ x.kn = true ∧ R (.bl (smallD x)) G
section
variable {ρ : En} {G : Gm} {da db dc : DE} {x a b : D} {l m : Option Int}
theorem Ev.isInteger (h : Ev da ρ G x) (hk : x.kn = true) : Ev (dCall sp_is_integer X0 (dCons da dNil)) ρ G (.bl (isIntD x)) := .call (.one h) fun R r => ⟨x, rfl, hk, r⟩
theorem Ev.isWithin (h : Ev da ρ G x) (h1 : Ev db ρ G a) (h2 : Ev dc ρ G b) (hk : x.kn = true) (hl : bndD a = some l) (hm : bndD b = some m) : Ev (dCall sp_is_within X0 (dCons da (dCons db (dCons dc dNil)))) ρ G (.bl (withinD x l m)) := .call (.cons h (.cons h1 (.one h2))) fun R r => ⟨x, a, b, l, m, rfl, hk, hl, hm, r⟩
theorem Ev.isList (h : Ev da ρ G x) (hk : x.kn = true) : Ev (dCall sp_is_list X0 (dCons da dNil)) ρ G (.bl (isSeqD x)) := .call (.one h) fun R r => ⟨x, rfl, hk, r⟩
theorem Ev.common {i j : Int} (h : Ev da ρ G (.int i)) (h1 : Ev db ρ G (.int j)) : Ev (dCall sp_common X0 (dCons da (dCons db dNil))) ρ G (.int (Int.gcd i j)) := .call (.cons h (.one h1)) fun R r => ⟨i, j, rfl, r⟩
theorem Ev.isNumber (h : Ev da ρ G x) (hk : x.kn = true) : Ev (dCall sp_is_number X0 (dCons da dNil)) ρ G (.bl (numD x)) := .call (.one h) fun R r => ⟨x, rfl, hk, r⟩
theorem Ev.halves (h : Ev da ρ G x) (hk : numD x = true) : Ev (dCall sp_halves X0 (dCons da dNil)) ρ G (.tup [(halfD x).1, (halfD x).2]) := .call (.one h) fun R r => ⟨x, rfl, hk, r⟩
theorem Ev.isSmall (h : Ev da ρ G x) (hk : x.kn = true) : Ev (dCall sp_is_small X0 (dCons da dNil)) ρ G (.bl (smallD x)) := .call (.one h) fun R r => ⟨x, rfl, hk, r⟩
end
/-- isinstance(x, int) and not isinstance(x, bool) -/
def wholeD : DE := dAndV (dCal (fIsi "int") (dCons (dVar 0) (dCons (dC (.ty "int")) dNil))) (dNotV (dCal (fIsi "bool") (dCons (dVar 0) (dCons (dC (.ty "bool")) dNil))))
theorem ev_whole {ρ : En} {G : Gm} {x : D} (h : ρ[0]? = some (some x)) (hk : x.kn = true) : Ev wholeD ρ G (.bl (isIntD x)) := by
  obtain ⟨t, ht⟩ := kn_tyn hk
  refine (Ev.and2 (.isi (.var h) ht) fun _ => .notV (.isi (.var h) ht)).cast ?_
  cases x <;> cases ht <;> first | rfl | cases hk
theorem is_integer_ok (xs : List D) (G : Gm) (R : KD) (RX : XD) (h : sp_is_integer xs G R RX) : dRet wholeD { nx := fun _ G => R .non G, rt := R } (xs.map some ++ List.replicate (1 - xs.length) none) G := by
  obtain ⟨x, rfl, hk, h⟩ := h
  exact ev_whole rfl hk _ h
def withinR : DS := (dSeq (dIfS (dNot (dTst (dCall sp_is_integer X0 (dCons (dVar 0) dNil)))) (dRet (dC (.bl false))) dNext) (dRet (dAndV (dOrV (dIsN (dVar 1)) (dOp (fInt gLe) (dVar 1) (dVar 0))) (dOrV (dIsN (dVar 2)) (dOp (fInt gLe) (dVar 0) (dVar 2))))))
theorem bnd_le {ρ : En} {G : Gm} {da db : DE} {b : D} {l : Option Int} {i : Int} (hb : bndD b = some l) (h : Ev da ρ G b) (h' : Ev db ρ G (.int i)) : Ev (dOrV (dIsN da) (dOp (fInt gLe) da db)) ρ G (.bl (leO l i)) := by
  cases b <;> cases hb
  · exact .orT (.isN h)
  · exact .orF (.isN h) (.le h h')
theorem bnd_ge {ρ : En} {G : Gm} {da db : DE} {b : D} {l : Option Int} {i : Int} (hb : bndD b = some l) (h : Ev da ρ G b) (h' : Ev db ρ G (.int i)) : Ev (dOrV (dIsN da) (dOp (fInt gLe) db da)) ρ G (.bl (geO l i)) := by
  cases b <;> cases hb
  · exact .orT (.isN h)
  · exact .orF (.isN h) (.le h' h)
theorem bnd_le2 {ρ : En} {G : Gm} {da db : DE} {b : D} {l : Option Int} {i : Int} (hb : bndD b = some l) (h : Ev da ρ G b) (h' : Ev db ρ G (.int i)) : Ev (dOrV (dIsN da) (dOp (fInt gGe) db da)) ρ G (.bl (leO l i)) := by
  cases b <;> cases hb
  · exact .orT (.isN h)
  · exact .orF (.isN h) (.ge h' h)
theorem bnd_ge2 {ρ : En} {G : Gm} {da db : DE} {b : D} {l : Option Int} {i : Int} (hb : bndD b = some l) (h : Ev da ρ G b) (h' : Ev db ρ G (.int i)) : Ev (dOrV (dIsN da) (dOp (fInt gGe) da db)) ρ G (.bl (geO l i)) := by
  cases b <;> cases hb
  · exact .orT (.isN h)
  · exact .orF (.isN h) (.ge h h')
theorem is_within_ok (xs : List D) (G : Gm) (R : KD) (RX : XD) (h : sp_is_within xs G R RX) : withinR { nx := fun _ G => R .non G, rt := R } (xs.map some ++ List.replicate (3 - xs.length) none) G := by
  obtain ⟨x, a, b, l, m, rfl, hk, ha, hb, h⟩ := h
  refine ds_if (.not (.tst (.isInteger (.var rfl) hk))) ?_
  by_cases hx : isIntD x = true
  · cases x <;> cases hx
    rename_i i
    exact (Ev.and2 (bnd_le ha (.var rfl) (.var rfl)) fun _ => bnd_ge hb (.var rfl) (.var rfl)) _ h
  · rw [if_pos (by simpa using hx)]
    refine ds_ret .c ?_
    have e : withinD x l m = false := by cases x <;> first | rfl | exact absurd rfl hx
    rw [e] at h
    exact h
theorem is_list_ok (xs : List D) (G : Gm) (R : KD) (RX : XD) (h : sp_is_list xs G R RX) : dRet (dIsiT ["list", "tuple"] (dVar 0)) { nx := fun _ G => R .non G, rt := R } (xs.map some ++ List.replicate (1 - xs.length) none) G := by
  obtain ⟨x, rfl, hk, h⟩ := h
  obtain ⟨t, ht⟩ := kn_tyn hk
  refine ((Ev.isiT (.var rfl) ht).cast ?_) _ h
  cases x <;> cases ht <;> first | rfl | cases hk
theorem num_cases {x : D} (h : numD x = true) : (∃ i, x = .int i) ∨ ∃ a b : Int, (x = .tup [.int a, .int b] ∨ x = .lst [.int a, .int b]) ∧ 2 ≤ b ∧ Int.gcd a b = 1 := by
  have key : ∀ xs, ratD (pairD xs) = true → ∃ a b : Int, xs = [.int a, .int b] ∧ 2 ≤ b ∧ Int.gcd a b = 1 := fun xs h => by
    unfold pairD at h
    split at h
    · rename_i a b
      have h2 : (decide (2 ≤ b) && decide (Int.gcd a b = 1)) = true := h
      rw [Bool.and_eq_true, decide_eq_true_eq, decide_eq_true_eq] at h2
      exact ⟨a, b, rfl, h2⟩
    · cases h
  cases x with
  | int i => exact .inl ⟨i, rfl⟩
  | tup xs =>
    obtain ⟨a, b, rfl, h2⟩ := key xs h
    exact .inr ⟨a, b, .inl rfl, h2⟩
  | lst xs =>
    obtain ⟨a, b, rfl, h2⟩ := key xs h
    exact .inr ⟨a, b, .inr rfl, h2⟩
  | _ => cases h
def halvesR : DS := (dRet (dIf (dTst (dCall sp_is_integer X0 (dCons (dVar 0) dNil))) (dTup (dCons (dVar 0) (dCons (dC (.int 1)) dNil))) (dTup (dCons (dIx (dVar 0) (dC (.int 0))) (dCons (dIx (dVar 0) (dC (.int 1))) dNil)))))
theorem halves_ok (xs : List D) (G : Gm) (R : KD) (RX : XD) (h : sp_halves xs G R RX) : halvesR { nx := fun _ G => R .non G, rt := R } (xs.map some ++ List.replicate (1 - xs.length) none) G := by
  obtain ⟨x, rfl, hk, h⟩ := h
  rcases num_cases hk with ⟨i, rfl⟩ | ⟨a, b, hx, _⟩
  · exact (Ev.ifT ((EvT.tst (.isInteger (.var rfl) rfl)).cast rfl) (.tup (.cons (.var rfl) (.one .c)) (show 2 ≤ sizeLine by decide))) _ h
  · rcases hx with rfl | rfl
    · exact (Ev.ifF ((EvT.tst (.isInteger (.var rfl) rfl)).cast rfl) (.tup (.cons (.at (.var rfl) .c seq_tup rfl) (.one (.at (.var rfl) .c seq_tup rfl))) (show 2 ≤ sizeLine by decide))) _ h
    · exact (Ev.ifF ((EvT.tst (.isInteger (.var rfl) rfl)).cast rfl) (.tup (.cons (.at (.var rfl) .c seq_lst rfl) (.one (.at (.var rfl) .c seq_lst rfl))) (show 2 ≤ sizeLine by decide))) _ h
/-- Euclid's loop over the names i, j -/
theorem while_gcd {i j : Nat} (hij : i ≠ j) {da : DE} (hda : ∀ (ρ : En) (G : Gm) (p : Int), ρ[i]? = some (some (.int p)) → Ev da ρ G (.int p)) {E : DEnds} {ρ : En} {G : Gm} {p q : Nat} (h1 : ρ[i]? = some (some (.int p))) (h2 : ρ[j]? = some (some (.int q)))
    (k : ∀ ρ', ρ'[i]? = some (some (.int (Nat.gcd p q))) → E.nx ρ' G) : dWhile (dTst (dOp (fInt gGt) (dVar j) (dC (.int 0)))) (dPar i j (dCons (dVar j) (dCons (dOp (fIntC (fun _ j => 0 < j) fun i j => .int (i % j)) da (dVar j)) dNil))) E ρ G := by
  refine ⟨fun m ρ' G' => G' = G ∧ ∃ p' : Nat, ρ'[i]? = some (some (.int p')) ∧ ρ'[j]? = some (some (.int m)) ∧ Nat.gcd p' m = Nat.gcd p q, ⟨q, rfl, p, h1, h2, rfl⟩, ?_⟩
  rintro m ρ' G' ⟨rfl, p', r1, r2, e⟩
  refine (EvT.tst (.gt (.var r2) .c)) _ ?_
  by_cases h0 : 0 < m
  · rw [if_pos (by simpa using h0)]
    refine ds_par (.var r2) (.mod (hda _ _ _ r1) (.var r2) (by omega)) ?_
    refine ⟨p' % m, Nat.mod_lt _ h0, rfl, m, ?_, ?_, ?_⟩
    · rw [List.getElem?_set_ne (fun z => hij z.symm)]
      exact List.getElem?_set_self (by
        by_cases z : i < ρ'.length
        · exact z
        · rw [List.getElem?_eq_none (by omega)] at r1
          cases r1)
    · rw [List.getElem?_set_self (by
        rw [List.length_set]
        by_cases z : j < ρ'.length
        · exact z
        · rw [List.getElem?_eq_none (by omega)] at r2
          cases r2)]
      rfl
    · rw [← e, Nat.gcd_comm p' m, Nat.gcd_rec m p', Nat.gcd_comm]
  · rw [if_neg (by simpa using h0)]
    have m0 : m = 0 := by omega
    subst m0
    refine k ρ' ?_
    rw [← e, Nat.gcd_zero_right]
    exact r1
def commonR : DS := (dSeq (dPar 0 1 (dCons (dCal fAbs (dCons (dVar 0) dNil)) (dCons (dCal fAbs (dCons (dVar 1) dNil)) dNil))) (dSeq (dWhile (dTst (dOp (fInt gGt) (dVar 1) (dC (.int 0)))) (dPar 0 1 (dCons (dVar 1) (dCons (dOp (fIntC (fun _ j => 0 < j) fun i j => .int (i % j)) (dVar 0) (dVar 1)) dNil)))) (dRet (dVar 0))))
theorem common_ok (xs : List D) (G : Gm) (R : KD) (RX : XD) (h : sp_common xs G R RX) : commonR { nx := fun _ G => R .non G, rt := R } (xs.map some ++ List.replicate (2 - xs.length) none) G := by
  obtain ⟨i, j, rfl, h⟩ := h
  refine ds_par (.absN (.var rfl)) (.absN (.var rfl)) ?_
  refine while_gcd (by decide) (fun ρ G p h => .var h) rfl rfl fun ρ' h1 => ?_
  exact ds_ret (.var h1) h
def numberR : DS := (dSeq (dIfS (dNot (dTst (dCall sp_is_list X0 (dCons (dVar 0) dNil)))) (dRet (dCall sp_is_integer X0 (dCons (dVar 0) dNil))) dNext) (dSeq (dIfS (dOr (dTst (dOp fNe (dCal fLen (dCons (dVar 0) dNil)) (dC (.int 2)))) (dOr (dNot (dTst (dCall sp_is_integer X0 (dCons (dIx (dVar 0) (dC (.int 0))) dNil)))) (dNot (dTst (dCall sp_is_within X0 (dCons (dIx (dVar 0) (dC (.int 1))) (dCons (dC (.int 2)) (dCons (dC .non) dNil)))))))) (dRet (dC (.bl false))) dNext) (dRet (dOp fEq (dCall sp_common X0 (dCons (dIx (dVar 0) (dC (.int 0))) (dCons (dIx (dVar 0) (dC (.int 1))) dNil))) (dC (.int 1))))))
/-- the two laws of the odd: not two; not ints -/
theorem rat_long {xs : List D} (h : xs.length ≠ 2) : pairD xs = none := by
  match xs, h with
  | [], _ => rfl
  | [a], _ => exact pair_1 a
  | [a, b], h => exact absurd rfl h
  | a :: b :: c :: r, _ => exact pair_3 a b c r
theorem knL_two {a b : D} (h : D.knL [a, b] = true) : a.kn = true ∧ b.kn = true := by
  simp only [D.knL, Bool.and_eq_true, and_true] at h
  exact h
theorem seq_kn {x : D} {ds : List D} (hx : x = .tup ds ∨ x = .lst ds) (hk : x.kn = true) : D.knL ds = true := by
  rcases hx with rfl | rfl
  · exact hk
  · exact hk
theorem seq_at {G : Gm} {x : D} {ds : List D} (hx : x = .tup ds ∨ x = .lst ds) : SeqAt G x ds := by
  rcases hx with rfl | rfl
  · exact seq_tup
  · exact seq_lst
theorem num_seq {x : D} {ds : List D} (hx : x = .tup ds ∨ x = .lst ds) : numD x = ratD (pairD ds) := by
  rcases hx with rfl | rfl <;> rfl
theorem is_number_ok (xs : List D) (G : Gm) (R : KD) (RX : XD) (h : sp_is_number xs G R RX) : numberR { nx := fun _ G => R .non G, rt := R } (xs.map some ++ List.replicate (1 - xs.length) none) G := by
  obtain ⟨x, rfl, hk, h⟩ := h
  refine ds_if (.not (.tst (.isList (.var rfl) hk))) ?_
  by_cases hx : isSeqD x = true
  · have hx2 : ∃ ds, x = .tup ds ∨ x = .lst ds := by cases x <;> first | exact ⟨_, .inl rfl⟩ | exact ⟨_, .inr rfl⟩ | cases hx
    obtain ⟨ds, hx2⟩ := hx2
    have hs : SeqAt G x ds := seq_at hx2
    have hd := seq_kn hx2 hk
    rw [num_seq hx2] at h
    rw [if_neg (by rw [hx]; decide)]
    by_cases h2 : ds.length = 2
    · match ds, h2 with
      | [a, b], h2 =>
        obtain ⟨ka, kb⟩ := knL_two hd
        by_cases ia : isIntD a = true
        · cases a <;> cases ia
          rename_i i
          by_cases ib : withinD b (some 2) none = true
          · cases b <;> first | cases ib | skip
            rename_i j
            refine ds_if (.orF ((EvT.tst (.neI (.len (.var rfl) hs) .c)).cast rfl) (.orF ((EvT.not (.tst (.isInteger (.at (.var rfl) .c hs rfl) ka))).cast rfl) ((EvT.not (.tst (.isWithin (.at (.var rfl) .c hs rfl) .c .c kb rfl rfl))).cast (by rw [ib])))) ?_
            refine ds_ret ((Ev.eqI (.common (.at (.var rfl) .c hs rfl) (.at (.var rfl) .c hs rfl)) .c).cast ?_) h
            have ib2 : (decide (2 ≤ j) && true) = true := ib
            rw [Bool.and_true] at ib2
            show D.bl _ = D.bl (decide (2 ≤ j) && decide (Int.gcd i j = 1))
            rw [ib2, Bool.true_and]
            congr 1
            exact decide_eq_decide.mpr (by omega)
          · refine ds_if (.orF ((EvT.tst (.neI (.len (.var rfl) hs) .c)).cast rfl) (.orF ((EvT.not (.tst (.isInteger (.at (.var rfl) .c hs rfl) ka))).cast rfl) ((EvT.not (.tst (.isWithin (.at (.var rfl) .c hs rfl) .c .c kb rfl rfl))).cast (k := true) (by simpa using ib)))) ?_
            refine ds_ret .c ?_
            have e : ratD (pairD [.int i, b]) = false := by
              cases b <;> first | rfl | skip
              rename_i j
              have ib2 : ¬ (decide (2 ≤ j) && true) = true := ib
              rw [Bool.and_true] at ib2
              show (decide (2 ≤ j) && _) = false
              rw [Bool.eq_false_iff.mpr ib2, Bool.false_and]
            rw [e] at h
            exact h
        · refine ds_if (.orF ((EvT.tst (.neI (.len (.var rfl) hs) .c)).cast rfl) (.orT ((EvT.not (.tst (.isInteger (.at (.var rfl) .c hs rfl) ka))).cast (by simpa using ia)))) ?_
          refine ds_ret .c ?_
          rw [pair_2a a b (by simpa using ia)] at h
          exact h
    · refine ds_if (.orT ((EvT.tst (.neI (.len (.var rfl) hs) .c)).cast ?_)) ?_
      · rw [Bool.not_eq_true', decide_eq_false_iff_not]
        omega
      · refine ds_ret .c ?_
        rw [rat_long h2] at h
        exact h
  · rw [if_pos (by simpa using hx)]
    refine ds_ret (.isInteger (.var rfl) hk) ?_
    have e : numD x = isIntD x := by cases x <;> first | rfl | exact absurd rfl hx
    rw [e] at h
    exact h
def smallR : DS := (dSeq (dIfS (dNot (dTst (dCall sp_is_number X0 (dCons (dVar 0) dNil)))) (dRet (dC (.bl false))) dNext) (dSeq (dAsg (dCall sp_halves X0 (dCons (dVar 0) dNil)) (gSeq 2 (gCons (gN 1) (gCons (gN 2) gNil)))) (dRet (dAndV (dOp (fInt gLe) (dCal fAbs (dCons (dVar 1) dNil)) (dC (.int 1000000))) (dOp (fInt gLe) (dVar 2) (dC (.int 1000)))))))
theorem half_cases {x : D} (h : numD x = true) : ∃ a b : Int, halfD x = (.int a, .int b) := by
  rcases num_cases h with ⟨i, rfl⟩ | ⟨a, b, hx, _⟩
  · exact ⟨i, 1, rfl⟩
  · rcases hx with rfl | rfl <;> exact ⟨a, b, rfl⟩
theorem is_small_ok (xs : List D) (G : Gm) (R : KD) (RX : XD) (h : sp_is_small xs G R RX) : smallR { nx := fun _ G => R .non G, rt := R } (xs.map some ++ List.replicate (3 - xs.length) none) G := by
  obtain ⟨x, rfl, hk, h⟩ := h
  refine ds_if (.not (.tst (.isNumber (.var rfl) hk))) ?_
  by_cases hx : numD x = true
  · rw [if_neg (by rw [hx]; decide)]
    obtain ⟨a, b, e⟩ := half_cases hx
    refine (Ev.halves (.var rfl) hx) _ ⟨_, seq_tup, rfl, _, _, rfl, _, _, rfl, rfl, ?_⟩
    rw [e]
    refine ds_ret (.and2 (.le (.absN (.var rfl)) .c) fun _ => .le (.var rfl) .c) ?_
    unfold smallD at h
    rw [hx, e, Bool.true_and] at h
    exact h
  · rw [if_pos (by simpa using hx)]
    refine ds_ret .c ?_
    unfold smallD at h
    rw [Bool.eq_false_iff.mpr hx, Bool.false_and] at h
    exact h
end DL

/-! DL13: the law's end. -/
namespace DL
open PySem PySem.Spec PyProof.Rows L2 Evl

/-- a def of the top, as the head tells it -/
structure Df (K : PySem.W.Frag) (mg : Str → Option Value) (x : Str) (st : Stmt) : Prop where
  g : mg x = some (.ref (He.ga K x))
  f : ∃ fd, FunD K x x (defArgs st) (defBody st) (defScope st) [] [] (He.ga K x) fd
theorem fund_one {K : PySem.W.Frag} {x qual : Str} {params : Arguments} {body : List Stmt} {scope : Scope} {dvs : List V} {kws : List (Str × V)} {f : Addr} {fd fd' : FuncData} (F : FunD K x qual params body scope dvs kws f fd) (F' : FunD K x qual params body scope dvs kws f fd') : fd = fd' := by
  obtain ⟨oc, od, dV, kV, doc, pm, an, cdv, ct, osl, _, lk, _⟩ := F.ex
  obtain ⟨oc', od', dV', kV', doc', pm', an', cdv', ct', osl', _, lk', _⟩ := F'.ex
  have e := lk.symm.trans lk'
  injection e with e
  injection e with _ _ e _
  injection e
theorem law_of {P : Program} {w : World} {K : PySem.W.Frag} {mg : Str → Option Value} {fa : Addr} {st : Stmt} {y : Str} {k : Nat} (hm : mg ("law" : Str) = some (.ref fa)) (F : Df K mg "law" st)
    (hb : ∀ (kV doc pm : Value) (an : Option Addr) (cdv ct : Value) (us : List Value), us.length = [y].length → bindArgs (PySem.W.fnOf "law" "law" (defArgs st) (defBody st) (defScope st) .none kV doc pm an cdv ct) ⟨us, []⟩ = pure ([y].zip us))
    (kn : ∀ base : Heap, Kn P w K mg base k "law" st [y] lawSp) : ∃ (fd : FuncData) (sp : Sp), (∀ (s : Shared) (u : Value), BindsTo s fd ⟨[u], []⟩ [(y, u)]) ∧
      (∀ (H : Hp) (a : Addr) (ns : List Int), ns.length ≤ 63 → Only H → SqL K H a (ns.map V.int) → sp [.ref a] H (fun v _ => v = .bl true) fun _ _ _ => False) ∧
      ∀ base : Heap, K.In base → base.Ns mainGlobals mg → FnG P w K mg base k fa fd [y] sp := by
  obtain ⟨fd, FD⟩ := F.f
  have e := hm.symm.trans F.g
  cases e
  refine ⟨fd, spU K lawSp, fun s u => FunD.bindsA (ps := [y]) FD hb s [u] rfl, fun H a ns hl _ hS => law_sp hl hS, fun base _ _ => ?_⟩
  obtain ⟨fd', FD', G⟩ := (kn base).fn
  rw [fund_one FD FD']
  exact G
end DL

/-! DL14: defaults; zip; a list turned; three names at once; a comprehension in a comprehension. -/
namespace DL
open PySem PySem.Spec PyProof.Rows L2 Evl

/-! ### a def with defaults -/
structure DfD (K : PySem.W.Frag) (mg : Str → Option Value) (x : Str) (st : Stmt) (dvs : List V) : Prop where
  g : mg x = some (.ref (He.ga K x))
  f : ∃ fd, FunD K x x (defArgs st) (defBody st) (defScope st) dvs [] (He.ga K x) fd
structure KnD (P : Program) (w : World) (K : PySem.W.Frag) (mg : Str → Option Value) (base : Heap) (k : Nat) (x : Str) (st : Stmt) (ps : List Str) (dvs : List V) (p : DSp) : Prop where
  g : mg x = some (.ref (He.ga K x))
  fn : ∃ fd, FunD K x x (defArgs st) (defBody st) (defScope st) dvs [] (He.ga K x) fd ∧ FnG P w K mg base k (He.ga K x) fd ps (spU K p)
section
variable {P : Program} {w : World} {K : PySem.W.Frag} {mg : Str → Option Value} {base : Heap}
theorem knd_of {x : Str} {st : Stmt} {N ps : List Str} {dvs : List V} {k : Nat} {p : DSp} (g : mg x = some (.ref (He.ga K x))) (F : ∃ fd, FunD K x x (defArgs st) (defBody st) (defScope st) dvs [] (He.ga K x) fd) (S : FnScope N ps (defScope st)) (len : ∀ xs G R RX, p xs G R RX → xs.length = ps.length)
    (hbody : ∀ (cdv : Value) (A : Around) (outer : List Env) (s : Shared) (H : Hp) (E : XK) (B : Bs) (RX : XD), Room k (A.deeper (envOfC x (defScope st) s.heap.objs.size (He.ga K x) cdv)) → (A.deeper (envOfC x (defScope st) s.heap.objs.size (He.ga K x) cdv)).guards = some [] → KX K B.f B.b RX E →
      ∃ t : DS, PSs (cxOf (L2.CX P w) P w K mg base N x (defScope st) (He.ga K x) cdv A outer s H E) (defBody st) (upS K B t) ∧ ∀ xs G R, p xs G R RX → t { nx := fun _ G => R .non G, rt := R } (xs.map some ++ List.replicate (N.length - xs.length) none) G) :
    KnD P w K mg base (k + 1) x st ps dvs p := by
  obtain ⟨fd, F⟩ := F
  refine ⟨g, fd, F, fng_of F S (fun vs H Q E h => ?_) fun cdv A outer s H vs Q E hr hg h => ?_⟩
  · obtain ⟨xs, _, _, G, R, RX, r, _, hp, _⟩ := h
    rw [r.length]
    exact len xs G R RX hp
  · obtain ⟨xs, F, Hd, G, R, RX, r, sm, hp, ke, kx⟩ := h
    obtain ⟨t, ht, h2⟩ := hbody cdv A outer s H E ⟨Hd, F⟩ RX hr hg kx
    exact ⟨_, ht, _, Hd, G, _, ⟨Ex.refl _, RpE.start r, sm⟩, h2 xs G R hp, fun σ' H' Hd' ρ' G' e _ s h => ke .non H' Hd' .non G' e s .non h, ke, fun _ _ _ _ _ _ _ _ h => h.elim, fun _ _ _ _ _ _ _ _ h => h.elim⟩
end
section
variable {X : Cx} {B : Bs} {pos p : Pos} {a b c e : Expr} {es : List Expr} {da db dc de : DE} {dA : DA}
/-- a promise at a call, the defaults ds behind what is written -/
def dCallD (q : DSp) (ds : List D) (RX : XD) (dA : DA) : DE := fun ρ G R => dA ρ G fun xs G1 => q (xs ++ ds) G1 R RX
theorem pe_callGD {k : Nat} {f : Addr} {fd : FuncData} {ps : List Str} {dvs : List V} {dus : List Value} {sp : Sp} {E : XK} {x : Str} {t : TA} (F : FnG X.prog X.w X.K X.mg X.base k f fd ps sp) (hr : Room k X.A) (hgd : X.A.guards = some []) (hg : Gl X x) (hm : X.mg x = some (.ref f)) (hk : PySem.W.keepIn X.K (.ref f) = true) (hb : Binds X.K fd ps dus) (hv : Vals dvs dus)
    (hx : Passes (L2.CX X.prog X.w) X E) (ha : PA X (e :: es) t) (hdb : (x == ("__debug__" : Str)) = false := by decide) (he : starEach (e :: es) X.env = (false, eval e X.env) :: starEach es X.env := by rfl) (hpl : (backTo pos (starEach es X.env)).any (·.1) = false := by rfl) :
    PE X (.Call (.Name x p) (e :: es) [] pos) (tCall sp dvs E t) := ⟨fun pins s σ H Q I h => by
  refine wpAny_Call_Name_kw (ld_glob I hg hm (PySem.W.callWith_K (h₀ := X.base) I.ok.mod.kin hk (thn (ha.run pos pins s σ H _ I h) fun us s1 hh => ?_) he hpl) hdb)
  obtain ⟨vs, H1, I1, r, q⟩ := hh
  have hl : (us ++ dus).length = ps.length := by
    rw [← F.len _ _ _ _ q, List.length_append, List.length_append, r.length, hv.length]
  have hb1 := hb s1 us I1.kIn hl
  refine ⟨I1.kIn, wpAny_call (codeAny_mono (run_fng F hr hgd hx I1 hb1 (r.append hv) q) fun r s2 hq => ?_)⟩
  cases r with
  | error e => exact hq
  | ok fl => cases fl <;> first | exact hq | exact hq.elim⟩
theorem pd_callD {k n j : Nat} {x : Str} {st : Stmt} {ps : List Str} {dvs : List V} {ds : List D} {q : DSp} {RX : XD} {E : XK} (h : KnD X.prog X.w X.K X.mg X.base k x st ps dvs q) (hd : dvs ≠ []) (hr : Room k X.A) (hgd : X.A.guards = some []) (hg : Gl X x) (hx : Passes (L2.CX X.prog X.w) X E) (kx : ∀ Hd, Ex B.b Hd → KX X.K B.f Hd RX E)
    (hn : n + (dvs.length - j) = ps.length) (hds : ∀ Hd, RpL X.K Hd (dvs.drop j) ds)
    (hb : ∀ (T : Addr) (kV doc pm : Value) (an : Option Addr) (cdv ct : Value) (us its : List Value), us.length = n → its.length = dvs.length →
      ∃ k, bindArgs (PySem.W.fnOf x x (defArgs st) (defBody st) (defScope st) (.ref T) kV doc pm an cdv ct) ⟨us, []⟩ = seqItems? (.ref T) >>= k ∧ k (some its.toArray) = pure (ps.zip (us ++ its.drop j)))
    (ha : PA X (e :: es) (upA X.K B dA)) (hdb : (x == ("__debug__" : Str)) = false := by decide) (he : starEach (e :: es) X.env = (false, eval e X.env) :: starEach es X.env := by rfl) (hpl : (backTo pos (starEach es X.env)).any (·.1) = false := by rfl) :
    PE X (.Call (.Name x p) (e :: es) [] pos) (upE X.K B (dCallD q ds RX dA)) := by
  obtain ⟨fd, F, G⟩ := h.fn
  obtain ⟨dus, hv, hbn⟩ := F.binds1 n j hd hn hb
  refine pe_imp (pe_callGD G hr hgd hg h.g F.kp hbn hv hx ha hdb he hpl) fun σ H Q ⟨ρ, Hd, G, R, at_, h, k⟩ => ?_
  exact ⟨ρ, Hd, G, _, at_, h, fun vs H1 Hd1 xs G1 e1 s1 r1 h1 => ⟨xs ++ ds, B.f, Hd1, G1, R, RX, r1.app (hds Hd1), s1, h1, k.mono e1, kx Hd1 (at_.b.trans e1)⟩⟩

/-! ### three names at once -/
def dPar3 (i j l : Nat) (dA : DA) : DS := fun E ρ G => dA ρ G fun xs G1 => ∃ x y z, xs = [x, y, z] ∧ E.nx (((ρ.set i (some x)).set j (some y)).set l (some z)) G1
theorem psd_par3 {i j l : Nat} {x y z : Str} {px py pz pt : Pos} {kt k2 : Nat} {pt2 : Pos} (hc : X.calm = true) (hN : X.N.Nodup) (hi : X.N[i]? = some x) (hj : X.N[j]? = some y) (hl : X.N[l]? = some z) (hij : i ≠ j) (hil : i ≠ l) (hjl : j ≠ l)
    (hx : X.env.scope.names.lookup x = some .local) (hy : X.env.scope.names.lookup y = some .local) (hz : X.env.scope.names.lookup z = some .local) (ha : PA X [a, b, c] (upA X.K B dA))
    (hw : swappedStores [.Tuple [.Name x px, .Name y py, .Name z pz] kt pt] (.Tuple [a, b, c] k2 pt2) X.env = pure (some [x, y, z])) (hs : swapsWithSole [.Tuple [.Name x px, .Name y py, .Name z pz] kt pt] (.Tuple [a, b, c] k2 pt2) pos.line X.env = pure false := by rfl) :
    PS X (.Assign [.Tuple [.Name x px, .Name y py, .Name z pz] kt pt] (.Tuple [a, b, c] k2 pt2) pos) (upS X.K B (dPar3 i j l dA)) := ps_imp (ps_par3 hc hN hi hj hl hij hil hjl hx hy hz ha hw hs) fun D σ H ⟨ρ, Hd, G, E, at_, h, k⟩ =>
  ⟨ρ, Hd, G, _, at_, h, fun vs H1 Hd1 xs G1 e1 s1 r1 ⟨x, y, z, ex, h1⟩ => by
    subst ex
    cases r1 with
    | cons rv r1 =>
      obtain ⟨u, w, rfl, ru, rw_⟩ := rpl2 r1
      exact ⟨_, u, w, rfl, k.nx _ H1 Hd1 _ G1 e1 ((((at_.e.mono e1).set i rv).set j ru).set l rw_) s1 h1⟩⟩

/-! ### xs[::-1] of a list -/
def dRev (da : DE) : DE := fun ρ G R => da ρ G fun x G1 => ∃ ds, LstAt G1 x ds ∧ R (.lst ds.reverse) G1
theorem RpL.rev {K : PySem.W.Frag} {H : Hp} {vs : List V} {ds : List D} (r : RpL K H vs ds) : RpL K H vs.reverse ds.reverse := by
  induction vs generalizing ds with
  | nil =>
    cases r
    exact .nil
  | cons v vs ih =>
    cases r with
    | cons a b =>
      rw [List.reverse_cons, List.reverse_cons]
      exact (ih b).app (.cons a .nil)
theorem pd_rev {k : Nat} {p1 p2 p3 : Pos} (he : PE X e (upE X.K B de)) : PE X (.Subscript e (.Slice none none (some (.UnaryOp .USub (.Constant (.int 1) k p1) p2)) p3) pos) (upE X.K B (dRev de)) := pe_imp (pe_revL he) fun σ H Q ⟨ρ, Hd, G, R, at_, h, k⟩ =>
  ⟨ρ, Hd, G, _, at_, h, fun v H1 Hd1 x G1 e1 s1 r1 ⟨ds, hl, h1⟩ => by
    obtain ⟨q, ys, rfl, hq, r3⟩ := hl.sq s1 r1
    exact ⟨q, ys, rfl, hq, fun pp hp => k _ _ _ _ G1 (e1.trans (s1.exn hp)) (s1.new hp) (.lst sq_new (r3.rev.mono (s1.exn hp))) h1⟩⟩

/-! ### zip of two lists, of two tuples, that never change -/
def zipD (xs ys : List D) : List D := List.zipWith (fun x y => D.tup [x, y]) xs ys
def dIZip (dA : DA) : DI := fun ρ G S => dA ρ G fun vs G1 => ∃ xs ys, (vs = [.lst xs, .lst ys] ∨ vs = [.tup xs, .tup ys]) ∧ S (zipD xs ys) G1
theorem zip_at {xs ys : List D} {i : Nat} {d : D} (h : (zipD xs ys)[i]? = some d) : ∃ x y, xs[i]? = some x ∧ ys[i]? = some y ∧ d = .tup [x, y] := by
  unfold zipD at h
  rw [List.getElem?_zipWith] at h
  cases hx : xs[i]? with
  | none =>
    rw [hx] at h
    cases h
  | some x =>
    cases hy : ys[i]? with
    | none =>
      rw [hx, hy] at h
      cases h
    | some y =>
      rw [hx, hy] at h
      exact ⟨x, y, rfl, rfl, (Option.some.inj h).symm⟩
theorem walks_zipL {K : PySem.W.Frag} {Hd : Hp} {q r : Addr} {us vs : List V} {xs ys : List D} (h : SqL K Hd q us) (h' : SqL K Hd r vs) (hr : RpL K Hd us xs) (hr' : RpL K Hd vs ys) : Walks K Hd (Itz K q r) (zipD xs ys) := fun F i H2 Hd2 G2 e s => by
  have hH : SqL K H2 q us := ex_l (e.trans s.sub) h
  have hH' : SqL K H2 r vs := ex_l (e.trans s.sub) h'
  refine ⟨fun d hd => ?_, fun hl => ⟨us, vs, hH, hH', ?_⟩⟩
  · obtain ⟨x, y, hx, hy, rfl⟩ := zip_at hd
    obtain ⟨v, hv, rv⟩ := hr.at hx
    obtain ⟨u, hu, ru⟩ := hr'.at hy
    refine ⟨⟨us, vs, v, u, hH, hH', hv, hu⟩, fun w H3 ⟨T, v', u', ew, hT, eH, h1, h2⟩ => ?_⟩
    subst ew eH
    cases Option.some.inj (hv.symm.trans (h1 us hH))
    cases Option.some.inj (hu.symm.trans (h2 vs hH'))
    exact ⟨_, s.exn hT, s.new hT, .tup st_new (.cons ((rv.mono e).mono (s.exn hT)) (.cons ((ru.mono e).mono (s.exn hT)) .nil))⟩
  · unfold zipD at hl
    rw [List.length_zipWith] at hl
    have := hr.length
    have := hr'.length
    omega
theorem walks_zipT {K : PySem.W.Frag} {Hd : Hp} {q r : Addr} {us vs : List V} {xs ys : List D} (h : SqT K Hd q us) (h' : SqT K Hd r vs) (hr : RpL K Hd us xs) (hr' : RpL K Hd vs ys) : Walks K Hd (RZ.ItzT K q r) (zipD xs ys) := fun F i H2 Hd2 G2 e s => by
  have hH : SqT K H2 q us := ex_t (e.trans s.sub) h
  have hH' : SqT K H2 r vs := ex_t (e.trans s.sub) h'
  refine ⟨fun d hd => ?_, fun hl => ⟨us, vs, hH, hH', ?_⟩⟩
  · obtain ⟨x, y, hx, hy, rfl⟩ := zip_at hd
    obtain ⟨v, hv, rv⟩ := hr.at hx
    obtain ⟨u, hu, ru⟩ := hr'.at hy
    refine ⟨⟨us, vs, v, u, hH, hH', hv, hu⟩, fun w H3 ⟨T, v', u', ew, hT, eH, h1, h2⟩ => ?_⟩
    subst ew eH
    cases Option.some.inj (hv.symm.trans (h1 us hH))
    cases Option.some.inj (hu.symm.trans (h2 vs hH'))
    exact ⟨_, s.exn hT, s.new hT, .tup st_new (.cons ((rv.mono e).mono (s.exn hT)) (.cons ((ru.mono e).mono (s.exn hT)) .nil))⟩
  · unfold zipD at hl
    rw [List.length_zipWith] at hl
    have := hr.length
    have := hr'.length
    omega
theorem pid_zip {elts : List Expr} {kk : Nat} {tpos : Pos} (hg : Gl X "zip") (hm : X.mg "zip" = none) (ha : PA X [a, b] (upA X.K B dA)) (hs : starEach [a, b] X.env = (false, eval a X.env) :: starEach [b] X.env := by rfl) (hpl : (backTo pos (starEach [b] X.env)).any (·.1) = false := by rfl) :
    PI X (.Tuple elts kk tpos) (.Call (.Name "zip" p) [a, b] [] pos) (upI X.K B (dIZip dA)) := pi_imp (RZ.pi_zipA hg hm ha hs hpl) fun σ H R ⟨ρ, Hd, G, S, at_, h, k⟩ =>
  ⟨ρ, Hd, G, _, at_, h, fun vs H1 Hd1 xs G1 e1 s1 r1 ⟨l, m, hv, h1⟩ => by
    rcases hv with rfl | rfl
    · obtain ⟨v, u, rfl, rv, ru⟩ := rpl2 r1
      cases rv with
      | lst q r =>
        cases ru with
        | lst q' r' => exact ⟨_, _, _, _, rfl, .inl ⟨ex_l s1.sub q, ex_l s1.sub q', k _ H1 Hd1 _ G1 e1 s1 (walks_zipL q q' r r') h1⟩⟩
    · obtain ⟨v, u, rfl, rv, ru⟩ := rpl2 r1
      cases rv with
      | tup q r =>
        cases ru with
        | tup q' r' => exact ⟨_, _, _, _, rfl, .inr ⟨ex_t s1.sub q, ex_t s1.sub q', k _ H1 Hd1 _ G1 e1 s1 (walks_zipT q q' r r') h1⟩⟩⟩
end
end DL

/-! DL15: numbers as pairs, lowest terms; points; wholes, labels. -/
namespace DL
open PySem PySem.Spec PyProof.Rows L2 Evl

/-! ### a datum is like itself -/
theorem eqv_self {x : D} (h : x.lay = true) : D.eqv x x = true := by
  obtain ⟨p, e, h1, _⟩ := py_lay x h
  rw [eqv_of e e]
  exact SeqAt.eqv_refl p h1
theorem lay_ints (is : List Int) : D.layL (is.map D.int) = true := by
  induction is with
  | nil => rfl
  | cons i is ih => exact (Bool.true_and _).trans ih
theorem dp_ints (is : List Int) : D.dpL (is.map D.int) = 0 := by
  induction is with
  | nil => rfl
  | cons i is ih =>
    show max 0 (D.dpL (is.map D.int)) = 0
    rw [ih]
    rfl
theorem cmp_tup {is : List Int} : Cmp (.tup (is.map D.int)) := ⟨lay_ints is, by show D.dpL _ + 1 ≤ 60; rw [dp_ints]; decide⟩
theorem cmp_tups {iss : List (List Int)} : Cmp (.tup (iss.map fun is => .tup (is.map D.int))) := by
  have h : D.layL (iss.map fun is => D.tup (is.map D.int)) = true ∧ D.dpL (iss.map fun is => D.tup (is.map D.int)) ≤ 1 := by
    induction iss with
    | nil => exact ⟨rfl, Nat.zero_le _⟩
    | cons is iss ih =>
      refine ⟨?_, ?_⟩
      · show (D.layL (is.map D.int) && D.layL (iss.map fun is => D.tup (is.map D.int))) = true
        rw [lay_ints, ih.1]
        rfl
      · show max (D.dpL (is.map D.int) + 1) (D.dpL (iss.map fun is => D.tup (is.map D.int))) ≤ 1
        rw [dp_ints]
        have := ih.2
        omega
  exact ⟨h.1, by show D.dpL _ + 1 ≤ 60; have := h.2; omega⟩
section
variable {ρ : En} {G : Gm} {da db dc : DE} {x y z : D}
theorem feq_cmp (hx : Cmp x) (hy : Cmp y) (h : ∀ i, x ≠ .int i) (h2 : ∀ i, x ≠ .str i) (h3 : ∀ i, x ≠ .bl i) : fEq x y (.bl (D.eqv x y)) := by
  unfold fEq
  split
  · exact absurd rfl (h _)
  · exact absurd rfl (h2 _)
  · exact absurd rfl (h3 _)
  · exact ⟨hx, hy, rfl⟩
theorem fne_cmp (hx : Cmp x) (hy : Cmp y) (h : ∀ i, x ≠ .int i) (h2 : ∀ i, x ≠ .str i) (h3 : ∀ i, x ≠ .bl i) : fNe x y (.bl (!D.eqv x y)) := by
  unfold fNe
  split
  · exact absurd rfl (h _)
  · exact absurd rfl (h2 _)
  · exact absurd rfl (h3 _)
  · exact ⟨hx, hy, rfl⟩
/-- two like tuples -/
theorem Ev.eqT {xs : List D} (ha : Ev da ρ G (.tup xs)) (hb : Ev db ρ G (.tup xs)) (h : Cmp (.tup xs)) : Ev (dOp fEq da db) ρ G (.bl true) := .op ha hb (by
  have e := feq_cmp h h (fun _ z => nomatch z) (fun _ z => nomatch z) (fun _ z => nomatch z)
  rw [eqv_self h.lay] at e
  exact e)
theorem Ev.neT {xs : List D} (ha : Ev da ρ G (.tup xs)) (hb : Ev db ρ G (.tup xs)) (h : Cmp (.tup xs)) : Ev (dOp fNe da db) ρ G (.bl false) := .op ha hb (by
  have e := fne_cmp h h (fun _ z => nomatch z) (fun _ z => nomatch z) (fun _ z => nomatch z)
  rw [eqv_self h.lay] at e
  exact e)
theorem Ev.neSS {i : Str} (ha : Ev da ρ G (.str i)) (hb : Ev db ρ G (.str i)) : Ev (dOp fNe da db) ρ G (.bl false) := (Ev.neS ha hb).cast (by rw [decide_eq_true rfl]; rfl)
theorem Ev.eqSS {i : Str} (ha : Ev da ρ G (.str i)) (hb : Ev db ρ G (.str i)) : Ev (dOp fEq da db) ρ G (.bl true) := .op ha hb (by
  show D.bl true = .bl (decide (i = i))
  rw [decide_eq_true rfl])
/-- the list of f(x) -/
theorem Ev.lcSeq {i : Nat} {vs : List Nat} {xs : List D} (f : D → D) (ha : Ev da ρ G x) (hx : x = .lst xs ∨ x = .tup xs) (hf : ∀ y ∈ xs, Ev db ((wipeD ρ vs).set i (some y)) G (f y)) (hz : xs.length ≤ sizeLine) : Ev (dCmp (dISeq da) (gN i) dYes db vs) ρ G (.lst (xs.map f)) := fun R r =>
  ha _ ⟨xs, hx, cmpL_map f (fun y hy S' hS => hf y hy _ hS) (by rw [List.length_nil]; omega) (by rw [List.nil_append]; exact r)⟩
theorem Ev.lcRng {i : Nat} {vs : List Nat} {n : Nat} (f : Nat → D) (ha : Ev da ρ G (.int n)) (hf : ∀ j, j < n → Ev db ((wipeD ρ vs).set i (some (.int j))) G (f j)) (hz : n ≤ sizeLine) : Ev (dCmp (dIRng1 da) (gN i) dYes db vs) ρ G (.lst ((List.range n).map f)) := fun R r => by
  have hs := hz
  rw [sizeLine_eq] at hs
  refine ha _ ⟨n, rfl, by omega, by omega, ?_⟩
  refine cmpL_map (fun d => match d with | .int j => f j.toNat | _ => .non) (fun y hy S' hS => ?_) ?_ ?_
  · obtain ⟨j, hj, rfl⟩ := List.mem_map.mp hy
    have hj2 := List.mem_range.mp hj
    have e0 : (0 : Int) + (j : Nat) = (j : Nat) := Int.zero_add _
    rw [e0] at hS ⊢
    refine hf j (by omega) _ ?_
    exact hS
  · unfold rngD
    rw [List.length_map, List.length_range, List.length_nil]
    omega
  · have e : (rngD 0 (n : Int).toNat).map (fun d => match d with | .int j => f j.toNat | _ => .non) = (List.range n).map f := by
      unfold rngD
      rw [List.map_map]
      refine List.map_congr_left fun j _ => ?_
      show f ((0 : Int) + (j : Nat)).toNat = f j
      rw [Int.zero_add]
      rfl
    rw [e, List.nil_append]
    exact r
theorem Ev.tupOf {xs : List D} (ha : Ev da ρ G x) (h : SeqAt G x xs) : Ev (dCal fTupOf (dCons da dNil)) ρ G (.tup xs) := .cal (.one ha) ⟨x, xs, rfl, h, rfl⟩
theorem Ev.all {bs : List Bool} (ha : Ev da ρ G (.lst (bs.map D.bl))) : Ev (dCal fAll (dCons da dNil)) ρ G (.bl (bs.all id)) := .cal (.one ha) ⟨_, bs, rfl, lst_lst, rfl⟩
theorem Ev.callD {q : DSp} {ds xs : List D} {dA : DA} (ha : EvA dA ρ G xs) (h : ∀ R, R z G → q (xs ++ ds) G R X0) : Ev (dCallD q ds X0 dA) ρ G z := fun R r => ha _ (h R r)
theorem Ev.chosen {t : DT} {k : Bool} (ht : EvT t ρ G k) (h1 : k = true → Ev da ρ G z) (h2 : k = false → Ev db ρ G z) : Ev (dIf t da db) ρ G z := fun R r => ht _ (by
  cases k with
  | true => exact h1 rfl _ r
  | false => exact h2 rfl _ r)
theorem ds_asg {E : DEnds} {g : DG} (ha : Ev da ρ G x) (h : g x ρ G E.nx) : dAsg da g E ρ G := ha _ h
/-- a, b = x of two items, at the names i, j -/
theorem ds_asg2 {E : DEnds} {i j : Nat} {a b : D} (ha : Ev da ρ G x) (hs : SeqAt G x [a, b]) (h : E.nx ((ρ.set i (some a)).set j (some b)) G) : dAsg da (gSeq 2 (gCons (gN i) (gCons (gN j) gNil))) E ρ G :=
  ha _ ⟨_, hs, rfl, _, _, rfl, _, _, rfl, rfl, h⟩
theorem ds_drop {E : DEnds} (ha : Ev da ρ G x) (h : E.nx ρ G) : dDrop da E ρ G := ha _ h
theorem ds_par3 {E : DEnds} {i j l : Nat} (ha : Ev da ρ G x) (hb : Ev db ρ G y) (hc : Ev dc ρ G z) (h : E.nx (((ρ.set i (some x)).set j (some y)).set l (some z)) G) : dPar3 i j l (dCons da (dCons db (dCons dc dNil))) E ρ G := ha _ (hb _ (hc _ ⟨x, y, z, rfl, h⟩))
end

/-! ### numbers -/
/-- above, under -/
def numI (x : D) : Int × Int := match x with
  | .int i => (i, 1)
  | .tup xs => (pairD xs).getD (0, 1)
  | .lst xs => (pairD xs).getD (0, 1)
  | _ => (0, 1)
theorem num_half {x : D} (h : numD x = true) : halfD x = (.int (numI x).1, .int (numI x).2) ∧ 0 < (numI x).2 := by
  rcases num_cases h with ⟨i, rfl⟩ | ⟨a, b, hx, h2, _⟩
  · exact ⟨rfl, by show (0 : Int) < 1; decide⟩
  · rcases hx with rfl | rfl
    · exact ⟨rfl, by show 0 < b; omega⟩
    · exact ⟨rfl, by show 0 < b; omega⟩
/-- of no great size: below 2 ^ k -/
def Bn (k : Nat) (x : D) : Prop := (numI x).1.natAbs < 2 ^ k ∧ (numI x).2.natAbs < 2 ^ k
/-- a over u in lowest terms -/
def lowD (a u : Int) : D := if u / (Int.gcd a u : Int) = 1 then .int (a / (Int.gcd a u : Int)) else .tup [.int (a / (Int.gcd a u : Int)), .int (u / (Int.gcd a u : Int))]
theorem gcd_facts {a u : Int} (hu : 0 < u) : ∃ g n d : Int, (Int.gcd a u : Int) = g ∧ 0 < g ∧ a = g * n ∧ u = g * d ∧ 0 < d ∧ a / g = n ∧ u / g = d ∧ Int.gcd n d = 1 ∧ g ≤ u := by
  have hg : 0 < Int.gcd a u := Int.gcd_pos_of_ne_zero_right a (by omega)
  have hg' : (0 : Int) < (Int.gcd a u : Int) := by omega
  obtain ⟨n, hn⟩ := Int.gcd_dvd_left a u
  obtain ⟨d, hd⟩ := Int.gcd_dvd_right a u
  have e1 : a / (Int.gcd a u : Int) = n := by
    conv => lhs; lhs; rw [hn]
    exact Int.mul_ediv_cancel_left n (by omega)
  have e2 : u / (Int.gcd a u : Int) = d := by
    conv => lhs; lhs; rw [hd]
    exact Int.mul_ediv_cancel_left d (by omega)
  have hd0 : 0 < d := by
    refine Int.pos_of_mul_pos_left ?_ hg'
    rw [Int.mul_comm, ← hd]
    exact hu
  refine ⟨_, n, d, rfl, hg', hn, hd, hd0, e1, e2, ?_, ?_⟩
  · have h := Int.gcd_ediv_gcd_ediv_gcd hg
    rw [e1, e2] at h
    exact h
  · have h1 : (Int.gcd a u : Int) * 1 ≤ (Int.gcd a u : Int) * d := Int.mul_le_mul_of_nonneg_left (by omega) (by omega)
    rw [← hd] at h1
    omega
theorem low_num {a u : Int} (hu : 0 < u) : numI (lowD a u) = (a / (Int.gcd a u : Int), u / (Int.gcd a u : Int)) := by
  unfold lowD
  split
  · rename_i h
    rw [h]
    rfl
  · rfl
theorem low_isnum {a u : Int} (hu : 0 < u) : numD (lowD a u) = true := by
  obtain ⟨g, n, d, eg, g0, ea, eu, d0, e1, e2, e3, _⟩ := gcd_facts (a := a) hu
  unfold lowD
  rw [eg, e1, e2]
  split
  · rfl
  · show (decide (2 ≤ d) && decide (Int.gcd n d = 1)) = true
    rw [decide_eq_true e3, decide_eq_true (show 2 ≤ d by omega)]
    rfl
theorem low_bn {a u : Int} {k : Nat} (hu : 0 < u) (h : a.natAbs < 2 ^ k) (h' : u.natAbs < 2 ^ k) : Bn k (lowD a u) := by
  obtain ⟨g, n, d, eg, g0, ea, eu, d0, e1, e2, _⟩ := gcd_facts (a := a) hu
  unfold Bn
  rw [low_num hu, eg, e1, e2]
  have ha : a.natAbs = g.natAbs * n.natAbs := by rw [ea, Int.natAbs_mul]
  have hu' : u.natAbs = g.natAbs * d.natAbs := by rw [eu, Int.natAbs_mul]
  have hg : 1 ≤ g.natAbs := by omega
  have h1 : n.natAbs ≤ g.natAbs * n.natAbs := Nat.le_mul_of_pos_left _ hg
  have h2 : d.natAbs ≤ g.natAbs * d.natAbs := Nat.le_mul_of_pos_left _ hg
  exact ⟨by omega, by omega⟩
/-- the whole of p times it -/
theorem low_floor {a u : Int} (p : Int) (hu : 0 < u) : (numI (lowD a u)).1 * p / (numI (lowD a u)).2 = a * p / u := by
  obtain ⟨g, n, d, eg, g0, ea, eu, d0, e1, e2, _⟩ := gcd_facts (a := a) hu
  rw [low_num hu, eg, e1, e2, ea, eu]
  show n * p / d = g * n * p / (g * d)
  rw [Int.mul_assoc g n p, Int.mul_ediv_mul_of_pos _ _ g0]
theorem low_kn {a u : Int} : (lowD a u).kn = true := by
  unfold lowD
  split <;> rfl
def sp_lowest_in : DSp := fun xs G R _ => ∃ a u : Int, xs = [.int a, .int u] ∧ 0 < u ∧ u < 2 ^ 8000 ∧ R (lowD a u) G
def sp_times_in : DSp := fun xs G R _ => ∃ x y : D, xs = [x, y] ∧ numD x = true ∧ numD y = true ∧ Bn 4000 x ∧ Bn 4000 y ∧ R (lowD ((numI x).1 * (numI y).1) ((numI x).2 * (numI y).2)) G
def sp_whole_in : DSp := fun xs G R _ => ∃ x : D, xs = [x] ∧ numD x = true ∧ Bn 8000 x ∧ R (.int ((numI x).1 / (numI x).2)) G
def lowR : DS := (dSeq (dSet 2 (dIf (dTst (dOp (fInt gGt) (dVar 1) (dC (.int 0)))) (dCall sp_common X0 (dCons (dVar 0) (dCons (dVar 1) dNil))) (dNeg (dCall sp_common X0 (dCons (dVar 0) (dCons (dVar 1) dNil)))))) (dRet (dIf (dTst (dOp fEq (dOp (fIntC CDivW fun i j => .int (i / j)) (dVar 1) (dVar 2)) (dC (.int 1)))) (dOp (fIntC CDivW fun i j => .int (i / j)) (dVar 0) (dVar 2)) (dTup (dCons (dOp (fIntC CDivW fun i j => .int (i / j)) (dVar 0) (dVar 2)) (dCons (dOp (fIntC CDivW fun i j => .int (i / j)) (dVar 1) (dVar 2)) dNil))))))
theorem lowest_in_ok (xs : List D) (G : Gm) (R : KD) (RX : XD) (h : sp_lowest_in xs G R RX) : lowR { nx := fun _ G => R .non G, rt := R } (xs.map some ++ List.replicate (3 - xs.length) none) G := by
  obtain ⟨a, u, rfl, hu, hu2, h⟩ := h
  have hg : 0 < Int.gcd a u := Int.gcd_pos_of_ne_zero_right a (by omega)
  obtain ⟨g, n, d, eg, g0, ea, eu, d0, e1, e2, e3, e4⟩ := gcd_facts (a := a) hu
  have dv : CDivW u (Int.gcd a u : Int) ∧ CDivW a (Int.gcd a u : Int) := ⟨div_ok (by omega) (by omega), div_ok (by omega) (by omega)⟩
  refine ds_set (Ev.ifT ((EvT.tst (.gt (.var rfl) .c)).cast (k := true) (decide_eq_true hu)) (.common (.var rfl) (.var rfl))) ?_
  refine ds_ret (x := lowD a u) (.chosen (.tst (.eqI (.fdiv (.var rfl) (.var rfl) dv.1) .c)) (fun hk => ?_) fun hk => ?_) h
  · unfold lowD
    rw [if_pos (of_decide_eq_true hk)]
    exact .fdiv (.var rfl) (.var rfl) dv.2
  · unfold lowD
    rw [if_neg (of_decide_eq_false hk)]
    exact .tup (.cons (.fdiv (.var rfl) (.var rfl) dv.2) (.one (.fdiv (.var rfl) (.var rfl) dv.1))) (show 2 ≤ sizeLine by decide)
def timesR : DS := (dSeq (dAsg (dTup (dCons (dCall sp_halves X0 (dCons (dVar 0) dNil)) (dCons (dCall sp_halves X0 (dCons (dVar 1) dNil)) dNil))) (gSeq 2 (gCons (gSeq 2 (gCons (gN 2) (gCons (gN 3) gNil))) (gCons (gSeq 2 (gCons (gN 4) (gCons (gN 5) gNil))) gNil)))) (dRet (dCall sp_lowest_in X0 (dCons (dOp (fIntC IntMulOk fun i j => .int (i * j)) (dVar 2) (dVar 4)) (dCons (dOp (fIntC IntMulOk fun i j => .int (i * j)) (dVar 3) (dVar 5)) dNil)))))
theorem pow_split (a b : Nat) : (2 : Int) ^ a * 2 ^ b = 2 ^ (a + b) := (Int.pow_add 2 a b).symm
theorem abs_lt {x : Int} {k : Nat} (h : x.natAbs < 2 ^ k) : x < 2 ^ k := by
  have h2 : ((x.natAbs : Nat) : Int) < ((2 ^ k : Nat) : Int) := Int.ofNat_lt.mpr h
  have h3 : ((2 ^ k : Nat) : Int) = (2 : Int) ^ k := by norm_cast
  omega
theorem times_in_ok (xs : List D) (G : Gm) (R : KD) (RX : XD) (h : sp_times_in xs G R RX) : timesR { nx := fun _ G => R .non G, rt := R } (xs.map some ++ List.replicate (6 - xs.length) none) G := by
  obtain ⟨x, y, rfl, nx, ny, bx, by_, h⟩ := h
  obtain ⟨ex, px⟩ := num_half nx
  obtain ⟨ey, py⟩ := num_half ny
  refine ds_asg (.tup (.cons (.halves (.var rfl) nx) (.one (.halves (.var rfl) ny))) (show 2 ≤ sizeLine by decide)) ?_
  rw [ex, ey]
  refine ⟨_, seq_tup, rfl, _, _, rfl, ⟨_, seq_tup, rfl, _, _, rfl, _, _, rfl, rfl, ?_⟩⟩
  refine ⟨_, _, rfl, ⟨_, seq_tup, rfl, _, _, rfl, _, _, rfl, rfl, ?_⟩⟩
  refine ⟨rfl, ?_⟩
  refine ds_ret (.call (.cons (.mul (.var rfl) (.var rfl) (mul_both bx.1 by_.1 (by decide))) (.one (.mul (.var rfl) (.var rfl) (mul_both bx.2 by_.2 (by decide))))) fun R r => ⟨_, _, rfl, Int.mul_pos px py, ?_, r⟩) h
  have := mb 4000 4000 (Int.le_of_lt px) (abs_lt bx.2) (Int.le_of_lt py) (abs_lt by_.2)
  exact this.2
def wholeR : DS := (dSeq (dAsg (dCall sp_halves X0 (dCons (dVar 0) dNil)) (gSeq 2 (gCons (gN 1) (gCons (gN 2) gNil)))) (dRet (dOp (fIntC CDivW fun i j => .int (i / j)) (dVar 1) (dVar 2))))
theorem whole_in_ok (xs : List D) (G : Gm) (R : KD) (RX : XD) (h : sp_whole_in xs G R RX) : wholeR { nx := fun _ G => R .non G, rt := R } (xs.map some ++ List.replicate (3 - xs.length) none) G := by
  obtain ⟨x, rfl, nx, bx, h⟩ := h
  obtain ⟨ex, px⟩ := num_half nx
  refine ds_asg2 (.halves (.var rfl) nx) seq_tup ?_
  rw [ex]
  exact ds_ret (.fdiv (.var rfl) (.var rfl) (div_ok px (abs_lt bx.2))) h
end DL

/-! DL16: points, wholes, labels. -/
namespace DL
open PySem PySem.Spec PyProof.Rows L2 Evl

theorem num_kn {x : D} (h : numD x = true) : x.kn = true := by
  rcases num_cases h with ⟨i, rfl⟩ | ⟨a, b, hx, _⟩
  · rfl
  · rcases hx with rfl | rfl <;> rfl
theorem nums_kn : ∀ {ds : List D}, (∀ d ∈ ds, numD d = true) → D.knL ds = true
  | [], _ => rfl
  | d :: ds, h => by
    show (d.kn && D.knL ds) = true
    rw [num_kn (h d List.mem_cons_self), nums_kn fun e he => h e (List.mem_cons_of_mem _ he)]
    rfl
/-- a list or tuple of numbers -/
structure Pt (x : D) (ds : List D) : Prop where
  sh : x = .tup ds ∨ x = .lst ds
  nm : ∀ d ∈ ds, numD d = true
theorem Pt.kn {x : D} {ds : List D} (h : Pt x ds) : x.kn = true := by
  rcases h.sh with rfl | rfl
  · exact nums_kn h.nm
  · exact nums_kn h.nm
theorem Pt.seq {x : D} {ds : List D} (h : Pt x ds) : isSeqD x = true := by rcases h.sh with rfl | rfl <;> rfl
theorem Pt.at {x : D} {ds : List D} (h : Pt x ds) {G : Gm} : SeqAt G x ds := seq_at h.sh
def keptD (x : D) : D := match x with
  | .lst xs => .tup xs
  | x => x
theorem kept_num {x : D} : numD (keptD x) = numD x := by cases x <;> rfl
theorem kept_I {x : D} : numI (keptD x) = numI x := by cases x <;> rfl
def sp_need_number : DSp := fun xs G R _ => ∃ x p a b l m, xs = [x, p, a, b] ∧ x.kn = true ∧ bndD a = some l ∧ bndD b = some m ∧ withinD x l m = true ∧ R .non G
def needR : DS := (dIfS (dNot (dTst (dCall sp_is_within X0 (dCons (dVar 0) (dCons (dVar 2) (dCons (dVar 3) dNil)))))) dNever dNext)
theorem need_number_ok (xs : List D) (G : Gm) (R : KD) (RX : XD) (h : sp_need_number xs G R RX) : needR { nx := fun _ G => R .non G, rt := R } (xs.map some ++ List.replicate (4 - xs.length) none) G := by
  obtain ⟨x, p, a, b, l, m, rfl, hk, ha, hb, hw, h⟩ := h
  refine ds_if ((EvT.not (.tst (.isWithin (.var rfl) (.var rfl) (.var rfl) hk ha hb))).cast (k := false) (by rw [hw]; rfl)) ?_
  exact h
theorem Ev.needN {ρ : En} {G : Gm} {da dp db dc : DE} {x p a b : D} {l m : Option Int} (h : Ev da ρ G x) (h0 : Ev dp ρ G p) (h1 : Ev db ρ G a) (h2 : Ev dc ρ G b) (hk : x.kn = true) (hl : bndD a = some l) (hm : bndD b = some m) (hw : withinD x l m = true) :
    Ev (dCall sp_need_number X0 (dCons da (dCons dp (dCons db (dCons dc dNil))))) ρ G .non := .call (.cons h (.cons h0 (.cons h1 (.one h2)))) fun R r => ⟨x, p, a, b, l, m, rfl, hk, hl, hm, hw, r⟩
def sp_kept_number : DSp := fun xs G R _ => ∃ x : D, xs = [x] ∧ x.kn = true ∧ R (keptD x) G
def keptR : DS := (dRet (dIf (dTst (dCall sp_is_list X0 (dCons (dVar 0) dNil))) (dCal fTupOf (dCons (dVar 0) dNil)) (dVar 0)))
theorem kept_number_ok (xs : List D) (G : Gm) (R : KD) (RX : XD) (h : sp_kept_number xs G R RX) : keptR { nx := fun _ G => R .non G, rt := R } (xs.map some ++ List.replicate (1 - xs.length) none) G := by
  obtain ⟨x, rfl, hk, h⟩ := h
  refine ds_ret (x := keptD x) (.chosen (.tst (.isList (.var rfl) hk)) (fun e => ?_) fun e => ?_) h
  · cases x <;> first | cases e | skip
    · exact .tupOf (.var rfl) seq_tup
    · exact .tupOf (.var rfl) seq_lst
  · cases x <;> first | exact .var rfl | cases e
def sp_need_point : DSp := fun xs G R _ => ∃ (x p : D) (ds : List D), xs = [x, .int ds.length, p] ∧ Pt x ds ∧ ds.length ≤ 1000000 ∧ R (.tup (ds.map keptD)) G
def pointR : DS := (dSeq (dIfS (dOr (dNot (dTst (dCall sp_is_list X0 (dCons (dVar 0) dNil)))) (dOr (dTst (dOp fNe (dCal fLen (dCons (dVar 0) dNil)) (dVar 1))) (dNot (dTst (dCal fAll (dCons (dCmp (dISeq (dVar 0)) (gN 3) dYes (dCall sp_is_number X0 (dCons (dVar 3) dNil)) [3]) dNil)))))) dNever dNext) (dRet (dCal fTupOf (dCons (dCmp (dISeq (dVar 0)) (gN 3) dYes (dCall sp_kept_number X0 (dCons (dVar 3) dNil)) [3]) dNil))))
theorem all_true : ∀ {ds : List D} (f : D → Bool), (∀ d ∈ ds, f d = true) → (ds.map f).all id = true
  | [], _, _ => rfl
  | d :: ds, f, h => by
    show (f d && (ds.map f).all id) = true
    rw [h d List.mem_cons_self, all_true f fun e he => h e (List.mem_cons_of_mem _ he)]
    rfl
theorem need_point_ok (xs : List D) (G : Gm) (R : KD) (RX : XD) (h : sp_need_point xs G R RX) : pointR { nx := fun _ G => R .non G, rt := R } (xs.map some ++ List.replicate (4 - xs.length) none) G := by
  obtain ⟨x, p, ds, rfl, hp, hl, h⟩ := h
  have hz : ds.length ≤ sizeLine := by rw [sizeLine_eq]; omega
  have hall : Ev (dCmp (dISeq (dVar 0)) (gN 3) dYes (dCall sp_is_number X0 (dCons (dVar 3) dNil)) [3]) [some x, some (.int ds.length), some p, none] G (.lst ((ds.map numD).map D.bl)) := by
    rw [List.map_map]
    exact Ev.lcSeq (fun d => .bl (numD d)) (.var rfl) (hp.sh.symm) (fun y hy => .isNumber (.var rfl) (num_kn (hp.nm y hy))) hz
  refine ds_if (k := false) (.orF ((EvT.not (.tst (.isList (.var rfl) hp.kn))).cast (by rw [hp.seq]; rfl)) (.orF ((EvT.tst (.neI (.len (.var rfl) hp.at) (.var rfl))).cast (by rw [decide_eq_true rfl]; rfl)) ((EvT.not (.tst (.all hall))).cast (by rw [all_true numD hp.nm]; rfl)))) ?_
  exact ds_ret (.tupOf (.lcSeq keptD (.var rfl) hp.sh.symm (fun y hy => .call (.one (.var rfl)) fun R r => ⟨y, rfl, num_kn (hp.nm y hy), r⟩) hz) seq_lst) h
def sp_need_some_point : DSp := fun xs G R _ => ∃ (x : D) (ds : List D), xs = [x] ∧ Pt x ds ∧ 1 ≤ ds.length ∧ ds.length ≤ 2 ∧ R (.tup (ds.map keptD)) G
def someR : DS := (dSeq (dIfS (dOr (dNot (dTst (dCall sp_is_list X0 (dCons (dVar 0) dNil)))) (dNot (dTst (dCall sp_is_within X0 (dCons (dCal fLen (dCons (dVar 0) dNil)) (dCons (dC (.int 1)) (dCons (dC (.int 2)) dNil))))))) dNever dNext) (dRet (dCallD sp_need_point [D.str "point"] X0 (dCons (dVar 0) (dCons (dCal fLen (dCons (dVar 0) dNil)) dNil)))))
theorem need_some_point_ok (xs : List D) (G : Gm) (R : KD) (RX : XD) (h : sp_need_some_point xs G R RX) : someR { nx := fun _ G => R .non G, rt := R } (xs.map some ++ List.replicate (1 - xs.length) none) G := by
  obtain ⟨x, ds, rfl, hp, h1, h2, h⟩ := h
  have hw : withinD (.int ds.length) (some 1) (some 2) = true := by
    show (decide ((1 : Int) ≤ ds.length) && decide ((ds.length : Int) ≤ 2)) = true
    rw [decide_eq_true (by omega), decide_eq_true (by omega)]
    rfl
  refine ds_if (k := false) (.orF ((EvT.not (.tst (.isList (.var rfl) hp.kn))).cast (by rw [hp.seq]; rfl)) ((EvT.not (.tst (.isWithin (.len (.var rfl) hp.at) .c .c rfl rfl rfl))).cast (by rw [hw]; rfl))) ?_
  exact ds_ret (.callD (.cons (.var rfl) (.one (.len (.var rfl) hp.at))) fun R r => ⟨x, _, ds, rfl, hp, by omega, r⟩) h
theorem Ev.somePoint {ρ : En} {G : Gm} {da : DE} {x : D} {ds : List D} (h : Ev da ρ G x) (hp : Pt x ds) (h1 : 1 ≤ ds.length) (h2 : ds.length ≤ 2) : Ev (dCall sp_need_some_point X0 (dCons da dNil)) ρ G (.tup (ds.map keptD)) := .call (.one h) fun R r => ⟨x, ds, rfl, hp, h1, h2, r⟩

/-! ### wholes -/
/-- the whole of p times d -/
def wh (d : D) (p : Int) : Int := (numI d).1 * p / (numI d).2
def lab (d : D) (p : Int) : Int := wh d p - wh d (p - 1)
theorem wh_low {a u : Int} (hu : 0 < u) (p : Int) : wh (lowD a u) p = a * p / u := low_floor p hu
theorem wh_kept {d : D} {p : Int} : wh (keptD d) p = wh d p := by
  unfold wh
  rw [kept_I]
/-- all numbers, of no great size -/
structure Nms (k : Nat) (ds : List D) : Prop where
  nm : ∀ d ∈ ds, numD d = true
  bn : ∀ d ∈ ds, Bn k d
theorem Nms.kept {k : Nat} {ds : List D} (h : Nms k ds) : Nms k (ds.map keptD) := ⟨fun d hd => by
  obtain ⟨e, he, rfl⟩ := List.mem_map.mp hd
  rw [kept_num]
  exact h.nm e he, fun d hd => by
  obtain ⟨e, he, rfl⟩ := List.mem_map.mp hd
  unfold Bn
  rw [kept_I]
  exact h.bn e he⟩
theorem Bn.mono {j k : Nat} {d : D} (h : Bn j d) (l : j ≤ k) : Bn k d := ⟨Nat.lt_of_lt_of_le h.1 (Nat.pow_le_pow_right (by decide) l), Nat.lt_of_lt_of_le h.2 (Nat.pow_le_pow_right (by decide) l)⟩
def tupI (is : List Int) : D := .tup (is.map D.int)
def sp_wholes_in : DSp := fun xs G R _ => ∃ (ds : List D) (p : Int), xs = [.tup ds, .int p] ∧ Nms 3000 ds ∧ p.natAbs < 2 ^ 3000 ∧ ds.length ≤ 1000000 ∧ R (tupI (ds.map fun d => wh d p)) G
def wholesR : DS := (dRet (dCal fTupOf (dCons (dCmp (dISeq (dVar 0)) (gN 2) dYes (dCall sp_whole_in X0 (dCons (dCall sp_times_in X0 (dCons (dVar 2) (dCons (dVar 1) dNil))) dNil)) [2]) dNil)))
theorem nat_mul_lt {x y j k : Nat} (h : x < 2 ^ j) (h' : y < 2 ^ k) : x * y < 2 ^ (j + k) := by
  rw [Nat.pow_add]
  exact Nat.mul_lt_mul'' h h'
theorem wholes_in_ok (xs : List D) (G : Gm) (R : KD) (RX : XD) (h : sp_wholes_in xs G R RX) : wholesR { nx := fun _ G => R .non G, rt := R } (xs.map some ++ List.replicate (3 - xs.length) none) G := by
  obtain ⟨ds, p, rfl, hn, hp, hl, h⟩ := h
  have e : tupI (ds.map fun d => wh d p) = .tup (ds.map fun d => .int (wh d p)) := by
    unfold tupI
    rw [List.map_map]
    rfl
  rw [e] at h
  refine ds_ret (.tupOf (.lcSeq (fun d => .int (wh d p)) (.var rfl) (.inr rfl) (fun y hy => ?_) (by rw [sizeLine_eq]; omega)) seq_lst) h
  obtain ⟨_, py⟩ := num_half (hn.nm y hy)
  have by_ := hn.bn y hy
  have bp : Bn 4000 (.int p) := ⟨Nat.lt_of_lt_of_le hp (Nat.pow_le_pow_right (by decide) (by decide)), Nat.one_lt_two_pow (by decide)⟩
  have pu : 0 < (numI y).2 * (numI (.int p)).2 := by
    show 0 < (numI y).2 * 1
    omega
  refine (Ev.call (z := .int (wh y p)) (.one (.call (.cons (.var rfl) (.one (.var rfl))) fun R r => ⟨y, .int p, rfl, hn.nm y hy, rfl, by_.mono (by decide), bp, r⟩)) fun R r => ⟨_, rfl, low_isnum pu, low_bn pu ?_ ?_, ?_⟩)
  · show ((numI y).1 * p).natAbs < _
    rw [Int.natAbs_mul]
    exact Nat.lt_of_lt_of_le (nat_mul_lt by_.1 hp) (Nat.pow_le_pow_right (by decide) (by decide))
  · show ((numI y).2 * 1).natAbs < _
    rw [Int.mul_one]
    exact (by_.mono (by decide)).2
  · have e2 := low_floor (a := (numI y).1 * (numI (.int p)).1) 1 pu
    rw [Int.mul_one, Int.mul_one] at e2
    rw [e2]
    show R (.int ((numI y).1 * p / ((numI y).2 * 1))) G
    rw [Int.mul_one]
    exact r
def subL (is js : List Int) : List Int := List.zipWith (fun i j => i - j) is js
def sp_gone : DSp := fun xs G R _ => ∃ is js : List Int, xs = [tupI is, tupI js] ∧ is.length ≤ 1000000 ∧ R (tupI (subL is js)) G
def goneR : DS := (dRet (dCal fTupOf (dCons (dCmp (dIZip (dCons (dVar 0) (dCons (dVar 1) dNil))) (gSeq 2 (gCons (gN 2) (gCons (gN 3) gNil))) dYes (dOp (fInt fun i j => .int (i - j)) (dVar 2) (dVar 3)) [2, 3]) dNil)))
/-- the element is a function of the item, whatever the target -/
theorem cmpL_mapG {ρ0 : En} {g : DG} {de : DE} {S : List D → Gm → Prop} {G : Gm} (f : D → D) : ∀ {xs acc : List D}, (∀ x ∈ xs, ∀ S' : KD, S' (f x) G → g x ρ0 G fun ρ1 G1 => de ρ1 G1 S') → acc.length + xs.length ≤ sizeLine → S (acc ++ xs.map f) G → cmpL ρ0 g dYes de xs acc G S
  | [], acc, _, _, h => by
    rw [List.map_nil, List.append_nil] at h
    exact h
  | x :: xs, acc, hf, hz, h => by
    rw [List.length_cons] at hz
    refine hf x List.mem_cons_self (fun y G3 => acc.length < sizeLine ∧ cmpL ρ0 g dYes de xs (acc ++ [y]) G3 S) ⟨by omega, cmpL_mapG f (fun y hy => hf y (List.mem_cons_of_mem _ hy)) (by rw [List.length_append, List.length_singleton]; omega) ?_⟩
    rw [List.append_assoc, List.singleton_append]
    exact h
theorem gone_ok (xs : List D) (G : Gm) (R : KD) (RX : XD) (h : sp_gone xs G R RX) : goneR { nx := fun _ G => R .non G, rt := R } (xs.map some ++ List.replicate (4 - xs.length) none) G := by
  obtain ⟨is, js, rfl, hl, h⟩ := h
  refine ds_ret (x := tupI (subL is js)) (.tupOf (xs := (subL is js).map D.int) ?_ seq_lst) h
  intro R2 r
  refine ⟨_, rfl, _, rfl, is.map D.int, js.map D.int, .inr rfl, ?_⟩
  refine cmpL_mapG (fun d => match d with | .tup [.int a, .int b] => .int (a - b) | _ => .non) (fun x hx S' hS => ?_) ?_ ?_
  · obtain ⟨i, hi⟩ := List.getElem?_of_mem hx
    obtain ⟨a, b, ha, hb, rfl⟩ := zip_at hi
    rw [List.getElem?_map] at ha hb
    cases ea : is[i]? with
    | none =>
      rw [ea] at ha
      cases ha
    | some a' =>
      cases eb : js[i]? with
      | none =>
        rw [eb] at hb
        cases hb
      | some b' =>
        rw [ea] at ha
        rw [eb] at hb
        cases ha
        cases hb
        exact ⟨_, seq_tup, rfl, _, _, rfl, _, _, rfl, rfl, (Ev.sub (.var rfl) (.var rfl)) _ hS⟩
  · unfold zipD
    rw [List.length_zipWith, List.length_map, List.length_map, List.length_nil, sizeLine_eq]
    omega
  · have e : ∀ is js : List Int, (zipD (is.map D.int) (js.map D.int)).map (fun d => match d with | .tup [.int a, .int b] => D.int (a - b) | _ => .non) = (subL is js).map D.int := fun is => by
      induction is with
      | nil => intro js; rfl
      | cons i is ih =>
        intro js
        cases js with
        | nil => rfl
        | cons j js => exact congrArg (D.int (i - j) :: ·) (ih js)
    rw [List.nil_append, e]
    exact r
theorem subL_map {ds : List D} (f g : D → Int) : subL (ds.map f) (ds.map g) = ds.map fun d => f d - g d := by
  induction ds with
  | nil => rfl
  | cons d ds ih => exact congrArg (_ :: ·) ih
/-- labels of a point at a place -/
def labs (ds : List D) (p : Int) : List Int := ds.map fun d => lab d p
theorem labs_kept {ds : List D} {p : Int} : labs (ds.map keptD) p = labs ds p := by
  unfold labs
  rw [List.map_map]
  refine List.map_congr_left fun d _ => ?_
  show lab (keptD d) p = lab d p
  unfold lab
  rw [wh_kept, wh_kept]
section
variable {ρ : En} {G : Gm} {da db dc : DE} {ds : List D} {p q : Int}
theorem Ev.wholes (h : Ev da ρ G (.tup ds)) (h' : Ev db ρ G (.int p)) (hn : Nms 3000 ds) (hp : p.natAbs < 2 ^ 3000) (hl : ds.length ≤ 1000000) : Ev (dCall sp_wholes_in X0 (dCons da (dCons db dNil))) ρ G (tupI (ds.map fun d => wh d p)) := .call (.cons h (.one h')) fun R r => ⟨ds, p, rfl, hn, hp, hl, r⟩
theorem Ev.goneW (h : Ev da ρ G (tupI (ds.map fun d => wh d p))) (h' : Ev db ρ G (tupI (ds.map fun d => wh d q))) (hl : ds.length ≤ 1000000) : Ev (dCall sp_gone X0 (dCons da (dCons db dNil))) ρ G (tupI (ds.map fun d => wh d p - wh d q)) := .call (.cons h (.one h')) fun R r => ⟨_, _, rfl, by rw [List.length_map]; exact hl, by rw [subL_map]; exact r⟩
end
def sp_label_in : DSp := fun xs G R _ => ∃ (ds : List D) (p : Int), xs = [.tup ds, .int p] ∧ Nms 3000 ds ∧ p.natAbs < 2 ^ 2900 ∧ ds.length ≤ 1000000 ∧ R (tupI (labs ds p)) G
def labelR : DS := (dRet (dCall sp_gone X0 (dCons (dCall sp_wholes_in X0 (dCons (dVar 0) (dCons (dVar 1) dNil))) (dCons (dCall sp_wholes_in X0 (dCons (dVar 0) (dCons (dOp (fInt fun i j => .int (i - j)) (dVar 1) (dC (.int 1))) dNil))) dNil))))
theorem p2900 : 2 ^ 2900 + 2001 ≤ 2 ^ 3000 := by decide +kernel
theorem label_in_ok (xs : List D) (G : Gm) (R : KD) (RX : XD) (h : sp_label_in xs G R RX) : labelR { nx := fun _ G => R .non G, rt := R } (xs.map some ++ List.replicate (2 - xs.length) none) G := by
  obtain ⟨ds, p, rfl, hn, hp, hl, h⟩ := h
  have := p2900
  exact ds_ret (.goneW (.wholes (.var rfl) (.var rfl) hn (by omega) hl) (.wholes (.var rfl) (.sub (.var rfl) .c) hn (by omega) hl) hl) h
def labsT (ds : List D) (first : Int) (n : Nat) : List D := (List.range n).map fun i : Nat => tupI (labs ds (first + i))
def sp_labels_in : DSp := fun xs G R _ => ∃ (ds : List D) (first : Int) (n : Nat), xs = [.tup ds, .int first, .int n] ∧ Nms 3000 ds ∧ first.natAbs < 2 ^ 2900 ∧ n ≤ 2000 ∧ ds.length ≤ 1000000 ∧ R (.tup (labsT ds first n)) G
def labelsR : DS := (dSeq (dSet 3 (dCmp (dIRng1 (dOp fAdd (dVar 2) (dC (.int 1)))) (gN 4) dYes (dCall sp_wholes_in X0 (dCons (dVar 0) (dCons (dOp fAdd (dOp (fInt fun i j => .int (i - j)) (dVar 1) (dC (.int 1))) (dVar 4)) dNil))) [4])) (dRet (dCal fTupOf (dCons (dCmp (dIRng1 (dVar 2)) (gN 4) dYes (dCall sp_gone X0 (dCons (dIx (dVar 3) (dOp fAdd (dVar 4) (dC (.int 1)))) (dCons (dIx (dVar 3) (dVar 4)) dNil))) [4]) dNil))))
theorem atI_rng {n i : Nat} {f : Nat → D} (h : i < n) : atI ((List.range n).map f) (i : Int) = some (f i) := by
  unfold atI ixN
  rw [List.length_map, List.length_range, if_pos (by omega), if_pos (by omega), Option.bind_some, List.getElem?_map, Int.toNat_natCast, List.getElem?_range h]
  rfl
theorem labels_in_ok (xs : List D) (G : Gm) (R : KD) (RX : XD) (h : sp_labels_in xs G R RX) : labelsR { nx := fun _ G => R .non G, rt := R } (xs.map some ++ List.replicate (5 - xs.length) none) G := by
  obtain ⟨ds, first, n, rfl, hn, hf, hl2, hl, h⟩ := h
  have := p2900
  refine ds_set (.lcRng (n := n + 1) (fun i : Nat => tupI (ds.map fun d => wh d (first - 1 + i))) ((Ev.add (.var rfl) .c).cast rfl) (fun j hj => .wholes (.var rfl) (.add (.sub (.var rfl) .c) (.var rfl)) hn (by omega) hl) (by rw [sizeLine_eq]; omega)) ?_
  refine ds_ret (.tupOf (.lcRng (n := n) (fun i : Nat => tupI (labs ds (first + i))) (.var rfl) (fun j hj => ?_) (by rw [sizeLine_eq]; omega)) seq_lst) h
  have e1 : atI ((List.range (n + 1)).map fun i : Nat => tupI (ds.map fun d => wh d (first - 1 + i))) ((j : Int) + 1) = some (tupI (ds.map fun d => wh d (first - 1 + (j + 1 : Nat)))) := atI_rng (i := j + 1) (by omega)
  have e2 : atI ((List.range (n + 1)).map fun i : Nat => tupI (ds.map fun d => wh d (first - 1 + i))) (j : Int) = some (tupI (ds.map fun d => wh d (first - 1 + (j : Nat)))) := atI_rng (by omega)
  refine (Ev.goneW (.at (.var rfl) (.add (.var rfl) .c) seq_lst e1) (.at (.var rfl) (.var rfl) seq_lst e2) hl).cast ?_
  have a1 : first - 1 + ((j + 1 : Nat) : Int) = first + j := by omega
  have a2 : first - 1 + ((j : Nat) : Int) = first + j - 1 := by omega
  rw [a1, a2]
  rfl
section
variable {ρ : En} {G : Gm} {da db dc : DE} {ds : List D} {p first : Int} {n : Nat} {x : D}
theorem Ev.labelIn (h : Ev da ρ G (.tup ds)) (h' : Ev db ρ G (.int p)) (hn : Nms 3000 ds) (hp : p.natAbs < 2 ^ 2900) (hl : ds.length ≤ 1000000) : Ev (dCall sp_label_in X0 (dCons da (dCons db dNil))) ρ G (tupI (labs ds p)) := .call (.cons h (.one h')) fun R r => ⟨ds, p, rfl, hn, hp, hl, r⟩
theorem Ev.labelsIn (h : Ev da ρ G (.tup ds)) (h' : Ev db ρ G (.int first)) (h2 : Ev dc ρ G (.int n)) (hn : Nms 3000 ds) (hp : first.natAbs < 2 ^ 2900) (hn2 : n ≤ 2000) (hl : ds.length ≤ 1000000) : Ev (dCall sp_labels_in X0 (dCons da (dCons db (dCons dc dNil)))) ρ G (.tup (labsT ds first n)) := .call (.cons h (.cons h' (.one h2))) fun R r => ⟨ds, first, n, rfl, hn, hp, hn2, hl, r⟩
end
/-- what is passed as a point -/
structure PtN (x : D) (ds : List D) : Prop where
  sh : x = .tup ds ∨ x = .lst ds
  nm : Nms 3000 ds
  l1 : 1 ≤ ds.length
  l2 : ds.length ≤ 2
theorem PtN.pt {x : D} {ds : List D} (h : PtN x ds) : Pt x ds := ⟨h.sh, h.nm.nm⟩
def sp_label_at : DSp := fun xs G R _ => ∃ (x : D) (ds : List D) (p : Int), xs = [x, .int p] ∧ PtN x ds ∧ p.natAbs < 2 ^ 2900 ∧ R (tupI (labs ds p)) G
def labelAtR : DS := (dSeq (dSet 2 (dCall sp_need_some_point X0 (dCons (dVar 0) dNil))) (dSeq (dDrop (dCall sp_need_number X0 (dCons (dVar 1) (dCons (dC (.str "place")) (dCons (dC .non) (dCons (dC .non) dNil)))))) (dRet (dCall sp_label_in X0 (dCons (dVar 2) (dCons (dVar 1) dNil))))))
theorem label_at_ok (xs : List D) (G : Gm) (R : KD) (RX : XD) (h : sp_label_at xs G R RX) : labelAtR { nx := fun _ G => R .non G, rt := R } (xs.map some ++ List.replicate (3 - xs.length) none) G := by
  obtain ⟨x, ds, p, rfl, hp, hb, h⟩ := h
  refine ds_set (.somePoint (.var rfl) hp.pt hp.l1 hp.l2) ?_
  refine ds_drop (.needN (.var rfl) .c .c .c rfl rfl rfl rfl) ?_
  rw [← labs_kept] at h
  have := hp.l2
  exact ds_ret (.labelIn (.var rfl) (.var rfl) hp.nm.kept hb (by rw [List.length_map]; omega)) h
theorem labsT_kept {ds : List D} {first : Int} {n : Nat} : labsT (ds.map keptD) first n = labsT ds first n := by
  unfold labsT
  refine List.map_congr_left fun i _ => ?_
  rw [labs_kept]
def sp_labels_of : DSp := fun xs G R _ => ∃ (x : D) (ds : List D) (first : Int) (n : Nat), xs = [x, .int first, .int n] ∧ PtN x ds ∧ first.natAbs < 2 ^ 2900 ∧ n ≤ 2000 ∧ R (.tup (labsT ds first n)) G
def labelsOfR : DS := (dSeq (dSet 3 (dCall sp_need_some_point X0 (dCons (dVar 0) dNil))) (dSeq (dDrop (dCall sp_need_number X0 (dCons (dVar 1) (dCons (dC (.str "first")) (dCons (dC .non) (dCons (dC .non) dNil)))))) (dSeq (dDrop (dCall sp_need_number X0 (dCons (dVar 2) (dCons (dC (.str "many")) (dCons (dC (.int 0)) (dCons (dC (.int 2000)) dNil)))))) (dRet (dCall sp_labels_in X0 (dCons (dVar 3) (dCons (dVar 1) (dCons (dVar 2) dNil))))))))
theorem labels_of_ok (xs : List D) (G : Gm) (R : KD) (RX : XD) (h : sp_labels_of xs G R RX) : labelsOfR { nx := fun _ G => R .non G, rt := R } (xs.map some ++ List.replicate (4 - xs.length) none) G := by
  obtain ⟨x, ds, first, n, rfl, hp, hb, hn, h⟩ := h
  refine ds_set (.somePoint (.var rfl) hp.pt hp.l1 hp.l2) ?_
  refine ds_drop (.needN (.var rfl) .c .c .c rfl rfl rfl rfl) ?_
  refine ds_drop (.needN (.var rfl) .c .c .c rfl rfl rfl ?_) ?_
  · show (decide ((0 : Int) ≤ n) && decide ((n : Int) ≤ 2000)) = true
    rw [decide_eq_true (by omega), decide_eq_true (by omega)]
    rfl
  rw [← labsT_kept] at h
  have := hp.l2
  exact ds_ret (.labelsIn (.var rfl) (.var rfl) (.var rfl) hp.nm.kept hb hn (by rw [List.length_map]; omega)) h
def sums (ds : List D) (first many : Int) : List Int := ds.map fun d => wh d (first + many - 1) - wh d (first - 1)
def sp_sum_of : DSp := fun xs G R _ => ∃ (x : D) (ds : List D) (first many : Int), xs = [x, .int first, .int many] ∧ PtN x ds ∧ first.natAbs < 2 ^ 2900 ∧ 0 ≤ many ∧ many.natAbs < 2 ^ 2900 ∧ R (tupI (sums ds first many)) G
def sumR : DS := (dSeq (dSet 3 (dCall sp_need_some_point X0 (dCons (dVar 0) dNil))) (dSeq (dDrop (dCall sp_need_number X0 (dCons (dVar 1) (dCons (dC (.str "first")) (dCons (dC .non) (dCons (dC .non) dNil)))))) (dSeq (dDrop (dCall sp_need_number X0 (dCons (dVar 2) (dCons (dC (.str "many")) (dCons (dC (.int 0)) (dCons (dC .non) dNil)))))) (dRet (dCall sp_gone X0 (dCons (dCall sp_wholes_in X0 (dCons (dVar 3) (dCons (dOp (fInt fun i j => .int (i - j)) (dOp fAdd (dVar 1) (dVar 2)) (dC (.int 1))) dNil))) (dCons (dCall sp_wholes_in X0 (dCons (dVar 3) (dCons (dOp (fInt fun i j => .int (i - j)) (dVar 1) (dC (.int 1))) dNil))) dNil)))))))
theorem sum_of_ok (xs : List D) (G : Gm) (R : KD) (RX : XD) (h : sp_sum_of xs G R RX) : sumR { nx := fun _ G => R .non G, rt := R } (xs.map some ++ List.replicate (4 - xs.length) none) G := by
  obtain ⟨x, ds, first, many, rfl, hp, hb, hm, hm2, h⟩ := h
  refine ds_set (.somePoint (.var rfl) hp.pt hp.l1 hp.l2) ?_
  refine ds_drop (.needN (.var rfl) .c .c .c rfl rfl rfl rfl) ?_
  refine ds_drop (.needN (.var rfl) .c .c .c rfl rfl rfl ?_) ?_
  · show (decide ((0 : Int) ≤ many) && true) = true
    rw [decide_eq_true hm]
    rfl
  have e : sums ds first many = sums (ds.map keptD) first many := by
    unfold sums
    rw [List.map_map]
    refine List.map_congr_left fun d _ => ?_
    show _ = wh (keptD d) _ - wh (keptD d) _
    rw [wh_kept, wh_kept]
  rw [e] at h
  have := hp.l2
  have p1 : 2 ^ 2900 + 2 ^ 2900 + 2 ≤ 2 ^ 3000 := by decide +kernel
  have hl : (ds.map keptD).length ≤ 1000000 := by rw [List.length_map]; omega
  exact ds_ret (.goneW (.wholes (.var rfl) (.sub (.add (.var rfl) (.var rfl)) .c) hp.nm.kept (by omega) hl) (.wholes (.var rfl) (.sub (.var rfl) .c) hp.nm.kept (by omega) hl) hl) h
section
variable {ρ : En} {G : Gm} {da db dc : DE} {ds : List D} {p first many : Int} {n : Nat} {x : D}
theorem Ev.labelAt (h : Ev da ρ G x) (h' : Ev db ρ G (.int p)) (hn : PtN x ds) (hp : p.natAbs < 2 ^ 2900) : Ev (dCall sp_label_at X0 (dCons da (dCons db dNil))) ρ G (tupI (labs ds p)) := .call (.cons h (.one h')) fun R r => ⟨x, ds, p, rfl, hn, hp, r⟩
theorem Ev.labelsOf (h : Ev da ρ G x) (h' : Ev db ρ G (.int first)) (h2 : Ev dc ρ G (.int n)) (hn : PtN x ds) (hp : first.natAbs < 2 ^ 2900) (hn2 : n ≤ 2000) : Ev (dCall sp_labels_of X0 (dCons da (dCons db (dCons dc dNil)))) ρ G (.tup (labsT ds first n)) := .call (.cons h (.cons h' (.one h2))) fun R r => ⟨x, ds, first, n, rfl, hn, hp, hn2, r⟩
theorem Ev.sumOf (h : Ev da ρ G x) (h' : Ev db ρ G (.int first)) (h2 : Ev dc ρ G (.int many)) (hn : PtN x ds) (hp : first.natAbs < 2 ^ 2900) (h0 : 0 ≤ many) (hm : many.natAbs < 2 ^ 2900) : Ev (dCall sp_sum_of X0 (dCons da (dCons db (dCons dc dNil)))) ρ G (tupI (sums ds first many)) := .call (.cons h (.cons h' (.one h2))) fun R r => ⟨x, ds, first, many, rfl, hn, hp, h0, hm, r⟩
end
end DL

/-! DL17: what laws themselves reckon with numbers; more of what draws. -/
namespace DL
open PySem PySem.Spec PyProof.Rows L2 Evl

theorem while_gcd2 {i j : Nat} (hij : i ≠ j) {da : DE} (hda : ∀ (ρ : En) (G : Gm) (p : Int), ρ[i]? = some (some (.int p)) → Ev da ρ G (.int p)) {E : DEnds} {ρ : En} {G : Gm} {p q : Nat} (h1 : ρ[i]? = some (some (.int p))) (h2 : ρ[j]? = some (some (.int q)))
    (k : ∀ ρ', ρ'[i]? = some (some (.int (Nat.gcd p q))) → (∀ l, l ≠ i → l ≠ j → ρ'[l]? = ρ[l]?) → E.nx ρ' G) : dWhile (dTst (dOp (fInt gGt) (dVar j) (dC (.int 0)))) (dPar i j (dCons (dVar j) (dCons (dOp (fIntC (fun _ j => 0 < j) fun i j => .int (i % j)) da (dVar j)) dNil))) E ρ G := by
  refine ⟨fun m ρ' G' => G' = G ∧ (∃ p' : Nat, ρ'[i]? = some (some (.int p')) ∧ ρ'[j]? = some (some (.int m)) ∧ Nat.gcd p' m = Nat.gcd p q) ∧ ∀ l, l ≠ i → l ≠ j → ρ'[l]? = ρ[l]?, ⟨q, rfl, ⟨p, h1, h2, rfl⟩, fun _ _ _ => rfl⟩, ?_⟩
  rintro m ρ' G' ⟨rfl, ⟨p', r1, r2, e⟩, ho⟩
  have inl : ∀ {l : Nat} {x : Option D}, ρ'[l]? = some x → l < ρ'.length := fun {l x} h => by
    by_cases z : l < ρ'.length
    · exact z
    · rw [List.getElem?_eq_none (by omega)] at h
      cases h
  refine (EvT.tst (.gt (.var r2) .c)) _ ?_
  by_cases h0 : 0 < m
  · rw [if_pos (by simpa using h0)]
    refine ds_par (.var r2) (.mod (hda _ _ _ r1) (.var r2) (by omega)) ?_
    refine ⟨p' % m, Nat.mod_lt _ h0, rfl, ⟨m, ?_, ?_, ?_⟩, fun l l1 l2 => ?_⟩
    · rw [List.getElem?_set_ne (fun z => hij z.symm)]
      exact List.getElem?_set_self (inl r1)
    · rw [List.getElem?_set_self (by rw [List.length_set]; exact inl r2)]
      rfl
    · rw [← e, Nat.gcd_comm p' m, Nat.gcd_rec m p', Nat.gcd_comm]
    · rw [List.getElem?_set_ne (fun z => l2 z.symm), List.getElem?_set_ne (fun z => l1 z.symm), ho l l1 l2]
  · rw [if_neg (by simpa using h0)]
    have m0 : m = 0 := by omega
    subst m0
    refine k ρ' ?_ ho
    rw [← e, Nat.gcd_zero_right]
    exact r1
def lawLowR : DS := (dSeq (dPar 2 3 (dCons (dCal fAbs (dCons (dVar 0) dNil)) (dCons (dVar 1) dNil))) (dSeq (dWhile (dTst (dOp (fInt gGt) (dVar 3) (dC (.int 0)))) (dPar 2 3 (dCons (dVar 3) (dCons (dOp (fIntC (fun _ j => 0 < j) fun i j => .int (i % j)) (dCal fIntOf (dCons (dVar 2) dNil)) (dVar 3)) dNil)))) (dRet (dIf (dTst (dOp fEq (dVar 1) (dVar 2))) (dOp (fIntC CDivW fun i j => .int (i / j)) (dCal fIntOf (dCons (dVar 0) dNil)) (dVar 2)) (dTup (dCons (dOp (fIntC CDivW fun i j => .int (i / j)) (dCal fIntOf (dCons (dVar 0) dNil)) (dVar 2)) (dCons (dOp (fIntC CDivW fun i j => .int (i / j)) (dCal fIntOf (dCons (dVar 1) dNil)) (dVar 2)) dNil)))))))
theorem law_low_ok (xs : List D) (G : Gm) (R : KD) (RX : XD) (h : sp_lowest_in xs G R RX) : lawLowR { nx := fun _ G => R .non G, rt := R } (xs.map some ++ List.replicate (4 - xs.length) none) G := by
  obtain ⟨a, u, rfl, hu, hu2, h⟩ := h
  obtain ⟨g, n, d, eg, g0, ea, eu, d0, e1, e2, e3, e4⟩ := gcd_facts (a := a) hu
  have eu' : (u : Int) = ((u.natAbs : Nat) : Int) := by omega
  refine ds_par (.absN (.var rfl)) (.var rfl) ?_
  refine while_gcd2 (p := a.natAbs) (q := u.natAbs) (by decide) (fun ρ G p h => .intOf (.var h)) rfl (by rw [← eu']; rfl) fun ρ' r2 ho => ?_
  have r0 : ρ'[0]? = some (some (.int a)) := ho 0 (by decide) (by decide)
  have r1 : ρ'[1]? = some (some (.int u)) := ho 1 (by decide) (by decide)
  have eg' : ((Nat.gcd a.natAbs u.natAbs : Nat) : Int) = g := eg
  rw [eg'] at r2
  have dv : CDivW u g ∧ CDivW a g := ⟨div_ok (by omega) (by omega), div_ok (by omega) (by omega)⟩
  refine ds_ret (x := lowD a u) (.chosen (.tst (.eqI (.var r1) (.var r2))) (fun hk => ?_) fun hk => ?_) h
  · have e := of_decide_eq_true hk
    unfold lowD
    rw [eg, if_pos (by rw [e]; exact Int.ediv_self (by omega))]
    exact .fdiv (.intOf (.var r0)) (.var r2) dv.2
  · have e := of_decide_eq_false hk
    unfold lowD
    rw [eg, if_neg (fun z => e (by rw [e2] at z; rw [eu, z, Int.mul_one]))]
    exact .tup (.cons (.fdiv (.intOf (.var r0)) (.var r2) dv.2) (.one (.fdiv (.intOf (.var r1)) (.var r2) dv.1))) (show 2 ≤ sizeLine by decide)
theorem Ev.low {ρ : En} {G : Gm} {da db : DE} {a u : Int} (h : Ev da ρ G (.int a)) (h' : Ev db ρ G (.int u)) (hu : 0 < u) (hu2 : u < 2 ^ 8000) : Ev (dCall sp_lowest_in X0 (dCons da (dCons db dNil))) ρ G (lowD a u) := .call (.cons h (.one h')) fun R r => ⟨a, u, rfl, hu, hu2, r⟩
def sp_ends : DSp := fun xs G R _ => ∃ x : D, xs = [x] ∧ numD x = true ∧ R (.tup [.int (numI x).1, .int (numI x).2]) G
def endsR : DS := (dRet (dIf (dTst (dCal (fIsi "int") (dCons (dVar 0) (dCons (dC (.ty "int")) dNil)))) (dTup (dCons (dVar 0) (dCons (dC (.int 1)) dNil))) (dTup (dCons (dIx (dVar 0) (dC (.int 0))) (dCons (dIx (dVar 0) (dC (.int 1))) dNil)))))
theorem ends_ok (xs : List D) (G : Gm) (R : KD) (RX : XD) (h : sp_ends xs G R RX) : endsR { nx := fun _ G => R .non G, rt := R } (xs.map some ++ List.replicate (1 - xs.length) none) G := by
  obtain ⟨x, rfl, hx, h⟩ := h
  have s2 : 2 ≤ sizeLine := by decide
  rcases num_cases hx with ⟨i, rfl⟩ | ⟨a, b, hx2, _⟩
  · exact ds_ret (.ifT (.tst ((Ev.isi (.var rfl) rfl).cast rfl)) (.tup (.cons (.var rfl) (.one .c)) s2)) h
  · rcases hx2 with rfl | rfl
    · exact ds_ret (.ifF (.tst ((Ev.isi (.var rfl) rfl).cast rfl)) (.tup (.cons (.at (.var rfl) .c seq_tup rfl) (.one (.at (.var rfl) .c seq_tup rfl))) s2)) h
    · exact ds_ret (.ifF (.tst ((Ev.isi (.var rfl) rfl).cast rfl)) (.tup (.cons (.at (.var rfl) .c seq_lst rfl) (.one (.at (.var rfl) .c seq_lst rfl))) s2)) h
theorem Ev.ends {ρ : En} {G : Gm} {da : DE} {x : D} (h : Ev da ρ G x) (hx : numD x = true) : Ev (dCall sp_ends X0 (dCons da dNil)) ρ G (.tup [.int (numI x).1, .int (numI x).2]) := .call (.one h) fun R r => ⟨x, rfl, hx, r⟩
/-- a number of a above, u under -/
def Rat0 (k : Nat) (x : D) : Prop := ∃ a u : Int, x = lowD a u ∧ 0 < u ∧ a.natAbs < 2 ^ k ∧ u.natAbs < 2 ^ k
theorem Rat0.num {k : Nat} {x : D} : Rat0 k x → numD x = true := fun ⟨a, u, e, hu, _⟩ => by
  rw [e]
  exact low_isnum hu
theorem Rat0.bn {k : Nat} {x : D} : Rat0 k x → Bn k x := fun ⟨a, u, e, hu, h, h'⟩ => by
  rw [e]
  exact low_bn hu h h'
theorem Rat0.kn {k : Nat} {x : D} (h : Rat0 k x) : x.kn = true := num_kn h.num
theorem ptn1 {k : Nat} {x : D} (h : numD x = true) (hb : Bn k x) (l : k ≤ 3000 := by decide) : PtN (.lst [x]) [x] := ⟨.inr rfl, ⟨fun d hd => by rw [List.mem_singleton.mp hd]; exact h, fun d hd => by rw [List.mem_singleton.mp hd]; exact hb.mono l⟩, Nat.le_refl _, Nat.le_succ _⟩
theorem ptn2 {k : Nat} {x y : D} (h : numD x = true) (hb : Bn k x) (h' : numD y = true) (hb' : Bn k y) (l : k ≤ 3000 := by decide) : PtN (.lst [x, y]) [x, y] := ⟨.inr rfl, ⟨fun d hd => by
  rcases List.mem_cons.mp hd with e | e
  · rw [e]
    exact h
  · rw [List.mem_singleton.mp e]
    exact h', fun d hd => by
  rcases List.mem_cons.mp hd with e | e
  · rw [e]
    exact hb.mono l
  · rw [List.mem_singleton.mp e]
    exact hb'.mono l⟩, Nat.le_succ _, Nat.le_refl _⟩
/-! ### more of what draws -/
section
variable {ρ : En} {a : Addr} {j k : Nat} {da db : DE} {dA : DA} {P P2 P3 : D → Prop} {PL : List D → Prop}
theorem Drw.dial2 {i : Nat} {dn : DE} {N : Int} (hi : ρ[i]? = some (some (.ref a))) (hn : Drw dn ρ a k (fun x => ∃ n, x = .int n ∧ 1 ≤ n ∧ n ≤ N)) (h2 : N < 2 ^ 8000) : Drw (dCall spDial X0 (dCons (dVar i) (dCons dn dNil))) ρ a (k + 1) (fun x => ∃ v, x = .int v ∧ 0 ≤ v ∧ v < N) := fun G T R hg ht r => by
  refine ⟨_, hi, hn G T _ hg (by omega) fun x m ⟨n, e, n1, n2⟩ hm => ?_⟩
  subst e
  refine ⟨a, n, T + k, rfl, ⟨m, gup_same, hm⟩, by omega, n1, by omega, fun v m' v0 v1 hm' => ?_⟩
  rw [gup_gup]
  exact r _ m' ⟨v, rfl, v0, by omega⟩ hm'
/-- a call that draws not, of what was drawn -/
theorem Drw.call {q : DSp} (h : DrwA dA ρ a k PL) (hq : ∀ l, PL l → ∃ z, P z ∧ ∀ (G : Gm) (R : KD), R z G → q l G R X0) : Drw (dCall q X0 dA) ρ a k P := fun G T R hg ht r => h G T _ hg ht fun l m pl hm => by
  obtain ⟨z, pz, hz⟩ := hq l pl
  exact hz _ _ (r z m pz hm)
theorem Drw.intLe {i : Int} (hi : ∀ G, Ev da ρ G (.int i)) {N : Int} (h0 : 1 ≤ i) (h1 : i ≤ N) : Drw da ρ a 0 (fun x => ∃ n, x = .int n ∧ 1 ≤ n ∧ n ≤ N) := .ev hi ⟨i, rfl, h0, h1⟩
theorem dw_par3 {l : Nat} {dc : DE} {PC : D → Prop} {E : DEnds} {G : Gm} {T i i2 i3 : Nat} (h : Drw da ρ a j P) (h' : Drw db ρ a k P2) (h'' : Drw dc ρ a l PC) (hg : GauAt G a T) (ht : T + (j + (k + l)) ≤ 1000000000)
    (hk : ∀ x y z m, P x → P2 y → PC z → Gau m (T + (j + (k + l))) → E.nx (((ρ.set i (some x)).set i2 (some y)).set i3 (some z)) (gup G a m)) : dPar3 i i2 i3 (dCons da (dCons db (dCons dc dNil))) E ρ G :=
  (DrwA.cons h (DrwA.cons h' (DrwA.cons h'' .nil))) G T _ hg ht fun l m ⟨x, xs, e, px, y, ys, e2, py, z, zs, e3, pz, e4⟩ hm => by
    subst e4 e3 e2 e
    exact ⟨x, y, z, rfl, hk x y z m px py pz hm⟩
end
theorem Ev.rev {ρ : En} {G : Gm} {da : DE} {x : D} {ds : List D} (ha : Ev da ρ G x) (h : LstAt G x ds) : Ev (dRev da) ρ G (.lst ds.reverse) := fun R r => ha _ ⟨ds, h, r⟩
theorem rev_range {α : Type} {n : Nat} (g : Nat → α) : ((List.range n).map g).reverse = (List.range n).map fun i => g (n - 1 - i) := by
  refine List.ext_getElem (by simp) fun i h1 h2 => ?_
  simp
/-! ### plain laws of labels -/
theorem lab_minus {x : D} (hx : numD x = true) (p : Int) : lab (lowD (-(numI x).1) (numI x).2) p = -lab x (1 - p) := by
  have hb := (num_half hx).2
  unfold lab
  rw [wh_low hb, wh_low hb]
  unfold wh
  have e1 : -(numI x).1 * p = (numI x).1 * (1 - p - 1) := by grind
  have e2 : -(numI x).1 * (p - 1) = (numI x).1 * (1 - p) := by grind
  rw [e1, e2]
  omega
theorem lab_more {x : D} (hx : numD x = true) (m p : Int) : lab (lowD ((numI x).1 + m * (numI x).2) (numI x).2) p = lab x p + m := by
  have hb := (num_half hx).2
  unfold lab
  rw [wh_low hb, wh_low hb]
  unfold wh
  have e : ∀ q : Int, ((numI x).1 + m * (numI x).2) * q / (numI x).2 = (numI x).1 * q / (numI x).2 + m * q := fun q => by
    have e1 : ((numI x).1 + m * (numI x).2) * q = (numI x).1 * q + m * q * (numI x).2 := by grind
    rw [e1, Int.add_mul_ediv_right _ _ (by omega)]
  rw [e, e]
  grind
theorem lab_times {x : D} (hx : numD x = true) (t p : Int) : lab (lowD (t * (numI x).1) (numI x).2) p = wh x (t * (p - 1) + 1 + t - 1) - wh x (t * (p - 1) + 1 - 1) := by
  have hb := (num_half hx).2
  unfold lab
  rw [wh_low hb, wh_low hb]
  unfold wh
  have e1 : t * (numI x).1 * p = (numI x).1 * (t * (p - 1) + 1 + t - 1) := by grind
  have e2 : t * (numI x).1 * (p - 1) = (numI x).1 * (t * (p - 1) + 1 - 1) := by grind
  rw [e1, e2]
theorem wh_abs {x : D} {j k : Nat} (hx : Bn j x) {p : Int} (hp : p.natAbs < 2 ^ k) : (wh x p).natAbs < 2 ^ (j + k) := by
  refine Nat.lt_of_le_of_lt (Int.natAbs_ediv_le_natAbs _ _) ?_
  rw [Int.natAbs_mul]
  exact nat_mul_lt hx.1 hp
end DL

/-! DL18: zip of a list and a tuple (either kind at either place). -/
namespace MZ
open PySem PySem.Spec PyProof.Rows L2
open PySem.Sem (wp)

/-- true: of a tuple; false: of a list -/
def ItB (t : Bool) (h : Heap) (i p : Addr) (k : Nat) : Prop := if t = true then h.IsTupleIter i p k else h.IsListIter i p k
def SqB (t : Bool) (h : Heap) (p : Addr) (us : Array Value) : Prop := if t = true then h.IsTuple p us else h.IsList p us
theorem ItB.off {t : Bool} {h h2 : Heap} {i p c : Addr} {k : Nat} (x : ItB t h i p k) (e : Heap.ExtBut c h h2) (n : i ≠ c) : ItB t h2 i p k := by
  cases t with
  | true => exact Heap.IsTupleIter.extBut x e n
  | false => exact Heap.IsListIter.extBut x e n
theorem SqB.off {t : Bool} {h h2 : Heap} {p c : Addr} {us : Array Value} (x : SqB t h p us) (e : Heap.ExtBut c h h2) (n : p ≠ c) : SqB t h2 p us := by
  cases t with
  | true => exact Heap.IsTuple.extBut x e n
  | false => exact Heap.IsList.extBut x e n
theorem ItB.to {t : Bool} {h h2 : Heap} {i p : Addr} {k : Nat} (x : ItB t h i p k) (e : ∀ o, h.get? i = some o → h2.get? i = some o) : ItB t h2 i p k := by
  cases t with
  | true => exact Heap.IsTupleIter.at x e
  | false => exact Heap.IsListIter.at x e
theorem ItB.ob {t : Bool} {h : Heap} {i p : Addr} {k : Nat} (x : ItB t h i p k) : ∃ o, h.get? i = some o ∧ o.data = .fields #[.ref p, .int k 0] := by
  cases t with
  | true =>
    obtain ⟨o, e, _, d⟩ := (show h.IsTupleIter i p k from x)
    exact ⟨o, e, d⟩
  | false =>
    obtain ⟨o, e, _, d⟩ := (show h.IsListIter i p k from x)
    exact ⟨o, e, d⟩
section
variable {prog : Program} {w : World} {A : Around} {E : Value → Shared → Prop} {s : Shared}
theorem nextB {t : Bool} {i p : Addr} {k : Nat} {us : Array Value} {v : Value} {Q : Value → Shared → Prop} (hi : ItB t s.heap i p k) (hp : SqB t s.heap p us) (hv : us[k]? = some v)
    (k1 : ∀ h2, ItB t h2 i p (k + 1) → Heap.SameBut i s.heap h2 → Q v { s with heap := h2 }) : wpAny (model prog w) A (Builtin.SmallTypes.nextOf (.ref i)) Q E s := by
  cases t with
  | true => exact RZ.nextOf_tuple_item hi hp hv k1
  | false => exact wpAny_nextOf_list_item hi hp hv k1
theorem endB {t : Bool} {i p : Addr} {k : Nat} {us : Array Value} {Q : Value → Shared → Prop} (hd : A.handled = none) (hi : ItB t s.heap i p k) (hp : SqB t s.heap p us) (hv : us[k]? = none)
    (k1 : ∀ h2 e, Heap.ExtBut i s.heap h2 → (∃ o, h2.get? e = some o ∧ o.cls = .type "StopIteration") → E (.ref e) { s with heap := h2 }) : wpAny (model prog w) A (Builtin.SmallTypes.nextOf (.ref i)) Q E s := by
  cases t with
  | true => exact RZ.nextOf_tuple_end hd hi hp hv k1
  | false => exact wpAny_nextOf_list_end hd hi hp hv k1
/-- from the zip's fields to the two next calls -/
theorem stepB {t r : Bool} {u ti tw i j p q : Addr} {k m : Nat} {us vs : Array Value} {x y a b : Value} {Q : Value → Shared → Prop} (D : ZipApart u ti tw i j p q) (ku : IsZip s.heap u ti tw .none) (kt : IsPair s.heap ti (.ref i) (.ref j)) (kw : IsPair s.heap tw a b)
    (fi : ItB t s.heap i p k) (fj : ItB r s.heap j q m) (gp : SqB t s.heap p us) (gq : SqB r s.heap q vs) (ex : us[k]? = some x) (ey : vs[m]? = some y)
    (fin : ∀ h2, IsZip h2 u ti tw (rawInt s.heap.objs.size) → IsPair h2 tw x y → ItB t h2 i p (k + 1) → ItB r h2 j q (m + 1) → IsPair h2 s.heap.objs.size x y →
      (∀ c o, c ≠ u → c ≠ tw → c ≠ i → c ≠ j → s.heap.get? c = some o → h2.get? c = some o) → Q (.ref s.heap.objs.size) { s with heap := h2 }) :
    wpAny (model prog w) A (Builtin.«zip.__next__» ⟨[.ref u], []⟩) (fun f s2 => ∃ v, f = .done (.ret v) ∧ Q v s2) E s := by
  show wpAny _ _ (field (.ref u) 2 >>= _) _ _ _
  refine wpAny_bind (wpAny_field ku rfl (x := .bool false) rfl ?_)
  show wpAny _ _ (field (.ref u) 3 >>= _) _ _ _
  refine wpAny_bind (wpAny_field ku rfl (x := .ref ti) rfl (wpAny_bind (wpAny_seqItems kt rfl ?_)))
  show wpAny _ _ (Builtin.SmallTypes.ownedTupleIsFree (.ref u) >>= _) _ _ _
  unfold Builtin.SmallTypes.ownedTupleIsFree
  refine wpAny_bind (wpAny_bind (wpAny_field ku rfl (x := .none) rfl (wpAny_pure ?_)))
  simp only [if_true]
  refine wpAny_bind (wpAny_rule (wpAny_bind (wpAny_field ku rfl (x := .ref tw) rfl ?_)))
  refine wpAny_bind (wpAny_setField_rec ku (by simp) fun ha ka ea => ?_)
  replace ka : IsZip ha u ti tw .ellipsis := ka
  simp only [List.zipIdx_cons, List.zipIdx_nil, List.forIn_cons, List.forIn_nil]; refine wpAny_bind (wpAny_bind (wpAny_bind (wpAny_onRaise ?_)))
  show wpAny _ _ (Builtin.SmallTypes.nextOf (.ref i) >>= _) _ _ _
  refine wpAny_bind (nextB (fi.off ea.extBut D.i1z) (gp.off ea.extBut D.l1z) ex fun hb fb eb => wpAny_pure ?_)
  have kb : IsPair hb tw a b := eb.extBut _ _ D.TOi1 (ea.extBut _ _ D.TOz kw)
  refine wpAny_bind (wpAny_seqItems kb rfl (wpAny_bind (wpAny_updateSeq_pair kb fun hc kc ec => ?_)))
  replace kc : IsPair hc tw x b := kc
  refine wpAny_bind (wpAny_letGo (wpAny_pure (wpAny_bind (wpAny_bind (wpAny_onRaise ?_)))))
  show wpAny _ _ (Builtin.SmallTypes.nextOf (.ref j) >>= _) _ _ _
  refine wpAny_bind (nextB (((fj.off ea.extBut D.i2z).off eb.extBut D.i12.symm).off ec.extBut D.TOi2.symm) (((gq.off ea.extBut D.l2z).off eb.extBut D.l2i1).off ec.extBut D.l2TO) ey fun hd fd ed => wpAny_pure ?_)
  have kd : IsPair hd tw x b := ed.extBut _ _ D.TOi2 kc
  refine wpAny_bind (wpAny_seqItems kd rfl (wpAny_bind (wpAny_updateSeq_pair kd fun he ke ee => ?_)))
  replace ke : IsPair he tw x y := ke
  refine wpAny_bind (wpAny_letGo (wpAny_pure (wpAny_pure (wpAny_bind (wpAny_seqItems ke rfl (wpAny_bind (wpAny_newTuple ?_)))))))
  have size : he.objs.size = s.heap.objs.size := by rw [ee.1, ed.1, ec.1, eb.1, ea.1]
  have zu : IsZip he u ti tw .ellipsis := ee.extBut _ _ D.TOz.symm (ed.extBut _ _ D.i2z.symm (ec.extBut _ _ D.TOz.symm (eb.extBut _ _ D.i1z.symm ka)))
  have rest : ∀ c o, c ≠ u → c ≠ tw → c ≠ i → c ≠ j → s.heap.get? c = some o → he.get? c = some o := fun c o n1 n2 n3 n4 z => ee.extBut _ _ n2 (ed.extBut _ _ n4 (ec.extBut _ _ n2 (eb.extBut _ _ n3 (ea.extBut _ _ n1 z))))
  have fi2 : ItB t he i p (k + 1) := ((fb.off ec.extBut D.TOi1.symm).off ed.extBut D.i12).off ee.extBut D.TOi1.symm
  have fj2 : ItB r he j q (m + 1) := fd.off ee.extBut D.TOi2.symm
  have lu : u < he.objs.size := Heap.lt_size zu
  show wpAny _ _ (Builtin.SmallTypes.ownedTupleHandOut (.ref u) (.ref he.objs.size) >>= _) _ _ _
  unfold Builtin.SmallTypes.ownedTupleHandOut
  have zf : IsZip (he.push { cls := .type "tuple", data := .seq #[x, y] }) u ti tw .ellipsis := Heap.get?_push_of_some _ zu
  refine wpAny_bind (wpAny_bind (wpAny_setField_rec zf (by simp) fun hg kg eg => ?_))
  replace kg : IsZip hg u ti tw (rawInt he.objs.size) := kg
  refine wpAny_setField_rec kg (by simp) fun hl kl el => ?_
  replace kl : IsZip hl u ti tw (rawInt he.objs.size) := kl
  have up : ∀ c o, c ≠ u → he.get? c = some o → hl.get? c = some o := fun c o n z => el.extBut _ _ n (eg.extBut _ _ n (Heap.get?_push_of_some _ z))
  have pr : IsPair hl he.objs.size x y := el.extBut _ _ (Nat.ne_of_gt lu) (eg.extBut _ _ (Nat.ne_of_gt lu) (Heap.get?_push_size _ rfl))
  rw [size] at kl pr
  refine wpAny_pure ⟨_, rfl, ?_⟩
  show Q (.ref he.objs.size) _
  rw [size]
  exact fin hl kl (up _ _ D.TOz ke) (fi2.to fun o z => up _ o D.i1z z) (fj2.to fun o z => up _ o D.i2z z) pr fun c o n1 n2 n3 n4 z => up c o n1 (rest c o n1 n2 n3 n4 z)
theorem stopB {t r : Bool} {u ti tw i j p q : Addr} {k m : Nat} {us vs : Array Value} {a b : Value} {Q : Fin → Shared → Prop} (hn : A.handled = none) (D : ZipApart u ti tw i j p q) (ku : IsZip s.heap u ti tw .none) (kt : IsPair s.heap ti (.ref i) (.ref j)) (kw : IsPair s.heap tw a b)
    (fi : ItB t s.heap i p k) (fj : ItB r s.heap j q m) (gp : SqB t s.heap p us) (gq : SqB r s.heap q vs) (over : us[k]? = none ∨ vs[m]? = none)
    (fin : ∀ h2 e, (∀ c o, c ≠ u → c ≠ tw → c ≠ i → c ≠ j → s.heap.get? c = some o → h2.get? c = some o) → (∃ o, h2.get? e = some o ∧ o.cls = .type "StopIteration") → E (.ref e) { s with heap := h2 }) :
    wpAny (model prog w) A (Builtin.«zip.__next__» ⟨[.ref u], []⟩) Q E s := by
  show wpAny _ _ (field (.ref u) 2 >>= _) _ _ _
  refine wpAny_bind (wpAny_field ku rfl (x := .bool false) rfl ?_)
  show wpAny _ _ (field (.ref u) 3 >>= _) _ _ _
  refine wpAny_bind (wpAny_field ku rfl (x := .ref ti) rfl (wpAny_bind (wpAny_seqItems kt rfl ?_)))
  show wpAny _ _ (Builtin.SmallTypes.ownedTupleIsFree (.ref u) >>= _) _ _ _
  unfold Builtin.SmallTypes.ownedTupleIsFree
  refine wpAny_bind (wpAny_bind (wpAny_field ku rfl (x := .none) rfl (wpAny_pure ?_)))
  simp only [if_true]
  refine wpAny_bind (wpAny_rule (wpAny_bind (wpAny_field ku rfl (x := .ref tw) rfl ?_)))
  refine wpAny_bind (wpAny_setField_rec ku (by simp) fun ha ka ea => ?_)
  replace ka : IsZip ha u ti tw .ellipsis := ka
  simp only [List.zipIdx_cons, List.zipIdx_nil, List.forIn_cons, List.forIn_nil]; refine wpAny_bind (wpAny_bind (wpAny_bind (wpAny_onRaise ?_)))
  show wpAny _ _ (Builtin.SmallTypes.nextOf (.ref i) >>= _) _ _ _
  cases ex : us[k]? with
  | none =>
    refine wpAny_bind (endB hn (fi.off ea.extBut D.i1z) (gp.off ea.extBut D.l1z) ex fun hb e eb ⟨oe, ge, ce⟩ => ?_)
    have kb : IsZip hb u ti tw .ellipsis := eb _ _ D.i1z.symm ka
    have ne : e ≠ u := fun z => by
      subst z
      rw [kb] at ge
      cases ge
      simp at ce
    exact wpAny_setField_rec kb (by simp) fun hc _ ec => fin hc e (fun c o n1 _ n3 _ z => ec.extBut _ _ n1 (eb _ _ n3 (ea.extBut _ _ n1 z))) ⟨oe, ec.extBut _ _ ne ge, ce⟩
  | some x =>
    have ey : vs[m]? = none := over.resolve_left fun z => by
      rw [z] at ex
      cases ex
    refine wpAny_bind (nextB (fi.off ea.extBut D.i1z) (gp.off ea.extBut D.l1z) ex fun hb fb eb => wpAny_pure ?_)
    have kb : IsPair hb tw a b := eb.extBut _ _ D.TOi1 (ea.extBut _ _ D.TOz kw)
    refine wpAny_bind (wpAny_seqItems kb rfl (wpAny_bind (wpAny_updateSeq_pair kb fun hc kc ec => ?_)))
    refine wpAny_bind (wpAny_letGo (wpAny_pure (wpAny_bind (wpAny_bind (wpAny_onRaise ?_)))))
    show wpAny _ _ (Builtin.SmallTypes.nextOf (.ref j) >>= _) _ _ _
    refine wpAny_bind (endB hn (((fj.off ea.extBut D.i2z).off eb.extBut D.i12.symm).off ec.extBut D.TOi2.symm) (((gq.off ea.extBut D.l2z).off eb.extBut D.l2i1).off ec.extBut D.l2TO) ey fun hd e ed ⟨oe, ge, ce⟩ => ?_)
    have kd : IsZip hd u ti tw .ellipsis := ed _ _ D.i2z.symm (ec.extBut _ _ D.TOz.symm (eb.extBut _ _ D.i1z.symm ka))
    have ne : e ≠ u := fun z => by
      subst z
      rw [kd] at ge
      cases ge
      simp at ce
    exact wpAny_setField_rec kd (by simp) fun hf _ ef => fin hf e (fun c o n1 n2 n3 n4 z => ef.extBut _ _ n1 (ed _ _ n4 (ec.extBut _ _ n2 (eb.extBut _ _ n3 (ea.extBut _ _ n1 z))))) ⟨oe, ef.extBut _ _ ne ge, ce⟩
theorem pyNextB {t r : Bool} {u ti tw i j p q : Addr} {k m : Nat} {us vs : Array Value} {x y a b : Value} {Q : Option Value → Shared → Prop} (D : ZipApart u ti tw i j p q) (ku : IsZip s.heap u ti tw .none) (kt : IsPair s.heap ti (.ref i) (.ref j)) (kw : IsPair s.heap tw a b)
    (fi : ItB t s.heap i p k) (fj : ItB r s.heap j q m) (gp : SqB t s.heap p us) (gq : SqB r s.heap q vs) (ex : us[k]? = some x) (ey : vs[m]? = some y)
    (fin : ∀ h2, IsZip h2 u ti tw (rawInt s.heap.objs.size) → IsPair h2 tw x y → ItB t h2 i p (k + 1) → ItB r h2 j q (m + 1) → IsPair h2 s.heap.objs.size x y →
      (∀ c o, c ≠ u → c ≠ tw → c ≠ i → c ≠ j → s.heap.get? c = some o → h2.get? c = some o) → Q (some (.ref s.heap.objs.size)) { s with heap := h2 }) : wpAny (model prog w) A (pyNext (.ref u)) Q E s := by
  have ty : s.TypeIs (.ref u) "zip" := ⟨_, ku, rfl⟩
  unfold pyNext
  refine wpAny_bind (wpAny_attempt (wpAny_callSpecial?_slot (name := Str.ofString "__next__") ty F.slot_zip_next (wpAny_call_entry F.slot_zip_next ty F.entry_zip_next ?_ (F.args_zip_next_1 _))))
  exact stepB D ku kt kw fi fj gp gq ex ey fun h2 a1 a2 a3 a4 a5 a6 => wpAny_pure (fin h2 a1 a2 a3 a4 a5 a6)
theorem pyStopB {t r : Bool} {u ti tw i j p q : Addr} {k m : Nat} {us vs : Array Value} {a b : Value} {Q : Option Value → Shared → Prop} (hn : A.handled = none) (D : ZipApart u ti tw i j p q) (ku : IsZip s.heap u ti tw .none) (kt : IsPair s.heap ti (.ref i) (.ref j)) (kw : IsPair s.heap tw a b)
    (fi : ItB t s.heap i p k) (fj : ItB r s.heap j q m) (gp : SqB t s.heap p us) (gq : SqB r s.heap q vs) (over : us[k]? = none ∨ vs[m]? = none)
    (fin : ∀ h2, (∀ c o, c ≠ u → c ≠ tw → c ≠ i → c ≠ j → s.heap.get? c = some o → h2.get? c = some o) → Q none { s with heap := h2 }) : wpAny (model prog w) A (pyNext (.ref u)) Q E s := by
  have ty : s.TypeIs (.ref u) "zip" := ⟨_, ku, rfl⟩
  unfold pyNext
  refine wpAny_bind (wpAny_attempt (wpAny_callSpecial?_slot (name := Str.ofString "__next__") ty F.slot_zip_next (wpAny_call_entry F.slot_zip_next ty F.entry_zip_next ?_ (F.args_zip_next_1 _))))
  refine stopB hn D ku kt kw fi fj gp gq over fun h2 e kp ⟨o, ge, ce⟩ => ?_
  exact wpAny_bind (wpAny_isInstance (T := "StopIteration") (b := true) ⟨o, ge, ce⟩ isSubtype_stop (wpAny_pure (fin _ kp)))
end
/-! ### a new zip of a list and a tuple -/
abbrev zh1 (h : Heap) (l1 : Addr) : Heap := h.push { cls := .type "list_iterator", data := .fields #[.ref l1, .int 0 0] }
abbrev zh2 (h : Heap) (l1 l2 : Addr) : Heap := (zh1 h l1).push { cls := .type "tuple_iterator", data := .fields #[.ref l2, .int 0 0] }
abbrev zh3 (h : Heap) (l1 l2 : Addr) : Heap := (zh2 h l1 l2).push { cls := .type "tuple", data := .seq #[.ref h.objs.size, .ref (zh1 h l1).objs.size] }
abbrev zh4 (h : Heap) (l1 l2 : Addr) : Heap := (zh3 h l1 l2).push { cls := .type "tuple", data := .seq #[.none, .none] }
abbrev zh5 (h : Heap) (l1 l2 : Addr) : Heap := (zh4 h l1 l2).push { cls := .type "zip", data := .fields #[.none, .bool false, .bool false, .ref (zh2 h l1 l2).objs.size, .ref (zh3 h l1 l2).objs.size] }
theorem meetsM (l1 l2 : Addr) (us vs : Array Value) : Meets (Builtin.«zip.__new__» ⟨[.type "zip", .ref l1, .ref l2], []⟩) (fun _ R s => s.heap.IsList l1 us ∧ s.heap.IsTuple l2 vs ∧ R (.ok (.ret (.ref (zh4 s.heap l1 l2).objs.size))) { s with heap := zh5 s.heap l1 l2 }) :=
  .of_wp fun prog w A R s h => by
    obtain ⟨hp, g, d, tk, os⟩ := s
    obtain ⟨b1, b2, h⟩ := h
    have hsub := sub_zip
    have c1 : Heap.IsList (Shared.heap ⟨hp, g, d, tk, os⟩) l1 us := b1
    have c2 : Heap.IsTuple (Shared.heap ⟨hp.push { cls := .type "list_iterator", data := .fields #[.ref l1, .int 0 0] }, g, d, tk, os⟩) l2 vs := Heap.IsTuple.push b2 _
    wp_walk using wpAny_pyIter_list c1, wpAny_pyIter_tuple c2
    exact ⟨_, rfl, h⟩
section
variable {prog : Program} {w : World} {A : Around} {E : Value → Shared → Prop} {s : Shared}
theorem call_zipM {l1 l2 : Addr} {us vs : Array Value} {Q : Value → Shared → Prop} (b1 : s.heap.IsList l1 us) (b2 : s.heap.IsTuple l2 vs)
    (fin : ∀ h2, IsZip h2 (s.heap.objs.size + 4) (s.heap.objs.size + 2) (s.heap.objs.size + 3) .none → IsPair h2 (s.heap.objs.size + 2) (.ref s.heap.objs.size) (.ref (s.heap.objs.size + 1)) → IsPair h2 (s.heap.objs.size + 3) .none .none →
      ItB false h2 s.heap.objs.size l1 0 → ItB true h2 (s.heap.objs.size + 1) l2 0 → (∀ c o, s.heap.get? c = some o → h2.get? c = some o) → Q (.ref (s.heap.objs.size + 4)) { s with heap := h2 }) :
    wpAny (model prog w) A (call (.type "zip") [.ref l1, .ref l2]) Q E s := by
  refine callType_new F.called_zip (by decide) (F.typeCall_zip_2 _ _) (F.newCall_zip_2 _ _) (fun obj => F.args_object_init_3 obj _ _) F.entry_zip_new (meetsM l1 l2 us vs) ⟨b1, b2, ?_⟩
  have n1 : (zh1 s.heap l1).objs.size = s.heap.objs.size + 1 := Heap.size_push ..
  have n2 : (zh2 s.heap l1 l2).objs.size = s.heap.objs.size + 2 := by rw [Heap.size_push, n1]
  have n3 : (zh3 s.heap l1 l2).objs.size = s.heap.objs.size + 3 := by rw [Heap.size_push, n2]
  have n4 : (zh4 s.heap l1 l2).objs.size = s.heap.objs.size + 4 := by rw [Heap.size_push, n3]
  have up : ∀ {h : Heap} {o : Obj} {c : Addr} {ob : Obj}, h.get? c = some ob → (h.push o).get? c = some ob := fun e => Heap.get?_push_of_some _ e
  have f5 : (zh5 s.heap l1 l2).get? (zh4 s.heap l1 l2).objs.size = some _ := Heap.get?_push_size _ rfl
  have f4 : (zh5 s.heap l1 l2).get? (zh3 s.heap l1 l2).objs.size = some _ := up (Heap.get?_push_size _ rfl)
  have f3 : (zh5 s.heap l1 l2).get? (zh2 s.heap l1 l2).objs.size = some _ := up (up (Heap.get?_push_size _ rfl))
  have f2 : (zh5 s.heap l1 l2).get? (zh1 s.heap l1).objs.size = some _ := up (up (up (Heap.get?_push_size _ rfl)))
  have f1 : (zh5 s.heap l1 l2).get? s.heap.objs.size = some _ := up (up (up (up (Heap.get?_push_size _ rfl))))
  show _ ∧ _
  rw [n2, n3, n4] at f5
  rw [n1, n2] at f3
  rw [n3] at f4
  rw [n1] at f2
  rw [n4]
  exact ⟨⟨_, f5, rfl⟩, fin _ f5 f3 f4 (show Heap.IsListIter _ _ _ _ from ⟨_, f1, rfl, rfl⟩) (show Heap.IsTupleIter _ _ _ _ from ⟨_, f2, rfl, rfl⟩) fun c o e => up (up (up (up (up e))))⟩
end
/-! ### what is walked -/
def SqK (K : PySem.W.Frag) (t : Bool) (H : Hp) (a : Addr) (xs : List V) : Prop := if t = true then SqT K H a xs else SqL K H a xs
/-- the two as they stand at each turn, the items in new pairs -/
def ItM (K : PySem.W.Frag) (t r : Bool) (a b : Addr) : It :=
  ⟨fun i H => ∃ (xs ys : List V) (x y : V), SqK K t H a xs ∧ SqK K r H b ys ∧ xs[i]? = some x ∧ ys[i]? = some y,
    fun i H v H2 => ∃ T x y, v = .ref T ∧ H T = none ∧ H2 = upd H T (.tup [x, y]) ∧ (∀ xs, SqK K t H a xs → xs[i]? = some x) ∧ ∀ ys, SqK K r H b ys → ys[i]? = some y,
    fun i H => ∃ xs ys : List V, SqK K t H a xs ∧ SqK K r H b ys ∧ (xs.length ≤ i ∨ ys.length ≤ i)⟩
section
variable {X : Cx} {pins : List (Addr × Obj)} {σ : L2.St} {H : Hp} {s : Shared}
theorem sqk_get {t : Bool} {a : Addr} {xs : List V} (I : Inv X pins σ H s) (h : SqK X.K t H a xs) : ∃ its : List Value, Vals xs its ∧ SqB t s.heap a its.toArray := by
  cases t with
  | true =>
    obtain ⟨its, rv, p, _⟩ := I.tuple (show SqT X.K H a xs from h)
    exact ⟨its, rv, p⟩
  | false =>
    obtain ⟨its, rv, p, _⟩ := I.list (show SqL X.K H a xs from h)
    exact ⟨its, rv, p.isList⟩
theorem sqk_one {t : Bool} {a : Addr} {xs ys : List V} (I : Inv X pins σ H s) (h : SqK X.K t H a xs) (h' : SqK X.K t H a ys) : xs = ys := by
  cases t with
  | true => exact I.tuple_inj (show SqT X.K H a xs from h) (show SqT X.K H a ys from h')
  | false => exact I.list_inj (show SqL X.K H a xs from h) (show SqL X.K H a ys from h')
end
theorem turnM {P : Program} {w : World} {K : PySem.W.Frag} {elts : List Expr} {kk : Nat} {tpos : Pos} {t r : Bool} {a b u ti tw i1 i2 : Addr} (D : ZipApart u ti tw i1 i2 a b) :
    Turn P w K (.Tuple elts kk tpos) (ItM K t r a b) [u, ti, tw, i1, i2] u (fun i h => IsZip h u ti tw .none ∧ IsPair h ti (.ref i1) (.ref i2) ∧ (∃ x y, IsPair h tw x y) ∧ ItB t h i1 a i ∧ ItB r h i2 b i) where
  mem := by simp
  obj := fun i h ⟨ku, kt, ⟨x, y, kw⟩, f1, f2⟩ c hc => by
    obtain ⟨o1, e1, d1⟩ := f1.ob
    obtain ⟨o2, e2, d2⟩ := f2.ob
    rcases (show c = u ∨ c = ti ∨ c = tw ∨ c = i1 ∨ c = i2 by simpa using hc) with q | q | q | q | q <;> subst q
    · exact ⟨_, ku, fun v q => nomatch q⟩
    · exact ⟨_, kt, fun v q => nomatch q⟩
    · exact ⟨_, kw, fun v q => nomatch q⟩
    · exact ⟨o1, e1, fun v q => by rw [d1] at q; cases q⟩
    · exact ⟨o2, e2, fun v q => by rw [d2] at q; cases q⟩
  keep := fun i h h2 ⟨ku, kt, ⟨x, y, kw⟩, f1, f2⟩ k => ⟨k u (by simp) _ ku, k ti (by simp) _ kt, ⟨x, y, k tw (by simp) _ kw⟩, f1.to fun o q => k i1 (by simp) o q, f2.to fun o q => k i2 (by simp) o q⟩
  item := by
    intro X hP hw hK hc i pins s σ H E I hf ⟨ku, kt, ⟨x0, y0, kw⟩, f1, f2⟩ ⟨xs, ys, x, y, qx, qy, hx, hy⟩
    subst hP hw hK
    obtain ⟨its, rv, g1⟩ := sqk_get I qx
    obtain ⟨its2, rv2, g2⟩ := sqk_get I qy
    obtain ⟨v, hv, r1⟩ := rv.get hx
    obtain ⟨v2, hv2, r2⟩ := rv2.get hy
    have lu : u < s.heap.objs.size := Heap.lt_size ku
    refine pyNextB D ku kt kw f1 f2 g1 g2 (x := v) (y := v2) (by simpa using hv) (by simpa using hv2) fun h2 a1 a2 a3 a4 a5 a6 => ?_
    refine ⟨_, rfl, wpAny_letOwnedTupleGo_zip (s := { s with heap := h2 }) a1 fun h3 a7 sb => ?_⟩
    have new : ObjOk X.prog X.w (upd H s.heap.objs.size (.tup [x, y])) h3 s.heap.objs.size (.tup [x, y]) := ⟨by show 2 ≤ sizeLine; decide, [v, v2], .cons r1 (.cons r2 .nil), ⟨_, (sb.2 _ (Nat.ne_of_gt lu)).trans a5, rfl, _, rfl⟩⟩
    have I2 : Inv X pins σ (upd H s.heap.objs.size (.tup [x, y])) { s with heap := h3 } := I.turnedNew (t' := s.toks) (ch := [u, ti, tw, i1, i2]) (fun c o n q => (sb.2 c fun z => n (by simp [z])).trans (a6 c o (fun z => n (by simp [z])) (fun z => n (by simp [z])) (fun z => n (by simp [z])) (fun z => n (by simp [z])) q)) hf (Nat.le_refl _) new
    refine ⟨.ref s.heap.objs.size, _, I2, rfl, ⟨_, x, y, rfl, I.hok.fresh (Nat.le_refl _), rfl, fun l hl => by rw [sqk_one I hl qx]; exact hx, fun l hl => by rw [sqk_one I hl qy]; exact hy⟩, ⟨a7, ?_, ⟨v, v2, (sb.2 _ D.TOz).trans a2⟩, a3.to fun o q => (sb.2 _ D.i1z).trans q, a4.to fun o q => (sb.2 _ D.i2z).trans q⟩, fun c hcm => ?_⟩
    · exact (sb.2 _ D.TIz).trans (a6 _ _ D.TIz D.TITO D.TIi1 D.TIi2 kt)
    · obtain ⟨_, e1, _⟩ := f1.ob
      obtain ⟨_, e2, _⟩ := f2.ob
      have lt : c < s.heap.objs.size := by
        rcases (show c = u ∨ c = ti ∨ c = tw ∨ c = i1 ∨ c = i2 by simpa using hcm) with q | q | q | q | q <;> rw [q]
        · exact lu
        · exact Heap.lt_size kt
        · exact Heap.lt_size kw
        · exact Heap.lt_size e1
        · exact Heap.lt_size e2
      rw [upd_ne (Nat.ne_of_lt lt)]
      exact (hf c hcm).1
  done := by
    intro X hP hw hK hc i pins s σ H E I hf ⟨ku, kt, ⟨x0, y0, kw⟩, f1, f2⟩ ⟨xs, ys, qx, qy, over⟩
    subst hP hw hK
    obtain ⟨its, rv, g1⟩ := sqk_get I qx
    obtain ⟨its2, rv2, g2⟩ := sqk_get I qy
    have l1 := rv.length
    have l2 := rv2.length
    have he : its.toArray[i]? = none ∨ its2.toArray[i]? = none := over.imp (fun q => by simp; omega) fun q => by simp; omega
    exact pyStopB (I.ok.hd hc) D ku kt kw f1 f2 g1 g2 he fun h2 kp => ⟨rfl, I.turnedL (t' := s.toks) (ch := [u, ti, tw, i1, i2]) (fun c o n q => kp c o (fun z => n (by simp [z])) (fun z => n (by simp [z])) (fun z => n (by simp [z])) (fun z => n (by simp [z])) q) hf⟩
  self := fun A i s Q E st h => wpAny_pyIter_zip st.1 h
def iZipM (K : PySem.W.Frag) (ta : TA) : TI := fun σ H R => ta σ H fun vs H1 => ∃ a b xs ys, vs = [.ref a, .ref b] ∧ SqL K H1 a xs ∧ SqT K H1 b ys ∧ R (ItM K false true a b) H1
theorem pi_zipM {X : Cx} {e e2 : Expr} {ta : TA} {p pos tpos : Pos} {elts : List Expr} {kk : Nat} (hg : Gl X "zip") (hm : X.mg "zip" = none) (ha : PA X [e, e2] ta)
    (hs : starEach [e, e2] X.env = (false, eval e X.env) :: starEach [e2] X.env := by rfl) (hpl : (backTo pos (starEach [e2] X.env)).any (·.1) = false := by rfl) : PI X (.Tuple elts kk tpos) (.Call (.Name "zip" p) [e, e2] [] pos) (iZipM X.K ta) := by
  refine ⟨fun pins s σ H R I h => ?_⟩
  refine Call_ (ld_blt I hg hm PyProof.Rows.boot_zip (PyProof.Rows.callWith_type1 (thn (ha.run pos pins s σ H _ I h) fun us s1 ⟨vs, H1, I1, r1, q1⟩ => ?_) hs hpl))
  obtain ⟨a, b, xs, ys, ex, qx, qy, q⟩ := q1
  subst ex
  obtain ⟨u1, u2, rfl, ru1, ru2⟩ : ∃ u1 u2, us = [u1, u2] ∧ RelV (.ref a) u1 ∧ RelV (.ref b) u2 := by
    cases r1 with
    | cons m1 r1 =>
      cases r1 with
      | cons m2 r1 =>
        cases r1
        exact ⟨_, _, rfl, m1, m2⟩
  cases ru1
  cases ru2
  have fresh : ∀ c, c ∈ [s1.heap.objs.size + 4, s1.heap.objs.size + 2, s1.heap.objs.size + 3, s1.heap.objs.size, s1.heap.objs.size + 1] → FpOk X pins H1 c := fun c hcm => by
    have le : s1.heap.objs.size ≤ c := by
      rcases (show c = s1.heap.objs.size + 4 ∨ c = s1.heap.objs.size + 2 ∨ c = s1.heap.objs.size + 3 ∨ c = s1.heap.objs.size ∨ c = s1.heap.objs.size + 1 by simpa using hcm) with z | z | z | z | z <;> rw [z] <;> first | exact Nat.le_refl _ | exact Nat.le_add_right _ _
    exact I1.fpOk le (I1.hok.fresh le)
  obtain ⟨its, _, p1, _⟩ := I1.list qx
  obtain ⟨its2, _, p2, _⟩ := I1.tuple qy
  obtain ⟨o2, ho2, _⟩ := id p2
  refine call_zipM p1.isList (show s1.heap.IsTuple b its2.toArray from p2) fun h2 a1 a2 a3 a4 a5 a6 => wpAny_pyIter_zip a1 ?_
  have I2 : Inv X pins σ H1 { s1 with heap := h2 } := I1.kept (t' := s1.toks) a6
  exact ⟨_, _, _, _, H1, rfl, I2, turnM (PySem.W.ktu_apart s1.heap.objs.size a b p1.lt (Heap.lt_size ho2)), ⟨a1, a2, ⟨_, _, a3⟩, a4, a5⟩, fresh, q⟩
end MZ
namespace DL
open PySem PySem.Spec PyProof.Rows L2 Evl
theorem sqk_mono {K : PySem.W.Frag} {H H' : Hp} {t : Bool} {a : Addr} {xs : List V} (e : Ex H H') (h : MZ.SqK K t H a xs) : MZ.SqK K t H' a xs := by
  cases t with
  | true => exact ex_t e h
  | false => exact ex_l e h
theorem walks_zipM {K : PySem.W.Frag} {Hd : Hp} {t r : Bool} {q q' : Addr} {us vs : List V} {xs ys : List D} (h : MZ.SqK K t Hd q us) (h' : MZ.SqK K r Hd q' vs) (hr : RpL K Hd us xs) (hr' : RpL K Hd vs ys) : Walks K Hd (MZ.ItM K t r q q') (zipD xs ys) := fun F i H2 Hd2 G2 e s => by
  have hH : MZ.SqK K t H2 q us := sqk_mono (e.trans s.sub) h
  have hH' : MZ.SqK K r H2 q' vs := sqk_mono (e.trans s.sub) h'
  refine ⟨fun d hd => ?_, fun hl => ⟨us, vs, hH, hH', ?_⟩⟩
  · obtain ⟨x, y, hx, hy, rfl⟩ := zip_at hd
    obtain ⟨v, hv, rv⟩ := hr.at hx
    obtain ⟨u, hu, ru⟩ := hr'.at hy
    refine ⟨⟨us, vs, v, u, hH, hH', hv, hu⟩, fun w H3 ⟨T, v', u', ew, hT, eH, h1, h2⟩ => ?_⟩
    subst ew eH
    cases Option.some.inj (hv.symm.trans (h1 us hH))
    cases Option.some.inj (hu.symm.trans (h2 vs hH'))
    exact ⟨_, s.exn hT, s.new hT, .tup st_new (.cons ((rv.mono e).mono (s.exn hT)) (.cons ((ru.mono e).mono (s.exn hT)) .nil))⟩
  · unfold zipD at hl
    rw [List.length_zipWith] at hl
    have := hr.length
    have := hr'.length
    omega
/-- zip of a list and a tuple -/
def dIZipM (dA : DA) : DI := fun ρ G S => dA ρ G fun vs G1 => ∃ xs ys, vs = [.lst xs, .tup ys] ∧ S (zipD xs ys) G1
theorem pid_zipM {X : Cx} {B : Bs} {p pos : Pos} {a b : Expr} {dA : DA} {elts : List Expr} {kk : Nat} {tpos : Pos} (hg : Gl X "zip") (hm : X.mg "zip" = none) (ha : PA X [a, b] (upA X.K B dA)) (hs : starEach [a, b] X.env = (false, eval a X.env) :: starEach [b] X.env := by rfl) (hpl : (backTo pos (starEach [b] X.env)).any (·.1) = false := by rfl) :
    PI X (.Tuple elts kk tpos) (.Call (.Name "zip" p) [a, b] [] pos) (upI X.K B (dIZipM dA)) := pi_imp (MZ.pi_zipM hg hm ha hs hpl) fun σ H R ⟨ρ, Hd, G, S, at_, h, k⟩ =>
  ⟨ρ, Hd, G, _, at_, h, fun vs H1 Hd1 xs G1 e1 s1 r1 ⟨l, m, hv, h1⟩ => by
    subst hv
    obtain ⟨v, u, rfl, rv, ru⟩ := rpl2 r1
    cases rv with
    | lst q r =>
      cases ru with
      | tup q' r' => exact ⟨_, _, _, _, rfl, ex_l s1.sub q, ex_t s1.sub q', k _ H1 Hd1 _ G1 e1 s1 (walks_zipM (t := false) (r := true) q q' r r') h1⟩⟩
end DL
namespace DL
open PySem PySem.Spec PyProof.Rows L2 Evl
/-- a comprehension in a comprehension -/
theorem pd_lcI {X0 : Cx} {s0 : Shared} {H0 : Hp} {scope0 : Scope} {C0 : Addr} {cl0 : List (Str × Addr)} {fp0 : List Addr} {B : Bs} {pos : Pos} {elt tg iter : Expr} {ifs : List Expr} {scope : Scope} {own : List (Str × Nat)} {di : DI} {g : DG} {t : DT} {de : DE} {js : List Nat} (hc : (X0.blk s0 H0 scope0 (compEnvC scope0 cl0 C0 X0.env) fp0).calm = true) (hN : X0.N.Nodup)
    (hi : PI (X0.blk s0 H0 scope0 (compEnvC scope0 cl0 C0 X0.env) fp0) tg iter (upI X0.K B di)) (ok : BlkOk X0.N (relS scope0 X0.env.scope) scope own) (hj : ∀ j ∈ js, j ∈ own.map (·.2))
    (hg : ∀ (B : Bs) (s : Shared) (H : Hp) (C : Addr) (cl : List (Str × Addr)) (fp : List Addr), PG ((X0.blk s0 H0 scope0 (compEnvC scope0 cl0 C0 X0.env) fp0).blk s H scope (compEnvC scope cl C (compEnvC scope0 cl0 C0 X0.env)) fp) tg (upG X0.K B js g))
    (ht : ∀ (B : Bs) (s : Shared) (H : Hp) (C : Addr) (cl : List (Str × Addr)) (fp : List Addr), PTs ((X0.blk s0 H0 scope0 (compEnvC scope0 cl0 C0 X0.env) fp0).blk s H scope (compEnvC scope cl C (compEnvC scope0 cl0 C0 X0.env)) fp) ifs (upT X0.K B t))
    (he : ∀ (B : Bs) (s : Shared) (H : Hp) (C : Addr) (cl : List (Str × Addr)) (fp : List Addr), PE ((X0.blk s0 H0 scope0 (compEnvC scope0 cl0 C0 X0.env) fp0).blk s H scope (compEnvC scope cl C (compEnvC scope0 cl0 C0 X0.env)) fp) elt (upE X0.K B de))
    (hs : ∀ x, foldedSetIterable iter (X0.blk s0 H0 scope0 (compEnvC scope0 cl0 C0 X0.env) fp0).env x = pure x := by intro _; rfl) :
    PE (X0.blk s0 H0 scope0 (compEnvC scope0 cl0 C0 X0.env) fp0) (.ListComp elt [⟨tg, iter, ifs, 0⟩] scope pos) (upE X0.K B (dCmp di g t de (own.map (·.2)))) :=
  pd_lc (X := X0.blk s0 H0 scope0 (compEnvC scope0 cl0 C0 X0.env) fp0) hc hN hi ok hj hg ht he hs
end DL

/-! DL19: lists that are drawn; filters that let nothing through; texts of rows. -/
namespace DL
open PySem PySem.Spec PyProof.Rows L2 Evl

/-- item by item -/
def AllR (P : D → D → Prop) : List D → List D → Prop
  | [], [] => True
  | x :: xs, y :: ys => P x y ∧ AllR P xs ys
  | _, _ => False
theorem AllR.len {P : D → D → Prop} : ∀ {xs ys : List D}, AllR P xs ys → xs.length = ys.length
  | [], [], _ => rfl
  | _ :: _, _ :: _, h => congrArg (· + 1) (AllR.len h.2)
  | [], _ :: _, h => h.elim
  | _ :: _, [], h => h.elim
theorem AllR.map {α : Type} {P : D → D → Prop} {f g : D → α} (hp : ∀ x y, P x y → f x = g y) : ∀ {xs ys : List D}, AllR P xs ys → xs.map f = ys.map g
  | [], [], _ => rfl
  | x :: xs, y :: ys, h => by
    rw [List.map_cons, List.map_cons, hp x y h.1, AllR.map hp h.2]
  | [], _ :: _, h => h.elim
  | _ :: _, [], h => h.elim
theorem AllR.right {P : D → D → Prop} {Q : D → Prop} (hp : ∀ x y, P x y → Q y) : ∀ {xs ys : List D}, AllR P xs ys → ∀ y ∈ ys, Q y
  | [], [], _, y, hy => nomatch hy
  | x :: xs, z :: ys, h, y, hy => by
    rcases List.mem_cons.mp hy with e | e
    · rw [e]
      exact hp x z h.1
    · exact AllR.right hp h.2 y e
  | [], _ :: _, h, _, _ => h.elim
  | _ :: _, [], h, _, _ => h.elim
theorem cmpL_drw {ρ0 : En} {i k : Nat} {a : Addr} {de : DE} {S : List D → Gm → Prop} (P : D → D → Prop) : ∀ {xs acc : List D} {G : Gm} {T : Nat}, (∀ x ∈ xs, Drw de (ρ0.set i (some x)) a k (P x)) → GauAt G a T → T + xs.length * k ≤ 1000000000 → acc.length + xs.length ≤ sizeLine →
    (∀ ys m, AllR P xs ys → Gau m (T + xs.length * k) → S (acc ++ ys) (gup G a m)) → cmpL ρ0 (gN i) dYes de xs acc G S
  | [], acc, G, T, _, ⟨m, hg, hm⟩, _, _, h => by
    have := h [] m trivial (by rw [List.length_nil, Nat.zero_mul]; exact hm)
    rw [List.append_nil, gup_self hg] at this
    exact this
  | x :: xs, acc, G, T, hd, hg, ht, hz, h => by
    rw [List.length_cons] at ht hz
    have e : (xs.length + 1) * k = xs.length * k + k := Nat.succ_mul _ _
    refine hd x List.mem_cons_self G T (fun y G3 => acc.length < sizeLine ∧ cmpL ρ0 (gN i) dYes de xs (acc ++ [y]) G3 S) hg (by omega) fun y m hy hm => ⟨by omega, ?_⟩
    refine cmpL_drw P (T := T + k) (fun z hz => hd z (List.mem_cons_of_mem _ hz)) (gau_gup hm) (by omega) (by rw [List.length_append, List.length_singleton]; omega) fun ys m2 hys hm2 => ?_
    rw [gup_gup, List.append_assoc, List.singleton_append]
    exact h (y :: ys) m2 ⟨hy, hys⟩ (by rw [List.length_cons, e]; exact hm2.mono (by omega))
section
variable {ρ : En} {G : Gm} {a : Addr} {j k : Nat} {da db dc : DE} {P : D → Prop}
/-- [e for x in a list], e draws -/
theorem Drw.lcSeq {i : Nat} {vs : List Nat} {xs : List D} {x : D} (P : D → D → Prop) (ha : ∀ G, Ev da ρ G x) (hx : x = .lst xs ∨ x = .tup xs) (hd : ∀ y ∈ xs, Drw db ((wipeD ρ vs).set i (some y)) a k (P y)) (hz : xs.length ≤ sizeLine) :
    Drw (dCmp (dISeq da) (gN i) dYes db vs) ρ a (xs.length * k) (fun z => ∃ ys, z = .lst ys ∧ AllR P xs ys) := fun G T R hg ht r =>
  ha G _ ⟨xs, hx, cmpL_drw P hd hg ht (by rw [List.length_nil]; omega) fun ys m hys hm => r _ m ⟨ys, rfl, hys⟩ hm⟩
/-- [e for _ in range(n)], both draw -/
theorem Drw.lcRng {i : Nat} {vs : List Nat} {lo N : Nat} (ha : Drw da ρ a j (fun x => ∃ n : Nat, x = .int n ∧ lo ≤ n ∧ n ≤ N)) (hd : ∀ y, Drw db ((wipeD ρ vs).set i (some y)) a k P) (hz : N ≤ 1000000) :
    Drw (dCmp (dIRng1 da) (gN i) dYes db vs) ρ a (j + N * k) (fun z => ∃ ys, z = .lst ys ∧ lo ≤ ys.length ∧ ys.length ≤ N ∧ ∀ y ∈ ys, P y) := fun G T R hg ht r => by
  refine ha G T _ hg (by omega) fun x m ⟨n, e, l1, l2⟩ hm => ?_
  subst e
  have hl : (rngD 0 (n : Int).toNat).length = n := by
    unfold rngD
    rw [List.length_map, List.length_range]
    rfl
  have hnk : n * k ≤ N * k := Nat.mul_le_mul_right _ l2
  refine ⟨n, rfl, by omega, by omega, ?_⟩
  refine cmpL_drw (k := k) (fun _ => P) (fun x _ => hd x) (gau_gup hm) (by rw [hl]; omega) (by rw [hl, List.length_nil, sizeLine_eq]; omega) fun ys m2 hys hm2 => ?_
  rw [gup_gup]
  have h2 := hys.len
  rw [hl] at h2 hm2
  exact r _ m2 ⟨ys, rfl, by omega, by omega, AllR.right (P := fun _ => P) (fun _ _ h => h) hys⟩ (hm2.mono (by omega))
theorem Drw.ifT {PB : Bool → Prop} (ht : Drw da ρ a j (fun x => ∃ b, x = .bl b ∧ PB b)) (h1 : ∀ b, PB b → if b = true then Drw db ρ a k P else Drw dc ρ a k P) : Drw (dIf (dTst da) db dc) ρ a (j + k) P := fun G T R hg htt r =>
  ht G T _ hg (by omega) fun x m ⟨b, e, hb⟩ hm => by
    subst e
    refine ⟨b, rfl, ?_⟩
    have h := h1 b hb
    cases b with
    | true =>
      refine h _ (T + j) _ (gau_gup hm) (by omega) fun x2 m2 p2 hm2 => ?_
      rw [gup_gup]
      exact r x2 m2 p2 (hm2.mono (by omega))
    | false =>
      refine h _ (T + j) _ (gau_gup hm) (by omega) fun x2 m2 p2 hm2 => ?_
      rw [gup_gup]
      exact r x2 m2 p2 (hm2.mono (by omega))
theorem Drw.eq0 {n i : Int} {v : Nat} (hi : ρ[v]? = some (some (.ref a))) (h1 : 1 ≤ n := by decide) (h2 : n < 2 ^ 8000 := by decide +kernel) : Drw (dOp fEq (dCall spDial X0 (dCons (dVar v) (dCons (dC (.int n)) dNil))) (dC (.int i))) ρ a 1 (fun x => ∃ b, x = .bl b ∧ True) :=
  (Drw.op (j := 1) (k := 0) (Drw.dial hi (fun _ => .c) h1 h2) (.ev (fun _ => .c) (rfl : D.int i = .int i)) fun x y ⟨u, e, _⟩ e2 => by
    subst e e2
    exact ⟨_, rfl, _, rfl, trivial⟩)
/-- lo <= x <= hi of ints -/
theorem Ev.chain {i u l : Int} (ha : Ev da ρ G (.int i)) (hb : Ev db ρ G (.int u)) (hc : Ev dc ρ G (.int l)) : Ev (dChain (fInt gLe) (fInt gLe) da db dc) ρ G (.bl (decide (i ≤ u) && decide (u ≤ l))) := fun R r => ha _ (hb _ ⟨decide (i ≤ u), ⟨i, u, rfl, rfl, rfl⟩, by
  split
  · rename_i h
    rw [h, Bool.true_and] at r
    exact hc _ ⟨_, ⟨u, l, rfl, rfl, rfl⟩, r⟩
  · rename_i h
    rw [Bool.eq_false_iff.mpr h, Bool.false_and] at r
    exact r⟩)
end
/-- a filter that lets nothing through -/
theorem cmpL_none {ρ0 : En} {g : DG} {t : DT} {de : DE} {S : List D → Gm → Prop} {G : Gm} : ∀ {xs acc : List D}, (∀ x ∈ xs, ∀ N : En → Bool → Gm → Prop, (∀ ρ1, N ρ1 false G) → g x ρ0 G fun ρ1 G1 => t ρ1 G1 (N ρ1)) → S acc G → cmpL ρ0 g t de xs acc G S
  | [], acc, _, h => h
  | x :: xs, acc, hf, h => by
    have all := cmpL_none (t := t) (de := de) (S := S) (acc := acc) (fun y hy => hf y (List.mem_cons_of_mem _ hy)) h
    exact hf x List.mem_cons_self (fun ρ1 k G2 => if k = true then de ρ1 G2 fun y G3 => acc.length < sizeLine ∧ cmpL ρ0 g t de xs (acc ++ [y]) G3 S else cmpL ρ0 g t de xs acc G2 S) fun ρ1 => by
      rw [if_neg (by decide)]
      exact all
/-- rows of ints of no great size can be shown -/
def Fi (i : Int) : Prop := i.natAbs < 10 ^ 560
theorem fit_ints : ∀ {is : List Int}, (∀ i ∈ is, Fi i) → D.fitL (is.map D.int) = true
  | [], _ => rfl
  | i :: is, h => by
    show (decide (i.natAbs < 10 ^ 560) && D.fitL (is.map D.int)) = true
    rw [fit_ints fun j hj => h j (List.mem_cons_of_mem _ hj), decide_eq_true (show i.natAbs < 10 ^ 560 from h i List.mem_cons_self)]
    rfl
theorem sz_ints (is : List Int) : D.szL (is.map D.int) = is.length := by
  induction is with
  | nil => rfl
  | cons i is ih =>
    show 1 + D.szL (is.map D.int) = is.length + 1
    omega
theorem shw_tupI {is : List Int} (h : ∀ i ∈ is, Fi i) (hl : is.length ≤ 10000) : Shw (tupI is) := ⟨fit_ints h, by show D.dpL _ + 1 ≤ 60; rw [dp_ints]; decide, by show D.szL _ + 1 ≤ 27000; rw [sz_ints]; omega⟩
structure Row (m : Nat) (is : List Int) : Prop where
  f : ∀ i ∈ is, Fi i
  l : is.length ≤ m
theorem rows_all {m : Nat} : ∀ {iss : List (List Int)}, (∀ is ∈ iss, Row m is) → D.fitL (iss.map tupI) = true ∧ D.dpL (iss.map tupI) ≤ 1 ∧ D.szL (iss.map tupI) ≤ iss.length * (m + 1)
  | [], _ => ⟨rfl, Nat.zero_le _, Nat.zero_le _⟩
  | is :: iss, h => by
    obtain ⟨h1, h2, h3⟩ := rows_all fun j hj => h j (List.mem_cons_of_mem _ hj)
    have r := h is List.mem_cons_self
    refine ⟨?_, ?_, ?_⟩
    · show (D.fitL (is.map D.int) && D.fitL (iss.map tupI)) = true
      rw [fit_ints r.f, h1]
      rfl
    · show max (D.dpL (is.map D.int) + 1) (D.dpL (iss.map tupI)) ≤ 1
      rw [dp_ints]
      omega
    · show D.szL (is.map D.int) + 1 + D.szL (iss.map tupI) ≤ (iss.length + 1) * (m + 1)
      rw [sz_ints, Nat.succ_mul]
      have := r.l
      omega
/-- [x, x] of a tuple of rows -/
theorem rep_rows2 {m : Nat} {iss : List (List Int)} (h : ∀ is ∈ iss, Row m is) (hm : iss.length * (m + 1) ≤ 13000) : RepOk (.lst [.tup (iss.map tupI), .tup (iss.map tupI)]) := by
  obtain ⟨h1, h2, h3⟩ := rows_all h
  refine .inl ⟨?_, ?_, ?_⟩
  · show (D.fitL (iss.map tupI) && (D.fitL (iss.map tupI) && true)) = true
    rw [h1]
    rfl
  · show max (D.dpL (iss.map tupI) + 1) (max (D.dpL (iss.map tupI) + 1) 0) + 1 ≤ 60
    omega
  · show D.szL (iss.map tupI) + 1 + (D.szL (iss.map tupI) + 1 + 0) + 1 ≤ 27000
    omega
theorem rep_row2 {m : Nat} {is : List Int} (h : Row m is) (hm : m ≤ 10000) : RepOk (.lst [tupI is, tupI is]) := by
  refine .inl ⟨?_, ?_, ?_⟩
  · show (D.fitL (is.map D.int) && (D.fitL (is.map D.int) && true)) = true
    rw [fit_ints h.f]
    rfl
  · show max (D.dpL (is.map D.int) + 1) (max (D.dpL (is.map D.int) + 1) 0) + 1 ≤ 60
    rw [dp_ints]
    decide
  · show D.szL (is.map D.int) + 1 + (D.szL (is.map D.int) + 1 + 0) + 1 ≤ 27000
    rw [sz_ints]
    have := h.l
    omega
theorem labsT_rows {ds : List D} {first : Int} {n : Nat} : labsT ds first n = ((List.range n).map fun i : Nat => labs ds (first + i)).map tupI := by
  unfold labsT
  rw [List.map_map]
  rfl
/-- labels grow by one at most -/
theorem lab_step {a b p : Int} (hb : 0 < b) : 0 ≤ (p * a / b - (p - 1) * a / b) - a / b ∧ (p * a / b - (p - 1) * a / b) - a / b ≤ if decide (1 < b) then 1 else 0 := by
  have e0 : p * a = ((p - 1) * a % b + a % b) + ((p - 1) * a / b + a / b) * b := by
    have h1 := Int.emod_add_mul_ediv ((p - 1) * a) b
    have h2 := Int.emod_add_mul_ediv a b
    grind
  have e1 : p * a / b = ((p - 1) * a % b + a % b) / b + ((p - 1) * a / b + a / b) := by
    conv => lhs; rw [e0]
    exact Int.add_mul_ediv_right _ _ (by omega)
  have r1 := Int.emod_nonneg ((p - 1) * a) (show b ≠ 0 by omega)
  have r2 := Int.emod_lt_of_pos ((p - 1) * a) hb
  have r3 := Int.emod_nonneg a (show b ≠ 0 by omega)
  have r4 := Int.emod_lt_of_pos a hb
  have q0 : 0 ≤ ((p - 1) * a % b + a % b) / b := Int.ediv_nonneg (by omega) (by omega)
  have q1 : ((p - 1) * a % b + a % b) / b < 2 := Int.ediv_lt_of_lt_mul hb (by omega)
  rw [e1]
  refine ⟨by omega, ?_⟩
  by_cases h : 1 < b
  · rw [if_pos (decide_eq_true h)]
    omega
  · rw [if_neg (by simpa using h)]
    have b1 : b = 1 := by omega
    subst b1
    omega
def facR : DS := (dSeq (dPar 0 1 (dCons (dCal fAbs (dCons (dVar 0) dNil)) (dCons (dCal fAbs (dCons (dVar 1) dNil)) dNil))) (dSeq (dWhile (dTst (dOp (fInt gGt) (dVar 1) (dC (.int 0)))) (dPar 0 1 (dCons (dVar 1) (dCons (dOp (fIntC (fun _ j => 0 < j) fun i j => .int (i % j)) (dCal fIntOf (dCons (dVar 0) dNil)) (dVar 1)) dNil)))) (dRet (dVar 0))))
theorem fac_ok (xs : List D) (G : Gm) (R : KD) (RX : XD) (h : sp_common xs G R RX) : facR { nx := fun _ G => R .non G, rt := R } (xs.map some ++ List.replicate (2 - xs.length) none) G := by
  obtain ⟨i, j, rfl, h⟩ := h
  refine ds_par (.absN (.var rfl)) (.absN (.var rfl)) ?_
  refine while_gcd (by decide) (fun ρ G p h => .intOf (.var h)) rfl rfl fun ρ' h1 => ?_
  exact ds_ret (.var h1) h
end DL

/-! DL20: range of ints of any size. -/
namespace DL
open PySem PySem.Spec PyProof.Rows L2 Evl

theorem turn_long {P : Program} {w : World} {K : PySem.W.Frag} {tg : Expr} (q : Addr) (lo : Int) (n : Nat) : Turn P w K tg (Itr lo n) [q] q (fun i h => IsLongIter h q (lo + (i : Nat) * 1) ((n : Int) - (i : Nat)) 1) where
  mem := by simp
  obj := fun i h st b hb => by
    cases List.mem_singleton.mp hb
    exact ⟨_, st, fun v z => nomatch (show Data.fields _ = Data.cell v from z)⟩
  keep := fun i h h2 st k => k q (by simp) _ st
  item := by
    intro X hP hw hK hc i pins s σ H E I hf st hg
    subst hP hw hK
    obtain ⟨f0, f1, _, f3, f4, f5⟩ := hf q (by simp)
    have lt : i < n := hg
    refine wpAny_pyNext_long_item st (by omega) fun h2 st2 sb => ?_
    have e1 : lo + ((i : Nat) : Int) * 1 + 1 = lo + ((i + 1 : Nat) : Int) * 1 := by omega
    have e2 : (n : Int) - ((i : Nat) : Int) - 1 = (n : Int) - ((i + 1 : Nat) : Int) := by omega
    rw [e1, e2] at st2
    have I2 : Inv X pins σ H { s with heap := h2, toks := s.toks + 1 } := I.turned (fun b o hb e => sb.extBut b o hb e) f0 f1 f3 f4 f5
    refine ⟨_, rfl, go_of (s := { s with heap := h2, toks := s.toks + 1 }) (n := "longrange_iterator") st2 rfl rfl (by decide) ⟨.int (lo + i), H, I2, ⟨s.toks, by rw [Int.mul_one]⟩, ⟨rfl, rfl⟩, st2, fun b hb => (hf b hb).1⟩⟩
  done := by
    intro X hP hw hK hc i pins s σ H E I hf st hg
    subst hP hw hK
    obtain ⟨f0, f1, _, f3, f4, f5⟩ := hf q (by simp)
    have ge : n ≤ i := hg
    exact wpAny_pyNext_long_end (I.ok.hd hc) st (by omega) fun h2 eb => ⟨rfl, I.turned (t' := s.toks) (fun b o hb e => eb b o hb e) f0 f1 f3 f4 f5⟩
  self := fun _ _ _ _ _ st h => wpAny_pyIter_longiter st h
theorem range_any {X : Cx} {tg : Expr} {pins : List (Addr × Obj)} {σ : L2.St} {H : Hp} {s : Shared} {R : It → Hp → Prop} {E : Value → Shared → Prop} {lo hi : Int} {t u v : Tok} {tk : Nat} (I : Inv X pins σ H s) (q : R (Itr lo (hi - lo).toNat) H) :
    wpAny (model X.prog X.w) X.A (pyIter (.ref s.heap.objs.size)) (PIE X pins σ tg R) E { s with heap := s.heap.push { cls := .type "range", data := .fields #[.int lo t, .int hi u, .int 1 v] }, toks := tk } := by
  have I1 : Inv X pins σ H { s with heap := s.heap.push { cls := .type "range", data := .fields #[.int lo t, .int hi u, .int 1 v] }, toks := tk } := I.kept fun b o e => Heap.get?_push_of_some _ e
  have e1 : lo + ((0 : Nat) : Int) * 1 = lo := by simp
  have e2 : (((hi - lo).toNat : Nat) : Int) - ((0 : Nat) : Int) = Builtin.Range.rangeSize lo hi 1 := by
    rw [rangeSize_one]
    split <;> omega
  have fp : ∀ b ∈ [(s.heap.push { cls := .type "range", data := .fields #[.int lo t, .int hi u, .int 1 v] }).objs.size], FpOk X pins H b := fun b hb => by
    cases List.mem_singleton.mp hb
    exact I1.fpOk (Nat.le_refl _) (I1.hok.fresh (Nat.le_refl _))
  cases hs : Builtin.Range.small lo hi 1 with
  | true =>
    refine wpAny_pyIter_range (IsRange.new ..) hs ?_
    refine ⟨_, _, _, _, H, rfl, I1.kept (t' := tk) fun b o e => Heap.get?_push_of_some _ e, turn_range _ lo (hi - lo).toNat, ?_, fp, q⟩
    show IsRangeIter _ _ (lo + ((0 : Nat) : Int) * 1) ((((hi - lo).toNat : Nat) : Int) - ((0 : Nat) : Int)) 1
    rw [e1, e2]
    exact Heap.get?_push_size _ rfl
  | false =>
    refine wpAny_pyIter_longrange (IsRange.new ..) hs ?_
    refine ⟨_, _, _, _, H, rfl, I1.kept (t' := tk) fun b o e => Heap.get?_push_of_some _ e, turn_long _ lo (hi - lo).toNat, ?_, fp, q⟩
    show IsLongIter _ _ (lo + ((0 : Nat) : Int) * 1) ((((hi - lo).toNat : Nat) : Int) - ((0 : Nat) : Int)) 1
    rw [e1, e2]
    exact Heap.get?_push_size _ rfl
def iRng2L (ta : TA) : TI := fun σ H R => ta σ H fun vs H1 => ∃ i j : Int, vs = [.int i, .int j] ∧ R (Itr i (j - i).toNat) H1
theorem pi_range2L {X : Cx} {tg a b : Expr} {ta : TA} {p pos : Pos} (hg : Gl X "range") (hm : X.mg "range" = none) (ha : PA X [a, b] ta) (hs : starEach [a, b] X.env = [(false, eval a X.env), (false, eval b X.env)] := by rfl) (hs2 : starEach [b] X.env = [(false, eval b X.env)] := by rfl) :
    PI X tg (.Call (.Name "range" p) [a, b] [] pos) (iRng2L ta) := by
  refine ⟨fun pins s σ H R I h => ?_⟩
  refine Call_ (ld_blt I hg hm boot_range (PyProof.Rows.callWith_type1 (thn (ha.run pos pins s σ H _ I h) fun us s1 ⟨vs, H1, I1, r1, i, j, e, q⟩ => ?_) (by rw [hs, hs2]) (by rw [hs2]; rfl)))
  subst e
  obtain ⟨u1, u2, rfl, ⟨t, rfl⟩, ⟨t2, rfl⟩⟩ : ∃ u1 u2, us = [u1, u2] ∧ (∃ t, u1 = Value.int i t) ∧ (∃ t, u2 = Value.int j t) := by
    cases r1 with
    | cons m1 r1 =>
      cases r1 with
      | cons m2 r1 =>
        cases r1
        exact ⟨_, _, rfl, m1, m2⟩
  exact call_range_2 (range_any I1 q)
def dIRngL (da db : DE) : DI := fun ρ G S => da ρ G fun x G1 => db ρ G1 fun y G2 => ∃ i j, x = .int i ∧ y = .int j ∧ S (rngD i (j - i).toNat) G2
theorem pid_rngL {X : Cx} {B : Bs} {tg a b : Expr} {da db : DE} {p pos : Pos} (hg : Gl X "range") (hm : X.mg "range" = none) (ha : PE X a (upE X.K B da)) (hb : PE X b (upE X.K B db)) (hs : starEach [a, b] X.env = [(false, eval a X.env), (false, eval b X.env)] := by rfl) (hs2 : starEach [b] X.env = [(false, eval b X.env)] := by rfl) :
    PI X tg (.Call (.Name "range" p) [a, b] [] pos) (upI X.K B (dIRngL da db)) :=
  pi_imp (pi_range2L hg hm (pda_cons ha (pda_cons hb pda_nil hs2) (by rw [hs, hs2])) hs hs2) fun σ H R ⟨ρ, Hd, G, S, at_, h, k⟩ =>
    ⟨ρ, Hd, G, fun xs G1 => ∃ i j, xs = [.int i, .int j] ∧ S (rngD i (j - i).toNat) G1, at_, by
      show da ρ G fun x G1 => db ρ G1 _
      refine cast (congrArg (da ρ G) (funext fun x => funext fun G1 => congrArg (db ρ G1) (funext fun y => funext fun G2 => propext ⟨fun ⟨i, j, e, e2, r⟩ => ⟨i, j, by rw [e, e2], r⟩, fun ⟨i, j, e, r⟩ => ?_⟩))) h
      injection e with e e2
      injection e2 with e2 _
      exact ⟨i, j, e, e2, r⟩, fun vs H1 Hd1 xs G1 e1 s1 r1 ⟨i, j, ex, h1⟩ => by
      subst ex
      obtain ⟨v, u, rfl, rv, ru⟩ := rpl2 r1
      cases rv
      cases ru
      exact ⟨i, j, rfl, k _ H1 Hd1 _ G1 e1 s1 walks_rng h1⟩⟩
/-- the list of f(0), f(1), .. over range(i, i + n) -/
theorem Ev.lcRngL {ρ : En} {G : Gm} {da db de : DE} {v : Nat} {vs : List Nat} {i : Int} {n : Nat} (f : Nat → D) (ha : Ev da ρ G (.int i)) (hb : Ev db ρ G (.int (i + n))) (hf : ∀ j : Nat, j < n → Ev de ((wipeD ρ vs).set v (some (.int (i + j)))) G (f j)) (hz : n ≤ sizeLine) : Ev (dCmp (dIRngL da db) (gN v) dYes de vs) ρ G (.lst ((List.range n).map f)) := fun R r => by
  refine ha _ (hb _ ⟨i, i + n, rfl, rfl, ?_⟩)
  have en : (i + (n : Int) - i).toNat = n := by omega
  rw [en]
  refine cmpL_map (fun d => match d with | .int j => f (j - i).toNat | _ => .non) (fun y hy S' hS => ?_) ?_ ?_
  · obtain ⟨j, hj, rfl⟩ := List.mem_map.mp hy
    have hj2 := List.mem_range.mp hj
    refine hf j hj2 _ ?_
    have e0 : (i + (j : Nat) - i).toNat = j := by omega
    have hS2 : S' (f (i + (j : Nat) - i).toNat) G := hS
    rw [e0] at hS2
    exact hS2
  · unfold rngD
    rw [List.length_map, List.length_range, List.length_nil]
    omega
  · have e : (rngD i n).map (fun d => match d with | .int j => f (j - i).toNat | _ => .non) = (List.range n).map f := by
      unfold rngD
      rw [List.map_map]
      refine List.map_congr_left fun j _ => ?_
      show f (i + (j : Nat) - i).toNat = f j
      have e0 : (i + (j : Nat) - i).toNat = j := by omega
      rw [e0]
    rw [e, List.nil_append]
    exact r
end DL
/-! enumerate of a tuple -/
namespace MZ
open PySem PySem.Spec PyProof.Rows L2
open PySem.Sem (wp)
section
variable {prog : Program} {w : World} {A : Around} {E : Value → Shared → Prop} {s : Shared}
theorem enumB {t : Bool} {u i p : Addr} {k : Nat} {us : Array Value} {x old : Value} {Q : Value → Shared → Prop} (ku : IsEnum s.heap u i k old) (fi : ItB t s.heap i p k) (gp : SqB t s.heap p us) (ex : us[k]? = some x) (ne : u ≠ i)
    (fin : ∀ h2, IsEnumOut h2 u i ((k : Int) + 1) x s.heap.objs.size → ItB t h2 i p (k + 1) → h2.get? s.heap.objs.size = some { cls := .type "tuple", data := .seq #[.int k s.toks, x] } →
      (∀ c o, c ≠ u → c ≠ i → s.heap.get? c = some o → h2.get? c = some o) → Q (.ref s.heap.objs.size) { s with heap := h2, toks := s.toks + 1 }) :
    wpAny (model prog w) A (Builtin.«enumerate.__next__» ⟨[.ref u], []⟩) (fun f s2 => ∃ v, f = .done (.ret v) ∧ Q v s2) E s := by
  obtain ⟨hp, g, d, tk, os⟩ := s
  show wpAny _ _ (field (.ref u) 2 >>= _) _ _ _
  refine wpAny_bind (wpAny_field ku rfl (x := .ref i) rfl (wpAny_bind (nextB fi gp ex fun ha fa ea => ?_)))
  replace ea : Heap.SameBut i hp ha := ea
  have ka : IsEnum ha u i k old := (ea.2 u ne).trans ku
  show wpAny _ _ (field (.ref u) 3 >>= _) _ _ ⟨ha, g, d, tk, os⟩
  refine wpAny_bind (wpAny_field ka rfl (x := rawInt k) rfl ?_)
  show wpAny _ _ (field (.ref u) 4 >>= _) _ _ ⟨ha, g, d, tk, os⟩
  refine wpAny_bind (wpAny_field ka rfl (x := .none) rfl ?_)
  show wpAny _ _ (mkInt k >>= _) _ _ ⟨ha, g, d, tk, os⟩
  refine wpAny_bind (wpAny_mkInt ?_)
  show wpAny _ _ (setField (.ref u) 3 (rawInt ((k : Int) + 1)) >>= _) _ _ ⟨ha, g, d, tk + 1, os⟩
  refine wpAny_bind (wpAny_setField_rec ka (by simp) fun hb kb eb => ?_)
  replace eb : Heap.SameBut u ha hb := eb
  replace kb : IsEnum hb u i ((k : Int) + 1) old := kb
  show wpAny _ _ (setField (.ref u) 4 .none >>= _) _ _ ⟨hb, g, d, tk + 1, os⟩
  refine wpAny_bind (wpAny_setField_rec kb (by simp) fun hc kc ec => ?_)
  replace ec : Heap.SameBut u hb hc := ec
  replace kc : IsEnum hc u i ((k : Int) + 1) old := kc
  show wpAny _ _ (newTuple [.int k tk, x] >>= _) _ _ ⟨hc, g, d, tk + 1, os⟩
  refine wpAny_bind (wpAny_newTuple ?_)
  have size : hc.objs.size = hp.objs.size := by rw [ec.1, eb.1, ea.1]
  have kd : IsEnum (hc.push { cls := .type "tuple", data := .seq #[.int k tk, x] }) u i ((k : Int) + 1) old := Heap.get?_push_of_some _ kc
  have lu : u < hp.objs.size := Heap.lt_size ku
  have td : (hc.push { cls := .type "tuple", data := .seq #[.int k tk, x] }).get? hp.objs.size = some { cls := .type "tuple", data := .seq #[.int k tk, x] } := by
    rw [← size]
    exact Heap.get?_push_size _ rfl
  have rest : ∀ c o, c ≠ u → c ≠ i → hp.get? c = some o → (hc.push { cls := .type "tuple", data := .seq #[.int k tk, x] }).get? c = some o := fun c o n1 n2 z => Heap.get?_push_of_some _ (ec.extBut c o n1 (eb.extBut c o n1 (ea.extBut c o n2 z)))
  have fd : ItB t (hc.push { cls := .type "tuple", data := .seq #[.int k tk, x] }) i p (k + 1) := ((fa.off eb.extBut ne.symm).off ec.extBut ne.symm).to fun o z => Heap.get?_push_of_some _ z
  generalize hc.push { cls := .type "tuple", data := .seq #[.int k tk, x] } = hd at kd td rest fd ⊢
  show wpAny _ _ (Builtin.SmallTypes.ownedTupleIsFree (.ref u) >>= _) _ _ ⟨hd, g, d, tk + 1, os⟩
  rw [size]
  unfold Builtin.SmallTypes.ownedTupleIsFree
  refine wpAny_bind (wpAny_bind (wpAny_field kd rfl (x := .none) rfl (wpAny_pure ?_)))
  simp only [if_true]
  refine wpAny_bind (wpAny_rule (wpAny_bind (wpAny_field kd rfl (x := old) rfl ?_)))
  refine wpAny_bind (wpAny_setField_rec kd (by simp) fun he ke ee => ?_)
  replace ee : Heap.SameBut u hd he := ee
  replace ke : IsEnum he u i ((k : Int) + 1) x := ke
  show wpAny _ _ (Builtin.SmallTypes.ownedTupleHandOut (.ref u) (.ref hp.objs.size) >>= _) _ _ ⟨he, g, d, tk + 1, os⟩
  unfold Builtin.SmallTypes.ownedTupleHandOut
  refine wpAny_bind (wpAny_bind (wpAny_setField_rec ke (by simp) fun hf kf ef => ?_))
  replace ef : Heap.SameBut u he hf := ef
  replace kf : IsEnumOut hf u i ((k : Int) + 1) x hp.objs.size := kf
  refine wpAny_setField_rec kf (by simp) fun hg kg eg => ?_
  replace eg : Heap.SameBut u hf hg := eg
  replace kg : IsEnumOut hg u i ((k : Int) + 1) x hp.objs.size := kg
  refine wpAny_bind (wpAny_letGo (wpAny_pure ⟨_, rfl, fin hg kg ?_ ?_ ?_⟩))
  · exact ((fd.off ee.extBut ne.symm).off ef.extBut ne.symm).off eg.extBut ne.symm
  · exact eg.extBut _ _ (Nat.ne_of_gt lu) (ef.extBut _ _ (Nat.ne_of_gt lu) (ee.extBut _ _ (Nat.ne_of_gt lu) td))
  · exact fun c o n1 n2 z => eg.extBut c o n1 (ef.extBut c o n1 (ee.extBut c o n1 (rest c o n1 n2 z)))
theorem pyEnumB {t : Bool} {u i p : Addr} {k : Nat} {us : Array Value} {x old : Value} {Q : Option Value → Shared → Prop} (ku : IsEnum s.heap u i k old) (fi : ItB t s.heap i p k) (gp : SqB t s.heap p us) (ex : us[k]? = some x) (ne : u ≠ i)
    (fin : ∀ h2, IsEnumOut h2 u i ((k : Int) + 1) x s.heap.objs.size → ItB t h2 i p (k + 1) → h2.get? s.heap.objs.size = some { cls := .type "tuple", data := .seq #[.int k s.toks, x] } →
      (∀ c o, c ≠ u → c ≠ i → s.heap.get? c = some o → h2.get? c = some o) → Q (some (.ref s.heap.objs.size)) { s with heap := h2, toks := s.toks + 1 }) : wpAny (model prog w) A (pyNext (.ref u)) Q E s := by
  have ty : s.TypeIs (.ref u) "enumerate" := ⟨_, ku, rfl⟩
  unfold pyNext
  refine wpAny_bind (wpAny_attempt (wpAny_callSpecial?_slot (name := Str.ofString "__next__") ty F.slot_enumerate_next (wpAny_call_entry F.slot_enumerate_next ty F.entry_enumerate_next ?_ (F.args_enumerate_next_1 _))))
  exact enumB ku fi gp ex ne fun h2 a1 a2 a3 a4 => wpAny_pure (fin h2 a1 a2 a3 a4)
theorem pyEnumStop {t : Bool} {u i p : Addr} {k : Nat} {us : Array Value} {old : Value} {Q : Option Value → Shared → Prop} (hn : A.handled = none) (ku : IsEnum s.heap u i k old) (fi : ItB t s.heap i p k) (gp : SqB t s.heap p us) (ex : us[k]? = none)
    (fin : ∀ h2, Heap.ExtBut i s.heap h2 → Q none { s with heap := h2 }) : wpAny (model prog w) A (pyNext (.ref u)) Q E s := by
  have ty : s.TypeIs (.ref u) "enumerate" := ⟨_, ku, rfl⟩
  unfold pyNext
  refine wpAny_bind (wpAny_attempt (wpAny_callSpecial?_slot (name := Str.ofString "__next__") ty F.slot_enumerate_next (wpAny_call_entry F.slot_enumerate_next ty F.entry_enumerate_next ?_ (F.args_enumerate_next_1 _))))
  show wpAny _ _ (field (.ref u) 2 >>= _) _ _ _
  refine wpAny_bind (wpAny_field ku rfl (x := .ref i) rfl (wpAny_bind (endB hn fi gp ex fun h2 e eb ⟨o, ge, ce⟩ => ?_)))
  exact wpAny_bind (wpAny_isInstance (T := "StopIteration") (b := true) ⟨o, ge, ce⟩ isSubtype_stop (wpAny_pure (fin _ eb)))
end
theorem meetsEnumT (l : Addr) (us : Array Value) : Meets (Builtin.«enumerate.__new__» ⟨[.type "enumerate", .ref l], []⟩) (fun _ R s => s.heap.IsTuple l us ∧
    R (.ok (.ret (.ref (s.heap.push { cls := .type "tuple_iterator", data := .fields #[.ref l, .int 0 0] }).objs.size))) { s with heap := (s.heap.push { cls := .type "tuple_iterator", data := .fields #[.ref l, .int 0 0] }).push { cls := .type "enumerate", data := .fields #[.none, .bool false, .ref s.heap.objs.size, rawInt 0, .none, .none] } }) :=
  .of_wp fun prog w A R s h => by
    obtain ⟨hp, g, d, tk, os⟩ := s
    obtain ⟨hl, h⟩ := h
    have hsub := sub_enumerate
    have hT : Heap.IsTuple (Shared.heap ⟨hp, g, d, tk, os⟩) l us := hl
    obtain ⟨o, ho, hc, n, hd⟩ := id hl
    have ho2 : Heap.get? (Shared.heap ⟨hp, g, d, tk, os⟩) l = some o := ho
    wp_walk using AutoSeq1.wpAny_loadPart' ho2
    refine wpAny_stack_any fun st => wpAny_pure ?_
    split
    · rename_i c _ _ _ _ _
      cases (c == Value.type "enumerate")
      · wp_walk using AutoSeq1.wpAny_loadPart' ho2, wpAny_pyIter_tuple hT
        exact ⟨_, rfl, h⟩
      · wp_walk using AutoSeq1.wpAny_loadPart' ho2, wpAny_pyIter_tuple hT
        exact ⟨_, rfl, h⟩
    · wp_walk using AutoSeq1.wpAny_loadPart' ho2, wpAny_pyIter_tuple hT
      exact ⟨_, rfl, h⟩
section
variable {prog : Program} {w : World} {A : Around} {E : Value → Shared → Prop} {s : Shared}
theorem call_enumT {l : Addr} {us : Array Value} {Q : Value → Shared → Prop} (hl : s.heap.IsTuple l us)
    (fin : ∀ h2, IsEnum h2 (s.heap.objs.size + 1) s.heap.objs.size 0 .none → ItB true h2 s.heap.objs.size l 0 → (∀ c o, s.heap.get? c = some o → h2.get? c = some o) → Q (.ref (s.heap.objs.size + 1)) { s with heap := h2 }) :
    wpAny (model prog w) A (call (.type "enumerate") [.ref l]) Q E s := by
  refine callType_new F.called_enumerate (by decide) (F.typeCall_enumerate_1 _) (F.newCall_enumerate_1 _) (fun obj => F.args_object_init_2 obj _) F.entry_enumerate_new (meetsEnumT l us) ⟨hl, ?_⟩
  have n1 : (s.heap.push { cls := .type "tuple_iterator", data := .fields #[.ref l, .int 0 0] }).objs.size = s.heap.objs.size + 1 := Heap.size_push ..
  have f1 : ((s.heap.push { cls := .type "tuple_iterator", data := .fields #[.ref l, .int 0 0] }).push { cls := .type "enumerate", data := .fields #[.none, .bool false, .ref s.heap.objs.size, rawInt 0, .none, .none] }).get? (s.heap.push { cls := .type "tuple_iterator", data := .fields #[.ref l, .int 0 0] }).objs.size = some _ := Heap.get?_push_size _ rfl
  show _ ∧ _
  rw [n1] at f1 ⊢
  exact ⟨⟨_, f1, rfl⟩, fin _ f1 (show Heap.IsTupleIter _ _ _ _ from ⟨_, Heap.get?_push_of_some _ (Heap.get?_push_size _ rfl), rfl, rfl⟩) fun c o e => Heap.get?_push_of_some _ (Heap.get?_push_of_some _ e)⟩
end
/-- the list or tuple at a as it stands at each turn, each item in a new pair with its place -/
def ItE (K : PySem.W.Frag) (t : Bool) (a : Addr) : It :=
  ⟨fun i H => ∃ (xs : List V) (x : V), SqK K t H a xs ∧ xs[i]? = some x, fun i H v H2 => ∃ T x, v = .ref T ∧ H T = none ∧ H2 = upd H T (.tup [.int (i : Nat), x]) ∧ ∀ xs, SqK K t H a xs → xs[i]? = some x, fun i H => ∃ xs : List V, SqK K t H a xs ∧ xs.length ≤ i⟩
theorem turnE {P : Program} {w : World} {K : PySem.W.Frag} {elts : List Expr} {kk : Nat} {tpos : Pos} {t : Bool} (a u q : Addr) :
    Turn P w K (.Tuple elts kk tpos) (ItE K t a) [u, q] u (fun i h => (∃ old, IsEnum h u q ((i : Nat) : Int) old) ∧ ItB t h q a i ∧ u ≠ q) where
  mem := by simp
  obj := fun i h ⟨⟨old, ku⟩, f1, ne⟩ c hc => by
    obtain ⟨o1, e1, d1⟩ := f1.ob
    rcases (show c = u ∨ c = q by simpa using hc) with z | z <;> subst z
    · exact ⟨_, ku, fun v z => nomatch z⟩
    · exact ⟨o1, e1, fun v z => by rw [d1] at z; cases z⟩
  keep := fun i h h2 ⟨⟨old, ku⟩, f1, ne⟩ k => ⟨⟨old, k u (by simp) _ ku⟩, f1.to fun o z => k q (by simp) o z, ne⟩
  item := by
    intro X hP hw hK hc i pins s σ H E I hf ⟨⟨old, ku⟩, f1, ne⟩ ⟨xs, x, qx, hx⟩
    subst hP hw hK
    obtain ⟨its, rv, g1⟩ := sqk_get I qx
    obtain ⟨v, hv, r1⟩ := rv.get hx
    have lu : u < s.heap.objs.size := Heap.lt_size ku
    refine pyEnumB ku f1 g1 (x := v) (by simpa using hv) ne fun h2 a1 a2 a3 a4 => ?_
    refine ⟨_, rfl, wpAny_letOwnedTupleGo_enum (s := { s with heap := h2, toks := s.toks + 1 }) a1 fun h3 a5 sb => ?_⟩
    have new : ObjOk X.prog X.w (upd H s.heap.objs.size (.tup [.int (i : Nat), x])) h3 s.heap.objs.size (.tup [.int (i : Nat), x]) := ⟨by show 2 ≤ sizeLine; decide, [.int i s.toks, v], .cons ⟨_, rfl⟩ (.cons r1 .nil), ⟨_, (sb.2 _ (Nat.ne_of_gt lu)).trans a3, rfl, _, rfl⟩⟩
    have I2 : Inv X pins σ (upd H s.heap.objs.size (.tup [.int (i : Nat), x])) { s with heap := h3, toks := s.toks + 1 } := I.turnedNew (ch := [u, q]) (fun c o n z => (sb.2 c fun y => n (by simp [y])).trans (a4 c o (fun y => n (by simp [y])) (fun y => n (by simp [y])) z)) hf (Nat.le_refl _) new
    have e1 : ((i + 1 : Nat) : Int) = (i : Int) + 1 := by omega
    refine ⟨.ref s.heap.objs.size, _, I2, rfl, ⟨_, x, rfl, I.hok.fresh (Nat.le_refl _), rfl, fun ys hy => by rw [sqk_one I hy qx]; exact hx⟩, ⟨⟨v, by rw [e1]; exact a5⟩, a2.to fun o z => (sb.2 q ne.symm).trans z, ne⟩, fun c hcm => ?_⟩
    obtain ⟨_, e2, _⟩ := f1.ob
    have lt : c < s.heap.objs.size := by
      rcases (show c = u ∨ c = q by simpa using hcm) with z | z <;> rw [z]
      · exact lu
      · exact Heap.lt_size e2
    rw [upd_ne (Nat.ne_of_lt lt)]
    exact (hf c hcm).1
  done := by
    intro X hP hw hK hc i pins s σ H E I hf ⟨⟨old, ku⟩, f1, ne⟩ ⟨xs, qx, over⟩
    subst hP hw hK
    obtain ⟨its, rv, g1⟩ := sqk_get I qx
    obtain ⟨f0, f2, _, f3, f4, f5⟩ := hf q (by simp)
    have l1 := rv.length
    exact pyEnumStop (I.ok.hd hc) ku f1 g1 (by simp; omega) fun h2 eb => ⟨rfl, I.turned (t' := s.toks) (fun b o n z => eb b o n z) f0 f2 f3 f4 f5⟩
  self := fun A i s Q E st h => wpAny_pyIter_enum st.1.choose_spec h
def iEnumT (K : PySem.W.Frag) (ta : TA) : TI := fun σ H R => ta σ H fun vs H1 => ∃ a xs, vs = [.ref a] ∧ SqT K H1 a xs ∧ R (ItE K true a) H1
theorem pi_enumT {X : Cx} {e : Expr} {ta : TA} {p pos tpos : Pos} {elts : List Expr} {kk : Nat} (hg : Gl X "enumerate") (hm : X.mg "enumerate" = none) (ha : PA X [e] ta) (hs : starEach [e] X.env = [(false, eval e X.env)] := by rfl) :
    PI X (.Tuple elts kk tpos) (.Call (.Name "enumerate" p) [e] [] pos) (iEnumT X.K ta) := by
  refine ⟨fun pins s σ H R I h => ?_⟩
  refine Call_ (ld_blt I hg hm boot_enumerate (PyProof.Rows.callWith_type1 (thn (ha.run pos pins s σ H _ I h) fun us s1 ⟨vs, H1, I1, r1, a, xs, ex, qx, q⟩ => ?_) hs rfl))
  subst ex
  obtain ⟨u1, rfl, ru1⟩ : ∃ u1, us = [u1] ∧ RelV (.ref a) u1 := by
    cases r1 with
    | cons m1 r1 =>
      cases r1
      exact ⟨_, rfl, m1⟩
  cases ru1
  obtain ⟨its, _, p1, _⟩ := I1.tuple qx
  refine call_enumT (show s1.heap.IsTuple a its.toArray from p1) fun h2 a1 a2 a3 => wpAny_pyIter_enum a1 ?_
  have I2 : Inv X pins σ H1 { s1 with heap := h2 } := I1.kept (t' := s1.toks) a3
  refine ⟨s1.heap.objs.size + 1, [s1.heap.objs.size + 1, s1.heap.objs.size], _, _, H1, rfl, I2, turnE a (s1.heap.objs.size + 1) s1.heap.objs.size, ⟨⟨.none, a1⟩, a2, Nat.succ_ne_self _⟩, fun c hcm => ?_, q⟩
  have le : s1.heap.objs.size ≤ c := by
    rcases (show c = s1.heap.objs.size + 1 ∨ c = s1.heap.objs.size by simpa using hcm) with z | z <;> rw [z] <;> first | exact Nat.le_refl _ | exact Nat.le_add_right _ _
  exact I1.fpOk le (I1.hok.fresh le)
theorem pi_or {X : Cx} {tg iter : Expr} {t u : TI} (h : PI X tg iter t) (h' : PI X tg iter u) : PI X tg iter (fun σ H R => t σ H R ∨ u σ H R) := ⟨fun pins s σ H R I w => w.elim (h.run pins s σ H R I) (h'.run pins s σ H R I)⟩
end MZ

/-! DL21: enumerate; less of numbers; what a row tells of its number. -/
namespace DL
open PySem PySem.Spec PyProof.Rows L2 Evl

theorem enum_both {X : Cx} {e : Expr} {ta : TA} {p pos tpos : Pos} {elts : List Expr} {kk : Nat} (hg : Gl X "enumerate") (hm : X.mg "enumerate" = none) (ha : PA X [e] ta) (hs : starEach [e] X.env = [(false, eval e X.env)] := by rfl) :
    PI X (.Tuple elts kk tpos) (.Call (.Name "enumerate" p) [e] [] pos) (fun σ H R => ta σ H fun vs H1 => ∃ q xs, vs = [.ref q] ∧ ((SqL X.K H1 q xs ∧ R (Ite X.K q) H1) ∨ (SqT X.K H1 q xs ∧ R (MZ.ItE X.K true q) H1))) := by
  refine ⟨fun pins s σ H R I h => ?_⟩
  refine Call_ (ld_blt I hg hm boot_enumerate (PyProof.Rows.callWith_type1 (thn (ha.run pos pins s σ H _ I h) fun us s1 ⟨vs, H1, I1, r1, a, xs, ex, q⟩ => ?_) hs rfl))
  subst ex
  obtain ⟨u1, rfl, ru1⟩ : ∃ u1, us = [u1] ∧ RelV (.ref a) u1 := by
    cases r1 with
    | cons m1 r1 =>
      cases r1
      exact ⟨_, rfl, m1⟩
  cases ru1
  have fp : ∀ c ∈ [s1.heap.objs.size + 1, s1.heap.objs.size], FpOk X pins H1 c := fun c hcm => by
    have le : s1.heap.objs.size ≤ c := by
      rcases (show c = s1.heap.objs.size + 1 ∨ c = s1.heap.objs.size by simpa using hcm) with z | z <;> rw [z] <;> first | exact Nat.le_refl _ | exact Nat.le_add_right _ _
    exact I1.fpOk le (I1.hok.fresh le)
  rcases q with ⟨qx, q⟩ | ⟨qx, q⟩
  · obtain ⟨its, _, p1, _⟩ := I1.list qx
    refine call_enumerate_list p1.isList fun h2 a1 a2 _ a3 => wpAny_pyIter_enum a1 ?_
    exact ⟨s1.heap.objs.size + 1, _, _, _, H1, rfl, I1.kept (t' := s1.toks) a3, turn_enum a (s1.heap.objs.size + 1) s1.heap.objs.size, ⟨⟨.none, a1⟩, a2, Nat.succ_ne_self _⟩, fp, q⟩
  · obtain ⟨its, _, p1, _⟩ := I1.tuple qx
    refine MZ.call_enumT (show s1.heap.IsTuple a its.toArray from p1) fun h2 a1 a2 a3 => wpAny_pyIter_enum a1 ?_
    exact ⟨s1.heap.objs.size + 1, _, _, _, H1, rfl, I1.kept (t' := s1.toks) a3, MZ.turnE a (s1.heap.objs.size + 1) s1.heap.objs.size, ⟨⟨.none, a1⟩, a2, Nat.succ_ne_self _⟩, fp, q⟩
/-! ### enumerate of a list or tuple that never changes -/
def enumD (xs : List D) : List D := xs.zipIdx.map fun p => .tup [.int (p.2 : Nat), p.1]
theorem enum_at {xs : List D} {i : Nat} {d : D} (h : (enumD xs)[i]? = some d) : ∃ x, xs[i]? = some x ∧ d = .tup [.int (i : Nat), x] := by
  unfold enumD at h
  rw [List.getElem?_map, List.getElem?_zipIdx] at h
  cases hx : xs[i]? with
  | none =>
    rw [hx] at h
    cases h
  | some x =>
    rw [hx] at h
    refine ⟨x, rfl, ?_⟩
    have := Option.some.inj h
    rw [← this]
    show D.tup [.int ((0 + i : Nat)), x] = _
    rw [Nat.zero_add]
theorem enum_len {xs : List D} : (enumD xs).length = xs.length := by
  unfold enumD
  rw [List.length_map, List.length_zipIdx]
def dIEnumerate (dA : DA) : DI := fun ρ G S => dA ρ G fun vs G1 => ∃ xs, (vs = [.lst xs] ∨ vs = [.tup xs]) ∧ S (enumD xs) G1
theorem walks_enum {K : PySem.W.Frag} {Hd : Hp} {q : Addr} {us : List V} {xs : List D} (h : SqL K Hd q us) (hr : RpL K Hd us xs) : Walks K Hd (Ite K q) (enumD xs) := fun F i H2 Hd2 G2 e s => by
  have hH : SqL K H2 q us := ex_l (e.trans s.sub) h
  refine ⟨fun d hd => ?_, fun hl => ⟨us, hH, by rw [hr.length]; rw [enum_len] at hl; exact hl⟩⟩
  obtain ⟨x, hx, rfl⟩ := enum_at hd
  obtain ⟨v, hv, rv⟩ := hr.at hx
  refine ⟨⟨us, v, hH, hv⟩, fun w H3 ⟨T, v', ew, hT, eH, h1⟩ => ?_⟩
  subst ew eH
  cases Option.some.inj (hv.symm.trans (h1 us hH))
  exact ⟨_, s.exn hT, s.new hT, .tup st_new (.cons (.int _) (.cons ((rv.mono e).mono (s.exn hT)) .nil))⟩
theorem walks_enumT {K : PySem.W.Frag} {Hd : Hp} {q : Addr} {us : List V} {xs : List D} (h : SqT K Hd q us) (hr : RpL K Hd us xs) : Walks K Hd (MZ.ItE K true q) (enumD xs) := fun F i H2 Hd2 G2 e s => by
  have hH : MZ.SqK K true H2 q us := ex_t (e.trans s.sub) h
  refine ⟨fun d hd => ?_, fun hl => ⟨us, hH, by rw [hr.length]; rw [enum_len] at hl; exact hl⟩⟩
  obtain ⟨x, hx, rfl⟩ := enum_at hd
  obtain ⟨v, hv, rv⟩ := hr.at hx
  refine ⟨⟨us, v, hH, hv⟩, fun w H3 ⟨T, v', ew, hT, eH, h1⟩ => ?_⟩
  subst ew eH
  cases Option.some.inj (hv.symm.trans (h1 us hH))
  exact ⟨_, s.exn hT, s.new hT, .tup st_new (.cons (.int _) (.cons ((rv.mono e).mono (s.exn hT)) .nil))⟩
theorem pid_enumerate {X : Cx} {B : Bs} {p pos : Pos} {a : Expr} {dA : DA} {elts : List Expr} {kk : Nat} {tpos : Pos} (hg : Gl X "enumerate") (hm : X.mg "enumerate" = none) (ha : PA X [a] (upA X.K B dA)) (hs : starEach [a] X.env = [(false, eval a X.env)] := by rfl) :
    PI X (.Tuple elts kk tpos) (.Call (.Name "enumerate" p) [a] [] pos) (upI X.K B (dIEnumerate dA)) := ⟨fun pins s σ H R I ⟨ρ, Hd, G, S, at_, h, k⟩ => by
  have both : PI X (.Tuple elts kk tpos) (.Call (.Name "enumerate" p) [a] [] pos) (fun σ H R => (upA X.K B dA) σ H fun vs H1 => ∃ q xs, vs = [.ref q] ∧ ((SqL X.K H1 q xs ∧ R (Ite X.K q) H1) ∨ (SqT X.K H1 q xs ∧ R (MZ.ItE X.K true q) H1))) := enum_both hg hm ha hs
  refine both.run pins s σ H R I ⟨ρ, Hd, G, _, at_, h, fun vs H1 Hd1 xs G1 e1 s1 r1 ⟨l, hv, h1⟩ => ?_⟩
  rcases hv with rfl | rfl
  · obtain ⟨v, rfl, rv⟩ := rpl1 r1
    cases rv with
    | lst q r => exact ⟨_, _, rfl, .inl ⟨ex_l s1.sub q, k _ H1 Hd1 _ G1 e1 s1 (walks_enum q r) h1⟩⟩
  · obtain ⟨v, rfl, rv⟩ := rpl1 r1
    cases rv with
    | tup q r => exact ⟨_, _, rfl, .inr ⟨ex_t s1.sub q, k _ H1 Hd1 _ G1 e1 s1 (walks_enumT q r) h1⟩⟩⟩

/-! ### less -/
def ltN (x y : D) : Bool := decide ((numI x).1 * (numI y).2 < (numI y).1 * (numI x).2)
def sp_below : DSp := fun xs G R _ => ∃ x y : D, xs = [x, y] ∧ numD x = true ∧ numD y = true ∧ Bn 4000 x ∧ Bn 4000 y ∧ R (.bl (ltN x y)) G
def belowR : DS := (dSeq (dAsg (dTup (dCons (dCall sp_halves X0 (dCons (dVar 0) dNil)) (dCons (dCall sp_halves X0 (dCons (dVar 1) dNil)) dNil))) (gSeq 2 (gCons (gSeq 2 (gCons (gN 2) (gCons (gN 3) gNil))) (gCons (gSeq 2 (gCons (gN 4) (gCons (gN 5) gNil))) gNil)))) (dRet (dOp (fInt gLt) (dOp (fIntC IntMulOk fun i j => .int (i * j)) (dVar 2) (dVar 5)) (dOp (fIntC IntMulOk fun i j => .int (i * j)) (dVar 4) (dVar 3)))))
theorem below_ok (xs : List D) (G : Gm) (R : KD) (RX : XD) (h : sp_below xs G R RX) : belowR { nx := fun _ G => R .non G, rt := R } (xs.map some ++ List.replicate (6 - xs.length) none) G := by
  obtain ⟨x, y, rfl, nx, ny, bx, by_, h⟩ := h
  obtain ⟨ex, px⟩ := num_half nx
  obtain ⟨ey, py⟩ := num_half ny
  refine ds_asg (.tup (.cons (.halves (.var rfl) nx) (.one (.halves (.var rfl) ny))) (show 2 ≤ sizeLine by decide)) ?_
  rw [ex, ey]
  refine ⟨_, seq_tup, rfl, _, _, rfl, ⟨_, seq_tup, rfl, _, _, rfl, _, _, rfl, rfl, ?_⟩⟩
  refine ⟨_, _, rfl, ⟨_, seq_tup, rfl, _, _, rfl, _, _, rfl, rfl, ?_⟩⟩
  refine ⟨rfl, ?_⟩
  exact ds_ret (.lt (.mul (.var rfl) (.var rfl) (mul_both bx.1 by_.2 (by decide))) (.mul (.var rfl) (.var rfl) (mul_both by_.1 bx.2 (by decide)))) h
def lawLessR : DS := (dSeq (dAsg (dTup (dCons (dCall sp_ends X0 (dCons (dVar 0) dNil)) (dCons (dCall sp_ends X0 (dCons (dVar 1) dNil)) dNil))) (gSeq 2 (gCons (gSeq 2 (gCons (gN 2) (gCons (gN 3) gNil))) (gCons (gSeq 2 (gCons (gN 4) (gCons (gN 5) gNil))) gNil)))) (dRet (dOp (fInt gLt) (dOp (fIntC IntMulOk fun i j => .int (i * j)) (dVar 2) (dVar 5)) (dOp (fIntC IntMulOk fun i j => .int (i * j)) (dVar 4) (dVar 3)))))
theorem law_less_ok (xs : List D) (G : Gm) (R : KD) (RX : XD) (h : sp_below xs G R RX) : lawLessR { nx := fun _ G => R .non G, rt := R } (xs.map some ++ List.replicate (6 - xs.length) none) G := by
  obtain ⟨x, y, rfl, nx, ny, bx, by_, h⟩ := h
  refine ds_asg (.tup (.cons (.ends (.var rfl) nx) (.one (.ends (.var rfl) ny))) (show 2 ≤ sizeLine by decide)) ?_
  refine ⟨_, seq_tup, rfl, _, _, rfl, ⟨_, seq_tup, rfl, _, _, rfl, _, _, rfl, rfl, ?_⟩⟩
  refine ⟨_, _, rfl, ⟨_, seq_tup, rfl, _, _, rfl, _, _, rfl, rfl, ?_⟩⟩
  refine ⟨rfl, ?_⟩
  exact ds_ret (.lt (.mul (.var rfl) (.var rfl) (mul_both bx.1 by_.2 (by decide))) (.mul (.var rfl) (.var rfl) (mul_both by_.1 bx.2 (by decide)))) h
theorem Ev.below {ρ : En} {G : Gm} {da db : DE} {x y : D} (h : Ev da ρ G x) (h' : Ev db ρ G y) (nx : numD x = true) (ny : numD y = true) (bx : Bn 4000 x) (by_ : Bn 4000 y) : Ev (dCall sp_below X0 (dCons da (dCons db dNil))) ρ G (.bl (ltN x y)) := .call (.cons h (.one h')) fun R r => ⟨x, y, rfl, nx, ny, bx, by_, r⟩

/-! ### what a row tells: after k labels -/
structure TB where
  lo : D
  hi : D
  s : Int
def tbStep (t : TB) (k : Nat) (l : Int) : TB :=
  { lo := if ltN t.lo (lowD (t.s + l) (k + 1)) = true then lowD (t.s + l) (k + 1) else t.lo, hi := if ltN (lowD (t.s + l + 1) (k + 1)) t.hi = true then lowD (t.s + l + 1) (k + 1) else t.hi, s := t.s + l }
def tbAt (xs : List Int) : Nat → TB
  | 0 => { lo := .int (xs.headD 0), hi := .int (xs.headD 0 + 1), s := 0 }
  | k + 1 => tbStep (tbAt xs k) k (xs.getD k 0)
structure TbOk (t : TB) : Prop where
  nl : numD t.lo = true
  nh : numD t.hi = true
  bl : Bn 4000 t.lo
  bh : Bn 4000 t.hi
theorem tb_s {xs : List Int} {m : Nat} (hm : ∀ i ∈ xs, i.natAbs < 2 ^ m) : ∀ k : Nat, (tbAt xs k).s.natAbs ≤ k * 2 ^ m
  | 0 => by show (0 : Int).natAbs ≤ _; simp
  | k + 1 => by
    have ih := tb_s hm k
    show ((tbAt xs k).s + xs.getD k 0).natAbs ≤ (k + 1) * 2 ^ m
    have h1 : (xs.getD k 0).natAbs ≤ 2 ^ m := by
      show ((xs[k]?).getD 0).natAbs ≤ 2 ^ m
      cases h : xs[k]? with
      | none => exact Nat.zero_le _
      | some v => exact Nat.le_of_lt (hm v (List.mem_of_getElem? h))
    rw [Nat.succ_mul]
    omega
theorem tb_bn {xs : List Int} (hm : ∀ i ∈ xs, i.natAbs < 2 ^ 3000) {k : Nat} (hk : k < 2000) : Bn 4000 (lowD ((tbAt xs k).s + xs.getD k 0) (k + 1)) ∧ Bn 4000 (lowD ((tbAt xs k).s + xs.getD k 0 + 1) (k + 1)) := by
  have hs := tb_s hm (k + 1)
  have e : (tbAt xs (k + 1)).s = (tbAt xs k).s + xs.getD k 0 := rfl
  rw [e] at hs
  have p : (0 : Int) < ((k : Int) + 1) := by omega
  have hz : (k + 1) * 2 ^ 3000 ≤ 2001 * 2 ^ 3000 := Nat.mul_le_mul_right _ (by omega)
  have hz2 : 2001 * 2 ^ 3000 + 1 < 2 ^ 4000 := by decide +kernel
  have h3 : ((k : Int) + 1).natAbs < 2 ^ 4000 := Nat.lt_of_lt_of_le (show ((k : Int) + 1).natAbs < 2 ^ 12 by omega) (Nat.pow_le_pow_right (by decide) (by decide))
  exact ⟨low_bn p (by omega) h3, low_bn p (by omega) h3⟩
theorem tb_ok {xs : List Int} (hm : ∀ i ∈ xs, i.natAbs < 2 ^ 3000) : ∀ k : Nat, k ≤ 2000 → TbOk (tbAt xs k)
  | 0, _ => by
    have h1 : (xs.headD 0).natAbs < 2 ^ 3000 := by
      cases xs with
      | nil => exact Nat.two_pow_pos _
      | cons x xs => exact hm x List.mem_cons_self
    have h2 : 2 ^ 3000 + 1 ≤ 2 ^ 4000 := by decide +kernel
    have h3 : (1 : Int).natAbs < 2 ^ 4000 := Nat.one_lt_two_pow (by decide)
    exact ⟨rfl, rfl, ⟨by show (xs.headD 0).natAbs < _; omega, h3⟩, ⟨by show (xs.headD 0 + 1).natAbs < _; omega, h3⟩⟩
  | k + 1, hk => by
    have ih := tb_ok hm k (by omega)
    have p : (0 : Int) < ((k : Int) + 1) := by omega
    obtain ⟨b1, b2⟩ := tb_bn hm (show k < 2000 by omega)
    refine ⟨?_, ?_, ?_, ?_⟩
    · show numD (if _ then _ else _) = true
      split
      · exact low_isnum p
      · exact ih.nl
    · show numD (if _ then _ else _) = true
      split
      · exact low_isnum p
      · exact ih.nh
    · show Bn 4000 (if _ then _ else _)
      split
      · exact b1
      · exact ih.bl
    · show Bn 4000 (if _ then _ else _)
      split
      · exact b2
      · exact ih.bh
def tellD (xs : List Int) : D := if ltN (tbAt xs xs.length).lo (tbAt xs xs.length).hi = true then .tup [(tbAt xs xs.length).lo, (tbAt xs xs.length).hi] else .non
def sp_told_back : DSp := fun xs G R _ => ∃ (x : D) (is : List Int), xs = [x] ∧ (x = .lst (is.map D.int) ∨ x = .tup (is.map D.int)) ∧ 1 ≤ is.length ∧ is.length ≤ 2000 ∧ (∀ i ∈ is, i.natAbs < 2 ^ 3000) ∧ R (tellD is) G
def toldR : DS := (dSeq (dIfS (dOr (dNot (dTst (dCall sp_is_list X0 (dCons (dVar 0) dNil)))) (dNot (dTst (dCall sp_is_within X0 (dCons (dCal fLen (dCons (dVar 0) dNil)) (dCons (dC (.int 1)) (dCons (dC (.int 2000)) dNil))))))) dNever dNext) (dSeq (dIfS (dNot (dTst (dCal fAll (dCons (dCmp (dISeq (dVar 0)) (gN 1) dYes (dCall sp_is_integer X0 (dCons (dVar 1) dNil)) [1]) dNil)))) dNever dNext) (dSeq (dPar3 2 3 4 (dCons (dIx (dVar 0) (dC (.int 0))) (dCons (dOp fAdd (dIx (dVar 0) (dC (.int 0))) (dC (.int 1))) (dCons (dC (.int 0)) dNil)))) (dSeq (dFor (dIEnumerate (dCons (dVar 0) dNil)) (gSeq 2 (gCons (gN 5) (gCons (gN 6) gNil))) (dSeq (dSet 4 (dOp fAdd (dVar 4) (dVar 6))) (dSeq (dPar 7 8 (dCons (dCall sp_lowest_in X0 (dCons (dVar 4) (dCons (dOp fAdd (dVar 5) (dC (.int 1))) dNil))) (dCons (dCall sp_lowest_in X0 (dCons (dOp fAdd (dVar 4) (dC (.int 1))) (dCons (dOp fAdd (dVar 5) (dC (.int 1))) dNil))) dNil))) (dSeq (dSet 2 (dIf (dTst (dCall sp_below X0 (dCons (dVar 2) (dCons (dVar 7) dNil)))) (dVar 7) (dVar 2))) (dSet 3 (dIf (dTst (dCall sp_below X0 (dCons (dVar 8) (dCons (dVar 3) dNil)))) (dVar 8) (dVar 3))))))) (dRet (dIf (dTst (dCall sp_below X0 (dCons (dVar 2) (dCons (dVar 3) dNil)))) (dTup (dCons (dVar 2) (dCons (dVar 3) dNil))) (dC .non)))))))
theorem kn_ints (is : List Int) : D.knL (is.map D.int) = true := by
  induction is with
  | nil => rfl
  | cons i is ih => exact (Bool.true_and _).trans ih
theorem atI_zero {x : D} {xs : List D} : atI (x :: xs) 0 = some x := by
  unfold atI ixN
  rw [if_pos (by decide), if_pos (by rw [List.length_cons]; omega)]
  rfl
theorem told_back_ok (xs : List D) (G : Gm) (R : KD) (RX : XD) (h : sp_told_back xs G R RX) : toldR { nx := fun _ G => R .non G, rt := R } (xs.map some ++ List.replicate (9 - xs.length) none) G := by
  obtain ⟨x0, is, rfl, hx, l1, l2, hm, h⟩ := h
  have kx : x0.kn = true := by rcases hx with rfl | rfl <;> exact kn_ints is
  have sx : isSeqD x0 = true := by rcases hx with rfl | rfl <;> rfl
  have ax : ∀ {G : Gm}, SeqAt G x0 (is.map D.int) := fun {G} => seq_at hx.symm
  have hz : (is.map D.int).length ≤ sizeLine := by rw [List.length_map, sizeLine_eq]; omega
  have hw : withinD (.int ((is.map D.int).length : Nat)) (some 1) (some 2000) = true := by
    show (decide ((1 : Int) ≤ ((is.map D.int).length : Nat)) && decide ((((is.map D.int).length : Nat) : Int) ≤ 2000)) = true
    rw [List.length_map, decide_eq_true (by omega), decide_eq_true (by omega)]
    rfl
  refine ds_if (k := false) (.orF ((EvT.not (.tst (.isList (.var rfl) kx))).cast (by rw [sx]; rfl)) ((EvT.not (.tst (.isWithin (.len (.var rfl) ax) .c .c rfl rfl rfl))).cast (by rw [hw]; rfl))) ?_
  have hall : Ev (dCmp (dISeq (dVar 0)) (gN 1) dYes (dCall sp_is_integer X0 (dCons (dVar 1) dNil)) [1]) [some x0, none, none, none, none, none, none, none, none] G (.lst ((is.map fun _ => true).map D.bl)) := by
    have e : ((is.map fun _ => true).map D.bl) = (is.map D.int).map fun d => D.bl (isIntD d) := by
      rw [List.map_map, List.map_map]
      rfl
    rw [e]
    exact Ev.lcSeq (fun d => .bl (isIntD d)) (.var rfl) hx (fun y hy => .isInteger (.var rfl) (by
      obtain ⟨i, _, rfl⟩ := List.mem_map.mp hy
      rfl)) hz
  refine ds_if (k := false) ((EvT.not (.tst (.all hall))).cast (by
    have : ((is.map fun _ => true).all id) = true := by
      rw [List.all_eq_true]
      intro b hb
      obtain ⟨_, _, rfl⟩ := List.mem_map.mp hb
      rfl
    rw [this]
    rfl)) ?_
  obtain ⟨l0, tl, rfl⟩ : ∃ l0 tl, is = l0 :: tl := by
    cases is with
    | nil => simp at l1
    | cons a b => exact ⟨a, b, rfl⟩
  refine ds_par3 (.at (.var rfl) .c ax (z := .int l0) atI_zero) (.add (.at (.var rfl) .c ax (z := .int l0) atI_zero) .c) .c ?_
  generalize eis : l0 :: tl = is at *
  have hl0 : is.headD 0 = l0 := by rw [← eis]; rfl
  refine ⟨_, rfl, is.map D.int, hx.imp (fun e => by rw [e]) (fun e => by rw [e]), ?_⟩
  refine forL_at (fun rest ρ G' => G' = G ∧ ∃ k, k ≤ is.length ∧ rest = (enumD (is.map D.int)).drop k ∧ ∃ o1 o5 o6 o7 o8, ρ = [some x0, o1, some (tbAt is k).lo, some (tbAt is k).hi, some (.int (tbAt is k).s), o5, o6, o7, o8]) ?_ ?_ ?_
  · rintro x rest N ρ G1 hsuf hN ⟨rfl, k, hk, er, o1, o5, o6, o7, o8, rfl⟩
    have lk : k < is.length := by
      have := congrArg List.length er
      rw [List.length_cons, List.length_drop, enum_len, List.length_map] at this
      omega
    have ex : (enumD (is.map D.int))[k]? = some x := by
      have := congrArg (fun l => l[0]?) er
      rw [List.getElem?_drop] at this
      exact this.symm
    have er2 : rest = (enumD (is.map D.int)).drop (k + 1) := by
      have := congrArg List.tail er
      rw [List.tail_drop] at this
      exact this
    obtain ⟨y, hy, rfl⟩ := enum_at ex
    rw [List.getElem?_map, List.getElem?_eq_getElem lk] at hy
    cases hy
    have eg : is.getD k 0 = is[k] := by
      show (is[k]?).getD 0 = _
      rw [List.getElem?_eq_getElem lk]
      rfl
    have ok := tb_ok hm k (by omega)
    obtain ⟨b1, b2⟩ := tb_bn hm (show k < 2000 by omega)
    rw [eg] at b1 b2
    have p : (0 : Int) < ((k : Int) + 1) := by omega
    have p2 : ((k : Int) + 1) < 2 ^ 8000 := Int.lt_of_le_of_lt (show ((k : Int) + 1) ≤ 3000 by omega) (by decide +kernel)
    refine ⟨_, seq_tup, rfl, _, _, rfl, _, _, rfl, rfl, ?_⟩
    refine ds_set (.add (.var rfl) (.var rfl)) ?_
    refine ds_par (.low (.var rfl) (.add (.var rfl) .c) p p2) (.low (.add (.var rfl) .c) (.add (.var rfl) .c) p p2) ?_
    refine ds_set (x := (tbAt is (k + 1)).lo) (.chosen (.tst (.below (.var rfl) (.var rfl) ok.nl (low_isnum p) ok.bl b1)) (fun e => ?_) fun e => ?_) ?_
    · show Ev _ _ _ (if ltN (tbAt is k).lo (lowD ((tbAt is k).s + is.getD k 0) (k + 1)) = true then lowD ((tbAt is k).s + is.getD k 0) (k + 1) else (tbAt is k).lo)
      rw [eg, if_pos e]
      exact .var rfl
    · show Ev _ _ _ (if ltN (tbAt is k).lo (lowD ((tbAt is k).s + is.getD k 0) (k + 1)) = true then lowD ((tbAt is k).s + is.getD k 0) (k + 1) else (tbAt is k).lo)
      rw [eg, if_neg (by rw [e]; decide)]
      exact .var rfl
    refine ds_set (x := (tbAt is (k + 1)).hi) (.chosen (.tst (.below (.var rfl) (.var rfl) (low_isnum p) ok.nh b2 ok.bh)) (fun e => ?_) fun e => ?_) ?_
    · show Ev _ _ _ (if ltN (lowD ((tbAt is k).s + is.getD k 0 + 1) (k + 1)) (tbAt is k).hi = true then lowD ((tbAt is k).s + is.getD k 0 + 1) (k + 1) else (tbAt is k).hi)
      rw [eg, if_pos e]
      exact .var rfl
    · show Ev _ _ _ (if ltN (lowD ((tbAt is k).s + is.getD k 0 + 1) (k + 1)) (tbAt is k).hi = true then lowD ((tbAt is k).s + is.getD k 0 + 1) (k + 1) else (tbAt is k).hi)
      rw [eg, if_neg (by rw [e]; decide)]
      exact .var rfl
    have es : (tbAt is (k + 1)).s = (tbAt is k).s + is[k] := by
      show (tbAt is k).s + is.getD k 0 = _
      rw [eg]
    refine hN _ _ ⟨rfl, k + 1, lk, er2, o1, some (.int k), some (.int is[k]), some (lowD ((tbAt is k).s + is[k]) (k + 1)), some (lowD ((tbAt is k).s + is[k] + 1) (k + 1)), ?_⟩
    rw [es]
    rfl
  · rintro ρ G1 ⟨rfl, k, hk, er, o1, o5, o6, o7, o8, rfl⟩
    have kl : k = is.length := by
      have := congrArg List.length er
      rw [List.length_nil, List.length_drop, enum_len, List.length_map] at this
      omega
    subst kl
    have ok := tb_ok hm is.length l2
    refine ds_ret (x := tellD is) (.chosen (.tst (.below (.var rfl) (.var rfl) ok.nl ok.nh ok.bl ok.bh)) (fun e => ?_) fun e => ?_) h
    · unfold tellD
      rw [if_pos e]
      exact .tup (.cons (.var rfl) (.one (.var rfl))) (show 2 ≤ sizeLine by decide)
    · unfold tellD
      rw [if_neg (by rw [e]; decide)]
      exact .c
  · refine ⟨rfl, 0, Nat.zero_le _, rfl, none, none, none, none, none, ?_⟩
    show _ = [some x0, none, some (D.int (is.headD 0)), some (D.int (is.headD 0 + 1)), some (.int 0), none, none, none, none]
    rw [hl0]
    rfl
end DL

/-! DL22: plain laws: what a row tells of its number. -/
namespace DL
open PySem PySem.Spec PyProof.Rows L2 Evl

theorem lt_iff {x y : D} : ltN x y = true ↔ (numI x).1 * (numI y).2 < (numI y).1 * (numI x).2 := decide_eq_true_iff
theorem mul_lt_iff {g a b : Int} (hg : 0 < g) : g * a < g * b ↔ a < b := ⟨fun h => Int.lt_of_mul_lt_mul_left h (Int.le_of_lt hg), fun h => Int.mul_lt_mul_of_pos_left h hg⟩
/-- beside a fraction in lowest terms -/
theorem lt_lowR {y : D} {s k : Int} (hk : 0 < k) : ltN y (lowD s k) = true ↔ (numI y).1 * k < s * (numI y).2 := by
  obtain ⟨g, n, d, eg, g0, ea, eu, d0, e1, e2, _⟩ := gcd_facts (a := s) hk
  rw [lt_iff, low_num hk, eg, e1, e2, ea, eu]
  show (numI y).1 * d < n * (numI y).2 ↔ _
  rw [← mul_lt_iff g0]
  have h1 : (numI y).1 * (g * d) = g * ((numI y).1 * d) := by grind
  have h2 : g * n * (numI y).2 = g * (n * (numI y).2) := by grind
  rw [h1, h2]
theorem lt_lowL {y : D} {s k : Int} (hk : 0 < k) : ltN (lowD s k) y = true ↔ s * (numI y).2 < (numI y).1 * k := by
  obtain ⟨g, n, d, eg, g0, ea, eu, d0, e1, e2, _⟩ := gcd_facts (a := s) hk
  rw [lt_iff, low_num hk, eg, e1, e2, ea, eu]
  show n * (numI y).2 < (numI y).1 * d ↔ _
  rw [← mul_lt_iff g0]
  have h1 : (numI y).1 * (g * d) = g * ((numI y).1 * d) := by grind
  have h2 : g * n * (numI y).2 = g * (n * (numI y).2) := by grind
  rw [h1, h2]
theorem frac_trans {a b c d e f : Int} (hb : 0 < b) (hd : 0 < d) (hf : 0 < f) (h1 : a * d ≤ c * b) (h2 : c * f < e * d) : a * f < e * b := by
  have t1 : a * d * f ≤ c * b * f := Int.mul_le_mul_of_nonneg_right h1 (Int.le_of_lt hf)
  have t2 : b * (c * f) < b * (e * d) := Int.mul_lt_mul_of_pos_left h2 hb
  have t3 : d * (a * f) < d * (e * b) := by
    have e1 : d * (a * f) = a * d * f := by grind
    have e2 : b * (c * f) = c * b * f := by grind
    have e3 : b * (e * d) = d * (e * b) := by grind
    omega
  exact (mul_lt_iff hd).mp t3
theorem frac_trans2 {a b c d e f : Int} (hb : 0 < b) (hd : 0 < d) (hf : 0 < f) (h1 : a * d < c * b) (h2 : c * f ≤ e * d) : a * f < e * b := by
  have t1 : f * (a * d) < f * (c * b) := Int.mul_lt_mul_of_pos_left h1 hf
  have t2 : c * f * b ≤ e * d * b := Int.mul_le_mul_of_nonneg_right h2 (Int.le_of_lt hb)
  have t3 : d * (a * f) < d * (e * b) := by
    have e1 : d * (a * f) = f * (a * d) := by grind
    have e2 : f * (c * b) = c * f * b := by grind
    have e3 : e * d * b = d * (e * b) := by grind
    omega
  exact (mul_lt_iff hd).mp t3
theorem nlt_iff {x y : D} : ltN x y = false ↔ (numI y).1 * (numI x).2 ≤ (numI x).1 * (numI y).2 := by
  rw [Bool.eq_false_iff, Ne, lt_iff]
  omega
/-- the labels of x at 1 to n -/
def rowL (x : D) (n : Nat) : List Int := (List.range n).map fun i : Nat => lab x (1 + i)
theorem wh_zero (x : D) : wh x 0 = 0 := by
  unfold wh
  rw [Int.mul_zero, Int.zero_ediv]
theorem rowL_at {x : D} {n k : Nat} (h : k < n) : (rowL x n).getD k 0 = lab x (1 + (k : Nat)) := by
  unfold rowL
  show (((List.range n).map _)[k]?).getD 0 = _
  rw [List.getElem?_map, List.getElem?_range h]
  rfl
theorem row_s {x : D} {n : Nat} : ∀ k : Nat, k ≤ n → (tbAt (rowL x n) k).s = wh x k
  | 0, _ => (wh_zero x).symm
  | k + 1, h => by
    show (tbAt (rowL x n) k).s + (rowL x n).getD k 0 = wh x ((k + 1 : Nat) : Int)
    rw [row_s k (by omega), rowL_at (by omega)]
    unfold lab
    have e1 : (1 : Int) + (k : Nat) - 1 = (k : Nat) := by omega
    have e2 : ((k + 1 : Nat) : Int) = 1 + (k : Nat) := by omega
    rw [e1, e2]
    omega
theorem low_one (s : Int) : lowD s 1 = .int s := by
  unfold lowD
  have e : (Int.gcd s 1 : Int) = 1 := by
    rw [Int.gcd_one_right]
    rfl
  rw [e, if_pos (by decide), Int.ediv_one]
/-- after k labels: the greatest of the floors, the least of the ceilings -/
structure RowOk (x : D) (k : Nat) (t : TB) : Prop where
  lo : ∃ j : Nat, 1 ≤ j ∧ j ≤ max k 1 ∧ t.lo = lowD (wh x j) j
  hi : ∃ j : Nat, 1 ≤ j ∧ j ≤ max k 1 ∧ t.hi = lowD (wh x j + 1) j
  los : ∀ j : Nat, 1 ≤ j → j ≤ k → ltN t.lo (lowD (wh x j) j) = false
  his : ∀ j : Nat, 1 ≤ j → j ≤ k → ltN (lowD (wh x j + 1) j) t.hi = false
theorem lt_trans_no {x y z : D} (hx : numD x = true) (hy : numD y = true) (hz : numD z = true) (h : ltN x y = true) (h' : ltN x z = false) : ltN y z = false := by
  rw [nlt_iff] at h' ⊢
  rw [lt_iff] at h
  have := frac_trans (num_half hz).2 (num_half hx).2 (num_half hy).2 h' h
  omega
theorem lt_trans_no2 {x y z : D} (hx : numD x = true) (hy : numD y = true) (hz : numD z = true) (h : ltN y x = true) (h' : ltN z x = false) : ltN z y = false := by
  rw [nlt_iff] at h' ⊢
  rw [lt_iff] at h
  have := frac_trans2 (num_half hy).2 (num_half hx).2 (num_half hz).2 h h'
  omega
theorem lt_self {x : D} : ltN x x = false := by
  rw [nlt_iff]
  omega
theorem row_ok {x : D} {n : Nat} (hn : 1 ≤ n) : ∀ k : Nat, k ≤ n → RowOk x k (tbAt (rowL x n) k) ∧ numD (tbAt (rowL x n) k).lo = true ∧ numD (tbAt (rowL x n) k).hi = true
  | 0, _ => by
    have h1 : (rowL x n).headD 0 = wh x (1 : Nat) := by
      have e : (rowL x n).headD 0 = (rowL x n).getD 0 0 := by
        cases rowL x n <;> rfl
      rw [e, rowL_at (by omega)]
      unfold lab
      show wh x (1 + 0) - wh x (1 + 0 - 1) = wh x 1
      rw [show (1 : Int) + 0 - 1 = 0 by decide, wh_zero]
      show wh x 1 - 0 = _
      omega
    refine ⟨⟨⟨1, by decide, by decide, ?_⟩, ⟨1, by decide, by decide, ?_⟩, fun j h h' => by omega, fun j h h' => by omega⟩, rfl, rfl⟩
    · show D.int ((rowL x n).headD 0) = lowD (wh x (1 : Nat)) 1
      rw [low_one, h1]
    · show D.int ((rowL x n).headD 0 + 1) = lowD (wh x (1 : Nat) + 1) 1
      rw [low_one, h1]
  | k + 1, h => by
    obtain ⟨⟨⟨j1, a1, a2, a3⟩, ⟨j2, b1, b2, b3⟩, c1, c2⟩, n1, n2⟩ := row_ok hn k (by omega)
    have p : (0 : Int) < ((k + 1 : Nat) : Int) := by omega
    have es : (tbAt (rowL x n) k).s + (rowL x n).getD k 0 = wh x ((k + 1 : Nat) : Int) := row_s (x := x) (n := n) (k + 1) h
    have ek : ((k : Nat) : Int) + 1 = ((k + 1 : Nat) : Int) := by omega
    have eL : (tbAt (rowL x n) (k + 1)).lo = if ltN (tbAt (rowL x n) k).lo (lowD (wh x ((k + 1 : Nat) : Int)) ((k + 1 : Nat) : Int)) = true then lowD (wh x ((k + 1 : Nat) : Int)) ((k + 1 : Nat) : Int) else (tbAt (rowL x n) k).lo := by
      rw [← es, ← ek]
      rfl
    have eH : (tbAt (rowL x n) (k + 1)).hi = if ltN (lowD (wh x ((k + 1 : Nat) : Int) + 1) ((k + 1 : Nat) : Int)) (tbAt (rowL x n) k).hi = true then lowD (wh x ((k + 1 : Nat) : Int) + 1) ((k + 1 : Nat) : Int) else (tbAt (rowL x n) k).hi := by
      rw [← es, ← ek]
      rfl
    have nL := low_isnum (a := wh x ((k + 1 : Nat) : Int)) p
    have nH := low_isnum (a := wh x ((k + 1 : Nat) : Int) + 1) p
    have hL : (∃ j : Nat, 1 ≤ j ∧ j ≤ max (k + 1) 1 ∧ (tbAt (rowL x n) (k + 1)).lo = lowD (wh x j) j) ∧ (∀ j : Nat, 1 ≤ j → j ≤ k + 1 → ltN (tbAt (rowL x n) (k + 1)).lo (lowD (wh x j) j) = false) ∧ numD (tbAt (rowL x n) (k + 1)).lo = true := by
      rw [eL]
      split
      · rename_i e
        refine ⟨⟨k + 1, by omega, by omega, rfl⟩, fun j h1 h2 => ?_, nL⟩
        by_cases hj : j = k + 1
        · rw [hj]
          exact lt_self
        · exact lt_trans_no n1 nL (low_isnum (by omega)) e (c1 j h1 (by omega))
      · rename_i e
        refine ⟨⟨j1, a1, by omega, a3⟩, fun j h1 h2 => ?_, n1⟩
        by_cases hj : j = k + 1
        · rw [hj]
          exact Bool.eq_false_iff.mpr e
        · exact c1 j h1 (by omega)
    have hH : (∃ j : Nat, 1 ≤ j ∧ j ≤ max (k + 1) 1 ∧ (tbAt (rowL x n) (k + 1)).hi = lowD (wh x j + 1) j) ∧ (∀ j : Nat, 1 ≤ j → j ≤ k + 1 → ltN (lowD (wh x j + 1) j) (tbAt (rowL x n) (k + 1)).hi = false) ∧ numD (tbAt (rowL x n) (k + 1)).hi = true := by
      rw [eH]
      split
      · rename_i e
        refine ⟨⟨k + 1, by omega, by omega, rfl⟩, fun j h1 h2 => ?_, nH⟩
        by_cases hj : j = k + 1
        · rw [hj]
          exact lt_self
        · exact lt_trans_no2 n2 nH (low_isnum (by omega)) e (c2 j h1 (by omega))
      · rename_i e
        refine ⟨⟨j2, b1, by omega, b3⟩, fun j h1 h2 => ?_, n2⟩
        by_cases hj : j = k + 1
        · rw [hj]
          exact Bool.eq_false_iff.mpr e
        · exact c2 j h1 (by omega)
    exact ⟨⟨hL.1, hH.1, hL.2.1, hH.2.1⟩, hL.2.2, hH.2.2⟩
/-- y lies within what the row of x tells, exactly if its row is alike -/
theorem within_iff {x y : D} {n : Nat} (hn : 1 ≤ n) (hx : numD x = true) (hy : numD y = true) : (ltN y (tbAt (rowL x n) n).lo = false ∧ ltN y (tbAt (rowL x n) n).hi = true) ↔ ∀ j : Nat, 1 ≤ j → j ≤ n → wh y j = wh x j := by
  obtain ⟨⟨⟨j1, a1, a2, a3⟩, ⟨j2, b1, b2, b3⟩, c1, c2⟩, n1, n2⟩ := row_ok (x := x) hn n (Nat.le_refl _)
  obtain ⟨_, py⟩ := num_half hy
  have pl := (num_half n1).2
  have ph := (num_half n2).2
  have fl : ∀ (s : Int) (j : Nat), wh y j = s ↔ s * (numI y).2 ≤ (numI y).1 * j ∧ (numI y).1 * j < (s + 1) * (numI y).2 := fun s j => by
    unfold wh
    constructor
    · intro e
      refine ⟨(Int.le_ediv_iff_mul_le py).mp (by omega), (Int.ediv_lt_iff_lt_mul py).mp (by omega)⟩
    · rintro ⟨e1, e2⟩
      have f1 := (Int.le_ediv_iff_mul_le py).mpr e1
      have f2 := (Int.ediv_lt_iff_lt_mul py).mpr e2
      omega
  constructor
  · rintro ⟨h1, h2⟩ j hj1 hj2
    have pj : (0 : Int) < (j : Nat) := by omega
    have k1 := c1 j hj1 hj2
    have k2 := c2 j hj1 hj2
    rw [nlt_iff] at h1
    rw [lt_iff] at h2
    rw [Bool.eq_false_iff, Ne, lt_lowR pj] at k1
    rw [Bool.eq_false_iff, Ne, lt_lowL pj] at k2
    refine (fl _ _).mpr ⟨?_, ?_⟩
    · by_cases hc : wh x j * (numI y).2 ≤ (numI y).1 * j
      · exact hc
      · have := frac_trans (a := (numI (tbAt (rowL x n) n).lo).1) (b := (numI (tbAt (rowL x n) n).lo).2) (c := (numI y).1) (d := (numI y).2) (e := wh x j) (f := (j : Nat)) pl py pj h1 (by omega)
        omega
    · by_cases hc : (numI y).1 * j < (wh x j + 1) * (numI y).2
      · exact hc
      · have := frac_trans (a := wh x j + 1) (b := (j : Nat)) (c := (numI y).1) (d := (numI y).2) (e := (numI (tbAt (rowL x n) n).hi).1) (f := (numI (tbAt (rowL x n) n).hi).2) pj py ph (by omega) h2
        omega
  · intro h
    have p1 : (0 : Int) < (j1 : Nat) := by omega
    have p2 : (0 : Int) < (j2 : Nat) := by omega
    have e1 := (fl _ _).mp (h j1 a1 (by omega))
    have e2 := (fl _ _).mp (h j2 b1 (by omega))
    rw [a3, b3, Bool.eq_false_iff, Ne, lt_lowR p1, lt_lowR p2]
    omega
theorem row_eq {x y : D} {n : Nat} : rowL x n = rowL y n ↔ ∀ j : Nat, 1 ≤ j → j ≤ n → wh x j = wh y j := by
  constructor
  · intro h j _ hj
    rw [← row_s (x := x) (n := n) j hj, ← row_s (x := y) (n := n) j hj, h]
  · intro h
    unfold rowL
    refine List.map_congr_left fun i hi => ?_
    have hi2 := List.mem_range.mp hi
    unfold lab
    have e1 : (1 : Int) + (i : Nat) - 1 = (i : Nat) := by omega
    have e2 : (1 : Int) + (i : Nat) = ((i + 1 : Nat) : Int) := by omega
    rw [e1, e2, h (i + 1) (by omega) (by omega)]
    by_cases h0 : i = 0
    · subst h0
      show _ - wh x 0 = _ - wh y 0
      rw [wh_zero, wh_zero]
    · rw [h i (by omega) (by omega)]
end DL

/-! DL23: numbers in their one form; what == tells of them. -/
namespace DL
open PySem PySem.Spec PyProof.Rows L2 Evl

def Cn (x : D) : Prop := (∃ i, x = .int i) ∨ ∃ a b : Int, x = .tup [.int a, .int b] ∧ 2 ≤ b ∧ Int.gcd a b = 1
theorem cn_low {a u : Int} (hu : 0 < u) : Cn (lowD a u) := by
  obtain ⟨g, n, d, eg, g0, ea, eu, d0, e1, e2, e3, _⟩ := gcd_facts (a := a) hu
  unfold lowD
  rw [eg, e1, e2]
  split
  · exact .inl ⟨_, rfl⟩
  · exact .inr ⟨_, _, rfl, by omega, e3⟩
theorem Cn.num {x : D} (h : Cn x) : numD x = true := by
  rcases h with ⟨i, rfl⟩ | ⟨a, b, rfl, h2, h3⟩
  · rfl
  · show (decide (2 ≤ b) && decide (Int.gcd a b = 1)) = true
    rw [decide_eq_true h2, decide_eq_true h3]
    rfl
theorem Cn.cop {x : D} (h : Cn x) : Int.gcd (numI x).1 (numI x).2 = 1 := by
  rcases h with ⟨i, rfl⟩ | ⟨a, b, rfl, h2, h3⟩
  · exact Int.gcd_one_right i
  · exact h3
theorem Cn.eq {x y : D} (h : Cn x) (h' : Cn y) (e : numI x = numI y) : x = y := by
  rcases h with ⟨i, rfl⟩ | ⟨a, b, rfl, h2, h3⟩ <;> rcases h' with ⟨j, rfl⟩ | ⟨c, d, rfl, k2, k3⟩
  · have : i = j := congrArg Prod.fst e
    rw [this]
  · have : (1 : Int) = d := congrArg Prod.snd e
    omega
  · have : b = (1 : Int) := congrArg Prod.snd e
    omega
  · have e1 : a = c := congrArg Prod.fst e
    have e2 : b = d := congrArg Prod.snd e
    rw [e1, e2]
theorem frac_one {a b c d : Int} (hb : 0 < b) (hd : 0 < d) (h1 : Int.gcd a b = 1) (h2 : Int.gcd c d = 1) (e : a * d = c * b) : a = c ∧ b = d := by
  have k1 : b.natAbs ∣ d.natAbs := by
    have : b.natAbs ∣ a.natAbs * d.natAbs := by
      rw [← Int.natAbs_mul, e, Int.natAbs_mul]
      exact Nat.dvd_mul_left _ _
    exact Nat.Coprime.dvd_of_dvd_mul_left (show Nat.Coprime b.natAbs a.natAbs by
      show Nat.gcd b.natAbs a.natAbs = 1
      rw [Nat.gcd_comm]
      exact h1) this
  have k2 : d.natAbs ∣ b.natAbs := by
    have : d.natAbs ∣ c.natAbs * b.natAbs := by
      rw [← Int.natAbs_mul, ← e, Int.natAbs_mul]
      exact Nat.dvd_mul_left _ _
    exact Nat.Coprime.dvd_of_dvd_mul_left (show Nat.Coprime d.natAbs c.natAbs by
      show Nat.gcd d.natAbs c.natAbs = 1
      rw [Nat.gcd_comm]
      exact h2) this
  have k3 := Nat.dvd_antisymm k1 k2
  have bd : b = d := by omega
  subst bd
  refine ⟨?_, rfl⟩
  have : b * a = b * c := by rw [Int.mul_comm, e, Int.mul_comm]
  exact Int.eq_of_mul_eq_mul_left (by omega) this
theorem Cn.uniq {x y : D} (h : Cn x) (h' : Cn y) (e1 : ltN x y = false) (e2 : ltN y x = false) : x = y := by
  rw [nlt_iff] at e1 e2
  have e := frac_one (num_half h.num).2 (num_half h'.num).2 h.cop h'.cop (by omega)
  exact h.eq h' (Prod.ext e.1 e.2)
/-! ### == -/
theorem cn_py {x : D} (h : Cn x) : ∃ p, x.py = some p := by
  rcases h with ⟨i, rfl⟩ | ⟨a, b, rfl, _⟩ <;> exact ⟨_, rfl⟩
theorem cn_eqv {x y : D} {p q : PyData} (h : Cn x) (h' : Cn y) (hp : x.py = some p) (hq : y.py = some q) (e : PyData.eqv p q = true) : x = y := by
  rcases h with ⟨i, rfl⟩ | ⟨a, b, rfl, h2, h3⟩ <;> rcases h' with ⟨j, rfl⟩ | ⟨c, d, rfl, k2, k3⟩ <;> cases hp <;> cases hq <;> simp [PyData.eqv, PyData.eqvAll] at e ⊢
  · exact e
  · exact e
theorem pair_eqv {x y z w : D} (hx : Cn x) (hy : Cn y) (hz : Cn z) (hw : Cn w) (e : D.eqv (.tup [x, y]) (.tup [z, w]) = true) : x = z ∧ y = w := by
  obtain ⟨p, hp⟩ := cn_py hx
  obtain ⟨q, hq⟩ := cn_py hy
  obtain ⟨r, hr⟩ := cn_py hz
  obtain ⟨s, hs⟩ := cn_py hw
  have e1 : D.py (.tup [x, y]) = some (.tuple [p, q]) := by simp only [D.py, D.pyL, hp, hq, Option.map_some]
  have e2 : D.py (.tup [z, w]) = some (.tuple [r, s]) := by simp only [D.py, D.pyL, hr, hs, Option.map_some]
  rw [eqv_of e1 e2] at e
  simp [PyData.eqv, PyData.eqvAll] at e
  exact ⟨cn_eqv hx hz hp hr e.1, cn_eqv hy hw hq hs e.2⟩
theorem cn_lay {x : D} (h : Cn x) : x.lay = true ∧ x.dp ≤ 1 := by
  rcases h with ⟨i, rfl⟩ | ⟨a, b, rfl, _⟩
  · exact ⟨rfl, Nat.zero_le _⟩
  · exact ⟨rfl, by show 0 + 1 ≤ 1; omega⟩
theorem cn_cmp2 {x y : D} (hx : Cn x) (hy : Cn y) : Cmp (.tup [x, y]) := by
  obtain ⟨a, b⟩ := cn_lay hx
  obtain ⟨c, d⟩ := cn_lay hy
  refine ⟨?_, ?_⟩
  · show (x.lay && (y.lay && true)) = true
    rw [a, c]
    rfl
  · show max x.dp (max y.dp 0) + 1 ≤ 60
    omega
theorem ints_eqv : ∀ {is js : List Int}, D.eqv (.lst (is.map D.int)) (.lst (js.map D.int)) = decide (is = js) := by
  have py : ∀ is : List Int, D.py (.lst (is.map D.int)) = some (.list (is.map PyData.int)) := fun is => by
    have : D.pyL (is.map D.int) = some (is.map PyData.int) := by
      induction is with
      | nil => rfl
      | cons i is ih => simp only [List.map_cons, D.pyL, ih, D.py]
    simp only [D.py, this, Option.map_some]
  have all : ∀ is js : List Int, PyData.eqvAll (is.map PyData.int) (js.map PyData.int) = decide (is = js) := fun is => by
    induction is with
    | nil => intro js; cases js <;> simp [PyData.eqvAll]
    | cons i is ih =>
      intro js
      cases js with
      | nil => simp [PyData.eqvAll]
      | cons j js =>
        simp [PyData.eqvAll, PyData.eqv, ih]
        rfl
  intro is js
  rw [eqv_of (py is) (py js)]
  show PyData.eqv (.list _) (.list _) = _
  rw [PyData.eqv, all]
end DL
namespace DL
open PySem PySem.Spec PyProof.Rows L2 Evl
/-! ### what told_back answers of a number's own row -/
def loR (x : D) (n : Nat) : D := (tbAt (rowL x n) n).lo
def hiR (x : D) (n : Nat) : D := (tbAt (rowL x n) n).hi
theorem rowL_len {x : D} {n : Nat} : (rowL x n).length = n := by
  unfold rowL
  rw [List.length_map, List.length_range]
theorem row_lo {x : D} {n : Nat} (hn : 1 ≤ n) : Cn (loR x n) := by
  obtain ⟨⟨⟨j, a1, a2, a3⟩, _, _, _⟩, _⟩ := row_ok (x := x) hn n (Nat.le_refl _)
  unfold loR
  rw [a3]
  exact cn_low (by omega)
theorem row_hi {x : D} {n : Nat} (hn : 1 ≤ n) : Cn (hiR x n) := by
  obtain ⟨⟨_, ⟨j, a1, a2, a3⟩, _, _⟩, _⟩ := row_ok (x := x) hn n (Nat.le_refl _)
  unfold hiR
  rw [a3]
  exact cn_low (by omega)
theorem row_in {x : D} {n : Nat} (hn : 1 ≤ n) (hx : numD x = true) : ltN x (loR x n) = false ∧ ltN x (hiR x n) = true := (within_iff hn hx hx).mpr fun _ _ _ => rfl
theorem tell_row {x : D} {n : Nat} (hn : 1 ≤ n) (hx : numD x = true) : tellD (rowL x n) = .tup [loR x n, hiR x n] := by
  obtain ⟨h1, h2⟩ := row_in hn hx
  unfold tellD
  rw [rowL_len]
  refine if_pos ?_
  rw [nlt_iff] at h1
  rw [lt_iff] at h2 ⊢
  exact frac_trans (num_half (row_lo hn).num).2 (num_half hx).2 (num_half (row_hi hn).num).2 h1 h2
theorem in_row {x y : D} {n : Nat} (hn : 1 ≤ n) (hx : numD x = true) (hy : numD y = true) : (!ltN y (loR x n) && ltN y (hiR x n)) = decide (rowL x n = rowL y n) := by
  rw [Bool.eq_iff_iff, Bool.and_eq_true, Bool.not_eq_true', decide_eq_true_iff, row_eq]
  exact (within_iff hn hx hy).trans ⟨fun h j h1 h2 => (h j h1 h2).symm, fun h j h1 h2 => (h j h1 h2).symm⟩
theorem ends_row {x y : D} {n : Nat} (hn : 1 ≤ n) (hx : numD x = true) (hy : numD y = true) : D.eqv (.tup [loR x n, hiR x n]) (.tup [loR y n, hiR y n]) = decide (rowL x n = rowL y n) := by
  rw [Bool.eq_iff_iff, decide_eq_true_iff]
  constructor
  · intro h
    obtain ⟨e1, e2⟩ := pair_eqv (row_lo hn) (row_hi hn) (row_lo hn) (row_hi hn) h
    obtain ⟨h1, h2⟩ := row_in hn hy
    rw [← e1] at h1
    rw [← e2] at h2
    have := in_row hn hx hy
    rw [h1, h2] at this
    exact of_decide_eq_true this.symm
  · intro h
    have e1 : loR x n = loR y n := by unfold loR; rw [h]
    have e2 : hiR x n = hiR y n := by unfold hiR; rw [h]
    rw [e1, e2]
    exact eqv_self (cn_cmp2 (row_lo hn) (row_hi hn)).lay
/-- the ends stand by 1 / n apart at most -/
theorem row_near {x : D} {n : Nat} (hn : 1 ≤ n) : ((numI (hiR x n)).1 * (numI (loR x n)).2 - (numI (loR x n)).1 * (numI (hiR x n)).2) * n ≤ (numI (loR x n)).2 * (numI (hiR x n)).2 := by
  obtain ⟨⟨_, _, c1, c2⟩, _⟩ := row_ok (x := x) hn n (Nat.le_refl _)
  have pn : (0 : Int) < (n : Nat) := by omega
  have k1 := c1 n hn (Nat.le_refl _)
  have k2 := c2 n hn (Nat.le_refl _)
  rw [Bool.eq_false_iff, Ne, lt_lowR pn] at k1
  rw [Bool.eq_false_iff, Ne, lt_lowL pn] at k2
  have pl : 0 < (numI (loR x n)).2 := (num_half (row_lo hn).num).2
  have ph : 0 < (numI (hiR x n)).2 := (num_half (row_hi hn).num).2
  have k1' : wh x n * (numI (loR x n)).2 ≤ (numI (loR x n)).1 * n := Int.not_lt.mp k1
  have k2' : (numI (hiR x n)).1 * n ≤ (wh x n + 1) * (numI (hiR x n)).2 := Int.not_lt.mp k2
  have t1 := Int.mul_le_mul_of_nonneg_right k1' (Int.le_of_lt ph)
  have t2 := Int.mul_le_mul_of_nonneg_right k2' (Int.le_of_lt pl)
  have g1 : ((numI (hiR x n)).1 * (numI (loR x n)).2 - (numI (loR x n)).1 * (numI (hiR x n)).2) * n = (numI (hiR x n)).1 * n * (numI (loR x n)).2 - (numI (loR x n)).1 * n * (numI (hiR x n)).2 := by grind
  have g2 : (wh x n + 1) * (numI (hiR x n)).2 * (numI (loR x n)).2 = wh x n * (numI (loR x n)).2 * (numI (hiR x n)).2 + (numI (loR x n)).2 * (numI (hiR x n)).2 := by grind
  omega
/-- a longer row tells no less -/
theorem row_more {x : D} {n m : Nat} (hn : 1 ≤ n) (h : n ≤ m) : ltN (loR x m) (loR x n) = false ∧ ltN (hiR x n) (hiR x m) = false := by
  obtain ⟨⟨⟨j1, a1, a2, a3⟩, ⟨j2, b1, b2, b3⟩, _, _⟩, _⟩ := row_ok (x := x) hn n (Nat.le_refl _)
  obtain ⟨⟨_, _, c1, c2⟩, _⟩ := row_ok (x := x) (n := m) (by omega) m (Nat.le_refl _)
  have e1 : loR x n = lowD (wh x j1) j1 := a3
  have e2 : hiR x n = lowD (wh x j2 + 1) j2 := b3
  rw [e1, e2]
  exact ⟨c1 j1 a1 (by omega), c2 j2 b1 (by omega)⟩
theorem low_self {x : D} (h : Cn x) : lowD (numI x).1 (numI x).2 = x := by
  have hp := (num_half h.num).2
  refine (cn_low hp).eq h ?_
  rw [low_num hp, h.cop]
  show ((numI x).1 / 1, (numI x).2 / 1) = numI x
  rw [Int.ediv_one, Int.ediv_one]
/-- a row as long as the under tells the number itself -/
theorem row_own {x : D} {n : Nat} (h : Cn x) (hn : (numI x).2 ≤ n) (hn1 : 1 ≤ n) : loR x n = x := by
  obtain ⟨⟨_, _, c1, _⟩, _⟩ := row_ok (x := x) hn1 n (Nat.le_refl _)
  have hp := (num_half h.num).2
  have ej : (((numI x).2.toNat : Nat) : Int) = (numI x).2 := Int.toNat_of_nonneg (by omega)
  have k1 := c1 (numI x).2.toNat (by omega) (by omega)
  rw [ej] at k1
  have ew : wh x (numI x).2 = (numI x).1 := by
    unfold wh
    exact Int.mul_ediv_cancel _ (by omega)
  rw [ew, low_self h] at k1
  exact (row_lo hn1).uniq h k1 (row_in hn1 h.num).1
end DL

/-! DL24: .append of a list that may change; such a list taken as a datum again. -/
namespace DL
open PySem PySem.Spec PyProof.Rows L2 Evl

/-- o.append(e) -/
def dApp (dobj de : DE) : DE := fun ρ G R => dobj ρ G fun o G1 => ∃ q, o = .ref q ∧ (∃ ds, G1 q = some (.lst ds)) ∧ dCons de dNil ρ G1 fun xs G2 => ∃ x, xs = [x] ∧ ∃ ds, G2 q = some (.lst ds) ∧ ds.length < sizeLine ∧ R .non (gup G2 q (.lst (ds ++ [x])))
section
variable {X : Cx} {B : Bs} {o e : Expr} {dobj de : DE} {pos p : Pos}
theorem pd_append (ho : PE X o (upE X.K B dobj)) (he : PE X e (upE X.K B de)) (hs : starEach [e] X.env = (false, eval e X.env) :: starEach [] X.env := by rfl) (hbase : attributeBase o "append" X.env (eval o X.env) = eval o X.env := by rfl)
    (hfew : ((backTo pos (starEach [e] X.env)).all (fun x => !x.1) && (backToKw pos (keywordEach [] X.env)).all (fun x => x.1.isSome) && decide ([e].length + ([] : List Keyword).length + (if ([] : List Keyword).isEmpty then 0 else 1) < 30)) = true := by rfl)
    (hline : (p.endLine == pos.line) = true := by rfl) (hplain : (backTo pos (starEach [] X.env)).any (·.1) = false := by rfl) :
    PE X (.Call (.Attribute o "append" p) [e] [] pos) (upE X.K B (dApp dobj de)) := pe_imp (pe_bm PySem.F.plainAttrs_list PySem.F.slot_list_append PySem.F.type_list_append mt_append ho (pda_cons he pda_nil hs) hbase hfew hline hs hplain) fun σ H Q ⟨ρ, Hd, G, R, at_, h, k⟩ =>
  ⟨ρ, Hd, G, fun o G1 => ∃ q, o = .ref q ∧ (∃ ds, G1 q = some (.lst ds)) ∧ dCons de dNil ρ G1 fun xs G2 => ∃ x, xs = [x] ∧ ∃ ds, G2 q = some (.lst ds) ∧ ds.length < sizeLine ∧ R .non (gup G2 q (.lst (ds ++ [x]))), at_, h, fun v H1 Hd1 x G1 e1 s1 r1 ⟨q, ex, ⟨ds0, hg0⟩, h1⟩ => by
    subst ex
    cases r1
    obtain ⟨ys0, hy0, _⟩ := s1.hold q _ hg0
    refine ⟨.inl ⟨rfl, ys0, SqL.of hy0⟩, ρ, Hd1, G1, fun xs G2 => ∃ x, xs = [x] ∧ ∃ ds, G2 q = some (.lst ds) ∧ ds.length < sizeLine ∧ R .non (gup G2 q (.lst (ds ++ [x]))), at_.step e1 s1, ?_, fun us H2 Hd2 xs G2 e2 s2 r2 ⟨x, ex, ds, hg, hz, h2⟩ => ?_⟩
    · exact h1
    · subst ex
      obtain ⟨u, rfl, ru⟩ := rpl1 r2
      obtain ⟨ys, hy, ry⟩ := s2.hold q _ hg
      exact ⟨q, ys, u, rfl, rfl, hy, by rw [ry.length]; exact hz, k .non _ Hd2 .non _ (e1.trans e2) (s2.put (n := .lst (ds ++ [x])) hg ⟨_, upd_same, ry.app (.cons ru .nil)⟩) .non h2⟩⟩
end
/-- the part p of the store let go -/
def gdel (G : Gm) (p : Addr) : Gm := fun b => if b = p then none else G b
theorem Sim.freeze {K : PySem.W.Frag} {F : Gm} {Hd H : Hp} {G : Gm} (S : Sim K F Hd H G) {p : Addr} {ds : List D} (h : G p = some (.lst ds)) : ∃ xs, Sim K F (upd Hd p (.lst xs)) H (gdel G p) ∧ RpL K Hd xs ds := by
  obtain ⟨xs, hx, r⟩ := S.hold p _ h
  have hd := S.off p _ h
  have hf := S.gf h
  have e : Ex Hd (upd Hd p (.lst xs)) := Ex.new hd
  have gd : ∀ {a : Addr} {m : Mt}, gdel G p a = some m → a ≠ p ∧ G a = some m := fun {a m} q => by
    unfold gdel at q
    split at q
    · cases q
    · rename_i z
      exact ⟨z, q⟩
  refine ⟨xs, ⟨fun a u q => ?_, fun a m q => ?_, fun a m q => (S.hold a m (gd q).2).mono e, fun a m q => ?_, fun a m q => (S.holdF a m q).mono e, fun a m q => ?_⟩, r⟩
  · by_cases z : a = p
    · subst z
      rw [upd_same] at q
      cases q
      exact hx
    · rw [upd_ne z] at q
      exact S.sub a u q
  · rw [upd_ne (gd q).1]
    exact S.off a m (gd q).2
  · rw [upd_ne (ne_g q hf)]
    exact S.offF a m q
  · unfold gdel
    split
    · rfl
    · exact S.apart a m q
/-- ahead of s: what the name i holds is a datum from here on -/
def dFrz (i : Nat) (s : DS) : DS := fun E ρ G => ∃ p ds, ρ[i]? = some (some (.ref p)) ∧ G p = some (.lst ds) ∧ s E (ρ.set i (some (.lst ds))) (gdel G p)
theorem frz_imp {K : PySem.W.Frag} {B : Bs} {i : Nat} {s : DS} : ∀ D σ H, upS K B (dFrz i s) D σ H → upS K B s D σ H := fun D σ H ⟨ρ, Hd, G, E, at_, ⟨p, ds, hi, hg, h⟩, k⟩ => by
  obtain ⟨xs, S, r⟩ := at_.s.freeze hg
  have e : Ex Hd (upd Hd p (.lst xs)) := Ex.new (at_.s.off p _ hg)
  refine ⟨_, _, _, E, ⟨at_.b.trans e, ⟨by rw [List.length_set]; exact at_.e.1, fun j d hj => ?_⟩, S⟩, h, k.mono e⟩
  by_cases q : i = j
  · subst q
    have hl : i < ρ.length := by
      by_cases z : i < ρ.length
      · exact z
      · rw [List.getElem?_eq_none (by omega)] at hi
        cases hi
    rw [List.getElem?_set_self hl] at hj
    cases hj
    obtain ⟨v, hv, rv⟩ := at_.e.2 i _ hi
    cases rv
    exact ⟨_, hv, .lst sq_new (r.mono e)⟩
  · rw [List.getElem?_set_ne q] at hj
    obtain ⟨v, hv, rv⟩ := at_.e.2 j d hj
    exact ⟨v, hv, rv.mono e⟩
theorem psd_frz {X : Cx} {B : Bs} {st : Stmt} {s : DS} (i : Nat) (h : PS X st (upS X.K B s)) : PS X st (upS X.K B (dFrz i s)) := ps_imp h frz_imp
theorem pssd_frz {X : Cx} {B : Bs} {st : List Stmt} {s : DS} (i : Nat) (h : PSs X st (upS X.K B s)) : PSs X st (upS X.K B (dFrz i s)) := pss_imp h frz_imp
end DL
/-! ### list + list -/
namespace MZ
open PySem PySem.Spec PyProof.Rows L2
theorem meetsCat (l : Addr) (us : Array Value) (n : Nat) (b : Addr) (vs : Array Value) (m : Nat) (sl sl2 : Array (Option Value)) (hz : us.size + vs.size ≤ sizeLine) : Meets (Builtin.«list.__add__» ⟨[.ref l, .ref b], []⟩) (fun _ R s =>
    s.heap.get? l = some { cls := .type "list", dict := none, data := .seq us n, slots := sl } ∧ s.heap.get? b = some { cls := .type "list", dict := none, data := .seq vs m, slots := sl2 } ∧ R (.ok (.ret (Value.ref s.heap.objs.size))) { s with heap := s.heap.push { cls := Value.type "list", data := Data.seq (us ++ vs) }, toks := s.toks }) :=
  .of_wp fun prog w A R s h => by
    obtain ⟨hp, g, d, tk, os⟩ := s
    obtain ⟨c1, c2, h⟩ := h
    have f1 := AutoSeq1.idx_int
    have f2 := AutoSeq1.sub_tuple_tuple
    have f3 := AutoSeq1.sub_list_list
    have f4 := AutoSeq1.sub_tuple_list
    have f5 := AutoSeq1.sub_list_tuple
    wp_walk using AutoSeq1.wpAny_loadPart' c1, AutoSeq1.wpAny_loadPart' c2
    exact ⟨_, rfl, h⟩
end MZ
namespace DL
open PySem PySem.Spec PyProof.Rows L2 Evl
def rCatL (K : PySem.W.Frag) : R2 := fun x y H Q => ∃ a b xs ys, x = .ref a ∧ y = .ref b ∧ SqL K H a xs ∧ SqL K H b ys ∧ xs.length + ys.length ≤ sizeLine ∧ ∀ p, H p = none → Q (.ref p) (upd H p (.lst (xs ++ ys)))
theorem op_catL {X : Cx} : OpR X (binaryOp .Add) (rCatL X.K) := by
  intro pins s σ H x y v u Q I rx ry h
  obtain ⟨a, b, xs, ys, rfl, rfl, ha, hb, hz, q⟩ := h
  cases rx
  cases ry
  obtain ⟨its, r1, ⟨⟨c1, d1, da1, sl1⟩, n1, e1, ec1, ed1, es1⟩, _⟩ := I.list ha
  obtain ⟨its2, r2, ⟨⟨c2, d2, da2, sl2⟩, n2, e2, ec2, ed2, es2⟩, _⟩ := I.list hb
  simp only at ec1 ed1 es1 ec2 ed2 es2
  subst ec1 ed1 es1 ec2 ed2 es2
  have l1 := r1.length
  have l2 := r2.length
  refine concat_meets ⟨_, e1, rfl⟩ ⟨_, e2, rfl⟩ noFill_list_add seq_list_add F.slot_list_add F.entry_list_add (F.args_list_add_2 _ _) (MZ.meetsCat a its.toArray n1 b its2.toArray n2 sl1 sl2 (by rw [List.size_toArray, List.size_toArray]; omega)) ⟨e1, e2, ?_⟩
  have ea : its.toArray ++ its2.toArray = (its ++ its2).toArray := by simp
  rw [ea]
  exact ⟨.ref _, _, I.lnew (t' := s.toks) (r1.append r2) (by rw [List.length_append]; omega), rfl, q _ I.fresh⟩
/-- + of lists that never change -/
def fAddL (x y z : D) : Prop := ∃ xs ys, x = .lst xs ∧ y = .lst ys ∧ xs.length + ys.length ≤ sizeLine ∧ z = .lst (xs ++ ys)
theorem od_addL {K : PySem.W.Frag} : OpD K (rCatL K) fAddL := fun F Hd H G v u x y z Q s rv ru ⟨xs, ys, ex, ey, hz, ez⟩ k => by
  subst ex ey ez
  cases rv with
  | lst q r =>
    cases ru with
    | lst q' r' => exact ⟨_, _, _, _, rfl, rfl, ex_l s.sub q, ex_l s.sub q', by rw [r.length, r'.length]; exact hz, fun p hp => k _ _ _ (s.exn hp) (s.new hp) (.lst sq_new ((r.app r').mono (s.exn hp)))⟩
theorem pd_addL {X : Cx} {B : Bs} {pos : Pos} {a b : Expr} {da db : DE} (ha : PE X a (upE X.K B da)) (hb : PE X b (upE X.K B db)) : PE X (.BinOp a .Add b pos) (upE X.K B (dOp fAddL da db)) := pd_op op_catL od_addL ha hb
theorem Ev.addL {ρ : En} {G : Gm} {da db : DE} {xs ys : List D} (ha : Ev da ρ G (.lst xs)) (hb : Ev db ρ G (.lst ys)) (hz : xs.length + ys.length ≤ sizeLine) : Ev (dOp fAddL da db) ρ G (.lst (xs ++ ys)) := .op ha hb ⟨xs, ys, rfl, rfl, hz, rfl⟩
end DL
namespace DL
open PySem PySem.Spec PyProof.Rows L2 Evl
section
variable {X : Cx} {B : Bs} {pos pp : Pos} {a : Expr} {da : DE} {j : Nat}
theorem ptd_isN (ha : PE X a (upE X.K B da)) : PT X (.Compare a [.Is] [.Constant .none j pp] pos) (upT X.K B (dTst (dIsN da))) := pt_imp (pt_cmp (pc_isN ha) rfl) fun σ H Q h => isn_imp σ H _ (tst_imp σ H Q h)
theorem ptd_notN (ha : PE X a (upE X.K B da)) : PT X (.Compare a [.IsNot] [.Constant .none j pp] pos) (upT X.K B (dTst (dNotN da))) := pt_imp (pt_cmp (pc_notN ha) rfl) fun σ H Q h => notn_imp σ H _ (tst_imp σ H Q h)
end
end DL

/-! DL25: told_back as a law itself reckons it; its answer can be shown. -/
namespace DL
open PySem PySem.Spec PyProof.Rows L2 Evl

theorem tb_gen {xs : List Int} {m : Nat} (hm : ∀ i ∈ xs, i.natAbs < 2 ^ m) : ∀ k : Nat, k ≤ 2000 → (Cn (tbAt xs k).lo ∧ Bn (m + 13) (tbAt xs k).lo) ∧ Cn (tbAt xs k).hi ∧ Bn (m + 13) (tbAt xs k).hi
  | 0, _ => by
    have h1 : (xs.headD 0).natAbs < 2 ^ m := by
      cases xs with
      | nil => exact Nat.two_pow_pos _
      | cons x xs => exact hm x List.mem_cons_self
    have h2 : 2 ^ m + 1 ≤ 2 ^ (m + 13) := by
      rw [Nat.pow_add]
      have := Nat.two_pow_pos m
      omega
    have h3 : (1 : Int).natAbs < 2 ^ (m + 13) := Nat.one_lt_two_pow (by omega)
    exact ⟨⟨.inl ⟨_, rfl⟩, by show (xs.headD 0).natAbs < _; omega, h3⟩, .inl ⟨_, rfl⟩, by show (xs.headD 0 + 1).natAbs < _; omega, h3⟩
  | k + 1, hk => by
    obtain ⟨⟨c1, d1⟩, c2, d2⟩ := tb_gen hm k (by omega)
    have p : (0 : Int) < ((k : Int) + 1) := by omega
    have hs := tb_s hm (k + 1)
    have e : (tbAt xs (k + 1)).s = (tbAt xs k).s + xs.getD k 0 := rfl
    rw [e] at hs
    have hz : (k + 1) * 2 ^ m ≤ 2001 * 2 ^ m := Nat.mul_le_mul_right _ (by omega)
    have h2 : 2001 * 2 ^ m + 1 < 2 ^ (m + 13) := by
      rw [Nat.pow_add]
      have := Nat.two_pow_pos m
      omega
    have h3 : ((k : Int) + 1).natAbs < 2 ^ (m + 13) := Nat.lt_of_lt_of_le (show ((k : Int) + 1).natAbs < 2 ^ 13 by omega) (Nat.pow_le_pow_right (by decide) (by omega))
    have b1 : Bn (m + 13) (lowD ((tbAt xs k).s + xs.getD k 0) (k + 1)) := low_bn p (by omega) h3
    have b2 : Bn (m + 13) (lowD ((tbAt xs k).s + xs.getD k 0 + 1) (k + 1)) := low_bn p (by omega) h3
    refine ⟨?_, ?_⟩
    · show Cn (if _ then _ else _) ∧ Bn _ (if _ then _ else _)
      split
      · exact ⟨cn_low p, b1⟩
      · exact ⟨c1, d1⟩
    · show Cn (if _ then _ else _) ∧ Bn _ (if _ then _ else _)
      split
      · exact ⟨cn_low p, b2⟩
      · exact ⟨c2, d2⟩
theorem cn_fit {x : D} {k : Nat} (h : Cn x) (hb : Bn k x) (hk : 2 ^ k ≤ 10 ^ 560) : x.fit = true ∧ x.dp ≤ 1 ∧ x.sz ≤ 3 := by
  rcases h with ⟨i, rfl⟩ | ⟨a, b, rfl, _⟩
  · exact ⟨decide_eq_true (show i.natAbs < 10 ^ 560 from Nat.lt_of_lt_of_le hb.1 hk), Nat.zero_le _, by show 1 ≤ 3; decide⟩
  · refine ⟨?_, by show 0 + 1 ≤ 1; omega, by show 1 + (1 + 0) + 1 ≤ 3; omega⟩
    show (decide (a.natAbs < 10 ^ 560) && (decide (b.natAbs < 10 ^ 560) && true)) = true
    rw [decide_eq_true (show a.natAbs < 10 ^ 560 from Nat.lt_of_lt_of_le hb.1 hk), decide_eq_true (show b.natAbs < 10 ^ 560 from Nat.lt_of_lt_of_le hb.2 hk)]
    rfl
theorem rep_tell {is : List Int} {m : Nat} (hm : ∀ i ∈ is, i.natAbs < 2 ^ m) (hk : m ≤ 1000) (hl : is.length ≤ 2000) : RepOk (tellD is) := by
  obtain ⟨⟨c1, d1⟩, c2, d2⟩ := tb_gen hm is.length hl
  have hp : 2 ^ (m + 13) ≤ 10 ^ 560 := Nat.le_trans (Nat.pow_le_pow_right (by decide) (show m + 13 ≤ 1013 by omega)) (by decide +kernel)
  obtain ⟨f1, f2, f3⟩ := cn_fit c1 d1 hp
  obtain ⟨g1, g2, g3⟩ := cn_fit c2 d2 hp
  unfold tellD
  split
  · refine .inl ⟨?_, ?_, ?_⟩
    · show (D.fit _ && (D.fit _ && true)) = true
      rw [f1, g1]
      rfl
    · show max (D.dp _) (max (D.dp _) 0) + 1 ≤ 60
      omega
    · show D.sz _ + (D.sz _ + 0) + 1 ≤ 27000
      omega
  · exact .inl ⟨rfl, Nat.zero_le _, by show 1 ≤ 27000; decide⟩
theorem Ev.tell {ρ : En} {G : Gm} {da : DE} {x : D} {is : List Int} (h : Ev da ρ G x) (hx : x = .lst (is.map D.int) ∨ x = .tup (is.map D.int)) (l1 : 1 ≤ is.length) (l2 : is.length ≤ 2000) (hm : ∀ i ∈ is, i.natAbs < 2 ^ 3000) : Ev (dCall sp_told_back X0 (dCons da dNil)) ρ G (tellD is) := .call (.one h) fun R r => ⟨x, is, rfl, hx, l1, l2, hm, r⟩
def dueR : DS := (dSeq (dAsg (dTup (dCons (dC .non) (dCons (dC .non) (dCons (dC (.int 0)) dNil)))) (gSeq 3 (gCons (gN 1) (gCons (gN 2) (gCons (gN 3) gNil))))) (dSeq (dFor (dIEnumerate (dCons (dVar 0) dNil)) (gSeq 2 (gCons (gN 4) (gCons (gN 5) gNil))) (dSeq (dSet 3 (dOp fAdd (dVar 3) (dVar 5))) (dSeq (dPar 6 7 (dCons (dCall sp_lowest_in X0 (dCons (dVar 3) (dCons (dOp fAdd (dVar 4) (dC (.int 1))) dNil))) (dCons (dCall sp_lowest_in X0 (dCons (dOp fAdd (dVar 3) (dC (.int 1))) (dCons (dOp fAdd (dVar 4) (dC (.int 1))) dNil))) dNil))) (dSeq (dSet 1 (dIf (dOr (dTst (dIsN (dVar 1))) (dTst (dCall sp_below X0 (dCons (dVar 1) (dCons (dVar 6) dNil))))) (dVar 6) (dVar 1))) (dSet 2 (dIf (dOr (dTst (dIsN (dVar 2))) (dTst (dCall sp_below X0 (dCons (dVar 7) (dCons (dVar 2) dNil))))) (dVar 7) (dVar 2))))))) (dRet (dIf (dTst (dCall sp_below X0 (dCons (dVar 1) (dCons (dVar 2) dNil)))) (dTup (dCons (dVar 1) (dCons (dVar 2) dNil))) (dC .non)))))
/-- None at first -/
def dueL (xs : List Int) (k : Nat) : D := if k = 0 then .non else (tbAt xs k).lo
def dueH (xs : List Int) (k : Nat) : D := if k = 0 then .non else (tbAt xs k).hi
theorem num_notN {x : D} (h : numD x = true) : x.isN = false := by cases x <;> first | rfl | cases h
theorem due_ok (xs : List D) (G : Gm) (R : KD) (RX : XD) (h : sp_told_back xs G R RX) : dueR { nx := fun _ G => R .non G, rt := R } (xs.map some ++ List.replicate (8 - xs.length) none) G := by
  obtain ⟨x0, is, rfl, hx, l1, l2, hm, h⟩ := h
  obtain ⟨l0, tl, eis⟩ : ∃ l0 tl, is = l0 :: tl := by
    cases is with
    | nil => simp at l1
    | cons a b => exact ⟨a, b, rfl⟩
  have hl0 : is.headD 0 = l0 := by rw [eis]; rfl
  have hg0 : is.getD 0 0 = l0 := by rw [eis]; rfl
  refine ds_asg (.tup (.cons .c (.cons .c (.one .c))) (show 3 ≤ sizeLine by decide)) ?_
  refine ⟨_, seq_tup, rfl, _, _, rfl, _, _, rfl, _, _, rfl, rfl, ?_⟩
  refine ⟨_, rfl, is.map D.int, hx.imp (fun e => by rw [e]) (fun e => by rw [e]), ?_⟩
  refine forL_at (fun rest ρ G' => G' = G ∧ ∃ k, k ≤ is.length ∧ rest = (enumD (is.map D.int)).drop k ∧ ∃ o4 o5 o6 o7, ρ = [some x0, some (dueL is k), some (dueH is k), some (.int (tbAt is k).s), o4, o5, o6, o7]) ?_ ?_ ?_
  · rintro x rest N ρ G1 hsuf hN ⟨rfl, k, hk, er, o4, o5, o6, o7, rfl⟩
    have lk : k < is.length := by
      have := congrArg List.length er
      rw [List.length_cons, List.length_drop, enum_len, List.length_map] at this
      omega
    have ex : (enumD (is.map D.int))[k]? = some x := by
      have := congrArg (fun l => l[0]?) er
      rw [List.getElem?_drop] at this
      exact this.symm
    have er2 : rest = (enumD (is.map D.int)).drop (k + 1) := by
      have := congrArg List.tail er
      rw [List.tail_drop] at this
      exact this
    obtain ⟨y, hy, rfl⟩ := enum_at ex
    rw [List.getElem?_map, List.getElem?_eq_getElem lk] at hy
    cases hy
    have eg : is.getD k 0 = is[k] := by
      show (is[k]?).getD 0 = _
      rw [List.getElem?_eq_getElem lk]
      rfl
    have ok := tb_ok hm k (by omega)
    obtain ⟨b1, b2⟩ := tb_bn hm (show k < 2000 by omega)
    have p : (0 : Int) < ((k : Int) + 1) := by omega
    have p2 : ((k : Int) + 1) < 2 ^ 8000 := Int.lt_of_le_of_lt (show ((k : Int) + 1) ≤ 3000 by omega) (by decide +kernel)
    have eL : (tbAt is (k + 1)).lo = if ltN (tbAt is k).lo (lowD ((tbAt is k).s + is.getD k 0) (k + 1)) = true then lowD ((tbAt is k).s + is.getD k 0) (k + 1) else (tbAt is k).lo := rfl
    have eH : (tbAt is (k + 1)).hi = if ltN (lowD ((tbAt is k).s + is.getD k 0 + 1) (k + 1)) (tbAt is k).hi = true then lowD ((tbAt is k).s + is.getD k 0 + 1) (k + 1) else (tbAt is k).hi := rfl
    rw [eg] at b1 b2 eL eH
    refine ⟨_, seq_tup, rfl, _, _, rfl, _, _, rfl, rfl, ?_⟩
    refine ds_set (.add (.var rfl) (.var rfl)) ?_
    refine ds_par (.low (.var rfl) (.add (.var rfl) .c) p p2) (.low (.add (.var rfl) .c) (.add (.var rfl) .c) p p2) ?_
    have dL : dueL is (k + 1) = (tbAt is (k + 1)).lo := if_neg (Nat.succ_ne_zero k)
    have dH : dueH is (k + 1) = (tbAt is (k + 1)).hi := if_neg (Nat.succ_ne_zero k)
    have es : (tbAt is (k + 1)).s = (tbAt is k).s + is[k] := by
      show (tbAt is k).s + is.getD k 0 = _
      rw [eg]
    by_cases h0 : k = 0
    · subst h0
      have s0 : (tbAt is 0).s = 0 := rfl
      have i0 : is[0] = l0 := by rw [← eg]; exact hg0
      have z1 : lowD ((tbAt is 0).s + is[0]) ((0 : Nat) + 1) = .int l0 := by
        rw [s0, i0]
        show lowD (0 + l0) (0 + 1) = _
        rw [Int.zero_add, show (0 : Int) + 1 = 1 by decide, low_one]
      have z2 : lowD ((tbAt is 0).s + is[0] + 1) ((0 : Nat) + 1) = .int (l0 + 1) := by
        rw [s0, i0]
        show lowD (0 + l0 + 1) (0 + 1) = _
        rw [Int.zero_add, show (0 : Int) + 1 = 1 by decide, low_one]
      have t1 : (tbAt is 1).lo = lowD ((tbAt is 0).s + is[0]) ((0 : Nat) + 1) := by
        rw [eL]
        have : (tbAt is 0).lo = lowD ((tbAt is 0).s + is[0]) ((0 : Nat) + 1) := by
          rw [z1]
          show D.int (is.headD 0) = _
          rw [hl0]
        rw [this]
        exact ite_self _
      have t2 : (tbAt is 1).hi = lowD ((tbAt is 0).s + is[0] + 1) ((0 : Nat) + 1) := by
        rw [eH]
        have : (tbAt is 0).hi = lowD ((tbAt is 0).s + is[0] + 1) ((0 : Nat) + 1) := by
          rw [z2]
          show D.int (is.headD 0 + 1) = _
          rw [hl0]
        rw [this]
        exact ite_self _
      refine ds_set (x := dueL is 1) (.ifT (.orT (.tst (.isN (x := .non) (.var rfl)))) ((Ev.var rfl).cast (by rw [dL, t1]))) ?_
      refine ds_set (x := dueH is 1) (.ifT (.orT (.tst (.isN (x := .non) (.var rfl)))) ((Ev.var rfl).cast (by rw [dH, t2]))) ?_
      refine hN _ _ ⟨rfl, 0 + 1, lk, er2, some (.int (0 : Nat)), some (.int is[0]), some (lowD ((tbAt is 0).s + is[0]) ((0 : Nat) + 1)), some (lowD ((tbAt is 0).s + is[0] + 1) ((0 : Nat) + 1)), ?_⟩
      rw [es]
      rfl
    · have kL : dueL is k = (tbAt is k).lo := if_neg h0
      have kH : dueH is k = (tbAt is k).hi := if_neg h0
      rw [kL, kH]
      refine ds_set (x := dueL is (k + 1)) (.chosen (.orF (.tst ((Ev.isN (.var rfl)).cast (by rw [num_notN ok.nl]))) (.tst (.below (.var rfl) (.var rfl) ok.nl (low_isnum p) ok.bl b1))) (fun e => ?_) fun e => ?_) ?_
      · rw [dL, eL, if_pos e]
        exact .var rfl
      · rw [dL, eL, if_neg (by rw [e]; decide)]
        exact .var rfl
      refine ds_set (x := dueH is (k + 1)) (.chosen (.orF (.tst ((Ev.isN (.var rfl)).cast (by rw [num_notN ok.nh]))) (.tst (.below (.var rfl) (.var rfl) (low_isnum p) ok.nh b2 ok.bh))) (fun e => ?_) fun e => ?_) ?_
      · rw [dH, eH, if_pos e]
        exact .var rfl
      · rw [dH, eH, if_neg (by rw [e]; decide)]
        exact .var rfl
      refine hN _ _ ⟨rfl, k + 1, lk, er2, some (.int k), some (.int is[k]), some (lowD ((tbAt is k).s + is[k]) (k + 1)), some (lowD ((tbAt is k).s + is[k] + 1) (k + 1)), ?_⟩
      rw [es]
      rfl
  · rintro ρ G1 ⟨rfl, k, hk, er, o4, o5, o6, o7, rfl⟩
    have kl : k = is.length := by
      have := congrArg List.length er
      rw [List.length_nil, List.length_drop, enum_len, List.length_map] at this
      omega
    subst kl
    have ok := tb_ok hm is.length l2
    have kL : dueL is is.length = (tbAt is is.length).lo := if_neg (by omega)
    have kH : dueH is is.length = (tbAt is is.length).hi := if_neg (by omega)
    rw [kL, kH]
    refine ds_ret (x := tellD is) (.chosen (.tst (.below (.var rfl) (.var rfl) ok.nl ok.nh ok.bl ok.bh)) (fun e => ?_) fun e => ?_) h
    · unfold tellD
      rw [if_pos e]
      exact .tup (.cons (.var rfl) (.one (.var rfl))) (show 2 ≤ sizeLine by decide)
    · unfold tellD
      rw [if_neg (by rw [e]; decide)]
      exact .c
  · exact ⟨rfl, 0, Nat.zero_le _, rfl, none, none, none, none, rfl⟩
end DL

/-! DL26: data that == tells apart; what is shown; filters, sums. -/
namespace DL
open PySem PySem.Spec PyProof.Rows L2 Evl
mutual
/-- data of which == tells just whether they are the same -/
def D.pln : D → Bool
  | .non => true
  | .int _ => true
  | .str _ => true
  | .tup xs => D.plnL xs
  | .lst xs => D.plnL xs
  | _ => false
def D.plnL : List D → Bool
  | [] => true
  | x :: xs => D.pln x && D.plnL xs
end
mutual
theorem eqv_pln : ∀ (x y : D) (p q : PyData), x.pln = true → y.pln = true → x.py = some p → y.py = some q → (PyData.eqv p q = true ↔ x = y)
  | .non, y, p, q, _, hy, hp, hq => by
    cases y <;> first | (cases hy; done) | (cases hp; cases hq; simp [PyData.eqv]; done) | (cases hp; simp only [D.py, Option.map_eq_some_iff] at hq; obtain ⟨_, _, rfl⟩ := hq; simp [PyData.eqv])
  | .int i, y, p, q, _, hy, hp, hq => by
    cases y <;> first | (cases hy; done) | (cases hp; cases hq; simp [PyData.eqv]; done) | (cases hp; simp only [D.py, Option.map_eq_some_iff] at hq; obtain ⟨_, _, rfl⟩ := hq; simp [PyData.eqv])
  | .str i, y, p, q, _, hy, hp, hq => by
    cases y <;> first | (cases hy; done) | (cases hp; cases hq; simp [PyData.eqv]; done) | (cases hp; simp only [D.py, Option.map_eq_some_iff] at hq; obtain ⟨_, _, rfl⟩ := hq; simp [PyData.eqv])
  | .tup xs, y, p, q, hx, hy, hp, hq => by
    simp only [D.py, Option.map_eq_some_iff] at hp
    obtain ⟨ps, hps, rfl⟩ := hp
    cases y with
    | tup ys =>
      simp only [D.py, Option.map_eq_some_iff] at hq
      obtain ⟨qs, hqs, rfl⟩ := hq
      have := eqv_plnL xs ys ps qs hx hy hps hqs
      simp only [PyData.eqv, this, D.tup.injEq]
    | lst ys =>
      simp only [D.py, Option.map_eq_some_iff] at hq
      obtain ⟨qs, hqs, rfl⟩ := hq
      simp [PyData.eqv]
    | _ => first | (cases hy; done) | (cases hq; simp [PyData.eqv])
  | .lst xs, y, p, q, hx, hy, hp, hq => by
    simp only [D.py, Option.map_eq_some_iff] at hp
    obtain ⟨ps, hps, rfl⟩ := hp
    cases y with
    | lst ys =>
      simp only [D.py, Option.map_eq_some_iff] at hq
      obtain ⟨qs, hqs, rfl⟩ := hq
      have := eqv_plnL xs ys ps qs hx hy hps hqs
      simp only [PyData.eqv, this, D.lst.injEq]
    | tup ys =>
      simp only [D.py, Option.map_eq_some_iff] at hq
      obtain ⟨qs, hqs, rfl⟩ := hq
      simp [PyData.eqv]
    | _ => first | (cases hy; done) | (cases hq; simp [PyData.eqv])
  | .bl _, _, _, _, hx, _, _, _ => by cases hx
  | .ty _, _, _, _, hx, _, _, _ => by cases hx
  | .ref _, _, _, _, hx, _, _, _ => by cases hx
  | .dct _ _, _, _, _, hx, _, _, _ => by cases hx
  | .ins _ _ _, _, _, _, hx, _, _, _ => by cases hx
theorem eqv_plnL : ∀ (xs ys : List D) (ps qs : List PyData), D.plnL xs = true → D.plnL ys = true → D.pyL xs = some ps → D.pyL ys = some qs → (PyData.eqvAll ps qs = true ↔ xs = ys)
  | [], [], ps, qs, _, _, hp, hq => by
    cases hp
    cases hq
    simp [PyData.eqvAll]
  | [], y :: ys, ps, qs, _, hy, hp, hq => by
    cases hp
    cases h : D.py y with
    | none => simp only [D.pyL, h] at hq; cases hq
    | some u =>
      cases h2 : D.pyL ys with
      | none => simp only [D.pyL, h, h2] at hq; cases hq
      | some us =>
        simp only [D.pyL, h, h2, Option.some.injEq] at hq
        subst hq
        simp [PyData.eqvAll]
  | x :: xs, [], ps, qs, _, hy, hp, hq => by
    cases hq
    cases h : D.py x with
    | none => simp only [D.pyL, h] at hp; cases hp
    | some u =>
      cases h2 : D.pyL xs with
      | none => simp only [D.pyL, h, h2] at hp; cases hp
      | some us =>
        simp only [D.pyL, h, h2, Option.some.injEq] at hp
        subst hp
        simp [PyData.eqvAll]
  | x :: xs, y :: ys, ps, qs, hx, hy, hp, hq => by
    have hx2 : (x.pln && D.plnL xs) = true := hx
    have hy2 : (y.pln && D.plnL ys) = true := hy
    rw [Bool.and_eq_true] at hx2 hy2
    cases h : D.py x with
    | none => simp only [D.pyL, h] at hp; cases hp
    | some u =>
      cases h2 : D.pyL xs with
      | none => simp only [D.pyL, h, h2] at hp; cases hp
      | some us =>
        cases h3 : D.py y with
        | none => simp only [D.pyL, h3] at hq; cases hq
        | some v =>
          cases h4 : D.pyL ys with
          | none => simp only [D.pyL, h3, h4] at hq; cases hq
          | some vs =>
            simp only [D.pyL, h, h2, Option.some.injEq] at hp
            simp only [D.pyL, h3, h4, Option.some.injEq] at hq
            subst hp hq
            have e1 := eqv_pln x y u v hx2.1 hy2.1 h h3
            have e2 := eqv_plnL xs ys us vs hx2.2 hy2.2 h2 h4
            simp only [PyData.eqvAll, Bool.and_eq_true, e1, e2, List.cons.injEq]
end
mutual
theorem py_pln : ∀ x : D, x.pln = true → ∃ p, x.py = some p
  | .non, _ => ⟨_, rfl⟩
  | .int _, _ => ⟨_, rfl⟩
  | .str _, _ => ⟨_, rfl⟩
  | .tup xs, h => by
    obtain ⟨ps, e⟩ := py_plnL xs h
    exact ⟨.tuple ps, by simp only [D.py, e, Option.map_some]⟩
  | .lst xs, h => by
    obtain ⟨ps, e⟩ := py_plnL xs h
    exact ⟨.list ps, by simp only [D.py, e, Option.map_some]⟩
  | .bl _, h => by cases h
  | .ty _, h => by cases h
  | .ref _, h => by cases h
  | .dct _ _, h => by cases h
  | .ins _ _ _, h => by cases h
theorem py_plnL : ∀ xs : List D, D.plnL xs = true → ∃ ps, D.pyL xs = some ps
  | [], _ => ⟨[], rfl⟩
  | x :: xs, h => by
    have h2 : (x.pln && D.plnL xs) = true := h
    rw [Bool.and_eq_true] at h2
    obtain ⟨p, e⟩ := py_pln x h2.1
    obtain ⟨ps, es⟩ := py_plnL xs h2.2
    exact ⟨p :: ps, by simp only [D.pyL, e, es]⟩
end
theorem eqv_iff {x y : D} (hx : x.pln = true) (hy : y.pln = true) : D.eqv x y = true ↔ x = y := by
  obtain ⟨p, hp⟩ := py_pln x hx
  obtain ⟨q, hq⟩ := py_pln y hy
  rw [eqv_of hp hq]
  exact eqv_pln x y p q hx hy hp hq
theorem eqv_dec {x y : D} (hx : x.pln = true) (hy : y.pln = true) {k : Prop} [Decidable k] (h : x = y ↔ k) : D.eqv x y = decide k := by
  by_cases z : k
  · rw [decide_eq_true z]
    exact (eqv_iff hx hy).mpr (h.mpr z)
  · rw [decide_eq_false z]
    exact Bool.eq_false_iff.mpr fun e => z (h.mp ((eqv_iff hx hy).mp e))
theorem pln_ints (is : List Int) : D.plnL (is.map D.int) = true := by
  induction is with
  | nil => rfl
  | cons i is ih => exact ih
theorem plnL_all : ∀ {xs : List D}, (∀ x ∈ xs, x.pln = true) → D.plnL xs = true
  | [], _ => rfl
  | x :: xs, h => by
    show (x.pln && D.plnL xs) = true
    rw [h x List.mem_cons_self, plnL_all fun y hy => h y (List.mem_cons_of_mem _ hy)]
    rfl

/-! ### what is shown, by its items -/
theorem fitL_all : ∀ {xs : List D}, (∀ x ∈ xs, x.fit = true) → D.fitL xs = true
  | [], _ => rfl
  | x :: xs, h => by
    show (x.fit && D.fitL xs) = true
    rw [h x List.mem_cons_self, fitL_all fun y hy => h y (List.mem_cons_of_mem _ hy)]
    rfl
theorem layL_all : ∀ {xs : List D}, (∀ x ∈ xs, x.lay = true) → D.layL xs = true
  | [], _ => rfl
  | x :: xs, h => by
    show (x.lay && D.layL xs) = true
    rw [h x List.mem_cons_self, layL_all fun y hy => h y (List.mem_cons_of_mem _ hy)]
    rfl
theorem dpL_all {k : Nat} : ∀ {xs : List D}, (∀ x ∈ xs, x.dp ≤ k) → D.dpL xs ≤ k
  | [], _ => Nat.zero_le _
  | x :: xs, h => Nat.max_le.mpr ⟨h x List.mem_cons_self, dpL_all fun y hy => h y (List.mem_cons_of_mem _ hy)⟩
theorem szL_all {k : Nat} : ∀ {xs : List D}, (∀ x ∈ xs, x.sz ≤ k) → D.szL xs ≤ xs.length * k
  | [], _ => Nat.zero_le _
  | x :: xs, h => by
    show x.sz + D.szL xs ≤ (xs.length + 1) * k
    have h1 := h x List.mem_cons_self
    have h2 := szL_all fun y hy => h y (List.mem_cons_of_mem x hy)
    rw [Nat.add_mul, Nat.one_mul]
    omega
/-- of depth d, of size s, all of it fit to be shown -/
structure Sm (d s : Nat) (x : D) : Prop where
  fit : x.fit = true
  dp : x.dp ≤ d
  sz : x.sz ≤ s
theorem Sm.int {i : Int} (h : i.natAbs < 10 ^ 560) : Sm 0 1 (.int i) := ⟨decide_eq_true h, Nat.le_refl _, Nat.le_refl _⟩
theorem Sm.non : Sm 0 1 .non := ⟨rfl, Nat.le_refl _, Nat.le_refl _⟩
theorem Sm.bl {b : Bool} : Sm 0 1 (.bl b) := ⟨rfl, Nat.le_refl _, Nat.le_refl _⟩
theorem Sm.str {x : Str} {s : Nat} (h : PyData.strOk x = true) (hz : x.length + 1 ≤ s) : Sm 0 s (.str x) := ⟨h, Nat.le_refl _, hz⟩
theorem Sm.mono {d s d' s' : Nat} {x : D} (h : Sm d s x) (h1 : d ≤ d') (h2 : s ≤ s') : Sm d' s' x := ⟨h.fit, Nat.le_trans h.dp h1, Nat.le_trans h.sz h2⟩
theorem Sm.tup {d s : Nat} {xs : List D} (h : ∀ x ∈ xs, Sm d s x) : Sm (d + 1) (xs.length * s + 1) (.tup xs) := ⟨fitL_all fun x hx => (h x hx).fit, Nat.succ_le_succ (dpL_all fun x hx => (h x hx).dp), Nat.succ_le_succ (szL_all fun x hx => (h x hx).sz)⟩
theorem Sm.lst {d s : Nat} {xs : List D} (h : ∀ x ∈ xs, Sm d s x) : Sm (d + 1) (xs.length * s + 1) (.lst xs) := ⟨fitL_all fun x hx => (h x hx).fit, Nat.succ_le_succ (dpL_all fun x hx => (h x hx).dp), Nat.succ_le_succ (szL_all fun x hx => (h x hx).sz)⟩
theorem Sm.nilT : Sm 1 1 (.tup []) := ⟨rfl, Nat.le_refl _, Nat.le_refl _⟩
theorem Sm.rep {d s : Nat} {x : D} (h : Sm d s x) (h1 : d ≤ 60 := by decide) (h2 : s ≤ 27000 := by decide) : RepOk x := .inl ⟨h.fit, Nat.le_trans h.dp h1, Nat.le_trans h.sz h2⟩
/-- two of a kind in a list -/
theorem Sm.two {d s : Nat} {x y : D} (h : Sm d s x) (h' : Sm d s y) : Sm (d + 1) (2 * s + 1) (.lst [x, y]) := Sm.lst fun z hz => by
  rcases List.mem_cons.mp hz with e | e
  · rw [e]; exact h
  · rw [List.mem_singleton.mp e]; exact h'
theorem fit_lay {x : D} (h : x.fit = true) : x.lay = true := go x h
where
  go : ∀ x : D, x.fit = true → x.lay = true
  | .non, _ => rfl
  | .bl _, _ => rfl
  | .int _, _ => rfl
  | .str _, h => h
  | .tup xs, h => goL xs h
  | .lst xs, h => goL xs h
  | .ty _, h => by cases h
  | .ref _, h => by cases h
  | .dct _ _, h => by cases h
  | .ins _ _ _, h => by cases h
  goL : ∀ xs : List D, D.fitL xs = true → D.layL xs = true
  | [], _ => rfl
  | x :: xs, h => by
    have h2 : (x.fit && D.fitL xs) = true := h
    rw [Bool.and_eq_true] at h2
    show (x.lay && D.layL xs) = true
    rw [go x h2.1, goL xs h2.2]
    rfl
theorem Sm.cmp {d s : Nat} {x : D} (h : Sm d s x) (h1 : d ≤ 60 := by decide) : Cmp x := ⟨fit_lay h.fit, Nat.le_trans h.dp h1⟩

/-! ### further Ev -/
section
variable {ρ : En} {G : Gm} {da db dc : DE} {dA : DA} {x y z : D} {xs : List D} {ta tb : DT} {j k : Bool}
theorem Ev.chainLt {i u l : Int} (ha : Ev da ρ G (.int i)) (hb : Ev db ρ G (.int u)) (hc : Ev dc ρ G (.int l)) : Ev (dChain (fInt gLt) (fInt gLt) da db dc) ρ G (.bl (decide (i < u) && decide (u < l))) := fun R r => ha _ (hb _ ⟨decide (i < u), ⟨i, u, rfl, rfl, rfl⟩, by
  by_cases h : i < u
  · rw [if_pos (decide_eq_true h)]
    refine hc _ ⟨_, ⟨u, l, rfl, rfl, rfl⟩, ?_⟩
    rw [decide_eq_true h, Bool.true_and] at r
    exact r
  · rw [if_neg (by simpa using h)]
    rw [decide_eq_false h, Bool.false_and] at r
    exact r⟩)
theorem Ev.sum {ns : List Int} (ha : Ev da ρ G (.lst (ns.map D.int))) : Ev (dCal fSum (dCons da dNil)) ρ G (.int ns.sum) := .cal (.one ha) ⟨_, ns, rfl, lst_lst, rfl⟩
/-- == of two data that are neither both ints nor both texts nor both truths -/
theorem Ev.eqP (ha : Ev da ρ G x) (hb : Ev db ρ G y) (hx : Cmp x) (hy : Cmp y) (px : x.pln = true) (py : y.pln = true) (h : ∀ i, x ≠ .int i) (h2 : ∀ i, x ≠ .str i) {p : Prop} [Decidable p] (e : x = y ↔ p) : Ev (dOp fEq da db) ρ G (.bl (decide p)) := .op ha hb (by
  rw [← eqv_dec px py e]
  exact feq_cmp hx hy h h2 fun i q => by subst q; cases px)
theorem Ev.neP (ha : Ev da ρ G x) (hb : Ev db ρ G y) (hx : Cmp x) (hy : Cmp y) (px : x.pln = true) (py : y.pln = true) (h : ∀ i, x ≠ .int i) (h2 : ∀ i, x ≠ .str i) {p : Prop} [Decidable p] (e : x = y ↔ p) : Ev (dOp fNe da db) ρ G (.bl (!decide p)) := .op ha hb (by
  rw [← eqv_dec px py e]
  exact fne_cmp hx hy h h2 fun i q => by subst q; cases px)
theorem Ev.slL {i : Int} (ha : Ev da ρ G (.lst xs)) (hb : Ev db ρ G (.int i)) : Ev (dSl da dNoP (dPart db)) ρ G (.lst (cutD xs none (some i))) := fun R r => ha _ (hb _ ⟨i, rfl, _, .inl ⟨xs, lst_lst, rfl⟩, r⟩)
/-- a slice of a tuple, not the whole of it -/
theorem Ev.slTo {i : Int} (ha : Ev da ρ G (.tup xs)) (hb : Ev db ρ G (.int i)) (h : (xs.length : Int) > i) (h0 : 0 ≤ i) : Ev (dSl da dNoP (dPart db)) ρ G (.tup (xs.take i.toNat)) := fun R r => ha _ (hb _ ⟨i, rfl, _, .inr ⟨xs, rfl, by
  have e1 : HT.sIx xs.length 0 none = 0 := rfl
  have e2 : HT.sIx xs.length xs.length (some i) = i.toNat := by simp only [HT.sIx]; split <;> omega
  unfold cutD
  rw [e1, e2, List.drop_zero, Nat.sub_zero], by
  have e2 : HT.sIx xs.length xs.length (some i) = i.toNat := by simp only [HT.sIx]; split <;> omega
  rw [e2]
  omega⟩, r⟩)
end
/-- a filter over names -/
theorem cmpL_filt {ρ0 : En} {i : Nat} {t : DT} {de : DE} {S : List D → Gm → Prop} {G : Gm} (p : D → Bool) (f : D → D) : ∀ {xs acc : List D}, (∀ x ∈ xs, EvT t (ρ0.set i (some x)) G (p x) ∧ (p x = true → Ev de (ρ0.set i (some x)) G (f x))) → acc.length + xs.length ≤ sizeLine → S (acc ++ (xs.filter p).map f) G → cmpL ρ0 (gN i) t de xs acc G S
  | [], acc, _, _, h => by
    rw [List.filter_nil, List.map_nil, List.append_nil] at h
    exact h
  | x :: xs, acc, hf, hz, h => by
    rw [List.length_cons] at hz
    obtain ⟨h1, h2⟩ := hf x List.mem_cons_self
    refine h1 _ ?_
    by_cases q : p x = true
    · rw [if_pos q]
      rw [List.filter_cons_of_pos q, List.map_cons] at h
      refine h2 q _ ⟨by omega, cmpL_filt p f (fun y hy => hf y (List.mem_cons_of_mem _ hy)) (by rw [List.length_append, List.length_singleton]; omega) ?_⟩
      rw [List.append_assoc, List.singleton_append]
      exact h
    · rw [if_neg q]
      rw [List.filter_cons_of_neg q] at h
      exact cmpL_filt p f (fun y hy => hf y (List.mem_cons_of_mem _ hy)) (by omega) h
theorem Ev.lcFilt {ρ : En} {G : Gm} {da db : DE} {t : DT} {x : D} {i : Nat} {vs : List Nat} {xs : List D} (p : D → Bool) (f : D → D) (ha : Ev da ρ G x) (hx : x = .lst xs ∨ x = .tup xs) (hf : ∀ y ∈ xs, EvT t ((wipeD ρ vs).set i (some y)) G (p y) ∧ (p y = true → Ev db ((wipeD ρ vs).set i (some y)) G (f y))) (hz : xs.length ≤ sizeLine) :
    Ev (dCmp (dISeq da) (gN i) t db vs) ρ G (.lst ((xs.filter p).map f)) := fun R r => ha _ ⟨xs, hx, cmpL_filt p f hf (by rw [List.length_nil]; omega) (by rw [List.nil_append]; exact r)⟩
theorem Ev.lcFiltR {ρ : En} {G : Gm} {da db dc : DE} {t : DT} {i : Nat} {vs : List Nat} {a b : Int} (p : D → Bool) (f : D → D) (ha : Ev da ρ G (.int a)) (hb : Ev db ρ G (.int b)) (h1 : -(2 ^ 62) ≤ a ∧ a < 2 ^ 62) (h2 : -(2 ^ 62) ≤ b ∧ b < 2 ^ 62) (hf : ∀ y ∈ rngD a (b - a).toNat, EvT t ((wipeD ρ vs).set i (some y)) G (p y) ∧ (p y = true → Ev dc ((wipeD ρ vs).set i (some y)) G (f y))) (hz : (b - a).toNat ≤ sizeLine) :
    Ev (dCmp (dIRng2 da db) (gN i) t dc vs) ρ G (.lst (((rngD a (b - a).toNat).filter p).map f)) := fun R r => ha _ (hb _ ⟨a, b, rfl, rfl, ⟨h1.1, h1.2, h2.1, h2.2⟩, cmpL_filt p f hf (by rw [List.length_nil]; unfold rngD; rw [List.length_map, List.length_range]; omega) (by rw [List.nil_append]; exact r)⟩)
end DL

/-! DL27: what is of no great size, found by itself. -/
namespace DL
open PySem PySem.Spec PyProof.Rows L2 Evl
class Bd (i : Int) (k : outParam Nat) : Prop where
  h : i.natAbs < 2 ^ k
class Ps (i : Int) : Prop where
  h : 0 < i
section
variable {i j : Int} {a b : Nat}
theorem two_le (k l : Nat) : 2 ^ k ≤ 2 ^ (max k l) ∧ 2 ^ l ≤ 2 ^ (max k l) := ⟨Nat.pow_le_pow_right (by decide) (Nat.le_max_left k l), Nat.pow_le_pow_right (by decide) (Nat.le_max_right k l)⟩
instance bd_lit {n : Nat} : Bd (no_index (@OfNat.ofNat Int n instOfNat)) (n.log2 + 1) := ⟨by
  show (Int.natAbs (n : Int)) < _
  rw [Int.natAbs_natCast]
  exact Nat.lt_log2_self⟩
instance bd_add [x : Bd i a] [y : Bd j b] : Bd (i + j) (max a b + 1) := ⟨by
  have h1 := x.h
  have h2 := y.h
  have h3 := two_le a b
  rw [Nat.pow_succ]
  omega⟩
instance bd_sub [x : Bd i a] [y : Bd j b] : Bd (i - j) (max a b + 1) := ⟨by
  have h1 := x.h
  have h2 := y.h
  have h3 := two_le a b
  rw [Nat.pow_succ]
  omega⟩
instance bd_neg [x : Bd i a] : Bd (-i) a := ⟨by rw [Int.natAbs_neg]; exact x.h⟩
instance bd_mul [x : Bd i a] [y : Bd j b] : Bd (i * j) (a + b) := ⟨by
  rw [Int.natAbs_mul]
  exact nat_mul_lt x.h y.h⟩
instance bd_div [x : Bd i a] : Bd (i / j) a := ⟨Nat.lt_of_le_of_lt (Int.natAbs_ediv_le_natAbs i j) x.h⟩
instance bd_pow {n : Nat} [x : Bd i a] : Bd (i ^ n) (a * n + 1) := ⟨by
  have h1 : (i ^ n).natAbs ≤ (2 ^ a) ^ n := by
    rw [Int.natAbs_pow]
    exact Nat.pow_le_pow_left (Nat.le_of_lt x.h) n
  rw [Nat.pow_succ, Nat.pow_mul]
  have h2 : 0 < (2 ^ a) ^ n := Nat.pow_pos (Nat.pow_pos (by decide))
  omega⟩
theorem mul_bd [x : Bd i a] [y : Bd j b] (h : a + b ≤ 134217728 := by first | decide | decide +kernel | omega) : IntMulOk i j := mul_both x.h y.h h
theorem div_bd [x : Bd j b] (p : 0 < j) (h : b ≤ 8000 := by first | decide | decide +kernel | omega) : CDivW i j := div_ok (by omega) (Int.lt_of_lt_of_le (abs_lt x.h) (by
  have : (2 : Int) ^ b ≤ 2 ^ 8000 := by
    have z : (2 : Nat) ^ b ≤ 2 ^ 8000 := Nat.pow_le_pow_right (by decide) h
    exact_mod_cast z
  exact this))
theorem pow_bd [x : Bd i a] (h0 : 0 ≤ j) (h : (a : Int) * j ≤ 2 ^ 27) : CPw i j := pow_ok x.h h0 h
theorem Bd.le [x : Bd i a] {k : Nat} (h : a ≤ k := by first | decide | decide +kernel | omega) : i.natAbs < 2 ^ k := Nat.lt_of_lt_of_le x.h (Nat.pow_le_pow_right (by decide) h)
end
example {v w : Int} (h1 : Bd v 110) (h2 : Bd w 200) : IntMulOk ((v + 3 * w) * v) (2 * v + 1) := mul_bd
example {v w : Int} (h1 : Bd v 110) (h2 : Bd w 200) (h : 0 < v) : CDivW (v * w) (2 * v) := div_bd (by omega)
end DL

open PySem PySem.Spec PyProof.Rows L2 Evl DL
local macro_rules | `(tactic| walk_at "side") => `(tactic| first | exact mul_left (by decide) | exact mul_right (by decide) | exact mul_bd | exact div_bd (by first | assumption | decide | omega) | exact pow_bd (by first | decide | omega) (by first | decide | omega) | assumption | (show (0 : Int) < _; first | decide | omega))
local macro_rules | `(tactic| walk_at "eva") => `(tactic| first | exact DL.EvA.nil | (refine' DL.EvA.cons ?e ?r; (case' e => walk_at "ev"); (case' r => walk_at "eva")))
local macro_rules | `(tactic| walk_at "seq") => `(tactic| first | exact seq_tup | exact seq_lst | exact seq_ref (by assumption))
local macro_rules | `(tactic| walk_at "size") => `(tactic| first | (show _ ≤ sizeLine; simp only [List.length_cons, List.length_nil]; decide) | (rw [sizeLine_eq]; omega))
local macro_rules | `(tactic| walk_at "ev") => `(tactic| first
  | exact DL.Ev.c
  | exact DL.Ev.var rfl
  | (refine' DL.Ev.int ?a ?b; (case' a => walk_at "ev"); (case' b => walk_at "ev"))
  | (refine' DL.Ev.intC ?a ?b ?s; (case' a => walk_at "ev"); (case' b => walk_at "ev"); (case' s => try walk_at "side"))
  | (refine' DL.Ev.add ?a ?b; (case' a => walk_at "ev"); (case' b => walk_at "ev"))
  | (refine' DL.Ev.neg ?a; (case' a => walk_at "ev"))
  | (refine' DL.Ev.intOf ?a; (case' a => walk_at "ev"))
  | (refine' DL.Ev.intB ?a; (case' a => walk_at "ev"))
  | (refine' DL.Ev.absN ?a; (case' a => walk_at "ev"))
  | (refine' DL.Ev.eqI ?a ?b; (case' a => walk_at "ev"); (case' b => walk_at "ev"))
  | (refine' DL.Ev.neI ?a ?b; (case' a => walk_at "ev"); (case' b => walk_at "ev"))
  | (refine' DL.Ev.at ?a ?b ?s ?k; (case' a => walk_at "ev"); (case' b => walk_at "ev"); (case' s => walk_at "seq"); (case' k => try rfl))
  | (refine' DL.Ev.len ?a ?s; (case' a => walk_at "ev"); (case' s => walk_at "seq"))
  | (refine' DL.Ev.tupOf ?a ?s; (case' a => walk_at "ev"); (case' s => walk_at "seq"))
  | (refine' DL.Ev.tup ?a ?z; (case' a => walk_at "eva"); (case' z => try walk_at "size"))
  | (refine' DL.Ev.lst ?a ?z; (case' a => walk_at "eva"); (case' z => try walk_at "size"))
  | (refine' DL.Ev.notV ?a; (case' a => walk_at "ev"))
  | (refine' DL.Ev.isN ?a; (case' a => walk_at "ev"))
  | assumption)
local macro_rules | `(tactic| walk_at "set") => `(tactic| (refine' ds_set ?e ?_; (case' e => walk_at "ev")))
local macro_rules | `(tactic| walk_at "ret") => `(tactic| (refine' ds_ret ?e ?_; (case' e => walk_at "ev")))
local macro_rules | `(tactic| walk_at "par") => `(tactic| (refine' ds_par ?e ?f ?_; (case' e => walk_at "ev"); (case' f => walk_at "ev")))
namespace Lw
open PySem PySem.Spec PyProof.Rows L2 Evl DL
/-! the text by places -/
def top (i : Nat) : Stmt := PySem.Challenge.pw_timesfloor_k15_sums_and_what_comes_again.main.body.getD i (.Pass ⟨0, 0, 0, 0⟩)
abbrev st_is_integer : Stmt := top 5
abbrev st_is_within : Stmt := top 6
abbrev st_is_list : Stmt := top 7
abbrev st_need_number : Stmt := top 8
abbrev st_halves : Stmt := top 11
abbrev st_common : Stmt := top 12
abbrev st_lowest_in : Stmt := top 13
abbrev st_times_in : Stmt := top 14
abbrev st_whole_in : Stmt := top 15
abbrev st_least_in : Stmt := top 16
abbrev st_is_number : Stmt := top 17
abbrev st_kept_number : Stmt := top 18
abbrev st_need_point : Stmt := top 19
abbrev st_need_some_point : Stmt := top 23
abbrev st_wholes_in : Stmt := top 24
abbrev st_gone : Stmt := top 25
abbrev st_labels_in : Stmt := top 26
abbrev st_labels_of : Stmt := top 27
abbrev st_sum_of : Stmt := top 28
abbrev st_comes_again : Stmt := top 29
abbrev st__law_abacus : Stmt := top 31
abbrev st__law_slide : Stmt := top 32
abbrev st__law_one : Stmt := top 33
abbrev st__law_factor : Stmt := top 34
abbrev st__law_number : Stmt := top 35
abbrev st__law_sum : Stmt := top 36
abbrev st__law_sums_right : Stmt := top 37
abbrev st__law_rounds_right : Stmt := top 38
abbrev st__law_great_right : Stmt := top 39
abbrev st_law : Stmt := top 40
structure Tx (mg : Str → Option Value) : Prop where
  f_abs : mg "abs" = none
  f_all : mg "all" = none
  f_bool : mg "bool" = none
  f_int : mg "int" = none
  f_isinstance : mg "isinstance" = none
  f_len : mg "len" = none
  f_list : mg "list" = none
  f_range : mg "range" = none
  f_repr : mg "repr" = none
  f_sum : mg "sum" = none
  f_tuple : mg "tuple" = none
  f_zip : mg "zip" = none
  c_LEAST_UNDER : ∃ t, mg "LEAST_UNDER" = some (.int 2 t)
  c_MOST_LABELS : ∃ t, mg "MOST_LABELS" = some (.int 2000 t)
  c_MOST_WIDE : ∃ t, mg "MOST_WIDE" = some (.int 2 t)

theorem tm_ok {n : Nat} (k : Nat) (h : n < 2 ^ k) (l : k ≤ 2900 := by decide) : n < 2 ^ 2900 := Nat.lt_of_lt_of_le h (Nat.pow_le_pow_right (by decide) l)
theorem pw6 : CPw 10 6 := pow_ok (n := 4) (by decide) (by decide) (by decide)
theorem pw9 : CPw 10 9 := pow_ok (n := 4) (by decide) (by decide) (by decide)
theorem pw12 : CPw 10 12 := pow_ok (n := 4) (by decide) (by decide) (by decide)
theorem pw30 : CPw 10 30 := pow_ok (n := 4) (by decide) (by decide) (by decide)
theorem pw40 : CPw 10 40 := pow_ok (n := 4) (by decide) (by decide) (by decide)
/-- an int from 1 to N -/
def Up (N : Int) (x : D) : Prop := ∃ n, x = .int n ∧ 1 ≤ n ∧ n ≤ N
theorem up_c {ρ : En} {a : Addr} {N i : Int} (h : 1 ≤ i) (h' : i ≤ N) : Drw (dC (.int i)) ρ a 0 (Up N) := .ev (fun _ => .c) ⟨i, rfl, h, h'⟩
theorem up_p {ρ : En} {a : Addr} {N k : Int} (h : CPw 10 k) (h' : 1 ≤ (10 : Int) ^ k.toNat ∧ (10 : Int) ^ k.toNat ≤ N) : Drw (dOp (fIntC CPw fun i j => .int (i ^ j.toNat)) (dC (.int 10)) (dC (.int k))) ρ a 0 (Up N) := .ev (fun _ => .pow .c .c h) ⟨_, rfl, h'.1, h'.2⟩
abbrev spRight : DSp := fun xs G R _ => ∃ a T, xs = [.ref a] ∧ GauAt G a T ∧ T ≤ 10000000 ∧ ∀ m, Gau m (T + 500) → R (.bl true) (gup G a m)
/-- a pair in lowest terms, the under at most N -/
def Pr (N : Int) (q : D) : Prop := ∃ a b : Int, q = .tup [.int a, .int b] ∧ 0 < b ∧ b ≤ N ∧ Int.gcd a b = 1 ∧ a.natAbs < 2 ^ 110
theorem ten110 : (10 : Int) ^ 30 < 2 ^ 110 := by decide
/-- how it is told -/
def pt (q : D) : D := match q with
  | .tup [.int a, .int b] => if b = 1 then .int a else .tup [.int a, .int b]
  | q => q
def pt2 (q : D) : D := match q with
  | .tup [.int a, .int b] => if b = 1 then .int a else .lst [.int a, .int b]
  | q => q
theorem pr_pt {N : Int} {q : D} (h : Pr N q) (hN : N ≤ 10 ^ 30) : (numD (pt q) = true ∧ Bn 110 (pt q)) ∧ (numD (pt2 q) = true ∧ Bn 110 (pt2 q)) ∧ numI (pt q) = numI q ∧ numI (pt2 q) = numI q := by
  obtain ⟨a, b, rfl, h0, hb, hg, ha⟩ := h
  have l := ten110
  have hb2 : b.natAbs < 2 ^ 110 := by omega
  have r : ∀ c : Int, 2 ≤ c → Int.gcd a c = 1 → ratD (pairD [.int a, .int c]) = true := fun c h1 h2 => by
    show (decide (2 ≤ c) && decide (Int.gcd a c = 1)) = true
    rw [decide_eq_true h1, decide_eq_true h2]
    rfl
  unfold pt pt2
  by_cases z : b = 1
  · subst z
    exact ⟨⟨rfl, ha, show (1 : Int).natAbs < 2 ^ 110 by decide⟩, ⟨rfl, ha, show (1 : Int).natAbs < 2 ^ 110 by decide⟩, rfl, rfl⟩
  · have e1 : (if b = 1 then D.int a else .tup [.int a, .int b]) = .tup [.int a, .int b] := if_neg z
    have e2 : (if b = 1 then D.int a else .lst [.int a, .int b]) = .lst [.int a, .int b] := if_neg z
    simp only [e1, e2]
    refine ⟨⟨r b (by omega) hg, ha, hb2⟩, ⟨r b (by omega) hg, ha, hb2⟩, ?_⟩
    first | trivial | exact ⟨rfl, rfl⟩
theorem ev_pt {N : Int} {ρ : En} {G : Gm} {i : Nat} {q : D} (h : ρ[i]? = some (some q)) (hq : Pr N q) : Ev (dIf (dTst (dOp fEq (dIx (dVar i) (dC (.int 1))) (dC (.int 1)))) (dIx (dVar i) (dC (.int 0))) (dVar i)) ρ G (pt q) := by
  obtain ⟨a, b, rfl, h0, hb, hg, ha⟩ := hq
  refine .chosen (.tst (.eqI (.at (.var h) .c seq_tup rfl) .c)) (fun hk => ?_) fun hk => ?_
  · unfold pt
    simp only [of_decide_eq_true hk, if_true]
    exact .at (.var h) .c seq_tup rfl
  · unfold pt
    simp only [of_decide_eq_false hk, if_false]
    exact .var h
theorem ev_pt2 {N : Int} {ρ : En} {G : Gm} {i : Nat} {q : D} (h : ρ[i]? = some (some q)) (hq : Pr N q) : Ev (dIf (dTst (dOp fEq (dIx (dVar i) (dC (.int 1))) (dC (.int 1)))) (dIx (dVar i) (dC (.int 0))) (dLst (dCons (dIx (dVar i) (dC (.int 0))) (dCons (dIx (dVar i) (dC (.int 1))) dNil)))) ρ G (pt2 q) := by
  obtain ⟨a, b, rfl, h0, hb, hg, ha⟩ := hq
  refine .chosen (.tst (.eqI (.at (.var h) .c seq_tup rfl) .c)) (fun hk => ?_) fun hk => ?_
  · unfold pt2
    simp only [of_decide_eq_true hk, if_true]
    exact .at (.var h) .c seq_tup rfl
  · unfold pt2
    simp only [of_decide_eq_false hk, if_false]
    exact .lst (.cons (.at (.var h) .c seq_tup rfl) (.one (.at (.var h) .c seq_tup rfl))) (show 2 ≤ sizeLine by decide)
/-- the sum of n labels from f on -/
def sumP (f n : Int) (q : D) : Int := match q with
  | .tup [.int a, .int b] => (f + n - 1) * a / b - (f - 1) * a / b
  | _ => 0
def sm (f n : Int) (d : D) : Int := wh d (f + n - 1) - wh d (f - 1)
theorem sum_pt {N : Int} {f n : Int} {q x : D} (h : Pr N q) (e : numI x = numI q) : sumP f n q = sm f n x := by
  obtain ⟨a, b, rfl, _⟩ := h
  unfold sm wh
  rw [e]
  show (f + n - 1) * a / b - (f - 1) * a / b = a * (f + n - 1) / b - a * (f - 1) / b
  rw [Int.mul_comm (f + n - 1), Int.mul_comm (f - 1)]
theorem sums_map {N : Int} {g : D → D} {f n : Int} {qs : List D} (h : ∀ q ∈ qs, Pr N q) (e : ∀ q, Pr N q → numI (g q) = numI q) : (qs.map fun q => D.int (sumP f n q)) = (sums (qs.map g) f n).map D.int := by
  unfold sums
  rw [List.map_map, List.map_map]
  exact List.map_congr_left fun q hq => congrArg D.int (sum_pt (h q hq) (e q (h q hq)))
theorem tele (d : D) (f : Int) : ∀ n : Nat, ((List.range n).map fun i : Nat => lab d (f + i)).sum = sm f n d
  | 0 => by
    show (0 : Int) = wh d (f + 0 - 1) - wh d (f - 1)
    rw [Int.add_zero, Int.sub_self]
  | n + 1 => by
    rw [List.range_succ, List.map_append, List.sum_append, tele d f n]
    show sm f n d + (lab d (f + n) + 0) = sm f ((n + 1 : Nat) : Int) d
    unfold sm lab
    have e1 : f + ((n + 1 : Nat) : Int) - 1 = f + n := by omega
    rw [e1]
    omega
theorem at_map {α : Type} {ds : List D} (g : D → α) (z : α) : ((List.range ds.length).map fun i => ((ds[i]?).map g).getD z) = ds.map g := by
  apply List.ext_getElem
  · simp
  · intro i h1 h2
    simp at h1
    simp [h1]
theorem sum_near {a b p q : Int} (hb : 0 < b) : -b < (p * a / b - q * a / b) * b - (p - q) * a ∧ (p * a / b - q * a / b) * b - (p - q) * a < b := by
  have h1 := Int.mul_ediv_add_emod (p * a) b
  have h2 := Int.mul_ediv_add_emod (q * a) b
  have h3 := Int.emod_nonneg (p * a) (show b ≠ 0 by omega)
  have h4 := Int.emod_lt_of_pos (p * a) hb
  have h5 := Int.emod_nonneg (q * a) (show b ≠ 0 by omega)
  have h6 := Int.emod_lt_of_pos (q * a) hb
  generalize p * a / b = x at *
  generalize q * a / b = y at *
  have e : (x - y) * b - (p - q) * a = b * x - b * y - (p * a - q * a) := by grind
  rw [e]
  omega
theorem sum_just {a b c f : Int} (hb : 0 < b) : ((f + b * c - 1) * a / b - (f - 1) * a / b) = c * a := by
  have e : (f + b * c - 1) * a = (f - 1) * a + b * (c * a) := by grind
  rw [e, Int.add_mul_ediv_left _ _ (by omega)]
  omega
/-! the least common under -/
def den (q : D) : Nat := (numI q).2.toNat
def lcmL (m : Nat) (qs : List D) : Nat := qs.foldl (fun m q => Nat.lcm m (den q)) m
theorem lcm_le {m n : Nat} : Nat.lcm m n ≤ m * n := Nat.div_le_self _ _
theorem lcmL_pos : ∀ {qs : List D} {m : Nat}, 0 < m → (∀ q ∈ qs, 0 < den q) → 0 < lcmL m qs
  | [], _, h, _ => h
  | q :: qs, m, h, hq => lcmL_pos (qs := qs) (Nat.lcm_pos h (hq q List.mem_cons_self)) fun r hr => hq r (List.mem_cons_of_mem _ hr)
theorem lcmL_dvd0 : ∀ {qs : List D} {m : Nat}, m ∣ lcmL m qs
  | [], _ => Nat.dvd_refl _
  | q :: qs, m => Nat.dvd_trans (Nat.dvd_lcm_left m (den q)) (lcmL_dvd0 (qs := qs))
theorem lcmL_dvd : ∀ {qs : List D} {m : Nat} {q : D}, q ∈ qs → den q ∣ lcmL m qs
  | [], _, _, h => nomatch h
  | r :: qs, m, q, h => by
    rcases List.mem_cons.mp h with e | e
    · rw [e]
      exact Nat.dvd_trans (Nat.dvd_lcm_right m (den r)) (lcmL_dvd0 (qs := qs))
    · exact lcmL_dvd (qs := qs) e
theorem lcmL_min {k : Nat} : ∀ {qs : List D} {m : Nat}, m ∣ k → (∀ q ∈ qs, den q ∣ k) → lcmL m qs ∣ k
  | [], _, h, _ => h
  | q :: qs, m, h, hq => lcmL_min (qs := qs) (Nat.lcm_dvd h (hq q List.mem_cons_self)) fun r hr => hq r (List.mem_cons_of_mem _ hr)
theorem lcmL_le {B : Nat} (hB : 1 ≤ B) : ∀ {qs : List D} {m : Nat}, (∀ q ∈ qs, den q ≤ B) → lcmL m qs ≤ m * B ^ qs.length
  | [], m, _ => by
    show m ≤ m * 1
    omega
  | q :: qs, m, h => by
    refine Nat.le_trans (lcmL_le hB (qs := qs) fun r hr => h r (List.mem_cons_of_mem _ hr)) ?_
    rw [List.length_cons, Nat.pow_succ', ← Nat.mul_assoc]
    exact Nat.mul_le_mul_right _ (Nat.le_trans lcm_le (Nat.mul_le_mul_left m (h q List.mem_cons_self)))
theorem lcmL_map {f : D → D} : ∀ {qs : List D} {m : Nat}, (∀ q ∈ qs, numI (f q) = numI q) → lcmL m (qs.map f) = lcmL m qs
  | [], _, _ => rfl
  | q :: qs, m, h => by
    show lcmL (Nat.lcm m (den (f q))) (qs.map f) = lcmL (Nat.lcm m (den q)) qs
    have e : den (f q) = den q := by
      unfold den
      rw [h q List.mem_cons_self]
    rw [e]
    exact lcmL_map fun r hr => h r (List.mem_cons_of_mem _ hr)
theorem lcm_int {m n : Nat} : ((m : Int) * n) / (Int.gcd m n : Int) = (Nat.lcm m n : Nat) := by
  unfold Nat.lcm
  rw [Int.gcd_natCast_natCast]
  push_cast
  rfl
theorem den_num {d : D} (h : numD d = true) : (den d : Int) = (numI d).2 ∧ 0 < den d := by
  have := (num_half h).2
  unfold den
  omega
def sp_least : DSp := fun xs G R _ => ∃ (x : D) (ds : List D), xs = [x] ∧ (x = .lst ds ∨ x = .tup ds) ∧ Nms 3000 ds ∧ ds.length ≤ 2 ∧ R (.int (lcmL 1 ds)) G
/-- one turn: the least common of m and the under u -/
theorem lcm_turn {ρ : En} {G : Gm} {da db : DE} {m u : Nat} (ha : Ev da ρ G (.int m)) (hb : Ev db ρ G (.int u)) (hm : 0 < m) (h1 : m < 2 ^ 7000) (h2 : u < 2 ^ 3000) (hu : 0 < u) : Ev (dOp (fIntC CDivW fun i j => .int (i / j)) (dOp (fIntC IntMulOk fun i j => .int (i * j)) da db) (dCall DL.sp_common X0 (dCons da (dCons db dNil)))) ρ G (.int (Nat.lcm m u : Nat)) := by
  refine (Ev.fdiv (.mul ha hb (mul_both (a := 7000) (b := 3000) (by rw [Int.natAbs_natCast]; exact h1) (by rw [Int.natAbs_natCast]; exact h2) (by decide))) (.common ha hb) (div_ok ?_ ?_)).cast (by rw [lcm_int])
  · rw [Int.gcd_natCast_natCast]
    have := Nat.gcd_pos_of_pos_left u hm
    omega
  · rw [Int.gcd_natCast_natCast]
    have e1 : Nat.gcd m u ≤ u := Nat.gcd_le_right m hu
    have e2 : (2 : Nat) ^ 3000 ≤ 2 ^ 8000 := Nat.pow_le_pow_right (by decide) (by decide)
    have e3 : Nat.gcd m u < 2 ^ 8000 := by omega
    exact_mod_cast e3
theorem lcm_turn2 {ρ : En} {G : Gm} {da db : DE} {m u : Nat} (ha : Ev da ρ G (.int m)) (hb : Ev db ρ G (.int u)) (hm : 0 < m) (h1 : m < 2 ^ 7000) (h2 : u < 2 ^ 3000) (hu : 0 < u) : Ev (dOp (fIntC CDivW fun i j => .int (i / j)) (dCal fIntOf (dCons (dOp (fIntC IntMulOk fun i j => .int (i * j)) da db) dNil)) (dCall DL.sp_common X0 (dCons da (dCons db dNil)))) ρ G (.int (Nat.lcm m u : Nat)) := by
  refine (Ev.fdiv (.intOf (.mul ha hb (mul_both (a := 7000) (b := 3000) (by rw [Int.natAbs_natCast]; exact h1) (by rw [Int.natAbs_natCast]; exact h2) (by decide)))) (.common ha hb) (div_ok ?_ ?_)).cast (by rw [lcm_int])
  · rw [Int.gcd_natCast_natCast]
    have := Nat.gcd_pos_of_pos_left u hm
    omega
  · rw [Int.gcd_natCast_natCast]
    have e1 : Nat.gcd m u ≤ u := Nat.gcd_le_right m hu
    have e2 : (2 : Nat) ^ 3000 ≤ 2 ^ 8000 := Nat.pow_le_pow_right (by decide) (by decide)
    have e3 : Nat.gcd m u < 2 ^ 8000 := by omega
    exact_mod_cast e3
/-! what comes again -/
theorem lab_again {d : D} (hd : numD d = true) {L : Nat} (h : den d ∣ L) (p : Int) : lab d (p + L) = lab d p := by
  obtain ⟨e, h0⟩ := den_num hd
  obtain ⟨c, rfl⟩ := h
  unfold lab wh
  rw [← e]
  have g : ∀ p : Int, (numI d).1 * (p + ((den d * c : Nat) : Int)) = (numI d).1 * p + (den d : Int) * ((numI d).1 * c) := fun p => by
    push_cast
    grind
  have e2 : p + ((den d * c : Nat) : Int) - 1 = (p - 1) + ((den d * c : Nat) : Int) := by omega
  rw [e2, g, g, Int.add_mul_ediv_left _ _ (by omega), Int.add_mul_ediv_left _ _ (by omega)]
  omega
theorem labs_again {ds : List D} (hn : ∀ d ∈ ds, numD d = true) {L : Nat} (h : ∀ d ∈ ds, den d ∣ L) (p : Int) : labs ds (p + L) = labs ds p := List.map_congr_left fun d hd => lab_again (hn d hd) (h d hd) p
/-- where the labels of L places come again p places on, p a part of L, they sum evenly -/
theorem even_sum {g : Int → Int} {f : Int} {p : Nat} : ∀ c : Nat, (∀ i : Nat, i < p * c → g (f + p + i) = g (f + i)) → ((List.range (p * c)).map fun i : Nat => g (f + i)).sum = c * ((List.range p).map fun i : Nat => g (f + i)).sum
  | 0, _ => by
    rw [Nat.mul_zero]
    show (0 : Int) = ((0 : Nat) : Int) * _
    rw [Int.natCast_zero, Int.zero_mul]
  | c + 1, h => by
    have ih := even_sum (g := g) (f := f) (p := p) c fun i hi => h i (Nat.lt_of_lt_of_le hi (Nat.mul_le_mul_left p (Nat.le_succ c)))
    have e : p * (c + 1) = p * c + p := Nat.mul_succ p c
    have per : ∀ k : Nat, ∀ i : Nat, k * p + i < p * (c + 1) → g (f + ((k * p + i : Nat) : Int)) = g (f + i) := fun k => by
      induction k with
      | zero =>
        intro i _
        rw [Nat.zero_mul, Nat.zero_add]
      | succ k ihk =>
        intro i hi
        rw [Nat.succ_mul] at hi ⊢
        have h1 := h (k * p + i) (by omega)
        have e1 : f + ((k * p + p + i : Nat) : Int) = f + p + ((k * p + i : Nat) : Int) := by push_cast; omega
        rw [e1, h1]
        exact ihk i (by omega)
    rw [e, List.range_add, List.map_append, List.sum_append, ih, List.map_map]
    have e3 : ((List.range p).map ((fun i : Nat => g (f + i)) ∘ fun x => p * c + x)) = (List.range p).map fun i : Nat => g (f + i) := List.map_congr_left fun i hi => by
      have hi2 := List.mem_range.mp hi
      have := per c i (by rw [Nat.mul_comm c p, e]; omega)
      rw [Nat.mul_comm c p] at this
      exact this
    rw [e3]
    push_cast
    grind
theorem no_less {d : D} (hd : numD d = true) (hc : Int.gcd (numI d).1 (numI d).2 = 1) {L p c : Nat} (hL : L = p * c) (h : den d ∣ L) (hc0 : 0 < c) {f : Int} (ha : ∀ i : Nat, i < L → lab d (f + p + i) = lab d (f + i)) : den d ∣ p := by
  have e1 := even_sum (g := fun q => lab d q) (f := f) (p := p) c (by rw [← hL]; exact ha)
  rw [← hL, tele d f L] at e1
  obtain ⟨e, h0⟩ := den_num hd
  obtain ⟨k, hk⟩ := h
  have e2 : sm f L d = k * (numI d).1 := by
    unfold sm wh
    have := sum_just (a := (numI d).1) (b := (numI d).2) (c := k) (f := f) (by omega)
    rw [hk]
    push_cast
    rw [e, Int.mul_comm (numI d).1, Int.mul_comm (numI d).1]
    exact this
  rw [e2] at e1
  generalize ((List.range p).map fun i : Nat => lab d (f + i)).sum = S at e1
  have e3 : (den d : Int) * k = p * c := by exact_mod_cast hk.symm.trans hL
  have e4 : (p : Int) * (numI d).1 * c = (den d : Int) * S * c := by
    have z : (p : Int) * (numI d).1 * c = (p * c : Int) * (numI d).1 := by grind
    rw [z, ← e3]
    have z2 : (den d : Int) * k * (numI d).1 = den d * (k * (numI d).1) := by grind
    rw [z2, e1]
    grind
  have e5 : (p : Int) * (numI d).1 = (den d : Int) * S := Int.eq_of_mul_eq_mul_right (by omega) e4
  have e6 : (den d : Int) ∣ (numI d).1 * p := ⟨S, by rw [Int.mul_comm]; exact e5⟩
  have e7 : den d ∣ (numI d).1.natAbs * p := by
    have := Int.natAbs_dvd_natAbs.mpr e6
    rw [Int.natAbs_mul, Int.natAbs_natCast, Int.natAbs_natCast] at this
    exact this
  have cop : Nat.Coprime (den d) (numI d).1.natAbs := by
    rw [← e] at hc
    unfold Int.gcd at hc
    rw [Int.natAbs_natCast, Nat.gcd_comm] at hc
    exact hc
  exact cop.dvd_of_dvd_mul_left e7

theorem to_next {E : DEnds} {ρ : En} {G : Gm} (h : E.nx ρ G) : dNext E ρ G := h
theorem dw_asgT {ρ : En} {a : Addr} {j k : Nat} {da db : DE} {P P2 : D → Prop} {E : DEnds} {G : Gm} {T i i2 : Nat} (h : Drw da ρ a j P) (h' : Drw db ρ a k P2) (hg : GauAt G a T) (ht : T + (j + k) ≤ 1000000000) (hk : ∀ x y m, P x → P2 y → Gau m (T + (j + k)) → E.nx ((ρ.set i (some x)).set i2 (some y)) (gup G a m)) : dAsg (dTup (dCons da (dCons db dNil))) (gSeq 2 (gCons (gN i) (gCons (gN i2) gNil))) E ρ G :=
by
  show (dCons da (dCons db dNil)) ρ G fun xs G1 => xs.length ≤ sizeLine ∧ gSeq 2 (DL.gCons (gN i) (DL.gCons (gN i2) DL.gNil)) (.tup xs) ρ G1 E.nx
  exact (DrwA.cons h (DrwA.cons h' .nil)) G T _ hg ht fun l m ⟨x, xs, e, px, y, ys, e2, py, e3⟩ hm => by
    subst e3 e2 e
    exact ⟨show 2 ≤ sizeLine by decide, _, seq_tup, rfl, _, _, rfl, _, _, rfl, rfl, hk x y m px py hm⟩
theorem atI_lt {ds : List D} {j : Nat} (h : j < ds.length) : atI ds (j : Int) = some ds[j] := by
  unfold atI ixN
  rw [if_pos (by omega), if_pos (by omega), Option.bind_some, Int.toNat_natCast, List.getElem?_eq_getElem h]
theorem sm_abs {d : D} (h : Bn 110 d) {f n : Int} (hf : f.natAbs < 2 ^ 112) (hn : n.natAbs < 2 ^ 140) : (sm f n d).natAbs < 2 ^ 300 := by
  unfold sm
  have e1 := wh_abs h (p := f + n - 1) (k := 142) (by omega)
  have e2 := wh_abs h (p := f - 1) (k := 113) (by omega)
  have e3 : 2 ^ (110 + 142) + 2 ^ (110 + 113) < 2 ^ 300 := by decide
  omega
theorem p300 : 2 ^ 300 < 10 ^ 560 := by decide +kernel
theorem sm_sums {ds : List D} {f n : Int} (h : ∀ d ∈ ds, Bn 110 d) (hl : ds.length ≤ 2) (hf : f.natAbs < 2 ^ 112) (hn : n.natAbs < 2 ^ 140) : Sm 1 3 (tupI (sums ds f n)) := by
  refine (Sm.tup (d := 0) (s := 1) fun x hx => ?_).mono (Nat.le_refl _) ?_
  · obtain ⟨i, hi, rfl⟩ := List.mem_map.mp hx
    obtain ⟨d, hd, rfl⟩ := List.mem_map.mp hi
    exact .int (Nat.lt_trans (sm_abs (h d hd) hf hn) p300)
  · rw [List.length_map, sums, List.length_map]
    omega

theorem Ev.slFrom {ρ : En} {G : Gm} {da db : DE} {xs : List D} {i : Int} (ha : Ev da ρ G (.tup xs)) (hb : Ev db ρ G (.int i)) (h0 : 0 < i) (h : i ≤ xs.length) : Ev (dSl da (dPart db) dNoP) ρ G (.tup (xs.drop i.toNat)) := fun R r => ha _ (hb _ ⟨i, rfl, _, .inr ⟨xs, rfl, by
  have e1 : HT.sIx xs.length 0 (some i) = i.toNat := by simp only [HT.sIx]; split <;> omega
  have e2 : HT.sIx xs.length xs.length none = xs.length := rfl
  unfold DL.cutD
  rw [e1, e2, List.take_of_length_le (by rw [List.length_drop]; omega)], by
  have e1 : HT.sIx xs.length 0 (some i) = i.toNat := by simp only [HT.sIx]; split <;> omega
  rw [e1]
  omega⟩, r⟩)
theorem Ev.slMid {ρ : En} {G : Gm} {da db dc : DE} {xs : List D} {i j : Int} (ha : Ev da ρ G (.tup xs)) (hb : Ev db ρ G (.int i)) (hc : Ev dc ρ G (.int j)) (h0 : 0 < i) (h : i ≤ j) (h2 : j ≤ xs.length) : Ev (dSl da (dPart db) (dPart dc)) ρ G (.tup ((xs.drop i.toNat).take (j.toNat - i.toNat))) := fun R r => ha _ (hb _ ⟨i, rfl, hc _ ⟨j, rfl, _, .inr ⟨xs, rfl, by
  have e1 : HT.sIx xs.length 0 (some i) = i.toNat := by simp only [HT.sIx]; split <;> omega
  have e2 : HT.sIx xs.length xs.length (some j) = j.toNat := by simp only [HT.sIx]; split <;> omega
  unfold DL.cutD
  rw [e1, e2], by
  have e1 : HT.sIx xs.length 0 (some i) = i.toNat := by simp only [HT.sIx]; split <;> omega
  rw [e1]
  omega⟩, r⟩⟩)
theorem labsT_len {ds : List D} {f : Int} {n : Nat} : (labsT ds f n).length = n := by
  unfold labsT
  rw [List.length_map, List.length_range]
theorem labsT_cut {ds : List D} {f : Int} {n i k : Nat} (h : i + k ≤ n) : ((labsT ds f n).drop i).take k = labsT ds (f + i) k := by
  apply List.ext_getElem
  · rw [List.length_take, List.length_drop, labsT_len, labsT_len]
    omega
  · intro j h1 h2
    have at_ : ∀ {f : Int} {n j : Nat} (h : j < (labsT ds f n).length), (labsT ds f n)[j] = tupI (labs ds (f + j)) := fun h => by
      simp only [labsT, List.getElem_map, List.getElem_range]
    have e : f + ((i + j : Nat) : Int) = f + i + j := by omega
    rw [List.getElem_take, List.getElem_drop, at_, at_, e]
theorem cmp_labsT {ds : List D} {f : Int} {n : Nat} : Cmp (.tup (labsT ds f n)) := by
  rw [labsT_rows]
  exact cmp_tups
theorem pln_labsT {ds : List D} {f : Int} {n : Nat} : (D.tup (labsT ds f n)).pln = true := plnL_all fun x hx => by
  obtain ⟨i, _, rfl⟩ := List.mem_map.mp hx
  exact pln_ints _
theorem labsT_at {ds : List D} {f g : Int} {n : Nat} (e : labsT ds f n = labsT ds g n) {i : Nat} (hi : i < n) : labs ds (f + i) = labs ds (g + i) := by
  have h1 : (labsT ds f n)[i]? = some (tupI (labs ds (f + i))) := by
    unfold labsT
    rw [List.getElem?_map, List.getElem?_range hi]
    rfl
  have h2 : (labsT ds g n)[i]? = some (tupI (labs ds (g + i))) := by
    unfold labsT
    rw [List.getElem?_map, List.getElem?_range hi]
    rfl
  rw [e, h2] at h1
  have h3 := Option.some.inj h1
  unfold tupI at h3
  injection h3 with h3
  exact (List.map_inj_right (f := D.int) fun _ _ h => by injection h).mp h3.symm
theorem labs_at {ds : List D} {p q : Int} (e : labs ds p = labs ds q) {d : D} (hd : d ∈ ds) : lab d p = lab d q := by
  unfold labs at e
  exact (List.map_inj_left.mp e) d hd

/-! ### is_integer -/
abbrev sp_is_integer : DSp := DL.sp_is_integer
def r_is_integer : DS := (dRet (dAndV (dCal (fIsi "int") (dCons (dVar 0) (dCons (dC (.ty "int")) dNil))) (dNotV (dCal (fIsi "bool") (dCons (dVar 0) (dCons (dC (.ty "bool")) dNil))))))
theorem sc_is_integer : FnScope ["value"] ["value"] (defScope st_is_integer) := ⟨rfl, rfl, rfl, by decide +kernel, rfl, by decide +kernel, by decide +kernel⟩
theorem v_is_integer (xs : List D) (G : Gm) (R : KD) (RX : XD) (h : sp_is_integer xs G R RX) : r_is_integer { nx := fun _ G => R .non G, rt := R } (xs.map some ++ List.replicate (1 - xs.length) none) G := by
  exact is_integer_ok xs G R RX h
theorem l_is_integer (xs : List D) (G : Gm) (R : KD) (RX : XD) (h : sp_is_integer xs G R RX) : xs.length = 1 := by
  obtain ⟨_, rfl, _⟩ := h
  rfl
set_option maxHeartbeats 4000000 in
theorem k_is_integer {P : Program} {w : World} {K : PySem.W.Frag} {mg : Str → Option Value} {base : Heap} (T : Tx mg) (F : Df K mg "is_integer" st_is_integer) :
    Kn P w K mg base 1 "is_integer" st_is_integer ["value"] sp_is_integer :=
  kn_of F.g F.f sc_is_integer l_is_integer fun cdv A outer s H E B RX hr hg kx => ⟨r_is_integer, (psd_one (psd_ret (pd_and (pd_isi rfl (by decide) rfl T.f_isinstance (pd_var 0) (pd_bty rfl T.f_int (by decide +kernel))) (pd_one (pd_not (pd_isi rfl (by decide) rfl T.f_isinstance (pd_var 0) (pd_bty rfl T.f_bool (by decide +kernel)))))))), fun xs G R h => v_is_integer xs G R RX h⟩
/-! ### is_within -/
abbrev sp_is_within : DSp := DL.sp_is_within
def r_is_within : DS := (dSeq (dIfS (dNot (dTst (dCall sp_is_integer X0 (dCons (dVar 0) dNil)))) (dRet (dC (.bl false))) dNext) (dRet (dAndV (dOrV (dIsN (dVar 1)) (dOp (fInt gLe) (dVar 1) (dVar 0))) (dOrV (dIsN (dVar 2)) (dOp (fInt gLe) (dVar 0) (dVar 2))))))
theorem sc_is_within : FnScope ["value", "least", "most"] ["value", "least", "most"] (defScope st_is_within) := ⟨rfl, rfl, rfl, by decide +kernel, rfl, by decide +kernel, by decide +kernel⟩
theorem v_is_within (xs : List D) (G : Gm) (R : KD) (RX : XD) (h : sp_is_within xs G R RX) : r_is_within { nx := fun _ G => R .non G, rt := R } (xs.map some ++ List.replicate (3 - xs.length) none) G := by
  exact is_within_ok xs G R RX h
theorem l_is_within (xs : List D) (G : Gm) (R : KD) (RX : XD) (h : sp_is_within xs G R RX) : xs.length = 3 := by
  obtain ⟨_, _, _, _, _, rfl, _⟩ := h
  rfl
set_option maxHeartbeats 4000000 in
theorem k_is_within {P : Program} {w : World} {K : PySem.W.Frag} {mg : Str → Option Value} {base : Heap} (T : Tx mg) (F : Df K mg "is_within" st_is_within) (k_is_integer : Kn P w K mg base 1 "is_integer" st_is_integer ["value"] sp_is_integer) :
    Kn P w K mg base 2 "is_within" st_is_within ["value", "least", "most"] sp_is_within :=
  kn_of F.g F.f sc_is_within l_is_within fun cdv A outer s H E B RX hr hg kx => ⟨r_is_within, (psd_cons (psd_if (ptd_not (ptd_val (pd_call k_is_integer (hr.mono (by decide)) hg rfl pass0 kx0 (fun _ _ _ _ _ _ us hl => match us, hl with | [_], _ => rfl) (pda_cons (pd_var 0) pda_nil)))) (psd_one (psd_ret pd_bl)) psd_nil) (psd_one (psd_ret (pd_and (pd_or (pd_isN (pd_var 1)) (pd_one (pd_cmp op_le od_bl (pd_var 1) (pd_var 0) (nomark _)))) (pd_one (pd_or (pd_isN (pd_var 2)) (pd_one (pd_cmp op_le od_bl (pd_var 0) (pd_var 2) (nomark _))))))))), fun xs G R h => v_is_within xs G R RX h⟩
/-! ### is_list -/
abbrev sp_is_list : DSp := DL.sp_is_list
def r_is_list : DS := (dRet (dIsiT ["list", "tuple"] (dVar 0)))
theorem sc_is_list : FnScope ["value"] ["value"] (defScope st_is_list) := ⟨rfl, rfl, rfl, by decide +kernel, rfl, by decide +kernel, by decide +kernel⟩
theorem v_is_list (xs : List D) (G : Gm) (R : KD) (RX : XD) (h : sp_is_list xs G R RX) : r_is_list { nx := fun _ G => R .non G, rt := R } (xs.map some ++ List.replicate (1 - xs.length) none) G := by
  exact is_list_ok xs G R RX h
theorem l_is_list (xs : List D) (G : Gm) (R : KD) (RX : XD) (h : sp_is_list xs G R RX) : xs.length = 1 := by
  obtain ⟨_, rfl, _⟩ := h
  rfl
set_option maxHeartbeats 4000000 in
theorem k_is_list {P : Program} {w : World} {K : PySem.W.Frag} {mg : Str → Option Value} {base : Heap} (T : Tx mg) (F : Df K mg "is_list" st_is_list) :
    Kn P w K mg base 1 "is_list" st_is_list ["value"] sp_is_list :=
  kn_of F.g F.f sc_is_list l_is_list fun cdv A outer s H E B RX hr hg kx => ⟨r_is_list, (psd_one (psd_ret (pd_isiT rfl (by decide) (by decide) rfl T.f_isinstance (pd_var 0) (pty_cons (pe_ty rfl T.f_list (by decide +kernel)) (pty_cons (pe_ty rfl T.f_tuple (by decide +kernel)) pty_nil))))), fun xs G R h => v_is_list xs G R RX h⟩
/-! ### need_number -/
abbrev sp_need_number : DSp := DL.sp_need_number
def r_need_number : DS := (dIfS (dNot (dTst (dCall sp_is_within X0 (dCons (dVar 0) (dCons (dVar 2) (dCons (dVar 3) dNil)))))) dNever dNext)
theorem sc_need_number : FnScope ["value", "part", "least", "most"] ["value", "part", "least", "most"] (defScope st_need_number) := ⟨rfl, rfl, rfl, by decide +kernel, rfl, by decide +kernel, by decide +kernel⟩
theorem v_need_number (xs : List D) (G : Gm) (R : KD) (RX : XD) (h : sp_need_number xs G R RX) : r_need_number { nx := fun _ G => R .non G, rt := R } (xs.map some ++ List.replicate (4 - xs.length) none) G := by
  exact need_number_ok xs G R RX h
theorem l_need_number (xs : List D) (G : Gm) (R : KD) (RX : XD) (h : sp_need_number xs G R RX) : xs.length = 4 := by
  obtain ⟨_, _, _, _, _, _, rfl, _⟩ := h
  rfl
set_option maxHeartbeats 4000000 in
theorem k_need_number {P : Program} {w : World} {K : PySem.W.Frag} {mg : Str → Option Value} {base : Heap} (T : Tx mg) (F : Df K mg "need_number" st_need_number) (k_is_within : Kn P w K mg base 2 "is_within" st_is_within ["value", "least", "most"] sp_is_within) :
    Kn P w K mg base 3 "need_number" st_need_number ["value", "part", "least", "most"] sp_need_number :=
  kn_of F.g F.f sc_need_number l_need_number fun cdv A outer s H E B RX hr hg kx => ⟨r_need_number, (psd_one (psd_if (ptd_not (ptd_val (pd_call k_is_within (hr.mono (by decide)) hg rfl pass0 kx0 (fun _ _ _ _ _ _ us hl => match us, hl with | [_, _, _], _ => rfl) (pda_cons (pd_var 0) (pda_cons (pd_var 2) (pda_cons (pd_var 3) pda_nil)))))) (psd_one psd_never) psd_nil)), fun xs G R h => v_need_number xs G R RX h⟩
/-! ### halves -/
abbrev sp_halves : DSp := DL.sp_halves
def r_halves : DS := (dRet (dIf (dTst (dCall sp_is_integer X0 (dCons (dVar 0) dNil))) (dTup (dCons (dVar 0) (dCons (dC (.int 1)) dNil))) (dTup (dCons (dIx (dVar 0) (dC (.int 0))) (dCons (dIx (dVar 0) (dC (.int 1))) dNil)))))
theorem sc_halves : FnScope ["number"] ["number"] (defScope st_halves) := ⟨rfl, rfl, rfl, by decide +kernel, rfl, by decide +kernel, by decide +kernel⟩
theorem v_halves (xs : List D) (G : Gm) (R : KD) (RX : XD) (h : sp_halves xs G R RX) : r_halves { nx := fun _ G => R .non G, rt := R } (xs.map some ++ List.replicate (1 - xs.length) none) G := by
  exact halves_ok xs G R RX h
theorem l_halves (xs : List D) (G : Gm) (R : KD) (RX : XD) (h : sp_halves xs G R RX) : xs.length = 1 := by
  obtain ⟨_, rfl, _⟩ := h
  rfl
set_option maxHeartbeats 4000000 in
theorem k_halves {P : Program} {w : World} {K : PySem.W.Frag} {mg : Str → Option Value} {base : Heap} (T : Tx mg) (F : Df K mg "halves" st_halves) (k_is_integer : Kn P w K mg base 1 "is_integer" st_is_integer ["value"] sp_is_integer) :
    Kn P w K mg base 2 "halves" st_halves ["number"] sp_halves :=
  kn_of F.g F.f sc_halves l_halves fun cdv A outer s H E B RX hr hg kx => ⟨r_halves, (psd_one (psd_ret (pd_if (ptd_val (pd_call k_is_integer (hr.mono (by decide)) hg rfl pass0 kx0 (fun _ _ _ _ _ _ us hl => match us, hl with | [_], _ => rfl) (pda_cons (pd_var 0) pda_nil))) (pd_tup (pda_cons (pd_var 0) (pda_cons pd_int pda_nil))) (pd_tup (pda_cons (pd_ix (pd_var 0) pd_int (fun _ _ => rfl)) (pda_cons (pd_ix (pd_var 0) pd_int (fun _ _ => rfl)) pda_nil)))))), fun xs G R h => v_halves xs G R RX h⟩
/-! ### common -/
abbrev sp_common : DSp := DL.sp_common
def r_common : DS := (dSeq (dPar 0 1 (dCons (dCal fAbs (dCons (dVar 0) dNil)) (dCons (dCal fAbs (dCons (dVar 1) dNil)) dNil))) (dSeq (dWhile (dTst (dOp (fInt gGt) (dVar 1) (dC (.int 0)))) (dPar 0 1 (dCons (dVar 1) (dCons (dOp (fIntC (fun _ j => 0 < j) fun i j => .int (i % j)) (dVar 0) (dVar 1)) dNil)))) (dRet (dVar 0))))
theorem sc_common : FnScope ["one", "other"] ["one", "other"] (defScope st_common) := ⟨rfl, rfl, rfl, by decide +kernel, rfl, by decide +kernel, by decide +kernel⟩
theorem v_common (xs : List D) (G : Gm) (R : KD) (RX : XD) (h : sp_common xs G R RX) : r_common { nx := fun _ G => R .non G, rt := R } (xs.map some ++ List.replicate (2 - xs.length) none) G := by
  exact common_ok xs G R RX h
theorem l_common (xs : List D) (G : Gm) (R : KD) (RX : XD) (h : sp_common xs G R RX) : xs.length = 2 := by
  obtain ⟨_, _, rfl, _⟩ := h
  rfl
set_option maxHeartbeats 4000000 in
theorem k_common {P : Program} {w : World} {K : PySem.W.Frag} {mg : Str → Option Value} {base : Heap} (T : Tx mg) (F : Df K mg "common" st_common) :
    Kn P w K mg base 1 "common" st_common ["one", "other"] sp_common :=
  kn_of F.g F.f sc_common l_common fun cdv A outer s H E B RX hr hg kx => ⟨r_common, (psd_cons (psd_par (i := 0) (j := 1) rfl sc_common.nd rfl rfl (by decide) rfl rfl (pda_cons (pd_callB call_abs cd_abs rfl T.f_abs (by decide +kernel) (pda_cons (pd_var 0) pda_nil)) (pda_cons (pd_callB call_abs cd_abs rfl T.f_abs (by decide +kernel) (pda_cons (pd_var 1) pda_nil)) pda_nil)) rfl) (psd_cons (psd_while (passes_of rfl) (ptd_cmp op_gt od_bl (pd_var 1) pd_int (nomark _)) (psd_one (psd_par (i := 0) (j := 1) rfl sc_common.nd rfl rfl (by decide) rfl rfl (pda_cons (pd_var 1) (pda_cons (pd_mod (pd_var 0) (pd_var 1)) pda_nil)) rfl))) (psd_one (psd_ret (pd_var 0))))), fun xs G R h => v_common xs G R RX h⟩
/-! ### lowest_in -/
abbrev sp_lowest_in : DSp := DL.sp_lowest_in
def r_lowest_in : DS := (dSeq (dSet 2 (dIf (dTst (dOp (fInt gGt) (dVar 1) (dC (.int 0)))) (dCall sp_common X0 (dCons (dVar 0) (dCons (dVar 1) dNil))) (dNeg (dCall sp_common X0 (dCons (dVar 0) (dCons (dVar 1) dNil)))))) (dRet (dIf (dTst (dOp fEq (dOp (fIntC CDivW fun i j => .int (i / j)) (dVar 1) (dVar 2)) (dC (.int 1)))) (dOp (fIntC CDivW fun i j => .int (i / j)) (dVar 0) (dVar 2)) (dTup (dCons (dOp (fIntC CDivW fun i j => .int (i / j)) (dVar 0) (dVar 2)) (dCons (dOp (fIntC CDivW fun i j => .int (i / j)) (dVar 1) (dVar 2)) dNil))))))
theorem sc_lowest_in : FnScope ["above", "under", "by"] ["above", "under"] (defScope st_lowest_in) := ⟨rfl, rfl, rfl, by decide +kernel, rfl, by decide +kernel, by decide +kernel⟩
theorem v_lowest_in (xs : List D) (G : Gm) (R : KD) (RX : XD) (h : sp_lowest_in xs G R RX) : r_lowest_in { nx := fun _ G => R .non G, rt := R } (xs.map some ++ List.replicate (3 - xs.length) none) G := by
  exact lowest_in_ok xs G R RX h
theorem l_lowest_in (xs : List D) (G : Gm) (R : KD) (RX : XD) (h : sp_lowest_in xs G R RX) : xs.length = 2 := by
  obtain ⟨_, _, rfl, _⟩ := h
  rfl
set_option maxHeartbeats 4000000 in
theorem k_lowest_in {P : Program} {w : World} {K : PySem.W.Frag} {mg : Str → Option Value} {base : Heap} (T : Tx mg) (F : Df K mg "lowest_in" st_lowest_in) (k_common : Kn P w K mg base 1 "common" st_common ["one", "other"] sp_common) :
    Kn P w K mg base 2 "lowest_in" st_lowest_in ["above", "under"] sp_lowest_in :=
  kn_of F.g F.f sc_lowest_in l_lowest_in fun cdv A outer s H E B RX hr hg kx => ⟨r_lowest_in, (psd_cons (psd_set (i := 2) sc_lowest_in.nd rfl (by first | exact Or.inl rfl | exact Or.inr rfl) (pd_if (ptd_cmp op_gt od_bl (pd_var 1) pd_int (nomark _)) (pd_call k_common (hr.mono (by decide)) hg rfl pass0 kx0 (fun _ _ _ _ _ _ us hl => match us, hl with | [_, _], _ => rfl) (pda_cons (pd_var 0) (pda_cons (pd_var 1) pda_nil))) (pd_neg (pd_call k_common (hr.mono (by decide)) hg rfl pass0 kx0 (fun _ _ _ _ _ _ us hl => match us, hl with | [_, _], _ => rfl) (pda_cons (pd_var 0) (pda_cons (pd_var 1) pda_nil)))))) (psd_one (psd_ret (pd_if (ptd_cmp (op_eq2 hr.units) od_eq (pd_fdiv (pd_var 1) (pd_var 2)) pd_int (nomark _)) (pd_fdiv (pd_var 0) (pd_var 2)) (pd_tup (pda_cons (pd_fdiv (pd_var 0) (pd_var 2)) (pda_cons (pd_fdiv (pd_var 1) (pd_var 2)) pda_nil))))))), fun xs G R h => v_lowest_in xs G R RX h⟩
/-! ### times_in -/
abbrev sp_times_in : DSp := DL.sp_times_in
def r_times_in : DS := (dSeq (dAsg (dTup (dCons (dCall sp_halves X0 (dCons (dVar 0) dNil)) (dCons (dCall sp_halves X0 (dCons (dVar 1) dNil)) dNil))) (gSeq 2 (gCons (gSeq 2 (gCons (gN 2) (gCons (gN 3) gNil))) (gCons (gSeq 2 (gCons (gN 4) (gCons (gN 5) gNil))) gNil)))) (dRet (dCall sp_lowest_in X0 (dCons (dOp (fIntC IntMulOk fun i j => .int (i * j)) (dVar 2) (dVar 4)) (dCons (dOp (fIntC IntMulOk fun i j => .int (i * j)) (dVar 3) (dVar 5)) dNil)))))
theorem sc_times_in : FnScope ["one", "other", "a", "b", "c", "d"] ["one", "other"] (defScope st_times_in) := ⟨rfl, rfl, rfl, by decide +kernel, rfl, by decide +kernel, by decide +kernel⟩
theorem v_times_in (xs : List D) (G : Gm) (R : KD) (RX : XD) (h : sp_times_in xs G R RX) : r_times_in { nx := fun _ G => R .non G, rt := R } (xs.map some ++ List.replicate (6 - xs.length) none) G := by
  exact times_in_ok xs G R RX h
theorem l_times_in (xs : List D) (G : Gm) (R : KD) (RX : XD) (h : sp_times_in xs G R RX) : xs.length = 2 := by
  obtain ⟨_, _, rfl, _⟩ := h
  rfl
set_option maxHeartbeats 4000000 in
theorem k_times_in {P : Program} {w : World} {K : PySem.W.Frag} {mg : Str → Option Value} {base : Heap} (T : Tx mg) (F : Df K mg "times_in" st_times_in) (k_halves : Kn P w K mg base 2 "halves" st_halves ["number"] sp_halves) (k_lowest_in : Kn P w K mg base 2 "lowest_in" st_lowest_in ["above", "under"] sp_lowest_in) :
    Kn P w K mg base 3 "times_in" st_times_in ["one", "other"] sp_times_in :=
  kn_of F.g F.f sc_times_in l_times_in fun cdv A outer s H E B RX hr hg kx => ⟨r_times_in, (psd_cons (psd_asg (pd_tup (pda_cons (pd_call k_halves (hr.mono (by decide)) hg rfl pass0 kx0 (fun _ _ _ _ _ _ us hl => match us, hl with | [_], _ => rfl) (pda_cons (pd_var 0) pda_nil)) (pda_cons (pd_call k_halves (hr.mono (by decide)) hg rfl pass0 kx0 (fun _ _ _ _ _ _ us hl => match us, hl with | [_], _ => rfl) (pda_cons (pd_var 1) pda_nil)) pda_nil))) (pgd_seq rfl (pgsd_cons (pgd_seq rfl (pgsd_cons (pgd_name (i := 2) sc_times_in.nd rfl (by first | exact Or.inl rfl | exact Or.inr rfl)) (pgsd_cons (pgd_name (i := 3) sc_times_in.nd rfl (by first | exact Or.inl rfl | exact Or.inr rfl)) pgsd_nil))) (pgsd_cons (pgd_seq rfl (pgsd_cons (pgd_name (i := 4) sc_times_in.nd rfl (by first | exact Or.inl rfl | exact Or.inr rfl)) (pgsd_cons (pgd_name (i := 5) sc_times_in.nd rfl (by first | exact Or.inl rfl | exact Or.inr rfl)) pgsd_nil))) pgsd_nil)))) (psd_one (psd_ret (pd_call k_lowest_in (hr.mono (by decide)) hg rfl pass0 kx0 (fun _ _ _ _ _ _ us hl => match us, hl with | [_, _], _ => rfl) (pda_cons (pd_mul (pd_var 2) (pd_var 4)) (pda_cons (pd_mul (pd_var 3) (pd_var 5)) pda_nil)))))), fun xs G R h => v_times_in xs G R RX h⟩
/-! ### whole_in -/
abbrev sp_whole_in : DSp := DL.sp_whole_in
def r_whole_in : DS := (dSeq (dAsg (dCall sp_halves X0 (dCons (dVar 0) dNil)) (gSeq 2 (gCons (gN 1) (gCons (gN 2) gNil)))) (dRet (dOp (fIntC CDivW fun i j => .int (i / j)) (dVar 1) (dVar 2))))
theorem sc_whole_in : FnScope ["number", "above", "under"] ["number"] (defScope st_whole_in) := ⟨rfl, rfl, rfl, by decide +kernel, rfl, by decide +kernel, by decide +kernel⟩
theorem v_whole_in (xs : List D) (G : Gm) (R : KD) (RX : XD) (h : sp_whole_in xs G R RX) : r_whole_in { nx := fun _ G => R .non G, rt := R } (xs.map some ++ List.replicate (3 - xs.length) none) G := by
  exact whole_in_ok xs G R RX h
theorem l_whole_in (xs : List D) (G : Gm) (R : KD) (RX : XD) (h : sp_whole_in xs G R RX) : xs.length = 1 := by
  obtain ⟨_, rfl, _⟩ := h
  rfl
set_option maxHeartbeats 4000000 in
theorem k_whole_in {P : Program} {w : World} {K : PySem.W.Frag} {mg : Str → Option Value} {base : Heap} (T : Tx mg) (F : Df K mg "whole_in" st_whole_in) (k_halves : Kn P w K mg base 2 "halves" st_halves ["number"] sp_halves) :
    Kn P w K mg base 3 "whole_in" st_whole_in ["number"] sp_whole_in :=
  kn_of F.g F.f sc_whole_in l_whole_in fun cdv A outer s H E B RX hr hg kx => ⟨r_whole_in, (psd_cons (psd_asg (pd_call k_halves (hr.mono (by decide)) hg rfl pass0 kx0 (fun _ _ _ _ _ _ us hl => match us, hl with | [_], _ => rfl) (pda_cons (pd_var 0) pda_nil)) (pgd_seq rfl (pgsd_cons (pgd_name (i := 1) sc_whole_in.nd rfl (by first | exact Or.inl rfl | exact Or.inr rfl)) (pgsd_cons (pgd_name (i := 2) sc_whole_in.nd rfl (by first | exact Or.inl rfl | exact Or.inr rfl)) pgsd_nil)))) (psd_one (psd_ret (pd_fdiv (pd_var 1) (pd_var 2))))), fun xs G R h => v_whole_in xs G R RX h⟩
/-! ### least_in -/
abbrev sp_least_in : DSp := sp_least
def r_least_in : DS := (dSeq (dSet 1 (dC (.int 1))) (dSeq (dFor (dISeq (dVar 0)) (gN 2) (dSeq (dSet 3 (dIx (dCall sp_halves X0 (dCons (dVar 2) dNil)) (dC (.int 1)))) (dSet 1 (dOp (fIntC CDivW fun i j => .int (i / j)) (dOp (fIntC IntMulOk fun i j => .int (i * j)) (dVar 1) (dVar 3)) (dCall sp_common X0 (dCons (dVar 1) (dCons (dVar 3) dNil))))))) (dRet (dVar 1))))
theorem sc_least_in : FnScope ["numbers", "found", "number", "under"] ["numbers"] (defScope st_least_in) := ⟨rfl, rfl, rfl, by decide +kernel, rfl, by decide +kernel, by decide +kernel⟩
theorem v_least_in (xs : List D) (G : Gm) (R : KD) (RX : XD) (h : sp_least_in xs G R RX) : r_least_in { nx := fun _ G => R .non G, rt := R } (xs.map some ++ List.replicate (4 - xs.length) none) G := by
  obtain ⟨x, ds, rfl, hx, hn, hl, h⟩ := h
  refine ds_set .c ?_
  refine ⟨x, rfl, ds, hx, ?_⟩
  refine forL_at (fun rest ρ G' => (∃ (m : Nat) (o2 o3 : Option D), ρ = [some x, some (.int m), o2, o3] ∧ 0 < m ∧ lcmL m rest = lcmL 1 ds ∧ m * (2 ^ 3000) ^ rest.length ≤ (2 ^ 3000) ^ 2) ∧ G' = G) ?_ ?_ ?_
  · rintro y rest N ρ G1 hsuf hN ⟨⟨m, o2, o3, rfl, hm, e, hb⟩, rfl⟩
    have hy : y ∈ ds := hsuf.subset List.mem_cons_self
    have ny := hn.nm y hy
    obtain ⟨ed, d0⟩ := den_num ny
    refine ds_set ((Ev.at (.halves (.var rfl) ny) .c seq_tup rfl).cast (z' := .int (den y)) (by rw [(num_half ny).1]; exact congrArg D.int ed.symm)) ?_
    have u3 : den y < 2 ^ 3000 := by
      have := (hn.bn y hy).2
      omega
    have m7 : m < 2 ^ 7000 := by
      have h1 : m * 1 ≤ m * (2 ^ 3000) ^ (y :: rest).length := Nat.mul_le_mul_left m (Nat.one_le_pow _ _ (Nat.pow_pos (by decide)))
      have h2 : ((2 : Nat) ^ 3000) ^ 2 < 2 ^ 7000 := by
        rw [← Nat.pow_mul]
        exact Nat.pow_lt_pow_right (by decide) (by decide)
      omega
    refine ds_set (lcm_turn (.var rfl) (.var rfl) hm m7 u3 d0) ?_
    refine hN _ _ ⟨⟨_, _, _, rfl, Nat.lcm_pos hm d0, e, Nat.le_trans ?_ hb⟩, rfl⟩
    rw [List.length_cons, Nat.pow_succ' (m := 2 ^ 3000) (n := rest.length), ← Nat.mul_assoc]
    exact Nat.mul_le_mul_right _ (Nat.le_trans lcm_le (Nat.mul_le_mul_left m (Nat.le_of_lt u3)))
  · rintro ρ G1 ⟨⟨m, o2, o3, rfl, hm, e, _⟩, rfl⟩
    have e' : m = lcmL 1 ds := e
    rw [e']
    exact ds_ret (.var rfl) h
  · refine ⟨⟨1, none, none, rfl, by decide, rfl, ?_⟩, rfl⟩
    rw [Nat.one_mul]
    exact Nat.pow_le_pow_right (Nat.pow_pos (by decide)) hl
theorem l_least_in (xs : List D) (G : Gm) (R : KD) (RX : XD) (h : sp_least_in xs G R RX) : xs.length = 1 := by
  obtain ⟨_, _, rfl, _⟩ := h
  rfl
set_option maxHeartbeats 4000000 in
theorem k_least_in {P : Program} {w : World} {K : PySem.W.Frag} {mg : Str → Option Value} {base : Heap} (T : Tx mg) (F : Df K mg "least_in" st_least_in) (k_halves : Kn P w K mg base 2 "halves" st_halves ["number"] sp_halves) (k_common : Kn P w K mg base 1 "common" st_common ["one", "other"] sp_common) :
    Kn P w K mg base 3 "least_in" st_least_in ["numbers"] sp_least_in :=
  kn_of F.g F.f sc_least_in l_least_in fun cdv A outer s H E B RX hr hg kx => ⟨r_least_in, (psd_cons (psd_set (i := 1) sc_least_in.nd rfl (by first | exact Or.inl rfl | exact Or.inr rfl) pd_int) (psd_cons (psd_for (passes_of rfl) rfl (pid_seq (pd_var 0)) (pgd_name (i := 2) sc_least_in.nd rfl (by first | exact Or.inl rfl | exact Or.inr rfl)) (psd_cons (psd_set (i := 3) sc_least_in.nd rfl (by first | exact Or.inl rfl | exact Or.inr rfl) (pd_ix (pd_call k_halves (hr.mono (by decide)) hg rfl pass0 kx0 (fun _ _ _ _ _ _ us hl => match us, hl with | [_], _ => rfl) (pda_cons (pd_var 2) pda_nil)) pd_int (fun _ _ => rfl))) (psd_one (psd_set (i := 1) sc_least_in.nd rfl (by first | exact Or.inl rfl | exact Or.inr rfl) (pd_fdiv (pd_mul (pd_var 1) (pd_var 3)) (pd_call k_common (hr.mono (by decide)) hg rfl pass0 kx0 (fun _ _ _ _ _ _ us hl => match us, hl with | [_, _], _ => rfl) (pda_cons (pd_var 1) (pda_cons (pd_var 3) pda_nil)))))))) (psd_one (psd_ret (pd_var 1))))), fun xs G R h => v_least_in xs G R RX h⟩
/-! ### is_number -/
abbrev sp_is_number : DSp := DL.sp_is_number
def r_is_number : DS := (dSeq (dIfS (dNot (dTst (dCall sp_is_list X0 (dCons (dVar 0) dNil)))) (dRet (dCall sp_is_integer X0 (dCons (dVar 0) dNil))) dNext) (dSeq (dIfS (dOr (dTst (dOp fNe (dCal fLen (dCons (dVar 0) dNil)) (dC (.int 2)))) (dOr (dNot (dTst (dCall sp_is_integer X0 (dCons (dIx (dVar 0) (dC (.int 0))) dNil)))) (dNot (dTst (dCall sp_is_within X0 (dCons (dIx (dVar 0) (dC (.int 1))) (dCons (dC (.int 2)) (dCons (dC .non) dNil)))))))) (dRet (dC (.bl false))) dNext) (dRet (dOp fEq (dCall sp_common X0 (dCons (dIx (dVar 0) (dC (.int 0))) (dCons (dIx (dVar 0) (dC (.int 1))) dNil))) (dC (.int 1))))))
theorem sc_is_number : FnScope ["value"] ["value"] (defScope st_is_number) := ⟨rfl, rfl, rfl, by decide +kernel, rfl, by decide +kernel, by decide +kernel⟩
theorem v_is_number (xs : List D) (G : Gm) (R : KD) (RX : XD) (h : sp_is_number xs G R RX) : r_is_number { nx := fun _ G => R .non G, rt := R } (xs.map some ++ List.replicate (1 - xs.length) none) G := by
  exact is_number_ok xs G R RX h
theorem l_is_number (xs : List D) (G : Gm) (R : KD) (RX : XD) (h : sp_is_number xs G R RX) : xs.length = 1 := by
  obtain ⟨_, rfl, _⟩ := h
  rfl
set_option maxHeartbeats 4000000 in
theorem k_is_number {P : Program} {w : World} {K : PySem.W.Frag} {mg : Str → Option Value} {base : Heap} (T : Tx mg) (F : Df K mg "is_number" st_is_number) (k_is_integer : Kn P w K mg base 1 "is_integer" st_is_integer ["value"] sp_is_integer) (k_is_within : Kn P w K mg base 2 "is_within" st_is_within ["value", "least", "most"] sp_is_within) (k_is_list : Kn P w K mg base 1 "is_list" st_is_list ["value"] sp_is_list) (k_common : Kn P w K mg base 1 "common" st_common ["one", "other"] sp_common) :
    Kn P w K mg base 3 "is_number" st_is_number ["value"] sp_is_number :=
  kn_of F.g F.f sc_is_number l_is_number fun cdv A outer s H E B RX hr hg kx => ⟨r_is_number, (psd_cons (psd_if (ptd_not (ptd_val (pd_call k_is_list (hr.mono (by decide)) hg rfl pass0 kx0 (fun _ _ _ _ _ _ us hl => match us, hl with | [_], _ => rfl) (pda_cons (pd_var 0) pda_nil)))) (psd_one (psd_ret (pd_call k_is_integer (hr.mono (by decide)) hg rfl pass0 kx0 (fun _ _ _ _ _ _ us hl => match us, hl with | [_], _ => rfl) (pda_cons (pd_var 0) pda_nil)))) psd_nil) (psd_cons (psd_if (PW.pt (pwd_or (ptd_cmp (op_ne2 hr.units) od_ne (pd_len rfl rfl T.f_len (pd_var 0)) pd_int (nomark _)) (pwd_or (ptd_not (ptd_val (pd_call k_is_integer (hr.mono (by decide)) hg rfl pass0 kx0 (fun _ _ _ _ _ _ us hl => match us, hl with | [_], _ => rfl) (pda_cons (pd_ix (pd_var 0) pd_int (fun _ _ => rfl)) pda_nil)))) (pwd_or1 (ptd_not (ptd_val (pd_call k_is_within (hr.mono (by decide)) hg rfl pass0 kx0 (fun _ _ _ _ _ _ us hl => match us, hl with | [_, _, _], _ => rfl) (pda_cons (pd_ix (pd_var 0) pd_int (fun _ _ => rfl)) (pda_cons (pd_gint rfl T.c_LEAST_UNDER) (pda_cons pd_non pda_nil)))))))))) (psd_one (psd_ret pd_bl)) psd_nil) (psd_one (psd_ret (pd_cmp (op_eq2 hr.units) od_eq (pd_call k_common (hr.mono (by decide)) hg rfl pass0 kx0 (fun _ _ _ _ _ _ us hl => match us, hl with | [_, _], _ => rfl) (pda_cons (pd_ix (pd_var 0) pd_int (fun _ _ => rfl)) (pda_cons (pd_ix (pd_var 0) pd_int (fun _ _ => rfl)) pda_nil))) pd_int (nomark _)))))), fun xs G R h => v_is_number xs G R RX h⟩
/-! ### kept_number -/
abbrev sp_kept_number : DSp := DL.sp_kept_number
def r_kept_number : DS := (dRet (dIf (dTst (dCall sp_is_list X0 (dCons (dVar 0) dNil))) (dCal fTupOf (dCons (dVar 0) dNil)) (dVar 0)))
theorem sc_kept_number : FnScope ["value"] ["value"] (defScope st_kept_number) := ⟨rfl, rfl, rfl, by decide +kernel, rfl, by decide +kernel, by decide +kernel⟩
theorem v_kept_number (xs : List D) (G : Gm) (R : KD) (RX : XD) (h : sp_kept_number xs G R RX) : r_kept_number { nx := fun _ G => R .non G, rt := R } (xs.map some ++ List.replicate (1 - xs.length) none) G := by
  exact kept_number_ok xs G R RX h
theorem l_kept_number (xs : List D) (G : Gm) (R : KD) (RX : XD) (h : sp_kept_number xs G R RX) : xs.length = 1 := by
  obtain ⟨_, rfl, _⟩ := h
  rfl
set_option maxHeartbeats 4000000 in
theorem k_kept_number {P : Program} {w : World} {K : PySem.W.Frag} {mg : Str → Option Value} {base : Heap} (T : Tx mg) (F : Df K mg "kept_number" st_kept_number) (k_is_list : Kn P w K mg base 1 "is_list" st_is_list ["value"] sp_is_list) :
    Kn P w K mg base 2 "kept_number" st_kept_number ["value"] sp_kept_number :=
  kn_of F.g F.f sc_kept_number l_kept_number fun cdv A outer s H E B RX hr hg kx => ⟨r_kept_number, (psd_one (psd_ret (pd_if (ptd_val (pd_call k_is_list (hr.mono (by decide)) hg rfl pass0 kx0 (fun _ _ _ _ _ _ us hl => match us, hl with | [_], _ => rfl) (pda_cons (pd_var 0) pda_nil))) (pd_callTy call_tuple_of cd_tuple rfl T.f_tuple (by decide +kernel) (pda_cons (pd_var 0) pda_nil)) (pd_var 0)))), fun xs G R h => v_kept_number xs G R RX h⟩
/-! ### need_point -/
abbrev sp_need_point : DSp := DL.sp_need_point
def r_need_point : DS := (dSeq (dIfS (dOr (dNot (dTst (dCall sp_is_list X0 (dCons (dVar 0) dNil)))) (dOr (dTst (dOp fNe (dCal fLen (dCons (dVar 0) dNil)) (dVar 1))) (dNot (dTst (dCal fAll (dCons (dCmp (dISeq (dVar 0)) (gN 3) dYes (dCall sp_is_number X0 (dCons (dVar 3) dNil)) [3]) dNil)))))) dNever dNext) (dRet (dCal fTupOf (dCons (dCmp (dISeq (dVar 0)) (gN 3) dYes (dCall sp_kept_number X0 (dCons (dVar 3) dNil)) [3]) dNil))))
theorem sc_need_point : FnScope ["value", "wide", "part", "each"] ["value", "wide", "part"] (defScope st_need_point) := ⟨rfl, rfl, rfl, by decide +kernel, rfl, by decide +kernel, by decide +kernel⟩
theorem v_need_point (xs : List D) (G : Gm) (R : KD) (RX : XD) (h : sp_need_point xs G R RX) : r_need_point { nx := fun _ G => R .non G, rt := R } (xs.map some ++ List.replicate (4 - xs.length) none) G := by
  exact need_point_ok xs G R RX h
theorem l_need_point (xs : List D) (G : Gm) (R : KD) (RX : XD) (h : sp_need_point xs G R RX) : xs.length = 3 := by
  obtain ⟨_, _, _, rfl, _⟩ := h
  rfl
set_option maxHeartbeats 4000000 in
theorem k_need_point {P : Program} {w : World} {K : PySem.W.Frag} {mg : Str → Option Value} {base : Heap} (T : Tx mg) (F : DfD K mg "need_point" st_need_point [V.str "point"]) (k_is_list : Kn P w K mg base 1 "is_list" st_is_list ["value"] sp_is_list) (k_is_number : Kn P w K mg base 3 "is_number" st_is_number ["value"] sp_is_number) (k_kept_number : Kn P w K mg base 2 "kept_number" st_kept_number ["value"] sp_kept_number) :
    KnD P w K mg base 4 "need_point" st_need_point ["value", "wide", "part"] [V.str "point"] sp_need_point :=
  knd_of F.g F.f sc_need_point l_need_point fun cdv A outer s H E B RX hr hg kx => ⟨r_need_point, (psd_cons (psd_if (PW.pt (pwd_or (ptd_not (ptd_val (pd_call k_is_list (hr.mono (by decide)) hg rfl pass0 kx0 (fun _ _ _ _ _ _ us hl => match us, hl with | [_], _ => rfl) (pda_cons (pd_var 0) pda_nil)))) (pwd_or (ptd_cmp (op_ne2 hr.units) od_ne (pd_len rfl rfl T.f_len (pd_var 0)) (pd_var 1) (nomark _)) (pwd_or1 (ptd_not (ptd_val (pd_callB (cr_all rfl) cd_all rfl T.f_all (by decide +kernel) (pda_cons (pd_lc (own := [("each", 3)]) rfl sc_need_point.nd (pid_seq (pd_var 0)) (blkOk_by (N := ["value", "wide", "part", "each"]) (sc := defScope st_need_point) (by decide +kernel)) (by decide) (fun _ _ _ _ _ _ => (pgd_name (i := 3) sc_need_point.nd rfl (by first | exact Or.inl rfl | exact Or.inr rfl))) (fun _ _ _ _ _ _ => ptsd_nil) (fun _ _ _ _ _ _ => (pd_call k_is_number (hr.mono (by decide)) hg rfl pass0 kx0 (fun _ _ _ _ _ _ us hl => match us, hl with | [_], _ => rfl) (pda_cons (pd_var 3) pda_nil)))) pda_nil)))))))) (psd_one psd_never) psd_nil) (psd_one (psd_ret (pd_callTy call_tuple_of cd_tuple rfl T.f_tuple (by decide +kernel) (pda_cons (pd_lc (own := [("each", 3)]) rfl sc_need_point.nd (pid_seq (pd_var 0)) (blkOk_by (N := ["value", "wide", "part", "each"]) (sc := defScope st_need_point) (by decide +kernel)) (by decide) (fun _ _ _ _ _ _ => (pgd_name (i := 3) sc_need_point.nd rfl (by first | exact Or.inl rfl | exact Or.inr rfl))) (fun _ _ _ _ _ _ => ptsd_nil) (fun _ _ _ _ _ _ => (pd_call k_kept_number (hr.mono (by decide)) hg rfl pass0 kx0 (fun _ _ _ _ _ _ us hl => match us, hl with | [_], _ => rfl) (pda_cons (pd_var 3) pda_nil)))) pda_nil))))), fun xs G R h => v_need_point xs G R RX h⟩
/-! ### need_some_point -/
abbrev sp_need_some_point : DSp := DL.sp_need_some_point
def r_need_some_point : DS := (dSeq (dIfS (dOr (dNot (dTst (dCall sp_is_list X0 (dCons (dVar 0) dNil)))) (dNot (dTst (dCall sp_is_within X0 (dCons (dCal fLen (dCons (dVar 0) dNil)) (dCons (dC (.int 1)) (dCons (dC (.int 2)) dNil))))))) dNever dNext) (dRet (dCallD sp_need_point [D.str "point"] X0 (dCons (dVar 0) (dCons (dCal fLen (dCons (dVar 0) dNil)) dNil)))))
theorem sc_need_some_point : FnScope ["value"] ["value"] (defScope st_need_some_point) := ⟨rfl, rfl, rfl, by decide +kernel, rfl, by decide +kernel, by decide +kernel⟩
theorem v_need_some_point (xs : List D) (G : Gm) (R : KD) (RX : XD) (h : sp_need_some_point xs G R RX) : r_need_some_point { nx := fun _ G => R .non G, rt := R } (xs.map some ++ List.replicate (1 - xs.length) none) G := by
  exact need_some_point_ok xs G R RX h
theorem l_need_some_point (xs : List D) (G : Gm) (R : KD) (RX : XD) (h : sp_need_some_point xs G R RX) : xs.length = 1 := by
  obtain ⟨_, _, rfl, _⟩ := h
  rfl
set_option maxHeartbeats 4000000 in
theorem k_need_some_point {P : Program} {w : World} {K : PySem.W.Frag} {mg : Str → Option Value} {base : Heap} (T : Tx mg) (F : Df K mg "need_some_point" st_need_some_point) (k_is_within : Kn P w K mg base 2 "is_within" st_is_within ["value", "least", "most"] sp_is_within) (k_is_list : Kn P w K mg base 1 "is_list" st_is_list ["value"] sp_is_list) (k_need_point : KnD P w K mg base 4 "need_point" st_need_point ["value", "wide", "part"] [V.str "point"] sp_need_point) :
    Kn P w K mg base 5 "need_some_point" st_need_some_point ["value"] sp_need_some_point :=
  kn_of F.g F.f sc_need_some_point l_need_some_point fun cdv A outer s H E B RX hr hg kx => ⟨r_need_some_point, (psd_cons (psd_if (PW.pt (pwd_or (ptd_not (ptd_val (pd_call k_is_list (hr.mono (by decide)) hg rfl pass0 kx0 (fun _ _ _ _ _ _ us hl => match us, hl with | [_], _ => rfl) (pda_cons (pd_var 0) pda_nil)))) (pwd_or1 (ptd_not (ptd_val (pd_call k_is_within (hr.mono (by decide)) hg rfl pass0 kx0 (fun _ _ _ _ _ _ us hl => match us, hl with | [_, _, _], _ => rfl) (pda_cons (pd_len rfl rfl T.f_len (pd_var 0)) (pda_cons pd_int (pda_cons (pd_gint rfl T.c_MOST_WIDE) pda_nil))))))))) (psd_one psd_never) psd_nil) (psd_one (psd_ret (pd_callD (n := 2) (j := 0) (ds := [D.str "point"]) k_need_point (by simp) (hr.mono (by decide)) hg rfl pass0 kx0 rfl (fun _ => .cons (.str _) (.nil)) (fun _ _ _ _ _ _ _ us its hl hl2 => match us, hl, its, hl2 with | [_, _], _, [_], _ => ⟨_, rfl, rfl⟩) (pda_cons (pd_var 0) (pda_cons (pd_len rfl rfl T.f_len (pd_var 0)) pda_nil)))))), fun xs G R h => v_need_some_point xs G R RX h⟩
/-! ### wholes_in -/
abbrev sp_wholes_in : DSp := DL.sp_wholes_in
def r_wholes_in : DS := (dRet (dCal fTupOf (dCons (dCmp (dISeq (dVar 0)) (gN 2) dYes (dCall sp_whole_in X0 (dCons (dCall sp_times_in X0 (dCons (dVar 2) (dCons (dVar 1) dNil))) dNil)) [2]) dNil)))
theorem sc_wholes_in : FnScope ["point", "place", "number"] ["point", "place"] (defScope st_wholes_in) := ⟨rfl, rfl, rfl, by decide +kernel, rfl, by decide +kernel, by decide +kernel⟩
theorem v_wholes_in (xs : List D) (G : Gm) (R : KD) (RX : XD) (h : sp_wholes_in xs G R RX) : r_wholes_in { nx := fun _ G => R .non G, rt := R } (xs.map some ++ List.replicate (3 - xs.length) none) G := by
  exact wholes_in_ok xs G R RX h
theorem l_wholes_in (xs : List D) (G : Gm) (R : KD) (RX : XD) (h : sp_wholes_in xs G R RX) : xs.length = 2 := by
  obtain ⟨_, _, rfl, _⟩ := h
  rfl
set_option maxHeartbeats 4000000 in
theorem k_wholes_in {P : Program} {w : World} {K : PySem.W.Frag} {mg : Str → Option Value} {base : Heap} (T : Tx mg) (F : Df K mg "wholes_in" st_wholes_in) (k_times_in : Kn P w K mg base 3 "times_in" st_times_in ["one", "other"] sp_times_in) (k_whole_in : Kn P w K mg base 3 "whole_in" st_whole_in ["number"] sp_whole_in) :
    Kn P w K mg base 4 "wholes_in" st_wholes_in ["point", "place"] sp_wholes_in :=
  kn_of F.g F.f sc_wholes_in l_wholes_in fun cdv A outer s H E B RX hr hg kx => ⟨r_wholes_in, (psd_one (psd_ret (pd_callTy call_tuple_of cd_tuple rfl T.f_tuple (by decide +kernel) (pda_cons (pd_lc (own := [("number", 2)]) rfl sc_wholes_in.nd (pid_seq (pd_var 0)) (blkOk_by (N := ["point", "place", "number"]) (sc := defScope st_wholes_in) (by decide +kernel)) (by decide) (fun _ _ _ _ _ _ => (pgd_name (i := 2) sc_wholes_in.nd rfl (by first | exact Or.inl rfl | exact Or.inr rfl))) (fun _ _ _ _ _ _ => ptsd_nil) (fun _ _ _ _ _ _ => (pd_call k_whole_in (hr.mono (by decide)) hg rfl pass0 kx0 (fun _ _ _ _ _ _ us hl => match us, hl with | [_], _ => rfl) (pda_cons (pd_call k_times_in (hr.mono (by decide)) hg rfl pass0 kx0 (fun _ _ _ _ _ _ us hl => match us, hl with | [_, _], _ => rfl) (pda_cons (pd_var 2) (pda_cons (pd_var 1) pda_nil))) pda_nil)))) pda_nil)))), fun xs G R h => v_wholes_in xs G R RX h⟩
/-! ### gone -/
abbrev sp_gone : DSp := DL.sp_gone
def r_gone : DS := (dRet (dCal fTupOf (dCons (dCmp (dIZip (dCons (dVar 0) (dCons (dVar 1) dNil))) (gSeq 2 (gCons (gN 2) (gCons (gN 3) gNil))) dYes (dOp (fInt fun i j => .int (i - j)) (dVar 2) (dVar 3)) [2, 3]) dNil)))
theorem sc_gone : FnScope ["one", "other", "mine", "its"] ["one", "other"] (defScope st_gone) := ⟨rfl, rfl, rfl, by decide +kernel, rfl, by decide +kernel, by decide +kernel⟩
theorem v_gone (xs : List D) (G : Gm) (R : KD) (RX : XD) (h : sp_gone xs G R RX) : r_gone { nx := fun _ G => R .non G, rt := R } (xs.map some ++ List.replicate (4 - xs.length) none) G := by
  exact gone_ok xs G R RX h
theorem l_gone (xs : List D) (G : Gm) (R : KD) (RX : XD) (h : sp_gone xs G R RX) : xs.length = 2 := by
  obtain ⟨_, _, rfl, _⟩ := h
  rfl
set_option maxHeartbeats 4000000 in
theorem k_gone {P : Program} {w : World} {K : PySem.W.Frag} {mg : Str → Option Value} {base : Heap} (T : Tx mg) (F : Df K mg "gone" st_gone) :
    Kn P w K mg base 1 "gone" st_gone ["one", "other"] sp_gone :=
  kn_of F.g F.f sc_gone l_gone fun cdv A outer s H E B RX hr hg kx => ⟨r_gone, (psd_one (psd_ret (pd_callTy call_tuple_of cd_tuple rfl T.f_tuple (by decide +kernel) (pda_cons (pd_lc (own := [("mine", 2), ("its", 3)]) rfl sc_gone.nd (pid_zip rfl T.f_zip (pda_cons (pd_var 0) (pda_cons (pd_var 1) pda_nil))) (blkOk_by (N := ["one", "other", "mine", "its"]) (sc := defScope st_gone) (by decide +kernel)) (by decide) (fun _ _ _ _ _ _ => (pgd_seq rfl (pgsd_cons (pgd_name (i := 2) sc_gone.nd rfl (by first | exact Or.inl rfl | exact Or.inr rfl)) (pgsd_cons (pgd_name (i := 3) sc_gone.nd rfl (by first | exact Or.inl rfl | exact Or.inr rfl)) pgsd_nil)))) (fun _ _ _ _ _ _ => ptsd_nil) (fun _ _ _ _ _ _ => (pd_sub (pd_var 2) (pd_var 3)))) pda_nil)))), fun xs G R h => v_gone xs G R RX h⟩
/-! ### labels_in -/
abbrev sp_labels_in : DSp := DL.sp_labels_in
def r_labels_in : DS := (dSeq (dSet 3 (dCmp (dIRng1 (dOp fAdd (dVar 2) (dC (.int 1)))) (gN 4) dYes (dCall sp_wholes_in X0 (dCons (dVar 0) (dCons (dOp fAdd (dOp (fInt fun i j => .int (i - j)) (dVar 1) (dC (.int 1))) (dVar 4)) dNil))) [4])) (dRet (dCal fTupOf (dCons (dCmp (dIRng1 (dVar 2)) (gN 4) dYes (dCall sp_gone X0 (dCons (dIx (dVar 3) (dOp fAdd (dVar 4) (dC (.int 1)))) (dCons (dIx (dVar 3) (dVar 4)) dNil))) [4]) dNil))))
theorem sc_labels_in : FnScope ["point", "first", "many", "wholes", "at"] ["point", "first", "many"] (defScope st_labels_in) := ⟨rfl, rfl, rfl, by decide +kernel, rfl, by decide +kernel, by decide +kernel⟩
theorem v_labels_in (xs : List D) (G : Gm) (R : KD) (RX : XD) (h : sp_labels_in xs G R RX) : r_labels_in { nx := fun _ G => R .non G, rt := R } (xs.map some ++ List.replicate (5 - xs.length) none) G := by
  exact labels_in_ok xs G R RX h
theorem l_labels_in (xs : List D) (G : Gm) (R : KD) (RX : XD) (h : sp_labels_in xs G R RX) : xs.length = 3 := by
  obtain ⟨_, _, _, rfl, _⟩ := h
  rfl
set_option maxHeartbeats 4000000 in
theorem k_labels_in {P : Program} {w : World} {K : PySem.W.Frag} {mg : Str → Option Value} {base : Heap} (T : Tx mg) (F : Df K mg "labels_in" st_labels_in) (k_wholes_in : Kn P w K mg base 4 "wholes_in" st_wholes_in ["point", "place"] sp_wholes_in) (k_gone : Kn P w K mg base 1 "gone" st_gone ["one", "other"] sp_gone) :
    Kn P w K mg base 5 "labels_in" st_labels_in ["point", "first", "many"] sp_labels_in :=
  kn_of F.g F.f sc_labels_in l_labels_in fun cdv A outer s H E B RX hr hg kx => ⟨r_labels_in, (psd_cons (psd_set (i := 3) sc_labels_in.nd rfl (by first | exact Or.inl rfl | exact Or.inr rfl) (pd_lc (own := [("at", 4)]) rfl sc_labels_in.nd (pid_rng1 rfl T.f_range (pd_add (pd_var 2) pd_int)) (blkOk_by (N := ["point", "first", "many", "wholes", "at"]) (sc := defScope st_labels_in) (by decide +kernel)) (by decide) (fun _ _ _ _ _ _ => (pgd_name (i := 4) sc_labels_in.nd rfl (by first | exact Or.inl rfl | exact Or.inr rfl))) (fun _ _ _ _ _ _ => ptsd_nil) (fun _ _ _ _ _ _ => (pd_call k_wholes_in (hr.mono (by decide)) hg rfl pass0 kx0 (fun _ _ _ _ _ _ us hl => match us, hl with | [_, _], _ => rfl) (pda_cons (pd_var 0) (pda_cons (pd_add (pd_sub (pd_var 1) pd_int) (pd_var 4)) pda_nil)))))) (psd_one (psd_ret (pd_callTy call_tuple_of cd_tuple rfl T.f_tuple (by decide +kernel) (pda_cons (pd_lc (own := [("at", 4)]) rfl sc_labels_in.nd (pid_rng1 rfl T.f_range (pd_var 2)) (blkOk_by (N := ["point", "first", "many", "wholes", "at"]) (sc := defScope st_labels_in) (by decide +kernel)) (by decide) (fun _ _ _ _ _ _ => (pgd_name (i := 4) sc_labels_in.nd rfl (by first | exact Or.inl rfl | exact Or.inr rfl))) (fun _ _ _ _ _ _ => ptsd_nil) (fun _ _ _ _ _ _ => (pd_call k_gone (hr.mono (by decide)) hg rfl pass0 kx0 (fun _ _ _ _ _ _ us hl => match us, hl with | [_, _], _ => rfl) (pda_cons (pd_ix (pd_var 3) (pd_add (pd_var 4) pd_int) (fun _ _ => rfl)) (pda_cons (pd_ix (pd_var 3) (pd_var 4) (fun _ _ => rfl)) pda_nil))))) pda_nil))))), fun xs G R h => v_labels_in xs G R RX h⟩
/-! ### labels_of -/
abbrev sp_labels_of : DSp := DL.sp_labels_of
def r_labels_of : DS := (dSeq (dSet 3 (dCall sp_need_some_point X0 (dCons (dVar 0) dNil))) (dSeq (dDrop (dCall sp_need_number X0 (dCons (dVar 1) (dCons (dC (.str "first")) (dCons (dC .non) (dCons (dC .non) dNil)))))) (dSeq (dDrop (dCall sp_need_number X0 (dCons (dVar 2) (dCons (dC (.str "many")) (dCons (dC (.int 0)) (dCons (dC (.int 2000)) dNil)))))) (dRet (dCall sp_labels_in X0 (dCons (dVar 3) (dCons (dVar 1) (dCons (dVar 2) dNil))))))))
theorem sc_labels_of : FnScope ["point", "first", "many", "told"] ["point", "first", "many"] (defScope st_labels_of) := ⟨rfl, rfl, rfl, by decide +kernel, rfl, by decide +kernel, by decide +kernel⟩
theorem v_labels_of (xs : List D) (G : Gm) (R : KD) (RX : XD) (h : sp_labels_of xs G R RX) : r_labels_of { nx := fun _ G => R .non G, rt := R } (xs.map some ++ List.replicate (4 - xs.length) none) G := by
  exact labels_of_ok xs G R RX h
theorem l_labels_of (xs : List D) (G : Gm) (R : KD) (RX : XD) (h : sp_labels_of xs G R RX) : xs.length = 3 := by
  obtain ⟨_, _, _, _, rfl, _⟩ := h
  rfl
set_option maxHeartbeats 4000000 in
theorem k_labels_of {P : Program} {w : World} {K : PySem.W.Frag} {mg : Str → Option Value} {base : Heap} (T : Tx mg) (F : Df K mg "labels_of" st_labels_of) (k_need_number : Kn P w K mg base 3 "need_number" st_need_number ["value", "part", "least", "most"] sp_need_number) (k_need_some_point : Kn P w K mg base 5 "need_some_point" st_need_some_point ["value"] sp_need_some_point) (k_labels_in : Kn P w K mg base 5 "labels_in" st_labels_in ["point", "first", "many"] sp_labels_in) :
    Kn P w K mg base 6 "labels_of" st_labels_of ["point", "first", "many"] sp_labels_of :=
  kn_of F.g F.f sc_labels_of l_labels_of fun cdv A outer s H E B RX hr hg kx => ⟨r_labels_of, (psd_cons (psd_set (i := 3) sc_labels_of.nd rfl (by first | exact Or.inl rfl | exact Or.inr rfl) (pd_call k_need_some_point (hr.mono (by decide)) hg rfl pass0 kx0 (fun _ _ _ _ _ _ us hl => match us, hl with | [_], _ => rfl) (pda_cons (pd_var 0) pda_nil))) (psd_cons (psd_expr (pd_call k_need_number (hr.mono (by decide)) hg rfl pass0 kx0 (fun _ _ _ _ _ _ us hl => match us, hl with | [_, _, _, _], _ => rfl) (pda_cons (pd_var 1) (pda_cons pd_str (pda_cons pd_non (pda_cons pd_non pda_nil)))))) (psd_cons (psd_expr (pd_call k_need_number (hr.mono (by decide)) hg rfl pass0 kx0 (fun _ _ _ _ _ _ us hl => match us, hl with | [_, _, _, _], _ => rfl) (pda_cons (pd_var 2) (pda_cons pd_str (pda_cons pd_int (pda_cons (pd_gint rfl T.c_MOST_LABELS) pda_nil)))))) (psd_one (psd_ret (pd_call k_labels_in (hr.mono (by decide)) hg rfl pass0 kx0 (fun _ _ _ _ _ _ us hl => match us, hl with | [_, _, _], _ => rfl) (pda_cons (pd_var 3) (pda_cons (pd_var 1) (pda_cons (pd_var 2) pda_nil))))))))), fun xs G R h => v_labels_of xs G R RX h⟩
/-! ### sum_of -/
abbrev sp_sum_of : DSp := DL.sp_sum_of
def r_sum_of : DS := (dSeq (dSet 3 (dCall sp_need_some_point X0 (dCons (dVar 0) dNil))) (dSeq (dDrop (dCall sp_need_number X0 (dCons (dVar 1) (dCons (dC (.str "first")) (dCons (dC .non) (dCons (dC .non) dNil)))))) (dSeq (dDrop (dCall sp_need_number X0 (dCons (dVar 2) (dCons (dC (.str "many")) (dCons (dC (.int 0)) (dCons (dC .non) dNil)))))) (dRet (dCall sp_gone X0 (dCons (dCall sp_wholes_in X0 (dCons (dVar 3) (dCons (dOp (fInt fun i j => .int (i - j)) (dOp fAdd (dVar 1) (dVar 2)) (dC (.int 1))) dNil))) (dCons (dCall sp_wholes_in X0 (dCons (dVar 3) (dCons (dOp (fInt fun i j => .int (i - j)) (dVar 1) (dC (.int 1))) dNil))) dNil)))))))
theorem sc_sum_of : FnScope ["point", "first", "many", "told"] ["point", "first", "many"] (defScope st_sum_of) := ⟨rfl, rfl, rfl, by decide +kernel, rfl, by decide +kernel, by decide +kernel⟩
theorem v_sum_of (xs : List D) (G : Gm) (R : KD) (RX : XD) (h : sp_sum_of xs G R RX) : r_sum_of { nx := fun _ G => R .non G, rt := R } (xs.map some ++ List.replicate (4 - xs.length) none) G := by
  exact sum_of_ok xs G R RX h
theorem l_sum_of (xs : List D) (G : Gm) (R : KD) (RX : XD) (h : sp_sum_of xs G R RX) : xs.length = 3 := by
  obtain ⟨_, _, _, _, rfl, _⟩ := h
  rfl
set_option maxHeartbeats 4000000 in
theorem k_sum_of {P : Program} {w : World} {K : PySem.W.Frag} {mg : Str → Option Value} {base : Heap} (T : Tx mg) (F : Df K mg "sum_of" st_sum_of) (k_need_number : Kn P w K mg base 3 "need_number" st_need_number ["value", "part", "least", "most"] sp_need_number) (k_need_some_point : Kn P w K mg base 5 "need_some_point" st_need_some_point ["value"] sp_need_some_point) (k_wholes_in : Kn P w K mg base 4 "wholes_in" st_wholes_in ["point", "place"] sp_wholes_in) (k_gone : Kn P w K mg base 1 "gone" st_gone ["one", "other"] sp_gone) :
    Kn P w K mg base 6 "sum_of" st_sum_of ["point", "first", "many"] sp_sum_of :=
  kn_of F.g F.f sc_sum_of l_sum_of fun cdv A outer s H E B RX hr hg kx => ⟨r_sum_of, (psd_cons (psd_set (i := 3) sc_sum_of.nd rfl (by first | exact Or.inl rfl | exact Or.inr rfl) (pd_call k_need_some_point (hr.mono (by decide)) hg rfl pass0 kx0 (fun _ _ _ _ _ _ us hl => match us, hl with | [_], _ => rfl) (pda_cons (pd_var 0) pda_nil))) (psd_cons (psd_expr (pd_call k_need_number (hr.mono (by decide)) hg rfl pass0 kx0 (fun _ _ _ _ _ _ us hl => match us, hl with | [_, _, _, _], _ => rfl) (pda_cons (pd_var 1) (pda_cons pd_str (pda_cons pd_non (pda_cons pd_non pda_nil)))))) (psd_cons (psd_expr (pd_call k_need_number (hr.mono (by decide)) hg rfl pass0 kx0 (fun _ _ _ _ _ _ us hl => match us, hl with | [_, _, _, _], _ => rfl) (pda_cons (pd_var 2) (pda_cons pd_str (pda_cons pd_int (pda_cons pd_non pda_nil)))))) (psd_one (psd_ret (pd_call k_gone (hr.mono (by decide)) hg rfl pass0 kx0 (fun _ _ _ _ _ _ us hl => match us, hl with | [_, _], _ => rfl) (pda_cons (pd_call k_wholes_in (hr.mono (by decide)) hg rfl pass0 kx0 (fun _ _ _ _ _ _ us hl => match us, hl with | [_, _], _ => rfl) (pda_cons (pd_var 3) (pda_cons (pd_sub (pd_add (pd_var 1) (pd_var 2)) pd_int) pda_nil))) (pda_cons (pd_call k_wholes_in (hr.mono (by decide)) hg rfl pass0 kx0 (fun _ _ _ _ _ _ us hl => match us, hl with | [_, _], _ => rfl) (pda_cons (pd_var 3) (pda_cons (pd_sub (pd_var 1) pd_int) pda_nil))) pda_nil)))))))), fun xs G R h => v_sum_of xs G R RX h⟩
/-! ### comes_again -/
abbrev sp_comes_again : DSp := fun xs G R _ => ∃ x ds, xs = [x] ∧ PtN x ds ∧ R (.int (lcmL 1 ds)) G
def r_comes_again : DS := (dRet (dCall sp_least_in X0 (dCons (dCall sp_need_some_point X0 (dCons (dVar 0) dNil)) dNil)))
theorem sc_comes_again : FnScope ["point"] ["point"] (defScope st_comes_again) := ⟨rfl, rfl, rfl, by decide +kernel, rfl, by decide +kernel, by decide +kernel⟩
theorem v_comes_again (xs : List D) (G : Gm) (R : KD) (RX : XD) (h : sp_comes_again xs G R RX) : r_comes_again { nx := fun _ G => R .non G, rt := R } (xs.map some ++ List.replicate (1 - xs.length) none) G := by
  obtain ⟨x, ds, rfl, hp, h⟩ := h
  refine ds_ret (x := .int (lcmL 1 ds)) (.call (.one (.somePoint (.var rfl) hp.pt hp.l1 hp.l2)) fun R r => ⟨_, ds.map keptD, rfl, .inr rfl, hp.nm.kept, by rw [List.length_map]; exact hp.l2, ?_⟩) h
  rw [lcmL_map fun q _ => kept_I]
  exact r
theorem l_comes_again (xs : List D) (G : Gm) (R : KD) (RX : XD) (h : sp_comes_again xs G R RX) : xs.length = 1 := by
  obtain ⟨_, _, rfl, _⟩ := h
  rfl
set_option maxHeartbeats 4000000 in
theorem k_comes_again {P : Program} {w : World} {K : PySem.W.Frag} {mg : Str → Option Value} {base : Heap} (T : Tx mg) (F : Df K mg "comes_again" st_comes_again) (k_least_in : Kn P w K mg base 3 "least_in" st_least_in ["numbers"] sp_least_in) (k_need_some_point : Kn P w K mg base 5 "need_some_point" st_need_some_point ["value"] sp_need_some_point) :
    Kn P w K mg base 6 "comes_again" st_comes_again ["point"] sp_comes_again :=
  kn_of F.g F.f sc_comes_again l_comes_again fun cdv A outer s H E B RX hr hg kx => ⟨r_comes_again, (psd_one (psd_ret (pd_call k_least_in (hr.mono (by decide)) hg rfl pass0 kx0 (fun _ _ _ _ _ _ us hl => match us, hl with | [_], _ => rfl) (pda_cons (pd_call k_need_some_point (hr.mono (by decide)) hg rfl pass0 kx0 (fun _ _ _ _ _ _ us hl => match us, hl with | [_], _ => rfl) (pda_cons (pd_var 0) pda_nil)) pda_nil)))), fun xs G R h => v_comes_again xs G R RX h⟩
/-! ### _law_abacus -/
abbrev sp__law_abacus : DSp := spGauge
def r__law_abacus : DS := (dRet (dLstM (dCons (dCmp (dISeq (dSl (dVar 0) dNoP (dPart (dC (.int 60))))) (gN 1) dYes (dCal fIntOf (dCons (dVar 1) dNil)) [1]) (dCons (dC (.int 0)) (dCons (dC (.int 0)) dNil)))))
theorem sc__law_abacus : FnScope ["_law_script", "_law_cell"] ["_law_script"] (defScope st__law_abacus) := ⟨rfl, rfl, rfl, by decide +kernel, rfl, by decide +kernel, by decide +kernel⟩
theorem v__law_abacus (xs : List D) (G : Gm) (R : KD) (RX : XD) (h : sp__law_abacus xs G R RX) : r__law_abacus { nx := fun _ G => R .non G, rt := R } (xs.map some ++ List.replicate (2 - xs.length) none) G := by
  exact gauge_ok (c := 60) xs G R RX h
theorem l__law_abacus (xs : List D) (G : Gm) (R : KD) (RX : XD) (h : sp__law_abacus xs G R RX) : xs.length = 1 := by
  obtain ⟨_, rfl, _⟩ := h
  rfl
set_option maxHeartbeats 4000000 in
theorem k__law_abacus {P : Program} {w : World} {K : PySem.W.Frag} {mg : Str → Option Value} {base : Heap} (T : Tx mg) (F : Df K mg "_law_abacus" st__law_abacus) :
    Kn P w K mg base 1 "_law_abacus" st__law_abacus ["_law_script"] sp__law_abacus :=
  kn_of F.g F.f sc__law_abacus l__law_abacus fun cdv A outer s H E B RX hr hg kx => ⟨r__law_abacus, (psd_one (psd_ret (pd_lstM (pda_cons (pd_lc (own := [("_law_cell", 1)]) rfl sc__law_abacus.nd (pid_seq (pd_slice (pd_var 0) pod_none (pod_some pd_int))) (blkOk_by (N := ["_law_script", "_law_cell"]) (sc := defScope st__law_abacus) (by decide +kernel)) (by decide) (fun _ _ _ _ _ _ => (pgd_name (i := 1) sc__law_abacus.nd rfl (by first | exact Or.inl rfl | exact Or.inr rfl))) (fun _ _ _ _ _ _ => ptsd_nil) (fun _ _ _ _ _ _ => (pd_callTy call_int1 cd_int rfl T.f_int (by decide +kernel) (pda_cons (pd_var 1) pda_nil)))) (pda_cons pd_int (pda_cons pd_int pda_nil)))))), fun xs G R h => v__law_abacus xs G R RX h⟩
/-! ### _law_slide -/
abbrev sp__law_slide : DSp := spDial
def r__law_slide : DS := (dSeq (dIfS (dTst (dOp (fInt gGt) (dIx (dVar 0) (dC (.int 2))) (dC (.int 0)))) (dSeq (dSet 2 (dCal fIntOf (dCons (dIx (dVar 0) (dC (.int 2))) dNil))) (dSeq (dSetIx (dOp (fIntC CDivW fun i j => .int (i / j)) (dVar 2) (dVar 1)) (dVar 0) (dC (.int 2))) (dRet (dOp (fIntC (fun _ j => 0 < j) fun i j => .int (i % j)) (dCal fIntOf (dCons (dVar 2) dNil)) (dVar 1))))) dNext) (dSeq (dSet 3 (dIx (dVar 0) (dC (.int 1)))) (dSeq (dSetIx (dOp fAdd (dVar 3) (dC (.int 1))) (dVar 0) (dC (.int 1))) (dSeq (dSet 4 (dOp fAdd (dOp (fIntC IntMulOk fun i j => .int (i * j)) (dC (.int 44017)) (dVar 3)) (dC (.int 6709)))) (dSeq (dIfS (dTst (dOp fNe (dIx (dVar 0) (dC (.int 0))) (dLst dNil))) (dSet 4 (dIx (dIx (dVar 0) (dC (.int 0))) (dOp (fIntC (fun _ j => 0 < j) fun i j => .int (i % j)) (dCal fIntOf (dCons (dVar 3) dNil)) (dCal fLen (dCons (dIx (dVar 0) (dC (.int 0))) dNil))))) dNext) (dSeq (dIfS (dAnd (dTst (dOp (fInt gLt) (dVar 3) (dCal fLen (dCons (dIx (dVar 0) (dC (.int 0))) dNil)))) (dTst (dOp (fInt gGe) (dCal fAbs (dCons (dVar 4) dNil)) (dOp (fIntC CPw fun i j => .int (i ^ j.toNat)) (dC (.int 10)) (dC (.int 18)))))) (dSeq (dSet 2 (dOp fAdd (dOp (fIntC IntMulOk fun i j => .int (i * j)) (dC (.int 2)) (dOp (fInt fun i j => .int (i - j)) (dCal fAbs (dCons (dVar 4) dNil)) (dOp (fIntC CPw fun i j => .int (i ^ j.toNat)) (dC (.int 10)) (dC (.int 18))))) (dCal fIntOf (dCons (dOp (fInt gLt) (dVar 4) (dC (.int 0))) dNil)))) (dSeq (dSetIx (dOp (fIntC CDivW fun i j => .int (i / j)) (dVar 2) (dVar 1)) (dVar 0) (dC (.int 2))) (dRet (dOp (fIntC (fun _ j => 0 < j) fun i j => .int (i % j)) (dCal fIntOf (dCons (dVar 2) dNil)) (dVar 1))))) dNext) (dSeq (dSet 5 (dOp (fIntC (fun _ j => 0 < j) fun i j => .int (i % j)) (dCal fIntOf (dCons (dOp (fIntC CPw fun i j => .int (i ^ j.toNat)) (dOp fAdd (dOp fAdd (dOp (fIntC (fun _ j => 0 < j) fun i j => .int (i % j)) (dCal fIntOf (dCons (dVar 4) dNil)) (dC (.int 2147483549))) (dOp (fIntC IntMulOk fun i j => .int (i * j)) (dC (.int 62131)) (dVar 3))) (dC (.int 6709))) (dC (.int 5))) dNil)) (dC (.int 2147483543)))) (dSeq (dSet 5 (dOp (fIntC (fun _ j => 0 < j) fun i j => .int (i % j)) (dCal fIntOf (dCons (dOp (fIntC CPw fun i j => .int (i ^ j.toNat)) (dOp fAdd (dOp fAdd (dOp (fIntC IntMulOk fun i j => .int (i * j)) (dVar 5) (dOp fAdd (dOp (fIntC IntMulOk fun i j => .int (i * j)) (dC (.int 2)) (dVar 3)) (dC (.int 3121)))) (dOp (fIntC IntMulOk fun i j => .int (i * j)) (dOp (fIntC IntMulOk fun i j => .int (i * j)) (dC (.int 44017)) (dVar 3)) (dVar 3))) (dC (.int 62131))) (dC (.int 3))) dNil)) (dC (.int 2147483497)))) (dRet (dOp (fIntC (fun _ j => 0 < j) fun i j => .int (i % j)) (dCal fIntOf (dCons (dOp (fIntC CDivW fun i j => .int (i / j)) (dVar 5) (dC (.int 64))) dNil)) (dVar 1)))))))))))
theorem sc__law_slide : FnScope ["_law_abacus_here", "_law_many", "_law_left", "_law_at", "_law_cell", "_law_mixed"] ["_law_abacus_here", "_law_many"] (defScope st__law_slide) := ⟨rfl, rfl, rfl, by decide +kernel, rfl, by decide +kernel, by decide +kernel⟩
theorem v__law_slide (xs : List D) (G : Gm) (R : KD) (RX : XD) (h : sp__law_slide xs G R RX) : r__law_slide { nx := fun _ G => R .non G, rt := R } (xs.map some ++ List.replicate (6 - xs.length) none) G := by
  exact dialC_ok (c0 := 44017) (c1 := 6709) (c2 := 2147483549) (c3 := 62131) (c4 := 6709) (c5 := 2147483543) (c6 := 3121) (c7 := 44017) (c8 := 62131) (c9 := 2147483497) ⟨by decide, by decide⟩ ⟨by decide, by decide⟩ ⟨by decide, by decide⟩ ⟨by decide, by decide⟩ ⟨by decide, by decide⟩ ⟨by decide, by decide⟩ ⟨by decide, by decide⟩ ⟨by decide, by decide⟩ ⟨by decide, by decide⟩ ⟨by decide, by decide⟩ xs G R RX h
theorem l__law_slide (xs : List D) (G : Gm) (R : KD) (RX : XD) (h : sp__law_slide xs G R RX) : xs.length = 2 := by
  obtain ⟨_, _, _, rfl, _⟩ := h
  rfl
set_option maxHeartbeats 4000000 in
theorem k__law_slide {P : Program} {w : World} {K : PySem.W.Frag} {mg : Str → Option Value} {base : Heap} (T : Tx mg) (F : Df K mg "_law_slide" st__law_slide) :
    Kn P w K mg base 1 "_law_slide" st__law_slide ["_law_abacus_here", "_law_many"] sp__law_slide :=
  kn_of F.g F.f sc__law_slide l__law_slide fun cdv A outer s H E B RX hr hg kx => ⟨r__law_slide, (psd_cons (psd_if (ptd_cmp op_gt od_bl (pd_ix (pd_var 0) pd_int (fun _ _ => rfl)) pd_int (nomark _)) (psd_cons (psd_set (i := 2) sc__law_slide.nd rfl (by first | exact Or.inl rfl | exact Or.inr rfl) (pd_callTy call_int1 cd_int rfl T.f_int (by decide +kernel) (pda_cons (pd_ix (pd_var 0) pd_int (fun _ _ => rfl)) pda_nil))) (psd_cons (psd_setIx (pd_fdiv (pd_var 2) (pd_var 1)) (pd_var 0) pd_int) (psd_one (psd_ret (pd_mod (pd_callTy call_int1 cd_int rfl T.f_int (by decide +kernel) (pda_cons (pd_var 2) pda_nil)) (pd_var 1)))))) psd_nil) (psd_cons (psd_set (i := 3) sc__law_slide.nd rfl (by first | exact Or.inl rfl | exact Or.inr rfl) (pd_ix (pd_var 0) pd_int (fun _ _ => rfl))) (psd_cons (psd_setIx (pd_add (pd_var 3) pd_int) (pd_var 0) pd_int) (psd_cons (psd_set (i := 4) sc__law_slide.nd rfl (by first | exact Or.inl rfl | exact Or.inr rfl) (pd_add (pd_mul pd_int (pd_var 3)) pd_int)) (psd_cons (psd_if (ptd_cmp (op_ne2 hr.units) od_ne (pd_ix (pd_var 0) pd_int (fun _ _ => rfl)) (pd_lst pda_nil) (nomark _)) (psd_one (psd_set (i := 4) sc__law_slide.nd rfl (by first | exact Or.inl rfl | exact Or.inr rfl) (pd_ix (pd_ix (pd_var 0) pd_int (fun _ _ => rfl)) (pd_mod (pd_callTy call_int1 cd_int rfl T.f_int (by decide +kernel) (pda_cons (pd_var 3) pda_nil)) (pd_len rfl rfl T.f_len (pd_ix (pd_var 0) pd_int (fun _ _ => rfl)))) (fun _ _ => rfl)))) psd_nil) (psd_cons (psd_if (PW.pt (pwd_and (ptd_cmp op_lt od_bl (pd_var 3) (pd_len rfl rfl T.f_len (pd_ix (pd_var 0) pd_int (fun _ _ => rfl))) (nomark _)) (pwd_and1 (ptd_cmp op_ge od_bl (pd_callB call_abs cd_abs rfl T.f_abs (by decide +kernel) (pda_cons (pd_var 4) pda_nil)) (pd_pow pd_int pd_int) (nomark _))))) (psd_cons (psd_set (i := 2) sc__law_slide.nd rfl (by first | exact Or.inl rfl | exact Or.inr rfl) (pd_add (pd_mul pd_int (pd_sub (pd_callB call_abs cd_abs rfl T.f_abs (by decide +kernel) (pda_cons (pd_var 4) pda_nil)) (pd_pow pd_int pd_int))) (pd_callTy call_int1 cd_int rfl T.f_int (by decide +kernel) (pda_cons (pd_cmp op_lt od_bl (pd_var 4) pd_int (nomark _)) pda_nil)))) (psd_cons (psd_setIx (pd_fdiv (pd_var 2) (pd_var 1)) (pd_var 0) pd_int) (psd_one (psd_ret (pd_mod (pd_callTy call_int1 cd_int rfl T.f_int (by decide +kernel) (pda_cons (pd_var 2) pda_nil)) (pd_var 1)))))) psd_nil) (psd_cons (psd_set (i := 5) sc__law_slide.nd rfl (by first | exact Or.inl rfl | exact Or.inr rfl) (pd_mod (pd_callTy call_int1 cd_int rfl T.f_int (by decide +kernel) (pda_cons (pd_pow (pd_add (pd_add (pd_mod (pd_callTy call_int1 cd_int rfl T.f_int (by decide +kernel) (pda_cons (pd_var 4) pda_nil)) pd_int) (pd_mul pd_int (pd_var 3))) pd_int) pd_int) pda_nil)) pd_int)) (psd_cons (psd_set (i := 5) sc__law_slide.nd rfl (by first | exact Or.inl rfl | exact Or.inr rfl) (pd_mod (pd_callTy call_int1 cd_int rfl T.f_int (by decide +kernel) (pda_cons (pd_pow (pd_add (pd_add (pd_mul (pd_var 5) (pd_add (pd_mul pd_int (pd_var 3)) pd_int)) (pd_mul (pd_mul pd_int (pd_var 3)) (pd_var 3))) pd_int) pd_int) pda_nil)) pd_int)) (psd_one (psd_ret (pd_mod (pd_callTy call_int1 cd_int rfl T.f_int (by decide +kernel) (pda_cons (pd_fdiv (pd_var 5) pd_int) pda_nil)) (pd_var 1)))))))))))), fun xs G R h => v__law_slide xs G R RX h⟩
/-! ### _law_one -/
abbrev sp__law_one : DSp := spPick
def r__law_one : DS := (dRet (dIx (dVar 1) (dCall sp__law_slide X0 (dCons (dVar 0) (dCons (dCal fLen (dCons (dVar 1) dNil)) dNil)))))
theorem sc__law_one : FnScope ["_law_abacus_here", "_law_some"] ["_law_abacus_here", "_law_some"] (defScope st__law_one) := ⟨rfl, rfl, rfl, by decide +kernel, rfl, by decide +kernel, by decide +kernel⟩
theorem v__law_one (xs : List D) (G : Gm) (R : KD) (RX : XD) (h : sp__law_one xs G R RX) : r__law_one { nx := fun _ G => R .non G, rt := R } (xs.map some ++ List.replicate (2 - xs.length) none) G := by
  exact pick_ok xs G R RX h
theorem l__law_one (xs : List D) (G : Gm) (R : KD) (RX : XD) (h : sp__law_one xs G R RX) : xs.length = 2 := by
  obtain ⟨_, _, _, _, rfl, _⟩ := h
  rfl
set_option maxHeartbeats 4000000 in
theorem k__law_one {P : Program} {w : World} {K : PySem.W.Frag} {mg : Str → Option Value} {base : Heap} (T : Tx mg) (F : Df K mg "_law_one" st__law_one) (k__law_slide : Kn P w K mg base 1 "_law_slide" st__law_slide ["_law_abacus_here", "_law_many"] sp__law_slide) :
    Kn P w K mg base 2 "_law_one" st__law_one ["_law_abacus_here", "_law_some"] sp__law_one :=
  kn_of F.g F.f sc__law_one l__law_one fun cdv A outer s H E B RX hr hg kx => ⟨r__law_one, (psd_one (psd_ret (pd_ix (pd_var 1) (pd_call k__law_slide (hr.mono (by decide)) hg rfl pass0 kx0 (fun _ _ _ _ _ _ us hl => match us, hl with | [_, _], _ => rfl) (pda_cons (pd_var 0) (pda_cons (pd_len rfl rfl T.f_len (pd_var 1)) pda_nil))) (fun _ _ => rfl)))), fun xs G R h => v__law_one xs G R RX h⟩
/-! ### _law_factor -/
abbrev sp__law_factor : DSp := DL.sp_common
def r__law_factor : DS := (dSeq (dPar 0 1 (dCons (dCal fAbs (dCons (dVar 0) dNil)) (dCons (dCal fAbs (dCons (dVar 1) dNil)) dNil))) (dSeq (dWhile (dTst (dOp (fInt gGt) (dVar 1) (dC (.int 0)))) (dPar 0 1 (dCons (dVar 1) (dCons (dOp (fIntC (fun _ j => 0 < j) fun i j => .int (i % j)) (dCal fIntOf (dCons (dVar 0) dNil)) (dVar 1)) dNil)))) (dRet (dVar 0))))
theorem sc__law_factor : FnScope ["_law_one_here", "_law_other"] ["_law_one_here", "_law_other"] (defScope st__law_factor) := ⟨rfl, rfl, rfl, by decide +kernel, rfl, by decide +kernel, by decide +kernel⟩
theorem v__law_factor (xs : List D) (G : Gm) (R : KD) (RX : XD) (h : sp__law_factor xs G R RX) : r__law_factor { nx := fun _ G => R .non G, rt := R } (xs.map some ++ List.replicate (2 - xs.length) none) G := by
  exact fac_ok xs G R RX h
theorem l__law_factor (xs : List D) (G : Gm) (R : KD) (RX : XD) (h : sp__law_factor xs G R RX) : xs.length = 2 := by
  obtain ⟨_, _, rfl, _⟩ := h
  rfl
set_option maxHeartbeats 4000000 in
theorem k__law_factor {P : Program} {w : World} {K : PySem.W.Frag} {mg : Str → Option Value} {base : Heap} (T : Tx mg) (F : Df K mg "_law_factor" st__law_factor) :
    Kn P w K mg base 1 "_law_factor" st__law_factor ["_law_one_here", "_law_other"] sp__law_factor :=
  kn_of F.g F.f sc__law_factor l__law_factor fun cdv A outer s H E B RX hr hg kx => ⟨r__law_factor, (psd_cons (psd_par (i := 0) (j := 1) rfl sc__law_factor.nd rfl rfl (by decide) rfl rfl (pda_cons (pd_callB call_abs cd_abs rfl T.f_abs (by decide +kernel) (pda_cons (pd_var 0) pda_nil)) (pda_cons (pd_callB call_abs cd_abs rfl T.f_abs (by decide +kernel) (pda_cons (pd_var 1) pda_nil)) pda_nil)) rfl) (psd_cons (psd_while (passes_of rfl) (ptd_cmp op_gt od_bl (pd_var 1) pd_int (nomark _)) (psd_one (psd_par (i := 0) (j := 1) rfl sc__law_factor.nd rfl rfl (by decide) rfl rfl (pda_cons (pd_var 1) (pda_cons (pd_mod (pd_callTy call_int1 cd_int rfl T.f_int (by decide +kernel) (pda_cons (pd_var 0) pda_nil)) (pd_var 1)) pda_nil)) rfl))) (psd_one (psd_ret (pd_var 0))))), fun xs G R h => v__law_factor xs G R RX h⟩
/-! ### _law_number -/
abbrev sp__law_number : DSp := fun xs G R _ => ∃ a us N T, xs = [.ref a, .lst us] ∧ GauAt G a T ∧ T + 10 ≤ 1000000000 ∧ us ≠ [] ∧ us.length ≤ 1000000 ∧ (∀ u ∈ us, Up N u) ∧ N ≤ 10 ^ 30 ∧ ∀ x m, Pr N x → Gau m (T + 10) → R x (gup G a m)
def r__law_number : DS := (dSeq (dSet 2 (dCall sp__law_one X0 (dCons (dVar 0) (dCons (dLst (dCons (dC (.int 4)) (dCons (dC (.int 30)) (dCons (dOp (fIntC CPw fun i j => .int (i ^ j.toNat)) (dC (.int 10)) (dC (.int 6))) (dCons (dOp (fIntC CPw fun i j => .int (i ^ j.toNat)) (dC (.int 10)) (dC (.int 30))) dNil))))) dNil)))) (dSeq (dPar 3 4 (dCons (dOp (fInt fun i j => .int (i - j)) (dCall sp__law_slide X0 (dCons (dVar 0) (dCons (dOp fAdd (dOp (fIntC IntMulOk fun i j => .int (i * j)) (dC (.int 2)) (dVar 2)) (dC (.int 1))) dNil))) (dVar 2)) (dCons (dOp fAdd (dC (.int 1)) (dCall sp__law_slide X0 (dCons (dVar 0) (dCons (dCall sp__law_one X0 (dCons (dVar 0) (dCons (dVar 1) dNil))) dNil)))) dNil))) (dSeq (dSet 5 (dCall sp__law_factor X0 (dCons (dVar 3) (dCons (dVar 4) dNil)))) (dRet (dTup (dCons (dOp (fIntC CDivW fun i j => .int (i / j)) (dCal fIntOf (dCons (dVar 3) dNil)) (dVar 5)) (dCons (dOp (fIntC CDivW fun i j => .int (i / j)) (dCal fIntOf (dCons (dVar 4) dNil)) (dVar 5)) dNil)))))))
theorem sc__law_number : FnScope ["_law_abacus_here", "_law_unders", "_law_size", "_law_above", "_law_under", "_law_part"] ["_law_abacus_here", "_law_unders"] (defScope st__law_number) := ⟨rfl, rfl, rfl, by decide +kernel, rfl, by decide +kernel, by decide +kernel⟩
theorem v__law_number (xs : List D) (G : Gm) (R : KD) (RX : XD) (h : sp__law_number xs G R RX) : r__law_number { nx := fun _ G => R .non G, rt := R } (xs.map some ++ List.replicate (6 - xs.length) none) G := by
  obtain ⟨a, us, N, T, rfl, hg, ht, hne, hlen, hus, hN, h⟩ := h
  refine dw_set (Drw.pickL (P := Up (10 ^ 30)) rfl (.more (up_c (by decide) (by decide)) (.more (up_c (by decide) (by decide)) (.more (up_p pw6 (by decide)) (.more (up_p pw30 (by decide)) .none))))) hg (by omega) fun s m hs hm => ?_
  obtain ⟨s, rfl, s1, s2⟩ := hs
  have b2 : (10 : Int) ^ 30 < 2 ^ 109 := by decide
  refine dw_par (P := fun x => ∃ v : Int, x = .int v ∧ v.natAbs < 2 ^ 110) (P2 := Up N) (.op (j := 1) (k := 0) (P := fun x => ∃ v, x = .int v ∧ 0 ≤ v ∧ v < 2 * s + 1) (P2 := fun x => x = .int s) (Drw.dial (n := 2 * s + 1) rfl (fun _ => .add (.mul .c (.var rfl) (mul_left (by decide))) .c) (by omega) ?_) (.ev (fun _ => .var rfl) rfl) ?_)
    (.op (j := 0) (P := fun x => x = .int 1) (P2 := fun x => ∃ v, x = .int v ∧ 0 ≤ v ∧ v < N) (.ev (fun _ => .c) rfl) (Drw.dial2 (N := N) rfl (Drw.pick (P := Up N) rfl (.ev (fun _ => .var rfl) ⟨us, .inl rfl, hne, hlen, hus⟩)) ?_) ?_) (gau_gup hm) (by omega) fun x y m1 hx hy hm1 => ?_
  · exact Int.lt_of_le_of_lt (b := 2 * 10 ^ 30 + 1) (by omega) (by decide +kernel)
  · rintro x y ⟨v, rfl, v0, v1⟩ rfl
    refine ⟨_, ⟨v, s, rfl, rfl, rfl⟩, _, rfl, ?_⟩
    omega
  · exact Int.lt_of_le_of_lt hN (by decide +kernel)
  · rintro x y rfl ⟨v, rfl, v0, v1⟩
    exact ⟨_, .inl ⟨1, v, rfl, rfl, rfl⟩, 1 + v, rfl, by omega, by omega⟩
  obtain ⟨v, rfl, hv⟩ := hx
  obtain ⟨u, rfl, u1, u2⟩ := hy
  rw [gup_gup]
  obtain ⟨g, n, d, eg, g0, ea, eu, d0, e1, e2, e3, e4⟩ := gcd_facts (a := v) (show 0 < u by omega)
  refine ds_set (.common (.var rfl) (.var rfl)) ?_
  rw [eg]
  have hd : ∀ w : Int, CDivW w g := fun w => div_ok (by omega) (Int.lt_of_le_of_lt (show g ≤ 10 ^ 30 by omega) (by decide +kernel))
  refine ds_ret (x := .tup [.int n, .int d]) (.tup (.cons ((Ev.fdiv (.intOf (.var rfl)) (.var rfl) (hd _)).cast (by rw [e1])) (.one ((Ev.fdiv (.intOf (.var rfl)) (.var rfl) (hd _)).cast (by rw [e2])))) (show 2 ≤ sizeLine by decide)) ?_
  refine h _ m1 ⟨n, d, rfl, d0, ?_, e3, ?_⟩ (hm1.mono (by omega))
  · rw [← e2]
    exact Int.le_trans (Int.ediv_le_self _ (by omega)) u2
  · rw [← e1]
    exact Nat.lt_of_le_of_lt (Int.natAbs_ediv_le_natAbs _ _) hv
theorem l__law_number (xs : List D) (G : Gm) (R : KD) (RX : XD) (h : sp__law_number xs G R RX) : xs.length = 2 := by
  obtain ⟨_, _, _, _, rfl, _⟩ := h
  rfl
set_option maxHeartbeats 4000000 in
theorem k__law_number {P : Program} {w : World} {K : PySem.W.Frag} {mg : Str → Option Value} {base : Heap} (T : Tx mg) (F : Df K mg "_law_number" st__law_number) (k__law_slide : Kn P w K mg base 1 "_law_slide" st__law_slide ["_law_abacus_here", "_law_many"] sp__law_slide) (k__law_one : Kn P w K mg base 2 "_law_one" st__law_one ["_law_abacus_here", "_law_some"] sp__law_one) (k__law_factor : Kn P w K mg base 1 "_law_factor" st__law_factor ["_law_one_here", "_law_other"] sp__law_factor) :
    Kn P w K mg base 3 "_law_number" st__law_number ["_law_abacus_here", "_law_unders"] sp__law_number :=
  kn_of F.g F.f sc__law_number l__law_number fun cdv A outer s H E B RX hr hg kx => ⟨r__law_number, (psd_cons (psd_set (i := 2) sc__law_number.nd rfl (by first | exact Or.inl rfl | exact Or.inr rfl) (pd_call k__law_one (hr.mono (by decide)) hg rfl pass0 kx0 (fun _ _ _ _ _ _ us hl => match us, hl with | [_, _], _ => rfl) (pda_cons (pd_var 0) (pda_cons (pd_lst (pda_cons pd_int (pda_cons pd_int (pda_cons (pd_pow pd_int pd_int) (pda_cons (pd_pow pd_int pd_int) pda_nil))))) pda_nil)))) (psd_cons (psd_par (i := 3) (j := 4) rfl sc__law_number.nd rfl rfl (by decide) rfl rfl (pda_cons (pd_sub (pd_call k__law_slide (hr.mono (by decide)) hg rfl pass0 kx0 (fun _ _ _ _ _ _ us hl => match us, hl with | [_, _], _ => rfl) (pda_cons (pd_var 0) (pda_cons (pd_add (pd_mul pd_int (pd_var 2)) pd_int) pda_nil))) (pd_var 2)) (pda_cons (pd_add pd_int (pd_call k__law_slide (hr.mono (by decide)) hg rfl pass0 kx0 (fun _ _ _ _ _ _ us hl => match us, hl with | [_, _], _ => rfl) (pda_cons (pd_var 0) (pda_cons (pd_call k__law_one (hr.mono (by decide)) hg rfl pass0 kx0 (fun _ _ _ _ _ _ us hl => match us, hl with | [_, _], _ => rfl) (pda_cons (pd_var 0) (pda_cons (pd_var 1) pda_nil))) pda_nil)))) pda_nil)) rfl) (psd_cons (psd_set (i := 5) sc__law_number.nd rfl (by first | exact Or.inl rfl | exact Or.inr rfl) (pd_call k__law_factor (hr.mono (by decide)) hg rfl pass0 kx0 (fun _ _ _ _ _ _ us hl => match us, hl with | [_, _], _ => rfl) (pda_cons (pd_var 3) (pda_cons (pd_var 4) pda_nil)))) (psd_one (psd_ret (pd_tup (pda_cons (pd_fdiv (pd_callTy call_int1 cd_int rfl T.f_int (by decide +kernel) (pda_cons (pd_var 3) pda_nil)) (pd_var 5)) (pda_cons (pd_fdiv (pd_callTy call_int1 cd_int rfl T.f_int (by decide +kernel) (pda_cons (pd_var 4) pda_nil)) (pd_var 5)) pda_nil)))))))), fun xs G R h => v__law_number xs G R RX h⟩
/-! ### _law_sum -/
abbrev sp__law_sum : DSp := fun xs G R _ => ∃ q f n, xs = [q, .int f, .int n] ∧ (∃ N, N ≤ 10 ^ 30 ∧ Pr N q) ∧ f.natAbs < 2 ^ 200 ∧ n.natAbs < 2 ^ 200 ∧ R (.int (sumP f n q)) G
def r__law_sum : DS := (dRet (dOp (fInt fun i j => .int (i - j)) (dOp (fIntC CDivW fun i j => .int (i / j)) (dCal fIntOf (dCons (dOp (fIntC IntMulOk fun i j => .int (i * j)) (dOp (fInt fun i j => .int (i - j)) (dOp fAdd (dVar 1) (dVar 2)) (dC (.int 1))) (dIx (dVar 0) (dC (.int 0)))) dNil)) (dIx (dVar 0) (dC (.int 1)))) (dOp (fIntC CDivW fun i j => .int (i / j)) (dCal fIntOf (dCons (dOp (fIntC IntMulOk fun i j => .int (i * j)) (dOp (fInt fun i j => .int (i - j)) (dVar 1) (dC (.int 1))) (dIx (dVar 0) (dC (.int 0)))) dNil)) (dIx (dVar 0) (dC (.int 1))))))
theorem sc__law_sum : FnScope ["_law_number_here", "_law_first", "_law_many"] ["_law_number_here", "_law_first", "_law_many"] (defScope st__law_sum) := ⟨rfl, rfl, rfl, by decide +kernel, rfl, by decide +kernel, by decide +kernel⟩
theorem v__law_sum (xs : List D) (G : Gm) (R : KD) (RX : XD) (h : sp__law_sum xs G R RX) : r__law_sum { nx := fun _ G => R .non G, rt := R } (xs.map some ++ List.replicate (3 - xs.length) none) G := by
  obtain ⟨q, f, n, rfl, ⟨N, hN, a, b, rfl, hb, hbN, hc, ha⟩, hf, hn, h⟩ := h
  have l := ten110
  have hd : ∀ w : Int, CDivW w b := fun w => div_ok (by omega) (Int.lt_of_le_of_lt (Int.le_trans hbN hN) (by decide +kernel))
  exact ds_ret (.sub (.fdiv (.intOf (.mul (.sub (.add (.var rfl) (.var rfl)) .c) (.at (.var rfl) .c seq_tup rfl) (mul_both (a := 203) (by omega) ha (by decide)))) (.at (.var rfl) .c seq_tup rfl) (hd _)) (.fdiv (.intOf (.mul (.sub (.var rfl) .c) (.at (.var rfl) .c seq_tup rfl) (mul_both (a := 201) (by omega) ha (by decide)))) (.at (.var rfl) .c seq_tup rfl) (hd _))) h
theorem l__law_sum (xs : List D) (G : Gm) (R : KD) (RX : XD) (h : sp__law_sum xs G R RX) : xs.length = 3 := by
  obtain ⟨_, _, _, rfl, _⟩ := h
  rfl
set_option maxHeartbeats 4000000 in
theorem k__law_sum {P : Program} {w : World} {K : PySem.W.Frag} {mg : Str → Option Value} {base : Heap} (T : Tx mg) (F : Df K mg "_law_sum" st__law_sum) :
    Kn P w K mg base 1 "_law_sum" st__law_sum ["_law_number_here", "_law_first", "_law_many"] sp__law_sum :=
  kn_of F.g F.f sc__law_sum l__law_sum fun cdv A outer s H E B RX hr hg kx => ⟨r__law_sum, (psd_one (psd_ret (pd_sub (pd_fdiv (pd_callTy call_int1 cd_int rfl T.f_int (by decide +kernel) (pda_cons (pd_mul (pd_sub (pd_add (pd_var 1) (pd_var 2)) pd_int) (pd_ix (pd_var 0) pd_int (fun _ _ => rfl))) pda_nil)) (pd_ix (pd_var 0) pd_int (fun _ _ => rfl))) (pd_fdiv (pd_callTy call_int1 cd_int rfl T.f_int (by decide +kernel) (pda_cons (pd_mul (pd_sub (pd_var 1) pd_int) (pd_ix (pd_var 0) pd_int (fun _ _ => rfl))) pda_nil)) (pd_ix (pd_var 0) pd_int (fun _ _ => rfl)))))), fun xs G R h => v__law_sum xs G R RX h⟩
/-! ### _law_sums_right -/
abbrev sp__law_sums_right : DSp := spRight
def r__law_sums_right : DS := (dSeq (dSet 1 (dCmp (dIRng1 (dOp fAdd (dC (.int 1)) (dCall sp__law_slide X0 (dCons (dVar 0) (dCons (dC (.int 2)) dNil))))) (gN 2) dYes (dCall sp__law_number X0 (dCons (dVar 0) (dCons (dLst (dCons (dC (.int 1)) (dCons (dC (.int 7)) (dCons (dC (.int 40)) (dCons (dOp (fIntC CPw fun i j => .int (i ^ j.toNat)) (dC (.int 10)) (dC (.int 30))) dNil))))) dNil))) [2])) (dSeq (dPar 3 4 (dCons (dCmp (dISeq (dVar 1)) (gN 5) dYes (dIf (dTst (dOp fEq (dIx (dVar 5) (dC (.int 1))) (dC (.int 1)))) (dIx (dVar 5) (dC (.int 0))) (dVar 5)) [5]) (dCons (dCall sp__law_one X0 (dCons (dVar 0) (dCons (dLst (dCons (dC (.int 5)) (dCons (dOp (fIntC CPw fun i j => .int (i ^ j.toNat)) (dC (.int 10)) (dC (.int 9))) (dCons (dOp (fIntC CPw fun i j => .int (i ^ j.toNat)) (dC (.int 10)) (dC (.int 30))) dNil)))) dNil))) dNil))) (dSeq (dAsg (dTup (dCons (dOp (fInt fun i j => .int (i - j)) (dCall sp__law_slide X0 (dCons (dVar 0) (dCons (dOp fAdd (dOp (fIntC IntMulOk fun i j => .int (i * j)) (dC (.int 2)) (dVar 4)) (dC (.int 1))) dNil))) (dVar 4)) (dCons (dCall sp__law_slide X0 (dCons (dVar 0) (dCons (dCall sp__law_one X0 (dCons (dVar 0) (dCons (dLst (dCons (dC (.int 3)) (dCons (dC (.int 40)) dNil))) dNil))) dNil))) dNil))) (gSeq 2 (gCons (gN 6) (gCons (gN 7) gNil)))) (dSeq (dSet 8 (dCal fTupOf (dCons (dCmp (dISeq (dVar 1)) (gN 5) dYes (dCall sp__law_sum X0 (dCons (dVar 5) (dCons (dVar 6) (dCons (dVar 7) dNil)))) [5]) dNil))) (dSeq (dSet 9 (dCall sp_labels_of X0 (dCons (dVar 3) (dCons (dVar 6) (dCons (dVar 7) dNil))))) (dSeq (dIfS (dOr (dTst (dOp fNe (dCal fRepr (dCons (dCall sp_sum_of X0 (dCons (dVar 3) (dCons (dVar 6) (dCons (dVar 7) dNil)))) dNil)) (dCal fRepr (dCons (dVar 8) dNil)))) (dTst (dOp fNe (dCal fRepr (dCons (dCal fTupOf (dCons (dCmp (dIRng1 (dCal fLen (dCons (dVar 3) dNil))) (gN 11) dYes (dCal fSum (dCons (dCmp (dISeq (dVar 9)) (gN 10) dYes (dIx (dVar 10) (dVar 11)) [10]) dNil)) [11]) dNil)) dNil)) (dCal fRepr (dCons (dVar 8) dNil))))) (dRet (dC (.bl false))) dNext) (dSeq (dSet 12 (dCall sp__law_slide X0 (dCons (dVar 0) (dCons (dOp (fIntC CPw fun i j => .int (i ^ j.toNat)) (dC (.int 10)) (dC (.int 40))) dNil)))) (dSeq (dSet 8 (dCal fTupOf (dCons (dCmp (dISeq (dVar 1)) (gN 5) dYes (dCall sp__law_sum X0 (dCons (dVar 5) (dCons (dVar 6) (dCons (dVar 12) dNil)))) [5]) dNil))) (dSeq (dIfS (dTst (dOp fNe (dCal fRepr (dCons (dLst (dCons (dCall sp_sum_of X0 (dCons (dVar 3) (dCons (dVar 6) (dCons (dVar 12) dNil)))) (dCons (dCallK sp_sum_of (ordOf [1, 2, 0]) X0 (dCons (dVar 12) (dCons (dCal fTupOf (dCons (dVar 3) dNil)) (dCons (dVar 6) dNil)))) dNil))) dNil)) (dCal fRepr (dCons (dLst (dCons (dVar 8) (dCons (dVar 8) dNil))) dNil)))) (dRet (dC (.bl false))) dNext) (dRet (dOp fEq (dCmp (dIZipM (dCons (dVar 1) (dCons (dVar 8) dNil))) (gSeq 2 (gCons (gN 5) (gCons (gN 13) gNil))) (dNot (dTst (dChain (fInt gLt) (fInt gLt) (dNeg (dIx (dVar 5) (dC (.int 1)))) (dOp (fInt fun i j => .int (i - j)) (dOp (fIntC IntMulOk fun i j => .int (i * j)) (dVar 13) (dIx (dVar 5) (dC (.int 1)))) (dOp (fIntC IntMulOk fun i j => .int (i * j)) (dVar 12) (dIx (dVar 5) (dC (.int 0))))) (dIx (dVar 5) (dC (.int 1)))))) (dVar 5) [5, 13]) (dLst dNil))))))))))))
theorem sc__law_sums_right : FnScope ["_law_abacus_here", "_law_numbers", "_law_turn", "_law_point", "_law_size", "_law_number_here", "_law_first", "_law_many", "_law_due", "_law_told", "_law_label", "_law_at", "_law_far", "_law_total"] ["_law_abacus_here"] (defScope st__law_sums_right) := ⟨rfl, rfl, rfl, by decide +kernel, rfl, by decide +kernel, by decide +kernel⟩
theorem v__law_sums_right (xs : List D) (G : Gm) (R : KD) (RX : XD) (h : sp__law_sums_right xs G R RX) : r__law_sums_right { nx := fun _ G => R .non G, rt := R } (xs.map some ++ List.replicate (14 - xs.length) none) G := by
  obtain ⟨p, T, rfl, hg, ht, h⟩ := h
  have s2 : 2 ≤ sizeLine := by decide
  have nm : ∀ {ρ : En} {dl : DE} {us : List D} {N : Int}, ρ[0]? = some (some (.ref p)) → (∀ G, Ev dl ρ G (.lst us)) → us ≠ [] → us.length ≤ 1000000 → (∀ u ∈ us, Up N u) → N ≤ 10 ^ 30 → Drw (dCall sp__law_number X0 (dCons (dVar 0) (dCons dl dNil))) ρ p 10 (Pr N) := fun e he h1 h2 h3 h4 G T R hg ht r => ⟨_, e, he G _ ⟨p, _, _, T, rfl, hg, by omega, h1, h2, h3, h4, r⟩⟩
  refine dw_set (Drw.lcRng (lo := 1) (N := 2) (k := 10) (j := 1) (P := Pr (10 ^ 30)) (.op (j := 0) (k := 1) (P := fun x => x = .int 1) (P2 := fun x => ∃ v, x = .int v ∧ 0 ≤ v ∧ v < 2) (.ev (fun _ => .c) rfl) (Drw.dial rfl (fun _ => .c) (by decide) (by decide +kernel)) ?_) (fun y => nm (us := [.int 1, .int 7, .int 40, .int (10 ^ 30)]) (N := 10 ^ 30) rfl (fun G => .lst (.cons .c (.cons .c (.cons .c (.one (.pow .c .c pw30))))) (show 4 ≤ sizeLine by decide)) (by simp) (by simp) (fun u hu => ?_) (Int.le_refl _)) (by decide)) hg (by omega) fun z m hz hm => ?_
  · rintro x y rfl ⟨v, rfl, v0, v1⟩
    exact ⟨_, .inl ⟨1, v, rfl, rfl, rfl⟩, (1 + v).toNat, by rw [Int.toNat_of_nonneg (by omega)], by omega, by omega⟩
  · simp only [List.mem_cons, List.not_mem_nil, or_false] at hu
    rcases hu with rfl | rfl | rfl | rfl <;> exact ⟨_, rfl, by decide, by decide⟩
  obtain ⟨qs, rfl, l1, l2, hq⟩ := hz
  have qz : qs.length ≤ sizeLine := by rw [sizeLine_eq]; omega
  refine dw_par (P := fun x => x = .lst (qs.map pt)) (P2 := Up (10 ^ 30)) (.ev (fun _ => .lcSeq pt (.var rfl) (.inl rfl) (fun y hy => ev_pt rfl (hq y hy)) qz) rfl) (Drw.pickL (P := Up (10 ^ 30)) rfl (.more (up_c (by decide) (by decide)) (.more (up_p pw9 (by decide)) (.more (up_p pw30 (by decide)) .none)))) (gau_gup hm) (by omega) fun x s m1 hx hs hm1 => ?_
  subst hx
  obtain ⟨s, rfl, s1, s3⟩ := hs
  rw [gup_gup]
  have hds : ∀ d ∈ qs.map pt, numD d = true ∧ Bn 110 d := fun d hd => by
    obtain ⟨q, hq1, rfl⟩ := List.mem_map.mp hd
    exact (pr_pt (hq q hq1) (Int.le_refl _)).1
  have eI : ∀ q, Pr (10 ^ 30) q → numI (pt q) = numI q := fun q h => (pr_pt h (Int.le_refl _)).2.2.1
  have eS : ∀ f n : Int, D.tup (qs.map fun q => D.int (sumP f n q)) = tupI (sums (qs.map pt) f n) := fun f n => congrArg D.tup (sums_map hq eI)
  have hl : (qs.map pt).length = qs.length := List.length_map _
  generalize qs.map pt = ds at *
  have hn : Nms 3000 ds := ⟨fun d hd => (hds d hd).1, fun d hd => (hds d hd).2.mono (by decide)⟩
  have px : PtN (.lst ds) ds := ⟨.inr rfl, hn, by omega, by omega⟩
  have pT : PtN (.tup ds) ds := ⟨.inl rfl, hn, by omega, by omega⟩
  have b2 : (10 : Int) ^ 30 < 2 ^ 109 := by decide
  refine dw_asgT (P := fun x => ∃ v : Int, x = .int v ∧ v.natAbs < 2 ^ 110) (P2 := fun x => ∃ v, x = .int v ∧ 0 ≤ v ∧ v < 40) (.op (j := 1) (k := 0) (P := fun x => ∃ v, x = .int v ∧ 0 ≤ v ∧ v < 2 * s + 1) (P2 := fun x => x = .int s) (Drw.dial (n := 2 * s + 1) rfl (fun _ => .add (.mul .c (.var rfl) (mul_left (by decide))) .c) (by omega) ?_) (.ev (fun _ => .var rfl) rfl) ?_) (Drw.dial2 (N := 40) rfl (Drw.pickL (P := Up 40) rfl (.more (up_c (by decide) (by decide)) (.more (up_c (by decide) (by decide)) .none))) (by decide +kernel)) (gau_gup hm1) (by omega) fun f n m2 hf hn2 hm2 => ?_
  · exact Int.lt_of_le_of_lt (b := 2 * 10 ^ 30 + 1) (by omega) (by decide +kernel)
  · rintro x y ⟨v, rfl, v0, v1⟩ rfl
    refine ⟨_, ⟨v, s, rfl, rfl, rfl⟩, _, rfl, ?_⟩
    omega
  obtain ⟨f, rfl, hf⟩ := hf
  obtain ⟨n, rfl, n0, n40⟩ := hn2
  obtain ⟨n, rfl⟩ : ∃ k : Nat, n = k := ⟨n.toNat, by omega⟩
  rw [gup_gup]
  have f1 : f.natAbs < 2 ^ 2900 := tm_ok 110 hf
  have zn : n ≤ sizeLine := by rw [sizeLine_eq]; omega
  have zd : ds.length ≤ sizeLine := by rw [sizeLine_eq]; omega
  refine ds_set ((Ev.tupOf (.lcSeq (fun q => .int (sumP f n q)) (.var rfl) (.inl rfl) (fun y hy => .call (.cons (.var rfl) (.cons (.var rfl) (.one (.var rfl)))) fun R r => ⟨y, f, n, rfl, ⟨_, Int.le_refl _, hq y hy⟩, by omega, by omega, r⟩) qz) seq_lst).cast (eS f n)) ?_
  refine ds_set (.labelsOf (.var rfl) (.var rfl) (.var rfl) px f1 (by omega)) ?_
  have r1 : RepOk (tupI (sums ds f n)) := (sm_sums (fun d hd => (hds d hd).2) (by omega) (by omega) (by omega)).rep
  have again : ∀ {G : Gm} {o2 o5 o10 o11 o12 o13 : Option D}, Ev (dCal fTupOf (dCons (dCmp (dIRng1 (dCal fLen (dCons (dVar 3) dNil))) (gN 11) dYes (dCal fSum (dCons (dCmp (dISeq (dVar 9)) (gN 10) dYes (dIx (dVar 10) (dVar 11)) [10]) dNil)) [11]) dNil)) [some (.ref p), some (.lst qs), o2, some (.lst ds), some (.int s), o5, some (.int f), some (.int n), some (tupI (sums ds f n)), some (.tup (labsT ds f n)), o10, o11, o12, o13] G (tupI (sums ds f n)) := fun {G o2 o5 o10 o11 o12 o13} => by
    have e : tupI (sums ds f n) = .tup ((List.range ds.length).map fun i : Nat => D.int (((ds[i]?).map (sm f n)).getD 0)) := by
      unfold tupI
      have := at_map (ds := ds) (sm f n) 0
      rw [show sums ds f n = ds.map (sm f n) from rfl, ← this, List.map_map]
      rfl
    rw [e]
    refine .tupOf (.lcRng (fun i : Nat => D.int (((ds[i]?).map (sm f n)).getD 0)) (.len (.var rfl) seq_lst) (fun j hj => ?_) zd) seq_lst
    have e1 : ((ds[j]?).map (sm f n)).getD 0 = ((List.range n).map fun i : Nat => lab ds[j] (f + i)).sum := by
      rw [List.getElem?_eq_getElem hj, tele]
      rfl
    rw [e1]
    refine .sum ((Ev.lcSeq (fun y => match y with | .tup xs => xs.getD j .non | y => y) (.var rfl) (.inr rfl) (fun y hy => ?_) (by unfold labsT; rw [List.length_map, List.length_range]; exact zn)).cast ?_)
    · obtain ⟨i, _, rfl⟩ := List.mem_map.mp hy
      have hj2 : j < ((labs ds (f + i)).map D.int).length := by
        rw [List.length_map, labs, List.length_map]
        exact hj
      refine .at (.var rfl) (.var rfl) seq_tup ?_
      rw [atI_lt hj2]
      show _ = some (((labs ds (f + i)).map D.int).getD j .non)
      rw [List.getD_eq_getElem?_getD, List.getElem?_eq_getElem hj2]
      rfl
    · unfold labsT
      rw [List.map_map, List.map_map]
      refine congrArg D.lst (List.map_congr_left fun i _ => ?_)
      show ((labs ds (f + i)).map D.int).getD j .non = .int (lab ds[j] (f + i))
      unfold labs
      rw [List.map_map, List.getD_eq_getElem?_getD, List.getElem?_map, List.getElem?_eq_getElem hj]
      rfl
  refine ds_if (k := false) (.orF (.tst (.neSS (.repr (.sumOf (.var rfl) (.var rfl) (.var rfl) px f1 (by omega) (tm_ok 10 (by omega))) r1) (.repr (.var rfl) r1))) (.tst (.neSS (.repr again r1) (.repr (.var rfl) r1)))) ?_
  rw [if_neg (by decide)]
  refine dw_set (Drw.dial (n := 10 ^ 40) rfl (fun _ => .pow .c .c pw40) (by decide) (by decide +kernel)) (gau_gup hm2) (by omega) fun x m3 hx hm3 => ?_
  obtain ⟨v, rfl, v0, v1⟩ := hx
  rw [gup_gup]
  have v2 : v.natAbs < 2 ^ 140 := by
    have : (10 : Int) ^ 40 < 2 ^ 140 := by decide
    omega
  refine ds_set ((Ev.tupOf (.lcSeq (fun q => .int (sumP f v q)) (.var rfl) (.inl rfl) (fun y hy => .call (.cons (.var rfl) (.cons (.var rfl) (.one (.var rfl)))) fun R r => ⟨y, f, v, rfl, ⟨_, Int.le_refl _, hq y hy⟩, by omega, by omega, r⟩) qz) seq_lst).cast (eS f v)) ?_
  have r2 : RepOk (.lst [tupI (sums ds f v), tupI (sums ds f v)]) := (Sm.two (sm_sums (fun d hd => (hds d hd).2) (by omega) (by omega) v2) (sm_sums (fun d hd => (hds d hd).2) (by omega) (by omega) v2)).rep
  refine ds_if (k := false) (.tst (.neSS (.repr (.lst (.cons (.sumOf (.var rfl) (.var rfl) (.var rfl) px f1 v0 (tm_ok 140 v2)) (.one (.callK (.cons (.var rfl) (.cons (.tupOf (.var rfl) seq_lst) (.one (.var rfl)))) fun R r => ⟨.tup ds, ds, f, v, rfl, pT, f1, v0, tm_ok 140 v2, r⟩))) s2) r2) (.repr (.lst (.cons (.var rfl) (.one (.var rfl))) s2) r2))) ?_
  rw [if_neg (by decide)]
  refine to_next ?_
  dsimp only
  refine ds_ret (x := .bl true) (Ev.eqNil (cs := []) ?_) ?_
  rotate_left
  · exact h _ (hm3.mono (by omega))
  intro R r
  refine ⟨_, rfl, _, rfl, qs, (sums ds f v).map D.int, rfl, ?_⟩
  refine cmpL_none (fun z hz N hN => ?_) r
  obtain ⟨i, hi⟩ := List.getElem?_of_mem hz
  obtain ⟨q, d, eq1, ed, rfl⟩ := zip_at hi
  have e0 := eS f v
  rw [tupI, D.tup.injEq] at e0
  rw [← e0, List.getElem?_map, eq1] at ed
  cases ed
  have hqm := hq q (List.mem_of_getElem? eq1)
  obtain ⟨a, b, rfl, hb, hbN, hc, ha⟩ := hqm
  refine ⟨_, seq_tup, rfl, _, _, rfl, _, _, rfl, rfl, ?_⟩
  have hb2 : b.natAbs < 2 ^ 110 := by omega
  have near := sum_near (a := a) (p := f + v - 1) (q := f - 1) hb
  have ab : (sumP f v (.tup [.int a, .int b])).natAbs < 2 ^ 400 := by
    show ((f + v - 1) * a / b - (f - 1) * a / b).natAbs < _
    have e1 : ((f + v - 1) * a / b).natAbs < 2 ^ (142 + 110) := Nat.lt_of_le_of_lt (Int.natAbs_ediv_le_natAbs _ _) (by rw [Int.natAbs_mul]; exact nat_mul_lt (by omega) ha)
    have e2 : ((f - 1) * a / b).natAbs < 2 ^ (142 + 110) := Nat.lt_of_le_of_lt (Int.natAbs_ediv_le_natAbs _ _) (by rw [Int.natAbs_mul]; exact nat_mul_lt (by omega) ha)
    have e3 : 2 ^ (142 + 110) + 2 ^ (142 + 110) < 2 ^ 400 := by decide
    omega
  refine (EvT.not (.tst (.chainLt (.neg (.at (.var rfl) .c seq_tup rfl)) (.sub (.mul (.var rfl) (.at (.var rfl) .c seq_tup rfl) (mul_both ab hb2 (by decide))) (.mul (.var rfl) (.at (.var rfl) .c seq_tup rfl) (mul_both v2 ha (by decide)))) (.at (.var rfl) .c seq_tup rfl)))).cast (k := false) ?_ _ (hN _)
  have e4 : f + v - 1 - (f - 1) = v := by omega
  rw [e4] at near
  have f1 : decide (-b < sumP f v (.tup [.int a, .int b]) * b - v * a) = true := decide_eq_true near.1
  have f2 : decide (sumP f v (.tup [.int a, .int b]) * b - v * a < b) = true := decide_eq_true near.2
  rw [f1, f2]
  rfl
theorem l__law_sums_right (xs : List D) (G : Gm) (R : KD) (RX : XD) (h : sp__law_sums_right xs G R RX) : xs.length = 1 := by
  obtain ⟨_, _, rfl, _⟩ := h
  rfl
set_option maxHeartbeats 4000000 in
theorem k__law_sums_right {P : Program} {w : World} {K : PySem.W.Frag} {mg : Str → Option Value} {base : Heap} (T : Tx mg) (F : Df K mg "_law_sums_right" st__law_sums_right) (k_labels_of : Kn P w K mg base 6 "labels_of" st_labels_of ["point", "first", "many"] sp_labels_of) (k_sum_of : Kn P w K mg base 6 "sum_of" st_sum_of ["point", "first", "many"] sp_sum_of) (k__law_slide : Kn P w K mg base 1 "_law_slide" st__law_slide ["_law_abacus_here", "_law_many"] sp__law_slide) (k__law_one : Kn P w K mg base 2 "_law_one" st__law_one ["_law_abacus_here", "_law_some"] sp__law_one) (k__law_number : Kn P w K mg base 3 "_law_number" st__law_number ["_law_abacus_here", "_law_unders"] sp__law_number) (k__law_sum : Kn P w K mg base 1 "_law_sum" st__law_sum ["_law_number_here", "_law_first", "_law_many"] sp__law_sum) :
    Kn P w K mg base 7 "_law_sums_right" st__law_sums_right ["_law_abacus_here"] sp__law_sums_right :=
  kn_of F.g F.f sc__law_sums_right l__law_sums_right fun cdv A outer s H E B RX hr hg kx => ⟨r__law_sums_right, (psd_cons (psd_setLc (i := 1) (own := [("_law_turn", 2)]) rfl sc__law_sums_right.nd rfl rfl (sw_true rfl rfl rfl (by decide +kernel)) (pid_rng1 rfl T.f_range (pd_add pd_int (pd_call k__law_slide (hr.mono (by decide)) hg rfl pass0 kx0 (fun _ _ _ _ _ _ us hl => match us, hl with | [_, _], _ => rfl) (pda_cons (pd_var 0) (pda_cons pd_int pda_nil))))) (blkOk_by (N := ["_law_abacus_here", "_law_numbers", "_law_turn", "_law_point", "_law_size", "_law_number_here", "_law_first", "_law_many", "_law_due", "_law_told", "_law_label", "_law_at", "_law_far", "_law_total"]) (sc := defScope st__law_sums_right) (by decide +kernel)) (by decide) (fun _ _ _ _ _ _ => (pgd_name (i := 2) sc__law_sums_right.nd rfl (by first | exact Or.inl rfl | exact Or.inr rfl))) (fun _ _ _ _ _ _ => ptsd_nil) (fun _ _ _ _ _ _ => (pd_call k__law_number (hr.mono (by decide)) hg rfl pass0 kx0 (fun _ _ _ _ _ _ us hl => match us, hl with | [_, _], _ => rfl) (pda_cons (pd_var 0) (pda_cons (pd_lst (pda_cons pd_int (pda_cons pd_int (pda_cons pd_int (pda_cons (pd_pow pd_int pd_int) pda_nil))))) pda_nil))))) (psd_cons (psd_par (i := 3) (j := 4) rfl sc__law_sums_right.nd rfl rfl (by decide) rfl rfl (pda_cons (pd_lc (own := [("_law_number_here", 5)]) rfl sc__law_sums_right.nd (pid_seq (pd_var 1)) (blkOk_by (N := ["_law_abacus_here", "_law_numbers", "_law_turn", "_law_point", "_law_size", "_law_number_here", "_law_first", "_law_many", "_law_due", "_law_told", "_law_label", "_law_at", "_law_far", "_law_total"]) (sc := defScope st__law_sums_right) (by decide +kernel)) (by decide) (fun _ _ _ _ _ _ => (pgd_name (i := 5) sc__law_sums_right.nd rfl (by first | exact Or.inl rfl | exact Or.inr rfl))) (fun _ _ _ _ _ _ => ptsd_nil) (fun _ _ _ _ _ _ => (pd_if (ptd_cmp (op_eq2 hr.units) od_eq (pd_ix (pd_var 5) pd_int (fun _ _ => rfl)) pd_int (nomark _)) (pd_ix (pd_var 5) pd_int (fun _ _ => rfl)) (pd_var 5)))) (pda_cons (pd_call k__law_one (hr.mono (by decide)) hg rfl pass0 kx0 (fun _ _ _ _ _ _ us hl => match us, hl with | [_, _], _ => rfl) (pda_cons (pd_var 0) (pda_cons (pd_lst (pda_cons pd_int (pda_cons (pd_pow pd_int pd_int) (pda_cons (pd_pow pd_int pd_int) pda_nil)))) pda_nil))) pda_nil)) rfl) (psd_cons (psd_asg (pd_tup (pda_cons (pd_sub (pd_call k__law_slide (hr.mono (by decide)) hg rfl pass0 kx0 (fun _ _ _ _ _ _ us hl => match us, hl with | [_, _], _ => rfl) (pda_cons (pd_var 0) (pda_cons (pd_add (pd_mul pd_int (pd_var 4)) pd_int) pda_nil))) (pd_var 4)) (pda_cons (pd_call k__law_slide (hr.mono (by decide)) hg rfl pass0 kx0 (fun _ _ _ _ _ _ us hl => match us, hl with | [_, _], _ => rfl) (pda_cons (pd_var 0) (pda_cons (pd_call k__law_one (hr.mono (by decide)) hg rfl pass0 kx0 (fun _ _ _ _ _ _ us hl => match us, hl with | [_, _], _ => rfl) (pda_cons (pd_var 0) (pda_cons (pd_lst (pda_cons pd_int (pda_cons pd_int pda_nil))) pda_nil))) pda_nil))) pda_nil))) (pgd_seq rfl (pgsd_cons (pgd_name (i := 6) sc__law_sums_right.nd rfl (by first | exact Or.inl rfl | exact Or.inr rfl)) (pgsd_cons (pgd_name (i := 7) sc__law_sums_right.nd rfl (by first | exact Or.inl rfl | exact Or.inr rfl)) pgsd_nil)))) (psd_cons (psd_set (i := 8) sc__law_sums_right.nd rfl (by first | exact Or.inl rfl | exact Or.inr rfl) (pd_callTy call_tuple_of cd_tuple rfl T.f_tuple (by decide +kernel) (pda_cons (pd_lc (own := [("_law_number_here", 5)]) rfl sc__law_sums_right.nd (pid_seq (pd_var 1)) (blkOk_by (N := ["_law_abacus_here", "_law_numbers", "_law_turn", "_law_point", "_law_size", "_law_number_here", "_law_first", "_law_many", "_law_due", "_law_told", "_law_label", "_law_at", "_law_far", "_law_total"]) (sc := defScope st__law_sums_right) (by decide +kernel)) (by decide) (fun _ _ _ _ _ _ => (pgd_name (i := 5) sc__law_sums_right.nd rfl (by first | exact Or.inl rfl | exact Or.inr rfl))) (fun _ _ _ _ _ _ => ptsd_nil) (fun _ _ _ _ _ _ => (pd_call k__law_sum (hr.mono (by decide)) hg rfl pass0 kx0 (fun _ _ _ _ _ _ us hl => match us, hl with | [_, _, _], _ => rfl) (pda_cons (pd_var 5) (pda_cons (pd_var 6) (pda_cons (pd_var 7) pda_nil)))))) pda_nil))) (psd_cons (psd_set (i := 9) sc__law_sums_right.nd rfl (by first | exact Or.inl rfl | exact Or.inr rfl) (pd_call k_labels_of (hr.mono (by decide)) hg rfl pass0 kx0 (fun _ _ _ _ _ _ us hl => match us, hl with | [_, _, _], _ => rfl) (pda_cons (pd_var 3) (pda_cons (pd_var 6) (pda_cons (pd_var 7) pda_nil))))) (psd_cons (psd_if (PW.pt (pwd_or (ptd_cmp (op_ne2 hr.units) od_ne (pd_repr rfl hg hr.units rfl T.f_repr (pd_call k_sum_of (hr.mono (by decide)) hg rfl pass0 kx0 (fun _ _ _ _ _ _ us hl => match us, hl with | [_, _, _], _ => rfl) (pda_cons (pd_var 3) (pda_cons (pd_var 6) (pda_cons (pd_var 7) pda_nil))))) (pd_repr rfl hg hr.units rfl T.f_repr (pd_var 8)) (nomark _)) (pwd_or1 (ptd_cmp (op_ne2 hr.units) od_ne (pd_repr rfl hg hr.units rfl T.f_repr (pd_callTy call_tuple_of cd_tuple rfl T.f_tuple (by decide +kernel) (pda_cons (pd_lc (own := [("_law_at", 11)]) rfl sc__law_sums_right.nd (pid_rng1 rfl T.f_range (pd_len rfl rfl T.f_len (pd_var 3))) (blkOk_by (N := ["_law_abacus_here", "_law_numbers", "_law_turn", "_law_point", "_law_size", "_law_number_here", "_law_first", "_law_many", "_law_due", "_law_told", "_law_label", "_law_at", "_law_far", "_law_total"]) (sc := defScope st__law_sums_right) (by decide +kernel)) (by decide) (fun _ _ _ _ _ _ => (pgd_name (i := 11) sc__law_sums_right.nd rfl (by first | exact Or.inl rfl | exact Or.inr rfl))) (fun _ _ _ _ _ _ => ptsd_nil) (fun _ _ _ _ _ _ => (pd_callB (cr_sum rfl) cd_sum rfl T.f_sum (by decide +kernel) (pda_cons (pd_lcI (own := [("_law_label", 10)]) rfl sc__law_sums_right.nd (pid_seq (pd_var 9)) (blkOk_by (N := ["_law_abacus_here", "_law_numbers", "_law_turn", "_law_point", "_law_size", "_law_number_here", "_law_first", "_law_many", "_law_due", "_law_told", "_law_label", "_law_at", "_law_far", "_law_total"]) (sc := relS _ (defScope st__law_sums_right)) (by decide +kernel)) (by decide) (fun _ _ _ _ _ _ => (pgd_name (i := 10) sc__law_sums_right.nd rfl (by first | exact Or.inl rfl | exact Or.inr rfl))) (fun _ _ _ _ _ _ => ptsd_nil) (fun _ _ _ _ _ _ => (pd_ix (pd_var 10) (pd_var 11) (fun _ _ => rfl)))) pda_nil)))) pda_nil))) (pd_repr rfl hg hr.units rfl T.f_repr (pd_var 8)) (nomark _))))) (psd_one (psd_ret pd_bl)) psd_nil) (psd_cons (psd_set (i := 12) sc__law_sums_right.nd rfl (by first | exact Or.inl rfl | exact Or.inr rfl) (pd_call k__law_slide (hr.mono (by decide)) hg rfl pass0 kx0 (fun _ _ _ _ _ _ us hl => match us, hl with | [_, _], _ => rfl) (pda_cons (pd_var 0) (pda_cons (pd_pow pd_int pd_int) pda_nil)))) (psd_cons (psd_set (i := 8) sc__law_sums_right.nd rfl (by first | exact Or.inl rfl | exact Or.inr rfl) (pd_callTy call_tuple_of cd_tuple rfl T.f_tuple (by decide +kernel) (pda_cons (pd_lc (own := [("_law_number_here", 5)]) rfl sc__law_sums_right.nd (pid_seq (pd_var 1)) (blkOk_by (N := ["_law_abacus_here", "_law_numbers", "_law_turn", "_law_point", "_law_size", "_law_number_here", "_law_first", "_law_many", "_law_due", "_law_told", "_law_label", "_law_at", "_law_far", "_law_total"]) (sc := defScope st__law_sums_right) (by decide +kernel)) (by decide) (fun _ _ _ _ _ _ => (pgd_name (i := 5) sc__law_sums_right.nd rfl (by first | exact Or.inl rfl | exact Or.inr rfl))) (fun _ _ _ _ _ _ => ptsd_nil) (fun _ _ _ _ _ _ => (pd_call k__law_sum (hr.mono (by decide)) hg rfl pass0 kx0 (fun _ _ _ _ _ _ us hl => match us, hl with | [_, _, _], _ => rfl) (pda_cons (pd_var 5) (pda_cons (pd_var 6) (pda_cons (pd_var 12) pda_nil)))))) pda_nil))) (psd_cons (psd_if (ptd_cmp (op_ne2 hr.units) od_ne (pd_repr rfl hg hr.units rfl T.f_repr (pd_lst (pda_cons (pd_call k_sum_of (hr.mono (by decide)) hg rfl pass0 kx0 (fun _ _ _ _ _ _ us hl => match us, hl with | [_, _, _], _ => rfl) (pda_cons (pd_var 3) (pda_cons (pd_var 6) (pda_cons (pd_var 12) pda_nil)))) (pda_cons (pd_callK (ks := ["many", "point", "first"]) (ordOf [1, 2, 0]) k_sum_of (hr.mono (by decide)) hg rfl pass0 kx0 (fun _ _ _ _ _ _ us hl => match us, hl with | [_, _, _], _ => rfl) rfl (ordOf_len rfl) (pkd_cons (pd_var 12) (pkd_cons (pd_callTy call_tuple_of cd_tuple rfl T.f_tuple (by decide +kernel) (pda_cons (pd_var 3) pda_nil)) (pkd_cons (pd_var 6) pkd_nil (fun h => pk_cons (pd_var 6) h)) (fun h => pk_cons (pd_callTy call_tuple_of cd_tuple rfl T.f_tuple (by decide +kernel) (pda_cons (pd_var 3) pda_nil)) h)) (fun h => pk_cons (pd_var 12) h))) pda_nil)))) (pd_repr rfl hg hr.units rfl T.f_repr (pd_lst (pda_cons (pd_var 8) (pda_cons (pd_var 8) pda_nil)))) (nomark _)) (psd_one (psd_ret pd_bl)) psd_nil) (psd_one (psd_ret (pd_cmp (op_eq2 hr.units) od_eq (pd_lc (own := [("_law_number_here", 5), ("_law_total", 13)]) rfl sc__law_sums_right.nd (pid_zipM rfl T.f_zip (pda_cons (pd_var 1) (pda_cons (pd_var 8) pda_nil))) (blkOk_by (N := ["_law_abacus_here", "_law_numbers", "_law_turn", "_law_point", "_law_size", "_law_number_here", "_law_first", "_law_many", "_law_due", "_law_told", "_law_label", "_law_at", "_law_far", "_law_total"]) (sc := defScope st__law_sums_right) (by decide +kernel)) (by decide) (fun _ _ _ _ _ _ => (pgd_seq rfl (pgsd_cons (pgd_name (i := 5) sc__law_sums_right.nd rfl (by first | exact Or.inl rfl | exact Or.inr rfl)) (pgsd_cons (pgd_name (i := 13) sc__law_sums_right.nd rfl (by first | exact Or.inl rfl | exact Or.inr rfl)) pgsd_nil)))) (fun _ _ _ _ _ _ => ptsd_one (ptd_not (ptd_chain op_lt op_lt od_bl od_bl (pd_neg (pd_ix (pd_var 5) pd_int (fun _ _ => rfl))) (pd_sub (pd_mul (pd_var 13) (pd_ix (pd_var 5) pd_int (fun _ _ => rfl))) (pd_mul (pd_var 12) (pd_ix (pd_var 5) pd_int (fun _ _ => rfl)))) (pd_ix (pd_var 5) pd_int (fun _ _ => rfl))))) (fun _ _ _ _ _ _ => (pd_var 5))) (pd_lst pda_nil) (nomark _))))))))))))), fun xs G R h => v__law_sums_right xs G R RX h⟩
/-! ### _law_rounds_right -/
abbrev sp__law_rounds_right : DSp := spRight
def r__law_rounds_right : DS := (dSeq (dSet 1 (dCmp (dIRng1 (dOp fAdd (dC (.int 1)) (dCall sp__law_slide X0 (dCons (dVar 0) (dCons (dC (.int 2)) dNil))))) (gN 2) dYes (dCall sp__law_number X0 (dCons (dVar 0) (dCons (dLst (dCons (dC (.int 1)) (dCons (dC (.int 5)) (dCons (dC (.int 12)) dNil)))) dNil))) [2])) (dSeq (dAsg (dTup (dCons (dCmp (dISeq (dVar 1)) (gN 5) dYes (dIf (dTst (dOp fEq (dIx (dVar 5) (dC (.int 1))) (dC (.int 1)))) (dIx (dVar 5) (dC (.int 0))) (dLst (dCons (dIx (dVar 5) (dC (.int 0))) (dCons (dIx (dVar 5) (dC (.int 1))) dNil)))) [5]) (dCons (dC (.int 1)) dNil))) (gSeq 2 (gCons (gN 3) (gCons (gN 4) gNil)))) (dSeq (dFor (dISeq (dVar 1)) (gSeq 2 (gCons (gN 6) (gCons (gN 7) gNil))) (dSet 4 (dOp (fIntC CDivW fun i j => .int (i / j)) (dCal fIntOf (dCons (dOp (fIntC IntMulOk fun i j => .int (i * j)) (dVar 4) (dVar 7)) dNil)) (dCall sp__law_factor X0 (dCons (dVar 4) (dCons (dVar 7) dNil)))))) (dSeq (dIfS (dTst (dOp fNe (dCal fRepr (dCons (dLst (dCons (dCall sp_comes_again X0 (dCons (dVar 3) dNil)) (dCons (dCallK sp_comes_again (ordOf [0]) X0 (dCons (dCal fTupOf (dCons (dVar 3) dNil)) dNil)) dNil))) dNil)) (dCal fRepr (dCons (dLst (dCons (dVar 4) (dCons (dVar 4) dNil))) dNil)))) (dRet (dC (.bl false))) dNext) (dSeq (dSet 8 (dOp (fInt fun i j => .int (i - j)) (dCall sp__law_slide X0 (dCons (dVar 0) (dCons (dC (.int 50)) dNil))) (dC (.int 25)))) (dSeq (dSet 9 (dCall sp_labels_of X0 (dCons (dVar 3) (dCons (dVar 8) (dCons (dOp (fIntC IntMulOk fun i j => .int (i * j)) (dC (.int 2)) (dVar 4)) dNil))))) (dSeq (dSet 10 (dCall sp_sum_of X0 (dCons (dVar 3) (dCons (dVar 8) (dCons (dVar 4) dNil))))) (dSeq (dIfS (dOr (dTst (dOp fNe (dSl (dVar 9) dNoP (dPart (dVar 4))) (dSl (dVar 9) (dPart (dVar 4)) dNoP))) (dTst (dOp fNe (dCmp (dIZipM (dCons (dVar 1) (dCons (dVar 10) dNil))) (gSeq 2 (gCons (gN 5) (gCons (gN 11) gNil))) (dTst (dOp fNe (dOp (fIntC IntMulOk fun i j => .int (i * j)) (dVar 11) (dIx (dVar 5) (dC (.int 1)))) (dOp (fIntC IntMulOk fun i j => .int (i * j)) (dVar 4) (dIx (dVar 5) (dC (.int 0)))))) (dVar 5) [5, 11]) (dLst dNil)))) (dRet (dC (.bl false))) dNext) (dSeq (dSet 12 (dCmp (dIRng2 (dC (.int 1)) (dVar 4)) (gN 13) (dTst (dOp fEq (dOp (fIntC (fun _ j => 0 < j) fun i j => .int (i % j)) (dCal fIntOf (dCons (dVar 4) dNil)) (dVar 13)) (dC (.int 0)))) (dVar 13) [13])) (dRet (dOp fEq (dCmp (dISeq (dVar 12)) (gN 13) (dTst (dOp fEq (dSl (dVar 9) (dPart (dVar 13)) (dPart (dOp fAdd (dVar 13) (dVar 4)))) (dSl (dVar 9) dNoP (dPart (dVar 4))))) (dVar 13) [13]) (dLst dNil))))))))))))
theorem sc__law_rounds_right : FnScope ["_law_abacus_here", "_law_numbers", "_law_turn", "_law_point", "_law_due", "_law_number_here", "_law_above", "_law_under", "_law_first", "_law_row", "_law_totals", "_law_total", "_law_parts", "_law_part"] ["_law_abacus_here"] (defScope st__law_rounds_right) := ⟨rfl, rfl, rfl, by decide +kernel, rfl, by decide +kernel, by decide +kernel⟩
theorem v__law_rounds_right (xs : List D) (G : Gm) (R : KD) (RX : XD) (h : sp__law_rounds_right xs G R RX) : r__law_rounds_right { nx := fun _ G => R .non G, rt := R } (xs.map some ++ List.replicate (14 - xs.length) none) G := by
  obtain ⟨p, T, rfl, hg, ht, h⟩ := h
  have s2 : 2 ≤ sizeLine := by decide
  have nm : ∀ {ρ : En} {dl : DE} {us : List D} {N : Int}, ρ[0]? = some (some (.ref p)) → (∀ G, Ev dl ρ G (.lst us)) → us ≠ [] → us.length ≤ 1000000 → (∀ u ∈ us, Up N u) → N ≤ 10 ^ 30 → Drw (dCall sp__law_number X0 (dCons (dVar 0) (dCons dl dNil))) ρ p 10 (Pr N) := fun e he h1 h2 h3 h4 G T R hg ht r => ⟨_, e, he G _ ⟨p, _, _, T, rfl, hg, by omega, h1, h2, h3, h4, r⟩⟩
  refine dw_set (Drw.lcRng (lo := 1) (N := 2) (k := 10) (j := 1) (P := Pr 12) (.op (j := 0) (k := 1) (P := fun x => x = .int 1) (P2 := fun x => ∃ v, x = .int v ∧ 0 ≤ v ∧ v < 2) (.ev (fun _ => .c) rfl) (Drw.dial rfl (fun _ => .c) (by decide) (by decide +kernel)) ?_) (fun y => nm (us := [.int 1, .int 5, .int 12]) (N := 12) rfl (fun G => .lst (.cons .c (.cons .c (.one .c))) (show 3 ≤ sizeLine by decide)) (by simp) (by simp) (fun u hu => ?_) (by decide)) (by decide)) hg (by omega) fun z m hz hm => ?_
  · rintro x y rfl ⟨v, rfl, v0, v1⟩
    exact ⟨_, .inl ⟨1, v, rfl, rfl, rfl⟩, (1 + v).toNat, by rw [Int.toNat_of_nonneg (by omega)], by omega, by omega⟩
  · simp only [List.mem_cons, List.not_mem_nil, or_false] at hu
    rcases hu with rfl | rfl | rfl <;> exact ⟨_, rfl, by decide, by decide⟩
  obtain ⟨qs, rfl, l1, l2, hq⟩ := hz
  have qz : qs.length ≤ sizeLine := by rw [sizeLine_eq]; omega
  refine ds_asg2 (.tup (.cons (.lcSeq pt2 (.var rfl) (.inl rfl) (fun y hy => ev_pt2 rfl (hq y hy)) qz) (.one .c)) s2) seq_tup ?_
  have hds : ∀ d ∈ qs.map pt2, (numD d = true ∧ Bn 110 d) ∧ Int.gcd (numI d).1 (numI d).2 = 1 := fun d hd => by
    obtain ⟨q, hq1, rfl⟩ := List.mem_map.mp hd
    have z := pr_pt (hq q hq1) (by decide)
    refine ⟨z.2.1, ?_⟩
    rw [z.2.2.2]
    obtain ⟨a, b, rfl, _, _, hc, _⟩ := hq q hq1
    exact hc
  have eI : ∀ q, Pr 12 q → numI (pt2 q) = numI q := fun q h => (pr_pt h (by decide)).2.2.2
  have eS : ∀ f n : Int, D.tup (qs.map fun q => D.int (sumP f n q)) = tupI (sums (qs.map pt2) f n) := fun f n => congrArg D.tup (sums_map hq eI)
  have hl : (qs.map pt2).length = qs.length := List.length_map _
  have eL : lcmL 1 (qs.map pt2) = lcmL 1 qs := lcmL_map fun q h => eI q (hq q h)
  have dq : ∀ q ∈ qs, den q ≤ 12 := fun q h => by
    obtain ⟨a, b, rfl, _, hb, _, _⟩ := hq q h
    show b.toNat ≤ 12
    omega
  have Lle : lcmL 1 qs ≤ 144 := by
    have h1 := lcmL_le (B := 12) (by decide) (m := 1) dq
    have h2 : 12 ^ qs.length ≤ 12 ^ 2 := Nat.pow_le_pow_right (by decide) l2
    omega
  generalize qs.map pt2 = ds at *
  have dn : ∀ d ∈ ds, numD d = true := fun d hd => (hds d hd).1.1
  have hn : Nms 3000 ds := ⟨dn, fun d hd => (hds d hd).1.2.mono (by decide)⟩
  have px : PtN (.lst ds) ds := ⟨.inr rfl, hn, by omega, by omega⟩
  have pT : PtN (.tup ds) ds := ⟨.inl rfl, hn, by omega, by omega⟩
  rw [← eL] at Lle
  have Lpos : 0 < lcmL 1 ds := lcmL_pos (by decide) fun d hd => (den_num (dn d hd)).2
  have Ldvd : ∀ d ∈ ds, den d ∣ lcmL 1 ds := fun d hd => lcmL_dvd hd
  have Lmin : ∀ k, (∀ d ∈ ds, den d ∣ k) → lcmL 1 ds ∣ k := fun k hk => lcmL_min (Nat.one_dvd k) hk
  refine ⟨_, rfl, qs, .inl rfl, ?_⟩
  refine forL_at (fun rest ρ G' => (∃ (n : Nat) (o2 o5 o6 o7 o8 o9 o10 o11 o12 o13 : Option D), ρ = [some (.ref p), some (.lst qs), o2, some (.lst ds), some (.int n), o5, o6, o7, o8, o9, o10, o11, o12, o13] ∧ 0 < n ∧ lcmL n rest = lcmL 1 qs ∧ n * 12 ^ rest.length ≤ 144) ∧ G' = gup G p m) ?_ ?_ ?_
  · rintro y rest N ρ G1 hsuf hN ⟨⟨n, o2, o5, o6, o7, o8, o9, o10, o11, o12, o13, rfl, hn0, e, hb⟩, rfl⟩
    obtain ⟨a, b, rfl, b0, b12, hc, ha⟩ := hq y (hsuf.subset List.mem_cons_self)
    obtain ⟨u, rfl⟩ : ∃ k : Nat, b = k := ⟨b.toNat, by omega⟩
    refine ⟨_, seq_tup, rfl, _, _, rfl, _, _, rfl, rfl, ?_⟩
    have n8 : n * 1 ≤ n * 12 ^ ((D.tup [.int a, .int u]) :: rest).length := Nat.mul_le_mul_left n (Nat.one_le_pow _ _ (by decide))
    have n7 : n < 2 ^ 7000 := Nat.lt_of_lt_of_le (show n < 2 ^ 8 by omega) (Nat.pow_le_pow_right (by decide) (by decide))
    have u7 : u < 2 ^ 3000 := Nat.lt_of_lt_of_le (show u < 2 ^ 8 by omega) (Nat.pow_le_pow_right (by decide) (by decide))
    refine ds_set (lcm_turn2 (.var rfl) (.var rfl) hn0 n7 u7 (by omega)) ?_
    refine hN _ _ ⟨⟨_, _, _, _, _, _, _, _, _, _, _, rfl, Nat.lcm_pos hn0 (by omega), e, Nat.le_trans ?_ hb⟩, rfl⟩
    rw [List.length_cons, Nat.pow_succ', ← Nat.mul_assoc]
    exact Nat.mul_le_mul_right _ (Nat.le_trans lcm_le (Nat.mul_le_mul_left n (by omega)))
  · rintro ρ G1 ⟨⟨n, o2, o5, o6, o7, o8, o9, o10, o11, o12, o13, rfl, hn0, e, _⟩, rfl⟩
    have en : n = lcmL 1 ds := Eq.trans (show n = lcmL n [] from rfl) (e.trans eL.symm)
    subst en
    generalize eLL : lcmL 1 ds = L at *
    have rI : Sm 0 1 (.int (L : Int)) := .int (Nat.lt_of_lt_of_le (show _ < 2 ^ 300 by omega) (Nat.le_of_lt p300))
    have rr : RepOk (.lst [.int (L : Int), .int L]) := (rI.two rI).rep
    refine ds_if (k := false) (.tst (.neSS (.repr (.lst (.cons (.call (.one (.var rfl)) fun R r => ⟨.lst ds, ds, rfl, px, by rw [eLL]; exact r⟩) (.one (.callK (.one (.tupOf (.var rfl) seq_lst)) fun R r => ⟨.tup ds, ds, rfl, pT, by rw [eLL]; exact r⟩))) s2) rr) (.repr (.lst (.cons (.var rfl) (.one (.var rfl))) s2) rr))) ?_
    rw [if_neg (by decide)]
    refine dw_set (P := fun x => ∃ f : Int, x = .int f ∧ f.natAbs < 100) (.op (j := 1) (k := 0) (P := fun x => ∃ v, x = .int v ∧ 0 ≤ v ∧ v < 50) (P2 := fun x => x = .int 25) (Drw.dial rfl (fun _ => .c) (by decide) (by decide +kernel)) (.ev (fun _ => .c) rfl) ?_) (gau_gup hm) (by omega) fun x m1 hx hm1 => ?_
    · rintro x y ⟨v, rfl, v0, v1⟩ rfl
      exact ⟨_, ⟨v, 25, rfl, rfl, rfl⟩, v - 25, rfl, by omega⟩
    obtain ⟨f, rfl, hf⟩ := hx
    rw [gup_gup]
    have f1 : f.natAbs < 2 ^ 2900 := tm_ok 10 (by omega)
    refine ds_set (.labelsOf (.var rfl) (.var rfl) ((Ev.mul .c (.var rfl) (mul_left (by decide))).cast (z' := .int ((2 * L : Nat) : Int)) (congrArg D.int (by omega))) px f1 (by omega)) ?_
    refine ds_set (.sumOf (.var rfl) (.var rfl) (.var rfl) px f1 (by omega) (tm_ok 10 (by omega))) ?_
    have eT : D.tup ((labsT ds f (2 * L)).take (L : Int).toNat) = .tup (labsT ds f L) := by
      have := labsT_cut (ds := ds) (f := f) (n := 2 * L) (i := 0) (k := L) (by omega)
      rw [List.drop_zero] at this
      rw [Int.toNat_natCast, this]
      show D.tup (labsT ds (f + 0) L) = _
      rw [Int.add_zero]
    have eD : D.tup ((labsT ds f (2 * L)).drop (L : Int).toNat) = .tup (labsT ds f L) := by
      have := labsT_cut (ds := ds) (f := f) (n := 2 * L) (i := L) (k := L) (by omega)
      rw [List.take_of_length_le (by rw [List.length_drop, labsT_len]; omega)] at this
      rw [Int.toNat_natCast, this]
      unfold labsT
      refine congrArg D.tup (List.map_congr_left fun i _ => ?_)
      have e1 : f + L + i = (f + i) + (L : Int) := by omega
      rw [e1, labs_again dn (fun d hd => Ldvd d hd)]
    have fl : ∀ {G : Gm} {o2 o5 o6 o7 o11 o12 o13 : Option D}, Ev (dCmp (dIZipM (dCons (dVar 1) (dCons (dVar 10) dNil))) (gSeq 2 (gCons (gN 5) (gCons (gN 11) gNil))) (dTst (dOp fNe (dOp (fIntC IntMulOk fun i j => .int (i * j)) (dVar 11) (dIx (dVar 5) (dC (.int 1)))) (dOp (fIntC IntMulOk fun i j => .int (i * j)) (dVar 4) (dIx (dVar 5) (dC (.int 0)))))) (dVar 5) [5, 11])
        [some (.ref p), some (.lst qs), o2, some (.lst ds), some (.int L), o5, o6, o7, some (.int f), some (.tup (labsT ds f (2 * L))), some (tupI (sums ds f L)), o11, o12, o13] G (.lst []) := fun {G o2 o5 o6 o7 o11 o12 o13} R r => by
      refine ⟨_, rfl, _, rfl, qs, (sums ds f L).map D.int, rfl, ?_⟩
      refine cmpL_none (fun z hz N hN => ?_) r
      obtain ⟨i, hi⟩ := List.getElem?_of_mem hz
      obtain ⟨q, d, eq1, ed, rfl⟩ := zip_at hi
      have e0 := eS f L
      rw [tupI, D.tup.injEq] at e0
      rw [← e0, List.getElem?_map, eq1] at ed
      cases ed
      have hqm := List.mem_of_getElem? eq1
      have qd : den q ∣ L := by
        rw [eL]
        exact lcmL_dvd hqm
      obtain ⟨a, b, rfl, b0, b12, hc, ha⟩ := hq q hqm
      obtain ⟨u, rfl⟩ : ∃ k : Nat, b = k := ⟨b.toNat, by omega⟩
      obtain ⟨c, hcL⟩ := (show u ∣ L from qd)
      have just : sumP f L (.tup [.int a, .int u]) = c * a := by
        have := sum_just (a := a) (b := (u : Int)) (c := c) (f := f) (by omega)
        rw [← this]
        show (f + L - 1) * a / u - (f - 1) * a / u = _
        rw [hcL]
        push_cast
        rfl
      refine ⟨_, seq_tup, rfl, _, _, rfl, _, _, rfl, rfl, ?_⟩
      refine (EvT.tst (.neI (.mul (.var rfl) (.at (.var rfl) .c seq_tup rfl) (mul_right (by omega))) (.mul (.var rfl) (.at (.var rfl) .c seq_tup rfl) (mul_left (by omega))))).cast (k := false) ?_ _ (hN _)
      have e5 : sumP f L (.tup [.int a, .int u]) * (u : Int) = L * a := by
        rw [just, hcL]
        push_cast
        grind
      rw [decide_eq_true e5]
      rfl
    refine ds_if (k := false) (.orF (.tst (.neT ((Ev.slTo (.var rfl) (.var rfl) (by rw [labsT_len]; omega) (by omega)).cast eT) ((Ev.slFrom (.var rfl) (.var rfl) (by omega) (by rw [labsT_len]; omega)).cast eD) cmp_labsT)) (.tst (Ev.neNil (cs := []) fl))) ?_
    rw [if_neg (by decide)]
    refine ds_set (.lcFiltR (fun y => match y with | .int k => decide ((L : Int) % k = 0) | _ => false) (fun y => y) .c (.var rfl) (by decide) (by omega) (fun y hy => ?_) (by rw [sizeLine_eq]; omega)) ?_
    · obtain ⟨i, _, rfl⟩ := List.mem_map.mp hy
      exact ⟨.tst (.eqI (.mod (.intOf (.var rfl)) (.var rfl) (show (0 : Int) < 1 + i by omega)) .c), fun _ => .var rfl⟩
    have hps : ∀ y ∈ ((rngD 1 ((L : Int) - 1).toNat).filter (fun y => match y with | .int k => decide ((L : Int) % k = 0) | _ => false)).map (fun y => y), ∃ k : Nat, y = .int k ∧ 1 ≤ k ∧ k < L ∧ k ∣ L := fun y hy => by
      rw [List.map_id'] at hy
      obtain ⟨h1, h2⟩ := List.mem_filter.mp hy
      obtain ⟨i, hi, rfl⟩ := List.mem_map.mp h1
      have hi2 := List.mem_range.mp hi
      have h3 := of_decide_eq_true h2
      refine ⟨1 + i, by push_cast; rfl, by omega, by omega, ?_⟩
      have h4 : ((1 + i : Nat) : Int) ∣ (L : Int) := Int.dvd_of_emod_eq_zero (by push_cast; exact h3)
      exact_mod_cast h4
    have plen : (((rngD 1 ((L : Int) - 1).toNat).filter (fun y => match y with | .int k => decide ((L : Int) % k = 0) | _ => false)).map (fun y => y)).length ≤ 200 := by
      rw [List.length_map]
      refine Nat.le_trans (List.length_filter_le _ _) ?_
      unfold rngD
      rw [List.length_map, List.length_range]
      omega
    generalize ((rngD 1 ((L : Int) - 1).toNat).filter (fun y => match y with | .int k => decide ((L : Int) % k = 0) | _ => false)).map (fun y => y) = ps at *
    have none_ : ∀ {o2 o5 o6 o7 o11 o13 : Option D} {G : Gm}, ps.length ≤ sizeLine → Ev (dCmp (dISeq (dVar 12)) (gN 13) (dTst (dOp fEq (dSl (dVar 9) (dPart (dVar 13)) (dPart (dOp fAdd (dVar 13) (dVar 4)))) (dSl (dVar 9) dNoP (dPart (dVar 4))))) (dVar 13) [13])
        [some (.ref p), some (.lst qs), o2, some (.lst ds), some (.int L), o5, o6, o7, some (.int f), some (.tup (labsT ds f (2 * L))), some (tupI (sums ds f L)), o11, some (.lst ps), o13] G (.lst []) := fun {o2 o5 o6 o7 o11 o13 G} hz => by
      refine (Ev.lcFilt (fun _ => false) (fun y => y) (.var rfl) (.inl rfl) (fun y hy => ⟨?_, fun h => nomatch h⟩) hz).cast (by simp)
      obtain ⟨k, rfl, k1, k2, c, hcL⟩ := hps y hy
      have c0 : 0 < c := Nat.pos_of_ne_zero fun z => by
        rw [z, Nat.mul_zero] at hcL
        omega
      have eM : D.tup (((labsT ds f (2 * L)).drop (k : Int).toNat).take (((k : Int) + L).toNat - (k : Int).toNat)) = .tup (labsT ds (f + k) L) := by
        have e1 : ((k : Int) + L).toNat - (k : Int).toNat = L := by omega
        rw [e1, Int.toNat_natCast, labsT_cut (by omega)]
      have no : ¬ (labsT ds (f + k) L = labsT ds f L) := fun e => by
        have hk : L ∣ k := Lmin k fun d hd => no_less (dn d hd) (hds d hd).2 hcL (Ldvd d hd) c0 (f := f) fun i hi => labs_at (labsT_at e hi) hd
        have := Nat.le_of_dvd (by omega) hk
        omega
      refine (EvT.tst (Ev.eqP (p := False) ((Ev.slMid (.var rfl) (.var rfl) (.add (.var rfl) (.var rfl)) (by omega) (by omega) (by rw [labsT_len]; omega)).cast eM) ((Ev.slTo (.var rfl) (.var rfl) (by rw [labsT_len]; omega) (by omega)).cast eT) cmp_labsT cmp_labsT pln_labsT pln_labsT (fun _ z => by cases z) (fun _ z => by cases z) ⟨fun z => no (by injection z), False.elim⟩)).cast ?_
      rfl
    refine ds_ret (x := .bl true) (Ev.eqNil (cs := []) (none_ ?_)) ?_
    rotate_left
    · exact h _ (hm1.mono (by omega))
    have hlen : ps.length ≤ 200 := plen
    rw [sizeLine_eq]
    omega
  · exact ⟨⟨1, _, _, _, _, _, _, _, _, _, _, rfl, by decide, rfl, by
      have h2 : 12 ^ qs.length ≤ 12 ^ 2 := Nat.pow_le_pow_right (by decide) l2
      omega⟩, rfl⟩
theorem l__law_rounds_right (xs : List D) (G : Gm) (R : KD) (RX : XD) (h : sp__law_rounds_right xs G R RX) : xs.length = 1 := by
  obtain ⟨_, _, rfl, _⟩ := h
  rfl
set_option maxHeartbeats 4000000 in
theorem k__law_rounds_right {P : Program} {w : World} {K : PySem.W.Frag} {mg : Str → Option Value} {base : Heap} (T : Tx mg) (F : Df K mg "_law_rounds_right" st__law_rounds_right) (k_labels_of : Kn P w K mg base 6 "labels_of" st_labels_of ["point", "first", "many"] sp_labels_of) (k_sum_of : Kn P w K mg base 6 "sum_of" st_sum_of ["point", "first", "many"] sp_sum_of) (k_comes_again : Kn P w K mg base 6 "comes_again" st_comes_again ["point"] sp_comes_again) (k__law_slide : Kn P w K mg base 1 "_law_slide" st__law_slide ["_law_abacus_here", "_law_many"] sp__law_slide) (k__law_factor : Kn P w K mg base 1 "_law_factor" st__law_factor ["_law_one_here", "_law_other"] sp__law_factor) (k__law_number : Kn P w K mg base 3 "_law_number" st__law_number ["_law_abacus_here", "_law_unders"] sp__law_number) :
    Kn P w K mg base 7 "_law_rounds_right" st__law_rounds_right ["_law_abacus_here"] sp__law_rounds_right :=
  kn_of F.g F.f sc__law_rounds_right l__law_rounds_right fun cdv A outer s H E B RX hr hg kx => ⟨r__law_rounds_right, (psd_cons (psd_setLc (i := 1) (own := [("_law_turn", 2)]) rfl sc__law_rounds_right.nd rfl rfl (sw_true rfl rfl rfl (by decide +kernel)) (pid_rng1 rfl T.f_range (pd_add pd_int (pd_call k__law_slide (hr.mono (by decide)) hg rfl pass0 kx0 (fun _ _ _ _ _ _ us hl => match us, hl with | [_, _], _ => rfl) (pda_cons (pd_var 0) (pda_cons pd_int pda_nil))))) (blkOk_by (N := ["_law_abacus_here", "_law_numbers", "_law_turn", "_law_point", "_law_due", "_law_number_here", "_law_above", "_law_under", "_law_first", "_law_row", "_law_totals", "_law_total", "_law_parts", "_law_part"]) (sc := defScope st__law_rounds_right) (by decide +kernel)) (by decide) (fun _ _ _ _ _ _ => (pgd_name (i := 2) sc__law_rounds_right.nd rfl (by first | exact Or.inl rfl | exact Or.inr rfl))) (fun _ _ _ _ _ _ => ptsd_nil) (fun _ _ _ _ _ _ => (pd_call k__law_number (hr.mono (by decide)) hg rfl pass0 kx0 (fun _ _ _ _ _ _ us hl => match us, hl with | [_, _], _ => rfl) (pda_cons (pd_var 0) (pda_cons (pd_lst (pda_cons pd_int (pda_cons pd_int (pda_cons pd_int pda_nil)))) pda_nil))))) (psd_cons (psd_asg (pd_tup (pda_cons (pd_lc (own := [("_law_number_here", 5)]) rfl sc__law_rounds_right.nd (pid_seq (pd_var 1)) (blkOk_by (N := ["_law_abacus_here", "_law_numbers", "_law_turn", "_law_point", "_law_due", "_law_number_here", "_law_above", "_law_under", "_law_first", "_law_row", "_law_totals", "_law_total", "_law_parts", "_law_part"]) (sc := defScope st__law_rounds_right) (by decide +kernel)) (by decide) (fun _ _ _ _ _ _ => (pgd_name (i := 5) sc__law_rounds_right.nd rfl (by first | exact Or.inl rfl | exact Or.inr rfl))) (fun _ _ _ _ _ _ => ptsd_nil) (fun _ _ _ _ _ _ => (pd_if (ptd_cmp (op_eq2 hr.units) od_eq (pd_ix (pd_var 5) pd_int (fun _ _ => rfl)) pd_int (nomark _)) (pd_ix (pd_var 5) pd_int (fun _ _ => rfl)) (pd_lst (pda_cons (pd_ix (pd_var 5) pd_int (fun _ _ => rfl)) (pda_cons (pd_ix (pd_var 5) pd_int (fun _ _ => rfl)) pda_nil)))))) (pda_cons pd_int pda_nil))) (pgd_seq rfl (pgsd_cons (pgd_name (i := 3) sc__law_rounds_right.nd rfl (by first | exact Or.inl rfl | exact Or.inr rfl)) (pgsd_cons (pgd_name (i := 4) sc__law_rounds_right.nd rfl (by first | exact Or.inl rfl | exact Or.inr rfl)) pgsd_nil)))) (psd_cons (psd_for (passes_of rfl) rfl (pid_seq (pd_var 1)) (pgd_seq rfl (pgsd_cons (pgd_name (i := 6) sc__law_rounds_right.nd rfl (by first | exact Or.inl rfl | exact Or.inr rfl)) (pgsd_cons (pgd_name (i := 7) sc__law_rounds_right.nd rfl (by first | exact Or.inl rfl | exact Or.inr rfl)) pgsd_nil))) (psd_one (psd_set (i := 4) sc__law_rounds_right.nd rfl (by first | exact Or.inl rfl | exact Or.inr rfl) (pd_fdiv (pd_callTy call_int1 cd_int rfl T.f_int (by decide +kernel) (pda_cons (pd_mul (pd_var 4) (pd_var 7)) pda_nil)) (pd_call k__law_factor (hr.mono (by decide)) hg rfl pass0 kx0 (fun _ _ _ _ _ _ us hl => match us, hl with | [_, _], _ => rfl) (pda_cons (pd_var 4) (pda_cons (pd_var 7) pda_nil))))))) (psd_cons (psd_if (ptd_cmp (op_ne2 hr.units) od_ne (pd_repr rfl hg hr.units rfl T.f_repr (pd_lst (pda_cons (pd_call k_comes_again (hr.mono (by decide)) hg rfl pass0 kx0 (fun _ _ _ _ _ _ us hl => match us, hl with | [_], _ => rfl) (pda_cons (pd_var 3) pda_nil)) (pda_cons (pd_callK (ks := ["point"]) (ordOf [0]) k_comes_again (hr.mono (by decide)) hg rfl pass0 kx0 (fun _ _ _ _ _ _ us hl => match us, hl with | [_], _ => rfl) rfl (ordOf_len rfl) (pkd_cons (pd_callTy call_tuple_of cd_tuple rfl T.f_tuple (by decide +kernel) (pda_cons (pd_var 3) pda_nil)) pkd_nil (fun h => pk_cons (pd_callTy call_tuple_of cd_tuple rfl T.f_tuple (by decide +kernel) (pda_cons (pd_var 3) pda_nil)) h))) pda_nil)))) (pd_repr rfl hg hr.units rfl T.f_repr (pd_lst (pda_cons (pd_var 4) (pda_cons (pd_var 4) pda_nil)))) (nomark _)) (psd_one (psd_ret pd_bl)) psd_nil) (psd_cons (psd_set (i := 8) sc__law_rounds_right.nd rfl (by first | exact Or.inl rfl | exact Or.inr rfl) (pd_sub (pd_call k__law_slide (hr.mono (by decide)) hg rfl pass0 kx0 (fun _ _ _ _ _ _ us hl => match us, hl with | [_, _], _ => rfl) (pda_cons (pd_var 0) (pda_cons pd_int pda_nil))) pd_int)) (psd_cons (psd_set (i := 9) sc__law_rounds_right.nd rfl (by first | exact Or.inl rfl | exact Or.inr rfl) (pd_call k_labels_of (hr.mono (by decide)) hg rfl pass0 kx0 (fun _ _ _ _ _ _ us hl => match us, hl with | [_, _, _], _ => rfl) (pda_cons (pd_var 3) (pda_cons (pd_var 8) (pda_cons (pd_mul pd_int (pd_var 4)) pda_nil))))) (psd_cons (psd_set (i := 10) sc__law_rounds_right.nd rfl (by first | exact Or.inl rfl | exact Or.inr rfl) (pd_call k_sum_of (hr.mono (by decide)) hg rfl pass0 kx0 (fun _ _ _ _ _ _ us hl => match us, hl with | [_, _, _], _ => rfl) (pda_cons (pd_var 3) (pda_cons (pd_var 8) (pda_cons (pd_var 4) pda_nil))))) (psd_cons (psd_if (PW.pt (pwd_or (ptd_cmp (op_ne2 hr.units) od_ne (pd_slice (pd_var 9) pod_none (pod_some (pd_var 4))) (pd_slice (pd_var 9) (pod_some (pd_var 4)) pod_none) (nomark _)) (pwd_or1 (ptd_cmp (op_ne2 hr.units) od_ne (pd_lc (own := [("_law_number_here", 5), ("_law_total", 11)]) rfl sc__law_rounds_right.nd (pid_zipM rfl T.f_zip (pda_cons (pd_var 1) (pda_cons (pd_var 10) pda_nil))) (blkOk_by (N := ["_law_abacus_here", "_law_numbers", "_law_turn", "_law_point", "_law_due", "_law_number_here", "_law_above", "_law_under", "_law_first", "_law_row", "_law_totals", "_law_total", "_law_parts", "_law_part"]) (sc := defScope st__law_rounds_right) (by decide +kernel)) (by decide) (fun _ _ _ _ _ _ => (pgd_seq rfl (pgsd_cons (pgd_name (i := 5) sc__law_rounds_right.nd rfl (by first | exact Or.inl rfl | exact Or.inr rfl)) (pgsd_cons (pgd_name (i := 11) sc__law_rounds_right.nd rfl (by first | exact Or.inl rfl | exact Or.inr rfl)) pgsd_nil)))) (fun _ _ _ _ _ _ => ptsd_one (ptd_cmp (op_ne2 hr.units) od_ne (pd_mul (pd_var 11) (pd_ix (pd_var 5) pd_int (fun _ _ => rfl))) (pd_mul (pd_var 4) (pd_ix (pd_var 5) pd_int (fun _ _ => rfl))) (nomark _))) (fun _ _ _ _ _ _ => (pd_var 5))) (pd_lst pda_nil) (nomark _))))) (psd_one (psd_ret pd_bl)) psd_nil) (psd_cons (psd_setLc (i := 12) (own := [("_law_part", 13)]) rfl sc__law_rounds_right.nd rfl rfl (sw_true rfl rfl rfl (by decide +kernel)) (pid_rng2 rfl T.f_range pd_int (pd_var 4)) (blkOk_by (N := ["_law_abacus_here", "_law_numbers", "_law_turn", "_law_point", "_law_due", "_law_number_here", "_law_above", "_law_under", "_law_first", "_law_row", "_law_totals", "_law_total", "_law_parts", "_law_part"]) (sc := defScope st__law_rounds_right) (by decide +kernel)) (by decide) (fun _ _ _ _ _ _ => (pgd_name (i := 13) sc__law_rounds_right.nd rfl (by first | exact Or.inl rfl | exact Or.inr rfl))) (fun _ _ _ _ _ _ => ptsd_one (ptd_cmp (op_eq2 hr.units) od_eq (pd_mod (pd_callTy call_int1 cd_int rfl T.f_int (by decide +kernel) (pda_cons (pd_var 4) pda_nil)) (pd_var 13)) pd_int (nomark _))) (fun _ _ _ _ _ _ => (pd_var 13))) (psd_one (psd_ret (pd_cmp (op_eq2 hr.units) od_eq (pd_lc (own := [("_law_part", 13)]) rfl sc__law_rounds_right.nd (pid_seq (pd_var 12)) (blkOk_by (N := ["_law_abacus_here", "_law_numbers", "_law_turn", "_law_point", "_law_due", "_law_number_here", "_law_above", "_law_under", "_law_first", "_law_row", "_law_totals", "_law_total", "_law_parts", "_law_part"]) (sc := defScope st__law_rounds_right) (by decide +kernel)) (by decide) (fun _ _ _ _ _ _ => (pgd_name (i := 13) sc__law_rounds_right.nd rfl (by first | exact Or.inl rfl | exact Or.inr rfl))) (fun _ _ _ _ _ _ => ptsd_one (ptd_cmp (op_eq2 hr.units) od_eq (pd_slice (pd_var 9) (pod_some (pd_var 13)) (pod_some (pd_add (pd_var 13) (pd_var 4)))) (pd_slice (pd_var 9) pod_none (pod_some (pd_var 4))) (nomark _))) (fun _ _ _ _ _ _ => (pd_var 13))) (pd_lst pda_nil) (nomark _))))))))))))), fun xs G R h => v__law_rounds_right xs G R RX h⟩
/-! ### _law_great_right -/
abbrev sp__law_great_right : DSp := spRight
def r__law_great_right : DS := (dSeq (dPar 1 2 (dCons (dCmp (dIRng1 (dC (.int 2))) (gN 3) dYes (dCall sp__law_number X0 (dCons (dVar 0) (dCons (dLst (dCons (dOp (fIntC CPw fun i j => .int (i ^ j.toNat)) (dC (.int 10)) (dC (.int 30))) (dCons (dOp (fIntC CPw fun i j => .int (i ^ j.toNat)) (dC (.int 10)) (dC (.int 12))) dNil))) dNil))) [3]) (dCons (dC (.int 1)) dNil))) (dSeq (dFor (dISeq (dVar 1)) (gSeq 2 (gCons (gN 4) (gCons (gN 5) gNil))) (dSet 2 (dOp (fIntC CDivW fun i j => .int (i / j)) (dCal fIntOf (dCons (dOp (fIntC IntMulOk fun i j => .int (i * j)) (dVar 2) (dVar 5)) dNil)) (dCall sp__law_factor X0 (dCons (dVar 2) (dCons (dVar 5) dNil)))))) (dRet (dOp fEq (dCal fRepr (dCons (dCall sp_comes_again X0 (dCons (dCmp (dISeq (dVar 1)) (gN 6) dYes (dIf (dTst (dOp fEq (dIx (dVar 6) (dC (.int 1))) (dC (.int 1)))) (dIx (dVar 6) (dC (.int 0))) (dVar 6)) [6]) dNil)) dNil)) (dCal fRepr (dCons (dVar 2) dNil))))))
theorem sc__law_great_right : FnScope ["_law_abacus_here", "_law_numbers", "_law_due", "_law_turn", "_law_above", "_law_under", "_law_number_here"] ["_law_abacus_here"] (defScope st__law_great_right) := ⟨rfl, rfl, rfl, by decide +kernel, rfl, by decide +kernel, by decide +kernel⟩
theorem v__law_great_right (xs : List D) (G : Gm) (R : KD) (RX : XD) (h : sp__law_great_right xs G R RX) : r__law_great_right { nx := fun _ G => R .non G, rt := R } (xs.map some ++ List.replicate (7 - xs.length) none) G := by
  obtain ⟨p, T, rfl, hg, ht, h⟩ := h
  have s2 : 2 ≤ sizeLine := by decide
  have nm : ∀ {ρ : En} {dl : DE} {us : List D} {N : Int}, ρ[0]? = some (some (.ref p)) → (∀ G, Ev dl ρ G (.lst us)) → us ≠ [] → us.length ≤ 1000000 → (∀ u ∈ us, Up N u) → N ≤ 10 ^ 30 → Drw (dCall sp__law_number X0 (dCons (dVar 0) (dCons dl dNil))) ρ p 10 (Pr N) := fun e he h1 h2 h3 h4 G T R hg ht r => ⟨_, e, he G _ ⟨p, _, _, T, rfl, hg, by omega, h1, h2, h3, h4, r⟩⟩
  refine dw_par (P := fun z => ∃ ys, z = .lst ys ∧ 2 ≤ ys.length ∧ ys.length ≤ 2 ∧ ∀ y ∈ ys, Pr (10 ^ 30) y) (P2 := fun x => x = .int 1) (Drw.lcRng (lo := 2) (N := 2) (k := 10) (j := 0) (P := Pr (10 ^ 30)) (.ev (fun _ => .c) ⟨2, rfl, by decide, by decide⟩) (fun y => nm (us := [.int (10 ^ 30), .int (10 ^ 12)]) (N := 10 ^ 30) rfl (fun G => .lst (.cons (.pow .c .c pw30) (.one (.pow .c .c pw12))) s2) (by simp) (by simp) (fun u hu => ?_) (Int.le_refl _)) (by decide)) (.ev (fun _ => .c) rfl) hg (by omega) fun z x m hz hx hm => ?_
  · simp only [List.mem_cons, List.not_mem_nil, or_false] at hu
    rcases hu with rfl | rfl <;> exact ⟨_, rfl, by decide, by decide⟩
  subst hx
  obtain ⟨qs, rfl, l1, l2, hq⟩ := hz
  have qz : qs.length ≤ sizeLine := by rw [sizeLine_eq]; omega
  have hds : ∀ d ∈ qs.map pt, numD d = true ∧ Bn 110 d := fun d hd => by
    obtain ⟨q, hq1, rfl⟩ := List.mem_map.mp hd
    exact (pr_pt (hq q hq1) (Int.le_refl _)).1
  have eI : ∀ q, Pr (10 ^ 30) q → numI (pt q) = numI q := fun q h => (pr_pt h (Int.le_refl _)).2.2.1
  have hl : (qs.map pt).length = qs.length := List.length_map _
  have eL : lcmL 1 (qs.map pt) = lcmL 1 qs := lcmL_map fun q h => eI q (hq q h)
  have b2 : (10 : Int) ^ 30 < 2 ^ 110 := by decide
  have dq : ∀ q ∈ qs, den q ≤ 2 ^ 110 := fun q h => by
    obtain ⟨a, b, rfl, _, hb, _, _⟩ := hq q h
    show b.toNat ≤ 2 ^ 110
    omega
  have Lle : lcmL 1 qs ≤ 2 ^ 220 := by
    have h1 := lcmL_le (B := 2 ^ 110) (by decide) (m := 1) dq
    have h2 : (2 ^ 110) ^ qs.length ≤ (2 ^ 110) ^ 2 := Nat.pow_le_pow_right (by decide) l2
    omega
  have hn : Nms 3000 (qs.map pt) := ⟨fun d hd => (hds d hd).1, fun d hd => (hds d hd).2.mono (by decide)⟩
  have px : PtN (.lst (qs.map pt)) (qs.map pt) := ⟨.inr rfl, hn, by omega, by omega⟩
  refine ⟨_, rfl, qs, .inl rfl, ?_⟩
  refine forL_at (fun rest ρ G' => (∃ (n : Nat) (o3 o4 o5 o6 : Option D), ρ = [some (.ref p), some (.lst qs), some (.int n), o3, o4, o5, o6] ∧ 0 < n ∧ lcmL n rest = lcmL 1 qs ∧ n * (2 ^ 110) ^ rest.length ≤ 2 ^ 220) ∧ G' = gup G p m) ?_ ?_ ?_
  · rintro y rest N ρ G1 hsuf hN ⟨⟨n, o3, o4, o5, o6, rfl, hn0, e, hb⟩, rfl⟩
    obtain ⟨a, b, rfl, b0, b12, hc, ha⟩ := hq y (hsuf.subset List.mem_cons_self)
    obtain ⟨u, rfl⟩ : ∃ k : Nat, b = k := ⟨b.toNat, by omega⟩
    refine ⟨_, seq_tup, rfl, _, _, rfl, _, _, rfl, rfl, ?_⟩
    have n8 : n * 1 ≤ n * (2 ^ 110) ^ ((D.tup [.int a, .int u]) :: rest).length := Nat.mul_le_mul_left n (Nat.one_le_pow _ _ (by decide))
    have n7 : n < 2 ^ 7000 := Nat.lt_of_lt_of_le (show n < 2 ^ 221 by omega) (Nat.pow_le_pow_right (by decide) (by decide))
    have u7 : u < 2 ^ 3000 := Nat.lt_of_lt_of_le (show u < 2 ^ 110 by omega) (Nat.pow_le_pow_right (by decide) (by decide))
    refine ds_set (lcm_turn2 (.var rfl) (.var rfl) hn0 n7 u7 (by omega)) ?_
    refine hN _ _ ⟨⟨_, _, _, _, _, rfl, Nat.lcm_pos hn0 (by omega), e, Nat.le_trans ?_ hb⟩, rfl⟩
    rw [List.length_cons, Nat.pow_succ' (m := 2 ^ 110) (n := rest.length), ← Nat.mul_assoc]
    exact Nat.mul_le_mul_right _ (Nat.le_trans lcm_le (Nat.mul_le_mul_left n (by omega)))
  · rintro ρ G1 ⟨⟨n, o3, o4, o5, o6, rfl, hn0, e, hb⟩, rfl⟩
    have en : n = lcmL 1 (qs.map pt) := Eq.trans (show n = lcmL n [] from rfl) (e.trans eL.symm)
    have nb : n < 10 ^ 560 := Nat.lt_of_le_of_lt (show n ≤ 2 ^ 220 by rw [en, eL]; exact Lle) (Nat.lt_trans (by decide) p300)
    have rr : RepOk (.int (n : Int)) := (Sm.int (by rw [Int.natAbs_natCast]; exact nb)).rep
    refine ds_ret (.eqSS (.repr (.call (.one (.lcSeq pt (.var rfl) (.inl rfl) (fun y hy => ev_pt rfl (hq y hy)) qz)) fun R r => ⟨_, _, rfl, px, by rw [← en]; exact r⟩) rr) (.repr (.var rfl) rr)) (h _ (hm.mono (by omega)))
  · exact ⟨⟨1, _, _, _, _, rfl, by decide, rfl, by
      have h2 : (2 ^ 110) ^ qs.length ≤ (2 ^ 110) ^ 2 := Nat.pow_le_pow_right (by decide) l2
      omega⟩, rfl⟩
theorem l__law_great_right (xs : List D) (G : Gm) (R : KD) (RX : XD) (h : sp__law_great_right xs G R RX) : xs.length = 1 := by
  obtain ⟨_, _, rfl, _⟩ := h
  rfl
set_option maxHeartbeats 4000000 in
theorem k__law_great_right {P : Program} {w : World} {K : PySem.W.Frag} {mg : Str → Option Value} {base : Heap} (T : Tx mg) (F : Df K mg "_law_great_right" st__law_great_right) (k_comes_again : Kn P w K mg base 6 "comes_again" st_comes_again ["point"] sp_comes_again) (k__law_factor : Kn P w K mg base 1 "_law_factor" st__law_factor ["_law_one_here", "_law_other"] sp__law_factor) (k__law_number : Kn P w K mg base 3 "_law_number" st__law_number ["_law_abacus_here", "_law_unders"] sp__law_number) :
    Kn P w K mg base 7 "_law_great_right" st__law_great_right ["_law_abacus_here"] sp__law_great_right :=
  kn_of F.g F.f sc__law_great_right l__law_great_right fun cdv A outer s H E B RX hr hg kx => ⟨r__law_great_right, (psd_cons (psd_par (i := 1) (j := 2) rfl sc__law_great_right.nd rfl rfl (by decide) rfl rfl (pda_cons (pd_lc (own := [("_law_turn", 3)]) rfl sc__law_great_right.nd (pid_rng1 rfl T.f_range pd_int) (blkOk_by (N := ["_law_abacus_here", "_law_numbers", "_law_due", "_law_turn", "_law_above", "_law_under", "_law_number_here"]) (sc := defScope st__law_great_right) (by decide +kernel)) (by decide) (fun _ _ _ _ _ _ => (pgd_name (i := 3) sc__law_great_right.nd rfl (by first | exact Or.inl rfl | exact Or.inr rfl))) (fun _ _ _ _ _ _ => ptsd_nil) (fun _ _ _ _ _ _ => (pd_call k__law_number (hr.mono (by decide)) hg rfl pass0 kx0 (fun _ _ _ _ _ _ us hl => match us, hl with | [_, _], _ => rfl) (pda_cons (pd_var 0) (pda_cons (pd_lst (pda_cons (pd_pow pd_int pd_int) (pda_cons (pd_pow pd_int pd_int) pda_nil))) pda_nil))))) (pda_cons pd_int pda_nil)) rfl) (psd_cons (psd_for (passes_of rfl) rfl (pid_seq (pd_var 1)) (pgd_seq rfl (pgsd_cons (pgd_name (i := 4) sc__law_great_right.nd rfl (by first | exact Or.inl rfl | exact Or.inr rfl)) (pgsd_cons (pgd_name (i := 5) sc__law_great_right.nd rfl (by first | exact Or.inl rfl | exact Or.inr rfl)) pgsd_nil))) (psd_one (psd_set (i := 2) sc__law_great_right.nd rfl (by first | exact Or.inl rfl | exact Or.inr rfl) (pd_fdiv (pd_callTy call_int1 cd_int rfl T.f_int (by decide +kernel) (pda_cons (pd_mul (pd_var 2) (pd_var 5)) pda_nil)) (pd_call k__law_factor (hr.mono (by decide)) hg rfl pass0 kx0 (fun _ _ _ _ _ _ us hl => match us, hl with | [_, _], _ => rfl) (pda_cons (pd_var 2) (pda_cons (pd_var 5) pda_nil))))))) (psd_one (psd_ret (pd_cmp (op_eq2 hr.units) od_eq (pd_repr rfl hg hr.units rfl T.f_repr (pd_call k_comes_again (hr.mono (by decide)) hg rfl pass0 kx0 (fun _ _ _ _ _ _ us hl => match us, hl with | [_], _ => rfl) (pda_cons (pd_lc (own := [("_law_number_here", 6)]) rfl sc__law_great_right.nd (pid_seq (pd_var 1)) (blkOk_by (N := ["_law_abacus_here", "_law_numbers", "_law_due", "_law_turn", "_law_above", "_law_under", "_law_number_here"]) (sc := defScope st__law_great_right) (by decide +kernel)) (by decide) (fun _ _ _ _ _ _ => (pgd_name (i := 6) sc__law_great_right.nd rfl (by first | exact Or.inl rfl | exact Or.inr rfl))) (fun _ _ _ _ _ _ => ptsd_nil) (fun _ _ _ _ _ _ => (pd_if (ptd_cmp (op_eq2 hr.units) od_eq (pd_ix (pd_var 6) pd_int (fun _ _ => rfl)) pd_int (nomark _)) (pd_ix (pd_var 6) pd_int (fun _ _ => rfl)) (pd_var 6)))) pda_nil))) (pd_repr rfl hg hr.units rfl T.f_repr (pd_var 2)) (nomark _)))))), fun xs G R h => v__law_great_right xs G R RX h⟩
/-! ### law -/
abbrev sp_law : DSp := lawSp
def r_law : DS := (dSeq (dSet 1 (dCall sp__law_abacus X0 (dCons (dVar 0) dNil))) (dSeq (dFor (dIRng1 (dC (.int 3))) (gN 2) (dIfS (dOr (dNot (dTst (dCall sp__law_sums_right X0 (dCons (dVar 1) dNil)))) (dOr (dNot (dTst (dCall sp__law_rounds_right X0 (dCons (dVar 1) dNil)))) (dNot (dTst (dCall sp__law_great_right X0 (dCons (dVar 1) dNil)))))) (dRet (dC (.bl false))) dNext)) (dRet (dC (.bl true)))))
theorem sc_law : FnScope ["_law_script", "_law_abacus_here", "_law_turn"] ["_law_script"] (defScope st_law) := ⟨rfl, rfl, rfl, by decide +kernel, rfl, by decide +kernel, by decide +kernel⟩
theorem v_law (xs : List D) (G : Gm) (R : KD) (RX : XD) (h : sp_law xs G R RX) : r_law { nx := fun _ G => R .non G, rt := R } (xs.map some ++ List.replicate (3 - xs.length) none) G := by
  obtain ⟨ns, rfl, hl, _, h⟩ := h
  refine ds_call (.one (.var rfl)) ⟨ns, rfl, hl, fun p m hp hm => ?_⟩
  refine ⟨3, rfl, by decide, by decide, ?_⟩
  refine forL_at (fun rest ρ G => rest.length ≤ 3 ∧ (∃ o0 o2, ρ = [o0, some (.ref p), o2]) ∧ GauAt G p (1500 * (3 - rest.length))) ?_ ?_ ?_
  · rintro x rest N ρ G1 hsuf hN ⟨hlen, ⟨o0, o2, rfl⟩, hg⟩
    rw [List.length_cons] at hlen hg
    refine ⟨_, rfl, p, _, rfl, hg, by omega, fun m1 hm1 => ⟨true, rfl, ?_⟩⟩
    refine ⟨_, rfl, p, _, rfl, gau_gup hm1, by omega, fun m2 hm2 => ⟨true, rfl, ?_⟩⟩
    rw [gup_gup]
    refine ⟨_, rfl, p, _, rfl, gau_gup hm2, by omega, fun m3 hm3 => ⟨true, rfl, ?_⟩⟩
    rw [gup_gup]
    exact hN _ _ ⟨by omega, ⟨_, _, rfl⟩, gau_gup (hm3.mono (by omega))⟩
  · rintro ρ G1 ⟨_, ⟨o0, o2, rfl⟩, hg⟩
    show R (.bl true) _
    exact h _
  · exact ⟨by decide, ⟨_, _, rfl⟩, gau_gup (hm.mono (by omega))⟩
theorem l_law (xs : List D) (G : Gm) (R : KD) (RX : XD) (h : sp_law xs G R RX) : xs.length = 1 := by
  obtain ⟨_, rfl, _⟩ := h
  rfl
set_option maxHeartbeats 4000000 in
theorem k_law {P : Program} {w : World} {K : PySem.W.Frag} {mg : Str → Option Value} {base : Heap} (T : Tx mg) (F : Df K mg "law" st_law) (k__law_abacus : Kn P w K mg base 1 "_law_abacus" st__law_abacus ["_law_script"] sp__law_abacus) (k__law_sums_right : Kn P w K mg base 7 "_law_sums_right" st__law_sums_right ["_law_abacus_here"] sp__law_sums_right) (k__law_rounds_right : Kn P w K mg base 7 "_law_rounds_right" st__law_rounds_right ["_law_abacus_here"] sp__law_rounds_right) (k__law_great_right : Kn P w K mg base 7 "_law_great_right" st__law_great_right ["_law_abacus_here"] sp__law_great_right) :
    Kn P w K mg base 8 "law" st_law ["_law_script"] sp_law :=
  kn_of F.g F.f sc_law l_law fun cdv A outer s H E B RX hr hg kx => ⟨r_law, (psd_cons (psd_set (i := 1) sc_law.nd rfl (by first | exact Or.inl rfl | exact Or.inr rfl) (pd_call k__law_abacus (hr.mono (by decide)) hg rfl pass0 kx0 (fun _ _ _ _ _ _ us hl => match us, hl with | [_], _ => rfl) (pda_cons (pd_var 0) pda_nil))) (psd_cons (psd_for (passes_of rfl) rfl (pid_rng1 rfl T.f_range pd_int) (pgd_name (i := 2) sc_law.nd rfl (by first | exact Or.inl rfl | exact Or.inr rfl)) (psd_one (psd_if (PW.pt (pwd_or (ptd_not (ptd_val (pd_call k__law_sums_right (hr.mono (by decide)) hg rfl pass0 kx0 (fun _ _ _ _ _ _ us hl => match us, hl with | [_], _ => rfl) (pda_cons (pd_var 1) pda_nil)))) (pwd_or (ptd_not (ptd_val (pd_call k__law_rounds_right (hr.mono (by decide)) hg rfl pass0 kx0 (fun _ _ _ _ _ _ us hl => match us, hl with | [_], _ => rfl) (pda_cons (pd_var 1) pda_nil)))) (pwd_or1 (ptd_not (ptd_val (pd_call k__law_great_right (hr.mono (by decide)) hg rfl pass0 kx0 (fun _ _ _ _ _ _ us hl => match us, hl with | [_], _ => rfl) (pda_cons (pd_var 1) pda_nil)))))))) (psd_one (psd_ret pd_bl)) psd_nil))) (psd_one (psd_ret pd_bl)))), fun xs G R h => v_law xs G R RX h⟩
/-! ### the head -/
def dd (x : Str) (i : Nat) : He.DefD := ⟨(x, none), x, x, defArgs (top i), defBody (top i), defScope (top i), [], []⟩
def de (x : Str) (i : Nat) (vs : List He.Dv) : He.DefD := ⟨(x, none), x, x, defArgs (top i), defBody (top i), defScope (top i), vs, []⟩
def fn : List He.DefD := [dd "is_integer" 5, dd "is_within" 6, dd "is_list" 7, dd "need_number" 8, dd "halves" 11, dd "common" 12, dd "lowest_in" 13, dd "times_in" 14, dd "whole_in" 15, dd "least_in" 16, dd "is_number" 17, dd "kept_number" 18, de "need_point" 19 [He.Dv.str "point"], dd "need_some_point" 23, dd "wholes_in" 24, dd "gone" 25, dd "labels_in" 26, dd "labels_of" 27, dd "sum_of" 28, dd "comes_again" 29, dd "_law_abacus" 31, dd "_law_slide" 32, dd "_law_one" 33, dd "_law_factor" 34, dd "_law_number" 35, dd "_law_sum" 36, dd "_law_sums_right" 37, dd "_law_rounds_right" 38, dd "_law_great_right" 39, dd "law" 40]
def fa : List He.Fa := [.glo "is_integer", .glo "is_within", .glo "is_list", .glo "need_number", .glo "halves", .glo "common", .glo "lowest_in", .glo "times_in", .glo "whole_in", .glo "least_in", .glo "is_number", .glo "kept_number", .glo "need_point", .glo "need_some_point", .glo "wholes_in", .glo "gone", .glo "labels_in", .glo "labels_of", .glo "sum_of", .glo "comes_again", .glo "_law_abacus", .glo "_law_slide", .glo "_law_one", .glo "_law_factor", .glo "_law_number", .glo "_law_sum", .glo "_law_sums_right", .glo "_law_rounds_right", .glo "_law_great_right", .glo "law", .free "abs", .free "all", .free "bool", .free "int", .free "isinstance", .free "len", .free "list", .free "range", .free "repr", .free "sum", .free "tuple", .free "zip", .int "LEAST_UNDER" 2, .int "MOST_LABELS" 2000, .int "MOST_WIDE" 2]
abbrev Rw : PySem.W.OpenRow := PySem.W.OpenLaw.row PySem.Challenge.rw_timesfloor_k15_sums_and_what_comes_again
abbrev hk : PySem.W.Hook := He.hookD 4 fa fn
def ob (s : PySem.W.SharedT) : He.AlD := He.obsDG 4 fa fn (HandSHeadRun.getT s)
theorem ob_eq (s : PySem.W.SharedT) : ob s = hk.obs s.abs := He.obsDG_eq (HandSHeadRun.getT_eq s)
def loose : List Str := (["TileError", "BadNumber", "BadPoint", "is_integer", "is_within", "is_list", "need_number", "LEAST_UNDER", "halves", "common", "lowest_in", "times_in"] : List Str) ++ (["whole_in", "least_in", "is_number", "kept_number", "need_point", "MOST_LABELS", "MOST_WIDE", "need_some_point", "wholes_in", "gone", "labels_in", "labels_of"] : List Str) ++ (["sum_of", "comes_again", "_law_abacus", "_law_slide", "_law_one", "_law_factor", "_law_number", "_law_sum", "_law_sums_right", "_law_rounds_right", "_law_great_right"] : List Str)
set_option maxHeartbeats 0 in
theorem run (w : World) : HandSHeadRun.RunEq Rw (PySem.W.view Rw.prog [40]) hk ob 4000 loose w := by
  intro os
  kernel_rfl
section
variable {K : PySem.W.Frag} {h : Heap} {mg : Str → Option Value}
theorem tx (X : K.In h) (G : h.Ns mainGlobals mg) (c : He.SaysD fa fn K) : Tx mg := ⟨He.free_ok X G (c.fact 30 (f := .free "abs") rfl), He.free_ok X G (c.fact 31 (f := .free "all") rfl), He.free_ok X G (c.fact 32 (f := .free "bool") rfl), He.free_ok X G (c.fact 33 (f := .free "int") rfl), He.free_ok X G (c.fact 34 (f := .free "isinstance") rfl), He.free_ok X G (c.fact 35 (f := .free "len") rfl), He.free_ok X G (c.fact 36 (f := .free "list") rfl), He.free_ok X G (c.fact 37 (f := .free "range") rfl), He.free_ok X G (c.fact 38 (f := .free "repr") rfl), He.free_ok X G (c.fact 39 (f := .free "sum") rfl), He.free_ok X G (c.fact 40 (f := .free "tuple") rfl), He.free_ok X G (c.fact 41 (f := .free "zip") rfl), He.int_ok X G (c.fact 42 (f := .int "LEAST_UNDER" 2) rfl), He.int_ok X G (c.fact 43 (f := .int "MOST_LABELS" 2000) rfl), He.int_ok X G (c.fact 44 (f := .int "MOST_WIDE" 2) rfl)⟩
theorem df_is_integer (X : K.In h) (G : h.Ns mainGlobals mg) (c : He.SaysD fa fn K) : Df K mg "is_integer" st_is_integer := ⟨He.glo_ok X G (c.fact 0 (f := .glo "is_integer") rfl), c.def_ 0 (d := dd "is_integer" 5) rfl⟩
theorem df_is_within (X : K.In h) (G : h.Ns mainGlobals mg) (c : He.SaysD fa fn K) : Df K mg "is_within" st_is_within := ⟨He.glo_ok X G (c.fact 1 (f := .glo "is_within") rfl), c.def_ 1 (d := dd "is_within" 6) rfl⟩
theorem df_is_list (X : K.In h) (G : h.Ns mainGlobals mg) (c : He.SaysD fa fn K) : Df K mg "is_list" st_is_list := ⟨He.glo_ok X G (c.fact 2 (f := .glo "is_list") rfl), c.def_ 2 (d := dd "is_list" 7) rfl⟩
theorem df_need_number (X : K.In h) (G : h.Ns mainGlobals mg) (c : He.SaysD fa fn K) : Df K mg "need_number" st_need_number := ⟨He.glo_ok X G (c.fact 3 (f := .glo "need_number") rfl), c.def_ 3 (d := dd "need_number" 8) rfl⟩
theorem df_halves (X : K.In h) (G : h.Ns mainGlobals mg) (c : He.SaysD fa fn K) : Df K mg "halves" st_halves := ⟨He.glo_ok X G (c.fact 4 (f := .glo "halves") rfl), c.def_ 4 (d := dd "halves" 11) rfl⟩
theorem df_common (X : K.In h) (G : h.Ns mainGlobals mg) (c : He.SaysD fa fn K) : Df K mg "common" st_common := ⟨He.glo_ok X G (c.fact 5 (f := .glo "common") rfl), c.def_ 5 (d := dd "common" 12) rfl⟩
theorem df_lowest_in (X : K.In h) (G : h.Ns mainGlobals mg) (c : He.SaysD fa fn K) : Df K mg "lowest_in" st_lowest_in := ⟨He.glo_ok X G (c.fact 6 (f := .glo "lowest_in") rfl), c.def_ 6 (d := dd "lowest_in" 13) rfl⟩
theorem df_times_in (X : K.In h) (G : h.Ns mainGlobals mg) (c : He.SaysD fa fn K) : Df K mg "times_in" st_times_in := ⟨He.glo_ok X G (c.fact 7 (f := .glo "times_in") rfl), c.def_ 7 (d := dd "times_in" 14) rfl⟩
theorem df_whole_in (X : K.In h) (G : h.Ns mainGlobals mg) (c : He.SaysD fa fn K) : Df K mg "whole_in" st_whole_in := ⟨He.glo_ok X G (c.fact 8 (f := .glo "whole_in") rfl), c.def_ 8 (d := dd "whole_in" 15) rfl⟩
theorem df_least_in (X : K.In h) (G : h.Ns mainGlobals mg) (c : He.SaysD fa fn K) : Df K mg "least_in" st_least_in := ⟨He.glo_ok X G (c.fact 9 (f := .glo "least_in") rfl), c.def_ 9 (d := dd "least_in" 16) rfl⟩
theorem df_is_number (X : K.In h) (G : h.Ns mainGlobals mg) (c : He.SaysD fa fn K) : Df K mg "is_number" st_is_number := ⟨He.glo_ok X G (c.fact 10 (f := .glo "is_number") rfl), c.def_ 10 (d := dd "is_number" 17) rfl⟩
theorem df_kept_number (X : K.In h) (G : h.Ns mainGlobals mg) (c : He.SaysD fa fn K) : Df K mg "kept_number" st_kept_number := ⟨He.glo_ok X G (c.fact 11 (f := .glo "kept_number") rfl), c.def_ 11 (d := dd "kept_number" 18) rfl⟩
theorem df_need_point (X : K.In h) (G : h.Ns mainGlobals mg) (c : He.SaysD fa fn K) : DfD K mg "need_point" st_need_point [V.str "point"] := ⟨He.glo_ok X G (c.fact 12 (f := .glo "need_point") rfl), c.def_ 12 (d := de "need_point" 19 [He.Dv.str "point"]) rfl⟩
theorem df_need_some_point (X : K.In h) (G : h.Ns mainGlobals mg) (c : He.SaysD fa fn K) : Df K mg "need_some_point" st_need_some_point := ⟨He.glo_ok X G (c.fact 13 (f := .glo "need_some_point") rfl), c.def_ 13 (d := dd "need_some_point" 23) rfl⟩
theorem df_wholes_in (X : K.In h) (G : h.Ns mainGlobals mg) (c : He.SaysD fa fn K) : Df K mg "wholes_in" st_wholes_in := ⟨He.glo_ok X G (c.fact 14 (f := .glo "wholes_in") rfl), c.def_ 14 (d := dd "wholes_in" 24) rfl⟩
theorem df_gone (X : K.In h) (G : h.Ns mainGlobals mg) (c : He.SaysD fa fn K) : Df K mg "gone" st_gone := ⟨He.glo_ok X G (c.fact 15 (f := .glo "gone") rfl), c.def_ 15 (d := dd "gone" 25) rfl⟩
theorem df_labels_in (X : K.In h) (G : h.Ns mainGlobals mg) (c : He.SaysD fa fn K) : Df K mg "labels_in" st_labels_in := ⟨He.glo_ok X G (c.fact 16 (f := .glo "labels_in") rfl), c.def_ 16 (d := dd "labels_in" 26) rfl⟩
theorem df_labels_of (X : K.In h) (G : h.Ns mainGlobals mg) (c : He.SaysD fa fn K) : Df K mg "labels_of" st_labels_of := ⟨He.glo_ok X G (c.fact 17 (f := .glo "labels_of") rfl), c.def_ 17 (d := dd "labels_of" 27) rfl⟩
theorem df_sum_of (X : K.In h) (G : h.Ns mainGlobals mg) (c : He.SaysD fa fn K) : Df K mg "sum_of" st_sum_of := ⟨He.glo_ok X G (c.fact 18 (f := .glo "sum_of") rfl), c.def_ 18 (d := dd "sum_of" 28) rfl⟩
theorem df_comes_again (X : K.In h) (G : h.Ns mainGlobals mg) (c : He.SaysD fa fn K) : Df K mg "comes_again" st_comes_again := ⟨He.glo_ok X G (c.fact 19 (f := .glo "comes_again") rfl), c.def_ 19 (d := dd "comes_again" 29) rfl⟩
theorem df__law_abacus (X : K.In h) (G : h.Ns mainGlobals mg) (c : He.SaysD fa fn K) : Df K mg "_law_abacus" st__law_abacus := ⟨He.glo_ok X G (c.fact 20 (f := .glo "_law_abacus") rfl), c.def_ 20 (d := dd "_law_abacus" 31) rfl⟩
theorem df__law_slide (X : K.In h) (G : h.Ns mainGlobals mg) (c : He.SaysD fa fn K) : Df K mg "_law_slide" st__law_slide := ⟨He.glo_ok X G (c.fact 21 (f := .glo "_law_slide") rfl), c.def_ 21 (d := dd "_law_slide" 32) rfl⟩
theorem df__law_one (X : K.In h) (G : h.Ns mainGlobals mg) (c : He.SaysD fa fn K) : Df K mg "_law_one" st__law_one := ⟨He.glo_ok X G (c.fact 22 (f := .glo "_law_one") rfl), c.def_ 22 (d := dd "_law_one" 33) rfl⟩
theorem df__law_factor (X : K.In h) (G : h.Ns mainGlobals mg) (c : He.SaysD fa fn K) : Df K mg "_law_factor" st__law_factor := ⟨He.glo_ok X G (c.fact 23 (f := .glo "_law_factor") rfl), c.def_ 23 (d := dd "_law_factor" 34) rfl⟩
theorem df__law_number (X : K.In h) (G : h.Ns mainGlobals mg) (c : He.SaysD fa fn K) : Df K mg "_law_number" st__law_number := ⟨He.glo_ok X G (c.fact 24 (f := .glo "_law_number") rfl), c.def_ 24 (d := dd "_law_number" 35) rfl⟩
theorem df__law_sum (X : K.In h) (G : h.Ns mainGlobals mg) (c : He.SaysD fa fn K) : Df K mg "_law_sum" st__law_sum := ⟨He.glo_ok X G (c.fact 25 (f := .glo "_law_sum") rfl), c.def_ 25 (d := dd "_law_sum" 36) rfl⟩
theorem df__law_sums_right (X : K.In h) (G : h.Ns mainGlobals mg) (c : He.SaysD fa fn K) : Df K mg "_law_sums_right" st__law_sums_right := ⟨He.glo_ok X G (c.fact 26 (f := .glo "_law_sums_right") rfl), c.def_ 26 (d := dd "_law_sums_right" 37) rfl⟩
theorem df__law_rounds_right (X : K.In h) (G : h.Ns mainGlobals mg) (c : He.SaysD fa fn K) : Df K mg "_law_rounds_right" st__law_rounds_right := ⟨He.glo_ok X G (c.fact 27 (f := .glo "_law_rounds_right") rfl), c.def_ 27 (d := dd "_law_rounds_right" 38) rfl⟩
theorem df__law_great_right (X : K.In h) (G : h.Ns mainGlobals mg) (c : He.SaysD fa fn K) : Df K mg "_law_great_right" st__law_great_right := ⟨He.glo_ok X G (c.fact 28 (f := .glo "_law_great_right") rfl), c.def_ 28 (d := dd "_law_great_right" 39) rfl⟩
theorem df_law (X : K.In h) (G : h.Ns mainGlobals mg) (c : He.SaysD fa fn K) : Df K mg "law" st_law := ⟨He.glo_ok X G (c.fact 29 (f := .glo "law") rfl), c.def_ 29 (d := dd "law" 40) rfl⟩
theorem law_kn {P : Program} {w : World} {base : Heap} (X : K.In h) (G : h.Ns mainGlobals mg) (c : He.SaysD fa fn K) : Kn P w K mg base 8 "law" st_law ["_law_script"] lawSp := by
  have k__law_abacus := Lw.k__law_abacus (P := P) (w := w) (base := base) (tx X G c) (df__law_abacus X G c)
  have k_is_integer := Lw.k_is_integer (P := P) (w := w) (base := base) (tx X G c) (df_is_integer X G c)
  have k_is_within := Lw.k_is_within (P := P) (w := w) (base := base) (tx X G c) (df_is_within X G c) k_is_integer
  have k_need_number := Lw.k_need_number (P := P) (w := w) (base := base) (tx X G c) (df_need_number X G c) k_is_within
  have k_is_list := Lw.k_is_list (P := P) (w := w) (base := base) (tx X G c) (df_is_list X G c)
  have k_common := Lw.k_common (P := P) (w := w) (base := base) (tx X G c) (df_common X G c)
  have k_is_number := Lw.k_is_number (P := P) (w := w) (base := base) (tx X G c) (df_is_number X G c) k_is_integer k_is_within k_is_list k_common
  have k_kept_number := Lw.k_kept_number (P := P) (w := w) (base := base) (tx X G c) (df_kept_number X G c) k_is_list
  have k_need_point := Lw.k_need_point (P := P) (w := w) (base := base) (tx X G c) (df_need_point X G c) k_is_list k_is_number k_kept_number
  have k_need_some_point := Lw.k_need_some_point (P := P) (w := w) (base := base) (tx X G c) (df_need_some_point X G c) k_is_within k_is_list k_need_point
  have k_halves := Lw.k_halves (P := P) (w := w) (base := base) (tx X G c) (df_halves X G c) k_is_integer
  have k_lowest_in := Lw.k_lowest_in (P := P) (w := w) (base := base) (tx X G c) (df_lowest_in X G c) k_common
  have k_times_in := Lw.k_times_in (P := P) (w := w) (base := base) (tx X G c) (df_times_in X G c) k_halves k_lowest_in
  have k_whole_in := Lw.k_whole_in (P := P) (w := w) (base := base) (tx X G c) (df_whole_in X G c) k_halves
  have k_wholes_in := Lw.k_wholes_in (P := P) (w := w) (base := base) (tx X G c) (df_wholes_in X G c) k_times_in k_whole_in
  have k_gone := Lw.k_gone (P := P) (w := w) (base := base) (tx X G c) (df_gone X G c)
  have k_labels_in := Lw.k_labels_in (P := P) (w := w) (base := base) (tx X G c) (df_labels_in X G c) k_wholes_in k_gone
  have k_labels_of := Lw.k_labels_of (P := P) (w := w) (base := base) (tx X G c) (df_labels_of X G c) k_need_number k_need_some_point k_labels_in
  have k_sum_of := Lw.k_sum_of (P := P) (w := w) (base := base) (tx X G c) (df_sum_of X G c) k_need_number k_need_some_point k_wholes_in k_gone
  have k__law_slide := Lw.k__law_slide (P := P) (w := w) (base := base) (tx X G c) (df__law_slide X G c)
  have k__law_one := Lw.k__law_one (P := P) (w := w) (base := base) (tx X G c) (df__law_one X G c) k__law_slide
  have k__law_factor := Lw.k__law_factor (P := P) (w := w) (base := base) (tx X G c) (df__law_factor X G c)
  have k__law_number := Lw.k__law_number (P := P) (w := w) (base := base) (tx X G c) (df__law_number X G c) k__law_slide k__law_one k__law_factor
  have k__law_sum := Lw.k__law_sum (P := P) (w := w) (base := base) (tx X G c) (df__law_sum X G c)
  have k__law_sums_right := Lw.k__law_sums_right (P := P) (w := w) (base := base) (tx X G c) (df__law_sums_right X G c) k_labels_of k_sum_of k__law_slide k__law_one k__law_number k__law_sum
  have k_least_in := Lw.k_least_in (P := P) (w := w) (base := base) (tx X G c) (df_least_in X G c) k_halves k_common
  have k_comes_again := Lw.k_comes_again (P := P) (w := w) (base := base) (tx X G c) (df_comes_again X G c) k_least_in k_need_some_point
  have k__law_rounds_right := Lw.k__law_rounds_right (P := P) (w := w) (base := base) (tx X G c) (df__law_rounds_right X G c) k_labels_of k_sum_of k_comes_again k__law_slide k__law_factor k__law_number
  have k__law_great_right := Lw.k__law_great_right (P := P) (w := w) (base := base) (tx X G c) (df__law_great_right X G c) k_comes_again k__law_factor k__law_number
  have k_law := Lw.k_law (P := P) (w := w) (base := base) (tx X G c) (df_law X G c) k__law_abacus k__law_sums_right k__law_rounds_right k__law_great_right
  exact k_law
end
end Lw
open PySem PySem.W PySem.Calls PyProof.Rows
set_option maxHeartbeats 0 in
theorem PySem.Challenge.cw_timesfloor_k15_sums_and_what_comes_again_holds : PySem.Challenge.rw_timesfloor_k15_sums_and_what_comes_again.Holds := by
  w_on; o_law
  refine HandSHeadRun.head_any (r := OpenLaw.row PySem.Challenge.rw_timesfloor_k15_sums_and_what_comes_again) (q := view (OpenLaw.row PySem.Challenge.rw_timesfloor_k15_sums_and_what_comes_again).prog [40]) (H := Lw.hk) (ob := Lw.ob) (M := 4000) (loose := Lw.loose) (d := HandSHeadRun.topDef (OpenLaw.row PySem.Challenge.rw_timesfloor_k15_sums_and_what_comes_again).prog 40) (kwd := []) Lw.ob_eq
    (by kernel_rfl) (fun s => by kernel_rfl) Lw.run (by kernel_rfl) (by kernel_rfl) (by kernel_rfl) (by rfl) (by first | assumption | decide +kernel) (by decide +kernel) ⟨rfl, rfl, rfl, rfl, rfl, by decide +kernel⟩ ?hw ?hc
  case hw => w_witness2
  case hc =>
    refine DL.walk_lawG (l := PySem.Challenge.rw_timesfloor_k15_sums_and_what_comes_again) (n := 63) (k := 8) (x := "_law_script") rfl (by decide) (by kernel_rfl) ⟨rfl, by decide, by decide⟩ ?F
    intro w mg fa h Y G hmg0
    obtain ⟨K, KX, c⟩ := Y
    have hmg : mg ("law" : PySem.Str) = some (.ref fa) := by
      have e : (HandSHeadRun.topDef (OpenLaw.row PySem.Challenge.rw_timesfloor_k15_sums_and_what_comes_again).prog 40).name = ("law" : PySem.Str) := by kernel_rfl
      rw [← e]
      exact hmg0
    obtain ⟨fd, sp, hb, hsp, hF⟩ := DL.law_of (P := (PySem.Challenge.rw_timesfloor_k15_sums_and_what_comes_again).prog) (w := w) hmg (Lw.df_law KX G c) (fun _ _ _ _ _ _ us hl => match us, hl with | [_], _ => rfl) fun base => Lw.law_kn KX G c
    exact ⟨K, fd, sp, KX, hb, hsp, hF⟩
