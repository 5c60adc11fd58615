import PyProof.Rows.All
import Wide.All
import OpenK.AllK
import Wide.FinOn
import PyProof.EqAt
import PyProof.ReprRoads
import HandS.ForMost
import HandS.Exc
import HandS.WordsExc
import HandS.IsInst
import HandS.Wide
import HandS.Defaults
import HandS.Zip
import HandS.Evl
import HandS.HeadHook1
import HandS.ExcInit
import HandS.HeadHook4
import HandS.Lambda
import HandS.TryOnly
import HandS.HeadHook2
import HandS.Head0
import HandS.Head1
import HandS.Head2
import HandS.HeadEnd
import KE.KStateDown
import HandS.Style
import PyProof.P3Eq
import HandS.Zip0
import PyProof.LongRange
import PyProof.EnumMake
import HandS.List
import KE.KExcSuper
import HandS.FStr
import HandS.HeadHook3
import HandS.ExcField
import HandS.ExcIs
import KE.KExcIs
import KE.KDflt
import HandS.Sort
import KE.GoesRaise
import HandS.OwnEq
import KE.KSuper
import HandS.Star
import HandS.ClsMeth
import HandS.TupAny
import HandS.Dict
import HandS.Text
import KE.KeyNested
import HandS.TupSets
import HandS.Deep
import PyProof.StrBlock2
import HandS.Comp
import HandS.ExcOwn
import PySem.Challenge.RW_timesfloor_k32_stretches_and_goals_of_wa
set_option Elab.async false
set_option linter.all false
set_option maxRecDepth 100000
set_option maxHeartbeats 4000000
set_option exponentiation.threshold 9000
namespace DL
open PySem PySem.Spec PyProof.Rows L2 Evl
inductive D where
  | non | bl (b : Bool) | int (i : Int) | str (x : Str) | ty (n : String) | ref (a : Addr)
  | tup (xs : List D) | lst (xs : List D) | dct (ks : List Key) (xs : List D) | ins (C : Str) (ns : List Str) (xs : List D)
  /-- an exception that is held -/
  | exc (C : Str) (ns : List Str) (xs : List D)
  /-- a def of the top, as a value -/
  | fnc (x : Str)
  /-- a range of ints, step 1 -/
  | rng (lo hi : Int)
def exh (a C d : Addr) : HO := .ext fun h => ∃ o vs, h.get? a = some o ∧ o.cls = .ref C ∧ o.dict = some d ∧ o.data = .fields vs
mutual
/-- v stands for d over the heap H of what never changes -/
inductive Rp (K : PySem.W.Frag) (H : Hp) : V → D → Prop
  | non : Rp K H .non .non
  | bl (b : Bool) : Rp K H (.bl b) (.bl b)
  | int (i : Int) : Rp K H (.int i) (.int i)
  | str (x : Str) : Rp K H (.str x) (.str x)
  | ty (n : String) : Rp K H (.ty n) (.ty n)
  | ref (a : Addr) : Rp K H (.ref a) (.ref a)
  | tup {a : Addr} {xs : List V} {ds : List D} : SqT K H a xs → RpL K H xs ds → Rp K H (.ref a) (.tup ds)
  | lst {a : Addr} {xs : List V} {ds : List D} : SqL K H a xs → RpL K H xs ds → Rp K H (.ref a) (.lst ds)
  | dct {a : Addr} {ks : List Key} {xs : List V} {ds : List D} : H a = some (.dK (ks.zip xs)) → ks.length = xs.length → RpL K H xs ds → Rp K H (.ref a) (.dct ks ds)
  | ins {a dx : Addr} {C : Str} {ns : List Str} {xs : List V} {ds : List D} : H a = some (.ins (He.ga K C) dx (ns.zip xs)) → ns.length = xs.length → RpL K H xs ds → Rp K H (.ref a) (.ins C ns ds)
  | exc {a d : Addr} {C : Str} {ns : List Str} {xs : List V} {ds : List D} : H a = some (exh a (He.ga K C) d) → H d = some (.xd (ns.zip xs)) → ns.length = xs.length → RpL K H xs ds → Rp K H (.ref a) (.exc C ns ds)
  | fnc (x : Str) : Rp K H (.ref (He.ga K x)) (.fnc x)
  | rng {a : Addr} {lo hi : Int} : H a = some (.rng lo hi) → Rp K H (.ref a) (.rng lo hi)
inductive RpL (K : PySem.W.Frag) (H : Hp) : List V → List D → Prop
  | nil : RpL K H [] []
  | cons {v : V} {vs : List V} {d : D} {ds : List D} : Rp K H v d → RpL K H vs ds → RpL K H (v :: vs) (d :: ds)
end
section
variable {K : PySem.W.Frag} {H H' : Hp}
mutual
theorem Rp.mono (e : Ex H H') : ∀ {v : V} {d : D}, Rp K H v d → Rp K H' v d
  | _, _, .non => .non
  | _, _, .bl b => .bl b
  | _, _, .int i => .int i
  | _, _, .str x => .str x
  | _, _, .ty n => .ty n
  | _, _, .ref a => .ref a
  | _, _, .tup s r => .tup (ex_t e s) (RpL.mono e r)
  | _, _, .lst s r => .lst (ex_l e s) (RpL.mono e r)
  | _, _, .dct s z r => .dct (e _ _ s) z (RpL.mono e r)
  | _, _, .ins s z r => .ins (e _ _ s) z (RpL.mono e r)
  | _, _, .exc s s2 z r => .exc (e _ _ s) (e _ _ s2) z (RpL.mono e r)
  | _, _, .fnc x => .fnc x
  | _, _, .rng s => .rng (e _ _ s)
theorem RpL.mono (e : Ex H H') : ∀ {vs : List V} {ds : List D}, RpL K H vs ds → RpL K H' vs ds
  | _, _, .nil => .nil
  | _, _, .cons a b => .cons (Rp.mono e a) (RpL.mono e b)
end
theorem RpL.length : ∀ {vs : List V} {ds : List D}, RpL K H vs ds → vs.length = ds.length
  | _, _, .nil => rfl
  | _, _, .cons _ b => congrArg (· + 1) (RpL.length b)
theorem RpL.at : ∀ {vs : List V} {ds : List D} {i : Nat} {d : D}, RpL K H vs ds → ds[i]? = some d → ∃ v, vs[i]? = some v ∧ Rp K H v d
  | _, _, _, _, .nil, h => nomatch h
  | _, _, 0, _, .cons a _, h => ⟨_, rfl, by cases Option.some.inj h; exact a⟩
  | _, _, i + 1, _, .cons _ b, h => RpL.at (i := i) b h
theorem RpL.take : ∀ {vs : List V} {ds : List D} (n : Nat), RpL K H vs ds → RpL K H (vs.take n) (ds.take n)
  | _, _, 0, _ => .nil
  | _, _, _ + 1, .nil => .nil
  | _, _, n + 1, .cons a b => .cons a (RpL.take n b)
theorem RpL.drop : ∀ {vs : List V} {ds : List D} (n : Nat), RpL K H vs ds → RpL K H (vs.drop n) (ds.drop n)
  | _, _, 0, h => h
  | _, _, _ + 1, .nil => .nil
  | _, _, n + 1, .cons _ b => RpL.drop n b
theorem RpL.set : ∀ {vs : List V} {ds : List D} {v : V} {d : D} (i : Nat), Rp K H v d → RpL K H vs ds → RpL K H (vs.set i v) (ds.set i d)
  | _, _, _, _, _, _, .nil => .nil
  | _, _, _, _, 0, h, .cons _ b => .cons h b
  | _, _, _, _, i + 1, h, .cons a b => .cons a (RpL.set i h b)
end
inductive Mt where
  | lst (xs : List D) | ins (C : Str) (ns : List Str) (xs : List D) | gau (T : Nat)
  /-- a dict -/
  | dct (ks : List Key) (xs : List D)
  /-- a def's table of code objects, all of the name q -/
  | tab (q : Str)
class TabC where
  tf : List Str
def lamQ (n : Str) : Str := n ++ ".<locals>." ++ "<lambda>"
def tabT [TabC] (K : PySem.W.Frag) : List (Addr × Str) := (TabC.tf).map fun n => ((He.cT K (n, none)).2, lamQ n)
def TabD (Hd H : Hp) (P : Addr) (q : Str) : Prop := ∃ ps : Array Value, H P = some (.tbl ps) ∧ TriplesOk ps.toList ∧ ∀ (pos : Pos) (cv : Value), codeAmong pos ps.toList = some cv → ∃ c, cv = .ref c ∧ Hd c = some (LamX.CodeO c q)
variable [TabC]
abbrev Gm := Addr → Option Mt
def gup (G : Gm) (a : Addr) (m : Mt) : Gm := fun b => if b = a then some m else G b
theorem gup_same {G : Gm} {a : Addr} {m : Mt} : gup G a m a = some m := if_pos rfl
theorem gup_ne {G : Gm} {a b : Addr} {m : Mt} (h : b ≠ a) : gup G a m b = G b := if_neg h
theorem gup_gup {G : Gm} {a : Addr} {m n : Mt} : gup (gup G a m) a n = gup G a n := by
  funext b
  unfold gup
  split <;> rfl
def HoldM (K : PySem.W.Frag) (Hd H : Hp) (a : Addr) : Mt → Prop
  | .lst ds => ∃ xs, H a = some (.lst xs) ∧ RpL K Hd xs ds
  | .ins C ns ds => ∃ dx xs, H a = some (.ins (He.ga K C) dx (ns.zip xs)) ∧ ns.length = xs.length ∧ RpL K Hd xs ds
  | .dct ks ds => ∃ xs, H a = some (.dK (ks.zip xs)) ∧ ks.length = xs.length ∧ RpL K Hd xs ds
  | .tab q => TabD Hd H a q
  | .gau T => ∃ (l : Addr) (t : Nat) (r : Int) (cs : List Int), H a = some (.lst [.ref l, .int t, .int r]) ∧ Hd l = some (.lst (cs.map V.int)) ∧ cs.length ≤ 63 ∧ t ≤ T ∧ 0 ≤ r
structure Sim (K : PySem.W.Frag) (F : Gm) (Hd H : Hp) (G : Gm) : Prop where
  sub : Ex Hd H
  off : ∀ a m, G a = some m → Hd a = none
  hold : ∀ a m, G a = some m → HoldM K Hd H a m
  offF : ∀ a m, F a = some m → Hd a = none
  holdF : ∀ a m, F a = some m → HoldM K Hd H a m
  apart : ∀ a m, F a = some m → G a = none
  tabs : ∀ p ∈ tabT K, F p.1 = some (.tab p.2)
theorem HoldM.mono {K : PySem.W.Frag} {Hd Hd' H : Hp} {a : Addr} (e : Ex Hd Hd') : ∀ {m : Mt}, HoldM K Hd H a m → HoldM K Hd' H a m
  | .lst _, ⟨xs, h, r⟩ => ⟨xs, h, r.mono e⟩
  | .ins _ _ _, ⟨dx, xs, h, z, r⟩ => ⟨dx, xs, h, z, r.mono e⟩
  | .dct _ _, ⟨xs, h, z, r⟩ => ⟨xs, h, z, r.mono e⟩
  | .gau _, ⟨l, t, r, cs, h, hl, z⟩ => ⟨l, t, r, cs, h, e _ _ hl, z⟩
  | .tab _, ⟨ps, h, ht, hc⟩ => ⟨ps, h, ht, fun pos cv z => let ⟨c, e1, e2⟩ := hc pos cv z; ⟨c, e1, e _ _ e2⟩⟩
theorem HoldM.there {K : PySem.W.Frag} {Hd H : Hp} {a : Addr} : ∀ {m : Mt}, HoldM K Hd H a m → ∃ o, H a = some o
  | .lst _, ⟨_, h, _⟩ => ⟨_, h⟩
  | .ins _ _ _, ⟨_, _, h, _⟩ => ⟨_, h⟩
  | .dct _ _, ⟨_, h, _⟩ => ⟨_, h⟩
  | .gau _, ⟨_, _, _, _, h, _⟩ => ⟨_, h⟩
  | .tab _, ⟨_, h, _⟩ => ⟨_, h⟩
theorem HoldM.other {K : PySem.W.Frag} {Hd H : Hp} {a p : Addr} {o : HO} (hp : a ≠ p) : ∀ {m : Mt}, HoldM K Hd H a m → HoldM K Hd (upd H p o) a m
  | .lst _, ⟨xs, h, r⟩ => ⟨xs, by rw [upd_ne hp]; exact h, r⟩
  | .ins _ _ _, ⟨dx, xs, h, z⟩ => ⟨dx, xs, by rw [upd_ne hp]; exact h, z⟩
  | .dct _ _, ⟨xs, h, z⟩ => ⟨xs, by rw [upd_ne hp]; exact h, z⟩
  | .gau _, ⟨l, t, r, cs, h, z⟩ => ⟨l, t, r, cs, by rw [upd_ne hp]; exact h, z⟩
  | .tab _, ⟨ps, h, z⟩ => ⟨ps, by rw [upd_ne hp]; exact h, z⟩
section
variable {K : PySem.W.Frag} {F : Gm} {Hd H : Hp} {G : Gm}
theorem Sim.free (S : Sim K F Hd H G) {p : Addr} (h : H p = none) : Hd p = none := fresh_back S.sub h
theorem Sim.gfree (S : Sim K F Hd H G) {p : Addr} (h : H p = none) : G p = none := by
  cases e : G p with
  | none => rfl
  | some m =>
    obtain ⟨o, q⟩ := (S.hold p m e).there
    rw [h] at q
    cases q
theorem Sim.ffree (S : Sim K F Hd H G) {p : Addr} (h : H p = none) : F p = none := by
  cases e : F p with
  | none => rfl
  | some m =>
    obtain ⟨o, q⟩ := (S.holdF p m e).there
    rw [h] at q
    cases q
theorem ne_g {G : Gm} {a p : Addr} {m : Mt} (e : G a = some m) (h : G p = none) : a ≠ p := fun z => by
  rw [z, h] at e
  cases e
theorem Sim.new (S : Sim K F Hd H G) {p : Addr} {o : HO} (h : H p = none) : Sim K F (upd Hd p o) (upd H p o) G where
  sub := fun a u e => by
    by_cases q : a = p
    · subst q
      rw [upd_same] at e ⊢
      exact e
    · rw [upd_ne q] at e ⊢
      exact S.sub a u e
  off := fun a m e => by
    rw [upd_ne (ne_g e (S.gfree h))]
    exact S.off a m e
  hold := fun a m e => ((S.hold a m e).mono (Ex.new (S.free h))).other (ne_g e (S.gfree h))
  offF := fun a m e => by
    rw [upd_ne (ne_g e (S.ffree h))]
    exact S.offF a m e
  holdF := fun a m e => ((S.holdF a m e).mono (Ex.new (S.free h))).other (ne_g e (S.ffree h))
  apart := S.apart
  tabs := S.tabs
theorem Sim.setG (S : Sim K F Hd H G) {p : Addr} {o : HO} {n : Mt} (hs : Ex Hd (upd H p o)) (hd : Hd p = none) (hf : F p = none) (hm : HoldM K Hd (upd H p o) p n) : Sim K F Hd (upd H p o) (gup G p n) where
  sub := hs
  off := fun a k e => by
    by_cases q : a = p
    · rw [q]
      exact hd
    · rw [gup_ne q] at e
      exact S.off a k e
  hold := fun a k e => by
    by_cases q : a = p
    · subst q
      rw [gup_same] at e
      cases e
      exact hm
    · rw [gup_ne q] at e
      exact (S.hold a k e).other q
  offF := S.offF
  holdF := fun a m e => (S.holdF a m e).other (ne_g e hf)
  apart := fun a m e => by
    rw [gup_ne (ne_g e hf)]
    exact S.apart a m e
  tabs := S.tabs
theorem Sim.cell (S : Sim K F Hd H G) {p : Addr} {o : HO} {m : Mt} (h : H p = none) (hm : HoldM K Hd (upd H p o) p m) : Sim K F Hd (upd H p o) (gup G p m) :=
  S.setG (S.sub.trans (Ex.new h)) (S.free h) (S.ffree h) hm
theorem Sim.gf (S : Sim K F Hd H G) {p : Addr} {m : Mt} (h : G p = some m) : F p = none := by
  cases e : F p with
  | none => rfl
  | some k =>
    rw [S.apart p k e] at h
    cases h
end
abbrev En := List (Option D)
def RpE (K : PySem.W.Frag) (H : Hp) (σ : L2.St) (ρ : En) : Prop := σ.length = ρ.length ∧ ∀ (i : Nat) (d : D), ρ[i]? = some (some d) → ∃ v, σ[i]? = some (some v) ∧ Rp K H v d
section
variable {K : PySem.W.Frag} {H H' : Hp} {σ : L2.St} {ρ : En}
theorem RpE.mono (e : Ex H H') (r : RpE K H σ ρ) : RpE K H' σ ρ := ⟨r.1, fun i d h => let ⟨v, a, b⟩ := r.2 i d h; ⟨v, a, b.mono e⟩⟩
theorem RpE.set (r : RpE K H σ ρ) (i : Nat) {v : V} {d : D} (h : Rp K H v d) : RpE K H (σ.set i (some v)) (ρ.set i (some d)) := by
  refine ⟨by rw [List.length_set, List.length_set]; exact r.1, fun j x e => ?_⟩
  by_cases q : i = j
  · subst q
    by_cases z : i < ρ.length
    · rw [List.getElem?_set_self z] at e
      cases e
      exact ⟨v, by rw [List.getElem?_set_self (by rw [r.1]; exact z)], h⟩
    · rw [List.getElem?_eq_none (by simpa using z)] at e
      cases e
  · rw [List.getElem?_set_ne q] at e ⊢
    exact r.2 j x e
end
abbrev KD := D → Gm → Prop
abbrev DE := En → Gm → KD → Prop
abbrev DT := En → Gm → (Bool → Gm → Prop) → Prop
abbrev DA := En → Gm → (List D → Gm → Prop) → Prop
structure DEnds where
  nx : En → Gm → Prop
  rt : KD
  bk : En → Gm → Prop := fun _ _ => False
  ct : En → Gm → Prop := fun _ _ => False
abbrev DS := DEnds → En → Gm → Prop
def KE (K : PySem.W.Frag) (F : Gm) (Hd : Hp) (R : KD) (Q : VK) : Prop := ∀ v H' Hd' x G', Ex Hd Hd' → Sim K F Hd' H' G' → Rp K Hd' v x → R x G' → Q v H'
def KT (K : PySem.W.Frag) (F : Gm) (Hd : Hp) (R : Bool → Gm → Prop) (Q : Bool → Hp → Prop) : Prop := ∀ b H' Hd' G', Ex Hd Hd' → Sim K F Hd' H' G' → R b G' → Q b H'
def KA (K : PySem.W.Frag) (F : Gm) (Hd : Hp) (R : List D → Gm → Prop) (Q : List V → Hp → Prop) : Prop := ∀ vs H' Hd' xs G', Ex Hd Hd' → Sim K F Hd' H' G' → RpL K Hd' vs xs → R xs G' → Q vs H'
def KN (K : PySem.W.Frag) (F : Gm) (Hd : Hp) (R : En → Gm → Prop) (Q : L2.St → Hp → Prop) : Prop := ∀ σ' H' Hd' ρ' G', Ex Hd Hd' → RpE K Hd' σ' ρ' → Sim K F Hd' H' G' → R ρ' G' → Q σ' H'
structure KS (K : PySem.W.Frag) (F : Gm) (Hd : Hp) (E : DEnds) (D : Ends) : Prop where
  nx : KN K F Hd E.nx D.nx
  rt : KE K F Hd E.rt D.rt
  bk : KN K F Hd E.bk D.bk
  ct : KN K F Hd E.ct D.ct
structure Bs where
  b : Hp
  f : Gm
structure At (K : PySem.W.Frag) (B : Bs) (σ : L2.St) (H : Hp) (ρ : En) (Hd : Hp) (G : Gm) : Prop where
  b : Ex B.b Hd
  e : RpE K Hd σ ρ
  s : Sim K B.f Hd H G
theorem At.step {K : PySem.W.Frag} {B : Bs} {σ : L2.St} {H H' : Hp} {ρ : En} {Hd Hd' : Hp} {G G' : Gm} (a : At K B σ H ρ Hd G) (e : Ex Hd Hd') (s : Sim K B.f Hd' H' G') : At K B σ H' ρ Hd' G' :=
  ⟨a.b.trans e, a.e.mono e, s⟩
section
variable {K : PySem.W.Frag} {F : Gm} {Hd Hd' : Hp}
theorem KE.mono {R : KD} {Q : VK} (k : KE K F Hd R Q) (e : Ex Hd Hd') : KE K F Hd' R Q := fun v H' Hd2 x G' e2 => k v H' Hd2 x G' (e.trans e2)
theorem KT.mono {R : Bool → Gm → Prop} {Q : Bool → Hp → Prop} (k : KT K F Hd R Q) (e : Ex Hd Hd') : KT K F Hd' R Q := fun b H' Hd2 G' e2 => k b H' Hd2 G' (e.trans e2)
theorem KA.mono {R : List D → Gm → Prop} {Q : List V → Hp → Prop} (k : KA K F Hd R Q) (e : Ex Hd Hd') : KA K F Hd' R Q := fun v H' Hd2 x G' e2 => k v H' Hd2 x G' (e.trans e2)
theorem KN.mono {R : En → Gm → Prop} {Q : L2.St → Hp → Prop} (k : KN K F Hd R Q) (e : Ex Hd Hd') : KN K F Hd' R Q := fun v H' Hd2 x G' e2 => k v H' Hd2 x G' (e.trans e2)
theorem KS.mono {E : DEnds} {D : Ends} (k : KS K F Hd E D) (e : Ex Hd Hd') : KS K F Hd' E D := ⟨k.nx.mono e, k.rt.mono e, k.bk.mono e, k.ct.mono e⟩
end
section
variable {X : Cx}
end
end DL
namespace DL
open PySem PySem.Spec PyProof.Rows L2 Evl
variable [TabC]
section
variable {X : Cx} {B : Bs} {pos : Pos} {a b c : Expr} {da db dc : DE} {ta tb : DT}
def dC (d : D) : DE := fun _ G R => R d G
def dNil : DA := fun _ G R => R [] G
def dCons (da : DE) (dr : DA) : DA := fun ρ G R => da ρ G fun x G1 => dr ρ G1 fun xs G2 => R (x :: xs) G2
def dTup (dA : DA) : DE := fun ρ G R => dA ρ G fun xs G1 => xs.length ≤ sizeLine ∧ R (.tup xs) G1
def dLst (dA : DA) : DE := fun ρ G R => dA ρ G fun xs G1 => xs.length ≤ sizeLine ∧ R (.lst xs) G1
theorem sq_new {K : PySem.W.Frag} {H : Hp} {p : Addr} {xs : List V} : SqL K (upd H p (.lst xs)) p xs := sq_of upd_same
def dOp (f : D → D → D → Prop) (da db : DE) : DE := fun ρ G R => da ρ G fun x G1 => db ρ G1 fun y G2 => ∃ z, f x y z ∧ R z G2
def fInt (g : Int → Int → D) (x y z : D) : Prop := ∃ i j, x = .int i ∧ y = .int j ∧ z = g i j
def fAdd (x y z : D) : Prop := (∃ i j, x = .int i ∧ y = .int j ∧ z = .int (i + j)) ∨ (∃ i j, x = .str i ∧ y = .str j ∧ i.length + j.length ≤ sizeLine ∧ z = .str (i ++ j))
def dNeg (da : DE) : DE := fun ρ G R => da ρ G fun x G1 => ∃ i, x = .int i ∧ R (.int (-i)) G1
abbrev gLe : Int → Int → D := fun i j => .bl (decide (i ≤ j))
end
end DL
namespace DL
open PySem PySem.Spec PyProof.Rows L2 Evl
variable [TabC]
mutual
/-- a datum as the library has it -/
def D.py : D → Option PyData
  | .non => some .none
  | .bl b => some (.bool b)
  | .int i => some (.int i)
  | .str x => some (.str x)
  | .tup xs => (D.pyL xs).map .tuple
  | .lst xs => (D.pyL xs).map .list
  | .ty _ => none
  | .ref _ => none
  | .dct _ _ => none
  | .ins _ _ _ => none
  | .exc _ _ _ => none
  | .fnc _ => none
  | .rng _ _ => none
def D.pyL : List D → Option (List PyData)
  | [] => some []
  | x :: xs => match D.py x, D.pyL xs with
    | some p, some ps => some (p :: ps)
    | _, _ => none
end
mutual
/-- leaves of no great size -/
def D.fit : D → Bool
  | .non => true
  | .bl _ => true
  | .int i => decide (i.natAbs < 10 ^ 560)
  | .str x => PyData.strOk x
  | .tup xs => D.fitL xs
  | .lst xs => D.fitL xs
  | .ty _ => false
  | .ref _ => false
  | .dct _ _ => false
  | .ins _ _ _ => false
  | .exc _ _ _ => false
  | .fnc _ => false
  | .rng _ _ => false
def D.fitL : List D → Bool
  | [] => true
  | x :: xs => D.fit x && D.fitL xs
end
mutual
/-- how much of it there is -/
def D.sz : D → Nat
  | .str x => x.length + 1
  | .tup xs => D.szL xs + 1
  | .lst xs => D.szL xs + 1
  | _ => 1
def D.szL : List D → Nat
  | [] => 0
  | x :: xs => D.sz x + D.szL xs
end
mutual
def D.dp : D → Nat
  | .tup xs => D.dpL xs + 1
  | .lst xs => D.dpL xs + 1
  | _ => 0
def D.dpL : List D → Nat
  | [] => 0
  | x :: xs => max (D.dp x) (D.dpL xs)
end
theorem log_small {n : Nat} (h : n < 10 ^ 560) : n.log2 < 1920 := by
  by_cases z : n = 0
  · subst z
    decide
  · rw [Nat.log2_lt z]
    exact Nat.lt_trans h (by decide +kernel)
theorem str_short {x : Str} (h : PyData.strOk x = true) : x.cps.toList.all (fun c => decide (c < 16 ^ 8)) = true := by
  rw [List.all_eq_true]
  intro c hc
  have h2 : (x.cps.all (· < 0x110000)) = true := h
  rw [← Array.all_toList, List.all_eq_true] at h2
  have h3 := of_decide_eq_true (h2 c hc)
  exact decide_eq_true (Nat.lt_trans h3 (by decide))
mutual
theorem py_fit : ∀ d : D, d.fit = true → ∃ p, d.py = some p ∧ p.showable = true ∧ p.canLay0 = true ∧ p.leavesShort 600 = true ∧ p.bulk + 1 ≤ d.sz ∧ p.depth = d.dp
  | .non, _ => ⟨_, rfl, rfl, rfl, rfl, Nat.le_refl _, rfl⟩
  | .bl b, _ => ⟨_, rfl, rfl, rfl, rfl, Nat.le_refl _, rfl⟩
  | .int i, h => by
    have h2 : i.natAbs < 10 ^ 560 := of_decide_eq_true h
    refine ⟨_, rfl, decide_eq_true (log_small h2), rfl, ?_, Nat.le_refl _, rfl⟩
    refine decide_eq_true ?_
    show (Str.ofString (toString i)).length ≤ 600
    rw [PySem.ofString_length]
    exact Nat.le_trans (int_text_length_le10 (by decide) h2) (by decide)
  | .str x, h => by
    have h2 : PyData.strOk x = true := h
    refine ⟨_, rfl, rfl, h2, str_short h2, Nat.le_refl _, rfl⟩
  | .tup xs, h => by
    obtain ⟨ps, e, h1, h2, h3, h4, h5⟩ := py_fitL xs h
    refine ⟨.tuple ps, by simp only [D.py, e, Option.map_some], h1, h2, h3, ?_, ?_⟩
    · simp only [PyData.bulk, D.sz]
      omega
    · simp only [PyData.depth, D.dp]
      omega
  | .lst xs, h => by
    obtain ⟨ps, e, h1, h2, h3, h4, h5⟩ := py_fitL xs h
    refine ⟨.list ps, by simp only [D.py, e, Option.map_some], h1, h2, h3, ?_, ?_⟩
    · simp only [PyData.bulk, D.sz]
      omega
    · simp only [PyData.depth, D.dp]
      omega
  | .ty _, h => by cases h
  | .ref _, h => by cases h
  | .dct _ _, h => by cases h
  | .ins _ _ _, h => by cases h
  | .exc _ _ _, h => by cases h
  | .fnc _, h => by cases h
  | .rng _ _, h => by cases h
theorem py_fitL : ∀ xs : List D, D.fitL xs = true → ∃ ps, D.pyL xs = some ps ∧ PyData.showableAll ps = true ∧ PyData.canLayAll0 ps = true ∧ PyData.leavesShortAll 600 ps = true ∧ PyData.bulkAll ps ≤ D.szL xs ∧ PyData.depthAll ps = D.dpL xs
  | [], _ => ⟨[], rfl, rfl, rfl, rfl, Nat.le_refl _, rfl⟩
  | x :: xs, h => by
    have h2 : (D.fit x && D.fitL xs) = true := h
    rw [Bool.and_eq_true] at h2
    obtain ⟨p, e, a1, a2, a3, a4, a5⟩ := py_fit x h2.1
    obtain ⟨ps, es, b1, b2, b3, b4, b5⟩ := py_fitL xs h2.2
    refine ⟨p :: ps, by simp only [D.pyL, e, es], ?_, ?_, ?_, ?_, ?_⟩
    · simp only [PyData.showableAll, a1, b1, Bool.and_self]
    · simp only [PyData.canLayAll0, a2, b2, Bool.and_self]
    · simp only [PyData.leavesShortAll, a3, b3, Bool.and_self]
    · simp only [PyData.bulkAll, D.szL]
      omega
    · simp only [PyData.depthAll, D.dpL]
      omega
end
mutual
theorem rp_dp {K : PySem.W.Frag} {H H' : Hp} (e : Ex H H') : ∀ (d : D) {v : V} {p : PyData}, Rp K H v d → d.py = some p → Dp K H' v p
  | .non, _, _, r, h => by cases r; cases h; exact .non
  | .bl b, _, _, r, h => by cases r; cases h; exact .bl b
  | .int i, _, _, r, h => by cases r; cases h; exact .int i
  | .str x, _, _, r, h => by cases r; cases h; exact .str x
  | .tup xs, _, p, r, h => by
    cases r with
    | tup s r =>
      cases q : D.pyL xs with
      | none =>
        simp only [D.py, q, Option.map_none] at h
        cases h
      | some ps =>
        simp only [D.py, q, Option.map_some, Option.some.injEq] at h
        subst h
        exact .tup (ex_t e s) (rp_dpL e xs r q)
  | .lst xs, _, p, r, h => by
    cases r with
    | lst s r =>
      cases q : D.pyL xs with
      | none =>
        simp only [D.py, q, Option.map_none] at h
        cases h
      | some ps =>
        simp only [D.py, q, Option.map_some, Option.some.injEq] at h
        subst h
        exact .lst (ex_l e s) (rp_dpL e xs r q)
  | .ty _, _, _, _, h => by cases h
  | .ref _, _, _, _, h => by cases h
  | .dct _ _, _, _, _, h => by cases h
  | .ins _ _ _, _, _, _, h => by cases h
  | .exc _ _ _, _, _, _, h => by cases h
  | .fnc _, _, _, _, h => by cases h
  | .rng _ _, _, _, _, h => by cases h
theorem rp_dpL {K : PySem.W.Frag} {H H' : Hp} (e : Ex H H') : ∀ (xs : List D) {vs : List V} {ps : List PyData}, RpL K H vs xs → D.pyL xs = some ps → DpAll K H' vs ps
  | [], _, _, r, h => by
    cases r
    cases h
    exact .nil
  | x :: xs, _, ps, r, h => by
    cases r with
    | cons a b =>
      cases q : D.py x with
      | none =>
        simp only [D.pyL, q] at h
        cases h
      | some p =>
        cases q2 : D.pyL xs with
        | none =>
          simp only [D.pyL, q, q2] at h
          cases h
        | some qs =>
          simp only [D.pyL, q, q2, Option.some.injEq] at h
          subst h
          exact .cons (rp_dp e x a q) (rp_dpL e xs b q2)
end
mutual
/-- data that == takes -/
def D.lay : D → Bool
  | .non => true
  | .bl _ => true
  | .int _ => true
  | .str x => PyData.strOk x
  | .tup xs => D.layL xs
  | .lst xs => D.layL xs
  | .ty _ => false
  | .ref _ => false
  | .dct _ _ => false
  | .ins _ _ _ => false
  | .exc _ _ _ => false
  | .fnc _ => false
  | .rng _ _ => false
def D.layL : List D → Bool
  | [] => true
  | x :: xs => D.lay x && D.layL xs
end
section
variable {X : Cx}
end
def D.shown (d : D) : Str := match d with
  | .dct [] [] => "{}"
  | d => match D.py d with
    | some p => p.shown
    | none => ""
structure Shw (x : D) : Prop where
  fit : x.fit = true
  dp : x.dp ≤ 60
  sz : x.sz ≤ 27000
theorem Shw.py {x : D} (h : Shw x) : ∃ p, x.py = some p ∧ p.showable = true ∧ p.shown.length ≤ sizeLine ∧ p.depth ≤ 60 ∧ p.hasDict = false ∧ x.shown = p.shown := by
  obtain ⟨p, e, h1, h2, h3, h4, h5⟩ := py_fit x h.fit
  refine ⟨p, e, h1, ?_, by rw [h5]; exact h.dp, PyData.hasDict_of_canLay p h2, ?_⟩
  · have z := PyData.shown_le_bulk 600 (by decide) p h3
    have z2 := h.sz
    rw [sizeLine_eq]
    omega
  · cases x with
    | dct ks xs => cases e
    | _ => simp only [D.shown, e]
section
variable {X : Cx}
end
end DL
namespace DL
open PySem PySem.Spec PyProof.Rows L2 Evl
variable [TabC]
def LstAt (G : Gm) (x : D) (ds : List D) : Prop := x = .lst ds ∨ ∃ a, x = .ref a ∧ G a = some (.lst ds)
def SeqAt (G : Gm) (x : D) (ds : List D) : Prop := x = .tup ds ∨ LstAt G x ds
section
variable {K : PySem.W.Frag} {F : Gm} {Hd H : Hp} {G : Gm} {v : V} {x : D} {ds : List D}
theorem seq_tup : SeqAt G (.tup ds) ds := .inl rfl
theorem seq_lst : SeqAt G (.lst ds) ds := .inr (.inl rfl)
theorem lst_lst : LstAt G (.lst ds) ds := .inl rfl
end
section
variable {X : Cx} {B : Bs} {pos p : Pos} {a b c e : Expr} {es : List Expr} {da db dc : DE} {dA : DA} {ta tb : DT}
def dCal (f : Gm → List D → D → Prop) (dA : DA) : DE := fun ρ G R => dA ρ G fun xs G1 => ∃ z, f G1 xs z ∧ R z G1
def RepOk (x : D) : Prop := Shw x ∨ x = .dct [] []
def fRepr (_ : Gm) (xs : List D) (z : D) : Prop := ∃ x, xs = [x] ∧ RepOk x ∧ z = .str x.shown
def fLen (G : Gm) (xs : List D) (z : D) : Prop := ∃ x, xs = [x] ∧ ((∃ ds, SeqAt G x ds ∧ z = .int ds.length) ∨ ∃ y, x = .str y ∧ y.length ≤ sizeLine ∧ z = .int y.length)
def fAbs (_ : Gm) (xs : List D) (z : D) : Prop := ∃ i : Int, xs = [.int i] ∧ z = .int (if i < 0 then -i else i)
def fAll (G : Gm) (xs : List D) (z : D) : Prop := ∃ x, ∃ bs : List Bool, xs = [x] ∧ LstAt G x (bs.map D.bl) ∧ z = .bl (bs.all id)
def fIx (G : Gm) (x y z : D) : Prop := (∃ ds i, SeqAt G x ds ∧ y = .int i ∧ atI ds i = some z) ∨ ∃ (t : Str) (i : Int) (c : Nat), x = .str t ∧ y = .int i ∧ t.length ≤ sizeLine ∧ atI t.cps.toList i = some c ∧ z = .str ⟨#[c]⟩
def dIx (da db : DE) : DE := fun ρ G R => da ρ G fun x G1 => db ρ G1 fun y G2 => ∃ z, fIx G2 x y z ∧ R z G2
variable {rest : List Expr} {A2 B2 : Expr}
abbrev DO := En → Gm → (Option Int → Gm → Prop) → Prop
def dNoP : DO := fun _ G R => R none G
def dPart (de : DE) : DO := fun ρ G R => de ρ G fun x G1 => ∃ i, x = .int i ∧ R (some i) G1
def cutD (xs : List D) (lo hi : Option Int) : List D := (xs.drop (HT.sIx xs.length 0 lo)).take (HT.sIx xs.length xs.length hi - HT.sIx xs.length 0 lo)
def fSl (G : Gm) (x : D) (lo hi : Option Int) (z : D) : Prop := (∃ ds, LstAt G x ds ∧ z = .lst (cutD ds lo hi)) ∨ ∃ ds, x = .tup ds ∧ z = .tup (cutD ds lo hi) ∧ ¬ (HT.sIx ds.length 0 lo = 0 ∧ HT.sIx ds.length ds.length hi = ds.length)
def dSl (da : DE) (l h : DO) : DE := fun ρ G R => da ρ G fun x G1 => l ρ G1 fun lo G2 => h ρ G2 fun hi G3 => ∃ z, fSl G3 x lo hi z ∧ R z G3
end
end DL
namespace DL
open PySem PySem.Spec PyProof.Rows L2 Evl
variable [TabC]
section
variable {X : Cx} {B : Bs} {pos p : Pos} {a b c e : Expr} {es : List Expr} {da db dc de : DE} {dA : DA} {ta tb : DT} {st : Stmt} {sts : List Stmt} {s1 s2 : DS}
def dNext : DS := fun E ρ G => E.nx ρ G
def dSeq (s t : DS) : DS := fun E ρ G => s { E with nx := t E } ρ G
def dBreak : DS := fun E ρ G => E.bk ρ G
def dCont : DS := fun E ρ G => E.ct ρ G
def dDrop (de : DE) : DS := fun E ρ G => de ρ G fun _ G1 => E.nx ρ G1
def OnlyAt (js : List Nat) (σ σ' : L2.St) : Prop := σ'.length = σ.length ∧ ∀ j, j ∉ js → σ'[j]? = σ[j]?
theorem OnlyAt.trans {js ks : List Nat} {σ σ1 σ2 : L2.St} (h : OnlyAt js σ σ1) (h' : OnlyAt ks σ1 σ2) : OnlyAt (js ++ ks) σ σ2 :=
  ⟨h'.1.trans h.1, fun j hj => (h'.2 j fun z => hj (List.mem_append_right _ z)).trans (h.2 j fun z => hj (List.mem_append_left _ z))⟩
def dSet (i : Nat) (de : DE) : DS := fun E ρ G => de ρ G fun x G1 => E.nx (ρ.set i (some x)) G1
def Walks (K : PySem.W.Frag) (Hd : Hp) (J : It) (xs : List D) : Prop := ∀ (F : Gm) (i : Nat) (H2 Hd2 : Hp) (G2 : Gm), Ex Hd Hd2 → Sim K F Hd2 H2 G2 →
  (∀ d, xs[i]? = some d → J.go i H2 ∧ ∀ v H3, J.yld i H2 v H3 → ∃ Hd3, Ex Hd2 Hd3 ∧ Sim K F Hd3 H3 G2 ∧ Rp K Hd3 v d) ∧ (xs.length ≤ i → J.stop i H2)
theorem Walks.mono {K : PySem.W.Frag} {Hd Hd' : Hp} {J : It} {xs : List D} (w : Walks K Hd J xs) (e : Ex Hd Hd') : Walks K Hd' J xs := fun F i H2 Hd2 G2 e2 => w F i H2 Hd2 G2 (e.trans e2)
end
end DL
namespace DL
open PySem PySem.Spec PyProof.Rows L2 Evl
variable [TabC]
section
variable {X : Cx}
end
section
variable {X : Cx} {B : Bs} {pos p : Pos} {a b c e : Expr} {es : List Expr} {da db dc de : DE} {dA : DA} {ta tb : DT}
def dYes : DT := fun _ G R => R true G
end
end DL
namespace DL
open PySem PySem.Spec PyProof.Rows L2 Evl
variable [TabC]
structure FnG (P : Program) (w : World) (K : PySem.W.Frag) (mg : Str → Option Value) (base : Heap) (k : Nat) (f : Addr) (fd : FuncData) (ps : List Str) (sp : Sp) : Prop where
  len : ∀ vs H Q E, sp vs H Q E → vs.length = ps.length
  run : ∀ (A : Around) (outer : List Env) (s : Shared) (H : Hp) (args : Args) (us : List Value) (vs : List V) (Q : VK) (E : XK), Room k A → A.guards = some [] → Env0 P w K mg base A outer s H → BindsTo s fd args (ps.zip us) → Vals vs us →
    sp vs H Q E → codeAny (model P w) A (.call (.ref f) args) (CR (L2.CX P w) outer P w H s Q E) s
section
variable {P : Program} {w : World} {K : PySem.W.Frag} {mg : Str → Option Value} {base : Heap}
theorem FnG.mono {j k : Nat} {f : Addr} {fd : FuncData} {ps : List Str} {sp : Sp} (F : FnG P w K mg base j f fd ps sp) (h : j ≤ k) : FnG P w K mg base k f fd ps sp :=
  ⟨F.len, fun A outer s H args us vs Q E r => F.run A outer s H args us vs Q E (r.mono h)⟩
end
abbrev XD := Str → List Str → List D → Gm → Prop
abbrev X0 : XD := fun _ _ _ _ => False
abbrev DSp := List D → Gm → KD → XD → Prop
def KX (K : PySem.W.Frag) (F : Gm) (Hd : Hp) (RX : XD) (E : XK) : Prop := ∀ (C : Str) (d : Addr) H' Hd' ns vs xs G', Ex Hd Hd' → Sim K F Hd' H' G' → H' d = some (.xd (List.zip ns vs)) → ns.length = vs.length → RpL K Hd' vs xs → RX C ns xs G' → E (.ref (He.ga K C)) (some d) H'
def spU (K : PySem.W.Frag) (p : DSp) : Sp := fun vs H Q E => ∃ xs F Hd G R RX, RpL K Hd vs xs ∧ Sim K F Hd H G ∧ p xs G R RX ∧ KE K F Hd R Q ∧ KX K F Hd RX E
theorem KX.none {K : PySem.W.Frag} {F : Gm} {Hd : Hp} {E : XK} : KX K F Hd X0 E := fun _ _ _ _ _ _ _ _ _ _ _ _ _ h => h.elim
theorem KX.mono {K : PySem.W.Frag} {F : Gm} {Hd Hd' : Hp} {RX : XD} {E : XK} (k : KX K F Hd RX E) (e : Ex Hd Hd') : KX K F Hd' RX E := fun C d H' Hd2 ns vs xs G' e2 => k C d H' Hd2 ns vs xs G' (e.trans e2)
structure Kn (P : Program) (w : World) (K : PySem.W.Frag) (mg : Str → Option Value) (base : Heap) (k : Nat) (x : Str) (st : Stmt) (ps : List Str) (p : DSp) : Prop where
  g : mg x = some (.ref (He.ga K x))
  fn : ∃ fd, FunD K x x (defArgs st) (defBody st) (defScope st) [] [] (He.ga K x) fd ∧ FnG P w K mg base k (He.ga K x) fd ps (spU K p)
section
variable {P : Program} {w : World} {K : PySem.W.Frag} {mg : Str → Option Value} {base : Heap}
theorem Kn.mono {j k : Nat} {x : Str} {st : Stmt} {ps : List Str} {p : DSp} (h : Kn P w K mg base j x st ps p) (l : j ≤ k) : Kn P w K mg base k x st ps p :=
  ⟨h.g, let ⟨fd, a, b⟩ := h.fn; ⟨fd, a, b.mono l⟩⟩
end
section
variable {X : Cx} {B : Bs} {pos p : Pos} {e : Expr} {es : List Expr} {dA : DA}
def dCall (q : DSp) (RX : XD) (dA : DA) : DE := fun ρ G R => dA ρ G fun xs G1 => q xs G1 R RX
end
end DL
namespace DL
open PySem PySem.Spec PyProof.Rows L2 Evl
variable [TabC]
section
variable {K : PySem.W.Frag} {a : Addr} {o : Obj} {xs : List V}
end
section
variable {K : PySem.W.Frag} {ts : List Addr} {a : Addr} {o : Obj} {xs : List V}
end
def G0 : Gm := fun _ => none
theorem g0 {a : Addr} {m : Mt} (h : G0 a = some m) : False := nomatch (show (none : Option Mt) = some m from h)
def TabOk (K : PySem.W.Frag) : Prop := ∀ p ∈ tabT K, ∀ q ∈ tabT K, p.1 = q.1 → p.2 = q.2
end DL
namespace DL
open PySem PySem.Spec PyProof.Rows L2 Evl
variable [TabC]
def isSeqD : D → Bool
  | .tup _ => true
  | .lst _ => true
  | _ => false
mutual
/-- data of built-in kinds, all the way in -/
def D.kn : D → Bool
  | .non => true
  | .bl _ => true
  | .int _ => true
  | .str _ => true
  | .tup xs => D.knL xs
  | .lst xs => D.knL xs
  | .dct _ _ => true
  | .ty _ => false
  | .ref _ => false
  | .ins _ _ _ => false
  | .exc _ _ _ => false
  | .fnc _ => false
  | .rng _ _ => false
def D.knL : List D → Bool
  | [] => true
  | x :: xs => D.kn x && D.knL xs
end
def pairD : List D → Option (Int × Int)
  | [.int a, .int b] => some (a, b)
  | _ => none
def ratD (p : Option (Int × Int)) : Bool := match p with
  | some (a, b) => decide (2 ≤ b) && decide (Int.gcd a b = 1)
  | none => false
def numD : D → Bool
  | .int _ => true
  | .tup xs => ratD (pairD xs)
  | .lst xs => ratD (pairD xs)
  | _ => false
def Gau (m : Mt) (T : Nat) : Prop := ∃ (cs : List Int) (t : Nat) (r : Int), m = .lst [.lst (cs.map D.int), .int t, .int r] ∧ cs.length ≤ 63 ∧ t ≤ T ∧ 0 ≤ r
theorem Gau.mono {m : Mt} {T T' : Nat} (h : Gau m T) (l : T ≤ T') : Gau m T' := by
  obtain ⟨cs, t, r, e, h1, h2, h3⟩ := h
  exact ⟨cs, t, r, e, h1, Nat.le_trans h2 l, h3⟩
def GauAt (G : Gm) (a : Addr) (T : Nat) : Prop := ∃ m, G a = some m ∧ Gau m T
end DL
namespace DL
open PySem PySem.Spec PyProof.Rows L2 Evl
variable [TabC]
def Ev (d : DE) (ρ : En) (G : Gm) (z : D) : Prop := ∀ R : KD, R z G → d ρ G R
def EvA (d : DA) (ρ : En) (G : Gm) (zs : List D) : Prop := ∀ R : List D → Gm → Prop, R zs G → d ρ G R
section
variable {ρ : En} {G : Gm} {da db : DE} {dA : DA} {x y z : D} {xs : List D} {ta tb : DT} {j k : Bool}
theorem Ev.c : Ev (dC z) ρ G z := fun R r => r
theorem Ev.op {f : D → D → D → Prop} (ha : Ev da ρ G x) (hb : Ev db ρ G y) (h : f x y z) : Ev (dOp f da db) ρ G z := fun R r => ha _ (hb _ ⟨z, h, r⟩)
theorem Ev.cal {f : Gm → List D → D → Prop} (ha : EvA dA ρ G xs) (h : f G xs z) : Ev (dCal f dA) ρ G z := fun R r => ha _ ⟨z, h, r⟩
theorem Ev.ix (ha : Ev da ρ G x) (hb : Ev db ρ G y) (h : fIx G x y z) : Ev (dIx da db) ρ G z := fun R r => ha _ (hb _ ⟨z, h, r⟩)
theorem Ev.lst (ha : EvA dA ρ G xs) (h : xs.length ≤ sizeLine) : Ev (dLst dA) ρ G (.lst xs) := fun R r => ha _ ⟨h, r⟩
theorem Ev.tup (ha : EvA dA ρ G xs) (h : xs.length ≤ sizeLine) : Ev (dTup dA) ρ G (.tup xs) := fun R r => ha _ ⟨h, r⟩
theorem EvA.nil : EvA dNil ρ G [] := fun R r => r
theorem EvA.cons (ha : Ev da ρ G x) (hb : EvA dA ρ G xs) : EvA (dCons da dA) ρ G (x :: xs) := fun R r => ha _ (hb _ r)
theorem EvA.one (ha : Ev da ρ G x) : EvA (dCons da dNil) ρ G [x] := .cons ha .nil
theorem Ev.int {i j : Int} {g : Int → Int → D} (ha : Ev da ρ G (.int i)) (hb : Ev db ρ G (.int j)) : Ev (dOp (fInt g) da db) ρ G (g i j) := .op ha hb ⟨i, j, rfl, rfl, rfl⟩
theorem Ev.add {i j : Int} (ha : Ev da ρ G (.int i)) (hb : Ev db ρ G (.int j)) : Ev (dOp fAdd da db) ρ G (.int (i + j)) := .op ha hb (.inl ⟨i, j, rfl, rfl, rfl⟩)
theorem Ev.sub {i j : Int} (ha : Ev da ρ G (.int i)) (hb : Ev db ρ G (.int j)) : Ev (dOp (fInt fun i j => .int (i - j)) da db) ρ G (.int (i - j)) := .int ha hb
theorem Ev.le {i j : Int} (ha : Ev da ρ G (.int i)) (hb : Ev db ρ G (.int j)) : Ev (dOp (fInt gLe) da db) ρ G (.bl (decide (i ≤ j))) := .int ha hb
theorem Ev.abs {i : Int} (ha : Ev da ρ G (.int i)) : Ev (dCal fAbs (dCons da dNil)) ρ G (.int (if i < 0 then -i else i)) := .cal (.one ha) ⟨i, rfl, rfl⟩
theorem Ev.len (ha : Ev da ρ G x) (h : SeqAt G x xs) : Ev (dCal fLen (dCons da dNil)) ρ G (.int xs.length) := .cal (.one ha) ⟨x, rfl, .inl ⟨xs, h, rfl⟩⟩
theorem Ev.at {i : Int} (ha : Ev da ρ G x) (hb : Ev db ρ G (.int i)) (h : SeqAt G x xs) (h' : atI xs i = some z) : Ev (dIx da db) ρ G z := .ix ha hb (.inl ⟨xs, i, h, rfl, h'⟩)
end
end DL
namespace DL
open PySem PySem.Spec PyProof.Rows L2 Evl
variable [TabC]
section
variable {ρ : En} {G : Gm} {da db dc : DE} {dA : DA} {x y z : D} {xs : List D} {ta tb : DT} {j k : Bool}
theorem Ev.call {q : DSp} (ha : EvA dA ρ G xs) (h : ∀ R, R z G → q xs G R X0) : Ev (dCall q X0 dA) ρ G z := fun R r => ha _ (h R r)
theorem Ev.neg {i : Int} (ha : Ev da ρ G (.int i)) : Ev (dNeg da) ρ G (.int (-i)) := fun R r => ha _ ⟨i, rfl, r⟩
theorem Ev.repr (ha : Ev da ρ G x) (h : RepOk x) : Ev (dCal fRepr (dCons da dNil)) ρ G (.str x.shown) := .cal (.one ha) ⟨x, rfl, h, rfl⟩
end
theorem gup_self {G : Gm} {a : Addr} {m : Mt} (h : G a = some m) : gup G a m = G := by
  funext b
  unfold gup
  split
  · rename_i e
    rw [e, h]
  · rfl
def Drw (d : DE) (ρ : En) (a : Addr) (k : Nat) (P : D → Prop) : Prop := ∀ (G : Gm) (T : Nat) (R : KD), GauAt G a T → T + k ≤ 1000000000 → (∀ x m, P x → Gau m (T + k) → R x (gup G a m)) → d ρ G R
def DrwA (d : DA) (ρ : En) (a : Addr) (k : Nat) (P : List D → Prop) : Prop := ∀ (G : Gm) (T : Nat) (R : List D → Gm → Prop), GauAt G a T → T + k ≤ 1000000000 → (∀ x m, P x → Gau m (T + k) → R x (gup G a m)) → d ρ G R
section
variable {ρ : En} {a : Addr} {j k : Nat} {da db : DE} {dA : DA} {P P2 P3 : D → Prop} {PL : List D → Prop}
theorem Drw.mono (h : Drw da ρ a k P) (hp : ∀ x, P x → P2 x) : Drw da ρ a k P2 := fun G T R hg ht r => h G T R hg ht fun x m px hm => r x m (hp x px) hm
theorem Drw.le (h : Drw da ρ a k P) (l : k ≤ j) : Drw da ρ a j P := fun G T R hg ht r => h G T R hg (by omega) fun x m px hm => r x m px (hm.mono (by omega))
theorem DrwA.nil : DrwA dNil ρ a 0 (fun l => l = []) := fun G T R ⟨m, hg, hm⟩ _ r => by
  have := r [] m rfl hm
  rw [gup_self hg] at this
  exact this
theorem DrwA.cons (h : Drw da ρ a j P) (h' : DrwA dA ρ a k PL) : DrwA (dCons da dA) ρ a (j + k) (fun l => ∃ x xs, l = x :: xs ∧ P x ∧ PL xs) := fun G T R hg ht r => h G T _ hg (by omega) fun x m px hm =>
  h' _ (T + j) _ ⟨m, gup_same, hm⟩ (by omega) fun xs m' pxs hm' => by
    rw [gup_gup]
    exact r _ m' ⟨x, xs, rfl, px, pxs⟩ (by rw [← Nat.add_assoc]; exact hm')
theorem DrwA.more (h : Drw da ρ a j P) {n : Nat} (h' : DrwA dA ρ a k (fun l => l.length = n ∧ ∀ x ∈ l, P x)) : DrwA (dCons da dA) ρ a (j + k) (fun l => l.length = n + 1 ∧ ∀ x ∈ l, P x) := fun G T R hg ht r =>
  (DrwA.cons h h') G T R hg ht fun l m ⟨x, xs, e, px, pl, pxs⟩ hm => r l m (by
    subst e
    refine ⟨by rw [List.length_cons, pl], fun y hy => ?_⟩
    rcases List.mem_cons.mp hy with e | e
    · rw [e]
      exact px
    · exact pxs y e) hm
theorem DrwA.none : DrwA dNil ρ a 0 (fun l => l.length = 0 ∧ ∀ x ∈ l, P x) := fun G T R hg ht r => DrwA.nil G T R hg ht fun l m e hm => r l m (by rw [e]; exact ⟨rfl, fun x h => nomatch h⟩) hm
theorem Drw.lst (h : DrwA dA ρ a k PL) (hp : ∀ l, PL l → l.length ≤ sizeLine ∧ P (.lst l)) : Drw (dLst dA) ρ a k P := fun G T R hg ht r => h G T _ hg ht fun l m pl hm => ⟨(hp l pl).1, r _ m (hp l pl).2 hm⟩
theorem Drw.tup (h : DrwA dA ρ a k PL) (hp : ∀ l, PL l → l.length ≤ sizeLine ∧ P (.tup l)) : Drw (dTup dA) ρ a k P := fun G T R hg ht r => h G T _ hg ht fun l m pl hm => ⟨(hp l pl).1, r _ m (hp l pl).2 hm⟩
theorem Drw.op {f : D → D → D → Prop} (h : Drw da ρ a j P) (h' : Drw db ρ a k P2) (hp : ∀ x y, P x → P2 y → ∃ z, f x y z ∧ P3 z) : Drw (dOp f da db) ρ a (j + k) P3 := fun G T R hg ht r => h G T _ hg (by omega) fun x m px hm =>
  h' _ (T + j) _ ⟨m, gup_same, hm⟩ (by omega) fun y m' py hm' => by
    obtain ⟨z, hf, hz⟩ := hp x y px py
    refine ⟨z, hf, ?_⟩
    rw [gup_gup]
    exact r z m' hz (by rw [← Nat.add_assoc]; exact hm')
end
end DL
namespace DL
open PySem PySem.Spec PyProof.Rows L2 Evl
variable [TabC]
def halfD (x : D) : D × D := match x with
  | .tup [a, b] => (a, b)
  | .lst [a, b] => (a, b)
  | x => (x, .int 1)
def sp_halves : DSp := fun xs G R _ => ∃ x, xs = [x] ∧ numD x = true ∧ R (.tup [(halfD x).1, (halfD x).2]) G
def sp_common : DSp := fun xs G R _ => ∃ i j : Int, xs = [.int i, .int j] ∧ R (.int (Int.gcd i j)) G
section
variable {ρ : En} {G : Gm} {da db dc : DE} {x a b : D} {l m : Option Int}
theorem Ev.common {i j : Int} (h : Ev da ρ G (.int i)) (h1 : Ev db ρ G (.int j)) : Ev (dCall sp_common X0 (dCons da (dCons db dNil))) ρ G (.int (Int.gcd i j)) := .call (.cons h (.one h1)) fun R r => ⟨i, j, rfl, r⟩
theorem Ev.halves (h : Ev da ρ G x) (hk : numD x = true) : Ev (dCall sp_halves X0 (dCons da dNil)) ρ G (.tup [(halfD x).1, (halfD x).2]) := .call (.one h) fun R r => ⟨x, rfl, hk, r⟩
end
theorem num_cases {x : D} (h : numD x = true) : (∃ i, x = .int i) ∨ ∃ a b : Int, (x = .tup [.int a, .int b] ∨ x = .lst [.int a, .int b]) ∧ 2 ≤ b ∧ Int.gcd a b = 1 := by
  have key : ∀ xs, ratD (pairD xs) = true → ∃ a b : Int, xs = [.int a, .int b] ∧ 2 ≤ b ∧ Int.gcd a b = 1 := fun xs h => by
    unfold pairD at h
    split at h
    · rename_i a b
      have h2 : (decide (2 ≤ b) && decide (Int.gcd a b = 1)) = true := h
      rw [Bool.and_eq_true, decide_eq_true_eq, decide_eq_true_eq] at h2
      exact ⟨a, b, rfl, h2⟩
    · cases h
  cases x with
  | int i => exact .inl ⟨i, rfl⟩
  | tup xs =>
    obtain ⟨a, b, rfl, h2⟩ := key xs h
    exact .inr ⟨a, b, .inl rfl, h2⟩
  | lst xs =>
    obtain ⟨a, b, rfl, h2⟩ := key xs h
    exact .inr ⟨a, b, .inr rfl, h2⟩
  | _ => cases h
theorem seq_at {G : Gm} {x : D} {ds : List D} (hx : x = .tup ds ∨ x = .lst ds) : SeqAt G x ds := by
  rcases hx with rfl | rfl
  · exact seq_tup
  · exact seq_lst
end DL
namespace DL
open PySem PySem.Spec PyProof.Rows L2 Evl
variable [TabC]
end DL
namespace DL
open PySem PySem.Spec PyProof.Rows L2 Evl
variable [TabC]
section
variable {P : Program} {w : World} {K : PySem.W.Frag} {mg : Str → Option Value} {base : Heap}
end
section
variable {X : Cx} {B : Bs} {pos p : Pos} {a b c e : Expr} {es : List Expr} {da db dc de : DE} {dA : DA}
end
end DL
namespace DL
open PySem PySem.Spec PyProof.Rows L2 Evl
variable [TabC]
section
variable {ρ : En} {G : Gm} {da db dc : DE} {x y z : D}
theorem Ev.all {bs : List Bool} (ha : Ev da ρ G (.lst (bs.map D.bl))) : Ev (dCal fAll (dCons da dNil)) ρ G (.bl (bs.all id)) := .cal (.one ha) ⟨_, bs, rfl, lst_lst, rfl⟩
end
def numI (x : D) : Int × Int := match x with
  | .int i => (i, 1)
  | .tup xs => (pairD xs).getD (0, 1)
  | .lst xs => (pairD xs).getD (0, 1)
  | _ => (0, 1)
def Bn (k : Nat) (x : D) : Prop := (numI x).1.natAbs < 2 ^ k ∧ (numI x).2.natAbs < 2 ^ k
def lowD (a u : Int) : D := if u / (Int.gcd a u : Int) = 1 then .int (a / (Int.gcd a u : Int)) else .tup [.int (a / (Int.gcd a u : Int)), .int (u / (Int.gcd a u : Int))]
theorem gcd_facts {a u : Int} (hu : 0 < u) : ∃ g n d : Int, (Int.gcd a u : Int) = g ∧ 0 < g ∧ a = g * n ∧ u = g * d ∧ 0 < d ∧ a / g = n ∧ u / g = d ∧ Int.gcd n d = 1 ∧ g ≤ u := by
  have hg : 0 < Int.gcd a u := Int.gcd_pos_of_ne_zero_right a (by omega)
  have hg' : (0 : Int) < (Int.gcd a u : Int) := by omega
  obtain ⟨n, hn⟩ := Int.gcd_dvd_left a u
  obtain ⟨d, hd⟩ := Int.gcd_dvd_right a u
  have e1 : a / (Int.gcd a u : Int) = n := by
    conv => lhs; lhs; rw [hn]
    exact Int.mul_ediv_cancel_left n (by omega)
  have e2 : u / (Int.gcd a u : Int) = d := by
    conv => lhs; lhs; rw [hd]
    exact Int.mul_ediv_cancel_left d (by omega)
  have hd0 : 0 < d := by
    refine Int.pos_of_mul_pos_left ?_ hg'
    rw [Int.mul_comm, ← hd]
    exact hu
  refine ⟨_, n, d, rfl, hg', hn, hd, hd0, e1, e2, ?_, ?_⟩
  · have h := Int.gcd_ediv_gcd_ediv_gcd hg
    rw [e1, e2] at h
    exact h
  · have h1 : (Int.gcd a u : Int) * 1 ≤ (Int.gcd a u : Int) * d := Int.mul_le_mul_of_nonneg_left (by omega) (by omega)
    rw [← hd] at h1
    omega
theorem low_num {a u : Int} (hu : 0 < u) : numI (lowD a u) = (a / (Int.gcd a u : Int), u / (Int.gcd a u : Int)) := by
  unfold lowD
  split
  · rename_i h
    rw [h]
    rfl
  · rfl
theorem low_isnum {a u : Int} (hu : 0 < u) : numD (lowD a u) = true := by
  obtain ⟨g, n, d, eg, g0, ea, eu, d0, e1, e2, e3, _⟩ := gcd_facts (a := a) hu
  unfold lowD
  rw [eg, e1, e2]
  split
  · rfl
  · show (decide (2 ≤ d) && decide (Int.gcd n d = 1)) = true
    rw [decide_eq_true e3, decide_eq_true (show 2 ≤ d by omega)]
    rfl
theorem low_bn {a u : Int} {k : Nat} (hu : 0 < u) (h : a.natAbs < 2 ^ k) (h' : u.natAbs < 2 ^ k) : Bn k (lowD a u) := by
  obtain ⟨g, n, d, eg, g0, ea, eu, d0, e1, e2, _⟩ := gcd_facts (a := a) hu
  unfold Bn
  rw [low_num hu, eg, e1, e2]
  have ha : a.natAbs = g.natAbs * n.natAbs := by rw [ea, Int.natAbs_mul]
  have hu' : u.natAbs = g.natAbs * d.natAbs := by rw [eu, Int.natAbs_mul]
  have hg : 1 ≤ g.natAbs := by omega
  have h1 : n.natAbs ≤ g.natAbs * n.natAbs := Nat.le_mul_of_pos_left _ hg
  have h2 : d.natAbs ≤ g.natAbs * d.natAbs := Nat.le_mul_of_pos_left _ hg
  exact ⟨by omega, by omega⟩
def sp_lowest_in : DSp := fun xs G R _ => ∃ a u : Int, xs = [.int a, .int u] ∧ 0 < u ∧ u < 2 ^ 8000 ∧ R (lowD a u) G
end DL
namespace DL
open PySem PySem.Spec PyProof.Rows L2 Evl
variable [TabC]
theorem num_kn {x : D} (h : numD x = true) : x.kn = true := by
  rcases num_cases h with ⟨i, rfl⟩ | ⟨a, b, hx, _⟩
  · rfl
  · rcases hx with rfl | rfl <;> rfl
theorem nums_kn : ∀ {ds : List D}, (∀ d ∈ ds, numD d = true) → D.knL ds = true
  | [], _ => rfl
  | d :: ds, h => by
    show (d.kn && D.knL ds) = true
    rw [num_kn (h d List.mem_cons_self), nums_kn fun e he => h e (List.mem_cons_of_mem _ he)]
    rfl
structure Pt (x : D) (ds : List D) : Prop where
  sh : x = .tup ds ∨ x = .lst ds
  nm : ∀ d ∈ ds, numD d = true
theorem Pt.kn {x : D} {ds : List D} (h : Pt x ds) : x.kn = true := by
  rcases h.sh with rfl | rfl
  · exact nums_kn h.nm
  · exact nums_kn h.nm
theorem Pt.seq {x : D} {ds : List D} (h : Pt x ds) : isSeqD x = true := by rcases h.sh with rfl | rfl <;> rfl
theorem Pt.at {x : D} {ds : List D} (h : Pt x ds) {G : Gm} : SeqAt G x ds := seq_at h.sh
structure Nms (k : Nat) (ds : List D) : Prop where
  nm : ∀ d ∈ ds, numD d = true
  bn : ∀ d ∈ ds, Bn k d
theorem Bn.mono {j k : Nat} {d : D} (h : Bn j d) (l : j ≤ k) : Bn k d := ⟨Nat.lt_of_lt_of_le h.1 (Nat.pow_le_pow_right (by decide) l), Nat.lt_of_lt_of_le h.2 (Nat.pow_le_pow_right (by decide) l)⟩
theorem nat_mul_lt {x y j k : Nat} (h : x < 2 ^ j) (h' : y < 2 ^ k) : x * y < 2 ^ (j + k) := by
  rw [Nat.pow_add]
  exact Nat.mul_lt_mul'' h h'
section
variable {ρ : En} {G : Gm} {da db dc : DE} {ds : List D} {p q : Int}
end
section
variable {ρ : En} {G : Gm} {da db dc : DE} {ds : List D} {p first : Int} {n : Nat} {x : D}
end
structure PtN (x : D) (ds : List D) : Prop where
  sh : x = .tup ds ∨ x = .lst ds
  nm : Nms 3000 ds
  l1 : 1 ≤ ds.length
  l2 : ds.length ≤ 2
theorem PtN.pt {x : D} {ds : List D} (h : PtN x ds) : Pt x ds := ⟨h.sh, h.nm.nm⟩
section
variable {ρ : En} {G : Gm} {da db dc : DE} {ds : List D} {p first many : Int} {n : Nat} {x : D}
end
end DL
namespace DL
open PySem PySem.Spec PyProof.Rows L2 Evl
variable [TabC]
theorem Ev.low {ρ : En} {G : Gm} {da db : DE} {a u : Int} (h : Ev da ρ G (.int a)) (h' : Ev db ρ G (.int u)) (hu : 0 < u) (hu2 : u < 2 ^ 8000) : Ev (dCall sp_lowest_in X0 (dCons da (dCons db dNil))) ρ G (lowD a u) := .call (.cons h (.one h')) fun R r => ⟨a, u, rfl, hu, hu2, r⟩
def Rat0 (k : Nat) (x : D) : Prop := ∃ a u : Int, x = lowD a u ∧ 0 < u ∧ a.natAbs < 2 ^ k ∧ u.natAbs < 2 ^ k
theorem Rat0.num {k : Nat} {x : D} : Rat0 k x → numD x = true := fun ⟨a, u, e, hu, _⟩ => by
  rw [e]
  exact low_isnum hu
theorem Rat0.bn {k : Nat} {x : D} : Rat0 k x → Bn k x := fun ⟨a, u, e, hu, h, h'⟩ => by
  rw [e]
  exact low_bn hu h h'
theorem Rat0.kn {k : Nat} {x : D} (h : Rat0 k x) : x.kn = true := num_kn h.num
section
variable {ρ : En} {a : Addr} {j k : Nat} {da db : DE} {dA : DA} {P P2 P3 : D → Prop} {PL : List D → Prop}
theorem Drw.call {q : DSp} (h : DrwA dA ρ a k PL) (hq : ∀ l, PL l → ∃ z, P z ∧ ∀ (G : Gm) (R : KD), R z G → q l G R X0) : Drw (dCall q X0 dA) ρ a k P := fun G T R hg ht r => h G T _ hg ht fun l m pl hm => by
  obtain ⟨z, pz, hz⟩ := hq l pl
  exact hz _ _ (r z m pz hm)
end
end DL
namespace MZ
open PySem PySem.Spec PyProof.Rows L2
open PySem.Sem (wp)
def ItB (t : Bool) (h : Heap) (i p : Addr) (k : Nat) : Prop := if t = true then h.IsTupleIter i p k else h.IsListIter i p k
def SqB (t : Bool) (h : Heap) (p : Addr) (us : Array Value) : Prop := if t = true then h.IsTuple p us else h.IsList p us
theorem ItB.off {t : Bool} {h h2 : Heap} {i p c : Addr} {k : Nat} (x : ItB t h i p k) (e : Heap.ExtBut c h h2) (n : i ≠ c) : ItB t h2 i p k := by
  cases t with
  | true => exact Heap.IsTupleIter.extBut x e n
  | false => exact Heap.IsListIter.extBut x e n
theorem SqB.off {t : Bool} {h h2 : Heap} {p c : Addr} {us : Array Value} (x : SqB t h p us) (e : Heap.ExtBut c h h2) (n : p ≠ c) : SqB t h2 p us := by
  cases t with
  | true => exact Heap.IsTuple.extBut x e n
  | false => exact Heap.IsList.extBut x e n
theorem ItB.ob {t : Bool} {h : Heap} {i p : Addr} {k : Nat} (x : ItB t h i p k) : ∃ o, h.get? i = some o ∧ o.data = .fields #[.ref p, .int k 0] := by
  cases t with
  | true =>
    obtain ⟨o, e, _, d⟩ := (show h.IsTupleIter i p k from x)
    exact ⟨o, e, d⟩
  | false =>
    obtain ⟨o, e, _, d⟩ := (show h.IsListIter i p k from x)
    exact ⟨o, e, d⟩
section
variable {prog : Program} {w : World} {A : Around} {E : Value → Shared → Prop} {s : Shared}
end
section
variable {prog : Program} {w : World} {A : Around} {E : Value → Shared → Prop} {s : Shared}
end
section
variable {X : Cx} {pins : List (Addr × Obj)} {σ : L2.St} {H : Hp} {s : Shared}
end
end MZ
namespace DL
open PySem PySem.Spec PyProof.Rows L2 Evl
variable [TabC]
end DL
namespace DL
open PySem PySem.Spec PyProof.Rows L2 Evl
variable [TabC]
end DL
namespace DL
open PySem PySem.Spec PyProof.Rows L2 Evl
variable [TabC]
def AllR (P : D → D → Prop) : List D → List D → Prop
  | [], [] => True
  | x :: xs, y :: ys => P x y ∧ AllR P xs ys
  | _, _ => False
theorem AllR.len {P : D → D → Prop} : ∀ {xs ys : List D}, AllR P xs ys → xs.length = ys.length
  | [], [], _ => rfl
  | _ :: _, _ :: _, h => congrArg (· + 1) (AllR.len h.2)
  | [], _ :: _, h => h.elim
  | _ :: _, [], h => h.elim
theorem AllR.map {α : Type} {P : D → D → Prop} {f g : D → α} (hp : ∀ x y, P x y → f x = g y) : ∀ {xs ys : List D}, AllR P xs ys → xs.map f = ys.map g
  | [], [], _ => rfl
  | x :: xs, y :: ys, h => by
    rw [List.map_cons, List.map_cons, hp x y h.1, AllR.map hp h.2]
  | [], _ :: _, h => h.elim
  | _ :: _, [], h => h.elim
section
variable {ρ : En} {G : Gm} {a : Addr} {j k : Nat} {da db dc : DE} {P : D → Prop}
end
end DL
namespace DL
open PySem PySem.Spec PyProof.Rows L2 Evl
variable [TabC]
end DL
namespace MZ
open PySem PySem.Spec PyProof.Rows L2
open PySem.Sem (wp)
section
variable {prog : Program} {w : World} {A : Around} {E : Value → Shared → Prop} {s : Shared}
end
section
variable {prog : Program} {w : World} {A : Around} {E : Value → Shared → Prop} {s : Shared}
end
end MZ
namespace DL
open PySem PySem.Spec PyProof.Rows L2 Evl
variable [TabC]
end DL
namespace DL
open PySem PySem.Spec PyProof.Rows L2 Evl
variable [TabC]
end DL
namespace DL
open PySem PySem.Spec PyProof.Rows L2 Evl
variable [TabC]
def Cn (x : D) : Prop := (∃ i, x = .int i) ∨ ∃ a b : Int, x = .tup [.int a, .int b] ∧ 2 ≤ b ∧ Int.gcd a b = 1
theorem Cn.num {x : D} (h : Cn x) : numD x = true := by
  rcases h with ⟨i, rfl⟩ | ⟨a, b, rfl, h2, h3⟩
  · rfl
  · show (decide (2 ≤ b) && decide (Int.gcd a b = 1)) = true
    rw [decide_eq_true h2, decide_eq_true h3]
    rfl
end DL
namespace DL
open PySem PySem.Spec PyProof.Rows L2 Evl
variable [TabC]
end DL
namespace DL
open PySem PySem.Spec PyProof.Rows L2 Evl
variable [TabC]
section
variable {X : Cx} {B : Bs} {o e : Expr} {dobj de : DE} {pos p : Pos}
end
def gdel (G : Gm) (p : Addr) : Gm := fun b => if b = p then none else G b
theorem Sim.freeze {K : PySem.W.Frag} {F : Gm} {Hd H : Hp} {G : Gm} (S : Sim K F Hd H G) {p : Addr} {ds : List D} (h : G p = some (.lst ds)) : ∃ xs, Sim K F (upd Hd p (.lst xs)) H (gdel G p) ∧ RpL K Hd xs ds := by
  obtain ⟨xs, hx, r⟩ := S.hold p _ h
  have hd := S.off p _ h
  have hf := S.gf h
  have e : Ex Hd (upd Hd p (.lst xs)) := Ex.new hd
  have gd : ∀ {a : Addr} {m : Mt}, gdel G p a = some m → a ≠ p ∧ G a = some m := fun {a m} q => by
    unfold gdel at q
    split at q
    · cases q
    · rename_i z
      exact ⟨z, q⟩
  refine ⟨xs, ⟨fun a u q => ?_, fun a m q => ?_, fun a m q => (S.hold a m (gd q).2).mono e, fun a m q => ?_, fun a m q => (S.holdF a m q).mono e, fun a m q => ?_, S.tabs⟩, r⟩
  · by_cases z : a = p
    · subst z
      rw [upd_same] at q
      cases q
      exact hx
    · rw [upd_ne z] at q
      exact S.sub a u q
  · rw [upd_ne (gd q).1]
    exact S.off a m (gd q).2
  · rw [upd_ne (ne_g q hf)]
    exact S.offF a m q
  · unfold gdel
    split
    · rfl
    · exact S.apart a m q
end DL
namespace MZ
open PySem PySem.Spec PyProof.Rows L2
end MZ
namespace DL
open PySem PySem.Spec PyProof.Rows L2 Evl
variable [TabC]
end DL
namespace DL
open PySem PySem.Spec PyProof.Rows L2 Evl
variable [TabC]
section
variable {X : Cx} {B : Bs} {pos pp : Pos} {a : Expr} {da : DE} {j : Nat}
end
end DL
namespace DL
open PySem PySem.Spec PyProof.Rows L2 Evl
variable [TabC]
end DL
namespace DL
open PySem PySem.Spec PyProof.Rows L2 Evl
variable [TabC]
mutual
/-- data of which == tells just whether they are the same -/
def D.pln : D → Bool
  | .non => true
  | .int _ => true
  | .str _ => true
  | .tup xs => D.plnL xs
  | .lst xs => D.plnL xs
  | _ => false
def D.plnL : List D → Bool
  | [] => true
  | x :: xs => D.pln x && D.plnL xs
end
theorem fitL_all : ∀ {xs : List D}, (∀ x ∈ xs, x.fit = true) → D.fitL xs = true
  | [], _ => rfl
  | x :: xs, h => by
    show (x.fit && D.fitL xs) = true
    rw [h x List.mem_cons_self, fitL_all fun y hy => h y (List.mem_cons_of_mem _ hy)]
    rfl
theorem dpL_all {k : Nat} : ∀ {xs : List D}, (∀ x ∈ xs, x.dp ≤ k) → D.dpL xs ≤ k
  | [], _ => Nat.zero_le _
  | x :: xs, h => Nat.max_le.mpr ⟨h x List.mem_cons_self, dpL_all fun y hy => h y (List.mem_cons_of_mem _ hy)⟩
theorem szL_all {k : Nat} : ∀ {xs : List D}, (∀ x ∈ xs, x.sz ≤ k) → D.szL xs ≤ xs.length * k
  | [], _ => Nat.zero_le _
  | x :: xs, h => by
    show x.sz + D.szL xs ≤ (xs.length + 1) * k
    have h1 := h x List.mem_cons_self
    have h2 := szL_all fun y hy => h y (List.mem_cons_of_mem x hy)
    rw [Nat.add_mul, Nat.one_mul]
    omega
structure Sm (d s : Nat) (x : D) : Prop where
  fit : x.fit = true
  dp : x.dp ≤ d
  sz : x.sz ≤ s
theorem Sm.int {i : Int} (h : i.natAbs < 10 ^ 560) : Sm 0 1 (.int i) := ⟨decide_eq_true h, Nat.le_refl _, Nat.le_refl _⟩
theorem Sm.non : Sm 0 1 .non := ⟨rfl, Nat.le_refl _, Nat.le_refl _⟩
theorem Sm.bl {b : Bool} : Sm 0 1 (.bl b) := ⟨rfl, Nat.le_refl _, Nat.le_refl _⟩
theorem Sm.str {x : Str} {s : Nat} (h : PyData.strOk x = true) (hz : x.length + 1 ≤ s) : Sm 0 s (.str x) := ⟨h, Nat.le_refl _, hz⟩
theorem Sm.mono {d s d' s' : Nat} {x : D} (h : Sm d s x) (h1 : d ≤ d') (h2 : s ≤ s') : Sm d' s' x := ⟨h.fit, Nat.le_trans h.dp h1, Nat.le_trans h.sz h2⟩
theorem Sm.tup {d s : Nat} {xs : List D} (h : ∀ x ∈ xs, Sm d s x) : Sm (d + 1) (xs.length * s + 1) (.tup xs) := ⟨fitL_all fun x hx => (h x hx).fit, Nat.succ_le_succ (dpL_all fun x hx => (h x hx).dp), Nat.succ_le_succ (szL_all fun x hx => (h x hx).sz)⟩
theorem Sm.lst {d s : Nat} {xs : List D} (h : ∀ x ∈ xs, Sm d s x) : Sm (d + 1) (xs.length * s + 1) (.lst xs) := ⟨fitL_all fun x hx => (h x hx).fit, Nat.succ_le_succ (dpL_all fun x hx => (h x hx).dp), Nat.succ_le_succ (szL_all fun x hx => (h x hx).sz)⟩
theorem Sm.two {d s : Nat} {x y : D} (h : Sm d s x) (h' : Sm d s y) : Sm (d + 1) (2 * s + 1) (.lst [x, y]) := Sm.lst fun z hz => by
  rcases List.mem_cons.mp hz with e | e
  · rw [e]; exact h
  · rw [List.mem_singleton.mp e]; exact h'
section
variable {ρ : En} {G : Gm} {da db dc : DE} {dA : DA} {x y z : D} {xs : List D} {ta tb : DT} {j k : Bool}
end
end DL
namespace DL
open PySem PySem.Spec PyProof.Rows L2 Evl
variable [TabC]
class Bd (i : Int) (k : outParam Nat) : Prop where
  h : i.natAbs < 2 ^ k
class Ps (i : Int) : Prop where
  h : 0 < i
section
variable {i j : Int} {a b : Nat}
theorem two_le (k l : Nat) : 2 ^ k ≤ 2 ^ (max k l) ∧ 2 ^ l ≤ 2 ^ (max k l) := ⟨Nat.pow_le_pow_right (by decide) (Nat.le_max_left k l), Nat.pow_le_pow_right (by decide) (Nat.le_max_right k l)⟩
instance bd_lit {n : Nat} : Bd (no_index (@OfNat.ofNat Int n instOfNat)) (n.log2 + 1) := ⟨by
  show (Int.natAbs (n : Int)) < _
  rw [Int.natAbs_natCast]
  exact Nat.lt_log2_self⟩
instance bd_add [x : Bd i a] [y : Bd j b] : Bd (i + j) (max a b + 1) := ⟨by
  have h1 := x.h
  have h2 := y.h
  have h3 := two_le a b
  rw [Nat.pow_succ]
  omega⟩
instance bd_sub [x : Bd i a] [y : Bd j b] : Bd (i - j) (max a b + 1) := ⟨by
  have h1 := x.h
  have h2 := y.h
  have h3 := two_le a b
  rw [Nat.pow_succ]
  omega⟩
instance bd_neg [x : Bd i a] : Bd (-i) a := ⟨by rw [Int.natAbs_neg]; exact x.h⟩
instance bd_mul [x : Bd i a] [y : Bd j b] : Bd (i * j) (a + b) := ⟨by
  rw [Int.natAbs_mul]
  exact nat_mul_lt x.h y.h⟩
instance bd_div [x : Bd i a] : Bd (i / j) a := ⟨Nat.lt_of_le_of_lt (Int.natAbs_ediv_le_natAbs i j) x.h⟩
instance bd_pow {n : Nat} [x : Bd i a] : Bd (i ^ n) (a * n + 1) := ⟨by
  have h1 : (i ^ n).natAbs ≤ (2 ^ a) ^ n := by
    rw [Int.natAbs_pow]
    exact Nat.pow_le_pow_left (Nat.le_of_lt x.h) n
  rw [Nat.pow_succ, Nat.pow_mul]
  have h2 : 0 < (2 ^ a) ^ n := Nat.pow_pos (Nat.pow_pos (by decide))
  omega⟩
theorem Bd.le [x : Bd i a] {k : Nat} (h : a ≤ k := by first | decide | decide +kernel | omega) : i.natAbs < 2 ^ k := Nat.lt_of_lt_of_le x.h (Nat.pow_le_pow_right (by decide) h)
end
end DL
namespace Sup
open PySem PySem.Spec PySem.Calls PyProof.Rows L2 PySem.W
section
variable {CX : CXT} {P : Program} {w : World} {K : PySem.W.Frag} {mg : Str → Option Value} {base : Heap} {N ps : List Str} {qual : Str} {scope : Scope} {f cc : Addr} {cd : Value} {A : Around} {outer : List Env} {s : Shared} {H : Hp} {E : XK} {us : List Value} {vs : List V}
end
structure PSsS (X : Cx) (b sts : List Stmt) (t : TS) : Prop where
  run : ∀ (pins : List (Addr × Obj)) (s : Shared) (σ : L2.St) (H : Hp) (D : Ends), Inv X pins σ H s → t D σ H → PySem.wpAt (model X.prog X.w) X.A (.func b X.env) (execs sts X.env) (SP X pins D) X.xe s
theorem PSsS.of {X : Cx} {b sts : List Stmt} {t : TS} (h : PSs X sts t) : PSsS X b sts t := ⟨fun pins s σ H D I w => wpAt_of_wpAny (h.run pins s σ H D I w)⟩
section
variable {prog : Program} {w : World} {A : Around} {E : Value → Shared → Prop} {s : Shared}
end
section
variable {CX : CXT} {P : Program} {w : World} {K : PySem.W.Frag} {mg : Str → Option Value} {base : Heap} {N ps : List Str} {x qual : Str} {scope : Scope} {f cda cc C D : Addr} {A : Around} {outer : List Env} {s : Shared} {H : Hp} {E : XK} {params : Arguments} {body : List Stmt}
end
end Sup
namespace Sup
open PySem PySem.Spec PySem.Calls PyProof.Rows L2 PySem.W
section
variable {CX : CXT} {P : Program} {w : World} {K : PySem.W.Frag} {mg : Str → Option Value} {base : Heap} {N ps : List Str} {x qual : Str} {scope : Scope} {f cda cc C D : Addr} {A : Around} {outer : List Env} {s : Shared} {H : Hp} {E : XK} {params : Arguments} {body : List Stmt}
end
end Sup
namespace DL
open PySem PySem.Spec PyProof.Rows L2 Evl Sup
variable [TabC]
abbrev FnC : Type := Option (Str × Str × Arguments × FuncBody × Scope × Addr × Addr)
def fnC (K : PySem.W.Frag) (C : Str) : FnC := match K.lookup (He.ma K (He.ga K C) "__init__") with
  | some ⟨_, _, .func fd, _⟩ => some (fd.name, fd.qualname, fd.params, fd.body, fd.scope, fd.globals, fd.builtins)
  | _ => none
structure DefC where
  cls : Str
  qual : Str
  params : Arguments
  body : List Stmt
  scope : Scope
def DefC.val (d : DefC) : FnC := some ("__init__", d.qual, d.params, .stmts d.body, d.scope, mainGlobals, builtinsNs)
def optB {α : Type} (o : Option α) (f : α → Bool) : Bool := match o with
  | some a => f a
  | none => false
def fdOf (K : PySem.W.Frag) (f : Addr) : Option FuncData := match K.lookup f with
  | some ⟨_, _, .func fd, _⟩ => some fd
  | _ => none
def vsOf (K : PySem.W.Frag) (f : Addr) : Option (Array Value) := match K.lookup f with
  | some ⟨_, _, .fields vs, _⟩ => some vs
  | _ => none
def cellOf (K : PySem.W.Frag) (f : Addr) : Option Addr := match K.lookup f with
  | some ⟨_, _, .cell (some (.ref D)), _⟩ => some D
  | _ => none
def refOf : Value → Option Addr
  | .ref a => some a
  | _ => none
def txtOf : Option Value → Option Str
  | some (.str x _) => some x
  | _ => none
def noneV : Value → Bool
  | .none => true
  | _ => false
def onlyCl : List (Str × Addr) → Option Addr
  | [(x, c)] => if x = "__class__" then some c else none
  | _ => none
def oexB (K : PySem.W.Frag) (C : Addr) : Bool := (match K.lookup C with
  | some ⟨.type t, _, .cls cd, sl⟩ => (match cd.mro, sl.toList with
    | .ref C' :: bm, [_, _, _, _, some (.builtin n), _] => decide (t = "type") && (C' == C && (n == "ValueError.__new__" && (!cd.hasDel && (cd.hasDict && PySem.HandSPX.refsVE bm))))
    | _, _ => false)
  | _ => false) && (He.eqO (PySem.W.findIn K (.ref C) "__setattr__") (some (some (.builtin "object.__setattr__"))) && (decide (PySem.W.subIn K (.ref C) (.type "BaseException") = some true) && (decide (PySem.W.typeIn K (.ref C) = some (.type "type")) && PySem.W.keepIn K (.ref C))))
def xcB (file : Str) (K : PySem.W.Frag) (C : Str) (fs : List Str) : Bool :=
  oexB K (He.ga K C) && (He.eqO (PySem.W.nsIn K mainGlobals C) (some (some (.ref (He.ga K C)))) && (He.eqO (PySem.W.findIn K (.ref (He.ga K C)) "__init__") (some (some (.ref (He.ma K (He.ga K C) "__init__")))) && (decide (PySem.W.typeIn K (.ref (He.ma K (He.ga K C) "__init__")) = some (.type "function")) && (fs.all (fun f => He.eqO (PySem.W.findIn K (.ref (He.ga K C)) f) (some none)) &&
  (optB (fdOf K (He.ma K (He.ga K C) "__init__")) (fun fd => optB (refOf fd.code) (fun cda => optB (onlyCl fd.closure) fun cc => noneV fd.defaults && (PySem.W.codeIn K (.ref cda) fd.qualname && (optB (vsOf K cda) (fun vs => optB (txtOf vs[2]?) fun fl => (file : Str) == fl) && decide (cellOf K cc = some (He.ga K C)))))) &&
  ((PySem.W.clsIn K (He.ga K C)).isSome && (decide (PySem.W.mroIn K (He.ga K C) (.ref (He.ga K C)) = some true) && (He.eqO (PySem.W.nsIn K mainGlobals "super") (some none) && (He.eqO (PySem.W.nsIn K cStatics "thirdparty.any") (some none) && (He.eqO (PySem.W.ks_superIn K (He.ga K C) (He.ga K C) "__init__") (some (some (.builtin "ValueError.__init__"))) &&
  (decide (PySem.W.subIn K (.ref (He.ga K C)) (.type "ValueError") = some true) && (xfB K (He.ga K C) && (He.eqO (PySem.W.findIn K (.ref (He.ga K C)) "__class__") (some (some (.builtin "object.__class__"))) && (He.eqO (PySem.W.specialIn K (.builtin "object.__class__") "__get__") (some (some (.builtin "getset_descriptor.__get__"))) && (decide (PySem.W.takesIn K (.builtin "object.__class__") = some true) && decide (PySem.W.mroIn K (He.ga K C) (.type "object") = some true))))))))))))))))
end DL
namespace DL
open PySem PySem.Spec PyProof.Rows L2 Evl Sup
variable [TabC]
inductive JP where
  | k (x : Str) | v (i : Nat)
def JP.t : JP → TE
  | .k x => tC (.str x)
  | .v i => tFmt (tVar i)
section
variable {X : Cx} {B : Bs} {pos p pos2 : Pos} {e : Expr} {es : List Expr} {dA : DA}
end
end DL
namespace Held
open PySem PySem.Spec PyProof.Rows L2 DL
section
variable {X : Cx} {pins : List (Addr × Obj)} {σ : L2.St} {H : Hp} {s : Shared}
end
section
variable {X : Cx} {x n m : Str} {c : Value} {body : List Stmt} {px pn pm pa ph pos : Pos} {i j : Nat} {tb : WX → TS} {W0 : WX}
end
end Held
namespace DL
open PySem PySem.Spec PyProof.Rows L2 Evl Held
variable [TabC]
theorem Sim.fields {K : PySem.W.Frag} {F : Gm} {Hd H : Hp} {G : Gm} (S : Sim K F Hd H G) {d : Addr} {fs : List (Str × V)} (h : H d = some (.xd fs)) : Sim K F (upd Hd d (.xd fs)) H G ∧ Ex Hd (upd Hd d (.xd fs)) := by
  have no : ∀ {a : Addr} {m : Mt}, HoldM K Hd H a m → a ≠ d := fun {a m} hm z => by
    rw [z] at hm
    cases m with
    | lst ds =>
      obtain ⟨_, e, _⟩ := hm
      rw [h] at e
      cases e
    | ins C ns ds =>
      obtain ⟨_, _, e, _⟩ := hm
      rw [h] at e
      cases e
    | gau T =>
      obtain ⟨_, _, _, _, e, _⟩ := hm
      rw [h] at e
      cases e
    | tab q =>
      obtain ⟨_, e, _⟩ := hm
      rw [h] at e
      cases e
    | dct ks ds =>
      obtain ⟨_, e, _⟩ := hm
      rw [h] at e
      cases e
  have ex : Ex Hd (upd Hd d (.xd fs)) := fun a u e => by
    by_cases z : a = d
    · have e2 := S.sub a u e
      rw [z, h] at e2
      rw [z, upd_same]
      exact e2
    · rw [upd_ne z]
      exact e
  refine ⟨⟨fun a u e => ?_, fun a m e => ?_, fun a m e => (S.hold a m e).mono ex, fun a m e => ?_, fun a m e => (S.holdF a m e).mono ex, S.apart, S.tabs⟩, ex⟩
  · by_cases z : a = d
    · rw [z, upd_same] at e
      cases e
      rw [z]
      exact h
    · rw [upd_ne z] at e
      exact S.sub a u e
  · rw [upd_ne (no (S.hold a m e))]
    exact S.off a m e
  · rw [upd_ne (no (S.holdF a m e))]
    exact S.offF a m e
section
variable {X : Cx} {B : Bs} {x n m : Str} {c : Value} {e : Expr} {px pn pm pa pe ph pos : Pos} {i j : Nat} {dX : XD → DE} {cs : List Str}
end
def excB (K : PySem.W.Frag) (C : Addr) : Bool := xfB K C && (He.eqO (PySem.W.findIn K (.ref C) "__class__") (some (some (.builtin "object.__class__"))) && (He.eqO (PySem.W.specialIn K (.builtin "object.__class__") "__get__") (some (some (.builtin "getset_descriptor.__get__"))) && (decide (PySem.W.takesIn K (.builtin "object.__class__") = some true) && decide (PySem.W.mroIn K C (.type "object") = some true))))
def isB (K : PySem.W.Frag) (es : List Str) (sub : Str → Str → Bool) (fl : List Str) : Bool :=
  es.all fun C => He.eqO (PySem.W.nsIn K mainGlobals C) (some (some (.ref (He.ga K C)))) && (excB K (He.ga K C) && (fl.all (fun f => He.eqO (PySem.W.findIn K (.ref (He.ga K C)) f) (some none)) &&
    (["NoneType", "bool", "int", "str", "tuple", "list", "dict"].all (fun t => decide (PySem.W.kitOne K (.type t) (.ref (He.ga K C)) = some false)) && es.all fun D => decide (PySem.W.kitOne K (.ref (He.ga K C)) (.ref (He.ga K D)) = some (sub C D)) && decide (PySem.W.exmOne K (.ref (He.ga K C)) (.ref (He.ga K D)) = some (sub C D)))))
section
variable {X : Cx} {B : Bs} {pins : List (Addr × Obj)} {σ : L2.St} {H : Hp} {s : Shared} {p pos q : Pos} {e : Expr} {es : List Expr} {da : DE} {x : Str} {cl fl : List Str} {sub : Str → Str → Bool}
end
end DL
namespace Act
open PySem PySem.Spec PySem.Calls PyProof.Rows L2 LamX PySem.W
structure LamO (N : List Str) (sc scope : Scope) (bs : List Str) : Prop where
  kind : scope.kind = .function
  co : scope.isCoroutine = false
  gen : scope.isGenerator = false
  cell : ∀ y ∈ scope.names, y.2 ≠ .cell
  loc : ∀ y ∈ scope.names, y.2 = .local → y.1 ∉ N
  free : ∀ y ∈ scope.names, y.2 = .free → sc.names.lookup y.1 = some .cell ∨ sc.names.lookup y.1 = some .free
  bs : ∀ x ∈ bs, scope.names.lookup x = some .local
section
variable {X : Cx} {pins : List (Addr × Obj)} {σ : L2.St} {H HZ : Hp} {s s1 : Shared} {c P : Addr} {params : Arguments} {body : Expr} {scope : Scope} {pos : Pos} {bs : List Str} {f c' : Addr}
theorem LamO.has (L : LamO X.N X.env.scope scope bs) (ok : X.Ok) : ∀ y ∈ scope.names, y.2 = .free → ∃ u, X.env.cells.lookup y.1 = some u := fun y hy e => ok.has _ (L.free y hy e)
structure LamH (H H1 : Hp) (P : Addr) (q : Str) : Prop where
  keep : ∀ b o, b ≠ P → H b = some o → H1 b = some o
  tab : TabS H1 P q
end
end Act
namespace DL
open PySem PySem.Spec PyProof.Rows L2 Evl Act
variable [TabC]
def exts (Hd H : Hp) : Hp := fun a => match Hd a with
  | some o => some o
  | none => match H a with
    | some (.ext φ) => some (.ext φ)
    | _ => none
theorem ex_exts {Hd H : Hp} : Ex Hd (exts Hd H) := fun a o e => by
  unfold exts
  rw [e]
theorem exts_in {Hd H : Hp} {a : Addr} {φ : Heap → Prop} (hs : Ex Hd H) (h : H a = some (.ext φ)) : exts Hd H a = some (.ext φ) := by
  unfold exts
  cases e : Hd a with
  | some o =>
    have := hs a o e
    rw [h] at this
    exact this.symm
  | none =>
    dsimp only
    rw [h]
theorem exts_sub {Hd H : Hp} (hs : Ex Hd H) : Ex (exts Hd H) H := fun a o e => by
  unfold exts at e
  cases q : Hd a with
  | some u =>
    rw [q] at e
    cases e
    exact hs a _ q
  | none =>
    rw [q] at e
    dsimp only at e
    split at e
    · rename_i φ z
      cases e
      exact z
    · cases e
theorem exts_off {K : PySem.W.Frag} {Hd H : Hp} {a : Addr} {m : Mt} (h : Hd a = none) (hm : HoldM K Hd H a m) : exts Hd H a = none := by
  unfold exts
  rw [h]
  dsimp only
  cases m with
  | lst ds =>
    obtain ⟨_, e, _⟩ := hm
    rw [e]
  | ins C ns ds =>
    obtain ⟨_, _, e, _⟩ := hm
    rw [e]
  | gau T =>
    obtain ⟨_, _, _, _, e, _⟩ := hm
    rw [e]
  | tab q =>
    obtain ⟨_, e, _⟩ := hm
    rw [e]
  | dct ks ds =>
    obtain ⟨_, e, _⟩ := hm
    rw [e]
theorem HoldM.at {K : PySem.W.Frag} {Hd H H1 : Hp} {a : Addr} (e : ∀ o, H a = some o → H1 a = some o) : ∀ {m : Mt}, HoldM K Hd H a m → HoldM K Hd H1 a m
  | .lst _, ⟨xs, h, r⟩ => ⟨xs, e _ h, r⟩
  | .ins _ _ _, ⟨dx, xs, h, z⟩ => ⟨dx, xs, e _ h, z⟩
  | .dct _ _, ⟨xs, h, z⟩ => ⟨xs, e _ h, z⟩
  | .gau _, ⟨l, t, r, cs, h, z⟩ => ⟨l, t, r, cs, e _ h, z⟩
  | .tab _, ⟨ps, h, z⟩ => ⟨ps, e _ h, z⟩
theorem Sim.table {K : PySem.W.Frag} {F : Gm} {Hd H H1 : Hp} {G : Gm} {P : Addr} {q : Str} (S : Sim K F Hd H G) (hP : (P, q) ∈ tabT K) (lh : LamH H H1 P q) : Sim K F (exts Hd H1) H1 G := by
  have fP := S.tabs (P, q) hP
  have dP := S.offF P _ fP
  have gP := S.apart P _ fP
  have sub : Ex Hd H1 := fun a o e => lh.keep a o (fun z => by rw [z, dP] at e; cases e) (S.sub a o e)
  have hold : ∀ a m, G a = some m → HoldM K Hd H1 a m := fun a m e => (S.hold a m e).at fun o h => lh.keep a o (fun z => by rw [z, gP] at e; cases e) h
  refine ⟨exts_sub sub, fun a m e => exts_off (S.off a m e) (hold a m e), fun a m e => (hold a m e).mono ex_exts, fun a m e => ?_, fun a m e => ?_, S.apart, S.tabs⟩
  · by_cases z : a = P
    · obtain ⟨ps, h1, _⟩ := lh.tab
      unfold exts
      rw [z, dP]
      dsimp only
      rw [h1]
    · exact exts_off (S.offF a m e) ((S.holdF a m e).at fun o h => lh.keep a o z h)
  · by_cases z : a = P
    · rw [z, fP] at e
      cases e
      obtain ⟨ps, h1, h2, h3⟩ := lh.tab
      rw [z]
      refine ⟨ps, h1, h2, fun p v hv => ?_⟩
      obtain ⟨c, e1, e2⟩ := h3 p v hv
      exact ⟨c, e1, exts_in sub e2⟩
    · exact ((S.holdF a m e).at fun o h => lh.keep a o z h).mono ex_exts
section
variable {X : Cx} {B : Bs} {p lpos pos : Pos} {x a : Str} {st : Stmt} {N bs : List Str} {TT : ActD → Gm → KD → Prop} {params : Arguments} {body : Expr} {scope : Scope} {c P : Addr} {dE : XD → DE} {k kl n : Nat}
end
end DL
namespace DL
open PySem PySem.Spec PyProof.Rows L2 Evl Sup
variable [TabC]
def clsBody : Stmt → List Stmt
  | .ClassDef _ _ _ b _ _ _ _ _ _ _ => b
  | _ => []
def isInit : Stmt → Bool
  | .FunctionDef n _ _ _ _ _ _ _ _ _ => n == ("__init__" : Str)
  | _ => false
def initOf (st : Stmt) : Stmt := ((clsBody st).find? isInit).getD (.Pass ⟨0, 0, 0, 0⟩)
def defC (C : Str) (st : Stmt) : DefC := ⟨C, C ++ ".__init__", defArgs (initOf st), defBody (initOf st), defScope (initOf st)⟩
abbrev AlE : Type := (He.AlT × Bool) × List FnC
structure Ask where
  n : Nat
  fa : List He.Fa
  fn : List He.DefD
  tf : List Str
  ex : PySem.W.Frag → Bool
  cs : List DefC
  /-- the module's dicts of texts -/
  ts : List He.Tab := []
def Ask.tfn (q : Ask) : List He.Defn := q.tf.map fun x => (x, none)
def valE (q : Ask) (w : World) : AlE := ((He.valT q.fn q.ts w, true), q.cs.map DefC.val)
structure SaysE (q : Ask) (w : World) (h : Heap) (K : PySem.W.Frag) : Prop where
  x : He.SaysX q.fa q.fn q.ts q.tfn q.ex w h K
  c : (q.cs.map fun d => fnC K d.cls) = q.cs.map DefC.val
theorem SaysE.d {q : Ask} {w : World} {h : Heap} {K : PySem.W.Frag} (c : SaysE q w h K) : He.SaysD q.fa q.fn K := congrArg (fun z : He.AlT => z.1) c.x.t
theorem SaysE.cls {q : Ask} {w : World} {h : Heap} {K : PySem.W.Frag} (c : SaysE q w h K) (i : Nat) {d : DefC} (hd : q.cs[i]? = some d) : fnC K d.cls = d.val := by
  have e := congrArg (fun l : List FnC => l[i]?) c.c
  rw [List.getElem?_map, List.getElem?_map, hd] at e
  exact Option.some.inj e
def tabOkB (K : PySem.W.Frag) : Bool := (tabT K).all fun p => (tabT K).all fun r => p.1 != r.1 || p.2 == r.2
end DL
namespace DL
open PySem PySem.Spec PyProof.Rows L2 Evl
variable [TabC]
end DL
namespace DL
open PySem PySem.Spec PyProof.Rows L2 Evl
variable [TabC]
section
variable {ρ : En} {G : Gm} {da : DE} {dA : DA} {E : DEnds}
end
def seqL : D → List D
  | .tup ds => ds
  | .lst ds => ds
  | _ => []
theorem knL_all : ∀ {ds : List D}, D.knL ds = true → ∀ d ∈ ds, d.kn = true
  | [], _, _, h => by cases h
  | x :: xs, h, d, hd => by
    have h2 : (x.kn && D.knL xs) = true := h
    rw [Bool.and_eq_true] at h2
    rcases List.mem_cons.mp hd with e | e
    · rw [e]
      exact h2.1
    · exact knL_all h2.2 d e
end DL
namespace DL
open PySem PySem.Spec PyProof.Rows L2 Evl
variable [TabC]
section
variable {X : Cx} {B : Bs} {pos p : Pos} {e : Expr} {es : List Expr} {dA : DA}
end
end DL
namespace DL
open PySem PySem.Spec PyProof.Rows L2 Evl
variable [TabC]
def lowZ (a u : Int) : D := if 0 < u then lowD a u else lowD (-a) (-u)
def pairZ (n d : Int) : D := if d = 1 then .int n else .tup [.int n, .int d]
def sgZ (a u : Int) : Int := if 0 < u then (Int.gcd a u : Int) else -(Int.gcd a u : Int)
theorem lowZ_facts {a u : Int} (hu : u ≠ 0) : ∃ n d : Int, sgZ a u ≠ 0 ∧ (sgZ a u).natAbs ≤ u.natAbs ∧ a = sgZ a u * n ∧ u = sgZ a u * d ∧ 0 < d ∧ Int.gcd n d = 1 ∧ lowZ a u = pairZ n d := by
  by_cases h : 0 < u
  · obtain ⟨g, n, d, eg, g0, ea, eu, d0, e1, e2, e3, e4⟩ := gcd_facts (a := a) h
    have es : sgZ a u = g := (if_pos h).trans eg
    refine ⟨n, d, by rw [es]; omega, by rw [es]; omega, by rw [es]; exact ea, by rw [es]; exact eu, d0, e3, ?_⟩
    unfold lowZ lowD pairZ
    rw [if_pos h, eg, e1, e2]
  · have h2 : 0 < -u := by omega
    obtain ⟨g, n, d, eg, g0, ea, eu, d0, e1, e2, e3, e4⟩ := gcd_facts (a := -a) h2
    have eg2 : (Int.gcd a u : Int) = g := by
      rw [← eg, Int.gcd_neg, Int.neg_gcd]
    have es : sgZ a u = -g := (if_neg h).trans (by rw [eg2])
    refine ⟨n, d, by rw [es]; omega, by rw [es]; omega, ?_, ?_, d0, e3, ?_⟩
    · rw [es, Int.neg_mul]
      omega
    · rw [es, Int.neg_mul]
      omega
    · unfold lowZ lowD pairZ
      rw [if_neg h, eg, e1, e2]
theorem numI_pair {n d : Int} : numI (pairZ n d) = (n, d) := by
  unfold pairZ
  by_cases h : d = 1
  · rw [if_pos h, h]
    rfl
  · rw [if_neg h]
    rfl
theorem numD_pair {n d : Int} (h0 : 0 < d) (hg : Int.gcd n d = 1) : numD (pairZ n d) = true := by
  unfold pairZ
  by_cases h : d = 1
  · rw [if_pos h]
    rfl
  · rw [if_neg h]
    show (decide (2 ≤ d) && decide (Int.gcd n d = 1)) = true
    rw [decide_eq_true (by omega), decide_eq_true hg]
    rfl
def sp_lowZ : DSp := fun xs G R _ => ∃ a u : Int, xs = [.int a, .int u] ∧ u ≠ 0 ∧ u.natAbs < 2 ^ 8000 ∧ R (lowZ a u) G
end DL
namespace DL
open PySem PySem.Spec PyProof.Rows L2 Evl
variable [TabC]
theorem lowZ_num {a u : Int} (hu : u ≠ 0) : numD (lowZ a u) = true ∧ 0 < (numI (lowZ a u)).2 ∧ (numI (lowZ a u)).1 * u = a * (numI (lowZ a u)).2 := by
  obtain ⟨n, d, s0, _, ea, eu, d0, g1, l1⟩ := lowZ_facts (a := a) hu
  rw [l1, numI_pair]
  refine ⟨numD_pair d0 g1, d0, ?_⟩
  show n * u = a * d
  generalize sgZ a u = s at *
  rw [ea, eu]
  grind
theorem lowZ_bn {a u : Int} {k : Nat} (hu : u ≠ 0) (h : a.natAbs < 2 ^ k) (h' : u.natAbs < 2 ^ k) : Bn k (lowZ a u) := by
  obtain ⟨n, d, s0, _, ea, eu, d0, g1, l1⟩ := lowZ_facts (a := a) hu
  unfold Bn
  rw [l1, numI_pair]
  generalize sgZ a u = s at *
  have ha : a.natAbs = s.natAbs * n.natAbs := by rw [ea, Int.natAbs_mul]
  have hu' : u.natAbs = s.natAbs * d.natAbs := by rw [eu, Int.natAbs_mul]
  have hs : 1 ≤ s.natAbs := by omega
  have h1 : n.natAbs ≤ s.natAbs * n.natAbs := Nat.le_mul_of_pos_left _ hs
  have h2 : d.natAbs ≤ s.natAbs * d.natAbs := Nat.le_mul_of_pos_left _ hs
  exact ⟨show n.natAbs < 2 ^ k by omega, show d.natAbs < 2 ^ k by omega⟩
theorem Ev.lowZ {ρ : En} {G : Gm} {da db : DE} {a u : Int} (h : Ev da ρ G (.int a)) (h' : Ev db ρ G (.int u)) (hu : u ≠ 0) (hu2 : u.natAbs < 2 ^ 8000) : Ev (dCall sp_lowZ X0 (dCons da (dCons db dNil))) ρ G (lowZ a u) := .call (.cons h (.one h')) fun R r => ⟨a, u, rfl, hu, hu2, r⟩
end DL
namespace DL
open PySem PySem.Spec PyProof.Rows L2 Evl
variable [TabC]
def den (q : D) : Nat := (numI q).2.toNat
end DL
namespace DL
open PySem PySem.Spec PyProof.Rows L2 Evl
variable [TabC]
end DL
namespace DL
open PySem PySem.Spec PyProof.Rows L2 Evl
variable [TabC]
def Cz (k : Nat) (x : D) : Prop := ∃ n d : Int, x = pairZ n d ∧ 0 < d ∧ Int.gcd n d = 1 ∧ n.natAbs < 2 ^ k ∧ d.natAbs < 2 ^ k
theorem cz_low {a u : Int} {k : Nat} (hu : u ≠ 0) (h : a.natAbs < 2 ^ k) (h' : u.natAbs < 2 ^ k) : Cz k (lowZ a u) := by
  obtain ⟨n, d, s0, _, ea, eu, d0, g1, l1⟩ := lowZ_facts (a := a) hu
  have b := lowZ_bn hu h h'
  rw [l1] at b
  unfold Bn at b
  rw [numI_pair] at b
  exact ⟨n, d, l1, d0, g1, b.1, b.2⟩
theorem Cz.num {k : Nat} {x : D} (h : Cz k x) : numD x = true := by
  obtain ⟨n, d, rfl, d0, g, _⟩ := h
  exact numD_pair d0 g
theorem Cz.bn {k : Nat} {x : D} (h : Cz k x) : Bn k x := by
  obtain ⟨n, d, rfl, d0, g, h1, h2⟩ := h
  unfold Bn
  rw [numI_pair]
  exact ⟨h1, h2⟩
theorem Cz.kn {k : Nat} {x : D} (h : Cz k x) : x.kn = true := by
  obtain ⟨n, d, rfl, _⟩ := h
  unfold pairZ
  split <;> rfl
theorem Cz.mono {j k : Nat} {x : D} (h : Cz j x) (l : j ≤ k := by decide) : Cz k x := by
  obtain ⟨n, d, e, d0, g, h1, h2⟩ := h
  exact ⟨n, d, e, d0, g, Nat.lt_of_lt_of_le h1 (Nat.pow_le_pow_right (by decide) l), Nat.lt_of_lt_of_le h2 (Nat.pow_le_pow_right (by decide) l)⟩
theorem p1800 : 2 ^ 1800 < 10 ^ 560 := by decide +kernel
theorem Cz.sm {x : D} (h : Cz 1800 x) : Sm 1 3 x := by
  obtain ⟨n, d, rfl, d0, g, h1, h2⟩ := h
  have hn : Sm 0 1 (.int n) := .int (Nat.lt_trans h1 p1800)
  have hd : Sm 0 1 (.int d) := .int (Nat.lt_trans h2 p1800)
  unfold pairZ
  split
  · exact hn.mono (by decide) (by decide)
  · exact (Sm.tup (d := 0) (s := 1) (xs := [.int n, .int d]) fun x hx => by
      simp only [List.mem_cons, List.mem_nil_iff, or_false] at hx
      rcases hx with rfl | rfl
      · exact hn
      · exact hd)
section
variable {a b c d : Int} {X Y F S : D}
structure Rat (a b : Int) (X F : D) : Prop where
  b0 : b ≠ 0
  x : X = lowZ a b
  f : numI F = numI X
theorem Rat.pos (h : Rat a b X F) : 0 < (numI X).2 := by
  rw [h.x]
  exact (lowZ_num h.b0).2.1
end
end DL
namespace DL
open PySem PySem.Spec PyProof.Rows L2 Evl
section
variable {M : Model} {A : Around} {E : Value → Shared → Prop} {s : Shared} {base : Heap} {env : Env} {outer l : List Env} {L e : Addr} {Z : Obj → Prop}
end
section
variable {X : Cx}
end
end DL
namespace DL
open PySem PySem.Spec PyProof.Rows L2 Evl
variable [TabC]
theorem Sim.drop {K : PySem.W.Frag} {F : Gm} {Hd H : Hp} {G : Gm} {p : Addr} {m : Mt} (S : Sim K (gup F p m) Hd H G) (hF : F p = Option.none) (hm : ∀ q, m ≠ .tab q) : Sim K F Hd H G := by
  have ne : ∀ {a k}, F a = some k → gup F p m a = some k := fun {a k} e => by
    have z : a ≠ p := fun z => by
      rw [z, hF] at e
      cases e
    rw [gup_ne z]
    exact e
  refine ⟨S.sub, S.off, S.hold, fun a k e => S.offF a k (ne e), fun a k e => S.holdF a k (ne e), fun a k e => S.apart a k (ne e), fun q hq => ?_⟩
  have t := S.tabs q hq
  by_cases z : q.1 = p
  · rw [z, gup_same] at t
    exact (hm q.2 (Option.some.inj t)).elim
  · rw [gup_ne z] at t
    exact t
theorem KX.drop {K : PySem.W.Frag} {F : Gm} {Hd : Hp} {RX : XD} {E : XK} {p : Addr} {m : Mt} (k : KX K F Hd RX E) (hF : F p = Option.none) (hm : ∀ q, m ≠ .tab q) : KX K (gup F p m) Hd RX E := fun C d H' Hd' ns vs xs G' e S => k C d H' Hd' ns vs xs G' e (S.drop hF hm)
section
variable {X : Cx} {B : Bs} {pos p : Pos} {a b c e : Expr} {es : List Expr} {da db dc de : DE} {dA : DA} {ta tb : DT}
end
end DL
namespace DL
open PySem PySem.Spec PyProof.Rows L2 Evl
variable [TabC]
abbrev ClT := List (Str × List Str)
def hasC (cl : ClT) (C : Str) : Bool := cl.any fun p => p.1 == C
structure OwC (K : PySem.W.Frag) (mg : Str → Option Value) (cl : ClT) (sub : Str → Str → Bool) : Prop where
  g : ∀ p ∈ cl, mg p.1 = some (.ref (He.ga K p.1))
  c : ∀ p ∈ cl, L2.Cls K (He.ga K p.1)
  n : ∀ p ∈ cl, ∀ f ∈ p.2, NoAttr K (He.ga K p.1) f
  a : ∀ p ∈ cl, PySem.W.findIn K (.ref (He.ga K p.1)) "__class__" = some (some (.builtin "object.__class__"))
  s : PySem.W.specialIn K (.builtin "object.__class__") "__get__" = some (some (.builtin "getset_descriptor.__get__"))
  k : PySem.W.takesIn K (.builtin "object.__class__") = some true
  m : ∀ p ∈ cl, PySem.W.mroIn K (He.ga K p.1) (.type "object") = some true
  e : ∀ p ∈ cl, ∀ q ∈ cl, PySem.W.kitOne K (.ref (He.ga K p.1)) (.ref (He.ga K q.1)) = some (sub p.1 q.1)
  t : ∀ t ∈ ["NoneType", "bool", "int", "str", "tuple", "list", "dict"], ∀ p ∈ cl, PySem.W.kitOne K (.type t) (.ref (He.ga K p.1)) = some false
theorem OwC.mem {K : PySem.W.Frag} {mg : Str → Option Value} {cl : ClT} {sub : Str → Str → Bool} (T : OwC K mg cl sub) {C : Str} (h : hasC cl C = true) : ∃ p ∈ cl, p.1 = C := by
  obtain ⟨p, hp, q⟩ := List.any_eq_true.mp h
  exact ⟨p, hp, beq_iff_eq.mp q⟩
def owB (K : PySem.W.Frag) (cl : ClT) (sub : Str → Str → Bool) : Bool :=
  He.eqO (PySem.W.specialIn K (.builtin "object.__class__") "__get__") (some (some (.builtin "getset_descriptor.__get__"))) && (decide (PySem.W.takesIn K (.builtin "object.__class__") = some true) &&
  cl.all fun p => (He.Fa.glo p.1).ok K && ((He.Fa.cls p.1).ok K && (p.2.all (fun f => (He.Fa.noat p.1 f).ok K) && (He.eqO (PySem.W.findIn K (.ref (He.ga K p.1)) "__class__") (some (some (.builtin "object.__class__"))) && (decide (PySem.W.mroIn K (He.ga K p.1) (.type "object") = some true) &&
    (["NoneType", "bool", "int", "str", "tuple", "list", "dict"].all (fun t => decide (PySem.W.kitOne K (.type t) (.ref (He.ga K p.1)) = some false)) && cl.all fun q => decide (PySem.W.kitOne K (.ref (He.ga K p.1)) (.ref (He.ga K q.1)) = some (sub p.1 q.1))))))))
def InsAt (G : Gm) (y : D) (C : Str) (ns : List Str) (xs : List D) : Prop := y = .ins C ns xs ∨ ∃ a, y = .ref a ∧ G a = some (.ins C ns xs)
theorem InsAt.heap {K : PySem.W.Frag} {F : Gm} {Hd H : Hp} {G : Gm} {v : V} {y : D} {C : Str} {ns : List Str} {xs : List D} (S : Sim K F Hd H G) (r : Rp K Hd v y) (h : InsAt G y C ns xs) :
    ∃ a dx vs, v = .ref a ∧ H a = some (.ins (He.ga K C) dx (ns.zip vs)) ∧ ns.length = vs.length ∧ RpL K Hd vs xs := by
  rcases h with rfl | ⟨a, rfl, hg⟩
  · cases r with
    | ins h1 hl rl => exact ⟨_, _, _, rfl, S.sub _ _ h1, hl, rl⟩
  · cases r
    obtain ⟨dx, vs, h1, hl, rl⟩ := S.hold a _ hg
    exact ⟨a, dx, vs, rfl, h1, hl, rl⟩
section
variable {X : Cx} {B : Bs} {p pos pos' q : Pos} {e o value : Expr} {es : List Expr} {da dv dobj : DE} {dA : DA} {cl : ClT} {sub : Str → Str → Bool} {x f : Str}
end
structure KnM (P : Program) (w : World) (K : PySem.W.Frag) (mg : Str → Option Value) (base : Heap) (k : Nat) (C m : Str) (st : Stmt) (ps : List Str) (p : DSp) : Prop where
  fn : ∃ fd, FunD K m (C ++ "." ++ m) (defArgs st) (defBody st) (defScope st) [] [] (He.ma K (He.ga K C) m) fd ∧ FnG P w K mg base k (He.ma K (He.ga K C) m) fd ps (spU K p)
section
variable {P : Program} {w : World} {K : PySem.W.Frag} {mg : Str → Option Value} {base : Heap}
theorem KnM.mono {j k : Nat} {C m : Str} {st : Stmt} {ps : List Str} {p : DSp} (h : KnM P w K mg base j C m st ps p) (l : j ≤ k) : KnM P w K mg base k C m st ps p :=
  ⟨let ⟨fd, a, b⟩ := h.fn; ⟨fd, a, b.mono l⟩⟩
end
section
variable {X : Cx} {B : Bs} {apos pos : Pos} {e o : Expr} {es : List Expr} {dobj : DE} {dA : DA} {k : Nat} {f C : Addr} {m : Str} {fd : FuncData} {ps : List Str} {sp : Sp} {E : XK} {ta : TE} {t : TA} {pl : Sem Bool}
end
theorem Sim.gdel {K : PySem.W.Frag} {F : Gm} {Hd H : Hp} {G : Gm} (S : Sim K F Hd H G) (p : Addr) : Sim K F Hd H (DL.gdel G p) := by
  have gd : ∀ {a : Addr} {m : Mt}, DL.gdel G p a = some m → G a = some m := fun {a m} q => by
    unfold DL.gdel at q
    split at q
    · cases q
    · exact q
  refine ⟨S.sub, fun a m q => S.off a m (gd q), fun a m q => S.hold a m (gd q), S.offF, S.holdF, fun a m q => ?_, S.tabs⟩
  unfold DL.gdel
  split
  · rfl
  · exact S.apart a m q
theorem gdel_gup {G : Gm} {a : Addr} {m : Mt} (h : G a = none) : DL.gdel (gup G a m) a = G := by
  funext b
  unfold DL.gdel gup
  by_cases q : b = a
  · rw [if_pos q, q, h]
  · rw [if_neg q, if_neg q]
section
variable {X : Cx} {B : Bs} {p pos : Pos} {e : Expr} {es : List Expr} {dA : DA} {k : Nat} {f : Addr} {fd : FuncData} {ps : List Str} {sp : Sp} {E : XK} {t : TA}
end
end DL
namespace OwnNe
open PySem PySem.W PyProof.Rows Builtin
section
variable {prog : Program} {w : World} {A : Around} {E : Value → Shared → Prop} {s : Shared} {K : Frag} {x C f L : Addr} {ox : Obj} {od : Option Obj} {h₀ : Heap} {m : Str → Option Value} {b tb : Value}
end
end OwnNe
namespace DL
open PySem PySem.Spec PyProof.Rows L2 Evl
variable [TabC]
section
variable {X : Cx} {k : Nat} {f : Addr} {fd : FuncData} {ps : List Str} {sp : Sp} {E : XK}
end
section
variable {X : Cx} {B : Bs} {p pos : Pos} {a b e : Expr} {da db : DE} {k : Nat} {ps : List Str} {E : XK} {cl : ClT} {sub : Str → Str → Bool} {cs : List Str} {f : Addr} {fd : FuncData} {q : DSp} {RX : XD}
end
section
variable {X : Cx} {B : Bs} {p pos : Pos} {e : Expr} {da : DE} {k : Nat} {tb : TrT}
end
end DL
namespace Sup
open PySem PySem.Spec PySem.Calls PyProof.Rows L2 PySem.W
def FnRG (P : Program) (w : World) (K : PySem.W.Frag) (mg : Str → Option Value) (base : Heap) (k : Nat) (f : Addr) (sp : Sp) : Prop :=
  ∀ (A : Around) (outer : List Env) (s : Shared) (H : Hp) (us : List Value) (vs : List V) (Q : VK) (E : XK), Room k A → A.guards = some [] → Env0 P w K mg base A outer s H → Vals vs us → sp vs H Q E →
    codeAny (model P w) A (.call (.ref f) ⟨us, []⟩) (CR (L2.CX P w) outer P w H s Q E) s
theorem FnRG.mono {P : Program} {w : World} {K : PySem.W.Frag} {mg : Str → Option Value} {base : Heap} {j k : Nat} {f : Addr} {sp : Sp} (F : FnRG P w K mg base j f sp) (h : j ≤ k) : FnRG P w K mg base k f sp := fun A outer s H us vs Q E r => F A outer s H us vs Q E (r.mono h)
section
variable {P : Program} {w : World} {K : PySem.W.Frag} {mg : Str → Option Value} {base : Heap} {N ps : List Str} {x qual : Str} {scope : Scope} {f cda cc C f2 : Addr} {A : Around} {outer : List Env} {s : Shared} {H : Hp} {E E2 : XK} {params : Arguments} {body : List Stmt} {k : Nat} {sp : Sp}
end
end Sup
namespace Sup
open PySem PySem.Spec PySem.Calls PyProof.Rows L2 PySem.W
section
variable {P : Program} {w : World} {K : PySem.W.Frag} {mg : Str → Option Value} {base : Heap} {N ps : List Str} {x qual : Str} {scope : Scope} {f cda cc C f2 : Addr} {A : Around} {outer : List Env} {s : Shared} {H : Hp} {E E2 : XK} {params : Arguments} {body : List Stmt} {k : Nat} {sp : Sp}
end
end Sup
namespace DL
open PySem PySem.Spec PyProof.Rows L2 Evl Sup
variable [TabC]
structure KnI (P : Program) (w : World) (K : PySem.W.Frag) (mg : Str → Option Value) (base : Heap) (k : Nat) (C : Str) (st : Stmt) (ps : List Str) (p : DSp) : Prop where
  fn : ∃ fd, FnG P w K mg base k (He.ma K (He.ga K C) "__init__") fd ps (spU K p) ∧ fd.params = defArgs st ∧ fd.defaults = .none
section
variable {P : Program} {w : World} {K : PySem.W.Frag} {mg : Str → Option Value} {base : Heap}
theorem KnI.mono {j k : Nat} {C : Str} {st : Stmt} {ps : List Str} {p : DSp} (h : KnI P w K mg base j C st ps p) (l : j ≤ k) : KnI P w K mg base k C st ps p :=
  ⟨let ⟨fd, a, b⟩ := h.fn; ⟨fd, a.mono l, b⟩⟩
end
section
variable {X : Cx} {B : Bs} {p pos : Pos} {e : Expr} {es : List Expr} {dA : DA} {k : Nat} {ps : List Str} {E : XK}
end
section
variable {X : Cx} {B : Bs} {pos : Pos} {o : Expr} {to : TE} {dobj : DE} {f : Str} {cl : ClT} {sub : Str → Str → Bool}
end
end DL
namespace DL
open PySem PySem.Spec PyProof.Rows L2 Evl Sup
variable [TabC]
section
variable {X : Cx} {B : Bs} {p pos : Pos} {e o : Expr} {es : List Expr} {dA : DA} {dobj di da db : DE}
def VwAt (G : Gm) (x x' : D) : Prop := x' = x ∨ ∃ p ds, x = .ref p ∧ G p = some (.lst ds) ∧ x' = .lst ds
theorem VwAt.dp {K : PySem.W.Frag} {F : Gm} {Hd H : Hp} {G : Gm} {v : V} {x x' : D} {p : PyData} (h : VwAt G x x') (s : Sim K F Hd H G) (r : Rp K Hd v x) (e : x'.py = some p) : Dp K H v p := by
  rcases h with rfl | ⟨q, ds, rfl, hg, rfl⟩
  · exact rp_dp s.sub _ r e
  · cases r
    obtain ⟨xs, S, rl⟩ := s.freeze hg
    exact rp_dp (v := .ref q) S.sub (.lst ds) (.lst sq_new (rl.mono (Ex.new (s.off q _ hg)))) e
end
abbrev KvT := List (Str × Int)
structure DctK (K : PySem.W.Frag) (w : World) (mg : Str → Option Value) (x : Str) (kvs : KvT) : Prop where
  g : mg x = some (.ref (He.ga K x))
  d : ∃ es n, KDict K w (He.ga K x) es n
  no : ∀ z, (kvs.lookup z).isSome = false → PySem.W.nsIn K (He.ga K x) z = some none
  yes : ∀ z i, kvs.lookup z = some i → ∃ u, PySem.W.nsIn K (He.ga K x) z = some (some u) ∧ RelV (.int i) u
section
variable {X : Cx} {B : Bs} {p pos : Pos} {e : Expr} {da : DE} {x : Str} {kvs : KvT}
theorem DctK.ns {K : PySem.W.Frag} {w : World} {mg : Str → Option Value} (D : DctK K w mg x kvs) (z : Str) : ∃ r, PySem.W.nsIn K (He.ga K x) z = some r ∧ r.isSome = (kvs.lookup z).isSome := by
  cases q : kvs.lookup z with
  | none => exact ⟨none, D.no z (by rw [q]; rfl), rfl⟩
  | some i =>
    obtain ⟨u, hu, _⟩ := D.yes z i q
    exact ⟨some u, hu, rfl⟩
end
theorem Kn.never {P : Program} {w : World} {K : PySem.W.Frag} {mg : Str → Option Value} {base : Heap} {x : Str} {st : Stmt} {ps : List Str} {p : DSp} (g : mg x = some (.ref (He.ga K x))) (F : ∃ fd, FunD K x x (defArgs st) (defBody st) (defScope st) [] [] (He.ga K x) fd) (hp : ∀ xs G R RX, ¬ p xs G R RX) : Kn P w K mg base 0 x st ps p := by
  obtain ⟨fd, F⟩ := F
  exact ⟨g, fd, F, fun _ _ _ _ ⟨_, _, _, _, _, _, _, _, h, _⟩ => (hp _ _ _ _ h).elim, fun _ _ _ _ _ _ _ _ _ _ _ _ _ _ ⟨_, _, _, _, _, _, _, _, h, _⟩ => (hp _ _ _ _ h).elim⟩
end DL
namespace DL
open PySem PySem.Spec PyProof.Rows L2 Evl Sup
variable [TabC]
section
variable {X : Cx} {B : Bs} {p pos : Pos} {e : Expr} {da : DE} {x : Str} {kvs : KvT}
end
end DL
namespace DL
open PySem PySem.Spec PyProof.Rows L2
def isMeth (m : Str) : Stmt → Bool
  | .FunctionDef n _ _ _ _ _ _ _ _ _ => n == m
  | _ => false
def methOf (st : Stmt) (m : Str) : Stmt := ((clsBody st).find? (isMeth m)).getD (.Pass ⟨0, 0, 0, 0⟩)
end DL
namespace DL
open PySem PySem.Spec PyProof.Rows L2 Evl Sup
variable [TabC]
def gdels (G : Gm) : List Addr → Gm
  | [] => G
  | p :: l => gdels (gdel G p) l
theorem Sim.gdels {K : PySem.W.Frag} {F : Gm} {Hd H : Hp} : ∀ (l : List Addr) {G : Gm}, Sim K F Hd H G → Sim K F Hd H (DL.gdels G l)
  | [], _, S => S
  | p :: l, _, S => Sim.gdels l (S.gdel p)
def Gc (R : KD) : KD := fun x G => ∃ l, R x (gdels G l)
theorem Gc.none {R : KD} {x : D} {G : Gm} (h : R x G) : Gc R x G := ⟨[], h⟩
theorem Gc.one {R : KD} {x : D} {G : Gm} {p : Addr} {m : Mt} (hp : G p = Option.none) (h : R x G) : Gc R x (gup G p m) := ⟨[p], by show R x (gdel (gup G p m) p); rw [gdel_gup hp]; exact h⟩
section
variable {ρ : En} {G : Gm} {da db dv dobj : DE} {dA : DA} {x y z : D} {xs ys : List D} {ns : List Str} {cl : ClT} {sub : Str → Str → Bool} {C f : Str} {a : Addr} {E : DEnds}
end
def D.flat : D → Bool
  | .non => true
  | .bl _ => true
  | .int _ => true
  | .str _ => true
  | _ => false
def FxOk : Nat → D → Prop
  | 0, _ => False
  | d + 1, x => (∃ xs, (x = .lst xs ∨ x = .tup xs) ∧ xs.length ≤ sizeLine ∧ ∀ y ∈ xs, FxOk d y) ∨ x.flat = true
theorem FxOk.up : ∀ {d : Nat} {x : D}, FxOk d x → FxOk (d + 1) x
  | 0, _, h => h.elim
  | d + 1, x, .inl ⟨xs, e, hz, h⟩ => .inl ⟨xs, e, hz, fun y hy => FxOk.up (h y hy)⟩
  | d + 1, x, .inr h => .inr h
theorem FxOk.mono {d e : Nat} {x : D} (h : FxOk d x) (l : d ≤ e) : FxOk e x := by
  induction l with
  | refl => exact h
  | step _ ih => exact ih.up
end DL
namespace DL
open PySem PySem.Spec PyProof.Rows L2 Evl Sup
inductive Ln where
  | up (b g : Nat) | down (b g : Nat) | test (b g h : Nat) | stop
def Ln.its : Ln → List D
  | .up b g => [.str "up", .int b, .int g]
  | .down b g => [.str "down", .int b, .int g]
  | .test b g h => [.str "test", .int b, .int g, .int h]
  | .stop => [.str "stop"]
def Ln.d (l : Ln) : D := .tup l.its
def Ln.ok (n : Nat) : Ln → Prop
  | .up b g => b < 2 ∧ g < n
  | .down b g => b < 2 ∧ g < n
  | .test b g h => b < 2 ∧ g < n ∧ h < n
  | .stop => True
abbrev Bx := Option Nat
def bxD : Bx → D
  | none => .non
  | some n => .int n
structure Sd where
  l : Nat
  x : Bx
  y : Bx
def Sd.d (s : Sd) : D := .tup [.int s.l, bxD s.x, bxD s.y]
variable [TabC]
section
variable {ρ : En} {G : Gm} {da db dv dobj : DE} {dA : DA} {x y z : D} {xs ys : List D}
end
theorem Ln.kn (l : Ln) : l.d.kn = true := by cases l <;> rfl
end DL
namespace DL
open PySem PySem.Spec PyProof.Rows L2 Evl Sup
variable [TabC]
def fIsB (x y z : D) : Prop := ∃ a b : Bool, x = .bl a ∧ y = .bl b ∧ z = .bl (decide (a = b))
theorem Ev.isB {ρ : En} {G : Gm} {da db : DE} {a b : Bool} (ha : Ev da ρ G (.bl a)) (hb : Ev db ρ G (.bl b)) : Ev (dOp fIsB da db) ρ G (.bl (decide (a = b))) := .op ha hb ⟨a, b, rfl, rfl, rfl⟩
section
variable {X : Cx} {B : Bs} {p pos : Pos} {e : Expr} {es : List Expr} {dA : DA} {k : Nat} {f : Addr} {sp : Sp} {E : XK}
end
end DL
namespace DL
open PySem PySem.Spec PyProof.Rows L2 Evl Sup
variable [TabC]
section
variable {ρ : En} {a : Addr} {k n : Nat} {da : DE} {P : D → Prop}
end
def bxLt (n : Nat) (b : Bx) : Prop := ∀ k, b = some k → k < n
end DL
namespace DL
open PySem PySem.Spec PyProof.Rows L2 Evl Sup
variable [TabC]
end DL
namespace DL
open PySem PySem.Spec PyProof.Rows L2 Evl Sup
variable [TabC]
theorem cut_take {xs : List D} {i : Nat} (h : i ≤ xs.length) : cutD xs none (some (i : Int)) = xs.take i := by
  unfold cutD
  rw [HT.sIx_nat, HT.sIx_none, List.drop_zero, Nat.sub_zero, Nat.min_eq_left h]
section
variable {ρ : En} {G : Gm} {da db : DE} {xs : List D} {i : Nat}
theorem Ev.take (ha : Ev da ρ G (.lst xs)) (hb : Ev db ρ G (.int i)) (h : i ≤ xs.length) : Ev (dSl da dNoP (dPart db)) ρ G (.lst (xs.take i)) := fun R r => ha _ (hb _ ⟨i, rfl, _, .inl ⟨xs, lst_lst, by rw [cut_take h]⟩, r⟩)
end
def Sd.b (s : Sd) : Nat → Bx
  | 0 => some s.l
  | 1 => s.x
  | _ => s.y
def Sd.its (s : Sd) : List D := [bxD (s.b 0), bxD (s.b 1), bxD (s.b 2)]
theorem bxLt.mono {a b : Nat} {x : Bx} (h : bxLt a x) (l : a ≤ b) : bxLt b x := fun k e => Nat.lt_of_lt_of_le (h k e) l
end DL
namespace DL
open PySem PySem.Spec PyProof.Rows L2 Evl Sup
variable [TabC]
section
variable {X : Cx} {B : Bs} {pos pos' apos cpos : Pos} {o e f i value : Expr} {dobj dk dd dv : DE}
end
end DL
namespace DL
open PySem PySem.Spec PyProof.Rows L2 Evl Sup
variable [TabC]
def hp : Bx → Int × Int
  | none => (0, 1)
  | some 0 => (3, 1)
  | some (n + 1) => (1, 3 ^ n)
def hgt (b : Bx) : D := pairZ (hp b).1 (hp b).2
end DL
namespace DL
open PySem PySem.Spec PyProof.Rows L2 Evl Sup
variable [TabC]
def sp_has : DSp := fun xs G R _ => ∃ x : D, xs = [x] ∧ Cz 1300 x ∧ ((∃ b, x = hgt b ∧ R (.bl true) G) ∨ ((∀ b, x ≠ hgt b) ∧ R (.bl false) G))
end DL
namespace DL
open PySem PySem.Spec PyProof.Rows L2 Evl Sup
variable [TabC]
end DL
namespace DL
open PySem PySem.Spec PyProof.Rows L2 Evl Sup
variable [TabC]
theorem Ev.has {ρ : En} {G : Gm} {da : DE} {x : D} (ha : Ev da ρ G x) (hx : Cz 1300 x) {k : Bool} (h : (k = true ∧ ∃ b, x = hgt b) ∨ (k = false ∧ ∀ b, x ≠ hgt b)) : Ev (dCall sp_has X0 (dCons da dNil)) ρ G (.bl k) := .call (.one ha) fun R r => ⟨x, rfl, hx, by
  rcases h with ⟨rfl, b, e⟩ | ⟨rfl, e⟩
  · exact .inl ⟨b, e, r⟩
  · exact .inr ⟨e, r⟩⟩
end DL
namespace DL
open PySem PySem.Spec PyProof.Rows L2 Evl Sup
variable [TabC]
end DL
namespace DL
open PySem PySem.Spec PyProof.Rows L2 Evl Sup
variable [TabC]
end DL
namespace DL
open PySem PySem.Spec PyProof.Rows L2 Evl Sup
variable [TabC]
namespace Y
section
variable {ρ ρ' : En} {G : Gm} {E : DEnds} {R : KD} {da db dc dv dobj di de : DE} {dA : DA} {x y z : D} {xs ys : List D} {ta tb tc : DT} {j k : Bool} {s t s1 s2 : DS} {g : DG} {gs : DGs} {T : Bool → Gm → Prop} {L : List D → Gm → Prop} {P : Prop}
theorem nx (h : E.nx ρ G) : dNext E ρ G := h
theorem seq (h : s { E with nx := t E } ρ G) : dSeq s t E ρ G := h
theorem bk (h : E.bk ρ G) : dBreak E ρ G := h
theorem ct (h : E.ct ρ G) : dCont E ρ G := h
theorem drop (h : de ρ G fun _ G1 => E.nx ρ G1) : dDrop de E ρ G := h
theorem set {i : Nat} (h : de ρ G fun x G1 => E.nx (ρ.set i (some x)) G1) : dSet i de E ρ G := h
theorem c (h : R x G) : dC x ρ G R := h
theorem nil (h : L [] G) : dNil ρ G L := h
theorem cons (h : da ρ G fun x G1 => dA ρ G1 fun xs G2 => L (x :: xs) G2) : dCons da dA ρ G L := h
theorem tup (h : dA ρ G fun xs G1 => xs.length ≤ sizeLine ∧ R (.tup xs) G1) : dTup dA ρ G R := h
theorem lst (h : dA ρ G fun xs G1 => xs.length ≤ sizeLine ∧ R (.lst xs) G1) : dLst dA ρ G R := h
theorem op {f : D → D → D → Prop} (h : da ρ G fun x G1 => db ρ G1 fun y G2 => ∃ z, f x y z ∧ R z G2) : dOp f da db ρ G R := h
theorem neg (h : da ρ G fun x G1 => ∃ i, x = .int i ∧ R (.int (-i)) G1) : dNeg da ρ G R := h
theorem yes (h : T true G) : dYes ρ G T := h
theorem ix (h : da ρ G fun x G1 => db ρ G1 fun y G2 => ∃ z, fIx G2 x y z ∧ R z G2) : dIx da db ρ G R := h
theorem cal {f : Gm → List D → D → Prop} (h : dA ρ G fun xs G1 => ∃ z, f G1 xs z ∧ R z G1) : dCal f dA ρ G R := h
theorem sl {l h' : DO} (h : da ρ G fun x G1 => l ρ G1 fun lo G2 => h' ρ G2 fun hi G3 => ∃ z, fSl G3 x lo hi z ∧ R z G3) : dSl da l h' ρ G R := h
theorem part {O : Option Int → Gm → Prop} (h : de ρ G fun x G1 => ∃ i, x = .int i ∧ O (some i) G1) : dPart de ρ G O := h
theorem call {q : DSp} {RX : XD} (h : dA ρ G fun xs G1 => q xs G1 R RX) : dCall q RX dA ρ G R := h
end
end Y
end DL
namespace DL
open PySem PySem.Spec PyProof.Rows L2 Evl Sup
variable [TabC]
namespace Y
end Y
end DL
namespace DLS
open PySem PySem.Spec PyProof.Rows L2
abbrev NK := NestedKey
mutual
/-- no text in it -/
def nt : NK → Bool
  | .text _ => false
  | .tup ks => ntL ks
  | .none => true
  | .num _ => true
def ntL : List NK → Bool
  | [] => true
  | k :: ks => nt k && ntL ks
end
section
variable {pr : Program} {w : World} {A : Around} {E : Value → Shared → Prop}
structure AtK (h : Heap) (k : NK) (p : Addr) : Prop where
  is : NestedIs h k (.ref p)
  dp : k.depth ≤ 8
  nt : DLS.nt k = true
theorem AtK.keep {h h' : Heap} {k : NK} {p : Addr} (x : AtK h k p) (hk : ∀ a o vs n, h.get? a = some o → o.data = .seq vs n → h'.get? a = some o) : AtK h' k p := ⟨NestedIs.at hk k _ x.is, x.dp, x.nt⟩
abbrev hk (w : World) (k : NK) : Int := NestedKey.hash w k
abbrev It := Addr × NK
def rws (w : World) (L : List It) : List (Int × Value) := L.map fun q => (hk w q.2, Value.ref q.1)
def hsh (w : World) (L : List It) : List Int := L.map fun q => hk w q.2
structure SetN (w : World) (h : Heap) (a : Addr) (L : List It) (es : Array (Int × Value)) (ep : Nat) (t : SetTable) : Prop where
  ob : ∃ o, h.get? a = some o ∧ o.ExactSet ∧ o.data = .set es ep t
  rw_ : es.toList = rws w L
  tab : TabOk t (hsh w L)
  nd : (L.map (·.2)).Nodup
  at_ : ∀ q ∈ L, AtK h q.2 q.1
  pl : t.plain = true
  ld : w.params.followText "set-order" = true ∨ t.led = true
  room : L.length * 5 < t.mask * 3
  few : L.length < 64
section
variable {z : Shared} {a : Addr} {L : List It} {es : Array (Int × Value)} {ep : Nat} {t : SetTable}
theorem SetN.keep {h h' : Heap} (R : SetN w h a L es ep t) (ha : ∀ o, h.get? a = some o → h'.get? a = some o) (hq : ∀ q ∈ L, AtK h' q.2 q.1) : SetN w h' a L es ep t := by
  obtain ⟨o, ho, r⟩ := R.ob
  exact { R with ob := ⟨o, ha o ho, r⟩, at_ := hq }
theorem AtK.same {h h' : Heap} {k : NK} {p : Addr} (x : AtK h k p) (e : ∀ c o, h.get? c = some o → h'.get? c = some o) : AtK h' k p := x.keep fun b o _ _ hb _ => e b o hb
structure Had (ks : List It) (i : Nat) (L : List It) : Prop where
  sub : ∀ q ∈ L, q ∈ ks.take i
  all : ∀ q ∈ ks.take i, q.2 ∈ L.map (·.2)
  len : L.length ≤ i
theorem Had.nil (ks : List It) : Had ks 0 [] := ⟨(fun q hq => by cases hq), (fun q hq => by cases hq), Nat.le_refl _⟩
theorem take_one {α : Type} {l : List α} {i : Nat} {x : α} (h : l[i]? = some x) : l.take (i + 1) = l.take i ++ [x] := by rw [List.take_add_one, h]; rfl
theorem Had.new {ks L L' : List It} {i : Nat} {x : It} (g : Had ks i L) (h : ks[i]? = some x) (pm : L'.Perm (x :: L)) : Had ks (i + 1) L' := by
  have e := take_one h
  refine ⟨fun q hq => ?_, fun q hq => ?_, by rw [pm.length_eq]; exact Nat.succ_le_succ g.len⟩
  · rw [e]
    rcases List.mem_cons.mp (pm.mem_iff.mp hq) with c | c
    · rw [c]; exact List.mem_append_right _ List.mem_cons_self
    · exact List.mem_append_left _ (g.sub q c)
  · refine (pm.map (·.2)).mem_iff.mpr ?_
    rw [e] at hq
    rcases List.mem_append.mp hq with c | c
    · exact List.mem_cons_of_mem _ (g.all q c)
    · rw [List.mem_singleton.mp c]; exact List.mem_cons_self
end
end
end DLS
namespace DLS
open PySem PySem.Spec PyProof.Rows L2
end DLS
namespace DL
open PySem PySem.Spec PyProof.Rows L2 Evl DLS
mutual
/-- data that sets take -/
def D.key : D → Option NK
  | .int i => some (.num i)
  | .non => some .none
  | .tup xs => (D.keyL xs).map .tup
  | .bl _ => none
  | .str _ => none
  | .ty _ => none
  | .ref _ => none
  | .lst _ => none
  | .dct _ _ => none
  | .ins _ _ _ => none
  | .exc _ _ _ => none
  | .fnc _ => none
  | .rng _ _ => none
def D.keyL : List D → Option (List NK)
  | [] => some []
  | x :: xs => match D.key x, D.keyL xs with
    | some a, some b => some (a :: b)
    | _, _ => none
end
section
variable {X : Cx} {Hd H : Hp} {pins : List (Addr × Obj)} {σ : L2.St} {z : Shared}
end
variable [TabC]
section
variable {X : Cx} {B : Bs} {da : DE}
end
end DL
namespace DL
open PySem PySem.Spec PyProof.Rows L2 Evl Sup
variable [TabC]
section
variable {X : Cx} {B : Bs} {pos p apos cpos : Pos} {e o i : Expr} {es : List Expr} {da db dd di dk : DE} {dA : DA}
def DctAt (G : Gm) (x : D) (ks : List Key) (xs : List D) : Prop := x = .dct ks xs ∨ ∃ a, x = .ref a ∧ G a = some (.dct ks xs)
theorem DctAt.h {K : PySem.W.Frag} {F : Gm} {Hd H : Hp} {G : Gm} {v : V} {x : D} {ks : List Key} {xs : List D} (s : Sim K F Hd H G) (r : Rp K Hd v x) (h : DctAt G x ks xs) : ∃ a vs, v = .ref a ∧ H a = some (.dK (ks.zip vs)) ∧ ks.length = vs.length ∧ RpL K Hd vs xs := by
  rcases h with rfl | ⟨a, rfl, hg⟩
  · cases r with
    | dct h1 hl rl => exact ⟨_, _, rfl, s.sub _ _ h1, hl, rl⟩
  · cases r
    obtain ⟨vs, h1, hl, rl⟩ := s.hold a _ hg
    exact ⟨a, vs, rfl, h1, hl, rl⟩
end
end DL
namespace DL
open PySem PySem.Spec PyProof.Rows L2 Evl Sup
variable [TabC]
section
variable {X : Cx} {B : Bs} {pos : Pos} {a b : Expr} {da db : DE}
end
namespace Y
section
variable {ρ : En} {G : Gm} {R : KD} {da db dd di : DE} {x y z : D} {xs ys ds : List D} {k : Bool}
end
end Y
end DL
section
open PySem PySem.Spec PyProof.Rows L2 Evl DL
namespace DL
open PySem PySem.Spec PyProof.Rows L2 Evl Sup
variable [TabC]
abbrev Qr := _root_.Rat
def ofQ (q : Qr) : D := pairZ q.num q.den
theorem numI_ofQ (q : Qr) : numI (ofQ q) = (q.num, (q.den : Int)) := numI_pair
theorem den_pos (q : Qr) : (0 : Int) < q.den := by have := q.den_pos; omega
def Qb (k : Nat) (q : Qr) : Prop := q.num.natAbs < 2 ^ k ∧ q.den < 2 ^ k
theorem Qb.mono {j k : Nat} {q : Qr} (h : Qb j q) (l : j ≤ k := by decide) : Qb k q := ⟨Nat.lt_of_lt_of_le h.1 (Nat.pow_le_pow_right (by decide) l), Nat.lt_of_lt_of_le h.2 (Nat.pow_le_pow_right (by decide) l)⟩
theorem ofQ_inj {p q : Qr} (h : ofQ p = ofQ q) : p = q := by
  have e : numI (ofQ p) = numI (ofQ q) := by rw [h]
  rw [numI_ofQ, numI_ofQ] at e
  have e1 := congrArg Prod.fst e
  have e2 : (p.den : Int) = q.den := congrArg Prod.snd e
  exact Rat.ext e1 (by omega)
theorem low_ofQ {a u : Int} (hu : u ≠ 0) : lowZ a u = ofQ (Rat.divInt a u) := by
  obtain ⟨n, d, s0, _, ea, eu, d0, g1, l1⟩ := lowZ_facts (a := a) hu
  rw [l1]
  generalize sgZ a u = s at s0 ea eu
  rw [ea, eu, Rat.divInt_mul_left s0]
  obtain ⟨m, rfl⟩ : ∃ m : Nat, d = m := ⟨d.toNat, by omega⟩
  have e : Rat.divInt n (m : Int) = ⟨n, m, by omega, g1⟩ := Rat.mk_eq_divInt.symm
  unfold ofQ
  rw [e]
theorem ofQ_div {q : Qr} : Rat.divInt (numI (ofQ q)).1 (numI (ofQ q)).2 = q := by
  rw [numI_ofQ]
  exact Rat.num_divInt_den q
theorem ofQ_ne (q : Qr) : (numI (ofQ q)).2 ≠ 0 := by
  rw [numI_ofQ]
  have := den_pos q
  show (q.den : Int) ≠ 0
  omega
theorem cz_q {k : Nat} {x : D} (h : Cz k x) : ∃ q : Qr, x = ofQ q ∧ Qb k q := by
  obtain ⟨n, d, rfl, hd, hg, hn, hdb⟩ := h
  obtain ⟨m, rfl⟩ : ∃ m : Nat, d = m := ⟨d.toNat, by omega⟩
  rw [Int.natAbs_natCast] at hdb
  exact ⟨⟨n, m, by omega, hg⟩, rfl, hn, hdb⟩
theorem qb_low {a u : Int} {k : Nat} (hu : u ≠ 0) (h : a.natAbs < 2 ^ k) (h' : u.natAbs < 2 ^ k) : Qb k (Rat.divInt a u) := by
  have c := cz_low hu h h'
  rw [low_ofQ hu] at c
  obtain ⟨q, e, hq⟩ := cz_q c
  rw [ofQ_inj e]
  exact hq
theorem abs_mul_lt {a b : Int} {j k : Nat} (ha : a.natAbs < 2 ^ j) (hb : b.natAbs < 2 ^ k) : (a * b).natAbs < 2 ^ (j + k) := by
  rw [Int.natAbs_mul, Nat.pow_add]
  exact Nat.mul_lt_mul_of_le_of_lt (Nat.le_of_lt ha) hb (Nat.two_pow_pos j)
theorem Qb.i {k : Nat} {q : Qr} (h : Qb k q) : (numI (ofQ q)).1.natAbs < 2 ^ k ∧ (numI (ofQ q)).2.natAbs < 2 ^ k := by
  rw [numI_ofQ]
  exact ⟨h.1, by show ((q.den : Int)).natAbs < _; rw [Int.natAbs_natCast]; exact h.2⟩
theorem abs_sum_lt {a b c d : Int} {j k : Nat} (ha : a.natAbs < 2 ^ j) (hd : d.natAbs < 2 ^ k) (hc : c.natAbs < 2 ^ k) (hb : b.natAbs < 2 ^ j) : (a * d + c * b).natAbs < 2 ^ (j + k + 1) ∧ (a * d - c * b).natAbs < 2 ^ (j + k + 1) := by
  have h1 := abs_mul_lt ha hd
  have h2 := abs_mul_lt hc hb
  rw [Nat.add_comm k j] at h2
  rw [Nat.pow_succ]
  have h3 := Int.natAbs_add_le (a * d) (c * b)
  have h4 := Int.natAbs_sub_le (a * d) (c * b)
  omega
theorem Qb.add {j k : Nat} {p q : Qr} (hp : Qb j p) (hq : Qb k q) : Qb (j + k + 1) (p + q) := by
  have h1 := ofQ_ne p
  have h2 := ofQ_ne q
  rw [← ofQ_div (q := p), ← ofQ_div (q := q), Rat.divInt_add_divInt _ _ h1 h2]
  exact qb_low (Int.mul_ne_zero h1 h2) (abs_sum_lt hp.i.1 hq.i.2 hq.i.1 hp.i.2).1 (Nat.lt_of_lt_of_le (abs_mul_lt hp.i.2 hq.i.2) (Nat.pow_le_pow_right (by decide) (Nat.le_succ _)))
theorem Qb.sub {j k : Nat} {p q : Qr} (hp : Qb j p) (hq : Qb k q) : Qb (j + k + 1) (p - q) := by
  have h1 := ofQ_ne p
  have h2 := ofQ_ne q
  rw [← ofQ_div (q := p), ← ofQ_div (q := q), Rat.divInt_sub_divInt _ _ h1 h2]
  exact qb_low (Int.mul_ne_zero h1 h2) (abs_sum_lt hp.i.1 hq.i.2 hq.i.1 hp.i.2).2 (Nat.lt_of_lt_of_le (abs_mul_lt hp.i.2 hq.i.2) (Nat.pow_le_pow_right (by decide) (Nat.le_succ _)))
end DL
namespace DL
open PySem PySem.Spec PyProof.Rows L2 Evl Sup
variable [TabC]
namespace Y
section
variable {ρ : En} {G : Gm} {R : KD} {E : DEnds} {xs ys : List D} {x : D}
end
end Y
mutual
/-- no list in it is too long -/
def D.few : D → Bool
  | .tup xs => decide (xs.length ≤ 1000000) && D.fewL xs
  | .lst xs => decide (xs.length ≤ 1000000) && D.fewL xs
  | .non => true
  | .bl _ => true
  | .int _ => true
  | .str _ => true
  | .ty _ => true
  | .ref _ => true
  | .dct _ _ => true
  | .ins _ _ _ => true
  | .exc _ _ _ => true
  | .fnc _ => true
  | .rng _ _ => true
def D.fewL : List D → Bool
  | [] => true
  | x :: xs => D.few x && D.fewL xs
end
theorem fewL_all : ∀ {ds : List D}, D.fewL ds = true → ∀ d ∈ ds, d.few = true
  | [], _, d, hd => by cases hd
  | x :: xs, h, d, hd => by
    have h : (D.few x && D.fewL xs) = true := h
    rw [Bool.and_eq_true] at h
    rcases List.mem_cons.mp hd with e | e
    · rw [e]; exact h.1
    · exact fewL_all h.2 d e
theorem all_fewL : ∀ {ds : List D}, (∀ d ∈ ds, d.few = true) → D.fewL ds = true
  | [], _ => rfl
  | x :: xs, h => by
    show (D.few x && D.fewL xs) = true
    rw [h x List.mem_cons_self, all_fewL fun d hd => h d (List.mem_cons_of_mem _ hd)]
    rfl
structure Gd (x : D) : Prop where
  kn : x.kn = true
  few : x.few = true
theorem Gd.seq {x : D} (h : Gd x) : (seqL x).length ≤ 1000000 ∧ ∀ y ∈ seqL x, Gd y := by
  obtain ⟨hk, hf⟩ := h
  cases x with
  | tup xs =>
    have hf : (decide (xs.length ≤ 1000000) && D.fewL xs) = true := hf
    rw [Bool.and_eq_true] at hf
    exact ⟨of_decide_eq_true hf.1, fun y hy => ⟨knL_all hk y hy, fewL_all hf.2 y hy⟩⟩
  | lst xs =>
    have hf : (decide (xs.length ≤ 1000000) && D.fewL xs) = true := hf
    rw [Bool.and_eq_true] at hf
    exact ⟨of_decide_eq_true hf.1, fun y hy => ⟨knL_all hk y hy, fewL_all hf.2 y hy⟩⟩
  | _ => exact ⟨Nat.zero_le _, fun y hy => by cases hy⟩
theorem Gd.tup {xs : List D} (hz : xs.length ≤ 1000000) (h : ∀ y ∈ xs, Gd y) : Gd (.tup xs) ∧ Gd (.lst xs) := by
  have e1 : D.knL xs = true := by
    clear hz
    induction xs with
    | nil => rfl
    | cons x xs ih =>
      show (x.kn && D.knL xs) = true
      rw [(h x List.mem_cons_self).kn, ih fun y hy => h y (List.mem_cons_of_mem _ hy)]
      rfl
  have e2 : D.fewL xs = true := all_fewL fun d hd => (h d hd).few
  have e3 : (decide (xs.length ≤ 1000000) && D.fewL xs) = true := by rw [decide_eq_true hz, e2]; rfl
  exact ⟨⟨e1, e3⟩, ⟨e1, e3⟩⟩
def it (x : D) (i : Nat) : D := (seqL x).getD i .non
end DL
end
section
open PySem PySem.Spec PyProof.Rows L2 Evl DL
namespace DL
open PySem PySem.Spec PyProof.Rows L2 Evl Sup
variable [TabC]
structure Pc where
  c : List Int
  rs : List (List Qr)
  s : List Qr
def rowD (qs : List Qr) : D := .tup (qs.map ofQ)
def Pc.d (p : Pc) : D := .tup [.tup (p.c.map D.int), .tup (p.rs.map rowD), rowD p.s]
def Smq (q : Qr) : Prop := q.num.natAbs ≤ 1000000 ∧ q.den ≤ 1000
theorem Smq.qb {q : Qr} (h : Smq q) : Qb 20 q := ⟨Nat.lt_of_le_of_lt h.1 (by decide), Nat.lt_of_le_of_lt h.2 (by decide)⟩
structure Pc.ok (w : Nat) (p : Pc) : Prop where
  lc : p.c.length = w
  lr : p.rs.length = w
  lrr : ∀ r ∈ p.rs, r.length = w
  ls : p.s.length = w
  sm : ∀ r ∈ p.rs, ∀ q ∈ r, Smq q
  sms : ∀ q ∈ p.s, Smq q
  cb : ∀ i ∈ p.c, -1000 ≤ i ∧ i ≤ 1000
end DL
namespace DL
open PySem PySem.Spec PyProof.Rows L2 Evl Sup
variable [TabC]
namespace Y
section
variable {ρ0 : En} {G : Gm} {g : DG} {t : DT} {de : DE} {xs : List D}
end
end Y
structure PtQ (k : Nat) (pt : List Qr) : Prop where
  two : pt.length ≤ 2
  qb : ∀ q ∈ pt, Qb k q
theorem PtQ.mono {j k : Nat} {pt : List Qr} (h : PtQ j pt) (l : j ≤ k := by decide) : PtQ k pt := ⟨h.two, fun q hq => (h.qb q hq).mono l⟩
end DL
namespace DL
open PySem PySem.Spec PyProof.Rows L2 Evl Sup
variable [TabC]
end DL
namespace DL
open PySem PySem.Spec PyProof.Rows L2 Evl Sup
variable [TabC]
theorem low_le {a u : Int} (hu : u ≠ 0) : (Rat.divInt a u).num.natAbs ≤ a.natAbs ∧ (Rat.divInt a u).den ≤ u.natAbs := by
  obtain ⟨n, d, s0, _, ea, eu, d0, g1, l1⟩ := lowZ_facts (a := a) hu
  have e := low_ofQ (a := a) hu
  rw [l1] at e
  have e2 : numI (pairZ n d) = numI (ofQ (Rat.divInt a u)) := by rw [e]
  rw [numI_pair, numI_ofQ] at e2
  have en : n = (Rat.divInt a u).num := congrArg Prod.fst e2
  have ed : d = ((Rat.divInt a u).den : Int) := congrArg Prod.snd e2
  rw [← en]
  generalize sgZ a u = s at s0 ea eu
  have hs : 1 ≤ s.natAbs := by omega
  have h1 : a.natAbs = s.natAbs * n.natAbs := by rw [ea, Int.natAbs_mul]
  have h2 : u.natAbs = s.natAbs * d.natAbs := by rw [eu, Int.natAbs_mul]
  have h3 : 1 * n.natAbs ≤ s.natAbs * n.natAbs := Nat.mul_le_mul_right _ hs
  have h4 : 1 * d.natAbs ≤ s.natAbs * d.natAbs := Nat.mul_le_mul_right _ hs
  omega
def Dq (q : Qr) : Prop := q.num.natAbs ≤ 100 ∧ q.den ≤ 100
theorem Dq.sm {q : Qr} (h : Dq q) : Smq q := ⟨Nat.le_trans h.1 (by decide), Nat.le_trans h.2 (by decide)⟩
inductive All2 {α β : Type} (P : α → β → Prop) : List α → List β → Prop
  | nil : All2 P [] []
  | cons {x : α} {y : β} {xs : List α} {ys : List β} (h : P x y) (t : All2 P xs ys) : All2 P (x :: xs) (y :: ys)
theorem All2.len {α β : Type} {P : α → β → Prop} {xs : List α} {ys : List β} (h : All2 P xs ys) : ys.length = xs.length := by
  induction h with
  | nil => rfl
  | cons h t ih => rw [List.length_cons, List.length_cons, ih]
theorem All2.all {α β : Type} {P : α → β → Prop} {Q : β → Prop} {xs : List α} {ys : List β} (h : All2 P xs ys) (k : ∀ x y, P x y → Q y) : ∀ y ∈ ys, Q y := by
  induction h with
  | nil => exact fun y hy => by cases hy
  | cons h t ih => exact fun y hy => (List.mem_cons.mp hy).elim (fun e => e ▸ k _ _ h) (ih y)
namespace Y
section
variable {ρ0 ρ : En} {G : Gm} {g : DG} {de : DE} {E : DEnds} {s : DS} {xs : List D}
end
end Y
end DL
namespace DL
open PySem PySem.Spec PyProof.Rows L2 Evl Sup
variable [TabC]
structure Fn (d s : Nat) (x : D) : Prop where
  lay : x.lay = true
  pln : x.pln = true
  fit : x.fit = true
  dp : x.dp ≤ d
  sz : x.sz ≤ s
  kn : x.kn = true
  few : x.few = true
theorem Fn.mono {d s e t : Nat} {x : D} (h : Fn d s x) (l : d ≤ e := by decide) (m : s ≤ t := by decide) : Fn e t x := ⟨h.lay, h.pln, h.fit, Nat.le_trans h.dp l, Nat.le_trans h.sz m, h.kn, h.few⟩
theorem Fn.gd {d s : Nat} {x : D} (h : Fn d s x) : Gd x := ⟨h.kn, h.few⟩
end DL
namespace DL
open PySem PySem.Spec PyProof.Rows L2 Evl Sup
variable [TabC]
end DL
namespace DL
open PySem PySem.Spec PyProof.Rows L2 Evl Sup
variable [TabC]
structure MkP (w : Nat) (ps : List Pc) : Prop where
  h1 : 1 ≤ w
  h2 : w ≤ 2
  ne : ps ≠ []
  le : ps.length ≤ 60
  ok : ∀ p ∈ ps, p.ok w
  nd : (ps.map Pc.d).Nodup
theorem MkP.len {w : Nat} {ps : List Pc} (h : MkP w ps) : 1 ≤ ps.length := by
  have := h.ne
  cases ps with
  | nil => exact absurd rfl this
  | cons p ps => rw [List.length_cons]; omega
end DL
namespace DL
open PySem PySem.Spec PyProof.Rows L2 Evl Sup
variable [TabC]
end DL
namespace DL
open PySem PySem.Spec PyProof.Rows L2 Evl Sup
variable [TabC]
end DL
namespace DL
open PySem PySem.Spec PyProof.Rows L2 Evl Sup
variable [TabC]
section
variable {X : Cx} {B : Bs} {pos p : Pos} {a b c e : Expr} {es : List Expr} {da db dc de : DE} {dA : DA} {ta tb : DT}
end
end DL
end
section
open PySem PySem.Spec PyProof.Rows L2 Evl DL
namespace DL
open PySem PySem.Spec PyProof.Rows L2 Evl Sup
variable [TabC]
section
variable {X : Cx} {B : Bs} {pos p : Pos}
end
namespace Y
end Y
end DL
end
section
open PySem PySem.Spec PyProof.Rows L2 Evl DL
namespace DL
open PySem PySem.Spec PyProof.Rows L2 Evl Sup
variable [TabC]
end DL
end
section
open PySem PySem.Spec PyProof.Rows L2 Evl DL
namespace DL
open PySem PySem.Spec PyProof.Rows L2 Evl Sup
variable [TabC]
end DL
namespace DL
open PySem PySem.Spec PyProof.Rows L2 Evl Sup
variable [TabC]
section
variable {X : Cx} {B : Bs} {p pos : Pos} {e : Expr} {es : List Expr} {dA : DA}
end
end DL
namespace DL
open PySem PySem.Spec PyProof.Rows L2 Evl Sup
variable [TabC]
end DL
namespace DL
open PySem PySem.Spec PyProof.Rows L2 Evl Sup
variable [TabC]
end DL
namespace DL
open PySem PySem.Spec PyProof.Rows L2 Evl Sup
variable [TabC]
theorem OwC.cls {K : PySem.W.Frag} {mg : Str → Option Value} {cl : ClT} {sub : Str → Str → Bool} (T : OwC K mg cl sub) {C : Str} (h : hasC cl C = true) : L2.Cls K (He.ga K C) := by
  obtain ⟨p, hp, rfl⟩ := T.mem h
  exact T.c p hp
section
variable {X : Cx} {B : Bs} {p pos : Pos} {e : Expr} {es : List Expr} {de : DE} {dA : DA}
namespace Y
end Y
end
end DL
end
section
open PySem PySem.Spec PyProof.Rows L2 Evl DL
namespace DL
open PySem PySem.Spec PyProof.Rows L2 Evl Sup
variable [TabC]
section
variable {X : Cx} {B : Bs} {o e : Expr} {dobj de : DE} {pos p : Pos}
end
namespace Y
end Y
end DL
end
section
open PySem PySem.Spec PyProof.Rows L2 Evl DL
namespace DL
open PySem PySem.Spec PyProof.Rows L2 Evl Sup
variable [TabC]
def Whole (q : Qr) : Prop := ∃ k : Int, q = (k : Qr)
theorem Whole.ofQ {q : Qr} (h : Whole q) : DL.ofQ q = .int q.num := by
  obtain ⟨k, rfl⟩ := h
  rfl
theorem Whole.add {p q : Qr} (h : Whole p) (k : Whole q) : Whole (p + q) := by
  obtain ⟨a, rfl⟩ := h
  obtain ⟨b, rfl⟩ := k
  exact ⟨a + b, by rw [Rat.intCast_add]⟩
structure Sde where
  row : List Qr
  more : Qr
  und : Nat
  least : Int
  most : Int
  low : Int
  high : Int
def sdeN : List Str := ["row", "more", "under", "least", "most", "low", "high"]
def Sde.vs (s : Sde) : List D := [rowD s.row, ofQ s.more, .int s.und, .int s.least, .int s.most, .int s.low, .int s.high]
def Sde.d (s : Sde) : D := .ins "Side" sdeN s.vs
end DL
namespace DL
open PySem PySem.Spec PyProof.Rows L2 Evl Sup
variable [TabC]
end DL
namespace DL
open PySem PySem.Spec PyProof.Rows L2 Evl Sup
variable [TabC]
end DL
namespace DL
open PySem PySem.Spec PyProof.Rows L2 Evl Sup
variable [TabC]
end DL
namespace DL
open PySem PySem.Spec PyProof.Rows L2 Evl Sup
variable [TabC]
end DL
namespace MZ
open PySem PySem.Spec PyProof.Rows L2
open PySem.Sem (wp)
section
variable {prog : Program} {w : World} {A : Around} {E : Value → Shared → Prop} {s : Shared}
end
end MZ
namespace DL
open PySem PySem.Spec PyProof.Rows L2 Evl Sup
variable [TabC]
end DL
namespace MZ
open PySem PySem.Spec PyProof.Rows L2
open PySem.Sem (wp)
section
variable {prog : Program} {w : World} {A : Around} {E : Value → Shared → Prop} {s : Shared}
end
end MZ
namespace DL
open PySem PySem.Spec PyProof.Rows L2 Evl Sup
variable [TabC]
namespace Y
end Y
end DL
end
section
open PySem PySem.Spec PyProof.Rows L2 Evl DL
namespace DL
open PySem PySem.Spec PyProof.Rows L2 Evl Sup
variable [TabC]
end DL
namespace DL
open PySem PySem.Spec PyProof.Rows L2 Evl Sup
variable [TabC]
end DL
namespace DL
open PySem PySem.Spec PyProof.Rows L2 Evl Sup
variable [TabC]
end DL
namespace DL
open PySem PySem.Spec PyProof.Rows L2 Evl Sup
variable [TabC]
end DL
namespace DL
open PySem PySem.Spec PyProof.Rows L2 Evl Sup
variable [TabC]
end DL
namespace DL
open PySem PySem.Spec PyProof.Rows L2 Evl Sup
variable [TabC]
end DL
namespace DL
open PySem PySem.Spec PyProof.Rows L2 Evl Sup
variable [TabC]
end DL
namespace DL
open PySem PySem.Spec PyProof.Rows L2 Evl Sup
variable [TabC]
end DL
namespace DL
open PySem PySem.Spec PyProof.Rows L2 Evl Sup
variable [TabC]
theorem Whole.num {q : Qr} (h : Whole q) : ((q.num : Int) : Qr) = q := by
  obtain ⟨k, rfl⟩ := h
  rfl
end DL
namespace DL
open PySem PySem.Spec PyProof.Rows L2 Evl Sup
variable [TabC]
end DL
namespace DL
open PySem PySem.Spec PyProof.Rows L2 Evl Sup
variable [TabC]
end DL
namespace DL
open PySem PySem.Spec PyProof.Rows L2 Evl Sup
variable [TabC]
end DL
namespace DL
open PySem PySem.Spec PyProof.Rows L2 Evl Sup
variable [TabC]
def pQ (q : Qr) : D := .tup [.int q.num, .int q.den]
def PQ (x : D) (q : Qr) : Prop := ∃ a b : Int, x = .tup [.int a, .int b] ∧ 0 < b ∧ a.natAbs < 2 ^ 2900 ∧ b.natAbs < 2 ^ 2900 ∧ q = Rat.divInt a b
theorem num_div (q : Qr) : Rat.divInt q.num q.den = q := by
  have := ofQ_div (q := q)
  rw [numI_ofQ] at this
  exact this
theorem PQ.of {k : Nat} {q : Qr} (h : Qb k q) (hk : k ≤ 2900 := by omega) : PQ (pQ q) q :=
  ⟨q.num, q.den, rfl, den_pos q, (h.mono hk).1, by rw [Int.natAbs_natCast]; exact (h.mono hk).2, (num_div q).symm⟩
end DL
namespace DL
open PySem PySem.Spec PyProof.Rows L2 Evl Sup
variable [TabC]
end DL
namespace DL
open PySem PySem.Spec PyProof.Rows L2 Evl Sup
variable [TabC]
end DL
namespace DL
open PySem PySem.Spec PyProof.Rows L2 Evl Sup
variable [TabC]
theorem Dq.qb {q : Qr} (h : Dq q) : Qb 7 q := ⟨Nat.lt_of_le_of_lt h.1 (by decide), Nat.lt_of_le_of_lt h.2 (by decide)⟩
end DL
namespace DL
open PySem PySem.Spec PyProof.Rows L2 Evl Sup
variable [TabC]
end DL
namespace DL
open PySem PySem.Spec PyProof.Rows L2 Evl Sup
variable [TabC]
end DL
end
namespace BackT
open PySem PySem.Spec PyProof.Rows L2
section
variable {prog : Program} {w : World} {A : Around} {E : Value → Shared → Prop} {s : Shared}
end
end BackT
namespace L2
open PySem PySem.Spec PyProof.Rows
section
variable {X : Cx} {e : Expr} {te : TE} {lo hi : Option Expr} {tl th : TO} {pos p2 : Pos}
end
end L2
namespace L2
open PySem PySem.Spec PyProof.Rows
section
variable {X : Cx} {tg : Expr}
end
end L2
namespace DL
open PySem PySem.Spec PyProof.Rows L2 Evl
variable [TabC]
section
variable {X : Cx} {B : Bs} {e a b : Expr} {pos p2 p : Pos} {da db : DE} {tg : Expr}
end
namespace Y
section
variable {ρ : En} {G : Gm} {da : DE} {R : KD} {l h : DO}
end
end Y
end DL
namespace DL
open PySem PySem.Spec PyProof.Rows L2 Evl Sup
variable [TabC]
def eyesL (as : List Addr) (g : Addr → Option Obj) : PySem.W.Frag := He.frT g (cStatics :: as)
def obsL (as : List Addr) (q : Ask) (g : Addr → Option Obj) : AlE := ((He.obsT q.fa q.fn q.ts (eyesL as g), q.ex (eyesL as g) && He.tabsB g q.tfn (eyesL as g)), q.cs.map fun d => fnC (eyesL as g) d.cls)
theorem saysL_of {as : List Addr} {q : Ask} {w : World} {h : Heap} (e : obsL as q h.get? = valE q w) : SaysE q w h (eyesL as h.get?) := by
  have e1 : He.obsT q.fa q.fn q.ts (eyesL as h.get?) = He.valT q.fn q.ts w := congrArg (fun z : AlE => z.1.1) e
  have e2 : (q.ex (eyesL as h.get?) && He.tabsB h.get? q.tfn (eyesL as h.get?)) = true := congrArg (fun z : AlE => z.1.2) e
  have e3 := congrArg (fun z : AlE => z.2) e
  obtain ⟨b1, b2⟩ := He.ba e2
  have tab : ∀ p ∈ q.tfn, PySem.W.codeHdIn (eyesL as h.get?) (He.cT (eyesL as h.get?) p).1 (He.cT (eyesL as h.get?) p).2 = true ∧ ∃ o, h.get? (He.cT (eyesL as h.get?) p).2 = some o ∧ He.emptyTab o = true := by
    intro p hp
    obtain ⟨c1, c2⟩ := He.ba (List.all_eq_true.mp b2 p hp)
    refine ⟨c1, ?_⟩
    cases z : h.get? (He.cT (eyesL as h.get?) p).2 with
    | some o =>
      rw [z] at c2
      exact ⟨o, rfl, c2⟩
    | none =>
      rw [z] at c2
      cases c2
  refine ⟨⟨e1, b1, fun p hp => (tab p hp).1, fun p hp => ?_, fun p hp => ?_⟩, e3⟩
  · obtain ⟨_, o, c1, c2⟩ := tab p hp
    exact He.frT_none c1 c2
  · obtain ⟨_, o, c1, c2⟩ := tab p hp
    rw [c1, He.emptyTab_eq c2]
def hookL (as : List Addr) (q : Ask) : PySem.W.Hook where
  α := AlE
  obs := fun s => obsL as q s.heap.get?
  val := fun w => valE q w
  says := fun w h => ∃ K : PySem.W.Frag, K.In h ∧ SaysE q w h K
  of := fun w s e => ⟨_, He.frT_in, saysL_of e⟩
  keeps := fun _ _ _ ⟨K, hK, c⟩ k => ⟨K, PySem.W.Frag.In.keeps hK k, ⟨c.x.t, c.x.more, c.x.hd, c.x.out, fun p hp => k _ _ (c.x.empty p hp)⟩, c.c⟩
end DL
section
open PySem PySem.Spec PyProof.Rows L2 Evl DL
namespace DL
open PySem PySem.Spec PyProof.Rows L2 Evl Sup
variable [TabC]
structure Lp where
  c : Int
  q : Qr
  r : Qr
def Sb (k : Nat) (s : Qr × Qr) : Prop := Qb k s.1 ∧ Qb k s.2
theorem Sb.mono {j k : Nat} {s : Qr × Qr} (h : Sb j s) (l : j ≤ k := by omega) : Sb k s := ⟨h.1.mono l, h.2.mono l⟩
end DL
namespace DL
open PySem PySem.Spec PyProof.Rows L2 Evl Sup
variable [TabC]
end DL
namespace DL
open PySem PySem.Spec PyProof.Rows L2 Evl Sup
variable [TabC]
def In (s : Qr × Qr) (x : Qr) : Prop := s.1 ≤ x ∧ x ≤ s.2
end DL
namespace DL
open PySem PySem.Spec PyProof.Rows L2 Evl Sup
variable [TabC]
theorem add_div (p q : Qr) : Rat.divInt (p.num * q.den + q.num * p.den) (p.den * q.den) = p + q := by
  have hp := den_pos p
  have hq := den_pos q
  have h := Rat.divInt_add_divInt p.num q.num (d₁ := p.den) (d₂ := q.den) (by omega) (by omega)
  rw [num_div, num_div] at h
  exact h.symm
def Bq (a b : Nat) (q : Qr) : Prop := q.num.natAbs ≤ a ∧ q.den ≤ b
theorem Bq.mono {a b c d : Nat} {q : Qr} (h : Bq a b q) (h1 : a ≤ c := by decide) (h2 : b ≤ d := by decide) : Bq c d q := ⟨Nat.le_trans h.1 h1, Nat.le_trans h.2 h2⟩
theorem Bq.low {a u : Int} {m n : Nat} (hu : u ≠ 0) (h : a.natAbs ≤ m) (h' : u.natAbs ≤ n) : Bq m n (Rat.divInt a u) := ⟨Nat.le_trans (low_le hu).1 h, Nat.le_trans (low_le hu).2 h'⟩
theorem Bq.add {a b c d : Nat} {p q : Qr} (hp : Bq a b p) (hq : Bq c d q) : Bq (a * d + c * b) (b * d) (p + q) := by
  rw [← add_div]
  have dp := den_pos p
  have dq := den_pos q
  refine Bq.low (Int.mul_ne_zero (by omega) (by omega)) ?_ ?_
  · refine Nat.le_trans (Int.natAbs_add_le _ _) ?_
    rw [Int.natAbs_mul, Int.natAbs_mul, Int.natAbs_natCast, Int.natAbs_natCast]
    exact Nat.add_le_add (Nat.mul_le_mul hp.1 hq.2) (Nat.mul_le_mul hq.1 hp.2)
  · rw [Int.natAbs_mul, Int.natAbs_natCast, Int.natAbs_natCast]
    exact Nat.mul_le_mul hp.2 hq.2
theorem Bq.neg {a b : Nat} {q : Qr} (h : Bq a b q) : Bq a b (-q) := ⟨by show (-q.num).natAbs ≤ _; rw [Int.natAbs_neg]; exact h.1, h.2⟩
theorem Bq.sub {a b c d : Nat} {p q : Qr} (hp : Bq a b p) (hq : Bq c d q) : Bq (a * d + c * b) (b * d) (p - q) := by
  rw [Rat.sub_eq_add_neg]
  exact hp.add hq.neg
theorem Bq.sm {q : Qr} (h : Bq 1000000 1000 q) : Smq q := h
theorem Bq.qb {a b k : Nat} {q : Qr} (h : Bq a b q) (h1 : a < 2 ^ k := by decide) (h2 : b < 2 ^ k := by decide) : Qb k q := ⟨Nat.lt_of_le_of_lt h.1 h1, Nat.lt_of_le_of_lt h.2 h2⟩
end DL
namespace DL
open PySem PySem.Spec PyProof.Rows L2 Evl Sup
variable [TabC]
def Lp.t (p : Lp) : D := .tup [.int p.c, ofQ p.q, ofQ p.r]
end DL
namespace DL
open PySem PySem.Spec PyProof.Rows L2 Evl Sup
variable [TabC]
def Lp.l (p : Lp) : D := .tup [.lst [.int p.c], .lst [.lst [ofQ p.q]], .lst [ofQ p.r]]
end DL
namespace DL
open PySem PySem.Spec PyProof.Rows L2 Evl Sup
variable [TabC]
end DL
namespace DL
open PySem PySem.Spec PyProof.Rows L2 Evl Sup
variable [TabC]
end DL
namespace Lw
open PySem PySem.Spec PyProof.Rows L2 Evl DL
instance tabC : TabC := ⟨[]⟩
def top (i : Nat) : Stmt := PySem.Challenge.pw_timesfloor_k32_stretches_and_goals_of_wa.main.body.getD i (.Pass ⟨0, 0, 0, 0⟩)
def cls : ClT := [("Machine", ["wide", "pieces"])]
def subCT : List (Str × Str) := []
def subC (c d : Str) : Bool := c == d || subCT.contains (c, d)
def errs : List Str := ["TileError", "BadMachine", "BadWay", "Misfit", "BadText"]
def subT : List (Str × Str) := [("BadMachine", "TileError"), ("BadWay", "TileError"), ("Misfit", "TileError"), ("BadText", "TileError")]
def subE (c d : Str) : Bool := c == d || subT.contains (c, d)
def errF : List Str := ["item", "line", "part"]
abbrev sp_halves : DSp := DL.sp_halves
abbrev sp_common : DSp := DL.sp_common
abbrev sp_lowest_in : DSp := DL.sp_lowZ
def dd (x : Str) (i : Nat) : He.DefD := ⟨(x, none), x, x, defArgs (top i), defBody (top i), defScope (top i), [], []⟩
def de (x : Str) (i : Nat) (vs : List He.Dv) : He.DefD := ⟨(x, none), x, x, defArgs (top i), defBody (top i), defScope (top i), vs, []⟩
def dm (C m : Str) (i : Nat) : He.DefD := ⟨(C, some m), m, C ++ "." ++ m, defArgs (methOf (top i) m), defBody (methOf (top i) m), defScope (methOf (top i) m), [], []⟩
def fn : List He.DefD := [dd "is_integer" 8, dd "is_within" 9, dd "is_list" 10, dd "halves" 15, dd "common" 16, dd "lowest_in" 17, dd "plus_in" 18, dd "times_in" 19, dd "minus_in" 20, dd "over_in" 21, dd "below_in" 22, dd "is_number" 24, dd "is_small" 25, dd "kept_number" 26, dd "is_row" 38, dd "is_corner" 39, dd "is_piece" 40, dd "kept_row" 41, dd "kept_piece" 42, dd "are_unlike" 43, dm "Machine" "__init__" 44, de "need_machine" 47 [He.Dv.str "machine"], dd "line_machine" 48, de "need_way" 51 [He.Dv.str "way"], dd "need_line" 53, dd "parts_in" 54, dd "own_stretch" 55, dd "meet" 56, dd "led_on" 57, dd "led_back" 58, dd "stretch_in" 59, dd "goal_in" 60, dd "stretch_of" 61, dd "goal_of" 62, dd "_law_ridge" 64, dd "_law_climb" 65, dd "_law_pick" 66, dd "_law_lowest" 67, dd "_law_halves" 68, dd "_law_plus" 69, dd "_law_times" 70, dd "_law_over" 71, dd "_law_below" 72, dd "_law_less" 73, dd "_law_part" 74, dd "_law_triples" 75, dd "_law_stretch" 76, dd "_law_goal" 77, dd "_law_way" 79, dd "law" 80]
def fa : List He.Fa := [.glo "is_integer", .glo "is_within", .glo "is_list", .glo "halves", .glo "common", .glo "lowest_in", .glo "plus_in", .glo "times_in", .glo "minus_in", .glo "over_in", .glo "below_in", .glo "is_number", .glo "is_small", .glo "kept_number", .glo "is_row", .glo "is_corner", .glo "is_piece", .glo "kept_row", .glo "kept_piece", .glo "are_unlike", .glo "Machine", .glo "need_machine", .glo "line_machine", .glo "need_way", .glo "need_line", .glo "parts_in", .glo "own_stretch", .glo "meet", .glo "led_on", .glo "led_back", .glo "stretch_in", .glo "goal_in", .glo "stretch_of", .glo "goal_of", .glo "_law_ridge", .glo "_law_climb", .glo "_law_pick", .glo "_law_lowest", .glo "_law_halves", .glo "_law_plus", .glo "_law_times", .glo "_law_over", .glo "_law_below", .glo "_law_less", .glo "_law_part", .glo "_law_triples", .glo "_law_stretch", .glo "_law_goal", .glo "_law_way", .glo "law", .mkr "Machine", .free "abs", .free "all", .free "bool", .free "int", .free "isinstance", .free "len", .free "list", .free "range", .free "repr", .free "set", .free "tuple", .int "LEAST_UNDER" 2, .int "SMALL_ABOVE" 1000000, .int "SMALL_UNDER" 1000, .str "BAR" "/", .str "FIGURES" "0123456789", .int "MOST_FIGURES" 140, .int "MOST_WIDE" 2, .int "MOST_PIECES" 60, .int "FARTHEST" 1000, .int "MOST_WAY" 400]
abbrev Rw : PySem.W.OpenRow := PySem.W.OpenLaw.row PySem.Challenge.rw_timesfloor_k32_stretches_and_goals_of_wa
def ex (K : PySem.W.Frag) : Bool := tabOkB K && (isB K errs subE errF && (xcB (PySem.Challenge.rw_timesfloor_k32_stretches_and_goals_of_wa).prog.main.file K "BadMachine" ["part"] && (xcB (PySem.Challenge.rw_timesfloor_k32_stretches_and_goals_of_wa).prog.main.file K "BadWay" ["part"] && (xcB (PySem.Challenge.rw_timesfloor_k32_stretches_and_goals_of_wa).prog.main.file K "Misfit" ["part"] && (owB K cls subC && (true))))))
def ask : Ask := ⟨5, fa, fn, [], ex, [defC "BadMachine" (top 3), defC "BadWay" (top 4), defC "Misfit" (top 5)], []⟩
def as_ : List Nat := [3, 6, 4, 21, 31, 53, 74, 95, 116, 125, 132, 139, 146, 153, 160, 167, 174, 181, 188, 195, 202, 209, 216, 223, 228, 235, 309, 318, 323, 328, 333, 338, 345, 382, 391, 396, 404, 409, 415, 422, 429, 436, 443, 448, 453, 460, 467, 474, 481, 486, 493, 500, 507, 514, 521, 528, 535, 542, 549, 556, 563, 568, 573, 578, 583, 590, 0, 20, 30, 52, 73, 94, 115, 124, 131, 138, 145, 152, 159, 166, 173, 180, 187, 194, 201, 208, 215, 222, 227, 234, 308, 317, 322, 327, 332, 337, 344, 381, 390, 395, 403, 397, 408, 414, 410, 421, 428, 435, 442, 447, 452, 459, 466, 473, 480, 485, 492, 499, 506, 513, 520, 527, 534, 541, 548, 555, 562, 567, 572, 577, 582, 589, 15, 16, 17, 18, 19, 29, 32, 50, 51, 71, 72, 92, 93, 113, 114, 119, 120, 121, 122, 123, 126, 127, 128, 129, 130, 133, 134, 135, 136, 137, 140, 141, 142, 143, 144, 147, 148, 149, 150, 151, 154, 155, 156, 157, 158, 161, 162, 163, 164, 165, 168, 169, 170, 171, 172, 175, 176, 177, 178, 179, 182, 183, 184, 185, 186, 189, 190, 191, 192, 193, 196, 197, 198, 199, 200, 203, 204, 205, 206, 207, 210, 211, 212, 213, 214, 217, 218, 219, 220, 221, 224, 225, 226, 229, 230, 231, 232, 233, 249, 256, 263, 270, 277, 284, 292, 299, 306, 307, 310, 311, 314, 315, 316, 319, 320, 321, 324, 325, 326, 329, 330, 331, 334, 335, 336, 339, 340, 341, 342, 343, 357, 364, 369, 378, 380, 383, 384, 387, 388, 389, 392, 393, 394, 398, 399, 400, 401, 402, 405, 406, 407, 411, 412, 413, 416, 417, 418, 419, 420, 423, 424, 425, 426, 427, 430, 431, 432, 433, 434, 437, 438, 439, 440, 441, 444, 445, 446, 449, 450, 451, 454, 455, 456, 457, 458, 461, 462, 463, 464, 465, 468, 469, 470, 471, 472, 475, 476, 477, 478, 479, 482, 483, 484, 487, 488, 489, 490, 491, 494, 495, 496, 497, 498, 501, 502, 503, 504, 505, 508, 509, 510, 511, 512, 515, 516, 517, 518, 519, 522, 523, 524, 525, 526, 529, 530, 531, 532, 533, 536, 537, 538, 539, 540, 543, 544, 545, 546, 547, 550, 551, 552, 553, 554, 557, 558, 559, 560, 561, 564, 565, 566, 569, 570, 571, 574, 575, 576, 579, 580, 581, 584, 585, 586, 587, 588, 49, 38, 70, 59, 91, 80, 112, 101, 248, 255, 262, 269, 276, 283, 291, 285, 298, 305, 356, 363, 368, 376, 377, 44, 45, 46, 47, 48, 65, 66, 67, 68, 69, 86, 87, 88, 89, 90, 107, 108, 109, 110, 111, 243, 244, 245, 246, 247, 250, 251, 252, 253, 254, 257, 258, 259, 260, 261, 264, 265, 266, 267, 268, 271, 272, 273, 274, 275, 278, 279, 280, 281, 282, 286, 287, 288, 289, 290, 293, 294, 295, 296, 297, 300, 301, 302, 303, 304, 353, 354, 355, 358, 359, 360, 361, 362, 365, 366, 367, 375, 379]
abbrev hk : PySem.W.Hook := hookL as_ ask
def ob (s : PySem.W.SharedT) : AlE := obsL as_ ask (HandSHeadRun.getT s)
def loose : List Str := (["_wall", "TileError", "BadMachine", "BadWay", "Misfit", "BadText", "is_integer", "is_within", "is_list", "LEAST_UNDER", "SMALL_ABOVE", "SMALL_UNDER"] : List Str) ++ (["halves", "common", "lowest_in", "plus_in", "times_in", "minus_in", "over_in", "below_in", "text_in", "is_number", "is_small", "kept_number"] : List Str) ++ (["BAR", "FIGURES", "MOST_FIGURES", "written", "written_fraction", "Scan", "MOST_WIDE", "MOST_PIECES", "FARTHEST", "is_row", "is_corner", "is_piece"] : List Str) ++ (["kept_row", "kept_piece", "are_unlike", "Machine", "items_in", "piece_in", "need_machine", "line_machine", "MOST_WAY", "need_way", "need_line", "parts_in"] : List Str) ++ (["own_stretch", "meet", "led_on", "led_back", "stretch_in", "goal_in", "stretch_of", "goal_of", "_law_ridge", "_law_climb", "_law_pick", "_law_lowest"] : List Str) ++ (["_law_halves", "_law_plus", "_law_times", "_law_over", "_law_below", "_law_less", "_law_part", "_law_triples", "_law_stretch", "_law_goal", "_law_ways", "_law_way"] : List Str)
set_option maxHeartbeats 0 in
theorem run (w : World) : HandSHeadRun.RunEq Rw (PySem.W.view Rw.prog [80]) hk ob 12000 loose w := by
  intro os
  kernel_rfl
section
variable {K : PySem.W.Frag} {h : Heap} {mg : Str → Option Value}
end
end Lw
open PySem PySem.W PySem.Calls PyProof.Rows
end
namespace DL
open PySem PySem.Spec PyProof.Rows L2 Evl
section
variable {K : PySem.W.Frag} {H H' : Hp}
theorem RpL.app : ∀ {vs ws : List V} {ds es : List D}, RpL K H vs ds → RpL K H ws es → RpL K H (vs ++ ws) (ds ++ es)
  | _, _, _, _, .nil, h => h
  | _, _, _, _, .cons a b, h => .cons a (RpL.app b h)
theorem RpL.atV : ∀ {vs : List V} {ds : List D} {i : Nat} {v : V}, RpL K H vs ds → vs[i]? = some v → ∃ d, ds[i]? = some d ∧ Rp K H v d
  | _, _, _, _, .nil, h => nomatch h
  | _, _, 0, _, .cons a _, h => ⟨_, rfl, by cases Option.some.inj h; exact a⟩
  | _, _, i + 1, _, .cons _ b, h => RpL.atV (i := i) b h
end
variable [TabC]
section
variable {K : PySem.W.Frag} {F : Gm} {Hd H : Hp} {G : Gm}
theorem Sim.exn (S : Sim K F Hd H G) {p : Addr} {o : HO} (h : H p = none) : Ex Hd (upd Hd p o) := Ex.new (S.free h)
theorem Sim.side (S : Sim K F Hd H G) {p : Addr} {o : HO} (h : H p = none) : Sim K F Hd (upd H p o) G where
  sub := S.sub.trans (Ex.new h)
  off := S.off
  hold := fun a m e => (S.hold a m e).other (ne_g e (S.gfree h))
  offF := S.offF
  holdF := fun a m e => (S.holdF a m e).other (ne_g e (S.ffree h))
  apart := S.apart
  tabs := S.tabs
theorem ex_put {Hd H : Hp} {p : Addr} {o : HO} (e : Ex Hd H) (h : Hd p = none) : Ex Hd (upd H p o) := fun a u q => by
  have z : a ≠ p := fun z => by
    rw [z, h] at q
    cases q
  rw [upd_ne z]
  exact e a u q
theorem Sim.put (S : Sim K F Hd H G) {p : Addr} {o : HO} {m n : Mt} (h : G p = some m) (hm : HoldM K Hd (upd H p o) p n) : Sim K F Hd (upd H p o) (gup G p n) :=
  S.setG (ex_put S.sub (S.off p m h)) (S.off p m h) (S.gf h) hm
theorem Sim.again (S : Sim K F Hd H G) {p : Addr} {m n : Mt} (h : G p = some m) (hm : HoldM K Hd H p n) : Sim K F Hd H (gup G p n) where
  sub := S.sub
  off := fun a k e => by
    by_cases q : a = p
    · rw [q]
      exact S.off p m h
    · rw [gup_ne q] at e
      exact S.off a k e
  hold := fun a k e => by
    by_cases q : a = p
    · subst q
      rw [gup_same] at e
      cases e
      exact hm
    · rw [gup_ne q] at e
      exact S.hold a k e
  offF := S.offF
  holdF := S.holdF
  apart := fun a k e => by
    rw [gup_ne (ne_g e (S.gf h))]
    exact S.apart a k e
  tabs := S.tabs
theorem Sim.hide (S : Sim K F Hd H G) {p : Addr} {m : Mt} {o : HO} (hfp : F p = none) (hd : Hd p = none) (hs : Ex Hd (upd H p o)) (hg : G p = none) (hm : HoldM K Hd (upd H p o) p m) : Sim K (gup F p m) Hd (upd H p o) G where
  sub := hs
  off := S.off
  hold := fun a k e => (S.hold a k e).other (ne_g e hg)
  offF := fun a k e => by
    by_cases q : a = p
    · rw [q]
      exact hd
    · rw [gup_ne q] at e
      exact S.offF a k e
  holdF := fun a k e => by
    by_cases q : a = p
    · subst q
      rw [gup_same] at e
      cases e
      exact hm
    · rw [gup_ne q] at e
      exact (S.holdF a k e).other q
  apart := fun a k e => by
    by_cases q : a = p
    · rw [q]
      exact hg
    · rw [gup_ne q] at e
      exact S.apart a k e
  tabs := fun q hq => by
    rw [gup_ne (ne_g (S.tabs q hq) hfp)]
    exact S.tabs q hq
theorem Sim.bare {p : Addr} {m : Mt} (S : Sim K (gup F p m) Hd H G) {xs : List V} (h : H p = some (.lst xs)) (hf : F p = none) : Sim K F (upd Hd p (.lst xs)) H G := by
  have hd : Hd p = none := S.offF p m gup_same
  have e : Ex Hd (upd Hd p (.lst xs)) := Ex.new hd
  have hg : G p = none := S.apart p m gup_same
  refine ⟨fun a u q => ?_, fun a k q => ?_, fun a k q => (S.hold a k q).mono e, fun a k q => ?_, fun a k q => ?_, fun a k q => ?_, fun q hq => ?_⟩
  · by_cases z : a = p
    · subst z
      rw [upd_same] at q
      cases q
      exact h
    · rw [upd_ne z] at q
      exact S.sub a u q
  · rw [upd_ne (ne_g q hg)]
    exact S.off a k q
  · rw [upd_ne (ne_g q hf)]
    exact S.offF a k (by rw [gup_ne (ne_g q hf)]; exact q)
  · exact (S.holdF a k (by rw [gup_ne (ne_g q hf)]; exact q)).mono e
  · exact S.apart a k (by rw [gup_ne (ne_g q hf)]; exact q)
  · have t := S.tabs q hq
    by_cases z : q.1 = p
    · obtain ⟨ps, e1, _⟩ := (show TabD Hd H q.1 q.2 from S.holdF q.1 (.tab q.2) t)
      rw [z, h] at e1
      cases e1
    · rw [gup_ne z] at t
      exact t
end
section
variable {K : PySem.W.Frag} {H H' : Hp} {σ : L2.St} {ρ : En}
theorem RpE.unset (r : RpE K H σ ρ) (i : Nat) : RpE K H (σ.set i none) (ρ.set i none) := by
  refine ⟨by rw [List.length_set, List.length_set]; exact r.1, fun j x e => ?_⟩
  by_cases q : i = j
  · subst q
    by_cases z : i < ρ.length
    · rw [List.getElem?_set_self z] at e
      cases e
    · rw [List.getElem?_eq_none (by simpa using z)] at e
      cases e
  · rw [List.getElem?_set_ne q] at e ⊢
    exact r.2 j x e
def wipeD (ρ : En) : List Nat → En
  | [] => ρ
  | v :: vs => (wipeD ρ vs).set v none
theorem RpE.wipe (r : RpE K H σ ρ) : ∀ vs : List Nat, RpE K H (L2.wipe σ vs) (wipeD ρ vs)
  | [] => r
  | v :: vs => by
    unfold L2.wipe wipeD
    exact (RpE.wipe r vs).unset v
theorem RpE.start {N : List Str} {vs : List V} {ds : List D} (r : RpL K H vs ds) : RpE K H (L2.start N vs) (ds.map some ++ List.replicate (N.length - ds.length) none) := by
  refine ⟨by unfold L2.start; simp [r.length], fun i d e => ?_⟩
  by_cases h : i < ds.length
  · rw [List.getElem?_append_left (by simpa using h), List.getElem?_map] at e
    cases q : ds[i]? with
    | none =>
      rw [q] at e
      cases e
    | some x =>
      rw [q] at e
      cases e
      obtain ⟨v, a, b⟩ := r.at q
      refine ⟨v, ?_, b⟩
      unfold L2.start
      rw [List.getElem?_append_left (by rw [List.length_map, r.length]; exact h), List.getElem?_map, a]
      rfl
  · rw [List.getElem?_append_right (by simpa using h), List.getElem?_replicate] at e
    split at e <;> cases e
end
def upE (K : PySem.W.Frag) (B : Bs) (d : DE) : TE := fun σ H Q => ∃ ρ Hd G R, At K B σ H ρ Hd G ∧ d ρ G R ∧ KE K B.f Hd R Q
def upT (K : PySem.W.Frag) (B : Bs) (d : DT) : TT := fun σ H Q => ∃ ρ Hd G R, At K B σ H ρ Hd G ∧ d ρ G R ∧ KT K B.f Hd R Q
def upA (K : PySem.W.Frag) (B : Bs) (d : DA) : TA := fun σ H Q => ∃ ρ Hd G R, At K B σ H ρ Hd G ∧ d ρ G R ∧ KA K B.f Hd R Q
def upS (K : PySem.W.Frag) (B : Bs) (d : DS) : TS := fun D σ H => ∃ ρ Hd G E, At K B σ H ρ Hd G ∧ d E ρ G ∧ KS K B.f Hd E D
section
variable {K : PySem.W.Frag} {F : Gm} {Hd Hd' : Hp}
end
section
variable {X : Cx}
theorem pe_imp {e : Expr} {t t' : TE} (h : PE X e t) (i : ∀ σ H Q, t' σ H Q → t σ H Q) : PE X e t' := ⟨fun pins s σ H Q I w => h.run pins s σ H Q I (i σ H Q w)⟩
theorem pt_imp {e : Expr} {t t' : TT} (h : PT X e t) (i : ∀ σ H Q, t' σ H Q → t σ H Q) : PT X e t' := ⟨fun pins s σ H Q I w => h.run pins s σ H Q I (i σ H Q w)⟩
theorem pw_imp {e : Expr} {t t' : TT} (h : PW X e t) (i : ∀ σ H Q, t' σ H Q → t σ H Q) : PW X e t' := ⟨fun wh pins s σ H Q I w => h.run wh pins s σ H Q I (i σ H Q w)⟩
theorem pa_imp {e : List Expr} {t t' : TA} (h : PA X e t) (i : ∀ σ H Q, t' σ H Q → t σ H Q) : PA X e t' := ⟨fun p pins s σ H Q I w => h.run p pins s σ H Q I (i σ H Q w)⟩
theorem ps_imp {e : Stmt} {t t' : TS} (h : PS X e t) (i : ∀ D σ H, t' D σ H → t D σ H) : PS X e t' := ⟨fun pins s σ H D I w => h.run pins s σ H D I (i D σ H w)⟩
theorem pss_imp {e : List Stmt} {t t' : TS} (h : PSs X e t) (i : ∀ D σ H, t' D σ H → t D σ H) : PSs X e t' := ⟨fun pins s σ H D I w => h.run pins s σ H D I (i D σ H w)⟩
end
end DL
namespace DL
open PySem PySem.Spec PyProof.Rows L2 Evl
variable [TabC]
section
variable {X : Cx} {B : Bs} {pos : Pos} {a b c : Expr} {da db dc : DE} {ta tb : DT}
def dVar (i : Nat) : DE := fun ρ G R => ∃ d, ρ[i]? = some (some d) ∧ R d G
theorem pd_v {i : Nat} {e : Expr} (h : PE X e (tVar i)) : PE X e (upE X.K B (dVar i)) := pe_imp h fun σ H Q ⟨ρ, Hd, G, R, at_, ⟨d, hd, hr⟩, k⟩ =>
  let ⟨v, h1, h2⟩ := at_.e.2 i d hd
  ⟨v, h1, k v H Hd d G (Ex.refl _) at_.s h2 hr⟩
theorem pd_var (i : Nat) {x : Str} (hN : X.N[i]? = some x := by rfl) (hv : Vis X.env.scope x := by first | exact Or.inl rfl | exact Or.inr (Or.inl rfl) | exact Or.inr (Or.inr rfl)) (hd : (x == ("__debug__" : Str)) = false := by decide)
    (hcd : (x == ("__classdict__" : Str)) = false := by decide) : PE X (.Name x pos) (upE X.K B (dVar i)) := pd_v (pe_var hN hv hd hcd)
theorem pd_c {e : Expr} {v : V} {d : D} (h : PE X e (tC v)) (r : ∀ Hd, Rp X.K Hd v d) : PE X e (upE X.K B (dC d)) := pe_imp h fun σ H Q ⟨ρ, Hd, G, R, at_, hr, k⟩ =>
  k v H Hd d G (Ex.refl _) at_.s (r Hd) hr
theorem pd_int {i : Int} {j : Nat} : PE X (.Constant (.int i) j pos) (upE X.K B (dC (.int i))) := pd_c pe_int fun _ => .int i
theorem pd_bl {i : Bool} {j : Nat} : PE X (.Constant (.bool i) j pos) (upE X.K B (dC (.bl i))) := pd_c pe_bl fun _ => .bl i
theorem pd_str {i : Str} {j : Nat} : PE X (.Constant (.str i) j pos) (upE X.K B (dC (.str i))) := pd_c pe_str fun _ => .str i
theorem pd_non {j : Nat} : PE X (.Constant .none j pos) (upE X.K B (dC .non)) := pd_c pe_non fun _ => .non
theorem pd_gint {x : Str} {i : Int} (hg : Gl X x) (hm : ∃ t, X.mg x = some (.int i t)) (hd : (x == ("__debug__" : Str)) = false := by decide) : PE X (.Name x pos) (upE X.K B (dC (.int i))) :=
  let ⟨t, h⟩ := hm
  pd_c (v := .int i) (pe_glob hg h ⟨t, rfl⟩ hd) fun _ => .int i
theorem pd_bty {x : Str} {n : String} (hg : Gl X x) (hm : X.mg x = none) (hv : bootBuiltins x = some (.type n)) (hn : x ≠ "__name__" := by decide) (hd : (x == ("__debug__" : Str)) = false := by decide) : PE X (.Name x pos) (upE X.K B (dC (.ty n))) :=
  pd_c (v := .ty n) (pe_bltn hg hm hv rfl hn hd) fun _ => .ty n
theorem pda_nil : PA X [] (upA X.K B dNil) := pa_imp pa_nil fun σ H Q ⟨ρ, Hd, G, R, at_, hr, k⟩ => k [] H Hd [] G (Ex.refl _) at_.s .nil hr
theorem pda_cons {e : Expr} {es : List Expr} {de : DE} {dr : DA} (he : PE X e (upE X.K B de)) (hr : PA X es (upA X.K B dr)) (hs : starEach (e :: es) X.env = (false, eval e X.env) :: starEach es X.env := by rfl) : PA X (e :: es) (upA X.K B (dCons de dr)) :=
  pa_imp (pa_cons he hr hs) fun σ H Q ⟨ρ, Hd, G, R, at_, h, k⟩ =>
    ⟨ρ, Hd, G, _, at_, h, fun v H1 Hd1 x G1 e1 s1 r1 h1 => ⟨ρ, Hd1, G1, _, at_.step e1 s1, h1, fun vs H2 Hd2 xs G2 e2 s2 r2 h2 => k _ H2 Hd2 _ G2 (e1.trans e2) s2 (.cons (r1.mono e2) r2) h2⟩⟩
def dLstM (dA : DA) : DE := fun ρ G R => dA ρ G fun xs G1 => xs.length ≤ sizeLine ∧ ∀ p, G1 p = none → R (.ref p) (gup G1 p (.lst xs))
theorem st_new {K : PySem.W.Frag} {H : Hp} {p : Addr} {xs : List V} : SqT K (upd H p (.tup xs)) p xs := st_of upd_same
theorem pd_tup {es : List Expr} {dA : DA} {x1 : Nat} (h : PA X es (upA X.K B dA)) : PE X (.Tuple es x1 pos) (upE X.K B (dTup dA)) := pe_imp (pe_tup h) fun σ H Q ⟨ρ, Hd, G, R, at_, h, k⟩ =>
  ⟨ρ, Hd, G, _, at_, h, fun vs H1 Hd1 xs G1 e1 s1 r1 ⟨hz, h1⟩ => ⟨by rw [r1.length]; exact hz, fun p hp => k _ _ _ (.tup xs) G1 (e1.trans (s1.exn hp)) (s1.new hp) (.tup st_new (r1.mono (s1.exn hp))) h1⟩⟩
theorem pd_lst {es : List Expr} {dA : DA} (h : PA X es (upA X.K B dA)) : PE X (.List es pos) (upE X.K B (dLst dA)) := pe_imp (pe_lst h) fun σ H Q ⟨ρ, Hd, G, R, at_, h, k⟩ =>
  ⟨ρ, Hd, G, _, at_, h, fun vs H1 Hd1 xs G1 e1 s1 r1 ⟨hz, h1⟩ => ⟨by rw [r1.length]; exact hz, fun p hp => k _ _ _ (.lst xs) G1 (e1.trans (s1.exn hp)) (s1.new hp) (.lst sq_new (r1.mono (s1.exn hp))) h1⟩⟩
theorem pd_lstM {es : List Expr} {dA : DA} (h : PA X es (upA X.K B dA)) : PE X (.List es pos) (upE X.K B (dLstM dA)) := pe_imp (pe_lst h) fun σ H Q ⟨ρ, Hd, G, R, at_, h, k⟩ =>
  ⟨ρ, Hd, G, _, at_, h, fun vs H1 Hd1 xs G1 e1 s1 r1 ⟨hz, h1⟩ => ⟨by rw [r1.length]; exact hz, fun p hp => k _ _ _ (.ref p) _ e1 (s1.cell (m := .lst xs) hp ⟨_, upd_same, r1⟩) (.ref p) (h1 p (s1.gfree hp))⟩⟩
def OpD (K : PySem.W.Frag) (r : R2) (f : D → D → D → Prop) : Prop := ∀ (F : Gm) (Hd H : Hp) (G : Gm) (v u : V) (x y z : D) (Q : VK), Sim K F Hd H G → Rp K Hd v x → Rp K Hd u y → f x y z → (∀ w H' Hd', Ex Hd Hd' → Sim K F Hd' H' G → Rp K Hd' w z → Q w H') → r v u H Q
theorem opd_imp {K : PySem.W.Frag} {r : R2} {f : D → D → D → Prop} (hd : OpD K r f) {B : Bs} {da db : DE} : ∀ σ H Q, upE K B (dOp f da db) σ H Q → tOp r (upE K B da) (upE K B db) σ H Q := fun σ H Q ⟨ρ, Hd, G, R, at_, h, k⟩ =>
  ⟨ρ, Hd, G, _, at_, h, fun v H1 Hd1 x G1 e1 s1 r1 h1 => ⟨ρ, Hd1, G1, _, at_.step e1 s1, h1, fun u H2 Hd2 y G2 e2 s2 r2 ⟨z, hf, hz⟩ =>
    hd B.f Hd2 H2 G2 v u x y z _ s2 (r1.mono e2) r2 hf fun w H3 Hd3 e3 s3 r3 => k w H3 Hd3 z G2 ((e1.trans e2).trans e3) s3 r3 hz⟩⟩
theorem pd_op {op : Operator} {r : R2} {f : D → D → D → Prop} (ho : OpR X (binaryOp op) r) (hd : OpD X.K r f) (ha : PE X a (upE X.K B da)) (hb : PE X b (upE X.K B db)) : PE X (.BinOp a op b pos) (upE X.K B (dOp f da db)) :=
  pe_imp (pe_op ho ha hb) (opd_imp hd)
theorem pd_cmp {op : CmpOp} {r : R2} {f : D → D → D → Prop} (ho : OpR X (compareOp op) r) (hd : OpD X.K r f) (ha : PE X a (upE X.K B da)) (hb : PE X b (upE X.K B db)) (hm : behindInMarks op b = false) : PE X (.Compare a [op] [b] pos) (upE X.K B (dOp f da db)) :=
  pe_imp (pe_cmpR ho ha hb hm) (opd_imp hd)
def dTst (d : DE) : DT := fun ρ G R => d ρ G fun x G1 => ∃ k, x = .bl k ∧ R k G1
theorem tst_imp {K : PySem.W.Frag} {d : DE} : ∀ σ H Q, upT K B (dTst d) σ H Q → upE K B d σ H fun x H' => ∃ k, x = .bl k ∧ Q k H' := fun σ H Q ⟨ρ, Hd, G, R, at_, h, k⟩ =>
  ⟨ρ, Hd, G, _, at_, h, fun v H1 Hd1 x G1 e1 s1 r1 ⟨t, et, ht⟩ => by
    subst et
    cases r1
    exact ⟨t, rfl, k t H1 Hd1 G1 e1 s1 ht⟩⟩
theorem ptd_cmp {op : CmpOp} {r : R2} {f : D → D → D → Prop} (ho : OpR X (compareOp op) r) (hd : OpD X.K r f) (ha : PE X a (upE X.K B da)) (hb : PE X b (upE X.K B db)) (hm : behindInMarks op b = false) : PT X (.Compare a [op] [b] pos) (upT X.K B (dTst (dOp f da db))) :=
  pt_imp (pt_cmpR ho ha hb hm) fun σ H Q h => opd_imp hd σ H _ (tst_imp σ H Q h)
theorem ptd_val {e : Expr} {d : DE} (h : PE X e (upE X.K B d)) (he : ∀ whole, isTrue e X.env whole = (do let v ← whole; standAt e.pos; holding [v] (truthy v)) := by intro _; rfl) : PT X e (upT X.K B (dTst d)) :=
  pt_imp (pt_val h he) fun σ H Q h => tst_imp σ H Q h
def fIntC (C : Int → Int → Prop) (g : Int → Int → D) (x y z : D) : Prop := ∃ i j, x = .int i ∧ y = .int j ∧ C i j ∧ z = g i j
theorem od_int {K : PySem.W.Frag} {g : Int → Int → Int} : OpD K (rI0 fun i j => .int (g i j)) (fInt fun i j => .int (g i j)) := fun F Hd H G v u x y z Q s rv ru ⟨i, j, ex, ey, ez⟩ k => by
  subst ex ey ez
  cases rv
  cases ru
  exact ⟨i, j, rfl, rfl, k _ H Hd (Ex.refl _) s (.int _)⟩
theorem od_intC {K : PySem.W.Frag} {C : Int → Int → Prop} {g : Int → Int → Int} : OpD K (rI C fun i j => .int (g i j)) (fIntC C fun i j => .int (g i j)) := fun F Hd H G v u x y z Q s rv ru ⟨i, j, ex, ey, c, ez⟩ k => by
  subst ex ey ez
  cases rv
  cases ru
  exact ⟨i, j, rfl, rfl, c, k _ H Hd (Ex.refl _) s (.int _)⟩
theorem od_bl {K : PySem.W.Frag} {g : Int → Int → Bool} : OpD K (rI0 fun i j => .bl (g i j)) (fInt fun i j => .bl (g i j)) := fun F Hd H G v u x y z Q s rv ru ⟨i, j, ex, ey, ez⟩ k => by
  subst ex ey ez
  cases rv
  cases ru
  exact ⟨i, j, rfl, rfl, k _ H Hd (Ex.refl _) s (.bl _)⟩
theorem pd_sub (ha : PE X a (upE X.K B da)) (hb : PE X b (upE X.K B db)) : PE X (.BinOp a .Sub b pos) (upE X.K B (dOp (fInt fun i j => .int (i - j)) da db)) := pd_op op_sub od_int ha hb
theorem pd_fdiv (ha : PE X a (upE X.K B da)) (hb : PE X b (upE X.K B db)) : PE X (.BinOp a .FloorDiv b pos) (upE X.K B (dOp (fIntC CDivW fun i j => .int (i / j)) da db)) := pd_op op_fdivW od_intC ha hb
theorem pd_mod (ha : PE X a (upE X.K B da)) (hb : PE X b (upE X.K B db)) : PE X (.BinOp a .Mod b pos) (upE X.K B (dOp (fIntC (fun _ j => 0 < j) fun i j => .int (i % j)) da db)) := pd_op op_mod od_intC ha hb
def CPw (i j : Int) : Prop := 0 ≤ j ∧ (Builtin.Int.intBits i : Int) * j ≤ 2 ^ 27
theorem op_pw : OpR X (binaryOp .Pow) (rI CPw fun i j => .int (i ^ j.toNat)) := opI fun _ _ _ _ _ _ _ hc q => pow_int hc.1 hc.2 q
theorem pd_pow (ha : PE X a (upE X.K B da)) (hb : PE X b (upE X.K B db)) : PE X (.BinOp a .Pow b pos) (upE X.K B (dOp (fIntC CPw fun i j => .int (i ^ j.toNat)) da db)) := pd_op op_pw od_intC ha hb
theorem od_add {K : PySem.W.Frag} : OpD K (fun x y H Q => (rI0 fun i j => .int (i + j)) x y H Q ∨ ∃ i j, x = .str i ∧ y = .str j ∧ i.length + j.length ≤ sizeLine ∧ Q (.str (i ++ j)) H) fAdd := fun F Hd H G v u x y z Q s rv ru f k => by
  rcases f with ⟨i, j, rfl, rfl, rfl⟩ | ⟨i, j, rfl, rfl, h, rfl⟩
  · cases rv
    cases ru
    exact .inl ⟨i, j, rfl, rfl, k _ H Hd (Ex.refl _) s (.int _)⟩
  · cases rv
    cases ru
    exact .inr ⟨i, j, rfl, rfl, h, k _ H Hd (Ex.refl _) s (.str _)⟩
theorem pd_add (ha : PE X a (upE X.K B da)) (hb : PE X b (upE X.K B db)) : PE X (.BinOp a .Add b pos) (upE X.K B (dOp fAdd da db)) := pd_op (op_add.or op_add_str) od_add ha hb
theorem op_mulOk : OpR X (binaryOp .Mult) (rI IntMulOk fun i j => .int (i * j)) := opI fun _ _ _ _ _ _ _ hc q => mul_int q hc
theorem pd_mul (ha : PE X a (upE X.K B da)) (hb : PE X b (upE X.K B db)) : PE X (.BinOp a .Mult b pos) (upE X.K B (dOp (fIntC IntMulOk fun i j => .int (i * j)) da db)) := pd_op op_mulOk od_intC ha hb
theorem pd_neg (ha : PE X a (upE X.K B da)) : PE X (.UnaryOp .USub a pos) (upE X.K B (dNeg da)) := pe_imp (pe_un un_neg ha) fun σ H Q ⟨ρ, Hd, G, R, at_, h, k⟩ =>
  ⟨ρ, Hd, G, _, at_, h, fun v H1 Hd1 x G1 e1 s1 r1 ⟨i, ex, hi⟩ => by
    subst ex
    cases r1
    exact ⟨i, rfl, k _ H1 Hd1 _ G1 e1 s1 (.int _) hi⟩⟩
abbrev gLt : Int → Int → D := fun i j => .bl (decide (i < j))
abbrev gGt : Int → Int → D := fun i j => .bl (decide (j < i))
abbrev gGe : Int → Int → D := fun i j => .bl (decide (j ≤ i))
end
end DL
namespace DL
open PySem PySem.Spec PyProof.Rows L2 Evl
variable [TabC]
def D.eqv (x y : D) : Bool := match D.py x, D.py y with
  | some p, some q => PyData.eqv p q
  | _, _ => false
mutual
theorem py_lay : ∀ d : D, d.lay = true → ∃ p, d.py = some p ∧ p.canLay0 = true ∧ p.depth = d.dp
  | .non, _ => ⟨_, rfl, rfl, rfl⟩
  | .bl b, _ => ⟨_, rfl, rfl, rfl⟩
  | .int i, _ => ⟨_, rfl, rfl, rfl⟩
  | .str x, h => ⟨_, rfl, h, rfl⟩
  | .tup xs, h => by
    obtain ⟨ps, e, h1, h2⟩ := py_layL xs h
    refine ⟨.tuple ps, by simp only [D.py, e, Option.map_some], h1, ?_⟩
    simp only [PyData.depth, D.dp]
    omega
  | .lst xs, h => by
    obtain ⟨ps, e, h1, h2⟩ := py_layL xs h
    refine ⟨.list ps, by simp only [D.py, e, Option.map_some], h1, ?_⟩
    simp only [PyData.depth, D.dp]
    omega
  | .ty _, h => by cases h
  | .ref _, h => by cases h
  | .dct _ _, h => by cases h
  | .ins _ _ _, h => by cases h
  | .exc _ _ _, h => by cases h
  | .fnc _, h => by cases h
  | .rng _ _, h => by cases h
theorem py_layL : ∀ xs : List D, D.layL xs = true → ∃ ps, D.pyL xs = some ps ∧ PyData.canLayAll0 ps = true ∧ PyData.depthAll ps = D.dpL xs
  | [], _ => ⟨[], rfl, rfl, rfl⟩
  | x :: xs, h => by
    have h2 : (D.lay x && D.layL xs) = true := h
    rw [Bool.and_eq_true] at h2
    obtain ⟨p, e, a1, a2⟩ := py_lay x h2.1
    obtain ⟨ps, es, b1, b2⟩ := py_layL xs h2.2
    refine ⟨p :: ps, by simp only [D.pyL, e, es], ?_, ?_⟩
    · simp only [PyData.canLayAll0, a1, b1, Bool.and_self]
    · simp only [PyData.depthAll, D.dpL]
      omega
end
structure Cmp (x : D) : Prop where
  lay : x.lay = true
  dp : x.dp ≤ 60
theorem Cmp.shaped {x : D} (h : Cmp x) : ∃ p, x.py = some p ∧ SeqAt.shaped p = true := by
  obtain ⟨p, e, h2, h5⟩ := py_lay x h.lay
  refine ⟨p, e, ?_⟩
  unfold SeqAt.shaped
  rw [h2, h5, decide_eq_true (Nat.le_trans h.dp (by decide))]
  rfl
def fEq (x y z : D) : Prop := match x, y with
  | .int i, .int j => z = .bl (decide (i = j))
  | .str i, .str j => z = .bl (decide (i = j))
  | .bl i, .bl j => z = .bl (decide (i = j))
  | x, y => Cmp x ∧ Cmp y ∧ z = .bl (D.eqv x y)
def fNe (x y z : D) : Prop := match x, y with
  | .int i, .int j => z = .bl (!decide (i = j))
  | .str i, .str j => z = .bl (!decide (i = j))
  | .bl i, .bl j => z = .bl (!decide (i = j))
  | x, y => Cmp x ∧ Cmp y ∧ z = .bl (!D.eqv x y)
theorem eqv_of {x y : D} {p q : PyData} (h : x.py = some p) (h' : y.py = some q) : D.eqv x y = PyData.eqv p q := by
  unfold D.eqv
  rw [h, h']
def rEq2 (K : PySem.W.Frag) : R2 := fun x y H Q => rEq x y H Q ∨ rEqD K x y H Q
def rNe2 (K : PySem.W.Frag) : R2 := fun x y H Q => rNe x y H Q ∨ rNeD K x y H Q
theorem od_eq0 {K : PySem.W.Frag} : OpD K (rEqD K) (fun x y z => Cmp x ∧ Cmp y ∧ z = .bl (D.eqv x y)) := fun F Hd H G v u x y z Q s rv ru ⟨cx, cy, ez⟩ k => by
  subst ez
  obtain ⟨p, ep, sp⟩ := cx.shaped
  obtain ⟨q, eq, sq⟩ := cy.shaped
  refine ⟨p, q, rp_dp s.sub x rv ep, rp_dp s.sub y ru eq, sp, sq, ?_⟩
  rw [← eqv_of ep eq]
  exact k _ H Hd (Ex.refl _) s (.bl _)
theorem od_ne0 {K : PySem.W.Frag} : OpD K (rNeD K) (fun x y z => Cmp x ∧ Cmp y ∧ z = .bl (!D.eqv x y)) := fun F Hd H G v u x y z Q s rv ru ⟨cx, cy, ez⟩ k => by
  subst ez
  obtain ⟨p, ep, sp⟩ := cx.shaped
  obtain ⟨q, eq, sq⟩ := cy.shaped
  refine ⟨p, q, rp_dp s.sub x rv ep, rp_dp s.sub y ru eq, sp, sq, ?_⟩
  rw [← eqv_of ep eq]
  exact k _ H Hd (Ex.refl _) s (.bl _)
theorem vint {i j : Int} : decide (V.int i = V.int j) = decide (i = j) := decide_eq_decide.mpr ⟨fun h => by injection h, fun h => by rw [h]⟩
theorem vstr {i j : Str} : decide (V.str i = V.str j) = decide (i = j) := decide_eq_decide.mpr ⟨fun h => by injection h, fun h => by rw [h]⟩
theorem vbl {i j : Bool} : decide (V.bl i = V.bl j) = decide (i = j) := decide_eq_decide.mpr ⟨fun h => by injection h, fun h => by rw [h]⟩
theorem od_eq {K : PySem.W.Frag} : OpD K (rEq2 K) fEq := fun F Hd H G v u x y z Q s rv ru f k => by
  unfold fEq at f
  split at f
  · subst f; cases rv; cases ru
    exact .inl ⟨rfl, by rw [vint]; exact k _ H Hd (Ex.refl _) s (.bl _)⟩
  · subst f; cases rv; cases ru
    exact .inl ⟨rfl, by rw [vstr]; exact k _ H Hd (Ex.refl _) s (.bl _)⟩
  · subst f; cases rv; cases ru
    exact .inl ⟨rfl, by rw [vbl]; exact k _ H Hd (Ex.refl _) s (.bl _)⟩
  · exact .inr (od_eq0 F Hd H G v u _ _ z Q s rv ru f k)
theorem od_ne {K : PySem.W.Frag} : OpD K (rNe2 K) fNe := fun F Hd H G v u x y z Q s rv ru f k => by
  unfold fNe at f
  split at f
  · subst f; cases rv; cases ru
    exact .inl ⟨rfl, by rw [vint]; exact k _ H Hd (Ex.refl _) s (.bl _)⟩
  · subst f; cases rv; cases ru
    exact .inl ⟨rfl, by rw [vstr]; exact k _ H Hd (Ex.refl _) s (.bl _)⟩
  · subst f; cases rv; cases ru
    exact .inl ⟨rfl, by rw [vbl]; exact k _ H Hd (Ex.refl _) s (.bl _)⟩
  · exact .inr (od_ne0 F Hd H G v u _ _ z Q s rv ru f k)
section
variable {X : Cx}
theorem op_eq2 (hu : X.A.units + 64 < cLine) : OpR X (compareOp .Eq) (rEq2 X.K) := op_eq.or (op_eqD hu)
theorem op_ne2 (hu : X.A.units + 64 < cLine) : OpR X (compareOp .NotEq) (rNe2 X.K) := op_ne.or (op_neD hu)
end
def rRepr0 (K : PySem.W.Frag) : List V → Hp → VK → Prop := fun vs H Q => ∃ (v : V) (p : PyData), vs = [v] ∧ Dp K H v p ∧ p.showable = true ∧ p.shown.length ≤ sizeLine ∧ p.depth ≤ 60 ∧ p.hasDict = false ∧ Q (.str p.shown) H
def rRepr (K : PySem.W.Frag) : List V → Hp → VK → Prop := fun vs H Q => rRepr0 K vs H Q ∨ ∃ a, vs = [.ref a] ∧ H a = some (.dK []) ∧ Q (.str "{}") H
section
variable {X : Cx}
theorem call_repr0 (hg : X.A.guards = some []) (hu : X.A.units + 64 < cLine) : CallR X (.builtin "repr") (rRepr0 X.K) := by
  intro pins s σ H vs us Q I r h
  obtain ⟨v, p, rfl, hd, h1, h2, h3, h4, q⟩ := h
  obtain ⟨u, rfl, ru⟩ := vals1 r
  obtain ⟨as, rd⟩ := Dp.reads I p v u hd ru
  have fin : ∀ {s' : Shared} {t : Tok}, Inv X pins σ H s' → EP X pins σ Q (.str p.shown t) s' := fun {s' t} I' => ⟨.str _, H, I', ⟨_, rfl⟩, q⟩
  cases hd with
  | non => cases ru; exact PySem.P.repr_of_none (fin (I.tok _))
  | bl b => cases ru; exact PySem.P.repr_of_bool (by have e := fin (t := s.toks) (I.tok (s.toks + 1)); cases b <;> exact e)
  | int i =>
    obtain ⟨t, rfl⟩ := ru
    exact PySem.P.repr_of_int (of_decide_eq_true h1) (fin (I.tok _))
  | str x =>
    obtain ⟨t, rfl⟩ := ru
    exact PySem.P.repr_of_str (fin (I.tok _)) h2
  | lst _ _ =>
    cases ru
    exact repr_of_reads' rd h1 (PyData.noDict_hsm h4) hg (by omega) (fun _ _ e => e) (fun h' t tk k => fin (I.kept k)) h2
  | tup _ _ =>
    cases ru
    exact repr_of_reads' rd h1 (PyData.noDict_hsm h4) hg (by omega) (fun _ _ e => e) (fun h' t tk k => fin (I.kept k)) h2
theorem call_repr (hg : X.A.guards = some []) (hu : X.A.units + 64 < cLine) : CallR X (.builtin "repr") (rRepr X.K) := by
  intro pins s σ H vs us Q I r h
  rcases h with h | ⟨a, rfl, ha, q⟩
  · exact call_repr0 hg hu pins s σ H vs us Q I r h
  · obtain ⟨u, rfl, ru⟩ := vals1 r
    cases (show u = Value.ref a from ru)
    obtain ⟨_, hs, vs2, r2, o, es, ep, h1, h2, h3, _, h5, _⟩ := (show ObjOk X.prog X.w H s.heap a (.dK []) from I.hok a _ ha)
    cases r2
    have e0 : es.toList = [] := by
      generalize es.toList = l at h5
      cases h5
      rfl
    have rd : Reads s.heap (.ref a) (.dict []) (a :: [] ++ []) := .dict h1 h2.1 h3 (by rw [e0]; exact .nil) (by rw [e0]; exact .nil)
    refine repr_of_reads' rd rfl (fun _ z => ?_) hg (by show X.A.units + (0 + 1 + 1) < cLine; omega) (fun _ _ e => e) (fun h' t tk k => ⟨.str "{}", H, I.kept k, ⟨t, rfl⟩, q⟩) (by decide)
    have z2 : a = sysModules := (List.mem_singleton.mp z).symm
    rw [z2] at hs
    simp at hs
end
end DL
namespace DL
open PySem PySem.Spec PyProof.Rows L2 Evl
variable [TabC]
section
variable {K : PySem.W.Frag} {F : Gm} {Hd H : Hp} {G : Gm} {v : V} {x : D} {ds : List D}
theorem LstAt.sq (s : Sim K F Hd H G) (r : Rp K Hd v x) (h : LstAt G x ds) : ∃ a xs, v = .ref a ∧ SqL K H a xs ∧ RpL K Hd xs ds := by
  rcases h with rfl | ⟨a, rfl, h⟩
  · cases r with
    | lst q r => exact ⟨_, _, rfl, ex_l s.sub q, r⟩
  · cases r
    obtain ⟨xs, h1, h2⟩ := s.hold a _ h
    exact ⟨a, xs, rfl, SqL.of h1, h2⟩
theorem SeqAt.sq (s : Sim K F Hd H G) (r : Rp K Hd v x) (h : SeqAt G x ds) : ∃ a xs, v = .ref a ∧ (SqL K H a xs ∨ SqT K H a xs) ∧ RpL K Hd xs ds := by
  rcases h with rfl | h
  · cases r with
    | tup q r => exact ⟨_, _, rfl, .inr (ex_t s.sub q), r⟩
  · obtain ⟨a, xs, e, q, r⟩ := h.sq s r
    exact ⟨a, xs, e, .inl q, r⟩
theorem seq_ref {a : Addr} (h : G a = some (.lst ds)) : SeqAt G (.ref a) ds := .inr (.inr ⟨a, rfl, h⟩)
end
section
variable {X : Cx} {B : Bs} {pos p : Pos} {a b c e : Expr} {es : List Expr} {da db dc : DE} {dA : DA} {ta tb : DT}
def CalD (K : PySem.W.Frag) (r : List V → Hp → VK → Prop) (f : Gm → List D → D → Prop) : Prop :=
  ∀ (F : Gm) (Hd H : Hp) (G : Gm) (vs : List V) (xs : List D) (z : D) (Q : VK), Sim K F Hd H G → RpL K Hd vs xs → f G xs z → (∀ w H' Hd', Ex Hd Hd' → Sim K F Hd' H' G → Rp K Hd' w z → Q w H') → r vs H Q
theorem cal_imp {K : PySem.W.Frag} {r : List V → Hp → VK → Prop} {f : Gm → List D → D → Prop} (hd : CalD K r f) {B : Bs} {dA : DA} : ∀ σ H Q, upE K B (dCal f dA) σ H Q → tCB r (upA K B dA) σ H Q := fun σ H Q ⟨ρ, Hd, G, R, at_, h, k⟩ =>
  ⟨ρ, Hd, G, _, at_, h, fun vs H1 Hd1 xs G1 e1 s1 r1 ⟨z, hf, hz⟩ => hd B.f Hd1 H1 G1 vs xs z _ s1 r1 hf fun w H3 Hd3 e3 s3 r3 => k w H3 Hd3 z G1 (e1.trans e3) s3 r3 hz⟩
theorem pd_callB {id : String} {r : List V → Hp → VK → Prop} {f : Gm → List D → D → Prop} {x : Str} (hc : CallR X (.builtin id) r) (hd : CalD X.K r f) (hg : Gl X x) (hm : X.mg x = none) (hv : bootBuiltins x = some (.builtin id)) (ha : PA X (e :: es) (upA X.K B dA))
    (hn : x ≠ "__name__" := by decide) (hdb : (x == ("__debug__" : Str)) = false := by decide)
    (he : starEach (e :: es) X.env = (false, eval e X.env) :: starEach es X.env := by rfl) (hpl : (backTo pos (starEach es X.env)).any (·.1) = false := by rfl) : PE X (.Call (.Name x p) (e :: es) [] pos) (upE X.K B (dCal f dA)) :=
  pe_imp (pe_callB hc hg hm hv ha hn hdb he hpl) (cal_imp hd)
theorem pd_callTy {T : String} {r : List V → Hp → VK → Prop} {f : Gm → List D → D → Prop} {x : Str} (hc : CallR X (.type T) r) (hd : CalD X.K r f) (hg : Gl X x) (hm : X.mg x = none) (hv : bootBuiltins x = some (.type T)) (ha : PA X (e :: es) (upA X.K B dA))
    (hn : x ≠ "__name__" := by decide) (hdb : (x == ("__debug__" : Str)) = false := by decide)
    (he : starEach (e :: es) X.env = (false, eval e X.env) :: starEach es X.env := by rfl) (hpl : (backTo pos (starEach es X.env)).any (·.1) = false := by rfl) : PE X (.Call (.Name x p) (e :: es) [] pos) (upE X.K B (dCal f dA)) :=
  pe_imp (pe_callTy hc hg hm hv ha hn hdb he hpl) (cal_imp hd)
theorem rpl1 {K : PySem.W.Frag} {Hd : Hp} {vs : List V} {x : D} (r : RpL K Hd vs [x]) : ∃ v, vs = [v] ∧ Rp K Hd v x := by
  cases r with
  | cons a b =>
    cases b
    exact ⟨_, rfl, a⟩
theorem rpl2 {K : PySem.W.Frag} {Hd : Hp} {vs : List V} {x y : D} (r : RpL K Hd vs [x, y]) : ∃ v u, vs = [v, u] ∧ Rp K Hd v x ∧ Rp K Hd u y := by
  cases r with
  | cons a b =>
    obtain ⟨u, rfl, h⟩ := rpl1 b
    exact ⟨_, _, rfl, a, h⟩
theorem cd_repr {K : PySem.W.Frag} : CalD K (rRepr K) fRepr := fun F Hd H G vs xs z Q s r ⟨x, ex, h, ez⟩ k => by
  subst ex ez
  obtain ⟨v, rfl, rv⟩ := rpl1 r
  rcases h with h | rfl
  · obtain ⟨q, e, h1, h2, h3, h4, h5⟩ := h.py
    refine .inl ⟨v, q, rfl, rp_dp s.sub x rv e, h1, h2, h3, h4, ?_⟩
    rw [← h5]
    exact k _ H Hd (Ex.refl _) s (.str _)
  · cases rv with
    | @dct a ks xs ds q l r2 =>
      cases r2
      exact .inr ⟨_, rfl, s.sub _ _ q, k _ H Hd (Ex.refl _) s (.str _)⟩
theorem cd_len {K : PySem.W.Frag} : CalD K (fun xs H Q => ∃ x n, xs = [x] ∧ LenV K x H n ∧ Q (.int n) H) fLen := fun F Hd H G vs xs z Q s r ⟨x, ex, h⟩ k => by
  subst ex
  obtain ⟨v, rfl, rv⟩ := rpl1 r
  rcases h with ⟨ds, h, rfl⟩ | ⟨y, rfl, h, rfl⟩
  · obtain ⟨a, ys, rfl, q, r2⟩ := h.sq s rv
    refine ⟨_, ys.length, rfl, ?_, by rw [r2.length]; exact k _ H Hd (Ex.refl _) s (.int _)⟩
    rcases q with q | q
    · exact .inl ⟨ys, q, rfl⟩
    · exact .inr ⟨ys, q, rfl⟩
  · cases rv
    exact ⟨_, y.length, rfl, ⟨h, rfl⟩, k _ H Hd (Ex.refl _) s (.int _)⟩
theorem pd_len {x : Str} (hx : x = "len") (hg : Gl X x) (hm : X.mg x = none) (ha : PE X e (upE X.K B da)) (he : starEach (e :: []) X.env = (false, eval e X.env) :: starEach [] X.env := by rfl) (hpl : (backTo pos (starEach [] X.env)).any (·.1) = false := by rfl) :
    PE X (.Call (.Name x p) (e :: []) [] pos) (upE X.K B (dCal fLen (dCons da dNil))) := by
  subst hx
  exact pd_callB call_len cd_len hg hm PySem.boot_len (pda_cons ha pda_nil he) (by decide) (by decide) he hpl
theorem cd_abs {K : PySem.W.Frag} : CalD K (fun xs H Q => ∃ i, xs = [.int i] ∧ Q (.int (if i < 0 then -i else i)) H) fAbs := fun F Hd H G vs xs z Q s r ⟨i, ex, ez⟩ k => by
  subst ex ez
  obtain ⟨v, rfl, rv⟩ := rpl1 r
  cases rv
  exact ⟨i, rfl, k _ H Hd (Ex.refl _) s (.int _)⟩
def fIntOf (_ : Gm) (xs : List D) (z : D) : Prop := (∃ i : Int, xs = [.int i] ∧ z = .int i) ∨ ∃ b : Bool, xs = [.bl b] ∧ z = .int (if b then 1 else 0)
theorem cd_int {K : PySem.W.Frag} : CalD K (fun xs H Q => (∃ i, xs = [.int i] ∧ Q (.int i) H) ∨ ∃ k, xs = [.bl k] ∧ Q (.int (if k then 1 else 0)) H) fIntOf := fun F Hd H G vs xs z Q s r h k => by
  rcases h with ⟨i, ex, ez⟩ | ⟨b, ex, ez⟩
  · subst ex ez
    obtain ⟨v, rfl, rv⟩ := rpl1 r
    cases rv
    exact .inl ⟨i, rfl, k _ H Hd (Ex.refl _) s (.int _)⟩
  · subst ex ez
    obtain ⟨v, rfl, rv⟩ := rpl1 r
    cases rv
    exact .inr ⟨b, rfl, k _ H Hd (Ex.refl _) s (.int _)⟩
def fTupOf (G : Gm) (xs : List D) (z : D) : Prop := ∃ x ds, xs = [x] ∧ SeqAt G x ds ∧ z = .tup ds
theorem cd_tuple {K : PySem.W.Frag} : CalD K (fun xs H Q => ∃ p ys, xs = [.ref p] ∧ ((SqL K H p ys ∧ ∀ l, H l = none → Q (.ref l) (upd H l (.tup ys))) ∨ (SqT K H p ys ∧ Q (.ref p) H))) fTupOf := fun F Hd H G vs xs z Q s r ⟨x, ds, ex, h, ez⟩ k => by
  subst ex ez
  obtain ⟨v, rfl, rv⟩ := rpl1 r
  rcases h with rfl | h
  · cases rv with
    | tup q r2 => exact ⟨_, _, rfl, .inr ⟨ex_t s.sub q, k _ H Hd (Ex.refl _) s (.tup q r2)⟩⟩
  · obtain ⟨a, ys, rfl, q, r2⟩ := h.sq s rv
    exact ⟨a, ys, rfl, .inl ⟨q, fun l hl => k _ _ _ (s.exn hl) (s.new hl) (.tup st_new (r2.mono (s.exn hl)))⟩⟩
def fLstOf (G : Gm) (xs : List D) (z : D) : Prop := ∃ x ds, xs = [x] ∧ SeqAt G x ds ∧ z = .lst ds
theorem cd_list {K : PySem.W.Frag} : CalD K (fun xs H Q => ∃ p ys, xs = [.ref p] ∧ (SqL K H p ys ∨ SqT K H p ys) ∧ ∀ l, H l = none → Q (.ref l) (upd H l (.lst ys))) fLstOf := fun F Hd H G vs xs z Q s r ⟨x, ds, ex, h, ez⟩ k => by
  subst ex ez
  obtain ⟨v, rfl, rv⟩ := rpl1 r
  obtain ⟨a, ys, rfl, q, r2⟩ := h.sq s rv
  exact ⟨a, ys, rfl, q, fun l hl => k _ _ _ (s.exn hl) (s.new hl) (.lst sq_new (r2.mono (s.exn hl)))⟩
def fAny (G : Gm) (xs : List D) (z : D) : Prop := ∃ x, ∃ bs : List Bool, xs = [x] ∧ LstAt G x (bs.map D.bl) ∧ z = .bl (bs.any id)
theorem rp_bls {K : PySem.W.Frag} {H : Hp} : ∀ {bs : List Bool} {vs : List V}, RpL K H vs (bs.map D.bl) → vs = bs.map V.bl
  | [], _, r => by cases r; rfl
  | b :: bs, _, r => by
    cases r with
    | cons x y =>
      cases x
      rw [rp_bls y]
      rfl
theorem cd_all {K : PySem.W.Frag} : CalD K (rAll K) fAll := fun F Hd H G vs xs z Q s r ⟨x, bs, ex, h, ez⟩ k => by
  subst ex ez
  obtain ⟨v, rfl, rv⟩ := rpl1 r
  obtain ⟨a, ys, rfl, q, r2⟩ := h.sq s rv
  rw [rp_bls r2] at q
  exact ⟨a, bs, rfl, q, k _ H Hd (Ex.refl _) s (.bl _)⟩
def D.tyn : D → Option String
  | .non => some "NoneType"
  | .bl _ => some "bool"
  | .int _ => some "int"
  | .str _ => some "str"
  | .tup _ => some "tuple"
  | .lst _ => some "list"
  | .dct _ _ => some "dict"
  | _ => none
theorem ty_of {K : PySem.W.Frag} {F : Gm} {Hd H : Hp} {G : Gm} {v : V} {x : D} {t : String} (s : Sim K F Hd H G) (r : Rp K Hd v x) (h : x.tyn = some t) : TyX K H v (.type t) := by
  cases r with
  | non => cases h; exact .base .non
  | bl b => cases h; exact .base (.bl b)
  | int i => cases h; exact .base (.int i)
  | str y => cases h; exact .base (.str y)
  | tup q _ =>
    cases h
    rcases ex_t s.sub q with (q | ⟨o, q⟩) | ⟨o, its, n, q, c, _⟩
    · exact .base (.tup q)
    · exact .fTuple q
    · exact .kTuple q c
  | lst q _ =>
    cases h
    rcases ex_l s.sub q with (q | ⟨o, q⟩) | ⟨o, its, n, q, c, _⟩
    · exact .base (.lst q)
    · exact .base (.frz q)
    · exact .kList q c
  | dct q _ _ => cases h; exact .base (.dK (s.sub _ _ q))
  | ty _ => cases h
  | ref _ => cases h
  | ins _ _ _ => cases h
  | exc _ _ _ _ => cases h
  | fnc _ => cases h
  | rng _ => cases h
def isK (t n : String) : Bool := t == n || (t == "bool" && n == "int")
theorem kit_is : ∀ t ∈ ["NoneType", "bool", "int", "str", "tuple", "list", "dict"], ∀ n ∈ ["int", "bool", "str", "list", "tuple", "dict"], kitB t n = some (isK t n) := by decide +kernel
theorem tyn_in {x : D} {t : String} (h : x.tyn = some t) : t ∈ ["NoneType", "bool", "int", "str", "tuple", "list", "dict"] := by
  cases x <;> cases h <;> decide
def fIsi (n : String) (_ : Gm) (xs : List D) (z : D) : Prop := ∃ x t, xs = [x, .ty n] ∧ x.tyn = some t ∧ z = .bl (isK t n)
theorem cd_isi {K : PySem.W.Frag} {n : String} (hn : n ∈ ["int", "bool", "str", "list", "tuple", "dict"]) : CalD K (rIsi K) (fIsi n) := fun F Hd H G vs xs z Q s r ⟨x, t, ex, h, ez⟩ k => by
  subst ex ez
  obtain ⟨v, u, rfl, rv, ru⟩ := rpl2 r
  cases ru
  exact ⟨v, .ty n, .type t, .type n, _, rfl, .ty n, ty_of s rv h, kit_ty (kit_is t (tyn_in h) n hn), k _ H Hd (Ex.refl _) s (.bl _)⟩
theorem pd_isi {n : String} {q : Pos} {m x : Str} (hx : x = "isinstance") (hn : n ∈ ["int", "bool", "str", "list", "tuple", "dict"]) (hg : Gl X x) (hm : X.mg x = none) (ha : PE X e (upE X.K B da)) (ht : PE X (.Name m q) (upE X.K B (dC (.ty n))))
    (he : starEach (e :: [.Name m q]) X.env = (false, eval e X.env) :: starEach [.Name m q] X.env := by rfl) (he2 : starEach ((.Name m q) :: []) X.env = (false, eval (.Name m q) X.env) :: starEach [] X.env := by rfl) (hpl : (backTo pos (starEach [.Name m q] X.env)).any (·.1) = false := by rfl) :
    PE X (.Call (.Name x p) (e :: [.Name m q]) [] pos) (upE X.K B (dCal (fIsi n) (dCons da (dCons (dC (.ty n)) dNil)))) := by
  subst hx
  exact pd_callB call_isi (cd_isi hn) hg hm (by decide +kernel) (pda_cons ha (pda_cons ht pda_nil he2) he) (by decide) (by decide) he hpl
def tTys (ns : List String) : TA := fun _ H Q => Q (ns.map V.ty) H
theorem pty_nil : PA X [] (tTys []) := pa_imp pa_nil fun _ _ _ h => h
theorem pty_cons {n : String} {ns : List String} (ht : PE X e (tC (.ty n))) (hr : PA X es (tTys ns)) (hs : starEach (e :: es) X.env = (false, eval e X.env) :: starEach es X.env := by rfl) : PA X (e :: es) (tTys (n :: ns)) := pa_imp (pa_cons ht hr hs) fun _ _ _ h => h
theorem pe_ty {x : Str} {n : String} {q : Pos} (hg : Gl X x) (hm : X.mg x = none) (hv : bootBuiltins x = some (.type n)) (hn : x ≠ "__name__" := by decide) (hd : (x == ("__debug__" : Str)) = false := by decide) : PE X (.Name x q) (tC (.ty n)) := pe_bltn hg hm hv rfl hn hd
theorem paired_ty : ∀ ns : List String, Paired ClsV (ns.map V.ty) (ns.map Value.type)
  | [] => .nil
  | n :: ns => .cons (.ty n) (paired_ty ns)
theorem kit_any {K : PySem.W.Frag} {t : String} (ht : t ∈ ["NoneType", "bool", "int", "str", "tuple", "list", "dict"]) : ∀ ns : List String, (∀ n ∈ ns, n ∈ ["int", "bool", "str", "list", "tuple", "dict"]) → PySem.W.kitAny K (.type t) (ns.map Value.type) = some (ns.any (isK t))
  | [], _ => rfl
  | n :: ns, h => by
    have h1 := kit_is t ht n (h n List.mem_cons_self)
    refine kitAny_cons (kit_ty h1) (fun hb => ?_) (fun hb => ?_)
    · rw [kit_any ht ns fun m hm => h m (List.mem_cons_of_mem _ hm)]
      rw [List.any_cons, hb, Bool.false_or]
    · rw [List.any_cons, hb, Bool.true_or]
def dIsiT (ns : List String) (da : DE) : DE := fun ρ G R => da ρ G fun x G1 => ∃ t, x.tyn = some t ∧ R (.bl (ns.any (isK t))) G1
theorem pd_isiT {ns : List String} {x1 : Nat} {q : Pos} {x : Str} (hx : x = "isinstance") (hn : ∀ n ∈ ns, n ∈ ["int", "bool", "str", "list", "tuple", "dict"]) (hz : ns.length ≤ sizeLine) (hg : Gl X x) (hm : X.mg x = none) (ha : PE X e (upE X.K B da)) (ht : PA X es (tTys ns))
    (he : starEach (e :: [.Tuple es x1 q]) X.env = (false, eval e X.env) :: starEach [.Tuple es x1 q] X.env := by rfl) (he2 : starEach ((.Tuple es x1 q) :: []) X.env = (false, eval (.Tuple es x1 q) X.env) :: starEach [] X.env := by rfl) (hpl : (backTo pos (starEach [.Tuple es x1 q] X.env)).any (·.1) = false := by rfl) :
    PE X (.Call (.Name x p) (e :: [.Tuple es x1 q]) [] pos) (upE X.K B (dIsiT ns da)) := by
  subst hx
  refine pe_imp (pe_callB call_isiT hg hm (by decide +kernel) (pa_cons ha (pa_cons (pe_tup ht) pa_nil he2) he) (by decide) (by decide) he hpl) fun σ H Q ⟨ρ, Hd, G, R, at_, h, k⟩ => ?_
  refine ⟨ρ, Hd, G, _, at_, h, fun v H1 Hd1 x G1 e1 s1 r1 ⟨t, et, hr⟩ => ?_⟩
  refine ⟨by rw [List.length_map]; exact hz, fun pp hp => ?_⟩
  exact ⟨v, pp, ns.map V.ty, .type t, ns.map Value.type, _, rfl, upd_same, paired_ty ns, ty_of (s1.side hp) r1 et, kit_any (tyn_in et) ns hn, k _ _ Hd1 _ G1 e1 (s1.side hp) (.bl _) hr⟩
theorem rpl_atI {K : PySem.W.Frag} {H : Hp} {vs : List V} {ds : List D} {i : Int} {d : D} (r : RpL K H vs ds) (h : atI ds i = some d) : ∃ v, atI vs i = some v ∧ Rp K H v d := by
  unfold atI at h ⊢
  rw [r.length]
  cases e : ixN ds.length i with
  | none =>
    rw [e] at h
    cases h
  | some j =>
    rw [e] at h
    exact r.at h
theorem pd_ix (ha : PE X a (upE X.K B da)) (hb : PE X b (upE X.K B db)) (hs : PlainIx b) : PE X (.Subscript a b pos) (upE X.K B (dIx da db)) := pe_imp (pe_ix ix_seq ha hb hs) fun σ H Q ⟨ρ, Hd, G, R, at_, h, k⟩ =>
  ⟨ρ, Hd, G, _, at_, h, fun v H1 Hd1 x G1 e1 s1 r1 h1 => ⟨ρ, Hd1, G1, _, at_.step e1 s1, h1, fun u H2 Hd2 y G2 e2 s2 r2 ⟨z, hf, hz⟩ => by
    have fin : ∀ w, Rp X.K Hd2 w z → Q w H2 := fun w r => k w H2 Hd2 z G2 (e1.trans e2) s2 r hz
    rcases hf with ⟨ds, i, hs, rfl, hi⟩ | ⟨t, i, cc, rfl, rfl, hz2, hi, rfl⟩
    · cases r2
      obtain ⟨q, xs, rfl, hq, r3⟩ := hs.sq s2 (r1.mono e2)
      obtain ⟨w, hw, rw_⟩ := rpl_atI r3 hi
      rcases hq with hq | hq
      · exact .inl ⟨q, xs, i, w, rfl, rfl, hq, hw, fin w rw_⟩
      · exact .inr (.inl ⟨q, xs, i, w, rfl, rfl, hq, hw, fin w rw_⟩)
    · cases r2
      cases r1
      exact .inr (.inr ⟨t, i, cc, rfl, rfl, hz2, hi, fin _ (.str _)⟩)⟩⟩
def dAndV (da db : DE) : DE := fun ρ G R => da ρ G fun x G1 => ∃ k, x = .bl k ∧ if k = true then db ρ G1 R else R (.bl false) G1
def dOrV (da db : DE) : DE := fun ρ G R => da ρ G fun x G1 => ∃ k, x = .bl k ∧ if k = true then R (.bl true) G1 else db ρ G1 R
def dNotV (da : DE) : DE := fun ρ G R => da ρ G fun x G1 => ∃ k, x = .bl k ∧ R (.bl (!k)) G1
variable {rest : List Expr} {A2 B2 : Expr}
theorem pd_one {op : BoolOp} (h : PE X a (upE X.K B da)) : PE X (.BoolOp op [a] pos) (upE X.K B da) := pe_one h
theorem pd_and (ha : PE X a (upE X.K B da)) (hb : PE X (.BoolOp .And (b :: rest) pos) (upE X.K B db)) : PE X (.BoolOp .And (a :: b :: rest) pos) (upE X.K B (dAndV da db)) := pe_imp (pe_and ha hb) fun σ H Q ⟨ρ, Hd, G, R, at_, h, k⟩ =>
  ⟨ρ, Hd, G, _, at_, h, fun v H1 Hd1 x G1 e1 s1 r1 ⟨t, et, h1⟩ => by
    subst et
    cases r1
    refine ⟨t, rfl, ?_⟩
    cases t with
    | true => exact ⟨ρ, Hd1, G1, R, at_.step e1 s1, h1, k.mono e1⟩
    | false => exact k _ H1 Hd1 _ G1 e1 s1 (.bl _) h1⟩
theorem pd_or (ha : PE X a (upE X.K B da)) (hb : PE X (.BoolOp .Or (b :: rest) pos) (upE X.K B db)) : PE X (.BoolOp .Or (a :: b :: rest) pos) (upE X.K B (dOrV da db)) := pe_imp (pe_or ha hb) fun σ H Q ⟨ρ, Hd, G, R, at_, h, k⟩ =>
  ⟨ρ, Hd, G, _, at_, h, fun v H1 Hd1 x G1 e1 s1 r1 ⟨t, et, h1⟩ => by
    subst et
    cases r1
    refine ⟨t, rfl, ?_⟩
    cases t with
    | true => exact k _ H1 Hd1 _ G1 e1 s1 (.bl _) h1
    | false => exact ⟨ρ, Hd1, G1, R, at_.step e1 s1, h1, k.mono e1⟩⟩
theorem pd_not (ha : PE X a (upE X.K B da)) : PE X (.UnaryOp .Not a pos) (upE X.K B (dNotV da)) := pe_imp (pe_not ha) fun σ H Q ⟨ρ, Hd, G, R, at_, h, k⟩ =>
  ⟨ρ, Hd, G, _, at_, h, fun v H1 Hd1 x G1 e1 s1 r1 ⟨t, et, h1⟩ => by
    subst et
    cases r1
    exact ⟨t, rfl, k _ H1 Hd1 _ G1 e1 s1 (.bl _) h1⟩⟩
def dAnd (t u : DT) : DT := fun ρ G R => t ρ G fun k G1 => if k = true then u ρ G1 R else R false G1
def dOr (t u : DT) : DT := fun ρ G R => t ρ G fun k G1 => if k = true then R true G1 else u ρ G1 R
def dNot (t : DT) : DT := fun ρ G R => t ρ G fun k G1 => R (!k) G1
theorem pwd_and1 (ha : PT X a (upT X.K B ta)) : PW X (.BoolOp .And [a] pos) (upT X.K B ta) := pw_and1 ha
theorem pwd_or1 (ha : PT X a (upT X.K B ta)) : PW X (.BoolOp .Or [a] pos) (upT X.K B ta) := pw_or1 ha
theorem pwd_and (ha : PT X a (upT X.K B ta)) (hb : PW X (.BoolOp .And (b :: rest) pos) (upT X.K B tb)) : PW X (.BoolOp .And (a :: b :: rest) pos) (upT X.K B (dAnd ta tb)) := pw_imp (pw_and ha hb) fun σ H Q ⟨ρ, Hd, G, R, at_, h, k⟩ =>
  ⟨ρ, Hd, G, _, at_, h, fun t H1 Hd1 G1 e1 s1 h1 => by
    cases t with
    | true => exact ⟨ρ, Hd1, G1, R, at_.step e1 s1, h1, k.mono e1⟩
    | false => exact k _ H1 Hd1 G1 e1 s1 h1⟩
theorem pwd_or (ha : PT X a (upT X.K B ta)) (hb : PW X (.BoolOp .Or (b :: rest) pos) (upT X.K B tb)) : PW X (.BoolOp .Or (a :: b :: rest) pos) (upT X.K B (dOr ta tb)) := pw_imp (pw_or ha hb) fun σ H Q ⟨ρ, Hd, G, R, at_, h, k⟩ =>
  ⟨ρ, Hd, G, _, at_, h, fun t H1 Hd1 G1 e1 s1 h1 => by
    cases t with
    | true => exact k _ H1 Hd1 G1 e1 s1 h1
    | false => exact ⟨ρ, Hd1, G1, R, at_.step e1 s1, h1, k.mono e1⟩⟩
theorem ptd_not (ha : PT X a (upT X.K B ta)) : PT X (.UnaryOp .Not a pos) (upT X.K B (dNot ta)) := pt_imp (pt_not ha) fun σ H Q ⟨ρ, Hd, G, R, at_, h, k⟩ =>
  ⟨ρ, Hd, G, _, at_, h, fun t H1 Hd1 G1 e1 s1 h1 => k _ H1 Hd1 G1 e1 s1 h1⟩
def dIf (t : DT) (da db : DE) : DE := fun ρ G R => t ρ G fun k G1 => if k = true then da ρ G1 R else db ρ G1 R
theorem pd_if (hc : PT X c (upT X.K B ta)) (ha : PE X a (upE X.K B da)) (hb : PE X b (upE X.K B db)) : PE X (.IfExp c a b pos) (upE X.K B (dIf ta da db)) := pe_imp (pe_ifExp hc ha hb) fun σ H Q ⟨ρ, Hd, G, R, at_, h, k⟩ =>
  ⟨ρ, Hd, G, _, at_, h, fun t H1 Hd1 G1 e1 s1 h1 => by
    cases t with
    | true => exact ⟨ρ, Hd1, G1, R, at_.step e1 s1, h1, k.mono e1⟩
    | false => exact ⟨ρ, Hd1, G1, R, at_.step e1 s1, h1, k.mono e1⟩⟩
def D.isN : D → Bool
  | .non => true
  | _ => false
def dIsN (da : DE) : DE := fun ρ G R => da ρ G fun x G1 => R (.bl x.isN) G1
def dNotN (da : DE) : DE := fun ρ G R => da ρ G fun x G1 => R (.bl (!x.isN)) G1
theorem non_iff {K : PySem.W.Frag} {H : Hp} {v : V} {x : D} (r : Rp K H v x) : decide (v = .non) = x.isN := by
  cases r <;> first | rfl | exact decide_eq_false (fun z => nomatch z)
theorem isn_imp {K : PySem.W.Frag} : ∀ σ H Q, upE K B (dIsN da) σ H Q → tIsN (upE K B da) σ H Q := fun σ H Q ⟨ρ, Hd, G, R, at_, h, k⟩ =>
  ⟨ρ, Hd, G, _, at_, h, fun v H1 Hd1 x G1 e1 s1 r1 h1 => by
    show Q (.bl (decide (v = .non))) H1
    rw [non_iff r1]
    exact k _ H1 Hd1 _ G1 e1 s1 (.bl _) h1⟩
theorem notn_imp {K : PySem.W.Frag} : ∀ σ H Q, upE K B (dNotN da) σ H Q → tNotN (upE K B da) σ H Q := fun σ H Q ⟨ρ, Hd, G, R, at_, h, k⟩ =>
  ⟨ρ, Hd, G, _, at_, h, fun v H1 Hd1 x G1 e1 s1 r1 h1 => by
    show Q (.bl (!decide (v = .non))) H1
    rw [non_iff r1]
    exact k _ H1 Hd1 _ G1 e1 s1 (.bl _) h1⟩
theorem pd_isN {j : Nat} {pp : Pos} (ha : PE X a (upE X.K B da)) : PE X (.Compare a [.Is] [.Constant .none j pp] pos) (upE X.K B (dIsN da)) := pe_imp (pe_cmp (pc_isN ha) rfl) isn_imp
def dChain (f g : D → D → D → Prop) (da db dc : DE) : DE := fun ρ G R => da ρ G fun x G1 => db ρ G1 fun y G2 => ∃ k, f x y (.bl k) ∧ if k = true then dc ρ G2 fun z G3 => ∃ w, g y z w ∧ R w G3 else R (.bl false) G2
theorem chain_imp {K : PySem.W.Frag} {r r' : R2} {f g : D → D → D → Prop} (hd : OpD K r f) (hd' : OpD K r' g) : ∀ σ H Q, upE K B (dChain f g da db dc) σ H Q → tChain r r' (upE K B da) (upE K B db) (upE K B dc) σ H Q := fun σ H Q ⟨ρ, Hd, G, R, at_, h, k⟩ =>
  ⟨ρ, Hd, G, _, at_, h, fun v H1 Hd1 x G1 e1 s1 r1 h1 => ⟨ρ, Hd1, G1, _, at_.step e1 s1, h1, fun u H2 Hd2 y G2 e2 s2 r2 ⟨t, hf, hz⟩ =>
    hd B.f Hd2 H2 G2 v u x y (.bl t) _ s2 (r1.mono e2) r2 hf fun w H3 Hd3 e3 s3 r3 => by
      cases r3
      refine ⟨t, rfl, ?_⟩
      cases t with
      | false => exact k _ H3 Hd3 _ G2 ((e1.trans e2).trans e3) s3 (.bl _) hz
      | true => exact ⟨ρ, Hd3, G2, _, (at_.step (e1.trans e2) s2).step e3 s3, hz, fun w4 H4 Hd4 z G4 e4 s4 r4 ⟨w5, hg, h5⟩ =>
          hd' B.f Hd4 H4 G4 u w4 y z w5 _ s4 (r2.mono (e3.trans e4)) r4 hg fun w6 H6 Hd6 e6 s6 r6 => k w6 H6 Hd6 w5 G4 ((((e1.trans e2).trans e3).trans e4).trans e6) s6 r6 h5⟩⟩⟩
theorem ptd_chain {op op' : CmpOp} {r r' : R2} {f g : D → D → D → Prop} (ho : OpR X (compareOp op) r) (ho' : OpR X (compareOp op') r') (hd : OpD X.K r f) (hd' : OpD X.K r' g) (ha : PE X a (upE X.K B da)) (hb : PE X b (upE X.K B db)) (hc : PE X c (upE X.K B dc))
    (hm : lastMarks [op, op'] [b, c] = false := by with_unfolding_all rfl) : PT X (.Compare a [op, op'] [b, c] pos) (upT X.K B (dTst (dChain f g da db dc))) := pt_imp (pt_chain ho ho' ha hb hc hm) fun σ H Q h => chain_imp hd hd' σ H _ (tst_imp σ H Q h)
def dDct0 : DE := fun _ G R => R (.dct [] []) G
def upO (K : PySem.W.Frag) (B : Bs) (d : DO) : TO := fun σ H Q => ∃ ρ Hd G R, At K B σ H ρ Hd G ∧ d ρ G R ∧ ∀ o H' Hd' G', Ex Hd Hd' → Sim K B.f Hd' H' G' → R o G' → Q o H'
theorem po_imp {eo : Option Expr} {t t' : TO} (h : PO X eo t) (i : ∀ σ H Q, t' σ H Q → t σ H Q) : PO X eo t' := ⟨fun pins s σ H Q I w => h.run pins s σ H Q I (i σ H Q w)⟩
theorem pod_none : PO X none (upO X.K B dNoP) := po_imp po_none fun σ H Q ⟨ρ, Hd, G, R, at_, h, k⟩ => k none H Hd G (Ex.refl _) at_.s h
theorem pod_some (h : PE X e (upE X.K B da)) : PO X (some e) (upO X.K B (dPart da)) := po_imp (po_some h) fun σ H Q ⟨ρ, Hd, G, R, at_, h, k⟩ =>
  ⟨ρ, Hd, G, _, at_, h, fun v H1 Hd1 x G1 e1 s1 r1 ⟨i, ex, h1⟩ => by
    subst ex
    cases r1
    exact ⟨i, rfl, k _ H1 Hd1 G1 e1 s1 h1⟩⟩
theorem rpl_cut {K : PySem.W.Frag} {H : Hp} {vs : List V} {ds : List D} (r : RpL K H vs ds) (lo hi : Option Int) : RpL K H (cutV vs lo hi) (cutD ds lo hi) := by
  unfold cutV cutD
  rw [r.length]
  exact (r.drop _).take _
theorem pd_slice {lo hi : Option Expr} {l h : DO} {p2 : Pos} (he : PE X e (upE X.K B da)) (hl : PO X lo (upO X.K B l)) (hh : PO X hi (upO X.K B h)) : PE X (.Subscript e (.Slice lo hi none p2) pos) (upE X.K B (dSl da l h)) :=
  pe_imp (pe_slice (sl_list.or sl_tup) he hl hh) fun σ H Q ⟨ρ, Hd, G, R, at_, h, k⟩ =>
    ⟨ρ, Hd, G, _, at_, h, fun v H1 Hd1 x G1 e1 s1 r1 h1 => ⟨ρ, Hd1, G1, _, at_.step e1 s1, h1, fun lo H2 Hd2 G2 e2 s2 h2 => ⟨ρ, Hd2, G2, _, (at_.step e1 s1).step e2 s2, h2, fun hi H3 Hd3 G3 e3 s3 ⟨z, hz, h3⟩ => by
      have e123 := (e1.trans e2).trans e3
      rcases hz with ⟨ds, hl, rfl⟩ | ⟨ds, rfl, rfl, hn⟩
      · obtain ⟨q, ys, rfl, hq, r3⟩ := hl.sq s3 (r1.mono (e2.trans e3))
        exact .inl ⟨q, ys, rfl, hq, fun pp hp => k _ _ _ _ G3 (e123.trans (s3.exn hp)) (s3.new hp) (.lst sq_new ((rpl_cut r3 lo hi).mono (s3.exn hp))) h3⟩
      · cases r1.mono (e2.trans e3) with
        | tup hq r3 =>
          refine .inr ⟨_, _, rfl, ex_t s3.sub hq, ?_, fun pp hp => k _ _ _ _ G3 (e123.trans (s3.exn hp)) (s3.new hp) (.tup st_new ((rpl_cut r3 lo hi).mono (s3.exn hp))) h3⟩
          rw [r3.length]
          exact hn⟩⟩⟩
end
end DL
namespace DL
open PySem PySem.Spec PyProof.Rows L2 Evl
variable [TabC]
section
variable {X : Cx} {B : Bs} {pos p : Pos} {a b c e : Expr} {es : List Expr} {da db dc de : DE} {dA : DA} {ta tb : DT} {st : Stmt} {sts : List Stmt} {s1 s2 : DS}
theorem psd_nil : PSs X [] (upS X.K B dNext) := pss_imp pss_nil fun D σ H ⟨ρ, Hd, G, E, at_, h, k⟩ => k.nx σ H Hd ρ G (Ex.refl _) at_.e at_.s h
theorem psd_cons (h1 : PS X st (upS X.K B s1)) (h2 : PSs X sts (upS X.K B s2)) : PSs X (st :: sts) (upS X.K B (dSeq s1 s2)) := pss_imp (pss_cons h1 h2) fun D σ H ⟨ρ, Hd, G, E, at_, h, k⟩ =>
  ⟨ρ, Hd, G, _, at_, h, ⟨fun σ' H' Hd' ρ' G' e r s h' => ⟨ρ', Hd', G', E, ⟨at_.b.trans e, r, s⟩, h', k.mono e⟩, k.rt, k.bk, k.ct⟩⟩
theorem psd_one (h1 : PS X st (upS X.K B s1)) : PSs X [st] (upS X.K B s1) := pss_one h1
def dRet (de : DE) : DS := fun E ρ G => de ρ G E.rt
theorem psd_ret (he : PE X e (upE X.K B de)) : PS X (.Return (some e) pos) (upS X.K B (dRet de)) := ps_imp (ps_ret he) fun D σ H ⟨ρ, Hd, G, E, at_, h, k⟩ => ⟨ρ, Hd, G, E.rt, at_, h, k.rt⟩
def dRetN : DS := fun E _ G => E.rt .non G
theorem psd_expr (he : PE X e (upE X.K B de)) (hs : swapsWith e none pos.line X.env = pure false := by rfl) : PS X (.Expr e pos) (upS X.K B (dDrop de)) := ps_imp (ps_expr he hs) fun D σ H ⟨ρ, Hd, G, E, at_, h, k⟩ =>
  ⟨ρ, Hd, G, _, at_, h, fun v H1 Hd1 x G1 e1 s1 r1 h1 => k.nx σ H1 Hd1 ρ G1 e1 (at_.e.mono e1) s1 h1⟩
def dIfS (t : DT) (s1 s2 : DS) : DS := fun E ρ G => t ρ G fun k G1 => if k = true then s1 E ρ G1 else s2 E ρ G1
theorem psd_if {A2 B2 : List Stmt} (hc : PT X c (upT X.K B ta)) (ha : PSs X A2 (upS X.K B s1)) (hb : PSs X B2 (upS X.K B s2)) : PS X (.If c A2 B2 pos) (upS X.K B (dIfS ta s1 s2)) := ps_imp (ps_if hc ha hb) fun D σ H ⟨ρ, Hd, G, E, at_, h, k⟩ =>
  ⟨ρ, Hd, G, _, at_, h, fun t H1 Hd1 G1 e1 s1 h1 => by
    cases t with
    | true => exact ⟨ρ, Hd1, G1, E, at_.step e1 s1, h1, k.mono e1⟩
    | false => exact ⟨ρ, Hd1, G1, E, at_.step e1 s1, h1, k.mono e1⟩⟩
def dNever : DS := fun _ _ _ => False
theorem psd_never : PS X st (upS X.K B dNever) := ps_imp ps_never fun D σ H ⟨ρ, Hd, G, E, at_, h, k⟩ => h
abbrev DG := D → En → Gm → (En → Gm → Prop) → Prop
abbrev DGs := List D → En → Gm → (En → Gm → Prop) → Prop
def KG (K : PySem.W.Frag) (F : Gm) (Hd : Hp) (js : List Nat) (σ : L2.St) (R : En → Gm → Prop) (Q : L2.St → Hp → Prop) : Prop := ∀ σ' H' Hd' ρ' G', Ex Hd Hd' → RpE K Hd' σ' ρ' → Sim K F Hd' H' G' → R ρ' G' → OnlyAt js σ σ' → Q σ' H'
theorem KN.kg {K : PySem.W.Frag} {F : Gm} {Hd : Hp} {js : List Nat} {σ : L2.St} {R : En → Gm → Prop} {Q : L2.St → Hp → Prop} (k : KN K F Hd R Q) : KG K F Hd js σ R Q := fun σ' H' Hd' ρ' G' e r s h _ => k σ' H' Hd' ρ' G' e r s h
def upG (K : PySem.W.Frag) (B : Bs) (js : List Nat) (g : DG) : TG := fun v σ H Q => ∃ x ρ Hd G R, At K B σ H ρ Hd G ∧ Rp K Hd v x ∧ g x ρ G R ∧ KG K B.f Hd js σ R Q
def upGs (K : PySem.W.Frag) (B : Bs) (js : List Nat) (g : DGs) : TGs := fun vs σ H Q => ∃ xs ρ Hd G R, At K B σ H ρ Hd G ∧ RpL K Hd vs xs ∧ g xs ρ G R ∧ KG K B.f Hd js σ R Q
theorem pg_imp {t t' : TG} (h : PG X e t) (i : ∀ v σ H Q, t' v σ H Q → t v σ H Q) : PG X e t' := ⟨fun pins s σ H v u Q I r w => h.run pins s σ H v u Q I r (i v σ H Q w)⟩
theorem pgs_imp {t t' : TGs} (h : PGs X es t) (i : ∀ v σ H Q, t' v σ H Q → t v σ H Q) : PGs X es t' := ⟨fun pins s σ H v u Q I r w => h.run pins s σ H v u Q I r (i v σ H Q w)⟩
def gN (i : Nat) : DG := fun x ρ G R => R (ρ.set i (some x)) G
theorem only_set {σ : L2.St} {i : Nat} {v : Option V} : OnlyAt [i] σ (σ.set i v) := ⟨List.length_set, fun j hj => List.getElem?_set_ne fun z => hj (by rw [z]; exact List.mem_singleton_self _)⟩
theorem pgd_name {i : Nat} {x : Str} (hN : X.N.Nodup) (hi : X.N[i]? = some x) (hx : Loc X.env.scope x) (hf : X.fn x = true ∨ X.env.scope.names.lookup x = some .local := by first | exact .inl rfl | exact .inr rfl | assumption) : PG X (.Name x pos) (upG X.K B [i] (gN i)) :=
  pg_imp (pg_name hN hi hx hf) fun v σ H Q ⟨x, ρ, Hd, G, R, at_, r, h, k⟩ => k _ H Hd _ G (Ex.refl _) (at_.e.set i r) at_.s h only_set
def gNil : DGs := fun xs ρ G R => xs = [] ∧ R ρ G
def gCons (g : DG) (gs : DGs) : DGs := fun xs ρ G R => ∃ y ys, xs = y :: ys ∧ g y ρ G fun ρ' G' => gs ys ρ' G' R
theorem pgsd_nil : PGs X [] (upGs X.K B [] gNil) := pgs_imp pgs_nil fun v σ H Q ⟨xs, ρ, Hd, G, R, at_, r, ⟨ex, h⟩, k⟩ => by
  subst ex
  cases r
  exact ⟨rfl, k _ H Hd _ G (Ex.refl _) at_.e at_.s h ⟨rfl, fun _ _ => rfl⟩⟩
theorem pgsd_cons {g : DG} {gs : DGs} {js ks : List Nat} (h1 : PG X e (upG X.K B js g)) (h2 : PGs X es (upGs X.K B ks gs)) (hs : (assignEach (e :: es) X.env).map (·.2) = assign e X.env :: (assignEach es X.env).map (·.2) := by rfl) : PGs X (e :: es) (upGs X.K B (js ++ ks) (gCons g gs)) :=
  pgs_imp (pgs_cons h1 h2 hs) fun v σ H Q ⟨xs, ρ, Hd, G, R, at_, r, ⟨y, ys, ex, h⟩, k⟩ => by
    subst ex
    cases r with
    | cons a b =>
      exact ⟨_, _, rfl, y, ρ, Hd, G, _, at_, a, h, fun σ' H' Hd' ρ' G' e1 r1 s1 h1 o1 => ⟨ys, ρ', Hd', G', R, ⟨at_.b.trans e1, r1, s1⟩, b.mono e1, h1, fun σ2 H2 Hd2 ρ2 G2 e2 r2 s2 h2 o2 => k σ2 H2 Hd2 ρ2 G2 (e1.trans e2) r2 s2 h2 (o1.trans o2)⟩⟩
def gSeq (n : Nat) (gs : DGs) : DG := fun x ρ G R => ∃ xs, SeqAt G x xs ∧ xs.length = n ∧ gs xs ρ G R
theorem pg_or {t t' : TG} (h : PG X e t) (h' : PG X e t') : PG X e (fun v σ H Q => t v σ H Q ∨ t' v σ H Q) := ⟨fun pins s σ H v u Q I r w => w.elim (h.run pins s σ H v u Q I r) (h'.run pins s σ H v u Q I r)⟩
theorem pgd_seq {k n : Nat} {gs : DGs} {js : List Nat} (hc : X.calm = true) (h : PGs X es (upGs X.K B js gs)) (hn : (assignEach es X.env).length = n := by rfl) (hst : (assignEach es X.env).findIdx? (·.1) = none := by rfl) : PG X (.Tuple es k pos) (upG X.K B js (gSeq n gs)) :=
  pg_imp (pg_or (pg_tup hc h hn hst) (pg_lst hc h hn hst)) fun v σ H Q ⟨x, ρ, Hd, G, R, at_, r, ⟨xs, hs, hl, h⟩, k⟩ => by
    obtain ⟨q, ys, rfl, hq, r2⟩ := hs.sq at_.s r
    have e : ys.length = n := by rw [r2.length, hl]
    have w : upGs X.K B js gs ys σ H Q := ⟨xs, ρ, Hd, G, R, at_, r2, h, k⟩
    rcases hq with hq | hq
    · exact .inr ⟨q, ys, rfl, hq, e, w⟩
    · exact .inl ⟨q, ys, rfl, hq, e, w⟩
def dAsg (de : DE) (g : DG) : DS := fun E ρ G => de ρ G fun x G1 => g x ρ G1 E.nx
theorem asg_imp {K : PySem.W.Frag} {g : DG} {js : List Nat} : ∀ D σ H, upS K B (dAsg de g) D σ H → tAsg (upE K B de) (upG K B js g) D σ H := fun D σ H ⟨ρ, Hd, G, E, at_, h, k⟩ =>
  ⟨ρ, Hd, G, _, at_, h, fun v H1 Hd1 x G1 e1 s1 r1 h1 => ⟨x, ρ, Hd1, G1, _, at_.step e1 s1, r1, h1, (k.nx.mono e1).kg⟩⟩
theorem psd_asg {tg : Expr} {g : DG} {js : List Nat} (he : PE X e (upE X.K B de)) (hg : PG X tg (upG X.K B js g)) (hs : swapsWithSole [tg] e pos.line X.env = pure false := by rfl) (hw : swappedStores [tg] e X.env = pure none := by rfl)
    (h1 : (assignEach [tg] X.env).map (·.2) = [assign tg X.env] := by rfl) : PS X (.Assign [tg] e pos) (upS X.K B (dAsg de g)) := ps_imp (ps_asg he hg hs hw h1) asg_imp
theorem set_imp {K : PySem.W.Frag} {i : Nat} : ∀ D σ H, upS K B (dSet i de) D σ H → tAsg (upE K B de) (gName i) D σ H := fun D σ H ⟨ρ, Hd, G, E, at_, h, k⟩ =>
  ⟨ρ, Hd, G, _, at_, h, fun v H1 Hd1 x G1 e1 s1 r1 h1 => k.nx _ H1 Hd1 _ G1 e1 ((at_.e.mono e1).set i r1) s1 h1⟩
theorem psd_set {i : Nat} {x : Str} {pp : Pos} (hN : X.N.Nodup) (hi : X.N[i]? = some x) (hx : Loc X.env.scope x) (he : PE X e (upE X.K B de)) (hs : swapsWith e (some (.Name x pp)) pos.line X.env = pure false := by rfl)
    (hf : X.fn x = true ∨ X.env.scope.names.lookup x = some .local := by first | exact .inl rfl | exact .inr rfl | assumption) : PS X (.Assign [.Name x pp] e pos) (upS X.K B (dSet i de)) := ps_imp (ps_set hN hi hx he hs hf) set_imp
def dPar (i j : Nat) (dA : DA) : DS := fun E ρ G => dA ρ G fun xs G1 => ∃ x y, xs = [x, y] ∧ E.nx ((ρ.set i (some x)).set j (some y)) G1
theorem psd_par {i j : Nat} {x y : Str} {px py pt : Pos} {kt k2 : Nat} {pt2 : Pos} (hc : X.calm = true) (hN : X.N.Nodup) (hi : X.N[i]? = some x) (hj : X.N[j]? = some y) (hij : i ≠ j) (hx : X.env.scope.names.lookup x = some .local) (hy : X.env.scope.names.lookup y = some .local)
    (ha : PA X [a, b] (upA X.K B dA)) (hw : swappedStores [.Tuple [.Name x px, .Name y py] kt pt] (.Tuple [a, b] k2 pt2) X.env = pure (some [x, y])) (hs : swapsWithSole [.Tuple [.Name x px, .Name y py] kt pt] (.Tuple [a, b] k2 pt2) pos.line X.env = pure false := by rfl) :
    PS X (.Assign [.Tuple [.Name x px, .Name y py] kt pt] (.Tuple [a, b] k2 pt2) pos) (upS X.K B (dPar i j dA)) := ps_imp (ps_par hc hN hi hj hij hx hy ha hw hs) fun D σ H ⟨ρ, Hd, G, E, at_, h, k⟩ =>
  ⟨ρ, Hd, G, _, at_, h, fun vs H1 Hd1 xs G1 e1 s1 r1 ⟨x, y, ex, h1⟩ => by
    subst ex
    obtain ⟨v, u, rfl, rv, ru⟩ := rpl2 r1
    exact ⟨v, u, rfl, k.nx _ H1 Hd1 _ G1 e1 (((at_.e.mono e1).set i rv).set j ru) s1 h1⟩⟩
def dSetIx (de dobj di : DE) : DS := fun E ρ G => de ρ G fun x G1 => dobj ρ G1 fun o G2 => di ρ G2 fun i G3 => ∃ q ds k j, o = .ref q ∧ G3 q = some (.lst ds) ∧ i = .int k ∧ ixN ds.length k = some j ∧ E.nx ρ (gup G3 q (.lst (ds.set j x)))
theorem psd_setIx {o i : Expr} {dobj di : DE} {pp : Pos} (he : PE X e (upE X.K B de)) (ho : PE X o (upE X.K B dobj)) (hi : PE X i (upE X.K B di))
    (hs : swapsWithSole [.Subscript o i pp] e pos.line X.env = pure false := by rfl) (hw : swappedStores [.Subscript o i pp] e X.env = pure none := by rfl) (h1 : (assignEach [.Subscript o i pp] X.env).map (·.2) = [assign (.Subscript o i pp) X.env] := by rfl)
    (ha : ∀ v, assign (.Subscript o i pp) X.env v = (do
      let ov ← holding [v] (eval o X.env)
      let iv ← holding [v, ov] (eval i X.env)
      standAt pp
      holding [v, ov, iv] (setItem ov iv v)
      release [v, ov, iv] []) := by intro _; rfl) : PS X (.Assign [.Subscript o i pp] e pos) (upS X.K B (dSetIx de dobj di)) := ps_imp (ps_asg he (pg_sub ho hi set_list ha) hs hw h1) fun D σ H ⟨ρ, Hd, G, E, at_, h, k⟩ =>
  ⟨ρ, Hd, G, _, at_, h, fun v H1 Hd1 x G1 e1 s1 r1 h1 => ⟨ρ, Hd1, G1, _, at_.step e1 s1, h1, fun u H2 Hd2 y G2 e2 s2 r2 h2 => ⟨ρ, Hd2, G2, _, (at_.step e1 s1).step e2 s2, h2, fun w H3 Hd3 z G3 e3 s3 r3 ⟨q, ds, kk, j, ey, hg, ez, hj, h3⟩ => by
    subst ey ez
    cases r2
    cases r3
    obtain ⟨ys, hy, ry⟩ := s3.hold q _ hg
    refine ⟨q, ys, kk, j, rfl, rfl, hy, by rw [ry.length]; exact hj, ?_⟩
    have e123 := (e1.trans e2).trans e3
    exact k.nx _ _ Hd3 ρ _ e123 (at_.e.mono e123) (s3.put (n := .lst (ds.set j x)) hg ⟨_, upd_same, ry.set j (r1.mono (e2.trans e3))⟩) h3⟩⟩⟩
def dWhile (t : DT) (s : DS) : DS := fun E ρ G => ∃ W : Nat → En → Gm → Prop, (∃ m, W m ρ G) ∧ ∀ m ρ G, W m ρ G → t ρ G fun k G1 => if k = true then s { E with nx := fun ρ' G' => ∃ m', m' < m ∧ W m' ρ' G', ct := fun ρ' G' => ∃ m', m' < m ∧ W m' ρ' G', bk := E.nx } ρ G1 else E.nx ρ G1
theorem psd_while {body : List Stmt} (hp : PassesOwn (model X.prog X.w) X.A X.env X.xe) (hc : PT X c (upT X.K B ta)) (hb : PSs X body (upS X.K B s1)) : PS X (.While c body [] pos) (upS X.K B (dWhile ta s1)) := ps_imp (ps_while hp hc hb) fun D σ H ⟨ρ, Hd, G, E, at_, ⟨W, ⟨m, w0⟩, turn⟩, k⟩ => by
  refine ⟨fun m σ H => ∃ ρ Hd' G, At X.K B σ H ρ Hd' G ∧ Ex Hd Hd' ∧ W m ρ G, ⟨m, ρ, Hd, G, at_, Ex.refl _, w0⟩, ?_⟩
  rintro m σ H ⟨ρ, Hd1, G, at1, e0, w⟩
  refine ⟨ρ, Hd1, G, _, at1, turn m ρ G w, fun t H1 Hd2 G1 e1 s1 h1 => ?_⟩
  cases t with
  | false => exact k.nx σ H1 Hd2 ρ G1 (e0.trans e1) (at1.e.mono e1) s1 h1
  | true =>
    refine ⟨fun σ' H' => ∃ m', m' < m ∧ ∃ ρ Hd' G, At X.K B σ' H' ρ Hd' G ∧ Ex Hd Hd' ∧ W m' ρ G, fun σ' H' h => h, ρ, Hd2, G1, _, at1.step e1 s1, h1, ?_⟩
    have again : KN X.K B.f Hd2 (fun ρ' G' => ∃ m', m' < m ∧ W m' ρ' G') (fun σ' H' => ∃ m', m' < m ∧ ∃ ρ Hd' G, At X.K B σ' H' ρ Hd' G ∧ Ex Hd Hd' ∧ W m' ρ G) := fun σ' H' Hd3 ρ' G' e3 r3 s3 ⟨m', l, w'⟩ =>
      ⟨m', l, ρ', Hd3, G', ⟨(at1.b.trans e1).trans e3, r3, s3⟩, (e0.trans e1).trans e3, w'⟩
    exact ⟨again, (k.mono (e0.trans e1)).rt, (k.mono (e0.trans e1)).nx, again⟩
abbrev DI := En → Gm → (List D → Gm → Prop) → Prop
def upI (K : PySem.W.Frag) (B : Bs) (di : DI) : TI := fun σ H R => ∃ ρ Hd G S, At K B σ H ρ Hd G ∧ di ρ G S ∧ ∀ J H' Hd' xs G', Ex Hd Hd' → Sim K B.f Hd' H' G' → Walks K Hd' J xs → S xs G' → R J H'
theorem pi_imp {tg iter : Expr} {t t' : TI} (h : PI X tg iter t) (i : ∀ σ H R, t' σ H R → t σ H R) : PI X tg iter t' := ⟨fun pins s σ H R I w => h.run pins s σ H R I (i σ H R w)⟩
theorem walks_lst {K : PySem.W.Frag} {Hd : Hp} {q : Addr} {ys : List V} {xs : List D} (h : SqL K Hd q ys) (r : RpL K Hd ys xs) : Walks K Hd (Itl K q) xs := fun F i H2 Hd2 G2 e s => by
  have hH : SqL K H2 q ys := ex_l (e.trans s.sub) h
  refine ⟨fun d hd => ?_, fun hl => ⟨ys, hH, by rw [r.length]; exact hl⟩⟩
  obtain ⟨v, hv, rv⟩ := r.at hd
  refine ⟨⟨ys, v, hH, hv⟩, fun w H3 ⟨eH, hw⟩ => ?_⟩
  subst eH
  have e2 : v = w := Option.some.inj (hv.symm.trans (hw ys hH))
  subst e2
  exact ⟨Hd2, Ex.refl _, s, rv.mono e⟩
theorem walks_tup {K : PySem.W.Frag} {Hd : Hp} {q : Addr} {ys : List V} {xs : List D} (h : SqT K Hd q ys) (r : RpL K Hd ys xs) : Walks K Hd (Itt K q) xs := fun F i H2 Hd2 G2 e s => by
  have hH : SqT K H2 q ys := ex_t (e.trans s.sub) h
  refine ⟨fun d hd => ?_, fun hl => ⟨ys, hH, by rw [r.length]; exact hl⟩⟩
  obtain ⟨v, hv, rv⟩ := r.at hd
  refine ⟨⟨ys, v, hH, hv⟩, fun w H3 ⟨eH, hw⟩ => ?_⟩
  subst eH
  have e2 : v = w := Option.some.inj (hv.symm.trans (hw ys hH))
  subst e2
  exact ⟨Hd2, Ex.refl _, s, rv.mono e⟩
theorem walks_rng {K : PySem.W.Frag} {Hd : Hp} {lo : Int} {n : Nat} : Walks K Hd (Itr lo n) ((List.range n).map fun i : Nat => D.int (lo + i)) := fun F i H2 Hd2 G2 e s => by
  refine ⟨fun d hd => ?_, fun hl => by
    show n ≤ i
    simpa using hl⟩
  rw [List.getElem?_map] at hd
  by_cases hi : i < n
  · rw [List.getElem?_range hi] at hd
    cases hd
    refine ⟨hi, fun w H3 ⟨eH, hw⟩ => ?_⟩
    subst eH hw
    exact ⟨Hd2, Ex.refl _, s, .int _⟩
  · rw [List.getElem?_eq_none (by simpa using hi)] at hd
    cases hd
def iSeq (K : PySem.W.Frag) (tl : TE) : TI := fun σ H R => tl σ H fun x H1 => ∃ q, x = .ref q ∧ (((∃ xs, SqL K H1 q xs) ∧ R (Itl K q) H1) ∨ ((∃ xs, SqT K H1 q xs) ∧ R (Itt K q) H1))
theorem pi_seq {tg l : Expr} {tl : TE} (hl : PE X l tl) : PI X tg l (iSeq X.K tl) := by
  refine ⟨fun pins s σ H R I h => ?_⟩
  refine thn (hl.run pins s σ H _ I h) fun v s2 hv => ?_
  obtain ⟨x, H1, I1, rx, q, ex, hx⟩ := hv
  subst ex
  cases rx
  have fp : ∀ b ∈ [s2.heap.objs.size], FpOk X pins H1 b := fun b hb => by
    cases List.mem_singleton.mp hb
    exact I1.fpOk (Nat.le_refl _) (I1.hok.fresh (Nat.le_refl _))
  rcases hx with ⟨⟨xs, hq⟩, w⟩ | ⟨⟨xs, hq⟩, w⟩
  · obtain ⟨its, _, pl, _⟩ := I1.list hq
    refine wpAny_pyIter_list pl.isList ?_
    exact ⟨_, _, _, _, H1, rfl, I1.kept (t' := s2.toks) fun b o e => Heap.get?_push_of_some _ e, turn_list q _, ⟨_, Heap.get?_push_size _ rfl, rfl, rfl⟩, fp, w⟩
  · obtain ⟨its, _, pl, _⟩ := I1.tuple hq
    refine wpAny_pyIter_tuple (show s2.heap.IsTuple q its.toArray from pl) ?_
    exact ⟨_, _, _, _, H1, rfl, I1.kept (t' := s2.toks) fun b o e => Heap.get?_push_of_some _ e, turn_tuple q _, ⟨_, Heap.get?_push_size _ rfl, rfl, rfl⟩, fp, w⟩
def dISeq (de : DE) : DI := fun ρ G S => de ρ G fun x G1 => ∃ xs, (x = .lst xs ∨ x = .tup xs) ∧ S xs G1
theorem pid_seq {tg : Expr} (he : PE X e (upE X.K B de)) : PI X tg e (upI X.K B (dISeq de)) := pi_imp (pi_seq he) fun σ H R ⟨ρ, Hd, G, S, at_, h, k⟩ =>
  ⟨ρ, Hd, G, _, at_, h, fun v H1 Hd1 x G1 e1 s1 r1 ⟨xs, hx, h1⟩ => by
    rcases hx with rfl | rfl
    · cases r1 with
      | lst q r => exact ⟨_, rfl, .inl ⟨⟨_, ex_l s1.sub q⟩, k _ H1 Hd1 xs G1 e1 s1 (walks_lst q r) h1⟩⟩
    · cases r1 with
      | tup q r => exact ⟨_, rfl, .inr ⟨⟨_, ex_t s1.sub q⟩, k _ H1 Hd1 xs G1 e1 s1 (walks_tup q r) h1⟩⟩⟩
def rngD (lo : Int) (n : Nat) : List D := (List.range n).map fun i : Nat => D.int (lo + i)
def dIRng1 (da : DE) : DI := fun ρ G S => da ρ G fun x G1 => ∃ j, x = .int j ∧ -(2 ^ 62) ≤ j ∧ j < 2 ^ 62 ∧ S (rngD 0 j.toNat) G1
theorem pid_rng1 {tg : Expr} (hg : Gl X "range") (hm : X.mg "range" = none) (ha : PE X a (upE X.K B da)) (hs : starEach [a] X.env = [(false, eval a X.env)] := by rfl) : PI X tg (.Call (.Name "range" p) [a] [] pos) (upI X.K B (dIRng1 da)) :=
  pi_imp (pi_range1 hg hm (pda_cons ha pda_nil hs) hs) fun σ H R ⟨ρ, Hd, G, S, at_, h, k⟩ =>
    ⟨ρ, Hd, G, fun xs G1 => ∃ j, xs = [.int j] ∧ -(2 ^ 62) ≤ j ∧ j < 2 ^ 62 ∧ S (rngD 0 j.toNat) G1, at_, by
      show da ρ G _
      exact cast (congrArg (da ρ G) (funext fun x => funext fun G1 => propext ⟨fun ⟨j, e, r⟩ => ⟨j, by rw [e], r⟩, fun ⟨j, e, r⟩ => ⟨j, by cases e; rfl, r⟩⟩)) h, fun vs H1 Hd1 xs G1 e1 s1 r1 ⟨j, ex, l, u, h1⟩ => by
      subst ex
      obtain ⟨v, rfl, rv⟩ := rpl1 r1
      cases rv
      exact ⟨j, rfl, l, u, k _ H1 Hd1 _ G1 e1 s1 walks_rng h1⟩⟩
def forL (g : DG) (s : DS) (E : DEnds) : List D → En → Gm → Prop
  | [] => E.nx
  | x :: xs => fun ρ G => g x ρ G fun ρ1 G1 => s { E with nx := forL g s E xs, ct := forL g s E xs, bk := E.nx } ρ1 G1
def dFor (di : DI) (g : DG) (s : DS) : DS := fun E ρ G => di ρ G fun xs G1 => forL g s E xs ρ G1
theorem psd_for {tg iter : Expr} {body : List Stmt} {di : DI} {g : DG} {sb : DS} {js : List Nat} (hp : PassesOwn (model X.prog X.w) X.A X.env X.xe) (hc : X.calm = true) (hi : PI X tg iter (upI X.K B di)) (hg : PG X tg (upG X.K B js g)) (hb : PSs X body (upS X.K B sb))
    (hs : ∀ x, foldedSetIterable iter X.env x = pure x := by intro _; rfl) : PS X (.For tg iter body [] pos) (upS X.K B (dFor di g sb)) := ps_imp (ps_for hp hc hi hg hb hs) fun D σ H ⟨ρ, Hd, G, E, at_, h, k⟩ => by
  refine ⟨ρ, Hd, G, _, at_, h, fun J H1 Hd1 xs G1 e1 s1 w h1 => ?_⟩
  refine ⟨fun i m σ H => m = xs.length - i ∧ i ≤ xs.length ∧ ∃ ρ Hd2 G2, At X.K B σ H ρ Hd2 G2 ∧ Ex Hd1 Hd2 ∧ forL g sb E (xs.drop i) ρ G2, ⟨_, rfl, Nat.zero_le _, ρ, Hd1, G1, at_.step e1 s1, Ex.refl _, h1⟩, ?_⟩
  rintro i m σ2 H2 ⟨rfl, hi2, ρ2, Hd2, G2, at2, e2, h2⟩
  obtain ⟨w1, w2⟩ := w B.f i H2 Hd2 G2 e2 at2.s
  by_cases hl : i < xs.length
  · rw [List.drop_eq_getElem_cons hl] at h2
    obtain ⟨go, yl⟩ := w1 xs[i] (by simp [hl])
    let N : L2.St → Hp → Prop := fun σ' H' => ∃ ρ Hd3 G3, At X.K B σ' H' ρ Hd3 G3 ∧ Ex Hd1 Hd3 ∧ forL g sb E (xs.drop (i + 1)) ρ G3
    refine .inr ⟨go, N, fun σ' H' h' => ⟨xs.length - (i + 1), by omega, rfl, hl, h'⟩, fun v H3 y => ?_⟩
    obtain ⟨Hd3, e3, s3, r3⟩ := yl v H3 y
    have again : ∀ {Hd4 : Hp}, Ex Hd1 Hd4 → Ex B.b Hd4 → KN X.K B.f Hd4 (forL g sb E (xs.drop (i + 1))) N := fun {Hd4} f1 f2 σ' H' Hd' ρ' G' e' r' s' h' => ⟨ρ', Hd', G', ⟨f2.trans e', r', s'⟩, f1.trans e', h'⟩
    refine ⟨xs[i], ρ2, Hd3, G2, _, at2.step e3 s3, r3, h2, fun σ' H' Hd' ρ' G' e' r' s' h' _ => ?_⟩
    have eB : Ex B.b Hd' := ((at2.b.trans e3).trans e')
    have e1' : Ex Hd1 Hd' := (e2.trans e3).trans e'
    have k' := k.mono (e1.trans e1')
    exact ⟨ρ', Hd', G', _, ⟨eB, r', s'⟩, h', ⟨again e1' eB, k'.rt, k'.nx, again e1' eB⟩⟩
  · have e0 : xs.drop i = [] := List.drop_eq_nil_of_le (by omega)
    rw [e0] at h2
    exact .inl ⟨w2 (by omega), k.nx σ2 H2 Hd2 ρ2 G2 (e1.trans e2) at2.e at2.s h2⟩
end
end DL
namespace DL
open PySem PySem.Spec PyProof.Rows L2 Evl
variable [TabC]
theorem wipe_in {σ : L2.St} {j : Nat} : ∀ {vs : List Nat}, j ∈ vs → (L2.wipe σ vs)[j]? = if j < σ.length then some none else none
  | [], h => nomatch h
  | v :: vs, h => by
    unfold L2.wipe
    by_cases e : v = j
    · subst e
      by_cases l : v < σ.length
      · rw [List.getElem?_set_self (by rw [wipe_length]; exact l), if_pos l]
      · rw [if_neg l, List.getElem?_eq_none (by rw [List.length_set, wipe_length]; omega)]
    · rw [List.getElem?_set_ne e]
      rcases List.mem_cons.mp h with z | z
      · exact absurd z.symm e
      · exact wipe_in z
theorem wipe_only {σ σ' : L2.St} {js vs : List Nat} (o : OnlyAt js (L2.wipe σ vs) σ') (h : ∀ j ∈ js, j ∈ vs) : L2.wipe σ' vs = L2.wipe σ vs := by
  have hl : σ'.length = σ.length := by rw [o.1, wipe_length]
  refine List.ext_getElem? fun j => ?_
  by_cases hj : j ∈ vs
  · rw [wipe_in hj, wipe_in hj, hl]
  · rw [wipe_out hj, o.2 j fun z => hj (h j z)]
section
variable {X : Cx}
theorem pe_ex {ι : Type} {e : Expr} {t : ι → TE} (h : ∀ i, PE X e (t i)) : PE X e (fun σ H Q => ∃ i, t i σ H Q) := ⟨fun pins s σ H Q I ⟨i, w⟩ => (h i).run pins s σ H Q I w⟩
theorem pg_ex {ι : Type} {e : Expr} {t : ι → TG} (h : ∀ i, PG X e (t i)) : PG X e (fun v σ H Q => ∃ i, t i v σ H Q) := ⟨fun pins s σ H v u Q I r ⟨i, w⟩ => (h i).run pins s σ H v u Q I r w⟩
theorem pts_ex {ι : Type} {es : List Expr} {t : ι → TT} (h : ∀ i, PTs X es (t i)) : PTs X es (fun σ H Q => ∃ i, t i σ H Q) := ⟨fun pins s σ H Q I ⟨i, w⟩ => (h i).run pins s σ H Q I w⟩
end
theorem Sim.putF {K : PySem.W.Frag} {F : Gm} {Hd H : Hp} {G : Gm} {p : Addr} {m n : Mt} {o : HO} (S : Sim K (gup F p m) Hd H G) (hm0 : ∀ q, m ≠ .tab q) (hm : HoldM K Hd (upd H p o) p n) : Sim K (gup F p n) Hd (upd H p o) G := by
  have hd : Hd p = none := S.offF p m gup_same
  have hg : G p = none := S.apart p m gup_same
  refine ⟨ex_put S.sub hd, S.off, fun a k e => (S.hold a k e).other (ne_g e hg), fun a k e => ?_, fun a k e => ?_, fun a k e => ?_, fun q hq => ?_⟩
  · by_cases q : a = p
    · rw [q]
      exact hd
    · exact S.offF a k (by rw [gup_ne q] at e ⊢; exact e)
  · by_cases q : a = p
    · subst q
      rw [gup_same] at e
      cases e
      exact hm
    · exact (S.holdF a k (by rw [gup_ne q] at e ⊢; exact e)).other q
  · by_cases q : a = p
    · rw [q]
      exact hg
    · exact S.apart a k (by rw [gup_ne q] at e ⊢; exact e)
  · have t := S.tabs q hq
    by_cases z : q.1 = p
    · rw [z, gup_same] at t
      exact (hm0 q.2 (Option.some.inj t)).elim
    · rw [gup_ne z] at t ⊢
      exact t
section
variable {X : Cx} {B : Bs} {pos p : Pos} {a b c e : Expr} {es : List Expr} {da db dc de : DE} {dA : DA} {ta tb : DT}
def cmpL (ρ0 : En) (g : DG) (t : DT) (de : DE) : List D → List D → Gm → (List D → Gm → Prop) → Prop
  | [], acc, G, S => S acc G
  | x :: xs, acc, G, S => g x ρ0 G fun ρ1 G1 => t ρ1 G1 fun k G2 => if k = true then de ρ1 G2 fun y G3 => acc.length < sizeLine ∧ cmpL ρ0 g t de xs (acc ++ [y]) G3 S else cmpL ρ0 g t de xs acc G2 S
def dCmp (di : DI) (g : DG) (t : DT) (de : DE) (vs : List Nat) : DE := fun ρ G R => di ρ G fun xs G1 => cmpL (wipeD ρ vs) g t de xs [] G1 fun acc G2 => R (.lst acc) G2
theorem ptsd_nil : PTs X [] (upT X.K B dYes) := ⟨fun pins s σ H Q I ⟨ρ, Hd, G, R, at_, h, k⟩ => pts_nil.run pins s σ H Q I (k true H Hd G (Ex.refl _) at_.s h)⟩
theorem ptsd_one (h : PT X c (upT X.K B ta)) : PTs X [c] (upT X.K B ta) := pts_one h
theorem lc_imp {K : PySem.W.Frag} {di : DI} {g : DG} {t : DT} {de : DE} {js vs : List Nat} (hj : ∀ j ∈ js, j ∈ vs) : ∀ σ H Q, upE K B (dCmp di g t de vs) σ H Q →
    tLc (upI K B di) (fun v σ H Q => ∃ B', upG K B' js g v σ H Q) (fun σ H Q => ∃ B', upT K B' t σ H Q) (fun σ H Q => ∃ B', upE K B' de σ H Q) vs σ H Q := fun σ H Q ⟨ρ, Hd, G, R, at_, h, k⟩ => by
  refine ⟨ρ, Hd, G, _, at_, h, fun J H1 Hd1 xs G1 e1 s1 w h1 Dl hD => ?_⟩
  have hF : B.f Dl = none := s1.ffree hD
  have ere : RpE K Hd1 (L2.wipe σ vs) (wipeD ρ vs) := (at_.e.mono e1).wipe vs
  refine ⟨fun i m H2 => m = xs.length - i ∧ i ≤ xs.length ∧ ∃ Hd2 G2 acc, Ex Hd1 Hd2 ∧ Sim K (gup B.f Dl (.lst acc)) Hd2 H2 G2 ∧ cmpL (wipeD ρ vs) g t de (xs.drop i) acc G2 fun acc G2 => R (.lst acc) G2,
    ⟨_, rfl, Nat.zero_le _, Hd1, G1, [], Ex.refl _, s1.hide (s1.ffree hD) (s1.free hD) (ex_put s1.sub (s1.free hD)) (s1.gfree hD) ⟨[], upd_same, .nil⟩, h1⟩, ?_⟩
  rintro i m H2 ⟨rfl, hi2, Hd2, G2, acc, e2, s2, h2⟩
  obtain ⟨w1, w2⟩ := w _ i H2 Hd2 G2 e2 s2
  by_cases hl : i < xs.length
  · rw [List.drop_eq_getElem_cons hl] at h2
    obtain ⟨go, yl⟩ := w1 xs[i] (by simp [hl])
    let N : Hp → Prop := fun H' => ∃ Hd2 G2 acc, Ex Hd1 Hd2 ∧ Sim K (gup B.f Dl (.lst acc)) Hd2 H' G2 ∧ cmpL (wipeD ρ vs) g t de (xs.drop (i + 1)) acc G2 fun acc G2 => R (.lst acc) G2
    refine .inr ⟨go, N, fun H' h' => ⟨xs.length - (i + 1), by omega, rfl, hl, h'⟩, fun v H3 y => ?_⟩
    obtain ⟨Hd3, e3, s3, r3⟩ := yl v H3 y
    have at3 : At K ⟨Hd3, gup B.f Dl (.lst acc)⟩ (L2.wipe σ vs) H3 (wipeD ρ vs) Hd3 G2 := ⟨Ex.refl _, ere.mono (e2.trans e3), s3⟩
    refine ⟨⟨Hd3, gup B.f Dl (.lst acc)⟩, xs[i], wipeD ρ vs, Hd3, G2, _, at3, r3, h2, fun σ4 H4 Hd4 ρ4 G4 e4 r4 s4 h4 o4 => ⟨wipe_only o4 hj, ?_⟩⟩
    refine ⟨⟨Hd3, gup B.f Dl (.lst acc)⟩, ρ4, Hd4, G4, _, ⟨e4, r4, s4⟩, h4, fun kk H5 Hd5 G5 e5 s5 h5 => ?_⟩
    cases kk with
    | false =>
      show N H5
      exact ⟨Hd5, G5, acc, ((e2.trans e3).trans e4).trans e5, s5, h5⟩
    | true =>
      refine ⟨⟨Hd3, gup B.f Dl (.lst acc)⟩, ρ4, Hd5, G5, _, ⟨e4.trans e5, r4.mono e5, s5⟩, h5, fun u H6 Hd6 y6 G6 e6 s6 r6 ⟨hz, h6⟩ => ?_⟩
      obtain ⟨ys, hy, ry⟩ := s6.holdF Dl (.lst acc) gup_same
      refine ⟨ys, hy, by rw [ry.length]; exact hz, Hd6, G6, acc ++ [y6], (((e2.trans e3).trans e4).trans e5).trans e6, s6.putF (fun q z => nomatch z) ⟨_, upd_same, ry.app (.cons r6 .nil)⟩, h6⟩
  · have e0 : xs.drop i = [] := List.drop_eq_nil_of_le (by omega)
    rw [e0] at h2
    obtain ⟨ys, hy, ry⟩ := s2.holdF Dl (.lst acc) gup_same
    have hd : Hd2 Dl = none := s2.offF Dl _ gup_same
    have ee : Ex Hd2 (upd Hd2 Dl (.lst ys)) := Ex.new hd
    exact .inl ⟨w2 (by omega), k (.ref Dl) H2 _ (.lst acc) G2 ((e1.trans e2).trans ee) (s2.bare hy hF) (.lst sq_new (ry.mono ee)) h2⟩
theorem pd_lc {elt tg iter : Expr} {ifs : List Expr} {scope : Scope} {own : List (Str × Nat)} {di : DI} {g : DG} {t : DT} {js : List Nat} (hc : X.calm = true) (hN : X.N.Nodup) (hi : PI X tg iter (upI X.K B di)) (ok : BlkOk X.N X.env.scope scope own) (hj : ∀ j ∈ js, j ∈ own.map (·.2))
    (hg : ∀ (B : Bs) (s : Shared) (H : Hp) (C : Addr) (cl : List (Str × Addr)) (fp : List Addr), PG (X.blk s H scope (compEnvC scope cl C X.env) fp) tg (upG X.K B js g)) (ht : ∀ (B : Bs) (s : Shared) (H : Hp) (C : Addr) (cl : List (Str × Addr)) (fp : List Addr), PTs (X.blk s H scope (compEnvC scope cl C X.env) fp) ifs (upT X.K B t))
    (he : ∀ (B : Bs) (s : Shared) (H : Hp) (C : Addr) (cl : List (Str × Addr)) (fp : List Addr), PE (X.blk s H scope (compEnvC scope cl C X.env) fp) elt (upE X.K B de)) (hs : ∀ x, foldedSetIterable iter X.env x = pure x := by intro _; rfl) :
    PE X (.ListComp elt [⟨tg, iter, ifs, 0⟩] scope pos) (upE X.K B (dCmp di g t de (own.map (·.2)))) :=
  pe_imp (pe_lc hc hN hi ok (fun s H C cl fp => pg_ex fun B => hg B s H C cl fp) (fun s H C cl fp => pts_ex fun B => ht B s H C cl fp) (fun s H C cl fp => pe_ex fun B => he B s H C cl fp) hs) (lc_imp hj)
theorem psd_setLc {i : Nat} {y : Str} {py spos : Pos} {elt tg iter : Expr} {ifs : List Expr} {scope : Scope} {own : List (Str × Nat)} {di : DI} {g : DG} {t : DT} {js : List Nat} (hc : X.calm = true) (hN : X.N.Nodup) (hy : X.N[i]? = some y) (hyl : X.env.scope.names.lookup y = some .local)
    (hsw : swapsWith (.ListComp elt [⟨tg, iter, ifs, 0⟩] scope pos) (some (.Name y py)) spos.line X.env = pure true) (hi : PI X tg iter (upI X.K B di)) (ok : BlkOk X.N X.env.scope scope own) (hj : ∀ j ∈ js, j ∈ own.map (·.2))
    (hg : ∀ (B : Bs) (s : Shared) (H : Hp) (C : Addr) (cl : List (Str × Addr)) (fp : List Addr), PG (X.blk s H scope (compEnvC scope cl C X.env) fp) tg (upG X.K B js g)) (ht : ∀ (B : Bs) (s : Shared) (H : Hp) (C : Addr) (cl : List (Str × Addr)) (fp : List Addr), PTs (X.blk s H scope (compEnvC scope cl C X.env) fp) ifs (upT X.K B t))
    (he : ∀ (B : Bs) (s : Shared) (H : Hp) (C : Addr) (cl : List (Str × Addr)) (fp : List Addr), PE (X.blk s H scope (compEnvC scope cl C X.env) fp) elt (upE X.K B de)) (hs : ∀ x, foldedSetIterable iter X.env x = pure x := by intro _; rfl) :
    PS X (.Assign [.Name y py] (.ListComp elt [⟨tg, iter, ifs, 0⟩] scope pos) spos) (upS X.K B (dSet i (dCmp di g t de (own.map (·.2))))) :=
  ps_imp (ps_setLc hc hN hy hyl hsw hi ok (fun s H C cl fp => pg_ex fun B => hg B s H C cl fp) (fun s H C cl fp => pts_ex fun B => ht B s H C cl fp) (fun s H C cl fp => pe_ex fun B => he B s H C cl fp) hs) fun D σ H h => lc_imp hj σ H _ (set_imp D σ H h)
end
end DL
namespace DL
open PySem PySem.Spec PyProof.Rows L2 Evl
variable [TabC]
section
variable {P : Program} {w : World} {K : PySem.W.Frag} {mg : Str → Option Value} {base : Heap}
theorem guards_in {A : Around} {env : Env} (h : A.guards = some []) : (A.deeper env).guards = some [] := h
def cdAt (K : PySem.W.Frag) (f : Addr) : Addr := match K.lookup f with
  | some ⟨_, _, .func fd, _⟩ => (match fd.code with
    | .ref c => c
    | _ => 0)
  | _ => 0
theorem cdAt_of {K : PySem.W.Frag} {f : Addr} {x qual : Str} {params : Arguments} {body : List Stmt} {scope : Scope} {oc : Value} {od : Option Addr} {dV kV doc pm cdv ct : Value} {an : Option Addr} {osl : Array (Option Value)}
    (lk : K.lookup f = some ⟨oc, od, .func (PySem.W.fnOf x qual params body scope dV kV doc pm an cdv ct), osl⟩) (hcd : PySem.W.codeIn K cdv qual = true) : cdv = .ref (cdAt K f) := by
  obtain ⟨c, rfl⟩ := He.codeIn_ref hcd
  unfold cdAt
  rw [lk]
theorem fng_of {x qual : Str} {params : Arguments} {body : List Stmt} {scope : Scope} {dvs : List V} {kws : List (Str × V)} {f : Addr} {fd : FuncData} {N ps : List Str} {k : Nat} {sp : Sp} (F : FunD K x qual params body scope dvs kws f fd) (S : FnScope N ps scope)
    (len : ∀ vs H Q E, sp vs H Q E → vs.length = ps.length)
    (hbody : ∀ (cdv : Value), cdv = .ref (cdAt K f) → ∀ (A : Around) (outer : List Env) (s : Shared) (H : Hp) (vs : List V) (Q : VK) (E : XK), Room k (A.deeper (envOfC qual scope s.heap.objs.size f cdv)) → (A.deeper (envOfC qual scope s.heap.objs.size f cdv)).guards = some [] → sp vs H Q E →
      ∃ t, PSs (cxOf (L2.CX P w) P w K mg base N qual scope f cdv A outer s H E) body t ∧ t { nx := fun _ H' => Q .non H', rt := Q } (start N vs) H) : FnG P w K mg base (k + 1) f fd ps sp := by
  obtain ⟨oc, od, dV, kV, doc, pm, an, cdv, ct, osl, rfl, lk, hcd, _, _⟩ := F.ex
  refine ⟨len, fun A outer s H args us vs Q E room hgd e0 hb hv hs => ?_⟩
  have keepB : ∀ b o, base.get? b = some o → s.heap.get? b = some o := fun b o e => (e0.bs b o e).1
  have hK : K.In s.heap := e0.mod.kin.keeps keepB
  refine codeAny_call_function room.depth (hK _ _ lk) rfl S.co S.gen rfl (PySem.W.codeRec_of hK hcd) (hb _ _ _ _ ?_)
  refine wpAny_newFunctionEnv_cells S.kind (fun y hy => ?_) fun env henv s1 hx => ?_
  · obtain ⟨n, u⟩ := y
    rcases S.par n (List.of_mem_zip hy).1 with q | q
    · exact .inl q
    · exact .inr ⟨q, PySem.W.cellsFrom_some _ _ _ (.inl q)⟩
  · subst henv
    obtain ⟨t, ht, hq⟩ := hbody cdv (cdAt_of lk hcd) A outer s H vs Q E (room.deeper _) (guards_in hgd) hs
    have I := inv_start (CX := L2.CX P w) (E := E) (w := w) S room.hd e0 (len _ _ _ _ hs) hv hx
    refine ⟨(e0.mod.nolimit.keeps keepB).keeps hx.toInCall.keep, codeAny_func (wpAny_mono (ht.run [] s1 (start N vs) H _ I hq) (fun fl s2 h2 => ?_) fun _ _ h2 => h2)⟩
    cases fl with
    | next =>
      obtain ⟨σ', H', J, q⟩ := h2
      exact ⟨.non, H', J.os, J.bare, J.base, J.hok, rfl, q⟩
    | ret u =>
      obtain ⟨v, σ', H', J, rv, q⟩ := h2
      exact ⟨v, H', J.os, J.bare, J.base, J.hok, rv, q⟩
    | brk =>
      obtain ⟨_, _, _, q⟩ := h2
      exact q.elim
    | cont =>
      obtain ⟨_, _, _, q⟩ := h2
      exact q.elim
end
section
variable {P : Program} {w : World} {K : PySem.W.Frag} {mg : Str → Option Value} {base : Heap}
theorem kn_of {x : Str} {st : Stmt} {N ps : List Str} {k : Nat} {p : DSp} (g : mg x = some (.ref (He.ga K x))) (F : ∃ fd, FunD K x x (defArgs st) (defBody st) (defScope st) [] [] (He.ga K x) fd) (S : FnScope N ps (defScope st)) (len : ∀ xs G R RX, p xs G R RX → xs.length = ps.length)
    (hbody : ∀ (cdv : Value), cdv = .ref (cdAt K (He.ga K x)) → ∀ (A : Around) (outer : List Env) (s : Shared) (H : Hp) (E : XK) (B : Bs) (RX : XD), Room k (A.deeper (envOfC x (defScope st) s.heap.objs.size (He.ga K x) cdv)) → (A.deeper (envOfC x (defScope st) s.heap.objs.size (He.ga K x) cdv)).guards = some [] → KX K B.f B.b RX E →
      ∃ t : DS, PSs (cxOf (L2.CX P w) P w K mg base N x (defScope st) (He.ga K x) cdv A outer s H E) (defBody st) (upS K B t) ∧ ∀ xs G R, p xs G R RX → t { nx := fun _ G => R .non G, rt := R } (xs.map some ++ List.replicate (N.length - xs.length) none) G) :
    Kn P w K mg base (k + 1) x st ps p := by
  obtain ⟨fd, F⟩ := F
  refine ⟨g, fd, F, fng_of F S (fun vs H Q E h => ?_) fun cdv hcv A outer s H vs Q E hr hg h => ?_⟩
  · obtain ⟨xs, _, _, G, R, RX, r, _, hp, _⟩ := h
    rw [r.length]
    exact len xs G R RX hp
  · obtain ⟨xs, F, Hd, G, R, RX, r, sm, hp, ke, kx⟩ := h
    obtain ⟨t, ht, h2⟩ := hbody cdv hcv A outer s H E ⟨Hd, F⟩ RX hr hg kx
    refine ⟨_, ht, _, Hd, G, _, ⟨Ex.refl _, RpE.start r, sm⟩, h2 xs G R hp, ?_⟩
    exact ⟨fun σ' H' Hd' ρ' G' e _ s h => ke .non H' Hd' .non G' e s .non h, ke, fun _ _ _ _ _ _ _ _ h => h.elim, fun _ _ _ _ _ _ _ _ h => h.elim⟩
end
section
variable {X : Cx} {B : Bs} {pos p : Pos} {e : Expr} {es : List Expr} {dA : DA}
theorem run_fng {k : Nat} {f : Addr} {fd : FuncData} {ps : List Str} {sp : Sp} {E : XK} {pins : List (Addr × Obj)} {σ : L2.St} {H : Hp} {s : Shared} {Q : VK} {args : Args} {us : List Value} {vs : List V} (F : FnG X.prog X.w X.K X.mg X.base k f fd ps sp) (hr : Room k X.A) (hgd : X.A.guards = some [])
    (hx : Passes (L2.CX X.prog X.w) X E) (I : Inv X pins σ H s) (hb : BindsTo s fd args (ps.zip us)) (r : Vals vs us) (h : sp vs H Q E) : codeAny (model X.prog X.w) X.A (.call (.ref f) args) (fun r s' => match r with | .ok (.ret u) => EP X pins σ Q u s' | .ok _ => False | .error e => X.xe e s') s := by
  refine codeAny_mono (F.run X.A X.stack s H args us vs Q E hr hgd I.env0 hb r h) fun r s' hq => ?_
  cases r with
  | error e => exact hx pins σ H s e s' I hq
  | ok fl =>
    cases fl with
    | ret u => exact I.after hq
    | next => exact hq.elim
    | brk => exact hq.elim
    | cont => exact hq.elim
theorem call_imp {K : PySem.W.Frag} {q : DSp} {RX : XD} {E : XK} (hx : ∀ Hd, Ex B.b Hd → KX K B.f Hd RX E) : ∀ σ H Q, upE K B (dCall q RX dA) σ H Q → tCall (spU K q) [] E (upA K B dA) σ H Q := fun σ H Q ⟨ρ, Hd, G, R, at_, h, k⟩ =>
  ⟨ρ, Hd, G, _, at_, h, fun vs H1 Hd1 xs G1 e1 s1 r1 h1 => ⟨xs, B.f, Hd1, G1, R, RX, by rw [List.append_nil]; exact r1, s1, h1, k.mono e1, hx Hd1 (at_.b.trans e1)⟩⟩
theorem pe_callG {k : Nat} {f : Addr} {fd : FuncData} {ps : List Str} {sp : Sp} {E : XK} {x : Str} {t : TA} (F : FnG X.prog X.w X.K X.mg X.base k f fd ps sp) (hr : Room k X.A) (hgd : X.A.guards = some []) (hg : Gl X x) (hm : X.mg x = some (.ref f)) (hk : PySem.W.keepIn X.K (.ref f) = true) (hb : Binds X.K fd ps [])
    (hx : Passes (L2.CX X.prog X.w) X E) (ha : PA X (e :: es) t) (hdb : (x == ("__debug__" : Str)) = false := by decide) (he : starEach (e :: es) X.env = (false, eval e X.env) :: starEach es X.env := by rfl) (hpl : (backTo pos (starEach es X.env)).any (·.1) = false := by rfl) :
    PE X (.Call (.Name x p) (e :: es) [] pos) (tCall sp [] E t) := ⟨fun pins s σ H Q I h => by
  refine wpAny_Call_Name_kw (ld_glob I hg hm (PySem.W.callWith_K (h₀ := X.base) I.ok.mod.kin hk (thn (ha.run pos pins s σ H _ I h) fun us s1 hh => ?_) he hpl) hdb)
  obtain ⟨vs, H1, I1, r, q⟩ := hh
  rw [List.append_nil] at q
  have hl : us.length = ps.length := by rw [← r.length]; exact F.len _ _ _ _ q
  have hb1 := hb s1 us I1.kIn (by rw [List.append_nil]; exact hl)
  rw [List.append_nil] at hb1
  refine ⟨I1.kIn, wpAny_call (codeAny_mono (run_fng F hr hgd hx I1 hb1 r q) fun r s2 hq => ?_)⟩
  cases r with
  | error e => exact hq
  | ok fl => cases fl <;> first | exact hq | exact hq.elim⟩
theorem pd_call {k : Nat} {x : Str} {st : Stmt} {ps : List Str} {q : DSp} {RX : XD} {E : XK} (h : Kn X.prog X.w X.K X.mg X.base k x st ps q) (hr : Room k X.A) (hgd : X.A.guards = some []) (hg : Gl X x) (hx : Passes (L2.CX X.prog X.w) X E) (kx : ∀ Hd, Ex B.b Hd → KX X.K B.f Hd RX E)
    (hb : ∀ (kV doc pm : Value) (an : Option Addr) (cdv ct : Value) (us : List Value), us.length = ps.length → bindArgs (PySem.W.fnOf x x (defArgs st) (defBody st) (defScope st) .none kV doc pm an cdv ct) ⟨us, []⟩ = pure (ps.zip us))
    (ha : PA X (e :: es) (upA X.K B dA)) (hdb : (x == ("__debug__" : Str)) = false := by decide) (he : starEach (e :: es) X.env = (false, eval e X.env) :: starEach es X.env := by rfl) (hpl : (backTo pos (starEach es X.env)).any (·.1) = false := by rfl) :
    PE X (.Call (.Name x p) (e :: es) [] pos) (upE X.K B (dCall q RX dA)) := by
  obtain ⟨fd, F, G⟩ := h.fn
  exact pe_imp (pe_callG G hr hgd hg h.g F.kp (F.bindsN hb) hx ha hdb he hpl) (call_imp kx)
theorem pkd_cons {nm : Option Str} {kpos : Pos} {kws : List Keyword} {de : DE} {dr : DA} (ha : PE X e (upE X.K B de)) (hr : PK X kws (upA X.K B dr)) (hk : ∀ {t : TA}, PK X kws t → PK X (⟨nm, e, kpos⟩ :: kws) (tCons (upE X.K B de) t)) : PK X (⟨nm, e, kpos⟩ :: kws) (upA X.K B (dCons de dr)) :=
  ⟨fun pos pins s σ H Q I ⟨ρ, Hd, G, R, at_, h, k⟩ => (hk hr).run pos pins s σ H Q I
    ⟨ρ, Hd, G, _, at_, h, fun v H1 Hd1 x G1 e1 s1 r1 h1 => ⟨ρ, Hd1, G1, _, at_.step e1 s1, h1, fun vs H2 Hd2 xs G2 e2 s2 r2 h2 => k _ H2 Hd2 _ G2 (e1.trans e2) s2 (.cons (r1.mono e2) r2) h2⟩⟩⟩
theorem pkd_nil : PK X [] (upA X.K B dNil) := ⟨fun pos pins s σ H Q I ⟨ρ, Hd, G, R, at_, h, k⟩ => pk_nil.run pos pins s σ H Q I (k [] H Hd [] G (Ex.refl _) at_.s .nil h)⟩
structure Ord where
  go : {α : Type} → List α → List α
  rel : ∀ {α β : Type} (R : α → β → Prop) (xs : List α) (ys : List β), Paired R xs ys → Paired R (go xs) (go ys)
def ordOf (pm : List Nat) : Ord where
  go := fun l => if l.length = pm.length then pm.filterMap (fun i => l[i]?) else l
  rel := fun {α β} R xs ys h => by
    have hl : xs.length = ys.length := Paired.length h
    have at_ : ∀ {xs : List α} {ys : List β}, Paired R xs ys → ∀ i : Nat, (xs[i]? = none ∧ ys[i]? = none) ∨ ∃ x y, xs[i]? = some x ∧ ys[i]? = some y ∧ R x y := fun {xs ys} h => by
      induction h with
      | nil => exact fun i => .inl ⟨rfl, rfl⟩
      | cons a _ ih => exact fun i => match i with
        | 0 => .inr ⟨_, _, rfl, rfl, a⟩
        | i + 1 => ih i
    have all : ∀ l : List Nat, Paired R (l.filterMap fun i => xs[i]?) (l.filterMap fun i => ys[i]?) := fun l => by
      induction l with
      | nil => exact .nil
      | cons i l ih =>
        rcases at_ h i with ⟨e1, e2⟩ | ⟨x, y, e1, e2, r⟩
        · rw [List.filterMap_cons_none e1, List.filterMap_cons_none e2]
          exact ih
        · rw [List.filterMap_cons_some e1, List.filterMap_cons_some e2]
          exact .cons r ih
    by_cases z : xs.length = pm.length
    · rw [if_pos z, if_pos (by rw [← hl]; exact z)]
      exact all pm
    · rw [if_neg z, if_neg (by rw [← hl]; exact z)]
      exact h
theorem ordOf_len {pm : List Nat} {n : Nat} (hn : n = pm.length) {α : Type} (l : List α) (h : ((ordOf pm).go l).length = n) : l.length = n := by
  by_cases z : l.length = pm.length
  · rw [z, hn]
  · have e : (ordOf pm).go l = l := if_neg z
    rw [e] at h
    exact h
theorem rpl_paired {K : PySem.W.Frag} {H : Hp} : ∀ {vs : List V} {ds : List D}, RpL K H vs ds → Paired (Rp K H) vs ds
  | _, _, .nil => .nil
  | _, _, .cons a b => .cons a (rpl_paired b)
theorem paired_rpl {K : PySem.W.Frag} {H : Hp} : ∀ {vs : List V} {ds : List D}, Paired (Rp K H) vs ds → RpL K H vs ds
  | _, _, .nil => .nil
  | _, _, .cons a b => .cons a (paired_rpl b)
def dCallK (q : DSp) (o : Ord) (RX : XD) (dA : DA) : DE := fun ρ G R => dA ρ G fun xs G1 => q (o.go xs) G1 R RX
theorem pd_callK {k : Nat} {x : Str} {st : Stmt} {ps ks : List Str} {q : DSp} {RX : XD} {E : XK} {kws : List Keyword} (o : Ord) (h : Kn X.prog X.w X.K X.mg X.base k x st ps q) (hr : Room k X.A) (hgd : X.A.guards = some []) (hg : Gl X x) (hx : Passes (L2.CX X.prog X.w) X E) (kx : ∀ Hd, Ex B.b Hd → KX X.K B.f Hd RX E)
    (hb : ∀ (kV doc pm : Value) (an : Option Addr) (cdv ct : Value) (us : List Value), us.length = ps.length → bindArgs (PySem.W.fnOf x x (defArgs st) (defBody st) (defScope st) .none kV doc pm an cdv ct) ⟨[], ks.zip us⟩ = pure (ps.zip (o.go us)))
    (hn : ks.length = ps.length) (ho : ∀ {α : Type} (l : List α), (o.go l).length = ps.length → l.length = ps.length)
    (hkw : PK X kws (upA X.K B dA)) (hall : (backToKw pos (keywordEach kws X.env)).all (·.1.isSome) = true := by rfl) (hks : (backToKw pos (keywordEach kws X.env)).filterMap (·.1) = ks := by rfl)
    (hdb : (x == ("__debug__" : Str)) = false := by decide) (hpl : ((backTo pos (starEach [] X.env)).any (·.1) || (backToKw pos (keywordEach kws X.env)).any (·.1.isNone)) = false := by rfl) :
    PE X (.Call (.Name x p) [] kws pos) (upE X.K B (dCallK q o RX dA)) := by
  obtain ⟨fd, F, G⟩ := h.fn
  refine ⟨fun pins s σ H Q I hw => ?_⟩
  refine wpAny_Call_Name_kw (ld_glob I hg h.g (PySem.W.callWith_KW0 (h₀ := X.base) I.ok.mod.kin F.kp hall (thn (hkw.run pos pins s σ H (fun vs H1 => spU X.K q (o.go vs) H1 Q E) I ?_) fun us s1 hh => ?_) hpl) hdb)
  · obtain ⟨ρ, Hd, G0, R, at_, h0, k0⟩ := hw
    exact ⟨ρ, Hd, G0, _, at_, h0, fun vs H1 Hd1 xs G1 e1 s1 r1 h1 => ⟨o.go xs, B.f, Hd1, G1, R, RX, paired_rpl (o.rel _ _ _ (rpl_paired r1)), s1, h1, k0.mono e1, kx Hd1 (at_.b.trans e1)⟩⟩
  · obtain ⟨vs, H1, I1, r, q1⟩ := hh
    have r2 : Vals (o.go vs) (o.go us) := o.rel _ _ _ r
    have hl : (o.go us).length = ps.length := by rw [← r2.length]; exact G.len _ _ _ _ q1
    have hus := ho us hl
    refine ⟨I1.kIn, ?_⟩
    rw [hks, List.append_nil]
    have hb1 : BindsTo s1 fd ⟨[], ks.zip us⟩ (ps.zip (o.go us)) := by
      obtain ⟨oc, od, dV, kV, doc, pm, an, cdv, ct, osl, rfl, lk, hcd, hD, hK⟩ := F.ex
      rcases hD with ⟨_, rfl⟩ | ⟨z, _⟩
      · exact .of_eq (hb kV doc pm an cdv ct us hus)
      · exact absurd rfl z
    refine wpAny_call (codeAny_mono (run_fng G hr hgd hx I1 hb1 r2 q1) fun r s2 hq => ?_)
    cases r with
    | error e => exact hq
    | ok fl => cases fl <;> first | exact hq | exact hq.elim
theorem pass0 : Passes (L2.CX X.prog X.w) X E0 := passL
theorem kx0 {K : PySem.W.Frag} : ∀ Hd, Ex B.b Hd → KX K B.f Hd X0 E0 := fun _ _ => .none
theorem pd_repr {da : DE} {x : Str} (hx : x = "repr") (hgd : X.A.guards = some []) (hu : X.A.units + 64 < cLine) (hg : Gl X x) (hm : X.mg x = none) (ha : PE X e (upE X.K B da)) (he : starEach (e :: []) X.env = (false, eval e X.env) :: starEach [] X.env := by rfl) (hpl : (backTo pos (starEach [] X.env)).any (·.1) = false := by rfl) :
    PE X (.Call (.Name x p) (e :: []) [] pos) (upE X.K B (dCal fRepr (dCons da dNil))) := by
  subst hx
  exact pd_callB (call_repr hgd hu) cd_repr hg hm (by decide +kernel) (pda_cons ha pda_nil he) (by decide) (by decide) he hpl
end
end DL
namespace DL
open PySem PySem.Spec PyProof.Rows L2 Evl
variable [TabC]
def scrH (K : PySem.W.Frag) (a : Addr) (o : Obj) (xs : List V) : Hp := fun b => if b = a ∧ K.lookup a = none then some (.frz o (.lst xs)) else none
section
variable {K : PySem.W.Frag} {a : Addr} {o : Obj} {xs : List V}
theorem scr_at (h : K.lookup a = none) : scrH K a o xs a = some (.frz o (.lst xs)) := if_pos ⟨rfl, h⟩
theorem scr_some {b : Addr} {u : HO} (h : scrH K a o xs b = some u) : b = a ∧ K.lookup a = none ∧ u = .frz o (.lst xs) := by
  unfold scrH at h
  by_cases z : b = a ∧ K.lookup a = none
  · rw [if_pos z] at h
    cases h
    exact ⟨z.1, z.2, rfl⟩
  · rw [if_neg z] at h
    cases h
theorem scr_ne {b : Addr} (h : b ≠ a) : scrH K a o xs b = none := if_neg fun z => h z.1
end
def sttH (K : PySem.W.Frag) (ts : List Addr) (a : Addr) (o : Obj) (xs : List V) : Hp := fun b => if b ∈ ts then some (.tbl #[]) else scrH K a o xs b
section
variable {K : PySem.W.Frag} {ts : List Addr} {a : Addr} {o : Obj} {xs : List V}
theorem stt_in {b : Addr} (h : b ∈ ts) : sttH K ts a o xs b = some (.tbl #[]) := if_pos h
theorem stt_out {b : Addr} (h : b ∉ ts) : sttH K ts a o xs b = scrH K a o xs b := if_neg h
end
abbrev tabO (us : Array Value) : Obj := { cls := .none, data := .fields us }
def BltMod (mg : Str → Option Value) (h : Heap) : Prop := ∃ (u : Addr) (ou : Obj), mg "__builtins__" = some (.ref u) ∧ u ≠ builtinsNs ∧ h.get? u = some ou ∧ ou.cls = .type "module" ∧ ou.dict = some builtinsNs ∧ ou.data = .plain
theorem law_callG {P : Program} {w : World} {K : PySem.W.Frag} {mg mb : Str → Option Value} {k : Nat} {fa a : Addr} {fd : FuncData} {x : Str} {sp : Sp} {s : Shared} {vs : List Value} {ns : List Int} {ct : List (Addr × Addr)}
    (hK : K.In s.heap) (hns : s.heap.Ns mainGlobals mg) (hb : s.heap.Ns builtinsNs mb) (hbb : ∀ x : Str, x ≠ "__name__" → mb x = bootBuiltins x) (hlim : s.heap.NoLimit) (hg : s.gens = #[])
    (tE : ∀ q ∈ ct, s.heap.get? q.2 = some (tabO #[])) (tK : ∀ q ∈ ct, K.lookup q.2 = none) (tC : ∀ q ∈ ct, PySem.W.CodeHd s.heap q.1 q.2) (hbm : BltMod mg s.heap)
    (ha : s.heap.get? a = some { cls := .type "list", data := .seq vs.toArray }) (hi : IntsAre vs ns) (hl : ns.length ≤ sizeLine) (hr : Room k callerA)
    (F : ∀ base : Heap, K.In base → base.Ns mainGlobals mg → (∀ q ∈ ct, LamX.TabB base mg q.1 q.2) → FnG P w K mg base k fa fd [x] sp) (hbind : ∀ (s : Shared) (u : Value), BindsTo s fd ⟨[u], []⟩ [(x, u)])
    (hsp : ∀ Hd H : Hp, Ex Hd H → (∀ q ∈ ct, H q.2 = some (.tbl #[]) ∧ Hd q.2 = none) → SqL K Hd a (ns.map V.int) → sp [.ref a] H (fun v _ => v = .bl true) fun _ _ _ => False) :
    codeAny (model P w) callerA (.call (.ref fa) ⟨[.ref a], []⟩) (fun r s' => r = .ok (.ret (.bool true)) ∧ OldK s.heap s'.heap ∧ s'.os = s.os ∧ AllBare s'.gens) s := by
  have rv := vals_ints hi
  generalize eo : ({ cls := .type "list", data := .seq vs.toArray } : Obj) = o at ha
  generalize eT : ct.map (·.2) = ts
  have inT : ∀ {q : Addr × Addr}, q ∈ ct → q.2 ∈ ts := fun hq => by
    rw [← eT]
    exact List.mem_map_of_mem hq
  have ofT : ∀ {b : Addr}, b ∈ ts → ∃ q ∈ ct, q.2 = b := fun hb => by
    rw [← eT] at hb
    exact List.mem_map.mp hb
  have aT : a ∉ ts := fun z => by
    obtain ⟨q, hq, e⟩ := ofT z
    have e2 := tE q hq
    rw [e, ha, ← eo] at e2
    cases e2
  generalize eHd : scrH K a o (ns.map V.int) = Hd
  generalize eH : sttH K ts a o (ns.map V.int) = H
  have hin : ∀ {b : Addr}, b ∈ ts → H b = some (.tbl #[]) := fun z => by
    rw [← eH]
    exact stt_in z
  have hout : ∀ {b : Addr}, b ∉ ts → H b = Hd b := fun z => by
    rw [← eH, ← eHd]
    exact stt_out z
  have dT : ∀ {b : Addr}, b ∈ ts → Hd b = none := fun {b} z => by
    rw [← eHd]
    exact scr_ne fun e => aT (by rw [← e]; exact z)
  have exd : Ex Hd H := fun b u e => by
    by_cases z : b ∈ ts
    · rw [dT z] at e
      cases e
    · rw [hout z]
      exact e
  have rd : SqL K Hd a (ns.map V.int) := by
    subst eHd
    cases q : K.lookup a with
    | none => exact .inl (.inr ⟨o, scr_at q⟩)
    | some o2 =>
      have e2 : o2 = o := Option.some.inj ((hK a o2 q).symm.trans ha)
      subst e2 eo
      exact .inr ⟨_, vs.toArray, _, q, rfl, rfl, rfl, by rw [List.size_toArray, hi.length]; exact hl, by simpa using rv⟩
  have ofD : ∀ {b : Addr} {u : HO}, Hd b = some u → b = a ∧ K.lookup a = none ∧ u = .frz o (.lst (ns.map V.int)) := fun e => by
    rw [← eHd] at e
    exact scr_some e
  have held : HOk P w H s.heap := fun b u q => by
    by_cases z : b ∈ ts
    · rw [hin z] at q
      cases q
      obtain ⟨r, hr, e⟩ := ofT z
      rw [← e]
      exact tE r hr
    · rw [hout z] at q
      obtain ⟨rfl, _, rfl⟩ := ofD q
      subst eo
      exact ⟨ha, by rw [List.length_map]; exact hl, vs, _, rv, ha⟩
  -- what is neither a list nor an empty record is untracked
  have freeO : ∀ {b : Addr} {ob : Obj}, s.heap.get? b = some ob → (∀ us m, ob.data ≠ .seq us m) → ob.data ≠ .fields #[] → H b = none := fun {b ob} e n1 n2 => by
    by_cases z : b ∈ ts
    · obtain ⟨r, hr, e2⟩ := ofT z
      have e3 := tE r hr
      rw [e2, e] at e3
      cases e3
      exact (n2 rfl).elim
    · rw [hout z]
      cases q : Hd b with
      | none => rfl
      | some u =>
        obtain ⟨rfl, _, _⟩ := ofD q
        rw [ha, ← eo] at e
        cases e
        exact (n1 _ _ rfl).elim
  have freeD : ∀ {b : Addr} {ob : Obj} {es : Array DictEntry} {ep : Nat}, s.heap.get? b = some ob → ob.data = .dict es ep → H b = none := fun {b ob es ep} e d =>
    freeO e (fun us m z => by rw [d] at z; cases z) (fun z => by rw [d] at z; cases z)
  have toB : ∀ {b : Addr} {m : Str → Option Value}, s.heap.Ns b m → (hidT s.heap H).Ns b m := fun {b m} ⟨ob, es, ep, e, d, r⟩ => ⟨ob, es, ep, hidT_get e (freeD e d), d, r⟩
  have kB : K.In (hidT s.heap H) := fun b ob e => hidT_get (hK b ob e) (by
    by_cases z : b ∈ ts
    · obtain ⟨r, hr, e2⟩ := ofT z
      rw [← e2, tK r hr] at e
      cases e
    · rw [hout z]
      cases q : Hd b with
      | none => rfl
      | some u =>
        obtain ⟨rfl, q2, _⟩ := ofD q
        rw [q2] at e
        cases e)
  have md : Mod K mg (hidT s.heap H) := ⟨kB, toB hns, ⟨mb, toB hb, hbb⟩, let ⟨mc, h1, h2⟩ := hlim; ⟨mc, toB h1, h2⟩⟩
  have tB : ∀ q ∈ ct, LamX.TabB (hidT s.heap H) mg q.1 q.2 := fun q hq => by
    have isP := tE q hq
    obtain ⟨gO, gE, gP, gG, gD, gR⟩ := hns
    obtain ⟨u, ou, m1, m2, m3, m4, m5, m6⟩ := hbm
    refine ⟨?_, ⟨u, ou, m1, m2, fun z => ?_, fun z => ?_, hidT_get m3 (freeO m3 (fun us m z => ?_) fun z => ?_), m4, m5, m6⟩, fun z => ?_⟩
    · obtain ⟨co, cf, c3, c4, c5, c6, c7, c8, c9, k1, k2, k3, k4, k5, k6, k7, k8, k9, k10⟩ := tC q hq
      refine ⟨co, cf, c3, c4, c5, c6, c7, c8, c9, hidT_get k1 (freeO k1 (fun us m z => ?_) fun z => ?_), k2, k3, k4, k5, k6, k7, k8, k9, k10⟩
      · rw [k3] at z
        cases z
      · rw [k3] at z
        cases z
        simp at k4
    · rw [z, gG] at m3
      cases m3
      rw [gD] at m6
      cases m6
    · rw [z, isP] at m3
      cases m3
      cases m6
    · rw [m6] at z
      cases z
    · rw [m6] at z
      cases z
    · rw [z, isP] at gG
      cases gG
      cases gD
  have e0 : Env0 P w K mg (hidT s.heap H) callerA [] s H := ⟨rfl, md, fun b o e => of_hidT e, Nat.le_of_eq (hidT_size _ _), trivial, fun b hb => (nomatch (show b ∈ ([] : List Addr) from hb)), held, .of_eq hg⟩
  refine codeAny_mono ((F _ kB (toB hns) tB).run callerA [] s H ⟨[.ref a], []⟩ [.ref a] [.ref a] _ _ hr rfl e0 (hbind s (.ref a)) (.cons rfl .nil) (hsp Hd H exd (fun q hq => ⟨hin (inT hq), dT (inT hq)⟩) rd)) fun r s' hq => ?_
  cases r with
  | error e =>
    obtain ⟨_, _, _, _, _, _, _, _, _, _, _, _, z⟩ := hq
    exact z.elim
  | ok fl =>
    cases fl with
    | next => exact hq.elim
    | brk => exact hq.elim
    | cont => exact hq.elim
    | ret u =>
      obtain ⟨v, H', os, bare, un, hok', r', q⟩ := hq
      have q2 : v = .bl true := q
      subst q2
      cases (show u = Value.bool true from r')
      have old : ∀ b ob, b ∉ ts → s.heap.get? b = some ob → s'.heap.get? b = some ob := fun b ob nb e => by
        cases z : Hd b with
        | none => exact un.keep b ob e (by rw [hout nb]; exact z) (by intro y; exact nomatch (show b ∈ ([] : List Addr) from y)) (by simp)
        | some u =>
          obtain ⟨rfl, _, rfl⟩ := ofD z
          have zH : H b = some (.frz o (.lst (ns.map V.int))) := by
            rw [hout nb]
            exact z
          have e1 := (held b _ zH).1
          have e2 := (hok' b _ (un.frzs b o _ zH)).1
          have e3 := e.symm.trans e1
          cases e3
          exact e2
      have more : ∀ q ∈ ct, ∃ us : Array Value, s'.heap.get? q.2 = some (tabO us) := fun q hq => by
        obtain ⟨us, z⟩ := un.tbls q.2 #[] (hin (inT hq))
        exact ⟨_, hok' q.2 _ z⟩
      refine ⟨rfl, ⟨fun b ob e => ?_, fun b ob e => ?_⟩, os, bare⟩
      · by_cases z : b ∈ ts
        · obtain ⟨r, hr, e2⟩ := ofT z
          obtain ⟨us, hm⟩ := more r hr
          rw [← e2] at e ⊢
          rw [tE r hr] at e
          cases e
          exact .inr (.inl ⟨((tC r hr).tab (tE r hr)).isCodeTable, rfl, #[], us, rfl, by rw [Array.empty_append]; exact hm⟩)
        · exact .inl (old b ob z e)
      · by_cases z : b ∈ ts
        · obtain ⟨r, hr, e2⟩ := ofT z
          obtain ⟨us, hm⟩ := more r hr
          exact ⟨_, by rw [← e2]; exact hm⟩
        · exact ⟨ob, old b ob z e⟩
theorem walk_lawT {l : PySem.W.OpenLaw} {n k : Nat} {q : Program} {loose : List Str} {XP : (Str → Option Value) → Heap → Prop} {YP : World → Heap → Prop} {d : DefRec} {x : Str}
    (hn : l.most = some n) (hn2 : n ≤ sizeLine) (hdf : d.params.defaults = []) (hr : Room k callerA)
    (F : ∀ (w : World) (mg : Str → Option Value) (fa : Addr) (h : Heap), YP w h → h.Ns mainGlobals mg → mg d.name = some (.ref fa) →
      ∃ (K : PySem.W.Frag) (fd : FuncData) (sp : Sp) (ct : List (Addr × Addr)), K.In h ∧ (∀ q ∈ ct, h.get? q.2 = some (tabO #[])) ∧ (∀ q ∈ ct, K.lookup q.2 = none) ∧ (∀ q ∈ ct, PySem.W.CodeHd h q.1 q.2) ∧ (∀ (s : Shared) (u : Value), BindsTo s fd ⟨[u], []⟩ [(x, u)]) ∧
        (∀ (Hd H : Hp) (a : Addr) (ns : List Int), ns.length ≤ n → Ex Hd H → (∀ q ∈ ct, H q.2 = some (.tbl #[]) ∧ Hd q.2 = none) → SqL K Hd a (ns.map V.int) → sp [.ref a] H (fun v _ => v = .bl true) fun _ _ _ => False) ∧
        ∀ base : Heap, K.In base → base.Ns mainGlobals mg → (∀ q ∈ ct, LamX.TabB base mg q.1 q.2) → FnG l.prog w K mg base k fa fd [x] sp) :
    PySem.W.WalkO q loose XP YP l.row.toRowW d [] (fun f vs => PySem.call f vs) := by
  refine Att.attach_call hn hdf fun w s0 s1 mg mb fa o pm cd doc a vs ns G Y ho hd hcd hmg hobj hints hlen hg => ?_
  obtain ⟨K, fd, sp, ct, KX, tE, tK, tC, hb, hsp, hF⟩ := F w mg fa _ Y G.T.g hmg
  exact law_callG KX G.T.g G.T.b G.T.builtins G.T.nolimit hg tE tK tC G.T.bmain hobj hints (Nat.le_trans hlen hn2) hr hF hb fun Hd H e hT hS => hsp Hd H a ns hlen e hT hS
theorem rp_script {K : PySem.W.Frag} {H : Hp} {a : Addr} {ns : List Int} (h : SqL K H a (ns.map V.int)) : RpL K H [.ref a] [.lst (ns.map D.int)] := by
  refine .cons (.lst h ?_) .nil
  induction ns with
  | nil => exact .nil
  | cons n ns ih => exact .cons (.int n) (RpL_ints ns)
where RpL_ints : ∀ ns : List Int, RpL K H (ns.map V.int) (ns.map D.int)
  | [] => .nil
  | n :: ns => .cons (.int n) (RpL_ints ns)
def F0 (K : PySem.W.Frag) : Gm := fun a => ((tabT K).lookup a).map Mt.tab
theorem lookup_in {α : Type} {a : Addr} : ∀ {l : List (Addr × α)} {x : α}, l.lookup a = some x → (a, x) ∈ l
  | (b, y) :: l, x, h => by
    rw [List.lookup_cons] at h
    split at h
    · rename_i e
      cases h
      rw [beq_iff_eq.mp e]
      exact List.mem_cons_self
    · exact List.mem_cons_of_mem _ (lookup_in h)
theorem lookup_of {α : Type} {a : Addr} {x : α} : ∀ {l : List (Addr × α)}, (a, x) ∈ l → ∃ y, l.lookup a = some y
  | (b, y) :: l, h => by
    rw [List.lookup_cons]
    split
    · exact ⟨_, rfl⟩
    · rename_i e
      rcases List.mem_cons.mp h with z | z
      · cases z
        simp at e
      · exact lookup_of z
theorem sim_start {K : PySem.W.Frag} {Hd H : Hp} (h : TabOk K) (e : Ex Hd H) (ht : ∀ p ∈ tabT K, H p.1 = some (.tbl #[]) ∧ Hd p.1 = none) : Sim K (F0 K) Hd H G0 := by
  have key : ∀ a m, F0 K a = some m → ∃ q, m = .tab q ∧ (a, q) ∈ tabT K := fun a m z => by
    unfold F0 at z
    cases y : (tabT K).lookup a with
    | none =>
      rw [y] at z
      cases z
    | some q =>
      rw [y] at z
      cases z
      exact ⟨q, rfl, lookup_in y⟩
  refine { sub := e, off := fun _ _ h => (g0 h).elim, hold := fun _ _ h => (g0 h).elim, offF := fun a m z => ?_, holdF := fun a m z => ?_, apart := fun _ _ h => rfl, tabs := fun p hp => ?_ }
  · obtain ⟨q, _, hq⟩ := key a m z
    exact (ht _ hq).2
  · obtain ⟨q, rfl, hq⟩ := key a m z
    refine ⟨#[], (ht _ hq).1, True.intro, fun pos cv y => ?_⟩
    have y2 : codeAmong pos [] = some cv := y
    unfold codeAmong at y2
    cases y2
  · obtain ⟨q, hq⟩ := lookup_of (x := p.2) (a := p.1) hp
    show ((tabT K).lookup p.1).map Mt.tab = _
    have e3 : q = p.2 := h (p.1, q) (lookup_in hq) p hp rfl
    rw [hq, e3]
    rfl
def lawSp : DSp := fun xs G R _ => ∃ ns : List Int, xs = [.lst (ns.map D.int)] ∧ ns.length ≤ 63 ∧ (∀ a, G a = none) ∧ ∀ G', R (.bl true) G'
theorem law_sp {K : PySem.W.Frag} {Hd H : Hp} {a : Addr} {ns : List Int} (hl : ns.length ≤ 63) (ok : TabOk K) (e : Ex Hd H) (ht : ∀ p ∈ tabT K, H p.1 = some (.tbl #[]) ∧ Hd p.1 = none) (h : SqL K Hd a (ns.map V.int)) : spU K lawSp [.ref a] H (fun v _ => v = .bl true) fun _ _ _ => False :=
  ⟨_, F0 K, Hd, G0, fun d _ => d = .bl true, X0, rp_script h, sim_start ok e ht, ⟨ns, rfl, hl, fun _ => rfl, fun _ => rfl⟩, fun v H' Hd' x G' _ _ r e => by
    subst e
    cases r
    rfl, .none⟩
end DL
namespace DL
open PySem PySem.Spec PyProof.Rows L2 Evl
variable [TabC]
def isIntD : D → Bool
  | .int _ => true
  | _ => false
def bndD : D → Option (Option Int)
  | .non => some none
  | .int i => some (some i)
  | _ => none
def leO (l : Option Int) (i : Int) : Bool := match l with
  | none => true
  | some a => decide (a ≤ i)
def geO (m : Option Int) (i : Int) : Bool := match m with
  | none => true
  | some a => decide (i ≤ a)
def withinD (x : D) (l m : Option Int) : Bool := match x with
  | .int i => leO l i && geO m i
  | _ => false
theorem pair_1 (a : D) : pairD [a] = none := by cases a <;> rfl
theorem pair_3 (a b c : D) (r : List D) : pairD (a :: b :: c :: r) = none := by cases a <;> first | rfl | (cases b <;> rfl)
theorem pair_2a (a b : D) (h : isIntD a = false) : pairD [a, b] = none := by cases a <;> first | rfl | cases h
theorem forL_at {g : DG} {s : DS} {E : DEnds} (I : List D → En → Gm → Prop) : ∀ {xs : List D} {ρ : En} {G : Gm},
    (∀ x rest, ∀ (N : En → Gm → Prop) (ρ : En) (G : Gm), (x :: rest) <:+ xs → (∀ ρ G, I rest ρ G → N ρ G) → I (x :: rest) ρ G → g x ρ G fun ρ1 G1 => s { E with nx := N, ct := N, bk := E.nx } ρ1 G1) → (∀ ρ G, I [] ρ G → E.nx ρ G) → I xs ρ G → forL g s E xs ρ G
  | [], ρ, G, _, hd, h0 => hd ρ G h0
  | x :: xs, ρ, G, hs, hd, h0 => hs x xs (forL g s E xs) ρ G (List.suffix_refl _) (fun ρ G h => forL_at I (fun y r N ρ G hy => hs y r N ρ G (hy.trans (List.suffix_cons _ _))) hd h) h0
theorem cmpL_map {ρ0 : En} {i : Nat} {de : DE} {S : List D → Gm → Prop} {G : Gm} (f : D → D) : ∀ {xs acc : List D}, (∀ x ∈ xs, ∀ S' : KD, S' (f x) G → de (ρ0.set i (some x)) G S') → acc.length + xs.length ≤ sizeLine → S (acc ++ xs.map f) G → cmpL ρ0 (gN i) dYes de xs acc G S
  | [], acc, _, _, h => by
    rw [List.map_nil, List.append_nil] at h
    exact h
  | x :: xs, acc, hf, hz, h => by
    show de _ _ _
    rw [List.length_cons] at hz
    refine hf x List.mem_cons_self _ ⟨by omega, cmpL_map f (fun y hy => hf y (List.mem_cons_of_mem _ hy)) (by rw [List.length_append, List.length_singleton]; omega) ?_⟩
    rw [List.append_assoc, List.singleton_append]
    exact h
theorem gau_gup {G : Gm} {a : Addr} {m : Mt} {T : Nat} (h : Gau m T) : GauAt (gup G a m) a T := ⟨m, gup_same, h⟩
def spGauge : DSp := fun xs G R _ => ∃ ns : List Int, xs = [.lst (ns.map D.int)] ∧ ns.length ≤ 63 ∧ ∀ p m, G p = none → Gau m 0 → R (.ref p) (gup G p m)
def spDial : DSp := fun xs G R _ => ∃ a n T, xs = [.ref a, .int n] ∧ GauAt G a T ∧ T ≤ 1000000000 ∧ 1 ≤ n ∧ n < 2 ^ 8000 ∧ ∀ v m, 0 ≤ v → v < n → Gau m (T + 1) → R (.int v) (gup G a m)
def spPick : DSp := fun xs G R _ => ∃ a x ds T, xs = [.ref a, x] ∧ (x = .lst ds ∨ x = .tup ds) ∧ ds ≠ [] ∧ ds.length ≤ 1000000 ∧ GauAt G a T ∧ T ≤ 1000000000 ∧ ∀ v m, v ∈ ds → Gau m (T + 1) → R v (gup G a m)
theorem bits_lt {i : Int} {n : Nat} (h : i.natAbs < 2 ^ n) : Builtin.Int.intBits i ≤ n := by
  unfold Builtin.Int.intBits
  split
  · exact Nat.zero_le _
  · rename_i z
    have z2 : i.natAbs ≠ 0 := fun e => by
      have e2 : i = 0 := Int.natAbs_eq_zero.mp e
      rw [e2] at z
      simp at z
    exact (Nat.log2_lt z2).mpr h
theorem mul_left {i j : Int} (h : i.natAbs < 2 ^ 64) : IntMulOk i j := .of_left (bits_lt h)
theorem mul_right {i j : Int} (h : j.natAbs < 2 ^ 64) : IntMulOk i j := .of_right (bits_lt h)
theorem mul_both {i j : Int} {a b : Nat} (h : i.natAbs < 2 ^ a) (h' : j.natAbs < 2 ^ b) (hz : a + b ≤ 134217728) : IntMulOk i j := by
  have h1 := bits_lt h
  have h2 := bits_lt h'
  unfold IntMulOk
  intro z
  rw [Bool.and_eq_true] at z
  have z2 := z.2
  unfold Builtin.Int.intTooBig at z2
  have z3 := of_decide_eq_true z2
  rw [show bitsLine = 134217728 from by decide] at z3
  omega
theorem pow_ok {i j : Int} {n : Nat} (h : i.natAbs < 2 ^ n) (h0 : 0 ≤ j) (hz : (n : Int) * j ≤ 2 ^ 27) : CPw i j := by
  refine ⟨h0, Int.le_trans (Int.mul_le_mul_of_nonneg_right ?_ h0) hz⟩
  exact Int.ofNat_le.mpr (bits_lt h)
theorem div_ok {i j : Int} (h : 1 ≤ j) (h' : j < 2 ^ 8000) : CDivW i j := by
  refine wide_div (b := 8000) (by omega) ?_ (by decide) (by decide)
  have : (j.natAbs : Int) = j := by omega
  have h2 : ((j.natAbs : Nat) : Int) < ((2 ^ 8000 : Nat) : Int) := by rw [this]; exact_mod_cast h'
  exact Int.ofNat_lt.mp h2
end DL
namespace DL
open PySem PySem.Spec PyProof.Rows L2 Evl
variable [TabC]
def EvT (d : DT) (ρ : En) (G : Gm) (k : Bool) : Prop := ∀ R : Bool → Gm → Prop, R k G → d ρ G R
section
variable {ρ : En} {G : Gm} {da db : DE} {dA : DA} {x y z : D} {xs : List D} {ta tb : DT} {j k : Bool}
theorem Ev.var {i : Nat} (h : ρ[i]? = some (some z)) : Ev (dVar i) ρ G z := fun R r => ⟨z, h, r⟩
theorem EvT.tst (ha : Ev da ρ G (.bl k)) : EvT (dTst da) ρ G k := fun R r => ha _ ⟨k, rfl, r⟩
theorem EvT.and (ha : EvT ta ρ G j) (hb : EvT tb ρ G k) : EvT (dAnd ta tb) ρ G (j && k) := fun R r => ha _ (by
  cases j with
  | true => exact hb _ r
  | false => exact r)
theorem EvT.or (ha : EvT ta ρ G j) (hb : EvT tb ρ G k) : EvT (dOr ta tb) ρ G (j || k) := fun R r => ha _ (by
  cases j with
  | true => exact r
  | false => exact hb _ r)
theorem EvT.not (ha : EvT ta ρ G j) : EvT (dNot ta) ρ G (!j) := fun R r => ha _ r
theorem Ev.intC {i j : Int} {C : Int → Int → Prop} {g : Int → Int → D} (ha : Ev da ρ G (.int i)) (hb : Ev db ρ G (.int j)) (h : C i j) : Ev (dOp (fIntC C g) da db) ρ G (g i j) := .op ha hb ⟨i, j, rfl, rfl, h, rfl⟩
theorem Ev.mod {i j : Int} (ha : Ev da ρ G (.int i)) (hb : Ev db ρ G (.int j)) (h : (fun _ j => 0 < j) i j) : Ev (dOp (fIntC (fun _ j => 0 < j) fun i j => .int (i % j)) da db) ρ G (.int (i % j)) := .intC ha hb h
theorem Ev.mul {i j : Int} (ha : Ev da ρ G (.int i)) (hb : Ev db ρ G (.int j)) (h : (IntMulOk) i j) : Ev (dOp (fIntC (IntMulOk) fun i j => .int (i * j)) da db) ρ G (.int (i * j)) := .intC ha hb h
theorem Ev.pow {i j : Int} (ha : Ev da ρ G (.int i)) (hb : Ev db ρ G (.int j)) (h : (CPw) i j) : Ev (dOp (fIntC (CPw) fun i j => .int (i ^ j.toNat)) da db) ρ G (.int (i ^ j.toNat)) := .intC ha hb h
theorem Ev.fdiv {i j : Int} (ha : Ev da ρ G (.int i)) (hb : Ev db ρ G (.int j)) (h : (CDivW) i j) : Ev (dOp (fIntC (CDivW) fun i j => .int (i / j)) da db) ρ G (.int (i / j)) := .intC ha hb h
theorem Ev.lt {i j : Int} (ha : Ev da ρ G (.int i)) (hb : Ev db ρ G (.int j)) : Ev (dOp (fInt gLt) da db) ρ G (.bl (decide (i < j))) := .int ha hb
theorem Ev.gt {i j : Int} (ha : Ev da ρ G (.int i)) (hb : Ev db ρ G (.int j)) : Ev (dOp (fInt gGt) da db) ρ G (.bl (decide (j < i))) := .int ha hb
theorem Ev.ge {i j : Int} (ha : Ev da ρ G (.int i)) (hb : Ev db ρ G (.int j)) : Ev (dOp (fInt gGe) da db) ρ G (.bl (decide (j ≤ i))) := .int ha hb
theorem Ev.intOf {i : Int} (ha : Ev da ρ G (.int i)) : Ev (dCal fIntOf (dCons da dNil)) ρ G (.int i) := .cal (.one ha) (.inl ⟨i, rfl, rfl⟩)
theorem Ev.intB (ha : Ev da ρ G (.bl k)) : Ev (dCal fIntOf (dCons da dNil)) ρ G (.int (if k then 1 else 0)) := .cal (.one ha) (.inr ⟨k, rfl, rfl⟩)
theorem Ev.absN {i : Int} (ha : Ev da ρ G (.int i)) : Ev (dCal fAbs (dCons da dNil)) ρ G (.int (i.natAbs : Int)) := .cal (.one ha) ⟨i, rfl, by congr 1; split <;> omega⟩
theorem ds_set {E : DEnds} {i : Nat} (ha : Ev da ρ G x) (h : E.nx (ρ.set i (some x)) G) : dSet i da E ρ G := ha _ h
theorem ds_ret {E : DEnds} (ha : Ev da ρ G x) (h : E.rt x G) : dRet da E ρ G := ha _ h
theorem ds_if {E : DEnds} {s1 s2 : DS} (ha : EvT ta ρ G k) (h : if k = true then s1 E ρ G else s2 E ρ G) : dIfS ta s1 s2 E ρ G := ha _ h
theorem ds_setIx {E : DEnds} {dc : DE} {a : Addr} {i : Int} {j : Nat} (ha : Ev da ρ G x) (hb : Ev db ρ G (.ref a)) (hc : Ev dc ρ G (.int i)) (hg : G a = some (.lst xs)) (hj : ixN xs.length i = some j) (h : E.nx ρ (gup G a (.lst (xs.set j x)))) : dSetIx da db dc E ρ G :=
  ha _ (hb _ (hc _ ⟨a, xs, i, j, rfl, hg, rfl, hj, h⟩))
end
def dialB (c0 c1 c2 c3 c4 c5 c6 c7 c8 c9 : Int) : DS := (dSeq (dIfS (dTst (dOp (fInt gGt) (dIx (dVar 0) (dC (.int 2))) (dC (.int 0)))) (dSeq (dSet 2 (dCal fIntOf (dCons (dIx (dVar 0) (dC (.int 2))) dNil))) (dSeq (dSetIx (dOp (fIntC CDivW fun i j => .int (i / j)) (dVar 2) (dVar 1)) (dVar 0) (dC (.int 2))) (dRet (dOp (fIntC (fun _ j => 0 < j) fun i j => .int (i % j)) (dCal fIntOf (dCons (dVar 2) dNil)) (dVar 1))))) dNext) (dSeq (dSet 3 (dIx (dVar 0) (dC (.int 1)))) (dSeq (dSetIx (dOp fAdd (dVar 3) (dC (.int 1))) (dVar 0) (dC (.int 1))) (dSeq (dSet 4 (dOp fAdd (dOp (fIntC IntMulOk fun i j => .int (i * j)) (dC (.int c0)) (dVar 3)) (dC (.int c1)))) (dSeq (dIfS (dTst (dOp fNe (dIx (dVar 0) (dC (.int 0))) (dLst dNil))) (dSet 4 (dIx (dIx (dVar 0) (dC (.int 0))) (dOp (fIntC (fun _ j => 0 < j) fun i j => .int (i % j)) (dCal fIntOf (dCons (dVar 3) dNil)) (dCal fLen (dCons (dIx (dVar 0) (dC (.int 0))) dNil))))) dNext) (dSeq (dIfS (dAnd (dTst (dOp (fInt gLt) (dVar 3) (dCal fLen (dCons (dIx (dVar 0) (dC (.int 0))) dNil)))) (dTst (dOp (fInt gGe) (dCal fAbs (dCons (dVar 4) dNil)) (dOp (fIntC CPw fun i j => .int (i ^ j.toNat)) (dC (.int 10)) (dC (.int 18)))))) (dSeq (dSet 2 (dOp fAdd (dOp (fIntC IntMulOk fun i j => .int (i * j)) (dC (.int 2)) (dOp (fInt fun i j => .int (i - j)) (dCal fAbs (dCons (dCal fIntOf (dCons (dVar 4) dNil)) dNil)) (dOp (fIntC CPw fun i j => .int (i ^ j.toNat)) (dC (.int 10)) (dC (.int 18))))) (dCal fIntOf (dCons (dOp (fInt gLt) (dVar 4) (dC (.int 0))) dNil)))) (dSeq (dSetIx (dOp (fIntC CDivW fun i j => .int (i / j)) (dVar 2) (dVar 1)) (dVar 0) (dC (.int 2))) (dRet (dOp (fIntC (fun _ j => 0 < j) fun i j => .int (i % j)) (dCal fIntOf (dCons (dVar 2) dNil)) (dVar 1))))) dNext) (dSeq (dSet 5 (dOp (fIntC (fun _ j => 0 < j) fun i j => .int (i % j)) (dCal fIntOf (dCons (dOp (fIntC CPw fun i j => .int (i ^ j.toNat)) (dOp fAdd (dOp fAdd (dOp (fIntC (fun _ j => 0 < j) fun i j => .int (i % j)) (dCal fIntOf (dCons (dVar 4) dNil)) (dC (.int c2))) (dOp (fIntC IntMulOk fun i j => .int (i * j)) (dC (.int c3)) (dVar 3))) (dC (.int c4))) (dC (.int 5))) dNil)) (dC (.int c5)))) (dSeq (dSet 5 (dOp (fIntC (fun _ j => 0 < j) fun i j => .int (i % j)) (dCal fIntOf (dCons (dOp (fIntC CPw fun i j => .int (i ^ j.toNat)) (dOp fAdd (dOp fAdd (dOp (fIntC IntMulOk fun i j => .int (i * j)) (dVar 5) (dOp fAdd (dOp (fIntC IntMulOk fun i j => .int (i * j)) (dC (.int 2)) (dVar 3)) (dC (.int c6)))) (dOp (fIntC IntMulOk fun i j => .int (i * j)) (dOp (fIntC IntMulOk fun i j => .int (i * j)) (dC (.int c7)) (dVar 3)) (dVar 3))) (dC (.int c8))) (dC (.int 3))) dNil)) (dC (.int c9)))) (dRet (dOp (fIntC (fun _ j => 0 < j) fun i j => .int (i % j)) (dCal fIntOf (dCons (dOp (fIntC CDivW fun i j => .int (i / j)) (dVar 5) (dC (.int 64))) dNil)) (dVar 1)))))))))))
theorem atI_mod {cs : List Int} (h : cs ≠ []) (t : Nat) : ∃ v, atI (cs.map D.int) ((t : Int) % ((cs.map D.int).length : Int)) = some (.int v) := by
  have hl : 0 < cs.length := List.length_pos_iff.mpr h
  rw [List.length_map]
  have h1 : 0 ≤ (t : Int) % (cs.length : Int) := Int.emod_nonneg _ (by omega)
  have h2 : (t : Int) % (cs.length : Int) < cs.length := Int.emod_lt_of_pos _ (by omega)
  refine ⟨cs[((t : Int) % (cs.length : Int)).toNat]'(by omega), ?_⟩
  unfold atI ixN
  rw [List.length_map, if_pos h1, if_pos h2, Option.bind_some, List.getElem?_map, List.getElem?_eq_getElem (by omega)]
  rfl
def Sml (c : Int) : Prop := 0 < c ∧ c < 2 ^ 32
theorem mb {x y : Int} (a b : Nat) (hx : 0 ≤ x) (hxa : x < 2 ^ a) (hy : 0 ≤ y) (hyb : y < 2 ^ b) : 0 ≤ x * y ∧ x * y < 2 ^ (a + b) := by
  refine ⟨Int.mul_nonneg hx hy, ?_⟩
  rw [Int.pow_add]
  have h1 : x * y ≤ x * 2 ^ b := Int.mul_le_mul_of_nonneg_left (Int.le_of_lt hyb) hx
  have h2 : x * 2 ^ b < 2 ^ a * 2 ^ b := Int.mul_lt_mul_of_pos_right hxa (Int.pow_pos (by decide))
  omega
theorem nab {x : Int} (a : Nat) (h : 0 ≤ x) (h' : x < 2 ^ a) : x.natAbs < 2 ^ a := by
  have h2 : ((x.natAbs : Nat) : Int) < ((2 ^ a : Nat) : Int) := by
    rw [Int.natAbs_of_nonneg h]
    exact_mod_cast h'
  exact Int.ofNat_lt.mp h2
def tailD (c0 c1 c2 c3 c4 c5 c6 c7 : Int) : DS := (dSeq (dSet 5 (dOp (fIntC (fun _ j => 0 < j) fun i j => .int (i % j)) (dCal fIntOf (dCons (dOp (fIntC CPw fun i j => .int (i ^ j.toNat)) (dOp fAdd (dOp fAdd (dOp (fIntC (fun _ j => 0 < j) fun i j => .int (i % j)) (dCal fIntOf (dCons (dVar 4) dNil)) (dC (.int c0))) (dOp (fIntC IntMulOk fun i j => .int (i * j)) (dC (.int c1)) (dVar 3))) (dC (.int c2))) (dC (.int 5))) dNil)) (dC (.int c3)))) (dSeq (dSet 5 (dOp (fIntC (fun _ j => 0 < j) fun i j => .int (i % j)) (dCal fIntOf (dCons (dOp (fIntC CPw fun i j => .int (i ^ j.toNat)) (dOp fAdd (dOp fAdd (dOp (fIntC IntMulOk fun i j => .int (i * j)) (dVar 5) (dOp fAdd (dOp (fIntC IntMulOk fun i j => .int (i * j)) (dC (.int 2)) (dVar 3)) (dC (.int c4)))) (dOp (fIntC IntMulOk fun i j => .int (i * j)) (dOp (fIntC IntMulOk fun i j => .int (i * j)) (dC (.int c5)) (dVar 3)) (dVar 3))) (dC (.int c6))) (dC (.int 3))) dNil)) (dC (.int c7)))) (dRet (dOp (fIntC (fun _ j => 0 < j) fun i j => .int (i % j)) (dCal fIntOf (dCons (dOp (fIntC CDivW fun i j => .int (i / j)) (dVar 5) (dC (.int 64))) dNil)) (dVar 1)))))
theorem tail_ok {c0 c1 c2 c3 c4 c5 c6 c7 : Int} (h0 : Sml c0) (h1 : Sml c1) (h2 : Sml c2) (h3 : Sml c3) (h4 : Sml c4) (h5 : Sml c5) (h6 : Sml c6) (h7 : Sml c7) {E : DEnds} {ρ : En} {G : Gm} {n cell : Int} {t : Nat} (hn : 1 ≤ n) (ht : t ≤ 1000000000)
    (hl : ρ.length = 6) (r1 : ρ[1]? = some (some (.int n))) (r3 : ρ[3]? = some (some (.int t))) (r4 : ρ[4]? = some (some (.int cell))) (k : ∀ v, 0 ≤ v → v < n → E.rt (.int v) G) : tailD c0 c1 c2 c3 c4 c5 c6 c7 E ρ G := by
  obtain ⟨p0, q0⟩ := h0
  obtain ⟨p1, q1⟩ := h1
  obtain ⟨p2, q2⟩ := h2
  obtain ⟨p3, q3⟩ := h3
  obtain ⟨p4, q4⟩ := h4
  obtain ⟨p5, q5⟩ := h5
  obtain ⟨p6, q6⟩ := h6
  obtain ⟨p7, q7⟩ := h7
  have tt : (t : Int) < 2 ^ 30 := by omega
  have t0 : 0 ≤ (t : Int) := by omega
  have a1 := mb 32 30 (Int.le_of_lt p1) q1 t0 tt
  have a2 := Int.emod_nonneg cell (show c0 ≠ 0 by omega)
  have a3 := Int.emod_lt_of_pos cell p0
  have s1 : ∀ {c : Int}, 0 < c → c < 2 ^ 32 → c.natAbs < 2 ^ 64 := fun {c} h h' => Nat.lt_trans (nab 32 (Int.le_of_lt h) h') (by decide)
  refine ds_set (.mod (.intOf (.pow (.add (.add (.mod (.intOf (.var r4)) .c p0) (.mul .c (.var r3) (mul_left (s1 p1 q1)))) .c) .c ?_)) .c p3) ?_
  · exact pow_ok (n := 64) (nab 64 (by omega) (by omega)) (by decide) (by decide)
  generalize em : (cell % c0 + c1 * (t : Int) + c2) ^ Int.toNat 5 % c3 = mx
  have m0 : 0 ≤ mx := by rw [← em]; exact Int.emod_nonneg _ (by omega)
  have m1 : mx < 2 ^ 32 := by rw [← em]; exact Int.lt_trans (Int.emod_lt_of_pos _ p3) q3
  have l5 : (ρ.set 5 (some (.int mx)))[5]? = some (some (.int mx)) := List.getElem?_set_self (by omega)
  have ne5 : ∀ {i : Nat}, 5 ≠ i → (ρ.set 5 (some (D.int mx)))[i]? = ρ[i]? := fun h => List.getElem?_set_ne h
  have r3' : (ρ.set 5 (some (D.int mx)))[3]? = some (some (.int t)) := by rw [ne5 (by decide), r3]
  have b1 := mb 32 33 m0 m1 (show 0 ≤ 2 * (t : Int) + c4 by omega) (show 2 * (t : Int) + c4 < 2 ^ 33 by omega)
  have b2 := mb 32 30 (Int.le_of_lt p5) q5 t0 tt
  have b3 := mb 62 30 b2.1 b2.2 t0 tt
  refine ds_set (.mod (.intOf (.pow (.add (.add (.mul (.var l5) (.add (.mul .c (.var r3') ?_) .c) ?_) (.mul (.mul .c (.var r3') ?_) (.var r3') ?_)) .c) .c ?_)) .c p7) ?_
  · exact mul_left (show Int.natAbs 2 < 2 ^ 64 by decide)
  · exact mul_left (Nat.lt_trans (nab 32 m0 m1) (by decide))
  · exact mul_left (s1 p5 q5)
  · exact mul_right (Nat.lt_trans (nab 30 t0 tt) (by decide))
  · exact pow_ok (n := 100) (nab 100 (by omega) (by omega)) (by decide) (by decide)
  generalize (mx * (2 * (t : Int) + c4) + c5 * (t : Int) * (t : Int) + c6) ^ Int.toNat 3 % c7 = my
  refine ds_ret (.mod (.intOf (.fdiv (.var (List.getElem?_set_self (by rw [List.length_set]; omega))) .c (div_ok (by decide) (by decide +kernel)))) (.var ?_) (by omega)) (k _ (Int.emod_nonneg _ (by omega)) (Int.emod_lt_of_pos _ (by omega)))
  rw [List.getElem?_set_ne (by decide), ne5 (by decide), r1]
def finD : DS := (dSeq (dSetIx (dOp (fIntC CDivW fun i j => .int (i / j)) (dVar 2) (dVar 1)) (dVar 0) (dC (.int 2))) (dRet (dOp (fIntC (fun _ j => 0 < j) fun i j => .int (i % j)) (dCal fIntOf (dCons (dVar 2) dNil)) (dVar 1))))
theorem fin_ok {E : DEnds} {ρ : En} {G : Gm} {n q t r : Int} {a : Addr} {cs : List Int} (hn : 1 ≤ n) (hn2 : n < 2 ^ 8000) (r0 : ρ[0]? = some (some (.ref a))) (r1 : ρ[1]? = some (some (.int n))) (r2 : ρ[2]? = some (some (.int q)))
    (hg : G a = some (.lst [.lst (cs.map D.int), .int t, .int r])) (k : ∀ v, 0 ≤ v → v < n → E.rt (.int v) (gup G a (.lst [.lst (cs.map D.int), .int t, .int (q / n)]))) : finD E ρ G := by
  refine ds_setIx (.fdiv (.var r2) (.var r1) (div_ok hn hn2)) (.var r0) .c hg (j := 2) rfl ?_
  exact ds_ret (.mod (.intOf (.var r2)) (.var r1) (by omega)) (k _ (Int.emod_nonneg _ (by omega)) (Int.emod_lt_of_pos _ (by omega)))
theorem ne_nil_eqv {cs : List Int} : D.eqv (.lst (cs.map D.int)) (.lst []) = cs.isEmpty := by
  have key : ∀ cs : List Int, D.pyL (cs.map D.int) = some (cs.map PyData.int) := fun cs => by
    induction cs with
    | nil => rfl
    | cons c cs ih => simp only [List.map_cons, D.pyL, ih, D.py]
  have e1 : D.py (.lst (cs.map D.int)) = some (.list (cs.map PyData.int)) := by simp only [D.py, key, Option.map_some]
  rw [eqv_of e1 (q := .list []) rfl]
  cases cs <;> rfl
theorem cmp_ints (cs : List Int) : Cmp (.lst (cs.map D.int)) := by
  have l : ∀ cs : List Int, D.layL (cs.map D.int) = true := fun cs => by
    induction cs with
    | nil => rfl
    | cons c cs ih => simp only [List.map_cons, D.layL, ih, D.lay, Bool.and_self]
  have d : ∀ cs : List Int, D.dpL (cs.map D.int) = 0 := fun cs => by
    induction cs with
    | nil => rfl
    | cons c cs ih => simp only [List.map_cons, D.dpL, ih, D.dp, Nat.max_self]
  exact ⟨by simp only [D.lay, l], by simp only [D.dp, d]; decide⟩
theorem Ev.neNil {ρ : En} {G : Gm} {da : DE} {cs : List Int} (ha : Ev da ρ G (.lst (cs.map D.int))) : Ev (dOp fNe da (dLst dNil)) ρ G (.bl (!cs.isEmpty)) := .op ha (.lst .nil (Nat.zero_le _)) ⟨cmp_ints cs, cmp_ints [], by rw [ne_nil_eqv]⟩
theorem ten18 : CPw 10 18 := pow_ok (n := 4) (by decide) (by decide) (by decide)
theorem dialB_ok {c0 c1 c2 c3 c4 c5 c6 c7 c8 c9 : Int} (h0 : Sml c0) (h1 : Sml c1) (h2 : Sml c2) (h3 : Sml c3) (h4 : Sml c4) (h5 : Sml c5) (h6 : Sml c6) (h7 : Sml c7) (h8 : Sml c8) (h9 : Sml c9) (xs : List D) (G : Gm) (R : KD) (RX : XD) (h : spDial xs G R RX) :
    dialB c0 c1 c2 c3 c4 c5 c6 c7 c8 c9 { nx := fun _ G => R .non G, rt := R } (xs.map some ++ List.replicate (6 - xs.length) none) G := by
  obtain ⟨a, n, T, rfl, ⟨m, hg, cs, t, r, rfl, hcs, ht, hr⟩, hT, hn, hn2, hR⟩ := h
  show dialB c0 c1 c2 c3 c4 c5 c6 c7 c8 c9 _ [some (.ref a), some (.int n), none, none, none, none] G
  have kk : ∀ {v : Int} {t' : Nat} {r' : Int}, 0 ≤ v → v < n → t' ≤ T + 1 → 0 ≤ r' → R (.int v) (gup G a (.lst [.lst (cs.map D.int), .int t', .int r'])) := fun h1 h2 h3 h4 => hR _ _ h1 h2 ⟨cs, _, _, rfl, hcs, h3, h4⟩
  have dn : ∀ {q : Int}, 0 ≤ q → 0 ≤ q / n := fun h => Int.ediv_nonneg h (by omega)
  refine ds_if (.tst (.gt (.at (.var rfl) .c (seq_ref hg) rfl) .c)) ?_
  split
  · rename_i hr1
    refine ds_set (.intOf (.at (.var rfl) .c (seq_ref hg) rfl)) ?_
    exact fin_ok hn hn2 rfl rfl rfl hg fun v v0 v1 => kk v0 v1 (by omega) (dn hr)
  refine ds_set (.at (.var rfl) .c (seq_ref hg) rfl) ?_
  refine ds_setIx (.add (.var rfl) .c) (.var rfl) .c hg (j := 1) rfl ?_
  have kk2 : ∀ {v : Int} {r' : Int}, 0 ≤ v → v < n → 0 ≤ r' → R (.int v) (gup G a (.lst [.lst (cs.map D.int), .int ((t : Int) + 1), .int r'])) := fun h1 h2 h4 => kk (t' := t + 1) h1 h2 (by omega) h4
  have hg1 : gup G a (.lst ([D.lst (cs.map D.int), .int t, .int r].set 1 (.int ((t : Int) + 1)))) a = some (.lst [.lst (cs.map D.int), .int ((t : Int) + 1), .int r]) := gup_same
  refine ds_set (.add (.mul .c (.var rfl) (mul_left (Nat.lt_trans (nab 32 (Int.le_of_lt h0.1) h0.2) (by decide)))) .c) ?_
  have go : ∀ (cell : Int), (dSeq (dIfS (dAnd (dTst (dOp (fInt gLt) (dVar 3) (dCal fLen (dCons (dIx (dVar 0) (dC (.int 0))) dNil)))) (dTst (dOp (fInt gGe) (dCal fAbs (dCons (dVar 4) dNil)) (dOp (fIntC CPw fun i j => .int (i ^ j.toNat)) (dC (.int 10)) (dC (.int 18)))))) (dSeq (dSet 2 (dOp fAdd (dOp (fIntC IntMulOk fun i j => .int (i * j)) (dC (.int 2)) (dOp (fInt fun i j => .int (i - j)) (dCal fAbs (dCons (dCal fIntOf (dCons (dVar 4) dNil)) dNil)) (dOp (fIntC CPw fun i j => .int (i ^ j.toNat)) (dC (.int 10)) (dC (.int 18))))) (dCal fIntOf (dCons (dOp (fInt gLt) (dVar 4) (dC (.int 0))) dNil)))) (dSeq (dSetIx (dOp (fIntC CDivW fun i j => .int (i / j)) (dVar 2) (dVar 1)) (dVar 0) (dC (.int 2))) (dRet (dOp (fIntC (fun _ j => 0 < j) fun i j => .int (i % j)) (dCal fIntOf (dCons (dVar 2) dNil)) (dVar 1))))) dNext) (dSeq (dSet 5 (dOp (fIntC (fun _ j => 0 < j) fun i j => .int (i % j)) (dCal fIntOf (dCons (dOp (fIntC CPw fun i j => .int (i ^ j.toNat)) (dOp fAdd (dOp fAdd (dOp (fIntC (fun _ j => 0 < j) fun i j => .int (i % j)) (dCal fIntOf (dCons (dVar 4) dNil)) (dC (.int c2))) (dOp (fIntC IntMulOk fun i j => .int (i * j)) (dC (.int c3)) (dVar 3))) (dC (.int c4))) (dC (.int 5))) dNil)) (dC (.int c5)))) (dSeq (dSet 5 (dOp (fIntC (fun _ j => 0 < j) fun i j => .int (i % j)) (dCal fIntOf (dCons (dOp (fIntC CPw fun i j => .int (i ^ j.toNat)) (dOp fAdd (dOp fAdd (dOp (fIntC IntMulOk fun i j => .int (i * j)) (dVar 5) (dOp fAdd (dOp (fIntC IntMulOk fun i j => .int (i * j)) (dC (.int 2)) (dVar 3)) (dC (.int c6)))) (dOp (fIntC IntMulOk fun i j => .int (i * j)) (dOp (fIntC IntMulOk fun i j => .int (i * j)) (dC (.int c7)) (dVar 3)) (dVar 3))) (dC (.int c8))) (dC (.int 3))) dNil)) (dC (.int c9)))) (dRet (dOp (fIntC (fun _ j => 0 < j) fun i j => .int (i % j)) (dCal fIntOf (dCons (dOp (fIntC CDivW fun i j => .int (i / j)) (dVar 5) (dC (.int 64))) dNil)) (dVar 1)))))) { nx := fun _ G => R .non G, rt := R } [some (.ref a), some (.int n), none, some (.int t), some (.int cell), none] (gup G a (.lst [.lst (cs.map D.int), .int ((t : Int) + 1), .int r])) := fun cell => by
      refine ds_if (.and (.tst (.lt (.var rfl) (.len (.at (.var rfl) .c (seq_ref hg1) rfl) seq_lst))) (.tst (.ge (.absN (.var rfl)) (.pow .c .c ten18)))) ?_
      split
      · rename_i hb
        rw [Bool.and_eq_true] at hb
        have hb2 := of_decide_eq_true hb.2
        refine ds_set (.add (.mul .c (.sub (.absN (.intOf (.var rfl))) (.pow .c .c ten18)) (mul_left (show Int.natAbs 2 < 2 ^ 64 by decide))) (.intB (.lt (.var rfl) .c))) ?_
        refine fin_ok hn hn2 rfl rfl rfl hg1 fun v v0 v1 => ?_
        rw [gup_gup]
        refine kk2 v0 v1 (dn ?_)
        have : (0 : Int) ≤ if decide (cell < 0) = true then 1 else 0 := by split <;> decide
        omega
      exact tail_ok (E := { nx := fun _ G => R .non G, rt := R }) h2 h3 h4 h5 h6 h7 h8 h9 hn (by omega) rfl rfl rfl rfl fun v v0 v1 => kk2 v0 v1 hr
  refine ds_if (.tst (.neNil (.at (.var rfl) .c (seq_ref hg1) rfl))) ?_
  split
  · rename_i hne
    have hne2 : cs ≠ [] := fun e => by
      rw [e] at hne
      cases hne
    obtain ⟨cell, hcell⟩ := atI_mod hne2 t
    refine ds_set (.at (.at (.var rfl) .c (seq_ref hg1) rfl) (.mod (.intOf (.var rfl)) (.len (.at (.var rfl) .c (seq_ref hg1) rfl) seq_lst) ?_) seq_lst hcell) (go cell)
    rw [List.length_map]
    have := List.length_pos_iff.mpr hne2
    omega
  · exact go _
end DL
namespace DL
open PySem PySem.Spec PyProof.Rows L2 Evl
variable [TabC]
section
variable {ρ : En} {G : Gm} {da db dc : DE} {dA : DA} {x y z : D} {xs : List D} {ta tb : DT} {j k : Bool}
theorem EvT.orT (ha : EvT ta ρ G true) : EvT (dOr ta tb) ρ G true := fun R r => ha _ r
theorem EvT.orF (ha : EvT ta ρ G false) (hb : EvT tb ρ G k) : EvT (dOr ta tb) ρ G k := fun R r => ha _ (hb _ r)
theorem EvT.andT (ha : EvT ta ρ G true) (hb : EvT tb ρ G k) : EvT (dAnd ta tb) ρ G k := fun R r => ha _ (hb _ r)
theorem Ev.andT (ha : Ev da ρ G (.bl true)) (hb : Ev db ρ G z) : Ev (dAndV da db) ρ G z := fun R r => ha _ ⟨true, rfl, hb _ r⟩
theorem Ev.and2 (ha : Ev da ρ G (.bl j)) (hb : j = true → Ev db ρ G (.bl k)) : Ev (dAndV da db) ρ G (.bl (j && k)) := fun R r => ha _ ⟨j, rfl, by
  cases j with
  | true => exact hb rfl _ r
  | false => exact r⟩
theorem Ev.orT (ha : Ev da ρ G (.bl true)) : Ev (dOrV da db) ρ G (.bl true) := fun R r => ha _ ⟨true, rfl, r⟩
theorem Ev.orF (ha : Ev da ρ G (.bl false)) (hb : Ev db ρ G z) : Ev (dOrV da db) ρ G z := fun R r => ha _ ⟨false, rfl, hb _ r⟩
theorem Ev.notV (ha : Ev da ρ G (.bl j)) : Ev (dNotV da) ρ G (.bl (!j)) := fun R r => ha _ ⟨j, rfl, r⟩
theorem Ev.isN (ha : Ev da ρ G x) : Ev (dIsN da) ρ G (.bl x.isN) := fun R r => ha _ r
theorem Ev.ifT (ha : EvT ta ρ G true) (hb : Ev da ρ G z) : Ev (dIf ta da db) ρ G z := fun R r => ha _ (hb _ r)
theorem Ev.ifF (ha : EvT ta ρ G false) (hb : Ev db ρ G z) : Ev (dIf ta da db) ρ G z := fun R r => ha _ (hb _ r)
theorem Ev.callK {q : DSp} {o : Ord} (ha : EvA dA ρ G xs) (h : ∀ R, R z G → q (o.go xs) G R X0) : Ev (dCallK q o X0 dA) ρ G z := fun R r => ha _ (h R r)
theorem Ev.isi {n t : String} (ha : Ev da ρ G x) (h : x.tyn = some t) : Ev (dCal (fIsi n) (dCons da (dCons (dC (.ty n)) dNil))) ρ G (.bl (isK t n)) := .cal (.cons ha (.one .c)) ⟨x, t, rfl, h, rfl⟩
theorem Ev.isiT {ns : List String} {t : String} (ha : Ev da ρ G x) (h : x.tyn = some t) : Ev (dIsiT ns da) ρ G (.bl (ns.any (isK t))) := fun R r => ha _ ⟨t, h, r⟩
theorem Ev.eqI {i j : Int} (ha : Ev da ρ G (.int i)) (hb : Ev db ρ G (.int j)) : Ev (dOp fEq da db) ρ G (.bl (decide (i = j))) := .op ha hb rfl
theorem Ev.neI {i j : Int} (ha : Ev da ρ G (.int i)) (hb : Ev db ρ G (.int j)) : Ev (dOp fNe da db) ρ G (.bl (!decide (i = j))) := .op ha hb rfl
theorem Ev.neS {i j : Str} (ha : Ev da ρ G (.str i)) (hb : Ev db ρ G (.str j)) : Ev (dOp fNe da db) ρ G (.bl (!decide (i = j))) := .op ha hb rfl
theorem ds_par {E : DEnds} {i j : Nat} (ha : Ev da ρ G x) (hb : Ev db ρ G y) (h : E.nx ((ρ.set i (some x)).set j (some y)) G) : dPar i j (dCons da (dCons db dNil)) E ρ G := ha _ (hb _ ⟨x, y, rfl, h⟩)
theorem Ev.cast {z' : D} (h : Ev da ρ G z) (e : z = z') : Ev da ρ G z' := e ▸ h
theorem EvT.cast (h : EvT ta ρ G j) (e : j = k) : EvT ta ρ G k := e ▸ h
end
section
variable {ρ : En} {a : Addr} {j k : Nat} {da db : DE} {dA : DA} {P P2 P3 : D → Prop} {PL : List D → Prop}
theorem Drw.ev {z : D} (h : ∀ G, Ev da ρ G z) (hp : P z) : Drw da ρ a 0 P := fun G T R ⟨m, hg, hm⟩ _ r => h G R (by
  rw [← gup_self hg]
  exact r z m hp hm)
theorem Drw.dial {i : Nat} {dn : DE} {n : Int} (hi : ρ[i]? = some (some (.ref a))) (hn : ∀ G, Ev dn ρ G (.int n)) (h1 : 1 ≤ n) (h2 : n < 2 ^ 8000) : Drw (dCall spDial X0 (dCons (dVar i) (dCons dn dNil))) ρ a 1 (fun x => ∃ v, x = .int v ∧ 0 ≤ v ∧ v < n) := fun G T R hg ht r =>
  (EvA.cons (Ev.var hi) (EvA.one (hn G))) _ ⟨a, n, T, rfl, hg, by omega, h1, h2, fun v m v0 v1 hm => r _ m ⟨v, rfl, v0, v1⟩ hm⟩
theorem Drw.pick {i : Nat} {dl : DE} (hi : ρ[i]? = some (some (.ref a))) (h : Drw dl ρ a k (fun x => ∃ ds, (x = .lst ds ∨ x = .tup ds) ∧ ds ≠ [] ∧ ds.length ≤ 1000000 ∧ ∀ y ∈ ds, P y)) : Drw (dCall spPick X0 (dCons (dVar i) (dCons dl dNil))) ρ a (k + 1) P := fun G T R hg ht r => by
  refine ⟨_, hi, h G T _ hg (by omega) fun x m ⟨ds, hx, h1, h2, h3⟩ hm => ?_⟩
  refine ⟨a, x, ds, T + k, rfl, hx, h1, h2, ⟨m, gup_same, hm⟩, by omega, fun v m' hv hm' => ?_⟩
  rw [gup_gup]
  exact r v m' (h3 v hv) hm'
theorem Drw.pickL {i n : Nat} (hi : ρ[i]? = some (some (.ref a))) (h : DrwA dA ρ a k (fun l => l.length = n ∧ ∀ x ∈ l, P x)) (hn : 1 ≤ n := by decide) (hn2 : n ≤ 1000000 := by decide) : Drw (dCall spPick X0 (dCons (dVar i) (dCons (dLst dA) dNil))) ρ a (k + 1) P :=
  .pick hi (.lst h fun l ⟨hl, hp⟩ => ⟨by rw [hl, sizeLine_eq]; omega, l, .inl rfl, fun e => by rw [e] at hl; simp at hl; omega, by omega, hp⟩)
end
def gaugeD (c : Int) : DS := dRet (dLstM (dCons (dCmp (dISeq (dSl (dVar 0) dNoP (dPart (dC (.int c))))) (gN 1) dYes (dCal fIntOf (dCons (dVar 1) dNil)) [1]) (dCons (dC (.int 0)) (dCons (dC (.int 0)) dNil))))
theorem gauge_ok {c : Int} (xs : List D) (G : Gm) (R : KD) (RX : XD) (h : spGauge xs G R RX) : gaugeD c { nx := fun _ G => R .non G, rt := R } (xs.map some ++ List.replicate (2 - xs.length) none) G := by
  obtain ⟨ns, rfl, hl, h⟩ := h
  have hc : ∃ ms : List Int, cutD (ns.map D.int) none (some c) = ms.map D.int ∧ ms.length ≤ 63 := by
    unfold cutD
    rw [← List.map_drop, ← List.map_take]
    exact ⟨_, rfl, by rw [List.length_take, List.length_drop]; omega⟩
  obtain ⟨ms, hms, hml⟩ := hc
  show dLstM _ [some (.lst (ns.map D.int)), none] G R
  refine ⟨_, rfl, c, rfl, .lst (ms.map D.int), .inl ⟨ns.map D.int, lst_lst, by rw [hms]⟩, ms.map D.int, .inl rfl, ?_⟩
  refine cmpL_map (f := id) (fun x hx S' hS => ?_) (by rw [List.length_map, sizeLine_eq, List.length_nil]; omega) ?_
  · obtain ⟨i, _, rfl⟩ := List.mem_map.mp hx
    exact Ev.intOf (ρ := _) (.var rfl) _ hS
  · rw [List.map_id, List.nil_append]
    exact ⟨by rw [sizeLine_eq, List.length_cons, List.length_cons, List.length_singleton]; omega, fun p hp => h p _ hp ⟨ms, 0, 0, rfl, hml, Nat.le_refl _, Int.le_refl _⟩⟩
def pickD : DS := dRet (dIx (dVar 1) (dCall spDial X0 (dCons (dVar 0) (dCons (dCal fLen (dCons (dVar 1) dNil)) dNil))))
theorem atI_nat {ds : List D} {i : Int} (h : 0 ≤ i) (h' : i < ds.length) : ∃ z, z ∈ ds ∧ atI ds i = some z := by
  refine ⟨ds[i.toNat]'(by omega), List.getElem_mem _, ?_⟩
  unfold atI ixN
  rw [if_pos h, if_pos h', Option.bind_some, List.getElem?_eq_getElem (by omega)]
theorem pick_ok (xs : List D) (G : Gm) (R : KD) (RX : XD) (h : spPick xs G R RX) : pickD { nx := fun _ G => R .non G, rt := R } (xs.map some ++ List.replicate (2 - xs.length) none) G := by
  obtain ⟨a, x, ds, T, rfl, hx, hne, hl, hg, ht, h⟩ := h
  have hs : SeqAt G x ds := by
    rcases hx with rfl | rfl
    · exact seq_lst
    · exact seq_tup
  have h0 := List.length_pos_iff.mpr hne
  show dIx _ _ [some (.ref a), some x] G R
  refine ⟨x, rfl, (EvA.cons (Ev.var rfl) (EvA.one (Ev.len (Ev.var rfl) hs))) _ ⟨a, ds.length, T, rfl, hg, ht, by omega, ?_, fun v m v0 v1 hm => ?_⟩⟩
  · exact Int.lt_of_lt_of_le (b := 2000000) (by omega) (by decide +kernel)
  · obtain ⟨z, hz, he⟩ := atI_nat v0 v1
    refine ⟨z, .inl ⟨ds, v, ?_, rfl, he⟩, h z m hz hm⟩
    rcases hx with rfl | rfl
    · exact seq_lst
    · exact seq_tup
end DL
namespace DL
open PySem PySem.Spec PyProof.Rows L2 Evl
variable [TabC]
theorem kn_tyn {x : D} (h : x.kn = true) : ∃ t, x.tyn = some t := by cases x <;> first | exact ⟨_, rfl⟩ | cases h
def sp_is_integer : DSp := fun xs G R _ => ∃ x, xs = [x] ∧ x.kn = true ∧ R (.bl (isIntD x)) G
def sp_is_within : DSp := fun xs G R _ => ∃ x a b l m, xs = [x, a, b] ∧ x.kn = true ∧ bndD a = some l ∧ bndD b = some m ∧ R (.bl (withinD x l m)) G
def sp_is_list : DSp := fun xs G R _ => ∃ x, xs = [x] ∧ x.kn = true ∧ R (.bl (isSeqD x)) G
def sp_is_number : DSp := fun xs G R _ => ∃ x, xs = [x] ∧ x.kn = true ∧ R (.bl (numD x)) G
def smallD (x : D) : Bool := numD x && match halfD x with
  | (.int a, .int b) => decide ((a.natAbs : Int) ≤ 1000000) && decide (b ≤ 1000)
  | _ => false
def sp_is_small : DSp := fun xs G R _ => ∃ x, xs = [x] ∧ x.kn = true ∧ R (.bl (smallD x)) G
section
variable {ρ : En} {G : Gm} {da db dc : DE} {x a b : D} {l m : Option Int}
theorem Ev.isInteger (h : Ev da ρ G x) (hk : x.kn = true) : Ev (dCall sp_is_integer X0 (dCons da dNil)) ρ G (.bl (isIntD x)) := .call (.one h) fun R r => ⟨x, rfl, hk, r⟩
theorem Ev.isWithin (h : Ev da ρ G x) (h1 : Ev db ρ G a) (h2 : Ev dc ρ G b) (hk : x.kn = true) (hl : bndD a = some l) (hm : bndD b = some m) : Ev (dCall sp_is_within X0 (dCons da (dCons db (dCons dc dNil)))) ρ G (.bl (withinD x l m)) := .call (.cons h (.cons h1 (.one h2))) fun R r => ⟨x, a, b, l, m, rfl, hk, hl, hm, r⟩
theorem Ev.isList (h : Ev da ρ G x) (hk : x.kn = true) : Ev (dCall sp_is_list X0 (dCons da dNil)) ρ G (.bl (isSeqD x)) := .call (.one h) fun R r => ⟨x, rfl, hk, r⟩
theorem Ev.isNumber (h : Ev da ρ G x) (hk : x.kn = true) : Ev (dCall sp_is_number X0 (dCons da dNil)) ρ G (.bl (numD x)) := .call (.one h) fun R r => ⟨x, rfl, hk, r⟩
end
def wholeD : DE := dAndV (dCal (fIsi "int") (dCons (dVar 0) (dCons (dC (.ty "int")) dNil))) (dNotV (dCal (fIsi "bool") (dCons (dVar 0) (dCons (dC (.ty "bool")) dNil))))
theorem ev_whole {ρ : En} {G : Gm} {x : D} (h : ρ[0]? = some (some x)) (hk : x.kn = true) : Ev wholeD ρ G (.bl (isIntD x)) := by
  obtain ⟨t, ht⟩ := kn_tyn hk
  refine (Ev.and2 (.isi (.var h) ht) fun _ => .notV (.isi (.var h) ht)).cast ?_
  cases x <;> cases ht <;> first | rfl | cases hk
theorem is_integer_ok (xs : List D) (G : Gm) (R : KD) (RX : XD) (h : sp_is_integer xs G R RX) : dRet wholeD { nx := fun _ G => R .non G, rt := R } (xs.map some ++ List.replicate (1 - xs.length) none) G := by
  obtain ⟨x, rfl, hk, h⟩ := h
  exact ev_whole rfl hk _ h
def withinR : DS := (dSeq (dIfS (dNot (dTst (dCall sp_is_integer X0 (dCons (dVar 0) dNil)))) (dRet (dC (.bl false))) dNext) (dRet (dAndV (dOrV (dIsN (dVar 1)) (dOp (fInt gLe) (dVar 1) (dVar 0))) (dOrV (dIsN (dVar 2)) (dOp (fInt gLe) (dVar 0) (dVar 2))))))
theorem bnd_le {ρ : En} {G : Gm} {da db : DE} {b : D} {l : Option Int} {i : Int} (hb : bndD b = some l) (h : Ev da ρ G b) (h' : Ev db ρ G (.int i)) : Ev (dOrV (dIsN da) (dOp (fInt gLe) da db)) ρ G (.bl (leO l i)) := by
  cases b <;> cases hb
  · exact .orT (.isN h)
  · exact .orF (.isN h) (.le h h')
theorem bnd_ge {ρ : En} {G : Gm} {da db : DE} {b : D} {l : Option Int} {i : Int} (hb : bndD b = some l) (h : Ev da ρ G b) (h' : Ev db ρ G (.int i)) : Ev (dOrV (dIsN da) (dOp (fInt gLe) db da)) ρ G (.bl (geO l i)) := by
  cases b <;> cases hb
  · exact .orT (.isN h)
  · exact .orF (.isN h) (.le h' h)
theorem is_within_ok (xs : List D) (G : Gm) (R : KD) (RX : XD) (h : sp_is_within xs G R RX) : withinR { nx := fun _ G => R .non G, rt := R } (xs.map some ++ List.replicate (3 - xs.length) none) G := by
  obtain ⟨x, a, b, l, m, rfl, hk, ha, hb, h⟩ := h
  refine ds_if (.not (.tst (.isInteger (.var rfl) hk))) ?_
  by_cases hx : isIntD x = true
  · cases x <;> cases hx
    rename_i i
    exact (Ev.and2 (bnd_le ha (.var rfl) (.var rfl)) fun _ => bnd_ge hb (.var rfl) (.var rfl)) _ h
  · rw [if_pos (by simpa using hx)]
    refine ds_ret .c ?_
    have e : withinD x l m = false := by cases x <;> first | rfl | exact absurd rfl hx
    rw [e] at h
    exact h
theorem is_list_ok (xs : List D) (G : Gm) (R : KD) (RX : XD) (h : sp_is_list xs G R RX) : dRet (dIsiT ["list", "tuple"] (dVar 0)) { nx := fun _ G => R .non G, rt := R } (xs.map some ++ List.replicate (1 - xs.length) none) G := by
  obtain ⟨x, rfl, hk, h⟩ := h
  obtain ⟨t, ht⟩ := kn_tyn hk
  refine ((Ev.isiT (.var rfl) ht).cast ?_) _ h
  cases x <;> cases ht <;> first | rfl | cases hk
def halvesR : DS := (dRet (dIf (dTst (dCall sp_is_integer X0 (dCons (dVar 0) dNil))) (dTup (dCons (dVar 0) (dCons (dC (.int 1)) dNil))) (dTup (dCons (dIx (dVar 0) (dC (.int 0))) (dCons (dIx (dVar 0) (dC (.int 1))) dNil)))))
theorem halves_ok (xs : List D) (G : Gm) (R : KD) (RX : XD) (h : sp_halves xs G R RX) : halvesR { nx := fun _ G => R .non G, rt := R } (xs.map some ++ List.replicate (1 - xs.length) none) G := by
  obtain ⟨x, rfl, hk, h⟩ := h
  rcases num_cases hk with ⟨i, rfl⟩ | ⟨a, b, hx, _⟩
  · exact (Ev.ifT ((EvT.tst (.isInteger (.var rfl) rfl)).cast rfl) (.tup (.cons (.var rfl) (.one .c)) (show 2 ≤ sizeLine by decide))) _ h
  · rcases hx with rfl | rfl
    · exact (Ev.ifF ((EvT.tst (.isInteger (.var rfl) rfl)).cast rfl) (.tup (.cons (.at (.var rfl) .c seq_tup rfl) (.one (.at (.var rfl) .c seq_tup rfl))) (show 2 ≤ sizeLine by decide))) _ h
    · exact (Ev.ifF ((EvT.tst (.isInteger (.var rfl) rfl)).cast rfl) (.tup (.cons (.at (.var rfl) .c seq_lst rfl) (.one (.at (.var rfl) .c seq_lst rfl))) (show 2 ≤ sizeLine by decide))) _ h
theorem while_gcd {i j : Nat} (hij : i ≠ j) {da : DE} (hda : ∀ (ρ : En) (G : Gm) (p : Int), ρ[i]? = some (some (.int p)) → Ev da ρ G (.int p)) {E : DEnds} {ρ : En} {G : Gm} {p q : Nat} (h1 : ρ[i]? = some (some (.int p))) (h2 : ρ[j]? = some (some (.int q)))
    (k : ∀ ρ', ρ'[i]? = some (some (.int (Nat.gcd p q))) → E.nx ρ' G) : dWhile (dTst (dOp (fInt gGt) (dVar j) (dC (.int 0)))) (dPar i j (dCons (dVar j) (dCons (dOp (fIntC (fun _ j => 0 < j) fun i j => .int (i % j)) da (dVar j)) dNil))) E ρ G := by
  refine ⟨fun m ρ' G' => G' = G ∧ ∃ p' : Nat, ρ'[i]? = some (some (.int p')) ∧ ρ'[j]? = some (some (.int m)) ∧ Nat.gcd p' m = Nat.gcd p q, ⟨q, rfl, p, h1, h2, rfl⟩, ?_⟩
  rintro m ρ' G' ⟨rfl, p', r1, r2, e⟩
  refine (EvT.tst (.gt (.var r2) .c)) _ ?_
  by_cases h0 : 0 < m
  · rw [if_pos (by simpa using h0)]
    refine ds_par (.var r2) (.mod (hda _ _ _ r1) (.var r2) (by omega)) ?_
    refine ⟨p' % m, Nat.mod_lt _ h0, rfl, m, ?_, ?_, ?_⟩
    · rw [List.getElem?_set_ne (fun z => hij z.symm)]
      exact List.getElem?_set_self (by
        by_cases z : i < ρ'.length
        · exact z
        · rw [List.getElem?_eq_none (by omega)] at r1
          cases r1)
    · rw [List.getElem?_set_self (by
        rw [List.length_set]
        by_cases z : j < ρ'.length
        · exact z
        · rw [List.getElem?_eq_none (by omega)] at r2
          cases r2)]
      rfl
    · rw [← e, Nat.gcd_comm p' m, Nat.gcd_rec m p', Nat.gcd_comm]
  · rw [if_neg (by simpa using h0)]
    have m0 : m = 0 := by omega
    subst m0
    refine k ρ' ?_
    rw [← e, Nat.gcd_zero_right]
    exact r1
def commonR : DS := (dSeq (dPar 0 1 (dCons (dCal fAbs (dCons (dVar 0) dNil)) (dCons (dCal fAbs (dCons (dVar 1) dNil)) dNil))) (dSeq (dWhile (dTst (dOp (fInt gGt) (dVar 1) (dC (.int 0)))) (dPar 0 1 (dCons (dVar 1) (dCons (dOp (fIntC (fun _ j => 0 < j) fun i j => .int (i % j)) (dVar 0) (dVar 1)) dNil)))) (dRet (dVar 0))))
theorem common_ok (xs : List D) (G : Gm) (R : KD) (RX : XD) (h : sp_common xs G R RX) : commonR { nx := fun _ G => R .non G, rt := R } (xs.map some ++ List.replicate (2 - xs.length) none) G := by
  obtain ⟨i, j, rfl, h⟩ := h
  refine ds_par (.absN (.var rfl)) (.absN (.var rfl)) ?_
  refine while_gcd (by decide) (fun ρ G p h => .var h) rfl rfl fun ρ' h1 => ?_
  exact ds_ret (.var h1) h
def numberR : DS := (dSeq (dIfS (dNot (dTst (dCall sp_is_list X0 (dCons (dVar 0) dNil)))) (dRet (dCall sp_is_integer X0 (dCons (dVar 0) dNil))) dNext) (dSeq (dIfS (dOr (dTst (dOp fNe (dCal fLen (dCons (dVar 0) dNil)) (dC (.int 2)))) (dOr (dNot (dTst (dCall sp_is_integer X0 (dCons (dIx (dVar 0) (dC (.int 0))) dNil)))) (dNot (dTst (dCall sp_is_within X0 (dCons (dIx (dVar 0) (dC (.int 1))) (dCons (dC (.int 2)) (dCons (dC .non) dNil)))))))) (dRet (dC (.bl false))) dNext) (dRet (dOp fEq (dCall sp_common X0 (dCons (dIx (dVar 0) (dC (.int 0))) (dCons (dIx (dVar 0) (dC (.int 1))) dNil))) (dC (.int 1))))))
theorem rat_long {xs : List D} (h : xs.length ≠ 2) : pairD xs = none := by
  match xs, h with
  | [], _ => rfl
  | [a], _ => exact pair_1 a
  | [a, b], h => exact absurd rfl h
  | a :: b :: c :: r, _ => exact pair_3 a b c r
theorem knL_two {a b : D} (h : D.knL [a, b] = true) : a.kn = true ∧ b.kn = true := by
  simp only [D.knL, Bool.and_eq_true, and_true] at h
  exact h
theorem seq_kn {x : D} {ds : List D} (hx : x = .tup ds ∨ x = .lst ds) (hk : x.kn = true) : D.knL ds = true := by
  rcases hx with rfl | rfl
  · exact hk
  · exact hk
theorem num_seq {x : D} {ds : List D} (hx : x = .tup ds ∨ x = .lst ds) : numD x = ratD (pairD ds) := by
  rcases hx with rfl | rfl <;> rfl
theorem is_number_ok (xs : List D) (G : Gm) (R : KD) (RX : XD) (h : sp_is_number xs G R RX) : numberR { nx := fun _ G => R .non G, rt := R } (xs.map some ++ List.replicate (1 - xs.length) none) G := by
  obtain ⟨x, rfl, hk, h⟩ := h
  refine ds_if (.not (.tst (.isList (.var rfl) hk))) ?_
  by_cases hx : isSeqD x = true
  · have hx2 : ∃ ds, x = .tup ds ∨ x = .lst ds := by cases x <;> first | exact ⟨_, .inl rfl⟩ | exact ⟨_, .inr rfl⟩ | cases hx
    obtain ⟨ds, hx2⟩ := hx2
    have hs : SeqAt G x ds := seq_at hx2
    have hd := seq_kn hx2 hk
    rw [num_seq hx2] at h
    rw [if_neg (by rw [hx]; decide)]
    by_cases h2 : ds.length = 2
    · match ds, h2 with
      | [a, b], h2 =>
        obtain ⟨ka, kb⟩ := knL_two hd
        by_cases ia : isIntD a = true
        · cases a <;> cases ia
          rename_i i
          by_cases ib : withinD b (some 2) none = true
          · cases b <;> first | cases ib | skip
            rename_i j
            refine ds_if (.orF ((EvT.tst (.neI (.len (.var rfl) hs) .c)).cast rfl) (.orF ((EvT.not (.tst (.isInteger (.at (.var rfl) .c hs rfl) ka))).cast rfl) ((EvT.not (.tst (.isWithin (.at (.var rfl) .c hs rfl) .c .c kb rfl rfl))).cast (by rw [ib])))) ?_
            refine ds_ret ((Ev.eqI (.common (.at (.var rfl) .c hs rfl) (.at (.var rfl) .c hs rfl)) .c).cast ?_) h
            have ib2 : (decide (2 ≤ j) && true) = true := ib
            rw [Bool.and_true] at ib2
            show D.bl _ = D.bl (decide (2 ≤ j) && decide (Int.gcd i j = 1))
            rw [ib2, Bool.true_and]
            congr 1
            exact decide_eq_decide.mpr (by omega)
          · refine ds_if (.orF ((EvT.tst (.neI (.len (.var rfl) hs) .c)).cast rfl) (.orF ((EvT.not (.tst (.isInteger (.at (.var rfl) .c hs rfl) ka))).cast rfl) ((EvT.not (.tst (.isWithin (.at (.var rfl) .c hs rfl) .c .c kb rfl rfl))).cast (k := true) (by simpa using ib)))) ?_
            refine ds_ret .c ?_
            have e : ratD (pairD [.int i, b]) = false := by
              cases b <;> first | rfl | skip
              rename_i j
              have ib2 : ¬ (decide (2 ≤ j) && true) = true := ib
              rw [Bool.and_true] at ib2
              show (decide (2 ≤ j) && _) = false
              rw [Bool.eq_false_iff.mpr ib2, Bool.false_and]
            rw [e] at h
            exact h
        · refine ds_if (.orF ((EvT.tst (.neI (.len (.var rfl) hs) .c)).cast rfl) (.orT ((EvT.not (.tst (.isInteger (.at (.var rfl) .c hs rfl) ka))).cast (by simpa using ia)))) ?_
          refine ds_ret .c ?_
          rw [pair_2a a b (by simpa using ia)] at h
          exact h
    · refine ds_if (.orT ((EvT.tst (.neI (.len (.var rfl) hs) .c)).cast ?_)) ?_
      · rw [Bool.not_eq_true', decide_eq_false_iff_not]
        omega
      · refine ds_ret .c ?_
        rw [rat_long h2] at h
        exact h
  · rw [if_pos (by simpa using hx)]
    refine ds_ret (.isInteger (.var rfl) hk) ?_
    have e : numD x = isIntD x := by cases x <;> first | rfl | exact absurd rfl hx
    rw [e] at h
    exact h
def smallR : DS := (dSeq (dIfS (dNot (dTst (dCall sp_is_number X0 (dCons (dVar 0) dNil)))) (dRet (dC (.bl false))) dNext) (dSeq (dAsg (dCall sp_halves X0 (dCons (dVar 0) dNil)) (gSeq 2 (gCons (gN 1) (gCons (gN 2) gNil)))) (dRet (dAndV (dOp (fInt gLe) (dCal fAbs (dCons (dVar 1) dNil)) (dC (.int 1000000))) (dOp (fInt gLe) (dVar 2) (dC (.int 1000)))))))
theorem half_cases {x : D} (h : numD x = true) : ∃ a b : Int, halfD x = (.int a, .int b) := by
  rcases num_cases h with ⟨i, rfl⟩ | ⟨a, b, hx, _⟩
  · exact ⟨i, 1, rfl⟩
  · rcases hx with rfl | rfl <;> exact ⟨a, b, rfl⟩
theorem is_small_ok (xs : List D) (G : Gm) (R : KD) (RX : XD) (h : sp_is_small xs G R RX) : smallR { nx := fun _ G => R .non G, rt := R } (xs.map some ++ List.replicate (3 - xs.length) none) G := by
  obtain ⟨x, rfl, hk, h⟩ := h
  refine ds_if (.not (.tst (.isNumber (.var rfl) hk))) ?_
  by_cases hx : numD x = true
  · rw [if_neg (by rw [hx]; decide)]
    obtain ⟨a, b, e⟩ := half_cases hx
    refine (Ev.halves (.var rfl) hx) _ ⟨_, seq_tup, rfl, _, _, rfl, _, _, rfl, rfl, ?_⟩
    rw [e]
    refine ds_ret (.and2 (.le (.absN (.var rfl)) .c) fun _ => .le (.var rfl) .c) ?_
    unfold smallD at h
    rw [hx, e, Bool.true_and] at h
    exact h
  · rw [if_pos (by simpa using hx)]
    refine ds_ret .c ?_
    unfold smallD at h
    rw [Bool.eq_false_iff.mpr hx, Bool.false_and] at h
    exact h
end DL
namespace DL
open PySem PySem.Spec PyProof.Rows L2 Evl
variable [TabC]
structure Df (K : PySem.W.Frag) (mg : Str → Option Value) (x : Str) (st : Stmt) : Prop where
  g : mg x = some (.ref (He.ga K x))
  f : ∃ fd, FunD K x x (defArgs st) (defBody st) (defScope st) [] [] (He.ga K x) fd
theorem fund_one {K : PySem.W.Frag} {x qual : Str} {params : Arguments} {body : List Stmt} {scope : Scope} {dvs : List V} {kws : List (Str × V)} {f : Addr} {fd fd' : FuncData} (F : FunD K x qual params body scope dvs kws f fd) (F' : FunD K x qual params body scope dvs kws f fd') : fd = fd' := by
  obtain ⟨oc, od, dV, kV, doc, pm, an, cdv, ct, osl, _, lk, _⟩ := F.ex
  obtain ⟨oc', od', dV', kV', doc', pm', an', cdv', ct', osl', _, lk', _⟩ := F'.ex
  have e := lk.symm.trans lk'
  injection e with e
  injection e with _ _ e _
  injection e
structure TabF (K : PySem.W.Frag) (h : Heap) : Prop where
  ok : TabOk K
  empty : ∀ n ∈ TabC.tf, h.get? (He.cT K (n, none)).2 = some (tabO #[])
  out : ∀ n ∈ TabC.tf, K.lookup (He.cT K (n, none)).2 = none
  hd : ∀ n ∈ TabC.tf, PySem.W.CodeHd h (He.cT K (n, none)).1 (He.cT K (n, none)).2
def TabsB (K : PySem.W.Frag) (base : Heap) (mg : Str → Option Value) : Prop := ∀ n ∈ TabC.tf, LamX.TabB base mg (He.cT K (n, none)).1 (He.cT K (n, none)).2
theorem law_of {P : Program} {w : World} {K : PySem.W.Frag} {mg : Str → Option Value} {fa : Addr} {st : Stmt} {y : Str} {k : Nat} {h : Heap} (hm : mg ("law" : Str) = some (.ref fa)) (F : Df K mg "law" st) (T : TabF K h)
    (hb : ∀ (kV doc pm : Value) (an : Option Addr) (cdv ct : Value) (us : List Value), us.length = [y].length → bindArgs (PySem.W.fnOf "law" "law" (defArgs st) (defBody st) (defScope st) .none kV doc pm an cdv ct) ⟨us, []⟩ = pure ([y].zip us))
    (kn : ∀ base : Heap, TabsB K base mg → Kn P w K mg base k "law" st [y] lawSp) : ∃ (fd : FuncData) (sp : Sp) (ct : List (Addr × Addr)), (∀ q ∈ ct, h.get? q.2 = some (tabO #[])) ∧ (∀ q ∈ ct, K.lookup q.2 = none) ∧ (∀ q ∈ ct, PySem.W.CodeHd h q.1 q.2) ∧ (∀ (s : Shared) (u : Value), BindsTo s fd ⟨[u], []⟩ [(y, u)]) ∧
      (∀ (Hd H : Hp) (a : Addr) (ns : List Int), ns.length ≤ 63 → Ex Hd H → (∀ q ∈ ct, H q.2 = some (.tbl #[]) ∧ Hd q.2 = none) → SqL K Hd a (ns.map V.int) → sp [.ref a] H (fun v _ => v = .bl true) fun _ _ _ => False) ∧
      ∀ base : Heap, K.In base → base.Ns mainGlobals mg → (∀ q ∈ ct, LamX.TabB base mg q.1 q.2) → FnG P w K mg base k fa fd [y] sp := by
  obtain ⟨fd, FD⟩ := F.f
  have e := hm.symm.trans F.g
  cases e
  have of : ∀ {q : Addr × Addr}, q ∈ (TabC.tf.map fun n => He.cT K (n, none)) → ∃ n ∈ TabC.tf, He.cT K (n, none) = q := fun hq => List.mem_map.mp hq
  refine ⟨fd, spU K lawSp, TabC.tf.map fun n => He.cT K (n, none), fun q hq => ?_, fun q hq => ?_, fun q hq => ?_, fun s u => FunD.bindsA (ps := [y]) FD hb s [u] rfl, fun Hd H a ns hl ee ht hS => law_sp hl T.ok ee (fun p hp => ?_) hS, fun base _ _ ht => ?_⟩
  · obtain ⟨n, hn, rfl⟩ := of hq
    exact T.empty n hn
  · obtain ⟨n, hn, rfl⟩ := of hq
    exact T.out n hn
  · obtain ⟨n, hn, rfl⟩ := of hq
    exact T.hd n hn
  · obtain ⟨n, hn, rfl⟩ := List.mem_map.mp hp
    exact ht (He.cT K (n, none)) (List.mem_map_of_mem hn)
  · obtain ⟨fd', FD', G⟩ := (kn base fun n hn => ht _ (List.mem_map_of_mem hn)).fn
    rw [fund_one FD FD']
    exact G
end DL
namespace DL
open PySem PySem.Spec PyProof.Rows L2 Evl
variable [TabC]
structure DfD (K : PySem.W.Frag) (mg : Str → Option Value) (x : Str) (st : Stmt) (dvs : List V) : Prop where
  g : mg x = some (.ref (He.ga K x))
  f : ∃ fd, FunD K x x (defArgs st) (defBody st) (defScope st) dvs [] (He.ga K x) fd
structure KnD (P : Program) (w : World) (K : PySem.W.Frag) (mg : Str → Option Value) (base : Heap) (k : Nat) (x : Str) (st : Stmt) (ps : List Str) (dvs : List V) (p : DSp) : Prop where
  g : mg x = some (.ref (He.ga K x))
  fn : ∃ fd, FunD K x x (defArgs st) (defBody st) (defScope st) dvs [] (He.ga K x) fd ∧ FnG P w K mg base k (He.ga K x) fd ps (spU K p)
section
variable {P : Program} {w : World} {K : PySem.W.Frag} {mg : Str → Option Value} {base : Heap}
theorem knd_of {x : Str} {st : Stmt} {N ps : List Str} {dvs : List V} {k : Nat} {p : DSp} (g : mg x = some (.ref (He.ga K x))) (F : ∃ fd, FunD K x x (defArgs st) (defBody st) (defScope st) dvs [] (He.ga K x) fd) (S : FnScope N ps (defScope st)) (len : ∀ xs G R RX, p xs G R RX → xs.length = ps.length)
    (hbody : ∀ (cdv : Value), cdv = .ref (cdAt K (He.ga K x)) → ∀ (A : Around) (outer : List Env) (s : Shared) (H : Hp) (E : XK) (B : Bs) (RX : XD), Room k (A.deeper (envOfC x (defScope st) s.heap.objs.size (He.ga K x) cdv)) → (A.deeper (envOfC x (defScope st) s.heap.objs.size (He.ga K x) cdv)).guards = some [] → KX K B.f B.b RX E →
      ∃ t : DS, PSs (cxOf (L2.CX P w) P w K mg base N x (defScope st) (He.ga K x) cdv A outer s H E) (defBody st) (upS K B t) ∧ ∀ xs G R, p xs G R RX → t { nx := fun _ G => R .non G, rt := R } (xs.map some ++ List.replicate (N.length - xs.length) none) G) :
    KnD P w K mg base (k + 1) x st ps dvs p := by
  obtain ⟨fd, F⟩ := F
  refine ⟨g, fd, F, fng_of F S (fun vs H Q E h => ?_) fun cdv hcv A outer s H vs Q E hr hg h => ?_⟩
  · obtain ⟨xs, _, _, G, R, RX, r, _, hp, _⟩ := h
    rw [r.length]
    exact len xs G R RX hp
  · obtain ⟨xs, F, Hd, G, R, RX, r, sm, hp, ke, kx⟩ := h
    obtain ⟨t, ht, h2⟩ := hbody cdv hcv A outer s H E ⟨Hd, F⟩ RX hr hg kx
    exact ⟨_, ht, _, Hd, G, _, ⟨Ex.refl _, RpE.start r, sm⟩, h2 xs G R hp, fun σ' H' Hd' ρ' G' e _ s h => ke .non H' Hd' .non G' e s .non h, ke, fun _ _ _ _ _ _ _ _ h => h.elim, fun _ _ _ _ _ _ _ _ h => h.elim⟩
end
section
variable {X : Cx} {B : Bs} {pos p : Pos} {a b c e : Expr} {es : List Expr} {da db dc de : DE} {dA : DA}
def dCallD (q : DSp) (ds : List D) (RX : XD) (dA : DA) : DE := fun ρ G R => dA ρ G fun xs G1 => q (xs ++ ds) G1 R RX
theorem pe_callGD {k : Nat} {f : Addr} {fd : FuncData} {ps : List Str} {dvs : List V} {dus : List Value} {sp : Sp} {E : XK} {x : Str} {t : TA} (F : FnG X.prog X.w X.K X.mg X.base k f fd ps sp) (hr : Room k X.A) (hgd : X.A.guards = some []) (hg : Gl X x) (hm : X.mg x = some (.ref f)) (hk : PySem.W.keepIn X.K (.ref f) = true) (hb : Binds X.K fd ps dus) (hv : Vals dvs dus)
    (hx : Passes (L2.CX X.prog X.w) X E) (ha : PA X (e :: es) t) (hdb : (x == ("__debug__" : Str)) = false := by decide) (he : starEach (e :: es) X.env = (false, eval e X.env) :: starEach es X.env := by rfl) (hpl : (backTo pos (starEach es X.env)).any (·.1) = false := by rfl) :
    PE X (.Call (.Name x p) (e :: es) [] pos) (tCall sp dvs E t) := ⟨fun pins s σ H Q I h => by
  refine wpAny_Call_Name_kw (ld_glob I hg hm (PySem.W.callWith_K (h₀ := X.base) I.ok.mod.kin hk (thn (ha.run pos pins s σ H _ I h) fun us s1 hh => ?_) he hpl) hdb)
  obtain ⟨vs, H1, I1, r, q⟩ := hh
  have hl : (us ++ dus).length = ps.length := by
    rw [← F.len _ _ _ _ q, List.length_append, List.length_append, r.length, hv.length]
  have hb1 := hb s1 us I1.kIn hl
  refine ⟨I1.kIn, wpAny_call (codeAny_mono (run_fng F hr hgd hx I1 hb1 (r.append hv) q) fun r s2 hq => ?_)⟩
  cases r with
  | error e => exact hq
  | ok fl => cases fl <;> first | exact hq | exact hq.elim⟩
theorem pd_callD {k n j : Nat} {x : Str} {st : Stmt} {ps : List Str} {dvs : List V} {ds : List D} {q : DSp} {RX : XD} {E : XK} (h : KnD X.prog X.w X.K X.mg X.base k x st ps dvs q) (hd : dvs ≠ []) (hr : Room k X.A) (hgd : X.A.guards = some []) (hg : Gl X x) (hx : Passes (L2.CX X.prog X.w) X E) (kx : ∀ Hd, Ex B.b Hd → KX X.K B.f Hd RX E)
    (hn : n + (dvs.length - j) = ps.length) (hds : ∀ Hd, RpL X.K Hd (dvs.drop j) ds)
    (hb : ∀ (T : Addr) (kV doc pm : Value) (an : Option Addr) (cdv ct : Value) (us its : List Value), us.length = n → its.length = dvs.length →
      ∃ k, bindArgs (PySem.W.fnOf x x (defArgs st) (defBody st) (defScope st) (.ref T) kV doc pm an cdv ct) ⟨us, []⟩ = seqItems? (.ref T) >>= k ∧ k (some its.toArray) = pure (ps.zip (us ++ its.drop j)))
    (ha : PA X (e :: es) (upA X.K B dA)) (hdb : (x == ("__debug__" : Str)) = false := by decide) (he : starEach (e :: es) X.env = (false, eval e X.env) :: starEach es X.env := by rfl) (hpl : (backTo pos (starEach es X.env)).any (·.1) = false := by rfl) :
    PE X (.Call (.Name x p) (e :: es) [] pos) (upE X.K B (dCallD q ds RX dA)) := by
  obtain ⟨fd, F, G⟩ := h.fn
  obtain ⟨dus, hv, hbn⟩ := F.binds1 n j hd hn hb
  refine pe_imp (pe_callGD G hr hgd hg h.g F.kp hbn hv hx ha hdb he hpl) fun σ H Q ⟨ρ, Hd, G, R, at_, h, k⟩ => ?_
  exact ⟨ρ, Hd, G, _, at_, h, fun vs H1 Hd1 xs G1 e1 s1 r1 h1 => ⟨xs ++ ds, B.f, Hd1, G1, R, RX, r1.app (hds Hd1), s1, h1, k.mono e1, kx Hd1 (at_.b.trans e1)⟩⟩
def dPar3 (i j l : Nat) (dA : DA) : DS := fun E ρ G => dA ρ G fun xs G1 => ∃ x y z, xs = [x, y, z] ∧ E.nx (((ρ.set i (some x)).set j (some y)).set l (some z)) G1
theorem psd_par3 {i j l : Nat} {x y z : Str} {px py pz pt : Pos} {kt k2 : Nat} {pt2 : Pos} (hc : X.calm = true) (hN : X.N.Nodup) (hi : X.N[i]? = some x) (hj : X.N[j]? = some y) (hl : X.N[l]? = some z) (hij : i ≠ j) (hil : i ≠ l) (hjl : j ≠ l)
    (hx : X.env.scope.names.lookup x = some .local) (hy : X.env.scope.names.lookup y = some .local) (hz : X.env.scope.names.lookup z = some .local) (ha : PA X [a, b, c] (upA X.K B dA))
    (hw : swappedStores [.Tuple [.Name x px, .Name y py, .Name z pz] kt pt] (.Tuple [a, b, c] k2 pt2) X.env = pure (some [x, y, z])) (hs : swapsWithSole [.Tuple [.Name x px, .Name y py, .Name z pz] kt pt] (.Tuple [a, b, c] k2 pt2) pos.line X.env = pure false := by rfl) :
    PS X (.Assign [.Tuple [.Name x px, .Name y py, .Name z pz] kt pt] (.Tuple [a, b, c] k2 pt2) pos) (upS X.K B (dPar3 i j l dA)) := ps_imp (ps_par3 hc hN hi hj hl hij hil hjl hx hy hz ha hw hs) fun D σ H ⟨ρ, Hd, G, E, at_, h, k⟩ =>
  ⟨ρ, Hd, G, _, at_, h, fun vs H1 Hd1 xs G1 e1 s1 r1 ⟨x, y, z, ex, h1⟩ => by
    subst ex
    cases r1 with
    | cons rv r1 =>
      obtain ⟨u, w, rfl, ru, rw_⟩ := rpl2 r1
      exact ⟨_, u, w, rfl, k.nx _ H1 Hd1 _ G1 e1 ((((at_.e.mono e1).set i rv).set j ru).set l rw_) s1 h1⟩⟩
def dRev (da : DE) : DE := fun ρ G R => da ρ G fun x G1 => ∃ ds, LstAt G1 x ds ∧ R (.lst ds.reverse) G1
theorem RpL.rev {K : PySem.W.Frag} {H : Hp} {vs : List V} {ds : List D} (r : RpL K H vs ds) : RpL K H vs.reverse ds.reverse := by
  induction vs generalizing ds with
  | nil =>
    cases r
    exact .nil
  | cons v vs ih =>
    cases r with
    | cons a b =>
      rw [List.reverse_cons, List.reverse_cons]
      exact (ih b).app (.cons a .nil)
theorem pd_rev {k : Nat} {p1 p2 p3 : Pos} (he : PE X e (upE X.K B de)) : PE X (.Subscript e (.Slice none none (some (.UnaryOp .USub (.Constant (.int 1) k p1) p2)) p3) pos) (upE X.K B (dRev de)) := pe_imp (pe_revL he) fun σ H Q ⟨ρ, Hd, G, R, at_, h, k⟩ =>
  ⟨ρ, Hd, G, _, at_, h, fun v H1 Hd1 x G1 e1 s1 r1 ⟨ds, hl, h1⟩ => by
    obtain ⟨q, ys, rfl, hq, r3⟩ := hl.sq s1 r1
    exact ⟨q, ys, rfl, hq, fun pp hp => k _ _ _ _ G1 (e1.trans (s1.exn hp)) (s1.new hp) (.lst sq_new (r3.rev.mono (s1.exn hp))) h1⟩⟩
def zipD (xs ys : List D) : List D := List.zipWith (fun x y => D.tup [x, y]) xs ys
def dIZip (dA : DA) : DI := fun ρ G S => dA ρ G fun vs G1 => ∃ xs ys, (vs = [.lst xs, .lst ys] ∨ vs = [.tup xs, .tup ys]) ∧ S (zipD xs ys) G1
end
end DL
namespace DL
open PySem PySem.Spec PyProof.Rows L2 Evl
variable [TabC]
section
variable {ρ : En} {G : Gm} {da db dc : DE} {x y z : D}
theorem feq_cmp (hx : Cmp x) (hy : Cmp y) (h : ∀ i, x ≠ .int i) (h2 : ∀ i, x ≠ .str i) (h3 : ∀ i, x ≠ .bl i) : fEq x y (.bl (D.eqv x y)) := by
  unfold fEq
  split
  · exact absurd rfl (h _)
  · exact absurd rfl (h2 _)
  · exact absurd rfl (h3 _)
  · exact ⟨hx, hy, rfl⟩
theorem fne_cmp (hx : Cmp x) (hy : Cmp y) (h : ∀ i, x ≠ .int i) (h2 : ∀ i, x ≠ .str i) (h3 : ∀ i, x ≠ .bl i) : fNe x y (.bl (!D.eqv x y)) := by
  unfold fNe
  split
  · exact absurd rfl (h _)
  · exact absurd rfl (h2 _)
  · exact absurd rfl (h3 _)
  · exact ⟨hx, hy, rfl⟩
theorem Ev.tupOf {xs : List D} (ha : Ev da ρ G x) (h : SeqAt G x xs) : Ev (dCal fTupOf (dCons da dNil)) ρ G (.tup xs) := .cal (.one ha) ⟨x, xs, rfl, h, rfl⟩
theorem Ev.callD {q : DSp} {ds xs : List D} {dA : DA} (ha : EvA dA ρ G xs) (h : ∀ R, R z G → q (xs ++ ds) G R X0) : Ev (dCallD q ds X0 dA) ρ G z := fun R r => ha _ (h R r)
theorem Ev.chosen {t : DT} {k : Bool} (ht : EvT t ρ G k) (h1 : k = true → Ev da ρ G z) (h2 : k = false → Ev db ρ G z) : Ev (dIf t da db) ρ G z := fun R r => ht _ (by
  cases k with
  | true => exact h1 rfl _ r
  | false => exact h2 rfl _ r)
theorem ds_asg {E : DEnds} {g : DG} (ha : Ev da ρ G x) (h : g x ρ G E.nx) : dAsg da g E ρ G := ha _ h
end
theorem num_half {x : D} (h : numD x = true) : halfD x = (.int (numI x).1, .int (numI x).2) ∧ 0 < (numI x).2 := by
  rcases num_cases h with ⟨i, rfl⟩ | ⟨a, b, hx, h2, _⟩
  · exact ⟨rfl, by show (0 : Int) < 1; decide⟩
  · rcases hx with rfl | rfl
    · exact ⟨rfl, by show 0 < b; omega⟩
    · exact ⟨rfl, by show 0 < b; omega⟩
def sp_times_in : DSp := fun xs G R _ => ∃ x y : D, xs = [x, y] ∧ numD x = true ∧ numD y = true ∧ Bn 4000 x ∧ Bn 4000 y ∧ R (lowD ((numI x).1 * (numI y).1) ((numI x).2 * (numI y).2)) G
theorem abs_lt {x : Int} {k : Nat} (h : x.natAbs < 2 ^ k) : x < 2 ^ k := by
  have h2 : ((x.natAbs : Nat) : Int) < ((2 ^ k : Nat) : Int) := Int.ofNat_lt.mpr h
  have h3 : ((2 ^ k : Nat) : Int) = (2 : Int) ^ k := by norm_cast
  omega
end DL
namespace DL
open PySem PySem.Spec PyProof.Rows L2 Evl
variable [TabC]
def keptD (x : D) : D := match x with
  | .lst xs => .tup xs
  | x => x
theorem kept_num {x : D} : numD (keptD x) = numD x := by cases x <;> rfl
theorem kept_I {x : D} : numI (keptD x) = numI x := by cases x <;> rfl
def sp_kept_number : DSp := fun xs G R _ => ∃ x : D, xs = [x] ∧ x.kn = true ∧ R (keptD x) G
def keptR : DS := (dRet (dIf (dTst (dCall sp_is_list X0 (dCons (dVar 0) dNil))) (dCal fTupOf (dCons (dVar 0) dNil)) (dVar 0)))
theorem kept_number_ok (xs : List D) (G : Gm) (R : KD) (RX : XD) (h : sp_kept_number xs G R RX) : keptR { nx := fun _ G => R .non G, rt := R } (xs.map some ++ List.replicate (1 - xs.length) none) G := by
  obtain ⟨x, rfl, hk, h⟩ := h
  refine ds_ret (x := keptD x) (.chosen (.tst (.isList (.var rfl) hk)) (fun e => ?_) fun e => ?_) h
  · cases x <;> first | cases e | skip
    · exact .tupOf (.var rfl) seq_tup
    · exact .tupOf (.var rfl) seq_lst
  · cases x <;> first | exact .var rfl | cases e
def wh (d : D) (p : Int) : Int := (numI d).1 * p / (numI d).2
theorem Nms.kept {k : Nat} {ds : List D} (h : Nms k ds) : Nms k (ds.map keptD) := ⟨fun d hd => by
  obtain ⟨e, he, rfl⟩ := List.mem_map.mp hd
  rw [kept_num]
  exact h.nm e he, fun d hd => by
  obtain ⟨e, he, rfl⟩ := List.mem_map.mp hd
  unfold Bn
  rw [kept_I]
  exact h.bn e he⟩
section
variable {ρ : En} {G : Gm} {da db dc : DE} {ds : List D} {p q : Int}
end
section
variable {ρ : En} {G : Gm} {da db dc : DE} {ds : List D} {p first : Int} {n : Nat} {x : D}
end
section
variable {ρ : En} {G : Gm} {da db dc : DE} {ds : List D} {p first many : Int} {n : Nat} {x : D}
end
end DL
namespace DL
open PySem PySem.Spec PyProof.Rows L2 Evl
variable [TabC]
theorem while_gcd2 {i j : Nat} (hij : i ≠ j) {da : DE} (hda : ∀ (ρ : En) (G : Gm) (p : Int), ρ[i]? = some (some (.int p)) → Ev da ρ G (.int p)) {E : DEnds} {ρ : En} {G : Gm} {p q : Nat} (h1 : ρ[i]? = some (some (.int p))) (h2 : ρ[j]? = some (some (.int q)))
    (k : ∀ ρ', ρ'[i]? = some (some (.int (Nat.gcd p q))) → (∀ l, l ≠ i → l ≠ j → ρ'[l]? = ρ[l]?) → E.nx ρ' G) : dWhile (dTst (dOp (fInt gGt) (dVar j) (dC (.int 0)))) (dPar i j (dCons (dVar j) (dCons (dOp (fIntC (fun _ j => 0 < j) fun i j => .int (i % j)) da (dVar j)) dNil))) E ρ G := by
  refine ⟨fun m ρ' G' => G' = G ∧ (∃ p' : Nat, ρ'[i]? = some (some (.int p')) ∧ ρ'[j]? = some (some (.int m)) ∧ Nat.gcd p' m = Nat.gcd p q) ∧ ∀ l, l ≠ i → l ≠ j → ρ'[l]? = ρ[l]?, ⟨q, rfl, ⟨p, h1, h2, rfl⟩, fun _ _ _ => rfl⟩, ?_⟩
  rintro m ρ' G' ⟨rfl, ⟨p', r1, r2, e⟩, ho⟩
  have inl : ∀ {l : Nat} {x : Option D}, ρ'[l]? = some x → l < ρ'.length := fun {l x} h => by
    by_cases z : l < ρ'.length
    · exact z
    · rw [List.getElem?_eq_none (by omega)] at h
      cases h
  refine (EvT.tst (.gt (.var r2) .c)) _ ?_
  by_cases h0 : 0 < m
  · rw [if_pos (by simpa using h0)]
    refine ds_par (.var r2) (.mod (hda _ _ _ r1) (.var r2) (by omega)) ?_
    refine ⟨p' % m, Nat.mod_lt _ h0, rfl, ⟨m, ?_, ?_, ?_⟩, fun l l1 l2 => ?_⟩
    · rw [List.getElem?_set_ne (fun z => hij z.symm)]
      exact List.getElem?_set_self (inl r1)
    · rw [List.getElem?_set_self (by rw [List.length_set]; exact inl r2)]
      rfl
    · rw [← e, Nat.gcd_comm p' m, Nat.gcd_rec m p', Nat.gcd_comm]
    · rw [List.getElem?_set_ne (fun z => l2 z.symm), List.getElem?_set_ne (fun z => l1 z.symm), ho l l1 l2]
  · rw [if_neg (by simpa using h0)]
    have m0 : m = 0 := by omega
    subst m0
    refine k ρ' ?_ ho
    rw [← e, Nat.gcd_zero_right]
    exact r1
section
variable {ρ : En} {a : Addr} {j k : Nat} {da db : DE} {dA : DA} {P P2 P3 : D → Prop} {PL : List D → Prop}
end
theorem Ev.rev {ρ : En} {G : Gm} {da : DE} {x : D} {ds : List D} (ha : Ev da ρ G x) (h : LstAt G x ds) : Ev (dRev da) ρ G (.lst ds.reverse) := fun R r => ha _ ⟨ds, h, r⟩
end DL
namespace MZ
open PySem PySem.Spec PyProof.Rows L2
open PySem.Sem (wp)
theorem ItB.to {t : Bool} {h h2 : Heap} {i p : Addr} {k : Nat} (x : ItB t h i p k) (e : ∀ o, h.get? i = some o → h2.get? i = some o) : ItB t h2 i p k := by
  cases t with
  | true => exact Heap.IsTupleIter.at x e
  | false => exact Heap.IsListIter.at x e
section
variable {prog : Program} {w : World} {A : Around} {E : Value → Shared → Prop} {s : Shared}
end
section
variable {prog : Program} {w : World} {A : Around} {E : Value → Shared → Prop} {s : Shared}
end
def SqK (K : PySem.W.Frag) (t : Bool) (H : Hp) (a : Addr) (xs : List V) : Prop := if t = true then SqT K H a xs else SqL K H a xs
def ItM (K : PySem.W.Frag) (t r : Bool) (a b : Addr) : It :=
  ⟨fun i H => ∃ (xs ys : List V) (x y : V), SqK K t H a xs ∧ SqK K r H b ys ∧ xs[i]? = some x ∧ ys[i]? = some y,
    fun i H v H2 => ∃ T x y, v = .ref T ∧ H T = none ∧ H2 = upd H T (.tup [x, y]) ∧ (∀ xs, SqK K t H a xs → xs[i]? = some x) ∧ ∀ ys, SqK K r H b ys → ys[i]? = some y,
    fun i H => ∃ xs ys : List V, SqK K t H a xs ∧ SqK K r H b ys ∧ (xs.length ≤ i ∨ ys.length ≤ i)⟩
section
variable {X : Cx} {pins : List (Addr × Obj)} {σ : L2.St} {H : Hp} {s : Shared}
end
def iZipM (K : PySem.W.Frag) (ta : TA) : TI := fun σ H R => ta σ H fun vs H1 => ∃ a b xs ys, vs = [.ref a, .ref b] ∧ SqL K H1 a xs ∧ SqT K H1 b ys ∧ R (ItM K false true a b) H1
end MZ
namespace DL
open PySem PySem.Spec PyProof.Rows L2 Evl
variable [TabC]
def dIZipM (dA : DA) : DI := fun ρ G S => dA ρ G fun vs G1 => ∃ xs ys, vs = [.lst xs, .tup ys] ∧ S (zipD xs ys) G1
end DL
namespace DL
open PySem PySem.Spec PyProof.Rows L2 Evl
variable [TabC]
end DL
namespace DL
open PySem PySem.Spec PyProof.Rows L2 Evl
variable [TabC]
section
variable {ρ : En} {G : Gm} {a : Addr} {j k : Nat} {da db dc : DE} {P : D → Prop}
theorem Drw.ifT {PB : Bool → Prop} (ht : Drw da ρ a j (fun x => ∃ b, x = .bl b ∧ PB b)) (h1 : ∀ b, PB b → if b = true then Drw db ρ a k P else Drw dc ρ a k P) : Drw (dIf (dTst da) db dc) ρ a (j + k) P := fun G T R hg htt r =>
  ht G T _ hg (by omega) fun x m ⟨b, e, hb⟩ hm => by
    subst e
    refine ⟨b, rfl, ?_⟩
    have h := h1 b hb
    cases b with
    | true =>
      refine h _ (T + j) _ (gau_gup hm) (by omega) fun x2 m2 p2 hm2 => ?_
      rw [gup_gup]
      exact r x2 m2 p2 (hm2.mono (by omega))
    | false =>
      refine h _ (T + j) _ (gau_gup hm) (by omega) fun x2 m2 p2 hm2 => ?_
      rw [gup_gup]
      exact r x2 m2 p2 (hm2.mono (by omega))
theorem Drw.eq0 {n i : Int} {v : Nat} (hi : ρ[v]? = some (some (.ref a))) (h1 : 1 ≤ n := by decide) (h2 : n < 2 ^ 8000 := by decide +kernel) : Drw (dOp fEq (dCall spDial X0 (dCons (dVar v) (dCons (dC (.int n)) dNil))) (dC (.int i))) ρ a 1 (fun x => ∃ b, x = .bl b ∧ True) :=
  (Drw.op (j := 1) (k := 0) (Drw.dial hi (fun _ => .c) h1 h2) (.ev (fun _ => .c) (rfl : D.int i = .int i)) fun x y ⟨u, e, _⟩ e2 => by
    subst e e2
    exact ⟨_, rfl, _, rfl, trivial⟩)
theorem Ev.chain {i u l : Int} (ha : Ev da ρ G (.int i)) (hb : Ev db ρ G (.int u)) (hc : Ev dc ρ G (.int l)) : Ev (dChain (fInt gLe) (fInt gLe) da db dc) ρ G (.bl (decide (i ≤ u) && decide (u ≤ l))) := fun R r => ha _ (hb _ ⟨decide (i ≤ u), ⟨i, u, rfl, rfl, rfl⟩, by
  split
  · rename_i h
    rw [h, Bool.true_and] at r
    exact hc _ ⟨_, ⟨u, l, rfl, rfl, rfl⟩, r⟩
  · rename_i h
    rw [Bool.eq_false_iff.mpr h, Bool.false_and] at r
    exact r⟩)
end
end DL
namespace DL
open PySem PySem.Spec PyProof.Rows L2 Evl
variable [TabC]
end DL
namespace MZ
open PySem PySem.Spec PyProof.Rows L2
open PySem.Sem (wp)
section
variable {prog : Program} {w : World} {A : Around} {E : Value → Shared → Prop} {s : Shared}
end
section
variable {prog : Program} {w : World} {A : Around} {E : Value → Shared → Prop} {s : Shared}
end
def ItE (K : PySem.W.Frag) (t : Bool) (a : Addr) : It :=
  ⟨fun i H => ∃ (xs : List V) (x : V), SqK K t H a xs ∧ xs[i]? = some x, fun i H v H2 => ∃ T x, v = .ref T ∧ H T = none ∧ H2 = upd H T (.tup [.int (i : Nat), x]) ∧ ∀ xs, SqK K t H a xs → xs[i]? = some x, fun i H => ∃ xs : List V, SqK K t H a xs ∧ xs.length ≤ i⟩
def iEnumT (K : PySem.W.Frag) (ta : TA) : TI := fun σ H R => ta σ H fun vs H1 => ∃ a xs, vs = [.ref a] ∧ SqT K H1 a xs ∧ R (ItE K true a) H1
end MZ
namespace DL
open PySem PySem.Spec PyProof.Rows L2 Evl
variable [TabC]
def enumD (xs : List D) : List D := xs.zipIdx.map fun p => .tup [.int (p.2 : Nat), p.1]
def dIEnumerate (dA : DA) : DI := fun ρ G S => dA ρ G fun vs G1 => ∃ xs, (vs = [.lst xs] ∨ vs = [.tup xs]) ∧ S (enumD xs) G1
def ltN (x y : D) : Bool := decide ((numI x).1 * (numI y).2 < (numI y).1 * (numI x).2)
def sp_below : DSp := fun xs G R _ => ∃ x y : D, xs = [x, y] ∧ numD x = true ∧ numD y = true ∧ Bn 4000 x ∧ Bn 4000 y ∧ R (.bl (ltN x y)) G
def belowR : DS := (dSeq (dAsg (dTup (dCons (dCall sp_halves X0 (dCons (dVar 0) dNil)) (dCons (dCall sp_halves X0 (dCons (dVar 1) dNil)) dNil))) (gSeq 2 (gCons (gSeq 2 (gCons (gN 2) (gCons (gN 3) gNil))) (gCons (gSeq 2 (gCons (gN 4) (gCons (gN 5) gNil))) gNil)))) (dRet (dOp (fInt gLt) (dOp (fIntC IntMulOk fun i j => .int (i * j)) (dVar 2) (dVar 5)) (dOp (fIntC IntMulOk fun i j => .int (i * j)) (dVar 4) (dVar 3)))))
theorem below_ok (xs : List D) (G : Gm) (R : KD) (RX : XD) (h : sp_below xs G R RX) : belowR { nx := fun _ G => R .non G, rt := R } (xs.map some ++ List.replicate (6 - xs.length) none) G := by
  obtain ⟨x, y, rfl, nx, ny, bx, by_, h⟩ := h
  obtain ⟨ex, px⟩ := num_half nx
  obtain ⟨ey, py⟩ := num_half ny
  refine ds_asg (.tup (.cons (.halves (.var rfl) nx) (.one (.halves (.var rfl) ny))) (show 2 ≤ sizeLine by decide)) ?_
  rw [ex, ey]
  refine ⟨_, seq_tup, rfl, _, _, rfl, ⟨_, seq_tup, rfl, _, _, rfl, _, _, rfl, rfl, ?_⟩⟩
  refine ⟨_, _, rfl, ⟨_, seq_tup, rfl, _, _, rfl, _, _, rfl, rfl, ?_⟩⟩
  refine ⟨rfl, ?_⟩
  exact ds_ret (.lt (.mul (.var rfl) (.var rfl) (mul_both bx.1 by_.2 (by decide))) (.mul (.var rfl) (.var rfl) (mul_both by_.1 bx.2 (by decide)))) h
theorem Ev.below {ρ : En} {G : Gm} {da db : DE} {x y : D} (h : Ev da ρ G x) (h' : Ev db ρ G y) (nx : numD x = true) (ny : numD y = true) (bx : Bn 4000 x) (by_ : Bn 4000 y) : Ev (dCall sp_below X0 (dCons da (dCons db dNil))) ρ G (.bl (ltN x y)) := .call (.cons h (.one h')) fun R r => ⟨x, y, rfl, nx, ny, bx, by_, r⟩
end DL
namespace DL
open PySem PySem.Spec PyProof.Rows L2 Evl
variable [TabC]
theorem lt_iff {x y : D} : ltN x y = true ↔ (numI x).1 * (numI y).2 < (numI y).1 * (numI x).2 := decide_eq_true_iff
end DL
namespace DL
open PySem PySem.Spec PyProof.Rows L2 Evl
variable [TabC]
theorem Cn.eq {x y : D} (h : Cn x) (h' : Cn y) (e : numI x = numI y) : x = y := by
  rcases h with ⟨i, rfl⟩ | ⟨a, b, rfl, h2, h3⟩ <;> rcases h' with ⟨j, rfl⟩ | ⟨c, d, rfl, k2, k3⟩
  · have : i = j := congrArg Prod.fst e
    rw [this]
  · have : (1 : Int) = d := congrArg Prod.snd e
    omega
  · have : b = (1 : Int) := congrArg Prod.snd e
    omega
  · have e1 : a = c := congrArg Prod.fst e
    have e2 : b = d := congrArg Prod.snd e
    rw [e1, e2]
end DL
namespace DL
open PySem PySem.Spec PyProof.Rows L2 Evl
variable [TabC]
end DL
namespace DL
open PySem PySem.Spec PyProof.Rows L2 Evl
variable [TabC]
def dApp (dobj de : DE) : DE := fun ρ G R => dobj ρ G fun o G1 => ∃ q, o = .ref q ∧ (∃ ds, G1 q = some (.lst ds)) ∧ dCons de dNil ρ G1 fun xs G2 => ∃ x, xs = [x] ∧ ∃ ds, G2 q = some (.lst ds) ∧ ds.length < sizeLine ∧ R .non (gup G2 q (.lst (ds ++ [x])))
section
variable {X : Cx} {B : Bs} {o e : Expr} {dobj de : DE} {pos p : Pos}
theorem pd_append (ho : PE X o (upE X.K B dobj)) (he : PE X e (upE X.K B de)) (hs : starEach [e] X.env = (false, eval e X.env) :: starEach [] X.env := by rfl) (hbase : attributeBase o "append" X.env (eval o X.env) = eval o X.env := by rfl)
    (hfew : ((backTo pos (starEach [e] X.env)).all (fun x => !x.1) && (backToKw pos (keywordEach [] X.env)).all (fun x => x.1.isSome) && decide ([e].length + ([] : List Keyword).length + (if ([] : List Keyword).isEmpty then 0 else 1) < 30)) = true := by rfl)
    (hline : (p.endLine == pos.line) = true := by rfl) (hplain : (backTo pos (starEach [] X.env)).any (·.1) = false := by rfl) :
    PE X (.Call (.Attribute o "append" p) [e] [] pos) (upE X.K B (dApp dobj de)) := pe_imp (pe_bm PySem.F.plainAttrs_list PySem.F.slot_list_append PySem.F.type_list_append mt_append ho (pda_cons he pda_nil hs) hbase hfew hline hs hplain) fun σ H Q ⟨ρ, Hd, G, R, at_, h, k⟩ =>
  ⟨ρ, Hd, G, fun o G1 => ∃ q, o = .ref q ∧ (∃ ds, G1 q = some (.lst ds)) ∧ dCons de dNil ρ G1 fun xs G2 => ∃ x, xs = [x] ∧ ∃ ds, G2 q = some (.lst ds) ∧ ds.length < sizeLine ∧ R .non (gup G2 q (.lst (ds ++ [x]))), at_, h, fun v H1 Hd1 x G1 e1 s1 r1 ⟨q, ex, ⟨ds0, hg0⟩, h1⟩ => by
    subst ex
    cases r1
    obtain ⟨ys0, hy0, _⟩ := s1.hold q _ hg0
    refine ⟨.inl ⟨rfl, ys0, SqL.of hy0⟩, ρ, Hd1, G1, fun xs G2 => ∃ x, xs = [x] ∧ ∃ ds, G2 q = some (.lst ds) ∧ ds.length < sizeLine ∧ R .non (gup G2 q (.lst (ds ++ [x]))), at_.step e1 s1, ?_, fun us H2 Hd2 xs G2 e2 s2 r2 ⟨x, ex, ds, hg, hz, h2⟩ => ?_⟩
    · exact h1
    · subst ex
      obtain ⟨u, rfl, ru⟩ := rpl1 r2
      obtain ⟨ys, hy, ry⟩ := s2.hold q _ hg
      exact ⟨q, ys, u, rfl, rfl, hy, by rw [ry.length]; exact hz, k .non _ Hd2 .non _ (e1.trans e2) (s2.put (n := .lst (ds ++ [x])) hg ⟨_, upd_same, ry.app (.cons ru .nil)⟩) .non h2⟩⟩
end
def dFrz (i : Nat) (s : DS) : DS := fun E ρ G => ∃ p ds, ρ[i]? = some (some (.ref p)) ∧ G p = some (.lst ds) ∧ s E (ρ.set i (some (.lst ds))) (gdel G p)
theorem frz_imp {K : PySem.W.Frag} {B : Bs} {i : Nat} {s : DS} : ∀ D σ H, upS K B (dFrz i s) D σ H → upS K B s D σ H := fun D σ H ⟨ρ, Hd, G, E, at_, ⟨p, ds, hi, hg, h⟩, k⟩ => by
  obtain ⟨xs, S, r⟩ := at_.s.freeze hg
  have e : Ex Hd (upd Hd p (.lst xs)) := Ex.new (at_.s.off p _ hg)
  refine ⟨_, _, _, E, ⟨at_.b.trans e, ⟨by rw [List.length_set]; exact at_.e.1, fun j d hj => ?_⟩, S⟩, h, k.mono e⟩
  by_cases q : i = j
  · subst q
    have hl : i < ρ.length := by
      by_cases z : i < ρ.length
      · exact z
      · rw [List.getElem?_eq_none (by omega)] at hi
        cases hi
    rw [List.getElem?_set_self hl] at hj
    cases hj
    obtain ⟨v, hv, rv⟩ := at_.e.2 i _ hi
    cases rv
    exact ⟨_, hv, .lst sq_new (r.mono e)⟩
  · rw [List.getElem?_set_ne q] at hj
    obtain ⟨v, hv, rv⟩ := at_.e.2 j d hj
    exact ⟨v, hv, rv.mono e⟩
theorem psd_frz {X : Cx} {B : Bs} {st : Stmt} {s : DS} (i : Nat) (h : PS X st (upS X.K B s)) : PS X st (upS X.K B (dFrz i s)) := ps_imp h frz_imp
end DL
namespace MZ
open PySem PySem.Spec PyProof.Rows L2
end MZ
namespace DL
open PySem PySem.Spec PyProof.Rows L2 Evl
variable [TabC]
def fAddL (x y z : D) : Prop := ∃ xs ys, x = .lst xs ∧ y = .lst ys ∧ xs.length + ys.length ≤ sizeLine ∧ z = .lst (xs ++ ys)
end DL
namespace DL
open PySem PySem.Spec PyProof.Rows L2 Evl
variable [TabC]
section
variable {X : Cx} {B : Bs} {pos pp : Pos} {a : Expr} {da : DE} {j : Nat}
theorem ptd_isN (ha : PE X a (upE X.K B da)) : PT X (.Compare a [.Is] [.Constant .none j pp] pos) (upT X.K B (dTst (dIsN da))) := pt_imp (pt_cmp (pc_isN ha) rfl) fun σ H Q h => isn_imp σ H _ (tst_imp σ H Q h)
theorem ptd_notN (ha : PE X a (upE X.K B da)) : PT X (.Compare a [.IsNot] [.Constant .none j pp] pos) (upT X.K B (dTst (dNotN da))) := pt_imp (pt_cmp (pc_notN ha) rfl) fun σ H Q h => notn_imp σ H _ (tst_imp σ H Q h)
end
end DL
namespace DL
open PySem PySem.Spec PyProof.Rows L2 Evl
variable [TabC]
end DL
namespace DL
open PySem PySem.Spec PyProof.Rows L2 Evl
variable [TabC]
mutual
theorem eqv_pln : ∀ (x y : D) (p q : PyData), x.pln = true → y.pln = true → x.py = some p → y.py = some q → (PyData.eqv p q = true ↔ x = y)
  | .non, y, p, q, _, hy, hp, hq => by
    cases y <;> first | (cases hy; done) | (cases hp; cases hq; simp [PyData.eqv]; done) | (cases hp; simp only [D.py, Option.map_eq_some_iff] at hq; obtain ⟨_, _, rfl⟩ := hq; simp [PyData.eqv])
  | .int i, y, p, q, _, hy, hp, hq => by
    cases y <;> first | (cases hy; done) | (cases hp; cases hq; simp [PyData.eqv]; done) | (cases hp; simp only [D.py, Option.map_eq_some_iff] at hq; obtain ⟨_, _, rfl⟩ := hq; simp [PyData.eqv])
  | .str i, y, p, q, _, hy, hp, hq => by
    cases y <;> first | (cases hy; done) | (cases hp; cases hq; simp [PyData.eqv]; done) | (cases hp; simp only [D.py, Option.map_eq_some_iff] at hq; obtain ⟨_, _, rfl⟩ := hq; simp [PyData.eqv])
  | .tup xs, y, p, q, hx, hy, hp, hq => by
    simp only [D.py, Option.map_eq_some_iff] at hp
    obtain ⟨ps, hps, rfl⟩ := hp
    cases y with
    | tup ys =>
      simp only [D.py, Option.map_eq_some_iff] at hq
      obtain ⟨qs, hqs, rfl⟩ := hq
      have := eqv_plnL xs ys ps qs hx hy hps hqs
      simp only [PyData.eqv, this, D.tup.injEq]
    | lst ys =>
      simp only [D.py, Option.map_eq_some_iff] at hq
      obtain ⟨qs, hqs, rfl⟩ := hq
      simp [PyData.eqv]
    | _ => first | (cases hy; done) | (cases hq; simp [PyData.eqv])
  | .lst xs, y, p, q, hx, hy, hp, hq => by
    simp only [D.py, Option.map_eq_some_iff] at hp
    obtain ⟨ps, hps, rfl⟩ := hp
    cases y with
    | lst ys =>
      simp only [D.py, Option.map_eq_some_iff] at hq
      obtain ⟨qs, hqs, rfl⟩ := hq
      have := eqv_plnL xs ys ps qs hx hy hps hqs
      simp only [PyData.eqv, this, D.lst.injEq]
    | tup ys =>
      simp only [D.py, Option.map_eq_some_iff] at hq
      obtain ⟨qs, hqs, rfl⟩ := hq
      simp [PyData.eqv]
    | _ => first | (cases hy; done) | (cases hq; simp [PyData.eqv])
  | .bl _, _, _, _, hx, _, _, _ => by cases hx
  | .ty _, _, _, _, hx, _, _, _ => by cases hx
  | .ref _, _, _, _, hx, _, _, _ => by cases hx
  | .dct _ _, _, _, _, hx, _, _, _ => by cases hx
  | .ins _ _ _, _, _, _, hx, _, _, _ => by cases hx
  | .exc _ _ _, _, _, _, hx, _, _, _ => by cases hx
  | .fnc _, _, _, _, hx, _, _, _ => by cases hx
  | .rng _ _, _, _, _, hx, _, _, _ => by cases hx
theorem eqv_plnL : ∀ (xs ys : List D) (ps qs : List PyData), D.plnL xs = true → D.plnL ys = true → D.pyL xs = some ps → D.pyL ys = some qs → (PyData.eqvAll ps qs = true ↔ xs = ys)
  | [], [], ps, qs, _, _, hp, hq => by
    cases hp
    cases hq
    simp [PyData.eqvAll]
  | [], y :: ys, ps, qs, _, hy, hp, hq => by
    cases hp
    cases h : D.py y with
    | none => simp only [D.pyL, h] at hq; cases hq
    | some u =>
      cases h2 : D.pyL ys with
      | none => simp only [D.pyL, h, h2] at hq; cases hq
      | some us =>
        simp only [D.pyL, h, h2, Option.some.injEq] at hq
        subst hq
        simp [PyData.eqvAll]
  | x :: xs, [], ps, qs, _, hy, hp, hq => by
    cases hq
    cases h : D.py x with
    | none => simp only [D.pyL, h] at hp; cases hp
    | some u =>
      cases h2 : D.pyL xs with
      | none => simp only [D.pyL, h, h2] at hp; cases hp
      | some us =>
        simp only [D.pyL, h, h2, Option.some.injEq] at hp
        subst hp
        simp [PyData.eqvAll]
  | x :: xs, y :: ys, ps, qs, hx, hy, hp, hq => by
    have hx2 : (x.pln && D.plnL xs) = true := hx
    have hy2 : (y.pln && D.plnL ys) = true := hy
    rw [Bool.and_eq_true] at hx2 hy2
    cases h : D.py x with
    | none => simp only [D.pyL, h] at hp; cases hp
    | some u =>
      cases h2 : D.pyL xs with
      | none => simp only [D.pyL, h, h2] at hp; cases hp
      | some us =>
        cases h3 : D.py y with
        | none => simp only [D.pyL, h3] at hq; cases hq
        | some v =>
          cases h4 : D.pyL ys with
          | none => simp only [D.pyL, h3, h4] at hq; cases hq
          | some vs =>
            simp only [D.pyL, h, h2, Option.some.injEq] at hp
            simp only [D.pyL, h3, h4, Option.some.injEq] at hq
            subst hp hq
            have e1 := eqv_pln x y u v hx2.1 hy2.1 h h3
            have e2 := eqv_plnL xs ys us vs hx2.2 hy2.2 h2 h4
            simp only [PyData.eqvAll, Bool.and_eq_true, e1, e2, List.cons.injEq]
end
mutual
theorem py_pln : ∀ x : D, x.pln = true → ∃ p, x.py = some p
  | .non, _ => ⟨_, rfl⟩
  | .int _, _ => ⟨_, rfl⟩
  | .str _, _ => ⟨_, rfl⟩
  | .tup xs, h => by
    obtain ⟨ps, e⟩ := py_plnL xs h
    exact ⟨.tuple ps, by simp only [D.py, e, Option.map_some]⟩
  | .lst xs, h => by
    obtain ⟨ps, e⟩ := py_plnL xs h
    exact ⟨.list ps, by simp only [D.py, e, Option.map_some]⟩
  | .bl _, h => by cases h
  | .ty _, h => by cases h
  | .ref _, h => by cases h
  | .dct _ _, h => by cases h
  | .ins _ _ _, h => by cases h
  | .exc _ _ _, h => by cases h
  | .fnc _, h => by cases h
  | .rng _ _, h => by cases h
theorem py_plnL : ∀ xs : List D, D.plnL xs = true → ∃ ps, D.pyL xs = some ps
  | [], _ => ⟨[], rfl⟩
  | x :: xs, h => by
    have h2 : (x.pln && D.plnL xs) = true := h
    rw [Bool.and_eq_true] at h2
    obtain ⟨p, e⟩ := py_pln x h2.1
    obtain ⟨ps, es⟩ := py_plnL xs h2.2
    exact ⟨p :: ps, by simp only [D.pyL, e, es]⟩
end
theorem eqv_iff {x y : D} (hx : x.pln = true) (hy : y.pln = true) : D.eqv x y = true ↔ x = y := by
  obtain ⟨p, hp⟩ := py_pln x hx
  obtain ⟨q, hq⟩ := py_pln y hy
  rw [eqv_of hp hq]
  exact eqv_pln x y p q hx hy hp hq
theorem Sm.rep {d s : Nat} {x : D} (h : Sm d s x) (h1 : d ≤ 60 := by decide) (h2 : s ≤ 27000 := by decide) : RepOk x := .inl ⟨h.fit, Nat.le_trans h.dp h1, Nat.le_trans h.sz h2⟩
theorem fit_lay {x : D} (h : x.fit = true) : x.lay = true := go x h
where
  go : ∀ x : D, x.fit = true → x.lay = true
  | .non, _ => rfl
  | .bl _, _ => rfl
  | .int _, _ => rfl
  | .str _, h => h
  | .tup xs, h => goL xs h
  | .lst xs, h => goL xs h
  | .ty _, h => by cases h
  | .ref _, h => by cases h
  | .dct _ _, h => by cases h
  | .ins _ _ _, h => by cases h
  | .exc _ _ _, h => by cases h
  | .fnc _, h => by cases h
  | .rng _ _, h => by cases h
  goL : ∀ xs : List D, D.fitL xs = true → D.layL xs = true
  | [], _ => rfl
  | x :: xs, h => by
    have h2 : (x.fit && D.fitL xs) = true := h
    rw [Bool.and_eq_true] at h2
    show (x.lay && D.layL xs) = true
    rw [go x h2.1, goL xs h2.2]
    rfl
theorem Sm.cmp {d s : Nat} {x : D} (h : Sm d s x) (h1 : d ≤ 60 := by decide) : Cmp x := ⟨fit_lay h.fit, Nat.le_trans h.dp h1⟩
section
variable {ρ : En} {G : Gm} {da db dc : DE} {dA : DA} {x y z : D} {xs : List D} {ta tb : DT} {j k : Bool}
theorem Ev.slL {i : Int} (ha : Ev da ρ G (.lst xs)) (hb : Ev db ρ G (.int i)) : Ev (dSl da dNoP (dPart db)) ρ G (.lst (cutD xs none (some i))) := fun R r => ha _ (hb _ ⟨i, rfl, _, .inl ⟨xs, lst_lst, rfl⟩, r⟩)
end
end DL
namespace DL
open PySem PySem.Spec PyProof.Rows L2 Evl
variable [TabC]
section
variable {i j : Int} {a b : Nat}
theorem mul_bd [x : Bd i a] [y : Bd j b] (h : a + b ≤ 134217728 := by first | decide | decide +kernel | omega) : IntMulOk i j := mul_both x.h y.h h
theorem div_bd [x : Bd j b] (p : 0 < j) (h : b ≤ 8000 := by first | decide | decide +kernel | omega) : CDivW i j := div_ok (by omega) (Int.lt_of_lt_of_le (abs_lt x.h) (by
  have : (2 : Int) ^ b ≤ 2 ^ 8000 := by
    have z : (2 : Nat) ^ b ≤ 2 ^ 8000 := Nat.pow_le_pow_right (by decide) h
    exact_mod_cast z
  exact this))
theorem pow_bd [x : Bd i a] (h0 : 0 ≤ j) (h : (a : Int) * j ≤ 2 ^ 27) : CPw i j := pow_ok x.h h0 h
end
end DL
namespace Sup
open PySem PySem.Spec PySem.Calls PyProof.Rows L2 PySem.W
structure ScopeS (N ps : List Str) (sc : Scope) : Prop where
  kind : sc.kind = .function
  co : sc.isCoroutine = false
  gen : sc.isGenerator = false
  nd : N.Nodup
  pre : N.take ps.length = ps
  par : ∀ x ∈ ps, sc.names.lookup x = some .local
  nocell : ∀ y ∈ sc.names, y.2 ≠ .cell
  one : ∀ y ∈ sc.names, y.2 = .free → y.1 = "__class__"
  sup : sc.names.lookup ("super" : Str) = some .globalImplicit
  own : sc.names.lookup ("__class__" : Str) = some .free
def cxS (CX : CXT) (P : Program) (w : World) (K : PySem.W.Frag) (mg : Str → Option Value) (base : Heap) (N : List Str) (qual : Str) (scope : Scope) (f : Addr) (cd : Value) (cc : Addr) (A : Around) (outer : List Env) (s : Shared) (H : Hp) (E : XK) : Cx where
  prog := P
  w := w
  K := K
  mg := mg
  base := base
  A := A.deeper (ksEnv qual scope s.heap.objs.size f cd cc)
  N := N
  s_0 := s
  H_0 := H
  env := ksEnv qual scope s.heap.objs.size f cd cc
  outer := outer
  stack := ksEnv qual scope s.heap.objs.size f cd cc :: outer
  ex := []
  calm := true
  fn := fun _ => false
  pn := []
  xe := fun e s' => wpAny (model P w) (A.deeper (ksEnv qual scope s.heap.objs.size f cd cc)) (leaving (ksEnv qual scope s.heap.objs.size f cd cc) e) (fun _ s'' => CX outer H s E e s'') (fun e' s'' => CX outer H s E e' s'') s'
theorem look_nd {y : Str} {u : Value} : ∀ {l : List (Str × Value)}, (l.map (·.1)).Nodup → (y, u) ∈ l → l.lookup y = some u
  | [], _, h => nomatch h
  | (z, v) :: l, nd, h => by
    rw [List.map_cons, List.nodup_cons] at nd
    rcases List.mem_cons.mp h with e | e
    · cases e
      simp [List.lookup]
    · have ne : y ≠ z := fun q => nd.1 (by rw [← q]; exact List.mem_map.mpr ⟨_, e, rfl⟩)
      have ne2 : (y == z) = false := by simpa using ne
      rw [List.lookup_cons, ne2]
      exact look_nd nd.2 e
theorem look_zip {ps : List Str} {us : List Value} {i : Nat} {y : Str} {u : Value} (nd : ps.Nodup) (hl : us.length = ps.length) (hp : ps[i]? = some y) (hu : us[i]? = some u) : (ps.zip us).reverse.lookup y = some u := by
  refine look_nd ?_ ?_
  · rw [List.map_reverse, List.map_fst_zip (by omega)]
    exact (List.reverse_perm _).nodup_iff.mpr nd
  · rw [List.mem_reverse]
    refine List.mem_of_getElem? (i := i) ?_
    rw [List.getElem?_zip_eq_some]
    exact ⟨hp, hu⟩
section
variable {CX : CXT} {P : Program} {w : World} {K : PySem.W.Frag} {mg : Str → Option Value} {base : Heap} {N ps : List Str} {qual : Str} {scope : Scope} {f cc : Addr} {cd : Value} {A : Around} {outer : List Env} {s : Shared} {H : Hp} {E : XK} {us : List Value} {vs : List V}
theorem inv_startS {h₀ : Heap} {tk : Nat} {oc : Obj} {D : Value} (S : ScopeS N ps scope) (hd : A.handled = none) (e0 : Env0 P w K mg base A outer s H) (hl : vs.length = ps.length) (r : Vals vs us) (hcc : K.lookup cc = some oc) (hcd : oc.data = .cell (some D))
    (hns : h₀.Ns s.heap.objs.size fun x => (ps.zip us).reverse.lookup x) (kp : ∀ b o, s.heap.get? b = some o → h₀.get? b = some o) :
    Inv (cxS CX P w K mg base N qual scope f cd cc A outer s H E) [] (L2.start N vs) H { s with heap := h₀, toks := tk } := by
  have hpl : ps.length ≤ N.length := by have := congrArg List.length S.pre; rw [List.length_take] at this; omega
  have noA : ∀ b : Addr, b ∉ (cxS CX P w K mg base N qual scope f cd cc A outer s H E).ex := fun b z => absurd (show b ∈ ([] : List Addr) from z) (by simp)
  have cl : ∀ {y : Str} {c : Addr}, (cxS CX P w K mg base N qual scope f cd cc A outer s H E).env.cells.lookup y = some c → y = "__class__" ∧ c = cc := fun {y c} h => by
    have h2 : ([(("__class__" : Str), cc)] : List (Str × Addr)).lookup y = some c := h
    rw [List.lookup_cons] at h2
    split at h2
    · rename_i q
      exact ⟨beq_iff_eq.mp q, (Option.some.inj h2).symm⟩
    · cases h2
  obtain ⟨hb, hn⟩ := e0.bs cc oc (e0.mod.kin cc oc hcc)
  refine ⟨⟨e0.mod, S.kind, rfl, rfl, Nat.le_refl _, fun y z c h1 h2 => (cl h1).1.trans (cl h2).1.symm, fun y hy => ?_, fun y c h _ => (nomatch (show false = true from h)), fun _ => hd, Around.frames_deeper e0.frames, .inr ⟨rfl, rfl⟩, fun b z => absurd z (noA b), e0.bs, e0.bsz, fun b _ _ => noA b, fun b z => absurd z (noA b), e0.funs, e0.frf⟩,
    rfl, e0.bare, Un.kept kp, ⟨_, hns, fun i y v h1 h2 h3 => ?_⟩, fun y c h => ?_, e0.hok.fresh (Nat.le_refl _), fun y c h => ?_, fun p hp => absurd (show p ∈ ([] : List (Addr × Obj)) from hp) (by simp), e0.hok.kept kp, ?_⟩
  · have hy : scope.names.lookup y = some .cell ∨ scope.names.lookup y = some .free := hy
    rcases hy with hy | hy
    · exact absurd rfl (S.nocell _ (PySem.mem_of_lookup hy))
    · have e := S.one _ (PySem.mem_of_lookup hy) rfl
      have e2 : y = "__class__" := e
      subst e2
      exact ⟨cc, by show ([(("__class__" : Str), cc)] : List (Str × Addr)).lookup ("__class__" : Str) = some cc; rw [List.lookup_cons]; simp⟩
  · have hi : i < vs.length := by
      unfold L2.start at h2
      by_cases hi : i < vs.length
      · exact hi
      · rw [List.getElem?_append_right (by simpa using hi), List.getElem?_replicate] at h2
        split at h2 <;> cases h2
    have ha : vs[i]? = some v := by
      unfold L2.start at h2
      rw [List.getElem?_append_left (by simpa using hi), List.getElem?_map] at h2
      cases e : vs[i]? with
      | none => rw [e] at h2; cases h2
      | some a => rw [e] at h2; cases h2; rfl
    obtain ⟨u, hu, rv⟩ := r.get ha
    have hp : ps[i]? = some y := by
      rw [← S.pre, List.getElem?_take_of_lt (by omega)]; exact h1
    have ndP : ps.Nodup := by rw [← S.pre]; exact S.nd.sublist (List.take_sublist _ _)
    exact ⟨u, rv, .inl ⟨S.par y (List.mem_of_getElem? hp), look_zip ndP (by rw [← r.length, hl]) hp hu⟩⟩
  · obtain ⟨_, e2⟩ := cl h
    subst e2
    exact ⟨_, _, kp _ _ hb, hcd⟩
  · obtain ⟨_, e2⟩ := cl h
    rw [e2]
    exact hn
  · unfold L2.start
    show _ = N.length
    rw [List.length_append, List.length_map, List.length_replicate]
    omega
end
structure SupF (P : Program) (K : PySem.W.Frag) (f cda cc C D : Addr) (x qual : Str) (params : Arguments) (body : List Stmt) (scope : Scope) : Prop where
  fn : ∃ oc od osl dV kV doc pm an ct, K.lookup f = some ⟨oc, od, .func (ksFn x qual params body scope dV kV doc pm an (.ref cda) ct cc), osl⟩ ∧ dV = .none
  code : codeIn K (.ref cda) qual = true
  file : ∃ ccl cdd vs ccs fl tf, K.lookup cda = some ⟨ccl, cdd, .fields vs, ccs⟩ ∧ vs[2]? = some (.str fl tf) ∧ ((P.main.file : Str) == fl) = true
  top : (P.main.scope.names.lookup ("super" : Str)).isSome = false
  cell : ∃ cl cld csl, K.lookup cc = some ⟨cl, cld, .cell (some (.ref D)), csl⟩
  base : (clsIn K D).isSome = true
  sub : mroIn K C (.ref D) = some true
  free : nsIn K mainGlobals "super" = some none
  stat : nsIn K cStatics "thirdparty.any" = some none
  up : ks_superIn K C D "__init__" = some (some (.builtin "ValueError.__init__"))
  isV : subIn K (.ref C) (.type "ValueError") = some true
theorem boot_super : bootBuiltins ("super" : Str) = some (.type "super") := by kernel_rfl
section
variable {prog : Program} {w : World} {A : Around} {E : Value → Shared → Prop} {s : Shared}
theorem call_mw {u x t C N : Addr} {nm q : Str} {bs bm : List Value} {hdct : Bool} {sn : List Str} {sub : List Value} {ab : Bool} {col : Option Bool} {dd : Option Addr} {k0 k1 k2 k3 k5 : Option Value} {rest : List Value} {Q : Value → Shared → Prop}
    (hu : s.heap.get? u = some (kxs_mw "ValueError.__init__" x)) (he : s.heap.get? x = some (excObj C t none .none)) (hC : s.heap.get? C = some (excClassObj nm q C N bs bm hdct sn sub ab col dd k0 k1 k2 k3 k5 "ValueError.__new__")) (hz : rest.length ≤ sizeLine)
    (h : ∀ t' h', (∀ b o, b ≠ x → s.heap.get? b = some o → h'.get? b = some o) → h'.get? x = some (excObj C t' none .none) → Q .none { s with heap := h' }) :
    wpAny (model prog w) A (call (.ref u) rest) Q E s := by
  obtain ⟨hh, g, d, tk, os⟩ := s
  refine wpAny_call (codeAny_of_tree ?_)
  show wpAny _ A.in1 (callAny (.ref u) ⟨rest, []⟩) _ _ _
  simp only [callAny]
  refine wpAny_bind (wpAny_load hu ?_)
  have e1 : (Value.type "method-wrapper" == Value.type "method" || Value.type "method-wrapper" == Value.type "builtin_function_or_method" || Value.type "method-wrapper" == Value.type "method-wrapper") = true := by decide
  simp only [kxs_mw, e1, if_true]
  refine KFB.if_so (by decide) ?_
  refine wpAny_bind (check_bound_init F.excBase_ValueError.toExcCallFacts hC he rfl ?_)
  refine wpAny_bind (wpAny_pure (wpAny_pure ?_))
  refine ⟨plainId_quiet F.excBase_ValueError.init.plain _, codeAny_builtin F.excBase_ValueError.initEntry ?_⟩
  exact exc_init_tree (cls := .ref C) (t0 := t) (dv := none) (c2 := .none) (c3 := .none) (b4 := .bool false) he hz fun h' k e' _ => h _ h' k e'
end
section
variable {CX : CXT} {P : Program} {w : World} {K : PySem.W.Frag} {mg : Str → Option Value} {base : Heap} {N ps : List Str} {x qual : Str} {scope : Scope} {f cda cc C D : Addr} {A : Around} {outer : List Env} {s : Shared} {H : Hp} {E : XK} {params : Arguments} {body : List Stmt}
def tSup (K : PySem.W.Frag) (C : Addr) (ta : TA) : TE := fun σ H Q => ∃ a : Addr, σ[0]? = some (some (.ref a)) ∧ OexC K C ∧ H a = some (exo a C none) ∧ ta σ H fun vs H1 => vs.length ≤ 1000 ∧ H1 a = some (exo a C none) ∧ Q .non H1
theorem sup_call {e : Expr} {es : List Expr} {ta : TA} {ar : Arg} {p0 p1 p2 pos : Pos} {pl : Sem Bool} {pins : List (Addr × Obj)} {σ : L2.St} {H1 : Hp} {s1 : Shared} {Q : VK} (S : ScopeS N ps scope) (T : SupF P K f cda cc C D x qual params body scope)
    (hp : (params.posonlyargs ++ params.args).head? = some ar) (hN : N[0]? = some ar.arg) (hka : scope.names.lookup ar.arg = some .local)
    (ha : PA (cxS CX P w K mg base N qual scope f (.ref cda) cc A outer s H E) (e :: es) ta)
    (I : Inv (cxS CX P w K mg base N qual scope f (.ref cda) cc A outer s H E) pins σ H1 s1) (h : tSup K C ta σ H1 Q)
    (he : eval (.Call (.Attribute (.Call (.Name "super" p0) [] [] p1) "__init__" p2) (e :: es) [] pos) (cxS CX P w K mg base N qual scope f (.ref cda) cc A outer s H E).env = (do
      let ov ← attributeBase (.Call (.Name "super" p0) [] [] p1) "__init__" (cxS CX P w K mg base N qual scope f (.ref cda) cc A outer s H E).env (eval (.Call (.Name "super" p0) [] [] p1) (cxS CX P w K mg base N qual scope f (.ref cda) cc A outer s H E).env)
      standAt p2.atName
      let (g, first) ← holding [ov] (getMethod ov "__init__" pl)
      callWith pos g first (backTo pos (starEach (e :: es) (cxS CX P w K mg base N qual scope f (.ref cda) cc A outer s H E).env)) []) := by rfl)
    (hst : starEach (e :: es) (cxS CX P w K mg base N qual scope f (.ref cda) cc A outer s H E).env = (false, eval e (cxS CX P w K mg base N qual scope f (.ref cda) cc A outer s H E).env) :: starEach es (cxS CX P w K mg base N qual scope f (.ref cda) cc A outer s H E).env := by rfl)
    (hpl : (backTo pos (starEach es (cxS CX P w K mg base N qual scope f (.ref cda) cc A outer s H E).env)).any (·.1) = false := by rfl) :
    PySem.wpAt (model P w) (cxS CX P w K mg base N qual scope f (.ref cda) cc A outer s H E).A (.func body (cxS CX P w K mg base N qual scope f (.ref cda) cc A outer s H E).env) (eval (.Call (.Attribute (.Call (.Name "super" p0) [] [] p1) "__init__" p2) (e :: es) [] pos) (cxS CX P w K mg base N qual scope f (.ref cda) cc A outer s H E).env)
      (EP (cxS CX P w K mg base N qual scope f (.ref cda) cc A outer s H E) pins σ Q) (cxS CX P w K mg base N qual scope f (.ref cda) cc A outer s H E).xe s1 := by
  obtain ⟨a, hs, TC, ea, h⟩ := h
  obtain ⟨oc, od, osl, dV, kV, doc, pm, an, ct, lk, _⟩ := T.fn
  obtain ⟨ccl, cdd, vs, ccs, fl, tf, lc, hv2, hfl⟩ := T.file
  obtain ⟨cl, cld, csl, lcc⟩ := T.cell
  obtain ⟨cdD, hD⟩ := Option.isSome_iff_exists.mp T.base
  obtain ⟨nm, q, Nn, bs, bm, sn, sub, ab, col, dd, k0, k1, k2, k3, k5, hC, hbm⟩ := TC.cls
  obtain ⟨t1, ho⟩ := exo_at I.hok ea
  obtain ⟨m, hns, hl⟩ := I.loc
  have hv : m ar.arg = some (.ref a) := by
    obtain ⟨u, ru, lu⟩ := hl 0 ar.arg (.ref a) hN hs (.inl hka)
    cases (show u = Value.ref a from ru)
    rcases lu with ⟨_, q⟩ | ⟨k, _⟩
    · exact q
    · have k2 : scope.names.lookup ar.arg = some .cell ∨ scope.names.lookup ar.arg = some .free := k
      rw [hka] at k2
      rcases k2 with k2 | k2 <;> cases k2
  have X := I.kIn
  obtain ⟨oD, hD1, hD2⟩ : ∃ oD, s1.heap.get? D = some oD ∧ oD.data = .cls cdD := by
    have hD' := hD
    unfold clsIn at hD'
    split at hD'
    · rename_i c d cd' sl ho
      cases hD'
      exact ⟨_, X _ _ ho, rfl⟩
    · cases hD'
  have hClk : clsIn K C = some { name := nm, bases := bs, mro := .ref C :: bm, ns := Nn, qualname := q, hasDict := true, slotNames := sn, subclasses := sub, abstract := ab, collection := col, hasDel := false } := by unfold clsIn; rw [hC] <;> rfl
  have inst : InstAt s1.heap a { cls := .ref C, dict := none, data := .fields #[.ref t1, .none, .none, .none, .bool false, .none] } C none := ⟨ho, rfl, rfl, trivial⟩
  have hxC : a ≠ C := ks_ne (cd := _) X inst hClk
  have hsup := T.up
  unfold ks_superIn at hsup
  rw [hClk] at hsup
  have hsup2 : alongIn K "__init__" (((Value.ref C :: bm).dropWhile (· != .ref D)).drop 1) = some (some (.builtin "ValueError.__init__")) := hsup
  refine ks_wpAt_MethodCall (pl := pl) ?_ he
  refine ks_wpAt_super_base (whole := _) S.sup S.own (by decide) rfl (X _ _ lk) rfl hp rfl (X _ _ lc) rfl hv2 hfl T.top ?_
  obtain ⟨mb, hmb, hbb⟩ := I.mod.blt
  refine ks_loadName_global S.kind S.sup (loadGlobal_builtin (I.mod.glob.keeps I.bk) (mg_none_of X (I.mod.glob.keeps I.bk) T.free) (hmb.keeps I.bk) ((hbb _ (by decide +kernel)).trans boot_super) ⟨rfl, ?_⟩)
  refine wpAny_loadName_free (c := cc) S.kind S.own (by show ([(("__class__" : Str), cc)] : List (Str × Addr)).lookup ("__class__" : Str) = some cc; rw [List.lookup_cons]; simp) ⟨_, X _ _ lcc, rfl⟩ ?_
  refine wpAny_loadName_local S.kind hka hns hv ?_
  obtain ⟨hh, g, d, tk, os⟩ := s1
  refine ks_wpAny_isType_cls hD1 hD2 ⟨rfl, ?_⟩
  refine ks_wpAny_call_super hD1 hD2 ho rfl (fun c z => by cases z) (looks_mroIn X T.sub) (fun h' e1 k1 => ?_)
  have X1 : K.In h' := fun b o z => k1 b o (X b o z)
  have inst1 : InstAt h' a { cls := .ref C, dict := none, data := .fields #[.ref t1, .none, .none, .none, .bool false, .none] } C none := ⟨k1 _ _ ho, rfl, rfl, trivial⟩
  refine kxs_getMethod kxs_ValueError e1 (looks_opaque X1 T.stat) (l₀ := .ref C :: bm) (fun A Q E s k q => wpAny_bind ((looks_clsIn X1 hClk) A _ E s k (wpAny_pure q))) rfl X1 hsup2 (inst1.type.andThen (looks_subIn X1 T.isV)) hxC (by decide) ?_
  have lt1 : hh.objs.size < h'.objs.size := Heap.lt_size e1
  have k2 : ∀ b o, hh.get? b = some o → (h'.push (kxs_mw "ValueError.__init__" a)).get? b = some o := fun b o z => Heap.get?_push_of_some _ (k1 b o z)
  have hu : (h'.push (kxs_mw "ValueError.__init__" a)).get? h'.objs.size = some (kxs_mw "ValueError.__init__" a) := Heap.get?_push_at rfl rfl
  have I2 := (I.kept (t' := tk + 1) k2).pins_of (pins' := (h'.objs.size, kxs_mw "ValueError.__init__" a) :: pins) fun p hp => by
    rcases List.mem_cons.mp hp with z | z
    · rw [z]
      refine ⟨hu, I.hok.fresh (Nat.le_of_lt lt1), fun z => ?_, I.nofs (Nat.le_of_lt lt1), fun v z => by cases z⟩
      have := I.lt
      have z2 : h'.objs.size = (cxS CX P w K mg base N qual scope f (.ref cda) cc A outer s H E).env.locals := z
      rw [← z2] at this
      exact absurd (Nat.lt_trans this lt1) (Nat.lt_irrefl _)
    · have := I.pin p (List.mem_append_right _ z)
      exact ⟨k2 _ _ this.1, this.2⟩
  show wpAny _ _ (callWith pos (.ref h'.objs.size) [] (backTo pos (starEach (e :: es) _)) []) _ _ _
  rw [hst]
  refine kxs_callWith (i := "ValueError.__init__") (x := a) (by show (false || (backTo pos (starEach es _)).any (·.1)) = false; rw [hpl]; rfl) ?_
  have hrun := ha.run pos _ _ σ H1 _ I2 h
  rw [hst] at hrun
  refine evalArgs_plain (thn hrun fun us s3 hh3 => ?_)
  obtain ⟨ws, H3, I3, r3, hz, ea3, q3⟩ := hh3
  have hu3 := (I3.pin _ (List.mem_append_right _ List.mem_cons_self)).1
  refine ⟨hu3, ?_⟩
  obtain ⟨t3, ho3⟩ := exo_at I3.hok ea3
  refine call_mw hu3 ho3 (I3.kIn _ _ hC) (by show us.length ≤ sizeLine; rw [← r3.length, sizeLine_eq]; omega) fun t' h4 k4 e4 => ?_
  have J := I3.write (t' := s3.toks) (x := a) (e := a) (o := exo a C none) (by rw [ea3]; exact True.intro) (.inl rfl) k4 ⟨_, e4⟩ (exo_ok e4)
  have eu : upd H3 a (exo a C none) = H3 := by
    funext b
    by_cases hb : b = a
    · rw [hb, upd_same, ea3]
    · rw [upd_ne hb]
  rw [eu] at J
  exact ⟨.non, H3, J.pins_of fun p hp => J.pin p (List.mem_append_right _ (List.mem_cons_of_mem _ hp)), rfl, q3⟩
end
end Sup
namespace Sup
open PySem PySem.Spec PySem.Calls PyProof.Rows L2 PySem.W
section
variable {CX : CXT} {P : Program} {w : World} {K : PySem.W.Frag} {mg : Str → Option Value} {base : Heap} {N ps : List Str} {x qual : Str} {scope : Scope} {f cda cc C D : Addr} {A : Around} {outer : List Env} {s : Shared} {H : Hp} {E : XK} {params : Arguments} {body : List Stmt}
theorem psS_sup {e : Expr} {es : List Expr} {rest : List Stmt} {ta : TA} {t : TS} {ar : Arg} {p0 p1 p2 pos pos2 : Pos} {pl : Sem Bool} (S : ScopeS N ps scope) (T : SupF P K f cda cc C D x qual params body scope)
    (hp : (params.posonlyargs ++ params.args).head? = some ar) (hN : N[0]? = some ar.arg) (hka : scope.names.lookup ar.arg = some .local)
    (ha : PA (cxS CX P w K mg base N qual scope f (.ref cda) cc A outer s H E) (e :: es) ta) (hr : PSs (cxS CX P w K mg base N qual scope f (.ref cda) cc A outer s H E) rest t)
    (he : eval (.Call (.Attribute (.Call (.Name "super" p0) [] [] p1) "__init__" p2) (e :: es) [] pos) (cxS CX P w K mg base N qual scope f (.ref cda) cc A outer s H E).env = (do
      let ov ← attributeBase (.Call (.Name "super" p0) [] [] p1) "__init__" (cxS CX P w K mg base N qual scope f (.ref cda) cc A outer s H E).env (eval (.Call (.Name "super" p0) [] [] p1) (cxS CX P w K mg base N qual scope f (.ref cda) cc A outer s H E).env)
      standAt p2.atName
      let (g, first) ← holding [ov] (getMethod ov "__init__" pl)
      callWith pos g first (backTo pos (starEach (e :: es) (cxS CX P w K mg base N qual scope f (.ref cda) cc A outer s H E).env)) []) := by rfl)
    (hst : starEach (e :: es) (cxS CX P w K mg base N qual scope f (.ref cda) cc A outer s H E).env = (false, eval e (cxS CX P w K mg base N qual scope f (.ref cda) cc A outer s H E).env) :: starEach es (cxS CX P w K mg base N qual scope f (.ref cda) cc A outer s H E).env := by rfl)
    (hpl : (backTo pos (starEach es (cxS CX P w K mg base N qual scope f (.ref cda) cc A outer s H E).env)).any (·.1) = false := by rfl)
    (hi : interactive (cxS CX P w K mg base N qual scope f (.ref cda) cc A outer s H E).env = false := by rfl) (hsw : swapsWith (.Call (.Attribute (.Call (.Name "super" p0) [] [] p1) "__init__" p2) (e :: es) [] pos) none pos2.line (cxS CX P w K mg base N qual scope f (.ref cda) cc A outer s H E).env = pure false := by rfl) :
    PSsS (cxS CX P w K mg base N qual scope f (.ref cda) cc A outer s H E) body (.Expr (.Call (.Attribute (.Call (.Name "super" p0) [] [] p1) "__init__" p2) (e :: es) [] pos) pos2 :: rest) (fun D σ H => tSup K C ta σ H fun _ H1 => t D σ H1) := by
  refine ⟨fun pins s1 σ H1 D I h => ?_⟩
  refine ks_wpAt_execs_cons (ks_wpAt_Expr_any (ks_wpAt_mono (sup_call (pl := pl) S T hp hN hka ha I h he hst hpl) (fun v s2 hv => ?_) fun _ _ z => z) hi hsw)
  obtain ⟨_, H2, I2, _, q⟩ := hv
  exact wpAt_of_wpAny (hr.run pins s2 σ H2 D I2 q)
theorem fnok_sup {k : Nat} {sp : Sp} {oc : Value} {od : Option Addr} {osl : Array (Option Value)} {dV kV doc pm ct : Value} {an : Option Addr} (S : ScopeS N ps scope) (T : SupF P K f cda cc C D x qual params body scope)
    (lk : K.lookup f = some ⟨oc, od, .func (ksFn x qual params body scope dV kV doc pm an (.ref cda) ct cc), osl⟩) (len : ∀ vs H Q E, sp vs H Q E → vs.length = ps.length)
    (hbody : ∀ (A : Around) (outer : List Env) (s : Shared) (H : Hp) (vs : List V) (Q : VK) (E : XK), Room k (A.deeper (ksEnv qual scope s.heap.objs.size f (.ref cda) cc)) → sp vs H Q E →
      ∃ t, PSsS (cxS CX P w K mg base N qual scope f (.ref cda) cc A outer s H E) body body t ∧ t { nx := fun _ H' => Q .non H', rt := Q } (L2.start N vs) H) :
    FnOk P w K mg base CX (k + 1) f (ksFn x qual params body scope dV kV doc pm an (.ref cda) ct cc) ps sp := by
  refine ⟨len, fun A outer s H args us vs Q E hr e0 hb r hsp => ?_⟩
  have hl := len _ _ _ _ hsp
  obtain ⟨cl, cld, csl, lcc⟩ := T.cell
  have KX : K.In s.heap := e0.mod.kin.keeps fun b o e => (e0.bs b o e).1
  have lim : s.heap.NoLimit := e0.mod.nolimit.keeps fun b o e => (e0.bs b o e).1
  refine ks_codeAny_call_defAt (fd := ksFn x qual params body scope dV kV doc pm an (.ref cda) ct cc) (body := body) (binds := ps.zip us) hr.depth (KX _ _ lk) rfl lim (codeRec_of KX T.code) rfl hb S.nocell (fun y hy => ?_) (fun h₀ hns kp => ?_) S.co S.gen S.kind
  · obtain ⟨n, u⟩ := y
    exact S.par n (List.of_mem_zip hy).1
  obtain ⟨t, ht, hq⟩ := hbody A outer s H vs Q E (hr.deeper _) hsp
  have I : Inv (cxS CX P w K mg base N qual scope f (.ref cda) cc A outer s H E) [] (L2.start N vs) H { s with heap := h₀, toks := s.toks + (ps.zip us).length } := inv_startS S hr.hd e0 hl r lcc rfl hns kp
  refine ks_wpAt_mono (ht.run [] _ (L2.start N vs) H _ I hq) (fun fl s' hs => ?_) fun e s' hs => hs
  have fin : ∀ {σ' : L2.St} {H' : Hp} {v : V} {u : Value}, Inv (cxS CX P w K mg base N qual scope f (.ref cda) cc A outer s H E) [] σ' H' s' → L2.RelV v u → Q v H' → CE outer P w H s Q u s' :=
    fun {σ' H' v u} J rv q => ⟨v, H', J.os, J.bare, J.base, J.hok, rv, q⟩
  cases fl with
  | ret u =>
    obtain ⟨v, σ', H', J, rv, q⟩ := hs
    exact fin J rv q
  | next =>
    obtain ⟨σ', H', J, q⟩ := hs
    exact fin (v := V.non) (u := Value.none) J rfl q
  | brk =>
    obtain ⟨_, _, _, q⟩ := hs
    exact False.elim q
  | cont =>
    obtain ⟨_, _, _, q⟩ := hs
    exact False.elim q
end
end Sup
namespace DL
open PySem PySem.Spec PyProof.Rows L2 Evl Sup
variable [TabC]
theorem optB_ok {α : Type} {o : Option α} {f : α → Bool} (h : optB o f = true) : ∃ a, o = some a ∧ f a = true := by
  cases o with
  | none => cases h
  | some a => exact ⟨a, rfl, h⟩
theorem noneV_ok {v : Value} (h : noneV v = true) : v = .none := by
  cases v <;> first | rfl | cases h
theorem fdOf_ok {K : PySem.W.Frag} {f : Addr} {fd : FuncData} (h : fdOf K f = some fd) : ∃ oc od osl, K.lookup f = some ⟨oc, od, .func fd, osl⟩ := by
  unfold fdOf at h
  split at h
  · rename_i oc od fd' osl e
    cases h
    exact ⟨oc, od, osl, e⟩
  · cases h
theorem vsOf_ok {K : PySem.W.Frag} {f : Addr} {vs : Array Value} (h : vsOf K f = some vs) : ∃ oc od osl, K.lookup f = some ⟨oc, od, .fields vs, osl⟩ := by
  unfold vsOf at h
  split at h
  · rename_i oc od fd' osl e
    cases h
    exact ⟨oc, od, osl, e⟩
  · cases h
theorem cellOf_ok {K : PySem.W.Frag} {f D : Addr} (h : cellOf K f = some D) : ∃ oc od osl, K.lookup f = some ⟨oc, od, .cell (some (.ref D)), osl⟩ := by
  unfold cellOf at h
  split at h
  · rename_i oc od fd' osl e
    cases h
    exact ⟨oc, od, osl, e⟩
  · cases h
theorem refOf_ok {v : Value} {a : Addr} (h : refOf v = some a) : v = .ref a := by
  cases v <;> cases h
  rfl
theorem txtOf_ok {v : Option Value} {x : Str} (h : txtOf v = some x) : ∃ t, v = some (.str x t) := by
  unfold txtOf at h
  split at h
  · cases h
    exact ⟨_, rfl⟩
  · cases h
theorem onlyCl_ok {l : List (Str × Addr)} {c : Addr} (h : onlyCl l = some c) : l = [(("__class__" : Str), c)] := by
  unfold onlyCl at h
  split at h
  · split at h
    · rename_i e
      cases h
      rw [e]
    · cases h
  · cases h
theorem oexB_ok {K : PySem.W.Frag} {C : Addr} (h : oexB K C = true) : OexC K C := by
  obtain ⟨h1, h2⟩ := He.ba h
  obtain ⟨h2, h3⟩ := He.ba h2
  obtain ⟨h3, h4⟩ := He.ba h3
  obtain ⟨h4, h5⟩ := He.ba h4
  refine ⟨?_, He.eqO_ok h2, of_decide_eq_true h3, of_decide_eq_true h4, h5⟩
  split at h1
  · rename_i t dd cd sl ho
    split at h1
    · rename_i C' bm k0 k1 k2 k3 n k5 hm hs
      simp only [Bool.and_eq_true, beq_iff_eq, Bool.not_eq_true', decide_eq_true_eq] at h1
      obtain ⟨rfl, rfl, rfl, hdel, hdc, hre⟩ := h1
      obtain ⟨nm, bs, mro, ns, qn, hd, sn, sub, ab, col, del⟩ := cd
      dsimp only at hm hdel hdc
      subst hm hdel hdc
      have hsl : sl = #[k0, k1, k2, k3, some (.builtin "ValueError.__new__"), k5] := by
        obtain ⟨l⟩ := sl
        simp only at hs
        rw [hs]
      subst hsl
      exact ⟨nm, qn, ns, bs, bm, sn, sub, ab, col, dd, k0, k1, k2, k3, k5, ho, hre⟩
    · cases h1
  · cases h1
structure Xc (P : Program) (K : PySem.W.Frag) (mg : Str → Option Value) (C : Str) (fs : List Str) (qual : Str) (params : Arguments) (body : List Stmt) (scope : Scope) : Prop where
  g : mg C = some (.ref (He.ga K C))
  ox : OexC K (He.ga K C)
  sup : ∃ cda cc, SupF P K (He.ma K (He.ga K C) "__init__") cda cc (He.ga K C) (He.ga K C) "__init__" qual params body scope
  ini : PySem.W.findIn K (.ref (He.ga K C)) "__init__" = some (some (.ref (He.ma K (He.ga K C) "__init__")))
  ti : PySem.W.typeIn K (.ref (He.ma K (He.ga K C) "__init__")) = some (.type "function")
  no : ∀ f ∈ fs, PySem.W.findIn K (.ref (He.ga K C)) f = some none
  xf : XfC K (He.ga K C)
  xd : ExcC K (He.ga K C)
theorem xc_of {P : Program} {K : PySem.W.Frag} {h : Heap} {mg : Str → Option Value} {C : Str} {fs : List Str} {qual : Str} {params : Arguments} {body : List Stmt} {scope : Scope} (X : K.In h) (G : h.Ns mainGlobals mg) (b : xcB P.main.file K C fs = true) (e : fnC K C = (⟨C, qual, params, body, scope⟩ : DefC).val)
    (htop : (P.main.scope.names.lookup ("super" : Str)).isSome = false) : Xc P K mg C fs qual params body scope := by
  unfold xcB at b
  obtain ⟨b1, b⟩ := He.ba b
  obtain ⟨b2, b⟩ := He.ba b
  obtain ⟨b3, b⟩ := He.ba b
  obtain ⟨b4, b⟩ := He.ba b
  obtain ⟨b5, b⟩ := He.ba b
  obtain ⟨b6, b⟩ := He.ba b
  obtain ⟨b7, b⟩ := He.ba b
  obtain ⟨b8, b⟩ := He.ba b
  obtain ⟨b9, b⟩ := He.ba b
  obtain ⟨b10, b⟩ := He.ba b
  obtain ⟨b11, b⟩ := He.ba b
  obtain ⟨b12, b⟩ := He.ba b
  obtain ⟨b13, b⟩ := He.ba b
  obtain ⟨b14, b⟩ := He.ba b
  obtain ⟨b15, b⟩ := He.ba b
  obtain ⟨b16, b17⟩ := He.ba b
  obtain ⟨fd, q1, b6⟩ := optB_ok b6
  obtain ⟨cda, q2, b6⟩ := optB_ok b6
  obtain ⟨cc, q3, b6⟩ := optB_ok b6
  obtain ⟨c0, b6⟩ := He.ba b6
  obtain ⟨c1, b6⟩ := He.ba b6
  obtain ⟨c2, c3⟩ := He.ba b6
  obtain ⟨vs, q4, c2⟩ := optB_ok c2
  obtain ⟨fl, q5, c2⟩ := optB_ok c2
  obtain ⟨oc, od, osl, lk⟩ := fdOf_ok q1
  have e0 := refOf_ok q2
  have e1 := onlyCl_ok q3
  unfold fnC at e
  rw [lk] at e
  obtain ⟨n1, n2, n3, n4, n5, n6, n7, n8, n9, n10, n11, n12, n13, n14, n15⟩ := fd
  have e2 : (some (n1, n2, n3, n4, n5, n6, n15) : FnC) = some (("__init__" : Str), qual, params, FuncBody.stmts body, scope, mainGlobals, builtinsNs) := e
  simp only [Option.some.injEq, Prod.mk.injEq] at e2
  obtain ⟨h1, h2, h3, h4, h5, h6, h7⟩ := e2
  dsimp only at e0 e1 c1 c0
  subst h1 h2 h3 h4 h5 h6 h7 e0 e1
  obtain ⟨ccl, cdd, ccs, lc⟩ := vsOf_ok q4
  obtain ⟨tf, hv⟩ := txtOf_ok q5
  obtain ⟨cl, cld, csl, lcc⟩ := cellOf_ok (of_decide_eq_true c3)
  have xf := xfB_ok b13
  refine ⟨PySem.W.mg_of X G (He.eqO_ok b2), oexB_ok b1, ⟨cda, cc, ⟨⟨oc, od, osl, n8, n9, n10, n11, n12, n14, lk, noneV_ok c0⟩, c1, ⟨ccl, cdd, vs, ccs, fl, tf, lc, hv, c2⟩, htop, ⟨cl, cld, csl, lcc⟩, b7, of_decide_eq_true b8, He.eqO_ok b9, He.eqO_ok b10, He.eqO_ok b11, of_decide_eq_true b12⟩⟩,
    He.eqO_ok b3, of_decide_eq_true b4, fun f hf => He.eqO_ok (List.all_eq_true.mp b5 f hf), xf, ⟨xf.ga, xf.gg, xf.exC, xf.hdC, He.eqO_ok b14, He.eqO_ok b15, of_decide_eq_true b16, of_decide_eq_true b17⟩⟩
end DL
namespace DL
open PySem PySem.Spec PyProof.Rows L2 Evl Sup
variable [TabC]
def finX (C a d : Addr) (fs : List (Str × V)) (H : Hp) : Hp := upd (upd H d (exd d fs)) a (exo a C (some d))
def FmtOk (v : V) : Prop := (∃ y : Str, v = .str y ∧ y.length ≤ 10000) ∨ ∃ i : Int, v = .int i ∧ i.natAbs < 10 ^ 560
def spI (K : PySem.W.Frag) (C : Addr) (fs : List Str) (tx : List V → Prop) : Sp := fun vs H Q _ => ∃ (a : Addr) (ws : List V), vs = .ref a :: ws ∧ ws.length = fs.length ∧ OexC K C ∧ (∀ f ∈ fs, PySem.W.findIn K (.ref C) f = some none) ∧ H a = some (exo a C none) ∧ tx ws ∧ ∀ d, H d = none → d ≠ a → Q .non (finX C a d (fs.zip ws).reverse H)
theorem spI_len {K : PySem.W.Frag} {C : Addr} {fs : List Str} {tx : List V → Prop} : ∀ vs H Q E, spI K C fs tx vs H Q E → vs.length = fs.length + 1 := fun vs H Q E ⟨a, ws, e, hl, _⟩ => by rw [e, List.length_cons, hl]
theorem len_app (x y : Str) : (x ++ y).length = x.length + y.length := by
  show (x.cps ++ y.cps).size = x.cps.size + y.cps.size
  exact Array.size_append
theorem jts_ok {σ : L2.St} {H : Hp} {Q : Str → Hp → Prop} : ∀ (l : List JP) (acc : Str), (∀ i, JP.v i ∈ l → ∃ w, σ[i]? = some (some w) ∧ FmtOk w) → (∀ x, JP.k x ∈ l → x.length ≤ 10000) → acc.length + l.length * 10000 ≤ sizeLine → (∀ out, Q out H) → tJs (l.map JP.t) acc σ H Q
  | [], acc, _, _, _, q => q acc
  | .k x :: l, acc, hv, hk, hz, q => by
    have hx := hk x List.mem_cons_self
    rw [List.length_cons] at hz
    exact ⟨x, rfl, by rw [len_app]; omega, jts_ok l (acc ++ x) (fun i hi => hv i (List.mem_cons_of_mem _ hi)) (fun y hy => hk y (List.mem_cons_of_mem _ hy)) (by rw [len_app]; omega) q⟩
  | .v i :: l, acc, hv, hk, hz, q => by
    rw [List.length_cons] at hz
    obtain ⟨w, hw, hf⟩ := hv i List.mem_cons_self
    have go : ∀ y : Str, y.length ≤ 10000 → ∃ z : Str, V.str y = V.str z ∧ (acc ++ z).length ≤ sizeLine ∧ tJs (l.map JP.t) (acc ++ z) σ H Q := fun y hy =>
      ⟨y, rfl, by rw [len_app]; omega, jts_ok l (acc ++ y) (fun i hi => hv i (List.mem_cons_of_mem _ hi)) (fun y hy => hk y (List.mem_cons_of_mem _ hy)) (by rw [len_app]; omega) q⟩
    refine ⟨w, hw, ?_⟩
    rcases hf with ⟨y, rfl, hy⟩ | ⟨i, rfl, hi⟩
    · exact .inl ⟨y, rfl, by rw [sizeLine_eq]; omega, go y hy⟩
    · exact .inr ⟨i, rfl, log_small hi, go _ (Nat.le_trans (by rw [PySem.ofString_length]; exact int_text_length_le10 (k := 560) (by decide) hi) (by decide))⟩
theorem ost_first {K : PySem.W.Frag} {C a : Addr} {f : Str} {i : Nat} {w : V} {D : Ends} {σ : L2.St} {H : Hp} (h0 : σ[0]? = some (some (.ref a))) (h1 : σ[i]? = some (some w)) (T : OexC K C) (hno : PySem.W.findIn K (.ref C) f = some none) (ha : H a = some (exo a C none))
    (h : ∀ d, H d = none → d ≠ a → D.nx σ (finX C a d [(f, w)] H)) : tOst K f (tVar 0) (tVar i) D σ H := ⟨w, h1, .ref a, h0, a, C, rfl, T, hno, .inl ⟨ha, fun d hd ne => h d hd ne⟩⟩
theorem init1 {K : PySem.W.Frag} {C : Addr} {f : Str} {tx : List V → Prop} {ta : TA} {N : List Str} (hN : N.length = 2) (hta : ∀ (a : Addr) (w : V) (H : Hp) (Q : List V → Hp → Prop), tx [w] → (∀ us : List V, us.length ≤ 1000 → Q us H) → ta [some (.ref a), some w] H Q)
    {vs : List V} {H : Hp} {Q : VK} {E : XK} (h : spI K C [f] tx vs H Q E) : (fun D σ H => tSup K C ta σ H fun _ H1 => tOst K f (tVar 0) (tVar 1) D σ H1) { nx := fun _ H' => Q .non H', rt := Q } (L2.start N vs) H := by
  obtain ⟨a, ws, rfl, hl, T, hno, ha, hx, hq⟩ := h
  match ws, hl with
  | [w], _ =>
    have e : L2.start N [.ref a, w] = [some (.ref a), some w] := by
      unfold L2.start
      rw [hN]
      rfl
    rw [e]
    refine ⟨a, rfl, T, ha, hta a w H _ hx fun us hu => ⟨hu, ha, ?_⟩⟩
    exact ost_first rfl rfl T (hno f (List.mem_singleton_self _)) ha fun d hd ne => hq d hd ne
def FmtL (fm : List Bool) (ws : List V) : Prop := ∀ p ∈ fm.zip ws, p.1 = true → FmtOk p.2
structure KnX (P : Program) (w : World) (K : PySem.W.Frag) (mg : Str → Option Value) (base : Heap) (C : Str) (ps fs : List Str) (fm : List Bool) : Prop where
  g : mg C = some (.ref (He.ga K C))
  ox : OexC K (He.ga K C)
  ini : PySem.W.findIn K (.ref (He.ga K C)) "__init__" = some (some (.ref (He.ma K (He.ga K C) "__init__")))
  ti : PySem.W.typeIn K (.ref (He.ma K (He.ga K C) "__init__")) = some (.type "function")
  no : ∀ f ∈ fs, PySem.W.findIn K (.ref (He.ga K C)) f = some none
  xf : XfC K (He.ga K C)
  xd : ExcC K (He.ga K C)
  fn : ∃ fd, FnOk P w K mg base (L2.CX P w) 1 (He.ma K (He.ga K C) "__init__") fd ps (spI K (He.ga K C) fs (FmtL fm)) ∧ L2.Binds K fd ps []
def fmtD : D → Prop
  | .str y => y.length ≤ 10000
  | .int i => i.natAbs < 10 ^ 560
  | _ => False
def FmtDL (fm : List Bool) (xs : List D) : Prop := ∀ p ∈ fm.zip xs, p.1 = true → fmtD p.2
theorem fmt_of {K : PySem.W.Frag} {H : Hp} {v : V} {d : D} (r : Rp K H v d) (h : fmtD d) : FmtOk v := by
  cases r with
  | str x => exact .inl ⟨x, rfl, h⟩
  | int i => exact .inr ⟨i, rfl, h⟩
  | _ => exact h.elim
theorem fmt_all {K : PySem.W.Frag} {H : Hp} : ∀ {fm : List Bool} {vs : List V} {ds : List D}, RpL K H vs ds → FmtDL fm ds → FmtL fm vs
  | [], _, _, _, _ => fun p hp => by cases hp
  | _ :: _, _, _, .nil, _ => fun p hp => by cases hp
  | b :: fm, _, _, .cons a r, h => fun p hp hb => by
    rw [List.zip_cons_cons] at hp
    rcases List.mem_cons.mp hp with e | e
    · subst e
      exact fmt_of a (h (b, _) (by rw [List.zip_cons_cons]; exact List.mem_cons_self) hb)
    · exact fmt_all r (fun q hq => h q (by rw [List.zip_cons_cons]; exact List.mem_cons_of_mem _ hq)) p e hb
theorem RpL.revd {K : PySem.W.Frag} {H : Hp} {vs : List V} {ds : List D} (r : RpL K H vs ds) : RpL K H vs.reverse ds.reverse := RpL.rev r
def dRaise (C : Str) (fs : List Str) (fm : List Bool) (RX : XD) (dA : DA) : DS := fun _ ρ G => dA ρ G fun xs G1 => xs.length = fs.length ∧ FmtDL fm xs ∧ RX C fs.reverse xs.reverse G1
section
variable {X : Cx} {B : Bs} {pos p pos2 : Pos} {e : Expr} {es : List Expr} {dA : DA}
theorem psd_raise {C : Str} {ps fs : List Str} {fm : List Bool} {RX : XD} {E : XK} (F : KnX X.prog X.w X.K X.mg X.base C ps fs fm) (hl : fs.length ≤ 900) (hc : X.calm = true) (hr : Room 2 X.A) (hg : Gl X C) (tk : Takes X fun cls d _ H => E cls d H) (kx : ∀ Hd, Ex B.b Hd → KX X.K B.f Hd RX E)
    (hx : Passes (L2.CX X.prog X.w) X fun _ _ _ => False) (ha : PA X (e :: es) (upA X.K B dA)) (hdb : (C == ("__debug__" : Str)) = false := by decide) (he : starEach (e :: es) X.env = (false, eval e X.env) :: starEach es X.env := by rfl) (hpl : (backTo pos (starEach es X.env)).any (·.1) = false := by rfl) :
    PS X (.Raise (some (.Call (.Name C p) (e :: es) [] pos)) none pos2) (upS X.K B (dRaise C fs fm RX dA)) := by
  obtain ⟨fd, F1, hb⟩ := F.fn
  refine ps_imp (ps_raise hc tk (pmk_oex F.ox F.ini F.ti F1 hr hb .nil hx hg F.g ha hdb he hpl)) ?_
  rintro D σ H ⟨ρ, Hd, G, En, at_, h, k⟩
  refine ⟨ρ, Hd, G, _, at_, h, fun vs H1 Hd1 xs G1 e1 s1 r1 ⟨hl1, hf, hR⟩ => ?_⟩
  have hlv : vs.length = fs.length := by rw [r1.length, hl1]
  refine ⟨by omega, fun a ha => ?_⟩
  refine ⟨a, vs, by rw [List.append_nil], hlv, F.ox, F.no, upd_same, fmt_all r1 hf, fun d hd ne => ⟨rfl, d, (fs.zip vs).reverse, upd_same, by unfold finX; rw [upd_ne ne, upd_same], ?_, ?_⟩⟩
  · rw [upd_ne ne] at hd
    exact hd
  · have hd1 : H1 d = none := by
      rw [upd_ne ne] at hd
      exact hd
    have eH : upd (del (finX (He.ga X.K C) a d (fs.zip vs).reverse (upd H1 a (exo a (He.ga X.K C) none))) a) d (.xd (fs.zip vs).reverse) = upd H1 d (.xd (fs.zip vs).reverse) := by
      funext b
      by_cases q : b = d
      · subst q
        rw [upd_same, upd_same]
      · rw [upd_ne q, upd_ne q]
        by_cases q2 : b = a
        · subst q2
          rw [del_same, ha]
        · rw [del_ne q2]
          unfold finX
          rw [upd_ne q2, upd_ne q, upd_ne q2]
    rw [eH]
    have ez : (fs.zip vs).reverse = fs.reverse.zip vs.reverse := by
      rw [List.zip_eq_zipWith, List.zip_eq_zipWith, List.reverse_zipWith hlv.symm]
    rw [ez]
    exact kx Hd1 (at_.b.trans e1) C d _ Hd1 fs.reverse vs.reverse xs.reverse G1 (Ex.refl _) (s1.side hd1) upd_same (by rw [List.length_reverse, List.length_reverse, hlv]) r1.revd hR
end
end DL
namespace Held
open PySem PySem.Spec PyProof.Rows L2 DL
section
variable {X : Cx} {pins : List (Addr × Obj)} {σ : L2.St} {H : Hp} {s : Shared}
end
section
variable {X : Cx} {x n m : Str} {c : Value} {body : List Stmt} {px pn pm pa ph pos : Pos} {i j : Nat} {tb : WX → TS} {W0 : WX}
end
end Held
namespace DL
open PySem PySem.Spec PyProof.Rows L2 Evl Held
variable [TabC]
section
variable {X : Cx} {B : Bs} {x n m : Str} {c : Value} {e : Expr} {px pn pm pa pe ph pos : Pos} {i j : Nat} {dX : XD → DE} {cs : List Str}
end
structure IsC (K : PySem.W.Frag) (mg : Str → Option Value) (es : List Str) (sub : Str → Str → Bool) (fl : List Str) : Prop where
  e : ∀ C ∈ es, ∀ D ∈ es, PySem.W.kitOne K (.ref (He.ga K C)) (.ref (He.ga K D)) = some (sub C D)
  t : ∀ t ∈ ["NoneType", "bool", "int", "str", "tuple", "list", "dict"], ∀ D ∈ es, PySem.W.kitOne K (.type t) (.ref (He.ga K D)) = some false
  m : ∀ C ∈ es, ∀ D ∈ es, PySem.W.exmOne K (.ref (He.ga K C)) (.ref (He.ga K D)) = some (sub C D)
  x : ∀ C ∈ es, ExcC K (He.ga K C)
  f : ∀ C ∈ es, XfC K (He.ga K C)
  n : ∀ C ∈ es, ∀ f ∈ fl, PySem.W.findIn K (.ref (He.ga K C)) f = some none
  g : ∀ C ∈ es, mg C = some (.ref (He.ga K C))
theorem excB_ok {K : PySem.W.Frag} {C : Addr} (h : excB K C = true) : XfC K C ∧ ExcC K C := by
  obtain ⟨h1, h⟩ := He.ba h
  obtain ⟨h2, h⟩ := He.ba h
  obtain ⟨h3, h⟩ := He.ba h
  obtain ⟨h4, h5⟩ := He.ba h
  have xf := xfB_ok h1
  exact ⟨xf, ⟨xf.ga, xf.gg, xf.exC, xf.hdC, He.eqO_ok h2, He.eqO_ok h3, of_decide_eq_true h4, of_decide_eq_true h5⟩⟩
theorem isB_ok {K : PySem.W.Frag} {h : Heap} {mg : Str → Option Value} {es : List Str} {sub : Str → Str → Bool} {fl : List Str} (X : K.In h) (G : h.Ns mainGlobals mg) (b : isB K es sub fl = true) : IsC K mg es sub fl := by
  have key := List.all_eq_true.mp b
  refine ⟨fun C hC D hD => ?_, fun t ht C hC => ?_, fun C hC D hD => ?_, fun C hC => ?_, fun C hC => ?_, fun C hC f hf => ?_, fun C hC => ?_⟩ <;> obtain ⟨h1, z⟩ := He.ba (key C hC) <;> obtain ⟨h2, z⟩ := He.ba z <;> obtain ⟨h3, z⟩ := He.ba z <;> obtain ⟨h4, h5⟩ := He.ba z
  · exact of_decide_eq_true (He.ba (List.all_eq_true.mp h5 D hD)).1
  · exact of_decide_eq_true (List.all_eq_true.mp h4 t ht)
  · exact of_decide_eq_true (He.ba (List.all_eq_true.mp h5 D hD)).2
  · exact (excB_ok h2).2
  · exact (excB_ok h2).1
  · exact He.eqO_ok (List.all_eq_true.mp h3 f hf)
  · exact PySem.W.mg_of X G (He.eqO_ok h1)
section
variable {X : Cx} {B : Bs} {pins : List (Addr × Obj)} {σ : L2.St} {H : Hp} {s : Shared} {p pos q : Pos} {e : Expr} {es : List Expr} {da : DE} {x : Str} {cl fl : List Str} {sub : Str → Str → Bool}
def isO (cl : List Str) (sub : Str → Str → Bool) (cs : List Str) (x : D) : Option Bool := match x with
  | .exc C _ _ => if C ∈ cl then some (cs.any (sub C)) else none
  | x => if x.tyn.isSome then some false else none
def dIsO (cl : List Str) (sub : Str → Str → Bool) (cs : List Str) (da : DE) : DE := fun ρ G R => da ρ G fun y G1 => ∃ b, isO cl sub cs y = some b ∧ R (.bl b) G1
def dXf (cl : List Str) (f : Str) (da : DE) : DE := fun ρ G R => da ρ G fun y G1 => ∃ C ns xs z, y = .exc C ns xs ∧ C ∈ cl ∧ (ns.zip xs).lookup f = some z ∧ R z G1
theorem rpl_lookup {K : PySem.W.Frag} {H : Hp} {f : Str} {z : D} : ∀ {ns : List Str} {vs : List V} {xs : List D}, RpL K H vs xs → (ns.zip xs).lookup f = some z → ∃ v, (ns.zip vs).lookup f = some v ∧ Rp K H v z
  | [], _, _, _, h => by cases h
  | _ :: _, _, _, .nil, h => by cases h
  | n :: ns, _, _, .cons (v := v) a b, h => by
    rw [List.zip_cons_cons, List.lookup_cons] at h
    rw [List.zip_cons_cons, List.lookup_cons]
    cases q : (f == n) with
    | true =>
      rw [q] at h
      cases h
      exact ⟨v, rfl, a⟩
    | false =>
      rw [q] at h
      exact rpl_lookup b h
end
end DL
namespace Act
open PySem PySem.Spec PySem.Calls PyProof.Rows L2 LamX PySem.W
section
variable {X : Cx} {pins : List (Addr × Obj)} {σ : L2.St} {H HZ : Hp} {s s1 : Shared} {c P : Addr} {params : Arguments} {body : Expr} {scope : Scope} {pos : Pos} {bs : List Str} {f c' : Addr}
abbrev lq (X : Cx) : Str := X.env.qual ++ "<lambda>"
abbrev lcl (X : Cx) (scope : Scope) : List (Str × Addr) := cloFrom X.env.cells scope.names []
theorem made {dV : Value} {Q E : Value → Shared → Prop} (I : Inv X pins σ H s) (tb : TabB X.base X.mg c P) (hcode : X.env.code = .ref c) (ht : TabS H P (lq X)) (hfree : ∀ y ∈ scope.names, y.2 = .free → ∃ u, X.env.cells.lookup y.1 = some u)
    (h : ∀ (f c' : Addr) (doc pm ctv : Value) (H1 : Hp) (s1 : Shared), Inv X pins σ H1 s1 → LamH H H1 P (lq X) → (∀ b, H b = none → b < s.heap.objs.size → H1 b = none) → (∀ b o, b ≠ P → s.heap.get? b = some o → s1.heap.get? b = some o) →
      s1.heap.get? f = some (kdv_obj "<lambda>" (lq X) params (.expr body) scope (lcl X scope) dV doc pm c' ctv) → H1 f = none → f ∉ frs X.stack → H1 c' = some (CodeO c' (lq X)) → Q (.ref f) s1) :
    wpAny (model X.prog X.w) X.A (makeTail "<lambda>" (lq X) params (.expr body) scope X.env dV .none none pos pos.line) Q E s := by
  obtain ⟨ps, gP, tr, am⟩ := ht
  have gP2 : s.heap.get? P = some { cls := .none, data := .fields ps } := I.hok P _ gP
  have bP := tb.bm.keeps I.bk
  have far : ∀ {b : Addr}, s.heap.objs.size ≤ b → b ∉ frs X.stack := fun {b} hb z => (List.mem_cons.mp (I.stkSub b z)).elim (fun e => by
    have l := I.lt
    rw [← e] at l
    exact absurd l (Nat.not_lt.mpr hb)) (I.nofs hb)
  cases am2 : codeAmong pos ps.toList with
  | some cv =>
    obtain ⟨c', rfl, hc'⟩ := am pos cv am2
    refine kdv_makeTailHit (mg := X.mg) (c := c) (P := P) (ps := ps) (closure_ok hfree) I.ok.glob (I.mod.glob.keeps I.bk) hcode (tb.code.keeps I.bk) gP2 tr am2 bP fun ctv doc h' tk kp sz => ?_
    exact h h'.objs.size c' doc _ ctv H _ (I.kept (t' := tk) fun b o e => Heap.get?_push_of_some _ (kp b o e)) ⟨fun _ _ _ e => e, ps, gP, tr, am⟩ (fun _ e _ => e) (fun b o _ e => Heap.get?_push_of_some _ (kp b o e)) (Heap.get?_push_size _ rfl) (I.hok.fresh sz) (far sz) hc'
  | none =>
    refine kdv_makeTail (mg := X.mg) (c := c) (P := P) (ps := ps) (closure_ok hfree) I.ok.glob (I.mod.glob.keeps I.bk) hcode (tb.code.keeps I.bk) gP2 tr am2 tb.gP bP fun c' ctv doc h' tk but ge lt rec_ new => ?_
    obtain ⟨_, oc, us, t, e2, k1, k2, k3⟩ := rec_
    cases e2
    have sz : s.heap.objs.size ≤ h'.objs.size := Nat.le_trans ge (Nat.le_of_lt lt)
    have n1 : H c' = none := I.hok.fresh ge
    have cP : c' ≠ P := fun z => by
      rw [← z, n1] at gP
      cases gP
    have stays : ∀ b o, b ≠ P → H b = some o → upd (upd H P (.tbl (ps ++ #[rawInt pos.line, rawInt pos.col, .ref c']))) c' (CodeO c' (lq X)) b = some o := fun b o hb e => by
      rw [upd_ne (fun z => by rw [z, n1] at e; cases e), upd_ne hb]
      exact e
    have J := inv_table (t' := tk) (more := #[rawInt pos.line, rawInt pos.col, .ref c']) (c := c') (q := lq X) (h' := h'.push (kdv_obj "<lambda>" (lq X) params (.expr body) scope (lcl X scope) dV doc ((X.mg "__name__").getD .none) c' ctv)) I gP
      (fun b o hb e => Heap.get?_push_of_some _ (but b o hb e)) (Heap.get?_push_of_some _ new) ge ⟨oc, us, t, Heap.get?_push_of_some _ k1, k2, k3⟩
    have app : (ps ++ #[rawInt pos.line, rawInt pos.col, .ref c']).toList = ps.toList ++ [rawInt pos.line, rawInt pos.col, .ref c'] := by simp
    have lP : P < s.heap.objs.size := Heap.lt_size gP2
    refine h h'.objs.size c' doc _ ctv _ _ J ⟨stays, ps ++ #[rawInt pos.line, rawInt pos.col, .ref c'], ?_, ?_, fun p2 cv hcv => ?_⟩ (fun b e hb => ?_) (fun b o hb e => Heap.get?_push_of_some _ (but b o hb e)) (Heap.get?_push_size _ rfl) ?_ (far sz) upd_same
    · rw [upd_ne cP.symm, upd_same]
    · rw [app]
      exact PySem.TriplesOk_snoc _ _ _ _ tr
    · rw [app] at hcv
      rcases among_app _ tr hcv with z | z
      · obtain ⟨c0, e1, e2⟩ := am p2 cv z
        refine ⟨c0, e1, stays _ _ (fun y => ?_) e2⟩
        rw [y, gP] at e2
        exact codeO_ne ps (Option.some.inj e2).symm
      · exact ⟨c', z, upd_same⟩
    · have y1 : b ≠ c' := fun z => by
        rw [z] at hb
        exact absurd hb (Nat.not_lt.mpr ge)
      have y2 : b ≠ P := fun z => by
        rw [z, gP] at e
        cases e
      rw [upd_ne y1, upd_ne y2]
      exact e
    · have y1 : h'.objs.size ≠ c' := Nat.ne_of_gt lt
      have y2 : h'.objs.size ≠ P := Nat.ne_of_gt (Nat.lt_of_lt_of_le lP sz)
      rw [upd_ne y1, upd_ne y2]
      exact I.hok.fresh sz
end
end Act
namespace DL
open PySem PySem.Spec PyProof.Rows L2 Evl Act
variable [TabC]
abbrev ActD := Gm → KD → XD → Prop
section
variable {X : Cx} {B : Bs} {p lpos pos : Pos} {x a : Str} {st : Stmt} {N bs : List Str} {TT : ActD → Gm → KD → Prop} {params : Arguments} {body : Expr} {scope : Scope} {c P : Addr} {dE : XD → DE} {k kl n : Nat}
end
end DL
namespace DL
open PySem PySem.Spec PyProof.Rows L2 Evl Sup
variable [TabC]
theorem tabOkB_ok {K : PySem.W.Frag} (h : tabOkB K = true) : TabOk K := fun p hp r hr e => by
  have z := List.all_eq_true.mp (List.all_eq_true.mp h p hp) r hr
  rw [e] at z
  simpa using z
theorem SaysE.tabF {q : Ask} {w : World} {h : Heap} {K : PySem.W.Frag} (c : SaysE q w h K) (X : K.In h) (e : TabC.tf = q.tf) (b : tabOkB K = true) : TabF K h := by
  have mem : ∀ n ∈ TabC.tf, ((n, none) : He.Defn) ∈ q.tfn := fun n hn => by
    rw [e] at hn
    exact List.mem_map_of_mem hn
  exact ⟨tabOkB_ok b, fun n hn => c.x.empty _ (mem n hn), fun n hn => c.x.out _ (mem n hn), fun n hn => PySem.W.codeHd_of_K X (c.x.hd _ (mem n hn))⟩
end DL
namespace DL
open PySem PySem.Spec PyProof.Rows L2 Evl
variable [TabC]
def fMulL (x y z : D) : Prop := ∃ ds i, x = .lst ds ∧ y = .int i ∧ ds.length * i.toNat ≤ sizeLine ∧ -1000000000 ≤ i ∧ i ≤ 1000000000 ∧ z = .lst (List.replicate i.toNat ds).flatten
theorem RpL.rep {K : PySem.W.Frag} {H : Hp} {vs : List V} {ds : List D} (r : RpL K H vs ds) : ∀ n : Nat, RpL K H (List.replicate n vs).flatten (List.replicate n ds).flatten
  | 0 => .nil
  | n + 1 => by
    rw [List.replicate_succ, List.replicate_succ, List.flatten_cons, List.flatten_cons]
    exact r.app (RpL.rep r n)
theorem rep_one {x : D} : ∀ n : Nat, (List.replicate n [x]).flatten = List.replicate n x
  | 0 => rfl
  | n + 1 => by
    rw [List.replicate_succ, List.replicate_succ, List.flatten_cons, rep_one n]
    rfl
theorem Ev.mulL {ρ : En} {G : Gm} {da db : DE} {x : D} {n : Nat} (ha : Ev da ρ G (.lst [x])) (hb : Ev db ρ G (.int n)) (hz : n ≤ 10000000) : Ev (dOp fMulL da db) ρ G (.lst (List.replicate n x)) :=
  .op ha hb ⟨[x], n, rfl, rfl, by rw [sizeLine_eq, Int.toNat_natCast]; show 1 * n ≤ _; omega, by omega, by omega, by rw [Int.toNat_natCast, rep_one]⟩
end DL
namespace DL
open PySem PySem.Spec PyProof.Rows L2 Evl
variable [TabC]
section
variable {ρ : En} {G : Gm} {da : DE} {dA : DA} {E : DEnds}
end
theorem seq_is {x : D} (h : isSeqD x = true) : x = .tup (seqL x) ∨ x = .lst (seqL x) := by
  cases x <;> first | exact .inl rfl | exact .inr rfl | cases h
theorem all_map (f : D → Bool) : ∀ ds : List D, (ds.map f).all id = ds.all f
  | [] => rfl
  | d :: ds => by
    rw [List.map_cons, List.all_cons, List.all_cons, all_map f ds]
    rfl
theorem Ev.isO {ρ : En} {G : Gm} {da : DE} {cl cs : List Str} {sub : Str → Str → Bool} {y : D} {b : Bool} (ha : Ev da ρ G y) (h : isO cl sub cs y = some b) : Ev (dIsO cl sub cs da) ρ G (.bl b) := fun R r => ha _ ⟨b, h, r⟩
theorem Ev.xf {ρ : En} {G : Gm} {da : DE} {cl : List Str} {f C : Str} {ns : List Str} {xs : List D} {z : D} (ha : Ev da ρ G (.exc C ns xs)) (hC : C ∈ cl) (h : (ns.zip xs).lookup f = some z) : Ev (dXf cl f da) ρ G z := fun R r => ha _ ⟨C, ns, xs, z, rfl, hC, h, r⟩
theorem isO_exc {C : Str} {cl cs ns : List Str} {sub : Str → Str → Bool} {xs : List D} (h : C ∈ cl) : isO cl sub cs (.exc C ns xs) = some (cs.any (sub C)) := if_pos h
end DL
namespace DL
open PySem PySem.Spec PyProof.Rows L2 Evl
variable [TabC]
section
variable {X : Cx} {B : Bs} {pos p : Pos} {e : Expr} {es : List Expr} {dA : DA}
end
end DL
namespace DL
open PySem PySem.Spec PyProof.Rows L2 Evl
variable [TabC]
def CDivZ (_ j : Int) : Prop := j ≠ 0 ∧ j.natAbs.log2 < 9000
theorem op_fdivZ {X : Cx} : OpR X (binaryOp .FloorDiv) (rI CDivZ fun i j => .int (Int.fdiv i j)) := opI fun i j _ _ _ _ _ hc q => floordiv_int hc.1 q (.inl (PyProof.noPylong_of_log2 hc.2))
theorem pd_fdivZ {X : Cx} {B : Bs} {pos : Pos} {a b : Expr} {da db : DE} (ha : PE X a (upE X.K B da)) (hb : PE X b (upE X.K B db)) : PE X (.BinOp a .FloorDiv b pos) (upE X.K B (dOp (fIntC CDivZ fun i j => .int (Int.fdiv i j)) da db)) := pd_op op_fdivZ od_intC ha hb
theorem divZ_ok {i j : Int} (h : j ≠ 0) (hb : j.natAbs < 2 ^ 8000) : CDivZ i j := ⟨h, Nat.lt_of_lt_of_le (PySem.Flt.log2_lt_of (by decide) hb) (by decide)⟩
def lowZR : DS := (dSeq (dSet 2 (dIf (dTst (dOp (fInt gGt) (dVar 1) (dC (.int 0)))) (dCall sp_common X0 (dCons (dVar 0) (dCons (dVar 1) dNil))) (dNeg (dCall sp_common X0 (dCons (dVar 0) (dCons (dVar 1) dNil)))))) (dRet (dIf (dTst (dOp fEq (dOp (fIntC CDivZ fun i j => .int (Int.fdiv i j)) (dVar 1) (dVar 2)) (dC (.int 1)))) (dOp (fIntC CDivZ fun i j => .int (Int.fdiv i j)) (dVar 0) (dVar 2)) (dTup (dCons (dOp (fIntC CDivZ fun i j => .int (Int.fdiv i j)) (dVar 0) (dVar 2)) (dCons (dOp (fIntC CDivZ fun i j => .int (Int.fdiv i j)) (dVar 1) (dVar 2)) dNil))))))
theorem Ev.divZ {ρ : En} {G : Gm} {da db : DE} {i j k : Int} (ha : Ev da ρ G (.int i)) (hb : Ev db ρ G (.int j)) (hc : CDivZ i j) (e : i = j * k) : Ev (dOp (fIntC CDivZ fun i j => .int (Int.fdiv i j)) da db) ρ G (.int k) := by
  have q : Int.fdiv i j = k := by
    rw [e]
    exact Int.mul_fdiv_cancel_left k hc.1
  have r := Ev.intC (C := CDivZ) (g := fun i j => .int (Int.fdiv i j)) ha hb hc
  rw [q] at r
  exact r
theorem lowZ_ok (xs : List D) (G : Gm) (R : KD) (RX : XD) (h : sp_lowZ xs G R RX) : lowZR { nx := fun _ G => R .non G, rt := R } (xs.map some ++ List.replicate (3 - xs.length) none) G := by
  obtain ⟨a, u, rfl, hu, hu2, h⟩ := h
  obtain ⟨n, d, s0, sl, ea, eu, d0, g1, l1⟩ := lowZ_facts (a := a) hu
  have cz : ∀ i, CDivZ i (sgZ a u) := fun i => divZ_ok s0 (Nat.lt_of_le_of_lt sl hu2)
  refine ds_set (x := .int (sgZ a u)) ?_ ?_
  · by_cases hp : 0 < u
    · rw [show sgZ a u = (Int.gcd a u : Int) from if_pos hp]
      exact .ifT ((EvT.tst (.gt (.var rfl) .c)).cast (decide_eq_true hp)) (.common (.var rfl) (.var rfl))
    · rw [show sgZ a u = -(Int.gcd a u : Int) from if_neg hp]
      exact .ifF ((EvT.tst (.gt (.var rfl) .c)).cast (decide_eq_false hp)) (.neg (.common (.var rfl) (.var rfl)))
  · rw [l1] at h
    generalize sgZ a u = s at *
    refine ds_ret (x := pairZ n d) (.chosen (.tst (.eqI (.divZ (.var rfl) (.var rfl) (cz u) eu) .c)) (fun hk => ?_) fun hk => ?_) h
    · unfold pairZ
      rw [if_pos (of_decide_eq_true hk)]
      exact .divZ (.var rfl) (.var rfl) (cz a) ea
    · unfold pairZ
      rw [if_neg (of_decide_eq_false hk)]
      exact .tup (.cons (.divZ (.var rfl) (.var rfl) (cz a) ea) (.one (.divZ (.var rfl) (.var rfl) (cz u) eu))) (show 2 ≤ sizeLine by decide)
end DL
namespace DL
open PySem PySem.Spec PyProof.Rows L2 Evl
variable [TabC]
theorem lowZ_cop {p q : Int} (hq : 0 < q) (hg : Int.gcd p q = 1) : lowZ p q = pairZ p q := by
  obtain ⟨n, d, s0, _, ea, eu, d0, g1, l1⟩ := lowZ_facts (a := p) (show q ≠ 0 by omega)
  have es : sgZ p q = 1 := (if_pos hq).trans (by rw [hg]; rfl)
  rw [es, Int.one_mul] at ea eu
  rw [l1, ← ea, ← eu]
def plusZ (x y : D) : D := lowZ ((numI x).1 * (numI y).2 + (numI y).1 * (numI x).2) ((numI x).2 * (numI y).2)
def timesZ (x y : D) : D := lowZ ((numI x).1 * (numI y).1) ((numI x).2 * (numI y).2)
def overZ (x y : D) : D := lowZ ((numI x).1 * (numI y).2) ((numI x).2 * (numI y).1)
def sp_2 (k : Nat) (f : D → D → D) : DSp := fun xs G R _ => ∃ x y : D, xs = [x, y] ∧ numD x = true ∧ numD y = true ∧ Bn k x ∧ Bn k y ∧ R (f x y) G
def halvesA (t : DS) : DS := (dSeq (dAsg (dTup (dCons (dCall sp_halves X0 (dCons (dVar 0) dNil)) (dCons (dCall sp_halves X0 (dCons (dVar 1) dNil)) dNil))) (gSeq 2 (gCons (gSeq 2 (gCons (gN 2) (gCons (gN 3) gNil))) (gCons (gSeq 2 (gCons (gN 4) (gCons (gN 5) gNil))) gNil)))) t)
theorem halvesA_ok {x y : D} {t : DS} {E : DEnds} {G : Gm} (nx : numD x = true) (ny : numD y = true) (h : t E [some x, some y, some (.int (numI x).1), some (.int (numI x).2), some (.int (numI y).1), some (.int (numI y).2)] G) : halvesA t E [some x, some y, none, none, none, none] G := by
  obtain ⟨ex, px⟩ := num_half nx
  obtain ⟨ey, py⟩ := num_half ny
  refine ds_asg (.tup (.cons (.halves (.var rfl) nx) (.one (.halves (.var rfl) ny))) (show 2 ≤ sizeLine by decide)) ?_
  rw [ex, ey]
  refine ⟨_, seq_tup, rfl, _, _, rfl, ⟨_, seq_tup, rfl, _, _, rfl, _, _, rfl, rfl, ?_⟩⟩
  refine ⟨_, _, rfl, ⟨_, seq_tup, rfl, _, _, rfl, _, _, rfl, rfl, ?_⟩⟩
  exact ⟨rfl, h⟩
theorem bn_mul {x y : Int} (hx : x.natAbs < 2 ^ 3000) (hy : y.natAbs < 2 ^ 3000) : (x * y).natAbs < 2 ^ 8000 := by
  rw [Int.natAbs_mul]
  refine Nat.lt_of_lt_of_le (Nat.mul_lt_mul'' hx hy) ?_
  rw [← Nat.pow_add]
  exact Nat.pow_le_pow_right (by decide) (by decide)
def plusZR : DS := halvesA (dRet (dCall sp_lowZ X0 (dCons (dOp fAdd (dOp (fIntC IntMulOk fun i j => .int (i * j)) (dVar 2) (dVar 5)) (dOp (fIntC IntMulOk fun i j => .int (i * j)) (dVar 4) (dVar 3))) (dCons (dOp (fIntC IntMulOk fun i j => .int (i * j)) (dVar 3) (dVar 5)) dNil))))
theorem plusZ_ok (xs : List D) (G : Gm) (R : KD) (RX : XD) (h : sp_2 3000 plusZ xs G R RX) : plusZR { nx := fun _ G => R .non G, rt := R } (xs.map some ++ List.replicate (6 - xs.length) none) G := by
  obtain ⟨x, y, rfl, nx, ny, bx, by_, h⟩ := h
  have px := (num_half nx).2
  have py := (num_half ny).2
  refine halvesA_ok nx ny ?_
  exact ds_ret (.lowZ (.add (.mul (.var rfl) (.var rfl) (mul_both bx.1 by_.2 (by decide))) (.mul (.var rfl) (.var rfl) (mul_both by_.1 bx.2 (by decide)))) (.mul (.var rfl) (.var rfl) (mul_both bx.2 by_.2 (by decide))) (Int.mul_ne_zero (by omega) (by omega)) (bn_mul bx.2 by_.2)) h
def timesZR : DS := halvesA (dRet (dCall sp_lowZ X0 (dCons (dOp (fIntC IntMulOk fun i j => .int (i * j)) (dVar 2) (dVar 4)) (dCons (dOp (fIntC IntMulOk fun i j => .int (i * j)) (dVar 3) (dVar 5)) dNil))))
theorem timesZ_ok (xs : List D) (G : Gm) (R : KD) (RX : XD) (h : sp_2 3000 timesZ xs G R RX) : timesZR { nx := fun _ G => R .non G, rt := R } (xs.map some ++ List.replicate (6 - xs.length) none) G := by
  obtain ⟨x, y, rfl, nx, ny, bx, by_, h⟩ := h
  have px := (num_half nx).2
  have py := (num_half ny).2
  refine halvesA_ok nx ny ?_
  exact ds_ret (.lowZ (.mul (.var rfl) (.var rfl) (mul_both bx.1 by_.1 (by decide))) (.mul (.var rfl) (.var rfl) (mul_both bx.2 by_.2 (by decide))) (Int.mul_ne_zero (by omega) (by omega)) (bn_mul bx.2 by_.2)) h
def sp_overZ : DSp := fun xs G R _ => ∃ x y : D, xs = [x, y] ∧ numD x = true ∧ numD y = true ∧ Bn 3000 x ∧ Bn 3000 y ∧ (numI y).1 ≠ 0 ∧ R (overZ x y) G
def overZR : DS := halvesA (dRet (dCall sp_lowZ X0 (dCons (dOp (fIntC IntMulOk fun i j => .int (i * j)) (dVar 2) (dVar 5)) (dCons (dOp (fIntC IntMulOk fun i j => .int (i * j)) (dVar 3) (dVar 4)) dNil))))
theorem overZ_ok (xs : List D) (G : Gm) (R : KD) (RX : XD) (h : sp_overZ xs G R RX) : overZR { nx := fun _ G => R .non G, rt := R } (xs.map some ++ List.replicate (6 - xs.length) none) G := by
  obtain ⟨x, y, rfl, nx, ny, bx, by_, hy, h⟩ := h
  have px := (num_half nx).2
  refine halvesA_ok nx ny ?_
  exact ds_ret (.lowZ (.mul (.var rfl) (.var rfl) (mul_both bx.1 by_.2 (by decide))) (.mul (.var rfl) (.var rfl) (mul_both bx.2 by_.1 (by decide))) (Int.mul_ne_zero (by omega) hy) (bn_mul bx.2 by_.1)) h
end DL
namespace DL
open PySem PySem.Spec PyProof.Rows L2 Evl
variable [TabC]
end DL
namespace DL
open PySem PySem.Spec PyProof.Rows L2 Evl
variable [TabC]
end DL
namespace DL
open PySem PySem.Spec PyProof.Rows L2 Evl
variable [TabC]
theorem Cz.self {k : Nat} {x : D} (h : Cz k x) : lowZ (numI x).1 (numI x).2 = x := by
  obtain ⟨n, d, rfl, d0, g, _⟩ := h
  rw [numI_pair]
  exact lowZ_cop d0 g
theorem Cz.kept {k : Nat} {x : D} (h : Cz k x) : keptD x = x := by
  obtain ⟨n, d, rfl, _⟩ := h
  unfold pairZ
  split <;> rfl
section
variable {a b c d : Int} {X Y F S : D}
end
end DL
namespace DL
open PySem PySem.Spec PyProof.Rows L2 Evl
section
variable {M : Model} {A : Around} {E : Value → Shared → Prop} {s : Shared} {base : Heap} {env : Env} {outer l : List Env} {L e : Addr} {Z : Obj → Prop}
end
section
variable {X : Cx}
end
end DL
namespace DL
open PySem PySem.Spec PyProof.Rows L2 Evl
variable [TabC]
section
variable {X : Cx} {B : Bs} {pos p : Pos} {a b c e : Expr} {es : List Expr} {da db dc de : DE} {dA : DA} {ta tb : DT}
end
end DL
namespace DL
open PySem PySem.Spec PyProof.Rows L2 Evl
variable [TabC]
def putNs (f : Str) : List Str → List Str
  | [] => [f]
  | g :: r => if g = f then g :: r else g :: putNs f r
def putXs {α : Type} (f : Str) (z : α) : List Str → List α → List α
  | [], _ => [z]
  | _ :: _, [] => []
  | g :: r, x :: xs => if g = f then z :: xs else x :: putXs f z r xs
theorem putF_zip {f : Str} {v : V} : ∀ {ns : List Str} {vs : List V}, ns.length = vs.length → putF f v (ns.zip vs) = (putNs f ns).zip (putXs f v ns vs)
  | [], [], _ => rfl
  | g :: r, x :: xs, h => by
    show (if g = f then (g, v) :: r.zip xs else (g, x) :: putF f v (r.zip xs)) = _
    unfold putNs putXs
    by_cases q : g = f
    · rw [if_pos q, if_pos q, if_pos q]
      rfl
    · rw [if_neg q, if_neg q, if_neg q, putF_zip (by simpa using h)]
      rfl
theorem put_len {α : Type} {f : Str} {z : α} : ∀ {ns : List Str} {xs : List α}, ns.length = xs.length → (putNs f ns).length = (putXs f z ns xs).length
  | [], [], _ => rfl
  | g :: r, x :: xs, h => by
    unfold putNs putXs
    by_cases q : g = f
    · rw [if_pos q, if_pos q]
      simpa using h
    · rw [if_neg q, if_neg q, List.length_cons, List.length_cons, put_len (by simpa using h)]
theorem RpL.put {K : PySem.W.Frag} {H : Hp} {f : Str} {v : V} {z : D} (hz : Rp K H v z) : ∀ {ns : List Str} {vs : List V} {xs : List D}, RpL K H vs xs → RpL K H (putXs f v ns vs) (putXs f z ns xs)
  | [], _, _, _ => .cons hz .nil
  | _ :: _, _, _, .nil => .nil
  | g :: r, _, _, .cons a b => by
    unfold putXs
    by_cases q : g = f
    · rw [if_pos q, if_pos q]
      exact .cons hz b
    · rw [if_neg q, if_neg q]
      exact .cons a (RpL.put hz b)
def hasF (cl : ClT) (C f : Str) : Bool := cl.any fun p => p.1 == C && p.2.contains f
theorem OwC.fld {K : PySem.W.Frag} {mg : Str → Option Value} {cl : ClT} {sub : Str → Str → Bool} (T : OwC K mg cl sub) {C f : Str} (h : hasF cl C f = true) : L2.Cls K (He.ga K C) ∧ NoAttr K (He.ga K C) f := by
  obtain ⟨p, hp, q⟩ := List.any_eq_true.mp h
  obtain ⟨q1, q2⟩ := Bool.and_eq_true_iff.mp q
  have e := beq_iff_eq.mp q1
  subst e
  exact ⟨T.c p hp, T.n p hp f (List.contains_iff_mem.mp q2)⟩
theorem owB_ok {K : PySem.W.Frag} {h : Heap} {mg : Str → Option Value} {cl : ClT} {sub : Str → Str → Bool} (X : K.In h) (G : h.Ns mainGlobals mg) (b : owB K cl sub = true) : OwC K mg cl sub := by
  obtain ⟨b1, b⟩ := He.ba b
  obtain ⟨b2, b⟩ := He.ba b
  have key := List.all_eq_true.mp b
  refine ⟨fun p hp => ?_, fun p hp => ?_, fun p hp f hf => ?_, fun p hp => ?_, He.eqO_ok b1, of_decide_eq_true b2, fun p hp => ?_, fun p hp q hq => ?_, fun t ht p hp => ?_⟩ <;> obtain ⟨h1, z⟩ := He.ba (key p hp) <;> obtain ⟨h2, z⟩ := He.ba z <;> obtain ⟨h3, z⟩ := He.ba z <;> obtain ⟨h4, z⟩ := He.ba z <;> obtain ⟨h5, z⟩ := He.ba z <;> obtain ⟨h6, h7⟩ := He.ba z
  · exact He.glo_ok X G h1
  · exact He.cls_ok h2
  · exact He.noat_ok (List.all_eq_true.mp h3 f hf)
  · exact He.eqO_ok h4
  · exact of_decide_eq_true h5
  · exact of_decide_eq_true (List.all_eq_true.mp h7 q hq)
  · exact of_decide_eq_true (List.all_eq_true.mp h6 t ht)
def dFld (cl : ClT) (f : Str) (da : DE) : DE := fun ρ G R => da ρ G fun y G1 => ∃ C ns xs z, InsAt G1 y C ns xs ∧ hasF cl C f = true ∧ (ns.zip xs).lookup f = some z ∧ R z G1
def dSetF (cl : ClT) (f : Str) (dv dobj : DE) : DS := fun E ρ G => dv ρ G fun z G1 => dobj ρ G1 fun y G2 => ∃ a C ns xs, y = .ref a ∧ G2 a = some (.ins C ns xs) ∧ hasF cl C f = true ∧ ns.length < 1000 ∧ E.nx ρ (gup G2 a (.ins C (putNs f ns) (putXs f z ns xs)))
section
variable {X : Cx} {B : Bs} {p pos pos' q : Pos} {e o value : Expr} {es : List Expr} {da dv dobj : DE} {dA : DA} {cl : ClT} {sub : Str → Str → Bool} {x f : Str}
theorem pd_fld (T : OwC X.K X.mg cl sub) (ha : PE X e (upE X.K B da)) (hb : attributeBase e f X.env (eval e X.env) = eval e X.env := by rfl) : PE X (.Attribute e f pos) (upE X.K B (dFld cl f da)) :=
  pe_imp (pe_fld ha hb) fun σ H Q ⟨ρ, Hd, G, R, at_, h, k⟩ =>
    ⟨ρ, Hd, G, _, at_, h, fun v H1 Hd1 y G1 e1 s1 r1 ⟨C, ns, xs, z, hi, hf, hl, hr⟩ => by
      obtain ⟨a, dx, vs, rfl, ha, hlen, rl⟩ := hi.heap s1 r1
      obtain ⟨w, ew, rw_⟩ := rpl_lookup rl hl
      obtain ⟨c, n⟩ := T.fld hf
      exact ⟨a, _, dx, _, w, rfl, ha, c, n, ew, k w H1 Hd1 z G1 e1 s1 rw_ hr⟩⟩
theorem psd_setF (T : OwC X.K X.mg cl sub) (ha : PE X o (upE X.K B dobj)) (hv : PE X value (upE X.K B dv)) (hs : swapsWith value (some (.Attribute o f pos')) pos.line X.env = pure false := by rfl) :
    PS X (.Assign [.Attribute o f pos'] value pos) (upS X.K B (dSetF cl f dv dobj)) := ps_imp (ps_fld ha hv hs) fun D σ H ⟨ρ, Hd, G, E, at_, h, k⟩ => by
  refine ⟨ρ, Hd, G, _, at_, h, fun v H1 Hd1 z G1 e1 s1 r1 h1 => ?_⟩
  refine ⟨ρ, Hd1, G1, fun y G2 => ∃ a C ns xs, y = .ref a ∧ G2 a = some (.ins C ns xs) ∧ hasF cl C f = true ∧ ns.length < 1000 ∧ E.nx ρ (gup G2 a (.ins C (putNs f ns) (putXs f z ns xs))), at_.step e1 s1, h1, fun w H2 Hd2 y G2 e2 s2 r2 ⟨a, C, ns, xs, ey, hg, hf, hz, hE⟩ => ?_⟩
  subst ey
  cases r2
  obtain ⟨dx, vs, h2, hl, rl⟩ := s2.hold a _ hg
  obtain ⟨c, n⟩ := T.fld hf
  refine ⟨a, He.ga X.K C, dx, ns.zip vs, rfl, h2, c, n, ?_, ?_⟩
  · rw [List.length_zip, ← hl, Nat.min_self]
    exact hz
  · refine k.nx σ _ Hd2 ρ _ (e1.trans e2) (at_.e.mono (e1.trans e2)) (s2.put (n := .ins C (putNs f ns) (putXs f z ns xs)) hg ⟨dx, putXs f v ns vs, ?_, put_len hl, RpL.put (r1.mono e2) rl⟩) hE
    rw [upd_same, putF_zip hl]
def isW (cl : ClT) (sub : Str → Str → Bool) (C : Str) (y : D) : Option Bool := match y with
  | .ins E _ _ => if hasC cl E = true then some (sub E C) else none
  | y => if y.tyn.isSome then some false else none
def dIsW (cl : ClT) (sub : Str → Str → Bool) (C : Str) (da : DE) : DE := fun ρ G R => da ρ G fun y G1 => ∃ b, isW cl sub C y = some b ∧ R (.bl b) G1
theorem is_ownW {K : PySem.W.Frag} {mg : Str → Option Value} {F : Gm} {Hd H : Hp} {G : Gm} {v : V} {y : D} {b : Bool} {C : Str} (T : OwC K mg cl sub) (hC : hasC cl C = true) (s : Sim K F Hd H G) (r : Rp K Hd v y) (h : isW cl sub C y = some b) :
    ∃ t, TyX K H v t ∧ PySem.W.kitOne K t (.ref (He.ga K C)) = some b := by
  obtain ⟨p, hp, rfl⟩ := T.mem hC
  have fin : (if y.tyn.isSome = true then some false else none) = some b → ∃ t, TyX K H v t ∧ PySem.W.kitOne K t (.ref (He.ga K p.1)) = some b := fun h => by
    cases q : y.tyn with
    | none =>
      rw [q] at h
      cases h
    | some t =>
      rw [q] at h
      cases h
      exact ⟨_, ty_of s r q, T.t t (tyn_in q) p hp⟩
  cases y with
  | ins E ns xs =>
    unfold isW at h
    dsimp only at h
    by_cases hE : hasC cl E = true
    · rw [if_pos hE] at h
      cases h
      obtain ⟨q, hq, rfl⟩ := T.mem hE
      cases r with
      | ins h1 _ _ => exact ⟨_, .base (.ins (s.sub _ _ h1) (T.c q hq) (T.a q hq) T.s T.k (T.m q hq)), T.e q hq p hp⟩
    · rw [if_neg hE] at h
      cases h
  | _ => exact fin h
theorem pd_isW {C : Str} (T : OwC X.K X.mg cl sub) (hC : hasC cl C = true) (hx : x = "isinstance") (hg : Gl X x) (hm : X.mg x = none) (hgC : Gl X C) (ha : PE X e (upE X.K B da)) (hd : (C == ("__debug__" : Str)) = false := by decide)
    (he : starEach (e :: [.Name C q]) X.env = (false, eval e X.env) :: starEach [.Name C q] X.env := by rfl) (he2 : starEach ((.Name C q) :: []) X.env = (false, eval (.Name C q) X.env) :: starEach [] X.env := by rfl) (hpl : (backTo pos (starEach [.Name C q] X.env)).any (·.1) = false := by rfl) :
    PE X (.Call (.Name x p) (e :: [.Name C q]) [] pos) (upE X.K B (dIsW cl sub C da)) := by
  subst hx
  have gC : X.mg C = some (.ref (He.ga X.K C)) := by
    obtain ⟨p, hp, rfl⟩ := T.mem hC
    exact T.g p hp
  refine pe_imp (pe_callB call_isi hg hm (by decide +kernel) (pa_cons ha (pa_cons (pe_glob (v := .ref (He.ga X.K C)) hgC gC rfl hd) pa_nil he2) he) (by decide) (by decide) he hpl) fun σ H Q ⟨ρ, Hd, G, R, at_, h, k⟩ => ?_
  refine ⟨ρ, Hd, G, _, at_, h, fun v H1 Hd1 y G1 e1 s1 r1 ⟨b, eb, hr⟩ => ?_⟩
  obtain ⟨t, ty, kt⟩ := is_ownW T hC s1 r1 eb
  exact ⟨v, _, t, _, b, rfl, .own _, ty, kt, k _ H1 Hd1 _ G1 e1 s1 (.bl b) hr⟩
end
section
variable {P : Program} {w : World} {K : PySem.W.Frag} {mg : Str → Option Value} {base : Heap}
structure DfM (K : PySem.W.Frag) (C m : Str) (st : Stmt) : Prop where
  f : ∃ fd, FunD K m (C ++ "." ++ m) (defArgs st) (defBody st) (defScope st) [] [] (He.ma K (He.ga K C) m) fd
theorem knm_of {C m : Str} {st : Stmt} {N ps : List Str} {k : Nat} {p : DSp} (F : ∃ fd, FunD K m (C ++ "." ++ m) (defArgs st) (defBody st) (defScope st) [] [] (He.ma K (He.ga K C) m) fd) (S : FnScope N ps (defScope st)) (len : ∀ xs G R RX, p xs G R RX → xs.length = ps.length)
    (hbody : ∀ (cdv : Value), cdv = .ref (cdAt K (He.ma K (He.ga K C) m)) → ∀ (A : Around) (outer : List Env) (s : Shared) (H : Hp) (E : XK) (B : Bs) (RX : XD), Room k (A.deeper (envOfC (C ++ "." ++ m) (defScope st) s.heap.objs.size (He.ma K (He.ga K C) m) cdv)) → (A.deeper (envOfC (C ++ "." ++ m) (defScope st) s.heap.objs.size (He.ma K (He.ga K C) m) cdv)).guards = some [] → KX K B.f B.b RX E →
      ∃ t : DS, PSs (cxOf (L2.CX P w) P w K mg base N (C ++ "." ++ m) (defScope st) (He.ma K (He.ga K C) m) cdv A outer s H E) (defBody st) (upS K B t) ∧ ∀ xs G R, p xs G R RX → t { nx := fun _ G => R .non G, rt := R } (xs.map some ++ List.replicate (N.length - xs.length) none) G) :
    KnM P w K mg base (k + 1) C m st ps p := by
  obtain ⟨fd, F⟩ := F
  refine ⟨fd, F, fng_of F S (fun vs H Q E h => ?_) fun cdv hcv A outer s H vs Q E hr hg h => ?_⟩
  · obtain ⟨xs, _, _, G, R, RX, r, _, hp, _⟩ := h
    rw [r.length]
    exact len xs G R RX hp
  · obtain ⟨xs, F, Hd, G, R, RX, r, sm, hp, ke, kx⟩ := h
    obtain ⟨t, ht, h2⟩ := hbody cdv hcv A outer s H E ⟨Hd, F⟩ RX hr hg kx
    refine ⟨_, ht, _, Hd, G, _, ⟨Ex.refl _, RpE.start r, sm⟩, h2 xs G R hp, ?_⟩
    exact ⟨fun σ' H' Hd' ρ' G' e _ s h => ke .non H' Hd' .non G' e s .non h, ke, fun _ _ _ _ _ _ _ _ h => h.elim, fun _ _ _ _ _ _ _ _ h => h.elim⟩
end
def dMeth (C m : Str) (q : DSp) (RX : XD) (dobj : DE) (dA : DA) : DE := fun ρ G R => dobj ρ G fun y G1 => ∃ ns xs, InsAt G1 y C ns xs ∧ (ns.zip xs).lookup m = none ∧ dA ρ G1 fun ys G2 => q (y :: ys) G2 R RX
section
variable {X : Cx} {B : Bs} {apos pos : Pos} {e o : Expr} {es : List Expr} {dobj : DE} {dA : DA} {k : Nat} {f C : Addr} {m : Str} {fd : FuncData} {ps : List Str} {sp : Sp} {E : XK} {ta : TE} {t : TA} {pl : Sem Bool}
end
theorem Sim.freezeO {K : PySem.W.Frag} {F : Gm} {Hd H : Hp} {G : Gm} (S : Sim K F Hd H G) {p : Addr} {m : Mt} {o : HO} (h : G p = some m) (hx : H p = some o) : Sim K F (upd Hd p o) H (DL.gdel G p) ∧ Ex Hd (upd Hd p o) := by
  have hd := S.off p _ h
  have hf := S.gf h
  have e : Ex Hd (upd Hd p o) := Ex.new hd
  have gd : ∀ {a : Addr} {m : Mt}, DL.gdel G p a = some m → a ≠ p ∧ G a = some m := fun {a m} q => by
    unfold DL.gdel at q
    split at q
    · cases q
    · rename_i z
      exact ⟨z, q⟩
  refine ⟨⟨fun a u q => ?_, fun a m q => ?_, fun a m q => (S.hold a m (gd q).2).mono e, fun a m q => ?_, fun a m q => (S.holdF a m q).mono e, fun a m q => ?_, S.tabs⟩, e⟩
  · by_cases z : a = p
    · subst z
      rw [upd_same] at q
      cases q
      exact hx
    · rw [upd_ne z] at q
      exact S.sub a u q
  · rw [upd_ne (gd q).1]
    exact S.off a m (gd q).2
  · rw [upd_ne (ne_g q hf)]
    exact S.offF a m q
  · unfold DL.gdel
    split
    · rfl
    · exact S.apart a m q
theorem make_guards {A : Around} {C : Addr} {us : List Value} {kw : List (Str × Value)} : (A.under (.builtin "type.__call__" ⟨.ref C :: us, kw⟩)).guards = A.guards := by
  first | rfl | simp [Around.under, Code.weight, Code.isCreation, Code.isGuard, Code.isCaller, Code.frames, Code.isFrame, guardIds]
def dMake (C : Str) (q : DSp) (RX : XD) (dA : DA) : DE := fun ρ G R => dA ρ G fun xs G1 => ∀ a, G1 a = none → q (.ref a :: xs) (gup G1 a (.ins C [] [])) (fun v G2 => v = .non ∧ ∃ ns ys, G2 a = some (.ins C ns ys) ∧ R (.ins C ns ys) (DL.gdel G2 a)) (fun D ns ys G2 => RX D ns ys (DL.gdel G2 a))
theorem make_sp {K : PySem.W.Frag} {F : Gm} {Hd H : Hp} {G : Gm} {C : Str} {q : DSp} {RX : XD} {E : XK} {R : KD} {Q : VK} {vs : List V} {xs : List D} (S : Sim K F Hd H G) (r : RpL K Hd vs xs) (ke : KE K F Hd R Q) (kx : KX K F Hd RX E)
    (h : ∀ a, G a = none → q (.ref a :: xs) (gup G a (.ins C [] [])) (fun v G2 => v = .non ∧ ∃ ns ys, G2 a = some (.ins C ns ys) ∧ R (.ins C ns ys) (DL.gdel G2 a)) (fun D ns ys G2 => RX D ns ys (DL.gdel G2 a))) :
    ∀ x dx, H x = none → H dx = none → dx ≠ x → spU K q (.ref x :: vs) (upd (upd H dx (.own x)) x (.ins (He.ga K C) dx [])) (fun v H2 => v = .non ∧ Q (.ref x) H2) E := fun x dx hx hdx ne => by
  have s1 : Sim K F Hd (upd H dx (.own x)) G := S.side hdx
  have hx1 : upd H dx (.own x) x = none := by rw [upd_ne (Ne.symm ne)]; exact hx
  have s2 := s1.cell (m := .ins C [] []) (o := .ins (He.ga K C) dx []) hx1 ⟨dx, [], upd_same, rfl, .nil⟩
  refine ⟨.ref x :: xs, F, Hd, _, _, _, .cons (.ref x) r, s2, h x (S.gfree hx), fun v H' Hd' y G' e1 s3 r3 hh => ?_, fun D d H' Hd' ns ws ys G' e1 s3 hd hl rl hR => kx D d H' Hd' ns ws ys _ e1 (s3.gdel x) hd hl rl hR⟩
  obtain ⟨rfl, ns, ys, hg, hR⟩ := hh
  cases r3
  refine ⟨rfl, ?_⟩
  obtain ⟨dx2, ws, h2, hl, rl⟩ := s3.hold x _ hg
  obtain ⟨s4, e4⟩ := s3.freezeO hg h2
  exact ke (.ref x) H' _ (.ins C ns ys) _ (e1.trans e4) s4 (.ins upd_same hl (rl.mono e4)) hR
section
variable {X : Cx} {B : Bs} {p pos : Pos} {e : Expr} {es : List Expr} {dA : DA} {k : Nat} {f : Addr} {fd : FuncData} {ps : List Str} {sp : Sp} {E : XK} {t : TA}
theorem run_makeG {C : Addr} {pins : List (Addr × Obj)} {σ : L2.St} {H : Hp} {s : Shared} {Q : VK} {us us0 : List Value} {kw : List (Str × Value)} {vs : List V} (M : L2.Mk X.K C f) (F : FnG X.prog X.w X.K X.mg X.base k f fd ps sp) (hr : Room (k + 1) X.A) (hgd : X.A.guards = some [])
    (hb : ∀ (s' : Shared) (x : Addr), X.K.In s'.heap → (Value.ref x :: us).length = ps.length → BindsTo s' fd ⟨.ref x :: us0, kw⟩ (ps.zip (.ref x :: us))) (hx : Passes (L2.CX X.prog X.w) X E) (I : Inv X pins σ H s) (r : Vals vs us)
    (h : ∀ x dx, H x = none → H dx = none → dx ≠ x → sp (.ref x :: vs) (upd (upd H dx (.own x)) x (.ins C dx [])) (fun v H2 => v = .non ∧ Q (.ref x) H2) E) :
    wpAny (model X.prog X.w) X.A (call (.ref C) us0 kw) (EP X pins σ Q) X.xe s := by
  have hq := h (s.heap.objs.size + 1) s.heap.objs.size (I.hok.fresh (Nat.le_succ _)) (I.hok.fresh (Nat.le_refl _)) (Nat.ne_of_lt (Nat.lt_succ_self _))
  have I2 := Inv.made (C := C) I
  have r2 : Vals (V.ref (s.heap.objs.size + 1) :: vs) (Value.ref (s.heap.objs.size + 1) :: us) := .cons rfl r
  have hl : (Value.ref (s.heap.objs.size + 1) :: us).length = ps.length := by
    rw [← r2.length]
    exact F.len _ _ _ _ hq
  refine wpAny_call (make_map (f := f) I.kIn M.makes M.init (beq_iff_eq.mp M.fn) (codeAny_mono (F.run _ X.stack _ _ ⟨Value.ref (s.heap.objs.size + 1) :: us0, kw⟩ (Value.ref (s.heap.objs.size + 1) :: us) _ _ E (hr.make C us0 kw)
    (make_guards.trans hgd) (I2.env0.make C us0 kw) (hb _ _ I2.kIn hl) r2 hq) fun r s' hq' => ?_))
  cases r with
  | error e => exact hx pins σ _ _ e s' I2 hq'
  | ok fl =>
    cases fl with
    | ret u =>
      obtain ⟨v, H', I3, rv, ev, q3⟩ := I2.after hq'
      subst ev
      exact ⟨rv, ⟨V.ref (s.heap.objs.size + 1), H', I3, rfl, q3⟩⟩
    | next => exact False.elim hq'
    | brk => exact False.elim hq'
    | cont => exact False.elim hq'
end
end DL
namespace OwnNe
open PySem PySem.W PyProof.Rows Builtin
section
variable {prog : Program} {w : World} {A : Around} {E : Value → Shared → Prop} {s : Shared} {K : Frag} {x C f L : Addr} {ox : Obj} {od : Option Obj} {h₀ : Heap} {m : Str → Option Value} {b tb : Value}
end
end OwnNe
namespace DL
open PySem PySem.Spec PyProof.Rows L2 Evl
variable [TabC]
def firstOk (cl : ClT) (sub : Str → Str → Bool) (C : Str) (y : D) : Bool := match y with
  | .ins E _ _ => hasC cl E && (E == C || !sub E C)
  | y => y.tyn.isSome
section
variable {X : Cx} {k : Nat} {f : Addr} {fd : FuncData} {ps : List Str} {sp : Sp} {E : XK}
end
def dOwnEq (neg : Bool) (cl : ClT) (sub : Str → Str → Bool) (cs : List Str) (q : DSp) (RX : XD) (da db : DE) : DE := fun ρ G R => da ρ G fun x G1 => db ρ G1 fun y G2 => ∃ C ns xs, InsAt G2 x C ns xs ∧ C ∈ cs ∧ firstOk cl sub C y = true ∧ q [x, y] G2 (fun v G3 => ∃ b, v = .bl b ∧ R (.bl (neg != b)) G3) RX
section
variable {X : Cx} {B : Bs} {p pos : Pos} {a b e : Expr} {da db : DE} {k : Nat} {ps : List Str} {E : XK} {cl : ClT} {sub : Str → Str → Bool} {cs : List Str} {f : Addr} {fd : FuncData} {q : DSp} {RX : XD}
end
abbrev TrT := List (Str × Bool)
section
variable {X : Cx} {B : Bs} {p pos : Pos} {e : Expr} {da : DE} {k : Nat} {tb : TrT}
end
end DL
namespace Sup
open PySem PySem.Spec PySem.Calls PyProof.Rows L2 PySem.W
section
variable {P : Program} {w : World} {K : PySem.W.Frag} {mg : Str → Option Value} {base : Heap} {N ps : List Str} {x qual : Str} {scope : Scope} {f cda cc C f2 : Addr} {A : Around} {outer : List Env} {s : Shared} {H : Hp} {E E2 : XK} {params : Arguments} {body : List Stmt} {k : Nat} {sp : Sp}
end
end Sup
namespace Sup
open PySem PySem.Spec PySem.Calls PyProof.Rows L2 PySem.W
section
variable {P : Program} {w : World} {K : PySem.W.Frag} {mg : Str → Option Value} {base : Heap} {N ps : List Str} {x qual : Str} {scope : Scope} {f cda cc C f2 : Addr} {A : Around} {outer : List Env} {s : Shared} {H : Hp} {E E2 : XK} {params : Arguments} {body : List Stmt} {k : Nat} {sp : Sp}
end
end Sup
namespace DL
open PySem PySem.Spec PyProof.Rows L2 Evl Sup
variable [TabC]
theorem PSsS.imp {X : Cx} {b sts : List Stmt} {t t' : TS} (h : PSsS X b sts t) (i : ∀ D σ H, t' D σ H → t D σ H) : PSsS X b sts t' := ⟨fun pins s σ H D I w => h.run pins s σ H D I (i D σ H w)⟩
section
variable {P : Program} {w : World} {K : PySem.W.Frag} {mg : Str → Option Value} {base : Heap}
theorem KnM.toI {k : Nat} {C : Str} {st : Stmt} {ps : List Str} {p : DSp} (h : KnM P w K mg base k C "__init__" st ps p) : KnI P w K mg base k C st ps p := by
  obtain ⟨fd, F, G⟩ := h.fn
  obtain ⟨oc, od, dV, kV, doc, pm, an, cdv, ct, osl, rfl, lk, hcd, hD, hK⟩ := F.ex
  rcases hD with ⟨_, rfl⟩ | ⟨z, _⟩
  · exact ⟨_, G, rfl, rfl⟩
  · exact absurd rfl z
end
section
variable {X : Cx} {B : Bs} {p pos : Pos} {e : Expr} {es : List Expr} {dA : DA} {k : Nat} {ps : List Str} {E : XK}
theorem pd_makeI {C : Str} {st : Stmt} {q : DSp} {RX : XD} (h : KnI X.prog X.w X.K X.mg X.base k C st ps q) (M : L2.Mk X.K (He.ga X.K C) (He.ma X.K (He.ga X.K C) "__init__")) (hm : X.mg C = some (.ref (He.ga X.K C))) (hr : Room (k + 1) X.A) (hgd : X.A.guards = some []) (hg : Gl X C)
    (hx : Passes (L2.CX X.prog X.w) X E) (kx : ∀ Hd, Ex B.b Hd → KX X.K B.f Hd RX E)
    (hb : ∀ fd : FuncData, fd.params = defArgs st → fd.defaults = .none → ∀ us : List Value, us.length = ps.length → bindArgs fd ⟨us, []⟩ = pure (ps.zip us))
    (ha : PA X (e :: es) (upA X.K B dA)) (hdb : (C == ("__debug__" : Str)) = false := by decide) (he : starEach (e :: es) X.env = (false, eval e X.env) :: starEach es X.env := by rfl) (hpl : (backTo pos (starEach es X.env)).any (·.1) = false := by rfl) :
    PE X (.Call (.Name C p) (e :: es) [] pos) (upE X.K B (dMake C q RX dA)) := by
  obtain ⟨fd, G, f1, f2⟩ := h.fn
  refine ⟨fun pins s σ H Q I ⟨ρ, Hd, G0, R, at_, h0, k0⟩ => ?_⟩
  refine wpAny_Call_Name_kw (ld_glob I hg hm ?_ hdb)
  refine PySem.W.callWith_K (h₀ := X.base) I.ok.mod.kin M.kp (thn (ha.run pos pins s σ H (fun vs H1 => ∀ x dx, H1 x = none → H1 dx = none → dx ≠ x → spU X.K q (.ref x :: vs) (upd (upd H1 dx (.own x)) x (.ins (He.ga X.K C) dx [])) (fun v H2 => v = .non ∧ Q (.ref x) H2) E) I
    ⟨ρ, Hd, G0, _, at_, h0, fun vs H1 Hd1 xs G1 e1 s1 r1 h1 => make_sp s1 r1 (k0.mono e1) (kx Hd1 (at_.b.trans e1)) h1⟩) fun us s1 hh => ?_) he hpl
  obtain ⟨vs, H1, I1, r, q1⟩ := hh
  exact ⟨I1.kIn, run_makeG M G hr hgd (fun s' x hk hl => .of_eq (hb fd f1 f2 (.ref x :: us) hl)) hx I1 r q1⟩
end
section
variable {X : Cx} {B : Bs} {pos : Pos} {o : Expr} {to : TE} {dobj : DE} {f : Str} {cl : ClT} {sub : Str → Str → Bool}
end
end DL
namespace DL
open PySem PySem.Spec PyProof.Rows L2 Evl Sup
variable [TabC]
def fAddT (x y z : D) : Prop := ∃ xs ys, x = .tup xs ∧ y = .tup ys ∧ xs.length + ys.length ≤ sizeLine ∧ z = .tup (xs ++ ys)
theorem od_addT {K : PySem.W.Frag} : OpD K (rCatA K) fAddT := fun F Hd H G v u x y z Q s rv ru ⟨xs, ys, ex, ey, hz, ez⟩ k => by
  subst ex ey ez
  cases rv with
  | tup q r =>
    cases ru with
    | tup q' r' =>
      rename_i a vs b us
      have nz : ∀ {vs : List V} {ds : List D}, RpL K Hd vs ds → (vs = [] ↔ ds = []) := fun r => by
        cases r with
        | nil => simp
        | cons _ _ => simp
      refine ⟨_, _, _, _, rfl, rfl, ex_t s.sub q, ex_t s.sub q', by rw [r.length, r'.length]; exact hz, fun z => ?_, fun _ z => ?_, fun _ _ p hp => ?_⟩
      · have w := k (.ref b) H Hd (Ex.refl _) s
        rw [(nz r).mp z, List.nil_append] at w
        exact w (.tup q' r')
      · have w := k (.ref a) H Hd (Ex.refl _) s
        rw [(nz r').mp z, List.append_nil] at w
        exact w (.tup q r)
      · exact k _ _ _ (s.exn hp) (s.new hp) (.tup st_new ((r.app r').mono (s.exn hp)))
theorem pd_addT {X : Cx} {B : Bs} {pos : Pos} {a b : Expr} {da db : DE} (ha : PE X a (upE X.K B da)) (hb : PE X b (upE X.K B db)) : PE X (.BinOp a .Add b pos) (upE X.K B (dOp fAddT da db)) := pd_op op_catA od_addT ha hb
section
variable {X : Cx} {B : Bs} {p pos : Pos} {e o : Expr} {es : List Expr} {dA : DA} {dobj di da db : DE}
end
def dInK (kvs : KvT) (neg : Bool) (da : DE) : DE := fun ρ G R => da ρ G fun y G1 => ∃ z, y = .str z ∧ R (.bl (neg != (kvs.lookup z).isSome)) G1
section
variable {X : Cx} {B : Bs} {p pos : Pos} {e : Expr} {da : DE} {x : Str} {kvs : KvT}
end
end DL
namespace DL
open PySem PySem.Spec PyProof.Rows L2 Evl Sup
variable [TabC]
section
variable {X : Cx} {B : Bs} {p pos : Pos} {e : Expr} {da : DE} {x : Str} {kvs : KvT}
end
end DL
namespace DL
open PySem PySem.Spec PyProof.Rows L2
end DL
namespace DL
open PySem PySem.Spec PyProof.Rows L2 Evl Sup
variable [TabC]
def dGcE (s : DS) : DS := fun E ρ G => s { nx := fun ρ G' => ∃ l, E.nx ρ (gdels G' l), rt := Gc E.rt, bk := fun ρ G' => ∃ l, E.bk ρ (gdels G' l), ct := fun ρ G' => ∃ l, E.ct ρ (gdels G' l) } ρ G
section
variable {ρ : En} {G : Gm} {da db dv dobj : DE} {dA : DA} {x y z : D} {xs ys : List D} {ns : List Str} {cl : ClT} {sub : Str → Str → Bool} {C f : Str} {a : Addr} {E : DEnds}
theorem ins_ins : InsAt G (.ins C ns xs) C ns xs := .inl rfl
theorem Ev.fld (ha : Ev da ρ G x) (hi : InsAt G x C ns xs) (hf : hasF cl C f = true) (hl : (ns.zip xs).lookup f = some z) : Ev (dFld cl f da) ρ G z := fun R r => ha _ ⟨C, ns, xs, z, hi, hf, hl, r⟩
theorem Ev.isW {b : Bool} (ha : Ev da ρ G x) (h : isW cl sub C x = some b) : Ev (dIsW cl sub C da) ρ G (.bl b) := fun R r => ha _ ⟨b, h, r⟩
end
end DL
namespace DL
open PySem PySem.Spec PyProof.Rows L2 Evl Sup
variable [TabC]
section
variable {ρ : En} {G : Gm} {da db dv dobj : DE} {dA : DA} {x y z : D} {xs ys : List D}
theorem Ev.inK {kvs : KvT} {neg : Bool} {s : Str} (ha : Ev da ρ G (.str s)) : Ev (dInK kvs neg da) ρ G (.bl (neg != (kvs.lookup s).isSome)) := fun R r => ha _ ⟨s, rfl, r⟩
end
theorem Ev.notN {x : D} {ρ : En} {G : Gm} {da : DE} (ha : Ev da ρ G x) : Ev (dNotN da) ρ G (.bl (!x.isN)) := fun R r => ha _ r
end DL
namespace DL
open PySem PySem.Spec PyProof.Rows L2 Evl Sup
variable [TabC]
def fNotB (x y z : D) : Prop := ∃ a b : Bool, x = .bl a ∧ y = .bl b ∧ z = .bl (!decide (a = b))
def D.fv : D → V
  | .bl b => .bl b
  | .int i => .int i
  | .str i => .str i
  | _ => .non
def fIn (neg : Bool) (x y z : D) : Prop := ∃ ds, y = .tup ds ∧ x.flat = true ∧ ds.all D.flat = true ∧ z = .bl (if neg = true then !inV x.fv (ds.map D.fv) else inV x.fv (ds.map D.fv))
def dIfT (tc ta tb : DT) : DT := fun ρ G R => tc ρ G fun k G1 => if k = true then ta ρ G1 R else tb ρ G1 R
section
variable {X : Cx} {B : Bs} {p pos : Pos} {e : Expr} {es : List Expr} {dA : DA} {k : Nat} {f : Addr} {sp : Sp} {E : XK}
end
end DL
namespace DL
open PySem PySem.Spec PyProof.Rows L2 Evl Sup
variable [TabC]
section
variable {ρ : En} {a : Addr} {k n : Nat} {da : DE} {P : D → Prop}
end
end DL
namespace DL
open PySem PySem.Spec PyProof.Rows L2 Evl Sup
variable [TabC]
mutual
/-- None, truths, integers, texts, tuples of such -/
def D.tk : D → Bool
  | .non => true
  | .bl _ => true
  | .int _ => true
  | .str _ => true
  | .tup xs => D.tkL xs
  | .dct _ _ => true
  | _ => false
def D.tkL : List D → Bool
  | [] => true
  | x :: xs => D.tk x && D.tkL xs
end
end DL
namespace DL
open PySem PySem.Spec PyProof.Rows L2 Evl Sup
variable [TabC]
section
variable {ρ : En} {G : Gm} {da db : DE} {xs : List D} {i : Nat}
end
theorem Ev.inT {ρ : En} {G : Gm} {da db : DE} {x : D} {ds : List D} (ha : Ev da ρ G x) (hb : Ev db ρ G (.tup ds)) (hx : x.flat = true) (hd : ds.all D.flat = true) : Ev (dOp (fIn false) da db) ρ G (.bl (inV x.fv (ds.map D.fv))) := .op ha hb ⟨ds, rfl, hx, hd, rfl⟩
end DL
namespace DL
open PySem PySem.Spec PyProof.Rows L2 Evl Sup
variable [TabC]
def dlook {α : Type} (ks : List Key) (xs : List α) (k : Key) : Option α := ((ks.zip xs).find? fun kv => decide (kv.1 = k)).map (·.2)
def hasK (ks : List Key) (k : Key) : Bool := ks.any fun j => decide (j = k)
def putKs (ks : List Key) (k : Key) : List Key := if hasK ks k = true then ks else ks ++ [k]
def putVs {α : Type} (ks : List Key) (k : Key) (z : α) (xs : List α) : List α := if hasK ks k = true then List.zipWith (fun j x => if j = k then z else x) ks xs else xs ++ [z]
def dDctM : DE := fun _ G R => ∀ p, G p = none → R (.ref p) (gup G p (.dct [] []))
def dDget2 (dobj dk dd : DE) : DE := fun ρ G R => dobj ρ G fun o G1 => ∃ q, o = .ref q ∧ (∃ ks xs, G1 q = some (.dct ks xs)) ∧ dk ρ G1 fun y G2 => dd ρ G2 fun z G3 => ∃ s ks xs, y = .str s ∧ G3 q = some (.dct ks xs) ∧ R ((dlook ks xs (.inr s)).getD z) G3
def dDput (dv dobj dk : DE) : DS := fun E ρ G => dv ρ G fun z G1 => dobj ρ G1 fun o G2 => dk ρ G2 fun y G3 => ∃ q s ks xs, o = .ref q ∧ y = .str s ∧ G3 q = some (.dct ks xs) ∧ ks.length < sizeLine ∧ E.nx ρ (gup G3 q (.dct (putKs ks (.inr s)) (putVs ks (.inr s) z xs)))
section
variable {X : Cx} {B : Bs} {pos pos' apos cpos : Pos} {o e f i value : Expr} {dobj dk dd dv : DE}
end
end DL
namespace DL
open PySem PySem.Spec PyProof.Rows L2 Evl Sup
variable [TabC]
theorem p3 (n : Nat) : (0 : Int) < 3 ^ n := Int.pow_pos (by decide)
theorem rng_len (n : Nat) : (rngD 0 ((n : Int)).toNat).length = n := by
  unfold rngD
  rw [List.length_map, List.length_range, Int.toNat_natCast]
end DL
namespace DL
open PySem PySem.Spec PyProof.Rows L2 Evl Sup
variable [TabC]
end DL
namespace DL
open PySem PySem.Spec PyProof.Rows L2 Evl Sup
variable [TabC]
def pt0 (s : Sd) : D := plusZ (.int (4 * (s.l : Int))) (hgt s.x)
def ptD (s : Sd) : D := .tup [pt0 s, hgt s.y]
end DL
namespace DL
open PySem PySem.Spec PyProof.Rows L2 Evl Sup
variable [TabC]
end DL
namespace DL
open PySem PySem.Spec PyProof.Rows L2 Evl Sup
variable [TabC]
end DL
namespace DL
open PySem PySem.Spec PyProof.Rows L2 Evl Sup
variable [TabC]
end DL
namespace DL
open PySem PySem.Spec PyProof.Rows L2 Evl Sup
variable [TabC]
namespace Y
section
variable {ρ ρ' : En} {G : Gm} {E : DEnds} {R : KD} {da db dc dv dobj di de : DE} {dA : DA} {x y z : D} {xs ys : List D} {ta tb tc : DT} {j k : Bool} {s t s1 s2 : DS} {g : DG} {gs : DGs} {T : Bool → Gm → Prop} {L : List D → Gm → Prop} {P : Prop}
theorem ret (h : de ρ G E.rt) : dRet de E ρ G := h
theorem retN (h : E.rt .non G) : dRetN E ρ G := h
theorem ifS (h : tc ρ G fun k G1 => if k = true then s1 E ρ G1 else s2 E ρ G1) : dIfS tc s1 s2 E ρ G := h
theorem asg (h : de ρ G fun x G1 => g x ρ G1 E.nx) : dAsg de g E ρ G := h
theorem par {i j : Nat} (h : dA ρ G fun xs G1 => ∃ x y, xs = [x, y] ∧ E.nx ((ρ.set i (some x)).set j (some y)) G1) : dPar i j dA E ρ G := h
theorem par3 {i j l : Nat} (h : dA ρ G fun xs G1 => ∃ x y z, xs = [x, y, z] ∧ E.nx (((ρ.set i (some x)).set j (some y)).set l (some z)) G1) : dPar3 i j l dA E ρ G := h
theorem par_ {Q : D → D → Prop} (h : Q x y) : ∃ x' y', [x, y] = [x', y'] ∧ Q x' y' := ⟨x, y, rfl, h⟩
theorem par3_ {Q : D → D → D → Prop} (h : Q x y z) : ∃ x' y' z', [x, y, z] = [x', y', z'] ∧ Q x' y' z' := ⟨x, y, z, rfl, h⟩
theorem iteT (h : k = true) (p : P) {Q : Prop} : if k = true then P else Q := by rw [if_pos h]; exact p
theorem iteF (h : k = false) {Q : Prop} (p : Q) : if k = true then P else Q := by rw [h, if_neg (by decide)]; exact p
theorem gn {i : Nat} {N : En → Gm → Prop} (h : N (ρ.set i (some x)) G) : gN i x ρ G N := h
theorem gnil {N : En → Gm → Prop} (h : N ρ G) : gNil [] ρ G N := ⟨rfl, h⟩
theorem gcons {N : En → Gm → Prop} (h : g x ρ G fun ρ' G' => gs xs ρ' G' N) : gCons g gs (x :: xs) ρ G N := ⟨x, xs, rfl, h⟩
theorem gseqT {n : Nat} {N : En → Gm → Prop} (hl : xs.length = n) (h : gs xs ρ G N) : gSeq n gs (.tup xs) ρ G N := ⟨xs, seq_tup, hl, h⟩
theorem gseqL {n : Nat} {N : En → Gm → Prop} (hl : xs.length = n) (h : gs xs ρ G N) : gSeq n gs (.lst xs) ρ G N := ⟨xs, seq_lst, hl, h⟩
theorem var {i : Nat} (e : ρ[i]? = some (some x)) (h : R x G) : dVar i ρ G R := ⟨x, e, h⟩
theorem len_ {n : Nat} (hn : xs.length = n) (h1 : n ≤ 10000000) (h : P) : xs.length ≤ sizeLine ∧ P := ⟨by rw [hn, sizeLine_eq]; exact Nat.le_trans h1 (by decide), h⟩
theorem oint {f : Int → Int → D} {i j : Int} {Q : D → Prop} (h : Q (f i j)) : ∃ z, fInt f (.int i) (.int j) z ∧ Q z := ⟨_, ⟨i, j, rfl, rfl, rfl⟩, h⟩
theorem ointC {C : Int → Int → Prop} {f : Int → Int → D} {i j : Int} (hc : C i j) {Q : D → Prop} (h : Q (f i j)) : ∃ z, fIntC C f (.int i) (.int j) z ∧ Q z := ⟨_, ⟨i, j, rfl, rfl, hc, rfl⟩, h⟩
theorem oadd {i j : Int} {Q : D → Prop} (h : Q (.int (i + j))) : ∃ z, fAdd (.int i) (.int j) z ∧ Q z := ⟨_, .inl ⟨i, j, rfl, rfl, rfl⟩, h⟩
theorem oeqI {i j : Int} {Q : D → Prop} (h : Q (.bl (decide (i = j)))) : ∃ z, fEq (.int i) (.int j) z ∧ Q z := ⟨_, rfl, h⟩
theorem oneI {i j : Int} {Q : D → Prop} (h : Q (.bl (!decide (i = j)))) : ∃ z, fNe (.int i) (.int j) z ∧ Q z := ⟨_, rfl, h⟩
theorem oeqS {i j : Str} {Q : D → Prop} (h : Q (.bl (decide (i = j)))) : ∃ z, fEq (.str i) (.str j) z ∧ Q z := ⟨_, rfl, h⟩
theorem oneS {i j : Str} {Q : D → Prop} (h : Q (.bl (!decide (i = j)))) : ∃ z, fNe (.str i) (.str j) z ∧ Q z := ⟨_, rfl, h⟩
theorem oeqB {i j : Bool} {Q : D → Prop} (h : Q (.bl (decide (i = j)))) : ∃ z, fEq (.bl i) (.bl j) z ∧ Q z := ⟨_, rfl, h⟩
theorem oaddL (hz : xs.length + ys.length ≤ 10000000) {Q : D → Prop} (h : Q (.lst (xs ++ ys))) : ∃ z, fAddL (.lst xs) (.lst ys) z ∧ Q z := ⟨_, ⟨xs, ys, rfl, rfl, by rw [sizeLine_eq]; exact Nat.le_trans hz (by decide), rfl⟩, h⟩
theorem oaddT (hz : xs.length + ys.length ≤ 10000000) {Q : D → Prop} (h : Q (.tup (xs ++ ys))) : ∃ z, fAddT (.tup xs) (.tup ys) z ∧ Q z := ⟨_, ⟨xs, ys, rfl, rfl, by rw [sizeLine_eq]; exact Nat.le_trans hz (by decide), rfl⟩, h⟩
theorem oisB {i j : Bool} {Q : D → Prop} (h : Q (.bl (decide (i = j)))) : ∃ z, fIsB (.bl i) (.bl j) z ∧ Q z := ⟨_, ⟨i, j, rfl, rfl, rfl⟩, h⟩
theorem onotB {i j : Bool} {Q : D → Prop} (h : Q (.bl (!decide (i = j)))) : ∃ z, fNotB (.bl i) (.bl j) z ∧ Q z := ⟨_, ⟨i, j, rfl, rfl, rfl⟩, h⟩
theorem int_ {f : Int → Prop} {i : Int} (h : f i) : ∃ j, D.int i = .int j ∧ f j := ⟨i, rfl, h⟩
theorem bl_ {f : Bool → Prop} (h : f k) : ∃ j, D.bl k = .bl j ∧ f j := ⟨k, rfl, h⟩
theorem tst (h : da ρ G fun x G1 => ∃ k, x = .bl k ∧ T k G1) : dTst da ρ G T := h
theorem notT (h : ta ρ G fun k G1 => T (!k) G1) : dNot ta ρ G T := h
theorem andT (h : ta ρ G fun k G1 => if k = true then tb ρ G1 T else T false G1) : dAnd ta tb ρ G T := h
theorem orT (h : ta ρ G fun k G1 => if k = true then T true G1 else tb ρ G1 T) : dOr ta tb ρ G T := h
theorem ifE (h : tc ρ G fun k G1 => if k = true then da ρ G1 R else db ρ G1 R) : dIf tc da db ρ G R := h
theorem ifT (h : tc ρ G fun k G1 => if k = true then ta ρ G1 T else tb ρ G1 T) : dIfT tc ta tb ρ G T := h
theorem andV (h : da ρ G fun x G1 => ∃ k, x = .bl k ∧ if k = true then db ρ G1 R else R (.bl false) G1) : dAndV da db ρ G R := h
theorem orV (h : da ρ G fun x G1 => ∃ k, x = .bl k ∧ if k = true then R (.bl true) G1 else db ρ G1 R) : dOrV da db ρ G R := h
theorem notV (h : da ρ G fun x G1 => ∃ k, x = .bl k ∧ R (.bl (!k)) G1) : dNotV da ρ G R := h
theorem isN (h : da ρ G fun x G1 => R (.bl x.isN) G1) : dIsN da ρ G R := h
theorem notN (h : da ρ G fun x G1 => R (.bl (!x.isN)) G1) : dNotN da ρ G R := h
theorem ixT {i : Int} (hi : atI xs i = some z) {Q : D → Prop} (h : Q z) : ∃ z, fIx G (.tup xs) (.int i) z ∧ Q z := ⟨z, .inl ⟨xs, i, seq_tup, rfl, hi⟩, h⟩
theorem ixL {i : Int} (hi : atI xs i = some z) {Q : D → Prop} (h : Q z) : ∃ z, fIx G (.lst xs) (.int i) z ∧ Q z := ⟨z, .inl ⟨xs, i, seq_lst, rfl, hi⟩, h⟩
theorem ixR {i : Int} {a : Addr} (hg : G a = some (.lst xs)) (hi : atI xs i = some z) {Q : D → Prop} (h : Q z) : ∃ z, fIx G (.ref a) (.int i) z ∧ Q z := ⟨z, .inl ⟨xs, i, seq_ref hg, rfl, hi⟩, h⟩
theorem lenT {Q : D → Prop} (h : Q (.int xs.length)) : ∃ z, fLen G [.tup xs] z ∧ Q z := ⟨_, ⟨_, rfl, .inl ⟨xs, seq_tup, rfl⟩⟩, h⟩
theorem lenL {Q : D → Prop} (h : Q (.int xs.length)) : ∃ z, fLen G [.lst xs] z ∧ Q z := ⟨_, ⟨_, rfl, .inl ⟨xs, seq_lst, rfl⟩⟩, h⟩
theorem lenR {a : Addr} (hg : G a = some (.lst xs)) {Q : D → Prop} (h : Q (.int xs.length)) : ∃ z, fLen G [.ref a] z ∧ Q z := ⟨_, ⟨_, rfl, .inl ⟨xs, seq_ref hg, rfl⟩⟩, h⟩
theorem absI {i : Int} {Q : D → Prop} (h : Q (.int (i.natAbs : Int))) : ∃ z, fAbs G [.int i] z ∧ Q z := ⟨_, ⟨i, rfl, rfl⟩, by
  rw [show (if i < 0 then -i else i) = (i.natAbs : Int) by split <;> omega]
  exact h⟩
theorem intI {i : Int} {Q : D → Prop} (h : Q (.int i)) : ∃ z, fIntOf G [.int i] z ∧ Q z := ⟨_, .inl ⟨i, rfl, rfl⟩, h⟩
theorem intB {Q : D → Prop} (h : Q (.int (if k then 1 else 0))) : ∃ z, fIntOf G [.bl k] z ∧ Q z := ⟨_, .inr ⟨k, rfl, rfl⟩, h⟩
theorem tupT {Q : D → Prop} (h : Q (.tup xs)) : ∃ z, fTupOf G [.tup xs] z ∧ Q z := ⟨_, ⟨_, xs, rfl, seq_tup, rfl⟩, h⟩
theorem tupL {Q : D → Prop} (h : Q (.tup xs)) : ∃ z, fTupOf G [.lst xs] z ∧ Q z := ⟨_, ⟨_, xs, rfl, seq_lst, rfl⟩, h⟩
theorem tupR {a : Addr} (hg : G a = some (.lst xs)) {Q : D → Prop} (h : Q (.tup xs)) : ∃ z, fTupOf G [.ref a] z ∧ Q z := ⟨_, ⟨_, xs, rfl, seq_ref hg, rfl⟩, h⟩
theorem lstT {Q : D → Prop} (h : Q (.lst xs)) : ∃ z, fLstOf G [.tup xs] z ∧ Q z := ⟨_, ⟨_, xs, rfl, seq_tup, rfl⟩, h⟩
theorem lstL {Q : D → Prop} (h : Q (.lst xs)) : ∃ z, fLstOf G [.lst xs] z ∧ Q z := ⟨_, ⟨_, xs, rfl, seq_lst, rfl⟩, h⟩
theorem allL {bs : List Bool} {Q : D → Prop} (h : Q (.bl (bs.all id))) : ∃ z, fAll G [.lst (bs.map D.bl)] z ∧ Q z := ⟨_, ⟨_, bs, rfl, lst_lst, rfl⟩, h⟩
theorem anyL {bs : List Bool} {Q : D → Prop} (h : Q (.bl (bs.any id))) : ∃ z, fAny G [.lst (bs.map D.bl)] z ∧ Q z := ⟨_, ⟨_, bs, rfl, lst_lst, rfl⟩, h⟩
theorem repr_ (hr : RepOk x) {Q : D → Prop} (h : Q (.str x.shown)) : ∃ z, fRepr G [x] z ∧ Q z := ⟨_, ⟨x, rfl, hr, rfl⟩, h⟩
theorem isi_ {n t : String} (ht : x.tyn = some t) {Q : D → Prop} (h : Q (.bl (isK t n))) : ∃ z, fIsi n G [x, .ty n] z ∧ Q z := ⟨_, ⟨x, t, rfl, ht, rfl⟩, h⟩
theorem isiT {ns : List String} (h : da ρ G fun x G1 => ∃ t, x.tyn = some t ∧ R (.bl (ns.any (isK t))) G1) : dIsiT ns da ρ G R := h
theorem chain {f g : D → D → D → Prop} (h : da ρ G fun x G1 => db ρ G1 fun y G2 => ∃ k, f x y (.bl k) ∧ if k = true then dc ρ G2 fun z G3 => ∃ w, g y z w ∧ R w G3 else R (.bl false) G2) : dChain f g da db dc ρ G R := h
theorem noP {O : Option Int → Gm → Prop} (h : O none G) : dNoP ρ G O := h
theorem slL {lo hi : Option Int} {Q : D → Prop} (h : Q (.lst (cutD xs lo hi))) : ∃ z, fSl G (.lst xs) lo hi z ∧ Q z := ⟨_, .inl ⟨xs, lst_lst, rfl⟩, h⟩
theorem callK {q : DSp} {o : Ord} {RX : XD} (h : dA ρ G fun xs G1 => q (o.go xs) G1 R RX) : dCallK q o RX dA ρ G R := h
theorem callD {q : DSp} {ds : List D} {RX : XD} (h : dA ρ G fun xs G1 => q (xs ++ ds) G1 R RX) : dCallD q ds RX dA ρ G R := h
theorem fld {cl : ClT} {f : Str} (h : da ρ G fun y G1 => ∃ C ns xs z, InsAt G1 y C ns xs ∧ hasF cl C f = true ∧ (ns.zip xs).lookup f = some z ∧ R z G1) : dFld cl f da ρ G R := h
theorem fld_ {Q : D → Prop} {cl : ClT} {f C : Str} {ns : List Str} (hf : hasF cl C f = true) (hl : (ns.zip xs).lookup f = some z) (h : Q z) : ∃ C' ns' xs' z, InsAt G (.ins C ns xs) C' ns' xs' ∧ hasF cl C' f = true ∧ (ns'.zip xs').lookup f = some z ∧ Q z := ⟨C, ns, xs, z, ins_ins, hf, hl, h⟩
theorem isW_ {cl : ClT} {sub : Str → Str → Bool} {C : Str} (h : da ρ G fun y G1 => ∃ b, isW cl sub C y = some b ∧ R (.bl b) G1) : dIsW cl sub C da ρ G R := h
theorem inK {kvs : KvT} {neg : Bool} (h : da ρ G fun y G1 => ∃ z, y = .str z ∧ R (.bl (neg != (kvs.lookup z).isSome)) G1) : dInK kvs neg da ρ G R := h
theorem str_ {f : Str → Prop} {i : Str} (h : f i) : ∃ j, D.str i = .str j ∧ f j := ⟨i, rfl, h⟩
theorem iSeq {S : List D → Gm → Prop} (h : de ρ G fun x G1 => ∃ xs, (x = .lst xs ∨ x = .tup xs) ∧ S xs G1) : dISeq de ρ G S := h
theorem iSeqL {S : List D → Prop} (h : S xs) : ∃ ys, (D.lst xs = .lst ys ∨ D.lst xs = .tup ys) ∧ S ys := ⟨xs, .inl rfl, h⟩
theorem iSeqT {S : List D → Prop} (h : S xs) : ∃ ys, (D.tup xs = .lst ys ∨ D.tup xs = .tup ys) ∧ S ys := ⟨xs, .inr rfl, h⟩
theorem iRng1 {S : List D → Gm → Prop} (h : da ρ G fun x G1 => ∃ j, x = .int j ∧ -(2 ^ 62) ≤ j ∧ j < 2 ^ 62 ∧ S (rngD 0 j.toNat) G1) : dIRng1 da ρ G S := h
theorem iRng1_ {S : Int → Prop} {i : Int} (h1 : -100000000 ≤ i ∧ i ≤ 100000000) (h : S i) : ∃ j, D.int i = .int j ∧ -(2 ^ 62) ≤ j ∧ j < 2 ^ 62 ∧ S j := ⟨i, rfl, by omega, by omega, h⟩
theorem iZip {S : List D → Gm → Prop} (h : dA ρ G fun vs G1 => ∃ xs ys, (vs = [.lst xs, .lst ys] ∨ vs = [.tup xs, .tup ys]) ∧ S (zipD xs ys) G1) : dIZip dA ρ G S := h
theorem iZipT {S : List D → List D → Prop} (h : S xs ys) : ∃ xs' ys', ([D.tup xs, .tup ys] = [.lst xs', .lst ys'] ∨ [D.tup xs, .tup ys] = [.tup xs', .tup ys']) ∧ S xs' ys' := ⟨xs, ys, .inr rfl, h⟩
theorem iZipL {S : List D → List D → Prop} (h : S xs ys) : ∃ xs' ys', ([D.lst xs, .lst ys] = [.lst xs', .lst ys'] ∨ [D.lst xs, .lst ys] = [.tup xs', .tup ys']) ∧ S xs' ys' := ⟨xs, ys, .inl rfl, h⟩
theorem iEnum {S : List D → Gm → Prop} (h : dA ρ G fun vs G1 => ∃ xs, (vs = [.lst xs] ∨ vs = [.tup xs]) ∧ S (enumD xs) G1) : dIEnumerate dA ρ G S := h
theorem iEnumT {S : List D → Prop} (h : S xs) : ∃ xs', ([D.tup xs] = [.lst xs'] ∨ [D.tup xs] = [.tup xs']) ∧ S xs' := ⟨xs, .inr rfl, h⟩
theorem iEnumL {S : List D → Prop} (h : S xs) : ∃ xs', ([D.lst xs] = [.lst xs'] ∨ [D.lst xs] = [.tup xs']) ∧ S xs' := ⟨xs, .inl rfl, h⟩
theorem for_ {dI : DI} (h : dI ρ G fun xs G1 => forL g s E xs ρ G1) : dFor dI g s E ρ G := h
theorem cmp {dI : DI} {vs : List Nat} (h : dI ρ G fun xs G1 => cmpL (wipeD ρ vs) g ta de xs [] G1 fun acc G2 => R (.lst acc) G2) : dCmp dI g ta de vs ρ G R := h
theorem cmpF {i : Nat} {ρ0 : En} (f : D → D) {S : List D → Gm → Prop} (hz : xs.length ≤ 10000000) (hf : ∀ x ∈ xs, ∀ S' : KD, S' (f x) G → de (ρ0.set i (some x)) G S') (h : S (xs.map f) G) : cmpL ρ0 (gN i) dYes de xs [] G S :=
  cmpL_map f hf (by rw [sizeLine_eq, List.length_nil]; omega) h
theorem done (e : x = y) (h : R y G) : R x G := e ▸ h
theorem dial {a : Addr} {n : Int} {T' : Nat} {RX : XD} (hg : GauAt G a T') (ht : T' ≤ 1000000000) (h1 : 1 ≤ n) (h2 : n < 2 ^ 8000) (h : ∀ v m, 0 ≤ v → v < n → Gau m (T' + 1) → R (.int v) (gup G a m)) : spDial [.ref a, .int n] G R RX := ⟨a, n, T', rfl, hg, ht, h1, h2, h⟩
theorem dialN {a : Addr} {n : Int} {T' : Nat} {RX : XD} (hg : GauAt G a T') (ht : T' ≤ 1000000000) (h1 : 1 ≤ n) (h2 : n ≤ 1000000000) (h : ∀ (v : Nat) m, (v : Int) < n → Gau m (T' + 1) → R (.int v) (gup G a m)) : spDial [.ref a, .int n] G R RX := ⟨a, n, T', rfl, hg, ht, h1, Int.lt_of_le_of_lt h2 (by decide +kernel), fun v m v0 v1 hm => by
  have e : v = (v.toNat : Int) := by omega
  rw [e]
  exact h v.toNat m (by omega) hm⟩
theorem pickL {a : Addr} {T' : Nat} {RX : XD} (hg : GauAt G a T') (ht : T' ≤ 1000000000) (hn : xs ≠ []) (hl : xs.length ≤ 1000000) (h : ∀ v m, v ∈ xs → Gau m (T' + 1) → R v (gup G a m)) : spPick [.ref a, .lst xs] G R RX := ⟨a, _, xs, T', rfl, .inl rfl, hn, hl, hg, ht, h⟩
theorem isO {cl : List Str} {sub : Str → Str → Bool} {cs : List Str} (h : da ρ G fun y G1 => ∃ b, isO cl sub cs y = some b ∧ R (.bl b) G1) : dIsO cl sub cs da ρ G R := h
theorem isO_ {cl : List Str} {sub : Str → Str → Bool} {cs : List Str} {Q : Bool → Prop} (e : DL.isO cl sub cs y = some k) (h : Q k) : ∃ b, DL.isO cl sub cs y = some b ∧ Q b := ⟨k, e, h⟩
theorem isW1 {cl : ClT} {sub : Str → Str → Bool} {C : Str} {Q : Bool → Prop} (e : isW cl sub C y = some k) (h : Q k) : ∃ b, isW cl sub C y = some b ∧ Q b := ⟨k, e, h⟩
theorem xf {cl : List Str} {f : Str} (h : da ρ G fun y G1 => ∃ C ns xs z, y = .exc C ns xs ∧ C ∈ cl ∧ (ns.zip xs).lookup f = some z ∧ R z G1) : dXf cl f da ρ G R := h
theorem xf_ {cl : List Str} {f C : Str} {ns : List Str} {Q : D → Prop} (hC : C ∈ cl) (hl : (ns.zip xs).lookup f = some z) (h : Q z) : ∃ C' ns' xs' z, D.exc C ns xs = .exc C' ns' xs' ∧ C' ∈ cl ∧ (ns'.zip xs').lookup f = some z ∧ Q z := ⟨C, ns, xs, z, rfl, hC, hl, h⟩
def Mkd (C : Str) (q : DSp) (xs : List D) (R : KD) (G1 : Gm) : Prop := ∀ a, G1 a = none → q (.ref a :: xs) (gup G1 a (.ins C [] [])) (fun v G2 => v = .non ∧ ∃ ns ys, G2 a = some (.ins C ns ys) ∧ R (.ins C ns ys) (DL.gdel G2 a)) (fun _ _ _ _ => False)
theorem mk {C : Str} {q : DSp} (h : dA ρ G fun xs G1 => Mkd C q xs R G1) : dMake C q X0 dA ρ G R := h
theorem dctM (h : ∀ p, G p = none → R (.ref p) (gup G p (.dct [] []))) : dDctM ρ G R := h
theorem dct0 (h : R (.dct [] []) G) : dDct0 ρ G R := h
theorem lstM (h : dA ρ G fun xs G1 => xs.length ≤ sizeLine ∧ ∀ p, G1 p = none → R (.ref p) (gup G1 p (.lst xs))) : dLstM dA ρ G R := h
theorem rev (h : da ρ G fun x G1 => ∃ ds, LstAt G1 x ds ∧ R (.lst ds.reverse) G1) : dRev da ρ G R := h
theorem revL {Q : List D → Prop} (h : Q xs) : ∃ ds, LstAt G (.lst xs) ds ∧ Q ds := ⟨xs, lst_lst, h⟩
theorem dget {dobj dk dd : DE} (h : dobj ρ G fun o G1 => ∃ q, o = .ref q ∧ (∃ ks xs, G1 q = some (.dct ks xs)) ∧ dk ρ G1 fun y G2 => dd ρ G2 fun z G3 => ∃ s ks xs, y = .str s ∧ G3 q = some (.dct ks xs) ∧ R ((dlook ks xs (.inr s)).getD z) G3) : dDget2 dobj dk dd ρ G R := h
theorem dput {dv dobj dk : DE} (h : dv ρ G fun z G1 => dobj ρ G1 fun o G2 => dk ρ G2 fun y G3 => ∃ q s ks xs, o = .ref q ∧ y = .str s ∧ G3 q = some (.dct ks xs) ∧ ks.length < sizeLine ∧ E.nx ρ (gup G3 q (.dct (putKs ks (.inr s)) (putVs ks (.inr s) z xs)))) : dDput dv dobj dk E ρ G := h
theorem app {dobj de : DE} (h : dobj ρ G fun o G1 => ∃ q, o = .ref q ∧ (∃ ds, G1 q = some (.lst ds)) ∧ dCons de dNil ρ G1 fun xs G2 => ∃ x, xs = [x] ∧ ∃ ds, G2 q = some (.lst ds) ∧ ds.length < sizeLine ∧ R .non (gup G2 q (.lst (ds ++ [x])))) : dApp dobj de ρ G R := h
theorem gc {s : DS} (h : s { nx := fun ρ G' => ∃ l, E.nx ρ (gdels G' l), rt := Gc E.rt, bk := fun ρ G' => ∃ l, E.bk ρ (gdels G' l), ct := fun ρ G' => ∃ l, E.ct ρ (gdels G' l) } ρ G) : dGcE s E ρ G := h
theorem slLl {lo hi : Option Int} {Q : D → Prop} (hn : Nat.ble xs.length 100 = true) (e : cutD xs lo hi = ys) (h : Q (.lst ys)) : ∃ z, fSl G (.lst xs) lo hi z ∧ Q z := ⟨_, .inl ⟨xs, lst_lst, rfl⟩, by rw [e]; exact h⟩
theorem slTl {lo hi : Option Int} {Q : D → Prop} (hn : Nat.ble xs.length 100 = true) (hn : ¬ (HT.sIx xs.length 0 lo = 0 ∧ HT.sIx xs.length xs.length hi = xs.length)) (e : cutD xs lo hi = ys) (h : Q (.tup ys)) : ∃ z, fSl G (.tup xs) lo hi z ∧ Q z := ⟨_, .inr ⟨xs, rfl, rfl, hn⟩, by rw [e]; exact h⟩
theorem neS {Q : D → Prop} {i : Str} (h : Q (.bl false)) : ∃ z, fNe (.str i) (.str i) z ∧ Q z := ⟨_, rfl, by rw [decide_eq_true rfl]; exact h⟩
theorem ref_ {a : Addr} {f : Addr → Prop} (h : f a) : ∃ q, D.ref a = .ref q ∧ f q := ⟨a, rfl, h⟩
end
end Y
end DL
namespace DL
open PySem PySem.Spec PyProof.Rows L2 Evl Sup
variable [TabC]
namespace Y
theorem ixS0 {G : Gm} {s : Sd} {Q : D → Prop} (h : Q (.int s.l)) : ∃ z, fIx G s.d (.int 0) z ∧ Q z := ⟨_, .inl ⟨_, 0, seq_tup, rfl, rfl⟩, h⟩
theorem ixS1 {G : Gm} {s : Sd} {Q : D → Prop} (h : Q (bxD s.x)) : ∃ z, fIx G s.d (.int 1) z ∧ Q z := ⟨_, .inl ⟨_, 1, seq_tup, rfl, rfl⟩, h⟩
theorem ixS2 {G : Gm} {s : Sd} {Q : D → Prop} (h : Q (bxD s.y)) : ∃ z, fIx G s.d (.int 2) z ∧ Q z := ⟨_, .inl ⟨_, 2, seq_tup, rfl, rfl⟩, h⟩
theorem ixP0 {G : Gm} {s : Sd} {Q : D → Prop} (h : Q (pt0 s)) : ∃ z, fIx G (ptD s) (.int 0) z ∧ Q z := ⟨_, .inl ⟨_, 0, seq_tup, rfl, rfl⟩, h⟩
theorem ixP1 {G : Gm} {s : Sd} {Q : D → Prop} (h : Q (hgt s.y)) : ∃ z, fIx G (ptD s) (.int 1) z ∧ Q z := ⟨_, .inl ⟨_, 1, seq_tup, rfl, rfl⟩, h⟩
theorem lstS {G : Gm} {s : Sd} {Q : D → Prop} (h : Q (.lst [.int s.l, bxD s.x, bxD s.y])) : ∃ z, fLstOf G [s.d] z ∧ Q z := ⟨_, ⟨_, _, rfl, seq_tup, rfl⟩, h⟩
theorem lstP {G : Gm} {s : Sd} {Q : D → Prop} (h : Q (.lst [pt0 s, hgt s.y])) : ∃ z, fLstOf G [ptD s] z ∧ Q z := ⟨_, ⟨_, _, rfl, seq_tup, rfl⟩, h⟩
end Y
end DL
namespace DLS
open PySem PySem.Spec PyProof.Rows L2
section
variable {pr : Program} {w : World} {A : Around} {E : Value → Shared → Prop}
def NoStmt (pr : Program) (w : World) (n : Nat) (z : Shared) (v : Value) : Prop := ∀ (A : Around) (E : Value → Shared → Prop) (Q : Bool → Shared → Prop), Q false z → wpAny (model pr w) A (ofAClassStatement n v) Q E z
def ByW (pr : Program) (w : World) (n : Nat) (z : Shared) (v : Value) : Prop := ∀ (A : Around) (E : Value → Shared → Prop) (Q : Bool → Shared → Prop), Q true z → wpAny (model pr w) A (hashByValue n v) Q E z
theorem noStmt_tup {n : Nat} {z : Shared} {p : Addr} {ob : Obj} {us : Array Value} {m : Nat} (h1 : z.heap.get? p = some ob) (h2 : ob.cls = .type "tuple") (h3 : ob.data = .seq us m) (hu : ∀ u ∈ us.toList, NoStmt pr w n z u) : NoStmt pr w (n + 1) z (.ref p) := fun A E Q q => by
  have ty : z.TypeIs (.ref p) "tuple" := ⟨ob, h1, h2⟩
  unfold ofAClassStatement
  refine wpAny_bind (wpAny_typeOf ty ?_); dsimp only
  simp only [show (("tuple" : String) == "tuple") = true by decide, if_true, Bool.not_true, Bool.false_eq_true, if_false]
  try refine wpAny_bind (wpAny_pure ?_); simp only [Bool.not_true, Bool.false_eq_true, if_false]
  show wpAny _ _ (seqItems? (.ref p) >>= _) _ _ z
  refine wpAny_bind (wpAny_seqItems h1 h3 ?_); dsimp only
  refine wpAny_bind ?_
  show wpAny _ _ (forIn us _ _) _ _ z
  rw [← Array.forIn_toList]
  refine wpAny_forIn_list _ (fun rst r z' => r.1 = none ∧ z' = z ∧ ∀ u ∈ rst, NoStmt pr w n z u) _ ?_ ?_ _ _ ⟨rfl, rfl, hu⟩
  · rintro u rst r z' ⟨er, rfl, all⟩
    refine wpAny_bind (all u List.mem_cons_self _ _ _ ?_)
    simp only [Bool.false_eq_true, if_false]; exact wpAny_pure ⟨rfl, rfl, fun y hy => all y (List.mem_cons_of_mem _ hy)⟩
  · rintro ⟨r1, r2⟩ z' ⟨er, rfl, _⟩
    simp only at er; subst er
    exact wpAny_pure q
theorem byW_tup {n : Nat} {z : Shared} {p : Addr} {ob : Obj} {us : Array Value} {m : Nat} (h1 : z.heap.get? p = some ob) (h2 : ob.cls = .type "tuple") (h3 : ob.data = .seq us m) (hu : ∀ u ∈ us.toList, ByW pr w n z u) : ByW pr w (n + 1) z (.ref p) := fun A E Q q => by
  have ty : z.TypeIs (.ref p) "tuple" := ⟨ob, h1, h2⟩
  unfold hashByValue
  refine wpAny_bind (wpAny_specialOf ty F.slot_tuple_hash.lookup ?_)
  show wpAny _ _ (seqItems? (.ref p) >>= _) _ _ z
  refine wpAny_bind (wpAny_seqItems h1 h3 ?_)
  refine wpAny_bind ?_
  show wpAny _ _ (forIn us _ _) _ _ z
  rw [← Array.forIn_toList]
  refine wpAny_forIn_list _ (fun rst r z' => r.1 = none ∧ z' = z ∧ ∀ u ∈ rst, ByW pr w n z u) _ ?_ ?_ _ _ ⟨rfl, rfl, hu⟩
  · rintro u rst r z' ⟨er, rfl, all⟩
    refine wpAny_bind (all u List.mem_cons_self _ _ _ ?_)
    simp only [Bool.not_true, Bool.false_eq_true, if_false]; exact wpAny_pure ⟨rfl, rfl, fun y hy => all y (List.mem_cons_of_mem _ hy)⟩
  · rintro ⟨r1, r2⟩ z' ⟨er, rfl, _⟩
    simp only at er; subst er
    exact wpAny_pure q
theorem noStmt_flat {n : Nat} {z : Shared} {v : Value} (h : carriedByValue v = true) : NoStmt pr w n z v := fun A E Q q => by
  have e : ofAClassStatement n v = pure false := by
    cases v with
    | ref a => simp [carriedByValue] at h
    | _ => cases n <;> rfl
  rw [e]; exact wpAny_pure q
mutual
theorem noStmt_key : ∀ (k : NK) (v : Value) (n : Nat) (z : Shared), NestedIs z.heap k v → k.depth ≤ n → NoStmt pr w n z v
  | .none, _, n, z, x, _ => by cases x; exact noStmt_flat rfl
  | .num i, _, n, z, x, _ => by cases x <;> exact noStmt_flat rfl
  | .text y, _, n, z, x, _ => by cases x; exact noStmt_flat rfl
  | .tup ks, _, n, z, x, hn => by
    cases x with
    | tup h1 h2 h3 h4 =>
      simp only [NestedKey.depth] at hn
      match n, hn with
      | n + 1, hn => exact noStmt_tup h1 h2 h3 (noStmt_keys ks _ n z h4 (by omega))
theorem noStmt_keys : ∀ (ks : List NK) (vs : List Value) (n : Nat) (z : Shared), NestedAll z.heap ks vs → NestedKey.depthAll ks ≤ n → ∀ v ∈ vs, NoStmt pr w n z v
  | [], _, n, z, x, _, v, hv => by cases x; cases hv
  | k :: ks, _, n, z, x, hn, v, hv => by
    cases x with
    | cons a b =>
      simp only [NestedKey.depthAll] at hn
      rcases List.mem_cons.mp hv with e | e
      · rw [e]; exact noStmt_key k _ n z a (by omega)
      · exact noStmt_keys ks _ n z b (by omega) v e
end
mutual
theorem byW_key : ∀ (k : NK) (v : Value) (n : Nat) (z : Shared), NestedIs z.heap k v → nt k = true → k.depth ≤ n → ByW pr w n z v
  | .none, _, n, z, x, _, _ => by cases x; exact fun A E Q q => by rw [show hashByValue n .none = pure true by cases n <;> rfl]; exact wpAny_pure q
  | .num i, _, n, z, x, _, _ => by
    cases x with
    | bool e => exact fun A E Q q => by rw [show ∀ b, hashByValue n (.bool b) = pure true by intro b; cases n <;> rfl]; exact wpAny_pure q
    | int _ t => exact fun A E Q q => by rw [show hashByValue n (.int i t) = pure true by cases n <;> rfl]; exact wpAny_pure q
  | .text y, _, n, z, x, hn, _ => by cases hn
  | .tup ks, _, n, z, x, ht, hn => by
    cases x with
    | tup h1 h2 h3 h4 =>
      simp only [NestedKey.depth] at hn
      match n, hn with
      | n + 1, hn => exact byW_tup h1 h2 h3 (byW_keys ks _ n z h4 ht (by omega))
theorem byW_keys : ∀ (ks : List NK) (vs : List Value) (n : Nat) (z : Shared), NestedAll z.heap ks vs → ntL ks = true → NestedKey.depthAll ks ≤ n → ∀ v ∈ vs, ByW pr w n z v
  | [], _, n, z, x, _, _, v, hv => by cases x; cases hv
  | k :: ks, _, n, z, x, ht, hn, v, hv => by
    cases x with
    | cons a b =>
      simp only [NestedKey.depthAll] at hn
      have ht : (nt k && ntL ks) = true := ht
      rw [Bool.and_eq_true] at ht
      rcases List.mem_cons.mp hv with e | e
      · rw [e]; exact byW_key k _ n z a ht.1 (by omega)
      · exact byW_keys ks _ n z b ht.2 (by omega) v e
end
theorem AtK.past {h h' : Heap} {k : NK} {a p : Addr} {ob : Obj} {es : Array (Int × Value)} {ep : Nat} {t : SetTable} (x : AtK h k p) (ho : h.get? a = some ob) (hd : ob.data = .set es ep t) (sb : Heap.SameBut a h h') : AtK h' k p := x.keep fun b o vs n hb hs => (sb.2 b fun e => by
  subst e
  rw [ho] at hb; cases hb
  rw [hd] at hs; cases hs).trans hb
theorem seenK {z : Shared} {k : NK} {p : Addr} {Q : Bool → Shared → Prop} (x : AtK z.heap k p) {ys : List Value} (hy : ∀ y ∈ ys, ∃ k' q, y = Value.ref q ∧ AtK z.heap k' q) (r : Q false z) : wpAny (model pr w) A (searchCouldBeSeen (.ref p) ys) Q E z := by
  unfold searchCouldBeSeen
  refine wpAny_bind ?_
  refine wpAny_forIn_list _ (fun rst c z' => c.1 = none ∧ z' = z ∧ ∀ y ∈ rst, ∃ k' q, y = Value.ref q ∧ AtK z.heap k' q) _ ?_ ?_ _ _ ⟨rfl, rfl, hy⟩
  · rintro u rst c z' ⟨ec, rfl, all⟩
    obtain ⟨k', q, rfl, hq⟩ := all u List.mem_cons_self
    have more : ∀ y ∈ rst, ∃ k' q, y = Value.ref q ∧ AtK z'.heap k' q := fun y hy' => all y (List.mem_cons_of_mem _ hy')
    dsimp only
    by_cases same : (p == q || (carriedByValue (.ref p) && carriedByValue (.ref q))) = true
    · exact wp_if_pos same (wpAny_pure ⟨rfl, rfl, more⟩)
    · refine wp_if_neg same (wpAny_bind (quiet_key k _ 8 _ x.is x.dp A E _ ?_)); simp only [Bool.not_true, Bool.false_eq_true, if_false]
      refine wpAny_bind (quiet_key k' _ 8 _ hq.is hq.dp A E _ ?_); simp only [Bool.not_true, Bool.false_eq_true, if_false]
      refine wpAny_bind (noStmt_key k _ 8 _ x.is x.dp A E _ ?_); simp only [Bool.false_eq_true, if_false]
      refine wpAny_bind (noStmt_key k' _ 8 _ hq.is hq.dp A E _ ?_); simp only [Bool.false_eq_true, if_false]
      exact wpAny_pure ⟨rfl, rfl, more⟩
  · rintro ⟨c1, c2⟩ z' ⟨ec, rfl, _⟩
    simp only at ec; subst ec
    exact wpAny_pure r
theorem eqK {z : Shared} {k k' : NK} {p q : Addr} {Q : Bool → Shared → Prop} (hu : A.units + 8 < cLine) (x : AtK z.heap k p) (y : AtK z.heap k' q) (r : Q (decide (k = k')) z) : wpAny (model pr w) A (eqBool (.ref p) (.ref q)) Q E z :=
  (nestedKind pr w).eqBool (A := A) hu ⟨x.is, x.dp⟩ ⟨y.is, y.dp⟩ r
theorem hashK {z : Shared} {k : NK} {p : Addr} {Q : Int → Shared → Prop} (hu : A.units + 8 < cLine) (x : AtK z.heap k p) (r : Q (hk w k) { z with toks := z.toks + k.draws }) : wpAny (model pr w) A (pyHash (.ref p)) Q E z :=
  (nestedKind pr w).pyHash (A := A) hu ⟨x.is, x.dp⟩ r
theorem rws_size {w : World} {L : List It} {es : Array (Int × Value)} (h : es.toList = rws w L) : es.size = L.length := by
  rw [← Array.length_toList, h]; exact List.length_map ..
theorem hsh_len {w : World} {L : List It} : (hsh w L).length = L.length := List.length_map ..
theorem rws_at {w : World} {L : List It} {es : Array (Int × Value)} (h : es.toList = rws w L) {i : Nat} {q : It} (hq : L[i]? = some q) : es[i]? = some (hk w q.2, Value.ref q.1) := by
  rw [← Array.getElem?_toList, h]; unfold rws; rw [List.getElem?_map, hq]; rfl
theorem tab_fits {t : SetTable} {n : Nat} (h1 : t.place.size = n) (h2 : t.dummies = #[]) (h3 : n ≤ t.mask) : t.fits n = true := by
  unfold SetTable.fits SetTable.fill
  rw [h2, Bool.and_eq_true]; exact ⟨beq_iff_eq.mpr h1, decide_eq_true (by show t.place.size + 0 ≤ t.mask; omega)⟩
section
variable {z : Shared} {a : Addr} {L : List It} {es : Array (Int × Value)} {ep : Nat} {t : SetTable}
theorem SetN.fits (R : SetN w z.heap a L es ep t) : t.fits es.size = true := by
  have h1 := R.tab.sz; have h3 := R.room; rw [hsh_len] at h1; rw [rws_size R.rw_]
  exact tab_fits h1 R.tab.dm (by omega)
theorem notGone (R : TabOk t (hsh w L)) : ¬ t.gaveWay = true := by
  unfold SetTable.gaveWay; rw [mask_odd R.mok]; decide
abbrev stp (t : SetTable) (w : World) (k : NK) (c : Nat) : SetTable.Probe := nth t.mask (runAt t.mask (SetTable.bits (hk w k) % (t.mask + 1)) (SetTable.bits (hk w k))) c
theorem stp_more (k : NK) (c q : Nat) : nth t.mask (stp t w k c) q = stp t w k (c + q) := (nth_add t.mask c _ q).symm
theorem stp_dummy (k : NK) (c : Nat) : (stp t w k c).dummy = none := by
  have go : ∀ (n : Nat) (p : SetTable.Probe), p.dummy = none → (nth t.mask p n).dummy = none := fun n => by
    induction n with
    | zero => exact fun p h => h
    | succ n ih => exact fun p h => ih (adv t.mask p) (by unfold adv; split <;> exact h)
  exact go c _ rfl
theorem seek (R : SetN w z.heap a L es ep t) {x : Addr} {k : NK} (hx : AtK z.heap k x) (hu : A.units + 8 < cLine) {K : Nat} (hKf : K < 10 * SetTable.turns t.mask) (hK : way t.mask (hk w k) K ∉ t.place.toList) (hKb : ∀ c, c < K → way t.mask (hk w k) c ∈ t.place.toList)
    {Q : SetFound → Shared → Prop} (hin : k ∈ L.map (·.2) → Q (.there none) z) (hout : k ∉ L.map (·.2) → Q (.free (way t.mask (hk w k) K) false) z) :
    ∀ (f c : Nat) (st : Option SetTable.Probe), st.getD (t.probeStart (hk w k)) = stp t w k c → c ≤ K → K - c < f → (∀ (i : Nat) q, L[i]? = some q → q.2 = k → ∃ c', c ≤ c' ∧ c' < K ∧ t.place.toList[i]? = some (way t.mask (hk w k) c')) →
      wpAny (model pr w) A (setSearchFrom a (.ref x) (hk w k) true f st) Q E z
  | 0, _, _, _, _, hf, _ => absurd hf (Nat.not_lt_zero _)
  | f + 1, c, st, hst, hc, hf, hre => by
    obtain ⟨o, ho, hex, hd⟩ := R.ob
    rw [setSearchFrom_succ]; refine wpAny_bind (wpAny_setState_of ho hd R.fits ?_); dsimp only
    refine wp_if_neg (notGone R.tab) ?_; try refine wpAny_bind (wpAny_pure ?_)
    have jj : ∀ q, (nth t.mask (stp t w k c) q).j = way t.mask (hk w k) (c + q) := fun q => congrArg SetTable.Probe.j (stp_more k c q)
    have hAt : ∀ (i : Nat) q, L[i]? = some q → (es[i]?.map (·.1)).getD 0 = hk w q.2 := fun i q e => by rw [rws_at R.rw_ e]; rfl
    have back : c + (K - c) = K := by omega
    have spec := go_spec t R.tab.ris R.tab.dm (fun i => (es[i]?.map (·.1)).getD 0) (hk w k) (10 * SetTable.turns t.mask) (K - c) (stp t w k c) (stp_dummy k c) (by omega) (fun q hq => by rw [jj]; exact hKb _ (by omega)) (by rw [jj, back]; exact hK)
    rcases spec with ⟨q, i, hq, hi, hh, hno, hpr⟩ | ⟨hno, hpr⟩
    · have ep1 : t.probe (fun i => (es[i]?.map (·.1)).getD 0) (hk w k) (st.getD (t.probeStart (hk w k))) = some (.candidate (way t.mask (hk w k) (c + q)) i (stp t w k (c + (q + 1)))) := by
        rw [hst, ← jj, ← stp_more]; exact hpr
      rw [ep1]; dsimp only
      rw [jj] at hi
      have il : i < L.length := by
        have b1 := (List.getElem?_eq_some_iff.mp hi).1; have b2 := R.tab.sz
        rw [hsh_len] at b2; rw [Array.length_toList, b2] at b1; exact b1
      obtain ⟨p, hp⟩ : ∃ p, L[i]? = some p := ⟨_, List.getElem?_eq_getElem il⟩
      have mem := List.mem_of_getElem? hp
      have sl : t.slot (way t.mask (hk w k) (c + q)) = .live i := slot_live R.tab.ris hi
      have tail : wpAny (model pr w) A (searchRest a (.ref x) (hk w k) true f es t (way t.mask (hk w k) (c + q)) i (stp t w k (c + (q + 1)))) Q E z := by
        unfold searchRest
        rw [rws_at R.rw_ hp]; dsimp only
        refine wpAny_bind (wpAny_holding (eqK hu (R.at_ p mem) hx ?_))
        refine wpAny_bind (wpAny_setState_of ho hd R.fits ?_); dsimp only
        by_cases e : p.2 = k
        · exact wp_if_pos (by simp [e]) (wpAny_pure (hin (List.mem_map.mpr ⟨p, mem, e⟩)))
        · refine wp_if_neg (by simp [e]) ?_; try refine wpAny_bind (wpAny_pure ?_)
          rw [sameMem]; dsimp only
          simp only [if_true, sl, rws_at R.rw_ hp]; refine wpAny_bind (wpAny_isSame_ref_self (wpAny_bind (wpAny_pure ?_)))
          simp only [if_true]; refine wp_if_neg (by simp [e]) ?_
          refine seek R hx hu hKf hK hKb hin hout f (c + (q + 1)) _ rfl (by omega) (by omega) fun i0 q0 h0 hk0 => ?_
          obtain ⟨c', g1, g2, g3⟩ := hre i0 q0 h0 hk0
          refine ⟨c', ?_, g2, g3⟩
          rcases Nat.lt_trichotomy c' (c + q) with lt | eq | gt
          · have m0 : c + (c' - c) = c' := by omega
            exact absurd ((hAt i0 q0 h0).trans (congrArg (hk w) hk0)) (hno (c' - c) i0 (by omega) (by rw [jj, m0]; exact g3))
          · rw [eq] at g3
            have s0 := slot_live R.tab.ris g3
            rw [sl] at s0; injection s0 with s0
            rw [← s0, hp] at h0; exact absurd ((congrArg Prod.snd (Option.some.inj h0)).trans hk0) e
          · omega
      by_cases hl : t.led = true
      · refine wp_if_neg (by simp [hl]) ?_; try refine wpAny_bind (wpAny_pure ?_)
        exact tail
      · refine wp_if_pos (by simp [hl]) (wpAny_bind (seenK hx (fun y hy => ?_) ?_))
        · obtain ⟨en, he, ee⟩ := List.mem_map.mp hy
          have i1 : en ∈ es.toList := by
            have := (show en ∈ es ∧ en.1 = hk w k by simpa using he).1
            simpa using this
          rw [R.rw_] at i1
          obtain ⟨q2, m2, e2⟩ := List.mem_map.mp i1
          exact ⟨q2.2, q2.1, by rw [← ee, ← e2], R.at_ q2 m2⟩
        · refine wp_if_neg (by decide) ?_; try refine wpAny_bind (wpAny_pure ?_)
          exact tail
    · have ep1 : t.probe (fun i => (es[i]?.map (·.1)).getD 0) (hk w k) (st.getD (t.probeStart (hk w k))) = some (.empty (way t.mask (hk w k) K) none) := by
        rw [hst, show way t.mask (hk w k) K = (nth t.mask (stp t w k c) (K - c)).j by rw [jj, back]]; exact hpr
      rw [ep1]; dsimp only
      refine wpAny_pure (hout fun hm => ?_)
      obtain ⟨q0, h0, hk0⟩ := List.mem_map.mp hm
      obtain ⟨i0, hi0⟩ := List.mem_iff_getElem?.mp h0
      obtain ⟨c', g1, g2, g3⟩ := hre i0 q0 hi0 hk0
      have m0 : c + (c' - c) = c' := by omega
      exact hno (c' - c) i0 (by omega) (by rw [jj, m0]; exact g3) ((hAt i0 q0 hi0).trans (congrArg (hk w) hk0))
theorem seekAll (R : SetN w z.heap a L es ep t) {x : Addr} {k : NK} (hx : AtK z.heap k x) (hu : A.units + 8 < cLine) {Q : SetFound → Shared → Prop} (hin : k ∈ L.map (·.2) → Q (.there none) z)
    (hout : ∀ K, k ∉ L.map (·.2) → way t.mask (hk w k) K ∉ t.place.toList → (∀ c, c < K → way t.mask (hk w k) c ∈ t.place.toList) → Q (.free (way t.mask (hk w k) K) false) z) : wpAny (model pr w) A (setSearch a (.ref x) (hk w k) true) Q E z := by
  have rm := R.room
  obtain ⟨K, k1, k2, k3⟩ := R.tab.first (by rw [hsh_len]; omega) (hk w k)
  have big : K < 100000 := by
    have : 10 * SetTable.turns t.mask ≤ 1420 := by unfold SetTable.turns; rcases R.tab.mok with e | e | e <;> omega
    omega
  unfold setSearch
  refine seek R hx hu k1 k2 k3 hin (fun hn => hout K hn k2 k3) 100000 0 none rfl (Nat.zero_le _) (by omega) fun i q hq e => ?_
  have h1 : (hsh w L)[i]? = some (hk w k) := by unfold hsh; rw [List.getElem?_map, hq, ← e]; rfl
  have il : i < t.place.toList.length := by
    have b2 := R.tab.sz; rw [hsh_len] at b2
    rw [Array.length_toList, b2]; exact (List.getElem?_eq_some_iff.mp hq).1
  have h2 := List.getElem?_eq_getElem il
  obtain ⟨c, c1, c2⟩ := R.tab.before k2 h1 h2
  exact ⟨c, Nat.zero_le _, c1, by rw [h2, c2]⟩
theorem rws_put (p : Nat) (x : It) : rws w (L.take p ++ x :: L.drop p) = (rws w L).take p ++ (hk w x.2, Value.ref x.1) :: (rws w L).drop p := by
  unfold rws
  simp only [List.map_append, List.map_cons, List.map_take, List.map_drop]
theorem hsh_put (p : Nat) (x : It) : hsh w (L.take p ++ x :: L.drop p) = (hsh w L).take p ++ hk w x.2 :: (hsh w L).drop p := by
  unfold hsh
  simp only [List.map_append, List.map_cons, List.map_take, List.map_drop]
theorem put_p {α : Type} (l : List α) (p : Nat) (x : α) : (l.take p ++ x :: l.drop p).Perm (x :: l) := by
  have := List.perm_middle (a := x) (l₁ := l.take p) (l₂ := l.drop p)
  rwa [List.take_append_drop] at this
theorem all_range {α : Type} (l : List α) : (List.range l.length).filterMap (fun i => l[i]?) = l := by
  refine List.ext_getElem? fun i => ?_
  have e : ∀ n, n ≤ l.length → (List.range n).filterMap (fun i => l[i]?) = l.take n := fun n => by
    induction n with
    | zero => exact fun _ => rfl
    | succ n ih =>
      intro hn
      have lt : n < l.length := hn
      rw [List.range_succ, List.filterMap_append, ih (Nat.le_of_lt lt), List.take_succ, List.getElem?_eq_getElem lt, List.filterMap_cons_some (List.getElem?_eq_getElem lt)]; rfl
  rw [e _ (Nat.le_refl _), List.take_length]
theorem rws_order (hr : es.toList = rws w L) {ord : Array Nat} (hp : ord.toList.Perm (List.range L.length)) : ∃ L2, (ord.filterMap (es[·]?)).toList = rws w L2 ∧ L2.Perm L ∧ hsh w L2 = ord.toList.map fun i => (es.map (·.1)).getD i 0 := by
  have key : ∀ l : List Nat, (∀ i ∈ l, i < L.length) → l.filterMap (fun i => es[i]?) = rws w (l.filterMap fun i => L[i]?) ∧ hsh w (l.filterMap fun i => L[i]?) = l.map fun i => (es.map (·.1)).getD i 0 := fun l => by
    induction l with
    | nil => exact fun _ => ⟨rfl, rfl⟩
    | cons i l ih =>
      intro hl
      have lt := hl i List.mem_cons_self
      obtain ⟨e1, e2⟩ := ih fun j hj => hl j (List.mem_cons_of_mem _ hj)
      have g := List.getElem?_eq_getElem lt
      have r := rws_at hr g
      have m : (es.map (·.1))[i]? = some (hk w (L[i]).2) := by rw [Array.getElem?_map, r]; rfl
      rw [List.filterMap_cons_some r, List.filterMap_cons_some g, e1, List.map_cons, ← e2]
      refine ⟨rfl, ?_⟩
      rw [show (es.map (·.1)).getD i 0 = hk w (L[i]).2 by simp [Array.getD_eq_getD_getElem?, m]]; rfl
  obtain ⟨e1, e2⟩ := key ord.toList fun i hi => List.mem_range.mp (hp.mem_iff.mp hi)
  refine ⟨_, by first | (rw [Array.toList_filterMap]; exact e1) | simpa using e1, ?_, e2⟩
  have := hp.filterMap fun i => L[i]?
  rwa [all_range] at this
theorem relayN {o : Obj} (ho : z.heap.get? a = some o) (hex : o.ExactSet) (hd : o.data = .set es ep t) (hr : es.toList = rws w L) (hsz : t.place.size = es.size) (hdm : t.dummies = #[]) (hfl : es.size ≤ t.mask) (nd : (L.map (·.2)).Nodup) (hat : ∀ q ∈ L, AtK z.heap q.2 q.1) (pl : t.plain = true)
    (ld : w.params.followText "set-order" = true ∨ t.led = true) (few : L.length < 64) {wanted M : Nat} (hw : SetTable.sizeAbove wanted - 1 = M) (hM : MaskOk M) (hw2 : SetTable.sizeAbove wanted ≤ 128) (hn : L.length * 5 < M * 3) {Q : Unit → Shared → Prop}
    (q : ∀ h' L' es' ep' t', Heap.SameBut a z.heap h' → SetN w h' a L' es' ep' t' → L'.Perm L → Q () { z with heap := h' }) : wpAny (model pr w) A (setRelay a wanted) Q E z := by
  have sl := rws_size hr
  obtain ⟨t', ord, e, hp, T, em, el, e_pl, e_sz⟩ := relaid_ok t (hs := es.map (·.1)) (wanted := wanted) hw hM (by rw [Array.size_map, sl]; omega)
  rw [Array.size_map, sl] at hp
  obtain ⟨L2, r1, r2, r3⟩ := rws_order hr hp
  rw [← r3] at T
  have s2 : (ord.filterMap (es[·]?)).size = es.size := by rw [rws_size r1, r2.length_eq, sl]
  rw [setRelay_eq]
  refine wpAny_bind (wpAny_setState_of ho hd (tab_fits hsz hdm hfl) ?_); dsimp only
  refine wp_if_neg (by rw [sizeLine_eq]; omega) ?_; try refine wpAny_bind (wpAny_pure ?_)
  rw [e]; dsimp only
  refine wpAny_bind (wp_if_neg (by rw [s2]; simp) ?_); try refine wpAny_bind (wpAny_pure ?_)
  refine wpAny_pure ?_; dsimp only
  refine wpAny_storeSet_of ho hd ?_ (by rw [s2, sl, sizeLine_eq]; omega)
  have sb : Heap.SameBut a z.heap (z.heap.update a (Obj.putSet (ord.filterMap (es[·]?)) t')) := Heap.SameBut.update ..
  refine q _ L2 _ (ep + 1) t' sb ⟨⟨_, store_at ho hd, ⟨hex.1, hex.2.1, hex.2.2⟩, rfl⟩, r1, T, (r2.map (·.2)).nodup_iff.mpr nd, fun q hq => (hat q (r2.mem_iff.mp hq)).past ho hd sb, by rw [e_pl]; exact pl, by rw [el]; exact ld, ?_, by rw [r2.length_eq]; exact few⟩ r2
  rw [r2.length_eq, em]; exact hn
theorem addN (R : SetN w z.heap a L es ep t) {x : Addr} {k : NK} (hx : AtK z.heap k x) (hu : A.units + 8 < cLine) (hfew : L.length + 1 < 64) {Q : Bool → Shared → Prop}
    (hq : ∀ b h' L' es' ep' t', Heap.SameBut a z.heap h' → SetN w h' a L' es' ep' t' → (k ∈ L.map (·.2) → L' = L) → (k ∉ L.map (·.2) → L'.Perm ((x, k) :: L)) → Q b { z with heap := h' }) : wpAny (model pr w) A (setAddHashed a (.ref x) (hk w k)) Q E z := by
  obtain ⟨o, ho, hex, hd⟩ := R.ob
  have sl := rws_size R.rw_
  have rm := R.room
  unfold setAddHashed
  refine wpAny_holding ?_
  rw [show (100000 : Nat) = 99999 + 1 from rfl, setAddHashedIn_succ]; refine wpAny_bind (wpAny_setState_of ho hd R.fits ?_); dsimp only
  refine wp_if_neg (by simp [byScan, Value.scannable]) ?_; try refine wpAny_bind (wpAny_pure ?_)
  refine wpAny_bind (seekAll R hx hu (fun hm => ?_) fun K hm hK hb => ?_)
  · dsimp only; exact wpAny_pure (hq false z.heap L es ep t (Heap.SameBut.refl a z.heap) R (fun _ => rfl) fun n => absurd hm n)
  · dsimp only
    refine wpAny_bind (wpAny_setState_of ho hd R.fits ?_); dsimp only
    obtain ⟨q1, q2, q3, q4, q5, q6, q7, q8, q9⟩ := R.tab.put hK hb
    have pl1 : (t.put (way t.mask (hk w k) K)).1.plain = true := by rw [q6]; exact R.pl
    generalize t.put (way t.mask (hk w k) K) = tp at q1 q3 q4 q5 q6 q7 q8 q9 pl1 ⊢
    obtain ⟨t1, p⟩ := tp
    dsimp only at q1 q3 q4 q5 q6 q7 q8 q9 pl1 ⊢; subst q1
    have by_ : ∀ {Q : Bool → Shared → Prop}, Q true z → wpAny (model pr w) A (hashByValue 8 (.ref x)) Q E z := fun r => byW_key k _ 8 _ hx.is hx.nt hx.dp A E _ r
    first
      | (refine wpAny_bind ?_; refine wp_if_pos pl1 ?_; refine by_ ?_)
      | refine wp_if_pos pl1 (wpAny_bind (by_ ?_))
    simp only [if_true]
    generalize ep0 : SetTable.below t.place (way t.mask (hk w k) K) = p at q2 q3 ⊢
    have pm := put_p L p (x, k)
    have ln : (L.take p ++ (x, k) :: L.drop p).length = L.length + 1 := pm.length_eq
    have hin : (SetTable.insertAt es p (hk w k, Value.ref x)).toList = rws w (L.take p ++ (x, k) :: L.drop p) := by rw [SetTable.toList_insertAt, rws_put, R.rw_]
    rw [← hsh_put p (x, k)] at q3
    have nd1 : ((L.take p ++ (x, k) :: L.drop p).map (·.2)).Nodup := (pm.map (·.2)).nodup_iff.mpr (List.nodup_cons.mpr ⟨hm, R.nd⟩)
    have sz1 := rws_size hin
    rw [ln] at sz1
    generalize SetTable.insertAt es p (hk w k, Value.ref x) = es1 at hin sz1 ⊢
    generalize L.take p ++ (x, k) :: L.drop p = L1 at pm ln q3 nd1 hin
    refine wpAny_bind (wpAny_storeSet_of ho hd ?_ (by rw [sz1, sizeLine_eq]; omega))
    have sb : Heap.SameBut a z.heap (z.heap.update a (Obj.putSet es1 t1)) := Heap.SameBut.update ..
    have ho1 := store_at (es' := es1) (t' := t1) ho hd
    generalize z.heap.update a (Obj.putSet es1 t1) = h1 at sb ho1 ⊢
    have at1 : ∀ q ∈ L1, AtK h1 q.2 q.1 := fun q hq1 => (List.mem_cons.mp (pm.mem_iff.mp hq1)).elim (fun e => by rw [e]; exact hx.past ho hd sb) fun m => (R.at_ q m).past ho hd sb
    have ld1 : w.params.followText "set-order" = true ∨ t1.led = true := by rw [q5]; exact R.ld
    rw [hsh_len] at q9
    by_cases hf : t1.tooFull = true
    · first
        | (refine wpAny_bind ?_; refine wp_if_pos (by simp [hf]) ?_)
        | (refine wp_if_pos (by simp [hf]) ?_; refine wpAny_bind ?_)
      have full : (L.length + 1) * 5 ≥ t1.mask * 3 := by
        have h := hf
        unfold SetTable.tooFull at h; rw [decide_eq_true_eq, q9] at h; exact h
      rw [sl]
      have psz : t1.place.size = es1.size := by have h := q3.sz; rw [hsh_len, ln] at h; rw [h, sz1]
      have two : (t.mask = 7 ∧ L.length = 4) ∨ (t.mask = 31 ∧ L.length = 18) := by
        rcases R.tab.mok with e | e | e <;> (rw [q4, e] at full; rw [e] at rm)
        · exact .inl ⟨e, by omega⟩
        · exact .inr ⟨e, by omega⟩
        · omega
      have go : ∀ M, SetTable.sizeAbove (SetTable.grown (L.length + 1)) - 1 = M → MaskOk M → SetTable.sizeAbove (SetTable.grown (L.length + 1)) ≤ 128 → (L.length + 1) * 5 < M * 3 → wpAny (model pr w) A (setRelay a (SetTable.grown (L.length + 1))) (fun _ z' => wpAny (model pr w) A (pure true) Q E z') E { z with heap := h1 } := fun M g1 g2 g3 g4 =>
        relayN (z := { z with heap := h1 }) ho1 ⟨hex.1, hex.2.1, hex.2.2⟩ rfl hin psz q3.dm (by rw [sz1, q4]; rcases two with ⟨e, e2⟩ | ⟨e, e2⟩ <;> omega) nd1 at1 pl1 ld1 (by rw [ln]; exact hfew) g1 g2 g3 (by rw [ln]; exact g4) fun h2 L2 es2 ep2 t2 sb2 R2 pm2 => wpAny_pure (hq true h2 L2 es2 ep2 t2 (sb.trans sb2) R2 (fun n => absurd n hm) fun _ => pm2.trans pm)
      rcases two with ⟨_, e2⟩ | ⟨_, e2⟩
      · exact go 31 (by rw [e2, size_20]) (.inr (.inl rfl)) (by rw [e2, size_20]; decide) (by omega)
      · exact go 127 (by rw [e2, size_76]) (.inr (.inr rfl)) (by rw [e2, size_76]; decide) (by omega)
    · first
        | refine wp_if_neg (by simp [hf]) ?_
        | (refine wpAny_bind ?_; refine wp_if_neg (by simp [hf]) ?_; refine wpAny_pure ?_)
      refine wpAny_pure (hq true h1 L1 es1 (ep + 1) t1 sb ⟨⟨_, ho1, ⟨hex.1, hex.2.1, hex.2.2⟩, rfl⟩, hin, q3, nd1, at1, pl1, ld1, ?_, by rw [ln]; exact hfew⟩ (fun n => absurd n hm) fun _ => pm)
      have h := hf
      unfold SetTable.tooFull at h; rw [decide_eq_true_eq, q9] at h; rw [ln]; omega
abbrev newSet (w : World) : Obj := { cls := .type "set", dict := none, data := .set #[] 0 (.fresh 0 0 (!w.params.followText "set-order")) }
theorem setN_new {h : Heap} (ho : h.get? a = some (newSet w)) : SetN w h a [] #[] 0 (.fresh 0 0 (!w.params.followText "set-order")) where
  ob := ⟨_, ho, ⟨rfl, rfl, rfl⟩, rfl⟩
  rw_ := rfl
  tab := ⟨List.Pairwise.nil, rfl, rfl, .inl rfl, (fun x hx => by cases hx), fun i h j hi => by cases hi⟩
  nd := List.nodup_nil
  at_ := fun q hq => nomatch hq
  pl := rfl
  ld := by cases e : w.params.followText "set-order" with
    | true => exact .inl rfl
    | false => exact .inr rfl
  room := (by decide : 0 * 5 < 7 * 3)
  few := (by decide : 0 < 64)
theorem Had.old {ks L : List It} {i : Nat} {x : It} (g : Had ks i L) (h : ks[i]? = some x) (m : x.2 ∈ L.map (·.2)) : Had ks (i + 1) L := by
  have e := take_one h
  refine ⟨fun q hq => by rw [e]; exact List.mem_append_left _ (g.sub q hq), fun q hq => ?_, Nat.le_succ_of_le g.len⟩
  rw [e] at hq
  rcases List.mem_append.mp hq with c | c
  · exact g.all q c
  · rw [List.mem_singleton.mp c]; exact m
theorem loopN {I : Addr} {fp wr : List Addr} {GG : Array GenState → Array GenState → Prop} {n : Nat} {Pv : Nat → Value → Prop} {St : Nat → Shared → Prop} {R : Result → Shared → Prop} (W : WalksS pr w A.in1 I fp wr GG n Pv St) (S : Addr) (sf : S ∉ fp) (ks : List It) (hn : n = ks.length) (few : ks.length < 64)
    (val : ∀ i v, Pv i v → ∃ q, ks[i]? = some q ∧ v = .ref q.1) (h0 : Heap) (hks : ∀ q ∈ ks, AtK h0 q.2 q.1) (s0 : h0.get? S = none) (w0 : ∀ b ∈ wr, h0.get? b = none) (hu : A.in1.units + 8 < cLine) :
    ∀ (k i : Nat) (z : Shared), n - i = k → i ≤ n → St i z → (∀ b o, h0.get? b = some o → z.heap.get? b = some o) → (∃ L es ep t, SetN w z.heap S L es ep t ∧ Had ks i L) →
      (∀ z' L es ep t, Moved (S :: wr) GG z z' → SetN w z'.heap S L es ep t → Had ks n L → (∀ b o, h0.get? b = some o → z'.heap.get? b = some o) → R (.ok (.ret .none)) z') → codeAny (model pr w) A (.builtin "set.update.loop" ⟨[.ref S, .ref I], []⟩) R z := by
  have sw : S ∉ wr := fun h => sf (W.sub _ h)
  have into : ∀ b ∈ wr, b ∈ S :: wr := fun b hb => List.mem_cons_of_mem _ hb
  have stay : ∀ {z z' : Shared}, Moved wr GG z z' → (∀ b o, h0.get? b = some o → z.heap.get? b = some o) → ∀ b o, h0.get? b = some o → z'.heap.get? b = some o := fun mv kp b o e => mv.heap b o (fun hb => by rw [w0 b hb] at e; cases e) (kp b o e)
  intro k
  induction k with
  | zero =>
    rintro i z hk' hi st kp ⟨L, es, ep, t, hS, g⟩ hR
    obtain rfl : i = n := by omega
    refine codeAny_builtin F.entry_set_update_loop ?_; rw [Around.under_plainId F.plain_set_update_loop _]
    show wpAny _ A.in1 (pyNext (.ref I) >>= _) _ _ z
    refine wpAny_bind (W.done z _ _ st fun z' mv => ?_); show wpAny _ A.in1 (ret Value.none) _ _ z'
    have kp' := stay mv kp
    exact wpAny_pure (hR z' L es ep t (mv.mono into) (hS.keep (fun o e => mv.heap S o sw e) fun q hq => (hks q (List.mem_of_mem_take (g.sub q hq))).same kp') g kp')
  | succ k ih =>
    rintro i z hk' hi st kp ⟨L, es, ep, t, hS, g⟩ hR
    have lt : i < n := by omega
    refine codeAny_builtin F.entry_set_update_loop ?_; rw [Around.under_plainId F.plain_set_update_loop _]
    show wpAny _ A.in1 (pyNext (.ref I) >>= _) _ _ z
    refine wpAny_bind (W.item i z _ _ lt st fun v z' hP st' mv => ?_)
    obtain ⟨q, hq, rfl⟩ := val i v hP
    have kp' := stay mv kp
    have R1 : SetN w z'.heap S L es ep t := hS.keep (fun o e => mv.heap S o sw e) fun r hr => (hks r (List.mem_of_mem_take (g.sub r hr))).same kp'
    have hx : AtK z'.heap q.2 q.1 := (hks q (List.mem_of_getElem? hq)).same kp'
    show wpAny _ A.in1 (holding [Value.ref q.1] (setAdd S (.ref q.1)) >>= _) _ _ z'
    refine wpAny_bind (wpAny_holding ?_); unfold setAdd
    refine wpAny_holding (wpAny_bind (hashK hu hx ?_))
    refine addN (z := { z' with toks := z'.toks + q.2.draws }) R1 hx hu (by have := g.len; omega) fun b h' L' es' ep' t' sb R2 c1 c2 => ?_
    have g' : Had ks (i + 1) L' := (Classical.em (q.2 ∈ L.map (·.2))).elim (fun c => by rw [c1 c]; exact g.old hq c) fun c => g.new hq (c2 c)
    have kp2 : ∀ b o, h0.get? b = some o → h'.get? b = some o := fun b o e => (sb.2 b (fun c => by rw [c, s0] at e; cases e)).trans (kp' b o e)
    refine wpAny_pure ⟨plainId_quiet F.plain_set_update_loop _, ih (i + 1) _ (by omega) lt (W.frame _ z' _ _ st' (Nat.le_add_right _ _) fun b hb o e => by rw [sb.2 b fun c => sf (c ▸ hb)]; exact e) kp2 ⟨L', es', ep', t', R2, g'⟩ fun z2 L2 es2 ep2 t2 mv2 R3 g2 kp3 => hR z2 L2 es2 ep2 t2 (Moved.trans W.gtrans ((mv.mono into).then_heap (Nat.le_add_right _ _) fun b o hb e => ?_) mv2) R3 g2 kp3⟩
    rw [sb.2 b fun c => hb (by rw [c]; exact List.mem_cons_self)]; exact e
theorem call_setN {l : Addr} {items : Array Value} (ks : List It) {Q : Value → Shared → Prop} (hh : A.handled = none) (hl : z.heap.IsList l items) (hit : items.toList = ks.map fun q => Value.ref q.1) (hks : ∀ q ∈ ks, AtK z.heap q.2 q.1) (few : ks.length < 64) (hu : A.units + 16 < cLine)
    (r : ∀ (h' : Heap) (tk : Nat) L es ep t, SetN w h' z.heap.objs.size L es ep t → Had ks ks.length L → (∀ b o, z.heap.get? b = some o → h'.get? b = some o) → Q (.ref z.heap.objs.size) { z with heap := h', toks := tk }) : wpAny (model pr w) A (call (.type "set") [.ref l]) Q E z := by
  have isz : items.size = ks.length := by rw [← Array.length_toList, hit]; exact List.length_map ..
  obtain ⟨c, tl, hmro⟩ := F.called_set.mro
  have f1 := F.called_set.made; have f2 := F.called_set.sub
  refine wpAny_call (codeAny_of_tree ?_); show wpAny _ _ (callAny (.type "set") _) _ _ _
  refine wpAny_pure ⟨Code.quiet_builtin _ (by decide +kernel), codeAny_builtin F.entry_type_call ?_⟩
  rw [Around.under_plain (weight_type_call_type "set" [.ref l] []) rfl]
  have f3 := F.called_set.notType; have f4 := F.called_set.canCreate; have f5 := F.typeCall_set_1 (.ref l)
  repeat (any_goals (first | assumption | wp_step))
  refine codeAny_mono (code_set_led1 (.ref l) (E := E) (Q₁ := fun ob z1 => ob = .ref z.heap.objs.size ∧ z1 = { z with heap := z.heap.push (newSet w) }) ⟨rfl, rfl⟩) fun rr z1 hr => ?_
  match rr, hr with
  | .error e, hr => exact hr
  | .ok (.ret ob), hr =>
    obtain ⟨rfl, rfl⟩ := hr
    have gS : (z.heap.push (newSet w)).get? z.heap.objs.size = some (newSet w) := Heap.get?_push_size _ rfl
    have tS : Shared.TypeIs { z with heap := z.heap.push (newSet w) } (.ref z.heap.objs.size) "set" := ⟨_, gS, rfl⟩
    have f6 := F.called_set.init.lookup; have f7 := F.called_set.init.bind (.ref z.heap.objs.size)
    repeat (any_goals (first | assumption | wp_step))
    refine codeAny_mono (codeAny_call_builtin (R := wants (fun v z2 => v = .none ∧ ∃ h' tk L es ep t, z2 = { z with heap := h', toks := tk } ∧ SetN w h' z.heap.objs.size L es ep t ∧ Had ks ks.length L ∧ (∀ b o, z.heap.get? b = some o → h'.get? b = some o)) E) F.called_set.init.plain F.entry_set_init (check_set_init_1 tS ?_)) fun r2 z2 hr2 => ?_
    · obtain ⟨ol, hol, hcl, nl, hdl⟩ := hl
      obtain ⟨ocls, odict, odata, oslots⟩ := ol
      simp only at hcl hdl; subst hcl; subst hdl
      have hol' : (z.heap.push (newSet w)).get? l = some { cls := .type "list", dict := odict, data := .seq items nl, slots := oslots } := Heap.get?_push_of_some _ hol
      have u1 := F.sub_list_set; have u2 := F.sub_list_frozenset
      have u3 : (Value.type "list" == Value.type "dict") = false := by decide
      have hl1 : (z.heap.push (newSet w)).IsList l items := ⟨_, hol', rfl, nl, rfl⟩
      unfold Builtin.«set.__init__» noKeywords Builtin.Frozenset.updateFrom
      generalize hPI : pyIter = PI
      wp_walk
      subst hPI
      refine wpAny_pyIter_list hl1 (wpAny_bind (wpAny_runValue ?_))
      have lS : l < z.heap.objs.size := Heap.lt_size hol
      have hh3 : A.in1.in1.in1.handled = none := by simp [hh]
      have nI : l ≠ (z.heap.push (newSet w)).objs.size := by rw [Heap.size_push]; exact Nat.ne_of_lt (Nat.lt_succ_of_lt lS)
      have sf : z.heap.objs.size ∉ [(z.heap.push (newSet w)).objs.size, l] := by
        rw [Heap.size_push]
        intro c
        rcases List.mem_cons.mp c with e | e
        · exact Nat.ne_of_lt (Nat.lt_succ_self _) e
        · exact Nat.ne_of_gt lS (List.mem_singleton.mp e)
      have val : ∀ (i : Nat) (v : Value), items[i]? = some v → ∃ q, ks[i]? = some q ∧ v = .ref q.1 := fun i v hv => by
        rw [← Array.getElem?_toList, hit, List.getElem?_map] at hv
        cases e : ks[i]? with
        | none => rw [e] at hv; cases hv
        | some q => rw [e] at hv; exact ⟨q, rfl, (Option.some.inj hv).symm⟩
      have out : ∀ b, z.heap.objs.size ≤ b → z.heap.get? b = none := fun b hb => by
        cases e : z.heap.get? b with
        | none => rfl
        | some o => exact absurd (Heap.lt_size e) (Nat.not_lt.mpr hb)
      refine loopN ((Walks.list hh3 _ l nI items).toS) z.heap.objs.size sf ks isz few val z.heap hks (out _ (Nat.le_refl _)) (fun b hb => out b (by rw [List.mem_singleton.mp hb, Heap.size_push]; omega)) (by simp only [Around.in1_units] at *; omega) (items.size - 0) 0 _ (by omega) (Nat.zero_le _)
        ⟨⟨_, Heap.get?_push_size _ rfl, rfl, rfl⟩, (hl1.push _)⟩ (fun b o e => Heap.get?_push_of_some _ (Heap.get?_push_of_some _ e)) ⟨[], #[], 0, _, setN_new (Heap.get?_push_of_some _ gS), Had.nil ks⟩ ?_
      intro z' L es ep t mv R1 g kp
      obtain ⟨h', g2, d', tk', os'⟩ := z'
      obtain rfl : g2 = z.gens := mv.gens
      obtain rfl : d' = z.drawn := mv.drawn
      obtain rfl : os' = z.os := mv.os
      show wpAny _ _ _ _ _ _
      refine wpAny_pure ?_; show wpAny _ _ (ret Value.none) _ _ _
      rw [isz] at g
      exact wpAny_pure ⟨rfl, h', tk', L, es, ep, t, rfl, R1, g, kp⟩
    · match r2, hr2 with
      | .error e, hr2 => exact hr2
      | .ok (.ret v), hr2 =>
        obtain ⟨rfl, h', tk, L, es, ep, t, rfl, R1, g, kp⟩ := hr2
        repeat (any_goals (first | assumption | wp_step))
        exact r _ _ _ _ _ _ R1 g kp
theorem call_setNT {l : Addr} {items : Array Value} (ks : List It) {Q : Value → Shared → Prop} (hh : A.handled = none) (hl : z.heap.IsTuple l items) (hit : items.toList = ks.map fun q => Value.ref q.1) (hks : ∀ q ∈ ks, AtK z.heap q.2 q.1) (few : ks.length < 64) (hu : A.units + 16 < cLine)
    (r : ∀ (h' : Heap) (tk : Nat) L es ep t, SetN w h' z.heap.objs.size L es ep t → Had ks ks.length L → (∀ b o, z.heap.get? b = some o → h'.get? b = some o) → Q (.ref z.heap.objs.size) { z with heap := h', toks := tk }) : wpAny (model pr w) A (call (.type "set") [.ref l]) Q E z := by
  have isz : items.size = ks.length := by rw [← Array.length_toList, hit]; exact List.length_map ..
  obtain ⟨c, tl, hmro⟩ := F.called_set.mro
  have f1 := F.called_set.made; have f2 := F.called_set.sub
  refine wpAny_call (codeAny_of_tree ?_); show wpAny _ _ (callAny (.type "set") _) _ _ _
  refine wpAny_pure ⟨Code.quiet_builtin _ (by decide +kernel), codeAny_builtin F.entry_type_call ?_⟩
  rw [Around.under_plain (weight_type_call_type "set" [.ref l] []) rfl]
  have f3 := F.called_set.notType; have f4 := F.called_set.canCreate; have f5 := F.typeCall_set_1 (.ref l)
  repeat (any_goals (first | assumption | wp_step))
  refine codeAny_mono (code_set_led1 (.ref l) (E := E) (Q₁ := fun ob z1 => ob = .ref z.heap.objs.size ∧ z1 = { z with heap := z.heap.push (newSet w) }) ⟨rfl, rfl⟩) fun rr z1 hr => ?_
  match rr, hr with
  | .error e, hr => exact hr
  | .ok (.ret ob), hr =>
    obtain ⟨rfl, rfl⟩ := hr
    have gS : (z.heap.push (newSet w)).get? z.heap.objs.size = some (newSet w) := Heap.get?_push_size _ rfl
    have tS : Shared.TypeIs { z with heap := z.heap.push (newSet w) } (.ref z.heap.objs.size) "set" := ⟨_, gS, rfl⟩
    have f6 := F.called_set.init.lookup; have f7 := F.called_set.init.bind (.ref z.heap.objs.size)
    repeat (any_goals (first | assumption | wp_step))
    refine codeAny_mono (codeAny_call_builtin (R := wants (fun v z2 => v = .none ∧ ∃ h' tk L es ep t, z2 = { z with heap := h', toks := tk } ∧ SetN w h' z.heap.objs.size L es ep t ∧ Had ks ks.length L ∧ (∀ b o, z.heap.get? b = some o → h'.get? b = some o)) E) F.called_set.init.plain F.entry_set_init (check_set_init_1 tS ?_)) fun r2 z2 hr2 => ?_
    · obtain ⟨ol, hol, hcl, nl, hdl⟩ := hl
      obtain ⟨ocls, odict, odata, oslots⟩ := ol
      simp only at hcl hdl; subst hcl; subst hdl
      have hol' : (z.heap.push (newSet w)).get? l = some { cls := .type "tuple", dict := odict, data := .seq items nl, slots := oslots } := Heap.get?_push_of_some _ hol
      have u1 := F.sub_tuple_set; have u2 := F.sub_tuple_frozenset
      have u3 : (Value.type "tuple" == Value.type "dict") = false := by decide
      have hl1 : (z.heap.push (newSet w)).IsTuple l items := ⟨_, hol', rfl, nl, rfl⟩
      unfold Builtin.«set.__init__» noKeywords Builtin.Frozenset.updateFrom
      generalize hPI : pyIter = PI
      wp_walk
      subst hPI
      refine wpAny_pyIter_tuple hl1 (wpAny_bind (wpAny_runValue ?_))
      have lS : l < z.heap.objs.size := Heap.lt_size hol
      have hh3 : A.in1.in1.in1.handled = none := by simp [hh]
      have nI : l ≠ (z.heap.push (newSet w)).objs.size := by rw [Heap.size_push]; exact Nat.ne_of_lt (Nat.lt_succ_of_lt lS)
      have sf : z.heap.objs.size ∉ [(z.heap.push (newSet w)).objs.size, l] := by
        rw [Heap.size_push]
        intro c
        rcases List.mem_cons.mp c with e | e
        · exact Nat.ne_of_lt (Nat.lt_succ_self _) e
        · exact Nat.ne_of_gt lS (List.mem_singleton.mp e)
      have val : ∀ (i : Nat) (v : Value), items[i]? = some v → ∃ q, ks[i]? = some q ∧ v = .ref q.1 := fun i v hv => by
        rw [← Array.getElem?_toList, hit, List.getElem?_map] at hv
        cases e : ks[i]? with
        | none => rw [e] at hv; cases hv
        | some q => rw [e] at hv; exact ⟨q, rfl, (Option.some.inj hv).symm⟩
      have out : ∀ b, z.heap.objs.size ≤ b → z.heap.get? b = none := fun b hb => by
        cases e : z.heap.get? b with
        | none => rfl
        | some o => exact absurd (Heap.lt_size e) (Nat.not_lt.mpr hb)
      refine loopN ((Walks.tuple hh3 _ l nI items).toS) z.heap.objs.size sf ks isz few val z.heap hks (out _ (Nat.le_refl _)) (fun b hb => out b (by rw [List.mem_singleton.mp hb, Heap.size_push]; omega)) (by simp only [Around.in1_units] at *; omega) (items.size - 0) 0 _ (by omega) (Nat.zero_le _)
        ⟨⟨_, Heap.get?_push_size _ rfl, rfl, rfl⟩, (hl1.push _)⟩ (fun b o e => Heap.get?_push_of_some _ (Heap.get?_push_of_some _ e)) ⟨[], #[], 0, _, setN_new (Heap.get?_push_of_some _ gS), Had.nil ks⟩ ?_
      intro z' L es ep t mv R1 g kp
      obtain ⟨h', g2, d', tk', os'⟩ := z'
      obtain rfl : g2 = z.gens := mv.gens
      obtain rfl : d' = z.drawn := mv.drawn
      obtain rfl : os' = z.os := mv.os
      show wpAny _ _ _ _ _ _
      refine wpAny_pure ?_; show wpAny _ _ (ret Value.none) _ _ _
      rw [isz] at g
      exact wpAny_pure ⟨rfl, h', tk', L, es, ep, t, rfl, R1, g, kp⟩
    · match r2, hr2 with
      | .error e, hr2 => exact hr2
      | .ok (.ret v), hr2 =>
        obtain ⟨rfl, h', tk, L, es, ep, t, rfl, R1, g, kp⟩ := hr2
        repeat (any_goals (first | assumption | wp_step))
        exact r _ _ _ _ _ _ R1 g kp
end
end
end DLS
namespace DLS
open PySem PySem.Spec PyProof.Rows L2
theorem nodup_lt {α : Type} : ∀ {l m : List α}, ¬ l.Nodup → m.Nodup → m ⊆ l → m.length < l.length
  | [], m, h, _, _ => absurd List.nodup_nil h
  | x :: l, m, h, hm, hs => by
    by_cases e : x ∈ l
    · have s2 : m ⊆ l := fun y hy => (List.mem_cons.mp (hs hy)).elim (fun q => q ▸ e) id
      exact Nat.lt_succ_of_le (hm.length_le_of_subset s2)
    · have nl : ¬ l.Nodup := fun z => h (List.nodup_cons.mpr ⟨e, z⟩)
      have key : ∀ (m : List α), m.Nodup → m ⊆ x :: l → ∃ m2 : List α, m2.Nodup ∧ m2 ⊆ l ∧ m.length ≤ m2.length + 1 := fun m hm hs => by
        by_cases q : x ∈ m
        · obtain ⟨m1, m2, rfl⟩ := List.append_of_mem q
          have p : (m1 ++ x :: m2).Perm (x :: (m1 ++ m2)) := List.perm_middle
          obtain ⟨n1, n2⟩ := List.nodup_cons.mp (p.nodup_iff.mp hm)
          refine ⟨m1 ++ m2, n2, fun y hy => ?_, by rw [p.length_eq]; exact Nat.le_refl _⟩
          rcases List.mem_cons.mp (hs (p.mem_iff.mpr (List.mem_cons_of_mem _ hy))) with z | z
          · exact absurd (z ▸ hy) n1
          · exact z
        · exact ⟨m, hm, fun y hy => (List.mem_cons.mp (hs hy)).elim (fun z => absurd (z ▸ hy) q) id, Nat.le_succ _⟩
      obtain ⟨m2, a, b, c⟩ := key m hm hs
      have := nodup_lt nl a b
      exact Nat.lt_of_le_of_lt c (Nat.succ_lt_succ this)
theorem Had.cnt {w : World} {h : Heap} {a : Addr} {L ks : List It} {es : Array (Int × Value)} {ep : Nat} {t : SetTable} (R : SetN w h a L es ep t) (g : Had ks ks.length L) : ((ks.map (·.2)).Nodup → L.length = ks.length) ∧ (¬ (ks.map (·.2)).Nodup → L.length < ks.length) := by
  have e1 : L.length = (L.map (·.2)).length := (List.length_map ..).symm
  have e2 : ks.length = (ks.map (·.2)).length := (List.length_map ..).symm
  have s1 : L.map (·.2) ⊆ ks.map (·.2) := fun y hy => by
    obtain ⟨q, hq, rfl⟩ := List.mem_map.mp hy
    exact List.mem_map.mpr ⟨q, List.mem_of_mem_take (g.sub q hq), rfl⟩
  have s2 : ks.map (·.2) ⊆ L.map (·.2) := fun y hy => by
    obtain ⟨q, hq, rfl⟩ := List.mem_map.mp hy
    exact g.all q (by rw [List.take_length]; exact hq)
  refine ⟨fun nd => ?_, fun nd => ?_⟩
  · rw [e1, e2]
    exact Nat.le_antisymm (R.nd.length_le_of_subset s1) (nd.length_le_of_subset s2)
  · rw [e1, e2]
    exact nodup_lt nd R.nd s1
def KeyIn (X : Cx) (H : Hp) (k : NK) (p : Addr) : Prop := ∀ pins σ z, Inv X pins σ H z → AtK z.heap k p
def tLenN (X : Cx) (ta : TE) : TE := fun σ H Q => ta σ H fun x H1 => ∃ (l : Addr) (ks : List It), x = .ref l ∧ (SqL X.K H1 l (ks.map fun q => V.ref q.1) ∨ SqT X.K H1 l (ks.map fun q => V.ref q.1)) ∧ (∀ q ∈ ks, KeyIn X H1 q.2 q.1) ∧ ks.length < 64 ∧
  ((ks.map (·.2)).Nodup → Q (.int ks.length) H1) ∧ (¬ (ks.map (·.2)).Nodup → ∀ n : Nat, n < ks.length → Q (.int n) H1)
theorem refsN : ∀ {ks : List It} {us : List Value}, Vals (ks.map fun q => V.ref q.1) us → us = ks.map fun q => Value.ref q.1
  | [], _, .nil => rfl
  | q :: ks, _, .cons a b => by
    have e : _ = Value.ref q.1 := a
    rw [e, refsN b]; rfl
theorem pe_lenN {X : Cx} {a : Expr} {ta : TE} {p p2 q pos : Pos} (hc : X.calm = true) (hu : X.A.units + 64 < cLine) (hg : Gl X "len") (hm : X.mg "len" = none) (hg2 : Gl X "set") (hm2 : X.mg "set" = none) (ha : PE X a ta)
    (na : starEach [a] X.env = (false, eval a X.env) :: starEach [] X.env := by rfl) : PE X (.Call (.Name "len" p) [.Call (.Name "set" p2) [a] [] q] [] pos) (tLenN X ta) := ⟨fun pins s σ H Q I h => by
  refine Call_ (ld_blt I hg hm boot_len (PyProof.Rows.callWith_builtin1 (PyProof.Rows.args_cons ?_ rfl) rfl rfl))
  refine Call_ (ld_blt I hg2 hm2 boot_set (PyProof.Rows.callWith_type1 (PyProof.Rows.args_cons (thn (ha.run pins s σ H _ I h) fun v s1 ⟨x, H1, I1, r1, q1⟩ => PyProof.Rows.args_nil ?_) na) na rfl))
  obtain ⟨l, ks, rfl, hq, hk, few, c1, c2⟩ := q1
  have ev : v = Value.ref l := r1
  subst ev
  have fin : ∀ (h' : Heap) (tk : Nat) L es ep t, SetN X.w h' s1.heap.objs.size L es ep t → Had ks ks.length L → (∀ b o, s1.heap.get? b = some o → h'.get? b = some o) → wpAny (model X.prog X.w) X.A (spliced (backTo pos (starEach [] X.env))) (fun vs z => wpAny (model X.prog X.w) X.A (call (.builtin "len") (Value.ref s1.heap.objs.size :: vs)) (EP X pins σ Q) X.xe z) X.xe { s1 with heap := h', toks := tk } := fun h' tk L es ep t R g kp => by
    refine PyProof.Rows.args_nil ?_
    obtain ⟨o, ho, hex, hd⟩ := R.ob
    have I2 : Inv X pins σ H1 { s1 with heap := h', toks := tk } := I1.kept fun b o e => kp b o e
    have sz := rws_size R.rw_
    have few2 := R.few
    obtain ⟨n1, n2⟩ := Had.cnt R g
    by_cases nd : (ks.map (·.2)).Nodup
    · exact call_len_set ho hex hd (SetN.fits (z := { s1 with heap := h', toks := tk }) R) (by rw [sz]; omega) ⟨.int ks.length, H1, I2.tok _, ⟨_, by rw [sz, n1 nd]⟩, c1 nd⟩
    · exact call_len_set ho hex hd (SetN.fits (z := { s1 with heap := h', toks := tk }) R) (by rw [sz]; omega) ⟨.int L.length, H1, I2.tok _, ⟨_, by rw [sz]⟩, c2 nd _ (n2 nd)⟩
  rcases hq with hq | hq
  · obtain ⟨its, r, pl, hz⟩ := I1.list hq
    exact call_setN ks (I1.ok.hd hc) pl.isList (by simpa using refsN r) (fun q hq => hk q hq _ _ _ I1) few (by omega) fin
  · obtain ⟨its, r, pl, hz⟩ := I1.tuple hq
    exact call_setNT ks (I1.ok.hd hc) pl (by simpa using refsN r) (fun q hq => hk q hq _ _ _ I1) few (by omega) fin⟩
end DLS
namespace DL
open PySem PySem.Spec PyProof.Rows L2 Evl DLS
theorem keyL_cons {x : D} {xs : List D} {ks : List NK} (h : D.keyL (x :: xs) = some ks) : ∃ a b, D.key x = some a ∧ D.keyL xs = some b ∧ ks = a :: b := by
  unfold D.keyL at h
  cases e : D.key x with
  | none => rw [e] at h; cases h
  | some a =>
    cases e2 : D.keyL xs with
    | none => rw [e, e2] at h; cases h
    | some b =>
      rw [e, e2] at h
      cases h
      exact ⟨a, b, rfl, rfl, rfl⟩
theorem key_tup {xs : List D} {k : NK} (h : D.key (.tup xs) = some k) : ∃ ks, D.keyL xs = some ks ∧ k = .tup ks := by
  unfold D.key at h
  cases e : D.keyL xs with
  | none => rw [e] at h; cases h
  | some ks => rw [e] at h; cases h; exact ⟨ks, rfl, rfl⟩
mutual
theorem key_inj : ∀ (x y : D) (k : NK), D.key x = some k → D.key y = some k → x = y
  | .int i, y, k, h, h' => by
    unfold D.key at h; cases h
    cases y <;> unfold D.key at h' <;> first | (cases h'; rfl) | (cases h') | skip
    rename_i xs
    cases e : D.keyL xs <;> rw [e] at h' <;> cases h'
  | .non, y, k, h, h' => by
    unfold D.key at h; cases h
    cases y <;> unfold D.key at h' <;> first | (cases h'; rfl) | (cases h') | skip
    rename_i xs
    cases e : D.keyL xs <;> rw [e] at h' <;> cases h'
  | .tup xs, y, k, h, h' => by
    obtain ⟨ks, e, rfl⟩ := key_tup h
    cases y with
    | tup ys =>
      obtain ⟨ks2, e2, e3⟩ := key_tup h'
      cases e3
      rw [keyL_inj xs ys ks e e2]
    | _ => unfold D.key at h'; cases h'
  | .bl _, _, _, h, _ => by unfold D.key at h; cases h
  | .str _, _, _, h, _ => by unfold D.key at h; cases h
  | .ty _, _, _, h, _ => by unfold D.key at h; cases h
  | .ref _, _, _, h, _ => by unfold D.key at h; cases h
  | .lst _, _, _, h, _ => by unfold D.key at h; cases h
  | .dct _ _, _, _, h, _ => by unfold D.key at h; cases h
  | .ins _ _ _, _, _, h, _ => by unfold D.key at h; cases h
  | .exc _ _ _, _, _, h, _ => by unfold D.key at h; cases h
  | .fnc _, _, _, h, _ => by unfold D.key at h; cases h
  | .rng _ _, _, _, h, _ => by unfold D.key at h; cases h
theorem keyL_inj : ∀ (xs ys : List D) (ks : List NK), D.keyL xs = some ks → D.keyL ys = some ks → xs = ys
  | [], ys, ks, h, h' => by
    unfold D.keyL at h; cases h
    cases ys with
    | nil => rfl
    | cons y ys => obtain ⟨_, _, _, _, e⟩ := keyL_cons h'; cases e
  | x :: xs, ys, ks, h, h' => by
    obtain ⟨a, b, e1, e2, rfl⟩ := keyL_cons h
    cases ys with
    | nil => unfold D.keyL at h'; cases h'
    | cons y ys =>
      obtain ⟨a2, b2, f1, f2, f3⟩ := keyL_cons h'
      cases f3
      rw [key_inj x y a e1 f1, keyL_inj xs ys b e2 f2]
end
mutual
theorem key_nt : ∀ (x : D) (k : NK), D.key x = some k → DLS.nt k = true ∧ k.depth = x.dp
  | .int i, k, h => by unfold D.key at h; cases h; exact ⟨rfl, rfl⟩
  | .non, k, h => by unfold D.key at h; cases h; exact ⟨rfl, rfl⟩
  | .tup xs, k, h => by
    obtain ⟨ks, e, rfl⟩ := key_tup h
    obtain ⟨h1, h2⟩ := keyL_nt xs ks e
    exact ⟨h1, congrArg (· + 1) h2⟩
  | .bl _, _, h => by unfold D.key at h; cases h
  | .str _, _, h => by unfold D.key at h; cases h
  | .ty _, _, h => by unfold D.key at h; cases h
  | .ref _, _, h => by unfold D.key at h; cases h
  | .lst _, _, h => by unfold D.key at h; cases h
  | .dct _ _, _, h => by unfold D.key at h; cases h
  | .ins _ _ _, _, h => by unfold D.key at h; cases h
  | .exc _ _ _, _, h => by unfold D.key at h; cases h
  | .fnc _, _, h => by unfold D.key at h; cases h
  | .rng _ _, _, h => by unfold D.key at h; cases h
theorem keyL_nt : ∀ (xs : List D) (ks : List NK), D.keyL xs = some ks → DLS.ntL ks = true ∧ NestedKey.depthAll ks = D.dpL xs
  | [], ks, h => by unfold D.keyL at h; cases h; exact ⟨rfl, rfl⟩
  | x :: xs, ks, h => by
    obtain ⟨a, b, e1, e2, rfl⟩ := keyL_cons h
    obtain ⟨h1, h2⟩ := key_nt x a e1
    obtain ⟨h3, h4⟩ := keyL_nt xs b e2
    refine ⟨?_, ?_⟩
    · show (DLS.nt a && DLS.ntL b) = true
      rw [h1, h3]; rfl
    · show max (NestedKey.depth a) (NestedKey.depthAll b) = max (D.dp x) (D.dpL xs)
      rw [h2, h4]
end
section
variable {X : Cx} {Hd H : Hp} {pins : List (Addr × Obj)} {σ : L2.St} {z : Shared}
mutual
theorem nest_of (I : Inv X pins σ H z) (e : Ex Hd H) : ∀ {v : V} {d : D}, Rp X.K Hd v d → ∀ (k : NK) (u : Value), D.key d = some k → RelV v u → NestedIs z.heap k u
  | _, _, .non, k, u, hk, r => by
    unfold D.key at hk; cases hk
    rw [show u = Value.none from r]; exact .none
  | _, _, .int i, k, u, hk, r => by
    unfold D.key at hk; cases hk
    obtain ⟨t, rfl⟩ := r
    exact .int i t
  | _, _, .tup s rl, k, u, hk, r => by
    obtain ⟨ks, e1, rfl⟩ := key_tup hk
    rw [show u = Value.ref _ from r]
    obtain ⟨its, rv, ⟨o, ho, hc, n, hd⟩, _⟩ := I.tuple (ex_t e s)
    exact .tup ho hc hd (by simpa using nest_all I e rl ks its e1 rv)
  | _, _, .bl b, k, u, hk, r => by unfold D.key at hk; cases hk
  | _, _, .str x, k, u, hk, r => by unfold D.key at hk; cases hk
  | _, _, .ty n, k, u, hk, r => by unfold D.key at hk; cases hk
  | _, _, .ref a, k, u, hk, r => by unfold D.key at hk; cases hk
  | _, _, .lst _ _, k, u, hk, r => by unfold D.key at hk; cases hk
  | _, _, .dct _ _ _, k, u, hk, r => by unfold D.key at hk; cases hk
  | _, _, .ins _ _ _, k, u, hk, r => by unfold D.key at hk; cases hk
  | _, _, .exc _ _ _ _, k, u, hk, r => by unfold D.key at hk; cases hk
  | _, _, .fnc _, k, u, hk, r => by unfold D.key at hk; cases hk
  | _, _, .rng _, k, u, hk, r => by unfold D.key at hk; cases hk
theorem nest_all (I : Inv X pins σ H z) (e : Ex Hd H) : ∀ {vs : List V} {ds : List D}, RpL X.K Hd vs ds → ∀ (ks : List NK) (us : List Value), D.keyL ds = some ks → Vals vs us → NestedAll z.heap ks us
  | _, _, .nil, ks, us, hk, r => by
    unfold D.keyL at hk; cases hk
    cases r; exact .nil
  | _, _, .cons a b, ks, us, hk, r => by
    obtain ⟨k1, k2, e1, e2, rfl⟩ := keyL_cons hk
    cases r with
    | cons r1 r2 => exact .cons (nest_of I e a k1 _ e1 r1) (nest_all I e b k2 _ e2 r2)
end
end
variable [TabC]
def Kt (d : D) : Prop := (∃ ys, d = .tup ys) ∧ (∃ k, D.key d = some k) ∧ d.dp ≤ 8
def dLenSet (da : DE) : DE := fun ρ G R => da ρ G fun x G1 => ∃ xs, SeqAt G1 x xs ∧ xs.length < 64 ∧ (∀ d ∈ xs, Kt d) ∧ (xs.Nodup → R (.int xs.length) G1) ∧ (¬ xs.Nodup → ∀ n : Nat, n < xs.length → R (.int n) G1)
theorem rp_items {K : PySem.W.Frag} {Hd : Hp} : ∀ {vs : List V} {ds : List D}, RpL K Hd vs ds → (∀ d ∈ ds, Kt d) → ∃ ks : List DLS.It, vs = ks.map (fun q => V.ref q.1) ∧ ks.length = ds.length ∧ (ks.map fun q => some q.2) = ds.map D.key ∧ ∀ q ∈ ks, ∃ d ∈ ds, Rp K Hd (.ref q.1) d ∧ D.key d = some q.2 ∧ d.dp ≤ 8
  | _, _, .nil, _ => ⟨[], rfl, rfl, rfl, fun q hq => by cases hq⟩
  | _, _, .cons (v := v) (d := d) a b, h => by
    obtain ⟨ks, rfl, hl, hm, hq⟩ := rp_items b fun d hd => h d (List.mem_cons_of_mem _ hd)
    obtain ⟨⟨ys, rfl⟩, ⟨k, hk⟩, hdp⟩ := h d List.mem_cons_self
    cases a with
    | @tup p xs _ s r =>
      refine ⟨(p, k) :: ks, rfl, by rw [List.length_cons, List.length_cons, hl], by rw [List.map_cons, List.map_cons, hm, hk], fun q hq2 => ?_⟩
      rcases List.mem_cons.mp hq2 with e | e
      · subst e
        exact ⟨_, List.mem_cons_self, .tup s r, hk, hdp⟩
      · obtain ⟨d, m, r⟩ := hq q e
        exact ⟨d, List.mem_cons_of_mem _ m, r⟩
theorem map_nodup {α β : Type} {f : α → β} (h : ∀ x y, f x = f y → x = y) : ∀ {l : List α}, (l.map f).Nodup ↔ l.Nodup
  | [] => ⟨fun _ => List.nodup_nil, fun _ => List.nodup_nil⟩
  | x :: l => by
    rw [List.map_cons, List.nodup_cons, List.nodup_cons, map_nodup h]
    refine and_congr_left fun _ => not_congr ⟨fun m => ?_, fun m => List.mem_map.mpr ⟨x, m, rfl⟩⟩
    obtain ⟨y, hy, e⟩ := List.mem_map.mp m
    rw [← h y x e]; exact hy
theorem key_nodup : ∀ {ds : List D}, (∀ d ∈ ds, Kt d) → ((ds.map D.key).Nodup ↔ ds.Nodup)
  | [], _ => ⟨fun _ => List.nodup_nil, fun _ => List.nodup_nil⟩
  | x :: ds, h => by
    rw [List.map_cons, List.nodup_cons, List.nodup_cons, key_nodup fun d hd => h d (List.mem_cons_of_mem _ hd)]
    refine and_congr_left fun _ => not_congr ⟨fun m => ?_, fun m => List.mem_map.mpr ⟨x, m, rfl⟩⟩
    obtain ⟨y, hy, e⟩ := List.mem_map.mp m
    obtain ⟨_, ⟨k, hk⟩, _⟩ := h x List.mem_cons_self
    rw [hk] at e
    rw [← key_inj y x k e hk]; exact hy
section
variable {X : Cx} {B : Bs} {da : DE}
theorem pd_lenSet {a : Expr} {p p2 q pos : Pos} (hc : X.calm = true) (hu : X.A.units + 64 < cLine) (hg : Gl X "len") (hm : X.mg "len" = none) (hg2 : Gl X "set") (hm2 : X.mg "set" = none) (ha : PE X a (upE X.K B da))
    (na : starEach [a] X.env = (false, eval a X.env) :: starEach [] X.env := by rfl) : PE X (.Call (.Name "len" p) [.Call (.Name "set" p2) [a] [] q] [] pos) (upE X.K B (dLenSet da)) :=
  pe_imp (pe_lenN hc hu hg hm hg2 hm2 ha na) fun σ H Q ⟨ρ, Hd, G, R, at_, h, k⟩ => ⟨ρ, Hd, G, _, at_, h, fun v H1 Hd1 x G1 e1 s1 r1 ⟨xs, hx, few, hk, c1, c2⟩ => by
    obtain ⟨l, vs, rfl, sq, rl⟩ := hx.sq s1 r1
    obtain ⟨ks, rfl, hl, hm, hq⟩ := rp_items rl hk
    have nd : (ks.map (·.2)).Nodup ↔ xs.Nodup := by
      rw [← key_nodup hk, ← hm, show (ks.map fun q => some q.2) = (ks.map (·.2)).map some by rw [List.map_map]; rfl, map_nodup fun x y e => Option.some.inj e]
    refine ⟨l, ks, rfl, sq, fun q hq2 pins σ2 z I => ?_, by omega, fun n => ?_, fun n m hm2 => ?_⟩
    · obtain ⟨d, _, rp, kd, dp⟩ := hq q hq2
      obtain ⟨n1, n2⟩ := key_nt d q.2 kd
      exact ⟨nest_of I s1.sub rp q.2 _ kd rfl, by rw [n2]; exact dp, n1⟩
    · rw [hl]
      exact k _ H1 Hd1 _ G1 e1 s1 (.int _) (c1 (nd.mp n))
    · exact k _ H1 Hd1 _ G1 e1 s1 (.int _) (c2 (fun z => n (nd.mpr z)) m (by omega))⟩
end
end DL
namespace DL
open PySem PySem.Spec PyProof.Rows L2 Evl Sup
variable [TabC]
section
variable {X : Cx} {B : Bs} {pos p apos cpos : Pos} {e o i : Expr} {es : List Expr} {da db dd di dk : DE} {dA : DA}
def dInL (neg : Bool) (da db : DE) : DE := fun ρ G R => da ρ G fun x G1 => db ρ G1 fun y G2 => ∃ x' ds, VwAt G2 x x' ∧ VwAt G2 y (.lst ds) ∧ Cmp x' ∧ Cmp (.lst ds) ∧ R (.bl (neg != ds.any fun z => D.eqv z x')) G2
theorem any_eqv {x : D} {p : PyData} (hx : x.py = some p) : ∀ {ds : List D} {qs : List PyData}, D.pyL ds = some qs → (qs.any fun z => PyData.eqv z p) = ds.any fun z => D.eqv z x
  | [], qs, h => by unfold D.pyL at h; cases h; rfl
  | d :: ds, qs, h => by
    unfold D.pyL at h
    cases e1 : d.py with
    | none => simp [e1] at h
    | some q =>
      cases e2 : D.pyL ds with
      | none => simp [e1, e2] at h
      | some qs2 =>
        simp [e1, e2] at h
        subst h
        rw [List.any_cons, List.any_cons, any_eqv hx e2, eqv_of e1 hx]
theorem inL_imp {K : PySem.W.Frag} {neg : Bool} {r : R2} (hr : ∀ x y H Q d ds, Dp K H x d → Dp K H y (.list ds) → SeqAt.shaped d = true → SeqAt.shaped (.list ds) = true → Q (.bl (neg != ds.any fun z => PyData.eqv z d)) H → r x y H Q) : ∀ σ H Q, upE K B (dInL neg da db) σ H Q → tOp r (upE K B da) (upE K B db) σ H Q := fun σ H Q ⟨ρ, Hd, G, R, at_, h, k⟩ =>
  ⟨ρ, Hd, G, _, at_, h, fun v H1 Hd1 x G1 e1 s1 r1 h1 => ⟨ρ, Hd1, G1, _, at_.step e1 s1, h1, fun u H2 Hd2 y G2 e2 s2 r2 ⟨x', ds, vx, vy, cx, cy, hR⟩ => by
    obtain ⟨p, ep, sp⟩ := cx.shaped
    obtain ⟨q, eq, sq⟩ := cy.shaped
    have eq0 := eq
    unfold D.py at eq
    cases e3 : D.pyL ds with
    | none => rw [e3] at eq; cases eq
    | some qs =>
      rw [e3] at eq
      cases eq
      refine hr _ _ _ _ p qs (vx.dp s2 (r1.mono e2) ep) (vy.dp s2 r2 eq0) sp sq ?_
      rw [any_eqv ep e3]
      exact k _ H2 Hd2 _ G2 (e1.trans e2) s2 (.bl _) hR⟩⟩
theorem inL_f {K : PySem.W.Frag} (x y : V) (H : Hp) (Q : VK) (d : PyData) (ds : List PyData) (h1 : Dp K H x d) (h2 : Dp K H y (.list ds)) (h3 : SeqAt.shaped d = true) (h4 : SeqAt.shaped (.list ds) = true) (q : Q (.bl (true != ds.any fun z => PyData.eqv z d)) H) : rNotInD K x y H Q := ⟨d, ds, h1, h2, h3, h4, by
  rw [show (!ds.any fun z => PyData.eqv z d) = (true != ds.any fun z => PyData.eqv z d) by cases ds.any fun z => PyData.eqv z d <;> rfl]; exact q⟩
theorem ptd_notInL {a b : Expr} (hu : X.A.units + 65 < cLine) (ha : PE X a (upE X.K B da)) (hb : PE X b (upE X.K B db)) (hm : behindInMarks .NotIn b = false) : PT X (.Compare a [.NotIn] [b] pos) (upT X.K B (dTst (dInL true da db))) := pt_imp (pt_cmpR (op_notInD hu) ha hb hm) fun σ H Q h => inL_imp inL_f σ H _ (tst_imp σ H Q h)
def keyD : Key → D
  | .inl i => .int i
  | .inr s => .str s
def dInD (neg : Bool) (da dd : DE) : DE := fun ρ G R => da ρ G fun y G1 => dd ρ G1 fun x G2 => ∃ k ks xs, y = keyD k ∧ DctAt G2 x ks xs ∧ R (.bl (neg != (dlook ks xs k).isSome)) G2
def dIxD (dd di : DE) : DE := fun ρ G R => dd ρ G fun x G1 => di ρ G1 fun y G2 => ∃ k ks xs z, y = keyD k ∧ DctAt G2 x ks xs ∧ dlook ks xs k = some z ∧ R z G2
end
end DL
namespace DL
open PySem PySem.Spec PyProof.Rows L2 Evl Sup
variable [TabC]
section
variable {X : Cx} {B : Bs} {pos : Pos} {a b : Expr} {da db : DE}
def mulT (x : Str) (i : Int) : Str := PySem.Txt.mul x i
def fMulS (x y z : D) : Prop := ∃ (t : Str) (i : Int), x = .str t ∧ y = .int i ∧ -1000 ≤ i ∧ i ≤ 1000 ∧ t.length ≤ 1000 ∧ z = .str (mulT t i)
end
theorem units65 {k : Nat} {A : Around} (r : Room k A) : A.units + 65 < cLine := by have := r.un; omega
theorem Y.ndT {p : Prop} [Decidable p] (h : ¬ p) : (!decide p) = true := by rw [decide_eq_false h]; rfl
theorem Y.ndF {p : Prop} [Decidable p] (h : p) : (!decide p) = false := by rw [decide_eq_true h]; rfl
namespace Y
section
variable {ρ : En} {G : Gm} {R : KD} {da db dd di : DE} {x y z : D} {xs ys ds : List D} {k : Bool}
theorem lenSet (h : da ρ G fun x G1 => ∃ xs, SeqAt G1 x xs ∧ xs.length < 64 ∧ (∀ d ∈ xs, Kt d) ∧ (xs.Nodup → R (.int xs.length) G1) ∧ (¬ xs.Nodup → ∀ n : Nat, n < xs.length → R (.int n) G1)) : dLenSet da ρ G R := h
theorem inL {neg : Bool} (h : da ρ G fun x G1 => db ρ G1 fun y G2 => ∃ x' ds, VwAt G2 x x' ∧ VwAt G2 y (.lst ds) ∧ Cmp x' ∧ Cmp (.lst ds) ∧ R (.bl (neg != ds.any fun z => D.eqv z x')) G2) : dInL neg da db ρ G R := h
theorem inD {neg : Bool} (h : da ρ G fun y G1 => dd ρ G1 fun x G2 => ∃ k ks xs, y = keyD k ∧ DctAt G2 x ks xs ∧ R (.bl (neg != (dlook ks xs k).isSome)) G2) : dInD neg da dd ρ G R := h
theorem inD_ {Q : Key → List Key → List D → Prop} {i : Int} {ks : List Key} (h : Q (.inl i) ks xs) : ∃ k ks' xs', D.int i = keyD k ∧ DctAt G (.dct ks xs) ks' xs' ∧ Q k ks' xs' := ⟨.inl i, ks, xs, rfl, .inl rfl, h⟩
theorem ixD (h : dd ρ G fun x G1 => di ρ G1 fun y G2 => ∃ k ks xs z, y = keyD k ∧ DctAt G2 x ks xs ∧ dlook ks xs k = some z ∧ R z G2) : dIxD dd di ρ G R := h
theorem mulS {Q : D → Prop} {t : Str} {i : Int} (h : -1000 ≤ i ∧ i ≤ 1000 ∧ t.length ≤ 1000) (q : Q (.str (mulT t i))) : ∃ z, fMulS (.str t) (.int i) z ∧ Q z := ⟨_, ⟨t, i, rfl, rfl, h.1, h.2.1, h.2.2, rfl⟩, q⟩
theorem mulL {Q : D → Prop} {i : Int} (h : xs.length * i.toNat ≤ 10000000 ∧ -1000000000 ≤ i ∧ i ≤ 1000000000) (q : Q (.lst (List.replicate i.toNat xs).flatten)) : ∃ z, fMulL (.lst xs) (.int i) z ∧ Q z := ⟨_, ⟨xs, i, rfl, rfl, by rw [sizeLine_eq]; omega, h.2.1, h.2.2, rfl⟩, q⟩
end
end Y
end DL
section
open PySem PySem.Spec PyProof.Rows L2 Evl DL
local macro_rules | `(tactic| walk_at "side") => `(tactic| first | exact mul_left (by decide) | exact mul_right (by decide) | exact mul_bd | exact div_bd (by first | assumption | decide | omega) | exact pow_bd (by first | decide | omega) (by first | decide | omega) | assumption | (show (0 : Int) < _; first | decide | omega))
local macro_rules | `(tactic| walk_at "eva") => `(tactic| first | exact DL.EvA.nil | (refine' DL.EvA.cons ?e ?r; (case' e => walk_at "ev"); (case' r => walk_at "eva")))
local macro_rules | `(tactic| walk_at "seq") => `(tactic| first | exact seq_tup | exact seq_lst | exact seq_ref (by assumption))
local macro_rules | `(tactic| walk_at "size") => `(tactic| first | (show _ ≤ sizeLine; simp only [List.length_cons, List.length_nil]; decide) | (rw [sizeLine_eq]; omega))
local macro_rules | `(tactic| walk_at "ev") => `(tactic| first
  | exact DL.Ev.c
  | exact DL.Ev.var rfl
  | (refine' DL.Ev.int ?a ?b; (case' a => walk_at "ev"); (case' b => walk_at "ev"))
  | (refine' DL.Ev.intC ?a ?b ?s; (case' a => walk_at "ev"); (case' b => walk_at "ev"); (case' s => try walk_at "side"))
  | (refine' DL.Ev.add ?a ?b; (case' a => walk_at "ev"); (case' b => walk_at "ev"))
  | (refine' DL.Ev.neg ?a; (case' a => walk_at "ev"))
  | (refine' DL.Ev.intOf ?a; (case' a => walk_at "ev"))
  | (refine' DL.Ev.intB ?a; (case' a => walk_at "ev"))
  | (refine' DL.Ev.absN ?a; (case' a => walk_at "ev"))
  | (refine' DL.Ev.eqI ?a ?b; (case' a => walk_at "ev"); (case' b => walk_at "ev"))
  | (refine' DL.Ev.neI ?a ?b; (case' a => walk_at "ev"); (case' b => walk_at "ev"))
  | (refine' DL.Ev.at ?a ?b ?s ?k; (case' a => walk_at "ev"); (case' b => walk_at "ev"); (case' s => walk_at "seq"); (case' k => try rfl))
  | (refine' DL.Ev.len ?a ?s; (case' a => walk_at "ev"); (case' s => walk_at "seq"))
  | (refine' DL.Ev.tupOf ?a ?s; (case' a => walk_at "ev"); (case' s => walk_at "seq"))
  | (refine' DL.Ev.tup ?a ?z; (case' a => walk_at "eva"); (case' z => try walk_at "size"))
  | (refine' DL.Ev.lst ?a ?z; (case' a => walk_at "eva"); (case' z => try walk_at "size"))
  | (refine' DL.Ev.notV ?a; (case' a => walk_at "ev"))
  | (refine' DL.Ev.isN ?a; (case' a => walk_at "ev"))
  | exact fun R r => r
  | assumption)
local macro_rules | `(tactic| walk_at "set") => `(tactic| (refine' ds_set ?e ?_; (case' e => walk_at "ev")))
local macro_rules | `(tactic| walk_at "ret") => `(tactic| (refine' ds_ret ?e ?_; (case' e => walk_at "ev")))
local macro_rules | `(tactic| walk_at "par") => `(tactic| (refine' ds_par ?e ?f ?_; (case' e => walk_at "ev"); (case' f => walk_at "ev")))
local macro_rules | `(tactic| walk_at "cut") => `(tactic| (simp only [DL.cutD, HT.sIx, List.length_cons, List.length_nil, Nat.zero_add, Nat.reduceAdd, Nat.min_def, Nat.reduceLeDiff, ↓reduceIte, List.drop_zero, List.drop_succ_cons, List.take_zero, List.take_succ_cons, List.take_nil, List.drop_nil, List.cons_append, List.nil_append, Int.reduceLT, Int.reduceToNat, Nat.reduceSub, Nat.sub_zero, Int.reduceNeg, Int.cast_ofNat_Int, Int.reduceAdd]; exact rfl))
local macro_rules | `(tactic| walk_at "xu") => `(tactic| first
  | with_reducible refine' DL.Y.ixS0 ?_
  | with_reducible refine' DL.Y.ixS1 ?_
  | with_reducible refine' DL.Y.ixS2 ?_
  | with_reducible refine' DL.Y.ixP0 ?_
  | with_reducible refine' DL.Y.ixP1 ?_
  | with_reducible refine' DL.Y.lstS ?_
  | with_reducible refine' DL.Y.lstP ?_)
local macro_rules | `(tactic| walk_at "dec") => `(tactic| first | rfl | assumption | exact decide_eq_true (by omega) | exact decide_eq_false (by omega) | exact DL.Y.ndT (by omega) | exact DL.Y.ndF (by omega) | decide +kernel)
local macro_rules | `(tactic| walk_at "size2") => `(tactic| first | exact Nat.le_of_ble_eq_true rfl | omega)
local macro_rules | `(tactic| walk_at "x0") => `(tactic| first
  | with_reducible refine' DL.Y.cons ?_
  | ((with_reducible refine' DL.Y.var ?e ?_); (case' e => (first | exact rfl | assumption)))
  | with_reducible refine' DL.Y.c ?_
  | with_reducible refine' DL.Y.nil ?_
  | with_reducible refine' DL.Y.op ?_
  | with_reducible refine' DL.Y.oint ?_
  | ((with_reducible refine' DL.Y.ointC ?s ?_); (case' s => try walk_at "side"))
  | with_reducible refine' DL.Y.oadd ?_
  | with_reducible refine' DL.Y.oeqI ?_
  | with_reducible refine' DL.Y.oneI ?_
  | with_reducible refine' DL.Y.oeqS ?_
  | with_reducible refine' DL.Y.neS ?_
  | with_reducible refine' DL.Y.oneS ?_
  | with_reducible refine' DL.Y.oeqB ?_
  | with_reducible refine' DL.Y.tst ?_
  | with_reducible refine' DL.Y.bl_ ?_
  | ((with_reducible refine' DL.Y.iRng1_ ?z ?_); (case' z => (omega; done)))
  | with_reducible refine' DL.Y.int_ ?_
  | with_reducible refine' DL.Y.str_ ?_
  | with_reducible refine' DL.Y.ref_ ?_
  | ((with_reducible refine' DL.Y.iteT ?h ?_); (case' h => (walk_at "dec"; done)))
  | ((with_reducible refine' DL.Y.iteF ?h ?_); (case' h => (walk_at "dec"; done)))
  | with_reducible refine' DL.Y.seq ?_
  | with_reducible refine' DL.Y.set ?_
  | with_reducible refine' DL.Y.ifS ?_
  | with_reducible refine' DL.Y.ret ?_
  | with_reducible refine' DL.Y.nx ?_
  | with_reducible refine' DL.Y.drop ?_
  | with_reducible refine' DL.Y.asg ?_
  | with_reducible refine' DL.Y.par ?_
  | with_reducible refine' DL.Y.par_ ?_
  | with_reducible refine' DL.Y.par3 ?_
  | with_reducible refine' DL.Y.par3_ ?_
  | with_reducible refine' DL.Y.bk ?_
  | with_reducible refine' DL.Y.ct ?_
  | with_reducible refine' DL.Y.retN ?_
  | with_reducible refine' DL.Y.gn ?_
  | with_reducible refine' DL.Y.gnil ?_
  | with_reducible refine' DL.Y.gcons ?_
  | ((with_reducible refine' DL.Y.gseqT ?e ?_); (case' e => (rfl; done)))
  | ((with_reducible refine' DL.Y.gseqL ?e ?_); (case' e => (rfl; done)))
  | with_reducible refine' DL.Y.tup ?_
  | with_reducible refine' DL.Y.lst ?_
  | ((with_reducible refine' DL.Y.len_ ?n ?l ?_); (case' n => exact rfl); (case' l => try walk_at "size2"))
  | with_reducible refine' DL.Y.ix ?_
  | ((with_reducible refine' DL.Y.ixT ?e ?_); (case' e => (rfl; done)))
  | ((with_reducible refine' DL.Y.ixL ?e ?_); (case' e => (rfl; done)))
  | ((with_reducible refine' DL.Y.ixR ?g ?e ?_); (case' g => with_reducible assumption); (case' e => (rfl; done)))
  | with_reducible refine' DL.Y.cal ?_
  | with_reducible refine' DL.Y.lenT ?_
  | with_reducible refine' DL.Y.lenL ?_
  | ((with_reducible refine' DL.Y.lenR ?g ?_); (case' g => with_reducible assumption))
  | with_reducible refine' DL.Y.absI ?_
  | with_reducible refine' DL.Y.intI ?_
  | with_reducible refine' DL.Y.intB ?_
  | with_reducible refine' DL.Y.tupT ?_
  | with_reducible refine' DL.Y.tupL ?_
  | ((with_reducible refine' DL.Y.tupR ?g ?_); (case' g => with_reducible assumption))
  | with_reducible refine' DL.Y.lstT ?_
  | with_reducible refine' DL.Y.lstL ?_
  | with_reducible refine' DL.Y.allL ?_
  | with_reducible refine' DL.Y.anyL ?_
  | ((with_reducible refine' DL.Y.oaddL ?z ?_); (case' z => try walk_at "size2"))
  | ((with_reducible refine' DL.Y.oaddT ?z ?_); (case' z => try walk_at "size2"))
  | with_reducible refine' DL.Y.oisB ?_
  | with_reducible refine' DL.Y.onotB ?_
  | with_reducible refine' DL.Y.neg ?_
  | with_reducible refine' DL.Y.notT ?_
  | with_reducible refine' DL.Y.andT ?_
  | with_reducible refine' DL.Y.orT ?_
  | with_reducible refine' DL.Y.yes ?_
  | with_reducible refine' DL.Y.ifT ?_
  | with_reducible refine' DL.Y.andV ?_
  | with_reducible refine' DL.Y.orV ?_
  | with_reducible refine' DL.Y.notV ?_
  | with_reducible refine' DL.Y.isN ?_
  | with_reducible refine' DL.Y.notN ?_
  | ((with_reducible refine' DL.Y.isi_ ?e ?_); (case' e => (rfl; done)))
  | with_reducible refine' DL.Y.isiT ?_
  | with_reducible refine' DL.Y.chain ?_
  | with_reducible refine' DL.Y.sl ?_
  | with_reducible refine' DL.Y.noP ?_
  | with_reducible refine' DL.Y.part ?_
  | ((with_reducible refine' DL.Y.slLl ?n ?e ?_); (case' n => (rfl; done)); (case' e => walk_at "cut"))
  | ((with_reducible refine' DL.Y.slTl ?n ?m ?e ?_); (case' n => (rfl; done)); (case' m => (simp [HT.sIx]; done)); (case' e => walk_at "cut"))
  | with_reducible refine' DL.Y.slL ?_
  | with_reducible refine' DL.Y.call ?_
  | with_reducible refine' DL.Y.callK ?_
  | with_reducible refine' DL.Y.callD ?_
  | with_reducible refine' DL.Y.fld ?_
  | ((with_reducible refine' DL.Y.fld_ ?f ?e ?_); (case' f => (first | rfl | assumption); done); (case' e => (rfl; done)))
  | with_reducible refine' DL.Y.isW_ ?_
  | with_reducible refine' DL.Y.inK ?_
  | with_reducible refine' DL.Y.iSeq ?_
  | with_reducible refine' DL.Y.iSeqL ?_
  | with_reducible refine' DL.Y.iSeqT ?_
  | with_reducible refine' DL.Y.iRng1 ?_
  | with_reducible refine' DL.Y.iZip ?_
  | with_reducible refine' DL.Y.iZipT ?_
  | with_reducible refine' DL.Y.iZipL ?_
  | with_reducible refine' DL.Y.iEnum ?_
  | with_reducible refine' DL.Y.iEnumT ?_
  | with_reducible refine' DL.Y.iEnumL ?_
  | with_reducible refine' DL.Y.for_ ?_
  | with_reducible refine' DL.Y.cmp ?_
  | with_reducible refine' DL.Y.isO ?_
  | ((with_reducible refine' DL.Y.isO_ (isO_exc ?c) ?_); (case' c => (decide +kernel; done)))
  | ((with_reducible refine' DL.Y.isO_ ?e ?_); (case' e => (rfl; done)))
  | ((with_reducible refine' DL.Y.isW1 ?e ?_); (case' e => (first | assumption | (rfl; done))))
  | with_reducible refine' DL.Y.xf ?_
  | ((with_reducible refine' DL.Y.xf_ ?c ?e ?_); (case' c => (decide +kernel; done)); (case' e => (first | assumption | (rfl; done))))
  | with_reducible refine' DL.Y.mk ?_
  | with_reducible refine' DL.Y.dctM ?_
  | with_reducible refine' DL.Y.dct0 ?_
  | with_reducible refine' DL.Y.lstM ?_
  | with_reducible refine' DL.Y.rev ?_
  | with_reducible refine' DL.Y.revL ?_
  | with_reducible refine' DL.Y.dget ?_
  | with_reducible refine' DL.Y.dput ?_
  | with_reducible refine' DL.Y.app ?_
  | with_reducible refine' DL.Y.gc ?_
  | ((with_reducible refine' DL.Y.fld_ ?f ?e ?_); (case' f => ((first | rfl | assumption | decide +kernel); done)); (case' e => (rfl; done)))
  | with_reducible refine' DL.Y.chLe ?_
  | with_reducible refine' DL.Y.chLt ?_
  | with_reducible refine' DL.Y.setF ?_
  | with_reducible refine' DL.Y.lenSet ?_
  | with_reducible refine' DL.Y.inL ?_
  | with_reducible refine' DL.Y.inD ?_
  | with_reducible refine' DL.Y.inD_ ?_
  | with_reducible refine' DL.Y.ixD ?_
  | ((with_reducible refine' DL.Y.mulS ?h ?_); (case' h => (exact ⟨by omega, by omega, by decide⟩)))
  | ((with_reducible refine' DL.Y.mulL ?h ?_); (case' h => (exact ⟨by simp only [List.length_cons, List.length_nil]; omega, by omega, by omega⟩)))
  | walk_at "xu"
  | walk_at "norm")
local macro_rules | `(tactic| walk_at "norm") => `(tactic| (dsimp only [List.set]))
local macro_rules | `(tactic| walk_at "x") => `(tactic| first | walk_at "x0" | with_reducible refine' DL.Y.ifE ?_)
local macro_rules | `(tactic| walk_at "xs") => `(tactic| repeat walk_at "x0")
local macro_rules | `(tactic| walk_at "xx") => `(tactic| repeat walk_at "x")
local macro_rules | `(tactic| walk_at "start") => `(tactic| dsimp only [List.map, List.length_cons, List.length_nil, List.cons_append, List.nil_append, Nat.zero_add, Nat.reduceAdd, Nat.reduceSub, List.reduceReplicate])
namespace DL
open PySem PySem.Spec PyProof.Rows L2 Evl Sup
variable [TabC]
theorem q_gcd (q : Qr) : Int.gcd q.num (q.den : Int) = 1 := q.reduced
theorem Qb.cz {k : Nat} {q : Qr} (h : Qb k q) : Cz k (ofQ q) := ⟨q.num, q.den, rfl, den_pos q, q_gcd q, h.1, by rw [Int.natAbs_natCast]; exact h.2⟩
theorem plus_q (p q : Qr) : plusZ (ofQ p) (ofQ q) = ofQ (p + q) := by
  have h1 := ofQ_ne p
  have h2 := ofQ_ne q
  unfold plusZ
  rw [low_ofQ (Int.mul_ne_zero h1 h2), ← Rat.divInt_add_divInt _ _ h1 h2, ofQ_div, ofQ_div]
theorem times_q (p q : Qr) : timesZ (ofQ p) (ofQ q) = ofQ (p * q) := by
  have h1 := ofQ_ne p
  have h2 := ofQ_ne q
  unfold timesZ
  rw [low_ofQ (Int.mul_ne_zero h1 h2), ← Rat.divInt_mul_divInt, ofQ_div, ofQ_div]
theorem over_q (p q : Qr) (hq : q ≠ 0) : overZ (ofQ p) (ofQ q) = ofQ (p / q) := by
  have h1 := ofQ_ne p
  have h3 : (numI (ofQ q)).1 ≠ 0 := by
    rw [numI_ofQ]
    exact fun z => hq (Rat.num_eq_zero.mp z)
  unfold overZ
  rw [low_ofQ (Int.mul_ne_zero h1 h3), ← Rat.divInt_mul_divInt, ofQ_div, ← Rat.inv_divInt, ofQ_div, Rat.div_def]
theorem lt_q (p q : Qr) : ltN (ofQ p) (ofQ q) = decide (p < q) := by
  unfold ltN
  rw [numI_ofQ, numI_ofQ]
  exact decide_eq_decide.mpr (Rat.lt_iff p q).symm
theorem qb_int {i : Int} {k : Nat} (h : i.natAbs < 2 ^ k) (hk : 1 ≤ k := by decide) : Qb k (i : Qr) := ⟨h, Nat.lt_of_lt_of_le (show 1 < 2 ^ 1 by decide) (Nat.pow_le_pow_right (by decide) hk)⟩
theorem Qb.mul {j k : Nat} {p q : Qr} (hp : Qb j p) (hq : Qb k q) : Qb (j + k) (p * q) := by
  have h1 := ofQ_ne p
  have h2 := ofQ_ne q
  rw [← ofQ_div (q := p), ← ofQ_div (q := q), Rat.divInt_mul_divInt]
  exact qb_low (Int.mul_ne_zero h1 h2) (abs_mul_lt hp.i.1 hq.i.1) (abs_mul_lt hp.i.2 hq.i.2)
def sp_q2 (f : Qr → Qr → Qr) : DSp := fun xs G R _ => ∃ p q : Qr, xs = [ofQ p, ofQ q] ∧ Qb 2900 p ∧ Qb 2900 q ∧ R (ofQ (f p q)) G
def sp_qlt : DSp := fun xs G R _ => ∃ p q : Qr, xs = [ofQ p, ofQ q] ∧ Qb 2900 p ∧ Qb 2900 q ∧ R (.bl (decide (p < q))) G
def sp_qlow : DSp := fun xs G R _ => ∃ a u : Int, xs = [.int a, .int u] ∧ u ≠ 0 ∧ u.natAbs < 2 ^ 8000 ∧ R (ofQ (Rat.divInt a u)) G
theorem q2_to {f : Qr → Qr → Qr} {g : D → D → D} (e : ∀ p q, g (ofQ p) (ofQ q) = ofQ (f p q)) {xs : List D} {G : Gm} {R : KD} {RX : XD} (h : sp_q2 f xs G R RX) : sp_2 3000 g xs G R RX := by
  obtain ⟨p, q, rfl, hp, hq, h⟩ := h
  exact ⟨_, _, rfl, hp.cz.num, hq.cz.num, hp.mono.cz.bn, hq.mono.cz.bn, by rw [e]; exact h⟩
theorem qlt_to {xs : List D} {G : Gm} {R : KD} {RX : XD} (h : sp_qlt xs G R RX) : sp_below xs G R RX := by
  obtain ⟨p, q, rfl, hp, hq, h⟩ := h
  rw [← lt_q] at h
  exact ⟨_, _, rfl, hp.cz.num, hq.cz.num, hp.mono.cz.bn, hq.mono.cz.bn, h⟩
end DL
namespace DL
open PySem PySem.Spec PyProof.Rows L2 Evl Sup
variable [TabC]
namespace Y
section
variable {ρ : En} {G : Gm} {R : KD} {E : DEnds} {xs ys : List D} {x : D}
theorem allM {Q : D → Prop} (f : D → Bool) (h : Q (.bl (xs.all f))) : ∃ z, fAll G [.lst (xs.map fun y => .bl (f y))] z ∧ Q z := ⟨_, ⟨_, xs.map f, rfl, by rw [List.map_map]; exact lst_lst, rfl⟩, by rw [List.all_map]; exact h⟩
theorem raiseC {C f t : Str} {RX : XD} (h1 : t.length ≤ 10000) (h : RX C [f] [.str t] G) : dRaise C [f] [true] RX (dCons (dC (.str t)) dNil) E ρ G := ⟨rfl, fun p hp _ => by rw [List.mem_singleton.mp hp]; exact h1, h⟩
theorem raiseV {C f t : Str} {RX : XD} {i : Nat} (e : ρ[i]? = some (some (.str t))) (h1 : t.length ≤ 10000) (h : RX C [f] [.str t] G) : dRaise C [f] [true] RX (dCons (dVar i) dNil) E ρ G := ⟨_, e, rfl, fun p hp _ => by rw [List.mem_singleton.mp hp]; exact h1, h⟩
theorem chLe {Q : Bool → Prop} {i j : Int} (h : Q (decide (i ≤ j))) : ∃ k, fInt gLe (.int i) (.int j) (.bl k) ∧ Q k := ⟨_, ⟨i, j, rfl, rfl, rfl⟩, h⟩
theorem chLt {Q : Bool → Prop} {i j : Int} (h : Q (decide (i < j))) : ∃ k, fInt gLt (.int i) (.int j) (.bl k) ∧ Q k := ⟨_, ⟨i, j, rfl, rfl, rfl⟩, h⟩
theorem setF {cl : ClT} {f : Str} {dv dobj : DE} (h : dv ρ G fun z G1 => dobj ρ G1 fun y G2 => ∃ a C ns xs, y = .ref a ∧ G2 a = some (.ins C ns xs) ∧ hasF cl C f = true ∧ ns.length < 1000 ∧ E.nx ρ (gup G2 a (.ins C (putNs f ns) (putXs f z ns xs)))) : dSetF cl f dv dobj E ρ G := h
end
end Y
def rowB (x : D) (w : Int) : Bool := isSeqD x && (decide (((seqL x).length : Int) = w) && (seqL x).all smallD)
def cornB (x : D) (w : Int) : Bool := isSeqD x && (decide (((seqL x).length : Int) = w) && (seqL x).all fun y => withinD y (some (-1000)) (some 1000))
def pieceB (x : D) (w : Int) : Bool := isSeqD x && (decide ((seqL x).length = 3) && (cornB (it x 0) w && (rowB (it x 2) w && (isSeqD (it x 1) && (decide (((seqL (it x 1)).length : Int) = w) && (seqL (it x 1)).all fun r => rowB r w)))))
def sp_mrow : DSp := fun xs G R _ => ∃ (x : D) (w : Int), xs = [x, .int w] ∧ Gd x ∧ R (.bl (rowB x w)) G
def rowR : DS := (dRet (dAndV (dCall sp_is_list X0 (dCons (dVar 0) dNil)) (dAndV (dOp fEq (dCal fLen (dCons (dVar 0) dNil)) (dVar 1)) (dCal fAll (dCons (dCmp (dISeq (dVar 0)) (gN 2) dYes (dCall sp_is_small X0 (dCons (dVar 2) dNil)) [2]) dNil)))))
theorem mrow_ok (xs : List D) (G : Gm) (R : KD) (RX : XD) (h : sp_mrow xs G R RX) : rowR { nx := fun _ G => R .non G, rt := R } (xs.map some ++ List.replicate (3 - xs.length) none) G := by
  obtain ⟨x, w, rfl, hx, h⟩ := h
  obtain ⟨hz, hy⟩ := hx.seq
  unfold rowR
  walk_at "start"
  walk_at "xx"
  refine ⟨x, rfl, hx.kn, ?_⟩
  cases q1 : isSeqD x with
  | false =>
    walk_at "xx"
    rw [show rowB x w = false by unfold rowB; rw [q1]; rfl] at h
    exact h
  | true =>
    obtain ⟨ys, hxy⟩ : ∃ ys, x = .tup ys ∨ x = .lst ys := ⟨_, seq_is q1⟩
    rcases hxy with rfl | rfl
    all_goals
      walk_at "xx"
      by_cases q2 : (ys.length : Int) = w
      · walk_at "xx"
        refine DL.Y.cmpF (fun y => .bl (smallD y)) (Nat.le_trans hz (by decide)) (fun y hy2 S' hS => ?_) ?_
        · walk_at "xx"
          exact ⟨y, rfl, (hy y hy2).kn, hS⟩
        · walk_at "xx"
          refine DL.Y.allM smallD ?_
          rw [show ys.all smallD = rowB _ w by unfold rowB; rw [q1]; show _ = (true && (decide ((ys.length : Int) = w) && ys.all smallD)); rw [decide_eq_true q2]; rfl]
          exact h
      · walk_at "xx"
        refine DL.Y.done ?_ h
        congr 1
        unfold rowB
        rw [q1]
        show false = (true && (decide ((ys.length : Int) = w) && ys.all smallD))
        rw [decide_eq_false q2]
        rfl
def sp_mcorn : DSp := fun xs G R _ => ∃ (x : D) (w : Int), xs = [x, .int w] ∧ Gd x ∧ R (.bl (cornB x w)) G
def cornR : DS := (dRet (dAndV (dCall sp_is_list X0 (dCons (dVar 0) dNil)) (dAndV (dOp fEq (dCal fLen (dCons (dVar 0) dNil)) (dVar 1)) (dCal fAll (dCons (dCmp (dISeq (dVar 0)) (gN 2) dYes (dCall sp_is_within X0 (dCons (dVar 2) (dCons (dNeg (dC (.int 1000))) (dCons (dC (.int 1000)) dNil)))) [2]) dNil)))))
theorem mcorn_ok (xs : List D) (G : Gm) (R : KD) (RX : XD) (h : sp_mcorn xs G R RX) : cornR { nx := fun _ G => R .non G, rt := R } (xs.map some ++ List.replicate (3 - xs.length) none) G := by
  obtain ⟨x, w, rfl, hx, h⟩ := h
  obtain ⟨hz, hy⟩ := hx.seq
  unfold cornR
  walk_at "start"
  walk_at "xx"
  refine ⟨x, rfl, hx.kn, ?_⟩
  cases q1 : isSeqD x with
  | false =>
    walk_at "xx"
    rw [show cornB x w = false by unfold cornB; rw [q1]; rfl] at h
    exact h
  | true =>
    obtain ⟨ys, hxy⟩ : ∃ ys, x = .tup ys ∨ x = .lst ys := ⟨_, seq_is q1⟩
    rcases hxy with rfl | rfl
    all_goals
      walk_at "xx"
      by_cases q2 : (ys.length : Int) = w
      · walk_at "xx"
        refine DL.Y.cmpF (fun y => .bl (withinD y (some (-1000)) (some 1000))) (Nat.le_trans hz (by decide)) (fun y hy2 S' hS => ?_) ?_
        · walk_at "xx"
          exact ⟨y, _, _, _, _, rfl, (hy y hy2).kn, rfl, rfl, hS⟩
        · walk_at "xx"
          refine DL.Y.allM (fun y => withinD y (some (-1000)) (some 1000)) ?_
          refine DL.Y.done ?_ h
          congr 1
          unfold cornB
          rw [q1]
          show _ = (true && (decide ((ys.length : Int) = w) && ys.all fun y => withinD y (some (-1000)) (some 1000)))
          rw [decide_eq_true q2]
          rfl
      · walk_at "xx"
        refine DL.Y.done ?_ h
        congr 1
        unfold cornB
        rw [q1]
        show false = (true && (decide ((ys.length : Int) = w) && _))
        rw [decide_eq_false q2]
        rfl
def sp_mpiece : DSp := fun xs G R _ => ∃ (x : D) (w : Int), xs = [x, .int w] ∧ Gd x ∧ R (.bl (pieceB x w)) G
def pieceR : DS := (dSeq (dIfS (dOr (dNot (dTst (dCall sp_is_list X0 (dCons (dVar 0) dNil)))) (dOr (dTst (dOp fNe (dCal fLen (dCons (dVar 0) dNil)) (dC (.int 3)))) (dOr (dNot (dTst (dCall sp_mcorn X0 (dCons (dIx (dVar 0) (dC (.int 0))) (dCons (dVar 1) dNil))))) (dNot (dTst (dCall sp_mrow X0 (dCons (dIx (dVar 0) (dC (.int 2))) (dCons (dVar 1) dNil)))))))) (dRet (dC (.bl false))) dNext) (dRet (dAndV (dCall sp_is_list X0 (dCons (dIx (dVar 0) (dC (.int 1))) dNil)) (dAndV (dOp fEq (dCal fLen (dCons (dIx (dVar 0) (dC (.int 1))) dNil)) (dVar 1)) (dCal fAll (dCons (dCmp (dISeq (dIx (dVar 0) (dC (.int 1)))) (gN 2) dYes (dCall sp_mrow X0 (dCons (dVar 2) (dCons (dVar 1) dNil))) [2]) dNil))))))
theorem len3 {ys : List D} (h : (ys.length : Int) = 3) : ∃ a b c, ys = [a, b, c] := by
  match ys, h with
  | [a, b, c], _ => exact ⟨a, b, c, rfl⟩
  | [], h => cases h
  | [_], h => cases h
  | [_, _], h => cases h
  | _ :: _ :: _ :: _ :: _, h => simp at h; omega
theorem mpiece_ok (xs : List D) (G : Gm) (R : KD) (RX : XD) (h : sp_mpiece xs G R RX) : pieceR { nx := fun _ G => R .non G, rt := R } (xs.map some ++ List.replicate (3 - xs.length) none) G := by
  obtain ⟨x, w, rfl, hx, h⟩ := h
  obtain ⟨hz, hy⟩ := hx.seq
  unfold pieceR
  walk_at "start"
  walk_at "xx"
  refine ⟨x, rfl, hx.kn, ?_⟩
  cases q1 : isSeqD x with
  | false =>
    walk_at "xx"
    rw [show pieceB x w = false by unfold pieceB; rw [q1]; rfl] at h
    exact h
  | true =>
    obtain ⟨ys, hxy⟩ : ∃ ys, (x = .tup ys ∨ x = .lst ys) ∧ seqL x = ys := ⟨_, seq_is q1, rfl⟩
    obtain ⟨hxy, es⟩ := hxy
    have at_ : ∀ {G : Gm}, SeqAt G x ys := hxy.elim (fun e => e ▸ seq_tup) fun e => e ▸ seq_lst
    have eB : pieceB x w = (decide ((ys.length : Int) = 3) && (cornB (ys.getD 0 .non) w && (rowB (ys.getD 2 .non) w && (isSeqD (ys.getD 1 .non) && (decide (((seqL (ys.getD 1 .non)).length : Int) = w) && (seqL (ys.getD 1 .non)).all fun r => rowB r w))))) := by
      unfold pieceB it
      rw [q1, es, Bool.true_and]
      congr 1
      exact decide_eq_decide.mpr (by omega)
    rw [eB] at h
    rw [es] at hy
    by_cases q2 : (ys.length : Int) = 3
    · obtain ⟨a, b, c, rfl⟩ := len3 q2
      have ha := hy a (by simp)
      have hb := hy b (by simp)
      have hc := hy c (by simp)
      have h : R (.bl (cornB a w && (rowB c w && (isSeqD b && (decide (((seqL b).length : Int) = w) && (seqL b).all fun r => rowB r w))))) G := h
      rcases hxy with rfl | rfl
      all_goals
        walk_at "xx"
        refine ⟨a, w, rfl, ha, ?_⟩
        cases q3 : cornB a w with
        | false =>
          rw [q3] at h
          walk_at "xx"
          exact h
        | true =>
          rw [q3, Bool.true_and] at h
          walk_at "xx"
          refine ⟨c, w, rfl, hc, ?_⟩
          cases q4 : rowB c w with
          | false =>
            rw [q4] at h
            walk_at "xx"
            exact h
          | true =>
            rw [q4, Bool.true_and] at h
            walk_at "xx"
            refine ⟨b, rfl, hb.kn, ?_⟩
            obtain ⟨hz3, hy3⟩ := hb.seq
            cases q5 : isSeqD b with
            | false =>
              rw [q5] at h
              walk_at "xx"
              exact h
            | true =>
              rw [q5, Bool.true_and] at h
              obtain ⟨zs, hzs⟩ : ∃ zs, b = .tup zs ∨ b = .lst zs := ⟨_, seq_is q5⟩
              rcases hzs with rfl | rfl
              all_goals
                walk_at "xx"
                have h : R (.bl (decide ((zs.length : Int) = w) && zs.all fun r => rowB r w)) G := h
                by_cases q6 : (zs.length : Int) = w
                · rw [decide_eq_true q6, Bool.true_and] at h
                  walk_at "xx"
                  refine DL.Y.cmpF (fun y => .bl (rowB y w)) (Nat.le_trans hz3 (by decide)) (fun y hy2 S' hS => ?_) ?_
                  · walk_at "xx"
                    exact ⟨y, w, rfl, hy3 y hy2, hS⟩
                  · walk_at "xx"
                    refine DL.Y.allM (fun y => rowB y w) ?_
                    exact h
                · rw [decide_eq_false q6] at h
                  walk_at "xx"
                  exact h
    · rw [decide_eq_false q2] at h
      rcases hxy with rfl | rfl
      all_goals
        walk_at "xx"
        exact h
end DL
end
section
open PySem PySem.Spec PyProof.Rows L2 Evl DL
local macro_rules | `(tactic| walk_at "side") => `(tactic| first | exact mul_left (by decide) | exact mul_right (by decide) | exact mul_bd | exact div_bd (by first | assumption | decide | omega) | exact pow_bd (by first | decide | omega) (by first | decide | omega) | assumption | (show (0 : Int) < _; first | decide | omega))
local macro_rules | `(tactic| walk_at "eva") => `(tactic| first | exact DL.EvA.nil | (refine' DL.EvA.cons ?e ?r; (case' e => walk_at "ev"); (case' r => walk_at "eva")))
local macro_rules | `(tactic| walk_at "seq") => `(tactic| first | exact seq_tup | exact seq_lst | exact seq_ref (by assumption))
local macro_rules | `(tactic| walk_at "size") => `(tactic| first | (show _ ≤ sizeLine; simp only [List.length_cons, List.length_nil]; decide) | (rw [sizeLine_eq]; omega))
local macro_rules | `(tactic| walk_at "ev") => `(tactic| first
  | exact DL.Ev.c
  | exact DL.Ev.var rfl
  | (refine' DL.Ev.int ?a ?b; (case' a => walk_at "ev"); (case' b => walk_at "ev"))
  | (refine' DL.Ev.intC ?a ?b ?s; (case' a => walk_at "ev"); (case' b => walk_at "ev"); (case' s => try walk_at "side"))
  | (refine' DL.Ev.add ?a ?b; (case' a => walk_at "ev"); (case' b => walk_at "ev"))
  | (refine' DL.Ev.neg ?a; (case' a => walk_at "ev"))
  | (refine' DL.Ev.intOf ?a; (case' a => walk_at "ev"))
  | (refine' DL.Ev.intB ?a; (case' a => walk_at "ev"))
  | (refine' DL.Ev.absN ?a; (case' a => walk_at "ev"))
  | (refine' DL.Ev.eqI ?a ?b; (case' a => walk_at "ev"); (case' b => walk_at "ev"))
  | (refine' DL.Ev.neI ?a ?b; (case' a => walk_at "ev"); (case' b => walk_at "ev"))
  | (refine' DL.Ev.at ?a ?b ?s ?k; (case' a => walk_at "ev"); (case' b => walk_at "ev"); (case' s => walk_at "seq"); (case' k => try rfl))
  | (refine' DL.Ev.len ?a ?s; (case' a => walk_at "ev"); (case' s => walk_at "seq"))
  | (refine' DL.Ev.tupOf ?a ?s; (case' a => walk_at "ev"); (case' s => walk_at "seq"))
  | (refine' DL.Ev.tup ?a ?z; (case' a => walk_at "eva"); (case' z => try walk_at "size"))
  | (refine' DL.Ev.lst ?a ?z; (case' a => walk_at "eva"); (case' z => try walk_at "size"))
  | (refine' DL.Ev.notV ?a; (case' a => walk_at "ev"))
  | (refine' DL.Ev.isN ?a; (case' a => walk_at "ev"))
  | exact fun R r => r
  | assumption)
local macro_rules | `(tactic| walk_at "set") => `(tactic| (refine' ds_set ?e ?_; (case' e => walk_at "ev")))
local macro_rules | `(tactic| walk_at "ret") => `(tactic| (refine' ds_ret ?e ?_; (case' e => walk_at "ev")))
local macro_rules | `(tactic| walk_at "par") => `(tactic| (refine' ds_par ?e ?f ?_; (case' e => walk_at "ev"); (case' f => walk_at "ev")))
local macro_rules | `(tactic| walk_at "cut") => `(tactic| (simp only [DL.cutD, HT.sIx, List.length_cons, List.length_nil, Nat.zero_add, Nat.reduceAdd, Nat.min_def, Nat.reduceLeDiff, ↓reduceIte, List.drop_zero, List.drop_succ_cons, List.take_zero, List.take_succ_cons, List.take_nil, List.drop_nil, List.cons_append, List.nil_append, Int.reduceLT, Int.reduceToNat, Nat.reduceSub, Nat.sub_zero, Int.reduceNeg, Int.cast_ofNat_Int, Int.reduceAdd]; exact rfl))
local macro_rules | `(tactic| walk_at "xu") => `(tactic| first
  | with_reducible refine' DL.Y.ixS0 ?_
  | with_reducible refine' DL.Y.ixS1 ?_
  | with_reducible refine' DL.Y.ixS2 ?_
  | with_reducible refine' DL.Y.ixP0 ?_
  | with_reducible refine' DL.Y.ixP1 ?_
  | with_reducible refine' DL.Y.lstS ?_
  | with_reducible refine' DL.Y.lstP ?_)
local macro_rules | `(tactic| walk_at "dec") => `(tactic| first | rfl | assumption | exact decide_eq_true (by omega) | exact decide_eq_false (by omega) | exact DL.Y.ndT (by omega) | exact DL.Y.ndF (by omega) | decide +kernel)
local macro_rules | `(tactic| walk_at "size2") => `(tactic| first | exact Nat.le_of_ble_eq_true rfl | omega)
local macro_rules | `(tactic| walk_at "x0") => `(tactic| first
  | with_reducible refine' DL.Y.cons ?_
  | ((with_reducible refine' DL.Y.var ?e ?_); (case' e => (first | exact rfl | assumption)))
  | with_reducible refine' DL.Y.c ?_
  | with_reducible refine' DL.Y.nil ?_
  | with_reducible refine' DL.Y.op ?_
  | with_reducible refine' DL.Y.oint ?_
  | ((with_reducible refine' DL.Y.ointC ?s ?_); (case' s => try walk_at "side"))
  | with_reducible refine' DL.Y.oadd ?_
  | with_reducible refine' DL.Y.oeqI ?_
  | with_reducible refine' DL.Y.oneI ?_
  | with_reducible refine' DL.Y.oeqS ?_
  | with_reducible refine' DL.Y.neS ?_
  | with_reducible refine' DL.Y.oneS ?_
  | with_reducible refine' DL.Y.oeqB ?_
  | with_reducible refine' DL.Y.tst ?_
  | with_reducible refine' DL.Y.bl_ ?_
  | ((with_reducible refine' DL.Y.iRng1_ ?z ?_); (case' z => (omega; done)))
  | with_reducible refine' DL.Y.int_ ?_
  | with_reducible refine' DL.Y.str_ ?_
  | with_reducible refine' DL.Y.ref_ ?_
  | ((with_reducible refine' DL.Y.iteT ?h ?_); (case' h => (walk_at "dec"; done)))
  | ((with_reducible refine' DL.Y.iteF ?h ?_); (case' h => (walk_at "dec"; done)))
  | with_reducible refine' DL.Y.seq ?_
  | with_reducible refine' DL.Y.set ?_
  | with_reducible refine' DL.Y.ifS ?_
  | with_reducible refine' DL.Y.ret ?_
  | with_reducible refine' DL.Y.nx ?_
  | with_reducible refine' DL.Y.drop ?_
  | with_reducible refine' DL.Y.asg ?_
  | with_reducible refine' DL.Y.par ?_
  | with_reducible refine' DL.Y.par_ ?_
  | with_reducible refine' DL.Y.par3 ?_
  | with_reducible refine' DL.Y.par3_ ?_
  | with_reducible refine' DL.Y.bk ?_
  | with_reducible refine' DL.Y.ct ?_
  | with_reducible refine' DL.Y.retN ?_
  | with_reducible refine' DL.Y.gn ?_
  | with_reducible refine' DL.Y.gnil ?_
  | with_reducible refine' DL.Y.gcons ?_
  | ((with_reducible refine' DL.Y.gseqT ?e ?_); (case' e => (rfl; done)))
  | ((with_reducible refine' DL.Y.gseqL ?e ?_); (case' e => (rfl; done)))
  | with_reducible refine' DL.Y.tup ?_
  | with_reducible refine' DL.Y.lst ?_
  | ((with_reducible refine' DL.Y.len_ ?n ?l ?_); (case' n => exact rfl); (case' l => try walk_at "size2"))
  | with_reducible refine' DL.Y.ix ?_
  | ((with_reducible refine' DL.Y.ixT ?e ?_); (case' e => (rfl; done)))
  | ((with_reducible refine' DL.Y.ixL ?e ?_); (case' e => (rfl; done)))
  | ((with_reducible refine' DL.Y.ixR ?g ?e ?_); (case' g => with_reducible assumption); (case' e => (rfl; done)))
  | with_reducible refine' DL.Y.cal ?_
  | with_reducible refine' DL.Y.lenT ?_
  | with_reducible refine' DL.Y.lenL ?_
  | ((with_reducible refine' DL.Y.lenR ?g ?_); (case' g => with_reducible assumption))
  | with_reducible refine' DL.Y.absI ?_
  | with_reducible refine' DL.Y.intI ?_
  | with_reducible refine' DL.Y.intB ?_
  | with_reducible refine' DL.Y.tupT ?_
  | with_reducible refine' DL.Y.tupL ?_
  | ((with_reducible refine' DL.Y.tupR ?g ?_); (case' g => with_reducible assumption))
  | with_reducible refine' DL.Y.lstT ?_
  | with_reducible refine' DL.Y.lstL ?_
  | with_reducible refine' DL.Y.allL ?_
  | with_reducible refine' DL.Y.anyL ?_
  | ((with_reducible refine' DL.Y.oaddL ?z ?_); (case' z => try walk_at "size2"))
  | ((with_reducible refine' DL.Y.oaddT ?z ?_); (case' z => try walk_at "size2"))
  | with_reducible refine' DL.Y.oisB ?_
  | with_reducible refine' DL.Y.onotB ?_
  | with_reducible refine' DL.Y.neg ?_
  | with_reducible refine' DL.Y.notT ?_
  | with_reducible refine' DL.Y.andT ?_
  | with_reducible refine' DL.Y.orT ?_
  | with_reducible refine' DL.Y.yes ?_
  | with_reducible refine' DL.Y.ifT ?_
  | with_reducible refine' DL.Y.andV ?_
  | with_reducible refine' DL.Y.orV ?_
  | with_reducible refine' DL.Y.notV ?_
  | with_reducible refine' DL.Y.isN ?_
  | with_reducible refine' DL.Y.notN ?_
  | ((with_reducible refine' DL.Y.isi_ ?e ?_); (case' e => (rfl; done)))
  | with_reducible refine' DL.Y.isiT ?_
  | with_reducible refine' DL.Y.chain ?_
  | with_reducible refine' DL.Y.sl ?_
  | with_reducible refine' DL.Y.noP ?_
  | with_reducible refine' DL.Y.part ?_
  | ((with_reducible refine' DL.Y.slLl ?n ?e ?_); (case' n => (rfl; done)); (case' e => walk_at "cut"))
  | ((with_reducible refine' DL.Y.slTl ?n ?m ?e ?_); (case' n => (rfl; done)); (case' m => (simp [HT.sIx]; done)); (case' e => walk_at "cut"))
  | with_reducible refine' DL.Y.slL ?_
  | with_reducible refine' DL.Y.call ?_
  | with_reducible refine' DL.Y.callK ?_
  | with_reducible refine' DL.Y.callD ?_
  | with_reducible refine' DL.Y.fld ?_
  | ((with_reducible refine' DL.Y.fld_ ?f ?e ?_); (case' f => (first | rfl | assumption); done); (case' e => (rfl; done)))
  | with_reducible refine' DL.Y.isW_ ?_
  | with_reducible refine' DL.Y.inK ?_
  | with_reducible refine' DL.Y.iSeq ?_
  | with_reducible refine' DL.Y.iSeqL ?_
  | with_reducible refine' DL.Y.iSeqT ?_
  | with_reducible refine' DL.Y.iRng1 ?_
  | with_reducible refine' DL.Y.iZip ?_
  | with_reducible refine' DL.Y.iZipT ?_
  | with_reducible refine' DL.Y.iZipL ?_
  | with_reducible refine' DL.Y.iEnum ?_
  | with_reducible refine' DL.Y.iEnumT ?_
  | with_reducible refine' DL.Y.iEnumL ?_
  | with_reducible refine' DL.Y.for_ ?_
  | with_reducible refine' DL.Y.cmp ?_
  | with_reducible refine' DL.Y.isO ?_
  | ((with_reducible refine' DL.Y.isO_ (isO_exc ?c) ?_); (case' c => (decide +kernel; done)))
  | ((with_reducible refine' DL.Y.isO_ ?e ?_); (case' e => (rfl; done)))
  | ((with_reducible refine' DL.Y.isW1 ?e ?_); (case' e => (first | assumption | (rfl; done))))
  | with_reducible refine' DL.Y.xf ?_
  | ((with_reducible refine' DL.Y.xf_ ?c ?e ?_); (case' c => (decide +kernel; done)); (case' e => (first | assumption | (rfl; done))))
  | with_reducible refine' DL.Y.mk ?_
  | with_reducible refine' DL.Y.dctM ?_
  | with_reducible refine' DL.Y.dct0 ?_
  | with_reducible refine' DL.Y.lstM ?_
  | with_reducible refine' DL.Y.rev ?_
  | with_reducible refine' DL.Y.revL ?_
  | with_reducible refine' DL.Y.dget ?_
  | with_reducible refine' DL.Y.dput ?_
  | with_reducible refine' DL.Y.app ?_
  | with_reducible refine' DL.Y.gc ?_
  | ((with_reducible refine' DL.Y.fld_ ?f ?e ?_); (case' f => ((first | rfl | assumption | decide +kernel); done)); (case' e => (rfl; done)))
  | with_reducible refine' DL.Y.chLe ?_
  | with_reducible refine' DL.Y.chLt ?_
  | with_reducible refine' DL.Y.setF ?_
  | with_reducible refine' DL.Y.lenSet ?_
  | with_reducible refine' DL.Y.inL ?_
  | with_reducible refine' DL.Y.inD ?_
  | with_reducible refine' DL.Y.inD_ ?_
  | with_reducible refine' DL.Y.ixD ?_
  | ((with_reducible refine' DL.Y.mulS ?h ?_); (case' h => (exact ⟨by omega, by omega, by decide⟩)))
  | ((with_reducible refine' DL.Y.mulL ?h ?_); (case' h => (exact ⟨by simp only [List.length_cons, List.length_nil]; omega, by omega, by omega⟩)))
  | walk_at "xu"
  | walk_at "norm")
local macro_rules | `(tactic| walk_at "norm") => `(tactic| (dsimp only [List.set]))
local macro_rules | `(tactic| walk_at "x") => `(tactic| first | walk_at "x0" | with_reducible refine' DL.Y.ifE ?_)
local macro_rules | `(tactic| walk_at "xs") => `(tactic| repeat walk_at "x0")
local macro_rules | `(tactic| walk_at "xx") => `(tactic| repeat walk_at "x")
local macro_rules | `(tactic| walk_at "start") => `(tactic| dsimp only [List.map, List.length_cons, List.length_nil, List.cons_append, List.nil_append, Nat.zero_add, Nat.reduceAdd, Nat.reduceSub, List.reduceReplicate])
namespace DL
open PySem PySem.Spec PyProof.Rows L2 Evl Sup
variable [TabC]
def machD (w : Nat) (ps : List Pc) : D := .ins "Machine" ["wide", "pieces"] [.int w, .tup (ps.map Pc.d)]
def kRow (x : D) : D := .tup ((seqL x).map keptD)
def kPc (x : D) : D := .tup [.tup (seqL (it x 0)), .tup ((seqL (it x 1)).map kRow), kRow (it x 2)]
theorem num_q {x : D} (h : numD x = true) : ∃ q : Qr, keptD x = ofQ q ∧ numI x = (q.num, (q.den : Int)) := by
  rcases num_cases h with ⟨i, rfl⟩ | ⟨a, b, hx, h2, hg⟩
  · exact ⟨i, rfl, rfl⟩
  · obtain ⟨m, rfl⟩ : ∃ m : Nat, b = m := ⟨b.toNat, by omega⟩
    have hm : (m : Int) ≠ 1 := by omega
    refine ⟨⟨a, m, by omega, hg⟩, ?_, ?_⟩
    · have e : ofQ ⟨a, m, by omega, hg⟩ = .tup [.int a, .int m] := if_neg hm
      rw [e]
      rcases hx with rfl | rfl <;> rfl
    · rcases hx with rfl | rfl <;> rfl
theorem small_q {x : D} (h : smallD x = true) : ∃ q : Qr, keptD x = ofQ q ∧ Smq q := by
  unfold smallD at h
  rw [Bool.and_eq_true] at h
  obtain ⟨h1, h2⟩ := h
  obtain ⟨q, e1, e2⟩ := num_q h1
  obtain ⟨e3, _⟩ := num_half h1
  rw [e3, e2] at h2
  have h2 : (decide ((q.num.natAbs : Int) ≤ 1000000) && decide ((q.den : Int) ≤ 1000)) = true := h2
  rw [Bool.and_eq_true] at h2
  have a := of_decide_eq_true h2.1
  have b := of_decide_eq_true h2.2
  exact ⟨q, e1, by omega, by omega⟩
theorem small_all : ∀ {ys : List D}, ys.all smallD = true → ∃ qs : List Qr, ys.map keptD = qs.map ofQ ∧ (∀ q ∈ qs, Smq q) ∧ qs.length = ys.length
  | [], _ => ⟨[], rfl, (fun q hq => by cases hq), rfl⟩
  | y :: ys, h => by
    rw [List.all_cons, Bool.and_eq_true] at h
    obtain ⟨q, e, hq⟩ := small_q h.1
    obtain ⟨qs, e2, hqs, hl⟩ := small_all h.2
    exact ⟨q :: qs, by rw [List.map_cons, List.map_cons, e, e2], fun p hp => (List.mem_cons.mp hp).elim (fun z => z ▸ hq) (hqs p), congrArg (· + 1) hl⟩
theorem row_q {x : D} {w : Nat} (h : rowB x w = true) : ∃ qs : List Qr, kRow x = rowD qs ∧ (∀ q ∈ qs, Smq q) ∧ qs.length = w := by
  unfold rowB at h
  simp only [Bool.and_eq_true] at h
  obtain ⟨_, h1, h2⟩ := h
  obtain ⟨qs, e, hq, hl⟩ := small_all h2
  have := of_decide_eq_true h1
  exact ⟨qs, congrArg D.tup e, hq, by omega⟩
theorem rows_q {w : Nat} : ∀ {ys : List D}, (ys.all fun r => rowB r w) = true → ∃ rs : List (List Qr), ys.map kRow = rs.map rowD ∧ (∀ r ∈ rs, (∀ q ∈ r, Smq q) ∧ r.length = w) ∧ rs.length = ys.length
  | [], _ => ⟨[], rfl, (fun q hq => by cases hq), rfl⟩
  | y :: ys, h => by
    rw [List.all_cons, Bool.and_eq_true] at h
    obtain ⟨q, e, hq, hl0⟩ := row_q h.1
    obtain ⟨qs, e2, hqs, hl⟩ := rows_q h.2
    exact ⟨q :: qs, by rw [List.map_cons, List.map_cons, e, e2], fun p hp => (List.mem_cons.mp hp).elim (fun z => z ▸ ⟨hq, hl0⟩) (hqs p), congrArg (· + 1) hl⟩
theorem corn_i {w : Nat} : ∀ {ys : List D}, (ys.all fun y => withinD y (some (-1000)) (some 1000)) = true → ∃ is : List Int, ys = is.map D.int ∧ (∀ i ∈ is, -1000 ≤ i ∧ i ≤ 1000) ∧ is.length = ys.length
  | [], _ => ⟨[], rfl, (fun q hq => by cases hq), rfl⟩
  | y :: ys, h => by
    rw [List.all_cons, Bool.and_eq_true] at h
    obtain ⟨is, e2, hqs, hl⟩ := corn_i (w := w) h.2
    cases y with
    | int i =>
      have h1 : (decide ((-1000 : Int) ≤ i) && decide (i ≤ (1000 : Int))) = true := h.1
      rw [Bool.and_eq_true] at h1
      have a := of_decide_eq_true h1.1
      have b := of_decide_eq_true h1.2
      exact ⟨i :: is, by rw [e2]; rfl, fun p hp => (List.mem_cons.mp hp).elim (fun z => z ▸ ⟨a, b⟩) (hqs p), congrArg (· + 1) hl⟩
    | _ => exact absurd (show false = true from h.1) (by decide)
theorem piece_p {x : D} {w : Nat} (h : pieceB x w = true) : ∃ p : Pc, kPc x = p.d ∧ p.ok w := by
  unfold pieceB at h
  simp only [Bool.and_eq_true] at h
  obtain ⟨_, _, hc, hs, _, hl1, hr⟩ := h
  unfold cornB at hc
  simp only [Bool.and_eq_true] at hc
  obtain ⟨_, hl0, hc⟩ := hc
  obtain ⟨is, e1, b1, l1⟩ := corn_i (w := w) hc
  obtain ⟨rs, e2, b2, l2⟩ := rows_q hr
  obtain ⟨s, e3, b3, l3⟩ := row_q hs
  have := of_decide_eq_true hl0
  have := of_decide_eq_true hl1
  refine ⟨⟨is, rs, s⟩, ?_, ⟨by show is.length = w; omega, by show rs.length = w; omega, fun r hr => (b2 r hr).2, l3, fun r hr => (b2 r hr).1, b3, b1⟩⟩
  show D.tup [.tup (seqL (it x 0)), .tup ((seqL (it x 1)).map kRow), kRow (it x 2)] = _
  rw [e1, e2, e3]
  rfl
theorem key_ofQ (q : Qr) : ∃ k, D.key (ofQ q) = some k ∧ (ofQ q).dp ≤ 1 := by
  unfold ofQ pairZ
  split
  · exact ⟨_, rfl, Nat.zero_le _⟩
  · exact ⟨_, rfl, Nat.le_refl _⟩
theorem keyL_of : ∀ {n : Nat} {xs : List D}, (∀ x ∈ xs, ∃ k, D.key x = some k ∧ x.dp ≤ n) → ∃ ks, D.keyL xs = some ks ∧ D.dpL xs ≤ n
  | n, [], _ => ⟨[], rfl, Nat.zero_le _⟩
  | n, x :: xs, h => by
    obtain ⟨k, e, d1⟩ := h x List.mem_cons_self
    obtain ⟨ks, e2, d2⟩ := keyL_of (n := n) fun y hy => h y (List.mem_cons_of_mem _ hy)
    refine ⟨k :: ks, ?_, ?_⟩
    · unfold D.keyL
      rw [e, e2]
    · show max x.dp (D.dpL xs) ≤ n
      omega
theorem key_tupOf {n : Nat} {xs : List D} (h : ∀ x ∈ xs, ∃ k, D.key x = some k ∧ x.dp ≤ n) : ∃ k, D.key (.tup xs) = some k ∧ (D.tup xs).dp ≤ n + 1 := by
  obtain ⟨ks, e, d⟩ := keyL_of h
  refine ⟨.tup ks, ?_, Nat.succ_le_succ d⟩
  unfold D.key
  rw [e]
  rfl
theorem key_row (qs : List Qr) : ∃ k, D.key (rowD qs) = some k ∧ (rowD qs).dp ≤ 2 := key_tupOf fun x hx => by
  obtain ⟨q, _, rfl⟩ := List.mem_map.mp hx
  exact key_ofQ q
theorem kt_pc (p : Pc) : Kt p.d := by
  have k1 : ∃ k, D.key p.d = some k ∧ p.d.dp ≤ 4 := key_tupOf (n := 3) fun x hx => by
    simp only [List.mem_cons, List.mem_nil_iff, or_false] at hx
    rcases hx with rfl | rfl | rfl
    · obtain ⟨k, e, d⟩ := key_tupOf (n := 0) (xs := p.c.map D.int) fun y hy => by
        obtain ⟨i, _, rfl⟩ := List.mem_map.mp hy
        exact ⟨_, rfl, Nat.le_refl _⟩
      exact ⟨k, e, by omega⟩
    · obtain ⟨k, e, d⟩ := key_tupOf (n := 2) (xs := p.rs.map rowD) fun y hy => by
        obtain ⟨r, _, rfl⟩ := List.mem_map.mp hy
        exact key_row r
      exact ⟨k, e, d⟩
    · obtain ⟨k, e, d⟩ := key_row p.s
      exact ⟨k, e, by omega⟩
  obtain ⟨k, e, d⟩ := k1
  exact ⟨⟨_, rfl⟩, ⟨k, e⟩, by omega⟩
def sp_mkrow : DSp := fun xs G R _ => ∃ x : D, xs = [x] ∧ Gd x ∧ isSeqD x = true ∧ R (kRow x) G
def kRowR : DS := (dRet (dCal fTupOf (dCons (dCmp (dISeq (dVar 0)) (gN 1) dYes (dCall sp_kept_number X0 (dCons (dVar 1) dNil)) [1]) dNil)))
theorem mkrow_ok (xs : List D) (G : Gm) (R : KD) (RX : XD) (h : sp_mkrow xs G R RX) : kRowR { nx := fun _ G => R .non G, rt := R } (xs.map some ++ List.replicate (2 - xs.length) none) G := by
  obtain ⟨x, rfl, hx, hs, h⟩ := h
  obtain ⟨hz, hy⟩ := hx.seq
  unfold kRowR
  walk_at "start"
  obtain ⟨ys, hxy⟩ : ∃ ys, x = .tup ys ∨ x = .lst ys := ⟨_, seq_is hs⟩
  rcases hxy with rfl | rfl
  all_goals
    walk_at "xx"
    refine DL.Y.cmpF keptD (Nat.le_trans hz (by decide)) (fun y hy2 S' hS => ?_) ?_
    · walk_at "xx"
      exact ⟨y, rfl, (hy y hy2).kn, hS⟩
    · walk_at "xx"
      exact h
def sp_mkpiece : DSp := fun xs G R _ => ∃ (x : D) (w : Int), xs = [x] ∧ Gd x ∧ pieceB x w = true ∧ R (kPc x) G
def kPieceR : DS := (dRet (dTup (dCons (dCal fTupOf (dCons (dIx (dVar 0) (dC (.int 0))) dNil)) (dCons (dCal fTupOf (dCons (dCmp (dISeq (dIx (dVar 0) (dC (.int 1)))) (gN 1) dYes (dCall sp_mkrow X0 (dCons (dVar 1) dNil)) [1]) dNil)) (dCons (dCall sp_mkrow X0 (dCons (dIx (dVar 0) (dC (.int 2))) dNil)) dNil)))))
theorem mkpiece_ok (xs : List D) (G : Gm) (R : KD) (RX : XD) (h : sp_mkpiece xs G R RX) : kPieceR { nx := fun _ G => R .non G, rt := R } (xs.map some ++ List.replicate (2 - xs.length) none) G := by
  obtain ⟨x, w, rfl, hx, hp, h⟩ := h
  obtain ⟨hz, hy⟩ := hx.seq
  unfold kPieceR
  walk_at "start"
  unfold pieceB at hp
  simp only [Bool.and_eq_true] at hp
  obtain ⟨hs, hl, hc, hr, hs1, _, _⟩ := hp
  have hl := of_decide_eq_true hl
  obtain ⟨ys, hxy, es⟩ : ∃ ys, (x = .tup ys ∨ x = .lst ys) ∧ seqL x = ys := ⟨_, seq_is hs, rfl⟩
  rw [es] at hl hy
  obtain ⟨a, b, c, rfl⟩ := len3 (ys := ys) (by omega)
  have i0 : it x 0 = a := by unfold it; rw [es]; rfl
  have i1 : it x 1 = b := by unfold it; rw [es]; rfl
  have i2 : it x 2 = c := by unfold it; rw [es]; rfl
  unfold kPc at h
  rw [i0] at hc h
  rw [i1] at hs1 h
  rw [i2] at hr h
  unfold cornB at hc
  unfold rowB at hr
  simp only [Bool.and_eq_true] at hc hr
  have ha := hy a (by simp)
  have hb := hy b (by simp)
  have hcc := hy c (by simp)
  obtain ⟨za, hya⟩ := ha.seq
  obtain ⟨zb, hyb⟩ := hb.seq
  obtain ⟨as, hxa⟩ : ∃ as, a = .tup as ∨ a = .lst as := ⟨_, seq_is hc.1⟩
  obtain ⟨bs, hxb⟩ : ∃ bs, b = .tup bs ∨ b = .lst bs := ⟨_, seq_is hs1⟩
  have rows : ∀ y ∈ seqL b, isSeqD y = true := fun y hy2 => by
    have := List.all_eq_true.mp (by assumption) y (by rw [i1]; exact hy2)
    unfold rowB at this
    simp only [Bool.and_eq_true] at this
    exact this.1
  rcases hxy with rfl | rfl
  all_goals
    rcases hxa with rfl | rfl
    all_goals
      rcases hxb with rfl | rfl
      all_goals
        walk_at "xx"
        refine DL.Y.cmpF kRow (Nat.le_trans zb (by decide)) (fun y hy2 S' hS => ?_) ?_
        · walk_at "xx"
          exact ⟨y, rfl, hyb y hy2, rows y hy2, hS⟩
        · walk_at "xx"
          refine ⟨c, rfl, hcc, hr.1, ?_⟩
          walk_at "xx"
          exact h
def sp_munlike : DSp := fun xs G R _ => ∃ (x : D) (ds : List D) (b : Bool), xs = [x] ∧ (x = .tup ds ∨ x = .lst ds ∨ ∃ a, x = .ref a ∧ G a = some (.lst ds)) ∧ ds.length < 64 ∧ (∀ d ∈ ds, Kt d) ∧ (b = true ↔ ds.Nodup) ∧ R (.bl b) G
def unlikeR : DS := (dRet (dOp fEq (dLenSet (dVar 0)) (dCal fLen (dCons (dVar 0) dNil))))
theorem munlike_ok (xs : List D) (G : Gm) (R : KD) (RX : XD) (h : sp_munlike xs G R RX) : unlikeR { nx := fun _ G => R .non G, rt := R } (xs.map some ++ List.replicate (1 - xs.length) none) G := by
  obtain ⟨x, ds, b, rfl, hx, hl, hk, hb, h⟩ := h
  unfold unlikeR
  walk_at "start"
  have hs : SeqAt G x ds := by
    rcases hx with rfl | rfl | ⟨a, rfl, hg⟩
    · exact seq_tup
    · exact seq_lst
    · exact seq_ref hg
  walk_at "xx"
  refine ⟨ds, hs, hl, hk, fun nd => ?_, fun nd n hn => ?_⟩
  all_goals
    walk_at "xx"
    refine ⟨_, ⟨x, rfl, .inl ⟨ds, hs, rfl⟩⟩, ?_⟩
    walk_at "xx"
  · rw [decide_eq_true rfl]
    rw [hb.mpr nd] at h
    exact h
  · rw [decide_eq_false (by omega)]
    rw [show b = false from Bool.eq_false_iff.mpr fun z => nd (hb.mp z)] at h
    exact h
inductive MadeX (w x : D) (G : Gm) (a : Addr) (R : KD) (RX : XD) : Prop
  | wide (hw : withinD w (some 1) (some 2) = false) (r : RX "BadMachine" ["part"] [.str "wide"] G)
  | pieces (n : Nat) (e : w = .int n) (hn : 1 ≤ n ∧ n ≤ 2) (hb : ¬ (isSeqD x = true ∧ 1 ≤ (seqL x).length ∧ (seqL x).length ≤ 60 ∧ ((seqL x).all fun y => pieceB y n) = true ∧ ((seqL x).map kPc).Nodup)) (r : RX "BadMachine" ["part"] [.str "pieces"] G)
  | good (n : Nat) (ps : List Pc) (e : w = .int n) (hn : 1 ≤ n ∧ n ≤ 2) (hs : isSeqD x = true) (h1 : 1 ≤ (seqL x).length) (h60 : (seqL x).length ≤ 60) (ha : ((seqL x).all fun y => pieceB y n) = true) (em : (seqL x).map kPc = ps.map Pc.d) (nd : (ps.map Pc.d).Nodup) (r : R .non (gup G a (.ins "Machine" ["wide", "pieces"] [.int n, .tup (ps.map Pc.d)])))
def sp_mach : DSp := fun xs G R RX => ∃ (a : Addr) (w x : D), xs = [.ref a, w, x] ∧ w.kn = true ∧ Gd x ∧ G a = some (.ins "Machine" [] []) ∧ MadeX w x G a R RX
def machR (cl : ClT) (RX : XD) : DS := (dSeq (dIfS (dNot (dTst (dCall sp_is_within X0 (dCons (dVar 1) (dCons (dC (.int 1)) (dCons (dC (.int 2)) dNil)))))) (dRaise "BadMachine" ["part"] [true] RX (dCons (dC (.str "wide")) dNil)) dNext) (dSeq (dIfS (dOr (dNot (dTst (dCall sp_is_list X0 (dCons (dVar 2) dNil)))) (dNot (dTst (dChain (fInt gLe) (fInt gLe) (dC (.int 1)) (dCal fLen (dCons (dVar 2) dNil)) (dC (.int 60)))))) (dRaise "BadMachine" ["part"] [true] RX (dCons (dC (.str "pieces")) dNil)) dNext) (dSeq (dIfS (dNot (dTst (dCal fAll (dCons (dCmp (dISeq (dVar 2)) (gN 3) dYes (dCall sp_mpiece X0 (dCons (dVar 3) (dCons (dVar 1) dNil))) [3]) dNil)))) (dRaise "BadMachine" ["part"] [true] RX (dCons (dC (.str "pieces")) dNil)) dNext) (dSeq (dSet 4 (dCal fTupOf (dCons (dCmp (dISeq (dVar 2)) (gN 3) dYes (dCall sp_mkpiece X0 (dCons (dVar 3) dNil)) [3]) dNil))) (dSeq (dIfS (dNot (dTst (dCall sp_munlike X0 (dCons (dVar 4) dNil)))) (dRaise "BadMachine" ["part"] [true] RX (dCons (dC (.str "pieces")) dNil)) dNext) (dSeq (dSetF cl "wide" (dVar 1) (dVar 0)) (dSetF cl "pieces" (dVar 4) (dVar 0))))))))
theorem mach_ok {cl : ClT} (hw : hasF cl "Machine" "wide" = true) (hp : hasF cl "Machine" "pieces" = true) (xs : List D) (G : Gm) (R : KD) (RX : XD) (h : sp_mach xs G R RX) : machR cl RX { nx := fun _ G => R .non G, rt := R } (xs.map some ++ List.replicate (5 - xs.length) none) G := by
  obtain ⟨a, w, x, rfl, hk, hx, hg, h⟩ := h
  obtain ⟨hz, hy⟩ := hx.seq
  have p1 : ("wide" : Str).length ≤ 10000 := by decide
  have p2 : ("pieces" : Str).length ≤ 10000 := by decide
  unfold machR
  walk_at "start"
  walk_at "xx"
  refine ⟨w, _, _, _, _, rfl, hk, rfl, rfl, ?_⟩
  have wn : ∀ n : Nat, 1 ≤ n ∧ n ≤ 2 → withinD (.int (n : Int)) (some 1) (some 2) = true := fun n hn => by
    show (decide ((1 : Int) ≤ n) && decide ((n : Int) ≤ 2)) = true
    rw [decide_eq_true (by omega), decide_eq_true (by omega)]
    rfl
  cases h with
  | wide hw r =>
    rw [hw]
    walk_at "xx"
    exact DL.Y.raiseC p1 r
  | pieces n e hn hb r =>
    subst e
    rw [wn n hn]
    walk_at "xx"
    refine ⟨x, rfl, hx.kn, ?_⟩
    cases q1 : isSeqD x with
    | false =>
      walk_at "xx"
      exact DL.Y.raiseC p2 r
    | true =>
      rw [q1] at hb
      obtain ⟨ys, hxy, es⟩ : ∃ ys, (x = .tup ys ∨ x = .lst ys) ∧ seqL x = ys := ⟨_, seq_is q1, rfl⟩
      rw [es] at hb hz hy
      rcases hxy with rfl | rfl
      all_goals
        walk_at "xx"
        by_cases b1 : 1 ≤ ys.length
        · walk_at "xx"
          by_cases b2 : ys.length ≤ 60
          · walk_at "xx"
            refine DL.Y.cmpF (fun y => .bl (pieceB y n)) (Nat.le_trans hz (by decide)) (fun y hy2 S' hS => ?_) ?_
            · walk_at "xx"
              exact ⟨y, n, rfl, hy y hy2, hS⟩
            · walk_at "xx"
              refine DL.Y.allM (fun y => pieceB y n) ?_
              cases b3 : ys.all fun y => pieceB y n with
              | false =>
                walk_at "xx"
                exact DL.Y.raiseC p2 r
              | true =>
                walk_at "xx"
                refine DL.Y.cmpF kPc (Nat.le_trans hz (by decide)) (fun y hy2 S' hS => ?_) ?_
                · walk_at "xx"
                  exact ⟨y, n, rfl, hy y hy2, List.all_eq_true.mp b3 y hy2, hS⟩
                · walk_at "xx"
                  refine ⟨_, ys.map kPc, false, rfl, .inl rfl, by rw [List.length_map]; omega, fun d hd => ?_, ⟨fun z => (by cases z), fun nd => absurd ⟨rfl, b1, b2, b3, nd⟩ hb⟩, ?_⟩
                  · obtain ⟨y, hy2, rfl⟩ := List.mem_map.mp hd
                    obtain ⟨p, e, _⟩ := piece_p (List.all_eq_true.mp b3 y hy2)
                    rw [e]
                    exact kt_pc p
                  · walk_at "xx"
                    exact DL.Y.raiseC p2 r
          · walk_at "xx"
            exact DL.Y.raiseC p2 r
        · walk_at "xx"
          exact DL.Y.raiseC p2 r
  | good n ps e hn hs h1 h60 ha em nd r =>
    subst e
    rw [wn n hn]
    walk_at "xx"
    refine ⟨x, rfl, hx.kn, ?_⟩
    obtain ⟨ys, hxy, es⟩ : ∃ ys, (x = .tup ys ∨ x = .lst ys) ∧ seqL x = ys := ⟨_, seq_is hs, rfl⟩
    rw [es] at ha hz hy h1 h60 em
    rw [hs]
    rcases hxy with rfl | rfl
    all_goals
      walk_at "xx"
      walk_at "xx"
      walk_at "xx"
      refine DL.Y.cmpF (fun y => .bl (pieceB y n)) (Nat.le_trans hz (by decide)) (fun y hy2 S' hS => ?_) ?_
      · walk_at "xx"
        exact ⟨y, n, rfl, hy y hy2, hS⟩
      · walk_at "xx"
        refine DL.Y.allM (fun y => pieceB y n) ?_
        rw [ha]
        walk_at "xx"
        refine DL.Y.cmpF kPc (Nat.le_trans hz (by decide)) (fun y hy2 S' hS => ?_) ?_
        · walk_at "xx"
          exact ⟨y, n, rfl, hy y hy2, List.all_eq_true.mp ha y hy2, hS⟩
        · rw [em]
          walk_at "xx"
          refine ⟨_, ps.map Pc.d, true, rfl, .inl rfl, by rw [← em, List.length_map]; omega, fun d hd => ?_, ⟨fun _ => nd, fun _ => rfl⟩, ?_⟩
          · obtain ⟨p, _, rfl⟩ := List.mem_map.mp hd
            exact kt_pc p
          · walk_at "xx"
            walk_at "xx"
            refine ⟨a, "Machine", [], [], rfl, hg, hw, by decide, ?_⟩
            walk_at "xx"
            refine ⟨a, "Machine", ["wide"], [.int n], rfl, gup_same, hp, by decide, ?_⟩
            rw [gup_gup]
            exact r
end DL
namespace DL
open PySem PySem.Spec PyProof.Rows L2 Evl Sup
variable [TabC]
namespace Y
section
variable {ρ0 : En} {G : Gm} {g : DG} {t : DT} {de : DE} {xs : List D}
theorem cmpL_A {α : Type} (e : α → D) (p : α → Bool) (f : α → D) {S : List D → Gm → Prop} : ∀ (l : List α) (acc : List D), acc.length + l.length ≤ sizeLine → (∀ a ∈ l, ∀ (S1 : KD) (T1 : Gm → Prop), (p a = true → S1 (f a) G) → (p a = false → T1 G) → g (e a) ρ0 G fun ρ1 G1 => t ρ1 G1 fun k G2 => if k = true then de ρ1 G2 S1 else T1 G2) → S (acc ++ (l.filter p).map f) G → cmpL ρ0 g t de (l.map e) acc G S
  | [], acc, _, _, h => by
    rw [List.filter_nil, List.map_nil, List.append_nil] at h
    exact h
  | a :: l, acc, hz, hf, h => by
    rw [List.length_cons] at hz
    refine hf a List.mem_cons_self _ _ (fun hp => ⟨by omega, cmpL_A e p f l _ (by rw [List.length_append, List.length_singleton]; omega) (fun b hb => hf b (List.mem_cons_of_mem _ hb)) ?_⟩) fun hp => cmpL_A e p f l acc (by omega) (fun b hb => hf b (List.mem_cons_of_mem _ hb)) ?_
    · rw [List.filter_cons_of_pos hp, List.map_cons] at h
      rw [List.append_assoc]
      exact h
    · rw [List.filter_cons_of_neg (by rw [hp]; decide)] at h
      exact h
theorem cmpA {α : Type} (l : List α) (e : α → D) (p : α → Bool) (f : α → D) (hx : xs = l.map e) (hz : l.length ≤ 10000000) {S : List D → Gm → Prop} (hf : ∀ a ∈ l, ∀ (S1 : KD) (T1 : Gm → Prop), (p a = true → S1 (f a) G) → (p a = false → T1 G) → g (e a) ρ0 G fun ρ1 G1 => t ρ1 G1 fun k G2 => if k = true then de ρ1 G2 S1 else T1 G2) (h : S ((l.filter p).map f) G) : cmpL ρ0 g t de xs [] G S := by
  subst hx
  exact cmpL_A e p f l [] (by rw [sizeLine_eq, List.length_nil]; omega) hf h
theorem cmpB {α : Type} (l : List α) (e : α → D) (f : α → D) (hx : xs = l.map e) (hz : l.length ≤ 10000000) {S : List D → Gm → Prop} (hf : ∀ a ∈ l, ∀ S1 : KD, S1 (f a) G → g (e a) ρ0 G fun ρ1 G1 => de ρ1 G1 S1) (mono : ∀ x (N N' : En → Gm → Prop), (∀ ρ G, N ρ G → N' ρ G) → g x ρ0 G N → g x ρ0 G N') (h : S (l.map f) G) : cmpL ρ0 g dYes de xs [] G S :=
  cmpA l e (fun _ => true) f hx hz (fun a ha S1 T1 h1 _ => mono _ _ _ (fun ρ G n => (show (if true = true then de ρ G S1 else T1 G) from by rw [if_pos rfl]; exact n)) (hf a ha S1 (h1 rfl))) (by rw [show l.filter (fun _ => true) = l from List.filter_eq_self.mpr fun _ _ => rfl]; exact h)
end
end Y
theorem qb11 {i : Int} (h : -1001 ≤ i ∧ i ≤ 1001) : Qb 11 (i : Qr) := qb_int (by
  have : (2 : Nat) ^ 11 = 2048 := by decide
  omega)
def sp_needMach (cl : ClT) (sub : Str → Str → Bool) : DSp := fun xs G R RX => ∃ (x : D) (p : Str) (b : Bool), xs = [x, .str p] ∧ p.length ≤ 10000 ∧ isW cl sub "Machine" x = some b ∧ (b = true → R .non G) ∧ (b = false → RX "BadMachine" ["part"] [.str p] G)
def needMachR (cl : ClT) (sub : Str → Str → Bool) (RX : XD) : DS := (dIfS (dNot (dTst (dIsW cl sub "Machine" (dVar 0)))) (dRaise "BadMachine" ["part"] [true] RX (dCons (dVar 1) dNil)) dNext)
theorem needMach_ok {cl : ClT} {sub : Str → Str → Bool} (xs : List D) (G : Gm) (R : KD) (RX : XD) (h : sp_needMach cl sub xs G R RX) : needMachR cl sub RX { nx := fun _ G => R .non G, rt := R } (xs.map some ++ List.replicate (2 - xs.length) none) G := by
  obtain ⟨x, p, b, rfl, hp, hb, h1, h2⟩ := h
  unfold needMachR
  walk_at "start"
  walk_at "xx"
  cases b with
  | true =>
    walk_at "xx"
    exact h1 rfl
  | false =>
    walk_at "xx"
    exact DL.Y.raiseV rfl hp (h2 rfl)
theorem mach_is {cl : ClT} {sub : Str → Str → Bool} (hc : hasC cl "Machine" = true) (hs : sub "Machine" "Machine" = true) (w : Nat) (ps : List Pc) : isW cl sub "Machine" (machD w ps) = some true := by
  show (if hasC cl "Machine" = true then some (sub "Machine" "Machine") else none) = some true
  rw [if_pos hc, hs]
end DL
namespace DL
open PySem PySem.Spec PyProof.Rows L2 Evl Sup
variable [TabC]
theorem mach_len : (("machine" : Str)).length ≤ 10000 := by decide
theorem needMach_yes {cl : ClT} {sub : Str → Str → Bool} (hc : hasC cl "Machine" = true) (hs : sub "Machine" "Machine" = true) {w : Nat} {ps : List Pc} {G : Gm} {R : KD} {RX : XD} (r : R .non G) : sp_needMach cl sub ([machD w ps] ++ [.str "machine"]) G R RX := ⟨_, _, true, rfl, mach_len, mach_is hc hs w ps, fun _ => r, (fun z => by cases z)⟩
end DL
namespace DL
open PySem PySem.Spec PyProof.Rows L2 Evl Sup
variable [TabC]
theorem gup_id {G : Gm} {a : Addr} {m : Mt} (h : G a = some m) : gup G a m = G := by
  funext b
  by_cases e : b = a
  · rw [e, gup_same, h]
  · exact gup_ne e
theorem gup_in {G : Gm} {a p : Addr} {m m' l : Mt} (h : a ≠ p) : gup (gup (gup G a m) p l) a m' = gup (gup G a m') p l := by
  funext b
  by_cases e : b = a
  · rw [e, gup_same, gup_ne h, gup_same]
  · rw [gup_ne e]
    by_cases e2 : b = p
    · rw [e2, gup_same, gup_same]
    · rw [gup_ne e2, gup_ne e2, gup_ne e, gup_ne e]
theorem gau_in {G : Gm} {a p : Addr} {m l : Mt} {T : Nat} (h : a ≠ p) (hm : Gau m T) : GauAt (gup (gup G a m) p l) a T := ⟨m, by rw [gup_ne h, gup_same], hm⟩
namespace Y
section
variable {ρ0 ρ : En} {G : Gm} {g : DG} {de : DE} {E : DEnds} {s : DS} {xs : List D}
theorem frz {i : Nat} {p : Addr} {ds : List D} (hr : ρ[i]? = some (some (.ref p))) (hn : G p = none) (h : s E (ρ.set i (some (.lst ds))) G) : dFrz i s E ρ (gup G p (.lst ds)) := ⟨p, ds, hr, gup_same, by rw [gdel_gup hn]; exact h⟩
theorem app_ {K : Gm} {p : Addr} {ds : List D} {Q : Gm → Prop} (h : de ρ (gup K p (.lst ds)) fun x G2 => ∃ es, G2 p = some (.lst es) ∧ es.length < sizeLine ∧ Q (gup G2 p (.lst (es ++ [x])))) : (∃ es, gup K p (.lst ds) p = some (.lst es)) ∧ dCons de dNil ρ (gup K p (.lst ds)) fun ys G2 => ∃ x, ys = [x] ∧ ∃ es, G2 p = some (.lst es) ∧ es.length < sizeLine ∧ Q (gup G2 p (.lst (es ++ [x]))) := by
  refine ⟨⟨_, gup_same⟩, ?_⟩
  refine Y.cons ?_
  have : (fun x G2 => dNil ρ G2 fun xs G3 => (fun ys (G2 : Gm) => ∃ x, ys = [x] ∧ ∃ es, G2 p = some (.lst es) ∧ es.length < sizeLine ∧ Q (gup G2 p (.lst (es ++ [x])))) (x :: xs) G3) = fun (x : D) (G2 : Gm) => ∃ x', [x] = [x'] ∧ ∃ es, G2 p = some (.lst es) ∧ es.length < sizeLine ∧ Q (gup G2 p (.lst (es ++ [x']))) := rfl
  have e : (fun (x : D) (G2 : Gm) => ∃ x', [x] = [x'] ∧ ∃ es, G2 p = some (.lst es) ∧ es.length < sizeLine ∧ Q (gup G2 p (.lst (es ++ [x'])))) = fun (x : D) (G2 : Gm) => ∃ es, G2 p = some (.lst es) ∧ es.length < sizeLine ∧ Q (gup G2 p (.lst (es ++ [x]))) := by
    funext x G2
    apply propext
    constructor
    · rintro ⟨x', q, r⟩
      cases q
      exact r
    · exact fun r => ⟨x, rfl, r⟩
  rw [this, e]
  exact h
theorem app2 {K : Gm} {p : Addr} {ds : List D} {x : D} {Q : Gm → Prop} (hz : ds.length < 1000000) (h : Q (gup K p (.lst (ds ++ [x])))) : ∃ es, gup K p (.lst ds) p = some (.lst es) ∧ es.length < sizeLine ∧ Q (gup (gup K p (.lst ds)) p (.lst (es ++ [x]))) := ⟨ds, gup_same, by rw [sizeLine_eq]; omega, by rw [gup_gup]; exact h⟩
theorem gn_mono {i : Nat} : ∀ x G (N N' : En → Gm → Prop), (∀ ρ G, N ρ G → N' ρ G) → gN i x ρ0 G N → gN i x ρ0 G N' := fun _ _ _ _ h => h _ _
end
end Y
end DL
namespace DL
open PySem PySem.Spec PyProof.Rows L2 Evl Sup
variable [TabC]
theorem fn_all {d s : Nat} : ∀ {xs : List D}, (∀ x ∈ xs, Fn d s x) → D.layL xs = true ∧ D.plnL xs = true ∧ D.fitL xs = true ∧ D.dpL xs ≤ d ∧ D.szL xs ≤ xs.length * s ∧ D.knL xs = true ∧ D.fewL xs = true
  | [], _ => ⟨rfl, rfl, rfl, Nat.zero_le _, Nat.zero_le _, rfl, rfl⟩
  | x :: xs, h => by
    have a := h x List.mem_cons_self
    obtain ⟨h1, h2, h3, h4, h5, h6, h7⟩ := fn_all fun y hy => h y (List.mem_cons_of_mem _ hy)
    refine ⟨?_, ?_, ?_, ?_, ?_, ?_, ?_⟩
    · show (D.lay x && D.layL xs) = true
      rw [a.lay, h1]
      rfl
    · show (D.pln x && D.plnL xs) = true
      rw [a.pln, h2]
      rfl
    · show (D.fit x && D.fitL xs) = true
      rw [a.fit, h3]
      rfl
    · show max (D.dp x) (D.dpL xs) ≤ d
      have := a.dp
      omega
    · show D.sz x + D.szL xs ≤ (xs.length + 1) * s
      have := a.sz
      rw [Nat.add_mul, Nat.one_mul]
      omega
    · show (D.kn x && D.knL xs) = true
      rw [a.kn, h6]
      rfl
    · show (D.few x && D.fewL xs) = true
      rw [a.few, h7]
      rfl
theorem fn_seq {d s n : Nat} {xs : List D} (h : ∀ x ∈ xs, Fn d s x) (hl : xs.length ≤ n) (hn : n ≤ 1000000 := by decide) : Fn (d + 1) (n * s + 1) (.tup xs) ∧ Fn (d + 1) (n * s + 1) (.lst xs) := by
  obtain ⟨h1, h2, h3, h4, h5, h6, h7⟩ := fn_all h
  have h8 : D.szL xs + 1 ≤ n * s + 1 := Nat.add_le_add_right (Nat.le_trans h5 (Nat.mul_le_mul_right _ hl)) 1
  have h9 : (decide (xs.length ≤ 1000000) && D.fewL xs) = true := by rw [h7, decide_eq_true (Nat.le_trans hl hn)]; rfl
  exact ⟨⟨h1, h2, h3, Nat.add_le_add_right h4 1, h8, h6, h9⟩, ⟨h1, h2, h3, Nat.add_le_add_right h4 1, h8, h6, h9⟩⟩
theorem fn_int {i : Int} (h : i.natAbs < 10 ^ 560) : Fn 0 1 (.int i) := ⟨rfl, rfl, decide_eq_true h, Nat.zero_le _, Nat.le_refl _, rfl, rfl⟩
theorem fn_nat {n : Nat} (h : n ≤ 1000000000) : Fn 0 1 (.int (n : Int)) := fn_int (by
  rw [Int.natAbs_natCast]
  exact Nat.lt_of_le_of_lt h (Nat.lt_of_lt_of_le (show 1000000000 < 10 ^ 10 by decide) (Nat.pow_le_pow_right (by decide) (by decide))))
theorem p1860 : 2 ^ 1860 ≤ 10 ^ 560 := by decide +kernel
theorem fn_q {k : Nat} {q : Qr} (h : Qb k q) (hk : k ≤ 1860 := by decide) : Fn 1 3 (ofQ q) := by
  have h1 : q.num.natAbs < 10 ^ 560 := Nat.lt_of_lt_of_le h.1 (Nat.le_trans (Nat.pow_le_pow_right (by decide) hk) p1860)
  have h2 : ((q.den : Int)).natAbs < 10 ^ 560 := by
    rw [Int.natAbs_natCast]
    exact Nat.lt_of_lt_of_le h.2 (Nat.le_trans (Nat.pow_le_pow_right (by decide) hk) p1860)
  unfold ofQ pairZ
  split
  · exact (fn_int h1).mono
  · exact (fn_seq (n := 2) (d := 0) (s := 1) (fun x hx => by
      rcases List.mem_cons.mp hx with rfl | hx
      · exact fn_int h1
      · rw [List.mem_singleton.mp hx]
        exact fn_int h2) (Nat.le_refl _)).1
theorem Fn.cmp {d s : Nat} {x : D} (h : Fn d s x) (hd : d ≤ 60 := by decide) : Cmp x := ⟨h.lay, Nat.le_trans h.dp hd⟩
theorem Fn.rep {d s : Nat} {x : D} (h : Fn d s x) (hd : d ≤ 60 := by decide) (hs : s ≤ 27000 := by decide) : RepOk x := .inl ⟨h.fit, Nat.le_trans h.dp hd, Nat.le_trans h.sz hs⟩
end DL
namespace DL
open PySem PySem.Spec PyProof.Rows L2 Evl Sup
variable [TabC]
end DL
namespace DL
open PySem PySem.Spec PyProof.Rows L2 Evl Sup
variable [TabC]
theorem small_ofQ {q : Qr} (h : Smq q) : smallD (ofQ q) = true := by
  have hn : numD (ofQ q) = true := numD_pair (den_pos q) (q_gcd q)
  have h1 : decide ((q.num.natAbs : Int) ≤ 1000000) = true := decide_eq_true (by have := h.1; omega)
  have h2 : decide ((q.den : Int) ≤ 1000) = true := decide_eq_true (by have := h.2; omega)
  unfold smallD
  rw [hn, Bool.true_and]
  by_cases hd : (q.den : Int) = 1
  · rw [show ofQ q = .int q.num from if_pos hd]
    show (decide ((q.num.natAbs : Int) ≤ 1000000) && decide ((1 : Int) ≤ 1000)) = true
    rw [h1]
    rfl
  · rw [show ofQ q = .tup [.int q.num, .int q.den] from if_neg hd]
    show (decide ((q.num.natAbs : Int) ≤ 1000000) && decide ((q.den : Int) ≤ 1000)) = true
    rw [h1, h2]
    rfl
theorem kept_q (q : Qr) : keptD (ofQ q) = ofQ q := by
  unfold ofQ pairZ
  split <;> rfl
end DL
namespace DL
open PySem PySem.Spec PyProof.Rows L2 Evl Sup
variable [TabC]
end DL
namespace DL
open PySem PySem.Spec PyProof.Rows L2 Evl Sup
variable [TabC]
end DL
namespace DL
open PySem PySem.Spec PyProof.Rows L2 Evl Sup
variable [TabC]
section
variable {X : Cx} {B : Bs} {pos p : Pos} {a b c e : Expr} {es : List Expr} {da db dc de : DE} {dA : DA} {ta tb : DT}
def cmp2L (ρ0 : En) (vs1 : List Nat) (g : DG) (t : DT) (d1 : DI) (g1 : DG) (t1 : DT) (de : DE) : List D → List D → Gm → (List D → Gm → Prop) → Prop
  | [], acc, G, S => S acc G
  | x :: xs, acc, G, S => g x ρ0 G fun ρ1 G1 => t ρ1 G1 fun k G2 => if k = true then d1 ρ1 G2 fun ys G3 => cmpL (wipeD ρ1 vs1) g1 t1 de ys acc G3 fun acc' G4 => cmp2L ρ0 vs1 g t d1 g1 t1 de xs acc' G4 S else cmp2L ρ0 vs1 g t d1 g1 t1 de xs acc G2 S
def dCmp2 (di : DI) (g : DG) (t : DT) (d1 : DI) (g1 : DG) (t1 : DT) (de : DE) (vs vs1 : List Nat) : DE := fun ρ G R => di ρ G fun xs G1 => cmp2L (wipeD ρ vs) vs1 g t d1 g1 t1 de xs [] G1 fun acc G2 => R (.lst acc) G2
end
end DL
end
section
open PySem PySem.Spec PyProof.Rows L2 Evl DL
local macro_rules | `(tactic| walk_at "side") => `(tactic| first | exact mul_left (by decide) | exact mul_right (by decide) | exact mul_bd | exact div_bd (by first | assumption | decide | omega) | exact pow_bd (by first | decide | omega) (by first | decide | omega) | assumption | (show (0 : Int) < _; first | decide | omega))
local macro_rules | `(tactic| walk_at "eva") => `(tactic| first | exact DL.EvA.nil | (refine' DL.EvA.cons ?e ?r; (case' e => walk_at "ev"); (case' r => walk_at "eva")))
local macro_rules | `(tactic| walk_at "seq") => `(tactic| first | exact seq_tup | exact seq_lst | exact seq_ref (by assumption))
local macro_rules | `(tactic| walk_at "size") => `(tactic| first | (show _ ≤ sizeLine; simp only [List.length_cons, List.length_nil]; decide) | (rw [sizeLine_eq]; omega))
local macro_rules | `(tactic| walk_at "ev") => `(tactic| first
  | exact DL.Ev.c
  | exact DL.Ev.var rfl
  | (refine' DL.Ev.int ?a ?b; (case' a => walk_at "ev"); (case' b => walk_at "ev"))
  | (refine' DL.Ev.intC ?a ?b ?s; (case' a => walk_at "ev"); (case' b => walk_at "ev"); (case' s => try walk_at "side"))
  | (refine' DL.Ev.add ?a ?b; (case' a => walk_at "ev"); (case' b => walk_at "ev"))
  | (refine' DL.Ev.neg ?a; (case' a => walk_at "ev"))
  | (refine' DL.Ev.intOf ?a; (case' a => walk_at "ev"))
  | (refine' DL.Ev.intB ?a; (case' a => walk_at "ev"))
  | (refine' DL.Ev.absN ?a; (case' a => walk_at "ev"))
  | (refine' DL.Ev.eqI ?a ?b; (case' a => walk_at "ev"); (case' b => walk_at "ev"))
  | (refine' DL.Ev.neI ?a ?b; (case' a => walk_at "ev"); (case' b => walk_at "ev"))
  | (refine' DL.Ev.at ?a ?b ?s ?k; (case' a => walk_at "ev"); (case' b => walk_at "ev"); (case' s => walk_at "seq"); (case' k => try rfl))
  | (refine' DL.Ev.len ?a ?s; (case' a => walk_at "ev"); (case' s => walk_at "seq"))
  | (refine' DL.Ev.tupOf ?a ?s; (case' a => walk_at "ev"); (case' s => walk_at "seq"))
  | (refine' DL.Ev.tup ?a ?z; (case' a => walk_at "eva"); (case' z => try walk_at "size"))
  | (refine' DL.Ev.lst ?a ?z; (case' a => walk_at "eva"); (case' z => try walk_at "size"))
  | (refine' DL.Ev.notV ?a; (case' a => walk_at "ev"))
  | (refine' DL.Ev.isN ?a; (case' a => walk_at "ev"))
  | exact fun R r => r
  | assumption)
local macro_rules | `(tactic| walk_at "set") => `(tactic| (refine' ds_set ?e ?_; (case' e => walk_at "ev")))
local macro_rules | `(tactic| walk_at "ret") => `(tactic| (refine' ds_ret ?e ?_; (case' e => walk_at "ev")))
local macro_rules | `(tactic| walk_at "par") => `(tactic| (refine' ds_par ?e ?f ?_; (case' e => walk_at "ev"); (case' f => walk_at "ev")))
local macro_rules | `(tactic| walk_at "cut") => `(tactic| (simp only [DL.cutD, HT.sIx, List.length_cons, List.length_nil, Nat.zero_add, Nat.reduceAdd, Nat.min_def, Nat.reduceLeDiff, ↓reduceIte, List.drop_zero, List.drop_succ_cons, List.take_zero, List.take_succ_cons, List.take_nil, List.drop_nil, List.cons_append, List.nil_append, Int.reduceLT, Int.reduceToNat, Nat.reduceSub, Nat.sub_zero, Int.reduceNeg, Int.cast_ofNat_Int, Int.reduceAdd]; exact rfl))
local macro_rules | `(tactic| walk_at "xu") => `(tactic| first
  | with_reducible refine' DL.Y.ixS0 ?_
  | with_reducible refine' DL.Y.ixS1 ?_
  | with_reducible refine' DL.Y.ixS2 ?_
  | with_reducible refine' DL.Y.ixP0 ?_
  | with_reducible refine' DL.Y.ixP1 ?_
  | with_reducible refine' DL.Y.lstS ?_
  | with_reducible refine' DL.Y.lstP ?_)
local macro_rules | `(tactic| walk_at "dec") => `(tactic| first | rfl | assumption | exact decide_eq_true (by omega) | exact decide_eq_false (by omega) | exact DL.Y.ndT (by omega) | exact DL.Y.ndF (by omega) | decide +kernel)
local macro_rules | `(tactic| walk_at "size2") => `(tactic| first | exact Nat.le_of_ble_eq_true rfl | omega)
local macro_rules | `(tactic| walk_at "x0") => `(tactic| first
  | with_reducible refine' DL.Y.cons ?_
  | ((with_reducible refine' DL.Y.var ?e ?_); (case' e => (first | exact rfl | assumption)))
  | with_reducible refine' DL.Y.c ?_
  | with_reducible refine' DL.Y.nil ?_
  | with_reducible refine' DL.Y.op ?_
  | with_reducible refine' DL.Y.oint ?_
  | ((with_reducible refine' DL.Y.ointC ?s ?_); (case' s => try walk_at "side"))
  | with_reducible refine' DL.Y.oadd ?_
  | with_reducible refine' DL.Y.oeqI ?_
  | with_reducible refine' DL.Y.oneI ?_
  | with_reducible refine' DL.Y.oeqS ?_
  | with_reducible refine' DL.Y.neS ?_
  | with_reducible refine' DL.Y.oneS ?_
  | with_reducible refine' DL.Y.oeqB ?_
  | with_reducible refine' DL.Y.tst ?_
  | with_reducible refine' DL.Y.bl_ ?_
  | ((with_reducible refine' DL.Y.iRng1_ ?z ?_); (case' z => (omega; done)))
  | with_reducible refine' DL.Y.int_ ?_
  | with_reducible refine' DL.Y.str_ ?_
  | with_reducible refine' DL.Y.ref_ ?_
  | ((with_reducible refine' DL.Y.iteT ?h ?_); (case' h => (walk_at "dec"; done)))
  | ((with_reducible refine' DL.Y.iteF ?h ?_); (case' h => (walk_at "dec"; done)))
  | with_reducible refine' DL.Y.seq ?_
  | with_reducible refine' DL.Y.set ?_
  | with_reducible refine' DL.Y.ifS ?_
  | with_reducible refine' DL.Y.ret ?_
  | with_reducible refine' DL.Y.nx ?_
  | with_reducible refine' DL.Y.drop ?_
  | with_reducible refine' DL.Y.asg ?_
  | with_reducible refine' DL.Y.par ?_
  | with_reducible refine' DL.Y.par_ ?_
  | with_reducible refine' DL.Y.par3 ?_
  | with_reducible refine' DL.Y.par3_ ?_
  | with_reducible refine' DL.Y.bk ?_
  | with_reducible refine' DL.Y.ct ?_
  | with_reducible refine' DL.Y.retN ?_
  | with_reducible refine' DL.Y.gn ?_
  | with_reducible refine' DL.Y.gnil ?_
  | with_reducible refine' DL.Y.gcons ?_
  | ((with_reducible refine' DL.Y.gseqT ?e ?_); (case' e => (rfl; done)))
  | ((with_reducible refine' DL.Y.gseqL ?e ?_); (case' e => (rfl; done)))
  | with_reducible refine' DL.Y.tup ?_
  | with_reducible refine' DL.Y.lst ?_
  | ((with_reducible refine' DL.Y.len_ ?n ?l ?_); (case' n => exact rfl); (case' l => try walk_at "size2"))
  | with_reducible refine' DL.Y.ix ?_
  | ((with_reducible refine' DL.Y.ixT ?e ?_); (case' e => (rfl; done)))
  | ((with_reducible refine' DL.Y.ixL ?e ?_); (case' e => (rfl; done)))
  | ((with_reducible refine' DL.Y.ixR ?g ?e ?_); (case' g => with_reducible assumption); (case' e => (rfl; done)))
  | with_reducible refine' DL.Y.cal ?_
  | with_reducible refine' DL.Y.lenT ?_
  | with_reducible refine' DL.Y.lenL ?_
  | ((with_reducible refine' DL.Y.lenR ?g ?_); (case' g => with_reducible assumption))
  | with_reducible refine' DL.Y.absI ?_
  | with_reducible refine' DL.Y.intI ?_
  | with_reducible refine' DL.Y.intB ?_
  | with_reducible refine' DL.Y.tupT ?_
  | with_reducible refine' DL.Y.tupL ?_
  | ((with_reducible refine' DL.Y.tupR ?g ?_); (case' g => with_reducible assumption))
  | with_reducible refine' DL.Y.lstT ?_
  | with_reducible refine' DL.Y.lstL ?_
  | with_reducible refine' DL.Y.allL ?_
  | with_reducible refine' DL.Y.anyL ?_
  | ((with_reducible refine' DL.Y.oaddL ?z ?_); (case' z => try walk_at "size2"))
  | ((with_reducible refine' DL.Y.oaddT ?z ?_); (case' z => try walk_at "size2"))
  | with_reducible refine' DL.Y.oisB ?_
  | with_reducible refine' DL.Y.onotB ?_
  | with_reducible refine' DL.Y.neg ?_
  | with_reducible refine' DL.Y.notT ?_
  | with_reducible refine' DL.Y.andT ?_
  | with_reducible refine' DL.Y.orT ?_
  | with_reducible refine' DL.Y.yes ?_
  | with_reducible refine' DL.Y.ifT ?_
  | with_reducible refine' DL.Y.andV ?_
  | with_reducible refine' DL.Y.orV ?_
  | with_reducible refine' DL.Y.notV ?_
  | with_reducible refine' DL.Y.isN ?_
  | with_reducible refine' DL.Y.notN ?_
  | ((with_reducible refine' DL.Y.isi_ ?e ?_); (case' e => (rfl; done)))
  | with_reducible refine' DL.Y.isiT ?_
  | with_reducible refine' DL.Y.chain ?_
  | with_reducible refine' DL.Y.sl ?_
  | with_reducible refine' DL.Y.noP ?_
  | with_reducible refine' DL.Y.part ?_
  | ((with_reducible refine' DL.Y.slLl ?n ?e ?_); (case' n => (rfl; done)); (case' e => walk_at "cut"))
  | ((with_reducible refine' DL.Y.slTl ?n ?m ?e ?_); (case' n => (rfl; done)); (case' m => (simp [HT.sIx]; done)); (case' e => walk_at "cut"))
  | with_reducible refine' DL.Y.slL ?_
  | with_reducible refine' DL.Y.call ?_
  | with_reducible refine' DL.Y.callK ?_
  | with_reducible refine' DL.Y.callD ?_
  | with_reducible refine' DL.Y.fld ?_
  | ((with_reducible refine' DL.Y.fld_ ?f ?e ?_); (case' f => (first | rfl | assumption); done); (case' e => (rfl; done)))
  | with_reducible refine' DL.Y.isW_ ?_
  | with_reducible refine' DL.Y.inK ?_
  | with_reducible refine' DL.Y.iSeq ?_
  | with_reducible refine' DL.Y.iSeqL ?_
  | with_reducible refine' DL.Y.iSeqT ?_
  | with_reducible refine' DL.Y.iRng1 ?_
  | with_reducible refine' DL.Y.iZip ?_
  | with_reducible refine' DL.Y.iZipT ?_
  | with_reducible refine' DL.Y.iZipL ?_
  | with_reducible refine' DL.Y.iEnum ?_
  | with_reducible refine' DL.Y.iEnumT ?_
  | with_reducible refine' DL.Y.iEnumL ?_
  | with_reducible refine' DL.Y.for_ ?_
  | with_reducible refine' DL.Y.cmp ?_
  | with_reducible refine' DL.Y.isO ?_
  | ((with_reducible refine' DL.Y.isO_ (isO_exc ?c) ?_); (case' c => (decide +kernel; done)))
  | ((with_reducible refine' DL.Y.isO_ ?e ?_); (case' e => (rfl; done)))
  | ((with_reducible refine' DL.Y.isW1 ?e ?_); (case' e => (first | assumption | (rfl; done))))
  | with_reducible refine' DL.Y.xf ?_
  | ((with_reducible refine' DL.Y.xf_ ?c ?e ?_); (case' c => (decide +kernel; done)); (case' e => (first | assumption | (rfl; done))))
  | with_reducible refine' DL.Y.mk ?_
  | with_reducible refine' DL.Y.dctM ?_
  | with_reducible refine' DL.Y.dct0 ?_
  | with_reducible refine' DL.Y.lstM ?_
  | with_reducible refine' DL.Y.rev ?_
  | with_reducible refine' DL.Y.revL ?_
  | with_reducible refine' DL.Y.dget ?_
  | with_reducible refine' DL.Y.dput ?_
  | with_reducible refine' DL.Y.app ?_
  | with_reducible refine' DL.Y.gc ?_
  | with_reducible refine' DL.Y.boolB ?_
  | with_reducible refine' DL.Y.disp ?_
  | with_reducible refine' DL.Y.valsC ?_
  | with_reducible refine' DL.Y.valsN ?_
  | with_reducible refine' DL.Y.ownEq ?_
  | with_reducible refine' DL.Y.cmp2 ?_
  | ((with_reducible refine' DL.Y.fld_ ?f ?e ?_); (case' f => ((first | rfl | assumption | decide +kernel); done)); (case' e => (rfl; done)))
  | with_reducible refine' DL.Y.chLe ?_
  | with_reducible refine' DL.Y.chLt ?_
  | with_reducible refine' DL.Y.setF ?_
  | with_reducible refine' DL.Y.lenSet ?_
  | with_reducible refine' DL.Y.inL ?_
  | with_reducible refine' DL.Y.inD ?_
  | with_reducible refine' DL.Y.inD_ ?_
  | with_reducible refine' DL.Y.ixD ?_
  | ((with_reducible refine' DL.Y.mulS ?h ?_); (case' h => (exact ⟨by omega, by omega, by decide⟩)))
  | ((with_reducible refine' DL.Y.mulL ?h ?_); (case' h => (exact ⟨by simp only [List.length_cons, List.length_nil]; omega, by omega, by omega⟩)))
  | walk_at "xu"
  | walk_at "norm")
local macro_rules | `(tactic| walk_at "norm") => `(tactic| (dsimp only [List.set]))
local macro_rules | `(tactic| walk_at "x") => `(tactic| first | walk_at "x0" | with_reducible refine' DL.Y.ifE ?_)
local macro_rules | `(tactic| walk_at "xs") => `(tactic| repeat walk_at "x0")
local macro_rules | `(tactic| walk_at "xx") => `(tactic| repeat walk_at "x")
local macro_rules | `(tactic| walk_at "start") => `(tactic| dsimp only [List.map, List.length_cons, List.length_nil, List.cons_append, List.nil_append, Nat.zero_add, Nat.reduceAdd, Nat.reduceSub, List.reduceReplicate])
namespace DL
open PySem PySem.Spec PyProof.Rows L2 Evl Sup
variable [TabC]
section
variable {X : Cx} {B : Bs} {pos p : Pos}
def dVals : List (Str × DE) → DA
  | [] => dNil
  | (_, d) :: r => dCons d (dVals r)
def dDisp (kvs : List (Str × DE)) : DE := fun ρ G R => dVals kvs ρ G fun xs G1 => R (.dct (kvs.map fun p => .inr p.1) xs) G1
end
def fBoolOf (_ : Gm) (xs : List D) (z : D) : Prop := ∃ b : Bool, xs = [.bl b] ∧ z = .bl b
namespace Y
theorem boolB {k : Bool} {G : Gm} {Q : D → Prop} (h : Q (.bl k)) : ∃ z, fBoolOf G [.bl k] z ∧ Q z := ⟨_, ⟨k, rfl, rfl⟩, h⟩
theorem disp {kvs : List (Str × DE)} {ρ : En} {G : Gm} {R : KD} (h : dVals kvs ρ G fun xs G1 => R (.dct (kvs.map fun p => .inr p.1) xs) G1) : dDisp kvs ρ G R := h
theorem valsN {ρ : En} {G : Gm} {S : List D → Gm → Prop} (h : S [] G) : dVals [] ρ G S := h
theorem valsC {ρ : En} {G : Gm} {S : List D → Gm → Prop} {k : Str} {d : DE} {r : List (Str × DE)} (h : d ρ G fun x G1 => dVals r ρ G1 fun xs G2 => S (x :: xs) G2) : dVals ((k, d) :: r) ρ G S := h
theorem ownEq {neg : Bool} {cl : ClT} {sub : Str → Str → Bool} {cs : List Str} {q : DSp} {RX : XD} {da db : DE} {ρ : En} {G : Gm} {R : KD} (h : da ρ G fun x G1 => db ρ G1 fun y G2 => ∃ C ns xs, InsAt G2 x C ns xs ∧ C ∈ cs ∧ firstOk cl sub C y = true ∧ q [x, y] G2 (fun v G3 => ∃ b, v = .bl b ∧ R (.bl (neg != b)) G3) RX) : dOwnEq neg cl sub cs q RX da db ρ G R := h
theorem cmp2 {di d1 : DI} {g g1 : DG} {t t1 : DT} {de : DE} {vs vs1 : List Nat} {ρ : En} {G : Gm} {R : KD} (h : di ρ G fun xs G1 => cmp2L (wipeD ρ vs) vs1 g t d1 g1 t1 de xs [] G1 fun acc G2 => R (.lst acc) G2) : dCmp2 di g t d1 g1 t1 de vs vs1 ρ G R := h
end Y
end DL
end
section
open PySem PySem.Spec PyProof.Rows L2 Evl DL
local macro_rules | `(tactic| walk_at "side") => `(tactic| first | exact mul_left (by decide) | exact mul_right (by decide) | exact mul_bd | exact div_bd (by first | assumption | decide | omega) | exact pow_bd (by first | decide | omega) (by first | decide | omega) | assumption | (show (0 : Int) < _; first | decide | omega))
local macro_rules | `(tactic| walk_at "eva") => `(tactic| first | exact DL.EvA.nil | (refine' DL.EvA.cons ?e ?r; (case' e => walk_at "ev"); (case' r => walk_at "eva")))
local macro_rules | `(tactic| walk_at "seq") => `(tactic| first | exact seq_tup | exact seq_lst | exact seq_ref (by assumption))
local macro_rules | `(tactic| walk_at "size") => `(tactic| first | (show _ ≤ sizeLine; simp only [List.length_cons, List.length_nil]; decide) | (rw [sizeLine_eq]; omega))
local macro_rules | `(tactic| walk_at "ev") => `(tactic| first
  | exact DL.Ev.c
  | exact DL.Ev.var rfl
  | (refine' DL.Ev.int ?a ?b; (case' a => walk_at "ev"); (case' b => walk_at "ev"))
  | (refine' DL.Ev.intC ?a ?b ?s; (case' a => walk_at "ev"); (case' b => walk_at "ev"); (case' s => try walk_at "side"))
  | (refine' DL.Ev.add ?a ?b; (case' a => walk_at "ev"); (case' b => walk_at "ev"))
  | (refine' DL.Ev.neg ?a; (case' a => walk_at "ev"))
  | (refine' DL.Ev.intOf ?a; (case' a => walk_at "ev"))
  | (refine' DL.Ev.intB ?a; (case' a => walk_at "ev"))
  | (refine' DL.Ev.absN ?a; (case' a => walk_at "ev"))
  | (refine' DL.Ev.eqI ?a ?b; (case' a => walk_at "ev"); (case' b => walk_at "ev"))
  | (refine' DL.Ev.neI ?a ?b; (case' a => walk_at "ev"); (case' b => walk_at "ev"))
  | (refine' DL.Ev.at ?a ?b ?s ?k; (case' a => walk_at "ev"); (case' b => walk_at "ev"); (case' s => walk_at "seq"); (case' k => try rfl))
  | (refine' DL.Ev.len ?a ?s; (case' a => walk_at "ev"); (case' s => walk_at "seq"))
  | (refine' DL.Ev.tupOf ?a ?s; (case' a => walk_at "ev"); (case' s => walk_at "seq"))
  | (refine' DL.Ev.tup ?a ?z; (case' a => walk_at "eva"); (case' z => try walk_at "size"))
  | (refine' DL.Ev.lst ?a ?z; (case' a => walk_at "eva"); (case' z => try walk_at "size"))
  | (refine' DL.Ev.notV ?a; (case' a => walk_at "ev"))
  | (refine' DL.Ev.isN ?a; (case' a => walk_at "ev"))
  | exact fun R r => r
  | assumption)
local macro_rules | `(tactic| walk_at "set") => `(tactic| (refine' ds_set ?e ?_; (case' e => walk_at "ev")))
local macro_rules | `(tactic| walk_at "ret") => `(tactic| (refine' ds_ret ?e ?_; (case' e => walk_at "ev")))
local macro_rules | `(tactic| walk_at "par") => `(tactic| (refine' ds_par ?e ?f ?_; (case' e => walk_at "ev"); (case' f => walk_at "ev")))
local macro_rules | `(tactic| walk_at "cut") => `(tactic| (simp only [DL.cutD, HT.sIx, List.length_cons, List.length_nil, Nat.zero_add, Nat.reduceAdd, Nat.min_def, Nat.reduceLeDiff, ↓reduceIte, List.drop_zero, List.drop_succ_cons, List.take_zero, List.take_succ_cons, List.take_nil, List.drop_nil, List.cons_append, List.nil_append, Int.reduceLT, Int.reduceToNat, Nat.reduceSub, Nat.sub_zero, Int.reduceNeg, Int.cast_ofNat_Int, Int.reduceAdd]; exact rfl))
local macro_rules | `(tactic| walk_at "xu") => `(tactic| first
  | with_reducible refine' DL.Y.ixS0 ?_
  | with_reducible refine' DL.Y.ixS1 ?_
  | with_reducible refine' DL.Y.ixS2 ?_
  | with_reducible refine' DL.Y.ixP0 ?_
  | with_reducible refine' DL.Y.ixP1 ?_
  | with_reducible refine' DL.Y.lstS ?_
  | with_reducible refine' DL.Y.lstP ?_)
local macro_rules | `(tactic| walk_at "dec") => `(tactic| first | rfl | assumption | exact decide_eq_true (by omega) | exact decide_eq_false (by omega) | exact DL.Y.ndT (by omega) | exact DL.Y.ndF (by omega) | decide +kernel)
local macro_rules | `(tactic| walk_at "size2") => `(tactic| first | exact Nat.le_of_ble_eq_true rfl | omega)
local macro_rules | `(tactic| walk_at "x0") => `(tactic| first
  | with_reducible refine' DL.Y.cons ?_
  | ((with_reducible refine' DL.Y.var ?e ?_); (case' e => (first | exact rfl | assumption)))
  | with_reducible refine' DL.Y.c ?_
  | with_reducible refine' DL.Y.nil ?_
  | with_reducible refine' DL.Y.op ?_
  | with_reducible refine' DL.Y.oint ?_
  | ((with_reducible refine' DL.Y.ointC ?s ?_); (case' s => try walk_at "side"))
  | with_reducible refine' DL.Y.oadd ?_
  | with_reducible refine' DL.Y.oeqI ?_
  | with_reducible refine' DL.Y.oneI ?_
  | with_reducible refine' DL.Y.oeqS ?_
  | with_reducible refine' DL.Y.neS ?_
  | with_reducible refine' DL.Y.oneS ?_
  | with_reducible refine' DL.Y.oeqB ?_
  | with_reducible refine' DL.Y.tst ?_
  | with_reducible refine' DL.Y.bl_ ?_
  | ((with_reducible refine' DL.Y.iRng1_ ?z ?_); (case' z => (omega; done)))
  | with_reducible refine' DL.Y.int_ ?_
  | with_reducible refine' DL.Y.str_ ?_
  | with_reducible refine' DL.Y.ref_ ?_
  | ((with_reducible refine' DL.Y.iteT ?h ?_); (case' h => (walk_at "dec"; done)))
  | ((with_reducible refine' DL.Y.iteF ?h ?_); (case' h => (walk_at "dec"; done)))
  | with_reducible refine' DL.Y.seq ?_
  | with_reducible refine' DL.Y.set ?_
  | with_reducible refine' DL.Y.ifS ?_
  | with_reducible refine' DL.Y.ret ?_
  | with_reducible refine' DL.Y.nx ?_
  | with_reducible refine' DL.Y.drop ?_
  | with_reducible refine' DL.Y.asg ?_
  | with_reducible refine' DL.Y.par ?_
  | with_reducible refine' DL.Y.par_ ?_
  | with_reducible refine' DL.Y.par3 ?_
  | with_reducible refine' DL.Y.par3_ ?_
  | with_reducible refine' DL.Y.bk ?_
  | with_reducible refine' DL.Y.ct ?_
  | with_reducible refine' DL.Y.retN ?_
  | with_reducible refine' DL.Y.gn ?_
  | with_reducible refine' DL.Y.gnil ?_
  | with_reducible refine' DL.Y.gcons ?_
  | ((with_reducible refine' DL.Y.gseqT ?e ?_); (case' e => (rfl; done)))
  | ((with_reducible refine' DL.Y.gseqL ?e ?_); (case' e => (rfl; done)))
  | with_reducible refine' DL.Y.tup ?_
  | with_reducible refine' DL.Y.lst ?_
  | ((with_reducible refine' DL.Y.len_ ?n ?l ?_); (case' n => exact rfl); (case' l => try walk_at "size2"))
  | with_reducible refine' DL.Y.ix ?_
  | ((with_reducible refine' DL.Y.ixT ?e ?_); (case' e => (rfl; done)))
  | ((with_reducible refine' DL.Y.ixL ?e ?_); (case' e => (rfl; done)))
  | ((with_reducible refine' DL.Y.ixR ?g ?e ?_); (case' g => with_reducible assumption); (case' e => (rfl; done)))
  | with_reducible refine' DL.Y.cal ?_
  | with_reducible refine' DL.Y.lenT ?_
  | with_reducible refine' DL.Y.lenL ?_
  | ((with_reducible refine' DL.Y.lenR ?g ?_); (case' g => with_reducible assumption))
  | with_reducible refine' DL.Y.absI ?_
  | with_reducible refine' DL.Y.intI ?_
  | with_reducible refine' DL.Y.intB ?_
  | with_reducible refine' DL.Y.tupT ?_
  | with_reducible refine' DL.Y.tupL ?_
  | ((with_reducible refine' DL.Y.tupR ?g ?_); (case' g => with_reducible assumption))
  | with_reducible refine' DL.Y.lstT ?_
  | with_reducible refine' DL.Y.lstL ?_
  | with_reducible refine' DL.Y.allL ?_
  | with_reducible refine' DL.Y.anyL ?_
  | ((with_reducible refine' DL.Y.oaddL ?z ?_); (case' z => try walk_at "size2"))
  | ((with_reducible refine' DL.Y.oaddT ?z ?_); (case' z => try walk_at "size2"))
  | with_reducible refine' DL.Y.oisB ?_
  | with_reducible refine' DL.Y.onotB ?_
  | with_reducible refine' DL.Y.neg ?_
  | with_reducible refine' DL.Y.notT ?_
  | with_reducible refine' DL.Y.andT ?_
  | with_reducible refine' DL.Y.orT ?_
  | with_reducible refine' DL.Y.yes ?_
  | with_reducible refine' DL.Y.ifT ?_
  | with_reducible refine' DL.Y.andV ?_
  | with_reducible refine' DL.Y.orV ?_
  | with_reducible refine' DL.Y.notV ?_
  | with_reducible refine' DL.Y.isN ?_
  | with_reducible refine' DL.Y.notN ?_
  | ((with_reducible refine' DL.Y.isi_ ?e ?_); (case' e => (rfl; done)))
  | with_reducible refine' DL.Y.isiT ?_
  | with_reducible refine' DL.Y.chain ?_
  | with_reducible refine' DL.Y.sl ?_
  | with_reducible refine' DL.Y.noP ?_
  | with_reducible refine' DL.Y.part ?_
  | ((with_reducible refine' DL.Y.slLl ?n ?e ?_); (case' n => (rfl; done)); (case' e => walk_at "cut"))
  | ((with_reducible refine' DL.Y.slTl ?n ?m ?e ?_); (case' n => (rfl; done)); (case' m => (simp [HT.sIx]; done)); (case' e => walk_at "cut"))
  | with_reducible refine' DL.Y.slL ?_
  | with_reducible refine' DL.Y.call ?_
  | with_reducible refine' DL.Y.callK ?_
  | with_reducible refine' DL.Y.callD ?_
  | with_reducible refine' DL.Y.fld ?_
  | ((with_reducible refine' DL.Y.fld_ ?f ?e ?_); (case' f => (first | rfl | assumption); done); (case' e => (rfl; done)))
  | with_reducible refine' DL.Y.isW_ ?_
  | with_reducible refine' DL.Y.inK ?_
  | with_reducible refine' DL.Y.iSeq ?_
  | with_reducible refine' DL.Y.iSeqL ?_
  | with_reducible refine' DL.Y.iSeqT ?_
  | with_reducible refine' DL.Y.iRng1 ?_
  | with_reducible refine' DL.Y.iZip ?_
  | with_reducible refine' DL.Y.iZipT ?_
  | with_reducible refine' DL.Y.iZipL ?_
  | with_reducible refine' DL.Y.iEnum ?_
  | with_reducible refine' DL.Y.iEnumT ?_
  | with_reducible refine' DL.Y.iEnumL ?_
  | with_reducible refine' DL.Y.for_ ?_
  | with_reducible refine' DL.Y.cmp ?_
  | with_reducible refine' DL.Y.isO ?_
  | ((with_reducible refine' DL.Y.isO_ (isO_exc ?c) ?_); (case' c => (decide +kernel; done)))
  | ((with_reducible refine' DL.Y.isO_ ?e ?_); (case' e => (rfl; done)))
  | ((with_reducible refine' DL.Y.isW1 ?e ?_); (case' e => (first | assumption | (rfl; done))))
  | with_reducible refine' DL.Y.xf ?_
  | ((with_reducible refine' DL.Y.xf_ ?c ?e ?_); (case' c => (decide +kernel; done)); (case' e => (first | assumption | (rfl; done))))
  | with_reducible refine' DL.Y.mk ?_
  | with_reducible refine' DL.Y.dctM ?_
  | with_reducible refine' DL.Y.dct0 ?_
  | with_reducible refine' DL.Y.lstM ?_
  | with_reducible refine' DL.Y.rev ?_
  | with_reducible refine' DL.Y.revL ?_
  | with_reducible refine' DL.Y.dget ?_
  | with_reducible refine' DL.Y.dput ?_
  | with_reducible refine' DL.Y.app ?_
  | with_reducible refine' DL.Y.gc ?_
  | with_reducible refine' DL.Y.boolB ?_
  | with_reducible refine' DL.Y.disp ?_
  | with_reducible refine' DL.Y.valsC ?_
  | with_reducible refine' DL.Y.valsN ?_
  | with_reducible refine' DL.Y.ownEq ?_
  | with_reducible refine' DL.Y.cmp2 ?_
  | ((with_reducible refine' DL.Y.fld_ ?f ?e ?_); (case' f => ((first | rfl | assumption | decide +kernel); done)); (case' e => (rfl; done)))
  | with_reducible refine' DL.Y.chLe ?_
  | with_reducible refine' DL.Y.chLt ?_
  | with_reducible refine' DL.Y.setF ?_
  | with_reducible refine' DL.Y.lenSet ?_
  | with_reducible refine' DL.Y.inL ?_
  | with_reducible refine' DL.Y.inD ?_
  | with_reducible refine' DL.Y.inD_ ?_
  | with_reducible refine' DL.Y.ixD ?_
  | ((with_reducible refine' DL.Y.mulS ?h ?_); (case' h => (exact ⟨by omega, by omega, by decide⟩)))
  | ((with_reducible refine' DL.Y.mulL ?h ?_); (case' h => (exact ⟨by simp only [List.length_cons, List.length_nil]; omega, by omega, by omega⟩)))
  | walk_at "xu"
  | walk_at "norm")
local macro_rules | `(tactic| walk_at "norm") => `(tactic| (dsimp only [List.set]))
local macro_rules | `(tactic| walk_at "x") => `(tactic| first | walk_at "x0" | with_reducible refine' DL.Y.ifE ?_)
local macro_rules | `(tactic| walk_at "xs") => `(tactic| repeat walk_at "x0")
local macro_rules | `(tactic| walk_at "xx") => `(tactic| repeat walk_at "x")
local macro_rules | `(tactic| walk_at "start") => `(tactic| dsimp only [List.map, List.length_cons, List.length_nil, List.cons_append, List.nil_append, Nat.zero_add, Nat.reduceAdd, Nat.reduceSub, List.reduceReplicate])
namespace DL
open PySem PySem.Spec PyProof.Rows L2 Evl Sup
variable [TabC]
end DL
end
section
open PySem PySem.Spec PyProof.Rows L2 Evl DL
local macro_rules | `(tactic| walk_at "side") => `(tactic| first | exact mul_left (by decide) | exact mul_right (by decide) | exact mul_bd | exact div_bd (by first | assumption | decide | omega) | exact pow_bd (by first | decide | omega) (by first | decide | omega) | assumption | (show (0 : Int) < _; first | decide | omega))
local macro_rules | `(tactic| walk_at "eva") => `(tactic| first | exact DL.EvA.nil | (refine' DL.EvA.cons ?e ?r; (case' e => walk_at "ev"); (case' r => walk_at "eva")))
local macro_rules | `(tactic| walk_at "seq") => `(tactic| first | exact seq_tup | exact seq_lst | exact seq_ref (by assumption))
local macro_rules | `(tactic| walk_at "size") => `(tactic| first | (show _ ≤ sizeLine; simp only [List.length_cons, List.length_nil]; decide) | (rw [sizeLine_eq]; omega))
local macro_rules | `(tactic| walk_at "ev") => `(tactic| first
  | exact DL.Ev.c
  | exact DL.Ev.var rfl
  | (refine' DL.Ev.int ?a ?b; (case' a => walk_at "ev"); (case' b => walk_at "ev"))
  | (refine' DL.Ev.intC ?a ?b ?s; (case' a => walk_at "ev"); (case' b => walk_at "ev"); (case' s => try walk_at "side"))
  | (refine' DL.Ev.add ?a ?b; (case' a => walk_at "ev"); (case' b => walk_at "ev"))
  | (refine' DL.Ev.neg ?a; (case' a => walk_at "ev"))
  | (refine' DL.Ev.intOf ?a; (case' a => walk_at "ev"))
  | (refine' DL.Ev.intB ?a; (case' a => walk_at "ev"))
  | (refine' DL.Ev.absN ?a; (case' a => walk_at "ev"))
  | (refine' DL.Ev.eqI ?a ?b; (case' a => walk_at "ev"); (case' b => walk_at "ev"))
  | (refine' DL.Ev.neI ?a ?b; (case' a => walk_at "ev"); (case' b => walk_at "ev"))
  | (refine' DL.Ev.at ?a ?b ?s ?k; (case' a => walk_at "ev"); (case' b => walk_at "ev"); (case' s => walk_at "seq"); (case' k => try rfl))
  | (refine' DL.Ev.len ?a ?s; (case' a => walk_at "ev"); (case' s => walk_at "seq"))
  | (refine' DL.Ev.tupOf ?a ?s; (case' a => walk_at "ev"); (case' s => walk_at "seq"))
  | (refine' DL.Ev.tup ?a ?z; (case' a => walk_at "eva"); (case' z => try walk_at "size"))
  | (refine' DL.Ev.lst ?a ?z; (case' a => walk_at "eva"); (case' z => try walk_at "size"))
  | (refine' DL.Ev.notV ?a; (case' a => walk_at "ev"))
  | (refine' DL.Ev.isN ?a; (case' a => walk_at "ev"))
  | exact fun R r => r
  | assumption)
local macro_rules | `(tactic| walk_at "set") => `(tactic| (refine' ds_set ?e ?_; (case' e => walk_at "ev")))
local macro_rules | `(tactic| walk_at "ret") => `(tactic| (refine' ds_ret ?e ?_; (case' e => walk_at "ev")))
local macro_rules | `(tactic| walk_at "par") => `(tactic| (refine' ds_par ?e ?f ?_; (case' e => walk_at "ev"); (case' f => walk_at "ev")))
local macro_rules | `(tactic| walk_at "cut") => `(tactic| (simp only [DL.cutD, HT.sIx, List.length_cons, List.length_nil, Nat.zero_add, Nat.reduceAdd, Nat.min_def, Nat.reduceLeDiff, ↓reduceIte, List.drop_zero, List.drop_succ_cons, List.take_zero, List.take_succ_cons, List.take_nil, List.drop_nil, List.cons_append, List.nil_append, Int.reduceLT, Int.reduceToNat, Nat.reduceSub, Nat.sub_zero, Int.reduceNeg, Int.cast_ofNat_Int, Int.reduceAdd]; exact rfl))
local macro_rules | `(tactic| walk_at "xu") => `(tactic| first
  | with_reducible refine' DL.Y.ixS0 ?_
  | with_reducible refine' DL.Y.ixS1 ?_
  | with_reducible refine' DL.Y.ixS2 ?_
  | with_reducible refine' DL.Y.ixP0 ?_
  | with_reducible refine' DL.Y.ixP1 ?_
  | with_reducible refine' DL.Y.lstS ?_
  | with_reducible refine' DL.Y.lstP ?_)
local macro_rules | `(tactic| walk_at "dec") => `(tactic| first | rfl | assumption | exact decide_eq_true (by omega) | exact decide_eq_false (by omega) | exact DL.Y.ndT (by omega) | exact DL.Y.ndF (by omega) | decide +kernel)
local macro_rules | `(tactic| walk_at "size2") => `(tactic| first | exact Nat.le_of_ble_eq_true rfl | omega)
local macro_rules | `(tactic| walk_at "x0") => `(tactic| first
  | with_reducible refine' DL.Y.cons ?_
  | ((with_reducible refine' DL.Y.var ?e ?_); (case' e => (first | exact rfl | assumption)))
  | with_reducible refine' DL.Y.c ?_
  | with_reducible refine' DL.Y.nil ?_
  | with_reducible refine' DL.Y.op ?_
  | with_reducible refine' DL.Y.oint ?_
  | ((with_reducible refine' DL.Y.ointC ?s ?_); (case' s => try walk_at "side"))
  | with_reducible refine' DL.Y.oadd ?_
  | with_reducible refine' DL.Y.oeqI ?_
  | with_reducible refine' DL.Y.oneI ?_
  | with_reducible refine' DL.Y.oeqS ?_
  | with_reducible refine' DL.Y.neS ?_
  | with_reducible refine' DL.Y.oneS ?_
  | with_reducible refine' DL.Y.oeqB ?_
  | with_reducible refine' DL.Y.tst ?_
  | with_reducible refine' DL.Y.bl_ ?_
  | ((with_reducible refine' DL.Y.iRng1_ ?z ?_); (case' z => (omega; done)))
  | with_reducible refine' DL.Y.int_ ?_
  | with_reducible refine' DL.Y.str_ ?_
  | with_reducible refine' DL.Y.ref_ ?_
  | ((with_reducible refine' DL.Y.iteT ?h ?_); (case' h => (walk_at "dec"; done)))
  | ((with_reducible refine' DL.Y.iteF ?h ?_); (case' h => (walk_at "dec"; done)))
  | with_reducible refine' DL.Y.seq ?_
  | with_reducible refine' DL.Y.set ?_
  | with_reducible refine' DL.Y.ifS ?_
  | with_reducible refine' DL.Y.ret ?_
  | with_reducible refine' DL.Y.nx ?_
  | with_reducible refine' DL.Y.drop ?_
  | with_reducible refine' DL.Y.asg ?_
  | with_reducible refine' DL.Y.par ?_
  | with_reducible refine' DL.Y.par_ ?_
  | with_reducible refine' DL.Y.par3 ?_
  | with_reducible refine' DL.Y.par3_ ?_
  | with_reducible refine' DL.Y.bk ?_
  | with_reducible refine' DL.Y.ct ?_
  | with_reducible refine' DL.Y.retN ?_
  | with_reducible refine' DL.Y.gn ?_
  | with_reducible refine' DL.Y.gnil ?_
  | with_reducible refine' DL.Y.gcons ?_
  | ((with_reducible refine' DL.Y.gseqT ?e ?_); (case' e => (rfl; done)))
  | ((with_reducible refine' DL.Y.gseqL ?e ?_); (case' e => (rfl; done)))
  | with_reducible refine' DL.Y.tup ?_
  | with_reducible refine' DL.Y.lst ?_
  | ((with_reducible refine' DL.Y.len_ ?n ?l ?_); (case' n => exact rfl); (case' l => try walk_at "size2"))
  | with_reducible refine' DL.Y.ix ?_
  | ((with_reducible refine' DL.Y.ixT ?e ?_); (case' e => ((first | rfl | assumption); done)))
  | ((with_reducible refine' DL.Y.ixL ?e ?_); (case' e => (rfl; done)))
  | ((with_reducible refine' DL.Y.ixR ?g ?e ?_); (case' g => with_reducible assumption); (case' e => (rfl; done)))
  | with_reducible refine' DL.Y.cal ?_
  | with_reducible refine' DL.Y.lenT ?_
  | with_reducible refine' DL.Y.lenL ?_
  | ((with_reducible refine' DL.Y.lenR ?g ?_); (case' g => with_reducible assumption))
  | with_reducible refine' DL.Y.absI ?_
  | with_reducible refine' DL.Y.intI ?_
  | with_reducible refine' DL.Y.intB ?_
  | with_reducible refine' DL.Y.tupT ?_
  | with_reducible refine' DL.Y.tupL ?_
  | ((with_reducible refine' DL.Y.tupR ?g ?_); (case' g => with_reducible assumption))
  | with_reducible refine' DL.Y.lstT ?_
  | with_reducible refine' DL.Y.lstL ?_
  | with_reducible refine' DL.Y.allL ?_
  | with_reducible refine' DL.Y.anyL ?_
  | ((with_reducible refine' DL.Y.oaddL ?z ?_); (case' z => try walk_at "size2"))
  | ((with_reducible refine' DL.Y.oaddT ?z ?_); (case' z => try walk_at "size2"))
  | with_reducible refine' DL.Y.oisB ?_
  | with_reducible refine' DL.Y.onotB ?_
  | with_reducible refine' DL.Y.neg ?_
  | with_reducible refine' DL.Y.notT ?_
  | with_reducible refine' DL.Y.andT ?_
  | with_reducible refine' DL.Y.orT ?_
  | with_reducible refine' DL.Y.yes ?_
  | with_reducible refine' DL.Y.ifT ?_
  | with_reducible refine' DL.Y.andV ?_
  | with_reducible refine' DL.Y.orV ?_
  | with_reducible refine' DL.Y.notV ?_
  | with_reducible refine' DL.Y.isN ?_
  | with_reducible refine' DL.Y.notN ?_
  | ((with_reducible refine' DL.Y.isi_ ?e ?_); (case' e => (rfl; done)))
  | with_reducible refine' DL.Y.isiT ?_
  | with_reducible refine' DL.Y.chain ?_
  | with_reducible refine' DL.Y.sl ?_
  | with_reducible refine' DL.Y.noP ?_
  | with_reducible refine' DL.Y.part ?_
  | ((with_reducible refine' DL.Y.slLl ?n ?e ?_); (case' n => (rfl; done)); (case' e => walk_at "cut"))
  | ((with_reducible refine' DL.Y.slTl ?n ?m ?e ?_); (case' n => (rfl; done)); (case' m => (simp [HT.sIx]; done)); (case' e => walk_at "cut"))
  | with_reducible refine' DL.Y.slL ?_
  | with_reducible refine' DL.Y.call ?_
  | with_reducible refine' DL.Y.callK ?_
  | with_reducible refine' DL.Y.callD ?_
  | with_reducible refine' DL.Y.fld ?_
  | ((with_reducible refine' DL.Y.fld_ ?f ?e ?_); (case' f => (first | rfl | assumption); done); (case' e => (rfl; done)))
  | with_reducible refine' DL.Y.isW_ ?_
  | with_reducible refine' DL.Y.inK ?_
  | with_reducible refine' DL.Y.iSeq ?_
  | with_reducible refine' DL.Y.iSeqL ?_
  | with_reducible refine' DL.Y.iSeqT ?_
  | with_reducible refine' DL.Y.iRng1 ?_
  | with_reducible refine' DL.Y.iZip ?_
  | with_reducible refine' DL.Y.iZipT ?_
  | with_reducible refine' DL.Y.iZipL ?_
  | with_reducible refine' DL.Y.iEnum ?_
  | with_reducible refine' DL.Y.iEnumT ?_
  | with_reducible refine' DL.Y.iEnumL ?_
  | with_reducible refine' DL.Y.for_ ?_
  | with_reducible refine' DL.Y.cmp ?_
  | with_reducible refine' DL.Y.isO ?_
  | ((with_reducible refine' DL.Y.isO_ (isO_exc ?c) ?_); (case' c => (decide +kernel; done)))
  | ((with_reducible refine' DL.Y.isO_ ?e ?_); (case' e => (rfl; done)))
  | ((with_reducible refine' DL.Y.isW1 ?e ?_); (case' e => (first | assumption | (rfl; done))))
  | with_reducible refine' DL.Y.xf ?_
  | ((with_reducible refine' DL.Y.xf_ ?c ?e ?_); (case' c => (decide +kernel; done)); (case' e => (first | assumption | (rfl; done))))
  | with_reducible refine' DL.Y.mk ?_
  | with_reducible refine' DL.Y.dctM ?_
  | with_reducible refine' DL.Y.dct0 ?_
  | with_reducible refine' DL.Y.lstM ?_
  | with_reducible refine' DL.Y.rev ?_
  | with_reducible refine' DL.Y.revL ?_
  | with_reducible refine' DL.Y.dget ?_
  | with_reducible refine' DL.Y.dput ?_
  | with_reducible refine' DL.Y.app ?_
  | with_reducible refine' DL.Y.gc ?_
  | with_reducible refine' DL.Y.boolB ?_
  | with_reducible refine' DL.Y.disp ?_
  | with_reducible refine' DL.Y.valsC ?_
  | with_reducible refine' DL.Y.valsN ?_
  | with_reducible refine' DL.Y.ownEq ?_
  | with_reducible refine' DL.Y.cmp2 ?_
  | ((with_reducible refine' DL.Y.fld_ ?f ?e ?_); (case' f => ((first | rfl | assumption | decide +kernel); done)); (case' e => (rfl; done)))
  | with_reducible refine' DL.Y.chLe ?_
  | with_reducible refine' DL.Y.chLt ?_
  | with_reducible refine' DL.Y.setF ?_
  | with_reducible refine' DL.Y.lenSet ?_
  | with_reducible refine' DL.Y.inL ?_
  | with_reducible refine' DL.Y.inD ?_
  | with_reducible refine' DL.Y.inD_ ?_
  | with_reducible refine' DL.Y.ixD ?_
  | ((with_reducible refine' DL.Y.mulS ?h ?_); (case' h => (exact ⟨by omega, by omega, by decide⟩)))
  | ((with_reducible refine' DL.Y.mulL ?h ?_); (case' h => (exact ⟨by simp only [List.length_cons, List.length_nil]; omega, by omega, by omega⟩)))
  | walk_at "xu"
  | walk_at "norm")
local macro_rules | `(tactic| walk_at "norm") => `(tactic| (dsimp only [List.set]))
local macro_rules | `(tactic| walk_at "x") => `(tactic| first | walk_at "x0" | with_reducible refine' DL.Y.ifE ?_)
local macro_rules | `(tactic| walk_at "xs") => `(tactic| repeat walk_at "x0")
local macro_rules | `(tactic| walk_at "xx") => `(tactic| repeat walk_at "x")
local macro_rules | `(tactic| walk_at "start") => `(tactic| dsimp only [List.map, List.length_cons, List.length_nil, List.cons_append, List.nil_append, Nat.zero_add, Nat.reduceAdd, Nat.reduceSub, List.reduceReplicate])
namespace DL
open PySem PySem.Spec PyProof.Rows L2 Evl Sup
variable [TabC]
end DL
namespace DL
open PySem PySem.Spec PyProof.Rows L2 Evl Sup
variable [TabC]
section
variable {X : Cx} {B : Bs} {p pos : Pos} {e : Expr} {es : List Expr} {dA : DA}
end
end DL
namespace DL
open PySem PySem.Spec PyProof.Rows L2 Evl Sup
variable [TabC]
end DL
namespace DL
open PySem PySem.Spec PyProof.Rows L2 Evl Sup
variable [TabC]
end DL
namespace DL
open PySem PySem.Spec PyProof.Rows L2 Evl Sup
variable [TabC]
section
variable {X : Cx} {B : Bs} {p pos : Pos} {e : Expr} {es : List Expr} {de : DE} {dA : DA}
def dStar (de : DE) (dA : DA) : DA := fun ρ G S => de ρ G fun x G1 => ∃ xs, (x = .tup xs ∨ x = .lst xs) ∧ dA ρ G1 fun ys G2 => S (xs ++ ys) G2
namespace Y
theorem star {ρ : En} {G : Gm} {S : List D → Gm → Prop} (h : de ρ G fun x G1 => ∃ xs, (x = .tup xs ∨ x = .lst xs) ∧ dA ρ G1 fun ys G2 => S (xs ++ ys) G2) : dStar de dA ρ G S := h
theorem meth {C m : Str} {q : DSp} {RX : XD} {dobj : DE} {ρ : En} {G : Gm} {R : KD} (h : dobj ρ G fun y G1 => ∃ ns xs, InsAt G1 y C ns xs ∧ (ns.zip xs).lookup m = none ∧ dA ρ G1 fun ys G2 => q (y :: ys) G2 R RX) : dMeth C m q RX dobj dA ρ G R := h
end Y
end
end DL
end
section
open PySem PySem.Spec PyProof.Rows L2 Evl DL
local macro_rules | `(tactic| walk_at "side") => `(tactic| first | exact mul_left (by decide) | exact mul_right (by decide) | exact mul_bd | exact div_bd (by first | assumption | decide | omega) | exact pow_bd (by first | decide | omega) (by first | decide | omega) | assumption | (show (0 : Int) < _; first | decide | omega))
local macro_rules | `(tactic| walk_at "eva") => `(tactic| first | exact DL.EvA.nil | (refine' DL.EvA.cons ?e ?r; (case' e => walk_at "ev"); (case' r => walk_at "eva")))
local macro_rules | `(tactic| walk_at "seq") => `(tactic| first | exact seq_tup | exact seq_lst | exact seq_ref (by assumption))
local macro_rules | `(tactic| walk_at "size") => `(tactic| first | (show _ ≤ sizeLine; simp only [List.length_cons, List.length_nil]; decide) | (rw [sizeLine_eq]; omega))
local macro_rules | `(tactic| walk_at "ev") => `(tactic| first
  | exact DL.Ev.c
  | exact DL.Ev.var rfl
  | (refine' DL.Ev.int ?a ?b; (case' a => walk_at "ev"); (case' b => walk_at "ev"))
  | (refine' DL.Ev.intC ?a ?b ?s; (case' a => walk_at "ev"); (case' b => walk_at "ev"); (case' s => try walk_at "side"))
  | (refine' DL.Ev.add ?a ?b; (case' a => walk_at "ev"); (case' b => walk_at "ev"))
  | (refine' DL.Ev.neg ?a; (case' a => walk_at "ev"))
  | (refine' DL.Ev.intOf ?a; (case' a => walk_at "ev"))
  | (refine' DL.Ev.intB ?a; (case' a => walk_at "ev"))
  | (refine' DL.Ev.absN ?a; (case' a => walk_at "ev"))
  | (refine' DL.Ev.eqI ?a ?b; (case' a => walk_at "ev"); (case' b => walk_at "ev"))
  | (refine' DL.Ev.neI ?a ?b; (case' a => walk_at "ev"); (case' b => walk_at "ev"))
  | (refine' DL.Ev.at ?a ?b ?s ?k; (case' a => walk_at "ev"); (case' b => walk_at "ev"); (case' s => walk_at "seq"); (case' k => try rfl))
  | (refine' DL.Ev.len ?a ?s; (case' a => walk_at "ev"); (case' s => walk_at "seq"))
  | (refine' DL.Ev.tupOf ?a ?s; (case' a => walk_at "ev"); (case' s => walk_at "seq"))
  | (refine' DL.Ev.tup ?a ?z; (case' a => walk_at "eva"); (case' z => try walk_at "size"))
  | (refine' DL.Ev.lst ?a ?z; (case' a => walk_at "eva"); (case' z => try walk_at "size"))
  | (refine' DL.Ev.notV ?a; (case' a => walk_at "ev"))
  | (refine' DL.Ev.isN ?a; (case' a => walk_at "ev"))
  | exact fun R r => r
  | assumption)
local macro_rules | `(tactic| walk_at "set") => `(tactic| (refine' ds_set ?e ?_; (case' e => walk_at "ev")))
local macro_rules | `(tactic| walk_at "ret") => `(tactic| (refine' ds_ret ?e ?_; (case' e => walk_at "ev")))
local macro_rules | `(tactic| walk_at "par") => `(tactic| (refine' ds_par ?e ?f ?_; (case' e => walk_at "ev"); (case' f => walk_at "ev")))
local macro_rules | `(tactic| walk_at "cut") => `(tactic| (simp only [DL.cutD, HT.sIx, List.length_cons, List.length_nil, Nat.zero_add, Nat.reduceAdd, Nat.min_def, Nat.reduceLeDiff, ↓reduceIte, List.drop_zero, List.drop_succ_cons, List.take_zero, List.take_succ_cons, List.take_nil, List.drop_nil, List.cons_append, List.nil_append, Int.reduceLT, Int.reduceToNat, Nat.reduceSub, Nat.sub_zero, Int.reduceNeg, Int.cast_ofNat_Int, Int.reduceAdd]; exact rfl))
local macro_rules | `(tactic| walk_at "xu") => `(tactic| first
  | with_reducible refine' DL.Y.ixS0 ?_
  | with_reducible refine' DL.Y.ixS1 ?_
  | with_reducible refine' DL.Y.ixS2 ?_
  | with_reducible refine' DL.Y.ixP0 ?_
  | with_reducible refine' DL.Y.ixP1 ?_
  | with_reducible refine' DL.Y.lstS ?_
  | with_reducible refine' DL.Y.lstP ?_)
local macro_rules | `(tactic| walk_at "dec") => `(tactic| first | rfl | assumption | exact decide_eq_true (by omega) | exact decide_eq_false (by omega) | exact DL.Y.ndT (by omega) | exact DL.Y.ndF (by omega) | decide +kernel)
local macro_rules | `(tactic| walk_at "size2") => `(tactic| first | exact Nat.le_of_ble_eq_true rfl | omega)
local macro_rules | `(tactic| walk_at "x0") => `(tactic| first
  | with_reducible refine' DL.Y.cons ?_
  | ((with_reducible refine' DL.Y.var ?e ?_); (case' e => (first | exact rfl | assumption)))
  | with_reducible refine' DL.Y.c ?_
  | with_reducible refine' DL.Y.nil ?_
  | with_reducible refine' DL.Y.op ?_
  | with_reducible refine' DL.Y.oint ?_
  | ((with_reducible refine' DL.Y.ointC ?s ?_); (case' s => try walk_at "side"))
  | with_reducible refine' DL.Y.oadd ?_
  | with_reducible refine' DL.Y.oeqI ?_
  | with_reducible refine' DL.Y.oneI ?_
  | with_reducible refine' DL.Y.oeqS ?_
  | with_reducible refine' DL.Y.neS ?_
  | with_reducible refine' DL.Y.oneS ?_
  | with_reducible refine' DL.Y.oeqB ?_
  | with_reducible refine' DL.Y.tst ?_
  | with_reducible refine' DL.Y.bl_ ?_
  | ((with_reducible refine' DL.Y.iRng1_ ?z ?_); (case' z => (omega; done)))
  | with_reducible refine' DL.Y.int_ ?_
  | with_reducible refine' DL.Y.str_ ?_
  | with_reducible refine' DL.Y.ref_ ?_
  | ((with_reducible refine' DL.Y.iteT ?h ?_); (case' h => (walk_at "dec"; done)))
  | ((with_reducible refine' DL.Y.iteF ?h ?_); (case' h => (walk_at "dec"; done)))
  | with_reducible refine' DL.Y.seq ?_
  | with_reducible refine' DL.Y.set ?_
  | with_reducible refine' DL.Y.ifS ?_
  | with_reducible refine' DL.Y.ret ?_
  | with_reducible refine' DL.Y.nx ?_
  | with_reducible refine' DL.Y.drop ?_
  | with_reducible refine' DL.Y.asg ?_
  | with_reducible refine' DL.Y.par ?_
  | with_reducible refine' DL.Y.par_ ?_
  | with_reducible refine' DL.Y.par3 ?_
  | with_reducible refine' DL.Y.par3_ ?_
  | with_reducible refine' DL.Y.bk ?_
  | with_reducible refine' DL.Y.ct ?_
  | with_reducible refine' DL.Y.retN ?_
  | with_reducible refine' DL.Y.gn ?_
  | with_reducible refine' DL.Y.gnil ?_
  | with_reducible refine' DL.Y.gcons ?_
  | ((with_reducible refine' DL.Y.gseqT ?e ?_); (case' e => (rfl; done)))
  | ((with_reducible refine' DL.Y.gseqL ?e ?_); (case' e => (rfl; done)))
  | with_reducible refine' DL.Y.tup ?_
  | with_reducible refine' DL.Y.lst ?_
  | ((with_reducible refine' DL.Y.len_ ?n ?l ?_); (case' n => exact rfl); (case' l => try walk_at "size2"))
  | with_reducible refine' DL.Y.ix ?_
  | ((with_reducible refine' DL.Y.ixT ?e ?_); (case' e => ((first | rfl | assumption); done)))
  | ((with_reducible refine' DL.Y.ixL ?e ?_); (case' e => (rfl; done)))
  | ((with_reducible refine' DL.Y.ixR ?g ?e ?_); (case' g => with_reducible assumption); (case' e => (rfl; done)))
  | with_reducible refine' DL.Y.cal ?_
  | with_reducible refine' DL.Y.lenT ?_
  | with_reducible refine' DL.Y.lenL ?_
  | ((with_reducible refine' DL.Y.lenR ?g ?_); (case' g => with_reducible assumption))
  | with_reducible refine' DL.Y.absI ?_
  | with_reducible refine' DL.Y.intI ?_
  | with_reducible refine' DL.Y.intB ?_
  | with_reducible refine' DL.Y.tupT ?_
  | with_reducible refine' DL.Y.tupL ?_
  | ((with_reducible refine' DL.Y.tupR ?g ?_); (case' g => with_reducible assumption))
  | with_reducible refine' DL.Y.lstT ?_
  | with_reducible refine' DL.Y.lstL ?_
  | with_reducible refine' DL.Y.allL ?_
  | with_reducible refine' DL.Y.anyL ?_
  | ((with_reducible refine' DL.Y.oaddL ?z ?_); (case' z => try walk_at "size2"))
  | ((with_reducible refine' DL.Y.oaddT ?z ?_); (case' z => try walk_at "size2"))
  | with_reducible refine' DL.Y.oisB ?_
  | with_reducible refine' DL.Y.onotB ?_
  | with_reducible refine' DL.Y.neg ?_
  | with_reducible refine' DL.Y.notT ?_
  | with_reducible refine' DL.Y.andT ?_
  | with_reducible refine' DL.Y.orT ?_
  | with_reducible refine' DL.Y.yes ?_
  | with_reducible refine' DL.Y.ifT ?_
  | with_reducible refine' DL.Y.andV ?_
  | with_reducible refine' DL.Y.orV ?_
  | with_reducible refine' DL.Y.notV ?_
  | with_reducible refine' DL.Y.isN ?_
  | with_reducible refine' DL.Y.notN ?_
  | ((with_reducible refine' DL.Y.isi_ ?e ?_); (case' e => (rfl; done)))
  | with_reducible refine' DL.Y.isiT ?_
  | with_reducible refine' DL.Y.chain ?_
  | with_reducible refine' DL.Y.sl ?_
  | with_reducible refine' DL.Y.noP ?_
  | with_reducible refine' DL.Y.part ?_
  | ((with_reducible refine' DL.Y.slLl ?n ?e ?_); (case' n => (rfl; done)); (case' e => walk_at "cut"))
  | ((with_reducible refine' DL.Y.slTl ?n ?m ?e ?_); (case' n => (rfl; done)); (case' m => (simp [HT.sIx]; done)); (case' e => walk_at "cut"))
  | with_reducible refine' DL.Y.slL ?_
  | with_reducible refine' DL.Y.call ?_
  | with_reducible refine' DL.Y.callK ?_
  | with_reducible refine' DL.Y.callD ?_
  | with_reducible refine' DL.Y.fld ?_
  | ((with_reducible refine' DL.Y.fld_ ?f ?e ?_); (case' f => (first | rfl | assumption); done); (case' e => (rfl; done)))
  | with_reducible refine' DL.Y.isW_ ?_
  | with_reducible refine' DL.Y.inK ?_
  | with_reducible refine' DL.Y.iSeq ?_
  | with_reducible refine' DL.Y.iSeqL ?_
  | with_reducible refine' DL.Y.iSeqT ?_
  | with_reducible refine' DL.Y.iRng1 ?_
  | with_reducible refine' DL.Y.iZip ?_
  | with_reducible refine' DL.Y.iZipT ?_
  | with_reducible refine' DL.Y.iZipL ?_
  | with_reducible refine' DL.Y.iEnum ?_
  | with_reducible refine' DL.Y.iEnumT ?_
  | with_reducible refine' DL.Y.iEnumL ?_
  | with_reducible refine' DL.Y.for_ ?_
  | with_reducible refine' DL.Y.cmp ?_
  | with_reducible refine' DL.Y.isO ?_
  | ((with_reducible refine' DL.Y.isO_ (isO_exc ?c) ?_); (case' c => (decide +kernel; done)))
  | ((with_reducible refine' DL.Y.isO_ ?e ?_); (case' e => (rfl; done)))
  | ((with_reducible refine' DL.Y.isW1 ?e ?_); (case' e => (first | assumption | (rfl; done))))
  | with_reducible refine' DL.Y.xf ?_
  | ((with_reducible refine' DL.Y.xf_ ?c ?e ?_); (case' c => (decide +kernel; done)); (case' e => (first | assumption | (rfl; done))))
  | with_reducible refine' DL.Y.mk ?_
  | with_reducible refine' DL.Y.dctM ?_
  | with_reducible refine' DL.Y.dct0 ?_
  | with_reducible refine' DL.Y.lstM ?_
  | with_reducible refine' DL.Y.rev ?_
  | with_reducible refine' DL.Y.revL ?_
  | with_reducible refine' DL.Y.dget ?_
  | with_reducible refine' DL.Y.dput ?_
  | with_reducible refine' DL.Y.app ?_
  | with_reducible refine' DL.Y.gc ?_
  | with_reducible refine' DL.Y.boolB ?_
  | with_reducible refine' DL.Y.disp ?_
  | with_reducible refine' DL.Y.valsC ?_
  | with_reducible refine' DL.Y.valsN ?_
  | with_reducible refine' DL.Y.ownEq ?_
  | with_reducible refine' DL.Y.cmp2 ?_
  | with_reducible refine' DL.Y.star ?_
  | with_reducible refine' DL.Y.meth ?_
  | with_reducible refine' DL.Y.index ?_
  | ((with_reducible refine' DL.Y.fld_ ?f ?e ?_); (case' f => ((first | rfl | assumption | decide +kernel); done)); (case' e => (rfl; done)))
  | with_reducible refine' DL.Y.chLe ?_
  | with_reducible refine' DL.Y.chLt ?_
  | with_reducible refine' DL.Y.setF ?_
  | with_reducible refine' DL.Y.lenSet ?_
  | with_reducible refine' DL.Y.inL ?_
  | with_reducible refine' DL.Y.inD ?_
  | with_reducible refine' DL.Y.inD_ ?_
  | with_reducible refine' DL.Y.ixD ?_
  | ((with_reducible refine' DL.Y.mulS ?h ?_); (case' h => (exact ⟨by omega, by omega, by decide⟩)))
  | ((with_reducible refine' DL.Y.mulL ?h ?_); (case' h => (exact ⟨by simp only [List.length_cons, List.length_nil]; omega, by omega, by omega⟩)))
  | walk_at "xu"
  | walk_at "norm")
local macro_rules | `(tactic| walk_at "norm") => `(tactic| (dsimp only [List.set]))
local macro_rules | `(tactic| walk_at "x") => `(tactic| first | walk_at "x0" | with_reducible refine' DL.Y.ifE ?_)
local macro_rules | `(tactic| walk_at "xs") => `(tactic| repeat walk_at "x0")
local macro_rules | `(tactic| walk_at "xx") => `(tactic| repeat walk_at "x")
local macro_rules | `(tactic| walk_at "start") => `(tactic| dsimp only [List.map, List.length_cons, List.length_nil, List.cons_append, List.nil_append, Nat.zero_add, Nat.reduceAdd, Nat.reduceSub, List.reduceReplicate])
namespace DL
open PySem PySem.Spec PyProof.Rows L2 Evl Sup
variable [TabC]
def dIndex (dobj de : DE) : DE := fun ρ G R => dobj ρ G fun o G1 => ∃ ds, o = .lst ds ∧ Cmp (.lst ds) ∧ de ρ G1 fun x G2 => Cmp x ∧ ∃ (j : Nat) (z : D), ds[j]? = some z ∧ D.eqv z x = true ∧ (∀ (m : Nat) (z' : D), m < j → ds[m]? = some z' → D.eqv z' x = false) ∧ R (.int j) G2
section
variable {X : Cx} {B : Bs} {o e : Expr} {dobj de : DE} {pos p : Pos}
end
namespace Y
theorem index {dobj de : DE} {ρ : En} {G : Gm} {R : KD} (h : dobj ρ G fun o G1 => ∃ ds, o = .lst ds ∧ Cmp (.lst ds) ∧ de ρ G1 fun x G2 => Cmp x ∧ ∃ (j : Nat) (z : D), ds[j]? = some z ∧ D.eqv z x = true ∧ (∀ (m : Nat) (z' : D), m < j → ds[m]? = some z' → D.eqv z' x = false) ∧ R (.int j) G2) : dIndex dobj de ρ G R := h
end Y
end DL
end
section
open PySem PySem.Spec PyProof.Rows L2 Evl DL
local macro_rules | `(tactic| walk_at "side") => `(tactic| first | exact mul_left (by decide) | exact mul_right (by decide) | exact mul_bd | exact div_bd (by first | assumption | decide | omega) | exact pow_bd (by first | decide | omega) (by first | decide | omega) | assumption | (show (0 : Int) < _; first | decide | omega))
local macro_rules | `(tactic| walk_at "eva") => `(tactic| first | exact DL.EvA.nil | (refine' DL.EvA.cons ?e ?r; (case' e => walk_at "ev"); (case' r => walk_at "eva")))
local macro_rules | `(tactic| walk_at "seq") => `(tactic| first | exact seq_tup | exact seq_lst | exact seq_ref (by assumption))
local macro_rules | `(tactic| walk_at "size") => `(tactic| first | (show _ ≤ sizeLine; simp only [List.length_cons, List.length_nil]; decide) | (rw [sizeLine_eq]; omega))
local macro_rules | `(tactic| walk_at "ev") => `(tactic| first
  | exact DL.Ev.c
  | exact DL.Ev.var rfl
  | (refine' DL.Ev.int ?a ?b; (case' a => walk_at "ev"); (case' b => walk_at "ev"))
  | (refine' DL.Ev.intC ?a ?b ?s; (case' a => walk_at "ev"); (case' b => walk_at "ev"); (case' s => try walk_at "side"))
  | (refine' DL.Ev.add ?a ?b; (case' a => walk_at "ev"); (case' b => walk_at "ev"))
  | (refine' DL.Ev.neg ?a; (case' a => walk_at "ev"))
  | (refine' DL.Ev.intOf ?a; (case' a => walk_at "ev"))
  | (refine' DL.Ev.intB ?a; (case' a => walk_at "ev"))
  | (refine' DL.Ev.absN ?a; (case' a => walk_at "ev"))
  | (refine' DL.Ev.eqI ?a ?b; (case' a => walk_at "ev"); (case' b => walk_at "ev"))
  | (refine' DL.Ev.neI ?a ?b; (case' a => walk_at "ev"); (case' b => walk_at "ev"))
  | (refine' DL.Ev.at ?a ?b ?s ?k; (case' a => walk_at "ev"); (case' b => walk_at "ev"); (case' s => walk_at "seq"); (case' k => try rfl))
  | (refine' DL.Ev.len ?a ?s; (case' a => walk_at "ev"); (case' s => walk_at "seq"))
  | (refine' DL.Ev.tupOf ?a ?s; (case' a => walk_at "ev"); (case' s => walk_at "seq"))
  | (refine' DL.Ev.tup ?a ?z; (case' a => walk_at "eva"); (case' z => try walk_at "size"))
  | (refine' DL.Ev.lst ?a ?z; (case' a => walk_at "eva"); (case' z => try walk_at "size"))
  | (refine' DL.Ev.notV ?a; (case' a => walk_at "ev"))
  | (refine' DL.Ev.isN ?a; (case' a => walk_at "ev"))
  | exact fun R r => r
  | assumption)
local macro_rules | `(tactic| walk_at "set") => `(tactic| (refine' ds_set ?e ?_; (case' e => walk_at "ev")))
local macro_rules | `(tactic| walk_at "ret") => `(tactic| (refine' ds_ret ?e ?_; (case' e => walk_at "ev")))
local macro_rules | `(tactic| walk_at "par") => `(tactic| (refine' ds_par ?e ?f ?_; (case' e => walk_at "ev"); (case' f => walk_at "ev")))
local macro_rules | `(tactic| walk_at "cut") => `(tactic| (simp only [DL.cutD, HT.sIx, List.length_cons, List.length_nil, Nat.zero_add, Nat.reduceAdd, Nat.min_def, Nat.reduceLeDiff, ↓reduceIte, List.drop_zero, List.drop_succ_cons, List.take_zero, List.take_succ_cons, List.take_nil, List.drop_nil, List.cons_append, List.nil_append, Int.reduceLT, Int.reduceToNat, Nat.reduceSub, Nat.sub_zero, Int.reduceNeg, Int.cast_ofNat_Int, Int.reduceAdd]; exact rfl))
local macro_rules | `(tactic| walk_at "xu") => `(tactic| first
  | with_reducible refine' DL.Y.ixS0 ?_
  | with_reducible refine' DL.Y.ixS1 ?_
  | with_reducible refine' DL.Y.ixS2 ?_
  | with_reducible refine' DL.Y.ixP0 ?_
  | with_reducible refine' DL.Y.ixP1 ?_
  | with_reducible refine' DL.Y.lstS ?_
  | with_reducible refine' DL.Y.lstP ?_)
local macro_rules | `(tactic| walk_at "dec") => `(tactic| first | rfl | assumption | exact decide_eq_true (by omega) | exact decide_eq_false (by omega) | exact DL.Y.ndT (by omega) | exact DL.Y.ndF (by omega) | decide +kernel)
local macro_rules | `(tactic| walk_at "size2") => `(tactic| first | exact Nat.le_of_ble_eq_true rfl | omega)
local macro_rules | `(tactic| walk_at "x0") => `(tactic| first
  | with_reducible refine' DL.Y.cons ?_
  | ((with_reducible refine' DL.Y.var ?e ?_); (case' e => (first | exact rfl | assumption)))
  | with_reducible refine' DL.Y.c ?_
  | with_reducible refine' DL.Y.nil ?_
  | with_reducible refine' DL.Y.op ?_
  | with_reducible refine' DL.Y.oint ?_
  | ((with_reducible refine' DL.Y.ointC ?s ?_); (case' s => try walk_at "side"))
  | with_reducible refine' DL.Y.oadd ?_
  | with_reducible refine' DL.Y.oeqI ?_
  | with_reducible refine' DL.Y.oneI ?_
  | with_reducible refine' DL.Y.oeqS ?_
  | with_reducible refine' DL.Y.neS ?_
  | with_reducible refine' DL.Y.oneS ?_
  | with_reducible refine' DL.Y.oeqB ?_
  | with_reducible refine' DL.Y.tst ?_
  | with_reducible refine' DL.Y.bl_ ?_
  | ((with_reducible refine' DL.Y.iRng1_ ?z ?_); (case' z => (omega; done)))
  | with_reducible refine' DL.Y.int_ ?_
  | with_reducible refine' DL.Y.str_ ?_
  | with_reducible refine' DL.Y.ref_ ?_
  | ((with_reducible refine' DL.Y.iteT ?h ?_); (case' h => (walk_at "dec"; done)))
  | ((with_reducible refine' DL.Y.iteF ?h ?_); (case' h => (walk_at "dec"; done)))
  | with_reducible refine' DL.Y.seq ?_
  | with_reducible refine' DL.Y.set ?_
  | with_reducible refine' DL.Y.ifS ?_
  | with_reducible refine' DL.Y.ret ?_
  | with_reducible refine' DL.Y.nx ?_
  | with_reducible refine' DL.Y.drop ?_
  | with_reducible refine' DL.Y.asg ?_
  | with_reducible refine' DL.Y.par ?_
  | with_reducible refine' DL.Y.par_ ?_
  | with_reducible refine' DL.Y.par3 ?_
  | with_reducible refine' DL.Y.par3_ ?_
  | with_reducible refine' DL.Y.bk ?_
  | with_reducible refine' DL.Y.ct ?_
  | with_reducible refine' DL.Y.retN ?_
  | with_reducible refine' DL.Y.gn ?_
  | with_reducible refine' DL.Y.gnil ?_
  | with_reducible refine' DL.Y.gcons ?_
  | ((with_reducible refine' DL.Y.gseqT ?e ?_); (case' e => (rfl; done)))
  | ((with_reducible refine' DL.Y.gseqL ?e ?_); (case' e => (rfl; done)))
  | with_reducible refine' DL.Y.tup ?_
  | with_reducible refine' DL.Y.lst ?_
  | ((with_reducible refine' DL.Y.len_ ?n ?l ?_); (case' n => exact rfl); (case' l => try walk_at "size2"))
  | with_reducible refine' DL.Y.ix ?_
  | ((with_reducible refine' DL.Y.ixT ?e ?_); (case' e => ((first | rfl | assumption); done)))
  | ((with_reducible refine' DL.Y.ixL ?e ?_); (case' e => (rfl; done)))
  | ((with_reducible refine' DL.Y.ixR ?g ?e ?_); (case' g => with_reducible assumption); (case' e => (rfl; done)))
  | with_reducible refine' DL.Y.cal ?_
  | with_reducible refine' DL.Y.lenT ?_
  | with_reducible refine' DL.Y.lenL ?_
  | ((with_reducible refine' DL.Y.lenR ?g ?_); (case' g => with_reducible assumption))
  | with_reducible refine' DL.Y.absI ?_
  | with_reducible refine' DL.Y.intI ?_
  | with_reducible refine' DL.Y.intB ?_
  | with_reducible refine' DL.Y.tupT ?_
  | with_reducible refine' DL.Y.tupL ?_
  | ((with_reducible refine' DL.Y.tupR ?g ?_); (case' g => with_reducible assumption))
  | with_reducible refine' DL.Y.lstT ?_
  | with_reducible refine' DL.Y.lstL ?_
  | with_reducible refine' DL.Y.allL ?_
  | with_reducible refine' DL.Y.anyL ?_
  | ((with_reducible refine' DL.Y.oaddL ?z ?_); (case' z => try walk_at "size2"))
  | ((with_reducible refine' DL.Y.oaddT ?z ?_); (case' z => try walk_at "size2"))
  | with_reducible refine' DL.Y.oisB ?_
  | with_reducible refine' DL.Y.onotB ?_
  | with_reducible refine' DL.Y.neg ?_
  | with_reducible refine' DL.Y.notT ?_
  | with_reducible refine' DL.Y.andT ?_
  | with_reducible refine' DL.Y.orT ?_
  | with_reducible refine' DL.Y.yes ?_
  | with_reducible refine' DL.Y.ifT ?_
  | with_reducible refine' DL.Y.andV ?_
  | with_reducible refine' DL.Y.orV ?_
  | with_reducible refine' DL.Y.notV ?_
  | with_reducible refine' DL.Y.isN ?_
  | with_reducible refine' DL.Y.notN ?_
  | ((with_reducible refine' DL.Y.isi_ ?e ?_); (case' e => (rfl; done)))
  | with_reducible refine' DL.Y.isiT ?_
  | with_reducible refine' DL.Y.chain ?_
  | with_reducible refine' DL.Y.sl ?_
  | with_reducible refine' DL.Y.noP ?_
  | with_reducible refine' DL.Y.part ?_
  | ((with_reducible refine' DL.Y.slLl ?n ?e ?_); (case' n => (rfl; done)); (case' e => walk_at "cut"))
  | ((with_reducible refine' DL.Y.slTl ?n ?m ?e ?_); (case' n => (rfl; done)); (case' m => (simp [HT.sIx]; done)); (case' e => walk_at "cut"))
  | with_reducible refine' DL.Y.slL ?_
  | with_reducible refine' DL.Y.call ?_
  | with_reducible refine' DL.Y.callK ?_
  | with_reducible refine' DL.Y.callD ?_
  | with_reducible refine' DL.Y.fld ?_
  | ((with_reducible refine' DL.Y.fld_ ?f ?e ?_); (case' f => (first | rfl | assumption); done); (case' e => (rfl; done)))
  | with_reducible refine' DL.Y.isW_ ?_
  | with_reducible refine' DL.Y.inK ?_
  | with_reducible refine' DL.Y.iSeq ?_
  | with_reducible refine' DL.Y.iSeqL ?_
  | with_reducible refine' DL.Y.iSeqT ?_
  | with_reducible refine' DL.Y.iRng1 ?_
  | with_reducible refine' DL.Y.iZip ?_
  | with_reducible refine' DL.Y.iZipT ?_
  | with_reducible refine' DL.Y.iZipL ?_
  | with_reducible refine' DL.Y.iEnum ?_
  | with_reducible refine' DL.Y.iEnumT ?_
  | with_reducible refine' DL.Y.iEnumL ?_
  | with_reducible refine' DL.Y.for_ ?_
  | with_reducible refine' DL.Y.cmp ?_
  | with_reducible refine' DL.Y.isO ?_
  | ((with_reducible refine' DL.Y.isO_ (isO_exc ?c) ?_); (case' c => (decide +kernel; done)))
  | ((with_reducible refine' DL.Y.isO_ ?e ?_); (case' e => (rfl; done)))
  | ((with_reducible refine' DL.Y.isW1 ?e ?_); (case' e => (first | assumption | (rfl; done))))
  | with_reducible refine' DL.Y.xf ?_
  | ((with_reducible refine' DL.Y.xf_ ?c ?e ?_); (case' c => (decide +kernel; done)); (case' e => (first | assumption | (rfl; done))))
  | with_reducible refine' DL.Y.mk ?_
  | with_reducible refine' DL.Y.dctM ?_
  | with_reducible refine' DL.Y.dct0 ?_
  | with_reducible refine' DL.Y.lstM ?_
  | with_reducible refine' DL.Y.rev ?_
  | with_reducible refine' DL.Y.revL ?_
  | with_reducible refine' DL.Y.dget ?_
  | with_reducible refine' DL.Y.dput ?_
  | with_reducible refine' DL.Y.app ?_
  | with_reducible refine' DL.Y.gc ?_
  | with_reducible refine' DL.Y.boolB ?_
  | with_reducible refine' DL.Y.disp ?_
  | with_reducible refine' DL.Y.valsC ?_
  | with_reducible refine' DL.Y.valsN ?_
  | with_reducible refine' DL.Y.ownEq ?_
  | with_reducible refine' DL.Y.cmp2 ?_
  | with_reducible refine' DL.Y.star ?_
  | with_reducible refine' DL.Y.meth ?_
  | with_reducible refine' DL.Y.index ?_
  | ((with_reducible refine' DL.Y.fld_ ?f ?e ?_); (case' f => ((first | rfl | assumption | decide +kernel); done)); (case' e => (rfl; done)))
  | with_reducible refine' DL.Y.chLe ?_
  | with_reducible refine' DL.Y.chLt ?_
  | with_reducible refine' DL.Y.setF ?_
  | with_reducible refine' DL.Y.lenSet ?_
  | with_reducible refine' DL.Y.inL ?_
  | with_reducible refine' DL.Y.inD ?_
  | with_reducible refine' DL.Y.inD_ ?_
  | with_reducible refine' DL.Y.ixD ?_
  | ((with_reducible refine' DL.Y.mulS ?h ?_); (case' h => (exact ⟨by omega, by omega, by decide⟩)))
  | ((with_reducible refine' DL.Y.mulL ?h ?_); (case' h => (exact ⟨by simp only [List.length_cons, List.length_nil]; omega, by omega, by omega⟩)))
  | walk_at "xu"
  | walk_at "norm")
local macro_rules | `(tactic| walk_at "norm") => `(tactic| (dsimp only [List.set]))
local macro_rules | `(tactic| walk_at "x") => `(tactic| first | walk_at "x0" | with_reducible refine' DL.Y.ifE ?_)
local macro_rules | `(tactic| walk_at "xs") => `(tactic| repeat walk_at "x0")
local macro_rules | `(tactic| walk_at "xx") => `(tactic| repeat walk_at "x")
local macro_rules | `(tactic| walk_at "start") => `(tactic| dsimp only [List.map, List.length_cons, List.length_nil, List.cons_append, List.nil_append, Nat.zero_add, Nat.reduceAdd, Nat.reduceSub, List.reduceReplicate])
namespace DL
open PySem PySem.Spec PyProof.Rows L2 Evl Sup
variable [TabC]
end DL
namespace DL
open PySem PySem.Spec PyProof.Rows L2 Evl Sup
variable [TabC]
end DL
namespace DL
open PySem PySem.Spec PyProof.Rows L2 Evl Sup
variable [TabC]
end DL
namespace DL
open PySem PySem.Spec PyProof.Rows L2 Evl Sup
variable [TabC]
end DL
namespace DL
open PySem PySem.Spec PyProof.Rows L2 Evl Sup
variable [TabC]
end DL
namespace MZ
open PySem PySem.Spec PyProof.Rows L2
open PySem.Sem (wp)
section
variable {prog : Program} {w : World} {A : Around} {E : Value → Shared → Prop} {s : Shared}
end
def iZipT (K : PySem.W.Frag) (ta : TA) : TI := fun σ H R => ta σ H fun vs H1 => ∃ a b xs ys, vs = [.ref a, .ref b] ∧ SqT K H1 a xs ∧ SqL K H1 b ys ∧ R (ItM K true false a b) H1
end MZ
namespace DL
open PySem PySem.Spec PyProof.Rows L2 Evl Sup
variable [TabC]
end DL
namespace MZ
open PySem PySem.Spec PyProof.Rows L2
open PySem.Sem (wp)
section
variable {prog : Program} {w : World} {A : Around} {E : Value → Shared → Prop} {s : Shared}
end
def iZipR (K : PySem.W.Frag) (ta : TA) : TI := fun σ H R => ta σ H fun vs H1 => ∃ (r : Bool) (a b : Addr) (xs ys : List V), vs = [.ref a, .ref b] ∧ SqT K H1 a xs ∧ SqK K r H1 b ys ∧ R (ItM K true r a b) H1
end MZ
namespace DL
open PySem PySem.Spec PyProof.Rows L2 Evl Sup
variable [TabC]
def dIZipR (dA : DA) : DI := fun ρ G S => dA ρ G fun vs G1 => ∃ xs y ys, vs = [.tup xs, y] ∧ (y = .tup ys ∨ y = .lst ys) ∧ S (zipD xs ys) G1
namespace Y
theorem iZipR {ρ : En} {G : Gm} {dA : DA} {S : List D → Gm → Prop} (h : dA ρ G fun vs G1 => ∃ xs y ys, vs = [.tup xs, y] ∧ (y = .tup ys ∨ y = .lst ys) ∧ S (zipD xs ys) G1) : dIZipR dA ρ G S := h
theorem iZipM {ρ : En} {G : Gm} {dA : DA} {S : List D → Gm → Prop} (h : dA ρ G fun vs G1 => ∃ xs ys, vs = [.lst xs, .tup ys] ∧ S (zipD xs ys) G1) : dIZipM dA ρ G S := h
end Y
end DL
end
section
open PySem PySem.Spec PyProof.Rows L2 Evl DL
local macro_rules | `(tactic| walk_at "side") => `(tactic| first | exact mul_left (by decide) | exact mul_right (by decide) | exact mul_bd | exact div_bd (by first | assumption | decide | omega) | exact pow_bd (by first | decide | omega) (by first | decide | omega) | assumption | (show (0 : Int) < _; first | decide | omega))
local macro_rules | `(tactic| walk_at "eva") => `(tactic| first | exact DL.EvA.nil | (refine' DL.EvA.cons ?e ?r; (case' e => walk_at "ev"); (case' r => walk_at "eva")))
local macro_rules | `(tactic| walk_at "seq") => `(tactic| first | exact seq_tup | exact seq_lst | exact seq_ref (by assumption))
local macro_rules | `(tactic| walk_at "size") => `(tactic| first | (show _ ≤ sizeLine; simp only [List.length_cons, List.length_nil]; decide) | (rw [sizeLine_eq]; omega))
local macro_rules | `(tactic| walk_at "ev") => `(tactic| first
  | exact DL.Ev.c
  | exact DL.Ev.var rfl
  | (refine' DL.Ev.int ?a ?b; (case' a => walk_at "ev"); (case' b => walk_at "ev"))
  | (refine' DL.Ev.intC ?a ?b ?s; (case' a => walk_at "ev"); (case' b => walk_at "ev"); (case' s => try walk_at "side"))
  | (refine' DL.Ev.add ?a ?b; (case' a => walk_at "ev"); (case' b => walk_at "ev"))
  | (refine' DL.Ev.neg ?a; (case' a => walk_at "ev"))
  | (refine' DL.Ev.intOf ?a; (case' a => walk_at "ev"))
  | (refine' DL.Ev.intB ?a; (case' a => walk_at "ev"))
  | (refine' DL.Ev.absN ?a; (case' a => walk_at "ev"))
  | (refine' DL.Ev.eqI ?a ?b; (case' a => walk_at "ev"); (case' b => walk_at "ev"))
  | (refine' DL.Ev.neI ?a ?b; (case' a => walk_at "ev"); (case' b => walk_at "ev"))
  | (refine' DL.Ev.at ?a ?b ?s ?k; (case' a => walk_at "ev"); (case' b => walk_at "ev"); (case' s => walk_at "seq"); (case' k => try rfl))
  | (refine' DL.Ev.len ?a ?s; (case' a => walk_at "ev"); (case' s => walk_at "seq"))
  | (refine' DL.Ev.tupOf ?a ?s; (case' a => walk_at "ev"); (case' s => walk_at "seq"))
  | (refine' DL.Ev.tup ?a ?z; (case' a => walk_at "eva"); (case' z => try walk_at "size"))
  | (refine' DL.Ev.lst ?a ?z; (case' a => walk_at "eva"); (case' z => try walk_at "size"))
  | (refine' DL.Ev.notV ?a; (case' a => walk_at "ev"))
  | (refine' DL.Ev.isN ?a; (case' a => walk_at "ev"))
  | exact fun R r => r
  | assumption)
local macro_rules | `(tactic| walk_at "set") => `(tactic| (refine' ds_set ?e ?_; (case' e => walk_at "ev")))
local macro_rules | `(tactic| walk_at "ret") => `(tactic| (refine' ds_ret ?e ?_; (case' e => walk_at "ev")))
local macro_rules | `(tactic| walk_at "par") => `(tactic| (refine' ds_par ?e ?f ?_; (case' e => walk_at "ev"); (case' f => walk_at "ev")))
local macro_rules | `(tactic| walk_at "cut") => `(tactic| (simp only [DL.cutD, HT.sIx, List.length_cons, List.length_nil, Nat.zero_add, Nat.reduceAdd, Nat.min_def, Nat.reduceLeDiff, ↓reduceIte, List.drop_zero, List.drop_succ_cons, List.take_zero, List.take_succ_cons, List.take_nil, List.drop_nil, List.cons_append, List.nil_append, Int.reduceLT, Int.reduceToNat, Nat.reduceSub, Nat.sub_zero, Int.reduceNeg, Int.cast_ofNat_Int, Int.reduceAdd]; exact rfl))
local macro_rules | `(tactic| walk_at "xu") => `(tactic| first
  | with_reducible refine' DL.Y.ixS0 ?_
  | with_reducible refine' DL.Y.ixS1 ?_
  | with_reducible refine' DL.Y.ixS2 ?_
  | with_reducible refine' DL.Y.ixP0 ?_
  | with_reducible refine' DL.Y.ixP1 ?_
  | with_reducible refine' DL.Y.lstS ?_
  | with_reducible refine' DL.Y.lstP ?_)
local macro_rules | `(tactic| walk_at "dec") => `(tactic| first | rfl | assumption | exact decide_eq_true (by omega) | exact decide_eq_false (by omega) | exact DL.Y.ndT (by omega) | exact DL.Y.ndF (by omega) | decide +kernel)
local macro_rules | `(tactic| walk_at "size2") => `(tactic| first | exact Nat.le_of_ble_eq_true rfl | omega)
local macro_rules | `(tactic| walk_at "x0") => `(tactic| first
  | with_reducible refine' DL.Y.cons ?_
  | ((with_reducible refine' DL.Y.var ?e ?_); (case' e => (first | exact rfl | assumption)))
  | with_reducible refine' DL.Y.c ?_
  | with_reducible refine' DL.Y.nil ?_
  | with_reducible refine' DL.Y.op ?_
  | with_reducible refine' DL.Y.oint ?_
  | ((with_reducible refine' DL.Y.ointC ?s ?_); (case' s => try walk_at "side"))
  | with_reducible refine' DL.Y.oadd ?_
  | with_reducible refine' DL.Y.oeqI ?_
  | with_reducible refine' DL.Y.oneI ?_
  | with_reducible refine' DL.Y.oeqS ?_
  | with_reducible refine' DL.Y.neS ?_
  | with_reducible refine' DL.Y.oneS ?_
  | with_reducible refine' DL.Y.oeqB ?_
  | with_reducible refine' DL.Y.tst ?_
  | with_reducible refine' DL.Y.bl_ ?_
  | ((with_reducible refine' DL.Y.iRng1_ ?z ?_); (case' z => (omega; done)))
  | with_reducible refine' DL.Y.int_ ?_
  | with_reducible refine' DL.Y.str_ ?_
  | with_reducible refine' DL.Y.ref_ ?_
  | ((with_reducible refine' DL.Y.iteT ?h ?_); (case' h => (walk_at "dec"; done)))
  | ((with_reducible refine' DL.Y.iteF ?h ?_); (case' h => (walk_at "dec"; done)))
  | with_reducible refine' DL.Y.seq ?_
  | with_reducible refine' DL.Y.set ?_
  | with_reducible refine' DL.Y.ifS ?_
  | with_reducible refine' DL.Y.ret ?_
  | with_reducible refine' DL.Y.nx ?_
  | with_reducible refine' DL.Y.drop ?_
  | with_reducible refine' DL.Y.asg ?_
  | with_reducible refine' DL.Y.par ?_
  | with_reducible refine' DL.Y.par_ ?_
  | with_reducible refine' DL.Y.par3 ?_
  | with_reducible refine' DL.Y.par3_ ?_
  | with_reducible refine' DL.Y.bk ?_
  | with_reducible refine' DL.Y.ct ?_
  | with_reducible refine' DL.Y.retN ?_
  | with_reducible refine' DL.Y.gn ?_
  | with_reducible refine' DL.Y.gnil ?_
  | with_reducible refine' DL.Y.gcons ?_
  | ((with_reducible refine' DL.Y.gseqT ?e ?_); (case' e => (rfl; done)))
  | ((with_reducible refine' DL.Y.gseqL ?e ?_); (case' e => (rfl; done)))
  | with_reducible refine' DL.Y.tup ?_
  | with_reducible refine' DL.Y.lst ?_
  | ((with_reducible refine' DL.Y.len_ ?n ?l ?_); (case' n => exact rfl); (case' l => try walk_at "size2"))
  | with_reducible refine' DL.Y.ix ?_
  | ((with_reducible refine' DL.Y.ixT ?e ?_); (case' e => ((first | rfl | assumption); done)))
  | ((with_reducible refine' DL.Y.ixL ?e ?_); (case' e => (rfl; done)))
  | ((with_reducible refine' DL.Y.ixR ?g ?e ?_); (case' g => with_reducible assumption); (case' e => (rfl; done)))
  | with_reducible refine' DL.Y.cal ?_
  | with_reducible refine' DL.Y.lenT ?_
  | with_reducible refine' DL.Y.lenL ?_
  | ((with_reducible refine' DL.Y.lenR ?g ?_); (case' g => with_reducible assumption))
  | with_reducible refine' DL.Y.absI ?_
  | with_reducible refine' DL.Y.intI ?_
  | with_reducible refine' DL.Y.intB ?_
  | with_reducible refine' DL.Y.tupT ?_
  | with_reducible refine' DL.Y.tupL ?_
  | ((with_reducible refine' DL.Y.tupR ?g ?_); (case' g => with_reducible assumption))
  | with_reducible refine' DL.Y.lstT ?_
  | with_reducible refine' DL.Y.lstL ?_
  | with_reducible refine' DL.Y.allL ?_
  | with_reducible refine' DL.Y.anyL ?_
  | ((with_reducible refine' DL.Y.oaddL ?z ?_); (case' z => try walk_at "size2"))
  | ((with_reducible refine' DL.Y.oaddT ?z ?_); (case' z => try walk_at "size2"))
  | with_reducible refine' DL.Y.oisB ?_
  | with_reducible refine' DL.Y.onotB ?_
  | with_reducible refine' DL.Y.neg ?_
  | with_reducible refine' DL.Y.notT ?_
  | with_reducible refine' DL.Y.andT ?_
  | with_reducible refine' DL.Y.orT ?_
  | with_reducible refine' DL.Y.yes ?_
  | with_reducible refine' DL.Y.ifT ?_
  | with_reducible refine' DL.Y.andV ?_
  | with_reducible refine' DL.Y.orV ?_
  | with_reducible refine' DL.Y.notV ?_
  | with_reducible refine' DL.Y.isN ?_
  | with_reducible refine' DL.Y.notN ?_
  | ((with_reducible refine' DL.Y.isi_ ?e ?_); (case' e => (rfl; done)))
  | with_reducible refine' DL.Y.isiT ?_
  | with_reducible refine' DL.Y.chain ?_
  | with_reducible refine' DL.Y.sl ?_
  | with_reducible refine' DL.Y.noP ?_
  | with_reducible refine' DL.Y.part ?_
  | ((with_reducible refine' DL.Y.slLl ?n ?e ?_); (case' n => (rfl; done)); (case' e => walk_at "cut"))
  | ((with_reducible refine' DL.Y.slTl ?n ?m ?e ?_); (case' n => (rfl; done)); (case' m => (simp [HT.sIx]; done)); (case' e => walk_at "cut"))
  | with_reducible refine' DL.Y.slL ?_
  | with_reducible refine' DL.Y.call ?_
  | with_reducible refine' DL.Y.callK ?_
  | with_reducible refine' DL.Y.callD ?_
  | with_reducible refine' DL.Y.fld ?_
  | ((with_reducible refine' DL.Y.fld_ ?f ?e ?_); (case' f => (first | rfl | assumption); done); (case' e => (rfl; done)))
  | with_reducible refine' DL.Y.isW_ ?_
  | with_reducible refine' DL.Y.inK ?_
  | with_reducible refine' DL.Y.iSeq ?_
  | with_reducible refine' DL.Y.iSeqL ?_
  | with_reducible refine' DL.Y.iSeqT ?_
  | with_reducible refine' DL.Y.iRng1 ?_
  | with_reducible refine' DL.Y.iZip ?_
  | with_reducible refine' DL.Y.iZipT ?_
  | with_reducible refine' DL.Y.iZipL ?_
  | with_reducible refine' DL.Y.iZipR ?_
  | with_reducible refine' DL.Y.iZipM ?_
  | with_reducible refine' DL.Y.iEnum ?_
  | with_reducible refine' DL.Y.iEnumT ?_
  | with_reducible refine' DL.Y.iEnumL ?_
  | with_reducible refine' DL.Y.for_ ?_
  | with_reducible refine' DL.Y.cmp ?_
  | with_reducible refine' DL.Y.isO ?_
  | ((with_reducible refine' DL.Y.isO_ (isO_exc ?c) ?_); (case' c => (decide +kernel; done)))
  | ((with_reducible refine' DL.Y.isO_ ?e ?_); (case' e => (rfl; done)))
  | ((with_reducible refine' DL.Y.isW1 ?e ?_); (case' e => (first | assumption | (rfl; done))))
  | with_reducible refine' DL.Y.xf ?_
  | ((with_reducible refine' DL.Y.xf_ ?c ?e ?_); (case' c => (decide +kernel; done)); (case' e => (first | assumption | (rfl; done))))
  | with_reducible refine' DL.Y.mk ?_
  | with_reducible refine' DL.Y.dctM ?_
  | with_reducible refine' DL.Y.dct0 ?_
  | with_reducible refine' DL.Y.lstM ?_
  | with_reducible refine' DL.Y.rev ?_
  | with_reducible refine' DL.Y.revL ?_
  | with_reducible refine' DL.Y.dget ?_
  | with_reducible refine' DL.Y.dput ?_
  | with_reducible refine' DL.Y.app ?_
  | with_reducible refine' DL.Y.gc ?_
  | with_reducible refine' DL.Y.boolB ?_
  | with_reducible refine' DL.Y.disp ?_
  | with_reducible refine' DL.Y.valsC ?_
  | with_reducible refine' DL.Y.valsN ?_
  | with_reducible refine' DL.Y.ownEq ?_
  | with_reducible refine' DL.Y.cmp2 ?_
  | with_reducible refine' DL.Y.star ?_
  | with_reducible refine' DL.Y.meth ?_
  | with_reducible refine' DL.Y.index ?_
  | ((with_reducible refine' DL.Y.fld_ ?f ?e ?_); (case' f => ((first | rfl | assumption | decide +kernel); done)); (case' e => (rfl; done)))
  | with_reducible refine' DL.Y.chLe ?_
  | with_reducible refine' DL.Y.chLt ?_
  | with_reducible refine' DL.Y.setF ?_
  | with_reducible refine' DL.Y.lenSet ?_
  | with_reducible refine' DL.Y.inL ?_
  | with_reducible refine' DL.Y.inD ?_
  | with_reducible refine' DL.Y.inD_ ?_
  | with_reducible refine' DL.Y.ixD ?_
  | ((with_reducible refine' DL.Y.mulS ?h ?_); (case' h => (exact ⟨by omega, by omega, by decide⟩)))
  | ((with_reducible refine' DL.Y.mulL ?h ?_); (case' h => (exact ⟨by simp only [List.length_cons, List.length_nil]; omega, by omega, by omega⟩)))
  | walk_at "xu"
  | walk_at "norm")
local macro_rules | `(tactic| walk_at "norm") => `(tactic| (dsimp only [List.set]))
local macro_rules | `(tactic| walk_at "x") => `(tactic| first | walk_at "x0" | with_reducible refine' DL.Y.ifE ?_)
local macro_rules | `(tactic| walk_at "xs") => `(tactic| repeat walk_at "x0")
local macro_rules | `(tactic| walk_at "xx") => `(tactic| repeat walk_at "x")
local macro_rules | `(tactic| walk_at "start") => `(tactic| dsimp only [List.map, List.length_cons, List.length_nil, List.cons_append, List.nil_append, Nat.zero_add, Nat.reduceAdd, Nat.reduceSub, List.reduceReplicate])
namespace DL
open PySem PySem.Spec PyProof.Rows L2 Evl Sup
variable [TabC]
end DL
namespace DL
open PySem PySem.Spec PyProof.Rows L2 Evl Sup
variable [TabC]
end DL
namespace DL
open PySem PySem.Spec PyProof.Rows L2 Evl Sup
variable [TabC]
end DL
namespace DL
open PySem PySem.Spec PyProof.Rows L2 Evl Sup
variable [TabC]
end DL
namespace DL
open PySem PySem.Spec PyProof.Rows L2 Evl Sup
variable [TabC]
theorem at_some {α : Type} {f : α → D} {l : List α} {i : Nat} {a : α} (h : l[i]? = some a) : atI (l.map f) (i : Int) = some (f a) := by
  have jl : i < l.length := (List.getElem?_eq_some_iff.mp h).1
  have e : ixN l.length (i : Int) = some i := by
    unfold ixN
    simp [jl]
  simp [atI, e, h]
end DL
namespace DL
open PySem PySem.Spec PyProof.Rows L2 Evl Sup
variable [TabC]
end DL
namespace DL
open PySem PySem.Spec PyProof.Rows L2 Evl Sup
variable [TabC]
end DL
namespace DL
open PySem PySem.Spec PyProof.Rows L2 Evl Sup
variable [TabC]
end DL
namespace DL
open PySem PySem.Spec PyProof.Rows L2 Evl Sup
variable [TabC]
theorem numD_ofQ (q : Qr) : numD (ofQ q) = true := by
  unfold ofQ pairZ
  split
  · rfl
  · have hd := q.den_pos
    have hc := q.reduced
    have g : Int.gcd q.num (q.den : Int) = 1 := hc
    show ratD (some (q.num, (q.den : Int))) = true
    simp only [ratD, g]
    simp
    omega
end DL
namespace DL
open PySem PySem.Spec PyProof.Rows L2 Evl Sup
variable [TabC]
end DL
namespace DL
open PySem PySem.Spec PyProof.Rows L2 Evl Sup
variable [TabC]
end DL
namespace DL
open PySem PySem.Spec PyProof.Rows L2 Evl Sup
variable [TabC]
end DL
namespace DL
open PySem PySem.Spec PyProof.Rows L2 Evl Sup
variable [TabC]
theorem forL_D {g : DG} {s : DS} {E : DEnds} {α : Type} (e : α → D) (l : List α) (I : List α → En → Gm → Prop) {xs : List D} {ρ : En} {G : Gm} (hx : xs = l.map e)
    (turn : ∀ d x r, l = d ++ x :: r → ∀ (N : En → Gm → Prop) (ρ : En) (G : Gm), (∀ ρ G, I (d ++ [x]) ρ G → N ρ G) → I d ρ G → g (e x) ρ G fun ρ1 G1 => s { E with nx := N, ct := N, bk := E.nx } ρ1 G1)
    (fin : ∀ ρ G, I l ρ G → E.nx ρ G) (h0 : I [] ρ G) : forL g s E xs ρ G := by
  subst hx
  have go : ∀ r d ρ G, l = d ++ r → I d ρ G → forL g s E (r.map e) ρ G := by
    intro r
    induction r with
    | nil =>
      intro d ρ G hl h
      rw [List.append_nil] at hl
      subst hl
      exact fin ρ G h
    | cons x r ih =>
      intro d ρ G hl h
      exact turn d x r hl (forL g s E (r.map e)) ρ G (fun ρ G h => ih (d ++ [x]) ρ G (by rw [hl, List.append_assoc]; rfl) h) h
  exact go l [] ρ G rfl h0
end DL
namespace DL
open PySem PySem.Spec PyProof.Rows L2 Evl Sup
variable [TabC]
end DL
namespace DL
open PySem PySem.Spec PyProof.Rows L2 Evl Sup
variable [TabC]
theorem map_inj {α β : Type} {f : α → β} (hf : ∀ x y, f x = f y → x = y) : ∀ {xs ys : List α}, xs.map f = ys.map f → xs = ys
  | [], [], _ => rfl
  | [], _ :: _, h => by cases h
  | _ :: _, [], h => by cases h
  | x :: xs, y :: ys, h => by
    rw [List.map_cons, List.map_cons] at h
    injection h with h1 h2
    rw [hf x y h1, map_inj hf h2]
theorem row_inj {p q : List Qr} (h : rowD p = rowD q) : p = q := by
  unfold rowD at h
  injection h with h
  exact map_inj (fun _ _ => ofQ_inj) h
theorem int_inj (x y : Int) (h : D.int x = D.int y) : x = y := by injection h
theorem pc_inj {p q : Pc} (h : p.d = q.d) : p = q := by
  unfold Pc.d at h
  injection h with h
  injection h with h1 h2
  injection h2 with h2 h3
  injection h3 with h3 _
  injection h1 with h1
  injection h2 with h2
  obtain ⟨a, b, c⟩ := p
  obtain ⟨a', b', c'⟩ := q
  have e1 : a = a' := map_inj int_inj h1
  have e2 : b = b' := map_inj (fun _ _ => row_inj) h2
  have e3 : c = c' := row_inj h3
  rw [e1, e2, e3]
theorem nd_pcs {ps : List Pc} (h : ps.Nodup) : (ps.map Pc.d).Nodup := List.pairwise_map.mpr (h.imp fun hne e => hne (pc_inj e))
end DL
namespace DL
open PySem PySem.Spec PyProof.Rows L2 Evl Sup
variable [TabC]
theorem int_q (i j : Int) : ((i : Int) : Qr) ≤ ((j : Int) : Qr) ↔ i ≤ j := Rat.intCast_le_intCast
end DL
namespace DL
open PySem PySem.Spec PyProof.Rows L2 Evl Sup
variable [TabC]
end DL
namespace DL
open PySem PySem.Spec PyProof.Rows L2 Evl Sup
variable [TabC]
end DL
end
namespace BackT
open PySem PySem.Spec PyProof.Rows L2
def bAt (n : Nat) (lo hi : Option Int) : Int × Int := Builtin.Slice.sliceAdjust lo hi (-1) (n : Int)
def backL {α : Type} (xs : List α) (lo hi : Option Int) : List α := (List.range (Builtin.Slice.slicePlaces (bAt xs.length lo hi).1 (bAt xs.length lo hi).2 (-1))).filterMap fun (m : Nat) => xs[((bAt xs.length lo hi).1 + (m : Int) * (-1)).toNat]?
section
variable {prog : Program} {w : World} {A : Around} {E : Value → Shared → Prop} {s : Shared}
theorem sliceApplied_back {sl : Addr} {vl vu vs : Value} {lo hi : Option Int} {n : Nat} {Q : Int × Int × Nat → Shared → Prop} (hs : s.heap.IsSliceOf sl vl vu vs) (pl : IsPart vl lo) (pu : IsPart vu hi) (ps : IsPart vs (some (-1)))
    (h : Q ((bAt n lo hi).1, -1, Builtin.Slice.slicePlaces (bAt n lo hi).1 (bAt n lo hi).2 (-1)) s) : wpAny (model prog w) A (Builtin.Slice.sliceApplied (.ref sl) (pure (n : Int))) Q E s := by
  obtain ⟨os, hos, hcs, hds⟩ := id hs
  unfold Builtin.Slice.sliceApplied Builtin.Slice.sliceFields
  refine wpAny_bind (wpAny_bind (wpAny_field hos hds (x := vl) rfl (wpAny_bind (wpAny_field hos hds (x := vu) rfl (wpAny_bind (wpAny_field hos hds (x := vs) rfl (wpAny_pure ?_)))))))
  refine wpAny_bind (HT.slicePart_ ps ?_)
  show wpAny _ _ (if ((-1 : Int) == 0) = true then _ else _) _ _ s
  rw [if_neg (by decide)]
  refine wpAny_bind (HT.slicePart_ pl (wpAny_bind (HT.slicePart_ pu (wpAny_bind (wpAny_pure ?_)))))
  exact wpAny_pure h
theorem back_size (xs : Array Value) (lo hi : Option Int) (k : Nat) : ((List.range k).filterMap fun (m : Nat) => xs[((bAt xs.size lo hi).1 + (m : Int) * (-1)).toNat]?) = (List.range k).filterMap fun (m : Nat) => xs.toList[((bAt xs.size lo hi).1 + (m : Int) * (-1)).toNat]? := by
  congr 1
  funext m
  rw [Array.getElem?_toList]
theorem getItem_tuple_back {t sl : Addr} {items : Array Value} {vl vu vs : Value} {lo hi : Option Int} {Q : Value → Shared → Prop} (ht : IsTup s.heap t items) (hs : s.heap.IsSliceOf sl vl vu vs) (pl : IsPart vl lo) (pu : IsPart vu hi) (ps : IsPart vs (some (-1)))
    (hk : (backL items.toList lo hi).length ≤ sizeLine)
    (h : Q (.ref s.heap.objs.size) { s with heap := s.heap.push { cls := .type "tuple", data := .seq (backL items.toList lo hi).toArray } }) : wpAny (model prog w) A (getItem (.ref t) (.ref sl)) Q E s := by
  have htake : sizeOk (.seq (backL items.toList lo hi).toArray) := by
    show (backL items.toList lo hi).toArray.size ≤ sizeLine
    rw [List.size_toArray]
    exact hk
  obtain ⟨os, hos, hcs, hds⟩ := id hs
  have hTs : s.TypeIs (.ref sl) "slice" := ⟨os, hos, hcs⟩
  unfold getItem
  try with_reducible refine wpAny_holding ?_
  first | refine wpAny_bind (wpAny_pure ?_) | skip
  refine wpAny_bind (wpAny_sequenceKey ht.typeIs (by decide) ?_)
  refine wpAny_bind (wpAny_callSpecial?_slot (name := Str.ofString "__getitem__") ht.typeIs PyProof.Rows.slot_tuple_getitem
    (wpAny_call_entry PyProof.Rows.slot_tuple_getitem ht.typeIs entry_tuple_getitem ?_ (args_tuple_getitem _ _)))
  show wpAny _ _ (Builtin.Tuple.tupleItemsOf (.ref t) >>= _) _ _ s
  refine wpAny_bind (tupleItemsOf_ ht ?_)
  refine wpAny_bind (wpAny_typeOf hTs ?_)
  rw [if_pos (by decide)]
  refine wpAny_bind (sliceApplied_back hs pl pu ps ?_)
  have hno : ¬ ((((bAt items.size lo hi).1 == 0) && ((-1 : Int) == 1) && (Builtin.Slice.slicePlaces (bAt items.size lo hi).1 (bAt items.size lo hi).2 (-1) == items.size)) = true) := by
    rw [show ((-1 : Int) == 1) = false from rfl, Bool.and_false, Bool.false_and]
    decide
  show wpAny _ _ (if ((((bAt items.size lo hi).1 == 0) && ((-1 : Int) == 1) && (Builtin.Slice.slicePlaces (bAt items.size lo hi).1 (bAt items.size lo hi).2 (-1) == items.size)) = true) then _ else _) _ _ s
  rw [if_neg hno, back_size]
  have e : (List.range (Builtin.Slice.slicePlaces (bAt items.size lo hi).1 (bAt items.size lo hi).2 (-1))).filterMap (fun (m : Nat) => items.toList[((bAt items.size lo hi).1 + (m : Int) * (-1)).toNat]?) = backL items.toList lo hi := by
    unfold backL
    rw [Array.length_toList]
  rw [e]
  first
    | exact wpAny_bind (m := Builtin.Tuple.tupleExact _) (wpAny_newObj_type (wpAny_pure ⟨_, rfl, wpAny_pure h⟩) htake)
    | exact wpAny_bind (m := Builtin.Tuple.tupleExact _) (wpAny_newObj_type (wpAny_bind (wpAny_pure (wpAny_pure ⟨_, rfl, wpAny_pure h⟩))) htake)
    | exact wpAny_bind (wpAny_bind (m := Builtin.Tuple.tupleExact _) (wpAny_newObj_type (wpAny_pure (wpAny_pure ⟨_, rfl, wpAny_pure h⟩)) htake))
    | exact wpAny_bind (wpAny_bind (m := Builtin.Tuple.tupleExact _) (wpAny_newObj_type (wpAny_pure ⟨_, rfl, wpAny_pure h⟩) htake))
end
theorem vals_back {xs : List V} {us : List Value} (r : Vals xs us) (ks : List Nat) : Vals (ks.filterMap fun k => xs[k]?) (ks.filterMap fun k => us[k]?) := by
  have at_ : ∀ {xs : List V} {us : List Value}, Vals xs us → ∀ k : Nat, (xs[k]? = none ∧ us[k]? = none) ∨ ∃ x u, xs[k]? = some x ∧ us[k]? = some u ∧ RelV x u := fun {xs us} r => by
    induction r with
    | nil => exact fun k => .inl ⟨rfl, rfl⟩
    | cons a _ ih => exact fun k => match k with
      | 0 => .inr ⟨_, _, rfl, rfl, a⟩
      | k + 1 => ih k
  induction ks with
  | nil => exact .nil
  | cons k ks ih =>
    rcases at_ r k with ⟨e1, e2⟩ | ⟨x, u, e1, e2, ru⟩
    · rw [List.filterMap_cons_none e1, List.filterMap_cons_none e2]
      exact ih
    · rw [List.filterMap_cons_some e1, List.filterMap_cons_some e2]
      exact .cons ru ih
theorem backL_map {α : Type} (xs : List α) (lo hi : Option Int) : backL xs lo hi = ((List.range (Builtin.Slice.slicePlaces (bAt xs.length lo hi).1 (bAt xs.length lo hi).2 (-1))).map fun m : Nat => ((bAt xs.length lo hi).1 + (m : Int) * (-1)).toNat).filterMap fun k => xs[k]? := by
  unfold backL
  rw [List.filterMap_map]
  rfl
theorem back_len {α : Type} (xs : List α) (lo hi : Option Int) : (backL xs lo hi).length ≤ xs.length := by
  refine Nat.le_trans (List.length_filterMap_le _ _) ?_
  rw [List.length_range]
  have h1 : ∀ (v : Int), (if v < 0 then max (v + (xs.length : Int)) (-1) else min v ((xs.length : Int) - 1)) ≤ (xs.length : Int) - 1 ∧ -1 ≤ (if v < 0 then max (v + (xs.length : Int)) (-1) else min v ((xs.length : Int) - 1)) := fun v => by
    split <;> omega
  unfold Builtin.Slice.slicePlaces bAt Builtin.Slice.sliceAdjust
  have e1 : ¬ ((-1 : Int) > 0) := by decide
  have e2 : ((-1 : Int) < 0) := by decide
  simp only [e1, e2, if_false, if_true, show (- -1 : Int) = 1 by decide, Int.ediv_one]
  cases lo with
  | none =>
    cases hi with
    | none => dsimp only; split <;> omega
    | some v => have := h1 v; dsimp only; split <;> omega
  | some u =>
    have h2 := h1 u
    cases hi with
    | none => dsimp only; split <;> omega
    | some v => have := h1 v; dsimp only; split <;> omega
theorem fm_congr {α β : Type} {f g : α → Option β} : ∀ {l : List α}, (∀ x ∈ l, f x = g x) → l.filterMap f = l.filterMap g
  | [], _ => rfl
  | x :: l, h => by
    rw [List.filterMap_cons, List.filterMap_cons, h x List.mem_cons_self, fm_congr fun y hy => h y (List.mem_cons_of_mem _ hy)]
theorem back_2 {α : Type} (xs : List α) : backL xs (some (-2)) none = xs.dropLast.reverse := by
  have key : ∀ l : List α, (List.range l.length).filterMap (fun m => l[l.length - 1 - m]?) = l.reverse := fun l => by
    apply List.ext_getElem?
    intro i
    have e : (List.range l.length).filterMap (fun m => l[l.length - 1 - m]?) = l.reverse := by
      have h := PySem.W.krv_all l.toArray
      have e2 : l.reverse = ((List.range l.length).reverse).filterMap (fun k => l[k]?) := by
        rw [List.filterMap_reverse]
        congr 1
        have h3 : (List.range l.toArray.size).filterMap (l.toArray[·]?) = l := h
        simpa using h3.symm
      rw [e2, ← PySem.W.krv_range, List.filterMap_map]
      rfl
    rw [e]
  unfold backL bAt Builtin.Slice.slicePlaces Builtin.Slice.sliceAdjust
  have e1 : ¬ ((-1 : Int) > 0) := by decide
  have e2 : ((-1 : Int) < 0) := by decide
  have e3 : ((-2 : Int) < 0) := by decide
  simp only [e1, e2, e3, if_false, if_true, show (- -1 : Int) = 1 by decide, Int.ediv_one]
  rcases List.eq_nil_or_concat xs with rfl | ⟨l, a, rfl⟩
  · rfl
  · rw [List.concat_eq_append, List.dropLast_concat, List.length_append, List.length_singleton]
    rw [← key l]
    have hn : (if max (-2 + ((l.length + 1 : Nat) : Int)) (-1) > -1 then max (-2 + ((l.length + 1 : Nat) : Int)) (-1) - -1 - 1 + 1 else 0).toNat = l.length := by
      split <;> omega
    rw [hn]
    refine fm_congr fun m hm => ?_
    have hm' := List.mem_range.mp hm
    have e : (max (-2 + ((l.length + 1 : Nat) : Int)) (-1) + (m : Int) * -1).toNat = l.length - 1 - m := by omega
    rw [e, List.getElem?_append_left (by omega)]
end BackT
namespace L2
open PySem PySem.Spec PyProof.Rows
section
variable {X : Cx} {e : Expr} {te : TE} {lo hi : Option Expr} {tl th : TO} {pos p2 : Pos}
def tBackT (K : PySem.W.Frag) (te : TE) (tl th : TO) : TE := fun σ H Q => te σ H fun x H1 => tl σ H1 fun l H2 => th σ H2 fun u H3 => ∃ a xs, x = .ref a ∧ SqT K H3 a xs ∧ ∀ p, H3 p = none → Q (.ref p) (upd H3 p (.tup (BackT.backL xs l u)))
theorem pe_backT {k : Nat} {p1 p3 : Pos} (he : PE X e te) (hl : PO X lo tl) (hu : PO X hi th) : PE X (.Subscript e (.Slice lo hi (some (.UnaryOp .USub (.Constant (.int 1) k p1) p3)) p2) pos) (tBackT X.K te tl th) := by
  refine ⟨fun pins s σ H Q I h => ?_⟩
  refine Subscript_ (thn (he.run pins s σ H _ I h) fun v s1 ⟨x, H1, I1, r1, q1⟩ => ?_)
  have hst : PO X (some (.UnaryOp .USub (.Constant (.int 1) k p1) p3)) (tPart (tUn (rU fun i => .int (-i)) (tC (.int 1)))) := po_some (pe_un un_neg pe_int)
  refine wpAny_Slice (thn (hl.run pins s1 σ H1 _ I1 q1) fun vl s2 ⟨l, H2, I2, pl, q2⟩ => thn (hu.run pins s2 σ H2 _ I2 q2) fun vu s3 ⟨u, H3, I3, pu, q3⟩ => ?_)
  refine thn (hst.run pins s3 σ H3 (fun o H4 => o = some (-1) ∧ H4 = H3) I3 ⟨1, rfl, -1, rfl, rfl, rfl⟩) fun vs s4 ⟨o, H4, I4, ps, eo, e4⟩ => ?_
  subst eo e4
  obtain ⟨a, xs, rfl, hx, q⟩ := q3
  cases r1
  have I5 : Inv X pins σ H4 { s4 with heap := s4.heap.push { cls := .type "slice", data := .fields #[vl, vu, vs] } } := I4.kept (t' := s4.toks) fun b ob q => Heap.get?_push_of_some _ q
  obtain ⟨its, r, ht, hz⟩ := I5.tuple hx
  have hlen := r.length
  show wpAny (model X.prog X.w) X.A (subscriptTail e (.Slice lo hi (some (.UnaryOp .USub (.Constant (.int 1) k p1) p3)) p2) (.ref a) (.ref s4.heap.objs.size)) (EP X pins σ Q) X.xe { s4 with heap := s4.heap.push { cls := .type "slice", data := .fields #[vl, vu, vs] } }
  refine tail_any (ops := [.ref a, .ref s4.heap.objs.size]) ht.typeIs PyProof.Rows.slot_tuple_getitem.lookup ?_ (by with_unfolding_all rfl)
  have hv : Vals (BackT.backL xs l u) (BackT.backL its l u) := by
    rw [BackT.backL_map, BackT.backL_map, ← hlen]
    exact BackT.vals_back r _
  have hbl := BackT.back_len its l u
  refine BackT.getItem_tuple_back (items := its.toArray) ht (Heap.IsSliceOf.new _ vl vu vs) pl pu ps (show (BackT.backL its l u).length ≤ sizeLine by omega) ?_
  refine ⟨.ref _, _, I5.laid (t' := s4.toks) (o := .tup (BackT.backL xs l u)) (fun b ob q => Heap.get?_push_of_some _ q) (Nat.le_refl _) ?_, rfl, q _ (I5.hok.fresh (Nat.le_refl _))⟩
  exact ⟨by rw [hv.length]; omega, _, hv, IsTup.new _ _⟩
end
end L2
namespace L2
open PySem PySem.Spec PyProof.Rows
section
variable {X : Cx} {tg : Expr}
def iRngV (te : TE) : TI := fun σ H R => te σ H fun x H1 => ∃ a lo hi, x = .ref a ∧ H1 a = some (.rng lo hi) ∧ R (Itr lo (hi - lo).toNat) H1
end
end L2
namespace DL
open PySem PySem.Spec PyProof.Rows L2 Evl
variable [TabC]
theorem RpL.pick {K : PySem.W.Frag} {H : Hp} {vs : List V} {ds : List D} (r : RpL K H vs ds) (ks : List Nat) : RpL K H (ks.filterMap fun k => vs[k]?) (ks.filterMap fun k => ds[k]?) := by
  induction ks with
  | nil => exact .nil
  | cons k ks ih =>
    cases e : ds[k]? with
    | none =>
      have e1 : vs[k]? = none := by
        cases e1 : vs[k]? with
        | none => rfl
        | some v =>
          obtain ⟨d, e2, _⟩ := r.atV e1
          rw [e] at e2
          cases e2
      rw [List.filterMap_cons_none e, List.filterMap_cons_none e1]
      exact ih
    | some d =>
      obtain ⟨v, e1, rv⟩ := r.at e
      rw [List.filterMap_cons_some e, List.filterMap_cons_some e1]
      exact .cons rv ih
theorem RpL.back {K : PySem.W.Frag} {H : Hp} {vs : List V} {ds : List D} (r : RpL K H vs ds) (lo hi : Option Int) : RpL K H (BackT.backL vs lo hi) (BackT.backL ds lo hi) := by
  rw [BackT.backL_map, BackT.backL_map, r.length]
  exact r.pick _
def dBackT (da : DE) (l h : DO) : DE := fun ρ G R => da ρ G fun x G1 => l ρ G1 fun lo G2 => h ρ G2 fun hi G3 => ∃ ds, x = .tup ds ∧ R (.tup (BackT.backL ds lo hi)) G3
section
variable {X : Cx} {B : Bs} {e a b : Expr} {pos p2 p : Pos} {da db : DE} {tg : Expr}
theorem pd_backT {lo hi : Option Expr} {l h : DO} {k : Nat} {p1 p3 : Pos} (he : PE X e (upE X.K B da)) (hl : PO X lo (upO X.K B l)) (hh : PO X hi (upO X.K B h)) : PE X (.Subscript e (.Slice lo hi (some (.UnaryOp .USub (.Constant (.int 1) k p1) p3)) p2) pos) (upE X.K B (dBackT da l h)) :=
  pe_imp (pe_backT he hl hh) fun σ H Q ⟨ρ, Hd, G, R, at_, h, k⟩ =>
    ⟨ρ, Hd, G, _, at_, h, fun v H1 Hd1 x G1 e1 s1 r1 h1 => ⟨ρ, Hd1, G1, _, at_.step e1 s1, h1, fun lo H2 Hd2 G2 e2 s2 h2 => ⟨ρ, Hd2, G2, _, (at_.step e1 s1).step e2 s2, h2, fun hi H3 Hd3 G3 e3 s3 ⟨ds, ex, h3⟩ => by
      have e123 := (e1.trans e2).trans e3
      subst ex
      cases r1.mono (e2.trans e3) with
      | tup hq r3 => exact ⟨_, _, rfl, ex_t s3.sub hq, fun pp hp => k _ _ _ _ G3 (e123.trans (s3.exn hp)) (s3.new hp) (.tup st_new ((r3.back lo hi).mono (s3.exn hp))) h3⟩⟩⟩⟩
def fRng1 (_ : Gm) (xs : List D) (z : D) : Prop := ∃ j, xs = [.int j] ∧ z = .rng 0 j
def fRng2 (_ : Gm) (xs : List D) (z : D) : Prop := ∃ i j, xs = [.int i, .int j] ∧ z = .rng i j
def dIRngV (da : DE) : DI := fun ρ G S => da ρ G fun x G1 => ∃ lo hi, x = .rng lo hi ∧ S (rngD lo (hi - lo).toNat) G1
end
namespace Y
section
variable {ρ : En} {G : Gm} {da : DE} {R : KD} {l h : DO}
theorem backT {u : DO} (h : da ρ G fun x G1 => l ρ G1 fun lo G2 => u ρ G2 fun hi G3 => ∃ ds, x = .tup ds ∧ R (.tup (BackT.backL ds lo hi)) G3) : dBackT da l u ρ G R := h
theorem iRngV {S : List D → Gm → Prop} (h : da ρ G fun x G1 => ∃ lo hi, x = .rng lo hi ∧ S (rngD lo (hi - lo).toNat) G1) : dIRngV da ρ G S := h
theorem rng1_ {j : Int} {Q : D → Prop} (h : Q (.rng 0 j)) : ∃ z, fRng1 G [.int j] z ∧ Q z := ⟨_, ⟨j, rfl, rfl⟩, h⟩
theorem rng2_ {i j : Int} {Q : D → Prop} (h : Q (.rng i j)) : ∃ z, fRng2 G [.int i, .int j] z ∧ Q z := ⟨_, ⟨i, j, rfl, rfl⟩, h⟩
theorem rngV_ {lo hi : Int} {S : List D → Gm → Prop} (h : S (rngD lo (hi - lo).toNat) G) : ∃ lo' hi', D.rng lo hi = .rng lo' hi' ∧ S (rngD lo' (hi' - lo').toNat) G := ⟨lo, hi, rfl, h⟩
end
end Y
end DL
namespace DL
open PySem PySem.Spec PyProof.Rows L2 Evl Sup
variable [TabC]
theorem obsL_eq {as : List Addr} {q : Ask} {g : Addr → Option Obj} {s : Shared} (h : ∀ a, g a = s.heap.get? a) : obsL as q g = (hookL as q).obs s := by
  have e : g = s.heap.get? := funext h
  rw [e] <;> rfl
end DL
section
open PySem PySem.Spec PyProof.Rows L2 Evl DL
local macro_rules | `(tactic| walk_at "side") => `(tactic| first | exact mul_left (by decide) | exact mul_right (by decide) | exact mul_bd | exact div_bd (by first | assumption | decide | omega) | exact pow_bd (by first | decide | omega) (by first | decide | omega) | assumption | (show (0 : Int) < _; first | decide | omega))
local macro_rules | `(tactic| walk_at "eva") => `(tactic| first | exact DL.EvA.nil | (refine' DL.EvA.cons ?e ?r; (case' e => walk_at "ev"); (case' r => walk_at "eva")))
local macro_rules | `(tactic| walk_at "seq") => `(tactic| first | exact seq_tup | exact seq_lst | exact seq_ref (by assumption))
local macro_rules | `(tactic| walk_at "size") => `(tactic| first | (show _ ≤ sizeLine; simp only [List.length_cons, List.length_nil]; decide) | (rw [sizeLine_eq]; omega))
local macro_rules | `(tactic| walk_at "ev") => `(tactic| first
  | exact DL.Ev.c
  | exact DL.Ev.var rfl
  | (refine' DL.Ev.int ?a ?b; (case' a => walk_at "ev"); (case' b => walk_at "ev"))
  | (refine' DL.Ev.intC ?a ?b ?s; (case' a => walk_at "ev"); (case' b => walk_at "ev"); (case' s => try walk_at "side"))
  | (refine' DL.Ev.add ?a ?b; (case' a => walk_at "ev"); (case' b => walk_at "ev"))
  | (refine' DL.Ev.neg ?a; (case' a => walk_at "ev"))
  | (refine' DL.Ev.intOf ?a; (case' a => walk_at "ev"))
  | (refine' DL.Ev.intB ?a; (case' a => walk_at "ev"))
  | (refine' DL.Ev.absN ?a; (case' a => walk_at "ev"))
  | (refine' DL.Ev.eqI ?a ?b; (case' a => walk_at "ev"); (case' b => walk_at "ev"))
  | (refine' DL.Ev.neI ?a ?b; (case' a => walk_at "ev"); (case' b => walk_at "ev"))
  | (refine' DL.Ev.at ?a ?b ?s ?k; (case' a => walk_at "ev"); (case' b => walk_at "ev"); (case' s => walk_at "seq"); (case' k => try rfl))
  | (refine' DL.Ev.len ?a ?s; (case' a => walk_at "ev"); (case' s => walk_at "seq"))
  | (refine' DL.Ev.tupOf ?a ?s; (case' a => walk_at "ev"); (case' s => walk_at "seq"))
  | (refine' DL.Ev.tup ?a ?z; (case' a => walk_at "eva"); (case' z => try walk_at "size"))
  | (refine' DL.Ev.lst ?a ?z; (case' a => walk_at "eva"); (case' z => try walk_at "size"))
  | (refine' DL.Ev.notV ?a; (case' a => walk_at "ev"))
  | (refine' DL.Ev.isN ?a; (case' a => walk_at "ev"))
  | exact fun R r => r
  | assumption)
local macro_rules | `(tactic| walk_at "set") => `(tactic| (refine' ds_set ?e ?_; (case' e => walk_at "ev")))
local macro_rules | `(tactic| walk_at "ret") => `(tactic| (refine' ds_ret ?e ?_; (case' e => walk_at "ev")))
local macro_rules | `(tactic| walk_at "par") => `(tactic| (refine' ds_par ?e ?f ?_; (case' e => walk_at "ev"); (case' f => walk_at "ev")))
local macro_rules | `(tactic| walk_at "cut") => `(tactic| (simp only [DL.cutD, HT.sIx, List.length_cons, List.length_nil, Nat.zero_add, Nat.reduceAdd, Nat.min_def, Nat.reduceLeDiff, ↓reduceIte, List.drop_zero, List.drop_succ_cons, List.take_zero, List.take_succ_cons, List.take_nil, List.drop_nil, List.cons_append, List.nil_append, Int.reduceLT, Int.reduceToNat, Nat.reduceSub, Nat.sub_zero, Int.reduceNeg, Int.cast_ofNat_Int, Int.reduceAdd]; exact rfl))
local macro_rules | `(tactic| walk_at "xu") => `(tactic| first
  | with_reducible refine' DL.Y.ixS0 ?_
  | with_reducible refine' DL.Y.ixS1 ?_
  | with_reducible refine' DL.Y.ixS2 ?_
  | with_reducible refine' DL.Y.ixP0 ?_
  | with_reducible refine' DL.Y.ixP1 ?_
  | with_reducible refine' DL.Y.lstS ?_
  | with_reducible refine' DL.Y.lstP ?_)
local macro_rules | `(tactic| walk_at "dec") => `(tactic| first | rfl | assumption | exact decide_eq_true (by omega) | exact decide_eq_false (by omega) | exact DL.Y.ndT (by omega) | exact DL.Y.ndF (by omega) | decide +kernel)
local macro_rules | `(tactic| walk_at "size2") => `(tactic| first | exact Nat.le_of_ble_eq_true rfl | omega)
local macro_rules | `(tactic| walk_at "x0") => `(tactic| first
  | with_reducible refine' DL.Y.cons ?_
  | ((with_reducible refine' DL.Y.var ?e ?_); (case' e => (first | exact rfl | assumption)))
  | with_reducible refine' DL.Y.c ?_
  | with_reducible refine' DL.Y.nil ?_
  | with_reducible refine' DL.Y.op ?_
  | with_reducible refine' DL.Y.oint ?_
  | ((with_reducible refine' DL.Y.ointC ?s ?_); (case' s => try walk_at "side"))
  | with_reducible refine' DL.Y.oadd ?_
  | with_reducible refine' DL.Y.oeqI ?_
  | with_reducible refine' DL.Y.oneI ?_
  | with_reducible refine' DL.Y.oeqS ?_
  | with_reducible refine' DL.Y.neS ?_
  | with_reducible refine' DL.Y.oneS ?_
  | with_reducible refine' DL.Y.oeqB ?_
  | with_reducible refine' DL.Y.tst ?_
  | with_reducible refine' DL.Y.bl_ ?_
  | ((with_reducible refine' DL.Y.iRng1_ ?z ?_); (case' z => (omega; done)))
  | with_reducible refine' DL.Y.int_ ?_
  | with_reducible refine' DL.Y.str_ ?_
  | with_reducible refine' DL.Y.ref_ ?_
  | ((with_reducible refine' DL.Y.iteT ?h ?_); (case' h => (walk_at "dec"; done)))
  | ((with_reducible refine' DL.Y.iteF ?h ?_); (case' h => (walk_at "dec"; done)))
  | with_reducible refine' DL.Y.seq ?_
  | with_reducible refine' DL.Y.set ?_
  | with_reducible refine' DL.Y.ifS ?_
  | with_reducible refine' DL.Y.ret ?_
  | with_reducible refine' DL.Y.nx ?_
  | with_reducible refine' DL.Y.drop ?_
  | with_reducible refine' DL.Y.asg ?_
  | with_reducible refine' DL.Y.par ?_
  | with_reducible refine' DL.Y.par_ ?_
  | with_reducible refine' DL.Y.par3 ?_
  | with_reducible refine' DL.Y.par3_ ?_
  | with_reducible refine' DL.Y.bk ?_
  | with_reducible refine' DL.Y.ct ?_
  | with_reducible refine' DL.Y.retN ?_
  | with_reducible refine' DL.Y.gn ?_
  | with_reducible refine' DL.Y.gnil ?_
  | with_reducible refine' DL.Y.gcons ?_
  | ((with_reducible refine' DL.Y.gseqT ?e ?_); (case' e => (rfl; done)))
  | ((with_reducible refine' DL.Y.gseqL ?e ?_); (case' e => (rfl; done)))
  | with_reducible refine' DL.Y.tup ?_
  | with_reducible refine' DL.Y.lst ?_
  | ((with_reducible refine' DL.Y.len_ ?n ?l ?_); (case' n => exact rfl); (case' l => try walk_at "size2"))
  | with_reducible refine' DL.Y.ix ?_
  | ((with_reducible refine' DL.Y.ixT ?e ?_); (case' e => ((first | rfl | assumption); done)))
  | ((with_reducible refine' DL.Y.ixL ?e ?_); (case' e => (rfl; done)))
  | ((with_reducible refine' DL.Y.ixR ?g ?e ?_); (case' g => with_reducible assumption); (case' e => (rfl; done)))
  | with_reducible refine' DL.Y.cal ?_
  | with_reducible refine' DL.Y.lenT ?_
  | with_reducible refine' DL.Y.lenL ?_
  | ((with_reducible refine' DL.Y.lenR ?g ?_); (case' g => with_reducible assumption))
  | with_reducible refine' DL.Y.absI ?_
  | with_reducible refine' DL.Y.intI ?_
  | with_reducible refine' DL.Y.intB ?_
  | with_reducible refine' DL.Y.tupT ?_
  | with_reducible refine' DL.Y.tupL ?_
  | ((with_reducible refine' DL.Y.tupR ?g ?_); (case' g => with_reducible assumption))
  | with_reducible refine' DL.Y.lstT ?_
  | with_reducible refine' DL.Y.lstL ?_
  | with_reducible refine' DL.Y.allL ?_
  | with_reducible refine' DL.Y.anyL ?_
  | ((with_reducible refine' DL.Y.oaddL ?z ?_); (case' z => try walk_at "size2"))
  | ((with_reducible refine' DL.Y.oaddT ?z ?_); (case' z => try walk_at "size2"))
  | with_reducible refine' DL.Y.oisB ?_
  | with_reducible refine' DL.Y.onotB ?_
  | with_reducible refine' DL.Y.neg ?_
  | with_reducible refine' DL.Y.notT ?_
  | with_reducible refine' DL.Y.andT ?_
  | with_reducible refine' DL.Y.orT ?_
  | with_reducible refine' DL.Y.yes ?_
  | with_reducible refine' DL.Y.ifT ?_
  | with_reducible refine' DL.Y.andV ?_
  | with_reducible refine' DL.Y.orV ?_
  | with_reducible refine' DL.Y.notV ?_
  | with_reducible refine' DL.Y.isN ?_
  | with_reducible refine' DL.Y.notN ?_
  | ((with_reducible refine' DL.Y.isi_ ?e ?_); (case' e => (rfl; done)))
  | with_reducible refine' DL.Y.isiT ?_
  | with_reducible refine' DL.Y.chain ?_
  | with_reducible refine' DL.Y.sl ?_
  | with_reducible refine' DL.Y.noP ?_
  | with_reducible refine' DL.Y.part ?_
  | ((with_reducible refine' DL.Y.slLl ?n ?e ?_); (case' n => (rfl; done)); (case' e => walk_at "cut"))
  | ((with_reducible refine' DL.Y.slTl ?n ?m ?e ?_); (case' n => (rfl; done)); (case' m => (simp [HT.sIx]; done)); (case' e => walk_at "cut"))
  | with_reducible refine' DL.Y.slL ?_
  | with_reducible refine' DL.Y.call ?_
  | with_reducible refine' DL.Y.callK ?_
  | with_reducible refine' DL.Y.callD ?_
  | with_reducible refine' DL.Y.fld ?_
  | ((with_reducible refine' DL.Y.fld_ ?f ?e ?_); (case' f => (first | rfl | assumption); done); (case' e => (rfl; done)))
  | with_reducible refine' DL.Y.isW_ ?_
  | with_reducible refine' DL.Y.inK ?_
  | with_reducible refine' DL.Y.iSeq ?_
  | with_reducible refine' DL.Y.iSeqL ?_
  | with_reducible refine' DL.Y.iSeqT ?_
  | with_reducible refine' DL.Y.iRng1 ?_
  | with_reducible refine' DL.Y.iZip ?_
  | with_reducible refine' DL.Y.iZipT ?_
  | with_reducible refine' DL.Y.iZipL ?_
  | with_reducible refine' DL.Y.iZipR ?_
  | with_reducible refine' DL.Y.iZipM ?_
  | with_reducible refine' DL.Y.iEnum ?_
  | with_reducible refine' DL.Y.iEnumT ?_
  | with_reducible refine' DL.Y.iEnumL ?_
  | with_reducible refine' DL.Y.for_ ?_
  | with_reducible refine' DL.Y.cmp ?_
  | with_reducible refine' DL.Y.isO ?_
  | ((with_reducible refine' DL.Y.isO_ (isO_exc ?c) ?_); (case' c => (decide +kernel; done)))
  | ((with_reducible refine' DL.Y.isO_ ?e ?_); (case' e => (rfl; done)))
  | ((with_reducible refine' DL.Y.isW1 ?e ?_); (case' e => (first | assumption | (rfl; done))))
  | with_reducible refine' DL.Y.xf ?_
  | ((with_reducible refine' DL.Y.xf_ ?c ?e ?_); (case' c => (decide +kernel; done)); (case' e => (first | assumption | (rfl; done))))
  | with_reducible refine' DL.Y.mk ?_
  | with_reducible refine' DL.Y.dctM ?_
  | with_reducible refine' DL.Y.dct0 ?_
  | with_reducible refine' DL.Y.lstM ?_
  | with_reducible refine' DL.Y.rev ?_
  | with_reducible refine' DL.Y.revL ?_
  | with_reducible refine' DL.Y.dget ?_
  | with_reducible refine' DL.Y.dput ?_
  | with_reducible refine' DL.Y.app ?_
  | with_reducible refine' DL.Y.gc ?_
  | with_reducible refine' DL.Y.boolB ?_
  | with_reducible refine' DL.Y.disp ?_
  | with_reducible refine' DL.Y.valsC ?_
  | with_reducible refine' DL.Y.valsN ?_
  | with_reducible refine' DL.Y.ownEq ?_
  | with_reducible refine' DL.Y.cmp2 ?_
  | with_reducible refine' DL.Y.star ?_
  | with_reducible refine' DL.Y.meth ?_
  | with_reducible refine' DL.Y.index ?_
  | with_reducible refine' DL.Y.backT ?_
  | with_reducible refine' DL.Y.iRngV ?_
  | with_reducible refine' DL.Y.rng1_ ?_
  | with_reducible refine' DL.Y.rng2_ ?_
  | with_reducible refine' DL.Y.rngV_ ?_
  | ((with_reducible refine' DL.Y.fld_ ?f ?e ?_); (case' f => ((first | rfl | assumption | decide +kernel); done)); (case' e => (rfl; done)))
  | with_reducible refine' DL.Y.chLe ?_
  | with_reducible refine' DL.Y.chLt ?_
  | with_reducible refine' DL.Y.setF ?_
  | with_reducible refine' DL.Y.lenSet ?_
  | with_reducible refine' DL.Y.inL ?_
  | with_reducible refine' DL.Y.inD ?_
  | with_reducible refine' DL.Y.inD_ ?_
  | with_reducible refine' DL.Y.ixD ?_
  | ((with_reducible refine' DL.Y.mulS ?h ?_); (case' h => (exact ⟨by omega, by omega, by decide⟩)))
  | ((with_reducible refine' DL.Y.mulL ?h ?_); (case' h => (exact ⟨by simp only [List.length_cons, List.length_nil]; omega, by omega, by omega⟩)))
  | walk_at "xu"
  | walk_at "norm")
local macro_rules | `(tactic| walk_at "norm") => `(tactic| (dsimp only [List.set]))
local macro_rules | `(tactic| walk_at "x") => `(tactic| first | walk_at "x0" | with_reducible refine' DL.Y.ifE ?_)
local macro_rules | `(tactic| walk_at "xs") => `(tactic| repeat walk_at "x0")
local macro_rules | `(tactic| walk_at "xx") => `(tactic| repeat walk_at "x")
local macro_rules | `(tactic| walk_at "start") => `(tactic| dsimp only [List.map, List.length_cons, List.length_nil, List.cons_append, List.nil_append, Nat.zero_add, Nat.reduceAdd, Nat.reduceSub, List.reduceReplicate])
namespace DL
open PySem PySem.Spec PyProof.Rows L2 Evl Sup
variable [TabC]
theorem div_q (p q : Qr) (hq : q ≠ 0) : Rat.divInt (p.num * q.den) (p.den * q.num) = p / q := by
  have h := over_q p q hq
  unfold overZ at h
  have hn : q.num ≠ 0 := fun z => hq (Rat.num_eq_zero.mp z)
  rw [numI_ofQ, numI_ofQ, low_ofQ (Int.mul_ne_zero (by have := den_pos p; omega) hn)] at h
  exact ofQ_inj h
theorem Qb.div {j k : Nat} {p q : Qr} (hp : Qb j p) (hq : Qb k q) (h0 : q ≠ 0) : Qb (j + k) (p / q) := by
  rw [← div_q p q h0]
  have hn : q.num ≠ 0 := fun z => h0 (Rat.num_eq_zero.mp z)
  exact qb_low (Int.mul_ne_zero (by have := den_pos p; omega) hn) (abs_mul_lt hp.1 (by rw [Int.natAbs_natCast]; exact hq.2)) (abs_mul_lt (by rw [Int.natAbs_natCast]; exact hp.2) hq.1)
def sp_qover : DSp := fun xs G R _ => ∃ p q : Qr, xs = [ofQ p, ofQ q] ∧ Qb 2900 p ∧ Qb 2900 q ∧ q ≠ 0 ∧ R (ofQ (p / q)) G
theorem qover_to {xs : List D} {G : Gm} {R : KD} {RX : XD} (h : sp_qover xs G R RX) : sp_overZ xs G R RX := by
  obtain ⟨p, q, rfl, hp, hq, h0, h⟩ := h
  refine ⟨_, _, rfl, numD_ofQ p, numD_ofQ q, ?_, ?_, ?_, ?_⟩
  · unfold Bn; rw [numI_ofQ]; exact ⟨(hp.mono (k := 3000)).1, by rw [Int.natAbs_natCast]; exact (hp.mono (k := 3000)).2⟩
  · unfold Bn; rw [numI_ofQ]; exact ⟨(hq.mono (k := 3000)).1, by rw [Int.natAbs_natCast]; exact (hq.mono (k := 3000)).2⟩
  · rw [numI_ofQ]; exact fun z => h0 (Rat.num_eq_zero.mp z)
  · rw [over_q p q h0]; exact h
def Lp.pc (p : Lp) : Pc := ⟨[p.c], [[p.q]], [p.r]⟩
structure LpOk (p : Lp) : Prop where
  sq : Smq p.q
  sr : Smq p.r
  cb : -1000 ≤ p.c ∧ p.c ≤ 1000
theorem lp_ok {p : Lp} (h : LpOk p) : p.pc.ok 1 where
  lc := rfl
  lr := rfl
  lrr := fun r hr => by rw [List.mem_singleton.mp hr]; rfl
  ls := rfl
  sm := fun r hr q hq => by rw [List.mem_singleton.mp hr] at hq; rw [List.mem_singleton.mp hq]; exact h.sq
  sms := fun q hq => by rw [List.mem_singleton.mp hq]; exact h.sr
  cb := fun i hi => by rw [List.mem_singleton.mp hi]; exact h.cb
def lmach (ps : List Lp) : D := machD 1 (ps.map Lp.pc)
def strD (s : Qr × Qr) : D := .tup [ofQ s.1, ofQ s.2]
def optS : Option (Qr × Qr) → D
  | none => .non
  | some s => strD s
def ownS (p : Lp) : Qr × Qr := ((p.c : Qr), ((p.c + 1 : Int) : Qr))
theorem own_b {p : Lp} (h : LpOk p) : Sb 11 (ownS p) := ⟨qb11 (by have := h.cb; omega), qb11 (by have := h.cb; omega)⟩
def loS (s t : Qr × Qr) : Qr := if s.1 < t.1 then t.1 else s.1
def hiS (s t : Qr × Qr) : Qr := if s.2 < t.2 then s.2 else t.2
def meetS (s t : Qr × Qr) : Option (Qr × Qr) := if hiS s t < loS s t then none else some (loS s t, hiS s t)
def onS (p : Lp) (s : Qr × Qr) : Qr × Qr := if p.q * s.2 + p.r < p.q * s.1 + p.r then (p.q * s.2 + p.r, p.q * s.1 + p.r) else (p.q * s.1 + p.r, p.q * s.2 + p.r)
def backP (p : Lp) (s : Qr × Qr) : Option (Qr × Qr) :=
  if p.q = 0 then (match meetS (p.r, p.r) s with
    | none => none
    | some _ => some (ownS p))
  else meetS (ownS p) (if (s.2 - p.r) / p.q < (s.1 - p.r) / p.q then ((s.2 - p.r) / p.q, (s.1 - p.r) / p.q) else ((s.1 - p.r) / p.q, (s.2 - p.r) / p.q))
def sp_parts : DSp := fun xs G R _ => ∃ p : Lp, xs = [p.pc.d] ∧ R (.tup [.int p.c, ofQ p.q, ofQ p.r]) G
def partsR : DS := (dRet (dTup (dCons (dIx (dIx (dVar 0) (dC (.int 0))) (dC (.int 0))) (dCons (dIx (dIx (dIx (dVar 0) (dC (.int 1))) (dC (.int 0))) (dC (.int 0))) (dCons (dIx (dIx (dVar 0) (dC (.int 2))) (dC (.int 0))) dNil)))))
theorem parts_ok (xs : List D) (G : Gm) (R : KD) (RX : XD) (h : sp_parts xs G R RX) : partsR { nx := fun _ G => R .non G, rt := R } (xs.map some ++ List.replicate (1 - xs.length) none) G := by
  obtain ⟨p, rfl, h⟩ := h
  unfold partsR
  walk_at "start"
  dsimp only [Lp.pc, Pc.d, List.map, rowD]
  walk_at "xx"
  exact h
def sp_own : DSp := fun xs G R _ => ∃ p : Lp, xs = [p.pc.d] ∧ R (strD (ownS p)) G
def ownR : DS := (dRet (dTup (dCons (dIx (dIx (dVar 0) (dC (.int 0))) (dC (.int 0))) (dCons (dOp fAdd (dIx (dIx (dVar 0) (dC (.int 0))) (dC (.int 0))) (dC (.int 1))) dNil))))
theorem own_ok (xs : List D) (G : Gm) (R : KD) (RX : XD) (h : sp_own xs G R RX) : ownR { nx := fun _ G => R .non G, rt := R } (xs.map some ++ List.replicate (1 - xs.length) none) G := by
  obtain ⟨p, rfl, h⟩ := h
  unfold ownR
  walk_at "start"
  dsimp only [Lp.pc, Pc.d, List.map, rowD]
  walk_at "xx"
  exact h
def sp_meetS : DSp := fun xs G R _ => ∃ s t : Qr × Qr, xs = [strD s, strD t] ∧ Sb 2900 s ∧ Sb 2900 t ∧ R (optS (meetS s t)) G
def meetR : DS := (dSeq (dSet 2 (dIf (dTst (dCall sp_qlt X0 (dCons (dIx (dVar 0) (dC (.int 0))) (dCons (dIx (dVar 1) (dC (.int 0))) dNil)))) (dIx (dVar 1) (dC (.int 0))) (dIx (dVar 0) (dC (.int 0))))) (dSeq (dSet 3 (dIf (dTst (dCall sp_qlt X0 (dCons (dIx (dVar 0) (dC (.int 1))) (dCons (dIx (dVar 1) (dC (.int 1))) dNil)))) (dIx (dVar 0) (dC (.int 1))) (dIx (dVar 1) (dC (.int 1))))) (dRet (dIf (dTst (dCall sp_qlt X0 (dCons (dVar 3) (dCons (dVar 2) dNil)))) (dC .non) (dTup (dCons (dVar 2) (dCons (dVar 3) dNil)))))))
theorem meet_ok (xs : List D) (G : Gm) (R : KD) (RX : XD) (h : sp_meetS xs G R RX) : meetR { nx := fun _ G => R .non G, rt := R } (xs.map some ++ List.replicate (4 - xs.length) none) G := by
  obtain ⟨⟨a, b⟩, ⟨c, d⟩, rfl, ⟨ha, hb⟩, ⟨hc, hd⟩, h⟩ := h
  unfold meetR
  unfold meetS loS hiS at h
  dsimp only at *
  walk_at "start"
  dsimp only [strD]
  walk_at "xx"
  refine ⟨a, c, rfl, ha, hc, ?_⟩
  have ql : Qb 2900 (if a < c then c else a) := by split <;> assumption
  have qh : Qb 2900 (if b < d then b else d) := by split <;> assumption
  by_cases e1 : a < c
  all_goals
    walk_at "xx"
    refine ⟨b, d, rfl, hb, hd, ?_⟩
    by_cases e2 : b < d
    all_goals
      walk_at "xx"
      simp only [e1, e2, if_true, if_false] at h ql qh
      refine ⟨_, _, rfl, qh, ql, ?_⟩
      split at h
      all_goals
        rename_i e3
        simp only [e3, decide_true, decide_false]
        walk_at "xx"
        exact h
theorem meet_b {k : Nat} {s t u : Qr × Qr} (hs : Sb k s) (ht : Sb k t) (h : meetS s t = some u) : Sb k u := by
  unfold meetS at h
  split at h
  · cases h
  · cases h
    exact ⟨by unfold loS; dsimp only; split; exact ht.1; exact hs.1, by unfold hiS; dsimp only; split; exact hs.2; exact ht.2⟩
end DL
namespace DL
open PySem PySem.Spec PyProof.Rows L2 Evl Sup
variable [TabC]
theorem fn_zero : Fn 0 1 (.int 0) := fn_int (by decide)
theorem Y.eqQ0 {k : Nat} {q : Qr} {Q : D → Prop} (hq : Qb k q) (hk : k ≤ 1860) (h : Q (.bl (decide (q = 0)))) : ∃ z, fEq (ofQ q) (.int 0) z ∧ Q z := by
  unfold ofQ pairZ
  by_cases hd : (q.den : Int) = 1
  · rw [if_pos hd]
    refine ⟨_, rfl, ?_⟩
    have e : decide (q.num = 0) = decide (q = 0) := decide_eq_decide.mpr Rat.num_eq_zero
    rw [e]
    exact h
  · rw [if_neg hd]
    have c1 : Cmp (.tup [.int q.num, .int q.den]) := by
      have := (fn_q hq hk).cmp
      unfold ofQ pairZ at this
      rw [if_neg hd] at this
      exact this
    refine ⟨_, feq_cmp c1 (fn_zero.cmp) (fun _ e => by cases e) (fun _ e => by cases e) (fun _ e => by cases e), ?_⟩
    have e2 : D.eqv (.tup [.int q.num, .int q.den]) (.int 0) = false := rfl
    have e3 : ¬ q = 0 := fun z => by rw [z] at hd; exact hd rfl
    rw [e2]
    rw [decide_eq_false e3] at h
    exact h
theorem on_b {k : Nat} {p : Lp} {s : Qr × Qr} (hp : LpOk p) (hs : Sb k s) : Sb (k + 41) (onS p s) := by
  have b1 : Qb (k + 41) (p.q * s.1 + p.r) := ((hp.sq.qb.mul hs.1).add hp.sr.qb).mono (by omega)
  have b2 : Qb (k + 41) (p.q * s.2 + p.r) := ((hp.sq.qb.mul hs.2).add hp.sr.qb).mono (by omega)
  unfold onS
  split
  · exact ⟨b2, b1⟩
  · exact ⟨b1, b2⟩
theorem back_b {k : Nat} {p : Lp} {s t : Qr × Qr} (hp : LpOk p) (hs : Sb k s) (h : backP p s = some t) : Sb (k + 41) t := by
  unfold backP at h
  split at h
  · split at h
    · cases h
    · cases h
      exact (own_b hp).mono
  · rename_i hq
    have b1 : Qb (k + 41) ((s.1 - p.r) / p.q) := ((hs.1.sub hp.sr.qb).div hp.sq.qb hq).mono (by omega)
    have b2 : Qb (k + 41) ((s.2 - p.r) / p.q) := ((hs.2.sub hp.sr.qb).div hp.sq.qb hq).mono (by omega)
    refine meet_b ((own_b hp).mono) ?_ h
    split
    · exact ⟨b2, b1⟩
    · exact ⟨b1, b2⟩
def sp_ledOn : DSp := fun xs G R _ => ∃ (p : Lp) (s : Qr × Qr), xs = [p.pc.d, strD s] ∧ LpOk p ∧ Sb 2800 s ∧ R (strD (onS p s)) G
def ledOnR : DS := (dSeq (dAsg (dCall sp_parts X0 (dCons (dVar 0) dNil)) (gSeq 3 (gCons (gN 2) (gCons (gN 3) (gCons (gN 4) gNil))))) (dSeq (dAsg (dCmp (dISeq (dVar 1)) (gN 7) dYes (dCall (sp_q2 fun p q => p + q) X0 (dCons (dCall (sp_q2 fun p q => p * q) X0 (dCons (dVar 3) (dCons (dVar 7) dNil))) (dCons (dVar 4) dNil))) [7]) (gSeq 2 (gCons (gN 5) (gCons (gN 6) gNil)))) (dRet (dIf (dTst (dCall sp_qlt X0 (dCons (dVar 6) (dCons (dVar 5) dNil)))) (dTup (dCons (dVar 6) (dCons (dVar 5) dNil))) (dTup (dCons (dVar 5) (dCons (dVar 6) dNil)))))))
theorem ledOn_ok (xs : List D) (G : Gm) (R : KD) (RX : XD) (h : sp_ledOn xs G R RX) : ledOnR { nx := fun _ G => R .non G, rt := R } (xs.map some ++ List.replicate (8 - xs.length) none) G := by
  obtain ⟨p, ⟨a, b⟩, rfl, hp, hs, h⟩ := h
  have bm : ∀ z : Qr, Qb 2800 z → Qb 2820 (p.q * z) := fun z hz => (hp.sq.qb.mul hz).mono
  have bp : ∀ z : Qr, Qb 2800 z → Qb 2841 (p.q * z + p.r) := fun z hz => ((bm z hz).add hp.sr.qb).mono
  have b1 := bp a hs.1
  have b2 := bp b hs.2
  unfold ledOnR
  walk_at "start"
  walk_at "xx"
  refine ⟨p, rfl, ?_⟩
  dsimp only [strD]
  walk_at "xx"
  refine DL.Y.cmpB [a, b] ofQ (fun z => ofQ (p.q * z + p.r)) rfl (Nat.le_of_ble_eq_true rfl) (fun z hz S1 h1 => ?_) (fun x N N' hh => DL.Y.gn_mono x _ N N' hh) ?_
  · have hz' : Qb 2800 z := by
      rcases List.mem_cons.mp hz with rfl | hz
      · exact hs.1
      · rw [List.mem_singleton.mp hz]; exact hs.2
    walk_at "xx"
    refine ⟨p.q, z, rfl, hp.sq.qb.mono, hz'.mono, ?_⟩
    walk_at "xx"
    exact ⟨_, p.r, rfl, (bm z hz').mono, hp.sr.qb.mono, h1⟩
  · dsimp only [List.map]
    walk_at "xx"
    refine ⟨_, _, rfl, b2.mono, b1.mono, ?_⟩
    unfold onS at h
    dsimp only at h
    split at h
    all_goals
      rename_i e
      simp only [e, decide_true, decide_false]
      walk_at "xx"
      exact h
def sp_ledBack : DSp := fun xs G R _ => ∃ (p : Lp) (s : Qr × Qr), xs = [p.pc.d, strD s] ∧ LpOk p ∧ Sb 2800 s ∧ R (optS (backP p s)) G
def ledBackR : DS := (dSeq (dAsg (dCall sp_parts X0 (dCons (dVar 0) dNil)) (gSeq 3 (gCons (gN 2) (gCons (gN 3) (gCons (gN 4) gNil))))) (dSeq (dSet 5 (dCall sp_own X0 (dCons (dVar 0) dNil))) (dSeq (dIfS (dTst (dOp fEq (dVar 3) (dC (.int 0)))) (dRet (dIf (dTst (dIsN (dCall sp_meetS X0 (dCons (dTup (dCons (dVar 4) (dCons (dVar 4) dNil))) (dCons (dVar 1) dNil))))) (dC .non) (dVar 5))) dNext) (dSeq (dAsg (dCmp (dISeq (dVar 1)) (gN 8) dYes (dCall sp_qover X0 (dCons (dCall (sp_q2 fun p q => p - q) X0 (dCons (dVar 8) (dCons (dVar 4) dNil))) (dCons (dVar 3) dNil))) [8]) (gSeq 2 (gCons (gN 6) (gCons (gN 7) gNil)))) (dRet (dCall sp_meetS X0 (dCons (dVar 5) (dCons (dIf (dTst (dCall sp_qlt X0 (dCons (dVar 7) (dCons (dVar 6) dNil)))) (dTup (dCons (dVar 7) (dCons (dVar 6) dNil))) (dTup (dCons (dVar 6) (dCons (dVar 7) dNil)))) dNil))))))))
theorem ledBack_ok (xs : List D) (G : Gm) (R : KD) (RX : XD) (h : sp_ledBack xs G R RX) : ledBackR { nx := fun _ G => R .non G, rt := R } (xs.map some ++ List.replicate (9 - xs.length) none) G := by
  obtain ⟨p, ⟨a, b⟩, rfl, hp, hs, h⟩ := h
  unfold ledBackR
  walk_at "start"
  walk_at "xx"
  refine ⟨p, rfl, ?_⟩
  walk_at "xx"
  refine ⟨p, rfl, ?_⟩
  walk_at "xx"
  refine DL.Y.eqQ0 hp.sq.qb (by decide) ?_
  unfold backP at h
  dsimp only at h
  by_cases hq : p.q = 0
  · rw [if_pos hq] at h
    walk_at "xx"
    refine ⟨(p.r, p.r), (a, b), rfl, ⟨hp.sr.qb.mono, hp.sr.qb.mono⟩, hs.mono, ?_⟩
    cases e : meetS (p.r, p.r) (a, b) with
    | none =>
      rw [e] at h
      dsimp only [optS]
      walk_at "xx"
      exact h
    | some u =>
      rw [e] at h
      dsimp only [optS, strD]
      walk_at "xx"
      exact h
  · rw [if_neg hq] at h
    have bd : ∀ z : Qr, Qb 2800 z → Qb 2821 (z - p.r) := fun z hz => (hz.sub hp.sr.qb).mono
    have bq : ∀ z : Qr, Qb 2800 z → Qb 2841 ((z - p.r) / p.q) := fun z hz => ((bd z hz).div hp.sq.qb hq).mono
    have b1 := bq a hs.1
    have b2 := bq b hs.2
    dsimp only [strD]
    walk_at "xx"
    refine DL.Y.cmpB [a, b] ofQ (fun z => ofQ ((z - p.r) / p.q)) rfl (Nat.le_of_ble_eq_true rfl) (fun z hz S1 h1 => ?_) (fun x N N' hh => DL.Y.gn_mono x _ N N' hh) ?_
    · have hz' : Qb 2800 z := by
        rcases List.mem_cons.mp hz with rfl | hz
        · exact hs.1
        · rw [List.mem_singleton.mp hz]; exact hs.2
      walk_at "xx"
      refine ⟨z, p.r, rfl, hz'.mono, hp.sr.qb.mono, ?_⟩
      walk_at "xx"
      exact ⟨_, p.q, rfl, (bd z hz').mono, hp.sq.qb.mono, hq, h1⟩
    · dsimp only [List.map]
      walk_at "xx"
      refine ⟨_, _, rfl, b2.mono, b1.mono, ?_⟩
      split at h
      all_goals
        rename_i e
        simp only [e, decide_true, decide_false]
        walk_at "xx"
        exact ⟨ownS p, _, rfl, (own_b hp).mono, ⟨by first | exact b1.mono | exact b2.mono, by first | exact b1.mono | exact b2.mono⟩, h⟩
def onW (ps : List Lp) (ns : List Nat) : List Lp := ns.filterMap fun n => ps[n]?
def natL (ns : List Nat) : List D := ns.map fun n : Nat => .int n
theorem onW_cons {ps : List Lp} {n : Nat} {ns : List Nat} {p : Lp} (h : ps[n]? = some p) : onW ps (n :: ns) = p :: onW ps ns := List.filterMap_cons_some h
theorem onW_app (ps : List Lp) (a b : List Nat) : onW ps (a ++ b) = onW ps a ++ onW ps b := List.filterMap_append
def backS : List Lp → Option (Qr × Qr)
  | [] => none
  | [p] => some (ownS p)
  | p :: q :: w => (backS (q :: w)).bind (backP p)
theorem backS_cons {p : Lp} {w : List Lp} (h : w ≠ []) : backS (p :: w) = (backS w).bind (backP p) := by
  cases w with
  | nil => exact absurd rfl h
  | cons q w => rfl
theorem backS_none {w : List Lp} (hw : w ≠ []) (h : backS w = none) : ∀ v : List Lp, backS (v ++ w) = none
  | [] => h
  | p :: v => by
    rw [List.cons_append, backS_cons (by simp [hw]), backS_none hw h v]
    rfl
theorem backS_b {w : List Lp} (hw : ∀ p ∈ w, LpOk p) : ∀ {s : Qr × Qr}, backS w = some s → Sb (11 + 41 * w.length) s := by
  induction w with
  | nil => intro s h; cases h
  | cons p w ih =>
    intro s h
    cases w with
    | nil =>
      cases h
      exact (own_b (hw p (by simp))).mono
    | cons q w =>
      rw [backS_cons (by simp)] at h
      cases e : backS (q :: w) with
      | none => rw [e] at h; cases h
      | some t =>
        rw [e] at h
        have := back_b (hw p (by simp)) (ih (fun z hz => hw z (List.mem_cons_of_mem _ hz)) e) h
        exact this.mono (by simp only [List.length_cons]; omega)
structure WayOk (ps : List Lp) (ns : List Nat) : Prop where
  ok : ∀ p ∈ ps, LpOk p
  ne : ns ≠ []
  le : ns.length ≤ 30
  lt : ∀ n ∈ ns, n < ps.length
theorem onW_ok {ps : List Lp} {ns : List Nat} (h : ∀ p ∈ ps, LpOk p) : ∀ p ∈ onW ps ns, LpOk p := fun p hp => by
  obtain ⟨n, _, e⟩ := List.mem_filterMap.mp hp
  exact h p (List.mem_of_getElem? e)
theorem onW_len (ps : List Lp) (ns : List Nat) : (onW ps ns).length ≤ ns.length := List.length_filterMap_le _ _
theorem lpc_at {ps : List Lp} {n : Nat} {p : Lp} (h : ps[n]? = some p) : atI ((ps.map Lp.pc).map Pc.d) (n : Int) = some p.pc.d := by
  rw [List.map_map]
  exact at_some (f := Pc.d ∘ Lp.pc) h
def sp_stretchIn (cl : ClT) : DSp := fun xs G R _ => ∃ (ps : List Lp) (ns : List Nat), xs = [lmach ps, .tup (natL ns)] ∧ WayOk ps ns ∧ R (optS (backS (onW ps ns))) G
def stretchInR (cl : ClT) : DS := (dSeq (dSet 2 (dCall sp_own X0 (dCons (dIx (dFld cl "pieces" (dVar 0)) (dIx (dVar 1) (dNeg (dC (.int 1))))) dNil))) (dSeq (dFor (dISeq (dBackT (dVar 1) (dPart (dNeg (dC (.int 2)))) dNoP)) (gN 3) (dSeq (dSet 2 (dCall sp_ledBack X0 (dCons (dIx (dFld cl "pieces" (dVar 0)) (dVar 3)) (dCons (dVar 2) dNil)))) (dIfS (dTst (dIsN (dVar 2))) (dRet (dC .non)) dNext))) (dRet (dVar 2))))
theorem stretchIn_ok {cl : ClT} (f1 : hasF cl "Machine" "pieces" = true) (xs : List D) (G : Gm) (R : KD) (RX : XD) (h : sp_stretchIn cl xs G R RX) : stretchInR cl { nx := fun _ G => R .non G, rt := R } (xs.map some ++ List.replicate (4 - xs.length) none) G := by
  obtain ⟨ps, ns, rfl, hw, h⟩ := h
  obtain ⟨ini, last, rfl⟩ : ∃ ini last, ns = ini ++ [last] := ⟨_, _, (List.dropLast_concat_getLast hw.ne).symm⟩
  have hl : ini.length + 1 ≤ 30 := by have := hw.le; rw [List.length_append, List.length_singleton] at this; exact this
  obtain ⟨p0, hp0⟩ : ∃ p, ps[last]? = some p := ⟨_, List.getElem?_eq_getElem (hw.lt last (by simp))⟩
  have at_ : atI (natL (ini ++ [last])) (-1) = some (.int last) := by
    unfold atI ixN natL
    rw [if_neg (by decide), List.length_map, List.length_append, List.length_singleton, if_pos (by omega), Option.bind_some]
    rw [show (-1 + ((ini.length + 1 : Nat) : Int)).toNat = ini.length by omega, List.map_append, List.getElem?_append_right (by rw [List.length_map]; exact Nat.le_refl _), List.length_map, Nat.sub_self]
    rfl
  unfold stretchInR
  walk_at "start"
  dsimp only [lmach, machD]
  walk_at "xx"
  refine DL.Y.ixT (lpc_at hp0) ?_
  walk_at "xx"
  refine ⟨p0, rfl, ?_⟩
  walk_at "xx"
  refine ⟨_, rfl, ?_⟩
  rw [BackT.back_2, show (natL (ini ++ [last])).dropLast.reverse = ini.reverse.map fun n : Nat => D.int n from by unfold natL; rw [List.map_append]; show (_ ++ [D.int last]).dropLast.reverse = _; rw [List.dropLast_concat, List.map_reverse]]
  walk_at "xx"
  have ok1 := onW_ok (ns := ini ++ [last]) hw.ok
  refine forL_D (fun n : Nat => D.int n) ini.reverse (fun d ρ G' => ∃ s o3, backS (onW ps (d.reverse ++ [last])) = some s ∧ ρ = [some (lmach ps), some (.tup (natL (ini ++ [last]))), some (strD s), o3] ∧ G' = G) rfl ?_ ?_ ?_
  · rintro d n r el N ρ G1 hN ⟨s, o3, hs, rfl, rfl⟩
    have el2 : ini = r.reverse ++ n :: d.reverse := by
      have := congrArg List.reverse el
      rw [List.reverse_reverse, List.reverse_append, List.reverse_cons] at this
      rw [this, List.append_assoc]
      rfl
    have hd : d.length ≤ ini.length := by rw [el2, List.length_append, List.length_cons, List.length_reverse, List.length_reverse]; omega
    obtain ⟨p, hp⟩ : ∃ p, ps[n]? = some p := ⟨_, List.getElem?_eq_getElem (hw.lt n (by rw [el2]; simp))⟩
    have pk := hw.ok p (List.mem_of_getElem? hp)
    have sb : Sb 2800 s := (backS_b (onW_ok hw.ok) hs).mono (by
      have := onW_len ps (d.reverse ++ [last])
      rw [List.length_append, List.length_reverse, List.length_singleton] at this
      omega)
    have ne : onW ps (d.reverse ++ [last]) ≠ [] := by
      rw [onW_app, onW_cons hp0]
      simp
    have step : backS (onW ps (n :: (d.reverse ++ [last]))) = backP p s := by
      rw [onW_cons hp, backS_cons ne, hs]
      rfl
    dsimp only [lmach, machD]
    walk_at "xx"
    refine DL.Y.ixT (lpc_at hp) ?_
    walk_at "xx"
    refine ⟨p, s, rfl, pk, sb, ?_⟩
    cases e : backP p s with
    | none =>
      dsimp only [optS]
      walk_at "xx"
      have : backS (onW ps (ini ++ [last])) = none := by
        rw [el2, List.append_assoc, onW_app]
        refine backS_none ?_ ?_ _
        · rw [List.cons_append, onW_cons hp]; simp
        · rw [List.cons_append, step, e]
      rw [this] at h
      exact h
    | some t =>
      dsimp only [optS, strD]
      walk_at "xx"
      refine hN _ _ ⟨t, _, ?_, rfl, rfl⟩
      rw [List.reverse_append, List.reverse_cons, List.reverse_nil, List.nil_append, List.singleton_append, List.cons_append, step, e]
  · rintro ρ G1 ⟨s, o3, hs, rfl, rfl⟩
    rw [List.reverse_reverse] at hs
    rw [hs] at h
    walk_at "xx"
    exact h
  · exact ⟨ownS p0, _, by rw [List.reverse_nil, List.nil_append, onW_cons hp0]; rfl, rfl, rfl⟩
def goalW (w : List Lp) (s : Qr × Qr) : Qr × Qr := w.foldl (fun s p => onS p s) s
theorem goalW_b {k : Nat} : ∀ {w : List Lp} {s : Qr × Qr}, (∀ p ∈ w, LpOk p) → Sb k s → Sb (k + 41 * w.length) (goalW w s)
  | [], s, _, h => h
  | p :: w, s, hw, h => (goalW_b (w := w) (fun z hz => hw z (List.mem_cons_of_mem _ hz)) (on_b (hw p List.mem_cons_self) h)).mono (by simp only [List.length_cons]; omega)
def sp_goalIn (cl : ClT) : DSp := fun xs G R _ => ∃ (ps : List Lp) (ns : List Nat), xs = [lmach ps, .tup (natL ns)] ∧ WayOk ps ns ∧ R (optS ((backS (onW ps ns)).map (goalW (onW ps ns)))) G
def goalInR (cl : ClT) : DS := (dSeq (dSet 2 (dCall (sp_stretchIn cl) X0 (dCons (dVar 0) (dCons (dVar 1) dNil)))) (dSeq (dIfS (dTst (dIsN (dVar 2))) (dRet (dC .non)) dNext) (dSeq (dFor (dISeq (dVar 1)) (gN 3) (dSet 2 (dCall sp_ledOn X0 (dCons (dIx (dFld cl "pieces" (dVar 0)) (dVar 3)) (dCons (dVar 2) dNil))))) (dRet (dVar 2)))))
theorem goalIn_ok {cl : ClT} (f1 : hasF cl "Machine" "pieces" = true) (xs : List D) (G : Gm) (R : KD) (RX : XD) (h : sp_goalIn cl xs G R RX) : goalInR cl { nx := fun _ G => R .non G, rt := R } (xs.map some ++ List.replicate (4 - xs.length) none) G := by
  obtain ⟨ps, ns, rfl, hw, h⟩ := h
  unfold goalInR
  walk_at "start"
  walk_at "xx"
  refine ⟨ps, ns, rfl, hw, ?_⟩
  cases e : backS (onW ps ns) with
  | none =>
    rw [e] at h
    dsimp only [optS]
    walk_at "xx"
    exact h
  | some s =>
    rw [e] at h
    have sb : Sb 1241 s := (backS_b (onW_ok hw.ok) e).mono (by
      have := onW_len ps ns
      have := hw.le
      omega)
    dsimp only [optS, strD]
    walk_at "xx"
    refine forL_D (fun n : Nat => D.int n) ns (fun d ρ G' => ∃ o3, ρ = [some (lmach ps), some (.tup (natL ns)), some (strD (goalW (onW ps d) s)), o3] ∧ G' = G) rfl ?_ ?_ ?_
    · rintro d n r el N ρ G1 hN ⟨o3, rfl, rfl⟩
      obtain ⟨p, hp⟩ : ∃ p, ps[n]? = some p := ⟨_, List.getElem?_eq_getElem (hw.lt n (by rw [el]; simp))⟩
      have pk := hw.ok p (List.mem_of_getElem? hp)
      have hd : d.length ≤ 29 := by
        have := congrArg List.length el
        rw [List.length_append, List.length_cons] at this
        have := hw.le
        omega
      have gb := goalW_b (w := onW ps d) (onW_ok hw.ok) sb
      have ol := onW_len ps d
      dsimp only [lmach, machD]
      walk_at "xx"
      refine DL.Y.ixT (lpc_at hp) ?_
      walk_at "xx"
      refine ⟨p, _, rfl, pk, gb.mono, ?_⟩
      walk_at "xx"
      have eg : goalW (onW ps (d ++ [n])) s = onS p (goalW (onW ps d) s) := by
        rw [onW_app, onW_cons hp, goalW, goalW, List.foldl_append]
        rfl
      exact hN _ _ ⟨_, by rw [eg]; rfl, rfl⟩
    · rintro ρ G1 ⟨o3, rfl, rfl⟩
      walk_at "xx"
      exact h
    · exact ⟨_, rfl, rfl⟩
end DL
namespace DL
open PySem PySem.Spec PyProof.Rows L2 Evl Sup
variable [TabC]
def Hld (p : Lp) (x : Qr) : Prop := In (ownS p) x
def goes : List Lp → Qr → Prop
  | [], _ => True
  | p :: w, x => Hld p x ∧ goes w (p.q * x + p.r)
theorem nlt {a b : Qr} : ¬ a < b ↔ b ≤ a := Rat.not_lt
theorem meet_some {s t u : Qr × Qr} (h : meetS s t = some u) : u.1 ≤ u.2 ∧ ∀ x, In u x ↔ In s x ∧ In t x := by
  unfold meetS at h
  split at h
  · cases h
  · rename_i hn
    cases h
    refine ⟨nlt.mp hn, fun x => ?_⟩
    unfold In loS hiS
    dsimp only
    constructor
    · rintro ⟨h1, h2⟩
      refine ⟨⟨?_, ?_⟩, ?_, ?_⟩
      · split at h1 <;> grind
      · split at h2 <;> grind
      · split at h1 <;> grind
      · split at h2 <;> grind
    · rintro ⟨⟨a, b⟩, c, d⟩
      constructor
      · split <;> assumption
      · split <;> assumption
theorem meet_none {s t : Qr × Qr} (h : meetS s t = none) (x : Qr) : ¬ (In s x ∧ In t x) := by
  unfold meetS at h
  split at h
  · rename_i hn
    rintro ⟨⟨a, b⟩, c, d⟩
    unfold loS hiS at hn
    split at hn <;> split at hn <;> grind
  · cases h
theorem own_le (p : Lp) : (ownS p).1 ≤ (ownS p).2 := (int_q _ _).mpr (by omega)
theorem div_le {a b q : Qr} (h : 0 < q) : a / q ≤ b ↔ a ≤ b * q := by
  rw [← nlt, ← nlt, Rat.lt_div_iff h]
theorem le_div {a b q : Qr} (h : 0 < q) : a ≤ b / q ↔ a * q ≤ b := by
  rw [← nlt, ← nlt, Rat.div_lt_iff h]
theorem div_neg (a q : Qr) (h : q ≠ 0) : a / q = (-a) / (-q) := by
  have h2 : -q ≠ 0 := fun z => h (by grind)
  have e1 : a / q * q = a := Rat.div_mul_cancel h
  have e2 : (-a) / (-q) * (-q) = -a := Rat.div_mul_cancel h2
  have e3 : (a / q - (-a) / (-q)) * q = 0 := by grind
  have := Rat.mul_eq_zero.mp e3
  rcases this with z | z
  · grind
  · exact absurd z h
theorem back_set {p : Lp} {s : Qr × Qr} (hs : s.1 ≤ s.2) (hq : p.q ≠ 0) (x : Qr) : In (if (s.2 - p.r) / p.q < (s.1 - p.r) / p.q then ((s.2 - p.r) / p.q, (s.1 - p.r) / p.q) else ((s.1 - p.r) / p.q, (s.2 - p.r) / p.q)) x ↔ In s (p.q * x + p.r) := by
  unfold In
  have tri : p.q < 0 ∨ p.q = 0 ∨ 0 < p.q := by
    by_cases a : p.q < 0
    · exact .inl a
    · by_cases b : 0 < p.q
      · exact .inr (.inr b)
      · exact .inr (.inl (Rat.le_antisymm (nlt.mp b) (nlt.mp a)))
  rcases tri with h | h | h
  · have hn : 0 < -p.q := by grind
    have e1 : (s.1 - p.r) / p.q = (-(s.1 - p.r)) / (-p.q) := div_neg _ _ hq
    have e2 : (s.2 - p.r) / p.q = (-(s.2 - p.r)) / (-p.q) := div_neg _ _ hq
    have f1 : (s.2 - p.r) / p.q ≤ x ↔ p.q * x + p.r ≤ s.2 := by
      rw [e2, div_le hn]
      constructor <;> intro _ <;> grind
    have f2 : x ≤ (s.1 - p.r) / p.q ↔ s.1 ≤ p.q * x + p.r := by
      rw [e1, le_div hn]
      constructor <;> intro _ <;> grind
    have g : (s.2 - p.r) / p.q ≤ (s.1 - p.r) / p.q := by
      rw [e1, e2, div_le hn, Rat.div_mul_cancel (by grind)]
      grind
    split
    · dsimp only
      rw [f1, f2]
      exact And.comm
    · rename_i hlt
      have e : (s.2 - p.r) / p.q = (s.1 - p.r) / p.q := Rat.le_antisymm g (nlt.mp hlt)
      dsimp only
      rw [e] at f1 ⊢
      rw [← e] at f2 ⊢
      rw [f2, e, f1]
      exact And.comm
  · exact absurd h hq
  · have f1 : (s.1 - p.r) / p.q ≤ x ↔ s.1 ≤ p.q * x + p.r := by
      rw [div_le h]
      constructor <;> intro _ <;> grind
    have f2 : x ≤ (s.2 - p.r) / p.q ↔ p.q * x + p.r ≤ s.2 := by
      rw [le_div h]
      constructor <;> intro _ <;> grind
    have g : (s.1 - p.r) / p.q ≤ (s.2 - p.r) / p.q := by
      rw [div_le h, Rat.div_mul_cancel hq]
      grind
    rw [if_neg (nlt.mpr g)]
    dsimp only
    rw [f1, f2]
theorem back_some {p : Lp} {s t : Qr × Qr} (hs : s.1 ≤ s.2) (h : backP p s = some t) : t.1 ≤ t.2 ∧ ∀ x, In t x ↔ Hld p x ∧ In s (p.q * x + p.r) := by
  unfold backP at h
  split at h
  · rename_i hq
    split at h
    · cases h
    · rename_i u e
      cases h
      have m := meet_some e
      refine ⟨own_le p, fun x => ?_⟩
      have hr : In s p.r := by
        have := (m.2 u.1).mp ⟨Rat.le_refl, m.1⟩
        have e1 : u.1 = p.r := by
          have h1 := this.1.1
          have h2 := this.1.2
          exact Rat.le_antisymm h2 h1
        rw [← e1]
        exact this.2
      rw [hq, Rat.zero_mul, Rat.zero_add]
      exact ⟨fun h => ⟨h, hr⟩, fun h => h.1⟩
  · rename_i hq
    have m := meet_some h
    exact ⟨m.1, fun x => by rw [m.2 x, back_set hs hq]; rfl⟩
theorem back_none {p : Lp} {s : Qr × Qr} (hs : s.1 ≤ s.2) (h : backP p s = none) (x : Qr) : ¬ (Hld p x ∧ In s (p.q * x + p.r)) := by
  unfold backP at h
  split at h
  · rename_i hq
    split at h
    · rename_i e
      rintro ⟨_, h2⟩
      rw [hq, Rat.zero_mul, Rat.zero_add] at h2
      exact meet_none e p.r ⟨⟨Rat.le_refl, Rat.le_refl⟩, h2⟩
    · cases h
  · rename_i hq
    rintro ⟨h1, h2⟩
    exact meet_none h x ⟨h1, (back_set hs hq x).mpr h2⟩
theorem backS_some {w : List Lp} : ∀ {s : Qr × Qr}, backS w = some s → s.1 ≤ s.2 ∧ ∀ x, In s x ↔ goes w x := by
  induction w with
  | nil => intro s h; cases h
  | cons p w ih =>
    intro s h
    cases w with
    | nil =>
      cases h
      exact ⟨own_le p, fun x => ⟨fun h => ⟨h, trivial⟩, fun h => h.1⟩⟩
    | cons q w =>
      rw [backS_cons (by simp)] at h
      cases e : backS (q :: w) with
      | none => rw [e] at h; cases h
      | some t =>
        rw [e] at h
        have m := ih e
        have b := back_some m.1 h
        exact ⟨b.1, fun x => by rw [b.2 x, m.2]; rfl⟩
theorem backS_no {w : List Lp} (hw : w ≠ []) (h : backS w = none) (x : Qr) : ¬ goes w x := by
  induction w generalizing x with
  | nil => exact absurd rfl hw
  | cons p w ih =>
    cases w with
    | nil => cases h
    | cons q w =>
      rw [backS_cons (by simp)] at h
      rintro ⟨h1, h2⟩
      cases e : backS (q :: w) with
      | none => exact ih (by simp) e _ h2
      | some t =>
        rw [e] at h
        have m := backS_some e
        exact back_none m.1 h x ⟨h1, (m.2 _).mpr h2⟩
theorem in_one {s t : Qr × Qr} (hs : s.1 ≤ s.2) (ht : t.1 ≤ t.2) (h : ∀ x, In s x ↔ In t x) : s = t := by
  have a := (h s.1).mp ⟨Rat.le_refl, hs⟩
  have b := (h s.2).mp ⟨hs, Rat.le_refl⟩
  have c := (h t.1).mpr ⟨Rat.le_refl, ht⟩
  have d := (h t.2).mpr ⟨ht, Rat.le_refl⟩
  exact Prod.ext (Rat.le_antisymm c.1 a.1) (Rat.le_antisymm b.2 d.2)
theorem backS_eq {w : List Lp} {s : Qr × Qr} (hw : w ≠ []) (hs : s.1 ≤ s.2) (h : ∀ x, In s x ↔ goes w x) : backS w = some s := by
  cases e : backS w with
  | none => exact absurd ((h s.1).mp ⟨Rat.le_refl, hs⟩) (backS_no hw e _)
  | some t =>
    have m := backS_some e
    rw [in_one m.1 hs fun x => (m.2 x).trans (h x).symm]
theorem backS_em {w : List Lp} (h : ∀ x, ¬ goes w x) : backS w = none := by
  cases e : backS w with
  | none => rfl
  | some t =>
    have m := backS_some e
    exact absurd ((m.2 t.1).mp ⟨Rat.le_refl, m.1⟩) (h _)
def rowW (w : List Lp) : Qr := w.foldl (fun a p => p.q * a) 1
def shW (w : List Lp) : Qr := w.foldl (fun a p => p.q * a + p.r) 0
theorem rowW_app (w : List Lp) (p : Lp) : rowW (w ++ [p]) = p.q * rowW w := by unfold rowW; rw [List.foldl_append]; rfl
theorem shW_app (w : List Lp) (p : Lp) : shW (w ++ [p]) = p.q * shW w + p.r := by unfold shW; rw [List.foldl_append]; rfl
def posW (w : List Lp) (x : Qr) : Qr := w.foldl (fun x p => p.q * x + p.r) x
theorem posW_app (w : List Lp) (p : Lp) (x : Qr) : posW (w ++ [p]) x = p.q * posW w x + p.r := by unfold posW; rw [List.foldl_append]; rfl
theorem rev_ind {α : Type} {P : List α → Prop} (h0 : P []) (h : ∀ w p, P w → P (w ++ [p])) : ∀ w, P w := fun w => by
  rw [← List.reverse_reverse w]
  induction w.reverse with
  | nil => exact h0
  | cons p v ih => rw [List.reverse_cons]; exact h _ _ ih
theorem posW_eq (x : Qr) : ∀ w, posW w x = rowW w * x + shW w := rev_ind (by show x = 1 * x + 0; grind) fun w p ih => by
  rw [posW_app, rowW_app, shW_app, ih]
  grind
theorem goes_app : ∀ (w : List Lp) (v : List Lp) (x : Qr), goes (w ++ v) x ↔ goes w x ∧ goes v (posW w x)
  | [], v, x => ⟨fun h => ⟨trivial, h⟩, fun h => h.2⟩
  | p :: w, v, x => by
    show (Hld p x ∧ goes (w ++ v) _) ↔ (Hld p x ∧ goes w _) ∧ goes v (posW w (p.q * x + p.r))
    rw [goes_app w v]
    exact and_assoc.symm
theorem goes_snoc (w : List Lp) (p : Lp) (x : Qr) : goes (w ++ [p]) x ↔ goes w x ∧ Hld p (rowW w * x + shW w) := by
  rw [goes_app, posW_eq]
  exact ⟨fun h => ⟨h.1, h.2.1⟩, fun h => ⟨h.1, h.2, trivial⟩⟩
theorem rowW_b {w : List Lp} (hw : ∀ p ∈ w, LpOk p) : Qb (20 * w.length + 1) (rowW w) := by
  revert hw
  refine rev_ind (P := fun w => (∀ p ∈ w, LpOk p) → Qb (20 * w.length + 1) (rowW w)) (fun _ => qb_int (i := 1) (by decide)) (fun w p ih hw => ?_) w
  rw [rowW_app, List.length_append, List.length_singleton]
  exact ((hw p (by simp)).sq.qb.mul (ih fun z hz => hw z (List.mem_append_left _ hz))).mono (by omega)
theorem shW_b {w : List Lp} (hw : ∀ p ∈ w, LpOk p) : Qb (41 * w.length + 1) (shW w) := by
  revert hw
  refine rev_ind (P := fun w => (∀ p ∈ w, LpOk p) → Qb (41 * w.length + 1) (shW w)) (fun _ => qb_int (i := 0) (by decide)) (fun w p ih hw => ?_) w
  rw [shW_app, List.length_append, List.length_singleton]
  exact (((hw p (by simp)).sq.qb.mul (ih fun z hz => hw z (List.mem_append_left _ hz))).add (hw p (by simp)).sr.qb).mono (by omega)
def srt (a b : Qr) : Qr × Qr := if b < a then (b, a) else (a, b)
theorem srt_le (a b : Qr) : (srt a b).1 ≤ (srt a b).2 := by
  unfold srt
  split
  · exact Rat.le_of_lt (by assumption)
  · exact nlt.mp (by assumption)
theorem on_srt (p : Lp) (a b : Qr) : onS p (srt a b) = srt (p.q * a + p.r) (p.q * b + p.r) := by
  unfold onS srt
  split
  · dsimp only
    split
    · rename_i h1 h2
      rw [if_neg (nlt.mpr (Rat.le_of_lt h2))]
    · rename_i h1 h2
      split
      · rfl
      · rename_i h3
        have e := Rat.le_antisymm (nlt.mp h2) (nlt.mp h3)
        rw [e]
  · rfl
theorem goalW_eq {s : Qr × Qr} (hs : s.1 ≤ s.2) : ∀ w, goalW w s = srt (rowW w * s.1 + shW w) (rowW w * s.2 + shW w) := rev_ind (by
    show s = srt (1 * s.1 + 0) (1 * s.2 + 0)
    rw [Rat.one_mul, Rat.one_mul, Rat.add_zero, Rat.add_zero]
    unfold srt
    rw [if_neg (nlt.mpr hs)]) fun w p ih => by
  have e : goalW (w ++ [p]) s = onS p (goalW w s) := by unfold goalW; rw [List.foldl_append]; rfl
  rw [e, ih, on_srt, rowW_app, shW_app]
  congr 1 <;> grind
end DL
namespace DL
open PySem PySem.Spec PyProof.Rows L2 Evl Sup
variable [TabC]
def lowQR : DS := (dSeq (dPar 2 3 (dCons (dCal fAbs (dCons (dVar 0) dNil)) (dCons (dCal fAbs (dCons (dVar 1) dNil)) dNil))) (dSeq (dWhile (dTst (dOp (fInt gGt) (dVar 3) (dC (.int 0)))) (dPar 2 3 (dCons (dVar 3) (dCons (dOp (fIntC (fun _ j => 0 < j) fun i j => .int (i % j)) (dCal fIntOf (dCons (dVar 2) dNil)) (dVar 3)) dNil)))) (dSeq (dSet 4 (dIf (dTst (dOp (fInt gGt) (dVar 1) (dC (.int 0)))) (dVar 2) (dNeg (dVar 2)))) (dSeq (dPar 0 1 (dCons (dOp (fIntC CDivZ fun i j => .int (Int.fdiv i j)) (dVar 0) (dVar 4)) (dCons (dOp (fIntC CDivZ fun i j => .int (Int.fdiv i j)) (dVar 1) (dVar 4)) dNil))) (dRet (dIf (dTst (dOp fEq (dVar 1) (dC (.int 1)))) (dVar 0) (dTup (dCons (dVar 0) (dCons (dVar 1) dNil)))))))))
theorem lowQ_ok (xs : List D) (G : Gm) (R : KD) (RX : XD) (h : sp_qlow xs G R RX) : lowQR { nx := fun _ G => R .non G, rt := R } (xs.map some ++ List.replicate (5 - xs.length) none) G := by
  obtain ⟨a, u, rfl, hu, hu2, h⟩ := h
  obtain ⟨n, d, s0, sl, ea, eu, d0, g1, l1⟩ := lowZ_facts (a := a) hu
  rw [← low_ofQ hu, l1] at h
  have cz : ∀ i, CDivZ i (sgZ a u) := fun i => divZ_ok s0 (Nat.lt_of_le_of_lt sl hu2)
  refine ds_par (.absN (.var rfl)) (.absN (.var rfl)) ?_
  refine while_gcd2 (p := a.natAbs) (q := u.natAbs) (by decide) (fun ρ G p h => .intOf (.var h)) rfl rfl fun ρ' r2 ho => ?_
  have r0 : ρ'[0]? = some (some (.int a)) := ho 0 (by decide) (by decide)
  have r1 : ρ'[1]? = some (some (.int u)) := ho 1 (by decide) (by decide)
  have r4 : ρ'[4]? = some none := ho 4 (by decide) (by decide)
  have l4 : 4 < ρ'.length := (List.getElem?_eq_some_iff.mp r4).1
  have eg' : ((Nat.gcd a.natAbs u.natAbs : Nat) : Int) = (Int.gcd a u : Int) := rfl
  rw [eg'] at r2
  dsimp only
  refine ds_set (x := .int (sgZ a u)) ?_ ?_
  · by_cases hp : 0 < u
    · rw [show sgZ a u = (Int.gcd a u : Int) from if_pos hp]
      exact .ifT ((EvT.tst (.gt (.var r1) .c)).cast (decide_eq_true hp)) (.var r2)
    · rw [show sgZ a u = -(Int.gcd a u : Int) from if_neg hp]
      exact .ifF ((EvT.tst (.gt (.var r1) .c)).cast (decide_eq_false hp)) (.neg (.var r2))
  · generalize sgZ a u = s at *
    have q0 : (ρ'.set 4 (some (.int s)))[0]? = some (some (.int a)) := by rw [List.getElem?_set_ne (by decide)]; exact r0
    have q1 : (ρ'.set 4 (some (.int s)))[1]? = some (some (.int u)) := by rw [List.getElem?_set_ne (by decide)]; exact r1
    have q4 : (ρ'.set 4 (some (.int s)))[4]? = some (some (.int s)) := List.getElem?_set_self l4
    have ll : 4 < (ρ'.set 4 (some (.int s))).length := by rw [List.length_set]; exact l4
    generalize ρ'.set 4 (some (.int s)) = ρ at q0 q1 q4 ll
    refine ds_par (.divZ (.var q0) (.var q4) (cz _) ea) (.divZ (.var q1) (.var q4) (cz _) eu) ?_
    have t0 : ((ρ.set 0 (some (.int n))).set 1 (some (.int d)))[0]? = some (some (.int n)) := by rw [List.getElem?_set_ne (by decide), List.getElem?_set_self (by omega)]
    have t1 : ((ρ.set 0 (some (.int n))).set 1 (some (.int d)))[1]? = some (some (.int d)) := by rw [List.getElem?_set_self (by rw [List.length_set]; omega)]
    dsimp only
    unfold pairZ at h
    by_cases hd : d = 1
    · rw [if_pos hd] at h
      exact ds_ret (.ifT ((EvT.tst (.eqI (.var t1) .c)).cast (decide_eq_true hd)) (.var t0)) h
    · rw [if_neg hd] at h
      exact ds_ret (.ifF ((EvT.tst (.eqI (.var t1) .c)).cast (decide_eq_false hd)) (.tup (.cons (.var t0) (.cons (.var t1) .nil)) (by rw [sizeLine_eq]; exact Nat.le_of_ble_eq_true rfl))) h
def sp_qpairL : DSp := fun xs G R _ => ∃ q : Qr, xs = [ofQ q] ∧ R (.lst [.int q.num, .int q.den]) G
def pairLR : DS := (dRet (dIf (dTst (dCal (fIsi "int") (dCons (dVar 0) (dCons (dC (.ty "int")) dNil)))) (dLst (dCons (dVar 0) (dCons (dC (.int 1)) dNil))) (dLst (dCons (dIx (dVar 0) (dC (.int 0))) (dCons (dIx (dVar 0) (dC (.int 1))) dNil)))))
theorem pairL_ok (xs : List D) (G : Gm) (R : KD) (RX : XD) (h : sp_qpairL xs G R RX) : pairLR { nx := fun _ G => R .non G, rt := R } (xs.map some ++ List.replicate (1 - xs.length) none) G := by
  obtain ⟨q, rfl, h⟩ := h
  unfold pairLR
  walk_at "start"
  by_cases e : (q.den : Int) = 1
  · rw [show ofQ q = .int q.num from if_pos e]
    rw [e] at h
    walk_at "xx"
    exact h
  · rw [show ofQ q = .tup [.int q.num, .int q.den] from if_neg e]
    walk_at "xx"
    exact h
theorem mulQ {p q : Qr} (hp : Qb 2900 p) (hq : Qb 2900 q) : IntMulOk p.num q.num ∧ IntMulOk p.num q.den ∧ IntMulOk p.den q.num ∧ IntMulOk p.den q.den ∧ IntMulOk q.num p.den ∧ ((p.den : Int) * q.den).natAbs < 2 ^ 8000 ∧ ((p.den : Int) * q.num).natAbs < 2 ^ 8000 := by
  have a := hp.1
  have b : ((p.den : Int)).natAbs < 2 ^ 2900 := by rw [Int.natAbs_natCast]; exact hp.2
  have c := hq.1
  have d : ((q.den : Int)).natAbs < 2 ^ 2900 := by rw [Int.natAbs_natCast]; exact hq.2
  have e : (2 : Nat) ^ (2900 + 2900) ≤ 2 ^ 8000 := Nat.pow_le_pow_right (by decide) (by decide)
  exact ⟨mul_both a c (by decide), mul_both a d (by decide), mul_both b c (by decide), mul_both b d (by decide), mul_both c b (by decide), Nat.lt_of_lt_of_le (abs_mul_lt b d) e, Nat.lt_of_lt_of_le (abs_mul_lt b c) e⟩
theorem mul_div (p q : Qr) : Rat.divInt (p.num * q.num) (p.den * q.den) = p * q := by
  have h := Rat.divInt_mul_divInt p.num q.num (d₁ := p.den) (d₂ := q.den)
  rw [num_div, num_div] at h
  exact h.symm
def addLR : DS := (dSeq (dPar 2 3 (dCons (dCall sp_qpairL X0 (dCons (dVar 0) dNil)) (dCons (dCall sp_qpairL X0 (dCons (dVar 1) dNil)) dNil))) (dRet (dCall sp_qlow X0 (dCons (dOp fAdd (dOp (fIntC IntMulOk fun i j => .int (i * j)) (dIx (dVar 2) (dC (.int 0))) (dIx (dVar 3) (dC (.int 1)))) (dOp (fIntC IntMulOk fun i j => .int (i * j)) (dIx (dVar 3) (dC (.int 0))) (dIx (dVar 2) (dC (.int 1))))) (dCons (dOp (fIntC IntMulOk fun i j => .int (i * j)) (dIx (dVar 2) (dC (.int 1))) (dIx (dVar 3) (dC (.int 1)))) dNil)))))
theorem addL_ok (xs : List D) (G : Gm) (R : KD) (RX : XD) (h : sp_q2 (fun p q => p + q) xs G R RX) : addLR { nx := fun _ G => R .non G, rt := R } (xs.map some ++ List.replicate (4 - xs.length) none) G := by
  obtain ⟨p, q, rfl, hp, hq, h⟩ := h
  obtain ⟨m1, m2, m3, m4, m5, b1, b2⟩ := mulQ hp hq
  have dp := den_pos p
  have dq := den_pos q
  unfold addLR
  walk_at "start"
  walk_at "xx"
  refine ⟨p, rfl, ?_⟩
  walk_at "xx"
  refine ⟨q, rfl, ?_⟩
  walk_at "xx"
  refine ⟨_, _, rfl, Int.mul_ne_zero (by omega) (by omega), b1, ?_⟩
  rw [add_div]
  exact h
def mulLR : DS := (dSeq (dPar 2 3 (dCons (dCall sp_qpairL X0 (dCons (dVar 0) dNil)) (dCons (dCall sp_qpairL X0 (dCons (dVar 1) dNil)) dNil))) (dRet (dCall sp_qlow X0 (dCons (dOp (fIntC IntMulOk fun i j => .int (i * j)) (dIx (dVar 2) (dC (.int 0))) (dIx (dVar 3) (dC (.int 0)))) (dCons (dOp (fIntC IntMulOk fun i j => .int (i * j)) (dIx (dVar 2) (dC (.int 1))) (dIx (dVar 3) (dC (.int 1)))) dNil)))))
theorem mulL_ok (xs : List D) (G : Gm) (R : KD) (RX : XD) (h : sp_q2 (fun p q => p * q) xs G R RX) : mulLR { nx := fun _ G => R .non G, rt := R } (xs.map some ++ List.replicate (4 - xs.length) none) G := by
  obtain ⟨p, q, rfl, hp, hq, h⟩ := h
  obtain ⟨m1, m2, m3, m4, m5, b1, b2⟩ := mulQ hp hq
  have dp := den_pos p
  have dq := den_pos q
  unfold mulLR
  walk_at "start"
  walk_at "xx"
  refine ⟨p, rfl, ?_⟩
  walk_at "xx"
  refine ⟨q, rfl, ?_⟩
  walk_at "xx"
  refine ⟨_, _, rfl, Int.mul_ne_zero (by omega) (by omega), b1, ?_⟩
  rw [mul_div]
  exact h
def overLR : DS := (dSeq (dPar 2 3 (dCons (dCall sp_qpairL X0 (dCons (dVar 0) dNil)) (dCons (dCall sp_qpairL X0 (dCons (dVar 1) dNil)) dNil))) (dRet (dCall sp_qlow X0 (dCons (dOp (fIntC IntMulOk fun i j => .int (i * j)) (dIx (dVar 2) (dC (.int 0))) (dIx (dVar 3) (dC (.int 1)))) (dCons (dOp (fIntC IntMulOk fun i j => .int (i * j)) (dIx (dVar 2) (dC (.int 1))) (dIx (dVar 3) (dC (.int 0)))) dNil)))))
theorem overL_ok (xs : List D) (G : Gm) (R : KD) (RX : XD) (h : sp_qover xs G R RX) : overLR { nx := fun _ G => R .non G, rt := R } (xs.map some ++ List.replicate (4 - xs.length) none) G := by
  obtain ⟨p, q, rfl, hp, hq, h0, h⟩ := h
  obtain ⟨m1, m2, m3, m4, m5, b1, b2⟩ := mulQ hp hq
  have dp := den_pos p
  have nq : q.num ≠ 0 := fun z => h0 (Rat.num_eq_zero.mp z)
  unfold overLR
  walk_at "start"
  walk_at "xx"
  refine ⟨p, rfl, ?_⟩
  walk_at "xx"
  refine ⟨q, rfl, ?_⟩
  walk_at "xx"
  refine ⟨_, _, rfl, Int.mul_ne_zero (by omega) nq, b2, ?_⟩
  rw [div_q p q h0]
  exact h
def belowLR : DS := (dSeq (dPar 2 3 (dCons (dCall sp_qpairL X0 (dCons (dVar 0) dNil)) (dCons (dCall sp_qpairL X0 (dCons (dVar 1) dNil)) dNil))) (dRet (dOp (fInt gLt) (dOp (fIntC IntMulOk fun i j => .int (i * j)) (dIx (dVar 2) (dC (.int 0))) (dIx (dVar 3) (dC (.int 1)))) (dOp (fIntC IntMulOk fun i j => .int (i * j)) (dIx (dVar 3) (dC (.int 0))) (dIx (dVar 2) (dC (.int 1)))))))
theorem belowL_ok (xs : List D) (G : Gm) (R : KD) (RX : XD) (h : sp_qlt xs G R RX) : belowLR { nx := fun _ G => R .non G, rt := R } (xs.map some ++ List.replicate (4 - xs.length) none) G := by
  obtain ⟨p, q, rfl, hp, hq, h⟩ := h
  obtain ⟨m1, m2, m3, m4, m5, b1, b2⟩ := mulQ hp hq
  have e : decide (p.num * (q.den : Int) < q.num * (p.den : Int)) = decide (p < q) := by
    have := lt_q p q
    unfold ltN at this
    rw [numI_ofQ, numI_ofQ] at this
    exact this
  unfold belowLR
  walk_at "start"
  walk_at "xx"
  refine ⟨p, rfl, ?_⟩
  walk_at "xx"
  refine ⟨q, rfl, ?_⟩
  walk_at "xx"
  show R (.bl (decide (p.num * (q.den : Int) < q.num * (p.den : Int)))) G
  rw [e]
  exact h
theorem neg_qb {k : Nat} {q : Qr} (h : Qb k q) : Qb k (-q) := ⟨by show (-q.num).natAbs < _; rw [Int.natAbs_neg]; exact h.1, h.2⟩
def lessLR : DS := (dRet (dCall (sp_q2 fun p q => p + q) X0 (dCons (dVar 0) (dCons (dCall (sp_q2 fun p q => p * q) X0 (dCons (dNeg (dC (.int 1))) (dCons (dVar 1) dNil))) dNil))))
theorem lessL_ok (xs : List D) (G : Gm) (R : KD) (RX : XD) (h : sp_q2 (fun p q => p - q) xs G R RX) : lessLR { nx := fun _ G => R .non G, rt := R } (xs.map some ++ List.replicate (2 - xs.length) none) G := by
  obtain ⟨p, q, rfl, hp, hq, h⟩ := h
  unfold lessLR
  walk_at "start"
  walk_at "xx"
  refine ⟨((-1 : Int) : Qr), q, rfl, qb_int (Nat.one_lt_two_pow (by decide)), hq, ?_⟩
  have e : ((-1 : Int) : Qr) * q = -q := by
    have o : ((-1 : Int) : Qr) = -1 := rfl
    rw [o]
    grind
  rw [show (fun p q : Qr => p * q) ((-1 : Int) : Qr) q = -q from e]
  walk_at "xx"
  refine ⟨p, -q, rfl, hp, neg_qb hq, ?_⟩
  rw [show (fun p q : Qr => p + q) p (-q) = p - q from (Rat.sub_eq_add_neg p q).symm]
  exact h
theorem Bq.mul {a b c d : Nat} {p q : Qr} (hp : Bq a b p) (hq : Bq c d q) : Bq (a * c) (b * d) (p * q) := by
  rw [← mul_div]
  have dp := den_pos p
  have dq := den_pos q
  refine Bq.low (Int.mul_ne_zero (by omega) (by omega)) ?_ ?_
  · rw [Int.natAbs_mul]
    exact Nat.mul_le_mul hp.1 hq.1
  · rw [Int.natAbs_mul, Int.natAbs_natCast, Int.natAbs_natCast]
    exact Nat.mul_le_mul hp.2 hq.2
theorem bq_int {i : Int} {a : Nat} (h : i.natAbs ≤ a) : Bq a 1 (i : Qr) := ⟨h, Nat.le_refl 1⟩
def sp_partQ : DSp := fun xs G R _ => ∃ (a : Addr) (T : Nat), xs = [.ref a] ∧ GauAt G a T ∧ T + 2 ≤ 1000000000 ∧ ∀ (q : Qr) m, 0 ≤ q → q ≤ 1 → Bq 4 4 q → Gau m (T + 2) → R (ofQ q) (gup G a m)
def partQR : DS := (dSeq (dSet 1 (dOp fAdd (dC (.int 1)) (dCall spDial X0 (dCons (dVar 0) (dCons (dC (.int 4)) dNil))))) (dRet (dCall sp_qlow X0 (dCons (dCall spDial X0 (dCons (dVar 0) (dCons (dOp fAdd (dVar 1) (dC (.int 1))) dNil))) (dCons (dVar 1) dNil)))))
theorem part_le {v u : Int} (h0 : 0 ≤ v) (h1 : v ≤ u) (hu : 0 < u) : (0 : Qr) ≤ Rat.divInt v u ∧ Rat.divInt v u ≤ 1 := by
  refine ⟨Rat.divInt_nonneg h0 (by omega), ?_⟩
  have e : Rat.divInt v u * ((u : Int) : Qr) = ((v : Int) : Qr) := by
    rw [Rat.divInt_eq_div]
    exact Rat.div_mul_cancel fun z => by
      have := Rat.intCast_inj.mp (z.trans (show (0 : Qr) = ((0 : Int) : Qr) from rfl))
      omega
  have hb' : (0 : Qr) < ((u : Int) : Qr) := (Rat.intCast_lt_intCast (a := 0) (b := u)).mpr hu
  have ab : ((v : Int) : Qr) ≤ ((u : Int) : Qr) := (int_q v u).mpr h1
  refine Rat.not_lt.mp fun z => ?_
  have := Rat.mul_lt_mul_of_pos_right z hb'
  rw [e, Rat.one_mul] at this
  exact absurd ab (Rat.not_le.mpr this)
theorem partQ_ok (xs : List D) (G : Gm) (R : KD) (RX : XD) (h : sp_partQ xs G R RX) : partQR { nx := fun _ G => R .non G, rt := R } (xs.map some ++ List.replicate (2 - xs.length) none) G := by
  obtain ⟨a, T, rfl, hg, hT, h⟩ := h
  unfold partQR
  walk_at "start"
  walk_at "xx"
  refine DL.Y.dialN hg (by omega) (by decide) (by decide) fun v m hv hm => ?_
  walk_at "xx"
  refine DL.Y.dialN (gau_gup hm) (by omega) (by omega) (by omega) fun u m1 hu hm1 => ?_
  rw [gup_gup]
  walk_at "xx"
  have b : ((1 : Int) + v).natAbs < 2 ^ 8000 := Nat.lt_of_le_of_lt (show ((1 : Int) + v).natAbs ≤ 4 by omega) (Nat.lt_of_lt_of_le (show 4 < 2 ^ 3 by decide) (Nat.pow_le_pow_right (by decide) (by decide)))
  refine ⟨_, _, rfl, by omega, b, ?_⟩
  have pl := part_le (v := (u : Int)) (u := 1 + (v : Int)) (by omega) (by omega) (by omega)
  exact h _ m1 pl.1 pl.2 (Bq.low (by omega) (by omega) (by omega)) hm1
end DL
namespace DL
open PySem PySem.Spec PyProof.Rows L2 Evl Sup
variable [TabC]
theorem Y.bind {de : DE} {ρ : En} {G : Gm} {R : KD} (P : KD) (h1 : ∀ R0 : KD, (∀ x G1, P x G1 → R0 x G1) → de ρ G R0) (h2 : ∀ x G1, P x G1 → R x G1) : de ρ G R := h1 R h2
theorem lpt_inj {p q : Lp} (h : p.t = q.t) : p = q := by
  unfold Lp.t at h
  injection h with h
  injection h with h1 h2
  injection h2 with h2 h3
  injection h3 with h3 _
  injection h1 with h1
  have e2 := ofQ_inj h2
  have e3 := ofQ_inj h3
  obtain ⟨a, b, c⟩ := p
  obtain ⟨a', b', c'⟩ := q
  dsimp only at *
  rw [h1, e2, e3]
theorem fn_cor {i : Int} (h : -1000 ≤ i ∧ i ≤ 1000) : Fn 0 1 (.int i) := fn_int (Nat.lt_of_le_of_lt (show i.natAbs ≤ 1000 by omega) (Nat.lt_of_lt_of_le (show 1000 < 10 ^ 4 by decide) (Nat.pow_le_pow_right (by decide) (by decide))))
theorem fn_lpt {p : Lp} (h : LpOk p) : Fn 2 10 p.t := by
  refine Fn.mono (fn_seq (n := 3) (d := 1) (s := 3) (fun x hx => ?_) (Nat.le_refl _)).1
  simp only [List.mem_cons, List.mem_nil_iff, or_false] at hx
  rcases hx with rfl | rfl | rfl
  · exact (fn_cor h.cb).mono
  · exact fn_q h.sq.qb
  · exact fn_q h.sr.qb
theorem fn_lpts {n : Nat} {ps : List Lp} (h : ∀ p ∈ ps, LpOk p) (hl : ps.length ≤ n) (hn : n ≤ 1000000 := by decide) : Fn 3 (n * 10 + 1) (.lst (ps.map Lp.t)) := (fn_seq (fun x hx => by
  obtain ⟨p, hp, rfl⟩ := List.mem_map.mp hx
  exact fn_lpt (h p hp)) (by rw [List.length_map]; exact hl) hn).2
theorem any_lpt {ps : List Lp} {p : Lp} (h : ∀ q ∈ ps, LpOk q) (hp : LpOk p) : ((ps.map Lp.t).any fun z => D.eqv z p.t) = true ↔ p ∈ ps := by
  rw [List.any_eq_true]
  constructor
  · rintro ⟨z, hz, e⟩
    obtain ⟨q, hq, rfl⟩ := List.mem_map.mp hz
    have := lpt_inj ((eqv_iff (fn_lpt (h q hq)).pln (fn_lpt hp).pln).mp e)
    rw [← this]
    exact hq
  · exact fun hz => ⟨_, List.mem_map.mpr ⟨p, hz, rfl⟩, (eqv_iff (fn_lpt hp).pln (fn_lpt hp).pln).mpr rfl⟩
structure LsO (ps : List Lp) : Prop where
  ne : ps ≠ []
  le : ps.length ≤ 60
  ok : ∀ p ∈ ps, LpOk p
  nd : ps.Nodup
theorem lpc_inj {p q : Lp} (h : p.pc = q.pc) : p = q := by
  obtain ⟨a, b, c⟩ := p
  obtain ⟨a', b', c'⟩ := q
  unfold Lp.pc at h
  injection h with h1 h2 h3
  injection h1 with h1 _
  injection h2 with h2 _
  injection h2 with h2 _
  injection h3 with h3 _
  have e1 : a = a' := h1
  have e2 : b = b' := h2
  have e3 : c = c' := h3
  rw [e1, e2, e3]
theorem LsO.mkp {ps : List Lp} (h : LsO ps) : MkP 1 (ps.map Lp.pc) where
  h1 := Nat.le_refl _
  h2 := by decide
  ne := fun z => h.ne (List.map_eq_nil_iff.mp z)
  le := by rw [List.length_map]; exact h.le
  ok := fun p hp => by
    obtain ⟨l, hl, rfl⟩ := List.mem_map.mp hp
    exact lp_ok (h.ok l hl)
  nd := nd_pcs (List.pairwise_map.mpr (h.nd.imp fun hne e => hne (lpc_inj e)))
def sp_triples : DSp := fun xs G R _ => ∃ (a : Addr) (k T : Nat), xs = [.ref a, .int k] ∧ 1 ≤ k ∧ k ≤ 50 ∧ GauAt G a T ∧ T + 2 + 20 * k ≤ 1000000000 ∧ ∀ (ps : List Lp) m, LsO ps → ps.length ≤ k → (∀ p ∈ ps, -1000 ≤ p.c ∧ p.c ≤ 902 ∧ Bq 4 3 p.q ∧ Bq 112240 48 p.r) → Gau m (T + 2 + 20 * k) → R (.lst (ps.map Lp.t)) (gup G a m)
def triplesR : DS := (dSeq (dPar3 2 3 4 (dCons (dCall spPick X0 (dCons (dVar 0) (dCons (dLst (dCons (dC (.int 0)) (dCons (dC (.int 0)) (dCons (dC (.int 1)) (dCons (dNeg (dC (.int 2))) (dCons (dC (.int 900)) (dCons (dNeg (dC (.int 1000))) (dCons (dC (.int 7)) dNil)))))))) dNil))) (dCons (dOp fAdd (dC (.int 1)) (dCall spDial X0 (dCons (dVar 0) (dCons (dVar 1) dNil)))) (dCons (dLstM dNil) dNil)))) (dSeq (dFor (dIRng1 (dVar 3)) (gN 5) (dSeq (dPar 6 7 (dCons (dOp fAdd (dVar 2) (dCall spDial X0 (dCons (dVar 0) (dCons (dC (.int 3)) dNil)))) (dCons (dOp fAdd (dVar 2) (dCall spDial X0 (dCons (dVar 0) (dCons (dC (.int 3)) dNil)))) dNil))) (dSeq (dSet 8 (dCall spPick X0 (dCons (dVar 0) (dCons (dLst (dCons (dCall sp_qlow X0 (dCons (dOp fAdd (dC (.int 1)) (dCall spDial X0 (dCons (dVar 0) (dCons (dC (.int 4)) dNil)))) (dCons (dOp fAdd (dC (.int 1)) (dCall spDial X0 (dCons (dVar 0) (dCons (dC (.int 3)) dNil)))) dNil))) (dCons (dC (.int 1)) (dCons (dC (.int 2)) (dCons (dTup (dCons (dC (.int 1)) (dCons (dC (.int 2)) dNil))) (dCons (dIf (dTst (dOp fEq (dCall spDial X0 (dCons (dVar 0) (dCons (dC (.int 3)) dNil))) (dC (.int 0)))) (dC (.int 0)) (dC (.int 3))) dNil)))))) dNil)))) (dSeq (dSet 8 (dIf (dTst (dOp fEq (dCall spDial X0 (dCons (dVar 0) (dCons (dC (.int 4)) dNil))) (dC (.int 0)))) (dCall (sp_q2 fun p q => p * q) X0 (dCons (dNeg (dC (.int 1))) (dCons (dVar 8) dNil))) (dVar 8))) (dSeq (dSet 9 (dCall (sp_q2 fun p q => p - q) X0 (dCons (dCall (sp_q2 fun p q => p + q) X0 (dCons (dVar 7) (dCons (dCall sp_partQ X0 (dCons (dVar 0) dNil)) dNil))) (dCons (dCall (sp_q2 fun p q => p * q) X0 (dCons (dVar 8) (dCons (dCall (sp_q2 fun p q => p + q) X0 (dCons (dVar 6) (dCons (dCall sp_partQ X0 (dCons (dVar 0) dNil)) dNil))) dNil))) dNil)))) (dIfS (dTst (dInL true (dTup (dCons (dVar 6) (dCons (dVar 8) (dCons (dVar 9) dNil)))) (dVar 4))) (dDrop (dApp (dVar 4) (dTup (dCons (dVar 6) (dCons (dVar 8) (dCons (dVar 9) dNil)))))) dNext)))))) (dFrz 4 (dRet (dVar 4)))))
theorem triples_ok (xs : List D) (G : Gm) (R : KD) (RX : XD) (h : sp_triples xs G R RX) : triplesR { nx := fun _ G => R .non G, rt := R } (xs.map some ++ List.replicate (10 - xs.length) none) G := by
  obtain ⟨a, k, T, rfl, k1, k2, ⟨m, eg, hm⟩, hT, h⟩ := h
  unfold triplesR
  walk_at "start"
  rw [← gup_id eg]
  walk_at "xx"
  refine DL.Y.pickL (gau_gup hm) (by omega) (by simp) (Nat.le_of_ble_eq_true rfl) fun y m1 hy hm1 => ?_
  rw [gup_gup]
  obtain ⟨f, rfl, hf⟩ : ∃ f : Int, y = .int f ∧ (-1000 ≤ f ∧ f ≤ 900) := by
    simp only [List.mem_cons, List.mem_nil_iff, or_false] at hy
    rcases hy with rfl | rfl | rfl | rfl | rfl | rfl | rfl
    all_goals exact ⟨_, rfl, by decide, by decide⟩
  walk_at "xx"
  refine DL.Y.dialN (gau_gup hm1) (by omega) (by omega) (by omega) fun v m2 hv hm2 => ?_
  rw [gup_gup]
  obtain ⟨n, en, n1, n2⟩ : ∃ n : Nat, (1 + (v : Int)) = n ∧ 1 ≤ n ∧ n ≤ k := ⟨1 + v, by omega, by omega, by omega⟩
  refine DL.Y.oadd ?_
  rw [en]
  walk_at "xx"
  refine fun p hp => ?_
  have hap : a ≠ p := fun z => by rw [← z, gup_same] at hp; cases hp
  have hpG : G p = none := by rw [gup_ne (Ne.symm hap)] at hp; exact hp
  walk_at "xx"
  refine forL_at (fun rest ρ G' => ∃ (ps : List Lp) (m : Mt) (o5 o6 o7 o8 o9 : Option D), ρ = [some (.ref a), some (.int k), some (.int f), some (.int n), some (.ref p), o5, o6, o7, o8, o9] ∧ G' = gup (gup G a m) p (.lst (ps.map Lp.t)) ∧ Gau m (T + 2 + 20 * (n - rest.length)) ∧ rest.length ≤ n ∧ ps.length + rest.length ≤ n ∧ (rest.length < n → ps ≠ []) ∧ (∀ p ∈ ps, LpOk p ∧ -1000 ≤ p.c ∧ p.c ≤ 902 ∧ Bq 4 3 p.q ∧ Bq 112240 48 p.r) ∧ ps.Nodup) ?_ ?_ ?_
  · rintro x rest N ρ G1 hsuf hN ⟨ps, m, o5, o6, o7, o8, o9, rfl, rfl, hm, hr, hl, hne, hok, hnd⟩
    rw [List.length_cons] at hm hr hl hne
    generalize hT0 : T + 2 + 20 * (n - (rest.length + 1)) = T0 at hm
    have hT1 : T0 + 20 ≤ 1000000000 := by omega
    generalize hL : Mt.lst (ps.map Lp.t) = L
    walk_at "xx"
    refine DL.Y.dialN (gau_in hap hm) (by omega) (by decide) (by decide) fun c m1 hc hm1 => ?_
    rw [gup_in hap]
    walk_at "xx"
    refine DL.Y.dialN (gau_in hap hm1) (by omega) (by decide) (by decide) fun g m2 hg2 hm2 => ?_
    rw [gup_in hap]
    walk_at "xx"
    refine DL.Y.dialN (gau_in hap hm2) (by omega) (by decide) (by decide) fun v m3 hv hm3 => ?_
    rw [gup_in hap]
    walk_at "xx"
    refine DL.Y.dialN (gau_in hap hm3) (by omega) (by decide) (by decide) fun u m4 hu hm4 => ?_
    rw [gup_in hap]
    have b : ((1 : Int) + u).natAbs < 2 ^ 8000 := Nat.lt_of_le_of_lt (show ((1 : Int) + u).natAbs ≤ 4 by omega) (Nat.lt_of_lt_of_le (show 4 < 2 ^ 3 by decide) (Nat.pow_le_pow_right (by decide) (by decide)))
    walk_at "xx"
    refine ⟨_, _, rfl, by omega, b, ?_⟩
    have bl : Bq 4 3 (Rat.divInt (1 + (v : Int)) (1 + u)) := Bq.low (by omega) (by omega) (by omega)
    walk_at "xs"
    refine DL.Y.bind (P := fun x G1 => ∃ (q : Qr) (m : Mt), x = ofQ q ∧ Bq 4 3 q ∧ Gau m (T0 + 5) ∧ G1 = gup (gup G a m) p L) (fun R0 hk => ?_) ?_
    · walk_at "xx"
      refine DL.Y.dialN (gau_in hap hm4) (by omega) (by decide) (by decide) fun w m5 hw hm5 => ?_
      rw [gup_in hap]
      by_cases hw0 : (w : Int) = 0
      · walk_at "xx"
        exact hk _ _ ⟨((0 : Int) : Qr), m5, rfl, (bq_int (a := 0) (by decide)).mono, hm5, rfl⟩
      · walk_at "xx"
        exact hk _ _ ⟨((3 : Int) : Qr), m5, rfl, (bq_int (a := 3) (by decide)).mono, hm5, rfl⟩
    rintro x5 G5 ⟨q5, m5, rfl, hq5, hm5, rfl⟩
    walk_at "xx"
    refine DL.Y.pickL (gau_in hap hm5) (by omega) (by simp) (Nat.le_of_ble_eq_true rfl) fun y m6 hy hm6 => ?_
    rw [gup_in hap]
    obtain ⟨q, rfl, hq⟩ : ∃ q : Qr, y = ofQ q ∧ Bq 4 3 q := by
      simp only [List.mem_cons, List.mem_nil_iff, or_false] at hy
      rcases hy with rfl | rfl | rfl | rfl | rfl
      · exact ⟨_, rfl, bl⟩
      · exact ⟨((1 : Int) : Qr), rfl, (bq_int (a := 1) (by decide)).mono⟩
      · exact ⟨((2 : Int) : Qr), rfl, (bq_int (a := 2) (by decide)).mono⟩
      · exact ⟨(⟨1, 2, by decide, by decide⟩ : Qr), rfl, by decide, by decide⟩
      · exact ⟨q5, rfl, hq5⟩
    walk_at "xs"
    refine DL.Y.bind (P := fun x G1 => ∃ (q : Qr) (m : Mt), x = ofQ q ∧ Bq 4 3 q ∧ Gau m (T0 + 7) ∧ G1 = gup (gup G a m) p L) (fun R0 hk => ?_) ?_
    · walk_at "xx"
      refine DL.Y.dialN (gau_in hap hm6) (by omega) (by decide) (by decide) fun w m7 hw hm7 => ?_
      rw [gup_in hap]
      by_cases hw0 : (w : Int) = 0
      · walk_at "xx"
        refine ⟨((-1 : Int) : Qr), q, rfl, qb_int (Nat.one_lt_two_pow (by decide)), (hq.qb (k := 10)).mono, ?_⟩
        exact hk _ _ ⟨_, m7, rfl, ((bq_int (i := -1) (a := 1) (by decide)).mul hq).mono, hm7, rfl⟩
      · walk_at "xx"
        exact hk _ _ ⟨q, m7, rfl, hq, hm7, rfl⟩
    rintro x7 G7 ⟨q7, m7, rfl, hq7, hm7, rfl⟩
    walk_at "xx"
    refine ⟨a, _, rfl, gau_in hap hm7, by omega, fun f1 m8 f10 f11 hf1 hm8 => ?_⟩
    rw [gup_in hap]
    have bg : Bq 1000 1 (((f + g : Int)) : Qr) := bq_int (by omega)
    have bc : Bq 1000 1 (((f + c : Int)) : Qr) := bq_int (by omega)
    have b1 := bg.add hf1
    walk_at "xx"
    refine ⟨((f + g : Int) : Qr), f1, rfl, (bg.qb (k := 30)).mono, (hf1.qb (k := 30)).mono, ?_⟩
    walk_at "xx"
    refine ⟨a, _, rfl, gau_in hap hm8, by omega, fun f2 m9 f20 f21 hf2 hm9 => ?_⟩
    rw [gup_in hap]
    have b2 := bc.add hf2
    walk_at "xx"
    refine ⟨((f + c : Int) : Qr), f2, rfl, (bc.qb (k := 30)).mono, (hf2.qb (k := 30)).mono, ?_⟩
    have b3 := hq7.mul b2
    walk_at "xx"
    refine ⟨q7, _, rfl, (hq7.qb (k := 30)).mono, (b2.qb (k := 30)).mono, ?_⟩
    have b4 := b1.sub b3
    walk_at "xx"
    refine ⟨_, _, rfl, (b1.qb (k := 30)).mono, (b3.qb (k := 30)).mono, ?_⟩
    dsimp only
    generalize hr0 : (((f + g : Int)) : Qr) + f1 - q7 * ((((f + c : Int)) : Qr) + f2) = r at b4
    have br : Bq 112240 48 r := b4.mono
    have hq : LpOk ⟨f + c, q7, r⟩ := ⟨(hq7.mono (c := 1000000) (d := 1000)).sm, (br.mono (c := 1000000) (d := 1000)).sm, by show -1000 ≤ f + (c : Int) ∧ f + (c : Int) ≤ 1000; omega⟩
    have hq2 : -1000 ≤ (⟨f + c, q7, r⟩ : Lp).c ∧ (⟨f + c, q7, r⟩ : Lp).c ≤ 902 ∧ Bq 4 3 (⟨f + c, q7, r⟩ : Lp).q ∧ Bq 112240 48 (⟨f + c, q7, r⟩ : Lp).r := ⟨by show -1000 ≤ f + (c : Int); omega, by show f + (c : Int) ≤ 902; omega, hq7, br⟩
    subst hL
    walk_at "xx"
    refine ⟨Lp.t ⟨f + c, q7, r⟩, ps.map Lp.t, .inl rfl, .inr ⟨p, _, rfl, gup_same, rfl⟩, (fn_lpt hq).cmp, (fn_lpts (n := 60) (fun z hz => (hok z hz).1) (by omega)).cmp, ?_⟩
    have hmf : Gau m9 (T + 2 + 20 * (n - rest.length)) := hm9.mono (by omega)
    by_cases hin : (⟨f + c, q7, r⟩ : Lp) ∈ ps
    · rw [(any_lpt (fun z hz => (hok z hz).1) hq).mpr hin]
      walk_at "xx"
      refine hN _ _ ⟨ps, m9, _, _, _, _, _, rfl, rfl, hmf, by omega, by omega, fun _ => ?_, hok, hnd⟩
      rintro rfl
      cases hin
    · have e : ((ps.map Lp.t).any fun z => D.eqv z (Lp.t ⟨f + c, q7, r⟩)) = false := by
        cases z : (ps.map Lp.t).any fun z => D.eqv z (Lp.t ⟨f + c, q7, r⟩) with
        | false => rfl
        | true => exact absurd ((any_lpt (fun z hz => (hok z hz).1) hq).mp z) hin
      rw [e]
      walk_at "xx"
      refine DL.Y.app_ ?_
      walk_at "xx"
      refine DL.Y.app2 (by rw [List.length_map]; omega) ?_
      refine hN _ _ ⟨ps ++ [⟨f + c, q7, r⟩], m9, _, _, _, _, _, rfl, by rw [List.map_append]; rfl, hmf, by omega, by rw [List.length_append, List.length_singleton]; omega, fun _ z => ?_, fun z hz => ?_, ?_⟩
      · have := congrArg List.length z
        rw [List.length_append] at this
        cases this
      · rcases List.mem_append.mp hz with hz | hz
        · exact hok z hz
        · rw [List.mem_singleton.mp hz]
          exact ⟨hq, hq2⟩
      · rw [List.nodup_append]
        refine ⟨hnd, List.nodup_cons.mpr ⟨List.not_mem_nil, List.nodup_nil⟩, fun u hu v hv e => ?_⟩
        rw [e, List.mem_singleton.mp hv] at hu
        exact hin hu
  · rintro ρ G1 ⟨ps, m, o5, o6, o7, o8, o9, rfl, rfl, hm, hr, hl, hne, hok, hnd⟩
    refine DL.Y.frz rfl (by rw [gup_ne (Ne.symm hap)]; exact hpG) ?_
    walk_at "xx"
    exact h ps m ⟨hne (by show 0 < n; omega), by rw [List.length_nil] at hl; omega, fun z hz => (hok z hz).1, hnd⟩ (by rw [List.length_nil] at hl; omega) (fun z hz => (hok z hz).2) (hm.mono (by rw [List.length_nil]; omega))
  · refine ⟨[], m2, _, _, _, _, _, rfl, rfl, ?_, ?_, ?_, fun z => ?_, (fun r hr => by cases hr), List.nodup_nil⟩
    · rw [rng_len, Nat.sub_self]
      exact hm2
    · rw [rng_len]; omega
    · rw [rng_len]; show 0 + n ≤ n; omega
    · rw [rng_len] at z; omega
end DL
namespace DL
open PySem PySem.Spec PyProof.Rows L2 Evl Sup
variable [TabC]
theorem Y.mkM2 {w : Nat} {ps : List Pc} {f : Pc → D} {R : KD} {G : Gm} {x : D} (hx : x = .lst (ps.map f) ∨ x = .tup (ps.map f)) (gd : Gd x) (hf : ∀ p ∈ ps, pieceB (f p) w = true ∧ kPc (f p) = p.d) (hm : MkP w ps) (h : R (machD w ps) G) : Y.Mkd "Machine" sp_mach [.int w, x] R G := fun a hn => by
  have hl := hm.len
  have l60 := hm.le
  have hs : seqL x = ps.map f := by rcases hx with rfl | rfl <;> rfl
  refine ⟨a, .int w, x, rfl, rfl, gd, gup_same, .good w ps rfl ⟨hm.h1, hm.h2⟩ (by rcases hx with rfl | rfl <;> rfl) (by rw [hs, List.length_map]; omega) (by rw [hs, List.length_map]; omega) (by rw [hs, List.all_map, List.all_eq_true]; exact fun p hp => (hf p hp).1) ?_ hm.nd ⟨rfl, _, _, gup_same, by rw [gup_gup, gdel_gup hn]; exact h⟩⟩
  rw [hs, List.map_map]
  exact List.map_congr_left fun p hp => (hf p hp).2
def lpOf (p : Pc) : Lp := ⟨p.c.headD 0, (p.rs.headD []).headD 0, p.s.headD 0⟩
theorem piece_l {p : Lp} (h : LpOk p) : pieceB p.l (1 : Nat) = true ∧ kPc p.l = p.pc.d := by
  have e1 := small_ofQ h.sq
  have e2 := small_ofQ h.sr
  have e3 : withinD (.int p.c) (some (-1000)) (some 1000) = true := by
    have := h.cb
    simp [withinD, leO, geO, this]
  constructor
  · show pieceB (.tup [.lst [.int p.c], .lst [.lst [ofQ p.q]], .lst [ofQ p.r]]) (1 : Nat) = true
    simp [pieceB, cornB, rowB, it, seqL, isSeqD, e1, e2, e3]
  · show D.tup [.tup [.int p.c], .tup [kRow (.lst [ofQ p.q])], kRow (.lst [ofQ p.r])] = _
    simp only [kRow, seqL, List.map, kept_q]
    rfl
theorem gd_l {ps : List Lp} (h : ∀ p ∈ ps, LpOk p) (hl : ps.length ≤ 60) : Gd (.lst (ps.map Lp.l)) := by
  refine (Gd.tup (by rw [List.length_map]; omega) fun y hy => ?_).2
  obtain ⟨p, hp, rfl⟩ := List.mem_map.mp hy
  have hk := h p hp
  have gi : Gd (.int p.c) := (fn_cor hk.cb).gd
  have gq : Gd (ofQ p.q) := (fn_q hk.sq.qb).gd
  have gr : Gd (ofQ p.r) := (fn_q hk.sr.qb).gd
  have one : ∀ {x : D}, Gd x → Gd (.lst [x]) := fun {x} hx => (Gd.tup (xs := [x]) (Nat.le_of_ble_eq_true rfl) fun y hy => by rw [List.mem_singleton.mp hy]; exact hx).2
  refine (Gd.tup (Nat.le_of_ble_eq_true rfl) fun y hy => ?_).1
  simp only [List.mem_cons, List.mem_nil_iff, or_false] at hy
  rcases hy with rfl | rfl | rfl
  · exact one gi
  · exact one (one gq)
  · exact one gr
theorem Y.allA {α : Type} {G : Gm} {Q : D → Prop} (l : List α) (f : α → Bool) (h : Q (.bl (l.all f))) : ∃ z, fAll G [.lst (l.map fun a => .bl (f a))] z ∧ Q z :=
  ⟨_, ⟨_, l.map f, rfl, by rw [List.map_map]; exact lst_lst, rfl⟩, by rw [List.all_map]; exact h⟩
def sp_lineM : DSp := fun xs G R _ => ∃ ps : List Lp, xs = [.lst (ps.map Lp.t)] ∧ LsO ps ∧ R (lmach ps) G
def lineMR : DS := (dSeq (dIfS (dOr (dNot (dTst (dCall sp_is_list X0 (dCons (dVar 0) dNil)))) (dNot (dTst (dCal fAll (dCons (dCmp (dISeq (dVar 0)) (gN 1) dYes (dAndV (dCall sp_is_list X0 (dCons (dVar 1) dNil)) (dOp fEq (dCal fLen (dCons (dVar 1) dNil)) (dC (.int 3)))) [1]) dNil))))) dNever dNext) (dSeq (dSet 2 (dCmp (dISeq (dVar 0)) (gSeq 3 (gCons (gN 3) (gCons (gN 4) (gCons (gN 5) gNil)))) dYes (dTup (dCons (dLst (dCons (dVar 3) dNil)) (dCons (dLst (dCons (dLst (dCons (dVar 4) dNil)) dNil)) (dCons (dLst (dCons (dVar 5) dNil)) dNil)))) [3, 4, 5])) (dRet (dMake "Machine" sp_mach X0 (dCons (dC (.int 1)) (dCons (dVar 2) dNil))))))
theorem lineM_ok (xs : List D) (G : Gm) (R : KD) (RX : XD) (h : sp_lineM xs G R RX) : lineMR { nx := fun _ G => R .non G, rt := R } (xs.map some ++ List.replicate (6 - xs.length) none) G := by
  obtain ⟨ps, rfl, ho, h⟩ := h
  have le := ho.le
  unfold lineMR
  walk_at "start"
  walk_at "xx"
  refine ⟨_, rfl, (fn_lpts (n := 60) ho.ok le).kn, ?_⟩
  walk_at "xx"
  refine DL.Y.cmpB ps Lp.t (fun _ => .bl true) rfl (by omega) (fun p hp S1 h1 => ?_) (fun x N N' hh => DL.Y.gn_mono x _ N N' hh) ?_
  · walk_at "xx"
    refine ⟨_, rfl, (fn_lpt (ho.ok p hp)).kn, ?_⟩
    dsimp only [Lp.t, isSeqD]
    walk_at "xx"
    exact h1
  walk_at "xx"
  refine DL.Y.allA ps (fun _ => true) ?_
  rw [List.all_eq_true.mpr fun _ _ => rfl]
  walk_at "xx"
  refine DL.Y.cmpA ps Lp.t (fun _ => true) Lp.l rfl (by omega) (fun p hp S1 T1 h1 _ => ?_) ?_
  · dsimp only [Lp.t]
    walk_at "xx"
    exact h1 rfl
  · rw [List.filter_eq_self.mpr fun _ _ => rfl]
    walk_at "xx"
    have e : ps.map Lp.l = (ps.map Lp.pc).map fun p => (lpOf p).l := by
      rw [List.map_map]
      rfl
    rw [e]
    refine DL.Y.mkM2 (.inl rfl) (by rw [← e]; exact gd_l ho.ok le) (fun p hp => ?_) ho.mkp h
    obtain ⟨l, hl, rfl⟩ := List.mem_map.mp hp
    exact piece_l (ho.ok l hl)
def sp_needWay (cl : ClT) : DSp := fun xs G R _ => ∃ (w : Nat) (ps : List Pc) (ns : List Nat) (y : D) (p : Str), xs = [machD w ps, y, .str p] ∧ (y = .tup (natL ns) ∨ y = .lst (natL ns)) ∧ ps.length ≤ 60 ∧ 1 ≤ ns.length ∧ ns.length ≤ 400 ∧ (∀ n ∈ ns, n < ps.length) ∧ R (.tup (natL ns)) G
def needWayR (cl : ClT) (RX : XD) : DS := (dSeq (dSet 3 (dOp (fInt fun i j => .int (i - j)) (dCal fLen (dCons (dFld cl "pieces" (dVar 0)) dNil)) (dC (.int 1)))) (dSeq (dIfS (dOr (dNot (dTst (dCall sp_is_list X0 (dCons (dVar 1) dNil)))) (dOr (dNot (dTst (dChain (fInt gLe) (fInt gLe) (dC (.int 1)) (dCal fLen (dCons (dVar 1) dNil)) (dC (.int 400))))) (dNot (dTst (dCal fAll (dCons (dCmp (dISeq (dVar 1)) (gN 4) dYes (dCall sp_is_within X0 (dCons (dVar 4) (dCons (dC (.int 0)) (dCons (dVar 3) dNil)))) [4]) dNil)))))) (dRaise "BadWay" ["part"] [true] RX (dCons (dVar 2) dNil)) dNext) (dRet (dCal fTupOf (dCons (dVar 1) dNil)))))
theorem kn_nats (ns : List Nat) : (D.tup (natL ns)).kn = true ∧ (D.lst (natL ns)).kn = true := by
  have : D.knL (natL ns) = true := by
    unfold natL
    induction ns with
    | nil => rfl
    | cons n ns ih => exact ih
  exact ⟨this, this⟩
theorem needWay_ok {cl : ClT} (f1 : hasF cl "Machine" "pieces" = true) (xs : List D) (G : Gm) (R : KD) (RX : XD) (h : sp_needWay cl xs G R RX) : needWayR cl RX { nx := fun _ G => R .non G, rt := R } (xs.map some ++ List.replicate (5 - xs.length) none) G := by
  obtain ⟨w, ps, ns, y, p, rfl, hy, hl, l1, l4, hn, h⟩ := h
  unfold needWayR
  walk_at "start"
  dsimp only [machD]
  walk_at "xx"
  have hall : (ns.all fun n => withinD (.int n) (some 0) (some ((ps.length : Int) - 1))) = true := List.all_eq_true.mpr fun n hm => by
    have := hn n hm
    simp only [withinD, leO, geO, Bool.and_eq_true, decide_eq_true_eq]
    omega
  have hln : (natL ns).length = ns.length := by unfold natL; rw [List.length_map]
  rcases hy with rfl | rfl
  all_goals
    refine ⟨_, rfl, by first | exact (kn_nats ns).1 | exact (kn_nats ns).2, ?_⟩
    dsimp only [isSeqD]
    walk_at "xx"
    refine DL.Y.cmpB ns (fun n : Nat => D.int n) (fun n => .bl (withinD (.int n) (some 0) (some ((ps.length : Int) - 1)))) rfl (by omega) (fun n hn S1 h1 => ?_) (fun x N N' hh => DL.Y.gn_mono x _ N N' hh) ?_
    · walk_at "xx"
      rw [List.length_map]
      exact ⟨_, _, _, _, _, rfl, rfl, rfl, rfl, h1⟩
    walk_at "xx"
    refine DL.Y.allA ns _ ?_
    rw [hall]
    walk_at "xx"
    exact h
end DL
namespace DL
open PySem PySem.Spec PyProof.Rows L2 Evl Sup
variable [TabC]
def sp_needLine (cl : ClT) (sub : Str → Str → Bool) : DSp := fun xs G R _ => ∃ ps : List Lp, xs = [lmach ps] ∧ R .non G
def needLineR (cl : ClT) (sub : Str → Str → Bool) (RX : XD) : DS := (dSeq (dDrop (dCallD (sp_needMach cl sub) [D.str "machine"] RX (dCons (dVar 0) dNil))) (dIfS (dTst (dOp fNe (dFld cl "wide" (dVar 0)) (dC (.int 1)))) (dRaise "Misfit" ["part"] [true] RX (dCons (dC (.str "machine")) dNil)) dNext))
theorem needLine_ok {cl : ClT} {sub : Str → Str → Bool} (hc : hasC cl "Machine" = true) (hs : sub "Machine" "Machine" = true) (hf : hasF cl "Machine" "wide" = true) (xs : List D) (G : Gm) (R : KD) (RX : XD) (h : sp_needLine cl sub xs G R RX) : needLineR cl sub RX { nx := fun _ G => R .non G, rt := R } (xs.map some ++ List.replicate (1 - xs.length) none) G := by
  obtain ⟨ps, rfl, h⟩ := h
  unfold needLineR
  walk_at "start"
  walk_at "xx"
  refine needMach_yes hc hs ?_
  dsimp only [lmach, machD]
  walk_at "xx"
  exact h
theorem way_needs {ps : List Lp} {ns : List Nat} (hw : WayOk ps ns) : 1 ≤ ns.length ∧ ns.length ≤ 400 ∧ ∀ n ∈ ns, n < (ps.map Lp.pc).length := by
  have h1 := List.length_pos_iff.mpr hw.ne
  have h2 := hw.le
  exact ⟨h1, by omega, fun n hn => by rw [List.length_map]; exact hw.lt n hn⟩
def sp_stretchOf (cl : ClT) (sub : Str → Str → Bool) : DSp := fun xs G R _ => ∃ (ps : List Lp) (ns : List Nat) (y : D), xs = [lmach ps, y] ∧ (y = .tup (natL ns) ∨ y = .lst (natL ns)) ∧ WayOk ps ns ∧ ps.length ≤ 60 ∧ R (optS (backS (onW ps ns))) G
def stretchOfR (cl : ClT) (sub : Str → Str → Bool) (RX : XD) : DS := (dSeq (dDrop (dCallD (sp_needMach cl sub) [D.str "machine"] RX (dCons (dVar 0) dNil))) (dSeq (dSet 2 (dCallD (sp_needWay cl) [D.str "way"] RX (dCons (dVar 0) (dCons (dVar 1) dNil)))) (dSeq (dDrop (dCall (sp_needLine cl sub) RX (dCons (dVar 0) dNil))) (dRet (dCall (sp_stretchIn cl) X0 (dCons (dVar 0) (dCons (dVar 2) dNil)))))))
theorem stretchOf_ok {cl : ClT} {sub : Str → Str → Bool} (hc : hasC cl "Machine" = true) (hs : sub "Machine" "Machine" = true) (xs : List D) (G : Gm) (R : KD) (RX : XD) (h : sp_stretchOf cl sub xs G R RX) : stretchOfR cl sub RX { nx := fun _ G => R .non G, rt := R } (xs.map some ++ List.replicate (3 - xs.length) none) G := by
  obtain ⟨ps, ns, y, rfl, hy, hw, hl, h⟩ := h
  obtain ⟨w1, w2, w3⟩ := way_needs hw
  unfold stretchOfR
  walk_at "start"
  walk_at "xx"
  refine needMach_yes hc hs ?_
  walk_at "xx"
  refine ⟨1, ps.map Lp.pc, ns, y, _, rfl, hy, by rw [List.length_map]; exact hl, w1, w2, w3, ?_⟩
  walk_at "xx"
  refine ⟨ps, rfl, ?_⟩
  walk_at "xx"
  exact ⟨ps, ns, rfl, hw, h⟩
def sp_goalOf (cl : ClT) (sub : Str → Str → Bool) : DSp := fun xs G R _ => ∃ (ps : List Lp) (ns : List Nat) (y : D), xs = [lmach ps, y] ∧ (y = .tup (natL ns) ∨ y = .lst (natL ns)) ∧ WayOk ps ns ∧ ps.length ≤ 60 ∧ R (optS ((backS (onW ps ns)).map (goalW (onW ps ns)))) G
def goalOfR (cl : ClT) (sub : Str → Str → Bool) (RX : XD) : DS := (dSeq (dDrop (dCallD (sp_needMach cl sub) [D.str "machine"] RX (dCons (dVar 0) dNil))) (dSeq (dSet 2 (dCallD (sp_needWay cl) [D.str "way"] RX (dCons (dVar 0) (dCons (dVar 1) dNil)))) (dSeq (dDrop (dCall (sp_needLine cl sub) RX (dCons (dVar 0) dNil))) (dRet (dCall (sp_goalIn cl) X0 (dCons (dVar 0) (dCons (dVar 2) dNil)))))))
theorem goalOf_ok {cl : ClT} {sub : Str → Str → Bool} (hc : hasC cl "Machine" = true) (hs : sub "Machine" "Machine" = true) (xs : List D) (G : Gm) (R : KD) (RX : XD) (h : sp_goalOf cl sub xs G R RX) : goalOfR cl sub RX { nx := fun _ G => R .non G, rt := R } (xs.map some ++ List.replicate (3 - xs.length) none) G := by
  obtain ⟨ps, ns, y, rfl, hy, hw, hl, h⟩ := h
  obtain ⟨w1, w2, w3⟩ := way_needs hw
  unfold goalOfR
  walk_at "start"
  walk_at "xx"
  refine needMach_yes hc hs ?_
  walk_at "xx"
  refine ⟨1, ps.map Lp.pc, ns, y, _, rfl, hy, by rw [List.length_map]; exact hl, w1, w2, w3, ?_⟩
  walk_at "xx"
  refine ⟨ps, rfl, ?_⟩
  walk_at "xx"
  exact ⟨ps, ns, rfl, hw, h⟩
def lawStrD (w : List Lp) : D := match backS w with
  | none => .non
  | some s => .lst [ofQ s.1, ofQ s.2, ofQ (rowW w), ofQ (shW w)]
def sp_lawStr : DSp := fun xs G R _ => ∃ (ps : List Lp) (ns : List Nat), xs = [.lst (ps.map Lp.t), .tup (natL ns)] ∧ WayOk ps ns ∧ R (lawStrD (onW ps ns)) G
def lawStrR : DS := (dSeq (dAsg (dTup (dCons (dC .non) (dCons (dC .non) (dCons (dC (.int 1)) (dCons (dC (.int 0)) dNil))))) (gSeq 4 (gCons (gN 2) (gCons (gN 3) (gCons (gN 4) (gCons (gN 5) gNil)))))) (dSeq (dFor (dISeq (dVar 1)) (gN 6) (dSeq (dAsg (dIx (dVar 0) (dVar 6)) (gSeq 3 (gCons (gN 7) (gCons (gN 8) (gCons (gN 9) gNil))))) (dSeq (dIfS (dTst (dOp fEq (dVar 4) (dC (.int 0)))) (dIfS (dOr (dTst (dCall sp_qlt X0 (dCons (dVar 5) (dCons (dVar 7) dNil)))) (dTst (dCall sp_qlt X0 (dCons (dOp fAdd (dVar 7) (dC (.int 1))) (dCons (dVar 5) dNil))))) (dRet (dC .non)) dNext) (dSeq (dSet 10 (dCmp (dISeq (dTup (dCons (dVar 7) (dCons (dOp fAdd (dVar 7) (dC (.int 1))) dNil)))) (gN 11) dYes (dCall sp_qover X0 (dCons (dCall (sp_q2 fun p q => p - q) X0 (dCons (dVar 11) (dCons (dVar 5) dNil))) (dCons (dVar 4) dNil))) [11])) (dSeq (dSet 10 (dIf (dTst (dCall sp_qlt X0 (dCons (dIx (dVar 10) (dC (.int 1))) (dCons (dIx (dVar 10) (dC (.int 0))) dNil)))) (dRev (dVar 10)) (dVar 10))) (dSeq (dSet 2 (dIf (dOr (dTst (dIsN (dVar 2))) (dTst (dCall sp_qlt X0 (dCons (dVar 2) (dCons (dIx (dVar 10) (dC (.int 0))) dNil))))) (dIx (dVar 10) (dC (.int 0))) (dVar 2))) (dSet 3 (dIf (dOr (dTst (dIsN (dVar 3))) (dTst (dCall sp_qlt X0 (dCons (dIx (dVar 10) (dC (.int 1))) (dCons (dVar 3) dNil))))) (dIx (dVar 10) (dC (.int 1))) (dVar 3))))))) (dSeq (dIfS (dTst (dCall sp_qlt X0 (dCons (dVar 3) (dCons (dVar 2) dNil)))) (dRet (dC .non)) dNext) (dAsg (dTup (dCons (dCall (sp_q2 fun p q => p * q) X0 (dCons (dVar 8) (dCons (dVar 4) dNil))) (dCons (dCall (sp_q2 fun p q => p + q) X0 (dCons (dCall (sp_q2 fun p q => p * q) X0 (dCons (dVar 8) (dCons (dVar 5) dNil))) (dCons (dVar 9) dNil))) dNil))) (gSeq 2 (gCons (gN 4) (gCons (gN 5) gNil)))))))) (dRet (dLst (dCons (dVar 2) (dCons (dVar 3) (dCons (dVar 4) (dCons (dVar 5) dNil))))))))
theorem em_of {ps : List Lp} {ns d r : List Nat} {n : Nat} (e : ns = d ++ n :: r) (h : ∀ x, ¬ goes (onW ps (d ++ [n])) x) : lawStrD (onW ps ns) = .non := by
  have : backS (onW ps ns) = none := backS_em fun x hx => by
    rw [e, show d ++ n :: r = (d ++ [n]) ++ r by rw [List.append_assoc]; rfl, onW_app, goes_app] at hx
    exact h x hx.1
  unfold lawStrD
  rw [this]
def lowD1 : Option (Qr × Qr) → D
  | none => .non
  | some s => ofQ s.1
def highD1 : Option (Qr × Qr) → D
  | none => .non
  | some s => ofQ s.2
theorem ofQ_nn (q : Qr) : (ofQ q).isN = false := by
  unfold ofQ pairZ
  split <;> rfl
def cutS (o : Option (Qr × Qr)) (t : Qr × Qr) : Qr × Qr := match o with
  | none => t
  | some s => (if s.1 < t.1 then t.1 else s.1, if t.2 < s.2 then t.2 else s.2)
theorem cut_in {s t : Qr × Qr} (x : Qr) : In (cutS (some s) t) x ↔ In s x ∧ In t x := by
  unfold cutS In
  dsimp only
  constructor
  · rintro ⟨h1, h2⟩
    refine ⟨⟨?_, ?_⟩, ?_, ?_⟩
    · split at h1 <;> grind
    · split at h2 <;> grind
    · split at h1 <;> grind
    · split at h2 <;> grind
  · rintro ⟨⟨a, b⟩, c, d⟩
    constructor
    · split <;> assumption
    · split <;> assumption
theorem cut_b {k : Nat} {o : Option (Qr × Qr)} {t : Qr × Qr} (ho : ∀ s, o = some s → Sb k s) (ht : Sb k t) : Sb k (cutS o t) := by
  cases o with
  | none => exact ht
  | some s =>
    have hs := ho s rfl
    unfold cutS
    dsimp only
    exact ⟨by dsimp only; split; exact ht.1; exact hs.1, by dsimp only; split; exact ht.2; exact hs.2⟩
theorem srt_in {p : Lp} {q r : Qr} (hq : q ≠ 0) (x : Qr) : In (srt (((ownS p).1 - r) / q) (((ownS p).2 - r) / q)) x ↔ Hld p (q * x + r) := back_set (p := ⟨0, q, r⟩) (own_le p) hq x
theorem srt_b {k : Nat} {a b : Qr} (ha : Qb k a) (hb : Qb k b) : Sb k (srt a b) := by
  unfold srt
  split
  · exact ⟨hb, ha⟩
  · exact ⟨ha, hb⟩
theorem lawStr_ok (xs : List D) (G : Gm) (R : KD) (RX : XD) (h : sp_lawStr xs G R RX) : lawStrR { nx := fun _ G => R .non G, rt := R } (xs.map some ++ List.replicate (12 - xs.length) none) G := by
  obtain ⟨ps, ns, rfl, hw, h⟩ := h
  unfold lawStrR
  walk_at "start"
  walk_at "xx"
  refine forL_D (fun n : Nat => D.int n) ns (fun d ρ G' => ∃ (o : Option (Qr × Qr)) (o6 o7 o8 o9 o10 o11 : Option D), ρ = [some (.lst (ps.map Lp.t)), some (.tup (natL ns)), some (lowD1 o), some (highD1 o), some (ofQ (rowW (onW ps d))), some (ofQ (shW (onW ps d))), o6, o7, o8, o9, o10, o11] ∧ G' = G ∧ (o = none → d = []) ∧ ∀ s, o = some s → s.1 ≤ s.2 ∧ Sb 1900 s ∧ ∀ x, In s x ↔ goes (onW ps d) x) rfl ?_ ?_ ?_
  · rintro d n r el N ρ G1 hN ⟨o, o6, o7, o8, o9, o10, o11, rfl, rfl, on, os⟩
    obtain ⟨p, hp⟩ : ∃ p, ps[n]? = some p := ⟨_, List.getElem?_eq_getElem (hw.lt n (by rw [el]; simp))⟩
    have pk := hw.ok p (List.mem_of_getElem? hp)
    have hd : d.length ≤ 29 := by
      have := congrArg List.length el
      rw [List.length_append, List.length_cons] at this
      have := hw.le
      omega
    have ol := onW_len ps d
    have snoc : onW ps (d ++ [n]) = onW ps d ++ [p] := by rw [onW_app, onW_cons hp]; rfl
    have rb : Qb 601 (rowW (onW ps d)) := (rowW_b (onW_ok hw.ok)).mono (by omega)
    have sb : Qb 1231 (shW (onW ps d)) := (shW_b (onW_ok hw.ok)).mono (by omega)
    have rx := rowW_app (onW ps d) p
    have sx := shW_app (onW ps d) p
    rw [← snoc] at rx sx
    have hsn : ∀ x, goes (onW ps (d ++ [n])) x ↔ goes (onW ps d) x ∧ Hld p (rowW (onW ps d) * x + shW (onW ps d)) := fun x => by rw [snoc, goes_snoc]
    generalize hW : onW ps d = W at *
    have rW : W = [] → rowW W = 1 := fun z => by rw [z]; rfl
    generalize rowW W = row at *
    generalize shW W = sh at *
    have oc := own_b pk
    have rstep : Qb 621 (p.q * row) := (pk.sq.qb.mul rb).mono
    have sstep0 : Qb 1251 (p.q * sh) := (pk.sq.qb.mul sb).mono
    walk_at "xx"
    refine DL.Y.ixL (at_some hp) ?_
    dsimp only [Lp.t]
    walk_at "xx"
    refine DL.Y.eqQ0 rb (by decide) ?_
    have fin : ∀ (u : Qr × Qr) (o10 o11 : Option D), u.1 ≤ u.2 → Sb 1900 u → (∀ x, In u x ↔ goes (onW ps (d ++ [n])) x) → N [some (.lst (ps.map Lp.t)), some (.tup (natL ns)), some (ofQ u.1), some (ofQ u.2), some (ofQ (p.q * row)), some (ofQ (p.q * sh + p.r)), some (.int n), some (.int p.c), some (ofQ p.q), some (ofQ p.r), o10, o11] G1 := fun u o10 o11 u1 u2 u3 => by
      refine hN _ _ ⟨some u, _, _, _, _, _, _, by rw [rx, sx]; rfl, rfl, (fun z => by cases z), fun s hs => ?_⟩
      cases hs
      exact ⟨u1, u2, u3⟩
    by_cases hq : row = 0
    · obtain ⟨s, rfl⟩ : ∃ s, o = some s := by
        cases o with
        | some s => exact ⟨s, rfl⟩
        | none =>
          have := on rfl
          rw [this] at hW
          have := rW hW.symm
          rw [hq] at this
          exact absurd this (by decide)
      obtain ⟨s1, s2, s3⟩ := os s rfl
      have hx : ∀ x, row * x + sh = sh := fun x => by rw [hq, Rat.zero_mul, Rat.zero_add]
      dsimp only [lowD1, highD1]
      walk_at "xx"
      refine ⟨sh, (ownS p).1, rfl, sb.mono, oc.1.mono, ?_⟩
      by_cases e1 : sh < (ownS p).1
      · rw [decide_eq_true e1]
        walk_at "xx"
        rw [em_of el fun x hx2 => ?_] at h
        · exact h
        · have := ((hsn x).mp hx2).2.1
          rw [hx] at this
          exact absurd e1 (nlt.mpr this)
      · rw [decide_eq_false e1]
        walk_at "xx"
        refine ⟨(ownS p).2, sh, rfl, oc.2.mono, sb.mono, ?_⟩
        by_cases e2 : (ownS p).2 < sh
        · rw [decide_eq_true e2]
          walk_at "xx"
          rw [em_of el fun x hx2 => ?_] at h
          · exact h
          · have := ((hsn x).mp hx2).2.2
            rw [hx] at this
            exact absurd e2 (nlt.mpr this)
        · rw [decide_eq_false e2]
          walk_at "xx"
          refine ⟨s.2, s.1, rfl, s2.2.mono, s2.1.mono, ?_⟩
          rw [decide_eq_false (nlt.mpr s1)]
          walk_at "xx"
          refine ⟨p.q, row, rfl, pk.sq.qb.mono, rb.mono, ?_⟩
          walk_at "xx"
          refine ⟨p.q, sh, rfl, pk.sq.qb.mono, sb.mono, ?_⟩
          walk_at "xx"
          refine ⟨_, p.r, rfl, sstep0.mono, pk.sr.qb.mono, ?_⟩
          walk_at "xx"
          refine fin s _ _ s1 s2 fun x => ?_
          rw [s3, hsn, hx]
          exact ⟨fun h => ⟨h, nlt.mp e1, nlt.mp e2⟩, fun h => h.1⟩
    · have eb : ∀ z : Qr, Qb 11 z → Qb 1243 (z - sh) := fun z hz => (hz.sub sb).mono
      have ed : ∀ z : Qr, Qb 11 z → Qb 1844 ((z - sh) / row) := fun z hz => ((eb z hz).div rb hq).mono
      walk_at "xx"
      refine DL.Y.cmpB [(ownS p).1, (ownS p).2] ofQ (fun z => ofQ ((z - sh) / row)) rfl (Nat.le_of_ble_eq_true rfl) (fun z hz S1 h1 => ?_) (fun x N N' hh => DL.Y.gn_mono x _ N N' hh) ?_
      · have hz' : Qb 11 z := by
          rcases List.mem_cons.mp hz with rfl | hz
          · exact oc.1
          · rw [List.mem_singleton.mp hz]; exact oc.2
        walk_at "xx"
        refine ⟨z, sh, rfl, hz'.mono, sb.mono, ?_⟩
        walk_at "xx"
        exact ⟨_, row, rfl, (eb z hz').mono, rb.mono, hq, h1⟩
      have b1 := ed _ oc.1
      have b2 := ed _ oc.2
      have ti := fun x => srt_in (p := p) (r := sh) hq x
      have tb := srt_b b1 b2
      have tl := srt_le (((ownS p).1 - sh) / row) (((ownS p).2 - sh) / row)
      dsimp only [List.map]
      walk_at "xs"
      refine DL.Y.bind (P := fun x G2 => x = .lst [ofQ (srt (((ownS p).1 - sh) / row) (((ownS p).2 - sh) / row)).1, ofQ (srt (((ownS p).1 - sh) / row) (((ownS p).2 - sh) / row)).2] ∧ G2 = G1) (fun R0 hk => ?_) ?_
      · walk_at "xx"
        refine ⟨_, _, rfl, b2.mono, b1.mono, ?_⟩
        unfold srt at hk
        by_cases e : ((ownS p).2 - sh) / row < ((ownS p).1 - sh) / row
        · rw [if_pos e] at hk
          rw [decide_eq_true e]
          walk_at "xx"
          exact hk _ _ ⟨rfl, rfl⟩
        · rw [if_neg e] at hk
          rw [decide_eq_false e]
          walk_at "xx"
          exact hk _ _ ⟨rfl, rfl⟩
      rintro x2 G2 ⟨rfl, rfl⟩
      generalize srt (((ownS p).1 - sh) / row) (((ownS p).2 - sh) / row) = t at *
      have ub : Sb 1900 (cutS o t) := cut_b (fun s hs => (os s hs).2.1) tb.mono
      have ui : ∀ x, In (cutS o t) x ↔ goes (onW ps (d ++ [n])) x := fun x => by
        rw [hsn, ← ti x]
        cases o with
        | none =>
          have := on rfl
          rw [this] at hW
          rw [← hW]
          exact ⟨fun h => ⟨trivial, h⟩, fun h => h.2⟩
        | some s => rw [cut_in, (os s rfl).2.2]
      walk_at "xs"
      refine DL.Y.bind (P := fun x G3 => x = ofQ (cutS o t).1 ∧ G3 = G2) (fun R0 hk => ?_) ?_
      · cases o with
        | none =>
          dsimp only [lowD1]
          walk_at "xx"
          exact hk _ _ ⟨rfl, rfl⟩
        | some s =>
          dsimp only [lowD1, cutS] at hk ⊢
          walk_at "xx"
          rw [ofQ_nn]
          walk_at "xx"
          refine ⟨_, _, rfl, (os s rfl).2.1.1.mono, tb.1.mono, ?_⟩
          by_cases e : s.1 < t.1
          · rw [if_pos e] at hk
            rw [decide_eq_true e]
            walk_at "xx"
            exact hk _ _ ⟨rfl, rfl⟩
          · rw [if_neg e] at hk
            rw [decide_eq_false e]
            walk_at "xx"
            exact hk _ _ ⟨rfl, rfl⟩
      rintro x3 G3 ⟨rfl, rfl⟩
      walk_at "xs"
      refine DL.Y.bind (P := fun x G4 => x = ofQ (cutS o t).2 ∧ G4 = G3) (fun R0 hk => ?_) ?_
      · cases o with
        | none =>
          dsimp only [highD1]
          walk_at "xx"
          exact hk _ _ ⟨rfl, rfl⟩
        | some s =>
          dsimp only [highD1, cutS] at hk ⊢
          walk_at "xx"
          rw [ofQ_nn]
          walk_at "xx"
          refine ⟨_, _, rfl, tb.2.mono, (os s rfl).2.1.2.mono, ?_⟩
          by_cases e : t.2 < s.2
          · rw [if_pos e] at hk
            rw [decide_eq_true e]
            walk_at "xx"
            exact hk _ _ ⟨rfl, rfl⟩
          · rw [if_neg e] at hk
            rw [decide_eq_false e]
            walk_at "xx"
            exact hk _ _ ⟨rfl, rfl⟩
      rintro x4 G4 ⟨rfl, rfl⟩
      generalize cutS o t = u at *
      walk_at "xx"
      refine ⟨u.2, u.1, rfl, ub.2.mono, ub.1.mono, ?_⟩
      by_cases e : u.2 < u.1
      · rw [decide_eq_true e]
        walk_at "xx"
        rw [em_of el fun x hx2 => ?_] at h
        · exact h
        · have := (ui x).mpr hx2
          exact absurd e (nlt.mpr (Rat.le_trans this.1 this.2))
      · rw [decide_eq_false e]
        walk_at "xx"
        refine ⟨p.q, row, rfl, pk.sq.qb.mono, rb.mono, ?_⟩
        walk_at "xx"
        refine ⟨p.q, sh, rfl, pk.sq.qb.mono, sb.mono, ?_⟩
        walk_at "xx"
        refine ⟨_, p.r, rfl, sstep0.mono, pk.sr.qb.mono, ?_⟩
        walk_at "xx"
        exact fin u _ _ (nlt.mp e) ub ui
  · rintro ρ G1 ⟨o, o6, o7, o8, o9, o10, o11, rfl, rfl, on, os⟩
    cases o with
    | none => exact absurd (on rfl) hw.ne
    | some s =>
      obtain ⟨s1, s2, s3⟩ := os s rfl
      have ne : onW ps ns ≠ [] := by
        cases hn : ns with
        | nil => exact absurd hn hw.ne
        | cons n r =>
          obtain ⟨p, hp⟩ : ∃ p, ps[n]? = some p := ⟨_, List.getElem?_eq_getElem (hw.lt n (by rw [hn]; simp))⟩
          rw [onW_cons hp]
          simp
      have e := backS_eq ne s1 s3
      unfold lawStrD at h
      rw [e] at h
      dsimp only [lowD1, highD1]
      walk_at "xx"
      exact h
  · exact ⟨none, _, _, _, _, _, _, rfl, rfl, fun _ => rfl, fun s hs => by cases hs⟩
def sp_lawGoal : DSp := fun xs G R _ => ∃ (s : Qr × Qr) (row sh : Qr), xs = [.lst [ofQ s.1, ofQ s.2, ofQ row, ofQ sh]] ∧ Sb 900 s ∧ Qb 700 row ∧ Qb 1240 sh ∧ R (strD (srt (row * s.1 + sh) (row * s.2 + sh))) G
def lawGoalR : DS := (dSeq (dSet 1 (dCmp (dISeq (dSl (dVar 0) dNoP (dPart (dC (.int 2))))) (gN 2) dYes (dCall (sp_q2 fun p q => p + q) X0 (dCons (dCall (sp_q2 fun p q => p * q) X0 (dCons (dIx (dVar 0) (dC (.int 2))) (dCons (dVar 2) dNil))) (dCons (dIx (dVar 0) (dC (.int 3))) dNil))) [2])) (dRet (dIf (dTst (dCall sp_qlt X0 (dCons (dIx (dVar 1) (dC (.int 1))) (dCons (dIx (dVar 1) (dC (.int 0))) dNil)))) (dTup (dCons (dIx (dVar 1) (dC (.int 1))) (dCons (dIx (dVar 1) (dC (.int 0))) dNil))) (dTup (dCons (dIx (dVar 1) (dC (.int 0))) (dCons (dIx (dVar 1) (dC (.int 1))) dNil))))))
theorem lawGoal_ok (xs : List D) (G : Gm) (R : KD) (RX : XD) (h : sp_lawGoal xs G R RX) : lawGoalR { nx := fun _ G => R .non G, rt := R } (xs.map some ++ List.replicate (3 - xs.length) none) G := by
  obtain ⟨⟨a, b⟩, row, sh, rfl, hs, hr, hsh, h⟩ := h
  have bm : ∀ z : Qr, Qb 900 z → Qb 1600 (row * z) := fun z hz => (hr.mul hz).mono
  have bp : ∀ z : Qr, Qb 900 z → Qb 2900 (row * z + sh) := fun z hz => ((bm z hz).add hsh).mono
  have b1 := bp a hs.1
  have b2 := bp b hs.2
  unfold lawGoalR
  walk_at "start"
  walk_at "xx"
  refine DL.Y.cmpB [a, b] ofQ (fun z => ofQ (row * z + sh)) rfl (Nat.le_of_ble_eq_true rfl) (fun z hz S1 h1 => ?_) (fun x N N' hh => DL.Y.gn_mono x _ N N' hh) ?_
  · have hz' : Qb 900 z := by
      rcases List.mem_cons.mp hz with rfl | hz
      · exact hs.1
      · rw [List.mem_singleton.mp hz]; exact hs.2
    walk_at "xx"
    refine ⟨row, z, rfl, hr.mono, hz'.mono, ?_⟩
    walk_at "xx"
    exact ⟨_, sh, rfl, (bm z hz').mono, hsh.mono, h1⟩
  dsimp only [List.map]
  walk_at "xx"
  refine ⟨_, _, rfl, b2, b1, ?_⟩
  unfold srt at h
  by_cases e : row * b + sh < row * a + sh
  · rw [if_pos e] at h
    rw [decide_eq_true e]
    walk_at "xx"
    exact h
  · rw [if_neg e] at h
    rw [decide_eq_false e]
    walk_at "xx"
    exact h
end DL
namespace DL
open PySem PySem.Spec PyProof.Rows L2 Evl Sup
variable [TabC]
theorem fn_nats {n : Nat} {ns : List Nat} (h : ∀ k ∈ ns, k ≤ 1000000000) (hl : ns.length ≤ n) (hn : n ≤ 1000000 := by decide) : Fn 1 (n * 1 + 1) (.tup (natL ns)) ∧ Fn 1 (n * 1 + 1) (.lst (natL ns)) := fn_seq (fun x hx => by
  obtain ⟨k, hk, rfl⟩ := List.mem_map.mp hx
  exact fn_nat (h k hk)) (by unfold natL; rw [List.length_map]; exact hl) hn
theorem nat_snoc (ns : List Nat) (j : Nat) : natL ns ++ [D.int j] = natL (ns ++ [j]) := by unfold natL; rw [List.map_append]; rfl
theorem fn_nil : Fn 1 1 (.lst []) := ⟨rfl, rfl, rfl, by decide, by decide, rfl, rfl⟩
theorem Y.neEmp {d s : Nat} {xs : List D} {Q : D → Prop} (hf : Fn d s (.lst xs)) (hd : d ≤ 60) (h : Q (.bl (!xs.isEmpty))) : ∃ z, fNe (.lst xs) (.lst []) z ∧ Q z := by
  refine ⟨_, fne_cmp (hf.cmp hd) fn_nil.cmp (fun _ e => by cases e) (fun _ e => by cases e) (fun _ e => by cases e), ?_⟩
  cases e : D.eqv (.lst xs) (.lst []) with
  | true =>
    have := (eqv_iff hf.pln fn_nil.pln).mp e
    injection this with this
    subst this
    exact h
  | false =>
    cases xs with
    | nil => rw [(eqv_iff fn_nil.pln fn_nil.pln).mpr rfl] at e; cases e
    | cons x xs => exact h
def sp_drawWay : DSp := fun xs G R _ => ∃ (a : Addr) (T : Nat) (ps : List Lp), xs = [.ref a, .lst (ps.map Lp.t)] ∧ LsO ps ∧ GauAt G a T ∧ T + 30 ≤ 1000000000 ∧ ∀ (ns : List Nat) m, WayOk ps ns → ns.length ≤ 10 → Gau m (T + 30) → R (.tup (natL ns)) (gup G a m)
def drawWayR : DS := (dSeq (dSet 2 (dTup dNil)) (dSeq (dFor (dIRng1 (dOp fAdd (dC (.int 1)) (dCall spDial X0 (dCons (dVar 0) (dCons (dCall spPick X0 (dCons (dVar 0) (dCons (dLst (dCons (dC (.int 4)) (dCons (dC (.int 10)) (dCons (dC (.int 2)) dNil)))) dNil))) dNil))))) (gN 3) (dSeq (dSet 4 (dCmp (dIRng1 (dCal fLen (dCons (dVar 1) dNil))) (gN 5) dYes (dOp fAddT (dVar 2) (dTup (dCons (dVar 5) dNil))) [5])) (dSeq (dSet 6 (dCmp (dISeq (dVar 4)) (gN 7) (dTst (dNotN (dCall sp_lawStr X0 (dCons (dVar 1) (dCons (dVar 7) dNil))))) (dVar 7) [7])) (dSet 2 (dCall spPick X0 (dCons (dVar 0) (dCons (dIf (dAnd (dTst (dOp fNe (dVar 6) (dLst dNil))) (dTst (dOp (fInt gGt) (dCall spDial X0 (dCons (dVar 0) (dCons (dC (.int 8)) dNil))) (dC (.int 0))))) (dVar 6) (dVar 4)) dNil))))))) (dRet (dVar 2))))
theorem rng_natL {n : Nat} : rngD 0 ((n : Int)).toNat = natL (List.range n) := by
  unfold rngD natL
  rw [Int.toNat_natCast]
  refine List.map_congr_left fun i _ => ?_
  rw [Int.zero_add]
theorem drawWay_ok (xs : List D) (G : Gm) (R : KD) (RX : XD) (h : sp_drawWay xs G R RX) : drawWayR { nx := fun _ G => R .non G, rt := R } (xs.map some ++ List.replicate (8 - xs.length) none) G := by
  obtain ⟨a, T, ps, rfl, ho, ⟨m, eg, hm⟩, hT, h⟩ := h
  have le := ho.le
  have l1 := List.length_pos_iff.mpr ho.ne
  unfold drawWayR
  walk_at "start"
  rw [← gup_id eg]
  walk_at "xx"
  refine DL.Y.pickL (gau_gup hm) (by omega) (by simp) (Nat.le_of_ble_eq_true rfl) fun y m1 hy hm1 => ?_
  rw [gup_gup]
  obtain ⟨f, rfl, f1, f2⟩ : ∃ f : Nat, y = .int f ∧ 1 ≤ f ∧ f ≤ 10 := by
    simp only [List.mem_cons, List.mem_nil_iff, or_false] at hy
    rcases hy with rfl | rfl | rfl
    · exact ⟨4, rfl, by decide, by decide⟩
    · exact ⟨10, rfl, by decide, by decide⟩
    · exact ⟨2, rfl, by decide, by decide⟩
  walk_at "xx"
  refine DL.Y.dialN (gau_gup hm1) (by omega) (by omega) (by omega) fun v m2 hv hm2 => ?_
  rw [gup_gup]
  obtain ⟨n, en, n1, n2⟩ : ∃ n : Nat, (1 + (v : Int)) = n ∧ 1 ≤ n ∧ n ≤ 10 := ⟨1 + v, by omega, by omega, by omega⟩
  refine DL.Y.oadd ?_
  rw [en]
  walk_at "xx"
  rw [rng_natL]
  refine forL_D (fun n : Nat => D.int n) (List.range n) (fun d ρ G' => ∃ (w : List Nat) (m : Mt) (o3 o4 o5 o6 o7 : Option D), ρ = [some (.ref a), some (.lst (ps.map Lp.t)), some (.tup (natL w)), o3, o4, o5, o6, o7] ∧ G' = gup G a m ∧ Gau m (T + 2 + 2 * d.length) ∧ w.length = d.length ∧ (∀ k ∈ w, k < ps.length)) rfl ?_ ?_ ?_
  · rintro d i r el N ρ G1 hN ⟨w, m, o3, o4, o5, o6, o7, rfl, rfl, hm, hwl, hw⟩
    have hd : d.length ≤ 9 := by
      have := congrArg List.length el
      rw [List.length_append, List.length_cons, List.length_range] at this
      omega
    have lw : (natL w).length = w.length := by unfold natL; rw [List.length_map]
    walk_at "xx"
    rw [List.length_map, rng_natL]
    refine ⟨by omega, by omega, ?_⟩
    have okw : ∀ j, j < ps.length → WayOk ps (w ++ [j]) := fun j hj => ⟨ho.ok, by simp, by rw [List.length_append, List.length_singleton]; omega, fun k hk => by
      rcases List.mem_append.mp hk with hk | hk
      · exact hw k hk
      · rw [List.mem_singleton.mp hk]; exact hj⟩
    refine DL.Y.cmpB (List.range ps.length) (fun n : Nat => D.int n) (fun j => .tup (natL (w ++ [j]))) rfl (by rw [List.length_range]; omega) (fun j hj S1 h1 => ?_) (fun x N N' hh => DL.Y.gn_mono x _ N N' hh) ?_
    · walk_at "xx"
      · rw [lw, List.length_singleton]; omega
      rw [nat_snoc]
      exact h1
    walk_at "xx"
    refine DL.Y.cmpA (List.range ps.length) (fun j => .tup (natL (w ++ [j]))) (fun j => (backS (onW ps (w ++ [j]))).isSome) (fun j => .tup (natL (w ++ [j]))) rfl (by rw [List.length_range]; omega) (fun j hj S1 T1 h1 h2 => ?_) ?_
    · have hj' := List.mem_range.mp hj
      walk_at "xx"
      refine ⟨ps, w ++ [j], rfl, okw j hj', ?_⟩
      unfold lawStrD
      cases e : backS (onW ps (w ++ [j])) with
      | none =>
        rw [e] at h2
        walk_at "xx"
        exact h2 rfl
      | some s =>
        rw [e] at h1
        walk_at "xx"
        exact h1 rfl
    walk_at "xx"
    have last : ∀ (l : List Nat) (m1 : Mt) (T1 : Nat) (R1 : KD), (∀ j ∈ l, j < ps.length) → l ≠ [] → l.length ≤ 60 → Gau m1 T1 → T1 + 1 ≤ T + 2 + 2 * (d.length + 1) → (∀ (w : List Nat) (m : Mt), Gau m (T + 2 + 2 * (d.length + 1)) → w.length = d.length + 1 → (∀ k ∈ w, k < ps.length) → R1 (.tup (natL w)) (gup G a m)) → spPick [.ref a, .lst (l.map fun j => .tup (natL (w ++ [j])))] (gup G a m1) R1 X0 := fun l m1 T1 R1 hl ne l60 hm1 hT1 hR => by
      refine DL.Y.pickL (gau_gup hm1) (by omega) (by simpa using ne) (by rw [List.length_map]; omega) fun y m3 hy hm3 => ?_
      rw [gup_gup]
      obtain ⟨j, hj, rfl⟩ := List.mem_map.mp hy
      exact hR (w ++ [j]) m3 (hm3.mono hT1) (by rw [List.length_append, List.length_singleton, hwl]) (fun k hk => by
        rcases List.mem_append.mp hk with hk | hk
        · exact hw k hk
        · rw [List.mem_singleton.mp hk]; exact hl j hj)
    have lively : ∀ j ∈ (List.range ps.length).filter (fun j => (backS (onW ps (w ++ [j]))).isSome), j < ps.length := fun j hj => List.mem_range.mp (List.mem_filter.mp hj).1
    have lvl : ((List.range ps.length).filter (fun j => (backS (onW ps (w ++ [j]))).isSome)).length ≤ 60 := Nat.le_trans (List.length_filter_le _ _) (by rw [List.length_range]; exact le)
    have kb : ∀ j, j < ps.length → ∀ k ∈ w ++ [j], k ≤ 1000000000 := fun j hj k hk => by
      rcases List.mem_append.mp hk with hk | hk
      · have := hw k hk; omega
      · rw [List.mem_singleton.mp hk]; omega
    have fnl : Fn 2 (60 * 11 + 1) (.lst (((List.range ps.length).filter (fun j => (backS (onW ps (w ++ [j]))).isSome)).map fun j => .tup (natL (w ++ [j])))) := (fn_seq (n := 60) (d := 1) (s := 11) (fun x hx => by
      obtain ⟨j, hj, rfl⟩ := List.mem_map.mp hx
      exact (fn_nats (n := 10) (kb j (lively j hj)) (by rw [List.length_append, List.length_singleton]; omega)).1) (by rw [List.length_map]; exact lvl)).2
    generalize (List.range ps.length).filter (fun j => (backS (onW ps (w ++ [j]))).isSome) = l at *
    have fin : ∀ (w : List Nat) (m : Mt) (o4 o6 : Option D), Gau m (T + 2 + 2 * (d.length + 1)) → w.length = d.length + 1 → (∀ k ∈ w, k < ps.length) → N [some (.ref a), some (.lst (ps.map Lp.t)), some (.tup (natL w)), some (.int i), o4, o5, o6, o7] (gup G a m) := fun w m o4 o6 hm hl hk => hN _ _ ⟨w, m, _, _, _, _, _, rfl, rfl, hm.mono (by rw [List.length_append, List.length_singleton]; omega), by rw [hl, List.length_append, List.length_singleton], hk⟩
    have rgn : List.range ps.length ≠ [] := fun z => by
      have := congrArg List.length z
      rw [List.length_range] at this
      exact absurd this (by show ¬ ps.length = 0; omega)
    refine DL.Y.neEmp fnl (by decide) ?_
    cases hl : l with
    | nil =>
      subst hl
      dsimp only [List.map, List.isEmpty]
      walk_at "xx"
      refine last (List.range ps.length) m (T + 2 + 2 * d.length) _ (fun j hj => List.mem_range.mp hj) rgn (by rw [List.length_range]; exact le) hm (by omega) fun w m hm hl hk => ?_
      walk_at "xx"
      exact fin w m _ _ hm hl hk
    | cons j0 l0 =>
      rw [← hl]
      have ne : l ≠ [] := by rw [hl]; simp
      have ie : (!(l.map fun j => D.tup (natL (w ++ [j]))).isEmpty) = true := by rw [hl]; rfl
      rw [ie]
      walk_at "xx"
      refine DL.Y.dialN (gau_gup hm) (by omega) (by decide) (by decide) fun u m3 hu hm3 => ?_
      rw [gup_gup]
      by_cases hu0 : (0 : Int) < u
      · walk_at "xx"
        refine last l m3 (T + 2 + 2 * d.length + 1) _ lively ne lvl hm3 (by omega) fun w m hm hl hk => ?_
        walk_at "xx"
        exact fin w m _ _ hm hl hk
      · walk_at "xx"
        refine last (List.range ps.length) m3 (T + 2 + 2 * d.length + 1) _ (fun j hj => List.mem_range.mp hj) rgn (by rw [List.length_range]; exact le) hm3 (by omega) fun w m hm hl hk => ?_
        walk_at "xx"
        exact fin w m _ _ hm hl hk
  · rintro ρ G1 ⟨w, m, o3, o4, o5, o6, o7, rfl, rfl, hm, hwl, hw⟩
    rw [List.length_range] at hm hwl
    walk_at "xx"
    exact h w m ⟨ho.ok, fun z => by rw [z] at hwl; simp at hwl; omega, by omega, hw⟩ (by omega) (hm.mono (by omega))
  · exact ⟨[], m2, _, _, _, _, _, rfl, rfl, hm2, rfl, fun k hk => by cases hk⟩
end DL
namespace Lw
open PySem PySem.Spec PyProof.Rows L2 Evl DL
abbrev st_is_integer : Stmt := top 8
abbrev st_is_within : Stmt := top 9
abbrev st_is_list : Stmt := top 10
abbrev st_halves : Stmt := top 15
abbrev st_common : Stmt := top 16
abbrev st_lowest_in : Stmt := top 17
abbrev st_plus_in : Stmt := top 18
abbrev st_times_in : Stmt := top 19
abbrev st_minus_in : Stmt := top 20
abbrev st_over_in : Stmt := top 21
abbrev st_below_in : Stmt := top 22
abbrev st_is_number : Stmt := top 24
abbrev st_is_small : Stmt := top 25
abbrev st_kept_number : Stmt := top 26
abbrev st_is_row : Stmt := top 38
abbrev st_is_corner : Stmt := top 39
abbrev st_is_piece : Stmt := top 40
abbrev st_kept_row : Stmt := top 41
abbrev st_kept_piece : Stmt := top 42
abbrev st_are_unlike : Stmt := top 43
abbrev st_Machine___init__ : Stmt := methOf (top 44) "__init__"
abbrev st_need_machine : Stmt := top 47
abbrev st_line_machine : Stmt := top 48
abbrev st_need_way : Stmt := top 51
abbrev st_need_line : Stmt := top 53
abbrev st_parts_in : Stmt := top 54
abbrev st_own_stretch : Stmt := top 55
abbrev st_meet : Stmt := top 56
abbrev st_led_on : Stmt := top 57
abbrev st_led_back : Stmt := top 58
abbrev st_stretch_in : Stmt := top 59
abbrev st_goal_in : Stmt := top 60
abbrev st_stretch_of : Stmt := top 61
abbrev st_goal_of : Stmt := top 62
abbrev st__law_ridge : Stmt := top 64
abbrev st__law_climb : Stmt := top 65
abbrev st__law_pick : Stmt := top 66
abbrev st__law_lowest : Stmt := top 67
abbrev st__law_halves : Stmt := top 68
abbrev st__law_plus : Stmt := top 69
abbrev st__law_times : Stmt := top 70
abbrev st__law_over : Stmt := top 71
abbrev st__law_below : Stmt := top 72
abbrev st__law_less : Stmt := top 73
abbrev st__law_part : Stmt := top 74
abbrev st__law_triples : Stmt := top 75
abbrev st__law_stretch : Stmt := top 76
abbrev st__law_goal : Stmt := top 77
abbrev st__law_way : Stmt := top 79
abbrev st_law : Stmt := top 80
structure Tx (mg : Str → Option Value) : Prop where
  f_abs : mg "abs" = none
  f_all : mg "all" = none
  f_bool : mg "bool" = none
  f_int : mg "int" = none
  f_isinstance : mg "isinstance" = none
  f_len : mg "len" = none
  f_list : mg "list" = none
  f_range : mg "range" = none
  f_repr : mg "repr" = none
  f_set : mg "set" = none
  f_tuple : mg "tuple" = none
  c_LEAST_UNDER : ∃ t, mg "LEAST_UNDER" = some (.int 2 t)
  c_SMALL_ABOVE : ∃ t, mg "SMALL_ABOVE" = some (.int 1000000 t)
  c_SMALL_UNDER : ∃ t, mg "SMALL_UNDER" = some (.int 1000 t)
  c_BAR : ∃ t, mg "BAR" = some (.str "/" t)
  c_FIGURES : ∃ t, mg "FIGURES" = some (.str "0123456789" t)
  c_MOST_FIGURES : ∃ t, mg "MOST_FIGURES" = some (.int 140 t)
  c_MOST_WIDE : ∃ t, mg "MOST_WIDE" = some (.int 2 t)
  c_MOST_PIECES : ∃ t, mg "MOST_PIECES" = some (.int 60 t)
  c_FARTHEST : ∃ t, mg "FARTHEST" = some (.int 1000 t)
  c_MOST_WAY : ∃ t, mg "MOST_WAY" = some (.int 400 t)
abbrev si_BadMachine : Stmt := initOf (top 3)
set_option maxHeartbeats 4000000 in
theorem x_BadMachine {P : Program} {w : World} {K : PySem.W.Frag} {mg : Str → Option Value} {base : Heap} (x : Xc P K mg "BadMachine" ["part"] (("BadMachine" : Str) ++ ".__init__") (defArgs si_BadMachine) (defBody si_BadMachine) (defScope si_BadMachine)) : KnX P w K mg base "BadMachine" ["self", "part"] ["part"] [true] := by
  obtain ⟨g, ox, ⟨cda, cc, T⟩, ini, ti, no, xf, xd⟩ := x
  have S : Sup.ScopeS ["self", "part"] ["self", "part"] (defScope si_BadMachine) := ⟨rfl, rfl, rfl, by decide +kernel, rfl, by decide +kernel, by decide +kernel, by decide +kernel, rfl, rfl⟩
  obtain ⟨oc, od, osl, dV, kV, doc, pm, an, ct, lk, rfl⟩ := T.fn
  refine ⟨g, ox, ini, ti, no, xf, xd, _, Sup.fnok_sup (k := 0) S T lk spI_len (fun A outer s H vs Q E room hsp => ⟨_, Sup.psS_sup (pl := pure false) S T rfl rfl rfl (pa_cons (pe_joined (PJ.cons pe_str (PJ.cons (pe_fmt (pe_var (i := 1) rfl (.inl rfl))) PJ.nil))) pa_nil) (pss_one (ps_ost (pe_var (i := 0) rfl (.inl rfl)) (pe_var (i := 1) rfl (.inl rfl)))), init1 rfl ?_ hsp⟩), ?_⟩
  · intro a w H Q hx hq
    refine jts_ok [JP.k "is none: ", JP.v 1] Str.empty (fun i hi => ?_) (fun x hx => ?_) (by show _ ≤ sizeLine; rw [sizeLine_eq]; decide) (fun out => hq _ (by show 1 ≤ 1000; decide))
    · simp only [List.mem_cons, List.mem_nil_iff, or_false, false_or, reduceCtorEq, JP.v.injEq] at hi
      subst hi
      exact ⟨w, rfl, hx (true, w) (by simp) rfl⟩
    · simp only [List.mem_cons, List.mem_nil_iff, or_false, false_or, reduceCtorEq, JP.k.injEq] at hx
      first | (subst hx; decide) | (rcases hx with rfl | rfl <;> decide) | (rcases hx with rfl | rfl | rfl <;> decide) | cases hx
  · intro s us _ hl
    match us, hl with | [_, _], _ => exact .of_eq rfl
abbrev si_BadWay : Stmt := initOf (top 4)
set_option maxHeartbeats 4000000 in
theorem x_BadWay {P : Program} {w : World} {K : PySem.W.Frag} {mg : Str → Option Value} {base : Heap} (x : Xc P K mg "BadWay" ["part"] (("BadWay" : Str) ++ ".__init__") (defArgs si_BadWay) (defBody si_BadWay) (defScope si_BadWay)) : KnX P w K mg base "BadWay" ["self", "part"] ["part"] [true] := by
  obtain ⟨g, ox, ⟨cda, cc, T⟩, ini, ti, no, xf, xd⟩ := x
  have S : Sup.ScopeS ["self", "part"] ["self", "part"] (defScope si_BadWay) := ⟨rfl, rfl, rfl, by decide +kernel, rfl, by decide +kernel, by decide +kernel, by decide +kernel, rfl, rfl⟩
  obtain ⟨oc, od, osl, dV, kV, doc, pm, an, ct, lk, rfl⟩ := T.fn
  refine ⟨g, ox, ini, ti, no, xf, xd, _, Sup.fnok_sup (k := 0) S T lk spI_len (fun A outer s H vs Q E room hsp => ⟨_, Sup.psS_sup (pl := pure false) S T rfl rfl rfl (pa_cons (pe_joined (PJ.cons pe_str (PJ.cons (pe_fmt (pe_var (i := 1) rfl (.inl rfl))) PJ.nil))) pa_nil) (pss_one (ps_ost (pe_var (i := 0) rfl (.inl rfl)) (pe_var (i := 1) rfl (.inl rfl)))), init1 rfl ?_ hsp⟩), ?_⟩
  · intro a w H Q hx hq
    refine jts_ok [JP.k "is none: ", JP.v 1] Str.empty (fun i hi => ?_) (fun x hx => ?_) (by show _ ≤ sizeLine; rw [sizeLine_eq]; decide) (fun out => hq _ (by show 1 ≤ 1000; decide))
    · simp only [List.mem_cons, List.mem_nil_iff, or_false, false_or, reduceCtorEq, JP.v.injEq] at hi
      subst hi
      exact ⟨w, rfl, hx (true, w) (by simp) rfl⟩
    · simp only [List.mem_cons, List.mem_nil_iff, or_false, false_or, reduceCtorEq, JP.k.injEq] at hx
      first | (subst hx; decide) | (rcases hx with rfl | rfl <;> decide) | (rcases hx with rfl | rfl | rfl <;> decide) | cases hx
  · intro s us _ hl
    match us, hl with | [_, _], _ => exact .of_eq rfl
abbrev si_Misfit : Stmt := initOf (top 5)
set_option maxHeartbeats 4000000 in
theorem x_Misfit {P : Program} {w : World} {K : PySem.W.Frag} {mg : Str → Option Value} {base : Heap} (x : Xc P K mg "Misfit" ["part"] (("Misfit" : Str) ++ ".__init__") (defArgs si_Misfit) (defBody si_Misfit) (defScope si_Misfit)) : KnX P w K mg base "Misfit" ["self", "part"] ["part"] [true] := by
  obtain ⟨g, ox, ⟨cda, cc, T⟩, ini, ti, no, xf, xd⟩ := x
  have S : Sup.ScopeS ["self", "part"] ["self", "part"] (defScope si_Misfit) := ⟨rfl, rfl, rfl, by decide +kernel, rfl, by decide +kernel, by decide +kernel, by decide +kernel, rfl, rfl⟩
  obtain ⟨oc, od, osl, dV, kV, doc, pm, an, ct, lk, rfl⟩ := T.fn
  refine ⟨g, ox, ini, ti, no, xf, xd, _, Sup.fnok_sup (k := 0) S T lk spI_len (fun A outer s H vs Q E room hsp => ⟨_, Sup.psS_sup (pl := pure false) S T rfl rfl rfl (pa_cons (pe_joined (PJ.cons pe_str (PJ.cons (pe_fmt (pe_var (i := 1) rfl (.inl rfl))) PJ.nil))) pa_nil) (pss_one (ps_ost (pe_var (i := 0) rfl (.inl rfl)) (pe_var (i := 1) rfl (.inl rfl)))), init1 rfl ?_ hsp⟩), ?_⟩
  · intro a w H Q hx hq
    refine jts_ok [JP.k "does not fit: ", JP.v 1] Str.empty (fun i hi => ?_) (fun x hx => ?_) (by show _ ≤ sizeLine; rw [sizeLine_eq]; decide) (fun out => hq _ (by show 1 ≤ 1000; decide))
    · simp only [List.mem_cons, List.mem_nil_iff, or_false, false_or, reduceCtorEq, JP.v.injEq] at hi
      subst hi
      exact ⟨w, rfl, hx (true, w) (by simp) rfl⟩
    · simp only [List.mem_cons, List.mem_nil_iff, or_false, false_or, reduceCtorEq, JP.k.injEq] at hx
      first | (subst hx; decide) | (rcases hx with rfl | rfl <;> decide) | (rcases hx with rfl | rfl | rfl <;> decide) | cases hx
  · intro s us _ hl
    match us, hl with | [_, _], _ => exact .of_eq rfl
abbrev sp_is_integer : DSp := DL.sp_is_integer
def r_is_integer : DS := (dRet (dAndV (dCal (fIsi "int") (dCons (dVar 0) (dCons (dC (.ty "int")) dNil))) (dNotV (dCal (fIsi "bool") (dCons (dVar 0) (dCons (dC (.ty "bool")) dNil))))))
theorem sc_is_integer : FnScope ["value"] ["value"] (defScope st_is_integer) := ⟨rfl, rfl, rfl, by decide +kernel, rfl, by decide +kernel, by decide +kernel⟩
theorem v_is_integer (xs : List D) (G : Gm) (R : KD) (RX : XD) (h : sp_is_integer xs G R RX) : r_is_integer { nx := fun _ G => R .non G, rt := R } (xs.map some ++ List.replicate (1 - xs.length) none) G := by
  exact is_integer_ok xs G R RX h
theorem l_is_integer (xs : List D) (G : Gm) (R : KD) (RX : XD) (h : sp_is_integer xs G R RX) : xs.length = 1 := by
  obtain ⟨_, rfl, _⟩ := h
  rfl
set_option maxHeartbeats 4000000 in
theorem k_is_integer {P : Program} {w : World} {K : PySem.W.Frag} {mg : Str → Option Value} {base : Heap} (T : Tx mg) (F : Df K mg "is_integer" st_is_integer) :
    Kn P w K mg base 1 "is_integer" st_is_integer ["value"] sp_is_integer :=
  kn_of F.g F.f sc_is_integer l_is_integer fun cdv hcv A outer s H E B RX hr hg kx => ⟨r_is_integer, (psd_one (psd_ret (pd_and (pd_isi rfl (by decide) rfl T.f_isinstance (pd_var 0) (pd_bty rfl T.f_int (by decide +kernel))) (pd_one (pd_not (pd_isi rfl (by decide) rfl T.f_isinstance (pd_var 0) (pd_bty rfl T.f_bool (by decide +kernel)))))))), fun xs G R h => v_is_integer xs G R RX h⟩
abbrev sp_is_within : DSp := DL.sp_is_within
def r_is_within : DS := (dSeq (dIfS (dNot (dTst (dCall sp_is_integer X0 (dCons (dVar 0) dNil)))) (dRet (dC (.bl false))) dNext) (dRet (dAndV (dOrV (dIsN (dVar 1)) (dOp (fInt gLe) (dVar 1) (dVar 0))) (dOrV (dIsN (dVar 2)) (dOp (fInt gLe) (dVar 0) (dVar 2))))))
theorem sc_is_within : FnScope ["value", "least", "most"] ["value", "least", "most"] (defScope st_is_within) := ⟨rfl, rfl, rfl, by decide +kernel, rfl, by decide +kernel, by decide +kernel⟩
theorem v_is_within (xs : List D) (G : Gm) (R : KD) (RX : XD) (h : sp_is_within xs G R RX) : r_is_within { nx := fun _ G => R .non G, rt := R } (xs.map some ++ List.replicate (3 - xs.length) none) G := by
  exact is_within_ok xs G R RX h
theorem l_is_within (xs : List D) (G : Gm) (R : KD) (RX : XD) (h : sp_is_within xs G R RX) : xs.length = 3 := by
  obtain ⟨_, _, _, _, _, rfl, _⟩ := h
  rfl
set_option maxHeartbeats 4000000 in
theorem k_is_within {P : Program} {w : World} {K : PySem.W.Frag} {mg : Str → Option Value} {base : Heap} (T : Tx mg) (F : Df K mg "is_within" st_is_within) (k_is_integer : Kn P w K mg base 1 "is_integer" st_is_integer ["value"] sp_is_integer) :
    Kn P w K mg base 2 "is_within" st_is_within ["value", "least", "most"] sp_is_within :=
  kn_of F.g F.f sc_is_within l_is_within fun cdv hcv A outer s H E B RX hr hg kx => ⟨r_is_within, (psd_cons (psd_if (ptd_not (ptd_val (pd_call k_is_integer (hr.mono (by decide)) hg rfl pass0 kx0 (fun _ _ _ _ _ _ us hl => match us, hl with | [_], _ => rfl) (pda_cons (pd_var 0) pda_nil)))) (psd_one (psd_ret pd_bl)) psd_nil) (psd_one (psd_ret (pd_and (pd_or (pd_isN (pd_var 1)) (pd_one (pd_cmp op_le od_bl (pd_var 1) (pd_var 0) (nomark _)))) (pd_one (pd_or (pd_isN (pd_var 2)) (pd_one (pd_cmp op_le od_bl (pd_var 0) (pd_var 2) (nomark _))))))))), fun xs G R h => v_is_within xs G R RX h⟩
abbrev sp_is_list : DSp := DL.sp_is_list
def r_is_list : DS := (dRet (dIsiT ["list", "tuple"] (dVar 0)))
theorem sc_is_list : FnScope ["value"] ["value"] (defScope st_is_list) := ⟨rfl, rfl, rfl, by decide +kernel, rfl, by decide +kernel, by decide +kernel⟩
theorem v_is_list (xs : List D) (G : Gm) (R : KD) (RX : XD) (h : sp_is_list xs G R RX) : r_is_list { nx := fun _ G => R .non G, rt := R } (xs.map some ++ List.replicate (1 - xs.length) none) G := by
  exact is_list_ok xs G R RX h
theorem l_is_list (xs : List D) (G : Gm) (R : KD) (RX : XD) (h : sp_is_list xs G R RX) : xs.length = 1 := by
  obtain ⟨_, rfl, _⟩ := h
  rfl
set_option maxHeartbeats 4000000 in
theorem k_is_list {P : Program} {w : World} {K : PySem.W.Frag} {mg : Str → Option Value} {base : Heap} (T : Tx mg) (F : Df K mg "is_list" st_is_list) :
    Kn P w K mg base 1 "is_list" st_is_list ["value"] sp_is_list :=
  kn_of F.g F.f sc_is_list l_is_list fun cdv hcv A outer s H E B RX hr hg kx => ⟨r_is_list, (psd_one (psd_ret (pd_isiT rfl (by decide) (by decide) rfl T.f_isinstance (pd_var 0) (pty_cons (pe_ty rfl T.f_list (by decide +kernel)) (pty_cons (pe_ty rfl T.f_tuple (by decide +kernel)) pty_nil))))), fun xs G R h => v_is_list xs G R RX h⟩
def r_halves : DS := (dRet (dIf (dTst (dCall sp_is_integer X0 (dCons (dVar 0) dNil))) (dTup (dCons (dVar 0) (dCons (dC (.int 1)) dNil))) (dTup (dCons (dIx (dVar 0) (dC (.int 0))) (dCons (dIx (dVar 0) (dC (.int 1))) dNil)))))
theorem sc_halves : FnScope ["number"] ["number"] (defScope st_halves) := ⟨rfl, rfl, rfl, by decide +kernel, rfl, by decide +kernel, by decide +kernel⟩
theorem v_halves (xs : List D) (G : Gm) (R : KD) (RX : XD) (h : sp_halves xs G R RX) : r_halves { nx := fun _ G => R .non G, rt := R } (xs.map some ++ List.replicate (1 - xs.length) none) G := by
  exact halves_ok xs G R RX h
theorem l_halves (xs : List D) (G : Gm) (R : KD) (RX : XD) (h : sp_halves xs G R RX) : xs.length = 1 := by
  obtain ⟨_, rfl, _⟩ := h
  rfl
set_option maxHeartbeats 4000000 in
theorem k_halves {P : Program} {w : World} {K : PySem.W.Frag} {mg : Str → Option Value} {base : Heap} (T : Tx mg) (F : Df K mg "halves" st_halves) (k_is_integer : Kn P w K mg base 1 "is_integer" st_is_integer ["value"] sp_is_integer) :
    Kn P w K mg base 2 "halves" st_halves ["number"] sp_halves :=
  kn_of F.g F.f sc_halves l_halves fun cdv hcv A outer s H E B RX hr hg kx => ⟨r_halves, (psd_one (psd_ret (pd_if (ptd_val (pd_call k_is_integer (hr.mono (by decide)) hg rfl pass0 kx0 (fun _ _ _ _ _ _ us hl => match us, hl with | [_], _ => rfl) (pda_cons (pd_var 0) pda_nil))) (pd_tup (pda_cons (pd_var 0) (pda_cons pd_int pda_nil))) (pd_tup (pda_cons (pd_ix (pd_var 0) pd_int (fun _ _ => rfl)) (pda_cons (pd_ix (pd_var 0) pd_int (fun _ _ => rfl)) pda_nil)))))), fun xs G R h => v_halves xs G R RX h⟩
def r_common : DS := (dSeq (dPar 0 1 (dCons (dCal fAbs (dCons (dVar 0) dNil)) (dCons (dCal fAbs (dCons (dVar 1) dNil)) dNil))) (dSeq (dWhile (dTst (dOp (fInt gGt) (dVar 1) (dC (.int 0)))) (dPar 0 1 (dCons (dVar 1) (dCons (dOp (fIntC (fun _ j => 0 < j) fun i j => .int (i % j)) (dVar 0) (dVar 1)) dNil)))) (dRet (dVar 0))))
theorem sc_common : FnScope ["one", "other"] ["one", "other"] (defScope st_common) := ⟨rfl, rfl, rfl, by decide +kernel, rfl, by decide +kernel, by decide +kernel⟩
theorem v_common (xs : List D) (G : Gm) (R : KD) (RX : XD) (h : sp_common xs G R RX) : r_common { nx := fun _ G => R .non G, rt := R } (xs.map some ++ List.replicate (2 - xs.length) none) G := by
  exact common_ok xs G R RX h
theorem l_common (xs : List D) (G : Gm) (R : KD) (RX : XD) (h : sp_common xs G R RX) : xs.length = 2 := by
  obtain ⟨_, _, rfl, _⟩ := h
  rfl
set_option maxHeartbeats 4000000 in
theorem k_common {P : Program} {w : World} {K : PySem.W.Frag} {mg : Str → Option Value} {base : Heap} (T : Tx mg) (F : Df K mg "common" st_common) :
    Kn P w K mg base 1 "common" st_common ["one", "other"] sp_common :=
  kn_of F.g F.f sc_common l_common fun cdv hcv A outer s H E B RX hr hg kx => ⟨r_common, (psd_cons (psd_par (i := 0) (j := 1) rfl sc_common.nd rfl rfl (by decide) rfl rfl (pda_cons (pd_callB call_abs cd_abs rfl T.f_abs (by decide +kernel) (pda_cons (pd_var 0) pda_nil)) (pda_cons (pd_callB call_abs cd_abs rfl T.f_abs (by decide +kernel) (pda_cons (pd_var 1) pda_nil)) pda_nil)) rfl) (psd_cons (psd_while (passes_of rfl) (ptd_cmp op_gt od_bl (pd_var 1) pd_int (nomark _)) (psd_one (psd_par (i := 0) (j := 1) rfl sc_common.nd rfl rfl (by decide) rfl rfl (pda_cons (pd_var 1) (pda_cons (pd_mod (pd_var 0) (pd_var 1)) pda_nil)) rfl))) (psd_one (psd_ret (pd_var 0))))), fun xs G R h => v_common xs G R RX h⟩
def r_lowest_in : DS := (dSeq (dSet 2 (dIf (dTst (dOp (fInt gGt) (dVar 1) (dC (.int 0)))) (dCall sp_common X0 (dCons (dVar 0) (dCons (dVar 1) dNil))) (dNeg (dCall sp_common X0 (dCons (dVar 0) (dCons (dVar 1) dNil)))))) (dRet (dIf (dTst (dOp fEq (dOp (fIntC CDivZ fun i j => .int (Int.fdiv i j)) (dVar 1) (dVar 2)) (dC (.int 1)))) (dOp (fIntC CDivZ fun i j => .int (Int.fdiv i j)) (dVar 0) (dVar 2)) (dTup (dCons (dOp (fIntC CDivZ fun i j => .int (Int.fdiv i j)) (dVar 0) (dVar 2)) (dCons (dOp (fIntC CDivZ fun i j => .int (Int.fdiv i j)) (dVar 1) (dVar 2)) dNil))))))
theorem sc_lowest_in : FnScope ["above", "under", "by"] ["above", "under"] (defScope st_lowest_in) := ⟨rfl, rfl, rfl, by decide +kernel, rfl, by decide +kernel, by decide +kernel⟩
theorem v_lowest_in (xs : List D) (G : Gm) (R : KD) (RX : XD) (h : sp_lowest_in xs G R RX) : r_lowest_in { nx := fun _ G => R .non G, rt := R } (xs.map some ++ List.replicate (3 - xs.length) none) G := by
  exact lowZ_ok xs G R RX h
theorem l_lowest_in (xs : List D) (G : Gm) (R : KD) (RX : XD) (h : sp_lowest_in xs G R RX) : xs.length = 2 := by
  obtain ⟨_, _, rfl, _⟩ := h
  rfl
set_option maxHeartbeats 4000000 in
theorem k_lowest_in {P : Program} {w : World} {K : PySem.W.Frag} {mg : Str → Option Value} {base : Heap} (T : Tx mg) (F : Df K mg "lowest_in" st_lowest_in) (k_common : Kn P w K mg base 1 "common" st_common ["one", "other"] sp_common) :
    Kn P w K mg base 2 "lowest_in" st_lowest_in ["above", "under"] sp_lowest_in :=
  kn_of F.g F.f sc_lowest_in l_lowest_in fun cdv hcv A outer s H E B RX hr hg kx => ⟨r_lowest_in, (psd_cons (psd_set (i := 2) sc_lowest_in.nd rfl (by first | exact Or.inl rfl | exact Or.inr rfl) (pd_if (ptd_cmp op_gt od_bl (pd_var 1) pd_int (nomark _)) (pd_call k_common (hr.mono (by decide)) hg rfl pass0 kx0 (fun _ _ _ _ _ _ us hl => match us, hl with | [_, _], _ => rfl) (pda_cons (pd_var 0) (pda_cons (pd_var 1) pda_nil))) (pd_neg (pd_call k_common (hr.mono (by decide)) hg rfl pass0 kx0 (fun _ _ _ _ _ _ us hl => match us, hl with | [_, _], _ => rfl) (pda_cons (pd_var 0) (pda_cons (pd_var 1) pda_nil)))))) (psd_one (psd_ret (pd_if (ptd_cmp (op_eq2 hr.units) od_eq (pd_fdivZ (pd_var 1) (pd_var 2)) pd_int (nomark _)) (pd_fdivZ (pd_var 0) (pd_var 2)) (pd_tup (pda_cons (pd_fdivZ (pd_var 0) (pd_var 2)) (pda_cons (pd_fdivZ (pd_var 1) (pd_var 2)) pda_nil))))))), fun xs G R h => v_lowest_in xs G R RX h⟩
abbrev sp_plus_in : DSp := (sp_q2 fun p q => p + q)
def r_plus_in : DS := (dSeq (dAsg (dTup (dCons (dCall sp_halves X0 (dCons (dVar 0) dNil)) (dCons (dCall sp_halves X0 (dCons (dVar 1) dNil)) dNil))) (gSeq 2 (gCons (gSeq 2 (gCons (gN 2) (gCons (gN 3) gNil))) (gCons (gSeq 2 (gCons (gN 4) (gCons (gN 5) gNil))) gNil)))) (dRet (dCall sp_lowest_in X0 (dCons (dOp fAdd (dOp (fIntC IntMulOk fun i j => .int (i * j)) (dVar 2) (dVar 5)) (dOp (fIntC IntMulOk fun i j => .int (i * j)) (dVar 4) (dVar 3))) (dCons (dOp (fIntC IntMulOk fun i j => .int (i * j)) (dVar 3) (dVar 5)) dNil)))))
theorem sc_plus_in : FnScope ["one", "other", "a", "b", "c", "d"] ["one", "other"] (defScope st_plus_in) := ⟨rfl, rfl, rfl, by decide +kernel, rfl, by decide +kernel, by decide +kernel⟩
theorem v_plus_in (xs : List D) (G : Gm) (R : KD) (RX : XD) (h : sp_plus_in xs G R RX) : r_plus_in { nx := fun _ G => R .non G, rt := R } (xs.map some ++ List.replicate (6 - xs.length) none) G := by
  exact plusZ_ok xs G R RX (q2_to plus_q h)
theorem l_plus_in (xs : List D) (G : Gm) (R : KD) (RX : XD) (h : sp_plus_in xs G R RX) : xs.length = 2 := by
  obtain ⟨_, _, rfl, _⟩ := h
  rfl
set_option maxHeartbeats 4000000 in
theorem k_plus_in {P : Program} {w : World} {K : PySem.W.Frag} {mg : Str → Option Value} {base : Heap} (T : Tx mg) (F : Df K mg "plus_in" st_plus_in) (k_halves : Kn P w K mg base 2 "halves" st_halves ["number"] sp_halves) (k_lowest_in : Kn P w K mg base 2 "lowest_in" st_lowest_in ["above", "under"] sp_lowest_in) :
    Kn P w K mg base 3 "plus_in" st_plus_in ["one", "other"] sp_plus_in :=
  kn_of F.g F.f sc_plus_in l_plus_in fun cdv hcv A outer s H E B RX hr hg kx => ⟨r_plus_in, (psd_cons (psd_asg (pd_tup (pda_cons (pd_call k_halves (hr.mono (by decide)) hg rfl pass0 kx0 (fun _ _ _ _ _ _ us hl => match us, hl with | [_], _ => rfl) (pda_cons (pd_var 0) pda_nil)) (pda_cons (pd_call k_halves (hr.mono (by decide)) hg rfl pass0 kx0 (fun _ _ _ _ _ _ us hl => match us, hl with | [_], _ => rfl) (pda_cons (pd_var 1) pda_nil)) pda_nil))) (pgd_seq rfl (pgsd_cons (pgd_seq rfl (pgsd_cons (pgd_name (i := 2) sc_plus_in.nd rfl (by first | exact Or.inl rfl | exact Or.inr rfl)) (pgsd_cons (pgd_name (i := 3) sc_plus_in.nd rfl (by first | exact Or.inl rfl | exact Or.inr rfl)) pgsd_nil))) (pgsd_cons (pgd_seq rfl (pgsd_cons (pgd_name (i := 4) sc_plus_in.nd rfl (by first | exact Or.inl rfl | exact Or.inr rfl)) (pgsd_cons (pgd_name (i := 5) sc_plus_in.nd rfl (by first | exact Or.inl rfl | exact Or.inr rfl)) pgsd_nil))) pgsd_nil)))) (psd_one (psd_ret (pd_call k_lowest_in (hr.mono (by decide)) hg rfl pass0 kx0 (fun _ _ _ _ _ _ us hl => match us, hl with | [_, _], _ => rfl) (pda_cons (pd_add (pd_mul (pd_var 2) (pd_var 5)) (pd_mul (pd_var 4) (pd_var 3))) (pda_cons (pd_mul (pd_var 3) (pd_var 5)) pda_nil)))))), fun xs G R h => v_plus_in xs G R RX h⟩
abbrev sp_times_in : DSp := (sp_q2 fun p q => p * q)
def r_times_in : DS := (dSeq (dAsg (dTup (dCons (dCall sp_halves X0 (dCons (dVar 0) dNil)) (dCons (dCall sp_halves X0 (dCons (dVar 1) dNil)) dNil))) (gSeq 2 (gCons (gSeq 2 (gCons (gN 2) (gCons (gN 3) gNil))) (gCons (gSeq 2 (gCons (gN 4) (gCons (gN 5) gNil))) gNil)))) (dRet (dCall sp_lowest_in X0 (dCons (dOp (fIntC IntMulOk fun i j => .int (i * j)) (dVar 2) (dVar 4)) (dCons (dOp (fIntC IntMulOk fun i j => .int (i * j)) (dVar 3) (dVar 5)) dNil)))))
theorem sc_times_in : FnScope ["one", "other", "a", "b", "c", "d"] ["one", "other"] (defScope st_times_in) := ⟨rfl, rfl, rfl, by decide +kernel, rfl, by decide +kernel, by decide +kernel⟩
theorem v_times_in (xs : List D) (G : Gm) (R : KD) (RX : XD) (h : sp_times_in xs G R RX) : r_times_in { nx := fun _ G => R .non G, rt := R } (xs.map some ++ List.replicate (6 - xs.length) none) G := by
  exact timesZ_ok xs G R RX (q2_to times_q h)
theorem l_times_in (xs : List D) (G : Gm) (R : KD) (RX : XD) (h : sp_times_in xs G R RX) : xs.length = 2 := by
  obtain ⟨_, _, rfl, _⟩ := h
  rfl
set_option maxHeartbeats 4000000 in
theorem k_times_in {P : Program} {w : World} {K : PySem.W.Frag} {mg : Str → Option Value} {base : Heap} (T : Tx mg) (F : Df K mg "times_in" st_times_in) (k_halves : Kn P w K mg base 2 "halves" st_halves ["number"] sp_halves) (k_lowest_in : Kn P w K mg base 2 "lowest_in" st_lowest_in ["above", "under"] sp_lowest_in) :
    Kn P w K mg base 3 "times_in" st_times_in ["one", "other"] sp_times_in :=
  kn_of F.g F.f sc_times_in l_times_in fun cdv hcv A outer s H E B RX hr hg kx => ⟨r_times_in, (psd_cons (psd_asg (pd_tup (pda_cons (pd_call k_halves (hr.mono (by decide)) hg rfl pass0 kx0 (fun _ _ _ _ _ _ us hl => match us, hl with | [_], _ => rfl) (pda_cons (pd_var 0) pda_nil)) (pda_cons (pd_call k_halves (hr.mono (by decide)) hg rfl pass0 kx0 (fun _ _ _ _ _ _ us hl => match us, hl with | [_], _ => rfl) (pda_cons (pd_var 1) pda_nil)) pda_nil))) (pgd_seq rfl (pgsd_cons (pgd_seq rfl (pgsd_cons (pgd_name (i := 2) sc_times_in.nd rfl (by first | exact Or.inl rfl | exact Or.inr rfl)) (pgsd_cons (pgd_name (i := 3) sc_times_in.nd rfl (by first | exact Or.inl rfl | exact Or.inr rfl)) pgsd_nil))) (pgsd_cons (pgd_seq rfl (pgsd_cons (pgd_name (i := 4) sc_times_in.nd rfl (by first | exact Or.inl rfl | exact Or.inr rfl)) (pgsd_cons (pgd_name (i := 5) sc_times_in.nd rfl (by first | exact Or.inl rfl | exact Or.inr rfl)) pgsd_nil))) pgsd_nil)))) (psd_one (psd_ret (pd_call k_lowest_in (hr.mono (by decide)) hg rfl pass0 kx0 (fun _ _ _ _ _ _ us hl => match us, hl with | [_, _], _ => rfl) (pda_cons (pd_mul (pd_var 2) (pd_var 4)) (pda_cons (pd_mul (pd_var 3) (pd_var 5)) pda_nil)))))), fun xs G R h => v_times_in xs G R RX h⟩
abbrev sp_minus_in : DSp := (sp_q2 fun p q => p - q)
def r_minus_in : DS := (dRet (dCall sp_plus_in X0 (dCons (dVar 0) (dCons (dCall sp_times_in X0 (dCons (dVar 1) (dCons (dNeg (dC (.int 1))) dNil))) dNil))))
theorem sc_minus_in : FnScope ["one", "other"] ["one", "other"] (defScope st_minus_in) := ⟨rfl, rfl, rfl, by decide +kernel, rfl, by decide +kernel, by decide +kernel⟩
theorem v_minus_in (xs : List D) (G : Gm) (R : KD) (RX : XD) (h : sp_minus_in xs G R RX) : r_minus_in { nx := fun _ G => R .non G, rt := R } (xs.map some ++ List.replicate (2 - xs.length) none) G := by
  obtain ⟨p, q, rfl, hp, hq, h⟩ := h
  unfold r_minus_in
  walk_at "start"
  walk_at "xx"
  refine ⟨q, ((-1 : Int) : Qr), rfl, hq, qb_int (Nat.one_lt_two_pow (by decide)), ?_⟩
  have e : q * ((-1 : Int) : Qr) = -q := by
    have o : ((-1 : Int) : Qr) = -1 := rfl
    rw [o]
    grind
  rw [show (fun p q : Qr => p * q) q ((-1 : Int) : Qr) = -q from e]
  walk_at "xx"
  refine ⟨p, -q, rfl, hp, neg_qb hq, ?_⟩
  rw [show (fun p q : Qr => p + q) p (-q) = p - q from (Rat.sub_eq_add_neg p q).symm]
  exact h
theorem l_minus_in (xs : List D) (G : Gm) (R : KD) (RX : XD) (h : sp_minus_in xs G R RX) : xs.length = 2 := by
  obtain ⟨_, _, rfl, _⟩ := h
  rfl
set_option maxHeartbeats 4000000 in
theorem k_minus_in {P : Program} {w : World} {K : PySem.W.Frag} {mg : Str → Option Value} {base : Heap} (T : Tx mg) (F : Df K mg "minus_in" st_minus_in) (k_plus_in : Kn P w K mg base 3 "plus_in" st_plus_in ["one", "other"] sp_plus_in) (k_times_in : Kn P w K mg base 3 "times_in" st_times_in ["one", "other"] sp_times_in) :
    Kn P w K mg base 4 "minus_in" st_minus_in ["one", "other"] sp_minus_in :=
  kn_of F.g F.f sc_minus_in l_minus_in fun cdv hcv A outer s H E B RX hr hg kx => ⟨r_minus_in, (psd_one (psd_ret (pd_call k_plus_in (hr.mono (by decide)) hg rfl pass0 kx0 (fun _ _ _ _ _ _ us hl => match us, hl with | [_, _], _ => rfl) (pda_cons (pd_var 0) (pda_cons (pd_call k_times_in (hr.mono (by decide)) hg rfl pass0 kx0 (fun _ _ _ _ _ _ us hl => match us, hl with | [_, _], _ => rfl) (pda_cons (pd_var 1) (pda_cons (pd_neg pd_int) pda_nil))) pda_nil))))), fun xs G R h => v_minus_in xs G R RX h⟩
abbrev sp_over_in : DSp := DL.sp_qover
def r_over_in : DS := (dSeq (dAsg (dTup (dCons (dCall sp_halves X0 (dCons (dVar 0) dNil)) (dCons (dCall sp_halves X0 (dCons (dVar 1) dNil)) dNil))) (gSeq 2 (gCons (gSeq 2 (gCons (gN 2) (gCons (gN 3) gNil))) (gCons (gSeq 2 (gCons (gN 4) (gCons (gN 5) gNil))) gNil)))) (dRet (dCall sp_lowest_in X0 (dCons (dOp (fIntC IntMulOk fun i j => .int (i * j)) (dVar 2) (dVar 5)) (dCons (dOp (fIntC IntMulOk fun i j => .int (i * j)) (dVar 3) (dVar 4)) dNil)))))
theorem sc_over_in : FnScope ["one", "other", "a", "b", "c", "d"] ["one", "other"] (defScope st_over_in) := ⟨rfl, rfl, rfl, by decide +kernel, rfl, by decide +kernel, by decide +kernel⟩
theorem v_over_in (xs : List D) (G : Gm) (R : KD) (RX : XD) (h : sp_over_in xs G R RX) : r_over_in { nx := fun _ G => R .non G, rt := R } (xs.map some ++ List.replicate (6 - xs.length) none) G := by
  exact overZ_ok xs G R RX (qover_to h)
theorem l_over_in (xs : List D) (G : Gm) (R : KD) (RX : XD) (h : sp_over_in xs G R RX) : xs.length = 2 := by
  obtain ⟨_, _, rfl, _⟩ := h
  rfl
set_option maxHeartbeats 4000000 in
theorem k_over_in {P : Program} {w : World} {K : PySem.W.Frag} {mg : Str → Option Value} {base : Heap} (T : Tx mg) (F : Df K mg "over_in" st_over_in) (k_halves : Kn P w K mg base 2 "halves" st_halves ["number"] sp_halves) (k_lowest_in : Kn P w K mg base 2 "lowest_in" st_lowest_in ["above", "under"] sp_lowest_in) :
    Kn P w K mg base 3 "over_in" st_over_in ["one", "other"] sp_over_in :=
  kn_of F.g F.f sc_over_in l_over_in fun cdv hcv A outer s H E B RX hr hg kx => ⟨r_over_in, (psd_cons (psd_asg (pd_tup (pda_cons (pd_call k_halves (hr.mono (by decide)) hg rfl pass0 kx0 (fun _ _ _ _ _ _ us hl => match us, hl with | [_], _ => rfl) (pda_cons (pd_var 0) pda_nil)) (pda_cons (pd_call k_halves (hr.mono (by decide)) hg rfl pass0 kx0 (fun _ _ _ _ _ _ us hl => match us, hl with | [_], _ => rfl) (pda_cons (pd_var 1) pda_nil)) pda_nil))) (pgd_seq rfl (pgsd_cons (pgd_seq rfl (pgsd_cons (pgd_name (i := 2) sc_over_in.nd rfl (by first | exact Or.inl rfl | exact Or.inr rfl)) (pgsd_cons (pgd_name (i := 3) sc_over_in.nd rfl (by first | exact Or.inl rfl | exact Or.inr rfl)) pgsd_nil))) (pgsd_cons (pgd_seq rfl (pgsd_cons (pgd_name (i := 4) sc_over_in.nd rfl (by first | exact Or.inl rfl | exact Or.inr rfl)) (pgsd_cons (pgd_name (i := 5) sc_over_in.nd rfl (by first | exact Or.inl rfl | exact Or.inr rfl)) pgsd_nil))) pgsd_nil)))) (psd_one (psd_ret (pd_call k_lowest_in (hr.mono (by decide)) hg rfl pass0 kx0 (fun _ _ _ _ _ _ us hl => match us, hl with | [_, _], _ => rfl) (pda_cons (pd_mul (pd_var 2) (pd_var 5)) (pda_cons (pd_mul (pd_var 3) (pd_var 4)) pda_nil)))))), fun xs G R h => v_over_in xs G R RX h⟩
abbrev sp_below_in : DSp := DL.sp_qlt
def r_below_in : DS := (dSeq (dAsg (dTup (dCons (dCall sp_halves X0 (dCons (dVar 0) dNil)) (dCons (dCall sp_halves X0 (dCons (dVar 1) dNil)) dNil))) (gSeq 2 (gCons (gSeq 2 (gCons (gN 2) (gCons (gN 3) gNil))) (gCons (gSeq 2 (gCons (gN 4) (gCons (gN 5) gNil))) gNil)))) (dRet (dOp (fInt gLt) (dOp (fIntC IntMulOk fun i j => .int (i * j)) (dVar 2) (dVar 5)) (dOp (fIntC IntMulOk fun i j => .int (i * j)) (dVar 4) (dVar 3)))))
theorem sc_below_in : FnScope ["one", "other", "a", "b", "c", "d"] ["one", "other"] (defScope st_below_in) := ⟨rfl, rfl, rfl, by decide +kernel, rfl, by decide +kernel, by decide +kernel⟩
theorem v_below_in (xs : List D) (G : Gm) (R : KD) (RX : XD) (h : sp_below_in xs G R RX) : r_below_in { nx := fun _ G => R .non G, rt := R } (xs.map some ++ List.replicate (6 - xs.length) none) G := by
  exact below_ok xs G R RX (qlt_to h)
theorem l_below_in (xs : List D) (G : Gm) (R : KD) (RX : XD) (h : sp_below_in xs G R RX) : xs.length = 2 := by
  obtain ⟨_, _, rfl, _⟩ := h
  rfl
set_option maxHeartbeats 4000000 in
theorem k_below_in {P : Program} {w : World} {K : PySem.W.Frag} {mg : Str → Option Value} {base : Heap} (T : Tx mg) (F : Df K mg "below_in" st_below_in) (k_halves : Kn P w K mg base 2 "halves" st_halves ["number"] sp_halves) :
    Kn P w K mg base 3 "below_in" st_below_in ["one", "other"] sp_below_in :=
  kn_of F.g F.f sc_below_in l_below_in fun cdv hcv A outer s H E B RX hr hg kx => ⟨r_below_in, (psd_cons (psd_asg (pd_tup (pda_cons (pd_call k_halves (hr.mono (by decide)) hg rfl pass0 kx0 (fun _ _ _ _ _ _ us hl => match us, hl with | [_], _ => rfl) (pda_cons (pd_var 0) pda_nil)) (pda_cons (pd_call k_halves (hr.mono (by decide)) hg rfl pass0 kx0 (fun _ _ _ _ _ _ us hl => match us, hl with | [_], _ => rfl) (pda_cons (pd_var 1) pda_nil)) pda_nil))) (pgd_seq rfl (pgsd_cons (pgd_seq rfl (pgsd_cons (pgd_name (i := 2) sc_below_in.nd rfl (by first | exact Or.inl rfl | exact Or.inr rfl)) (pgsd_cons (pgd_name (i := 3) sc_below_in.nd rfl (by first | exact Or.inl rfl | exact Or.inr rfl)) pgsd_nil))) (pgsd_cons (pgd_seq rfl (pgsd_cons (pgd_name (i := 4) sc_below_in.nd rfl (by first | exact Or.inl rfl | exact Or.inr rfl)) (pgsd_cons (pgd_name (i := 5) sc_below_in.nd rfl (by first | exact Or.inl rfl | exact Or.inr rfl)) pgsd_nil))) pgsd_nil)))) (psd_one (psd_ret (pd_cmp op_lt od_bl (pd_mul (pd_var 2) (pd_var 5)) (pd_mul (pd_var 4) (pd_var 3)) (nomark _))))), fun xs G R h => v_below_in xs G R RX h⟩
abbrev sp_is_number : DSp := DL.sp_is_number
def r_is_number : DS := (dSeq (dIfS (dNot (dTst (dCall sp_is_list X0 (dCons (dVar 0) dNil)))) (dRet (dCall sp_is_integer X0 (dCons (dVar 0) dNil))) dNext) (dSeq (dIfS (dOr (dTst (dOp fNe (dCal fLen (dCons (dVar 0) dNil)) (dC (.int 2)))) (dOr (dNot (dTst (dCall sp_is_integer X0 (dCons (dIx (dVar 0) (dC (.int 0))) dNil)))) (dNot (dTst (dCall sp_is_within X0 (dCons (dIx (dVar 0) (dC (.int 1))) (dCons (dC (.int 2)) (dCons (dC .non) dNil)))))))) (dRet (dC (.bl false))) dNext) (dRet (dOp fEq (dCall sp_common X0 (dCons (dIx (dVar 0) (dC (.int 0))) (dCons (dIx (dVar 0) (dC (.int 1))) dNil))) (dC (.int 1))))))
theorem sc_is_number : FnScope ["value"] ["value"] (defScope st_is_number) := ⟨rfl, rfl, rfl, by decide +kernel, rfl, by decide +kernel, by decide +kernel⟩
theorem v_is_number (xs : List D) (G : Gm) (R : KD) (RX : XD) (h : sp_is_number xs G R RX) : r_is_number { nx := fun _ G => R .non G, rt := R } (xs.map some ++ List.replicate (1 - xs.length) none) G := by
  exact is_number_ok xs G R RX h
theorem l_is_number (xs : List D) (G : Gm) (R : KD) (RX : XD) (h : sp_is_number xs G R RX) : xs.length = 1 := by
  obtain ⟨_, rfl, _⟩ := h
  rfl
set_option maxHeartbeats 4000000 in
theorem k_is_number {P : Program} {w : World} {K : PySem.W.Frag} {mg : Str → Option Value} {base : Heap} (T : Tx mg) (F : Df K mg "is_number" st_is_number) (k_is_integer : Kn P w K mg base 1 "is_integer" st_is_integer ["value"] sp_is_integer) (k_is_within : Kn P w K mg base 2 "is_within" st_is_within ["value", "least", "most"] sp_is_within) (k_is_list : Kn P w K mg base 1 "is_list" st_is_list ["value"] sp_is_list) (k_common : Kn P w K mg base 1 "common" st_common ["one", "other"] sp_common) :
    Kn P w K mg base 3 "is_number" st_is_number ["value"] sp_is_number :=
  kn_of F.g F.f sc_is_number l_is_number fun cdv hcv A outer s H E B RX hr hg kx => ⟨r_is_number, (psd_cons (psd_if (ptd_not (ptd_val (pd_call k_is_list (hr.mono (by decide)) hg rfl pass0 kx0 (fun _ _ _ _ _ _ us hl => match us, hl with | [_], _ => rfl) (pda_cons (pd_var 0) pda_nil)))) (psd_one (psd_ret (pd_call k_is_integer (hr.mono (by decide)) hg rfl pass0 kx0 (fun _ _ _ _ _ _ us hl => match us, hl with | [_], _ => rfl) (pda_cons (pd_var 0) pda_nil)))) psd_nil) (psd_cons (psd_if (PW.pt (pwd_or (ptd_cmp (op_ne2 hr.units) od_ne (pd_len rfl rfl T.f_len (pd_var 0)) pd_int (nomark _)) (pwd_or (ptd_not (ptd_val (pd_call k_is_integer (hr.mono (by decide)) hg rfl pass0 kx0 (fun _ _ _ _ _ _ us hl => match us, hl with | [_], _ => rfl) (pda_cons (pd_ix (pd_var 0) pd_int (fun _ _ => rfl)) pda_nil)))) (pwd_or1 (ptd_not (ptd_val (pd_call k_is_within (hr.mono (by decide)) hg rfl pass0 kx0 (fun _ _ _ _ _ _ us hl => match us, hl with | [_, _, _], _ => rfl) (pda_cons (pd_ix (pd_var 0) pd_int (fun _ _ => rfl)) (pda_cons (pd_gint rfl T.c_LEAST_UNDER) (pda_cons pd_non pda_nil)))))))))) (psd_one (psd_ret pd_bl)) psd_nil) (psd_one (psd_ret (pd_cmp (op_eq2 hr.units) od_eq (pd_call k_common (hr.mono (by decide)) hg rfl pass0 kx0 (fun _ _ _ _ _ _ us hl => match us, hl with | [_, _], _ => rfl) (pda_cons (pd_ix (pd_var 0) pd_int (fun _ _ => rfl)) (pda_cons (pd_ix (pd_var 0) pd_int (fun _ _ => rfl)) pda_nil))) pd_int (nomark _)))))), fun xs G R h => v_is_number xs G R RX h⟩
abbrev sp_is_small : DSp := DL.sp_is_small
def r_is_small : DS := (dSeq (dIfS (dNot (dTst (dCall sp_is_number X0 (dCons (dVar 0) dNil)))) (dRet (dC (.bl false))) dNext) (dSeq (dAsg (dCall sp_halves X0 (dCons (dVar 0) dNil)) (gSeq 2 (gCons (gN 1) (gCons (gN 2) gNil)))) (dRet (dAndV (dOp (fInt gLe) (dCal fAbs (dCons (dVar 1) dNil)) (dC (.int 1000000))) (dOp (fInt gLe) (dVar 2) (dC (.int 1000)))))))
theorem sc_is_small : FnScope ["value", "above", "under"] ["value"] (defScope st_is_small) := ⟨rfl, rfl, rfl, by decide +kernel, rfl, by decide +kernel, by decide +kernel⟩
theorem v_is_small (xs : List D) (G : Gm) (R : KD) (RX : XD) (h : sp_is_small xs G R RX) : r_is_small { nx := fun _ G => R .non G, rt := R } (xs.map some ++ List.replicate (3 - xs.length) none) G := by
  exact is_small_ok xs G R RX h
theorem l_is_small (xs : List D) (G : Gm) (R : KD) (RX : XD) (h : sp_is_small xs G R RX) : xs.length = 1 := by
  obtain ⟨_, rfl, _⟩ := h
  rfl
set_option maxHeartbeats 4000000 in
theorem k_is_small {P : Program} {w : World} {K : PySem.W.Frag} {mg : Str → Option Value} {base : Heap} (T : Tx mg) (F : Df K mg "is_small" st_is_small) (k_halves : Kn P w K mg base 2 "halves" st_halves ["number"] sp_halves) (k_is_number : Kn P w K mg base 3 "is_number" st_is_number ["value"] sp_is_number) :
    Kn P w K mg base 4 "is_small" st_is_small ["value"] sp_is_small :=
  kn_of F.g F.f sc_is_small l_is_small fun cdv hcv A outer s H E B RX hr hg kx => ⟨r_is_small, (psd_cons (psd_if (ptd_not (ptd_val (pd_call k_is_number (hr.mono (by decide)) hg rfl pass0 kx0 (fun _ _ _ _ _ _ us hl => match us, hl with | [_], _ => rfl) (pda_cons (pd_var 0) pda_nil)))) (psd_one (psd_ret pd_bl)) psd_nil) (psd_cons (psd_asg (pd_call k_halves (hr.mono (by decide)) hg rfl pass0 kx0 (fun _ _ _ _ _ _ us hl => match us, hl with | [_], _ => rfl) (pda_cons (pd_var 0) pda_nil)) (pgd_seq rfl (pgsd_cons (pgd_name (i := 1) sc_is_small.nd rfl (by first | exact Or.inl rfl | exact Or.inr rfl)) (pgsd_cons (pgd_name (i := 2) sc_is_small.nd rfl (by first | exact Or.inl rfl | exact Or.inr rfl)) pgsd_nil)))) (psd_one (psd_ret (pd_and (pd_cmp op_le od_bl (pd_callB call_abs cd_abs rfl T.f_abs (by decide +kernel) (pda_cons (pd_var 1) pda_nil)) (pd_gint rfl T.c_SMALL_ABOVE) (nomark _)) (pd_one (pd_cmp op_le od_bl (pd_var 2) (pd_gint rfl T.c_SMALL_UNDER) (nomark _)))))))), fun xs G R h => v_is_small xs G R RX h⟩
abbrev sp_kept_number : DSp := DL.sp_kept_number
def r_kept_number : DS := (dRet (dIf (dTst (dCall sp_is_list X0 (dCons (dVar 0) dNil))) (dCal fTupOf (dCons (dVar 0) dNil)) (dVar 0)))
theorem sc_kept_number : FnScope ["value"] ["value"] (defScope st_kept_number) := ⟨rfl, rfl, rfl, by decide +kernel, rfl, by decide +kernel, by decide +kernel⟩
theorem v_kept_number (xs : List D) (G : Gm) (R : KD) (RX : XD) (h : sp_kept_number xs G R RX) : r_kept_number { nx := fun _ G => R .non G, rt := R } (xs.map some ++ List.replicate (1 - xs.length) none) G := by
  exact kept_number_ok xs G R RX h
theorem l_kept_number (xs : List D) (G : Gm) (R : KD) (RX : XD) (h : sp_kept_number xs G R RX) : xs.length = 1 := by
  obtain ⟨_, rfl, _⟩ := h
  rfl
set_option maxHeartbeats 4000000 in
theorem k_kept_number {P : Program} {w : World} {K : PySem.W.Frag} {mg : Str → Option Value} {base : Heap} (T : Tx mg) (F : Df K mg "kept_number" st_kept_number) (k_is_list : Kn P w K mg base 1 "is_list" st_is_list ["value"] sp_is_list) :
    Kn P w K mg base 2 "kept_number" st_kept_number ["value"] sp_kept_number :=
  kn_of F.g F.f sc_kept_number l_kept_number fun cdv hcv A outer s H E B RX hr hg kx => ⟨r_kept_number, (psd_one (psd_ret (pd_if (ptd_val (pd_call k_is_list (hr.mono (by decide)) hg rfl pass0 kx0 (fun _ _ _ _ _ _ us hl => match us, hl with | [_], _ => rfl) (pda_cons (pd_var 0) pda_nil))) (pd_callTy call_tuple_of cd_tuple rfl T.f_tuple (by decide +kernel) (pda_cons (pd_var 0) pda_nil)) (pd_var 0)))), fun xs G R h => v_kept_number xs G R RX h⟩
abbrev sp_is_row : DSp := DL.sp_mrow
def r_is_row : DS := (dRet (dAndV (dCall sp_is_list X0 (dCons (dVar 0) dNil)) (dAndV (dOp fEq (dCal fLen (dCons (dVar 0) dNil)) (dVar 1)) (dCal fAll (dCons (dCmp (dISeq (dVar 0)) (gN 2) dYes (dCall sp_is_small X0 (dCons (dVar 2) dNil)) [2]) dNil)))))
theorem sc_is_row : FnScope ["value", "wide", "each"] ["value", "wide"] (defScope st_is_row) := ⟨rfl, rfl, rfl, by decide +kernel, rfl, by decide +kernel, by decide +kernel⟩
theorem v_is_row (xs : List D) (G : Gm) (R : KD) (RX : XD) (h : sp_is_row xs G R RX) : r_is_row { nx := fun _ G => R .non G, rt := R } (xs.map some ++ List.replicate (3 - xs.length) none) G := by
  exact mrow_ok xs G R RX h
theorem l_is_row (xs : List D) (G : Gm) (R : KD) (RX : XD) (h : sp_is_row xs G R RX) : xs.length = 2 := by
  obtain ⟨_, _, rfl, _⟩ := h
  rfl
set_option maxHeartbeats 4000000 in
theorem k_is_row {P : Program} {w : World} {K : PySem.W.Frag} {mg : Str → Option Value} {base : Heap} (T : Tx mg) (F : Df K mg "is_row" st_is_row) (k_is_list : Kn P w K mg base 1 "is_list" st_is_list ["value"] sp_is_list) (k_is_small : Kn P w K mg base 4 "is_small" st_is_small ["value"] sp_is_small) :
    Kn P w K mg base 5 "is_row" st_is_row ["value", "wide"] sp_is_row :=
  kn_of F.g F.f sc_is_row l_is_row fun cdv hcv A outer s H E B RX hr hg kx => ⟨r_is_row, (psd_one (psd_ret (pd_and (pd_call k_is_list (hr.mono (by decide)) hg rfl pass0 kx0 (fun _ _ _ _ _ _ us hl => match us, hl with | [_], _ => rfl) (pda_cons (pd_var 0) pda_nil)) (pd_and (pd_cmp (op_eq2 hr.units) od_eq (pd_len rfl rfl T.f_len (pd_var 0)) (pd_var 1) (nomark _)) (pd_one (pd_callB (cr_all rfl) cd_all rfl T.f_all (by decide +kernel) (pda_cons (pd_lc (own := [("each", 2)]) rfl sc_is_row.nd (pid_seq (pd_var 0)) (blkOk_by (N := ["value", "wide", "each"]) (sc := defScope st_is_row) (by decide +kernel)) (by decide) (fun _ _ _ _ _ _ => (pgd_name (i := 2) sc_is_row.nd rfl (by first | exact Or.inl rfl | exact Or.inr rfl))) (fun _ _ _ _ _ _ => ptsd_nil) (fun _ _ _ _ _ _ => (pd_call k_is_small (hr.mono (by decide)) hg rfl pass0 kx0 (fun _ _ _ _ _ _ us hl => match us, hl with | [_], _ => rfl) (pda_cons (pd_var 2) pda_nil)))) pda_nil))))))), fun xs G R h => v_is_row xs G R RX h⟩
abbrev sp_is_corner : DSp := DL.sp_mcorn
def r_is_corner : DS := (dRet (dAndV (dCall sp_is_list X0 (dCons (dVar 0) dNil)) (dAndV (dOp fEq (dCal fLen (dCons (dVar 0) dNil)) (dVar 1)) (dCal fAll (dCons (dCmp (dISeq (dVar 0)) (gN 2) dYes (dCall sp_is_within X0 (dCons (dVar 2) (dCons (dNeg (dC (.int 1000))) (dCons (dC (.int 1000)) dNil)))) [2]) dNil)))))
theorem sc_is_corner : FnScope ["value", "wide", "each"] ["value", "wide"] (defScope st_is_corner) := ⟨rfl, rfl, rfl, by decide +kernel, rfl, by decide +kernel, by decide +kernel⟩
theorem v_is_corner (xs : List D) (G : Gm) (R : KD) (RX : XD) (h : sp_is_corner xs G R RX) : r_is_corner { nx := fun _ G => R .non G, rt := R } (xs.map some ++ List.replicate (3 - xs.length) none) G := by
  exact mcorn_ok xs G R RX h
theorem l_is_corner (xs : List D) (G : Gm) (R : KD) (RX : XD) (h : sp_is_corner xs G R RX) : xs.length = 2 := by
  obtain ⟨_, _, rfl, _⟩ := h
  rfl
set_option maxHeartbeats 4000000 in
theorem k_is_corner {P : Program} {w : World} {K : PySem.W.Frag} {mg : Str → Option Value} {base : Heap} (T : Tx mg) (F : Df K mg "is_corner" st_is_corner) (k_is_within : Kn P w K mg base 2 "is_within" st_is_within ["value", "least", "most"] sp_is_within) (k_is_list : Kn P w K mg base 1 "is_list" st_is_list ["value"] sp_is_list) :
    Kn P w K mg base 3 "is_corner" st_is_corner ["value", "wide"] sp_is_corner :=
  kn_of F.g F.f sc_is_corner l_is_corner fun cdv hcv A outer s H E B RX hr hg kx => ⟨r_is_corner, (psd_one (psd_ret (pd_and (pd_call k_is_list (hr.mono (by decide)) hg rfl pass0 kx0 (fun _ _ _ _ _ _ us hl => match us, hl with | [_], _ => rfl) (pda_cons (pd_var 0) pda_nil)) (pd_and (pd_cmp (op_eq2 hr.units) od_eq (pd_len rfl rfl T.f_len (pd_var 0)) (pd_var 1) (nomark _)) (pd_one (pd_callB (cr_all rfl) cd_all rfl T.f_all (by decide +kernel) (pda_cons (pd_lc (own := [("each", 2)]) rfl sc_is_corner.nd (pid_seq (pd_var 0)) (blkOk_by (N := ["value", "wide", "each"]) (sc := defScope st_is_corner) (by decide +kernel)) (by decide) (fun _ _ _ _ _ _ => (pgd_name (i := 2) sc_is_corner.nd rfl (by first | exact Or.inl rfl | exact Or.inr rfl))) (fun _ _ _ _ _ _ => ptsd_nil) (fun _ _ _ _ _ _ => (pd_call k_is_within (hr.mono (by decide)) hg rfl pass0 kx0 (fun _ _ _ _ _ _ us hl => match us, hl with | [_, _, _], _ => rfl) (pda_cons (pd_var 2) (pda_cons (pd_neg (pd_gint rfl T.c_FARTHEST)) (pda_cons (pd_gint rfl T.c_FARTHEST) pda_nil)))))) pda_nil))))))), fun xs G R h => v_is_corner xs G R RX h⟩
abbrev sp_is_piece : DSp := DL.sp_mpiece
def r_is_piece : DS := (dSeq (dIfS (dOr (dNot (dTst (dCall sp_is_list X0 (dCons (dVar 0) dNil)))) (dOr (dTst (dOp fNe (dCal fLen (dCons (dVar 0) dNil)) (dC (.int 3)))) (dOr (dNot (dTst (dCall sp_is_corner X0 (dCons (dIx (dVar 0) (dC (.int 0))) (dCons (dVar 1) dNil))))) (dNot (dTst (dCall sp_is_row X0 (dCons (dIx (dVar 0) (dC (.int 2))) (dCons (dVar 1) dNil)))))))) (dRet (dC (.bl false))) dNext) (dRet (dAndV (dCall sp_is_list X0 (dCons (dIx (dVar 0) (dC (.int 1))) dNil)) (dAndV (dOp fEq (dCal fLen (dCons (dIx (dVar 0) (dC (.int 1))) dNil)) (dVar 1)) (dCal fAll (dCons (dCmp (dISeq (dIx (dVar 0) (dC (.int 1)))) (gN 2) dYes (dCall sp_is_row X0 (dCons (dVar 2) (dCons (dVar 1) dNil))) [2]) dNil))))))
theorem sc_is_piece : FnScope ["value", "wide", "row"] ["value", "wide"] (defScope st_is_piece) := ⟨rfl, rfl, rfl, by decide +kernel, rfl, by decide +kernel, by decide +kernel⟩
theorem v_is_piece (xs : List D) (G : Gm) (R : KD) (RX : XD) (h : sp_is_piece xs G R RX) : r_is_piece { nx := fun _ G => R .non G, rt := R } (xs.map some ++ List.replicate (3 - xs.length) none) G := by
  exact mpiece_ok xs G R RX h
theorem l_is_piece (xs : List D) (G : Gm) (R : KD) (RX : XD) (h : sp_is_piece xs G R RX) : xs.length = 2 := by
  obtain ⟨_, _, rfl, _⟩ := h
  rfl
set_option maxHeartbeats 4000000 in
theorem k_is_piece {P : Program} {w : World} {K : PySem.W.Frag} {mg : Str → Option Value} {base : Heap} (T : Tx mg) (F : Df K mg "is_piece" st_is_piece) (k_is_list : Kn P w K mg base 1 "is_list" st_is_list ["value"] sp_is_list) (k_is_row : Kn P w K mg base 5 "is_row" st_is_row ["value", "wide"] sp_is_row) (k_is_corner : Kn P w K mg base 3 "is_corner" st_is_corner ["value", "wide"] sp_is_corner) :
    Kn P w K mg base 6 "is_piece" st_is_piece ["value", "wide"] sp_is_piece :=
  kn_of F.g F.f sc_is_piece l_is_piece fun cdv hcv A outer s H E B RX hr hg kx => ⟨r_is_piece, (psd_cons (psd_if (PW.pt (pwd_or (ptd_not (ptd_val (pd_call k_is_list (hr.mono (by decide)) hg rfl pass0 kx0 (fun _ _ _ _ _ _ us hl => match us, hl with | [_], _ => rfl) (pda_cons (pd_var 0) pda_nil)))) (pwd_or (ptd_cmp (op_ne2 hr.units) od_ne (pd_len rfl rfl T.f_len (pd_var 0)) pd_int (nomark _)) (pwd_or (ptd_not (ptd_val (pd_call k_is_corner (hr.mono (by decide)) hg rfl pass0 kx0 (fun _ _ _ _ _ _ us hl => match us, hl with | [_, _], _ => rfl) (pda_cons (pd_ix (pd_var 0) pd_int (fun _ _ => rfl)) (pda_cons (pd_var 1) pda_nil))))) (pwd_or1 (ptd_not (ptd_val (pd_call k_is_row (hr.mono (by decide)) hg rfl pass0 kx0 (fun _ _ _ _ _ _ us hl => match us, hl with | [_, _], _ => rfl) (pda_cons (pd_ix (pd_var 0) pd_int (fun _ _ => rfl)) (pda_cons (pd_var 1) pda_nil)))))))))) (psd_one (psd_ret pd_bl)) psd_nil) (psd_one (psd_ret (pd_and (pd_call k_is_list (hr.mono (by decide)) hg rfl pass0 kx0 (fun _ _ _ _ _ _ us hl => match us, hl with | [_], _ => rfl) (pda_cons (pd_ix (pd_var 0) pd_int (fun _ _ => rfl)) pda_nil)) (pd_and (pd_cmp (op_eq2 hr.units) od_eq (pd_len rfl rfl T.f_len (pd_ix (pd_var 0) pd_int (fun _ _ => rfl))) (pd_var 1) (nomark _)) (pd_one (pd_callB (cr_all rfl) cd_all rfl T.f_all (by decide +kernel) (pda_cons (pd_lc (own := [("row", 2)]) rfl sc_is_piece.nd (pid_seq (pd_ix (pd_var 0) pd_int (fun _ _ => rfl))) (blkOk_by (N := ["value", "wide", "row"]) (sc := defScope st_is_piece) (by decide +kernel)) (by decide) (fun _ _ _ _ _ _ => (pgd_name (i := 2) sc_is_piece.nd rfl (by first | exact Or.inl rfl | exact Or.inr rfl))) (fun _ _ _ _ _ _ => ptsd_nil) (fun _ _ _ _ _ _ => (pd_call k_is_row (hr.mono (by decide)) hg rfl pass0 kx0 (fun _ _ _ _ _ _ us hl => match us, hl with | [_, _], _ => rfl) (pda_cons (pd_var 2) (pda_cons (pd_var 1) pda_nil))))) pda_nil)))))))), fun xs G R h => v_is_piece xs G R RX h⟩
abbrev sp_kept_row : DSp := DL.sp_mkrow
def r_kept_row : DS := (dRet (dCal fTupOf (dCons (dCmp (dISeq (dVar 0)) (gN 1) dYes (dCall sp_kept_number X0 (dCons (dVar 1) dNil)) [1]) dNil)))
theorem sc_kept_row : FnScope ["row", "each"] ["row"] (defScope st_kept_row) := ⟨rfl, rfl, rfl, by decide +kernel, rfl, by decide +kernel, by decide +kernel⟩
theorem v_kept_row (xs : List D) (G : Gm) (R : KD) (RX : XD) (h : sp_kept_row xs G R RX) : r_kept_row { nx := fun _ G => R .non G, rt := R } (xs.map some ++ List.replicate (2 - xs.length) none) G := by
  exact mkrow_ok xs G R RX h
theorem l_kept_row (xs : List D) (G : Gm) (R : KD) (RX : XD) (h : sp_kept_row xs G R RX) : xs.length = 1 := by
  obtain ⟨_, rfl, _⟩ := h
  rfl
set_option maxHeartbeats 4000000 in
theorem k_kept_row {P : Program} {w : World} {K : PySem.W.Frag} {mg : Str → Option Value} {base : Heap} (T : Tx mg) (F : Df K mg "kept_row" st_kept_row) (k_kept_number : Kn P w K mg base 2 "kept_number" st_kept_number ["value"] sp_kept_number) :
    Kn P w K mg base 3 "kept_row" st_kept_row ["row"] sp_kept_row :=
  kn_of F.g F.f sc_kept_row l_kept_row fun cdv hcv A outer s H E B RX hr hg kx => ⟨r_kept_row, (psd_one (psd_ret (pd_callTy call_tuple_of cd_tuple rfl T.f_tuple (by decide +kernel) (pda_cons (pd_lc (own := [("each", 1)]) rfl sc_kept_row.nd (pid_seq (pd_var 0)) (blkOk_by (N := ["row", "each"]) (sc := defScope st_kept_row) (by decide +kernel)) (by decide) (fun _ _ _ _ _ _ => (pgd_name (i := 1) sc_kept_row.nd rfl (by first | exact Or.inl rfl | exact Or.inr rfl))) (fun _ _ _ _ _ _ => ptsd_nil) (fun _ _ _ _ _ _ => (pd_call k_kept_number (hr.mono (by decide)) hg rfl pass0 kx0 (fun _ _ _ _ _ _ us hl => match us, hl with | [_], _ => rfl) (pda_cons (pd_var 1) pda_nil)))) pda_nil)))), fun xs G R h => v_kept_row xs G R RX h⟩
abbrev sp_kept_piece : DSp := DL.sp_mkpiece
def r_kept_piece : DS := (dRet (dTup (dCons (dCal fTupOf (dCons (dIx (dVar 0) (dC (.int 0))) dNil)) (dCons (dCal fTupOf (dCons (dCmp (dISeq (dIx (dVar 0) (dC (.int 1)))) (gN 1) dYes (dCall sp_kept_row X0 (dCons (dVar 1) dNil)) [1]) dNil)) (dCons (dCall sp_kept_row X0 (dCons (dIx (dVar 0) (dC (.int 2))) dNil)) dNil)))))
theorem sc_kept_piece : FnScope ["piece", "row"] ["piece"] (defScope st_kept_piece) := ⟨rfl, rfl, rfl, by decide +kernel, rfl, by decide +kernel, by decide +kernel⟩
theorem v_kept_piece (xs : List D) (G : Gm) (R : KD) (RX : XD) (h : sp_kept_piece xs G R RX) : r_kept_piece { nx := fun _ G => R .non G, rt := R } (xs.map some ++ List.replicate (2 - xs.length) none) G := by
  exact mkpiece_ok xs G R RX h
theorem l_kept_piece (xs : List D) (G : Gm) (R : KD) (RX : XD) (h : sp_kept_piece xs G R RX) : xs.length = 1 := by
  obtain ⟨_, _, rfl, _⟩ := h
  rfl
set_option maxHeartbeats 4000000 in
theorem k_kept_piece {P : Program} {w : World} {K : PySem.W.Frag} {mg : Str → Option Value} {base : Heap} (T : Tx mg) (F : Df K mg "kept_piece" st_kept_piece) (k_kept_row : Kn P w K mg base 3 "kept_row" st_kept_row ["row"] sp_kept_row) :
    Kn P w K mg base 4 "kept_piece" st_kept_piece ["piece"] sp_kept_piece :=
  kn_of F.g F.f sc_kept_piece l_kept_piece fun cdv hcv A outer s H E B RX hr hg kx => ⟨r_kept_piece, (psd_one (psd_ret (pd_tup (pda_cons (pd_callTy call_tuple_of cd_tuple rfl T.f_tuple (by decide +kernel) (pda_cons (pd_ix (pd_var 0) pd_int (fun _ _ => rfl)) pda_nil)) (pda_cons (pd_callTy call_tuple_of cd_tuple rfl T.f_tuple (by decide +kernel) (pda_cons (pd_lc (own := [("row", 1)]) rfl sc_kept_piece.nd (pid_seq (pd_ix (pd_var 0) pd_int (fun _ _ => rfl))) (blkOk_by (N := ["piece", "row"]) (sc := defScope st_kept_piece) (by decide +kernel)) (by decide) (fun _ _ _ _ _ _ => (pgd_name (i := 1) sc_kept_piece.nd rfl (by first | exact Or.inl rfl | exact Or.inr rfl))) (fun _ _ _ _ _ _ => ptsd_nil) (fun _ _ _ _ _ _ => (pd_call k_kept_row (hr.mono (by decide)) hg rfl pass0 kx0 (fun _ _ _ _ _ _ us hl => match us, hl with | [_], _ => rfl) (pda_cons (pd_var 1) pda_nil)))) pda_nil)) (pda_cons (pd_call k_kept_row (hr.mono (by decide)) hg rfl pass0 kx0 (fun _ _ _ _ _ _ us hl => match us, hl with | [_], _ => rfl) (pda_cons (pd_ix (pd_var 0) pd_int (fun _ _ => rfl)) pda_nil)) pda_nil)))))), fun xs G R h => v_kept_piece xs G R RX h⟩
abbrev sp_are_unlike : DSp := DL.sp_munlike
def r_are_unlike : DS := (dRet (dOp fEq (dLenSet (dVar 0)) (dCal fLen (dCons (dVar 0) dNil))))
theorem sc_are_unlike : FnScope ["pieces"] ["pieces"] (defScope st_are_unlike) := ⟨rfl, rfl, rfl, by decide +kernel, rfl, by decide +kernel, by decide +kernel⟩
theorem v_are_unlike (xs : List D) (G : Gm) (R : KD) (RX : XD) (h : sp_are_unlike xs G R RX) : r_are_unlike { nx := fun _ G => R .non G, rt := R } (xs.map some ++ List.replicate (1 - xs.length) none) G := by
  exact munlike_ok xs G R RX h
theorem l_are_unlike (xs : List D) (G : Gm) (R : KD) (RX : XD) (h : sp_are_unlike xs G R RX) : xs.length = 1 := by
  obtain ⟨_, _, _, rfl, _⟩ := h
  rfl
set_option maxHeartbeats 4000000 in
theorem k_are_unlike {P : Program} {w : World} {K : PySem.W.Frag} {mg : Str → Option Value} {base : Heap} (T : Tx mg) (F : Df K mg "are_unlike" st_are_unlike) :
    Kn P w K mg base 1 "are_unlike" st_are_unlike ["pieces"] sp_are_unlike :=
  kn_of F.g F.f sc_are_unlike l_are_unlike fun cdv hcv A outer s H E B RX hr hg kx => ⟨r_are_unlike, (psd_one (psd_ret (pd_cmp (op_eq2 hr.units) od_eq (pd_lenSet rfl hr.units rfl T.f_len rfl T.f_set (pd_var 0)) (pd_len rfl rfl T.f_len (pd_var 0)) (nomark _)))), fun xs G R h => v_are_unlike xs G R RX h⟩
abbrev sp_Machine___init__ : DSp := DL.sp_mach
def r_Machine___init__ (RX : XD) : DS := (dSeq (dIfS (dNot (dTst (dCall sp_is_within X0 (dCons (dVar 1) (dCons (dC (.int 1)) (dCons (dC (.int 2)) dNil)))))) (dRaise "BadMachine" ["part"] [true] RX (dCons (dC (.str "wide")) dNil)) dNext) (dSeq (dIfS (dOr (dNot (dTst (dCall sp_is_list X0 (dCons (dVar 2) dNil)))) (dNot (dTst (dChain (fInt gLe) (fInt gLe) (dC (.int 1)) (dCal fLen (dCons (dVar 2) dNil)) (dC (.int 60)))))) (dRaise "BadMachine" ["part"] [true] RX (dCons (dC (.str "pieces")) dNil)) dNext) (dSeq (dIfS (dNot (dTst (dCal fAll (dCons (dCmp (dISeq (dVar 2)) (gN 3) dYes (dCall sp_is_piece X0 (dCons (dVar 3) (dCons (dVar 1) dNil))) [3]) dNil)))) (dRaise "BadMachine" ["part"] [true] RX (dCons (dC (.str "pieces")) dNil)) dNext) (dSeq (dSet 4 (dCal fTupOf (dCons (dCmp (dISeq (dVar 2)) (gN 3) dYes (dCall sp_kept_piece X0 (dCons (dVar 3) dNil)) [3]) dNil))) (dSeq (dIfS (dNot (dTst (dCall sp_are_unlike X0 (dCons (dVar 4) dNil)))) (dRaise "BadMachine" ["part"] [true] RX (dCons (dC (.str "pieces")) dNil)) dNext) (dSeq (dSetF cls "wide" (dVar 1) (dVar 0)) (dSetF cls "pieces" (dVar 4) (dVar 0))))))))
theorem sc_Machine___init__ : FnScope ["self", "wide", "pieces", "each", "kept"] ["self", "wide", "pieces"] (defScope st_Machine___init__) := ⟨rfl, rfl, rfl, by decide +kernel, rfl, by decide +kernel, by decide +kernel⟩
theorem v_Machine___init__ (xs : List D) (G : Gm) (R : KD) (RX : XD) (h : sp_Machine___init__ xs G R RX) : r_Machine___init__ RX { nx := fun _ G => R .non G, rt := R } (xs.map some ++ List.replicate (5 - xs.length) none) G := by
  exact mach_ok (cl := cls) (by decide +kernel) (by decide +kernel) xs G R RX h
theorem l_Machine___init__ (xs : List D) (G : Gm) (R : KD) (RX : XD) (h : sp_Machine___init__ xs G R RX) : xs.length = 3 := by
  obtain ⟨_, _, _, rfl, _⟩ := h
  rfl
set_option maxHeartbeats 4000000 in
theorem k_Machine___init__ {P : Program} {w : World} {K : PySem.W.Frag} {mg : Str → Option Value} {base : Heap} (T : Tx mg) (F : DfM K "Machine" "__init__" st_Machine___init__) (W : OwC K mg cls subC) (x_BadMachine : KnX P w K mg base "BadMachine" ["self", "part"] ["part"] [true]) (k_is_within : Kn P w K mg base 2 "is_within" st_is_within ["value", "least", "most"] sp_is_within) (k_is_list : Kn P w K mg base 1 "is_list" st_is_list ["value"] sp_is_list) (k_is_piece : Kn P w K mg base 6 "is_piece" st_is_piece ["value", "wide"] sp_is_piece) (k_kept_piece : Kn P w K mg base 4 "kept_piece" st_kept_piece ["piece"] sp_kept_piece) (k_are_unlike : Kn P w K mg base 1 "are_unlike" st_are_unlike ["pieces"] sp_are_unlike) :
    KnM P w K mg base 7 "Machine" "__init__" st_Machine___init__ ["self", "wide", "pieces"] sp_Machine___init__ :=
  knm_of F.f sc_Machine___init__ l_Machine___init__ fun cdv hcv A outer s H E B RX hr hg kx => ⟨r_Machine___init__ RX, (psd_cons (psd_if (ptd_not (ptd_val (pd_call k_is_within (hr.mono (by decide)) hg rfl pass0 kx0 (fun _ _ _ _ _ _ us hl => match us, hl with | [_, _, _], _ => rfl) (pda_cons (pd_var 1) (pda_cons pd_int (pda_cons (pd_gint rfl T.c_MOST_WIDE) pda_nil)))))) (psd_one (psd_raise x_BadMachine (by decide) rfl (hr.mono (by decide)) rfl (takes_of rfl rfl rfl rfl) (fun _ e => kx.mono e) pass0 (pda_cons pd_str pda_nil))) psd_nil) (psd_cons (psd_if (PW.pt (pwd_or (ptd_not (ptd_val (pd_call k_is_list (hr.mono (by decide)) hg rfl pass0 kx0 (fun _ _ _ _ _ _ us hl => match us, hl with | [_], _ => rfl) (pda_cons (pd_var 2) pda_nil)))) (pwd_or1 (ptd_not (ptd_chain op_le op_le od_bl od_bl pd_int (pd_len rfl rfl T.f_len (pd_var 2)) (pd_gint rfl T.c_MOST_PIECES)))))) (psd_one (psd_raise x_BadMachine (by decide) rfl (hr.mono (by decide)) rfl (takes_of rfl rfl rfl rfl) (fun _ e => kx.mono e) pass0 (pda_cons pd_str pda_nil))) psd_nil) (psd_cons (psd_if (ptd_not (ptd_val (pd_callB (cr_all rfl) cd_all rfl T.f_all (by decide +kernel) (pda_cons (pd_lc (own := [("each", 3)]) rfl sc_Machine___init__.nd (pid_seq (pd_var 2)) (blkOk_by (N := ["self", "wide", "pieces", "each", "kept"]) (sc := defScope st_Machine___init__) (by decide +kernel)) (by decide) (fun _ _ _ _ _ _ => (pgd_name (i := 3) sc_Machine___init__.nd rfl (by first | exact Or.inl rfl | exact Or.inr rfl))) (fun _ _ _ _ _ _ => ptsd_nil) (fun _ _ _ _ _ _ => (pd_call k_is_piece (hr.mono (by decide)) hg rfl pass0 kx0 (fun _ _ _ _ _ _ us hl => match us, hl with | [_, _], _ => rfl) (pda_cons (pd_var 3) (pda_cons (pd_var 1) pda_nil))))) pda_nil)))) (psd_one (psd_raise x_BadMachine (by decide) rfl (hr.mono (by decide)) rfl (takes_of rfl rfl rfl rfl) (fun _ e => kx.mono e) pass0 (pda_cons pd_str pda_nil))) psd_nil) (psd_cons (psd_set (i := 4) sc_Machine___init__.nd rfl (by first | exact Or.inl rfl | exact Or.inr rfl) (pd_callTy call_tuple_of cd_tuple rfl T.f_tuple (by decide +kernel) (pda_cons (pd_lc (own := [("each", 3)]) rfl sc_Machine___init__.nd (pid_seq (pd_var 2)) (blkOk_by (N := ["self", "wide", "pieces", "each", "kept"]) (sc := defScope st_Machine___init__) (by decide +kernel)) (by decide) (fun _ _ _ _ _ _ => (pgd_name (i := 3) sc_Machine___init__.nd rfl (by first | exact Or.inl rfl | exact Or.inr rfl))) (fun _ _ _ _ _ _ => ptsd_nil) (fun _ _ _ _ _ _ => (pd_call k_kept_piece (hr.mono (by decide)) hg rfl pass0 kx0 (fun _ _ _ _ _ _ us hl => match us, hl with | [_], _ => rfl) (pda_cons (pd_var 3) pda_nil)))) pda_nil))) (psd_cons (psd_if (ptd_not (ptd_val (pd_call k_are_unlike (hr.mono (by decide)) hg rfl pass0 kx0 (fun _ _ _ _ _ _ us hl => match us, hl with | [_], _ => rfl) (pda_cons (pd_var 4) pda_nil)))) (psd_one (psd_raise x_BadMachine (by decide) rfl (hr.mono (by decide)) rfl (takes_of rfl rfl rfl rfl) (fun _ e => kx.mono e) pass0 (pda_cons pd_str pda_nil))) psd_nil) (psd_cons (psd_setF W (pd_var 0) (pd_var 1)) (psd_one (psd_setF W (pd_var 0) (pd_var 4))))))))), fun xs G R h => v_Machine___init__ xs G R RX h⟩
abbrev sp_need_machine : DSp := DL.sp_needMach cls subC
def r_need_machine (RX : XD) : DS := (dIfS (dNot (dTst (dIsW cls subC "Machine" (dVar 0)))) (dRaise "BadMachine" ["part"] [true] RX (dCons (dVar 1) dNil)) dNext)
theorem sc_need_machine : FnScope ["value", "part"] ["value", "part"] (defScope st_need_machine) := ⟨rfl, rfl, rfl, by decide +kernel, rfl, by decide +kernel, by decide +kernel⟩
theorem v_need_machine (xs : List D) (G : Gm) (R : KD) (RX : XD) (h : sp_need_machine xs G R RX) : r_need_machine RX { nx := fun _ G => R .non G, rt := R } (xs.map some ++ List.replicate (2 - xs.length) none) G := by
  exact needMach_ok (cl := cls) (sub := subC) xs G R RX h
theorem l_need_machine (xs : List D) (G : Gm) (R : KD) (RX : XD) (h : sp_need_machine xs G R RX) : xs.length = 2 := by
  obtain ⟨_, _, _, rfl, _⟩ := h
  rfl
set_option maxHeartbeats 4000000 in
theorem k_need_machine {P : Program} {w : World} {K : PySem.W.Frag} {mg : Str → Option Value} {base : Heap} (T : Tx mg) (F : DfD K mg "need_machine" st_need_machine [V.str "machine"]) (W : OwC K mg cls subC) (x_BadMachine : KnX P w K mg base "BadMachine" ["self", "part"] ["part"] [true]) :
    KnD P w K mg base 3 "need_machine" st_need_machine ["value", "part"] [V.str "machine"] sp_need_machine :=
  knd_of F.g F.f sc_need_machine l_need_machine fun cdv hcv A outer s H E B RX hr hg kx => ⟨r_need_machine RX, (psd_one (psd_if (ptd_not (ptd_val (pd_isW W rfl rfl rfl T.f_isinstance rfl (pd_var 0)))) (psd_one (psd_raise x_BadMachine (by decide) rfl (hr.mono (by decide)) rfl (takes_of rfl rfl rfl rfl) (fun _ e => kx.mono e) pass0 (pda_cons (pd_var 1) pda_nil))) psd_nil)), fun xs G R h => v_need_machine xs G R RX h⟩
abbrev sp_line_machine : DSp := DL.sp_lineM
def r_line_machine : DS := (dSeq (dIfS (dOr (dNot (dTst (dCall sp_is_list X0 (dCons (dVar 0) dNil)))) (dNot (dTst (dCal fAll (dCons (dCmp (dISeq (dVar 0)) (gN 1) dYes (dAndV (dCall sp_is_list X0 (dCons (dVar 1) dNil)) (dOp fEq (dCal fLen (dCons (dVar 1) dNil)) (dC (.int 3)))) [1]) dNil))))) dNever dNext) (dSeq (dSet 2 (dCmp (dISeq (dVar 0)) (gSeq 3 (gCons (gN 3) (gCons (gN 4) (gCons (gN 5) gNil)))) dYes (dTup (dCons (dLst (dCons (dVar 3) dNil)) (dCons (dLst (dCons (dLst (dCons (dVar 4) dNil)) dNil)) (dCons (dLst (dCons (dVar 5) dNil)) dNil)))) [3, 4, 5])) (dRet (dMake "Machine" sp_Machine___init__ X0 (dCons (dC (.int 1)) (dCons (dVar 2) dNil))))))
theorem sc_line_machine : FnScope ["triples", "each", "pieces", "corner", "row", "shift"] ["triples"] (defScope st_line_machine) := ⟨rfl, rfl, rfl, by decide +kernel, rfl, by decide +kernel, by decide +kernel⟩
theorem v_line_machine (xs : List D) (G : Gm) (R : KD) (RX : XD) (h : sp_line_machine xs G R RX) : r_line_machine { nx := fun _ G => R .non G, rt := R } (xs.map some ++ List.replicate (6 - xs.length) none) G := by
  exact lineM_ok xs G R RX h
theorem l_line_machine (xs : List D) (G : Gm) (R : KD) (RX : XD) (h : sp_line_machine xs G R RX) : xs.length = 1 := by
  obtain ⟨_, rfl, _⟩ := h
  rfl
set_option maxHeartbeats 4000000 in
theorem k_line_machine {P : Program} {w : World} {K : PySem.W.Frag} {mg : Str → Option Value} {base : Heap} (T : Tx mg) (F : Df K mg "line_machine" st_line_machine) (W : OwC K mg cls subC) (mk_Machine : L2.Mk K (He.ga K "Machine") (He.ma K (He.ga K "Machine") "__init__")) (k_is_list : Kn P w K mg base 1 "is_list" st_is_list ["value"] sp_is_list) (k_Machine___init__ : KnM P w K mg base 7 "Machine" "__init__" st_Machine___init__ ["self", "wide", "pieces"] sp_Machine___init__) :
    Kn P w K mg base 9 "line_machine" st_line_machine ["triples"] sp_line_machine :=
  kn_of F.g F.f sc_line_machine l_line_machine fun cdv hcv A outer s H E B RX hr hg kx => ⟨r_line_machine, (psd_cons (psd_if (PW.pt (pwd_or (ptd_not (ptd_val (pd_call k_is_list (hr.mono (by decide)) hg rfl pass0 kx0 (fun _ _ _ _ _ _ us hl => match us, hl with | [_], _ => rfl) (pda_cons (pd_var 0) pda_nil)))) (pwd_or1 (ptd_not (ptd_val (pd_callB (cr_all rfl) cd_all rfl T.f_all (by decide +kernel) (pda_cons (pd_lc (own := [("each", 1)]) rfl sc_line_machine.nd (pid_seq (pd_var 0)) (blkOk_by (N := ["triples", "each", "pieces", "corner", "row", "shift"]) (sc := defScope st_line_machine) (by decide +kernel)) (by decide) (fun _ _ _ _ _ _ => (pgd_name (i := 1) sc_line_machine.nd rfl (by first | exact Or.inl rfl | exact Or.inr rfl))) (fun _ _ _ _ _ _ => ptsd_nil) (fun _ _ _ _ _ _ => (pd_and (pd_call k_is_list (hr.mono (by decide)) hg rfl pass0 kx0 (fun _ _ _ _ _ _ us hl => match us, hl with | [_], _ => rfl) (pda_cons (pd_var 1) pda_nil)) (pd_one (pd_cmp (op_eq2 hr.units) od_eq (pd_len rfl rfl T.f_len (pd_var 1)) pd_int (nomark _)))))) pda_nil))))))) (psd_one psd_never) psd_nil) (psd_cons (psd_setLc (i := 2) (own := [("corner", 3), ("row", 4), ("shift", 5)]) rfl sc_line_machine.nd rfl rfl (sw_true rfl rfl rfl (by decide +kernel)) (pid_seq (pd_var 0)) (blkOk_by (N := ["triples", "each", "pieces", "corner", "row", "shift"]) (sc := defScope st_line_machine) (by decide +kernel)) (by decide) (fun _ _ _ _ _ _ => (pgd_seq rfl (pgsd_cons (pgd_name (i := 3) sc_line_machine.nd rfl (by first | exact Or.inl rfl | exact Or.inr rfl)) (pgsd_cons (pgd_name (i := 4) sc_line_machine.nd rfl (by first | exact Or.inl rfl | exact Or.inr rfl)) (pgsd_cons (pgd_name (i := 5) sc_line_machine.nd rfl (by first | exact Or.inl rfl | exact Or.inr rfl)) pgsd_nil))))) (fun _ _ _ _ _ _ => ptsd_nil) (fun _ _ _ _ _ _ => (pd_tup (pda_cons (pd_lst (pda_cons (pd_var 3) pda_nil)) (pda_cons (pd_lst (pda_cons (pd_lst (pda_cons (pd_var 4) pda_nil)) pda_nil)) (pda_cons (pd_lst (pda_cons (pd_var 5) pda_nil)) pda_nil)))))) (psd_one (ps_try_thru0 (psd_one (psd_ret (pd_makeI k_Machine___init__.toI mk_Machine (W.g ("Machine", ["wide", "pieces"]) (by decide +kernel)) (hr.mono (by decide)) hg rfl pass0 kx0 (fun fd e1 e2 us hl => by obtain ⟨_, _, _, _, _, _, _, _, _, _, _, _, _, _, _⟩ := fd; cases e1; cases e2; exact match us, hl with | [_, _, _], _ => rfl) (pda_cons pd_int (pda_cons (pd_var 2) pda_nil))))))))), fun xs G R h => v_line_machine xs G R RX h⟩
abbrev sp_need_way : DSp := DL.sp_needWay cls
def r_need_way (RX : XD) : DS := (dSeq (dSet 3 (dOp (fInt fun i j => .int (i - j)) (dCal fLen (dCons (dFld cls "pieces" (dVar 0)) dNil)) (dC (.int 1)))) (dSeq (dIfS (dOr (dNot (dTst (dCall sp_is_list X0 (dCons (dVar 1) dNil)))) (dOr (dNot (dTst (dChain (fInt gLe) (fInt gLe) (dC (.int 1)) (dCal fLen (dCons (dVar 1) dNil)) (dC (.int 400))))) (dNot (dTst (dCal fAll (dCons (dCmp (dISeq (dVar 1)) (gN 4) dYes (dCall sp_is_within X0 (dCons (dVar 4) (dCons (dC (.int 0)) (dCons (dVar 3) dNil)))) [4]) dNil)))))) (dRaise "BadWay" ["part"] [true] RX (dCons (dVar 2) dNil)) dNext) (dRet (dCal fTupOf (dCons (dVar 1) dNil)))))
theorem sc_need_way : FnScope ["machine", "value", "part", "last", "each"] ["machine", "value", "part"] (defScope st_need_way) := ⟨rfl, rfl, rfl, by decide +kernel, rfl, by decide +kernel, by decide +kernel⟩
theorem v_need_way (xs : List D) (G : Gm) (R : KD) (RX : XD) (h : sp_need_way xs G R RX) : r_need_way RX { nx := fun _ G => R .non G, rt := R } (xs.map some ++ List.replicate (5 - xs.length) none) G := by
  exact needWay_ok (cl := cls) (by decide +kernel) xs G R RX h
theorem l_need_way (xs : List D) (G : Gm) (R : KD) (RX : XD) (h : sp_need_way xs G R RX) : xs.length = 3 := by
  obtain ⟨_, _, _, _, _, rfl, _⟩ := h
  rfl
set_option maxHeartbeats 4000000 in
theorem k_need_way {P : Program} {w : World} {K : PySem.W.Frag} {mg : Str → Option Value} {base : Heap} (T : Tx mg) (F : DfD K mg "need_way" st_need_way [V.str "way"]) (W : OwC K mg cls subC) (x_BadWay : KnX P w K mg base "BadWay" ["self", "part"] ["part"] [true]) (k_is_within : Kn P w K mg base 2 "is_within" st_is_within ["value", "least", "most"] sp_is_within) (k_is_list : Kn P w K mg base 1 "is_list" st_is_list ["value"] sp_is_list) :
    KnD P w K mg base 3 "need_way" st_need_way ["machine", "value", "part"] [V.str "way"] sp_need_way :=
  knd_of F.g F.f sc_need_way l_need_way fun cdv hcv A outer s H E B RX hr hg kx => ⟨r_need_way RX, (psd_cons (psd_set (i := 3) sc_need_way.nd rfl (by first | exact Or.inl rfl | exact Or.inr rfl) (pd_sub (pd_len rfl rfl T.f_len (pd_fld W (pd_var 0))) pd_int)) (psd_cons (psd_if (PW.pt (pwd_or (ptd_not (ptd_val (pd_call k_is_list (hr.mono (by decide)) hg rfl pass0 kx0 (fun _ _ _ _ _ _ us hl => match us, hl with | [_], _ => rfl) (pda_cons (pd_var 1) pda_nil)))) (pwd_or (ptd_not (ptd_chain op_le op_le od_bl od_bl pd_int (pd_len rfl rfl T.f_len (pd_var 1)) (pd_gint rfl T.c_MOST_WAY))) (pwd_or1 (ptd_not (ptd_val (pd_callB (cr_all rfl) cd_all rfl T.f_all (by decide +kernel) (pda_cons (pd_lc (own := [("each", 4)]) rfl sc_need_way.nd (pid_seq (pd_var 1)) (blkOk_by (N := ["machine", "value", "part", "last", "each"]) (sc := defScope st_need_way) (by decide +kernel)) (by decide) (fun _ _ _ _ _ _ => (pgd_name (i := 4) sc_need_way.nd rfl (by first | exact Or.inl rfl | exact Or.inr rfl))) (fun _ _ _ _ _ _ => ptsd_nil) (fun _ _ _ _ _ _ => (pd_call k_is_within (hr.mono (by decide)) hg rfl pass0 kx0 (fun _ _ _ _ _ _ us hl => match us, hl with | [_, _, _], _ => rfl) (pda_cons (pd_var 4) (pda_cons pd_int (pda_cons (pd_var 3) pda_nil)))))) pda_nil)))))))) (psd_one (psd_raise x_BadWay (by decide) rfl (hr.mono (by decide)) rfl (takes_of rfl rfl rfl rfl) (fun _ e => kx.mono e) pass0 (pda_cons (pd_var 2) pda_nil))) psd_nil) (psd_one (psd_ret (pd_callTy call_tuple_of cd_tuple rfl T.f_tuple (by decide +kernel) (pda_cons (pd_var 1) pda_nil)))))), fun xs G R h => v_need_way xs G R RX h⟩
abbrev sp_need_line : DSp := DL.sp_needLine cls subC
def r_need_line (RX : XD) : DS := (dSeq (dDrop (dCallD sp_need_machine [D.str "machine"] RX (dCons (dVar 0) dNil))) (dIfS (dTst (dOp fNe (dFld cls "wide" (dVar 0)) (dC (.int 1)))) (dRaise "Misfit" ["part"] [true] RX (dCons (dC (.str "machine")) dNil)) dNext))
theorem sc_need_line : FnScope ["machine"] ["machine"] (defScope st_need_line) := ⟨rfl, rfl, rfl, by decide +kernel, rfl, by decide +kernel, by decide +kernel⟩
theorem v_need_line (xs : List D) (G : Gm) (R : KD) (RX : XD) (h : sp_need_line xs G R RX) : r_need_line RX { nx := fun _ G => R .non G, rt := R } (xs.map some ++ List.replicate (1 - xs.length) none) G := by
  exact needLine_ok (cl := cls) (sub := subC) (by decide +kernel) (by decide +kernel) (by decide +kernel) xs G R RX h
theorem l_need_line (xs : List D) (G : Gm) (R : KD) (RX : XD) (h : sp_need_line xs G R RX) : xs.length = 1 := by
  obtain ⟨_, rfl, _⟩ := h
  rfl
set_option maxHeartbeats 4000000 in
theorem k_need_line {P : Program} {w : World} {K : PySem.W.Frag} {mg : Str → Option Value} {base : Heap} (T : Tx mg) (F : Df K mg "need_line" st_need_line) (W : OwC K mg cls subC) (x_Misfit : KnX P w K mg base "Misfit" ["self", "part"] ["part"] [true]) (k_need_machine : KnD P w K mg base 3 "need_machine" st_need_machine ["value", "part"] [V.str "machine"] sp_need_machine) :
    Kn P w K mg base 4 "need_line" st_need_line ["machine"] sp_need_line :=
  kn_of F.g F.f sc_need_line l_need_line fun cdv hcv A outer s H E B RX hr hg kx => ⟨r_need_line RX, (psd_cons (psd_expr (pd_callD (n := 1) (j := 0) (ds := [D.str "machine"]) k_need_machine (by simp) (hr.mono (by decide)) hg rfl (passes_call (takes_of rfl rfl rfl rfl) fun _ _ _ _ h => h) (fun _ e => kx.mono e) rfl (fun _ => .cons (.str _) (.nil)) (fun _ _ _ _ _ _ _ us its hl hl2 => match us, hl, its, hl2 with | [_], _, [_], _ => ⟨_, rfl, rfl⟩) (pda_cons (pd_var 0) pda_nil))) (psd_one (psd_if (ptd_cmp (op_ne2 hr.units) od_ne (pd_fld W (pd_var 0)) pd_int (nomark _)) (psd_one (psd_raise x_Misfit (by decide) rfl (hr.mono (by decide)) rfl (takes_of rfl rfl rfl rfl) (fun _ e => kx.mono e) pass0 (pda_cons pd_str pda_nil))) psd_nil))), fun xs G R h => v_need_line xs G R RX h⟩
abbrev sp_parts_in : DSp := DL.sp_parts
def r_parts_in : DS := (dRet (dTup (dCons (dIx (dIx (dVar 0) (dC (.int 0))) (dC (.int 0))) (dCons (dIx (dIx (dIx (dVar 0) (dC (.int 1))) (dC (.int 0))) (dC (.int 0))) (dCons (dIx (dIx (dVar 0) (dC (.int 2))) (dC (.int 0))) dNil)))))
theorem sc_parts_in : FnScope ["piece"] ["piece"] (defScope st_parts_in) := ⟨rfl, rfl, rfl, by decide +kernel, rfl, by decide +kernel, by decide +kernel⟩
theorem v_parts_in (xs : List D) (G : Gm) (R : KD) (RX : XD) (h : sp_parts_in xs G R RX) : r_parts_in { nx := fun _ G => R .non G, rt := R } (xs.map some ++ List.replicate (1 - xs.length) none) G := by
  exact parts_ok xs G R RX h
theorem l_parts_in (xs : List D) (G : Gm) (R : KD) (RX : XD) (h : sp_parts_in xs G R RX) : xs.length = 1 := by
  obtain ⟨_, rfl, _⟩ := h
  rfl
set_option maxHeartbeats 4000000 in
theorem k_parts_in {P : Program} {w : World} {K : PySem.W.Frag} {mg : Str → Option Value} {base : Heap} (T : Tx mg) (F : Df K mg "parts_in" st_parts_in) :
    Kn P w K mg base 1 "parts_in" st_parts_in ["piece"] sp_parts_in :=
  kn_of F.g F.f sc_parts_in l_parts_in fun cdv hcv A outer s H E B RX hr hg kx => ⟨r_parts_in, (psd_one (psd_ret (pd_tup (pda_cons (pd_ix (pd_ix (pd_var 0) pd_int (fun _ _ => rfl)) pd_int (fun _ _ => rfl)) (pda_cons (pd_ix (pd_ix (pd_ix (pd_var 0) pd_int (fun _ _ => rfl)) pd_int (fun _ _ => rfl)) pd_int (fun _ _ => rfl)) (pda_cons (pd_ix (pd_ix (pd_var 0) pd_int (fun _ _ => rfl)) pd_int (fun _ _ => rfl)) pda_nil)))))), fun xs G R h => v_parts_in xs G R RX h⟩
abbrev sp_own_stretch : DSp := DL.sp_own
def r_own_stretch : DS := (dRet (dTup (dCons (dIx (dIx (dVar 0) (dC (.int 0))) (dC (.int 0))) (dCons (dOp fAdd (dIx (dIx (dVar 0) (dC (.int 0))) (dC (.int 0))) (dC (.int 1))) dNil))))
theorem sc_own_stretch : FnScope ["piece"] ["piece"] (defScope st_own_stretch) := ⟨rfl, rfl, rfl, by decide +kernel, rfl, by decide +kernel, by decide +kernel⟩
theorem v_own_stretch (xs : List D) (G : Gm) (R : KD) (RX : XD) (h : sp_own_stretch xs G R RX) : r_own_stretch { nx := fun _ G => R .non G, rt := R } (xs.map some ++ List.replicate (1 - xs.length) none) G := by
  exact own_ok xs G R RX h
theorem l_own_stretch (xs : List D) (G : Gm) (R : KD) (RX : XD) (h : sp_own_stretch xs G R RX) : xs.length = 1 := by
  obtain ⟨_, rfl, _⟩ := h
  rfl
set_option maxHeartbeats 4000000 in
theorem k_own_stretch {P : Program} {w : World} {K : PySem.W.Frag} {mg : Str → Option Value} {base : Heap} (T : Tx mg) (F : Df K mg "own_stretch" st_own_stretch) :
    Kn P w K mg base 1 "own_stretch" st_own_stretch ["piece"] sp_own_stretch :=
  kn_of F.g F.f sc_own_stretch l_own_stretch fun cdv hcv A outer s H E B RX hr hg kx => ⟨r_own_stretch, (psd_one (psd_ret (pd_tup (pda_cons (pd_ix (pd_ix (pd_var 0) pd_int (fun _ _ => rfl)) pd_int (fun _ _ => rfl)) (pda_cons (pd_add (pd_ix (pd_ix (pd_var 0) pd_int (fun _ _ => rfl)) pd_int (fun _ _ => rfl)) pd_int) pda_nil))))), fun xs G R h => v_own_stretch xs G R RX h⟩
abbrev sp_meet : DSp := DL.sp_meetS
def r_meet : DS := (dSeq (dSet 2 (dIf (dTst (dCall sp_below_in X0 (dCons (dIx (dVar 0) (dC (.int 0))) (dCons (dIx (dVar 1) (dC (.int 0))) dNil)))) (dIx (dVar 1) (dC (.int 0))) (dIx (dVar 0) (dC (.int 0))))) (dSeq (dSet 3 (dIf (dTst (dCall sp_below_in X0 (dCons (dIx (dVar 0) (dC (.int 1))) (dCons (dIx (dVar 1) (dC (.int 1))) dNil)))) (dIx (dVar 0) (dC (.int 1))) (dIx (dVar 1) (dC (.int 1))))) (dRet (dIf (dTst (dCall sp_below_in X0 (dCons (dVar 3) (dCons (dVar 2) dNil)))) (dC .non) (dTup (dCons (dVar 2) (dCons (dVar 3) dNil)))))))
theorem sc_meet : FnScope ["one", "other", "low", "high"] ["one", "other"] (defScope st_meet) := ⟨rfl, rfl, rfl, by decide +kernel, rfl, by decide +kernel, by decide +kernel⟩
theorem v_meet (xs : List D) (G : Gm) (R : KD) (RX : XD) (h : sp_meet xs G R RX) : r_meet { nx := fun _ G => R .non G, rt := R } (xs.map some ++ List.replicate (4 - xs.length) none) G := by
  exact meet_ok xs G R RX h
theorem l_meet (xs : List D) (G : Gm) (R : KD) (RX : XD) (h : sp_meet xs G R RX) : xs.length = 2 := by
  obtain ⟨_, _, rfl, _⟩ := h
  rfl
set_option maxHeartbeats 4000000 in
theorem k_meet {P : Program} {w : World} {K : PySem.W.Frag} {mg : Str → Option Value} {base : Heap} (T : Tx mg) (F : Df K mg "meet" st_meet) (k_below_in : Kn P w K mg base 3 "below_in" st_below_in ["one", "other"] sp_below_in) :
    Kn P w K mg base 4 "meet" st_meet ["one", "other"] sp_meet :=
  kn_of F.g F.f sc_meet l_meet fun cdv hcv A outer s H E B RX hr hg kx => ⟨r_meet, (psd_cons (psd_set (i := 2) sc_meet.nd rfl (by first | exact Or.inl rfl | exact Or.inr rfl) (pd_if (ptd_val (pd_call k_below_in (hr.mono (by decide)) hg rfl pass0 kx0 (fun _ _ _ _ _ _ us hl => match us, hl with | [_, _], _ => rfl) (pda_cons (pd_ix (pd_var 0) pd_int (fun _ _ => rfl)) (pda_cons (pd_ix (pd_var 1) pd_int (fun _ _ => rfl)) pda_nil)))) (pd_ix (pd_var 1) pd_int (fun _ _ => rfl)) (pd_ix (pd_var 0) pd_int (fun _ _ => rfl)))) (psd_cons (psd_set (i := 3) sc_meet.nd rfl (by first | exact Or.inl rfl | exact Or.inr rfl) (pd_if (ptd_val (pd_call k_below_in (hr.mono (by decide)) hg rfl pass0 kx0 (fun _ _ _ _ _ _ us hl => match us, hl with | [_, _], _ => rfl) (pda_cons (pd_ix (pd_var 0) pd_int (fun _ _ => rfl)) (pda_cons (pd_ix (pd_var 1) pd_int (fun _ _ => rfl)) pda_nil)))) (pd_ix (pd_var 0) pd_int (fun _ _ => rfl)) (pd_ix (pd_var 1) pd_int (fun _ _ => rfl)))) (psd_one (psd_ret (pd_if (ptd_val (pd_call k_below_in (hr.mono (by decide)) hg rfl pass0 kx0 (fun _ _ _ _ _ _ us hl => match us, hl with | [_, _], _ => rfl) (pda_cons (pd_var 3) (pda_cons (pd_var 2) pda_nil)))) pd_non (pd_tup (pda_cons (pd_var 2) (pda_cons (pd_var 3) pda_nil)))))))), fun xs G R h => v_meet xs G R RX h⟩
abbrev sp_led_on : DSp := DL.sp_ledOn
def r_led_on : DS := (dSeq (dAsg (dCall sp_parts_in X0 (dCons (dVar 0) dNil)) (gSeq 3 (gCons (gN 2) (gCons (gN 3) (gCons (gN 4) gNil))))) (dSeq (dAsg (dCmp (dISeq (dVar 1)) (gN 7) dYes (dCall sp_plus_in X0 (dCons (dCall sp_times_in X0 (dCons (dVar 3) (dCons (dVar 7) dNil))) (dCons (dVar 4) dNil))) [7]) (gSeq 2 (gCons (gN 5) (gCons (gN 6) gNil)))) (dRet (dIf (dTst (dCall sp_below_in X0 (dCons (dVar 6) (dCons (dVar 5) dNil)))) (dTup (dCons (dVar 6) (dCons (dVar 5) dNil))) (dTup (dCons (dVar 5) (dCons (dVar 6) dNil)))))))
theorem sc_led_on : FnScope ["piece", "stretch", "_", "row", "shift", "low", "high", "each"] ["piece", "stretch"] (defScope st_led_on) := ⟨rfl, rfl, rfl, by decide +kernel, rfl, by decide +kernel, by decide +kernel⟩
theorem v_led_on (xs : List D) (G : Gm) (R : KD) (RX : XD) (h : sp_led_on xs G R RX) : r_led_on { nx := fun _ G => R .non G, rt := R } (xs.map some ++ List.replicate (8 - xs.length) none) G := by
  exact ledOn_ok xs G R RX h
theorem l_led_on (xs : List D) (G : Gm) (R : KD) (RX : XD) (h : sp_led_on xs G R RX) : xs.length = 2 := by
  obtain ⟨_, _, rfl, _⟩ := h
  rfl
set_option maxHeartbeats 4000000 in
theorem k_led_on {P : Program} {w : World} {K : PySem.W.Frag} {mg : Str → Option Value} {base : Heap} (T : Tx mg) (F : Df K mg "led_on" st_led_on) (k_plus_in : Kn P w K mg base 3 "plus_in" st_plus_in ["one", "other"] sp_plus_in) (k_times_in : Kn P w K mg base 3 "times_in" st_times_in ["one", "other"] sp_times_in) (k_below_in : Kn P w K mg base 3 "below_in" st_below_in ["one", "other"] sp_below_in) (k_parts_in : Kn P w K mg base 1 "parts_in" st_parts_in ["piece"] sp_parts_in) :
    Kn P w K mg base 4 "led_on" st_led_on ["piece", "stretch"] sp_led_on :=
  kn_of F.g F.f sc_led_on l_led_on fun cdv hcv A outer s H E B RX hr hg kx => ⟨r_led_on, (psd_cons (psd_asg (pd_call k_parts_in (hr.mono (by decide)) hg rfl pass0 kx0 (fun _ _ _ _ _ _ us hl => match us, hl with | [_], _ => rfl) (pda_cons (pd_var 0) pda_nil)) (pgd_seq rfl (pgsd_cons (pgd_name (i := 2) sc_led_on.nd rfl (by first | exact Or.inl rfl | exact Or.inr rfl)) (pgsd_cons (pgd_name (i := 3) sc_led_on.nd rfl (by first | exact Or.inl rfl | exact Or.inr rfl)) (pgsd_cons (pgd_name (i := 4) sc_led_on.nd rfl (by first | exact Or.inl rfl | exact Or.inr rfl)) pgsd_nil))))) (psd_cons (psd_asg (pd_lc (own := [("each", 7)]) rfl sc_led_on.nd (pid_seq (pd_var 1)) (blkOk_by (N := ["piece", "stretch", "_", "row", "shift", "low", "high", "each"]) (sc := defScope st_led_on) (by decide +kernel)) (by decide) (fun _ _ _ _ _ _ => (pgd_name (i := 7) sc_led_on.nd rfl (by first | exact Or.inl rfl | exact Or.inr rfl))) (fun _ _ _ _ _ _ => ptsd_nil) (fun _ _ _ _ _ _ => (pd_call k_plus_in (hr.mono (by decide)) hg rfl pass0 kx0 (fun _ _ _ _ _ _ us hl => match us, hl with | [_, _], _ => rfl) (pda_cons (pd_call k_times_in (hr.mono (by decide)) hg rfl pass0 kx0 (fun _ _ _ _ _ _ us hl => match us, hl with | [_, _], _ => rfl) (pda_cons (pd_var 3) (pda_cons (pd_var 7) pda_nil))) (pda_cons (pd_var 4) pda_nil))))) (pgd_seq rfl (pgsd_cons (pgd_name (i := 5) sc_led_on.nd rfl (by first | exact Or.inl rfl | exact Or.inr rfl)) (pgsd_cons (pgd_name (i := 6) sc_led_on.nd rfl (by first | exact Or.inl rfl | exact Or.inr rfl)) pgsd_nil)))) (psd_one (psd_ret (pd_if (ptd_val (pd_call k_below_in (hr.mono (by decide)) hg rfl pass0 kx0 (fun _ _ _ _ _ _ us hl => match us, hl with | [_, _], _ => rfl) (pda_cons (pd_var 6) (pda_cons (pd_var 5) pda_nil)))) (pd_tup (pda_cons (pd_var 6) (pda_cons (pd_var 5) pda_nil))) (pd_tup (pda_cons (pd_var 5) (pda_cons (pd_var 6) pda_nil)))))))), fun xs G R h => v_led_on xs G R RX h⟩
abbrev sp_led_back : DSp := DL.sp_ledBack
def r_led_back : DS := (dSeq (dAsg (dCall sp_parts_in X0 (dCons (dVar 0) dNil)) (gSeq 3 (gCons (gN 2) (gCons (gN 3) (gCons (gN 4) gNil))))) (dSeq (dSet 5 (dCall sp_own_stretch X0 (dCons (dVar 0) dNil))) (dSeq (dIfS (dTst (dOp fEq (dVar 3) (dC (.int 0)))) (dRet (dIf (dTst (dIsN (dCall sp_meet X0 (dCons (dTup (dCons (dVar 4) (dCons (dVar 4) dNil))) (dCons (dVar 1) dNil))))) (dC .non) (dVar 5))) dNext) (dSeq (dAsg (dCmp (dISeq (dVar 1)) (gN 8) dYes (dCall sp_over_in X0 (dCons (dCall sp_minus_in X0 (dCons (dVar 8) (dCons (dVar 4) dNil))) (dCons (dVar 3) dNil))) [8]) (gSeq 2 (gCons (gN 6) (gCons (gN 7) gNil)))) (dRet (dCall sp_meet X0 (dCons (dVar 5) (dCons (dIf (dTst (dCall sp_below_in X0 (dCons (dVar 7) (dCons (dVar 6) dNil)))) (dTup (dCons (dVar 7) (dCons (dVar 6) dNil))) (dTup (dCons (dVar 6) (dCons (dVar 7) dNil)))) dNil))))))))
theorem sc_led_back : FnScope ["piece", "stretch", "_", "row", "shift", "own", "low", "high", "each"] ["piece", "stretch"] (defScope st_led_back) := ⟨rfl, rfl, rfl, by decide +kernel, rfl, by decide +kernel, by decide +kernel⟩
theorem v_led_back (xs : List D) (G : Gm) (R : KD) (RX : XD) (h : sp_led_back xs G R RX) : r_led_back { nx := fun _ G => R .non G, rt := R } (xs.map some ++ List.replicate (9 - xs.length) none) G := by
  exact ledBack_ok xs G R RX h
theorem l_led_back (xs : List D) (G : Gm) (R : KD) (RX : XD) (h : sp_led_back xs G R RX) : xs.length = 2 := by
  obtain ⟨_, _, rfl, _⟩ := h
  rfl
set_option maxHeartbeats 4000000 in
theorem k_led_back {P : Program} {w : World} {K : PySem.W.Frag} {mg : Str → Option Value} {base : Heap} (T : Tx mg) (F : Df K mg "led_back" st_led_back) (k_minus_in : Kn P w K mg base 4 "minus_in" st_minus_in ["one", "other"] sp_minus_in) (k_over_in : Kn P w K mg base 3 "over_in" st_over_in ["one", "other"] sp_over_in) (k_below_in : Kn P w K mg base 3 "below_in" st_below_in ["one", "other"] sp_below_in) (k_parts_in : Kn P w K mg base 1 "parts_in" st_parts_in ["piece"] sp_parts_in) (k_own_stretch : Kn P w K mg base 1 "own_stretch" st_own_stretch ["piece"] sp_own_stretch) (k_meet : Kn P w K mg base 4 "meet" st_meet ["one", "other"] sp_meet) :
    Kn P w K mg base 5 "led_back" st_led_back ["piece", "stretch"] sp_led_back :=
  kn_of F.g F.f sc_led_back l_led_back fun cdv hcv A outer s H E B RX hr hg kx => ⟨r_led_back, (psd_cons (psd_asg (pd_call k_parts_in (hr.mono (by decide)) hg rfl pass0 kx0 (fun _ _ _ _ _ _ us hl => match us, hl with | [_], _ => rfl) (pda_cons (pd_var 0) pda_nil)) (pgd_seq rfl (pgsd_cons (pgd_name (i := 2) sc_led_back.nd rfl (by first | exact Or.inl rfl | exact Or.inr rfl)) (pgsd_cons (pgd_name (i := 3) sc_led_back.nd rfl (by first | exact Or.inl rfl | exact Or.inr rfl)) (pgsd_cons (pgd_name (i := 4) sc_led_back.nd rfl (by first | exact Or.inl rfl | exact Or.inr rfl)) pgsd_nil))))) (psd_cons (psd_set (i := 5) sc_led_back.nd rfl (by first | exact Or.inl rfl | exact Or.inr rfl) (pd_call k_own_stretch (hr.mono (by decide)) hg rfl pass0 kx0 (fun _ _ _ _ _ _ us hl => match us, hl with | [_], _ => rfl) (pda_cons (pd_var 0) pda_nil))) (psd_cons (psd_if (ptd_cmp (op_eq2 hr.units) od_eq (pd_var 3) pd_int (nomark _)) (psd_one (psd_ret (pd_if (ptd_isN (pd_call k_meet (hr.mono (by decide)) hg rfl pass0 kx0 (fun _ _ _ _ _ _ us hl => match us, hl with | [_, _], _ => rfl) (pda_cons (pd_tup (pda_cons (pd_var 4) (pda_cons (pd_var 4) pda_nil))) (pda_cons (pd_var 1) pda_nil)))) pd_non (pd_var 5)))) psd_nil) (psd_cons (psd_asg (pd_lc (own := [("each", 8)]) rfl sc_led_back.nd (pid_seq (pd_var 1)) (blkOk_by (N := ["piece", "stretch", "_", "row", "shift", "own", "low", "high", "each"]) (sc := defScope st_led_back) (by decide +kernel)) (by decide) (fun _ _ _ _ _ _ => (pgd_name (i := 8) sc_led_back.nd rfl (by first | exact Or.inl rfl | exact Or.inr rfl))) (fun _ _ _ _ _ _ => ptsd_nil) (fun _ _ _ _ _ _ => (pd_call k_over_in (hr.mono (by decide)) hg rfl pass0 kx0 (fun _ _ _ _ _ _ us hl => match us, hl with | [_, _], _ => rfl) (pda_cons (pd_call k_minus_in (hr.mono (by decide)) hg rfl pass0 kx0 (fun _ _ _ _ _ _ us hl => match us, hl with | [_, _], _ => rfl) (pda_cons (pd_var 8) (pda_cons (pd_var 4) pda_nil))) (pda_cons (pd_var 3) pda_nil))))) (pgd_seq rfl (pgsd_cons (pgd_name (i := 6) sc_led_back.nd rfl (by first | exact Or.inl rfl | exact Or.inr rfl)) (pgsd_cons (pgd_name (i := 7) sc_led_back.nd rfl (by first | exact Or.inl rfl | exact Or.inr rfl)) pgsd_nil)))) (psd_one (psd_ret (pd_call k_meet (hr.mono (by decide)) hg rfl pass0 kx0 (fun _ _ _ _ _ _ us hl => match us, hl with | [_, _], _ => rfl) (pda_cons (pd_var 5) (pda_cons (pd_if (ptd_val (pd_call k_below_in (hr.mono (by decide)) hg rfl pass0 kx0 (fun _ _ _ _ _ _ us hl => match us, hl with | [_, _], _ => rfl) (pda_cons (pd_var 7) (pda_cons (pd_var 6) pda_nil)))) (pd_tup (pda_cons (pd_var 7) (pda_cons (pd_var 6) pda_nil))) (pd_tup (pda_cons (pd_var 6) (pda_cons (pd_var 7) pda_nil)))) pda_nil))))))))), fun xs G R h => v_led_back xs G R RX h⟩
abbrev sp_stretch_in : DSp := DL.sp_stretchIn cls
def r_stretch_in : DS := (dSeq (dSet 2 (dCall sp_own_stretch X0 (dCons (dIx (dFld cls "pieces" (dVar 0)) (dIx (dVar 1) (dNeg (dC (.int 1))))) dNil))) (dSeq (dFor (dISeq (dBackT (dVar 1) (dPart (dNeg (dC (.int 2)))) dNoP)) (gN 3) (dSeq (dSet 2 (dCall sp_led_back X0 (dCons (dIx (dFld cls "pieces" (dVar 0)) (dVar 3)) (dCons (dVar 2) dNil)))) (dIfS (dTst (dIsN (dVar 2))) (dRet (dC .non)) dNext))) (dRet (dVar 2))))
theorem sc_stretch_in : FnScope ["machine", "way", "found", "number"] ["machine", "way"] (defScope st_stretch_in) := ⟨rfl, rfl, rfl, by decide +kernel, rfl, by decide +kernel, by decide +kernel⟩
theorem v_stretch_in (xs : List D) (G : Gm) (R : KD) (RX : XD) (h : sp_stretch_in xs G R RX) : r_stretch_in { nx := fun _ G => R .non G, rt := R } (xs.map some ++ List.replicate (4 - xs.length) none) G := by
  exact stretchIn_ok (cl := cls) (by decide +kernel) xs G R RX h
theorem l_stretch_in (xs : List D) (G : Gm) (R : KD) (RX : XD) (h : sp_stretch_in xs G R RX) : xs.length = 2 := by
  obtain ⟨_, _, rfl, _⟩ := h
  rfl
set_option maxHeartbeats 4000000 in
theorem k_stretch_in {P : Program} {w : World} {K : PySem.W.Frag} {mg : Str → Option Value} {base : Heap} (T : Tx mg) (F : Df K mg "stretch_in" st_stretch_in) (W : OwC K mg cls subC) (k_own_stretch : Kn P w K mg base 1 "own_stretch" st_own_stretch ["piece"] sp_own_stretch) (k_led_back : Kn P w K mg base 5 "led_back" st_led_back ["piece", "stretch"] sp_led_back) :
    Kn P w K mg base 6 "stretch_in" st_stretch_in ["machine", "way"] sp_stretch_in :=
  kn_of F.g F.f sc_stretch_in l_stretch_in fun cdv hcv A outer s H E B RX hr hg kx => ⟨r_stretch_in, (psd_cons (psd_set (i := 2) sc_stretch_in.nd rfl (by first | exact Or.inl rfl | exact Or.inr rfl) (pd_call k_own_stretch (hr.mono (by decide)) hg rfl pass0 kx0 (fun _ _ _ _ _ _ us hl => match us, hl with | [_], _ => rfl) (pda_cons (pd_ix (pd_fld W (pd_var 0)) (pd_ix (pd_var 1) (pd_neg pd_int) (fun _ _ => rfl)) (fun _ _ => rfl)) pda_nil))) (psd_cons (psd_for (passes_of rfl) rfl (pid_seq (pd_backT (pd_var 1) (pod_some (pd_neg pd_int)) pod_none)) (pgd_name (i := 3) sc_stretch_in.nd rfl (by first | exact Or.inl rfl | exact Or.inr rfl)) (psd_cons (psd_set (i := 2) sc_stretch_in.nd rfl (by first | exact Or.inl rfl | exact Or.inr rfl) (pd_call k_led_back (hr.mono (by decide)) hg rfl pass0 kx0 (fun _ _ _ _ _ _ us hl => match us, hl with | [_, _], _ => rfl) (pda_cons (pd_ix (pd_fld W (pd_var 0)) (pd_var 3) (fun _ _ => rfl)) (pda_cons (pd_var 2) pda_nil)))) (psd_one (psd_if (ptd_isN (pd_var 2)) (psd_one (psd_ret pd_non)) psd_nil)))) (psd_one (psd_ret (pd_var 2))))), fun xs G R h => v_stretch_in xs G R RX h⟩
abbrev sp_goal_in : DSp := DL.sp_goalIn cls
def r_goal_in : DS := (dSeq (dSet 2 (dCall sp_stretch_in X0 (dCons (dVar 0) (dCons (dVar 1) dNil)))) (dSeq (dIfS (dTst (dIsN (dVar 2))) (dRet (dC .non)) dNext) (dSeq (dFor (dISeq (dVar 1)) (gN 3) (dSet 2 (dCall sp_led_on X0 (dCons (dIx (dFld cls "pieces" (dVar 0)) (dVar 3)) (dCons (dVar 2) dNil))))) (dRet (dVar 2)))))
theorem sc_goal_in : FnScope ["machine", "way", "found", "number"] ["machine", "way"] (defScope st_goal_in) := ⟨rfl, rfl, rfl, by decide +kernel, rfl, by decide +kernel, by decide +kernel⟩
theorem v_goal_in (xs : List D) (G : Gm) (R : KD) (RX : XD) (h : sp_goal_in xs G R RX) : r_goal_in { nx := fun _ G => R .non G, rt := R } (xs.map some ++ List.replicate (4 - xs.length) none) G := by
  exact goalIn_ok (cl := cls) (by decide +kernel) xs G R RX h
theorem l_goal_in (xs : List D) (G : Gm) (R : KD) (RX : XD) (h : sp_goal_in xs G R RX) : xs.length = 2 := by
  obtain ⟨_, _, rfl, _⟩ := h
  rfl
set_option maxHeartbeats 4000000 in
theorem k_goal_in {P : Program} {w : World} {K : PySem.W.Frag} {mg : Str → Option Value} {base : Heap} (T : Tx mg) (F : Df K mg "goal_in" st_goal_in) (W : OwC K mg cls subC) (k_led_on : Kn P w K mg base 4 "led_on" st_led_on ["piece", "stretch"] sp_led_on) (k_stretch_in : Kn P w K mg base 6 "stretch_in" st_stretch_in ["machine", "way"] sp_stretch_in) :
    Kn P w K mg base 7 "goal_in" st_goal_in ["machine", "way"] sp_goal_in :=
  kn_of F.g F.f sc_goal_in l_goal_in fun cdv hcv A outer s H E B RX hr hg kx => ⟨r_goal_in, (psd_cons (psd_set (i := 2) sc_goal_in.nd rfl (by first | exact Or.inl rfl | exact Or.inr rfl) (pd_call k_stretch_in (hr.mono (by decide)) hg rfl pass0 kx0 (fun _ _ _ _ _ _ us hl => match us, hl with | [_, _], _ => rfl) (pda_cons (pd_var 0) (pda_cons (pd_var 1) pda_nil)))) (psd_cons (psd_if (ptd_isN (pd_var 2)) (psd_one (psd_ret pd_non)) psd_nil) (psd_cons (psd_for (passes_of rfl) rfl (pid_seq (pd_var 1)) (pgd_name (i := 3) sc_goal_in.nd rfl (by first | exact Or.inl rfl | exact Or.inr rfl)) (psd_one (psd_set (i := 2) sc_goal_in.nd rfl (by first | exact Or.inl rfl | exact Or.inr rfl) (pd_call k_led_on (hr.mono (by decide)) hg rfl pass0 kx0 (fun _ _ _ _ _ _ us hl => match us, hl with | [_, _], _ => rfl) (pda_cons (pd_ix (pd_fld W (pd_var 0)) (pd_var 3) (fun _ _ => rfl)) (pda_cons (pd_var 2) pda_nil)))))) (psd_one (psd_ret (pd_var 2)))))), fun xs G R h => v_goal_in xs G R RX h⟩
abbrev sp_stretch_of : DSp := DL.sp_stretchOf cls subC
def r_stretch_of (RX : XD) : DS := (dSeq (dDrop (dCallD sp_need_machine [D.str "machine"] RX (dCons (dVar 0) dNil))) (dSeq (dSet 2 (dCallD sp_need_way [D.str "way"] RX (dCons (dVar 0) (dCons (dVar 1) dNil)))) (dSeq (dDrop (dCall sp_need_line RX (dCons (dVar 0) dNil))) (dRet (dCall sp_stretch_in X0 (dCons (dVar 0) (dCons (dVar 2) dNil)))))))
theorem sc_stretch_of : FnScope ["machine", "way", "told"] ["machine", "way"] (defScope st_stretch_of) := ⟨rfl, rfl, rfl, by decide +kernel, rfl, by decide +kernel, by decide +kernel⟩
theorem v_stretch_of (xs : List D) (G : Gm) (R : KD) (RX : XD) (h : sp_stretch_of xs G R RX) : r_stretch_of RX { nx := fun _ G => R .non G, rt := R } (xs.map some ++ List.replicate (3 - xs.length) none) G := by
  exact stretchOf_ok (cl := cls) (sub := subC) (by decide +kernel) (by decide +kernel) xs G R RX h
theorem l_stretch_of (xs : List D) (G : Gm) (R : KD) (RX : XD) (h : sp_stretch_of xs G R RX) : xs.length = 2 := by
  obtain ⟨_, _, _, rfl, _⟩ := h
  rfl
set_option maxHeartbeats 4000000 in
theorem k_stretch_of {P : Program} {w : World} {K : PySem.W.Frag} {mg : Str → Option Value} {base : Heap} (T : Tx mg) (F : Df K mg "stretch_of" st_stretch_of) (k_need_machine : KnD P w K mg base 3 "need_machine" st_need_machine ["value", "part"] [V.str "machine"] sp_need_machine) (k_need_way : KnD P w K mg base 3 "need_way" st_need_way ["machine", "value", "part"] [V.str "way"] sp_need_way) (k_need_line : Kn P w K mg base 4 "need_line" st_need_line ["machine"] sp_need_line) (k_stretch_in : Kn P w K mg base 6 "stretch_in" st_stretch_in ["machine", "way"] sp_stretch_in) :
    Kn P w K mg base 7 "stretch_of" st_stretch_of ["machine", "way"] sp_stretch_of :=
  kn_of F.g F.f sc_stretch_of l_stretch_of fun cdv hcv A outer s H E B RX hr hg kx => ⟨r_stretch_of RX, (psd_cons (psd_expr (pd_callD (n := 1) (j := 0) (ds := [D.str "machine"]) k_need_machine (by simp) (hr.mono (by decide)) hg rfl (passes_call (takes_of rfl rfl rfl rfl) fun _ _ _ _ h => h) (fun _ e => kx.mono e) rfl (fun _ => .cons (.str _) (.nil)) (fun _ _ _ _ _ _ _ us its hl hl2 => match us, hl, its, hl2 with | [_], _, [_], _ => ⟨_, rfl, rfl⟩) (pda_cons (pd_var 0) pda_nil))) (psd_cons (psd_set (i := 2) sc_stretch_of.nd rfl (by first | exact Or.inl rfl | exact Or.inr rfl) (pd_callD (n := 2) (j := 0) (ds := [D.str "way"]) k_need_way (by simp) (hr.mono (by decide)) hg rfl (passes_call (takes_of rfl rfl rfl rfl) fun _ _ _ _ h => h) (fun _ e => kx.mono e) rfl (fun _ => .cons (.str _) (.nil)) (fun _ _ _ _ _ _ _ us its hl hl2 => match us, hl, its, hl2 with | [_, _], _, [_], _ => ⟨_, rfl, rfl⟩) (pda_cons (pd_var 0) (pda_cons (pd_var 1) pda_nil)))) (psd_cons (psd_expr (pd_call k_need_line (hr.mono (by decide)) hg rfl (passes_call (takes_of rfl rfl rfl rfl) fun _ _ _ _ h => h) (fun _ e => kx.mono e) (fun _ _ _ _ _ _ us hl => match us, hl with | [_], _ => rfl) (pda_cons (pd_var 0) pda_nil))) (psd_one (psd_ret (pd_call k_stretch_in (hr.mono (by decide)) hg rfl pass0 kx0 (fun _ _ _ _ _ _ us hl => match us, hl with | [_, _], _ => rfl) (pda_cons (pd_var 0) (pda_cons (pd_var 2) pda_nil)))))))), fun xs G R h => v_stretch_of xs G R RX h⟩
abbrev sp_goal_of : DSp := DL.sp_goalOf cls subC
def r_goal_of (RX : XD) : DS := (dSeq (dDrop (dCallD sp_need_machine [D.str "machine"] RX (dCons (dVar 0) dNil))) (dSeq (dSet 2 (dCallD sp_need_way [D.str "way"] RX (dCons (dVar 0) (dCons (dVar 1) dNil)))) (dSeq (dDrop (dCall sp_need_line RX (dCons (dVar 0) dNil))) (dRet (dCall sp_goal_in X0 (dCons (dVar 0) (dCons (dVar 2) dNil)))))))
theorem sc_goal_of : FnScope ["machine", "way", "told"] ["machine", "way"] (defScope st_goal_of) := ⟨rfl, rfl, rfl, by decide +kernel, rfl, by decide +kernel, by decide +kernel⟩
theorem v_goal_of (xs : List D) (G : Gm) (R : KD) (RX : XD) (h : sp_goal_of xs G R RX) : r_goal_of RX { nx := fun _ G => R .non G, rt := R } (xs.map some ++ List.replicate (3 - xs.length) none) G := by
  exact goalOf_ok (cl := cls) (sub := subC) (by decide +kernel) (by decide +kernel) xs G R RX h
theorem l_goal_of (xs : List D) (G : Gm) (R : KD) (RX : XD) (h : sp_goal_of xs G R RX) : xs.length = 2 := by
  obtain ⟨_, _, _, rfl, _⟩ := h
  rfl
set_option maxHeartbeats 4000000 in
theorem k_goal_of {P : Program} {w : World} {K : PySem.W.Frag} {mg : Str → Option Value} {base : Heap} (T : Tx mg) (F : Df K mg "goal_of" st_goal_of) (k_need_machine : KnD P w K mg base 3 "need_machine" st_need_machine ["value", "part"] [V.str "machine"] sp_need_machine) (k_need_way : KnD P w K mg base 3 "need_way" st_need_way ["machine", "value", "part"] [V.str "way"] sp_need_way) (k_need_line : Kn P w K mg base 4 "need_line" st_need_line ["machine"] sp_need_line) (k_goal_in : Kn P w K mg base 7 "goal_in" st_goal_in ["machine", "way"] sp_goal_in) :
    Kn P w K mg base 8 "goal_of" st_goal_of ["machine", "way"] sp_goal_of :=
  kn_of F.g F.f sc_goal_of l_goal_of fun cdv hcv A outer s H E B RX hr hg kx => ⟨r_goal_of RX, (psd_cons (psd_expr (pd_callD (n := 1) (j := 0) (ds := [D.str "machine"]) k_need_machine (by simp) (hr.mono (by decide)) hg rfl (passes_call (takes_of rfl rfl rfl rfl) fun _ _ _ _ h => h) (fun _ e => kx.mono e) rfl (fun _ => .cons (.str _) (.nil)) (fun _ _ _ _ _ _ _ us its hl hl2 => match us, hl, its, hl2 with | [_], _, [_], _ => ⟨_, rfl, rfl⟩) (pda_cons (pd_var 0) pda_nil))) (psd_cons (psd_set (i := 2) sc_goal_of.nd rfl (by first | exact Or.inl rfl | exact Or.inr rfl) (pd_callD (n := 2) (j := 0) (ds := [D.str "way"]) k_need_way (by simp) (hr.mono (by decide)) hg rfl (passes_call (takes_of rfl rfl rfl rfl) fun _ _ _ _ h => h) (fun _ e => kx.mono e) rfl (fun _ => .cons (.str _) (.nil)) (fun _ _ _ _ _ _ _ us its hl hl2 => match us, hl, its, hl2 with | [_, _], _, [_], _ => ⟨_, rfl, rfl⟩) (pda_cons (pd_var 0) (pda_cons (pd_var 1) pda_nil)))) (psd_cons (psd_expr (pd_call k_need_line (hr.mono (by decide)) hg rfl (passes_call (takes_of rfl rfl rfl rfl) fun _ _ _ _ h => h) (fun _ e => kx.mono e) (fun _ _ _ _ _ _ us hl => match us, hl with | [_], _ => rfl) (pda_cons (pd_var 0) pda_nil))) (psd_one (psd_ret (pd_call k_goal_in (hr.mono (by decide)) hg rfl pass0 kx0 (fun _ _ _ _ _ _ us hl => match us, hl with | [_, _], _ => rfl) (pda_cons (pd_var 0) (pda_cons (pd_var 2) pda_nil)))))))), fun xs G R h => v_goal_of xs G R RX h⟩
abbrev sp__law_ridge : DSp := spGauge
def r__law_ridge : DS := (dRet (dLstM (dCons (dCmp (dISeq (dSl (dVar 0) dNoP (dPart (dC (.int 60))))) (gN 1) dYes (dCal fIntOf (dCons (dVar 1) dNil)) [1]) (dCons (dC (.int 0)) (dCons (dC (.int 0)) dNil)))))
theorem sc__law_ridge : FnScope ["_law_script", "_law_cell"] ["_law_script"] (defScope st__law_ridge) := ⟨rfl, rfl, rfl, by decide +kernel, rfl, by decide +kernel, by decide +kernel⟩
theorem v__law_ridge (xs : List D) (G : Gm) (R : KD) (RX : XD) (h : sp__law_ridge xs G R RX) : r__law_ridge { nx := fun _ G => R .non G, rt := R } (xs.map some ++ List.replicate (2 - xs.length) none) G := by
  exact gauge_ok (c := 60) xs G R RX h
theorem l__law_ridge (xs : List D) (G : Gm) (R : KD) (RX : XD) (h : sp__law_ridge xs G R RX) : xs.length = 1 := by
  obtain ⟨_, rfl, _⟩ := h
  rfl
set_option maxHeartbeats 4000000 in
theorem k__law_ridge {P : Program} {w : World} {K : PySem.W.Frag} {mg : Str → Option Value} {base : Heap} (T : Tx mg) (F : Df K mg "_law_ridge" st__law_ridge) :
    Kn P w K mg base 1 "_law_ridge" st__law_ridge ["_law_script"] sp__law_ridge :=
  kn_of F.g F.f sc__law_ridge l__law_ridge fun cdv hcv A outer s H E B RX hr hg kx => ⟨r__law_ridge, (psd_one (psd_ret (pd_lstM (pda_cons (pd_lc (own := [("_law_cell", 1)]) rfl sc__law_ridge.nd (pid_seq (pd_slice (pd_var 0) pod_none (pod_some pd_int))) (blkOk_by (N := ["_law_script", "_law_cell"]) (sc := defScope st__law_ridge) (by decide +kernel)) (by decide) (fun _ _ _ _ _ _ => (pgd_name (i := 1) sc__law_ridge.nd rfl (by first | exact Or.inl rfl | exact Or.inr rfl))) (fun _ _ _ _ _ _ => ptsd_nil) (fun _ _ _ _ _ _ => (pd_callTy call_int1 cd_int rfl T.f_int (by decide +kernel) (pda_cons (pd_var 1) pda_nil)))) (pda_cons pd_int (pda_cons pd_int pda_nil)))))), fun xs G R h => v__law_ridge xs G R RX h⟩
abbrev sp__law_climb : DSp := spDial
def r__law_climb : DS := (dSeq (dIfS (dTst (dOp (fInt gGt) (dIx (dVar 0) (dC (.int 2))) (dC (.int 0)))) (dSeq (dSet 2 (dCal fIntOf (dCons (dIx (dVar 0) (dC (.int 2))) dNil))) (dSeq (dSetIx (dOp (fIntC CDivW fun i j => .int (i / j)) (dVar 2) (dVar 1)) (dVar 0) (dC (.int 2))) (dRet (dOp (fIntC (fun _ j => 0 < j) fun i j => .int (i % j)) (dCal fIntOf (dCons (dVar 2) dNil)) (dVar 1))))) dNext) (dSeq (dSet 3 (dIx (dVar 0) (dC (.int 1)))) (dSeq (dSetIx (dOp fAdd (dVar 3) (dC (.int 1))) (dVar 0) (dC (.int 1))) (dSeq (dSet 4 (dOp fAdd (dOp (fIntC IntMulOk fun i j => .int (i * j)) (dC (.int 129783)) (dVar 3)) (dC (.int 8023)))) (dSeq (dIfS (dTst (dOp fNe (dIx (dVar 0) (dC (.int 0))) (dLst dNil))) (dSet 4 (dIx (dIx (dVar 0) (dC (.int 0))) (dOp (fIntC (fun _ j => 0 < j) fun i j => .int (i % j)) (dCal fIntOf (dCons (dVar 3) dNil)) (dCal fLen (dCons (dIx (dVar 0) (dC (.int 0))) dNil))))) dNext) (dSeq (dIfS (dAnd (dTst (dOp (fInt gLt) (dVar 3) (dCal fLen (dCons (dIx (dVar 0) (dC (.int 0))) dNil)))) (dTst (dOp (fInt gGe) (dCal fAbs (dCons (dVar 4) dNil)) (dOp (fIntC CPw fun i j => .int (i ^ j.toNat)) (dC (.int 10)) (dC (.int 18)))))) (dSeq (dSet 2 (dOp fAdd (dOp (fIntC IntMulOk fun i j => .int (i * j)) (dC (.int 2)) (dOp (fInt fun i j => .int (i - j)) (dCal fAbs (dCons (dCal fIntOf (dCons (dVar 4) dNil)) dNil)) (dOp (fIntC CPw fun i j => .int (i ^ j.toNat)) (dC (.int 10)) (dC (.int 18))))) (dCal fIntOf (dCons (dOp (fInt gLt) (dVar 4) (dC (.int 0))) dNil)))) (dSeq (dSetIx (dOp (fIntC CDivW fun i j => .int (i / j)) (dVar 2) (dVar 1)) (dVar 0) (dC (.int 2))) (dRet (dOp (fIntC (fun _ j => 0 < j) fun i j => .int (i % j)) (dCal fIntOf (dCons (dVar 2) dNil)) (dVar 1))))) dNext) (dSeq (dSet 5 (dOp (fIntC (fun _ j => 0 < j) fun i j => .int (i % j)) (dCal fIntOf (dCons (dOp (fIntC CPw fun i j => .int (i ^ j.toNat)) (dOp fAdd (dOp fAdd (dOp (fIntC (fun _ j => 0 < j) fun i j => .int (i % j)) (dCal fIntOf (dCons (dVar 4) dNil)) (dC (.int 2147483579))) (dOp (fIntC IntMulOk fun i j => .int (i * j)) (dC (.int 129783)) (dVar 3))) (dC (.int 8023))) (dC (.int 5))) dNil)) (dC (.int 2147483647)))) (dSeq (dSet 5 (dOp (fIntC (fun _ j => 0 < j) fun i j => .int (i % j)) (dCal fIntOf (dCons (dOp (fIntC CPw fun i j => .int (i ^ j.toNat)) (dOp fAdd (dOp fAdd (dOp (fIntC IntMulOk fun i j => .int (i * j)) (dVar 5) (dOp fAdd (dOp (fIntC IntMulOk fun i j => .int (i * j)) (dC (.int 2)) (dVar 3)) (dC (.int 5967)))) (dOp (fIntC IntMulOk fun i j => .int (i * j)) (dOp (fIntC IntMulOk fun i j => .int (i * j)) (dC (.int 131457)) (dVar 3)) (dVar 3))) (dC (.int 8023))) (dC (.int 3))) dNil)) (dC (.int 2147483497)))) (dRet (dOp (fIntC (fun _ j => 0 < j) fun i j => .int (i % j)) (dCal fIntOf (dCons (dOp (fIntC CDivW fun i j => .int (i / j)) (dVar 5) (dC (.int 64))) dNil)) (dVar 1)))))))))))
theorem sc__law_climb : FnScope ["_law_ridge_here", "_law_many", "_law_left", "_law_turn", "_law_cell", "_law_mixed"] ["_law_ridge_here", "_law_many"] (defScope st__law_climb) := ⟨rfl, rfl, rfl, by decide +kernel, rfl, by decide +kernel, by decide +kernel⟩
theorem v__law_climb (xs : List D) (G : Gm) (R : KD) (RX : XD) (h : sp__law_climb xs G R RX) : r__law_climb { nx := fun _ G => R .non G, rt := R } (xs.map some ++ List.replicate (6 - xs.length) none) G := by
  exact dialB_ok (c0 := 129783) (c1 := 8023) (c2 := 2147483579) (c3 := 129783) (c4 := 8023) (c5 := 2147483647) (c6 := 5967) (c7 := 131457) (c8 := 8023) (c9 := 2147483497) ⟨by decide, by decide⟩ ⟨by decide, by decide⟩ ⟨by decide, by decide⟩ ⟨by decide, by decide⟩ ⟨by decide, by decide⟩ ⟨by decide, by decide⟩ ⟨by decide, by decide⟩ ⟨by decide, by decide⟩ ⟨by decide, by decide⟩ ⟨by decide, by decide⟩ xs G R RX h
theorem l__law_climb (xs : List D) (G : Gm) (R : KD) (RX : XD) (h : sp__law_climb xs G R RX) : xs.length = 2 := by
  obtain ⟨_, _, _, rfl, _⟩ := h
  rfl
set_option maxHeartbeats 4000000 in
theorem k__law_climb {P : Program} {w : World} {K : PySem.W.Frag} {mg : Str → Option Value} {base : Heap} (T : Tx mg) (F : Df K mg "_law_climb" st__law_climb) :
    Kn P w K mg base 1 "_law_climb" st__law_climb ["_law_ridge_here", "_law_many"] sp__law_climb :=
  kn_of F.g F.f sc__law_climb l__law_climb fun cdv hcv A outer s H E B RX hr hg kx => ⟨r__law_climb, (psd_cons (psd_if (ptd_cmp op_gt od_bl (pd_ix (pd_var 0) pd_int (fun _ _ => rfl)) pd_int (nomark _)) (psd_cons (psd_set (i := 2) sc__law_climb.nd rfl (by first | exact Or.inl rfl | exact Or.inr rfl) (pd_callTy call_int1 cd_int rfl T.f_int (by decide +kernel) (pda_cons (pd_ix (pd_var 0) pd_int (fun _ _ => rfl)) pda_nil))) (psd_cons (psd_setIx (pd_fdiv (pd_var 2) (pd_var 1)) (pd_var 0) pd_int) (psd_one (psd_ret (pd_mod (pd_callTy call_int1 cd_int rfl T.f_int (by decide +kernel) (pda_cons (pd_var 2) pda_nil)) (pd_var 1)))))) psd_nil) (psd_cons (psd_set (i := 3) sc__law_climb.nd rfl (by first | exact Or.inl rfl | exact Or.inr rfl) (pd_ix (pd_var 0) pd_int (fun _ _ => rfl))) (psd_cons (psd_setIx (pd_add (pd_var 3) pd_int) (pd_var 0) pd_int) (psd_cons (psd_set (i := 4) sc__law_climb.nd rfl (by first | exact Or.inl rfl | exact Or.inr rfl) (pd_add (pd_mul pd_int (pd_var 3)) pd_int)) (psd_cons (psd_if (ptd_cmp (op_ne2 hr.units) od_ne (pd_ix (pd_var 0) pd_int (fun _ _ => rfl)) (pd_lst pda_nil) (nomark _)) (psd_one (psd_set (i := 4) sc__law_climb.nd rfl (by first | exact Or.inl rfl | exact Or.inr rfl) (pd_ix (pd_ix (pd_var 0) pd_int (fun _ _ => rfl)) (pd_mod (pd_callTy call_int1 cd_int rfl T.f_int (by decide +kernel) (pda_cons (pd_var 3) pda_nil)) (pd_len rfl rfl T.f_len (pd_ix (pd_var 0) pd_int (fun _ _ => rfl)))) (fun _ _ => rfl)))) psd_nil) (psd_cons (psd_if (PW.pt (pwd_and (ptd_cmp op_lt od_bl (pd_var 3) (pd_len rfl rfl T.f_len (pd_ix (pd_var 0) pd_int (fun _ _ => rfl))) (nomark _)) (pwd_and1 (ptd_cmp op_ge od_bl (pd_callB call_abs cd_abs rfl T.f_abs (by decide +kernel) (pda_cons (pd_var 4) pda_nil)) (pd_pow pd_int pd_int) (nomark _))))) (psd_cons (psd_set (i := 2) sc__law_climb.nd rfl (by first | exact Or.inl rfl | exact Or.inr rfl) (pd_add (pd_mul pd_int (pd_sub (pd_callB call_abs cd_abs rfl T.f_abs (by decide +kernel) (pda_cons (pd_callTy call_int1 cd_int rfl T.f_int (by decide +kernel) (pda_cons (pd_var 4) pda_nil)) pda_nil)) (pd_pow pd_int pd_int))) (pd_callTy call_int1 cd_int rfl T.f_int (by decide +kernel) (pda_cons (pd_cmp op_lt od_bl (pd_var 4) pd_int (nomark _)) pda_nil)))) (psd_cons (psd_setIx (pd_fdiv (pd_var 2) (pd_var 1)) (pd_var 0) pd_int) (psd_one (psd_ret (pd_mod (pd_callTy call_int1 cd_int rfl T.f_int (by decide +kernel) (pda_cons (pd_var 2) pda_nil)) (pd_var 1)))))) psd_nil) (psd_cons (psd_set (i := 5) sc__law_climb.nd rfl (by first | exact Or.inl rfl | exact Or.inr rfl) (pd_mod (pd_callTy call_int1 cd_int rfl T.f_int (by decide +kernel) (pda_cons (pd_pow (pd_add (pd_add (pd_mod (pd_callTy call_int1 cd_int rfl T.f_int (by decide +kernel) (pda_cons (pd_var 4) pda_nil)) pd_int) (pd_mul pd_int (pd_var 3))) pd_int) pd_int) pda_nil)) pd_int)) (psd_cons (psd_set (i := 5) sc__law_climb.nd rfl (by first | exact Or.inl rfl | exact Or.inr rfl) (pd_mod (pd_callTy call_int1 cd_int rfl T.f_int (by decide +kernel) (pda_cons (pd_pow (pd_add (pd_add (pd_mul (pd_var 5) (pd_add (pd_mul pd_int (pd_var 3)) pd_int)) (pd_mul (pd_mul pd_int (pd_var 3)) (pd_var 3))) pd_int) pd_int) pda_nil)) pd_int)) (psd_one (psd_ret (pd_mod (pd_callTy call_int1 cd_int rfl T.f_int (by decide +kernel) (pda_cons (pd_fdiv (pd_var 5) pd_int) pda_nil)) (pd_var 1)))))))))))), fun xs G R h => v__law_climb xs G R RX h⟩
abbrev sp__law_pick : DSp := spPick
def r__law_pick : DS := (dRet (dIx (dVar 1) (dCall sp__law_climb X0 (dCons (dVar 0) (dCons (dCal fLen (dCons (dVar 1) dNil)) dNil)))))
theorem sc__law_pick : FnScope ["_law_ridge_here", "_law_some"] ["_law_ridge_here", "_law_some"] (defScope st__law_pick) := ⟨rfl, rfl, rfl, by decide +kernel, rfl, by decide +kernel, by decide +kernel⟩
theorem v__law_pick (xs : List D) (G : Gm) (R : KD) (RX : XD) (h : sp__law_pick xs G R RX) : r__law_pick { nx := fun _ G => R .non G, rt := R } (xs.map some ++ List.replicate (2 - xs.length) none) G := by
  exact pick_ok xs G R RX h
theorem l__law_pick (xs : List D) (G : Gm) (R : KD) (RX : XD) (h : sp__law_pick xs G R RX) : xs.length = 2 := by
  obtain ⟨_, _, _, _, rfl, _⟩ := h
  rfl
set_option maxHeartbeats 4000000 in
theorem k__law_pick {P : Program} {w : World} {K : PySem.W.Frag} {mg : Str → Option Value} {base : Heap} (T : Tx mg) (F : Df K mg "_law_pick" st__law_pick) (k__law_climb : Kn P w K mg base 1 "_law_climb" st__law_climb ["_law_ridge_here", "_law_many"] sp__law_climb) :
    Kn P w K mg base 2 "_law_pick" st__law_pick ["_law_ridge_here", "_law_some"] sp__law_pick :=
  kn_of F.g F.f sc__law_pick l__law_pick fun cdv hcv A outer s H E B RX hr hg kx => ⟨r__law_pick, (psd_one (psd_ret (pd_ix (pd_var 1) (pd_call k__law_climb (hr.mono (by decide)) hg rfl pass0 kx0 (fun _ _ _ _ _ _ us hl => match us, hl with | [_, _], _ => rfl) (pda_cons (pd_var 0) (pda_cons (pd_len rfl rfl T.f_len (pd_var 1)) pda_nil))) (fun _ _ => rfl)))), fun xs G R h => v__law_pick xs G R RX h⟩
abbrev sp__law_lowest : DSp := DL.sp_qlow
def r__law_lowest : DS := (dSeq (dPar 2 3 (dCons (dCal fAbs (dCons (dVar 0) dNil)) (dCons (dCal fAbs (dCons (dVar 1) dNil)) dNil))) (dSeq (dWhile (dTst (dOp (fInt gGt) (dVar 3) (dC (.int 0)))) (dPar 2 3 (dCons (dVar 3) (dCons (dOp (fIntC (fun _ j => 0 < j) fun i j => .int (i % j)) (dCal fIntOf (dCons (dVar 2) dNil)) (dVar 3)) dNil)))) (dSeq (dSet 4 (dIf (dTst (dOp (fInt gGt) (dVar 1) (dC (.int 0)))) (dVar 2) (dNeg (dVar 2)))) (dSeq (dPar 0 1 (dCons (dOp (fIntC CDivZ fun i j => .int (Int.fdiv i j)) (dVar 0) (dVar 4)) (dCons (dOp (fIntC CDivZ fun i j => .int (Int.fdiv i j)) (dVar 1) (dVar 4)) dNil))) (dRet (dIf (dTst (dOp fEq (dVar 1) (dC (.int 1)))) (dVar 0) (dTup (dCons (dVar 0) (dCons (dVar 1) dNil)))))))))
theorem sc__law_lowest : FnScope ["_law_above", "_law_under", "_law_one", "_law_other", "_law_part_here"] ["_law_above", "_law_under"] (defScope st__law_lowest) := ⟨rfl, rfl, rfl, by decide +kernel, rfl, by decide +kernel, by decide +kernel⟩
theorem v__law_lowest (xs : List D) (G : Gm) (R : KD) (RX : XD) (h : sp__law_lowest xs G R RX) : r__law_lowest { nx := fun _ G => R .non G, rt := R } (xs.map some ++ List.replicate (5 - xs.length) none) G := by
  exact lowQ_ok xs G R RX h
theorem l__law_lowest (xs : List D) (G : Gm) (R : KD) (RX : XD) (h : sp__law_lowest xs G R RX) : xs.length = 2 := by
  obtain ⟨_, _, rfl, _⟩ := h
  rfl
set_option maxHeartbeats 4000000 in
theorem k__law_lowest {P : Program} {w : World} {K : PySem.W.Frag} {mg : Str → Option Value} {base : Heap} (T : Tx mg) (F : Df K mg "_law_lowest" st__law_lowest) :
    Kn P w K mg base 1 "_law_lowest" st__law_lowest ["_law_above", "_law_under"] sp__law_lowest :=
  kn_of F.g F.f sc__law_lowest l__law_lowest fun cdv hcv A outer s H E B RX hr hg kx => ⟨r__law_lowest, (psd_cons (psd_par (i := 2) (j := 3) rfl sc__law_lowest.nd rfl rfl (by decide) rfl rfl (pda_cons (pd_callB call_abs cd_abs rfl T.f_abs (by decide +kernel) (pda_cons (pd_var 0) pda_nil)) (pda_cons (pd_callB call_abs cd_abs rfl T.f_abs (by decide +kernel) (pda_cons (pd_var 1) pda_nil)) pda_nil)) rfl) (psd_cons (psd_while (passes_of rfl) (ptd_cmp op_gt od_bl (pd_var 3) pd_int (nomark _)) (psd_one (psd_par (i := 2) (j := 3) rfl sc__law_lowest.nd rfl rfl (by decide) rfl rfl (pda_cons (pd_var 3) (pda_cons (pd_mod (pd_callTy call_int1 cd_int rfl T.f_int (by decide +kernel) (pda_cons (pd_var 2) pda_nil)) (pd_var 3)) pda_nil)) rfl))) (psd_cons (psd_set (i := 4) sc__law_lowest.nd rfl (by first | exact Or.inl rfl | exact Or.inr rfl) (pd_if (ptd_cmp op_gt od_bl (pd_var 1) pd_int (nomark _)) (pd_var 2) (pd_neg (pd_var 2)))) (psd_cons (psd_par (i := 0) (j := 1) rfl sc__law_lowest.nd rfl rfl (by decide) rfl rfl (pda_cons (pd_fdivZ (pd_var 0) (pd_var 4)) (pda_cons (pd_fdivZ (pd_var 1) (pd_var 4)) pda_nil)) rfl) (psd_one (psd_ret (pd_if (ptd_cmp (op_eq2 hr.units) od_eq (pd_var 1) pd_int (nomark _)) (pd_var 0) (pd_tup (pda_cons (pd_var 0) (pda_cons (pd_var 1) pda_nil)))))))))), fun xs G R h => v__law_lowest xs G R RX h⟩
abbrev sp__law_halves : DSp := DL.sp_qpairL
def r__law_halves : DS := (dRet (dIf (dTst (dCal (fIsi "int") (dCons (dVar 0) (dCons (dC (.ty "int")) dNil)))) (dLst (dCons (dVar 0) (dCons (dC (.int 1)) dNil))) (dLst (dCons (dIx (dVar 0) (dC (.int 0))) (dCons (dIx (dVar 0) (dC (.int 1))) dNil)))))
theorem sc__law_halves : FnScope ["_law_number"] ["_law_number"] (defScope st__law_halves) := ⟨rfl, rfl, rfl, by decide +kernel, rfl, by decide +kernel, by decide +kernel⟩
theorem v__law_halves (xs : List D) (G : Gm) (R : KD) (RX : XD) (h : sp__law_halves xs G R RX) : r__law_halves { nx := fun _ G => R .non G, rt := R } (xs.map some ++ List.replicate (1 - xs.length) none) G := by
  exact pairL_ok xs G R RX h
theorem l__law_halves (xs : List D) (G : Gm) (R : KD) (RX : XD) (h : sp__law_halves xs G R RX) : xs.length = 1 := by
  obtain ⟨_, rfl, _⟩ := h
  rfl
set_option maxHeartbeats 4000000 in
theorem k__law_halves {P : Program} {w : World} {K : PySem.W.Frag} {mg : Str → Option Value} {base : Heap} (T : Tx mg) (F : Df K mg "_law_halves" st__law_halves) :
    Kn P w K mg base 1 "_law_halves" st__law_halves ["_law_number"] sp__law_halves :=
  kn_of F.g F.f sc__law_halves l__law_halves fun cdv hcv A outer s H E B RX hr hg kx => ⟨r__law_halves, (psd_one (psd_ret (pd_if (ptd_val (pd_isi rfl (by decide) rfl T.f_isinstance (pd_var 0) (pd_bty rfl T.f_int (by decide +kernel)))) (pd_lst (pda_cons (pd_var 0) (pda_cons pd_int pda_nil))) (pd_lst (pda_cons (pd_ix (pd_var 0) pd_int (fun _ _ => rfl)) (pda_cons (pd_ix (pd_var 0) pd_int (fun _ _ => rfl)) pda_nil)))))), fun xs G R h => v__law_halves xs G R RX h⟩
abbrev sp__law_plus : DSp := (sp_q2 fun p q => p + q)
def r__law_plus : DS := (dSeq (dPar 2 3 (dCons (dCall sp__law_halves X0 (dCons (dVar 0) dNil)) (dCons (dCall sp__law_halves X0 (dCons (dVar 1) dNil)) dNil))) (dRet (dCall sp__law_lowest X0 (dCons (dOp fAdd (dOp (fIntC IntMulOk fun i j => .int (i * j)) (dIx (dVar 2) (dC (.int 0))) (dIx (dVar 3) (dC (.int 1)))) (dOp (fIntC IntMulOk fun i j => .int (i * j)) (dIx (dVar 3) (dC (.int 0))) (dIx (dVar 2) (dC (.int 1))))) (dCons (dOp (fIntC IntMulOk fun i j => .int (i * j)) (dIx (dVar 2) (dC (.int 1))) (dIx (dVar 3) (dC (.int 1)))) dNil)))))
theorem sc__law_plus : FnScope ["_law_one", "_law_other", "_law_mine", "_law_its"] ["_law_one", "_law_other"] (defScope st__law_plus) := ⟨rfl, rfl, rfl, by decide +kernel, rfl, by decide +kernel, by decide +kernel⟩
theorem v__law_plus (xs : List D) (G : Gm) (R : KD) (RX : XD) (h : sp__law_plus xs G R RX) : r__law_plus { nx := fun _ G => R .non G, rt := R } (xs.map some ++ List.replicate (4 - xs.length) none) G := by
  exact addL_ok xs G R RX h
theorem l__law_plus (xs : List D) (G : Gm) (R : KD) (RX : XD) (h : sp__law_plus xs G R RX) : xs.length = 2 := by
  obtain ⟨_, _, rfl, _⟩ := h
  rfl
set_option maxHeartbeats 4000000 in
theorem k__law_plus {P : Program} {w : World} {K : PySem.W.Frag} {mg : Str → Option Value} {base : Heap} (T : Tx mg) (F : Df K mg "_law_plus" st__law_plus) (k__law_lowest : Kn P w K mg base 1 "_law_lowest" st__law_lowest ["_law_above", "_law_under"] sp__law_lowest) (k__law_halves : Kn P w K mg base 1 "_law_halves" st__law_halves ["_law_number"] sp__law_halves) :
    Kn P w K mg base 2 "_law_plus" st__law_plus ["_law_one", "_law_other"] sp__law_plus :=
  kn_of F.g F.f sc__law_plus l__law_plus fun cdv hcv A outer s H E B RX hr hg kx => ⟨r__law_plus, (psd_cons (psd_par (i := 2) (j := 3) rfl sc__law_plus.nd rfl rfl (by decide) rfl rfl (pda_cons (pd_call k__law_halves (hr.mono (by decide)) hg rfl pass0 kx0 (fun _ _ _ _ _ _ us hl => match us, hl with | [_], _ => rfl) (pda_cons (pd_var 0) pda_nil)) (pda_cons (pd_call k__law_halves (hr.mono (by decide)) hg rfl pass0 kx0 (fun _ _ _ _ _ _ us hl => match us, hl with | [_], _ => rfl) (pda_cons (pd_var 1) pda_nil)) pda_nil)) rfl) (psd_one (psd_ret (pd_call k__law_lowest (hr.mono (by decide)) hg rfl pass0 kx0 (fun _ _ _ _ _ _ us hl => match us, hl with | [_, _], _ => rfl) (pda_cons (pd_add (pd_mul (pd_ix (pd_var 2) pd_int (fun _ _ => rfl)) (pd_ix (pd_var 3) pd_int (fun _ _ => rfl))) (pd_mul (pd_ix (pd_var 3) pd_int (fun _ _ => rfl)) (pd_ix (pd_var 2) pd_int (fun _ _ => rfl)))) (pda_cons (pd_mul (pd_ix (pd_var 2) pd_int (fun _ _ => rfl)) (pd_ix (pd_var 3) pd_int (fun _ _ => rfl))) pda_nil)))))), fun xs G R h => v__law_plus xs G R RX h⟩
abbrev sp__law_times : DSp := (sp_q2 fun p q => p * q)
def r__law_times : DS := (dSeq (dPar 2 3 (dCons (dCall sp__law_halves X0 (dCons (dVar 0) dNil)) (dCons (dCall sp__law_halves X0 (dCons (dVar 1) dNil)) dNil))) (dRet (dCall sp__law_lowest X0 (dCons (dOp (fIntC IntMulOk fun i j => .int (i * j)) (dIx (dVar 2) (dC (.int 0))) (dIx (dVar 3) (dC (.int 0)))) (dCons (dOp (fIntC IntMulOk fun i j => .int (i * j)) (dIx (dVar 2) (dC (.int 1))) (dIx (dVar 3) (dC (.int 1)))) dNil)))))
theorem sc__law_times : FnScope ["_law_one", "_law_other", "_law_mine", "_law_its"] ["_law_one", "_law_other"] (defScope st__law_times) := ⟨rfl, rfl, rfl, by decide +kernel, rfl, by decide +kernel, by decide +kernel⟩
theorem v__law_times (xs : List D) (G : Gm) (R : KD) (RX : XD) (h : sp__law_times xs G R RX) : r__law_times { nx := fun _ G => R .non G, rt := R } (xs.map some ++ List.replicate (4 - xs.length) none) G := by
  exact mulL_ok xs G R RX h
theorem l__law_times (xs : List D) (G : Gm) (R : KD) (RX : XD) (h : sp__law_times xs G R RX) : xs.length = 2 := by
  obtain ⟨_, _, rfl, _⟩ := h
  rfl
set_option maxHeartbeats 4000000 in
theorem k__law_times {P : Program} {w : World} {K : PySem.W.Frag} {mg : Str → Option Value} {base : Heap} (T : Tx mg) (F : Df K mg "_law_times" st__law_times) (k__law_lowest : Kn P w K mg base 1 "_law_lowest" st__law_lowest ["_law_above", "_law_under"] sp__law_lowest) (k__law_halves : Kn P w K mg base 1 "_law_halves" st__law_halves ["_law_number"] sp__law_halves) :
    Kn P w K mg base 2 "_law_times" st__law_times ["_law_one", "_law_other"] sp__law_times :=
  kn_of F.g F.f sc__law_times l__law_times fun cdv hcv A outer s H E B RX hr hg kx => ⟨r__law_times, (psd_cons (psd_par (i := 2) (j := 3) rfl sc__law_times.nd rfl rfl (by decide) rfl rfl (pda_cons (pd_call k__law_halves (hr.mono (by decide)) hg rfl pass0 kx0 (fun _ _ _ _ _ _ us hl => match us, hl with | [_], _ => rfl) (pda_cons (pd_var 0) pda_nil)) (pda_cons (pd_call k__law_halves (hr.mono (by decide)) hg rfl pass0 kx0 (fun _ _ _ _ _ _ us hl => match us, hl with | [_], _ => rfl) (pda_cons (pd_var 1) pda_nil)) pda_nil)) rfl) (psd_one (psd_ret (pd_call k__law_lowest (hr.mono (by decide)) hg rfl pass0 kx0 (fun _ _ _ _ _ _ us hl => match us, hl with | [_, _], _ => rfl) (pda_cons (pd_mul (pd_ix (pd_var 2) pd_int (fun _ _ => rfl)) (pd_ix (pd_var 3) pd_int (fun _ _ => rfl))) (pda_cons (pd_mul (pd_ix (pd_var 2) pd_int (fun _ _ => rfl)) (pd_ix (pd_var 3) pd_int (fun _ _ => rfl))) pda_nil)))))), fun xs G R h => v__law_times xs G R RX h⟩
abbrev sp__law_over : DSp := DL.sp_qover
def r__law_over : DS := (dSeq (dPar 2 3 (dCons (dCall sp__law_halves X0 (dCons (dVar 0) dNil)) (dCons (dCall sp__law_halves X0 (dCons (dVar 1) dNil)) dNil))) (dRet (dCall sp__law_lowest X0 (dCons (dOp (fIntC IntMulOk fun i j => .int (i * j)) (dIx (dVar 2) (dC (.int 0))) (dIx (dVar 3) (dC (.int 1)))) (dCons (dOp (fIntC IntMulOk fun i j => .int (i * j)) (dIx (dVar 2) (dC (.int 1))) (dIx (dVar 3) (dC (.int 0)))) dNil)))))
theorem sc__law_over : FnScope ["_law_one", "_law_other", "_law_mine", "_law_its"] ["_law_one", "_law_other"] (defScope st__law_over) := ⟨rfl, rfl, rfl, by decide +kernel, rfl, by decide +kernel, by decide +kernel⟩
theorem v__law_over (xs : List D) (G : Gm) (R : KD) (RX : XD) (h : sp__law_over xs G R RX) : r__law_over { nx := fun _ G => R .non G, rt := R } (xs.map some ++ List.replicate (4 - xs.length) none) G := by
  exact overL_ok xs G R RX h
theorem l__law_over (xs : List D) (G : Gm) (R : KD) (RX : XD) (h : sp__law_over xs G R RX) : xs.length = 2 := by
  obtain ⟨_, _, rfl, _⟩ := h
  rfl
set_option maxHeartbeats 4000000 in
theorem k__law_over {P : Program} {w : World} {K : PySem.W.Frag} {mg : Str → Option Value} {base : Heap} (T : Tx mg) (F : Df K mg "_law_over" st__law_over) (k__law_lowest : Kn P w K mg base 1 "_law_lowest" st__law_lowest ["_law_above", "_law_under"] sp__law_lowest) (k__law_halves : Kn P w K mg base 1 "_law_halves" st__law_halves ["_law_number"] sp__law_halves) :
    Kn P w K mg base 2 "_law_over" st__law_over ["_law_one", "_law_other"] sp__law_over :=
  kn_of F.g F.f sc__law_over l__law_over fun cdv hcv A outer s H E B RX hr hg kx => ⟨r__law_over, (psd_cons (psd_par (i := 2) (j := 3) rfl sc__law_over.nd rfl rfl (by decide) rfl rfl (pda_cons (pd_call k__law_halves (hr.mono (by decide)) hg rfl pass0 kx0 (fun _ _ _ _ _ _ us hl => match us, hl with | [_], _ => rfl) (pda_cons (pd_var 0) pda_nil)) (pda_cons (pd_call k__law_halves (hr.mono (by decide)) hg rfl pass0 kx0 (fun _ _ _ _ _ _ us hl => match us, hl with | [_], _ => rfl) (pda_cons (pd_var 1) pda_nil)) pda_nil)) rfl) (psd_one (psd_ret (pd_call k__law_lowest (hr.mono (by decide)) hg rfl pass0 kx0 (fun _ _ _ _ _ _ us hl => match us, hl with | [_, _], _ => rfl) (pda_cons (pd_mul (pd_ix (pd_var 2) pd_int (fun _ _ => rfl)) (pd_ix (pd_var 3) pd_int (fun _ _ => rfl))) (pda_cons (pd_mul (pd_ix (pd_var 2) pd_int (fun _ _ => rfl)) (pd_ix (pd_var 3) pd_int (fun _ _ => rfl))) pda_nil)))))), fun xs G R h => v__law_over xs G R RX h⟩
abbrev sp__law_below : DSp := DL.sp_qlt
def r__law_below : DS := (dSeq (dPar 2 3 (dCons (dCall sp__law_halves X0 (dCons (dVar 0) dNil)) (dCons (dCall sp__law_halves X0 (dCons (dVar 1) dNil)) dNil))) (dRet (dOp (fInt gLt) (dOp (fIntC IntMulOk fun i j => .int (i * j)) (dIx (dVar 2) (dC (.int 0))) (dIx (dVar 3) (dC (.int 1)))) (dOp (fIntC IntMulOk fun i j => .int (i * j)) (dIx (dVar 3) (dC (.int 0))) (dIx (dVar 2) (dC (.int 1)))))))
theorem sc__law_below : FnScope ["_law_one", "_law_other", "_law_mine", "_law_its"] ["_law_one", "_law_other"] (defScope st__law_below) := ⟨rfl, rfl, rfl, by decide +kernel, rfl, by decide +kernel, by decide +kernel⟩
theorem v__law_below (xs : List D) (G : Gm) (R : KD) (RX : XD) (h : sp__law_below xs G R RX) : r__law_below { nx := fun _ G => R .non G, rt := R } (xs.map some ++ List.replicate (4 - xs.length) none) G := by
  exact belowL_ok xs G R RX h
theorem l__law_below (xs : List D) (G : Gm) (R : KD) (RX : XD) (h : sp__law_below xs G R RX) : xs.length = 2 := by
  obtain ⟨_, _, rfl, _⟩ := h
  rfl
set_option maxHeartbeats 4000000 in
theorem k__law_below {P : Program} {w : World} {K : PySem.W.Frag} {mg : Str → Option Value} {base : Heap} (T : Tx mg) (F : Df K mg "_law_below" st__law_below) (k__law_halves : Kn P w K mg base 1 "_law_halves" st__law_halves ["_law_number"] sp__law_halves) :
    Kn P w K mg base 2 "_law_below" st__law_below ["_law_one", "_law_other"] sp__law_below :=
  kn_of F.g F.f sc__law_below l__law_below fun cdv hcv A outer s H E B RX hr hg kx => ⟨r__law_below, (psd_cons (psd_par (i := 2) (j := 3) rfl sc__law_below.nd rfl rfl (by decide) rfl rfl (pda_cons (pd_call k__law_halves (hr.mono (by decide)) hg rfl pass0 kx0 (fun _ _ _ _ _ _ us hl => match us, hl with | [_], _ => rfl) (pda_cons (pd_var 0) pda_nil)) (pda_cons (pd_call k__law_halves (hr.mono (by decide)) hg rfl pass0 kx0 (fun _ _ _ _ _ _ us hl => match us, hl with | [_], _ => rfl) (pda_cons (pd_var 1) pda_nil)) pda_nil)) rfl) (psd_one (psd_ret (pd_cmp op_lt od_bl (pd_mul (pd_ix (pd_var 2) pd_int (fun _ _ => rfl)) (pd_ix (pd_var 3) pd_int (fun _ _ => rfl))) (pd_mul (pd_ix (pd_var 3) pd_int (fun _ _ => rfl)) (pd_ix (pd_var 2) pd_int (fun _ _ => rfl))) (nomark _))))), fun xs G R h => v__law_below xs G R RX h⟩
abbrev sp__law_less : DSp := (sp_q2 fun p q => p - q)
def r__law_less : DS := (dRet (dCall sp__law_plus X0 (dCons (dVar 0) (dCons (dCall sp__law_times X0 (dCons (dNeg (dC (.int 1))) (dCons (dVar 1) dNil))) dNil))))
theorem sc__law_less : FnScope ["_law_one", "_law_other"] ["_law_one", "_law_other"] (defScope st__law_less) := ⟨rfl, rfl, rfl, by decide +kernel, rfl, by decide +kernel, by decide +kernel⟩
theorem v__law_less (xs : List D) (G : Gm) (R : KD) (RX : XD) (h : sp__law_less xs G R RX) : r__law_less { nx := fun _ G => R .non G, rt := R } (xs.map some ++ List.replicate (2 - xs.length) none) G := by
  exact lessL_ok xs G R RX h
theorem l__law_less (xs : List D) (G : Gm) (R : KD) (RX : XD) (h : sp__law_less xs G R RX) : xs.length = 2 := by
  obtain ⟨_, _, rfl, _⟩ := h
  rfl
set_option maxHeartbeats 4000000 in
theorem k__law_less {P : Program} {w : World} {K : PySem.W.Frag} {mg : Str → Option Value} {base : Heap} (T : Tx mg) (F : Df K mg "_law_less" st__law_less) (k__law_plus : Kn P w K mg base 2 "_law_plus" st__law_plus ["_law_one", "_law_other"] sp__law_plus) (k__law_times : Kn P w K mg base 2 "_law_times" st__law_times ["_law_one", "_law_other"] sp__law_times) :
    Kn P w K mg base 3 "_law_less" st__law_less ["_law_one", "_law_other"] sp__law_less :=
  kn_of F.g F.f sc__law_less l__law_less fun cdv hcv A outer s H E B RX hr hg kx => ⟨r__law_less, (psd_one (psd_ret (pd_call k__law_plus (hr.mono (by decide)) hg rfl pass0 kx0 (fun _ _ _ _ _ _ us hl => match us, hl with | [_, _], _ => rfl) (pda_cons (pd_var 0) (pda_cons (pd_call k__law_times (hr.mono (by decide)) hg rfl pass0 kx0 (fun _ _ _ _ _ _ us hl => match us, hl with | [_, _], _ => rfl) (pda_cons (pd_neg pd_int) (pda_cons (pd_var 1) pda_nil))) pda_nil))))), fun xs G R h => v__law_less xs G R RX h⟩
abbrev sp__law_part : DSp := DL.sp_partQ
def r__law_part : DS := (dSeq (dSet 1 (dOp fAdd (dC (.int 1)) (dCall sp__law_climb X0 (dCons (dVar 0) (dCons (dC (.int 4)) dNil))))) (dRet (dCall sp__law_lowest X0 (dCons (dCall sp__law_climb X0 (dCons (dVar 0) (dCons (dOp fAdd (dVar 1) (dC (.int 1))) dNil))) (dCons (dVar 1) dNil)))))
theorem sc__law_part : FnScope ["_law_ridge_here", "_law_under"] ["_law_ridge_here"] (defScope st__law_part) := ⟨rfl, rfl, rfl, by decide +kernel, rfl, by decide +kernel, by decide +kernel⟩
theorem v__law_part (xs : List D) (G : Gm) (R : KD) (RX : XD) (h : sp__law_part xs G R RX) : r__law_part { nx := fun _ G => R .non G, rt := R } (xs.map some ++ List.replicate (2 - xs.length) none) G := by
  exact partQ_ok xs G R RX h
theorem l__law_part (xs : List D) (G : Gm) (R : KD) (RX : XD) (h : sp__law_part xs G R RX) : xs.length = 1 := by
  obtain ⟨_, _, rfl, _⟩ := h
  rfl
set_option maxHeartbeats 4000000 in
theorem k__law_part {P : Program} {w : World} {K : PySem.W.Frag} {mg : Str → Option Value} {base : Heap} (T : Tx mg) (F : Df K mg "_law_part" st__law_part) (k__law_climb : Kn P w K mg base 1 "_law_climb" st__law_climb ["_law_ridge_here", "_law_many"] sp__law_climb) (k__law_lowest : Kn P w K mg base 1 "_law_lowest" st__law_lowest ["_law_above", "_law_under"] sp__law_lowest) :
    Kn P w K mg base 2 "_law_part" st__law_part ["_law_ridge_here"] sp__law_part :=
  kn_of F.g F.f sc__law_part l__law_part fun cdv hcv A outer s H E B RX hr hg kx => ⟨r__law_part, (psd_cons (psd_set (i := 1) sc__law_part.nd rfl (by first | exact Or.inl rfl | exact Or.inr rfl) (pd_add pd_int (pd_call k__law_climb (hr.mono (by decide)) hg rfl pass0 kx0 (fun _ _ _ _ _ _ us hl => match us, hl with | [_, _], _ => rfl) (pda_cons (pd_var 0) (pda_cons pd_int pda_nil))))) (psd_one (psd_ret (pd_call k__law_lowest (hr.mono (by decide)) hg rfl pass0 kx0 (fun _ _ _ _ _ _ us hl => match us, hl with | [_, _], _ => rfl) (pda_cons (pd_call k__law_climb (hr.mono (by decide)) hg rfl pass0 kx0 (fun _ _ _ _ _ _ us hl => match us, hl with | [_, _], _ => rfl) (pda_cons (pd_var 0) (pda_cons (pd_add (pd_var 1) pd_int) pda_nil))) (pda_cons (pd_var 1) pda_nil)))))), fun xs G R h => v__law_part xs G R RX h⟩
abbrev sp__law_triples : DSp := DL.sp_triples
def r__law_triples : DS := (dSeq (dPar3 2 3 4 (dCons (dCall sp__law_pick X0 (dCons (dVar 0) (dCons (dLst (dCons (dC (.int 0)) (dCons (dC (.int 0)) (dCons (dC (.int 1)) (dCons (dNeg (dC (.int 2))) (dCons (dC (.int 900)) (dCons (dNeg (dC (.int 1000))) (dCons (dC (.int 7)) dNil)))))))) dNil))) (dCons (dOp fAdd (dC (.int 1)) (dCall sp__law_climb X0 (dCons (dVar 0) (dCons (dVar 1) dNil)))) (dCons (dLstM dNil) dNil)))) (dSeq (dFor (dIRng1 (dVar 3)) (gN 5) (dSeq (dPar 6 7 (dCons (dOp fAdd (dVar 2) (dCall sp__law_climb X0 (dCons (dVar 0) (dCons (dC (.int 3)) dNil)))) (dCons (dOp fAdd (dVar 2) (dCall sp__law_climb X0 (dCons (dVar 0) (dCons (dC (.int 3)) dNil)))) dNil))) (dSeq (dSet 8 (dCall sp__law_pick X0 (dCons (dVar 0) (dCons (dLst (dCons (dCall sp__law_lowest X0 (dCons (dOp fAdd (dC (.int 1)) (dCall sp__law_climb X0 (dCons (dVar 0) (dCons (dC (.int 4)) dNil)))) (dCons (dOp fAdd (dC (.int 1)) (dCall sp__law_climb X0 (dCons (dVar 0) (dCons (dC (.int 3)) dNil)))) dNil))) (dCons (dC (.int 1)) (dCons (dC (.int 2)) (dCons (dTup (dCons (dC (.int 1)) (dCons (dC (.int 2)) dNil))) (dCons (dIf (dTst (dOp fEq (dCall sp__law_climb X0 (dCons (dVar 0) (dCons (dC (.int 3)) dNil))) (dC (.int 0)))) (dC (.int 0)) (dC (.int 3))) dNil)))))) dNil)))) (dSeq (dSet 8 (dIf (dTst (dOp fEq (dCall sp__law_climb X0 (dCons (dVar 0) (dCons (dC (.int 4)) dNil))) (dC (.int 0)))) (dCall sp__law_times X0 (dCons (dNeg (dC (.int 1))) (dCons (dVar 8) dNil))) (dVar 8))) (dSeq (dSet 9 (dCall sp__law_less X0 (dCons (dCall sp__law_plus X0 (dCons (dVar 7) (dCons (dCall sp__law_part X0 (dCons (dVar 0) dNil)) dNil))) (dCons (dCall sp__law_times X0 (dCons (dVar 8) (dCons (dCall sp__law_plus X0 (dCons (dVar 6) (dCons (dCall sp__law_part X0 (dCons (dVar 0) dNil)) dNil))) dNil))) dNil)))) (dIfS (dTst (dInL true (dTup (dCons (dVar 6) (dCons (dVar 8) (dCons (dVar 9) dNil)))) (dVar 4))) (dDrop (dApp (dVar 4) (dTup (dCons (dVar 6) (dCons (dVar 8) (dCons (dVar 9) dNil)))))) dNext)))))) (dFrz 4 (dRet (dVar 4)))))
theorem sc__law_triples : FnScope ["_law_ridge_here", "_law_most", "_law_first", "_law_many", "_law_found", "_law_turn", "_law_corner", "_law_goal_here", "_law_row", "_law_shift"] ["_law_ridge_here", "_law_most"] (defScope st__law_triples) := ⟨rfl, rfl, rfl, by decide +kernel, rfl, by decide +kernel, by decide +kernel⟩
theorem v__law_triples (xs : List D) (G : Gm) (R : KD) (RX : XD) (h : sp__law_triples xs G R RX) : r__law_triples { nx := fun _ G => R .non G, rt := R } (xs.map some ++ List.replicate (10 - xs.length) none) G := by
  exact triples_ok xs G R RX h
theorem l__law_triples (xs : List D) (G : Gm) (R : KD) (RX : XD) (h : sp__law_triples xs G R RX) : xs.length = 2 := by
  obtain ⟨_, _, _, rfl, _⟩ := h
  rfl
set_option maxHeartbeats 4000000 in
theorem k__law_triples {P : Program} {w : World} {K : PySem.W.Frag} {mg : Str → Option Value} {base : Heap} (T : Tx mg) (F : Df K mg "_law_triples" st__law_triples) (k__law_climb : Kn P w K mg base 1 "_law_climb" st__law_climb ["_law_ridge_here", "_law_many"] sp__law_climb) (k__law_pick : Kn P w K mg base 2 "_law_pick" st__law_pick ["_law_ridge_here", "_law_some"] sp__law_pick) (k__law_lowest : Kn P w K mg base 1 "_law_lowest" st__law_lowest ["_law_above", "_law_under"] sp__law_lowest) (k__law_plus : Kn P w K mg base 2 "_law_plus" st__law_plus ["_law_one", "_law_other"] sp__law_plus) (k__law_times : Kn P w K mg base 2 "_law_times" st__law_times ["_law_one", "_law_other"] sp__law_times) (k__law_less : Kn P w K mg base 3 "_law_less" st__law_less ["_law_one", "_law_other"] sp__law_less) (k__law_part : Kn P w K mg base 2 "_law_part" st__law_part ["_law_ridge_here"] sp__law_part) :
    Kn P w K mg base 4 "_law_triples" st__law_triples ["_law_ridge_here", "_law_most"] sp__law_triples :=
  kn_of F.g F.f sc__law_triples l__law_triples fun cdv hcv A outer s H E B RX hr hg kx => ⟨r__law_triples, (psd_cons (psd_par3 (i := 2) (j := 3) (l := 4) rfl sc__law_triples.nd rfl rfl rfl (by decide) (by decide) (by decide) rfl rfl rfl (pda_cons (pd_call k__law_pick (hr.mono (by decide)) hg rfl pass0 kx0 (fun _ _ _ _ _ _ us hl => match us, hl with | [_, _], _ => rfl) (pda_cons (pd_var 0) (pda_cons (pd_lst (pda_cons pd_int (pda_cons pd_int (pda_cons pd_int (pda_cons (pd_neg pd_int) (pda_cons pd_int (pda_cons (pd_neg pd_int) (pda_cons pd_int pda_nil)))))))) pda_nil))) (pda_cons (pd_add pd_int (pd_call k__law_climb (hr.mono (by decide)) hg rfl pass0 kx0 (fun _ _ _ _ _ _ us hl => match us, hl with | [_, _], _ => rfl) (pda_cons (pd_var 0) (pda_cons (pd_var 1) pda_nil)))) (pda_cons (pd_lstM pda_nil) pda_nil))) rfl) (psd_cons (psd_for (passes_of rfl) rfl (pid_rng1 rfl T.f_range (pd_var 3)) (pgd_name (i := 5) sc__law_triples.nd rfl (by first | exact Or.inl rfl | exact Or.inr rfl)) (psd_cons (psd_par (i := 6) (j := 7) rfl sc__law_triples.nd rfl rfl (by decide) rfl rfl (pda_cons (pd_add (pd_var 2) (pd_call k__law_climb (hr.mono (by decide)) hg rfl pass0 kx0 (fun _ _ _ _ _ _ us hl => match us, hl with | [_, _], _ => rfl) (pda_cons (pd_var 0) (pda_cons pd_int pda_nil)))) (pda_cons (pd_add (pd_var 2) (pd_call k__law_climb (hr.mono (by decide)) hg rfl pass0 kx0 (fun _ _ _ _ _ _ us hl => match us, hl with | [_, _], _ => rfl) (pda_cons (pd_var 0) (pda_cons pd_int pda_nil)))) pda_nil)) rfl) (psd_cons (psd_set (i := 8) sc__law_triples.nd rfl (by first | exact Or.inl rfl | exact Or.inr rfl) (pd_call k__law_pick (hr.mono (by decide)) hg rfl pass0 kx0 (fun _ _ _ _ _ _ us hl => match us, hl with | [_, _], _ => rfl) (pda_cons (pd_var 0) (pda_cons (pd_lst (pda_cons (pd_call k__law_lowest (hr.mono (by decide)) hg rfl pass0 kx0 (fun _ _ _ _ _ _ us hl => match us, hl with | [_, _], _ => rfl) (pda_cons (pd_add pd_int (pd_call k__law_climb (hr.mono (by decide)) hg rfl pass0 kx0 (fun _ _ _ _ _ _ us hl => match us, hl with | [_, _], _ => rfl) (pda_cons (pd_var 0) (pda_cons pd_int pda_nil)))) (pda_cons (pd_add pd_int (pd_call k__law_climb (hr.mono (by decide)) hg rfl pass0 kx0 (fun _ _ _ _ _ _ us hl => match us, hl with | [_, _], _ => rfl) (pda_cons (pd_var 0) (pda_cons pd_int pda_nil)))) pda_nil))) (pda_cons pd_int (pda_cons pd_int (pda_cons (pd_tup (pda_cons pd_int (pda_cons pd_int pda_nil))) (pda_cons (pd_if (ptd_cmp (op_eq2 hr.units) od_eq (pd_call k__law_climb (hr.mono (by decide)) hg rfl pass0 kx0 (fun _ _ _ _ _ _ us hl => match us, hl with | [_, _], _ => rfl) (pda_cons (pd_var 0) (pda_cons pd_int pda_nil))) pd_int (nomark _)) pd_int pd_int) pda_nil)))))) pda_nil)))) (psd_cons (psd_set (i := 8) sc__law_triples.nd rfl (by first | exact Or.inl rfl | exact Or.inr rfl) (pd_if (ptd_cmp (op_eq2 hr.units) od_eq (pd_call k__law_climb (hr.mono (by decide)) hg rfl pass0 kx0 (fun _ _ _ _ _ _ us hl => match us, hl with | [_, _], _ => rfl) (pda_cons (pd_var 0) (pda_cons pd_int pda_nil))) pd_int (nomark _)) (pd_call k__law_times (hr.mono (by decide)) hg rfl pass0 kx0 (fun _ _ _ _ _ _ us hl => match us, hl with | [_, _], _ => rfl) (pda_cons (pd_neg pd_int) (pda_cons (pd_var 8) pda_nil))) (pd_var 8))) (psd_cons (psd_set (i := 9) sc__law_triples.nd rfl (by first | exact Or.inl rfl | exact Or.inr rfl) (pd_call k__law_less (hr.mono (by decide)) hg rfl pass0 kx0 (fun _ _ _ _ _ _ us hl => match us, hl with | [_, _], _ => rfl) (pda_cons (pd_call k__law_plus (hr.mono (by decide)) hg rfl pass0 kx0 (fun _ _ _ _ _ _ us hl => match us, hl with | [_, _], _ => rfl) (pda_cons (pd_var 7) (pda_cons (pd_call k__law_part (hr.mono (by decide)) hg rfl pass0 kx0 (fun _ _ _ _ _ _ us hl => match us, hl with | [_], _ => rfl) (pda_cons (pd_var 0) pda_nil)) pda_nil))) (pda_cons (pd_call k__law_times (hr.mono (by decide)) hg rfl pass0 kx0 (fun _ _ _ _ _ _ us hl => match us, hl with | [_, _], _ => rfl) (pda_cons (pd_var 8) (pda_cons (pd_call k__law_plus (hr.mono (by decide)) hg rfl pass0 kx0 (fun _ _ _ _ _ _ us hl => match us, hl with | [_, _], _ => rfl) (pda_cons (pd_var 6) (pda_cons (pd_call k__law_part (hr.mono (by decide)) hg rfl pass0 kx0 (fun _ _ _ _ _ _ us hl => match us, hl with | [_], _ => rfl) (pda_cons (pd_var 0) pda_nil)) pda_nil))) pda_nil))) pda_nil)))) (psd_one (psd_if (ptd_notInL (DL.units65 hr) (pd_tup (pda_cons (pd_var 6) (pda_cons (pd_var 8) (pda_cons (pd_var 9) pda_nil)))) (pd_var 4) (by first | rfl | decide +kernel)) (psd_one (psd_expr (pd_append (pd_var 4) (pd_tup (pda_cons (pd_var 6) (pda_cons (pd_var 8) (pda_cons (pd_var 9) pda_nil))))))) psd_nil))))))) (psd_one (psd_frz 4 (psd_ret (pd_var 4)))))), fun xs G R h => v__law_triples xs G R RX h⟩
abbrev sp__law_stretch : DSp := DL.sp_lawStr
def r__law_stretch : DS := (dSeq (dAsg (dTup (dCons (dC .non) (dCons (dC .non) (dCons (dC (.int 1)) (dCons (dC (.int 0)) dNil))))) (gSeq 4 (gCons (gN 2) (gCons (gN 3) (gCons (gN 4) (gCons (gN 5) gNil)))))) (dSeq (dFor (dISeq (dVar 1)) (gN 6) (dSeq (dAsg (dIx (dVar 0) (dVar 6)) (gSeq 3 (gCons (gN 7) (gCons (gN 8) (gCons (gN 9) gNil))))) (dSeq (dIfS (dTst (dOp fEq (dVar 4) (dC (.int 0)))) (dIfS (dOr (dTst (dCall sp__law_below X0 (dCons (dVar 5) (dCons (dVar 7) dNil)))) (dTst (dCall sp__law_below X0 (dCons (dOp fAdd (dVar 7) (dC (.int 1))) (dCons (dVar 5) dNil))))) (dRet (dC .non)) dNext) (dSeq (dSet 10 (dCmp (dISeq (dTup (dCons (dVar 7) (dCons (dOp fAdd (dVar 7) (dC (.int 1))) dNil)))) (gN 11) dYes (dCall sp__law_over X0 (dCons (dCall sp__law_less X0 (dCons (dVar 11) (dCons (dVar 5) dNil))) (dCons (dVar 4) dNil))) [11])) (dSeq (dSet 10 (dIf (dTst (dCall sp__law_below X0 (dCons (dIx (dVar 10) (dC (.int 1))) (dCons (dIx (dVar 10) (dC (.int 0))) dNil)))) (dRev (dVar 10)) (dVar 10))) (dSeq (dSet 2 (dIf (dOr (dTst (dIsN (dVar 2))) (dTst (dCall sp__law_below X0 (dCons (dVar 2) (dCons (dIx (dVar 10) (dC (.int 0))) dNil))))) (dIx (dVar 10) (dC (.int 0))) (dVar 2))) (dSet 3 (dIf (dOr (dTst (dIsN (dVar 3))) (dTst (dCall sp__law_below X0 (dCons (dIx (dVar 10) (dC (.int 1))) (dCons (dVar 3) dNil))))) (dIx (dVar 10) (dC (.int 1))) (dVar 3))))))) (dSeq (dIfS (dTst (dCall sp__law_below X0 (dCons (dVar 3) (dCons (dVar 2) dNil)))) (dRet (dC .non)) dNext) (dAsg (dTup (dCons (dCall sp__law_times X0 (dCons (dVar 8) (dCons (dVar 4) dNil))) (dCons (dCall sp__law_plus X0 (dCons (dCall sp__law_times X0 (dCons (dVar 8) (dCons (dVar 5) dNil))) (dCons (dVar 9) dNil))) dNil))) (gSeq 2 (gCons (gN 4) (gCons (gN 5) gNil)))))))) (dRet (dLst (dCons (dVar 2) (dCons (dVar 3) (dCons (dVar 4) (dCons (dVar 5) dNil))))))))
theorem sc__law_stretch : FnScope ["_law_triples_here", "_law_way_here", "_law_low", "_law_high", "_law_row", "_law_shift", "_law_number", "_law_corner", "_law_its", "_law_more", "_law_ends", "_law_each"] ["_law_triples_here", "_law_way_here"] (defScope st__law_stretch) := ⟨rfl, rfl, rfl, by decide +kernel, rfl, by decide +kernel, by decide +kernel⟩
theorem v__law_stretch (xs : List D) (G : Gm) (R : KD) (RX : XD) (h : sp__law_stretch xs G R RX) : r__law_stretch { nx := fun _ G => R .non G, rt := R } (xs.map some ++ List.replicate (12 - xs.length) none) G := by
  exact lawStr_ok xs G R RX h
theorem l__law_stretch (xs : List D) (G : Gm) (R : KD) (RX : XD) (h : sp__law_stretch xs G R RX) : xs.length = 2 := by
  obtain ⟨_, _, rfl, _⟩ := h
  rfl
set_option maxHeartbeats 4000000 in
theorem k__law_stretch {P : Program} {w : World} {K : PySem.W.Frag} {mg : Str → Option Value} {base : Heap} (T : Tx mg) (F : Df K mg "_law_stretch" st__law_stretch) (k__law_plus : Kn P w K mg base 2 "_law_plus" st__law_plus ["_law_one", "_law_other"] sp__law_plus) (k__law_times : Kn P w K mg base 2 "_law_times" st__law_times ["_law_one", "_law_other"] sp__law_times) (k__law_over : Kn P w K mg base 2 "_law_over" st__law_over ["_law_one", "_law_other"] sp__law_over) (k__law_below : Kn P w K mg base 2 "_law_below" st__law_below ["_law_one", "_law_other"] sp__law_below) (k__law_less : Kn P w K mg base 3 "_law_less" st__law_less ["_law_one", "_law_other"] sp__law_less) :
    Kn P w K mg base 4 "_law_stretch" st__law_stretch ["_law_triples_here", "_law_way_here"] sp__law_stretch :=
  kn_of F.g F.f sc__law_stretch l__law_stretch fun cdv hcv A outer s H E B RX hr hg kx => ⟨r__law_stretch, (psd_cons (psd_asg (pd_tup (pda_cons pd_non (pda_cons pd_non (pda_cons pd_int (pda_cons pd_int pda_nil))))) (pgd_seq rfl (pgsd_cons (pgd_name (i := 2) sc__law_stretch.nd rfl (by first | exact Or.inl rfl | exact Or.inr rfl)) (pgsd_cons (pgd_name (i := 3) sc__law_stretch.nd rfl (by first | exact Or.inl rfl | exact Or.inr rfl)) (pgsd_cons (pgd_name (i := 4) sc__law_stretch.nd rfl (by first | exact Or.inl rfl | exact Or.inr rfl)) (pgsd_cons (pgd_name (i := 5) sc__law_stretch.nd rfl (by first | exact Or.inl rfl | exact Or.inr rfl)) pgsd_nil)))))) (psd_cons (psd_for (passes_of rfl) rfl (pid_seq (pd_var 1)) (pgd_name (i := 6) sc__law_stretch.nd rfl (by first | exact Or.inl rfl | exact Or.inr rfl)) (psd_cons (psd_asg (pd_ix (pd_var 0) (pd_var 6) (fun _ _ => rfl)) (pgd_seq rfl (pgsd_cons (pgd_name (i := 7) sc__law_stretch.nd rfl (by first | exact Or.inl rfl | exact Or.inr rfl)) (pgsd_cons (pgd_name (i := 8) sc__law_stretch.nd rfl (by first | exact Or.inl rfl | exact Or.inr rfl)) (pgsd_cons (pgd_name (i := 9) sc__law_stretch.nd rfl (by first | exact Or.inl rfl | exact Or.inr rfl)) pgsd_nil))))) (psd_cons (psd_if (ptd_cmp (op_eq2 hr.units) od_eq (pd_var 4) pd_int (nomark _)) (psd_one (psd_if (PW.pt (pwd_or (ptd_val (pd_call k__law_below (hr.mono (by decide)) hg rfl pass0 kx0 (fun _ _ _ _ _ _ us hl => match us, hl with | [_, _], _ => rfl) (pda_cons (pd_var 5) (pda_cons (pd_var 7) pda_nil)))) (pwd_or1 (ptd_val (pd_call k__law_below (hr.mono (by decide)) hg rfl pass0 kx0 (fun _ _ _ _ _ _ us hl => match us, hl with | [_, _], _ => rfl) (pda_cons (pd_add (pd_var 7) pd_int) (pda_cons (pd_var 5) pda_nil))))))) (psd_one (psd_ret pd_non)) psd_nil)) (psd_cons (psd_setLc (i := 10) (own := [("_law_each", 11)]) rfl sc__law_stretch.nd rfl rfl (sw_true rfl rfl rfl (by decide +kernel)) (pid_seq (pd_tup (pda_cons (pd_var 7) (pda_cons (pd_add (pd_var 7) pd_int) pda_nil)))) (blkOk_by (N := ["_law_triples_here", "_law_way_here", "_law_low", "_law_high", "_law_row", "_law_shift", "_law_number", "_law_corner", "_law_its", "_law_more", "_law_ends", "_law_each"]) (sc := defScope st__law_stretch) (by decide +kernel)) (by decide) (fun _ _ _ _ _ _ => (pgd_name (i := 11) sc__law_stretch.nd rfl (by first | exact Or.inl rfl | exact Or.inr rfl))) (fun _ _ _ _ _ _ => ptsd_nil) (fun _ _ _ _ _ _ => (pd_call k__law_over (hr.mono (by decide)) hg rfl pass0 kx0 (fun _ _ _ _ _ _ us hl => match us, hl with | [_, _], _ => rfl) (pda_cons (pd_call k__law_less (hr.mono (by decide)) hg rfl pass0 kx0 (fun _ _ _ _ _ _ us hl => match us, hl with | [_, _], _ => rfl) (pda_cons (pd_var 11) (pda_cons (pd_var 5) pda_nil))) (pda_cons (pd_var 4) pda_nil))))) (psd_cons (psd_set (i := 10) sc__law_stretch.nd rfl (by first | exact Or.inl rfl | exact Or.inr rfl) (pd_if (ptd_val (pd_call k__law_below (hr.mono (by decide)) hg rfl pass0 kx0 (fun _ _ _ _ _ _ us hl => match us, hl with | [_, _], _ => rfl) (pda_cons (pd_ix (pd_var 10) pd_int (fun _ _ => rfl)) (pda_cons (pd_ix (pd_var 10) pd_int (fun _ _ => rfl)) pda_nil)))) (pd_rev (pd_var 10)) (pd_var 10))) (psd_cons (psd_set (i := 2) sc__law_stretch.nd rfl (by first | exact Or.inl rfl | exact Or.inr rfl) (pd_if (PW.pt (pwd_or (ptd_isN (pd_var 2)) (pwd_or1 (ptd_val (pd_call k__law_below (hr.mono (by decide)) hg rfl pass0 kx0 (fun _ _ _ _ _ _ us hl => match us, hl with | [_, _], _ => rfl) (pda_cons (pd_var 2) (pda_cons (pd_ix (pd_var 10) pd_int (fun _ _ => rfl)) pda_nil))))))) (pd_ix (pd_var 10) pd_int (fun _ _ => rfl)) (pd_var 2))) (psd_one (psd_set (i := 3) sc__law_stretch.nd rfl (by first | exact Or.inl rfl | exact Or.inr rfl) (pd_if (PW.pt (pwd_or (ptd_isN (pd_var 3)) (pwd_or1 (ptd_val (pd_call k__law_below (hr.mono (by decide)) hg rfl pass0 kx0 (fun _ _ _ _ _ _ us hl => match us, hl with | [_, _], _ => rfl) (pda_cons (pd_ix (pd_var 10) pd_int (fun _ _ => rfl)) (pda_cons (pd_var 3) pda_nil))))))) (pd_ix (pd_var 10) pd_int (fun _ _ => rfl)) (pd_var 3)))))))) (psd_cons (psd_if (ptd_val (pd_call k__law_below (hr.mono (by decide)) hg rfl pass0 kx0 (fun _ _ _ _ _ _ us hl => match us, hl with | [_, _], _ => rfl) (pda_cons (pd_var 3) (pda_cons (pd_var 2) pda_nil)))) (psd_one (psd_ret pd_non)) psd_nil) (psd_one (psd_asg (pd_tup (pda_cons (pd_call k__law_times (hr.mono (by decide)) hg rfl pass0 kx0 (fun _ _ _ _ _ _ us hl => match us, hl with | [_, _], _ => rfl) (pda_cons (pd_var 8) (pda_cons (pd_var 4) pda_nil))) (pda_cons (pd_call k__law_plus (hr.mono (by decide)) hg rfl pass0 kx0 (fun _ _ _ _ _ _ us hl => match us, hl with | [_, _], _ => rfl) (pda_cons (pd_call k__law_times (hr.mono (by decide)) hg rfl pass0 kx0 (fun _ _ _ _ _ _ us hl => match us, hl with | [_, _], _ => rfl) (pda_cons (pd_var 8) (pda_cons (pd_var 5) pda_nil))) (pda_cons (pd_var 9) pda_nil))) pda_nil))) (pgd_seq rfl (pgsd_cons (pgd_name (i := 4) sc__law_stretch.nd rfl (by first | exact Or.inl rfl | exact Or.inr rfl)) (pgsd_cons (pgd_name (i := 5) sc__law_stretch.nd rfl (by first | exact Or.inl rfl | exact Or.inr rfl)) pgsd_nil))))))))) (psd_one (psd_ret (pd_lst (pda_cons (pd_var 2) (pda_cons (pd_var 3) (pda_cons (pd_var 4) (pda_cons (pd_var 5) pda_nil))))))))), fun xs G R h => v__law_stretch xs G R RX h⟩
abbrev sp__law_goal : DSp := DL.sp_lawGoal
def r__law_goal : DS := (dSeq (dSet 1 (dCmp (dISeq (dSl (dVar 0) dNoP (dPart (dC (.int 2))))) (gN 2) dYes (dCall sp__law_plus X0 (dCons (dCall sp__law_times X0 (dCons (dIx (dVar 0) (dC (.int 2))) (dCons (dVar 2) dNil))) (dCons (dIx (dVar 0) (dC (.int 3))) dNil))) [2])) (dRet (dIf (dTst (dCall sp__law_below X0 (dCons (dIx (dVar 1) (dC (.int 1))) (dCons (dIx (dVar 1) (dC (.int 0))) dNil)))) (dTup (dCons (dIx (dVar 1) (dC (.int 1))) (dCons (dIx (dVar 1) (dC (.int 0))) dNil))) (dTup (dCons (dIx (dVar 1) (dC (.int 0))) (dCons (dIx (dVar 1) (dC (.int 1))) dNil))))))
theorem sc__law_goal : FnScope ["_law_found", "_law_ends", "_law_each"] ["_law_found"] (defScope st__law_goal) := ⟨rfl, rfl, rfl, by decide +kernel, rfl, by decide +kernel, by decide +kernel⟩
theorem v__law_goal (xs : List D) (G : Gm) (R : KD) (RX : XD) (h : sp__law_goal xs G R RX) : r__law_goal { nx := fun _ G => R .non G, rt := R } (xs.map some ++ List.replicate (3 - xs.length) none) G := by
  exact lawGoal_ok xs G R RX h
theorem l__law_goal (xs : List D) (G : Gm) (R : KD) (RX : XD) (h : sp__law_goal xs G R RX) : xs.length = 1 := by
  obtain ⟨_, _, _, rfl, _⟩ := h
  rfl
set_option maxHeartbeats 4000000 in
theorem k__law_goal {P : Program} {w : World} {K : PySem.W.Frag} {mg : Str → Option Value} {base : Heap} (T : Tx mg) (F : Df K mg "_law_goal" st__law_goal) (k__law_plus : Kn P w K mg base 2 "_law_plus" st__law_plus ["_law_one", "_law_other"] sp__law_plus) (k__law_times : Kn P w K mg base 2 "_law_times" st__law_times ["_law_one", "_law_other"] sp__law_times) (k__law_below : Kn P w K mg base 2 "_law_below" st__law_below ["_law_one", "_law_other"] sp__law_below) :
    Kn P w K mg base 3 "_law_goal" st__law_goal ["_law_found"] sp__law_goal :=
  kn_of F.g F.f sc__law_goal l__law_goal fun cdv hcv A outer s H E B RX hr hg kx => ⟨r__law_goal, (psd_cons (psd_setLc (i := 1) (own := [("_law_each", 2)]) rfl sc__law_goal.nd rfl rfl (sw_true rfl rfl rfl (by decide +kernel)) (pid_seq (pd_slice (pd_var 0) pod_none (pod_some pd_int))) (blkOk_by (N := ["_law_found", "_law_ends", "_law_each"]) (sc := defScope st__law_goal) (by decide +kernel)) (by decide) (fun _ _ _ _ _ _ => (pgd_name (i := 2) sc__law_goal.nd rfl (by first | exact Or.inl rfl | exact Or.inr rfl))) (fun _ _ _ _ _ _ => ptsd_nil) (fun _ _ _ _ _ _ => (pd_call k__law_plus (hr.mono (by decide)) hg rfl pass0 kx0 (fun _ _ _ _ _ _ us hl => match us, hl with | [_, _], _ => rfl) (pda_cons (pd_call k__law_times (hr.mono (by decide)) hg rfl pass0 kx0 (fun _ _ _ _ _ _ us hl => match us, hl with | [_, _], _ => rfl) (pda_cons (pd_ix (pd_var 0) pd_int (fun _ _ => rfl)) (pda_cons (pd_var 2) pda_nil))) (pda_cons (pd_ix (pd_var 0) pd_int (fun _ _ => rfl)) pda_nil))))) (psd_one (psd_ret (pd_if (ptd_val (pd_call k__law_below (hr.mono (by decide)) hg rfl pass0 kx0 (fun _ _ _ _ _ _ us hl => match us, hl with | [_, _], _ => rfl) (pda_cons (pd_ix (pd_var 1) pd_int (fun _ _ => rfl)) (pda_cons (pd_ix (pd_var 1) pd_int (fun _ _ => rfl)) pda_nil)))) (pd_tup (pda_cons (pd_ix (pd_var 1) pd_int (fun _ _ => rfl)) (pda_cons (pd_ix (pd_var 1) pd_int (fun _ _ => rfl)) pda_nil))) (pd_tup (pda_cons (pd_ix (pd_var 1) pd_int (fun _ _ => rfl)) (pda_cons (pd_ix (pd_var 1) pd_int (fun _ _ => rfl)) pda_nil))))))), fun xs G R h => v__law_goal xs G R RX h⟩
abbrev sp__law_way : DSp := DL.sp_drawWay
def r__law_way : DS := (dSeq (dSet 2 (dTup dNil)) (dSeq (dFor (dIRng1 (dOp fAdd (dC (.int 1)) (dCall sp__law_climb X0 (dCons (dVar 0) (dCons (dCall sp__law_pick X0 (dCons (dVar 0) (dCons (dLst (dCons (dC (.int 4)) (dCons (dC (.int 10)) (dCons (dC (.int 2)) dNil)))) dNil))) dNil))))) (gN 3) (dSeq (dSet 4 (dCmp (dIRng1 (dCal fLen (dCons (dVar 1) dNil))) (gN 5) dYes (dOp fAddT (dVar 2) (dTup (dCons (dVar 5) dNil))) [5])) (dSeq (dSet 6 (dCmp (dISeq (dVar 4)) (gN 7) (dTst (dNotN (dCall sp__law_stretch X0 (dCons (dVar 1) (dCons (dVar 7) dNil))))) (dVar 7) [7])) (dSet 2 (dCall sp__law_pick X0 (dCons (dVar 0) (dCons (dIf (dAnd (dTst (dOp fNe (dVar 6) (dLst dNil))) (dTst (dOp (fInt gGt) (dCall sp__law_climb X0 (dCons (dVar 0) (dCons (dC (.int 8)) dNil))) (dC (.int 0))))) (dVar 6) (dVar 4)) dNil))))))) (dRet (dVar 2))))
theorem sc__law_way : FnScope ["_law_ridge_here", "_law_triples_here", "_law_way_here", "_law_turn", "_law_some", "_law_number", "_law_lively", "_law_each"] ["_law_ridge_here", "_law_triples_here"] (defScope st__law_way) := ⟨rfl, rfl, rfl, by decide +kernel, rfl, by decide +kernel, by decide +kernel⟩
theorem v__law_way (xs : List D) (G : Gm) (R : KD) (RX : XD) (h : sp__law_way xs G R RX) : r__law_way { nx := fun _ G => R .non G, rt := R } (xs.map some ++ List.replicate (8 - xs.length) none) G := by
  exact drawWay_ok xs G R RX h
theorem l__law_way (xs : List D) (G : Gm) (R : KD) (RX : XD) (h : sp__law_way xs G R RX) : xs.length = 2 := by
  obtain ⟨_, _, _, rfl, _⟩ := h
  rfl
set_option maxHeartbeats 4000000 in
theorem k__law_way {P : Program} {w : World} {K : PySem.W.Frag} {mg : Str → Option Value} {base : Heap} (T : Tx mg) (F : Df K mg "_law_way" st__law_way) (k__law_climb : Kn P w K mg base 1 "_law_climb" st__law_climb ["_law_ridge_here", "_law_many"] sp__law_climb) (k__law_pick : Kn P w K mg base 2 "_law_pick" st__law_pick ["_law_ridge_here", "_law_some"] sp__law_pick) (k__law_stretch : Kn P w K mg base 4 "_law_stretch" st__law_stretch ["_law_triples_here", "_law_way_here"] sp__law_stretch) :
    Kn P w K mg base 5 "_law_way" st__law_way ["_law_ridge_here", "_law_triples_here"] sp__law_way :=
  kn_of F.g F.f sc__law_way l__law_way fun cdv hcv A outer s H E B RX hr hg kx => ⟨r__law_way, (psd_cons (psd_set (i := 2) sc__law_way.nd rfl (by first | exact Or.inl rfl | exact Or.inr rfl) (pd_tup pda_nil)) (psd_cons (psd_for (passes_of rfl) rfl (pid_rng1 rfl T.f_range (pd_add pd_int (pd_call k__law_climb (hr.mono (by decide)) hg rfl pass0 kx0 (fun _ _ _ _ _ _ us hl => match us, hl with | [_, _], _ => rfl) (pda_cons (pd_var 0) (pda_cons (pd_call k__law_pick (hr.mono (by decide)) hg rfl pass0 kx0 (fun _ _ _ _ _ _ us hl => match us, hl with | [_, _], _ => rfl) (pda_cons (pd_var 0) (pda_cons (pd_lst (pda_cons pd_int (pda_cons pd_int (pda_cons pd_int pda_nil)))) pda_nil))) pda_nil))))) (pgd_name (i := 3) sc__law_way.nd rfl (by first | exact Or.inl rfl | exact Or.inr rfl)) (psd_cons (psd_setLc (i := 4) (own := [("_law_number", 5)]) rfl sc__law_way.nd rfl rfl (sw_true rfl rfl rfl (by decide +kernel)) (pid_rng1 rfl T.f_range (pd_len rfl rfl T.f_len (pd_var 1))) (blkOk_by (N := ["_law_ridge_here", "_law_triples_here", "_law_way_here", "_law_turn", "_law_some", "_law_number", "_law_lively", "_law_each"]) (sc := defScope st__law_way) (by decide +kernel)) (by decide) (fun _ _ _ _ _ _ => (pgd_name (i := 5) sc__law_way.nd rfl (by first | exact Or.inl rfl | exact Or.inr rfl))) (fun _ _ _ _ _ _ => ptsd_nil) (fun _ _ _ _ _ _ => (pd_addT (pd_var 2) (pd_tup (pda_cons (pd_var 5) pda_nil))))) (psd_cons (psd_setLc (i := 6) (own := [("_law_each", 7)]) rfl sc__law_way.nd rfl rfl (sw_true rfl rfl rfl (by decide +kernel)) (pid_seq (pd_var 4)) (blkOk_by (N := ["_law_ridge_here", "_law_triples_here", "_law_way_here", "_law_turn", "_law_some", "_law_number", "_law_lively", "_law_each"]) (sc := defScope st__law_way) (by decide +kernel)) (by decide) (fun _ _ _ _ _ _ => (pgd_name (i := 7) sc__law_way.nd rfl (by first | exact Or.inl rfl | exact Or.inr rfl))) (fun _ _ _ _ _ _ => ptsd_one (ptd_notN (pd_call k__law_stretch (hr.mono (by decide)) hg rfl pass0 kx0 (fun _ _ _ _ _ _ us hl => match us, hl with | [_, _], _ => rfl) (pda_cons (pd_var 1) (pda_cons (pd_var 7) pda_nil))))) (fun _ _ _ _ _ _ => (pd_var 7))) (psd_one (psd_set (i := 2) sc__law_way.nd rfl (by first | exact Or.inl rfl | exact Or.inr rfl) (pd_call k__law_pick (hr.mono (by decide)) hg rfl pass0 kx0 (fun _ _ _ _ _ _ us hl => match us, hl with | [_, _], _ => rfl) (pda_cons (pd_var 0) (pda_cons (pd_if (PW.pt (pwd_and (ptd_cmp (op_ne2 hr.units) od_ne (pd_var 6) (pd_lst pda_nil) (nomark _)) (pwd_and1 (ptd_cmp op_gt od_bl (pd_call k__law_climb (hr.mono (by decide)) hg rfl pass0 kx0 (fun _ _ _ _ _ _ us hl => match us, hl with | [_, _], _ => rfl) (pda_cons (pd_var 0) (pda_cons pd_int pda_nil))) pd_int (nomark _))))) (pd_var 6) (pd_var 4)) pda_nil)))))))) (psd_one (psd_ret (pd_var 2))))), fun xs G R h => v__law_way xs G R RX h⟩
abbrev sp_law : DSp := lawSp
def r_law : DS := (dSeq (dSet 1 (dCall sp__law_ridge X0 (dCons (dVar 0) dNil))) (dSeq (dFor (dIRng1 (dC (.int 3))) (gN 2) (dSeq (dSet 3 (dCall sp__law_triples X0 (dCons (dVar 1) (dCons (dC (.int 4)) dNil)))) (dSeq (dSet 4 (dCall sp_line_machine X0 (dCons (dVar 3) dNil))) (dFor (dIRng1 (dC (.int 3))) (gN 5) (dSeq (dSet 6 (dCall sp__law_way X0 (dCons (dVar 1) (dCons (dVar 3) dNil)))) (dSeq (dSet 7 (dCall sp__law_stretch X0 (dCons (dVar 3) (dCons (dVar 6) dNil)))) (dSeq (dSet 8 (dIf (dTst (dIsN (dVar 7))) (dC .non) (dTup (dCons (dIx (dVar 7) (dC (.int 0))) (dCons (dIx (dVar 7) (dC (.int 1))) dNil))))) (dSeq (dSet 9 (dIf (dTst (dIsN (dVar 7))) (dC .non) (dCall sp__law_goal X0 (dCons (dVar 7) dNil)))) (dSeq (dIfS (dTst (dOp fNe (dCal fRepr (dCons (dLst (dCons (dCall sp_stretch_of X0 (dCons (dVar 4) (dCons (dVar 6) dNil))) (dCons (dCall sp_goal_of X0 (dCons (dVar 4) (dCons (dVar 6) dNil))) dNil))) dNil)) (dCal fRepr (dCons (dLst (dCons (dVar 8) (dCons (dVar 9) dNil))) dNil)))) (dRet (dC (.bl false))) dNext) (dIfS (dTst (dOp fNe (dCal fRepr (dCons (dLst (dCons (dCallK sp_stretch_of (ordOf [1, 0]) X0 (dCons (dCal fLstOf (dCons (dVar 6) dNil)) (dCons (dVar 4) dNil))) (dCons (dCallK sp_goal_of (ordOf [1, 0]) X0 (dCons (dCal fLstOf (dCons (dVar 6) dNil)) (dCons (dVar 4) dNil))) dNil))) dNil)) (dCal fRepr (dCons (dLst (dCons (dVar 8) (dCons (dVar 9) dNil))) dNil)))) (dRet (dC (.bl false))) dNext)))))))))) (dRet (dC (.bl true)))))
theorem sc_law : FnScope ["_law_script", "_law_ridge_here", "_law_turn", "_law_triples_here", "_law_machine", "_law_lap", "_law_way_here", "_law_found", "_law_due", "_law_goal_here"] ["_law_script"] (defScope st_law) := ⟨rfl, rfl, rfl, by decide +kernel, rfl, by decide +kernel, by decide +kernel⟩
theorem v_law (xs : List D) (G : Gm) (R : KD) (RX : XD) (h : sp_law xs G R RX) : r_law { nx := fun _ G => R .non G, rt := R } (xs.map some ++ List.replicate (10 - xs.length) none) G := by
  obtain ⟨ns, rfl, hl, _, h⟩ := h
  unfold r_law
  walk_at "start"
  walk_at "xx"
  refine ⟨ns, rfl, hl, fun p m hp hm0 => ?_⟩
  walk_at "xx"
  refine forL_at (fun rest ρ G => rest.length ≤ 3 ∧ (∃ o2 o3 o4 o5 o6 o7 o8 o9, ρ = [some (.lst (ns.map D.int)), some (.ref p), o2, o3, o4, o5, o6, o7, o8, o9]) ∧ GauAt G p (500 * (3 - rest.length))) ?_ ?_ ?_
  · rintro x rest N ρ G hsuf hN ⟨hlen, ⟨o2, o3, o4, o5, o6, o7, o8, o9, rfl⟩, ⟨m, eg, hm⟩⟩
    rw [List.length_cons] at hlen hm
    rw [← gup_id eg]
    walk_at "xx"
    refine ⟨p, 4, _, rfl, by decide, by decide, gau_gup hm, by omega, fun ps m1 ho pl4 _ hm1 => ?_⟩
    rw [gup_gup]
    walk_at "xx"
    refine ⟨ps, rfl, ho, ?_⟩
    walk_at "xx"
    refine forL_at (fun rst ρ G' => rst.length ≤ 3 ∧ (∃ o5 o6 o7 o8 o9, ρ = [some (.lst (ns.map D.int)), some (.ref p), some x, some (.lst (ps.map Lp.t)), some (lmach ps), o5, o6, o7, o8, o9]) ∧ ∃ m, G' = gup G p m ∧ Gau m (500 * (3 - (rest.length + 1)) + 82 + 40 * (3 - rst.length))) ?_ ?_ ?_
    · rintro y rst N2 ρ G2 hs2 hN2 ⟨hr, ⟨o5, o6, o7, o8, o9, rfl⟩, m, rfl, hm⟩
      rw [List.length_cons] at hr hm
      walk_at "xx"
      refine ⟨p, _, ps, rfl, ho, gau_gup hm, by omega, fun w m2 hw w10 hm2 => ?_⟩
      rw [gup_gup]
      have fin : N2 = N2 → True := fun _ => trivial
      walk_at "xx"
      refine ⟨ps, w, rfl, hw, ?_⟩
      unfold lawStrD
      have ol := onW_len ps w
      have hok := onW_ok (ns := w) hw.ok
      generalize hW : onW ps w = W at *
      have rb := rowW_b hok
      have sb := shW_b hok
      have nonfn : Fn 0 1 (.non) := ⟨rfl, rfl, rfl, by decide, by decide, rfl, rfl⟩
      have two : ∀ {x y : D}, Fn 2 7 x → Fn 2 7 y → RepOk (.lst [x, y]) := fun {x y} hx hy => (fn_seq (n := 2) (d := 2) (s := 7) (fun z hz => by
        rcases List.mem_cons.mp hz with rfl | hz
        · exact hx
        · rw [List.mem_singleton.mp hz]; exact hy) (Nat.le_refl _)).2.rep
      cases e : backS W with
      | none =>
        have rep := two (x := .non) (y := .non) nonfn.mono nonfn.mono
        walk_at "xx"
        refine ⟨ps, w, _, rfl, .inl rfl, hw, ho.le, ?_⟩
        rw [hW, e]
        dsimp only [optS]
        walk_at "xx"
        refine ⟨ps, w, _, rfl, .inl rfl, hw, ho.le, ?_⟩
        rw [hW, e]
        dsimp only [optS, Option.map]
        walk_at "xx"
        refine DL.Y.repr_ rep ?_
        walk_at "xx"
        refine DL.Y.repr_ rep ?_
        walk_at "xx"
        refine ⟨ps, w, _, rfl, .inr rfl, hw, ho.le, ?_⟩
        rw [hW, e]
        dsimp only [optS]
        walk_at "xx"
        refine ⟨ps, w, _, rfl, .inr rfl, hw, ho.le, ?_⟩
        rw [hW, e]
        dsimp only [optS, Option.map]
        walk_at "xx"
        refine DL.Y.repr_ rep ?_
        walk_at "xx"
        refine DL.Y.repr_ rep ?_
        walk_at "xx"
        exact hN2 _ _ ⟨by omega, ⟨_, _, _, _, _, rfl⟩, m2, rfl, hm2.mono (by omega)⟩
      | some s =>
        have bs : Sb 421 s := (backS_b hok e).mono (by omega)
        have bg : Sb 831 (goalW W s) := (goalW_b hok bs).mono (by omega)
        have eg2 := goalW_eq (backS_some e).1 W
        have fs : ∀ {k : Nat} {s : Qr × Qr}, Sb k s → k ≤ 1860 → Fn 2 7 (strD s) := fun {k s} hs hk => (fn_seq (n := 2) (d := 1) (s := 3) (fun z hz => by
          rcases List.mem_cons.mp hz with rfl | hz
          · exact fn_q hs.1 hk
          · rw [List.mem_singleton.mp hz]; exact fn_q hs.2 hk) (Nat.le_refl _)).1
        have rep := two (fs bs (by decide)) (fs bg (by decide))
        walk_at "xx"
        refine ⟨s, rowW W, shW W, rfl, bs.mono, rb.mono (by omega), sb.mono (by omega), ?_⟩
        rw [← eg2]
        walk_at "xx"
        refine ⟨ps, w, _, rfl, .inl rfl, hw, ho.le, ?_⟩
        rw [hW, e]
        dsimp only [optS]
        walk_at "xx"
        refine ⟨ps, w, _, rfl, .inl rfl, hw, ho.le, ?_⟩
        rw [hW, e]
        dsimp only [optS, Option.map]
        walk_at "xx"
        refine DL.Y.repr_ rep ?_
        walk_at "xx"
        refine DL.Y.repr_ rep ?_
        walk_at "xx"
        refine ⟨ps, w, _, rfl, .inr rfl, hw, ho.le, ?_⟩
        rw [hW, e]
        dsimp only [optS]
        walk_at "xx"
        refine ⟨ps, w, _, rfl, .inr rfl, hw, ho.le, ?_⟩
        rw [hW, e]
        dsimp only [optS, Option.map]
        walk_at "xx"
        refine DL.Y.repr_ rep ?_
        walk_at "xx"
        refine DL.Y.repr_ rep ?_
        walk_at "xx"
        exact hN2 _ _ ⟨by omega, ⟨_, _, _, _, _, rfl⟩, m2, rfl, hm2.mono (by omega)⟩
    · rintro ρ G2 ⟨hr, ⟨o5, o6, o7, o8, o9, rfl⟩, m, rfl, hm⟩
      walk_at "xx"
      exact hN _ _ ⟨by omega, ⟨_, _, _, _, _, _, _, _, rfl⟩, gau_gup (hm.mono (by show _ + 82 + 40 * (3 - 0) ≤ _; omega))⟩
    · exact ⟨Nat.le_of_ble_eq_true rfl, ⟨_, _, _, _, _, rfl⟩, m1, rfl, hm1.mono (by omega)⟩
  · rintro ρ G1 ⟨_, ⟨o2, o3, o4, o5, o6, o7, o8, o9, rfl⟩, _⟩
    walk_at "xx"
    exact h _
  · exact ⟨Nat.le_of_ble_eq_true rfl, ⟨_, _, _, _, _, _, _, _, rfl⟩, gau_gup hm0⟩
theorem l_law (xs : List D) (G : Gm) (R : KD) (RX : XD) (h : sp_law xs G R RX) : xs.length = 1 := by
  obtain ⟨_, rfl, _⟩ := h
  rfl
set_option maxHeartbeats 4000000 in
theorem k_law {P : Program} {w : World} {K : PySem.W.Frag} {mg : Str → Option Value} {base : Heap} (T : Tx mg) (F : Df K mg "law" st_law) (k_line_machine : Kn P w K mg base 9 "line_machine" st_line_machine ["triples"] sp_line_machine) (k_stretch_of : Kn P w K mg base 7 "stretch_of" st_stretch_of ["machine", "way"] sp_stretch_of) (k_goal_of : Kn P w K mg base 8 "goal_of" st_goal_of ["machine", "way"] sp_goal_of) (k__law_ridge : Kn P w K mg base 1 "_law_ridge" st__law_ridge ["_law_script"] sp__law_ridge) (k__law_triples : Kn P w K mg base 4 "_law_triples" st__law_triples ["_law_ridge_here", "_law_most"] sp__law_triples) (k__law_stretch : Kn P w K mg base 4 "_law_stretch" st__law_stretch ["_law_triples_here", "_law_way_here"] sp__law_stretch) (k__law_goal : Kn P w K mg base 3 "_law_goal" st__law_goal ["_law_found"] sp__law_goal) (k__law_way : Kn P w K mg base 5 "_law_way" st__law_way ["_law_ridge_here", "_law_triples_here"] sp__law_way) :
    Kn P w K mg base 10 "law" st_law ["_law_script"] sp_law :=
  kn_of F.g F.f sc_law l_law fun cdv hcv A outer s H E B RX hr hg kx => ⟨r_law, (psd_cons (psd_set (i := 1) sc_law.nd rfl (by first | exact Or.inl rfl | exact Or.inr rfl) (pd_call k__law_ridge (hr.mono (by decide)) hg rfl pass0 kx0 (fun _ _ _ _ _ _ us hl => match us, hl with | [_], _ => rfl) (pda_cons (pd_var 0) pda_nil))) (psd_cons (psd_for (passes_of rfl) rfl (pid_rng1 rfl T.f_range pd_int) (pgd_name (i := 2) sc_law.nd rfl (by first | exact Or.inl rfl | exact Or.inr rfl)) (psd_cons (psd_set (i := 3) sc_law.nd rfl (by first | exact Or.inl rfl | exact Or.inr rfl) (pd_call k__law_triples (hr.mono (by decide)) hg rfl pass0 kx0 (fun _ _ _ _ _ _ us hl => match us, hl with | [_, _], _ => rfl) (pda_cons (pd_var 1) (pda_cons pd_int pda_nil)))) (psd_cons (psd_set (i := 4) sc_law.nd rfl (by first | exact Or.inl rfl | exact Or.inr rfl) (pd_call k_line_machine (hr.mono (by decide)) hg rfl pass0 kx0 (fun _ _ _ _ _ _ us hl => match us, hl with | [_], _ => rfl) (pda_cons (pd_var 3) pda_nil))) (psd_one (psd_for (passes_of rfl) rfl (pid_rng1 rfl T.f_range pd_int) (pgd_name (i := 5) sc_law.nd rfl (by first | exact Or.inl rfl | exact Or.inr rfl)) (psd_cons (psd_set (i := 6) sc_law.nd rfl (by first | exact Or.inl rfl | exact Or.inr rfl) (pd_call k__law_way (hr.mono (by decide)) hg rfl pass0 kx0 (fun _ _ _ _ _ _ us hl => match us, hl with | [_, _], _ => rfl) (pda_cons (pd_var 1) (pda_cons (pd_var 3) pda_nil)))) (psd_cons (psd_set (i := 7) sc_law.nd rfl (by first | exact Or.inl rfl | exact Or.inr rfl) (pd_call k__law_stretch (hr.mono (by decide)) hg rfl pass0 kx0 (fun _ _ _ _ _ _ us hl => match us, hl with | [_, _], _ => rfl) (pda_cons (pd_var 3) (pda_cons (pd_var 6) pda_nil)))) (psd_cons (psd_set (i := 8) sc_law.nd rfl (by first | exact Or.inl rfl | exact Or.inr rfl) (pd_if (ptd_isN (pd_var 7)) pd_non (pd_tup (pda_cons (pd_ix (pd_var 7) pd_int (fun _ _ => rfl)) (pda_cons (pd_ix (pd_var 7) pd_int (fun _ _ => rfl)) pda_nil))))) (psd_cons (psd_set (i := 9) sc_law.nd rfl (by first | exact Or.inl rfl | exact Or.inr rfl) (pd_if (ptd_isN (pd_var 7)) pd_non (pd_call k__law_goal (hr.mono (by decide)) hg rfl pass0 kx0 (fun _ _ _ _ _ _ us hl => match us, hl with | [_], _ => rfl) (pda_cons (pd_var 7) pda_nil)))) (psd_cons (psd_if (ptd_cmp (op_ne2 hr.units) od_ne (pd_repr rfl hg hr.units rfl T.f_repr (pd_lst (pda_cons (pd_call k_stretch_of (hr.mono (by decide)) hg rfl pass0 kx0 (fun _ _ _ _ _ _ us hl => match us, hl with | [_, _], _ => rfl) (pda_cons (pd_var 4) (pda_cons (pd_var 6) pda_nil))) (pda_cons (pd_call k_goal_of (hr.mono (by decide)) hg rfl pass0 kx0 (fun _ _ _ _ _ _ us hl => match us, hl with | [_, _], _ => rfl) (pda_cons (pd_var 4) (pda_cons (pd_var 6) pda_nil))) pda_nil)))) (pd_repr rfl hg hr.units rfl T.f_repr (pd_lst (pda_cons (pd_var 8) (pda_cons (pd_var 9) pda_nil)))) (nomark _)) (psd_one (psd_ret pd_bl)) psd_nil) (psd_one (psd_if (ptd_cmp (op_ne2 hr.units) od_ne (pd_repr rfl hg hr.units rfl T.f_repr (pd_lst (pda_cons (pd_callK (ks := ["way", "machine"]) (ordOf [1, 0]) k_stretch_of (hr.mono (by decide)) hg rfl pass0 kx0 (fun _ _ _ _ _ _ us hl => match us, hl with | [_, _], _ => rfl) rfl (ordOf_len rfl) (pkd_cons (pd_callTy call_list_of cd_list rfl T.f_list (by decide +kernel) (pda_cons (pd_var 6) pda_nil)) (pkd_cons (pd_var 4) pkd_nil (fun h => pk_cons (pd_var 4) h)) (fun h => pk_cons (pd_callTy call_list_of cd_list rfl T.f_list (by decide +kernel) (pda_cons (pd_var 6) pda_nil)) h))) (pda_cons (pd_callK (ks := ["way", "machine"]) (ordOf [1, 0]) k_goal_of (hr.mono (by decide)) hg rfl pass0 kx0 (fun _ _ _ _ _ _ us hl => match us, hl with | [_, _], _ => rfl) rfl (ordOf_len rfl) (pkd_cons (pd_callTy call_list_of cd_list rfl T.f_list (by decide +kernel) (pda_cons (pd_var 6) pda_nil)) (pkd_cons (pd_var 4) pkd_nil (fun h => pk_cons (pd_var 4) h)) (fun h => pk_cons (pd_callTy call_list_of cd_list rfl T.f_list (by decide +kernel) (pda_cons (pd_var 6) pda_nil)) h))) pda_nil)))) (pd_repr rfl hg hr.units rfl T.f_repr (pd_lst (pda_cons (pd_var 8) (pda_cons (pd_var 9) pda_nil)))) (nomark _)) (psd_one (psd_ret pd_bl)) psd_nil)))))))))))) (psd_one (psd_ret pd_bl)))), fun xs G R h => v_law xs G R RX h⟩
theorem ob_eq (s : PySem.W.SharedT) : ob s = hk.obs s.abs := obsL_eq (HandSHeadRun.getT_eq s)
section
variable {K : PySem.W.Frag} {h : Heap} {mg : Str → Option Value}
theorem tx (X : K.In h) (G : h.Ns mainGlobals mg) (c : He.SaysD fa fn K) : Tx mg := ⟨He.free_ok X G (c.fact 51 (f := .free "abs") rfl), He.free_ok X G (c.fact 52 (f := .free "all") rfl), He.free_ok X G (c.fact 53 (f := .free "bool") rfl), He.free_ok X G (c.fact 54 (f := .free "int") rfl), He.free_ok X G (c.fact 55 (f := .free "isinstance") rfl), He.free_ok X G (c.fact 56 (f := .free "len") rfl), He.free_ok X G (c.fact 57 (f := .free "list") rfl), He.free_ok X G (c.fact 58 (f := .free "range") rfl), He.free_ok X G (c.fact 59 (f := .free "repr") rfl), He.free_ok X G (c.fact 60 (f := .free "set") rfl), He.free_ok X G (c.fact 61 (f := .free "tuple") rfl), He.int_ok X G (c.fact 62 (f := .int "LEAST_UNDER" 2) rfl), He.int_ok X G (c.fact 63 (f := .int "SMALL_ABOVE" 1000000) rfl), He.int_ok X G (c.fact 64 (f := .int "SMALL_UNDER" 1000) rfl), He.str_ok X G (c.fact 65 (f := .str "BAR" "/") rfl), He.str_ok X G (c.fact 66 (f := .str "FIGURES" "0123456789") rfl), He.int_ok X G (c.fact 67 (f := .int "MOST_FIGURES" 140) rfl), He.int_ok X G (c.fact 68 (f := .int "MOST_WIDE" 2) rfl), He.int_ok X G (c.fact 69 (f := .int "MOST_PIECES" 60) rfl), He.int_ok X G (c.fact 70 (f := .int "FARTHEST" 1000) rfl), He.int_ok X G (c.fact 71 (f := .int "MOST_WAY" 400) rfl)⟩
theorem df_is_integer (X : K.In h) (G : h.Ns mainGlobals mg) (c : He.SaysD fa fn K) : Df K mg "is_integer" st_is_integer := ⟨He.glo_ok X G (c.fact 0 (f := .glo "is_integer") rfl), c.def_ 0 (d := dd "is_integer" 8) rfl⟩
theorem df_is_within (X : K.In h) (G : h.Ns mainGlobals mg) (c : He.SaysD fa fn K) : Df K mg "is_within" st_is_within := ⟨He.glo_ok X G (c.fact 1 (f := .glo "is_within") rfl), c.def_ 1 (d := dd "is_within" 9) rfl⟩
theorem df_is_list (X : K.In h) (G : h.Ns mainGlobals mg) (c : He.SaysD fa fn K) : Df K mg "is_list" st_is_list := ⟨He.glo_ok X G (c.fact 2 (f := .glo "is_list") rfl), c.def_ 2 (d := dd "is_list" 10) rfl⟩
theorem df_halves (X : K.In h) (G : h.Ns mainGlobals mg) (c : He.SaysD fa fn K) : Df K mg "halves" st_halves := ⟨He.glo_ok X G (c.fact 3 (f := .glo "halves") rfl), c.def_ 3 (d := dd "halves" 15) rfl⟩
theorem df_common (X : K.In h) (G : h.Ns mainGlobals mg) (c : He.SaysD fa fn K) : Df K mg "common" st_common := ⟨He.glo_ok X G (c.fact 4 (f := .glo "common") rfl), c.def_ 4 (d := dd "common" 16) rfl⟩
theorem df_lowest_in (X : K.In h) (G : h.Ns mainGlobals mg) (c : He.SaysD fa fn K) : Df K mg "lowest_in" st_lowest_in := ⟨He.glo_ok X G (c.fact 5 (f := .glo "lowest_in") rfl), c.def_ 5 (d := dd "lowest_in" 17) rfl⟩
theorem df_plus_in (X : K.In h) (G : h.Ns mainGlobals mg) (c : He.SaysD fa fn K) : Df K mg "plus_in" st_plus_in := ⟨He.glo_ok X G (c.fact 6 (f := .glo "plus_in") rfl), c.def_ 6 (d := dd "plus_in" 18) rfl⟩
theorem df_times_in (X : K.In h) (G : h.Ns mainGlobals mg) (c : He.SaysD fa fn K) : Df K mg "times_in" st_times_in := ⟨He.glo_ok X G (c.fact 7 (f := .glo "times_in") rfl), c.def_ 7 (d := dd "times_in" 19) rfl⟩
theorem df_minus_in (X : K.In h) (G : h.Ns mainGlobals mg) (c : He.SaysD fa fn K) : Df K mg "minus_in" st_minus_in := ⟨He.glo_ok X G (c.fact 8 (f := .glo "minus_in") rfl), c.def_ 8 (d := dd "minus_in" 20) rfl⟩
theorem df_over_in (X : K.In h) (G : h.Ns mainGlobals mg) (c : He.SaysD fa fn K) : Df K mg "over_in" st_over_in := ⟨He.glo_ok X G (c.fact 9 (f := .glo "over_in") rfl), c.def_ 9 (d := dd "over_in" 21) rfl⟩
theorem df_below_in (X : K.In h) (G : h.Ns mainGlobals mg) (c : He.SaysD fa fn K) : Df K mg "below_in" st_below_in := ⟨He.glo_ok X G (c.fact 10 (f := .glo "below_in") rfl), c.def_ 10 (d := dd "below_in" 22) rfl⟩
theorem df_is_number (X : K.In h) (G : h.Ns mainGlobals mg) (c : He.SaysD fa fn K) : Df K mg "is_number" st_is_number := ⟨He.glo_ok X G (c.fact 11 (f := .glo "is_number") rfl), c.def_ 11 (d := dd "is_number" 24) rfl⟩
theorem df_is_small (X : K.In h) (G : h.Ns mainGlobals mg) (c : He.SaysD fa fn K) : Df K mg "is_small" st_is_small := ⟨He.glo_ok X G (c.fact 12 (f := .glo "is_small") rfl), c.def_ 12 (d := dd "is_small" 25) rfl⟩
theorem df_kept_number (X : K.In h) (G : h.Ns mainGlobals mg) (c : He.SaysD fa fn K) : Df K mg "kept_number" st_kept_number := ⟨He.glo_ok X G (c.fact 13 (f := .glo "kept_number") rfl), c.def_ 13 (d := dd "kept_number" 26) rfl⟩
theorem df_is_row (X : K.In h) (G : h.Ns mainGlobals mg) (c : He.SaysD fa fn K) : Df K mg "is_row" st_is_row := ⟨He.glo_ok X G (c.fact 14 (f := .glo "is_row") rfl), c.def_ 14 (d := dd "is_row" 38) rfl⟩
theorem df_is_corner (X : K.In h) (G : h.Ns mainGlobals mg) (c : He.SaysD fa fn K) : Df K mg "is_corner" st_is_corner := ⟨He.glo_ok X G (c.fact 15 (f := .glo "is_corner") rfl), c.def_ 15 (d := dd "is_corner" 39) rfl⟩
theorem df_is_piece (X : K.In h) (G : h.Ns mainGlobals mg) (c : He.SaysD fa fn K) : Df K mg "is_piece" st_is_piece := ⟨He.glo_ok X G (c.fact 16 (f := .glo "is_piece") rfl), c.def_ 16 (d := dd "is_piece" 40) rfl⟩
theorem df_kept_row (X : K.In h) (G : h.Ns mainGlobals mg) (c : He.SaysD fa fn K) : Df K mg "kept_row" st_kept_row := ⟨He.glo_ok X G (c.fact 17 (f := .glo "kept_row") rfl), c.def_ 17 (d := dd "kept_row" 41) rfl⟩
theorem df_kept_piece (X : K.In h) (G : h.Ns mainGlobals mg) (c : He.SaysD fa fn K) : Df K mg "kept_piece" st_kept_piece := ⟨He.glo_ok X G (c.fact 18 (f := .glo "kept_piece") rfl), c.def_ 18 (d := dd "kept_piece" 42) rfl⟩
theorem df_are_unlike (X : K.In h) (G : h.Ns mainGlobals mg) (c : He.SaysD fa fn K) : Df K mg "are_unlike" st_are_unlike := ⟨He.glo_ok X G (c.fact 19 (f := .glo "are_unlike") rfl), c.def_ 19 (d := dd "are_unlike" 43) rfl⟩
theorem df_Machine___init__ (X : K.In h) (G : h.Ns mainGlobals mg) (c : He.SaysD fa fn K) : DfM K "Machine" "__init__" st_Machine___init__ := ⟨c.def_ 20 (d := dm "Machine" "__init__" 44) rfl⟩
theorem df_need_machine (X : K.In h) (G : h.Ns mainGlobals mg) (c : He.SaysD fa fn K) : DfD K mg "need_machine" st_need_machine [V.str "machine"] := ⟨He.glo_ok X G (c.fact 21 (f := .glo "need_machine") rfl), c.def_ 21 (d := de "need_machine" 47 [He.Dv.str "machine"]) rfl⟩
theorem df_line_machine (X : K.In h) (G : h.Ns mainGlobals mg) (c : He.SaysD fa fn K) : Df K mg "line_machine" st_line_machine := ⟨He.glo_ok X G (c.fact 22 (f := .glo "line_machine") rfl), c.def_ 22 (d := dd "line_machine" 48) rfl⟩
theorem df_need_way (X : K.In h) (G : h.Ns mainGlobals mg) (c : He.SaysD fa fn K) : DfD K mg "need_way" st_need_way [V.str "way"] := ⟨He.glo_ok X G (c.fact 23 (f := .glo "need_way") rfl), c.def_ 23 (d := de "need_way" 51 [He.Dv.str "way"]) rfl⟩
theorem df_need_line (X : K.In h) (G : h.Ns mainGlobals mg) (c : He.SaysD fa fn K) : Df K mg "need_line" st_need_line := ⟨He.glo_ok X G (c.fact 24 (f := .glo "need_line") rfl), c.def_ 24 (d := dd "need_line" 53) rfl⟩
theorem df_parts_in (X : K.In h) (G : h.Ns mainGlobals mg) (c : He.SaysD fa fn K) : Df K mg "parts_in" st_parts_in := ⟨He.glo_ok X G (c.fact 25 (f := .glo "parts_in") rfl), c.def_ 25 (d := dd "parts_in" 54) rfl⟩
theorem df_own_stretch (X : K.In h) (G : h.Ns mainGlobals mg) (c : He.SaysD fa fn K) : Df K mg "own_stretch" st_own_stretch := ⟨He.glo_ok X G (c.fact 26 (f := .glo "own_stretch") rfl), c.def_ 26 (d := dd "own_stretch" 55) rfl⟩
theorem df_meet (X : K.In h) (G : h.Ns mainGlobals mg) (c : He.SaysD fa fn K) : Df K mg "meet" st_meet := ⟨He.glo_ok X G (c.fact 27 (f := .glo "meet") rfl), c.def_ 27 (d := dd "meet" 56) rfl⟩
theorem df_led_on (X : K.In h) (G : h.Ns mainGlobals mg) (c : He.SaysD fa fn K) : Df K mg "led_on" st_led_on := ⟨He.glo_ok X G (c.fact 28 (f := .glo "led_on") rfl), c.def_ 28 (d := dd "led_on" 57) rfl⟩
theorem df_led_back (X : K.In h) (G : h.Ns mainGlobals mg) (c : He.SaysD fa fn K) : Df K mg "led_back" st_led_back := ⟨He.glo_ok X G (c.fact 29 (f := .glo "led_back") rfl), c.def_ 29 (d := dd "led_back" 58) rfl⟩
theorem df_stretch_in (X : K.In h) (G : h.Ns mainGlobals mg) (c : He.SaysD fa fn K) : Df K mg "stretch_in" st_stretch_in := ⟨He.glo_ok X G (c.fact 30 (f := .glo "stretch_in") rfl), c.def_ 30 (d := dd "stretch_in" 59) rfl⟩
theorem df_goal_in (X : K.In h) (G : h.Ns mainGlobals mg) (c : He.SaysD fa fn K) : Df K mg "goal_in" st_goal_in := ⟨He.glo_ok X G (c.fact 31 (f := .glo "goal_in") rfl), c.def_ 31 (d := dd "goal_in" 60) rfl⟩
theorem df_stretch_of (X : K.In h) (G : h.Ns mainGlobals mg) (c : He.SaysD fa fn K) : Df K mg "stretch_of" st_stretch_of := ⟨He.glo_ok X G (c.fact 32 (f := .glo "stretch_of") rfl), c.def_ 32 (d := dd "stretch_of" 61) rfl⟩
theorem df_goal_of (X : K.In h) (G : h.Ns mainGlobals mg) (c : He.SaysD fa fn K) : Df K mg "goal_of" st_goal_of := ⟨He.glo_ok X G (c.fact 33 (f := .glo "goal_of") rfl), c.def_ 33 (d := dd "goal_of" 62) rfl⟩
theorem df__law_ridge (X : K.In h) (G : h.Ns mainGlobals mg) (c : He.SaysD fa fn K) : Df K mg "_law_ridge" st__law_ridge := ⟨He.glo_ok X G (c.fact 34 (f := .glo "_law_ridge") rfl), c.def_ 34 (d := dd "_law_ridge" 64) rfl⟩
theorem df__law_climb (X : K.In h) (G : h.Ns mainGlobals mg) (c : He.SaysD fa fn K) : Df K mg "_law_climb" st__law_climb := ⟨He.glo_ok X G (c.fact 35 (f := .glo "_law_climb") rfl), c.def_ 35 (d := dd "_law_climb" 65) rfl⟩
theorem df__law_pick (X : K.In h) (G : h.Ns mainGlobals mg) (c : He.SaysD fa fn K) : Df K mg "_law_pick" st__law_pick := ⟨He.glo_ok X G (c.fact 36 (f := .glo "_law_pick") rfl), c.def_ 36 (d := dd "_law_pick" 66) rfl⟩
theorem df__law_lowest (X : K.In h) (G : h.Ns mainGlobals mg) (c : He.SaysD fa fn K) : Df K mg "_law_lowest" st__law_lowest := ⟨He.glo_ok X G (c.fact 37 (f := .glo "_law_lowest") rfl), c.def_ 37 (d := dd "_law_lowest" 67) rfl⟩
theorem df__law_halves (X : K.In h) (G : h.Ns mainGlobals mg) (c : He.SaysD fa fn K) : Df K mg "_law_halves" st__law_halves := ⟨He.glo_ok X G (c.fact 38 (f := .glo "_law_halves") rfl), c.def_ 38 (d := dd "_law_halves" 68) rfl⟩
theorem df__law_plus (X : K.In h) (G : h.Ns mainGlobals mg) (c : He.SaysD fa fn K) : Df K mg "_law_plus" st__law_plus := ⟨He.glo_ok X G (c.fact 39 (f := .glo "_law_plus") rfl), c.def_ 39 (d := dd "_law_plus" 69) rfl⟩
theorem df__law_times (X : K.In h) (G : h.Ns mainGlobals mg) (c : He.SaysD fa fn K) : Df K mg "_law_times" st__law_times := ⟨He.glo_ok X G (c.fact 40 (f := .glo "_law_times") rfl), c.def_ 40 (d := dd "_law_times" 70) rfl⟩
theorem df__law_over (X : K.In h) (G : h.Ns mainGlobals mg) (c : He.SaysD fa fn K) : Df K mg "_law_over" st__law_over := ⟨He.glo_ok X G (c.fact 41 (f := .glo "_law_over") rfl), c.def_ 41 (d := dd "_law_over" 71) rfl⟩
theorem df__law_below (X : K.In h) (G : h.Ns mainGlobals mg) (c : He.SaysD fa fn K) : Df K mg "_law_below" st__law_below := ⟨He.glo_ok X G (c.fact 42 (f := .glo "_law_below") rfl), c.def_ 42 (d := dd "_law_below" 72) rfl⟩
theorem df__law_less (X : K.In h) (G : h.Ns mainGlobals mg) (c : He.SaysD fa fn K) : Df K mg "_law_less" st__law_less := ⟨He.glo_ok X G (c.fact 43 (f := .glo "_law_less") rfl), c.def_ 43 (d := dd "_law_less" 73) rfl⟩
theorem df__law_part (X : K.In h) (G : h.Ns mainGlobals mg) (c : He.SaysD fa fn K) : Df K mg "_law_part" st__law_part := ⟨He.glo_ok X G (c.fact 44 (f := .glo "_law_part") rfl), c.def_ 44 (d := dd "_law_part" 74) rfl⟩
theorem df__law_triples (X : K.In h) (G : h.Ns mainGlobals mg) (c : He.SaysD fa fn K) : Df K mg "_law_triples" st__law_triples := ⟨He.glo_ok X G (c.fact 45 (f := .glo "_law_triples") rfl), c.def_ 45 (d := dd "_law_triples" 75) rfl⟩
theorem df__law_stretch (X : K.In h) (G : h.Ns mainGlobals mg) (c : He.SaysD fa fn K) : Df K mg "_law_stretch" st__law_stretch := ⟨He.glo_ok X G (c.fact 46 (f := .glo "_law_stretch") rfl), c.def_ 46 (d := dd "_law_stretch" 76) rfl⟩
theorem df__law_goal (X : K.In h) (G : h.Ns mainGlobals mg) (c : He.SaysD fa fn K) : Df K mg "_law_goal" st__law_goal := ⟨He.glo_ok X G (c.fact 47 (f := .glo "_law_goal") rfl), c.def_ 47 (d := dd "_law_goal" 77) rfl⟩
theorem df__law_way (X : K.In h) (G : h.Ns mainGlobals mg) (c : He.SaysD fa fn K) : Df K mg "_law_way" st__law_way := ⟨He.glo_ok X G (c.fact 48 (f := .glo "_law_way") rfl), c.def_ 48 (d := dd "_law_way" 79) rfl⟩
theorem df_law (X : K.In h) (G : h.Ns mainGlobals mg) (c : He.SaysD fa fn K) : Df K mg "law" st_law := ⟨He.glo_ok X G (c.fact 49 (f := .glo "law") rfl), c.def_ 49 (d := dd "law" 80) rfl⟩
set_option maxHeartbeats 4000000 in
theorem law_kn {w : World} {base : Heap} (X : K.In h) (G : h.Ns mainGlobals mg) (c : SaysE ask w h K) (tb : TabsB K base mg) : Kn (PySem.Challenge.rw_timesfloor_k32_stretches_and_goals_of_wa).prog w K mg base 10 "law" st_law ["_law_script"] lawSp := by
  obtain ⟨_, bz⟩ := He.ba (show ex K = true from c.x.more)
  obtain ⟨bi, bz⟩ := He.ba bz
  have I : IsC K mg errs subE errF := isB_ok X G bi
  obtain ⟨bx, bz⟩ := He.ba bz
  have x_BadMachine := Lw.x_BadMachine (base := base) (w := w) (xc_of (P := (PySem.Challenge.rw_timesfloor_k32_stretches_and_goals_of_wa).prog) X G bx (c.cls 0 (d := defC "BadMachine" (top 3)) rfl) (by kernel_rfl))
  obtain ⟨bx, bz⟩ := He.ba bz
  have x_BadWay := Lw.x_BadWay (base := base) (w := w) (xc_of (P := (PySem.Challenge.rw_timesfloor_k32_stretches_and_goals_of_wa).prog) X G bx (c.cls 1 (d := defC "BadWay" (top 4)) rfl) (by kernel_rfl))
  obtain ⟨bx, bz⟩ := He.ba bz
  have x_Misfit := Lw.x_Misfit (base := base) (w := w) (xc_of (P := (PySem.Challenge.rw_timesfloor_k32_stretches_and_goals_of_wa).prog) X G bx (c.cls 2 (d := defC "Misfit" (top 5)) rfl) (by kernel_rfl))
  obtain ⟨bx, bz⟩ := He.ba bz
  have W : OwC K mg cls subC := owB_ok X G bx
  have mk_Machine := He.mkr_ok (x := "Machine") (c.d.fact 50 (f := .mkr "Machine") rfl)
  have k_is_list := Lw.k_is_list (P := (PySem.Challenge.rw_timesfloor_k32_stretches_and_goals_of_wa).prog) (w := w) (base := base) (tx X G c.d) (df_is_list X G c.d)
  have k_is_integer := Lw.k_is_integer (P := (PySem.Challenge.rw_timesfloor_k32_stretches_and_goals_of_wa).prog) (w := w) (base := base) (tx X G c.d) (df_is_integer X G c.d)
  have k_is_within := Lw.k_is_within (P := (PySem.Challenge.rw_timesfloor_k32_stretches_and_goals_of_wa).prog) (w := w) (base := base) (tx X G c.d) (df_is_within X G c.d) k_is_integer
  have k_halves := Lw.k_halves (P := (PySem.Challenge.rw_timesfloor_k32_stretches_and_goals_of_wa).prog) (w := w) (base := base) (tx X G c.d) (df_halves X G c.d) k_is_integer
  have k_common := Lw.k_common (P := (PySem.Challenge.rw_timesfloor_k32_stretches_and_goals_of_wa).prog) (w := w) (base := base) (tx X G c.d) (df_common X G c.d)
  have k_is_number := Lw.k_is_number (P := (PySem.Challenge.rw_timesfloor_k32_stretches_and_goals_of_wa).prog) (w := w) (base := base) (tx X G c.d) (df_is_number X G c.d) k_is_integer k_is_within k_is_list k_common
  have k_is_small := Lw.k_is_small (P := (PySem.Challenge.rw_timesfloor_k32_stretches_and_goals_of_wa).prog) (w := w) (base := base) (tx X G c.d) (df_is_small X G c.d) k_halves k_is_number
  have k_is_row := Lw.k_is_row (P := (PySem.Challenge.rw_timesfloor_k32_stretches_and_goals_of_wa).prog) (w := w) (base := base) (tx X G c.d) (df_is_row X G c.d) k_is_list k_is_small
  have k_is_corner := Lw.k_is_corner (P := (PySem.Challenge.rw_timesfloor_k32_stretches_and_goals_of_wa).prog) (w := w) (base := base) (tx X G c.d) (df_is_corner X G c.d) k_is_within k_is_list
  have k_is_piece := Lw.k_is_piece (P := (PySem.Challenge.rw_timesfloor_k32_stretches_and_goals_of_wa).prog) (w := w) (base := base) (tx X G c.d) (df_is_piece X G c.d) k_is_list k_is_row k_is_corner
  have k_kept_number := Lw.k_kept_number (P := (PySem.Challenge.rw_timesfloor_k32_stretches_and_goals_of_wa).prog) (w := w) (base := base) (tx X G c.d) (df_kept_number X G c.d) k_is_list
  have k_kept_row := Lw.k_kept_row (P := (PySem.Challenge.rw_timesfloor_k32_stretches_and_goals_of_wa).prog) (w := w) (base := base) (tx X G c.d) (df_kept_row X G c.d) k_kept_number
  have k_kept_piece := Lw.k_kept_piece (P := (PySem.Challenge.rw_timesfloor_k32_stretches_and_goals_of_wa).prog) (w := w) (base := base) (tx X G c.d) (df_kept_piece X G c.d) k_kept_row
  have k_are_unlike := Lw.k_are_unlike (P := (PySem.Challenge.rw_timesfloor_k32_stretches_and_goals_of_wa).prog) (w := w) (base := base) (tx X G c.d) (df_are_unlike X G c.d)
  have k_Machine___init__ := Lw.k_Machine___init__ (P := (PySem.Challenge.rw_timesfloor_k32_stretches_and_goals_of_wa).prog) (w := w) (base := base) (tx X G c.d) (df_Machine___init__ X G c.d) W x_BadMachine k_is_within k_is_list k_is_piece k_kept_piece k_are_unlike
  have k_line_machine := Lw.k_line_machine (P := (PySem.Challenge.rw_timesfloor_k32_stretches_and_goals_of_wa).prog) (w := w) (base := base) (tx X G c.d) (df_line_machine X G c.d) W mk_Machine k_is_list k_Machine___init__
  have k_need_machine := Lw.k_need_machine (P := (PySem.Challenge.rw_timesfloor_k32_stretches_and_goals_of_wa).prog) (w := w) (base := base) (tx X G c.d) (df_need_machine X G c.d) W x_BadMachine
  have k_need_way := Lw.k_need_way (P := (PySem.Challenge.rw_timesfloor_k32_stretches_and_goals_of_wa).prog) (w := w) (base := base) (tx X G c.d) (df_need_way X G c.d) W x_BadWay k_is_within k_is_list
  have k_need_line := Lw.k_need_line (P := (PySem.Challenge.rw_timesfloor_k32_stretches_and_goals_of_wa).prog) (w := w) (base := base) (tx X G c.d) (df_need_line X G c.d) W x_Misfit k_need_machine
  have k_own_stretch := Lw.k_own_stretch (P := (PySem.Challenge.rw_timesfloor_k32_stretches_and_goals_of_wa).prog) (w := w) (base := base) (tx X G c.d) (df_own_stretch X G c.d)
  have k_lowest_in := Lw.k_lowest_in (P := (PySem.Challenge.rw_timesfloor_k32_stretches_and_goals_of_wa).prog) (w := w) (base := base) (tx X G c.d) (df_lowest_in X G c.d) k_common
  have k_plus_in := Lw.k_plus_in (P := (PySem.Challenge.rw_timesfloor_k32_stretches_and_goals_of_wa).prog) (w := w) (base := base) (tx X G c.d) (df_plus_in X G c.d) k_halves k_lowest_in
  have k_times_in := Lw.k_times_in (P := (PySem.Challenge.rw_timesfloor_k32_stretches_and_goals_of_wa).prog) (w := w) (base := base) (tx X G c.d) (df_times_in X G c.d) k_halves k_lowest_in
  have k_minus_in := Lw.k_minus_in (P := (PySem.Challenge.rw_timesfloor_k32_stretches_and_goals_of_wa).prog) (w := w) (base := base) (tx X G c.d) (df_minus_in X G c.d) k_plus_in k_times_in
  have k_over_in := Lw.k_over_in (P := (PySem.Challenge.rw_timesfloor_k32_stretches_and_goals_of_wa).prog) (w := w) (base := base) (tx X G c.d) (df_over_in X G c.d) k_halves k_lowest_in
  have k_below_in := Lw.k_below_in (P := (PySem.Challenge.rw_timesfloor_k32_stretches_and_goals_of_wa).prog) (w := w) (base := base) (tx X G c.d) (df_below_in X G c.d) k_halves
  have k_parts_in := Lw.k_parts_in (P := (PySem.Challenge.rw_timesfloor_k32_stretches_and_goals_of_wa).prog) (w := w) (base := base) (tx X G c.d) (df_parts_in X G c.d)
  have k_meet := Lw.k_meet (P := (PySem.Challenge.rw_timesfloor_k32_stretches_and_goals_of_wa).prog) (w := w) (base := base) (tx X G c.d) (df_meet X G c.d) k_below_in
  have k_led_back := Lw.k_led_back (P := (PySem.Challenge.rw_timesfloor_k32_stretches_and_goals_of_wa).prog) (w := w) (base := base) (tx X G c.d) (df_led_back X G c.d) k_minus_in k_over_in k_below_in k_parts_in k_own_stretch k_meet
  have k_stretch_in := Lw.k_stretch_in (P := (PySem.Challenge.rw_timesfloor_k32_stretches_and_goals_of_wa).prog) (w := w) (base := base) (tx X G c.d) (df_stretch_in X G c.d) W k_own_stretch k_led_back
  have k_stretch_of := Lw.k_stretch_of (P := (PySem.Challenge.rw_timesfloor_k32_stretches_and_goals_of_wa).prog) (w := w) (base := base) (tx X G c.d) (df_stretch_of X G c.d) k_need_machine k_need_way k_need_line k_stretch_in
  have k_led_on := Lw.k_led_on (P := (PySem.Challenge.rw_timesfloor_k32_stretches_and_goals_of_wa).prog) (w := w) (base := base) (tx X G c.d) (df_led_on X G c.d) k_plus_in k_times_in k_below_in k_parts_in
  have k_goal_in := Lw.k_goal_in (P := (PySem.Challenge.rw_timesfloor_k32_stretches_and_goals_of_wa).prog) (w := w) (base := base) (tx X G c.d) (df_goal_in X G c.d) W k_led_on k_stretch_in
  have k_goal_of := Lw.k_goal_of (P := (PySem.Challenge.rw_timesfloor_k32_stretches_and_goals_of_wa).prog) (w := w) (base := base) (tx X G c.d) (df_goal_of X G c.d) k_need_machine k_need_way k_need_line k_goal_in
  have k__law_ridge := Lw.k__law_ridge (P := (PySem.Challenge.rw_timesfloor_k32_stretches_and_goals_of_wa).prog) (w := w) (base := base) (tx X G c.d) (df__law_ridge X G c.d)
  have k__law_climb := Lw.k__law_climb (P := (PySem.Challenge.rw_timesfloor_k32_stretches_and_goals_of_wa).prog) (w := w) (base := base) (tx X G c.d) (df__law_climb X G c.d)
  have k__law_pick := Lw.k__law_pick (P := (PySem.Challenge.rw_timesfloor_k32_stretches_and_goals_of_wa).prog) (w := w) (base := base) (tx X G c.d) (df__law_pick X G c.d) k__law_climb
  have k__law_lowest := Lw.k__law_lowest (P := (PySem.Challenge.rw_timesfloor_k32_stretches_and_goals_of_wa).prog) (w := w) (base := base) (tx X G c.d) (df__law_lowest X G c.d)
  have k__law_halves := Lw.k__law_halves (P := (PySem.Challenge.rw_timesfloor_k32_stretches_and_goals_of_wa).prog) (w := w) (base := base) (tx X G c.d) (df__law_halves X G c.d)
  have k__law_plus := Lw.k__law_plus (P := (PySem.Challenge.rw_timesfloor_k32_stretches_and_goals_of_wa).prog) (w := w) (base := base) (tx X G c.d) (df__law_plus X G c.d) k__law_lowest k__law_halves
  have k__law_times := Lw.k__law_times (P := (PySem.Challenge.rw_timesfloor_k32_stretches_and_goals_of_wa).prog) (w := w) (base := base) (tx X G c.d) (df__law_times X G c.d) k__law_lowest k__law_halves
  have k__law_less := Lw.k__law_less (P := (PySem.Challenge.rw_timesfloor_k32_stretches_and_goals_of_wa).prog) (w := w) (base := base) (tx X G c.d) (df__law_less X G c.d) k__law_plus k__law_times
  have k__law_part := Lw.k__law_part (P := (PySem.Challenge.rw_timesfloor_k32_stretches_and_goals_of_wa).prog) (w := w) (base := base) (tx X G c.d) (df__law_part X G c.d) k__law_climb k__law_lowest
  have k__law_triples := Lw.k__law_triples (P := (PySem.Challenge.rw_timesfloor_k32_stretches_and_goals_of_wa).prog) (w := w) (base := base) (tx X G c.d) (df__law_triples X G c.d) k__law_climb k__law_pick k__law_lowest k__law_plus k__law_times k__law_less k__law_part
  have k__law_over := Lw.k__law_over (P := (PySem.Challenge.rw_timesfloor_k32_stretches_and_goals_of_wa).prog) (w := w) (base := base) (tx X G c.d) (df__law_over X G c.d) k__law_lowest k__law_halves
  have k__law_below := Lw.k__law_below (P := (PySem.Challenge.rw_timesfloor_k32_stretches_and_goals_of_wa).prog) (w := w) (base := base) (tx X G c.d) (df__law_below X G c.d) k__law_halves
  have k__law_stretch := Lw.k__law_stretch (P := (PySem.Challenge.rw_timesfloor_k32_stretches_and_goals_of_wa).prog) (w := w) (base := base) (tx X G c.d) (df__law_stretch X G c.d) k__law_plus k__law_times k__law_over k__law_below k__law_less
  have k__law_goal := Lw.k__law_goal (P := (PySem.Challenge.rw_timesfloor_k32_stretches_and_goals_of_wa).prog) (w := w) (base := base) (tx X G c.d) (df__law_goal X G c.d) k__law_plus k__law_times k__law_below
  have k__law_way := Lw.k__law_way (P := (PySem.Challenge.rw_timesfloor_k32_stretches_and_goals_of_wa).prog) (w := w) (base := base) (tx X G c.d) (df__law_way X G c.d) k__law_climb k__law_pick k__law_stretch
  have k_law := Lw.k_law (P := (PySem.Challenge.rw_timesfloor_k32_stretches_and_goals_of_wa).prog) (w := w) (base := base) (tx X G c.d) (df_law X G c.d) k_line_machine k_stretch_of k_goal_of k__law_ridge k__law_triples k__law_stretch k__law_goal k__law_way
  exact k_law
end
end Lw
open PySem PySem.W PySem.Calls PyProof.Rows
set_option maxHeartbeats 0 in
theorem PySem.Challenge.cw_timesfloor_k32_stretches_and_goals_of_wa_holds : PySem.Challenge.rw_timesfloor_k32_stretches_and_goals_of_wa.Holds := by
  w_on; o_law
  refine HandSHeadRun.head_any (r := OpenLaw.row PySem.Challenge.rw_timesfloor_k32_stretches_and_goals_of_wa) (q := view (OpenLaw.row PySem.Challenge.rw_timesfloor_k32_stretches_and_goals_of_wa).prog [80]) (H := Lw.hk) (ob := Lw.ob) (M := 12000) (loose := Lw.loose) (d := HandSHeadRun.topDef (OpenLaw.row PySem.Challenge.rw_timesfloor_k32_stretches_and_goals_of_wa).prog 80) (kwd := []) Lw.ob_eq
    (by kernel_rfl) (fun s => by kernel_rfl) Lw.run (by kernel_rfl) (by kernel_rfl) (by kernel_rfl) (by rfl) (by first | assumption | decide +kernel) (by decide +kernel) ⟨rfl, rfl, rfl, rfl, rfl, by decide +kernel⟩ ?hw ?hc
  case hw => w_witness2
  case hc =>
    refine DL.walk_lawT (l := PySem.Challenge.rw_timesfloor_k32_stretches_and_goals_of_wa) (n := 63) (k := 10) (x := "_law_script") rfl (by decide) (by kernel_rfl) ⟨rfl, by decide, by decide⟩ ?F
    intro w mg fa h Y G hmg0
    obtain ⟨K, KX, c⟩ := Y
    have hmg : mg ("law" : PySem.Str) = some (.ref fa) := by
      have e : (HandSHeadRun.topDef (OpenLaw.row PySem.Challenge.rw_timesfloor_k32_stretches_and_goals_of_wa).prog 80).name = ("law" : PySem.Str) := by kernel_rfl
      rw [← e]
      exact hmg0
    have tf := c.tabF KX rfl (He.ba (show Lw.ex K = true from c.x.more)).1
    obtain ⟨fd, sp, ct, q1, q2, q3, q4, q5, q6⟩ := DL.law_of (P := (PySem.Challenge.rw_timesfloor_k32_stretches_and_goals_of_wa).prog) (w := w) hmg (Lw.df_law KX G c.d) tf (fun _ _ _ _ _ _ us hl => match us, hl with | [_], _ => rfl) fun base tb => Lw.law_kn KX G c tb
    exact ⟨K, fd, sp, ct, KX, q1, q2, q3, q4, q5, q6⟩
end
