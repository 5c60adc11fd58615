import PyProof.Rows.All
import Wide.All
import OpenK.AllK
import Wide.FinOn
import PyProof.EqAt
import PyProof.ReprRoads
import HandS.ForMost
import HandS.Exc
import HandS.WordsExc
import HandS.IsInst
import HandS.Wide
import HandS.Defaults
import HandS.Zip
import HandS.Evl
import HandS.HeadHook1
import HandS.ExcInit
import HandS.HeadHook4
import HandS.Lambda
import HandS.TryOnly
import HandS.HeadHook2
import HandS.Head0
import HandS.Head1
import HandS.Head2
import HandS.HeadEnd
import KE.KStateDown
import HandS.Style
import PyProof.P3Eq
import HandS.Zip0
import PyProof.LongRange
import PyProof.EnumMake
import HandS.List
import KE.KExcSuper
import HandS.FStr
import HandS.HeadHook3
import HandS.ExcField
import HandS.ExcIs
import KE.KExcIs
import KE.KDflt
import HandS.Sort
import KE.GoesRaise
import HandS.OwnEq
import KE.KSuper
import HandS.Star
import HandS.ClsMeth
import HandS.TupAny
import HandS.Dict
import HandS.Text
import PySem.Challenge.RW_timesfloor_k63_whole_stands_as_points
set_option Elab.async false
set_option linter.all false
set_option maxRecDepth 100000
set_option maxHeartbeats 4000000
set_option exponentiation.threshold 9000
namespace DL
open PySem PySem.Spec PyProof.Rows L2 Evl
inductive D where
  | non | bl (b : Bool) | int (i : Int) | str (x : Str) | ty (n : String) | ref (a : Addr)
  | tup (xs : List D) | lst (xs : List D) | dct (ks : List Key) (xs : List D) | ins (C : Str) (ns : List Str) (xs : List D)
  /-- an exception that is held -/
  | exc (C : Str) (ns : List Str) (xs : List D)
  /-- a def of the top, as a value -/
  | fnc (x : Str)
def exh (a C d : Addr) : HO := .ext fun h => ∃ o vs, h.get? a = some o ∧ o.cls = .ref C ∧ o.dict = some d ∧ o.data = .fields vs
mutual
/-- v stands for d over the heap H of what never changes -/
inductive Rp (K : PySem.W.Frag) (H : Hp) : V → D → Prop
  | non : Rp K H .non .non
  | bl (b : Bool) : Rp K H (.bl b) (.bl b)
  | int (i : Int) : Rp K H (.int i) (.int i)
  | str (x : Str) : Rp K H (.str x) (.str x)
  | ty (n : String) : Rp K H (.ty n) (.ty n)
  | ref (a : Addr) : Rp K H (.ref a) (.ref a)
  | tup {a : Addr} {xs : List V} {ds : List D} : SqT K H a xs → RpL K H xs ds → Rp K H (.ref a) (.tup ds)
  | lst {a : Addr} {xs : List V} {ds : List D} : SqL K H a xs → RpL K H xs ds → Rp K H (.ref a) (.lst ds)
  | dct {a : Addr} {ks : List Key} {xs : List V} {ds : List D} : H a = some (.dK (ks.zip xs)) → ks.length = xs.length → RpL K H xs ds → Rp K H (.ref a) (.dct ks ds)
  | ins {a dx : Addr} {C : Str} {ns : List Str} {xs : List V} {ds : List D} : H a = some (.ins (He.ga K C) dx (ns.zip xs)) → ns.length = xs.length → RpL K H xs ds → Rp K H (.ref a) (.ins C ns ds)
  | exc {a d : Addr} {C : Str} {ns : List Str} {xs : List V} {ds : List D} : H a = some (exh a (He.ga K C) d) → H d = some (.xd (ns.zip xs)) → ns.length = xs.length → RpL K H xs ds → Rp K H (.ref a) (.exc C ns ds)
  | fnc (x : Str) : Rp K H (.ref (He.ga K x)) (.fnc x)
inductive RpL (K : PySem.W.Frag) (H : Hp) : List V → List D → Prop
  | nil : RpL K H [] []
  | cons {v : V} {vs : List V} {d : D} {ds : List D} : Rp K H v d → RpL K H vs ds → RpL K H (v :: vs) (d :: ds)
end
section
variable {K : PySem.W.Frag} {H H' : Hp}
mutual
theorem Rp.mono (e : Ex H H') : ∀ {v : V} {d : D}, Rp K H v d → Rp K H' v d
  | _, _, .non => .non
  | _, _, .bl b => .bl b
  | _, _, .int i => .int i
  | _, _, .str x => .str x
  | _, _, .ty n => .ty n
  | _, _, .ref a => .ref a
  | _, _, .tup s r => .tup (ex_t e s) (RpL.mono e r)
  | _, _, .lst s r => .lst (ex_l e s) (RpL.mono e r)
  | _, _, .dct s z r => .dct (e _ _ s) z (RpL.mono e r)
  | _, _, .ins s z r => .ins (e _ _ s) z (RpL.mono e r)
  | _, _, .exc s s2 z r => .exc (e _ _ s) (e _ _ s2) z (RpL.mono e r)
  | _, _, .fnc x => .fnc x
theorem RpL.mono (e : Ex H H') : ∀ {vs : List V} {ds : List D}, RpL K H vs ds → RpL K H' vs ds
  | _, _, .nil => .nil
  | _, _, .cons a b => .cons (Rp.mono e a) (RpL.mono e b)
end
theorem RpL.length : ∀ {vs : List V} {ds : List D}, RpL K H vs ds → vs.length = ds.length
  | _, _, .nil => rfl
  | _, _, .cons _ b => congrArg (· + 1) (RpL.length b)
theorem RpL.at : ∀ {vs : List V} {ds : List D} {i : Nat} {d : D}, RpL K H vs ds → ds[i]? = some d → ∃ v, vs[i]? = some v ∧ Rp K H v d
  | _, _, _, _, .nil, h => nomatch h
  | _, _, 0, _, .cons a _, h => ⟨_, rfl, by cases Option.some.inj h; exact a⟩
  | _, _, i + 1, _, .cons _ b, h => RpL.at (i := i) b h
theorem RpL.take : ∀ {vs : List V} {ds : List D} (n : Nat), RpL K H vs ds → RpL K H (vs.take n) (ds.take n)
  | _, _, 0, _ => .nil
  | _, _, _ + 1, .nil => .nil
  | _, _, n + 1, .cons a b => .cons a (RpL.take n b)
theorem RpL.drop : ∀ {vs : List V} {ds : List D} (n : Nat), RpL K H vs ds → RpL K H (vs.drop n) (ds.drop n)
  | _, _, 0, h => h
  | _, _, _ + 1, .nil => .nil
  | _, _, n + 1, .cons _ b => RpL.drop n b
end
inductive Mt where
  | lst (xs : List D) | ins (C : Str) (ns : List Str) (xs : List D) | gau (T : Nat)
  /-- a dict -/
  | dct (ks : List Key) (xs : List D)
  /-- a def's table of code objects, all of the name q -/
  | tab (q : Str)
class TabC where
  tf : List Str
def lamQ (n : Str) : Str := n ++ ".<locals>." ++ "<lambda>"
def tabT [TabC] (K : PySem.W.Frag) : List (Addr × Str) := (TabC.tf).map fun n => ((He.cT K (n, none)).2, lamQ n)
def TabD (Hd H : Hp) (P : Addr) (q : Str) : Prop := ∃ ps : Array Value, H P = some (.tbl ps) ∧ TriplesOk ps.toList ∧ ∀ (pos : Pos) (cv : Value), codeAmong pos ps.toList = some cv → ∃ c, cv = .ref c ∧ Hd c = some (LamX.CodeO c q)
variable [TabC]
abbrev Gm := Addr → Option Mt
def gup (G : Gm) (a : Addr) (m : Mt) : Gm := fun b => if b = a then some m else G b
theorem gup_same {G : Gm} {a : Addr} {m : Mt} : gup G a m a = some m := if_pos rfl
theorem gup_ne {G : Gm} {a b : Addr} {m : Mt} (h : b ≠ a) : gup G a m b = G b := if_neg h
theorem gup_gup {G : Gm} {a : Addr} {m n : Mt} : gup (gup G a m) a n = gup G a n := by
  funext b
  unfold gup
  split <;> rfl
def HoldM (K : PySem.W.Frag) (Hd H : Hp) (a : Addr) : Mt → Prop
  | .lst ds => ∃ xs, H a = some (.lst xs) ∧ RpL K Hd xs ds
  | .ins C ns ds => ∃ dx xs, H a = some (.ins (He.ga K C) dx (ns.zip xs)) ∧ ns.length = xs.length ∧ RpL K Hd xs ds
  | .dct ks ds => ∃ xs, H a = some (.dK (ks.zip xs)) ∧ ks.length = xs.length ∧ RpL K Hd xs ds
  | .tab q => TabD Hd H a q
  | .gau T => ∃ (l : Addr) (t : Nat) (r : Int) (cs : List Int), H a = some (.lst [.ref l, .int t, .int r]) ∧ Hd l = some (.lst (cs.map V.int)) ∧ cs.length ≤ 63 ∧ t ≤ T ∧ 0 ≤ r
structure Sim (K : PySem.W.Frag) (F : Gm) (Hd H : Hp) (G : Gm) : Prop where
  sub : Ex Hd H
  off : ∀ a m, G a = some m → Hd a = none
  hold : ∀ a m, G a = some m → HoldM K Hd H a m
  offF : ∀ a m, F a = some m → Hd a = none
  holdF : ∀ a m, F a = some m → HoldM K Hd H a m
  apart : ∀ a m, F a = some m → G a = none
  tabs : ∀ p ∈ tabT K, F p.1 = some (.tab p.2)
theorem HoldM.mono {K : PySem.W.Frag} {Hd Hd' H : Hp} {a : Addr} (e : Ex Hd Hd') : ∀ {m : Mt}, HoldM K Hd H a m → HoldM K Hd' H a m
  | .lst _, ⟨xs, h, r⟩ => ⟨xs, h, r.mono e⟩
  | .ins _ _ _, ⟨dx, xs, h, z, r⟩ => ⟨dx, xs, h, z, r.mono e⟩
  | .dct _ _, ⟨xs, h, z, r⟩ => ⟨xs, h, z, r.mono e⟩
  | .gau _, ⟨l, t, r, cs, h, hl, z⟩ => ⟨l, t, r, cs, h, e _ _ hl, z⟩
  | .tab _, ⟨ps, h, ht, hc⟩ => ⟨ps, h, ht, fun pos cv z => let ⟨c, e1, e2⟩ := hc pos cv z; ⟨c, e1, e _ _ e2⟩⟩
theorem HoldM.there {K : PySem.W.Frag} {Hd H : Hp} {a : Addr} : ∀ {m : Mt}, HoldM K Hd H a m → ∃ o, H a = some o
  | .lst _, ⟨_, h, _⟩ => ⟨_, h⟩
  | .ins _ _ _, ⟨_, _, h, _⟩ => ⟨_, h⟩
  | .dct _ _, ⟨_, h, _⟩ => ⟨_, h⟩
  | .gau _, ⟨_, _, _, _, h, _⟩ => ⟨_, h⟩
  | .tab _, ⟨_, h, _⟩ => ⟨_, h⟩
theorem HoldM.other {K : PySem.W.Frag} {Hd H : Hp} {a p : Addr} {o : HO} (hp : a ≠ p) : ∀ {m : Mt}, HoldM K Hd H a m → HoldM K Hd (upd H p o) a m
  | .lst _, ⟨xs, h, r⟩ => ⟨xs, by rw [upd_ne hp]; exact h, r⟩
  | .ins _ _ _, ⟨dx, xs, h, z⟩ => ⟨dx, xs, by rw [upd_ne hp]; exact h, z⟩
  | .dct _ _, ⟨xs, h, z⟩ => ⟨xs, by rw [upd_ne hp]; exact h, z⟩
  | .gau _, ⟨l, t, r, cs, h, z⟩ => ⟨l, t, r, cs, by rw [upd_ne hp]; exact h, z⟩
  | .tab _, ⟨ps, h, z⟩ => ⟨ps, by rw [upd_ne hp]; exact h, z⟩
section
variable {K : PySem.W.Frag} {F : Gm} {Hd H : Hp} {G : Gm}
theorem Sim.free (S : Sim K F Hd H G) {p : Addr} (h : H p = none) : Hd p = none := fresh_back S.sub h
theorem Sim.gfree (S : Sim K F Hd H G) {p : Addr} (h : H p = none) : G p = none := by
  cases e : G p with
  | none => rfl
  | some m =>
    obtain ⟨o, q⟩ := (S.hold p m e).there
    rw [h] at q
    cases q
theorem Sim.ffree (S : Sim K F Hd H G) {p : Addr} (h : H p = none) : F p = none := by
  cases e : F p with
  | none => rfl
  | some m =>
    obtain ⟨o, q⟩ := (S.holdF p m e).there
    rw [h] at q
    cases q
theorem ne_g {G : Gm} {a p : Addr} {m : Mt} (e : G a = some m) (h : G p = none) : a ≠ p := fun z => by
  rw [z, h] at e
  cases e
theorem Sim.new (S : Sim K F Hd H G) {p : Addr} {o : HO} (h : H p = none) : Sim K F (upd Hd p o) (upd H p o) G where
  sub := fun a u e => by
    by_cases q : a = p
    · subst q
      rw [upd_same] at e ⊢
      exact e
    · rw [upd_ne q] at e ⊢
      exact S.sub a u e
  off := fun a m e => by
    rw [upd_ne (ne_g e (S.gfree h))]
    exact S.off a m e
  hold := fun a m e => ((S.hold a m e).mono (Ex.new (S.free h))).other (ne_g e (S.gfree h))
  offF := fun a m e => by
    rw [upd_ne (ne_g e (S.ffree h))]
    exact S.offF a m e
  holdF := fun a m e => ((S.holdF a m e).mono (Ex.new (S.free h))).other (ne_g e (S.ffree h))
  apart := S.apart
  tabs := S.tabs
theorem Sim.setG (S : Sim K F Hd H G) {p : Addr} {o : HO} {n : Mt} (hs : Ex Hd (upd H p o)) (hd : Hd p = none) (hf : F p = none) (hm : HoldM K Hd (upd H p o) p n) : Sim K F Hd (upd H p o) (gup G p n) where
  sub := hs
  off := fun a k e => by
    by_cases q : a = p
    · rw [q]
      exact hd
    · rw [gup_ne q] at e
      exact S.off a k e
  hold := fun a k e => by
    by_cases q : a = p
    · subst q
      rw [gup_same] at e
      cases e
      exact hm
    · rw [gup_ne q] at e
      exact (S.hold a k e).other q
  offF := S.offF
  holdF := fun a m e => (S.holdF a m e).other (ne_g e hf)
  apart := fun a m e => by
    rw [gup_ne (ne_g e hf)]
    exact S.apart a m e
  tabs := S.tabs
theorem Sim.cell (S : Sim K F Hd H G) {p : Addr} {o : HO} {m : Mt} (h : H p = none) (hm : HoldM K Hd (upd H p o) p m) : Sim K F Hd (upd H p o) (gup G p m) :=
  S.setG (S.sub.trans (Ex.new h)) (S.free h) (S.ffree h) hm
theorem Sim.gf (S : Sim K F Hd H G) {p : Addr} {m : Mt} (h : G p = some m) : F p = none := by
  cases e : F p with
  | none => rfl
  | some k =>
    rw [S.apart p k e] at h
    cases h
end
abbrev En := List (Option D)
def RpE (K : PySem.W.Frag) (H : Hp) (σ : L2.St) (ρ : En) : Prop := σ.length = ρ.length ∧ ∀ (i : Nat) (d : D), ρ[i]? = some (some d) → ∃ v, σ[i]? = some (some v) ∧ Rp K H v d
section
variable {K : PySem.W.Frag} {H H' : Hp} {σ : L2.St} {ρ : En}
theorem RpE.mono (e : Ex H H') (r : RpE K H σ ρ) : RpE K H' σ ρ := ⟨r.1, fun i d h => let ⟨v, a, b⟩ := r.2 i d h; ⟨v, a, b.mono e⟩⟩
end
abbrev KD := D → Gm → Prop
abbrev DE := En → Gm → KD → Prop
abbrev DT := En → Gm → (Bool → Gm → Prop) → Prop
abbrev DA := En → Gm → (List D → Gm → Prop) → Prop
structure DEnds where
  nx : En → Gm → Prop
  rt : KD
  bk : En → Gm → Prop := fun _ _ => False
  ct : En → Gm → Prop := fun _ _ => False
abbrev DS := DEnds → En → Gm → Prop
def KE (K : PySem.W.Frag) (F : Gm) (Hd : Hp) (R : KD) (Q : VK) : Prop := ∀ v H' Hd' x G', Ex Hd Hd' → Sim K F Hd' H' G' → Rp K Hd' v x → R x G' → Q v H'
def KT (K : PySem.W.Frag) (F : Gm) (Hd : Hp) (R : Bool → Gm → Prop) (Q : Bool → Hp → Prop) : Prop := ∀ b H' Hd' G', Ex Hd Hd' → Sim K F Hd' H' G' → R b G' → Q b H'
def KA (K : PySem.W.Frag) (F : Gm) (Hd : Hp) (R : List D → Gm → Prop) (Q : List V → Hp → Prop) : Prop := ∀ vs H' Hd' xs G', Ex Hd Hd' → Sim K F Hd' H' G' → RpL K Hd' vs xs → R xs G' → Q vs H'
def KN (K : PySem.W.Frag) (F : Gm) (Hd : Hp) (R : En → Gm → Prop) (Q : L2.St → Hp → Prop) : Prop := ∀ σ' H' Hd' ρ' G', Ex Hd Hd' → RpE K Hd' σ' ρ' → Sim K F Hd' H' G' → R ρ' G' → Q σ' H'
structure KS (K : PySem.W.Frag) (F : Gm) (Hd : Hp) (E : DEnds) (D : Ends) : Prop where
  nx : KN K F Hd E.nx D.nx
  rt : KE K F Hd E.rt D.rt
  bk : KN K F Hd E.bk D.bk
  ct : KN K F Hd E.ct D.ct
structure Bs where
  b : Hp
  f : Gm
structure At (K : PySem.W.Frag) (B : Bs) (σ : L2.St) (H : Hp) (ρ : En) (Hd : Hp) (G : Gm) : Prop where
  b : Ex B.b Hd
  e : RpE K Hd σ ρ
  s : Sim K B.f Hd H G
theorem At.step {K : PySem.W.Frag} {B : Bs} {σ : L2.St} {H H' : Hp} {ρ : En} {Hd Hd' : Hp} {G G' : Gm} (a : At K B σ H ρ Hd G) (e : Ex Hd Hd') (s : Sim K B.f Hd' H' G') : At K B σ H' ρ Hd' G' :=
  ⟨a.b.trans e, a.e.mono e, s⟩
section
variable {K : PySem.W.Frag} {F : Gm} {Hd Hd' : Hp}
theorem KE.mono {R : KD} {Q : VK} (k : KE K F Hd R Q) (e : Ex Hd Hd') : KE K F Hd' R Q := fun v H' Hd2 x G' e2 => k v H' Hd2 x G' (e.trans e2)
theorem KT.mono {R : Bool → Gm → Prop} {Q : Bool → Hp → Prop} (k : KT K F Hd R Q) (e : Ex Hd Hd') : KT K F Hd' R Q := fun b H' Hd2 G' e2 => k b H' Hd2 G' (e.trans e2)
theorem KA.mono {R : List D → Gm → Prop} {Q : List V → Hp → Prop} (k : KA K F Hd R Q) (e : Ex Hd Hd') : KA K F Hd' R Q := fun v H' Hd2 x G' e2 => k v H' Hd2 x G' (e.trans e2)
theorem KN.mono {R : En → Gm → Prop} {Q : L2.St → Hp → Prop} (k : KN K F Hd R Q) (e : Ex Hd Hd') : KN K F Hd' R Q := fun v H' Hd2 x G' e2 => k v H' Hd2 x G' (e.trans e2)
theorem KS.mono {E : DEnds} {D : Ends} (k : KS K F Hd E D) (e : Ex Hd Hd') : KS K F Hd' E D := ⟨k.nx.mono e, k.rt.mono e, k.bk.mono e, k.ct.mono e⟩
end
section
variable {X : Cx}
end
end DL
namespace DL
open PySem PySem.Spec PyProof.Rows L2 Evl
variable [TabC]
section
variable {X : Cx} {B : Bs} {pos : Pos} {a b c : Expr} {da db dc : DE} {ta tb : DT}
def dC (d : D) : DE := fun _ G R => R d G
def dNil : DA := fun _ G R => R [] G
def dCons (da : DE) (dr : DA) : DA := fun ρ G R => da ρ G fun x G1 => dr ρ G1 fun xs G2 => R (x :: xs) G2
def dTup (dA : DA) : DE := fun ρ G R => dA ρ G fun xs G1 => xs.length ≤ sizeLine ∧ R (.tup xs) G1
def dLst (dA : DA) : DE := fun ρ G R => dA ρ G fun xs G1 => xs.length ≤ sizeLine ∧ R (.lst xs) G1
theorem sq_new {K : PySem.W.Frag} {H : Hp} {p : Addr} {xs : List V} : SqL K (upd H p (.lst xs)) p xs := sq_of upd_same
def dOp (f : D → D → D → Prop) (da db : DE) : DE := fun ρ G R => da ρ G fun x G1 => db ρ G1 fun y G2 => ∃ z, f x y z ∧ R z G2
def fInt (g : Int → Int → D) (x y z : D) : Prop := ∃ i j, x = .int i ∧ y = .int j ∧ z = g i j
end
end DL
namespace DL
open PySem PySem.Spec PyProof.Rows L2 Evl
variable [TabC]
mutual
/-- a datum as the library has it -/
def D.py : D → Option PyData
  | .non => some .none
  | .bl b => some (.bool b)
  | .int i => some (.int i)
  | .str x => some (.str x)
  | .tup xs => (D.pyL xs).map .tuple
  | .lst xs => (D.pyL xs).map .list
  | .ty _ => none
  | .ref _ => none
  | .dct _ _ => none
  | .ins _ _ _ => none
  | .exc _ _ _ => none
  | .fnc _ => none
def D.pyL : List D → Option (List PyData)
  | [] => some []
  | x :: xs => match D.py x, D.pyL xs with
    | some p, some ps => some (p :: ps)
    | _, _ => none
end
mutual
/-- leaves of no great size -/
def D.fit : D → Bool
  | .non => true
  | .bl _ => true
  | .int i => decide (i.natAbs < 10 ^ 560)
  | .str x => PyData.strOk x
  | .tup xs => D.fitL xs
  | .lst xs => D.fitL xs
  | .ty _ => false
  | .ref _ => false
  | .dct _ _ => false
  | .ins _ _ _ => false
  | .exc _ _ _ => false
  | .fnc _ => false
def D.fitL : List D → Bool
  | [] => true
  | x :: xs => D.fit x && D.fitL xs
end
mutual
/-- how much of it there is -/
def D.sz : D → Nat
  | .str x => x.length + 1
  | .tup xs => D.szL xs + 1
  | .lst xs => D.szL xs + 1
  | _ => 1
def D.szL : List D → Nat
  | [] => 0
  | x :: xs => D.sz x + D.szL xs
end
mutual
def D.dp : D → Nat
  | .tup xs => D.dpL xs + 1
  | .lst xs => D.dpL xs + 1
  | _ => 0
def D.dpL : List D → Nat
  | [] => 0
  | x :: xs => max (D.dp x) (D.dpL xs)
end
theorem log_small {n : Nat} (h : n < 10 ^ 560) : n.log2 < 1920 := by
  by_cases z : n = 0
  · subst z
    decide
  · rw [Nat.log2_lt z]
    exact Nat.lt_trans h (by decide +kernel)
theorem str_short {x : Str} (h : PyData.strOk x = true) : x.cps.toList.all (fun c => decide (c < 16 ^ 8)) = true := by
  rw [List.all_eq_true]
  intro c hc
  have h2 : (x.cps.all (· < 0x110000)) = true := h
  rw [← Array.all_toList, List.all_eq_true] at h2
  have h3 := of_decide_eq_true (h2 c hc)
  exact decide_eq_true (Nat.lt_trans h3 (by decide))
mutual
theorem py_fit : ∀ d : D, d.fit = true → ∃ p, d.py = some p ∧ p.showable = true ∧ p.canLay0 = true ∧ p.leavesShort 600 = true ∧ p.bulk + 1 ≤ d.sz ∧ p.depth = d.dp
  | .non, _ => ⟨_, rfl, rfl, rfl, rfl, Nat.le_refl _, rfl⟩
  | .bl b, _ => ⟨_, rfl, rfl, rfl, rfl, Nat.le_refl _, rfl⟩
  | .int i, h => by
    have h2 : i.natAbs < 10 ^ 560 := of_decide_eq_true h
    refine ⟨_, rfl, decide_eq_true (log_small h2), rfl, ?_, Nat.le_refl _, rfl⟩
    refine decide_eq_true ?_
    show (Str.ofString (toString i)).length ≤ 600
    rw [PySem.ofString_length]
    exact Nat.le_trans (int_text_length_le10 (by decide) h2) (by decide)
  | .str x, h => by
    have h2 : PyData.strOk x = true := h
    refine ⟨_, rfl, rfl, h2, str_short h2, Nat.le_refl _, rfl⟩
  | .tup xs, h => by
    obtain ⟨ps, e, h1, h2, h3, h4, h5⟩ := py_fitL xs h
    refine ⟨.tuple ps, by simp only [D.py, e, Option.map_some], h1, h2, h3, ?_, ?_⟩
    · simp only [PyData.bulk, D.sz]
      omega
    · simp only [PyData.depth, D.dp]
      omega
  | .lst xs, h => by
    obtain ⟨ps, e, h1, h2, h3, h4, h5⟩ := py_fitL xs h
    refine ⟨.list ps, by simp only [D.py, e, Option.map_some], h1, h2, h3, ?_, ?_⟩
    · simp only [PyData.bulk, D.sz]
      omega
    · simp only [PyData.depth, D.dp]
      omega
  | .ty _, h => by cases h
  | .ref _, h => by cases h
  | .dct _ _, h => by cases h
  | .ins _ _ _, h => by cases h
  | .exc _ _ _, h => by cases h
  | .fnc _, h => by cases h
theorem py_fitL : ∀ xs : List D, D.fitL xs = true → ∃ ps, D.pyL xs = some ps ∧ PyData.showableAll ps = true ∧ PyData.canLayAll0 ps = true ∧ PyData.leavesShortAll 600 ps = true ∧ PyData.bulkAll ps ≤ D.szL xs ∧ PyData.depthAll ps = D.dpL xs
  | [], _ => ⟨[], rfl, rfl, rfl, rfl, Nat.le_refl _, rfl⟩
  | x :: xs, h => by
    have h2 : (D.fit x && D.fitL xs) = true := h
    rw [Bool.and_eq_true] at h2
    obtain ⟨p, e, a1, a2, a3, a4, a5⟩ := py_fit x h2.1
    obtain ⟨ps, es, b1, b2, b3, b4, b5⟩ := py_fitL xs h2.2
    refine ⟨p :: ps, by simp only [D.pyL, e, es], ?_, ?_, ?_, ?_, ?_⟩
    · simp only [PyData.showableAll, a1, b1, Bool.and_self]
    · simp only [PyData.canLayAll0, a2, b2, Bool.and_self]
    · simp only [PyData.leavesShortAll, a3, b3, Bool.and_self]
    · simp only [PyData.bulkAll, D.szL]
      omega
    · simp only [PyData.depthAll, D.dpL]
      omega
end
mutual
theorem rp_dp {K : PySem.W.Frag} {H H' : Hp} (e : Ex H H') : ∀ (d : D) {v : V} {p : PyData}, Rp K H v d → d.py = some p → Dp K H' v p
  | .non, _, _, r, h => by cases r; cases h; exact .non
  | .bl b, _, _, r, h => by cases r; cases h; exact .bl b
  | .int i, _, _, r, h => by cases r; cases h; exact .int i
  | .str x, _, _, r, h => by cases r; cases h; exact .str x
  | .tup xs, _, p, r, h => by
    cases r with
    | tup s r =>
      cases q : D.pyL xs with
      | none =>
        simp only [D.py, q, Option.map_none] at h
        cases h
      | some ps =>
        simp only [D.py, q, Option.map_some, Option.some.injEq] at h
        subst h
        exact .tup (ex_t e s) (rp_dpL e xs r q)
  | .lst xs, _, p, r, h => by
    cases r with
    | lst s r =>
      cases q : D.pyL xs with
      | none =>
        simp only [D.py, q, Option.map_none] at h
        cases h
      | some ps =>
        simp only [D.py, q, Option.map_some, Option.some.injEq] at h
        subst h
        exact .lst (ex_l e s) (rp_dpL e xs r q)
  | .ty _, _, _, _, h => by cases h
  | .ref _, _, _, _, h => by cases h
  | .dct _ _, _, _, _, h => by cases h
  | .ins _ _ _, _, _, _, h => by cases h
  | .exc _ _ _, _, _, _, h => by cases h
  | .fnc _, _, _, _, h => by cases h
theorem rp_dpL {K : PySem.W.Frag} {H H' : Hp} (e : Ex H H') : ∀ (xs : List D) {vs : List V} {ps : List PyData}, RpL K H vs xs → D.pyL xs = some ps → DpAll K H' vs ps
  | [], _, _, r, h => by
    cases r
    cases h
    exact .nil
  | x :: xs, _, ps, r, h => by
    cases r with
    | cons a b =>
      cases q : D.py x with
      | none =>
        simp only [D.pyL, q] at h
        cases h
      | some p =>
        cases q2 : D.pyL xs with
        | none =>
          simp only [D.pyL, q, q2] at h
          cases h
        | some qs =>
          simp only [D.pyL, q, q2, Option.some.injEq] at h
          subst h
          exact .cons (rp_dp e x a q) (rp_dpL e xs b q2)
end
section
variable {X : Cx}
end
def D.shown (d : D) : Str := match d with
  | .dct [] [] => "{}"
  | d => match D.py d with
    | some p => p.shown
    | none => ""
structure Shw (x : D) : Prop where
  fit : x.fit = true
  dp : x.dp ≤ 60
  sz : x.sz ≤ 27000
theorem Shw.py {x : D} (h : Shw x) : ∃ p, x.py = some p ∧ p.showable = true ∧ p.shown.length ≤ sizeLine ∧ p.depth ≤ 60 ∧ p.hasDict = false ∧ x.shown = p.shown := by
  obtain ⟨p, e, h1, h2, h3, h4, h5⟩ := py_fit x h.fit
  refine ⟨p, e, h1, ?_, by rw [h5]; exact h.dp, PyData.hasDict_of_canLay p h2, ?_⟩
  · have z := PyData.shown_le_bulk 600 (by decide) p h3
    have z2 := h.sz
    rw [sizeLine_eq]
    omega
  · cases x with
    | dct ks xs => cases e
    | _ => simp only [D.shown, e]
section
variable {X : Cx}
end
end DL
namespace DL
open PySem PySem.Spec PyProof.Rows L2 Evl
variable [TabC]
def LstAt (G : Gm) (x : D) (ds : List D) : Prop := x = .lst ds ∨ ∃ a, x = .ref a ∧ G a = some (.lst ds)
def SeqAt (G : Gm) (x : D) (ds : List D) : Prop := x = .tup ds ∨ LstAt G x ds
section
variable {K : PySem.W.Frag} {F : Gm} {Hd H : Hp} {G : Gm} {v : V} {x : D} {ds : List D}
theorem seq_tup : SeqAt G (.tup ds) ds := .inl rfl
theorem seq_lst : SeqAt G (.lst ds) ds := .inr (.inl rfl)
theorem lst_lst : LstAt G (.lst ds) ds := .inl rfl
end
section
variable {X : Cx} {B : Bs} {pos p : Pos} {a b c e : Expr} {es : List Expr} {da db dc : DE} {dA : DA} {ta tb : DT}
def dCal (f : Gm → List D → D → Prop) (dA : DA) : DE := fun ρ G R => dA ρ G fun xs G1 => ∃ z, f G1 xs z ∧ R z G1
def RepOk (x : D) : Prop := Shw x ∨ x = .dct [] []
def fRepr (_ : Gm) (xs : List D) (z : D) : Prop := ∃ x, xs = [x] ∧ RepOk x ∧ z = .str x.shown
def fLen (G : Gm) (xs : List D) (z : D) : Prop := ∃ x, xs = [x] ∧ ((∃ ds, SeqAt G x ds ∧ z = .int ds.length) ∨ ∃ y, x = .str y ∧ y.length ≤ sizeLine ∧ z = .int y.length)
def fAbs (_ : Gm) (xs : List D) (z : D) : Prop := ∃ i : Int, xs = [.int i] ∧ z = .int (if i < 0 then -i else i)
def fAll (G : Gm) (xs : List D) (z : D) : Prop := ∃ x, ∃ bs : List Bool, xs = [x] ∧ LstAt G x (bs.map D.bl) ∧ z = .bl (bs.all id)
def fIx (G : Gm) (x y z : D) : Prop := (∃ ds i, SeqAt G x ds ∧ y = .int i ∧ atI ds i = some z) ∨ ∃ (t : Str) (i : Int) (c : Nat), x = .str t ∧ y = .int i ∧ t.length ≤ sizeLine ∧ atI t.cps.toList i = some c ∧ z = .str ⟨#[c]⟩
def dIx (da db : DE) : DE := fun ρ G R => da ρ G fun x G1 => db ρ G1 fun y G2 => ∃ z, fIx G2 x y z ∧ R z G2
variable {rest : List Expr} {A2 B2 : Expr}
abbrev DO := En → Gm → (Option Int → Gm → Prop) → Prop
def dNoP : DO := fun _ G R => R none G
def dPart (de : DE) : DO := fun ρ G R => de ρ G fun x G1 => ∃ i, x = .int i ∧ R (some i) G1
def cutD (xs : List D) (lo hi : Option Int) : List D := (xs.drop (HT.sIx xs.length 0 lo)).take (HT.sIx xs.length xs.length hi - HT.sIx xs.length 0 lo)
def fSl (G : Gm) (x : D) (lo hi : Option Int) (z : D) : Prop := (∃ ds, LstAt G x ds ∧ z = .lst (cutD ds lo hi)) ∨ ∃ ds, x = .tup ds ∧ z = .tup (cutD ds lo hi) ∧ ¬ (HT.sIx ds.length 0 lo = 0 ∧ HT.sIx ds.length ds.length hi = ds.length)
def dSl (da : DE) (l h : DO) : DE := fun ρ G R => da ρ G fun x G1 => l ρ G1 fun lo G2 => h ρ G2 fun hi G3 => ∃ z, fSl G3 x lo hi z ∧ R z G3
end
end DL
namespace DL
open PySem PySem.Spec PyProof.Rows L2 Evl
variable [TabC]
section
variable {X : Cx} {B : Bs} {pos p : Pos} {a b c e : Expr} {es : List Expr} {da db dc de : DE} {dA : DA} {ta tb : DT} {st : Stmt} {sts : List Stmt} {s1 s2 : DS}
def dNext : DS := fun E ρ G => E.nx ρ G
def dBreak : DS := fun E ρ G => E.bk ρ G
def dCont : DS := fun E ρ G => E.ct ρ G
def dDrop (de : DE) : DS := fun E ρ G => de ρ G fun _ G1 => E.nx ρ G1
def OnlyAt (js : List Nat) (σ σ' : L2.St) : Prop := σ'.length = σ.length ∧ ∀ j, j ∉ js → σ'[j]? = σ[j]?
theorem OnlyAt.trans {js ks : List Nat} {σ σ1 σ2 : L2.St} (h : OnlyAt js σ σ1) (h' : OnlyAt ks σ1 σ2) : OnlyAt (js ++ ks) σ σ2 :=
  ⟨h'.1.trans h.1, fun j hj => (h'.2 j fun z => hj (List.mem_append_right _ z)).trans (h.2 j fun z => hj (List.mem_append_left _ z))⟩
def Walks (K : PySem.W.Frag) (Hd : Hp) (J : It) (xs : List D) : Prop := ∀ (F : Gm) (i : Nat) (H2 Hd2 : Hp) (G2 : Gm), Ex Hd Hd2 → Sim K F Hd2 H2 G2 →
  (∀ d, xs[i]? = some d → J.go i H2 ∧ ∀ v H3, J.yld i H2 v H3 → ∃ Hd3, Ex Hd2 Hd3 ∧ Sim K F Hd3 H3 G2 ∧ Rp K Hd3 v d) ∧ (xs.length ≤ i → J.stop i H2)
theorem Walks.mono {K : PySem.W.Frag} {Hd Hd' : Hp} {J : It} {xs : List D} (w : Walks K Hd J xs) (e : Ex Hd Hd') : Walks K Hd' J xs := fun F i H2 Hd2 G2 e2 => w F i H2 Hd2 G2 (e.trans e2)
end
end DL
namespace DL
open PySem PySem.Spec PyProof.Rows L2 Evl
variable [TabC]
section
variable {X : Cx}
end
section
variable {X : Cx} {B : Bs} {pos p : Pos} {a b c e : Expr} {es : List Expr} {da db dc de : DE} {dA : DA} {ta tb : DT}
def dYes : DT := fun _ G R => R true G
end
end DL
namespace DL
open PySem PySem.Spec PyProof.Rows L2 Evl
variable [TabC]
structure FnG (P : Program) (w : World) (K : PySem.W.Frag) (mg : Str → Option Value) (base : Heap) (k : Nat) (f : Addr) (fd : FuncData) (ps : List Str) (sp : Sp) : Prop where
  len : ∀ vs H Q E, sp vs H Q E → vs.length = ps.length
  run : ∀ (A : Around) (outer : List Env) (s : Shared) (H : Hp) (args : Args) (us : List Value) (vs : List V) (Q : VK) (E : XK), Room k A → A.guards = some [] → Env0 P w K mg base A outer s H → BindsTo s fd args (ps.zip us) → Vals vs us →
    sp vs H Q E → codeAny (model P w) A (.call (.ref f) args) (CR (L2.CX P w) outer P w H s Q E) s
section
variable {P : Program} {w : World} {K : PySem.W.Frag} {mg : Str → Option Value} {base : Heap}
theorem FnG.mono {j k : Nat} {f : Addr} {fd : FuncData} {ps : List Str} {sp : Sp} (F : FnG P w K mg base j f fd ps sp) (h : j ≤ k) : FnG P w K mg base k f fd ps sp :=
  ⟨F.len, fun A outer s H args us vs Q E r => F.run A outer s H args us vs Q E (r.mono h)⟩
end
abbrev XD := Str → List Str → List D → Gm → Prop
abbrev X0 : XD := fun _ _ _ _ => False
abbrev DSp := List D → Gm → KD → XD → Prop
def KX (K : PySem.W.Frag) (F : Gm) (Hd : Hp) (RX : XD) (E : XK) : Prop := ∀ (C : Str) (d : Addr) H' Hd' ns vs xs G', Ex Hd Hd' → Sim K F Hd' H' G' → H' d = some (.xd (List.zip ns vs)) → ns.length = vs.length → RpL K Hd' vs xs → RX C ns xs G' → E (.ref (He.ga K C)) (some d) H'
def spU (K : PySem.W.Frag) (p : DSp) : Sp := fun vs H Q E => ∃ xs F Hd G R RX, RpL K Hd vs xs ∧ Sim K F Hd H G ∧ p xs G R RX ∧ KE K F Hd R Q ∧ KX K F Hd RX E
theorem KX.none {K : PySem.W.Frag} {F : Gm} {Hd : Hp} {E : XK} : KX K F Hd X0 E := fun _ _ _ _ _ _ _ _ _ _ _ _ _ h => h.elim
theorem KX.mono {K : PySem.W.Frag} {F : Gm} {Hd Hd' : Hp} {RX : XD} {E : XK} (k : KX K F Hd RX E) (e : Ex Hd Hd') : KX K F Hd' RX E := fun C d H' Hd2 ns vs xs G' e2 => k C d H' Hd2 ns vs xs G' (e.trans e2)
structure Kn (P : Program) (w : World) (K : PySem.W.Frag) (mg : Str → Option Value) (base : Heap) (k : Nat) (x : Str) (st : Stmt) (ps : List Str) (p : DSp) : Prop where
  g : mg x = some (.ref (He.ga K x))
  fn : ∃ fd, FunD K x x (defArgs st) (defBody st) (defScope st) [] [] (He.ga K x) fd ∧ FnG P w K mg base k (He.ga K x) fd ps (spU K p)
section
variable {P : Program} {w : World} {K : PySem.W.Frag} {mg : Str → Option Value} {base : Heap}
theorem Kn.mono {j k : Nat} {x : Str} {st : Stmt} {ps : List Str} {p : DSp} (h : Kn P w K mg base j x st ps p) (l : j ≤ k) : Kn P w K mg base k x st ps p :=
  ⟨h.g, let ⟨fd, a, b⟩ := h.fn; ⟨fd, a, b.mono l⟩⟩
end
section
variable {X : Cx} {B : Bs} {pos p : Pos} {e : Expr} {es : List Expr} {dA : DA}
def dCall (q : DSp) (RX : XD) (dA : DA) : DE := fun ρ G R => dA ρ G fun xs G1 => q xs G1 R RX
end
end DL
namespace DL
open PySem PySem.Spec PyProof.Rows L2 Evl
variable [TabC]
section
variable {K : PySem.W.Frag} {a : Addr} {o : Obj} {xs : List V}
end
section
variable {K : PySem.W.Frag} {ts : List Addr} {a : Addr} {o : Obj} {xs : List V}
end
def G0 : Gm := fun _ => none
theorem g0 {a : Addr} {m : Mt} (h : G0 a = some m) : False := nomatch (show (none : Option Mt) = some m from h)
end DL
namespace DL
open PySem PySem.Spec PyProof.Rows L2 Evl
variable [TabC]
def pairD : List D → Option (Int × Int)
  | [.int a, .int b] => some (a, b)
  | _ => none
def ratD (p : Option (Int × Int)) : Bool := match p with
  | some (a, b) => decide (2 ≤ b) && decide (Int.gcd a b = 1)
  | none => false
def numD : D → Bool
  | .int _ => true
  | .tup xs => ratD (pairD xs)
  | .lst xs => ratD (pairD xs)
  | _ => false
def Gau (m : Mt) (T : Nat) : Prop := ∃ (cs : List Int) (t : Nat) (r : Int), m = .lst [.lst (cs.map D.int), .int t, .int r] ∧ cs.length ≤ 63 ∧ t ≤ T ∧ 0 ≤ r
theorem Gau.mono {m : Mt} {T T' : Nat} (h : Gau m T) (l : T ≤ T') : Gau m T' := by
  obtain ⟨cs, t, r, e, h1, h2, h3⟩ := h
  exact ⟨cs, t, r, e, h1, Nat.le_trans h2 l, h3⟩
def GauAt (G : Gm) (a : Addr) (T : Nat) : Prop := ∃ m, G a = some m ∧ Gau m T
end DL
namespace DL
open PySem PySem.Spec PyProof.Rows L2 Evl
variable [TabC]
def Ev (d : DE) (ρ : En) (G : Gm) (z : D) : Prop := ∀ R : KD, R z G → d ρ G R
def EvA (d : DA) (ρ : En) (G : Gm) (zs : List D) : Prop := ∀ R : List D → Gm → Prop, R zs G → d ρ G R
section
variable {ρ : En} {G : Gm} {da db : DE} {dA : DA} {x y z : D} {xs : List D} {ta tb : DT} {j k : Bool}
theorem Ev.c : Ev (dC z) ρ G z := fun R r => r
theorem Ev.op {f : D → D → D → Prop} (ha : Ev da ρ G x) (hb : Ev db ρ G y) (h : f x y z) : Ev (dOp f da db) ρ G z := fun R r => ha _ (hb _ ⟨z, h, r⟩)
theorem Ev.cal {f : Gm → List D → D → Prop} (ha : EvA dA ρ G xs) (h : f G xs z) : Ev (dCal f dA) ρ G z := fun R r => ha _ ⟨z, h, r⟩
theorem Ev.ix (ha : Ev da ρ G x) (hb : Ev db ρ G y) (h : fIx G x y z) : Ev (dIx da db) ρ G z := fun R r => ha _ (hb _ ⟨z, h, r⟩)
theorem Ev.lst (ha : EvA dA ρ G xs) (h : xs.length ≤ sizeLine) : Ev (dLst dA) ρ G (.lst xs) := fun R r => ha _ ⟨h, r⟩
theorem Ev.tup (ha : EvA dA ρ G xs) (h : xs.length ≤ sizeLine) : Ev (dTup dA) ρ G (.tup xs) := fun R r => ha _ ⟨h, r⟩
theorem EvA.nil : EvA dNil ρ G [] := fun R r => r
theorem EvA.cons (ha : Ev da ρ G x) (hb : EvA dA ρ G xs) : EvA (dCons da dA) ρ G (x :: xs) := fun R r => ha _ (hb _ r)
theorem EvA.one (ha : Ev da ρ G x) : EvA (dCons da dNil) ρ G [x] := .cons ha .nil
theorem Ev.int {i j : Int} {g : Int → Int → D} (ha : Ev da ρ G (.int i)) (hb : Ev db ρ G (.int j)) : Ev (dOp (fInt g) da db) ρ G (g i j) := .op ha hb ⟨i, j, rfl, rfl, rfl⟩
theorem Ev.sub {i j : Int} (ha : Ev da ρ G (.int i)) (hb : Ev db ρ G (.int j)) : Ev (dOp (fInt fun i j => .int (i - j)) da db) ρ G (.int (i - j)) := .int ha hb
theorem Ev.abs {i : Int} (ha : Ev da ρ G (.int i)) : Ev (dCal fAbs (dCons da dNil)) ρ G (.int (if i < 0 then -i else i)) := .cal (.one ha) ⟨i, rfl, rfl⟩
theorem Ev.len (ha : Ev da ρ G x) (h : SeqAt G x xs) : Ev (dCal fLen (dCons da dNil)) ρ G (.int xs.length) := .cal (.one ha) ⟨x, rfl, .inl ⟨xs, h, rfl⟩⟩
theorem Ev.at {i : Int} (ha : Ev da ρ G x) (hb : Ev db ρ G (.int i)) (h : SeqAt G x xs) (h' : atI xs i = some z) : Ev (dIx da db) ρ G z := .ix ha hb (.inl ⟨xs, i, h, rfl, h'⟩)
end
end DL
namespace DL
open PySem PySem.Spec PyProof.Rows L2 Evl
variable [TabC]
section
variable {ρ : En} {G : Gm} {da db dc : DE} {dA : DA} {x y z : D} {xs : List D} {ta tb : DT} {j k : Bool}
theorem Ev.call {q : DSp} (ha : EvA dA ρ G xs) (h : ∀ R, R z G → q xs G R X0) : Ev (dCall q X0 dA) ρ G z := fun R r => ha _ (h R r)
theorem Ev.repr (ha : Ev da ρ G x) (h : RepOk x) : Ev (dCal fRepr (dCons da dNil)) ρ G (.str x.shown) := .cal (.one ha) ⟨x, rfl, h, rfl⟩
end
theorem gup_self {G : Gm} {a : Addr} {m : Mt} (h : G a = some m) : gup G a m = G := by
  funext b
  unfold gup
  split
  · rename_i e
    rw [e, h]
  · rfl
def Drw (d : DE) (ρ : En) (a : Addr) (k : Nat) (P : D → Prop) : Prop := ∀ (G : Gm) (T : Nat) (R : KD), GauAt G a T → T + k ≤ 1000000000 → (∀ x m, P x → Gau m (T + k) → R x (gup G a m)) → d ρ G R
def DrwA (d : DA) (ρ : En) (a : Addr) (k : Nat) (P : List D → Prop) : Prop := ∀ (G : Gm) (T : Nat) (R : List D → Gm → Prop), GauAt G a T → T + k ≤ 1000000000 → (∀ x m, P x → Gau m (T + k) → R x (gup G a m)) → d ρ G R
section
variable {ρ : En} {a : Addr} {j k : Nat} {da db : DE} {dA : DA} {P P2 P3 : D → Prop} {PL : List D → Prop}
theorem Drw.mono (h : Drw da ρ a k P) (hp : ∀ x, P x → P2 x) : Drw da ρ a k P2 := fun G T R hg ht r => h G T R hg ht fun x m px hm => r x m (hp x px) hm
theorem DrwA.nil : DrwA dNil ρ a 0 (fun l => l = []) := fun G T R ⟨m, hg, hm⟩ _ r => by
  have := r [] m rfl hm
  rw [gup_self hg] at this
  exact this
theorem DrwA.cons (h : Drw da ρ a j P) (h' : DrwA dA ρ a k PL) : DrwA (dCons da dA) ρ a (j + k) (fun l => ∃ x xs, l = x :: xs ∧ P x ∧ PL xs) := fun G T R hg ht r => h G T _ hg (by omega) fun x m px hm =>
  h' _ (T + j) _ ⟨m, gup_same, hm⟩ (by omega) fun xs m' pxs hm' => by
    rw [gup_gup]
    exact r _ m' ⟨x, xs, rfl, px, pxs⟩ (by rw [← Nat.add_assoc]; exact hm')
theorem DrwA.more (h : Drw da ρ a j P) {n : Nat} (h' : DrwA dA ρ a k (fun l => l.length = n ∧ ∀ x ∈ l, P x)) : DrwA (dCons da dA) ρ a (j + k) (fun l => l.length = n + 1 ∧ ∀ x ∈ l, P x) := fun G T R hg ht r =>
  (DrwA.cons h h') G T R hg ht fun l m ⟨x, xs, e, px, pl, pxs⟩ hm => r l m (by
    subst e
    refine ⟨by rw [List.length_cons, pl], fun y hy => ?_⟩
    rcases List.mem_cons.mp hy with e | e
    · rw [e]
      exact px
    · exact pxs y e) hm
theorem DrwA.none : DrwA dNil ρ a 0 (fun l => l.length = 0 ∧ ∀ x ∈ l, P x) := fun G T R hg ht r => DrwA.nil G T R hg ht fun l m e hm => r l m (by rw [e]; exact ⟨rfl, fun x h => nomatch h⟩) hm
theorem Drw.lst (h : DrwA dA ρ a k PL) (hp : ∀ l, PL l → l.length ≤ sizeLine ∧ P (.lst l)) : Drw (dLst dA) ρ a k P := fun G T R hg ht r => h G T _ hg ht fun l m pl hm => ⟨(hp l pl).1, r _ m (hp l pl).2 hm⟩
theorem Drw.tup (h : DrwA dA ρ a k PL) (hp : ∀ l, PL l → l.length ≤ sizeLine ∧ P (.tup l)) : Drw (dTup dA) ρ a k P := fun G T R hg ht r => h G T _ hg ht fun l m pl hm => ⟨(hp l pl).1, r _ m (hp l pl).2 hm⟩
theorem Drw.op {f : D → D → D → Prop} (h : Drw da ρ a j P) (h' : Drw db ρ a k P2) (hp : ∀ x y, P x → P2 y → ∃ z, f x y z ∧ P3 z) : Drw (dOp f da db) ρ a (j + k) P3 := fun G T R hg ht r => h G T _ hg (by omega) fun x m px hm =>
  h' _ (T + j) _ ⟨m, gup_same, hm⟩ (by omega) fun y m' py hm' => by
    obtain ⟨z, hf, hz⟩ := hp x y px py
    refine ⟨z, hf, ?_⟩
    rw [gup_gup]
    exact r z m' hz (by rw [← Nat.add_assoc]; exact hm')
end
end DL
namespace DL
open PySem PySem.Spec PyProof.Rows L2 Evl
variable [TabC]
def halfD (x : D) : D × D := match x with
  | .tup [a, b] => (a, b)
  | .lst [a, b] => (a, b)
  | x => (x, .int 1)
def sp_halves : DSp := fun xs G R _ => ∃ x, xs = [x] ∧ numD x = true ∧ R (.tup [(halfD x).1, (halfD x).2]) G
def sp_common : DSp := fun xs G R _ => ∃ i j : Int, xs = [.int i, .int j] ∧ R (.int (Int.gcd i j)) G
section
variable {ρ : En} {G : Gm} {da db dc : DE} {x a b : D} {l m : Option Int}
theorem Ev.common {i j : Int} (h : Ev da ρ G (.int i)) (h1 : Ev db ρ G (.int j)) : Ev (dCall sp_common X0 (dCons da (dCons db dNil))) ρ G (.int (Int.gcd i j)) := .call (.cons h (.one h1)) fun R r => ⟨i, j, rfl, r⟩
theorem Ev.halves (h : Ev da ρ G x) (hk : numD x = true) : Ev (dCall sp_halves X0 (dCons da dNil)) ρ G (.tup [(halfD x).1, (halfD x).2]) := .call (.one h) fun R r => ⟨x, rfl, hk, r⟩
end
theorem seq_at {G : Gm} {x : D} {ds : List D} (hx : x = .tup ds ∨ x = .lst ds) : SeqAt G x ds := by
  rcases hx with rfl | rfl
  · exact seq_tup
  · exact seq_lst
end DL
namespace DL
open PySem PySem.Spec PyProof.Rows L2 Evl
variable [TabC]
end DL
namespace DL
open PySem PySem.Spec PyProof.Rows L2 Evl
variable [TabC]
section
variable {P : Program} {w : World} {K : PySem.W.Frag} {mg : Str → Option Value} {base : Heap}
end
section
variable {X : Cx} {B : Bs} {pos p : Pos} {a b c e : Expr} {es : List Expr} {da db dc de : DE} {dA : DA}
end
end DL
namespace DL
open PySem PySem.Spec PyProof.Rows L2 Evl
variable [TabC]
section
variable {ρ : En} {G : Gm} {da db dc : DE} {x y z : D}
theorem Ev.all {bs : List Bool} (ha : Ev da ρ G (.lst (bs.map D.bl))) : Ev (dCal fAll (dCons da dNil)) ρ G (.bl (bs.all id)) := .cal (.one ha) ⟨_, bs, rfl, lst_lst, rfl⟩
end
def numI (x : D) : Int × Int := match x with
  | .int i => (i, 1)
  | .tup xs => (pairD xs).getD (0, 1)
  | .lst xs => (pairD xs).getD (0, 1)
  | _ => (0, 1)
def Bn (k : Nat) (x : D) : Prop := (numI x).1.natAbs < 2 ^ k ∧ (numI x).2.natAbs < 2 ^ k
def lowD (a u : Int) : D := if u / (Int.gcd a u : Int) = 1 then .int (a / (Int.gcd a u : Int)) else .tup [.int (a / (Int.gcd a u : Int)), .int (u / (Int.gcd a u : Int))]
theorem gcd_facts {a u : Int} (hu : 0 < u) : ∃ g n d : Int, (Int.gcd a u : Int) = g ∧ 0 < g ∧ a = g * n ∧ u = g * d ∧ 0 < d ∧ a / g = n ∧ u / g = d ∧ Int.gcd n d = 1 ∧ g ≤ u := by
  have hg : 0 < Int.gcd a u := Int.gcd_pos_of_ne_zero_right a (by omega)
  have hg' : (0 : Int) < (Int.gcd a u : Int) := by omega
  obtain ⟨n, hn⟩ := Int.gcd_dvd_left a u
  obtain ⟨d, hd⟩ := Int.gcd_dvd_right a u
  have e1 : a / (Int.gcd a u : Int) = n := by
    conv => lhs; lhs; rw [hn]
    exact Int.mul_ediv_cancel_left n (by omega)
  have e2 : u / (Int.gcd a u : Int) = d := by
    conv => lhs; lhs; rw [hd]
    exact Int.mul_ediv_cancel_left d (by omega)
  have hd0 : 0 < d := by
    refine Int.pos_of_mul_pos_left ?_ hg'
    rw [Int.mul_comm, ← hd]
    exact hu
  refine ⟨_, n, d, rfl, hg', hn, hd, hd0, e1, e2, ?_, ?_⟩
  · have h := Int.gcd_ediv_gcd_ediv_gcd hg
    rw [e1, e2] at h
    exact h
  · have h1 : (Int.gcd a u : Int) * 1 ≤ (Int.gcd a u : Int) * d := Int.mul_le_mul_of_nonneg_left (by omega) (by omega)
    rw [← hd] at h1
    omega
end DL
namespace DL
open PySem PySem.Spec PyProof.Rows L2 Evl
variable [TabC]
structure Pt (x : D) (ds : List D) : Prop where
  sh : x = .tup ds ∨ x = .lst ds
  nm : ∀ d ∈ ds, numD d = true
theorem Pt.at {x : D} {ds : List D} (h : Pt x ds) {G : Gm} : SeqAt G x ds := seq_at h.sh
theorem Bn.mono {j k : Nat} {d : D} (h : Bn j d) (l : j ≤ k) : Bn k d := ⟨Nat.lt_of_lt_of_le h.1 (Nat.pow_le_pow_right (by decide) l), Nat.lt_of_lt_of_le h.2 (Nat.pow_le_pow_right (by decide) l)⟩
theorem nat_mul_lt {x y j k : Nat} (h : x < 2 ^ j) (h' : y < 2 ^ k) : x * y < 2 ^ (j + k) := by
  rw [Nat.pow_add]
  exact Nat.mul_lt_mul'' h h'
section
variable {ρ : En} {G : Gm} {da db dc : DE} {ds : List D} {p q : Int}
end
section
variable {ρ : En} {G : Gm} {da db dc : DE} {ds : List D} {p first : Int} {n : Nat} {x : D}
end
section
variable {ρ : En} {G : Gm} {da db dc : DE} {ds : List D} {p first many : Int} {n : Nat} {x : D}
end
end DL
namespace DL
open PySem PySem.Spec PyProof.Rows L2 Evl
variable [TabC]
section
variable {ρ : En} {a : Addr} {j k : Nat} {da db : DE} {dA : DA} {P P2 P3 : D → Prop} {PL : List D → Prop}
theorem Drw.call {q : DSp} (h : DrwA dA ρ a k PL) (hq : ∀ l, PL l → ∃ z, P z ∧ ∀ (G : Gm) (R : KD), R z G → q l G R X0) : Drw (dCall q X0 dA) ρ a k P := fun G T R hg ht r => h G T _ hg ht fun l m pl hm => by
  obtain ⟨z, pz, hz⟩ := hq l pl
  exact hz _ _ (r z m pz hm)
end
end DL
namespace MZ
open PySem PySem.Spec PyProof.Rows L2
open PySem.Sem (wp)
def ItB (t : Bool) (h : Heap) (i p : Addr) (k : Nat) : Prop := if t = true then h.IsTupleIter i p k else h.IsListIter i p k
def SqB (t : Bool) (h : Heap) (p : Addr) (us : Array Value) : Prop := if t = true then h.IsTuple p us else h.IsList p us
theorem ItB.off {t : Bool} {h h2 : Heap} {i p c : Addr} {k : Nat} (x : ItB t h i p k) (e : Heap.ExtBut c h h2) (n : i ≠ c) : ItB t h2 i p k := by
  cases t with
  | true => exact Heap.IsTupleIter.extBut x e n
  | false => exact Heap.IsListIter.extBut x e n
theorem SqB.off {t : Bool} {h h2 : Heap} {p c : Addr} {us : Array Value} (x : SqB t h p us) (e : Heap.ExtBut c h h2) (n : p ≠ c) : SqB t h2 p us := by
  cases t with
  | true => exact Heap.IsTuple.extBut x e n
  | false => exact Heap.IsList.extBut x e n
theorem ItB.ob {t : Bool} {h : Heap} {i p : Addr} {k : Nat} (x : ItB t h i p k) : ∃ o, h.get? i = some o ∧ o.data = .fields #[.ref p, .int k 0] := by
  cases t with
  | true =>
    obtain ⟨o, e, _, d⟩ := (show h.IsTupleIter i p k from x)
    exact ⟨o, e, d⟩
  | false =>
    obtain ⟨o, e, _, d⟩ := (show h.IsListIter i p k from x)
    exact ⟨o, e, d⟩
section
variable {prog : Program} {w : World} {A : Around} {E : Value → Shared → Prop} {s : Shared}
end
section
variable {prog : Program} {w : World} {A : Around} {E : Value → Shared → Prop} {s : Shared}
end
section
variable {X : Cx} {pins : List (Addr × Obj)} {σ : L2.St} {H : Hp} {s : Shared}
end
end MZ
namespace DL
open PySem PySem.Spec PyProof.Rows L2 Evl
variable [TabC]
end DL
namespace DL
open PySem PySem.Spec PyProof.Rows L2 Evl
variable [TabC]
end DL
namespace DL
open PySem PySem.Spec PyProof.Rows L2 Evl
variable [TabC]
def AllR (P : D → D → Prop) : List D → List D → Prop
  | [], [] => True
  | x :: xs, y :: ys => P x y ∧ AllR P xs ys
  | _, _ => False
theorem AllR.len {P : D → D → Prop} : ∀ {xs ys : List D}, AllR P xs ys → xs.length = ys.length
  | [], [], _ => rfl
  | _ :: _, _ :: _, h => congrArg (· + 1) (AllR.len h.2)
  | [], _ :: _, h => h.elim
  | _ :: _, [], h => h.elim
theorem AllR.map {α : Type} {P : D → D → Prop} {f g : D → α} (hp : ∀ x y, P x y → f x = g y) : ∀ {xs ys : List D}, AllR P xs ys → xs.map f = ys.map g
  | [], [], _ => rfl
  | x :: xs, y :: ys, h => by
    rw [List.map_cons, List.map_cons, hp x y h.1, AllR.map hp h.2]
  | [], _ :: _, h => h.elim
  | _ :: _, [], h => h.elim
section
variable {ρ : En} {G : Gm} {a : Addr} {j k : Nat} {da db dc : DE} {P : D → Prop}
end
end DL
namespace DL
open PySem PySem.Spec PyProof.Rows L2 Evl
variable [TabC]
end DL
namespace MZ
open PySem PySem.Spec PyProof.Rows L2
open PySem.Sem (wp)
section
variable {prog : Program} {w : World} {A : Around} {E : Value → Shared → Prop} {s : Shared}
end
section
variable {prog : Program} {w : World} {A : Around} {E : Value → Shared → Prop} {s : Shared}
end
end MZ
namespace DL
open PySem PySem.Spec PyProof.Rows L2 Evl
variable [TabC]
end DL
namespace DL
open PySem PySem.Spec PyProof.Rows L2 Evl
variable [TabC]
end DL
namespace DL
open PySem PySem.Spec PyProof.Rows L2 Evl
variable [TabC]
end DL
namespace DL
open PySem PySem.Spec PyProof.Rows L2 Evl
variable [TabC]
end DL
namespace DL
open PySem PySem.Spec PyProof.Rows L2 Evl
variable [TabC]
section
variable {X : Cx} {B : Bs} {o e : Expr} {dobj de : DE} {pos p : Pos}
end
def gdel (G : Gm) (p : Addr) : Gm := fun b => if b = p then none else G b
theorem Sim.freeze {K : PySem.W.Frag} {F : Gm} {Hd H : Hp} {G : Gm} (S : Sim K F Hd H G) {p : Addr} {ds : List D} (h : G p = some (.lst ds)) : ∃ xs, Sim K F (upd Hd p (.lst xs)) H (gdel G p) ∧ RpL K Hd xs ds := by
  obtain ⟨xs, hx, r⟩ := S.hold p _ h
  have hd := S.off p _ h
  have hf := S.gf h
  have e : Ex Hd (upd Hd p (.lst xs)) := Ex.new hd
  have gd : ∀ {a : Addr} {m : Mt}, gdel G p a = some m → a ≠ p ∧ G a = some m := fun {a m} q => by
    unfold gdel at q
    split at q
    · cases q
    · rename_i z
      exact ⟨z, q⟩
  refine ⟨xs, ⟨fun a u q => ?_, fun a m q => ?_, fun a m q => (S.hold a m (gd q).2).mono e, fun a m q => ?_, fun a m q => (S.holdF a m q).mono e, fun a m q => ?_, S.tabs⟩, r⟩
  · by_cases z : a = p
    · subst z
      rw [upd_same] at q
      cases q
      exact hx
    · rw [upd_ne z] at q
      exact S.sub a u q
  · rw [upd_ne (gd q).1]
    exact S.off a m (gd q).2
  · rw [upd_ne (ne_g q hf)]
    exact S.offF a m q
  · unfold gdel
    split
    · rfl
    · exact S.apart a m q
end DL
namespace MZ
open PySem PySem.Spec PyProof.Rows L2
end MZ
namespace DL
open PySem PySem.Spec PyProof.Rows L2 Evl
variable [TabC]
end DL
namespace DL
open PySem PySem.Spec PyProof.Rows L2 Evl
variable [TabC]
section
variable {X : Cx} {B : Bs} {pos pp : Pos} {a : Expr} {da : DE} {j : Nat}
end
end DL
namespace DL
open PySem PySem.Spec PyProof.Rows L2 Evl
variable [TabC]
end DL
namespace DL
open PySem PySem.Spec PyProof.Rows L2 Evl
variable [TabC]
theorem fitL_all : ∀ {xs : List D}, (∀ x ∈ xs, x.fit = true) → D.fitL xs = true
  | [], _ => rfl
  | x :: xs, h => by
    show (x.fit && D.fitL xs) = true
    rw [h x List.mem_cons_self, fitL_all fun y hy => h y (List.mem_cons_of_mem _ hy)]
    rfl
theorem dpL_all {k : Nat} : ∀ {xs : List D}, (∀ x ∈ xs, x.dp ≤ k) → D.dpL xs ≤ k
  | [], _ => Nat.zero_le _
  | x :: xs, h => Nat.max_le.mpr ⟨h x List.mem_cons_self, dpL_all fun y hy => h y (List.mem_cons_of_mem _ hy)⟩
theorem szL_all {k : Nat} : ∀ {xs : List D}, (∀ x ∈ xs, x.sz ≤ k) → D.szL xs ≤ xs.length * k
  | [], _ => Nat.zero_le _
  | x :: xs, h => by
    show x.sz + D.szL xs ≤ (xs.length + 1) * k
    have h1 := h x List.mem_cons_self
    have h2 := szL_all fun y hy => h y (List.mem_cons_of_mem x hy)
    rw [Nat.add_mul, Nat.one_mul]
    omega
structure Sm (d s : Nat) (x : D) : Prop where
  fit : x.fit = true
  dp : x.dp ≤ d
  sz : x.sz ≤ s
theorem Sm.int {i : Int} (h : i.natAbs < 10 ^ 560) : Sm 0 1 (.int i) := ⟨decide_eq_true h, Nat.le_refl _, Nat.le_refl _⟩
theorem Sm.non : Sm 0 1 .non := ⟨rfl, Nat.le_refl _, Nat.le_refl _⟩
theorem Sm.bl {b : Bool} : Sm 0 1 (.bl b) := ⟨rfl, Nat.le_refl _, Nat.le_refl _⟩
theorem Sm.str {x : Str} {s : Nat} (h : PyData.strOk x = true) (hz : x.length + 1 ≤ s) : Sm 0 s (.str x) := ⟨h, Nat.le_refl _, hz⟩
theorem Sm.mono {d s d' s' : Nat} {x : D} (h : Sm d s x) (h1 : d ≤ d') (h2 : s ≤ s') : Sm d' s' x := ⟨h.fit, Nat.le_trans h.dp h1, Nat.le_trans h.sz h2⟩
theorem Sm.tup {d s : Nat} {xs : List D} (h : ∀ x ∈ xs, Sm d s x) : Sm (d + 1) (xs.length * s + 1) (.tup xs) := ⟨fitL_all fun x hx => (h x hx).fit, Nat.succ_le_succ (dpL_all fun x hx => (h x hx).dp), Nat.succ_le_succ (szL_all fun x hx => (h x hx).sz)⟩
theorem Sm.lst {d s : Nat} {xs : List D} (h : ∀ x ∈ xs, Sm d s x) : Sm (d + 1) (xs.length * s + 1) (.lst xs) := ⟨fitL_all fun x hx => (h x hx).fit, Nat.succ_le_succ (dpL_all fun x hx => (h x hx).dp), Nat.succ_le_succ (szL_all fun x hx => (h x hx).sz)⟩
section
variable {ρ : En} {G : Gm} {da db dc : DE} {dA : DA} {x y z : D} {xs : List D} {ta tb : DT} {j k : Bool}
end
end DL
namespace DL
open PySem PySem.Spec PyProof.Rows L2 Evl
variable [TabC]
class Bd (i : Int) (k : outParam Nat) : Prop where
  h : i.natAbs < 2 ^ k
class Ps (i : Int) : Prop where
  h : 0 < i
section
variable {i j : Int} {a b : Nat}
theorem two_le (k l : Nat) : 2 ^ k ≤ 2 ^ (max k l) ∧ 2 ^ l ≤ 2 ^ (max k l) := ⟨Nat.pow_le_pow_right (by decide) (Nat.le_max_left k l), Nat.pow_le_pow_right (by decide) (Nat.le_max_right k l)⟩
instance bd_lit {n : Nat} : Bd (no_index (@OfNat.ofNat Int n instOfNat)) (n.log2 + 1) := ⟨by
  show (Int.natAbs (n : Int)) < _
  rw [Int.natAbs_natCast]
  exact Nat.lt_log2_self⟩
instance bd_add [x : Bd i a] [y : Bd j b] : Bd (i + j) (max a b + 1) := ⟨by
  have h1 := x.h
  have h2 := y.h
  have h3 := two_le a b
  rw [Nat.pow_succ]
  omega⟩
instance bd_sub [x : Bd i a] [y : Bd j b] : Bd (i - j) (max a b + 1) := ⟨by
  have h1 := x.h
  have h2 := y.h
  have h3 := two_le a b
  rw [Nat.pow_succ]
  omega⟩
instance bd_neg [x : Bd i a] : Bd (-i) a := ⟨by rw [Int.natAbs_neg]; exact x.h⟩
instance bd_mul [x : Bd i a] [y : Bd j b] : Bd (i * j) (a + b) := ⟨by
  rw [Int.natAbs_mul]
  exact nat_mul_lt x.h y.h⟩
instance bd_div [x : Bd i a] : Bd (i / j) a := ⟨Nat.lt_of_le_of_lt (Int.natAbs_ediv_le_natAbs i j) x.h⟩
instance bd_pow {n : Nat} [x : Bd i a] : Bd (i ^ n) (a * n + 1) := ⟨by
  have h1 : (i ^ n).natAbs ≤ (2 ^ a) ^ n := by
    rw [Int.natAbs_pow]
    exact Nat.pow_le_pow_left (Nat.le_of_lt x.h) n
  rw [Nat.pow_succ, Nat.pow_mul]
  have h2 : 0 < (2 ^ a) ^ n := Nat.pow_pos (Nat.pow_pos (by decide))
  omega⟩
end
end DL
namespace Sup
open PySem PySem.Spec PySem.Calls PyProof.Rows L2 PySem.W
section
variable {CX : CXT} {P : Program} {w : World} {K : PySem.W.Frag} {mg : Str → Option Value} {base : Heap} {N ps : List Str} {qual : Str} {scope : Scope} {f cc : Addr} {cd : Value} {A : Around} {outer : List Env} {s : Shared} {H : Hp} {E : XK} {us : List Value} {vs : List V}
end
structure PSsS (X : Cx) (b sts : List Stmt) (t : TS) : Prop where
  run : ∀ (pins : List (Addr × Obj)) (s : Shared) (σ : L2.St) (H : Hp) (D : Ends), Inv X pins σ H s → t D σ H → PySem.wpAt (model X.prog X.w) X.A (.func b X.env) (execs sts X.env) (SP X pins D) X.xe s
theorem PSsS.of {X : Cx} {b sts : List Stmt} {t : TS} (h : PSs X sts t) : PSsS X b sts t := ⟨fun pins s σ H D I w => wpAt_of_wpAny (h.run pins s σ H D I w)⟩
section
variable {prog : Program} {w : World} {A : Around} {E : Value → Shared → Prop} {s : Shared}
end
section
variable {CX : CXT} {P : Program} {w : World} {K : PySem.W.Frag} {mg : Str → Option Value} {base : Heap} {N ps : List Str} {x qual : Str} {scope : Scope} {f cda cc C D : Addr} {A : Around} {outer : List Env} {s : Shared} {H : Hp} {E : XK} {params : Arguments} {body : List Stmt}
end
end Sup
namespace Sup
open PySem PySem.Spec PySem.Calls PyProof.Rows L2 PySem.W
section
variable {CX : CXT} {P : Program} {w : World} {K : PySem.W.Frag} {mg : Str → Option Value} {base : Heap} {N ps : List Str} {x qual : Str} {scope : Scope} {f cda cc C D : Addr} {A : Around} {outer : List Env} {s : Shared} {H : Hp} {E : XK} {params : Arguments} {body : List Stmt}
end
end Sup
namespace DL
open PySem PySem.Spec PyProof.Rows L2 Evl Sup
variable [TabC]
abbrev FnC : Type := Option (Str × Str × Arguments × FuncBody × Scope × Addr × Addr)
def fnC (K : PySem.W.Frag) (C : Str) : FnC := match K.lookup (He.ma K (He.ga K C) "__init__") with
  | some ⟨_, _, .func fd, _⟩ => some (fd.name, fd.qualname, fd.params, fd.body, fd.scope, fd.globals, fd.builtins)
  | _ => none
structure DefC where
  cls : Str
  qual : Str
  params : Arguments
  body : List Stmt
  scope : Scope
def DefC.val (d : DefC) : FnC := some ("__init__", d.qual, d.params, .stmts d.body, d.scope, mainGlobals, builtinsNs)
def optB {α : Type} (o : Option α) (f : α → Bool) : Bool := match o with
  | some a => f a
  | none => false
def fdOf (K : PySem.W.Frag) (f : Addr) : Option FuncData := match K.lookup f with
  | some ⟨_, _, .func fd, _⟩ => some fd
  | _ => none
def vsOf (K : PySem.W.Frag) (f : Addr) : Option (Array Value) := match K.lookup f with
  | some ⟨_, _, .fields vs, _⟩ => some vs
  | _ => none
def cellOf (K : PySem.W.Frag) (f : Addr) : Option Addr := match K.lookup f with
  | some ⟨_, _, .cell (some (.ref D)), _⟩ => some D
  | _ => none
def refOf : Value → Option Addr
  | .ref a => some a
  | _ => none
def txtOf : Option Value → Option Str
  | some (.str x _) => some x
  | _ => none
def noneV : Value → Bool
  | .none => true
  | _ => false
def onlyCl : List (Str × Addr) → Option Addr
  | [(x, c)] => if x = "__class__" then some c else none
  | _ => none
def oexB (K : PySem.W.Frag) (C : Addr) : Bool := (match K.lookup C with
  | some ⟨.type t, _, .cls cd, sl⟩ => (match cd.mro, sl.toList with
    | .ref C' :: bm, [_, _, _, _, some (.builtin n), _] => decide (t = "type") && (C' == C && (n == "ValueError.__new__" && (!cd.hasDel && (cd.hasDict && PySem.HandSPX.refsVE bm))))
    | _, _ => false)
  | _ => false) && (He.eqO (PySem.W.findIn K (.ref C) "__setattr__") (some (some (.builtin "object.__setattr__"))) && (decide (PySem.W.subIn K (.ref C) (.type "BaseException") = some true) && (decide (PySem.W.typeIn K (.ref C) = some (.type "type")) && PySem.W.keepIn K (.ref C))))
def xcB (file : Str) (K : PySem.W.Frag) (C : Str) (fs : List Str) : Bool :=
  oexB K (He.ga K C) && (He.eqO (PySem.W.nsIn K mainGlobals C) (some (some (.ref (He.ga K C)))) && (He.eqO (PySem.W.findIn K (.ref (He.ga K C)) "__init__") (some (some (.ref (He.ma K (He.ga K C) "__init__")))) && (decide (PySem.W.typeIn K (.ref (He.ma K (He.ga K C) "__init__")) = some (.type "function")) && (fs.all (fun f => He.eqO (PySem.W.findIn K (.ref (He.ga K C)) f) (some none)) &&
  (optB (fdOf K (He.ma K (He.ga K C) "__init__")) (fun fd => optB (refOf fd.code) (fun cda => optB (onlyCl fd.closure) fun cc => noneV fd.defaults && (PySem.W.codeIn K (.ref cda) fd.qualname && (optB (vsOf K cda) (fun vs => optB (txtOf vs[2]?) fun fl => (file : Str) == fl) && decide (cellOf K cc = some (He.ga K C)))))) &&
  ((PySem.W.clsIn K (He.ga K C)).isSome && (decide (PySem.W.mroIn K (He.ga K C) (.ref (He.ga K C)) = some true) && (He.eqO (PySem.W.nsIn K mainGlobals "super") (some none) && (He.eqO (PySem.W.nsIn K cStatics "thirdparty.any") (some none) && (He.eqO (PySem.W.ks_superIn K (He.ga K C) (He.ga K C) "__init__") (some (some (.builtin "ValueError.__init__"))) &&
  (decide (PySem.W.subIn K (.ref (He.ga K C)) (.type "ValueError") = some true) && (xfB K (He.ga K C) && (He.eqO (PySem.W.findIn K (.ref (He.ga K C)) "__class__") (some (some (.builtin "object.__class__"))) && (He.eqO (PySem.W.specialIn K (.builtin "object.__class__") "__get__") (some (some (.builtin "getset_descriptor.__get__"))) && (decide (PySem.W.takesIn K (.builtin "object.__class__") = some true) && decide (PySem.W.mroIn K (He.ga K C) (.type "object") = some true))))))))))))))))
end DL
namespace DL
open PySem PySem.Spec PyProof.Rows L2 Evl Sup
variable [TabC]
inductive JP where
  | k (x : Str) | v (i : Nat)
def JP.t : JP → TE
  | .k x => tC (.str x)
  | .v i => tFmt (tVar i)
section
variable {X : Cx} {B : Bs} {pos p pos2 : Pos} {e : Expr} {es : List Expr} {dA : DA}
end
end DL
namespace Held
open PySem PySem.Spec PyProof.Rows L2 DL
section
variable {X : Cx} {pins : List (Addr × Obj)} {σ : L2.St} {H : Hp} {s : Shared}
end
section
variable {X : Cx} {x n m : Str} {c : Value} {body : List Stmt} {px pn pm pa ph pos : Pos} {i j : Nat} {tb : WX → TS} {W0 : WX}
end
end Held
namespace DL
open PySem PySem.Spec PyProof.Rows L2 Evl Held
variable [TabC]
theorem Sim.fields {K : PySem.W.Frag} {F : Gm} {Hd H : Hp} {G : Gm} (S : Sim K F Hd H G) {d : Addr} {fs : List (Str × V)} (h : H d = some (.xd fs)) : Sim K F (upd Hd d (.xd fs)) H G ∧ Ex Hd (upd Hd d (.xd fs)) := by
  have no : ∀ {a : Addr} {m : Mt}, HoldM K Hd H a m → a ≠ d := fun {a m} hm z => by
    rw [z] at hm
    cases m with
    | lst ds =>
      obtain ⟨_, e, _⟩ := hm
      rw [h] at e
      cases e
    | ins C ns ds =>
      obtain ⟨_, _, e, _⟩ := hm
      rw [h] at e
      cases e
    | gau T =>
      obtain ⟨_, _, _, _, e, _⟩ := hm
      rw [h] at e
      cases e
    | tab q =>
      obtain ⟨_, e, _⟩ := hm
      rw [h] at e
      cases e
    | dct ks ds =>
      obtain ⟨_, e, _⟩ := hm
      rw [h] at e
      cases e
  have ex : Ex Hd (upd Hd d (.xd fs)) := fun a u e => by
    by_cases z : a = d
    · have e2 := S.sub a u e
      rw [z, h] at e2
      rw [z, upd_same]
      exact e2
    · rw [upd_ne z]
      exact e
  refine ⟨⟨fun a u e => ?_, fun a m e => ?_, fun a m e => (S.hold a m e).mono ex, fun a m e => ?_, fun a m e => (S.holdF a m e).mono ex, S.apart, S.tabs⟩, ex⟩
  · by_cases z : a = d
    · rw [z, upd_same] at e
      cases e
      rw [z]
      exact h
    · rw [upd_ne z] at e
      exact S.sub a u e
  · rw [upd_ne (no (S.hold a m e))]
    exact S.off a m e
  · rw [upd_ne (no (S.holdF a m e))]
    exact S.offF a m e
section
variable {X : Cx} {B : Bs} {x n m : Str} {c : Value} {e : Expr} {px pn pm pa pe ph pos : Pos} {i j : Nat} {dX : XD → DE} {cs : List Str}
end
def excB (K : PySem.W.Frag) (C : Addr) : Bool := xfB K C && (He.eqO (PySem.W.findIn K (.ref C) "__class__") (some (some (.builtin "object.__class__"))) && (He.eqO (PySem.W.specialIn K (.builtin "object.__class__") "__get__") (some (some (.builtin "getset_descriptor.__get__"))) && (decide (PySem.W.takesIn K (.builtin "object.__class__") = some true) && decide (PySem.W.mroIn K C (.type "object") = some true))))
def isB (K : PySem.W.Frag) (es : List Str) (sub : Str → Str → Bool) (fl : List Str) : Bool :=
  es.all fun C => He.eqO (PySem.W.nsIn K mainGlobals C) (some (some (.ref (He.ga K C)))) && (excB K (He.ga K C) && (fl.all (fun f => He.eqO (PySem.W.findIn K (.ref (He.ga K C)) f) (some none)) &&
    (["NoneType", "bool", "int", "str", "tuple", "list", "dict"].all (fun t => decide (PySem.W.kitOne K (.type t) (.ref (He.ga K C)) = some false)) && es.all fun D => decide (PySem.W.kitOne K (.ref (He.ga K C)) (.ref (He.ga K D)) = some (sub C D)) && decide (PySem.W.exmOne K (.ref (He.ga K C)) (.ref (He.ga K D)) = some (sub C D)))))
section
variable {X : Cx} {B : Bs} {pins : List (Addr × Obj)} {σ : L2.St} {H : Hp} {s : Shared} {p pos q : Pos} {e : Expr} {es : List Expr} {da : DE} {x : Str} {cl fl : List Str} {sub : Str → Str → Bool}
end
end DL
namespace Act
open PySem PySem.Spec PySem.Calls PyProof.Rows L2 LamX PySem.W
structure LamO (N : List Str) (sc scope : Scope) (bs : List Str) : Prop where
  kind : scope.kind = .function
  co : scope.isCoroutine = false
  gen : scope.isGenerator = false
  cell : ∀ y ∈ scope.names, y.2 ≠ .cell
  loc : ∀ y ∈ scope.names, y.2 = .local → y.1 ∉ N
  free : ∀ y ∈ scope.names, y.2 = .free → sc.names.lookup y.1 = some .cell ∨ sc.names.lookup y.1 = some .free
  bs : ∀ x ∈ bs, scope.names.lookup x = some .local
section
variable {X : Cx} {pins : List (Addr × Obj)} {σ : L2.St} {H HZ : Hp} {s s1 : Shared} {c P : Addr} {params : Arguments} {body : Expr} {scope : Scope} {pos : Pos} {bs : List Str} {f c' : Addr}
theorem LamO.has (L : LamO X.N X.env.scope scope bs) (ok : X.Ok) : ∀ y ∈ scope.names, y.2 = .free → ∃ u, X.env.cells.lookup y.1 = some u := fun y hy e => ok.has _ (L.free y hy e)
structure LamH (H H1 : Hp) (P : Addr) (q : Str) : Prop where
  keep : ∀ b o, b ≠ P → H b = some o → H1 b = some o
  tab : TabS H1 P q
end
end Act
namespace DL
open PySem PySem.Spec PyProof.Rows L2 Evl Act
variable [TabC]
def exts (Hd H : Hp) : Hp := fun a => match Hd a with
  | some o => some o
  | none => match H a with
    | some (.ext φ) => some (.ext φ)
    | _ => none
theorem ex_exts {Hd H : Hp} : Ex Hd (exts Hd H) := fun a o e => by
  unfold exts
  rw [e]
theorem exts_in {Hd H : Hp} {a : Addr} {φ : Heap → Prop} (hs : Ex Hd H) (h : H a = some (.ext φ)) : exts Hd H a = some (.ext φ) := by
  unfold exts
  cases e : Hd a with
  | some o =>
    have := hs a o e
    rw [h] at this
    exact this.symm
  | none =>
    dsimp only
    rw [h]
theorem exts_sub {Hd H : Hp} (hs : Ex Hd H) : Ex (exts Hd H) H := fun a o e => by
  unfold exts at e
  cases q : Hd a with
  | some u =>
    rw [q] at e
    cases e
    exact hs a _ q
  | none =>
    rw [q] at e
    dsimp only at e
    split at e
    · rename_i φ z
      cases e
      exact z
    · cases e
theorem exts_off {K : PySem.W.Frag} {Hd H : Hp} {a : Addr} {m : Mt} (h : Hd a = none) (hm : HoldM K Hd H a m) : exts Hd H a = none := by
  unfold exts
  rw [h]
  dsimp only
  cases m with
  | lst ds =>
    obtain ⟨_, e, _⟩ := hm
    rw [e]
  | ins C ns ds =>
    obtain ⟨_, _, e, _⟩ := hm
    rw [e]
  | gau T =>
    obtain ⟨_, _, _, _, e, _⟩ := hm
    rw [e]
  | tab q =>
    obtain ⟨_, e, _⟩ := hm
    rw [e]
  | dct ks ds =>
    obtain ⟨_, e, _⟩ := hm
    rw [e]
theorem HoldM.at {K : PySem.W.Frag} {Hd H H1 : Hp} {a : Addr} (e : ∀ o, H a = some o → H1 a = some o) : ∀ {m : Mt}, HoldM K Hd H a m → HoldM K Hd H1 a m
  | .lst _, ⟨xs, h, r⟩ => ⟨xs, e _ h, r⟩
  | .ins _ _ _, ⟨dx, xs, h, z⟩ => ⟨dx, xs, e _ h, z⟩
  | .dct _ _, ⟨xs, h, z⟩ => ⟨xs, e _ h, z⟩
  | .gau _, ⟨l, t, r, cs, h, z⟩ => ⟨l, t, r, cs, e _ h, z⟩
  | .tab _, ⟨ps, h, z⟩ => ⟨ps, e _ h, z⟩
theorem Sim.table {K : PySem.W.Frag} {F : Gm} {Hd H H1 : Hp} {G : Gm} {P : Addr} {q : Str} (S : Sim K F Hd H G) (hP : (P, q) ∈ tabT K) (lh : LamH H H1 P q) : Sim K F (exts Hd H1) H1 G := by
  have fP := S.tabs (P, q) hP
  have dP := S.offF P _ fP
  have gP := S.apart P _ fP
  have sub : Ex Hd H1 := fun a o e => lh.keep a o (fun z => by rw [z, dP] at e; cases e) (S.sub a o e)
  have hold : ∀ a m, G a = some m → HoldM K Hd H1 a m := fun a m e => (S.hold a m e).at fun o h => lh.keep a o (fun z => by rw [z, gP] at e; cases e) h
  refine ⟨exts_sub sub, fun a m e => exts_off (S.off a m e) (hold a m e), fun a m e => (hold a m e).mono ex_exts, fun a m e => ?_, fun a m e => ?_, S.apart, S.tabs⟩
  · by_cases z : a = P
    · obtain ⟨ps, h1, _⟩ := lh.tab
      unfold exts
      rw [z, dP]
      dsimp only
      rw [h1]
    · exact exts_off (S.offF a m e) ((S.holdF a m e).at fun o h => lh.keep a o z h)
  · by_cases z : a = P
    · rw [z, fP] at e
      cases e
      obtain ⟨ps, h1, h2, h3⟩ := lh.tab
      rw [z]
      refine ⟨ps, h1, h2, fun p v hv => ?_⟩
      obtain ⟨c, e1, e2⟩ := h3 p v hv
      exact ⟨c, e1, exts_in sub e2⟩
    · exact ((S.holdF a m e).at fun o h => lh.keep a o z h).mono ex_exts
section
variable {X : Cx} {B : Bs} {p lpos pos : Pos} {x a : Str} {st : Stmt} {N bs : List Str} {TT : ActD → Gm → KD → Prop} {params : Arguments} {body : Expr} {scope : Scope} {c P : Addr} {dE : XD → DE} {k kl n : Nat}
end
end DL
namespace DL
open PySem PySem.Spec PyProof.Rows L2 Evl Sup
variable [TabC]
def clsBody : Stmt → List Stmt
  | .ClassDef _ _ _ b _ _ _ _ _ _ _ => b
  | _ => []
def isInit : Stmt → Bool
  | .FunctionDef n _ _ _ _ _ _ _ _ _ => n == ("__init__" : Str)
  | _ => false
def initOf (st : Stmt) : Stmt := ((clsBody st).find? isInit).getD (.Pass ⟨0, 0, 0, 0⟩)
def defC (C : Str) (st : Stmt) : DefC := ⟨C, C ++ ".__init__", defArgs (initOf st), defBody (initOf st), defScope (initOf st)⟩
abbrev AlE : Type := (He.AlT × Bool) × List FnC
structure Ask where
  n : Nat
  fa : List He.Fa
  fn : List He.DefD
  tf : List Str
  ex : PySem.W.Frag → Bool
  cs : List DefC
  /-- the module's dicts of texts -/
  ts : List He.Tab := []
def Ask.tfn (q : Ask) : List He.Defn := q.tf.map fun x => (x, none)
def eyes (n : Nat) (g : Addr → Option Obj) : PySem.W.Frag := He.frT g (cStatics :: He.asD g n)
def obsE (q : Ask) (g : Addr → Option Obj) : AlE := ((He.obsT q.fa q.fn q.ts (eyes q.n g), q.ex (eyes q.n g) && He.tabsB g q.tfn (eyes q.n g)), q.cs.map fun d => fnC (eyes q.n g) d.cls)
def valE (q : Ask) (w : World) : AlE := ((He.valT q.fn q.ts w, true), q.cs.map DefC.val)
structure SaysE (q : Ask) (w : World) (h : Heap) (K : PySem.W.Frag) : Prop where
  x : He.SaysX q.fa q.fn q.ts q.tfn q.ex w h K
  c : (q.cs.map fun d => fnC K d.cls) = q.cs.map DefC.val
theorem saysE_of {q : Ask} {w : World} {h : Heap} (e : obsE q h.get? = valE q w) : SaysE q w h (eyes q.n h.get?) := by
  have e1 : He.obsT q.fa q.fn q.ts (eyes q.n h.get?) = He.valT q.fn q.ts w := congrArg (fun z : AlE => z.1.1) e
  have e2 : (q.ex (eyes q.n h.get?) && He.tabsB h.get? q.tfn (eyes q.n h.get?)) = true := congrArg (fun z : AlE => z.1.2) e
  have e3 := congrArg (fun z : AlE => z.2) e
  obtain ⟨b1, b2⟩ := He.ba e2
  have tab : ∀ p ∈ q.tfn, PySem.W.codeHdIn (eyes q.n h.get?) (He.cT (eyes q.n h.get?) p).1 (He.cT (eyes q.n h.get?) p).2 = true ∧ ∃ o, h.get? (He.cT (eyes q.n h.get?) p).2 = some o ∧ He.emptyTab o = true := by
    intro p hp
    obtain ⟨c1, c2⟩ := He.ba (List.all_eq_true.mp b2 p hp)
    refine ⟨c1, ?_⟩
    cases z : h.get? (He.cT (eyes q.n h.get?) p).2 with
    | some o =>
      rw [z] at c2
      exact ⟨o, rfl, c2⟩
    | none =>
      rw [z] at c2
      cases c2
  refine ⟨⟨e1, b1, fun p hp => (tab p hp).1, fun p hp => ?_, fun p hp => ?_⟩, e3⟩
  · obtain ⟨_, o, c1, c2⟩ := tab p hp
    exact He.frT_none c1 c2
  · obtain ⟨_, o, c1, c2⟩ := tab p hp
    rw [c1, He.emptyTab_eq c2]
theorem SaysE.d {q : Ask} {w : World} {h : Heap} {K : PySem.W.Frag} (c : SaysE q w h K) : He.SaysD q.fa q.fn K := congrArg (fun z : He.AlT => z.1) c.x.t
theorem SaysE.cls {q : Ask} {w : World} {h : Heap} {K : PySem.W.Frag} (c : SaysE q w h K) (i : Nat) {d : DefC} (hd : q.cs[i]? = some d) : fnC K d.cls = d.val := by
  have e := congrArg (fun l : List FnC => l[i]?) c.c
  rw [List.getElem?_map, List.getElem?_map, hd] at e
  exact Option.some.inj e
def hookE (q : Ask) : PySem.W.Hook where
  α := AlE
  obs := fun s => obsE q s.heap.get?
  val := fun w => valE q w
  says := fun w h => ∃ K : PySem.W.Frag, K.In h ∧ SaysE q w h K
  of := fun w s e => ⟨_, He.frT_in, saysE_of e⟩
  keeps := fun _ _ _ ⟨K, hK, c⟩ k => ⟨K, PySem.W.Frag.In.keeps hK k, ⟨c.x.t, c.x.more, c.x.hd, c.x.out, fun p hp => k _ _ (c.x.empty p hp)⟩, c.c⟩
def tabOkB (K : PySem.W.Frag) : Bool := (tabT K).all fun p => (tabT K).all fun r => p.1 != r.1 || p.2 == r.2
end DL
namespace DL
open PySem PySem.Spec PyProof.Rows L2 Evl
variable [TabC]
end DL
namespace DL
open PySem PySem.Spec PyProof.Rows L2 Evl
variable [TabC]
section
variable {ρ : En} {G : Gm} {da : DE} {dA : DA} {E : DEnds}
end
end DL
namespace DL
open PySem PySem.Spec PyProof.Rows L2 Evl
variable [TabC]
section
variable {X : Cx} {B : Bs} {pos p : Pos} {e : Expr} {es : List Expr} {dA : DA}
end
end DL
namespace DL
open PySem PySem.Spec PyProof.Rows L2 Evl
variable [TabC]
def lowZ (a u : Int) : D := if 0 < u then lowD a u else lowD (-a) (-u)
def pairZ (n d : Int) : D := if d = 1 then .int n else .tup [.int n, .int d]
def sgZ (a u : Int) : Int := if 0 < u then (Int.gcd a u : Int) else -(Int.gcd a u : Int)
theorem lowZ_facts {a u : Int} (hu : u ≠ 0) : ∃ n d : Int, sgZ a u ≠ 0 ∧ (sgZ a u).natAbs ≤ u.natAbs ∧ a = sgZ a u * n ∧ u = sgZ a u * d ∧ 0 < d ∧ Int.gcd n d = 1 ∧ lowZ a u = pairZ n d := by
  by_cases h : 0 < u
  · obtain ⟨g, n, d, eg, g0, ea, eu, d0, e1, e2, e3, e4⟩ := gcd_facts (a := a) h
    have es : sgZ a u = g := (if_pos h).trans eg
    refine ⟨n, d, by rw [es]; omega, by rw [es]; omega, by rw [es]; exact ea, by rw [es]; exact eu, d0, e3, ?_⟩
    unfold lowZ lowD pairZ
    rw [if_pos h, eg, e1, e2]
  · have h2 : 0 < -u := by omega
    obtain ⟨g, n, d, eg, g0, ea, eu, d0, e1, e2, e3, e4⟩ := gcd_facts (a := -a) h2
    have eg2 : (Int.gcd a u : Int) = g := by
      rw [← eg, Int.gcd_neg, Int.neg_gcd]
    have es : sgZ a u = -g := (if_neg h).trans (by rw [eg2])
    refine ⟨n, d, by rw [es]; omega, by rw [es]; omega, ?_, ?_, d0, e3, ?_⟩
    · rw [es, Int.neg_mul]
      omega
    · rw [es, Int.neg_mul]
      omega
    · unfold lowZ lowD pairZ
      rw [if_neg h, eg, e1, e2]
theorem numI_pair {n d : Int} : numI (pairZ n d) = (n, d) := by
  unfold pairZ
  by_cases h : d = 1
  · rw [if_pos h, h]
    rfl
  · rw [if_neg h]
    rfl
theorem numD_pair {n d : Int} (h0 : 0 < d) (hg : Int.gcd n d = 1) : numD (pairZ n d) = true := by
  unfold pairZ
  by_cases h : d = 1
  · rw [if_pos h]
    rfl
  · rw [if_neg h]
    show (decide (2 ≤ d) && decide (Int.gcd n d = 1)) = true
    rw [decide_eq_true (by omega), decide_eq_true hg]
    rfl
def sp_lowZ : DSp := fun xs G R _ => ∃ a u : Int, xs = [.int a, .int u] ∧ u ≠ 0 ∧ u.natAbs < 2 ^ 8000 ∧ R (lowZ a u) G
end DL
namespace DL
open PySem PySem.Spec PyProof.Rows L2 Evl
variable [TabC]
theorem lowZ_num {a u : Int} (hu : u ≠ 0) : numD (lowZ a u) = true ∧ 0 < (numI (lowZ a u)).2 ∧ (numI (lowZ a u)).1 * u = a * (numI (lowZ a u)).2 := by
  obtain ⟨n, d, s0, _, ea, eu, d0, g1, l1⟩ := lowZ_facts (a := a) hu
  rw [l1, numI_pair]
  refine ⟨numD_pair d0 g1, d0, ?_⟩
  show n * u = a * d
  generalize sgZ a u = s at *
  rw [ea, eu]
  grind
theorem Ev.lowZ {ρ : En} {G : Gm} {da db : DE} {a u : Int} (h : Ev da ρ G (.int a)) (h' : Ev db ρ G (.int u)) (hu : u ≠ 0) (hu2 : u.natAbs < 2 ^ 8000) : Ev (dCall sp_lowZ X0 (dCons da (dCons db dNil))) ρ G (lowZ a u) := .call (.cons h (.one h')) fun R r => ⟨a, u, rfl, hu, hu2, r⟩
end DL
namespace DL
open PySem PySem.Spec PyProof.Rows L2 Evl
variable [TabC]
end DL
namespace DL
open PySem PySem.Spec PyProof.Rows L2 Evl
variable [TabC]
end DL
namespace DL
open PySem PySem.Spec PyProof.Rows L2 Evl
variable [TabC]
def Cz (k : Nat) (x : D) : Prop := ∃ n d : Int, x = pairZ n d ∧ 0 < d ∧ Int.gcd n d = 1 ∧ n.natAbs < 2 ^ k ∧ d.natAbs < 2 ^ k
theorem Cz.mono {j k : Nat} {x : D} (h : Cz j x) (l : j ≤ k := by decide) : Cz k x := by
  obtain ⟨n, d, e, d0, g, h1, h2⟩ := h
  exact ⟨n, d, e, d0, g, Nat.lt_of_lt_of_le h1 (Nat.pow_le_pow_right (by decide) l), Nat.lt_of_lt_of_le h2 (Nat.pow_le_pow_right (by decide) l)⟩
section
variable {a b c d : Int} {X Y F S : D}
structure Rat (a b : Int) (X F : D) : Prop where
  b0 : b ≠ 0
  x : X = lowZ a b
  f : numI F = numI X
theorem Rat.pos (h : Rat a b X F) : 0 < (numI X).2 := by
  rw [h.x]
  exact (lowZ_num h.b0).2.1
end
end DL
namespace DL
open PySem PySem.Spec PyProof.Rows L2 Evl
section
variable {M : Model} {A : Around} {E : Value → Shared → Prop} {s : Shared} {base : Heap} {env : Env} {outer l : List Env} {L e : Addr} {Z : Obj → Prop}
end
section
variable {X : Cx}
end
end DL
namespace DL
open PySem PySem.Spec PyProof.Rows L2 Evl
variable [TabC]
theorem Sim.drop {K : PySem.W.Frag} {F : Gm} {Hd H : Hp} {G : Gm} {p : Addr} {m : Mt} (S : Sim K (gup F p m) Hd H G) (hF : F p = Option.none) (hm : ∀ q, m ≠ .tab q) : Sim K F Hd H G := by
  have ne : ∀ {a k}, F a = some k → gup F p m a = some k := fun {a k} e => by
    have z : a ≠ p := fun z => by
      rw [z, hF] at e
      cases e
    rw [gup_ne z]
    exact e
  refine ⟨S.sub, S.off, S.hold, fun a k e => S.offF a k (ne e), fun a k e => S.holdF a k (ne e), fun a k e => S.apart a k (ne e), fun q hq => ?_⟩
  have t := S.tabs q hq
  by_cases z : q.1 = p
  · rw [z, gup_same] at t
    exact (hm q.2 (Option.some.inj t)).elim
  · rw [gup_ne z] at t
    exact t
theorem KX.drop {K : PySem.W.Frag} {F : Gm} {Hd : Hp} {RX : XD} {E : XK} {p : Addr} {m : Mt} (k : KX K F Hd RX E) (hF : F p = Option.none) (hm : ∀ q, m ≠ .tab q) : KX K (gup F p m) Hd RX E := fun C d H' Hd' ns vs xs G' e S => k C d H' Hd' ns vs xs G' e (S.drop hF hm)
section
variable {X : Cx} {B : Bs} {pos p : Pos} {a b c e : Expr} {es : List Expr} {da db dc de : DE} {dA : DA} {ta tb : DT}
end
end DL
namespace DL
open PySem PySem.Spec PyProof.Rows L2 Evl
variable [TabC]
abbrev ClT := List (Str × List Str)
def hasF (cl : ClT) (C f : Str) : Bool := cl.any fun p => p.1 == C && p.2.contains f
structure OwC (K : PySem.W.Frag) (mg : Str → Option Value) (cl : ClT) (sub : Str → Str → Bool) : Prop where
  g : ∀ p ∈ cl, mg p.1 = some (.ref (He.ga K p.1))
  c : ∀ p ∈ cl, L2.Cls K (He.ga K p.1)
  n : ∀ p ∈ cl, ∀ f ∈ p.2, NoAttr K (He.ga K p.1) f
  a : ∀ p ∈ cl, PySem.W.findIn K (.ref (He.ga K p.1)) "__class__" = some (some (.builtin "object.__class__"))
  s : PySem.W.specialIn K (.builtin "object.__class__") "__get__" = some (some (.builtin "getset_descriptor.__get__"))
  k : PySem.W.takesIn K (.builtin "object.__class__") = some true
  m : ∀ p ∈ cl, PySem.W.mroIn K (He.ga K p.1) (.type "object") = some true
  e : ∀ p ∈ cl, ∀ q ∈ cl, PySem.W.kitOne K (.ref (He.ga K p.1)) (.ref (He.ga K q.1)) = some (sub p.1 q.1)
  t : ∀ t ∈ ["NoneType", "bool", "int", "str", "tuple", "list", "dict"], ∀ p ∈ cl, PySem.W.kitOne K (.type t) (.ref (He.ga K p.1)) = some false
theorem OwC.fld {K : PySem.W.Frag} {mg : Str → Option Value} {cl : ClT} {sub : Str → Str → Bool} (T : OwC K mg cl sub) {C f : Str} (h : hasF cl C f = true) : L2.Cls K (He.ga K C) ∧ NoAttr K (He.ga K C) f := by
  obtain ⟨p, hp, q⟩ := List.any_eq_true.mp h
  obtain ⟨q1, q2⟩ := Bool.and_eq_true_iff.mp q
  have e := beq_iff_eq.mp q1
  subst e
  exact ⟨T.c p hp, T.n p hp f (List.contains_iff_mem.mp q2)⟩
def owB (K : PySem.W.Frag) (cl : ClT) (sub : Str → Str → Bool) : Bool :=
  He.eqO (PySem.W.specialIn K (.builtin "object.__class__") "__get__") (some (some (.builtin "getset_descriptor.__get__"))) && (decide (PySem.W.takesIn K (.builtin "object.__class__") = some true) &&
  cl.all fun p => (He.Fa.glo p.1).ok K && ((He.Fa.cls p.1).ok K && (p.2.all (fun f => (He.Fa.noat p.1 f).ok K) && (He.eqO (PySem.W.findIn K (.ref (He.ga K p.1)) "__class__") (some (some (.builtin "object.__class__"))) && (decide (PySem.W.mroIn K (He.ga K p.1) (.type "object") = some true) &&
    (["NoneType", "bool", "int", "str", "tuple", "list", "dict"].all (fun t => decide (PySem.W.kitOne K (.type t) (.ref (He.ga K p.1)) = some false)) && cl.all fun q => decide (PySem.W.kitOne K (.ref (He.ga K p.1)) (.ref (He.ga K q.1)) = some (sub p.1 q.1))))))))
def InsAt (G : Gm) (y : D) (C : Str) (ns : List Str) (xs : List D) : Prop := y = .ins C ns xs ∨ ∃ a, y = .ref a ∧ G a = some (.ins C ns xs)
theorem InsAt.heap {K : PySem.W.Frag} {F : Gm} {Hd H : Hp} {G : Gm} {v : V} {y : D} {C : Str} {ns : List Str} {xs : List D} (S : Sim K F Hd H G) (r : Rp K Hd v y) (h : InsAt G y C ns xs) :
    ∃ a dx vs, v = .ref a ∧ H a = some (.ins (He.ga K C) dx (ns.zip vs)) ∧ ns.length = vs.length ∧ RpL K Hd vs xs := by
  rcases h with rfl | ⟨a, rfl, hg⟩
  · cases r with
    | ins h1 hl rl => exact ⟨_, _, _, rfl, S.sub _ _ h1, hl, rl⟩
  · cases r
    obtain ⟨dx, vs, h1, hl, rl⟩ := S.hold a _ hg
    exact ⟨a, dx, vs, rfl, h1, hl, rl⟩
def dFld (cl : ClT) (f : Str) (da : DE) : DE := fun ρ G R => da ρ G fun y G1 => ∃ C ns xs z, InsAt G1 y C ns xs ∧ hasF cl C f = true ∧ (ns.zip xs).lookup f = some z ∧ R z G1
section
variable {X : Cx} {B : Bs} {p pos pos' q : Pos} {e o value : Expr} {es : List Expr} {da dv dobj : DE} {dA : DA} {cl : ClT} {sub : Str → Str → Bool} {x f : Str}
end
structure KnM (P : Program) (w : World) (K : PySem.W.Frag) (mg : Str → Option Value) (base : Heap) (k : Nat) (C m : Str) (st : Stmt) (ps : List Str) (p : DSp) : Prop where
  fn : ∃ fd, FunD K m (C ++ "." ++ m) (defArgs st) (defBody st) (defScope st) [] [] (He.ma K (He.ga K C) m) fd ∧ FnG P w K mg base k (He.ma K (He.ga K C) m) fd ps (spU K p)
section
variable {P : Program} {w : World} {K : PySem.W.Frag} {mg : Str → Option Value} {base : Heap}
theorem KnM.mono {j k : Nat} {C m : Str} {st : Stmt} {ps : List Str} {p : DSp} (h : KnM P w K mg base j C m st ps p) (l : j ≤ k) : KnM P w K mg base k C m st ps p :=
  ⟨let ⟨fd, a, b⟩ := h.fn; ⟨fd, a, b.mono l⟩⟩
end
section
variable {X : Cx} {B : Bs} {apos pos : Pos} {e o : Expr} {es : List Expr} {dobj : DE} {dA : DA} {k : Nat} {f C : Addr} {m : Str} {fd : FuncData} {ps : List Str} {sp : Sp} {E : XK} {ta : TE} {t : TA} {pl : Sem Bool}
end
theorem Sim.gdel {K : PySem.W.Frag} {F : Gm} {Hd H : Hp} {G : Gm} (S : Sim K F Hd H G) (p : Addr) : Sim K F Hd H (DL.gdel G p) := by
  have gd : ∀ {a : Addr} {m : Mt}, DL.gdel G p a = some m → G a = some m := fun {a m} q => by
    unfold DL.gdel at q
    split at q
    · cases q
    · exact q
  refine ⟨S.sub, fun a m q => S.off a m (gd q), fun a m q => S.hold a m (gd q), S.offF, S.holdF, fun a m q => ?_, S.tabs⟩
  unfold DL.gdel
  split
  · rfl
  · exact S.apart a m q
theorem gdel_gup {G : Gm} {a : Addr} {m : Mt} (h : G a = none) : DL.gdel (gup G a m) a = G := by
  funext b
  unfold DL.gdel gup
  by_cases q : b = a
  · rw [if_pos q, q, h]
  · rw [if_neg q, if_neg q]
section
variable {X : Cx} {B : Bs} {p pos : Pos} {e : Expr} {es : List Expr} {dA : DA} {k : Nat} {f : Addr} {fd : FuncData} {ps : List Str} {sp : Sp} {E : XK} {t : TA}
end
end DL
namespace OwnNe
open PySem PySem.W PyProof.Rows Builtin
section
variable {prog : Program} {w : World} {A : Around} {E : Value → Shared → Prop} {s : Shared} {K : Frag} {x C f L : Addr} {ox : Obj} {od : Option Obj} {h₀ : Heap} {m : Str → Option Value} {b tb : Value}
end
end OwnNe
namespace DL
open PySem PySem.Spec PyProof.Rows L2 Evl
variable [TabC]
section
variable {X : Cx} {k : Nat} {f : Addr} {fd : FuncData} {ps : List Str} {sp : Sp} {E : XK}
end
section
variable {X : Cx} {B : Bs} {p pos : Pos} {a b e : Expr} {da db : DE} {k : Nat} {ps : List Str} {E : XK} {cl : ClT} {sub : Str → Str → Bool} {cs : List Str} {f : Addr} {fd : FuncData} {q : DSp} {RX : XD}
end
section
variable {X : Cx} {B : Bs} {p pos : Pos} {e : Expr} {da : DE} {k : Nat} {tb : TrT}
end
end DL
namespace Sup
open PySem PySem.Spec PySem.Calls PyProof.Rows L2 PySem.W
def FnRG (P : Program) (w : World) (K : PySem.W.Frag) (mg : Str → Option Value) (base : Heap) (k : Nat) (f : Addr) (sp : Sp) : Prop :=
  ∀ (A : Around) (outer : List Env) (s : Shared) (H : Hp) (us : List Value) (vs : List V) (Q : VK) (E : XK), Room k A → A.guards = some [] → Env0 P w K mg base A outer s H → Vals vs us → sp vs H Q E →
    codeAny (model P w) A (.call (.ref f) ⟨us, []⟩) (CR (L2.CX P w) outer P w H s Q E) s
theorem FnRG.mono {P : Program} {w : World} {K : PySem.W.Frag} {mg : Str → Option Value} {base : Heap} {j k : Nat} {f : Addr} {sp : Sp} (F : FnRG P w K mg base j f sp) (h : j ≤ k) : FnRG P w K mg base k f sp := fun A outer s H us vs Q E r => F A outer s H us vs Q E (r.mono h)
section
variable {P : Program} {w : World} {K : PySem.W.Frag} {mg : Str → Option Value} {base : Heap} {N ps : List Str} {x qual : Str} {scope : Scope} {f cda cc C f2 : Addr} {A : Around} {outer : List Env} {s : Shared} {H : Hp} {E E2 : XK} {params : Arguments} {body : List Stmt} {k : Nat} {sp : Sp}
end
end Sup
namespace Sup
open PySem PySem.Spec PySem.Calls PyProof.Rows L2 PySem.W
section
variable {P : Program} {w : World} {K : PySem.W.Frag} {mg : Str → Option Value} {base : Heap} {N ps : List Str} {x qual : Str} {scope : Scope} {f cda cc C f2 : Addr} {A : Around} {outer : List Env} {s : Shared} {H : Hp} {E E2 : XK} {params : Arguments} {body : List Stmt} {k : Nat} {sp : Sp}
end
end Sup
namespace DL
open PySem PySem.Spec PyProof.Rows L2 Evl Sup
variable [TabC]
structure KnI (P : Program) (w : World) (K : PySem.W.Frag) (mg : Str → Option Value) (base : Heap) (k : Nat) (C : Str) (st : Stmt) (ps : List Str) (p : DSp) : Prop where
  fn : ∃ fd, FnG P w K mg base k (He.ma K (He.ga K C) "__init__") fd ps (spU K p) ∧ fd.params = defArgs st ∧ fd.defaults = .none
section
variable {P : Program} {w : World} {K : PySem.W.Frag} {mg : Str → Option Value} {base : Heap}
theorem KnI.mono {j k : Nat} {C : Str} {st : Stmt} {ps : List Str} {p : DSp} (h : KnI P w K mg base j C st ps p) (l : j ≤ k) : KnI P w K mg base k C st ps p :=
  ⟨let ⟨fd, a, b⟩ := h.fn; ⟨fd, a.mono l, b⟩⟩
end
section
variable {X : Cx} {B : Bs} {p pos : Pos} {e : Expr} {es : List Expr} {dA : DA} {k : Nat} {ps : List Str} {E : XK}
end
section
variable {X : Cx} {B : Bs} {pos : Pos} {o : Expr} {to : TE} {dobj : DE} {f : Str} {cl : ClT} {sub : Str → Str → Bool}
end
end DL
namespace DL
open PySem PySem.Spec PyProof.Rows L2 Evl Sup
variable [TabC]
section
variable {X : Cx} {B : Bs} {p pos : Pos} {e o : Expr} {es : List Expr} {dA : DA} {dobj di da db : DE}
def VwAt (G : Gm) (x x' : D) : Prop := x' = x ∨ ∃ p ds, x = .ref p ∧ G p = some (.lst ds) ∧ x' = .lst ds
theorem VwAt.dp {K : PySem.W.Frag} {F : Gm} {Hd H : Hp} {G : Gm} {v : V} {x x' : D} {p : PyData} (h : VwAt G x x') (s : Sim K F Hd H G) (r : Rp K Hd v x) (e : x'.py = some p) : Dp K H v p := by
  rcases h with rfl | ⟨q, ds, rfl, hg, rfl⟩
  · exact rp_dp s.sub _ r e
  · cases r
    obtain ⟨xs, S, rl⟩ := s.freeze hg
    exact rp_dp (v := .ref q) S.sub (.lst ds) (.lst sq_new (rl.mono (Ex.new (s.off q _ hg)))) e
end
abbrev KvT := List (Str × Int)
structure DctK (K : PySem.W.Frag) (w : World) (mg : Str → Option Value) (x : Str) (kvs : KvT) : Prop where
  g : mg x = some (.ref (He.ga K x))
  d : ∃ es n, KDict K w (He.ga K x) es n
  no : ∀ z, (kvs.lookup z).isSome = false → PySem.W.nsIn K (He.ga K x) z = some none
  yes : ∀ z i, kvs.lookup z = some i → ∃ u, PySem.W.nsIn K (He.ga K x) z = some (some u) ∧ RelV (.int i) u
def dctB (K : PySem.W.Frag) (x : Str) (kvs : KvT) : Bool := (He.Fa.glo x).ok K && kvs.all fun p => match PySem.W.nsIn K (He.ga K x) p.1 with
  | some (some (.int j _)) => decide (j = p.2)
  | _ => false
section
variable {X : Cx} {B : Bs} {p pos : Pos} {e : Expr} {da : DE} {x : Str} {kvs : KvT}
theorem DctK.ns {K : PySem.W.Frag} {w : World} {mg : Str → Option Value} (D : DctK K w mg x kvs) (z : Str) : ∃ r, PySem.W.nsIn K (He.ga K x) z = some r ∧ r.isSome = (kvs.lookup z).isSome := by
  cases q : kvs.lookup z with
  | none => exact ⟨none, D.no z (by rw [q]; rfl), rfl⟩
  | some i =>
    obtain ⟨u, hu, _⟩ := D.yes z i q
    exact ⟨some u, hu, rfl⟩
end
theorem Kn.never {P : Program} {w : World} {K : PySem.W.Frag} {mg : Str → Option Value} {base : Heap} {x : Str} {st : Stmt} {ps : List Str} {p : DSp} (g : mg x = some (.ref (He.ga K x))) (F : ∃ fd, FunD K x x (defArgs st) (defBody st) (defScope st) [] [] (He.ga K x) fd) (hp : ∀ xs G R RX, ¬ p xs G R RX) : Kn P w K mg base 0 x st ps p := by
  obtain ⟨fd, F⟩ := F
  exact ⟨g, fd, F, fun _ _ _ _ ⟨_, _, _, _, _, _, _, _, h, _⟩ => (hp _ _ _ _ h).elim, fun _ _ _ _ _ _ _ _ _ _ _ _ _ _ ⟨_, _, _, _, _, _, _, _, h, _⟩ => (hp _ _ _ _ h).elim⟩
end DL
namespace DL
open PySem PySem.Spec PyProof.Rows L2 Evl Sup
variable [TabC]
section
variable {X : Cx} {B : Bs} {p pos : Pos} {e : Expr} {da : DE} {x : Str} {kvs : KvT}
end
end DL
namespace DL
open PySem PySem.Spec PyProof.Rows L2
def isMeth (m : Str) : Stmt → Bool
  | .FunctionDef n _ _ _ _ _ _ _ _ _ => n == m
  | _ => false
def methOf (st : Stmt) (m : Str) : Stmt := ((clsBody st).find? (isMeth m)).getD (.Pass ⟨0, 0, 0, 0⟩)
end DL
namespace DL
open PySem PySem.Spec PyProof.Rows L2 Evl Sup
variable [TabC]
def gdels (G : Gm) : List Addr → Gm
  | [] => G
  | p :: l => gdels (gdel G p) l
theorem Sim.gdels {K : PySem.W.Frag} {F : Gm} {Hd H : Hp} : ∀ (l : List Addr) {G : Gm}, Sim K F Hd H G → Sim K F Hd H (DL.gdels G l)
  | [], _, S => S
  | p :: l, _, S => Sim.gdels l (S.gdel p)
def Gc (R : KD) : KD := fun x G => ∃ l, R x (gdels G l)
theorem Gc.none {R : KD} {x : D} {G : Gm} (h : R x G) : Gc R x G := ⟨[], h⟩
theorem Gc.one {R : KD} {x : D} {G : Gm} {p : Addr} {m : Mt} (hp : G p = Option.none) (h : R x G) : Gc R x (gup G p m) := ⟨[p], by show R x (gdel (gup G p m) p); rw [gdel_gup hp]; exact h⟩
section
variable {ρ : En} {G : Gm} {da db dv dobj : DE} {dA : DA} {x y z : D} {xs ys : List D} {ns : List Str} {cl : ClT} {sub : Str → Str → Bool} {C f : Str} {a : Addr} {E : DEnds}
theorem ins_ins : InsAt G (.ins C ns xs) C ns xs := .inl rfl
theorem Ev.fld (ha : Ev da ρ G x) (hi : InsAt G x C ns xs) (hf : hasF cl C f = true) (hl : (ns.zip xs).lookup f = some z) : Ev (dFld cl f da) ρ G z := fun R r => ha _ ⟨C, ns, xs, z, hi, hf, hl, r⟩
end
def D.flat : D → Bool
  | .non => true
  | .bl _ => true
  | .int _ => true
  | .str _ => true
  | _ => false
def FxOk : Nat → D → Prop
  | 0, _ => False
  | d + 1, x => (∃ xs, (x = .lst xs ∨ x = .tup xs) ∧ xs.length ≤ sizeLine ∧ ∀ y ∈ xs, FxOk d y) ∨ x.flat = true
theorem FxOk.up : ∀ {d : Nat} {x : D}, FxOk d x → FxOk (d + 1) x
  | 0, _, h => h.elim
  | d + 1, x, .inl ⟨xs, e, hz, h⟩ => .inl ⟨xs, e, hz, fun y hy => FxOk.up (h y hy)⟩
  | d + 1, x, .inr h => .inr h
theorem FxOk.mono {d e : Nat} {x : D} (h : FxOk d x) (l : d ≤ e) : FxOk e x := by
  induction l with
  | refl => exact h
  | step _ ih => exact ih.up
end DL
namespace DL
open PySem PySem.Spec PyProof.Rows L2 Evl Sup
inductive Ln where
  | up (b g : Nat) | down (b g : Nat) | test (b g h : Nat) | stop
def Ln.its : Ln → List D
  | .up b g => [.str "up", .int b, .int g]
  | .down b g => [.str "down", .int b, .int g]
  | .test b g h => [.str "test", .int b, .int g, .int h]
  | .stop => [.str "stop"]
def Ln.d (l : Ln) : D := .tup l.its
def Ln.ok (n : Nat) : Ln → Prop
  | .up b g => b < 2 ∧ g < n
  | .down b g => b < 2 ∧ g < n
  | .test b g h => b < 2 ∧ g < n ∧ h < n
  | .stop => True
abbrev Bx := Option Nat
def bxD : Bx → D
  | none => .non
  | some n => .int n
structure Sd where
  l : Nat
  x : Bx
  y : Bx
def Sd.d (s : Sd) : D := .tup [.int s.l, bxD s.x, bxD s.y]
def progD (ls : List Ln) : D := .ins "Program" ["lines"] [.tup (ls.map Ln.d)]
variable [TabC]
section
variable {ρ : En} {G : Gm} {da db dv dobj : DE} {dA : DA} {x y z : D} {xs ys : List D}
end
theorem prog_lines {ls : List Ln} : ((["lines"] : List Str).zip [D.tup (ls.map Ln.d)]).lookup ("lines" : Str) = some (.tup (ls.map Ln.d)) := by
  rw [List.zip_cons_cons, List.lookup_cons, show (("lines" : Str) == "lines") = true by decide +kernel]
theorem Ev.lines {cl : ClT} {ρ : En} {G : Gm} {da : DE} {ls : List Ln} (hf : hasF cl "Program" "lines" = true) (ha : Ev da ρ G (progD ls)) : Ev (dFld cl "lines" da) ρ G (.tup (ls.map Ln.d)) := .fld ha ins_ins hf prog_lines
end DL
namespace DL
open PySem PySem.Spec PyProof.Rows L2 Evl Sup
variable [TabC]
def fIsB (x y z : D) : Prop := ∃ a b : Bool, x = .bl a ∧ y = .bl b ∧ z = .bl (decide (a = b))
theorem Ev.isB {ρ : En} {G : Gm} {da db : DE} {a b : Bool} (ha : Ev da ρ G (.bl a)) (hb : Ev db ρ G (.bl b)) : Ev (dOp fIsB da db) ρ G (.bl (decide (a = b))) := .op ha hb ⟨a, b, rfl, rfl, rfl⟩
section
variable {X : Cx} {B : Bs} {p pos : Pos} {e : Expr} {es : List Expr} {dA : DA} {k : Nat} {f : Addr} {sp : Sp} {E : XK}
end
end DL
namespace DL
open PySem PySem.Spec PyProof.Rows L2 Evl Sup
variable [TabC]
section
variable {ρ : En} {a : Addr} {k n : Nat} {da : DE} {P : D → Prop}
end
def bxLt (n : Nat) (b : Bx) : Prop := ∀ k, b = some k → k < n
end DL
namespace DL
open PySem PySem.Spec PyProof.Rows L2 Evl Sup
variable [TabC]
end DL
namespace DL
open PySem PySem.Spec PyProof.Rows L2 Evl Sup
variable [TabC]
theorem cut_take {xs : List D} {i : Nat} (h : i ≤ xs.length) : cutD xs none (some (i : Int)) = xs.take i := by
  unfold cutD
  rw [HT.sIx_nat, HT.sIx_none, List.drop_zero, Nat.sub_zero, Nat.min_eq_left h]
section
variable {ρ : En} {G : Gm} {da db : DE} {xs : List D} {i : Nat}
theorem Ev.take (ha : Ev da ρ G (.lst xs)) (hb : Ev db ρ G (.int i)) (h : i ≤ xs.length) : Ev (dSl da dNoP (dPart db)) ρ G (.lst (xs.take i)) := fun R r => ha _ (hb _ ⟨i, rfl, _, .inl ⟨xs, lst_lst, by rw [cut_take h]⟩, r⟩)
end
def Sd.b (s : Sd) : Nat → Bx
  | 0 => some s.l
  | 1 => s.x
  | _ => s.y
def Sd.its (s : Sd) : List D := [bxD (s.b 0), bxD (s.b 1), bxD (s.b 2)]
theorem bxLt.mono {a b : Nat} {x : Bx} (h : bxLt a x) (l : a ≤ b) : bxLt b x := fun k e => Nat.lt_of_lt_of_le (h k e) l
end DL
namespace DL
open PySem PySem.Spec PyProof.Rows L2 Evl Sup
variable [TabC]
section
variable {X : Cx} {B : Bs} {pos pos' apos cpos : Pos} {o e f i value : Expr} {dobj dk dd dv : DE}
end
end DL
namespace DL
open PySem PySem.Spec PyProof.Rows L2 Evl Sup
variable [TabC]
def hp : Bx → Int × Int
  | none => (0, 1)
  | some 0 => (3, 1)
  | some (n + 1) => (1, 3 ^ n)
def hgt (b : Bx) : D := pairZ (hp b).1 (hp b).2
end DL
namespace DL
open PySem PySem.Spec PyProof.Rows L2 Evl Sup
variable [TabC]
def sp_has : DSp := fun xs G R _ => ∃ x : D, xs = [x] ∧ Cz 1300 x ∧ ((∃ b, x = hgt b ∧ R (.bl true) G) ∨ ((∀ b, x ≠ hgt b) ∧ R (.bl false) G))
end DL
namespace DL
open PySem PySem.Spec PyProof.Rows L2 Evl Sup
variable [TabC]
end DL
namespace DL
open PySem PySem.Spec PyProof.Rows L2 Evl Sup
variable [TabC]
theorem Ev.has {ρ : En} {G : Gm} {da : DE} {x : D} (ha : Ev da ρ G x) (hx : Cz 1300 x) {k : Bool} (h : (k = true ∧ ∃ b, x = hgt b) ∨ (k = false ∧ ∀ b, x ≠ hgt b)) : Ev (dCall sp_has X0 (dCons da dNil)) ρ G (.bl k) := .call (.one ha) fun R r => ⟨x, rfl, hx, by
  rcases h with ⟨rfl, b, e⟩ | ⟨rfl, e⟩
  · exact .inl ⟨b, e, r⟩
  · exact .inr ⟨e, r⟩⟩
end DL
namespace DL
open PySem PySem.Spec PyProof.Rows L2 Evl Sup
variable [TabC]
end DL
namespace DL
open PySem PySem.Spec PyProof.Rows L2 Evl Sup
variable [TabC]
end DL
namespace DL
open PySem PySem.Spec PyProof.Rows L2 Evl Sup
variable [TabC]
namespace Y
section
variable {ρ ρ' : En} {G : Gm} {E : DEnds} {R : KD} {da db dc dv dobj di de : DE} {dA : DA} {x y z : D} {xs ys : List D} {ta tb tc : DT} {j k : Bool} {s t s1 s2 : DS} {g : DG} {gs : DGs} {T : Bool → Gm → Prop} {L : List D → Gm → Prop} {P : Prop}
theorem nx (h : E.nx ρ G) : dNext E ρ G := h
theorem bk (h : E.bk ρ G) : dBreak E ρ G := h
theorem ct (h : E.ct ρ G) : dCont E ρ G := h
theorem drop (h : de ρ G fun _ G1 => E.nx ρ G1) : dDrop de E ρ G := h
theorem c (h : R x G) : dC x ρ G R := h
theorem nil (h : L [] G) : dNil ρ G L := h
theorem cons (h : da ρ G fun x G1 => dA ρ G1 fun xs G2 => L (x :: xs) G2) : dCons da dA ρ G L := h
theorem tup (h : dA ρ G fun xs G1 => xs.length ≤ sizeLine ∧ R (.tup xs) G1) : dTup dA ρ G R := h
theorem lst (h : dA ρ G fun xs G1 => xs.length ≤ sizeLine ∧ R (.lst xs) G1) : dLst dA ρ G R := h
theorem op {f : D → D → D → Prop} (h : da ρ G fun x G1 => db ρ G1 fun y G2 => ∃ z, f x y z ∧ R z G2) : dOp f da db ρ G R := h
theorem yes (h : T true G) : dYes ρ G T := h
theorem ix (h : da ρ G fun x G1 => db ρ G1 fun y G2 => ∃ z, fIx G2 x y z ∧ R z G2) : dIx da db ρ G R := h
theorem cal {f : Gm → List D → D → Prop} (h : dA ρ G fun xs G1 => ∃ z, f G1 xs z ∧ R z G1) : dCal f dA ρ G R := h
theorem sl {l h' : DO} (h : da ρ G fun x G1 => l ρ G1 fun lo G2 => h' ρ G2 fun hi G3 => ∃ z, fSl G3 x lo hi z ∧ R z G3) : dSl da l h' ρ G R := h
theorem part {O : Option Int → Gm → Prop} (h : de ρ G fun x G1 => ∃ i, x = .int i ∧ O (some i) G1) : dPart de ρ G O := h
theorem call {q : DSp} {RX : XD} (h : dA ρ G fun xs G1 => q xs G1 R RX) : dCall q RX dA ρ G R := h
theorem fld {cl : ClT} {f : Str} (h : da ρ G fun y G1 => ∃ C ns xs z, InsAt G1 y C ns xs ∧ hasF cl C f = true ∧ (ns.zip xs).lookup f = some z ∧ R z G1) : dFld cl f da ρ G R := h
end
end Y
end DL
namespace DL
open PySem PySem.Spec PyProof.Rows L2 Evl Sup
variable [TabC]
namespace Y
end Y
end DL
open PySem PySem.Spec PyProof.Rows L2 Evl DL
namespace Lw
open PySem PySem.Spec PyProof.Rows L2 Evl DL
instance tabC : TabC := ⟨["_law_refused_right"]⟩
def top (i : Nat) : Stmt := PySem.Challenge.pw_timesfloor_k63_whole_stands_as_points.main.body.getD i (.Pass ⟨0, 0, 0, 0⟩)
def cls : ClT := [("Program", ["lines"])]
def subCT : List (Str × Str) := []
def subC (c d : Str) : Bool := c == d || subCT.contains (c, d)
def kv_ENDS : KvT := [("up", 1), ("down", 1), ("test", 2)]
def errs : List Str := ["TileError", "BadPoint", "BadProgram", "BadStand", "TooMany", "BadText"]
def subT : List (Str × Str) := [("BadPoint", "TileError"), ("BadProgram", "TileError"), ("BadStand", "TileError"), ("TooMany", "TileError"), ("BadText", "TileError")]
def subE (c d : Str) : Bool := c == d || subT.contains (c, d)
def errF : List Str := ["item", "line", "most", "part", "what"]
abbrev sp_halves : DSp := DL.sp_halves
abbrev sp_common : DSp := DL.sp_common
def dd (x : Str) (i : Nat) : He.DefD := ⟨(x, none), x, x, defArgs (top i), defBody (top i), defScope (top i), [], []⟩
def de (x : Str) (i : Nat) (vs : List He.Dv) : He.DefD := ⟨(x, none), x, x, defArgs (top i), defBody (top i), defScope (top i), vs, []⟩
def dm (C m : Str) (i : Nat) : He.DefD := ⟨(C, some m), m, C ++ "." ++ m, defArgs (methOf (top i) m), defBody (methOf (top i) m), defScope (methOf (top i) m), [], []⟩
def fn : List He.DefD := [dd "is_integer" 9, dd "is_within" 10, dd "is_list" 11, dd "halves" 14, dd "common" 15, dd "lowest_in" 16, dd "plus_in" 17, dd "times_in" 18, dd "minus_in" 19, dd "below_in" 20, dd "whole_in" 21, dd "is_number" 22, dd "kept_number" 23, de "need_point" 24 [He.Dv.str "point"], dd "is_line" 39, dm "Program" "__init__" 40, de "need_program" 42 [He.Dv.str "program"], dd "is_contents" 44, dd "need_stand" 45, dd "height_in" 52, dd "point_in" 53, dd "parted" 54, dd "like_contents" 55, dd "has_contents" 56, dd "point_of" 57, dd "stand_of" 58, dd "_law_quarry" 60, dd "_law_hew" 61, dd "_law_pick" 62, dd "_law_pair" 63, dd "_law_form" 64, dd "_law_add" 65, dd "_law_mul" 66, dd "_law_less" 67, dd "_law_line" 68, dd "_law_lines" 69, dd "_law_contents" 70, dd "_law_stand" 71, dd "_law_height" 72, dd "_law_point" 73, dd "_law_far_stand" 74, dd "_law_no_height" 75, dd "_law_heard" 76, dd "_law_others_right" 77, dd "_law_refused_right" 78, dd "law" 79]
def fa : List He.Fa := [.glo "is_integer", .glo "is_within", .glo "is_list", .glo "halves", .glo "common", .glo "lowest_in", .glo "plus_in", .glo "times_in", .glo "minus_in", .glo "below_in", .glo "whole_in", .glo "is_number", .glo "kept_number", .glo "need_point", .glo "is_line", .glo "Program", .glo "need_program", .glo "is_contents", .glo "need_stand", .glo "height_in", .glo "point_in", .glo "parted", .glo "like_contents", .glo "has_contents", .glo "point_of", .glo "stand_of", .glo "_law_quarry", .glo "_law_hew", .glo "_law_pick", .glo "_law_pair", .glo "_law_form", .glo "_law_add", .glo "_law_mul", .glo "_law_less", .glo "_law_line", .glo "_law_lines", .glo "_law_contents", .glo "_law_stand", .glo "_law_height", .glo "_law_point", .glo "_law_far_stand", .glo "_law_no_height", .glo "_law_heard", .glo "_law_others_right", .glo "_law_refused_right", .glo "law", .mkr "Program", .free "abs", .free "all", .free "any", .free "bool", .free "int", .free "isinstance", .free "len", .free "list", .free "range", .free "repr", .free "str", .free "tuple", .int "LEAST_UNDER" 2, .str "BAR" "/", .str "FIGURES" "0123456789", .int "MOST_FIGURES" 140, .int "MOST_LINES" 15, .int "LAST_BOX" 1, .str "UP" "up", .str "DOWN" "down", .str "TEST" "test", .str "STOP" "stop", .int "SPAN" 4, .int "BASE" 3, .int "LOWEST" 2, .int "MOST_CONTENTS" 200, .int "WIDE" 2]
abbrev Rw : PySem.W.OpenRow := PySem.W.OpenLaw.row PySem.Challenge.rw_timesfloor_k63_whole_stands_as_points
def ex (K : PySem.W.Frag) : Bool := tabOkB K && (isB K errs subE errF && (xcB (PySem.Challenge.rw_timesfloor_k63_whole_stands_as_points).prog.main.file K "BadPoint" ["part"] && (xcB (PySem.Challenge.rw_timesfloor_k63_whole_stands_as_points).prog.main.file K "BadProgram" ["part"] && (xcB (PySem.Challenge.rw_timesfloor_k63_whole_stands_as_points).prog.main.file K "BadStand" ["part"] && (xcB (PySem.Challenge.rw_timesfloor_k63_whole_stands_as_points).prog.main.file K "TooMany" ["what", "most"] && (owB K cls subC && (dctB K "ENDS" kv_ENDS && (true))))))))
def ask : Ask := ⟨5, fa, fn, ["_law_refused_right"], ex, [defC "BadPoint" (top 3), defC "BadProgram" (top 4), defC "BadStand" (top 5), defC "TooMany" (top 6)], [(fun K => He.ga K "ENDS", kv_ENDS.map (·.1))]⟩
abbrev hk : PySem.W.Hook := hookE ask
def ob (s : PySem.W.SharedT) : AlE := obsE ask (HandSHeadRun.getT s)
def loose : List Str := (["_wall", "TileError", "BadPoint", "BadProgram", "BadStand", "TooMany", "BadText", "is_integer", "is_within", "is_list", "LEAST_UNDER", "halves"] : List Str) ++ (["common", "lowest_in", "plus_in", "times_in", "minus_in", "below_in", "whole_in", "is_number", "kept_number", "need_point", "BAR", "FIGURES"] : List Str) ++ (["MOST_FIGURES", "written", "Scan", "MOST_LINES", "LAST_BOX", "UP", "DOWN", "TEST", "STOP", "ENDS", "is_line", "Program"] : List Str) ++ (["line_in", "need_program", "is_contents", "need_stand", "SPAN", "BASE", "LOWEST", "MOST_CONTENTS", "WIDE", "height_in", "point_in", "parted"] : List Str) ++ (["like_contents", "has_contents", "point_of", "stand_of", "_law_quarry", "_law_hew", "_law_pick", "_law_pair", "_law_form", "_law_add", "_law_mul", "_law_less"] : List Str) ++ (["_law_line", "_law_lines", "_law_contents", "_law_stand", "_law_height", "_law_point", "_law_far_stand", "_law_no_height", "_law_heard", "_law_others_right", "_law_refused_right"] : List Str)
set_option maxHeartbeats 0 in
theorem run_false (w : World) : HandSHeadRun.RunEq Rw (PySem.W.view Rw.prog [79]) hk ob 12000 loose (w.withFollow "special-get-raises" false) := by
  intro os
  kernel_rfl
set_option maxHeartbeats 0 in
theorem run_true (w : World) : HandSHeadRun.RunEq Rw (PySem.W.view Rw.prog [79]) hk ob 12000 loose (w.withFollow "special-get-raises" true) := by
  intro os
  kernel_rfl
section
variable {K : PySem.W.Frag} {h : Heap} {mg : Str → Option Value}
end
end Lw
open PySem PySem.W PySem.Calls PyProof.Rows
namespace DL
open PySem PySem.Spec PyProof.Rows L2 Evl
section
variable {K : PySem.W.Frag} {H H' : Hp}
theorem RpL.app : ∀ {vs ws : List V} {ds es : List D}, RpL K H vs ds → RpL K H ws es → RpL K H (vs ++ ws) (ds ++ es)
  | _, _, _, _, .nil, h => h
  | _, _, _, _, .cons a b, h => .cons a (RpL.app b h)
theorem RpL.set : ∀ {vs : List V} {ds : List D} {v : V} {d : D} (i : Nat), Rp K H v d → RpL K H vs ds → RpL K H (vs.set i v) (ds.set i d)
  | _, _, _, _, _, _, .nil => .nil
  | _, _, _, _, 0, h, .cons _ b => .cons h b
  | _, _, _, _, i + 1, h, .cons a b => .cons a (RpL.set i h b)
end
variable [TabC]
section
variable {K : PySem.W.Frag} {F : Gm} {Hd H : Hp} {G : Gm}
theorem Sim.exn (S : Sim K F Hd H G) {p : Addr} {o : HO} (h : H p = none) : Ex Hd (upd Hd p o) := Ex.new (S.free h)
theorem Sim.side (S : Sim K F Hd H G) {p : Addr} {o : HO} (h : H p = none) : Sim K F Hd (upd H p o) G where
  sub := S.sub.trans (Ex.new h)
  off := S.off
  hold := fun a m e => (S.hold a m e).other (ne_g e (S.gfree h))
  offF := S.offF
  holdF := fun a m e => (S.holdF a m e).other (ne_g e (S.ffree h))
  apart := S.apart
  tabs := S.tabs
theorem ex_put {Hd H : Hp} {p : Addr} {o : HO} (e : Ex Hd H) (h : Hd p = none) : Ex Hd (upd H p o) := fun a u q => by
  have z : a ≠ p := fun z => by
    rw [z, h] at q
    cases q
  rw [upd_ne z]
  exact e a u q
theorem Sim.put (S : Sim K F Hd H G) {p : Addr} {o : HO} {m n : Mt} (h : G p = some m) (hm : HoldM K Hd (upd H p o) p n) : Sim K F Hd (upd H p o) (gup G p n) :=
  S.setG (ex_put S.sub (S.off p m h)) (S.off p m h) (S.gf h) hm
theorem Sim.again (S : Sim K F Hd H G) {p : Addr} {m n : Mt} (h : G p = some m) (hm : HoldM K Hd H p n) : Sim K F Hd H (gup G p n) where
  sub := S.sub
  off := fun a k e => by
    by_cases q : a = p
    · rw [q]
      exact S.off p m h
    · rw [gup_ne q] at e
      exact S.off a k e
  hold := fun a k e => by
    by_cases q : a = p
    · subst q
      rw [gup_same] at e
      cases e
      exact hm
    · rw [gup_ne q] at e
      exact S.hold a k e
  offF := S.offF
  holdF := S.holdF
  apart := fun a k e => by
    rw [gup_ne (ne_g e (S.gf h))]
    exact S.apart a k e
  tabs := S.tabs
theorem Sim.hide (S : Sim K F Hd H G) {p : Addr} {m : Mt} {o : HO} (hfp : F p = none) (hd : Hd p = none) (hs : Ex Hd (upd H p o)) (hg : G p = none) (hm : HoldM K Hd (upd H p o) p m) : Sim K (gup F p m) Hd (upd H p o) G where
  sub := hs
  off := S.off
  hold := fun a k e => (S.hold a k e).other (ne_g e hg)
  offF := fun a k e => by
    by_cases q : a = p
    · rw [q]
      exact hd
    · rw [gup_ne q] at e
      exact S.offF a k e
  holdF := fun a k e => by
    by_cases q : a = p
    · subst q
      rw [gup_same] at e
      cases e
      exact hm
    · rw [gup_ne q] at e
      exact (S.holdF a k e).other q
  apart := fun a k e => by
    by_cases q : a = p
    · rw [q]
      exact hg
    · rw [gup_ne q] at e
      exact S.apart a k e
  tabs := fun q hq => by
    rw [gup_ne (ne_g (S.tabs q hq) hfp)]
    exact S.tabs q hq
theorem Sim.bare {p : Addr} {m : Mt} (S : Sim K (gup F p m) Hd H G) {xs : List V} (h : H p = some (.lst xs)) (hf : F p = none) : Sim K F (upd Hd p (.lst xs)) H G := by
  have hd : Hd p = none := S.offF p m gup_same
  have e : Ex Hd (upd Hd p (.lst xs)) := Ex.new hd
  have hg : G p = none := S.apart p m gup_same
  refine ⟨fun a u q => ?_, fun a k q => ?_, fun a k q => (S.hold a k q).mono e, fun a k q => ?_, fun a k q => ?_, fun a k q => ?_, fun q hq => ?_⟩
  · by_cases z : a = p
    · subst z
      rw [upd_same] at q
      cases q
      exact h
    · rw [upd_ne z] at q
      exact S.sub a u q
  · rw [upd_ne (ne_g q hg)]
    exact S.off a k q
  · rw [upd_ne (ne_g q hf)]
    exact S.offF a k (by rw [gup_ne (ne_g q hf)]; exact q)
  · exact (S.holdF a k (by rw [gup_ne (ne_g q hf)]; exact q)).mono e
  · exact S.apart a k (by rw [gup_ne (ne_g q hf)]; exact q)
  · have t := S.tabs q hq
    by_cases z : q.1 = p
    · obtain ⟨ps, e1, _⟩ := (show TabD Hd H q.1 q.2 from S.holdF q.1 (.tab q.2) t)
      rw [z, h] at e1
      cases e1
    · rw [gup_ne z] at t
      exact t
end
section
variable {K : PySem.W.Frag} {H H' : Hp} {σ : L2.St} {ρ : En}
theorem RpE.set (r : RpE K H σ ρ) (i : Nat) {v : V} {d : D} (h : Rp K H v d) : RpE K H (σ.set i (some v)) (ρ.set i (some d)) := by
  refine ⟨by rw [List.length_set, List.length_set]; exact r.1, fun j x e => ?_⟩
  by_cases q : i = j
  · subst q
    by_cases z : i < ρ.length
    · rw [List.getElem?_set_self z] at e
      cases e
      exact ⟨v, by rw [List.getElem?_set_self (by rw [r.1]; exact z)], h⟩
    · rw [List.getElem?_eq_none (by simpa using z)] at e
      cases e
  · rw [List.getElem?_set_ne q] at e ⊢
    exact r.2 j x e
theorem RpE.unset (r : RpE K H σ ρ) (i : Nat) : RpE K H (σ.set i none) (ρ.set i none) := by
  refine ⟨by rw [List.length_set, List.length_set]; exact r.1, fun j x e => ?_⟩
  by_cases q : i = j
  · subst q
    by_cases z : i < ρ.length
    · rw [List.getElem?_set_self z] at e
      cases e
    · rw [List.getElem?_eq_none (by simpa using z)] at e
      cases e
  · rw [List.getElem?_set_ne q] at e ⊢
    exact r.2 j x e
def wipeD (ρ : En) : List Nat → En
  | [] => ρ
  | v :: vs => (wipeD ρ vs).set v none
theorem RpE.wipe (r : RpE K H σ ρ) : ∀ vs : List Nat, RpE K H (L2.wipe σ vs) (wipeD ρ vs)
  | [] => r
  | v :: vs => by
    unfold L2.wipe wipeD
    exact (RpE.wipe r vs).unset v
theorem RpE.start {N : List Str} {vs : List V} {ds : List D} (r : RpL K H vs ds) : RpE K H (L2.start N vs) (ds.map some ++ List.replicate (N.length - ds.length) none) := by
  refine ⟨by unfold L2.start; simp [r.length], fun i d e => ?_⟩
  by_cases h : i < ds.length
  · rw [List.getElem?_append_left (by simpa using h), List.getElem?_map] at e
    cases q : ds[i]? with
    | none =>
      rw [q] at e
      cases e
    | some x =>
      rw [q] at e
      cases e
      obtain ⟨v, a, b⟩ := r.at q
      refine ⟨v, ?_, b⟩
      unfold L2.start
      rw [List.getElem?_append_left (by rw [List.length_map, r.length]; exact h), List.getElem?_map, a]
      rfl
  · rw [List.getElem?_append_right (by simpa using h), List.getElem?_replicate] at e
    split at e <;> cases e
end
def upE (K : PySem.W.Frag) (B : Bs) (d : DE) : TE := fun σ H Q => ∃ ρ Hd G R, At K B σ H ρ Hd G ∧ d ρ G R ∧ KE K B.f Hd R Q
def upT (K : PySem.W.Frag) (B : Bs) (d : DT) : TT := fun σ H Q => ∃ ρ Hd G R, At K B σ H ρ Hd G ∧ d ρ G R ∧ KT K B.f Hd R Q
def upA (K : PySem.W.Frag) (B : Bs) (d : DA) : TA := fun σ H Q => ∃ ρ Hd G R, At K B σ H ρ Hd G ∧ d ρ G R ∧ KA K B.f Hd R Q
def upS (K : PySem.W.Frag) (B : Bs) (d : DS) : TS := fun D σ H => ∃ ρ Hd G E, At K B σ H ρ Hd G ∧ d E ρ G ∧ KS K B.f Hd E D
section
variable {K : PySem.W.Frag} {F : Gm} {Hd Hd' : Hp}
end
section
variable {X : Cx}
theorem pe_imp {e : Expr} {t t' : TE} (h : PE X e t) (i : ∀ σ H Q, t' σ H Q → t σ H Q) : PE X e t' := ⟨fun pins s σ H Q I w => h.run pins s σ H Q I (i σ H Q w)⟩
theorem pt_imp {e : Expr} {t t' : TT} (h : PT X e t) (i : ∀ σ H Q, t' σ H Q → t σ H Q) : PT X e t' := ⟨fun pins s σ H Q I w => h.run pins s σ H Q I (i σ H Q w)⟩
theorem pw_imp {e : Expr} {t t' : TT} (h : PW X e t) (i : ∀ σ H Q, t' σ H Q → t σ H Q) : PW X e t' := ⟨fun wh pins s σ H Q I w => h.run wh pins s σ H Q I (i σ H Q w)⟩
theorem pa_imp {e : List Expr} {t t' : TA} (h : PA X e t) (i : ∀ σ H Q, t' σ H Q → t σ H Q) : PA X e t' := ⟨fun p pins s σ H Q I w => h.run p pins s σ H Q I (i σ H Q w)⟩
theorem ps_imp {e : Stmt} {t t' : TS} (h : PS X e t) (i : ∀ D σ H, t' D σ H → t D σ H) : PS X e t' := ⟨fun pins s σ H D I w => h.run pins s σ H D I (i D σ H w)⟩
theorem pss_imp {e : List Stmt} {t t' : TS} (h : PSs X e t) (i : ∀ D σ H, t' D σ H → t D σ H) : PSs X e t' := ⟨fun pins s σ H D I w => h.run pins s σ H D I (i D σ H w)⟩
end
end DL
namespace DL
open PySem PySem.Spec PyProof.Rows L2 Evl
variable [TabC]
section
variable {X : Cx} {B : Bs} {pos : Pos} {a b c : Expr} {da db dc : DE} {ta tb : DT}
def dVar (i : Nat) : DE := fun ρ G R => ∃ d, ρ[i]? = some (some d) ∧ R d G
theorem pd_v {i : Nat} {e : Expr} (h : PE X e (tVar i)) : PE X e (upE X.K B (dVar i)) := pe_imp h fun σ H Q ⟨ρ, Hd, G, R, at_, ⟨d, hd, hr⟩, k⟩ =>
  let ⟨v, h1, h2⟩ := at_.e.2 i d hd
  ⟨v, h1, k v H Hd d G (Ex.refl _) at_.s h2 hr⟩
theorem pd_var (i : Nat) {x : Str} (hN : X.N[i]? = some x := by rfl) (hv : Vis X.env.scope x := by first | exact Or.inl rfl | exact Or.inr (Or.inl rfl) | exact Or.inr (Or.inr rfl)) (hd : (x == ("__debug__" : Str)) = false := by decide)
    (hcd : (x == ("__classdict__" : Str)) = false := by decide) : PE X (.Name x pos) (upE X.K B (dVar i)) := pd_v (pe_var hN hv hd hcd)
theorem pd_c {e : Expr} {v : V} {d : D} (h : PE X e (tC v)) (r : ∀ Hd, Rp X.K Hd v d) : PE X e (upE X.K B (dC d)) := pe_imp h fun σ H Q ⟨ρ, Hd, G, R, at_, hr, k⟩ =>
  k v H Hd d G (Ex.refl _) at_.s (r Hd) hr
theorem pd_int {i : Int} {j : Nat} : PE X (.Constant (.int i) j pos) (upE X.K B (dC (.int i))) := pd_c pe_int fun _ => .int i
theorem pd_bl {i : Bool} {j : Nat} : PE X (.Constant (.bool i) j pos) (upE X.K B (dC (.bl i))) := pd_c pe_bl fun _ => .bl i
theorem pd_str {i : Str} {j : Nat} : PE X (.Constant (.str i) j pos) (upE X.K B (dC (.str i))) := pd_c pe_str fun _ => .str i
theorem pd_non {j : Nat} : PE X (.Constant .none j pos) (upE X.K B (dC .non)) := pd_c pe_non fun _ => .non
theorem pd_gint {x : Str} {i : Int} (hg : Gl X x) (hm : ∃ t, X.mg x = some (.int i t)) (hd : (x == ("__debug__" : Str)) = false := by decide) : PE X (.Name x pos) (upE X.K B (dC (.int i))) :=
  let ⟨t, h⟩ := hm
  pd_c (v := .int i) (pe_glob hg h ⟨t, rfl⟩ hd) fun _ => .int i
theorem pd_gstr {x : Str} {i : Str} (hg : Gl X x) (hm : ∃ t, X.mg x = some (.str i t)) (hd : (x == ("__debug__" : Str)) = false := by decide) : PE X (.Name x pos) (upE X.K B (dC (.str i))) :=
  let ⟨t, h⟩ := hm
  pd_c (v := .str i) (pe_glob hg h ⟨t, rfl⟩ hd) fun _ => .str i
theorem pd_bty {x : Str} {n : String} (hg : Gl X x) (hm : X.mg x = none) (hv : bootBuiltins x = some (.type n)) (hn : x ≠ "__name__" := by decide) (hd : (x == ("__debug__" : Str)) = false := by decide) : PE X (.Name x pos) (upE X.K B (dC (.ty n))) :=
  pd_c (v := .ty n) (pe_bltn hg hm hv rfl hn hd) fun _ => .ty n
theorem pda_nil : PA X [] (upA X.K B dNil) := pa_imp pa_nil fun σ H Q ⟨ρ, Hd, G, R, at_, hr, k⟩ => k [] H Hd [] G (Ex.refl _) at_.s .nil hr
theorem pda_cons {e : Expr} {es : List Expr} {de : DE} {dr : DA} (he : PE X e (upE X.K B de)) (hr : PA X es (upA X.K B dr)) (hs : starEach (e :: es) X.env = (false, eval e X.env) :: starEach es X.env := by rfl) : PA X (e :: es) (upA X.K B (dCons de dr)) :=
  pa_imp (pa_cons he hr hs) fun σ H Q ⟨ρ, Hd, G, R, at_, h, k⟩ =>
    ⟨ρ, Hd, G, _, at_, h, fun v H1 Hd1 x G1 e1 s1 r1 h1 => ⟨ρ, Hd1, G1, _, at_.step e1 s1, h1, fun vs H2 Hd2 xs G2 e2 s2 r2 h2 => k _ H2 Hd2 _ G2 (e1.trans e2) s2 (.cons (r1.mono e2) r2) h2⟩⟩
def dLstM (dA : DA) : DE := fun ρ G R => dA ρ G fun xs G1 => xs.length ≤ sizeLine ∧ ∀ p, G1 p = none → R (.ref p) (gup G1 p (.lst xs))
theorem st_new {K : PySem.W.Frag} {H : Hp} {p : Addr} {xs : List V} : SqT K (upd H p (.tup xs)) p xs := st_of upd_same
theorem pd_tup {es : List Expr} {dA : DA} {x1 : Nat} (h : PA X es (upA X.K B dA)) : PE X (.Tuple es x1 pos) (upE X.K B (dTup dA)) := pe_imp (pe_tup h) fun σ H Q ⟨ρ, Hd, G, R, at_, h, k⟩ =>
  ⟨ρ, Hd, G, _, at_, h, fun vs H1 Hd1 xs G1 e1 s1 r1 ⟨hz, h1⟩ => ⟨by rw [r1.length]; exact hz, fun p hp => k _ _ _ (.tup xs) G1 (e1.trans (s1.exn hp)) (s1.new hp) (.tup st_new (r1.mono (s1.exn hp))) h1⟩⟩
theorem pd_lst {es : List Expr} {dA : DA} (h : PA X es (upA X.K B dA)) : PE X (.List es pos) (upE X.K B (dLst dA)) := pe_imp (pe_lst h) fun σ H Q ⟨ρ, Hd, G, R, at_, h, k⟩ =>
  ⟨ρ, Hd, G, _, at_, h, fun vs H1 Hd1 xs G1 e1 s1 r1 ⟨hz, h1⟩ => ⟨by rw [r1.length]; exact hz, fun p hp => k _ _ _ (.lst xs) G1 (e1.trans (s1.exn hp)) (s1.new hp) (.lst sq_new (r1.mono (s1.exn hp))) h1⟩⟩
theorem pd_lstM {es : List Expr} {dA : DA} (h : PA X es (upA X.K B dA)) : PE X (.List es pos) (upE X.K B (dLstM dA)) := pe_imp (pe_lst h) fun σ H Q ⟨ρ, Hd, G, R, at_, h, k⟩ =>
  ⟨ρ, Hd, G, _, at_, h, fun vs H1 Hd1 xs G1 e1 s1 r1 ⟨hz, h1⟩ => ⟨by rw [r1.length]; exact hz, fun p hp => k _ _ _ (.ref p) _ e1 (s1.cell (m := .lst xs) hp ⟨_, upd_same, r1⟩) (.ref p) (h1 p (s1.gfree hp))⟩⟩
def OpD (K : PySem.W.Frag) (r : R2) (f : D → D → D → Prop) : Prop := ∀ (F : Gm) (Hd H : Hp) (G : Gm) (v u : V) (x y z : D) (Q : VK), Sim K F Hd H G → Rp K Hd v x → Rp K Hd u y → f x y z → (∀ w H' Hd', Ex Hd Hd' → Sim K F Hd' H' G → Rp K Hd' w z → Q w H') → r v u H Q
theorem opd_imp {K : PySem.W.Frag} {r : R2} {f : D → D → D → Prop} (hd : OpD K r f) {B : Bs} {da db : DE} : ∀ σ H Q, upE K B (dOp f da db) σ H Q → tOp r (upE K B da) (upE K B db) σ H Q := fun σ H Q ⟨ρ, Hd, G, R, at_, h, k⟩ =>
  ⟨ρ, Hd, G, _, at_, h, fun v H1 Hd1 x G1 e1 s1 r1 h1 => ⟨ρ, Hd1, G1, _, at_.step e1 s1, h1, fun u H2 Hd2 y G2 e2 s2 r2 ⟨z, hf, hz⟩ =>
    hd B.f Hd2 H2 G2 v u x y z _ s2 (r1.mono e2) r2 hf fun w H3 Hd3 e3 s3 r3 => k w H3 Hd3 z G2 ((e1.trans e2).trans e3) s3 r3 hz⟩⟩
theorem pd_op {op : Operator} {r : R2} {f : D → D → D → Prop} (ho : OpR X (binaryOp op) r) (hd : OpD X.K r f) (ha : PE X a (upE X.K B da)) (hb : PE X b (upE X.K B db)) : PE X (.BinOp a op b pos) (upE X.K B (dOp f da db)) :=
  pe_imp (pe_op ho ha hb) (opd_imp hd)
theorem pd_cmp {op : CmpOp} {r : R2} {f : D → D → D → Prop} (ho : OpR X (compareOp op) r) (hd : OpD X.K r f) (ha : PE X a (upE X.K B da)) (hb : PE X b (upE X.K B db)) (hm : behindInMarks op b = false) : PE X (.Compare a [op] [b] pos) (upE X.K B (dOp f da db)) :=
  pe_imp (pe_cmpR ho ha hb hm) (opd_imp hd)
def dTst (d : DE) : DT := fun ρ G R => d ρ G fun x G1 => ∃ k, x = .bl k ∧ R k G1
theorem tst_imp {K : PySem.W.Frag} {d : DE} : ∀ σ H Q, upT K B (dTst d) σ H Q → upE K B d σ H fun x H' => ∃ k, x = .bl k ∧ Q k H' := fun σ H Q ⟨ρ, Hd, G, R, at_, h, k⟩ =>
  ⟨ρ, Hd, G, _, at_, h, fun v H1 Hd1 x G1 e1 s1 r1 ⟨t, et, ht⟩ => by
    subst et
    cases r1
    exact ⟨t, rfl, k t H1 Hd1 G1 e1 s1 ht⟩⟩
theorem ptd_cmp {op : CmpOp} {r : R2} {f : D → D → D → Prop} (ho : OpR X (compareOp op) r) (hd : OpD X.K r f) (ha : PE X a (upE X.K B da)) (hb : PE X b (upE X.K B db)) (hm : behindInMarks op b = false) : PT X (.Compare a [op] [b] pos) (upT X.K B (dTst (dOp f da db))) :=
  pt_imp (pt_cmpR ho ha hb hm) fun σ H Q h => opd_imp hd σ H _ (tst_imp σ H Q h)
theorem ptd_val {e : Expr} {d : DE} (h : PE X e (upE X.K B d)) (he : ∀ whole, isTrue e X.env whole = (do let v ← whole; standAt e.pos; holding [v] (truthy v)) := by intro _; rfl) : PT X e (upT X.K B (dTst d)) :=
  pt_imp (pt_val h he) fun σ H Q h => tst_imp σ H Q h
def fIntC (C : Int → Int → Prop) (g : Int → Int → D) (x y z : D) : Prop := ∃ i j, x = .int i ∧ y = .int j ∧ C i j ∧ z = g i j
theorem od_int {K : PySem.W.Frag} {g : Int → Int → Int} : OpD K (rI0 fun i j => .int (g i j)) (fInt fun i j => .int (g i j)) := fun F Hd H G v u x y z Q s rv ru ⟨i, j, ex, ey, ez⟩ k => by
  subst ex ey ez
  cases rv
  cases ru
  exact ⟨i, j, rfl, rfl, k _ H Hd (Ex.refl _) s (.int _)⟩
theorem od_intC {K : PySem.W.Frag} {C : Int → Int → Prop} {g : Int → Int → Int} : OpD K (rI C fun i j => .int (g i j)) (fIntC C fun i j => .int (g i j)) := fun F Hd H G v u x y z Q s rv ru ⟨i, j, ex, ey, c, ez⟩ k => by
  subst ex ey ez
  cases rv
  cases ru
  exact ⟨i, j, rfl, rfl, c, k _ H Hd (Ex.refl _) s (.int _)⟩
theorem od_bl {K : PySem.W.Frag} {g : Int → Int → Bool} : OpD K (rI0 fun i j => .bl (g i j)) (fInt fun i j => .bl (g i j)) := fun F Hd H G v u x y z Q s rv ru ⟨i, j, ex, ey, ez⟩ k => by
  subst ex ey ez
  cases rv
  cases ru
  exact ⟨i, j, rfl, rfl, k _ H Hd (Ex.refl _) s (.bl _)⟩
theorem pd_sub (ha : PE X a (upE X.K B da)) (hb : PE X b (upE X.K B db)) : PE X (.BinOp a .Sub b pos) (upE X.K B (dOp (fInt fun i j => .int (i - j)) da db)) := pd_op op_sub od_int ha hb
theorem pd_fdiv (ha : PE X a (upE X.K B da)) (hb : PE X b (upE X.K B db)) : PE X (.BinOp a .FloorDiv b pos) (upE X.K B (dOp (fIntC CDivW fun i j => .int (i / j)) da db)) := pd_op op_fdivW od_intC ha hb
theorem pd_mod (ha : PE X a (upE X.K B da)) (hb : PE X b (upE X.K B db)) : PE X (.BinOp a .Mod b pos) (upE X.K B (dOp (fIntC (fun _ j => 0 < j) fun i j => .int (i % j)) da db)) := pd_op op_mod od_intC ha hb
def CPw (i j : Int) : Prop := 0 ≤ j ∧ (Builtin.Int.intBits i : Int) * j ≤ 2 ^ 27
theorem op_pw : OpR X (binaryOp .Pow) (rI CPw fun i j => .int (i ^ j.toNat)) := opI fun _ _ _ _ _ _ _ hc q => pow_int hc.1 hc.2 q
theorem pd_pow (ha : PE X a (upE X.K B da)) (hb : PE X b (upE X.K B db)) : PE X (.BinOp a .Pow b pos) (upE X.K B (dOp (fIntC CPw fun i j => .int (i ^ j.toNat)) da db)) := pd_op op_pw od_intC ha hb
def fAdd (x y z : D) : Prop := (∃ i j, x = .int i ∧ y = .int j ∧ z = .int (i + j)) ∨ (∃ i j, x = .str i ∧ y = .str j ∧ i.length + j.length ≤ sizeLine ∧ z = .str (i ++ j))
theorem od_add {K : PySem.W.Frag} : OpD K (fun x y H Q => (rI0 fun i j => .int (i + j)) x y H Q ∨ ∃ i j, x = .str i ∧ y = .str j ∧ i.length + j.length ≤ sizeLine ∧ Q (.str (i ++ j)) H) fAdd := fun F Hd H G v u x y z Q s rv ru f k => by
  rcases f with ⟨i, j, rfl, rfl, rfl⟩ | ⟨i, j, rfl, rfl, h, rfl⟩
  · cases rv
    cases ru
    exact .inl ⟨i, j, rfl, rfl, k _ H Hd (Ex.refl _) s (.int _)⟩
  · cases rv
    cases ru
    exact .inr ⟨i, j, rfl, rfl, h, k _ H Hd (Ex.refl _) s (.str _)⟩
theorem pd_add (ha : PE X a (upE X.K B da)) (hb : PE X b (upE X.K B db)) : PE X (.BinOp a .Add b pos) (upE X.K B (dOp fAdd da db)) := pd_op (op_add.or op_add_str) od_add ha hb
theorem op_mulOk : OpR X (binaryOp .Mult) (rI IntMulOk fun i j => .int (i * j)) := opI fun _ _ _ _ _ _ _ hc q => mul_int q hc
theorem pd_mul (ha : PE X a (upE X.K B da)) (hb : PE X b (upE X.K B db)) : PE X (.BinOp a .Mult b pos) (upE X.K B (dOp (fIntC IntMulOk fun i j => .int (i * j)) da db)) := pd_op op_mulOk od_intC ha hb
def dNeg (da : DE) : DE := fun ρ G R => da ρ G fun x G1 => ∃ i, x = .int i ∧ R (.int (-i)) G1
theorem pd_neg (ha : PE X a (upE X.K B da)) : PE X (.UnaryOp .USub a pos) (upE X.K B (dNeg da)) := pe_imp (pe_un un_neg ha) fun σ H Q ⟨ρ, Hd, G, R, at_, h, k⟩ =>
  ⟨ρ, Hd, G, _, at_, h, fun v H1 Hd1 x G1 e1 s1 r1 ⟨i, ex, hi⟩ => by
    subst ex
    cases r1
    exact ⟨i, rfl, k _ H1 Hd1 _ G1 e1 s1 (.int _) hi⟩⟩
abbrev gLt : Int → Int → D := fun i j => .bl (decide (i < j))
abbrev gLe : Int → Int → D := fun i j => .bl (decide (i ≤ j))
abbrev gGt : Int → Int → D := fun i j => .bl (decide (j < i))
abbrev gGe : Int → Int → D := fun i j => .bl (decide (j ≤ i))
end
end DL
namespace DL
open PySem PySem.Spec PyProof.Rows L2 Evl
variable [TabC]
def D.eqv (x y : D) : Bool := match D.py x, D.py y with
  | some p, some q => PyData.eqv p q
  | _, _ => false
mutual
/-- data that == takes -/
def D.lay : D → Bool
  | .non => true
  | .bl _ => true
  | .int _ => true
  | .str x => PyData.strOk x
  | .tup xs => D.layL xs
  | .lst xs => D.layL xs
  | .ty _ => false
  | .ref _ => false
  | .dct _ _ => false
  | .ins _ _ _ => false
  | .exc _ _ _ => false
  | .fnc _ => false
def D.layL : List D → Bool
  | [] => true
  | x :: xs => D.lay x && D.layL xs
end
mutual
theorem py_lay : ∀ d : D, d.lay = true → ∃ p, d.py = some p ∧ p.canLay0 = true ∧ p.depth = d.dp
  | .non, _ => ⟨_, rfl, rfl, rfl⟩
  | .bl b, _ => ⟨_, rfl, rfl, rfl⟩
  | .int i, _ => ⟨_, rfl, rfl, rfl⟩
  | .str x, h => ⟨_, rfl, h, rfl⟩
  | .tup xs, h => by
    obtain ⟨ps, e, h1, h2⟩ := py_layL xs h
    refine ⟨.tuple ps, by simp only [D.py, e, Option.map_some], h1, ?_⟩
    simp only [PyData.depth, D.dp]
    omega
  | .lst xs, h => by
    obtain ⟨ps, e, h1, h2⟩ := py_layL xs h
    refine ⟨.list ps, by simp only [D.py, e, Option.map_some], h1, ?_⟩
    simp only [PyData.depth, D.dp]
    omega
  | .ty _, h => by cases h
  | .ref _, h => by cases h
  | .dct _ _, h => by cases h
  | .ins _ _ _, h => by cases h
  | .exc _ _ _, h => by cases h
  | .fnc _, h => by cases h
theorem py_layL : ∀ xs : List D, D.layL xs = true → ∃ ps, D.pyL xs = some ps ∧ PyData.canLayAll0 ps = true ∧ PyData.depthAll ps = D.dpL xs
  | [], _ => ⟨[], rfl, rfl, rfl⟩
  | x :: xs, h => by
    have h2 : (D.lay x && D.layL xs) = true := h
    rw [Bool.and_eq_true] at h2
    obtain ⟨p, e, a1, a2⟩ := py_lay x h2.1
    obtain ⟨ps, es, b1, b2⟩ := py_layL xs h2.2
    refine ⟨p :: ps, by simp only [D.pyL, e, es], ?_, ?_⟩
    · simp only [PyData.canLayAll0, a1, b1, Bool.and_self]
    · simp only [PyData.depthAll, D.dpL]
      omega
end
structure Cmp (x : D) : Prop where
  lay : x.lay = true
  dp : x.dp ≤ 60
theorem Cmp.shaped {x : D} (h : Cmp x) : ∃ p, x.py = some p ∧ SeqAt.shaped p = true := by
  obtain ⟨p, e, h2, h5⟩ := py_lay x h.lay
  refine ⟨p, e, ?_⟩
  unfold SeqAt.shaped
  rw [h2, h5, decide_eq_true (Nat.le_trans h.dp (by decide))]
  rfl
def fEq (x y z : D) : Prop := match x, y with
  | .int i, .int j => z = .bl (decide (i = j))
  | .str i, .str j => z = .bl (decide (i = j))
  | .bl i, .bl j => z = .bl (decide (i = j))
  | x, y => Cmp x ∧ Cmp y ∧ z = .bl (D.eqv x y)
def fNe (x y z : D) : Prop := match x, y with
  | .int i, .int j => z = .bl (!decide (i = j))
  | .str i, .str j => z = .bl (!decide (i = j))
  | .bl i, .bl j => z = .bl (!decide (i = j))
  | x, y => Cmp x ∧ Cmp y ∧ z = .bl (!D.eqv x y)
theorem eqv_of {x y : D} {p q : PyData} (h : x.py = some p) (h' : y.py = some q) : D.eqv x y = PyData.eqv p q := by
  unfold D.eqv
  rw [h, h']
def rEq2 (K : PySem.W.Frag) : R2 := fun x y H Q => rEq x y H Q ∨ rEqD K x y H Q
def rNe2 (K : PySem.W.Frag) : R2 := fun x y H Q => rNe x y H Q ∨ rNeD K x y H Q
theorem od_eq0 {K : PySem.W.Frag} : OpD K (rEqD K) (fun x y z => Cmp x ∧ Cmp y ∧ z = .bl (D.eqv x y)) := fun F Hd H G v u x y z Q s rv ru ⟨cx, cy, ez⟩ k => by
  subst ez
  obtain ⟨p, ep, sp⟩ := cx.shaped
  obtain ⟨q, eq, sq⟩ := cy.shaped
  refine ⟨p, q, rp_dp s.sub x rv ep, rp_dp s.sub y ru eq, sp, sq, ?_⟩
  rw [← eqv_of ep eq]
  exact k _ H Hd (Ex.refl _) s (.bl _)
theorem od_ne0 {K : PySem.W.Frag} : OpD K (rNeD K) (fun x y z => Cmp x ∧ Cmp y ∧ z = .bl (!D.eqv x y)) := fun F Hd H G v u x y z Q s rv ru ⟨cx, cy, ez⟩ k => by
  subst ez
  obtain ⟨p, ep, sp⟩ := cx.shaped
  obtain ⟨q, eq, sq⟩ := cy.shaped
  refine ⟨p, q, rp_dp s.sub x rv ep, rp_dp s.sub y ru eq, sp, sq, ?_⟩
  rw [← eqv_of ep eq]
  exact k _ H Hd (Ex.refl _) s (.bl _)
theorem vint {i j : Int} : decide (V.int i = V.int j) = decide (i = j) := decide_eq_decide.mpr ⟨fun h => by injection h, fun h => by rw [h]⟩
theorem vstr {i j : Str} : decide (V.str i = V.str j) = decide (i = j) := decide_eq_decide.mpr ⟨fun h => by injection h, fun h => by rw [h]⟩
theorem vbl {i j : Bool} : decide (V.bl i = V.bl j) = decide (i = j) := decide_eq_decide.mpr ⟨fun h => by injection h, fun h => by rw [h]⟩
theorem od_eq {K : PySem.W.Frag} : OpD K (rEq2 K) fEq := fun F Hd H G v u x y z Q s rv ru f k => by
  unfold fEq at f
  split at f
  · subst f; cases rv; cases ru
    exact .inl ⟨rfl, by rw [vint]; exact k _ H Hd (Ex.refl _) s (.bl _)⟩
  · subst f; cases rv; cases ru
    exact .inl ⟨rfl, by rw [vstr]; exact k _ H Hd (Ex.refl _) s (.bl _)⟩
  · subst f; cases rv; cases ru
    exact .inl ⟨rfl, by rw [vbl]; exact k _ H Hd (Ex.refl _) s (.bl _)⟩
  · exact .inr (od_eq0 F Hd H G v u _ _ z Q s rv ru f k)
theorem od_ne {K : PySem.W.Frag} : OpD K (rNe2 K) fNe := fun F Hd H G v u x y z Q s rv ru f k => by
  unfold fNe at f
  split at f
  · subst f; cases rv; cases ru
    exact .inl ⟨rfl, by rw [vint]; exact k _ H Hd (Ex.refl _) s (.bl _)⟩
  · subst f; cases rv; cases ru
    exact .inl ⟨rfl, by rw [vstr]; exact k _ H Hd (Ex.refl _) s (.bl _)⟩
  · subst f; cases rv; cases ru
    exact .inl ⟨rfl, by rw [vbl]; exact k _ H Hd (Ex.refl _) s (.bl _)⟩
  · exact .inr (od_ne0 F Hd H G v u _ _ z Q s rv ru f k)
section
variable {X : Cx}
theorem op_eq2 (hu : X.A.units + 64 < cLine) : OpR X (compareOp .Eq) (rEq2 X.K) := op_eq.or (op_eqD hu)
theorem op_ne2 (hu : X.A.units + 64 < cLine) : OpR X (compareOp .NotEq) (rNe2 X.K) := op_ne.or (op_neD hu)
end
def rRepr0 (K : PySem.W.Frag) : List V → Hp → VK → Prop := fun vs H Q => ∃ (v : V) (p : PyData), vs = [v] ∧ Dp K H v p ∧ p.showable = true ∧ p.shown.length ≤ sizeLine ∧ p.depth ≤ 60 ∧ p.hasDict = false ∧ Q (.str p.shown) H
def rRepr (K : PySem.W.Frag) : List V → Hp → VK → Prop := fun vs H Q => rRepr0 K vs H Q ∨ ∃ a, vs = [.ref a] ∧ H a = some (.dK []) ∧ Q (.str "{}") H
section
variable {X : Cx}
theorem call_repr0 (hg : X.A.guards = some []) (hu : X.A.units + 64 < cLine) : CallR X (.builtin "repr") (rRepr0 X.K) := by
  intro pins s σ H vs us Q I r h
  obtain ⟨v, p, rfl, hd, h1, h2, h3, h4, q⟩ := h
  obtain ⟨u, rfl, ru⟩ := vals1 r
  obtain ⟨as, rd⟩ := Dp.reads I p v u hd ru
  have fin : ∀ {s' : Shared} {t : Tok}, Inv X pins σ H s' → EP X pins σ Q (.str p.shown t) s' := fun {s' t} I' => ⟨.str _, H, I', ⟨_, rfl⟩, q⟩
  cases hd with
  | non => cases ru; exact PySem.P.repr_of_none (fin (I.tok _))
  | bl b => cases ru; exact PySem.P.repr_of_bool (by have e := fin (t := s.toks) (I.tok (s.toks + 1)); cases b <;> exact e)
  | int i =>
    obtain ⟨t, rfl⟩ := ru
    exact PySem.P.repr_of_int (of_decide_eq_true h1) (fin (I.tok _))
  | str x =>
    obtain ⟨t, rfl⟩ := ru
    exact PySem.P.repr_of_str (fin (I.tok _)) h2
  | lst _ _ =>
    cases ru
    exact repr_of_reads' rd h1 (PyData.noDict_hsm h4) hg (by omega) (fun _ _ e => e) (fun h' t tk k => fin (I.kept k)) h2
  | tup _ _ =>
    cases ru
    exact repr_of_reads' rd h1 (PyData.noDict_hsm h4) hg (by omega) (fun _ _ e => e) (fun h' t tk k => fin (I.kept k)) h2
theorem call_repr (hg : X.A.guards = some []) (hu : X.A.units + 64 < cLine) : CallR X (.builtin "repr") (rRepr X.K) := by
  intro pins s σ H vs us Q I r h
  rcases h with h | ⟨a, rfl, ha, q⟩
  · exact call_repr0 hg hu pins s σ H vs us Q I r h
  · obtain ⟨u, rfl, ru⟩ := vals1 r
    cases (show u = Value.ref a from ru)
    obtain ⟨_, hs, vs2, r2, o, es, ep, h1, h2, h3, _, h5, _⟩ := (show ObjOk X.prog X.w H s.heap a (.dK []) from I.hok a _ ha)
    cases r2
    have e0 : es.toList = [] := by
      generalize es.toList = l at h5
      cases h5
      rfl
    have rd : Reads s.heap (.ref a) (.dict []) (a :: [] ++ []) := .dict h1 h2.1 h3 (by rw [e0]; exact .nil) (by rw [e0]; exact .nil)
    refine repr_of_reads' rd rfl (fun _ z => ?_) hg (by show X.A.units + (0 + 1 + 1) < cLine; omega) (fun _ _ e => e) (fun h' t tk k => ⟨.str "{}", H, I.kept k, ⟨t, rfl⟩, q⟩) (by decide)
    have z2 : a = sysModules := (List.mem_singleton.mp z).symm
    rw [z2] at hs
    simp at hs
end
end DL
namespace DL
open PySem PySem.Spec PyProof.Rows L2 Evl
variable [TabC]
section
variable {K : PySem.W.Frag} {F : Gm} {Hd H : Hp} {G : Gm} {v : V} {x : D} {ds : List D}
theorem LstAt.sq (s : Sim K F Hd H G) (r : Rp K Hd v x) (h : LstAt G x ds) : ∃ a xs, v = .ref a ∧ SqL K H a xs ∧ RpL K Hd xs ds := by
  rcases h with rfl | ⟨a, rfl, h⟩
  · cases r with
    | lst q r => exact ⟨_, _, rfl, ex_l s.sub q, r⟩
  · cases r
    obtain ⟨xs, h1, h2⟩ := s.hold a _ h
    exact ⟨a, xs, rfl, SqL.of h1, h2⟩
theorem SeqAt.sq (s : Sim K F Hd H G) (r : Rp K Hd v x) (h : SeqAt G x ds) : ∃ a xs, v = .ref a ∧ (SqL K H a xs ∨ SqT K H a xs) ∧ RpL K Hd xs ds := by
  rcases h with rfl | h
  · cases r with
    | tup q r => exact ⟨_, _, rfl, .inr (ex_t s.sub q), r⟩
  · obtain ⟨a, xs, e, q, r⟩ := h.sq s r
    exact ⟨a, xs, e, .inl q, r⟩
theorem seq_ref {a : Addr} (h : G a = some (.lst ds)) : SeqAt G (.ref a) ds := .inr (.inr ⟨a, rfl, h⟩)
end
section
variable {X : Cx} {B : Bs} {pos p : Pos} {a b c e : Expr} {es : List Expr} {da db dc : DE} {dA : DA} {ta tb : DT}
def CalD (K : PySem.W.Frag) (r : List V → Hp → VK → Prop) (f : Gm → List D → D → Prop) : Prop :=
  ∀ (F : Gm) (Hd H : Hp) (G : Gm) (vs : List V) (xs : List D) (z : D) (Q : VK), Sim K F Hd H G → RpL K Hd vs xs → f G xs z → (∀ w H' Hd', Ex Hd Hd' → Sim K F Hd' H' G → Rp K Hd' w z → Q w H') → r vs H Q
theorem cal_imp {K : PySem.W.Frag} {r : List V → Hp → VK → Prop} {f : Gm → List D → D → Prop} (hd : CalD K r f) {B : Bs} {dA : DA} : ∀ σ H Q, upE K B (dCal f dA) σ H Q → tCB r (upA K B dA) σ H Q := fun σ H Q ⟨ρ, Hd, G, R, at_, h, k⟩ =>
  ⟨ρ, Hd, G, _, at_, h, fun vs H1 Hd1 xs G1 e1 s1 r1 ⟨z, hf, hz⟩ => hd B.f Hd1 H1 G1 vs xs z _ s1 r1 hf fun w H3 Hd3 e3 s3 r3 => k w H3 Hd3 z G1 (e1.trans e3) s3 r3 hz⟩
theorem pd_callB {id : String} {r : List V → Hp → VK → Prop} {f : Gm → List D → D → Prop} {x : Str} (hc : CallR X (.builtin id) r) (hd : CalD X.K r f) (hg : Gl X x) (hm : X.mg x = none) (hv : bootBuiltins x = some (.builtin id)) (ha : PA X (e :: es) (upA X.K B dA))
    (hn : x ≠ "__name__" := by decide) (hdb : (x == ("__debug__" : Str)) = false := by decide)
    (he : starEach (e :: es) X.env = (false, eval e X.env) :: starEach es X.env := by rfl) (hpl : (backTo pos (starEach es X.env)).any (·.1) = false := by rfl) : PE X (.Call (.Name x p) (e :: es) [] pos) (upE X.K B (dCal f dA)) :=
  pe_imp (pe_callB hc hg hm hv ha hn hdb he hpl) (cal_imp hd)
theorem pd_callTy {T : String} {r : List V → Hp → VK → Prop} {f : Gm → List D → D → Prop} {x : Str} (hc : CallR X (.type T) r) (hd : CalD X.K r f) (hg : Gl X x) (hm : X.mg x = none) (hv : bootBuiltins x = some (.type T)) (ha : PA X (e :: es) (upA X.K B dA))
    (hn : x ≠ "__name__" := by decide) (hdb : (x == ("__debug__" : Str)) = false := by decide)
    (he : starEach (e :: es) X.env = (false, eval e X.env) :: starEach es X.env := by rfl) (hpl : (backTo pos (starEach es X.env)).any (·.1) = false := by rfl) : PE X (.Call (.Name x p) (e :: es) [] pos) (upE X.K B (dCal f dA)) :=
  pe_imp (pe_callTy hc hg hm hv ha hn hdb he hpl) (cal_imp hd)
theorem rpl1 {K : PySem.W.Frag} {Hd : Hp} {vs : List V} {x : D} (r : RpL K Hd vs [x]) : ∃ v, vs = [v] ∧ Rp K Hd v x := by
  cases r with
  | cons a b =>
    cases b
    exact ⟨_, rfl, a⟩
theorem rpl2 {K : PySem.W.Frag} {Hd : Hp} {vs : List V} {x y : D} (r : RpL K Hd vs [x, y]) : ∃ v u, vs = [v, u] ∧ Rp K Hd v x ∧ Rp K Hd u y := by
  cases r with
  | cons a b =>
    obtain ⟨u, rfl, h⟩ := rpl1 b
    exact ⟨_, _, rfl, a, h⟩
theorem cd_repr {K : PySem.W.Frag} : CalD K (rRepr K) fRepr := fun F Hd H G vs xs z Q s r ⟨x, ex, h, ez⟩ k => by
  subst ex ez
  obtain ⟨v, rfl, rv⟩ := rpl1 r
  rcases h with h | rfl
  · obtain ⟨q, e, h1, h2, h3, h4, h5⟩ := h.py
    refine .inl ⟨v, q, rfl, rp_dp s.sub x rv e, h1, h2, h3, h4, ?_⟩
    rw [← h5]
    exact k _ H Hd (Ex.refl _) s (.str _)
  · cases rv with
    | @dct a ks xs ds q l r2 =>
      cases r2
      exact .inr ⟨_, rfl, s.sub _ _ q, k _ H Hd (Ex.refl _) s (.str _)⟩
theorem cd_len {K : PySem.W.Frag} : CalD K (fun xs H Q => ∃ x n, xs = [x] ∧ LenV K x H n ∧ Q (.int n) H) fLen := fun F Hd H G vs xs z Q s r ⟨x, ex, h⟩ k => by
  subst ex
  obtain ⟨v, rfl, rv⟩ := rpl1 r
  rcases h with ⟨ds, h, rfl⟩ | ⟨y, rfl, h, rfl⟩
  · obtain ⟨a, ys, rfl, q, r2⟩ := h.sq s rv
    refine ⟨_, ys.length, rfl, ?_, by rw [r2.length]; exact k _ H Hd (Ex.refl _) s (.int _)⟩
    rcases q with q | q
    · exact .inl ⟨ys, q, rfl⟩
    · exact .inr ⟨ys, q, rfl⟩
  · cases rv
    exact ⟨_, y.length, rfl, ⟨h, rfl⟩, k _ H Hd (Ex.refl _) s (.int _)⟩
theorem pd_len {x : Str} (hx : x = "len") (hg : Gl X x) (hm : X.mg x = none) (ha : PE X e (upE X.K B da)) (he : starEach (e :: []) X.env = (false, eval e X.env) :: starEach [] X.env := by rfl) (hpl : (backTo pos (starEach [] X.env)).any (·.1) = false := by rfl) :
    PE X (.Call (.Name x p) (e :: []) [] pos) (upE X.K B (dCal fLen (dCons da dNil))) := by
  subst hx
  exact pd_callB call_len cd_len hg hm PySem.boot_len (pda_cons ha pda_nil he) (by decide) (by decide) he hpl
theorem cd_abs {K : PySem.W.Frag} : CalD K (fun xs H Q => ∃ i, xs = [.int i] ∧ Q (.int (if i < 0 then -i else i)) H) fAbs := fun F Hd H G vs xs z Q s r ⟨i, ex, ez⟩ k => by
  subst ex ez
  obtain ⟨v, rfl, rv⟩ := rpl1 r
  cases rv
  exact ⟨i, rfl, k _ H Hd (Ex.refl _) s (.int _)⟩
def fIntOf (_ : Gm) (xs : List D) (z : D) : Prop := (∃ i : Int, xs = [.int i] ∧ z = .int i) ∨ ∃ b : Bool, xs = [.bl b] ∧ z = .int (if b then 1 else 0)
theorem cd_int {K : PySem.W.Frag} : CalD K (fun xs H Q => (∃ i, xs = [.int i] ∧ Q (.int i) H) ∨ ∃ k, xs = [.bl k] ∧ Q (.int (if k then 1 else 0)) H) fIntOf := fun F Hd H G vs xs z Q s r h k => by
  rcases h with ⟨i, ex, ez⟩ | ⟨b, ex, ez⟩
  · subst ex ez
    obtain ⟨v, rfl, rv⟩ := rpl1 r
    cases rv
    exact .inl ⟨i, rfl, k _ H Hd (Ex.refl _) s (.int _)⟩
  · subst ex ez
    obtain ⟨v, rfl, rv⟩ := rpl1 r
    cases rv
    exact .inr ⟨b, rfl, k _ H Hd (Ex.refl _) s (.int _)⟩
def fTupOf (G : Gm) (xs : List D) (z : D) : Prop := ∃ x ds, xs = [x] ∧ SeqAt G x ds ∧ z = .tup ds
theorem cd_tuple {K : PySem.W.Frag} : CalD K (fun xs H Q => ∃ p ys, xs = [.ref p] ∧ ((SqL K H p ys ∧ ∀ l, H l = none → Q (.ref l) (upd H l (.tup ys))) ∨ (SqT K H p ys ∧ Q (.ref p) H))) fTupOf := fun F Hd H G vs xs z Q s r ⟨x, ds, ex, h, ez⟩ k => by
  subst ex ez
  obtain ⟨v, rfl, rv⟩ := rpl1 r
  rcases h with rfl | h
  · cases rv with
    | tup q r2 => exact ⟨_, _, rfl, .inr ⟨ex_t s.sub q, k _ H Hd (Ex.refl _) s (.tup q r2)⟩⟩
  · obtain ⟨a, ys, rfl, q, r2⟩ := h.sq s rv
    exact ⟨a, ys, rfl, .inl ⟨q, fun l hl => k _ _ _ (s.exn hl) (s.new hl) (.tup st_new (r2.mono (s.exn hl)))⟩⟩
def fLstOf (G : Gm) (xs : List D) (z : D) : Prop := ∃ x ds, xs = [x] ∧ SeqAt G x ds ∧ z = .lst ds
theorem cd_list {K : PySem.W.Frag} : CalD K (fun xs H Q => ∃ p ys, xs = [.ref p] ∧ (SqL K H p ys ∨ SqT K H p ys) ∧ ∀ l, H l = none → Q (.ref l) (upd H l (.lst ys))) fLstOf := fun F Hd H G vs xs z Q s r ⟨x, ds, ex, h, ez⟩ k => by
  subst ex ez
  obtain ⟨v, rfl, rv⟩ := rpl1 r
  obtain ⟨a, ys, rfl, q, r2⟩ := h.sq s rv
  exact ⟨a, ys, rfl, q, fun l hl => k _ _ _ (s.exn hl) (s.new hl) (.lst sq_new (r2.mono (s.exn hl)))⟩
def fAny (G : Gm) (xs : List D) (z : D) : Prop := ∃ x, ∃ bs : List Bool, xs = [x] ∧ LstAt G x (bs.map D.bl) ∧ z = .bl (bs.any id)
theorem rp_bls {K : PySem.W.Frag} {H : Hp} : ∀ {bs : List Bool} {vs : List V}, RpL K H vs (bs.map D.bl) → vs = bs.map V.bl
  | [], _, r => by cases r; rfl
  | b :: bs, _, r => by
    cases r with
    | cons x y =>
      cases x
      rw [rp_bls y]
      rfl
theorem cd_all {K : PySem.W.Frag} : CalD K (rAll K) fAll := fun F Hd H G vs xs z Q s r ⟨x, bs, ex, h, ez⟩ k => by
  subst ex ez
  obtain ⟨v, rfl, rv⟩ := rpl1 r
  obtain ⟨a, ys, rfl, q, r2⟩ := h.sq s rv
  rw [rp_bls r2] at q
  exact ⟨a, bs, rfl, q, k _ H Hd (Ex.refl _) s (.bl _)⟩
theorem cd_any {K : PySem.W.Frag} : CalD K (rAny K) fAny := fun F Hd H G vs xs z Q s r ⟨x, bs, ex, h, ez⟩ k => by
  subst ex ez
  obtain ⟨v, rfl, rv⟩ := rpl1 r
  obtain ⟨a, ys, rfl, q, r2⟩ := h.sq s rv
  rw [rp_bls r2] at q
  exact ⟨a, bs, rfl, q, k _ H Hd (Ex.refl _) s (.bl _)⟩
def D.tyn : D → Option String
  | .non => some "NoneType"
  | .bl _ => some "bool"
  | .int _ => some "int"
  | .str _ => some "str"
  | .tup _ => some "tuple"
  | .lst _ => some "list"
  | .dct _ _ => some "dict"
  | _ => none
theorem ty_of {K : PySem.W.Frag} {F : Gm} {Hd H : Hp} {G : Gm} {v : V} {x : D} {t : String} (s : Sim K F Hd H G) (r : Rp K Hd v x) (h : x.tyn = some t) : TyX K H v (.type t) := by
  cases r with
  | non => cases h; exact .base .non
  | bl b => cases h; exact .base (.bl b)
  | int i => cases h; exact .base (.int i)
  | str y => cases h; exact .base (.str y)
  | tup q _ =>
    cases h
    rcases ex_t s.sub q with (q | ⟨o, q⟩) | ⟨o, its, n, q, c, _⟩
    · exact .base (.tup q)
    · exact .fTuple q
    · exact .kTuple q c
  | lst q _ =>
    cases h
    rcases ex_l s.sub q with (q | ⟨o, q⟩) | ⟨o, its, n, q, c, _⟩
    · exact .base (.lst q)
    · exact .base (.frz q)
    · exact .kList q c
  | dct q _ _ => cases h; exact .base (.dK (s.sub _ _ q))
  | ty _ => cases h
  | ref _ => cases h
  | ins _ _ _ => cases h
  | exc _ _ _ _ => cases h
  | fnc _ => cases h
def isK (t n : String) : Bool := t == n || (t == "bool" && n == "int")
theorem kit_is : ∀ t ∈ ["NoneType", "bool", "int", "str", "tuple", "list", "dict"], ∀ n ∈ ["int", "bool", "str", "list", "tuple", "dict"], kitB t n = some (isK t n) := by decide +kernel
theorem tyn_in {x : D} {t : String} (h : x.tyn = some t) : t ∈ ["NoneType", "bool", "int", "str", "tuple", "list", "dict"] := by
  cases x <;> cases h <;> decide
def fIsi (n : String) (_ : Gm) (xs : List D) (z : D) : Prop := ∃ x t, xs = [x, .ty n] ∧ x.tyn = some t ∧ z = .bl (isK t n)
theorem cd_isi {K : PySem.W.Frag} {n : String} (hn : n ∈ ["int", "bool", "str", "list", "tuple", "dict"]) : CalD K (rIsi K) (fIsi n) := fun F Hd H G vs xs z Q s r ⟨x, t, ex, h, ez⟩ k => by
  subst ex ez
  obtain ⟨v, u, rfl, rv, ru⟩ := rpl2 r
  cases ru
  exact ⟨v, .ty n, .type t, .type n, _, rfl, .ty n, ty_of s rv h, kit_ty (kit_is t (tyn_in h) n hn), k _ H Hd (Ex.refl _) s (.bl _)⟩
theorem pd_isi {n : String} {q : Pos} {m x : Str} (hx : x = "isinstance") (hn : n ∈ ["int", "bool", "str", "list", "tuple", "dict"]) (hg : Gl X x) (hm : X.mg x = none) (ha : PE X e (upE X.K B da)) (ht : PE X (.Name m q) (upE X.K B (dC (.ty n))))
    (he : starEach (e :: [.Name m q]) X.env = (false, eval e X.env) :: starEach [.Name m q] X.env := by rfl) (he2 : starEach ((.Name m q) :: []) X.env = (false, eval (.Name m q) X.env) :: starEach [] X.env := by rfl) (hpl : (backTo pos (starEach [.Name m q] X.env)).any (·.1) = false := by rfl) :
    PE X (.Call (.Name x p) (e :: [.Name m q]) [] pos) (upE X.K B (dCal (fIsi n) (dCons da (dCons (dC (.ty n)) dNil)))) := by
  subst hx
  exact pd_callB call_isi (cd_isi hn) hg hm (by decide +kernel) (pda_cons ha (pda_cons ht pda_nil he2) he) (by decide) (by decide) he hpl
def tTys (ns : List String) : TA := fun _ H Q => Q (ns.map V.ty) H
theorem pty_nil : PA X [] (tTys []) := pa_imp pa_nil fun _ _ _ h => h
theorem pty_cons {n : String} {ns : List String} (ht : PE X e (tC (.ty n))) (hr : PA X es (tTys ns)) (hs : starEach (e :: es) X.env = (false, eval e X.env) :: starEach es X.env := by rfl) : PA X (e :: es) (tTys (n :: ns)) := pa_imp (pa_cons ht hr hs) fun _ _ _ h => h
theorem pe_ty {x : Str} {n : String} {q : Pos} (hg : Gl X x) (hm : X.mg x = none) (hv : bootBuiltins x = some (.type n)) (hn : x ≠ "__name__" := by decide) (hd : (x == ("__debug__" : Str)) = false := by decide) : PE X (.Name x q) (tC (.ty n)) := pe_bltn hg hm hv rfl hn hd
theorem paired_ty : ∀ ns : List String, Paired ClsV (ns.map V.ty) (ns.map Value.type)
  | [] => .nil
  | n :: ns => .cons (.ty n) (paired_ty ns)
theorem kit_any {K : PySem.W.Frag} {t : String} (ht : t ∈ ["NoneType", "bool", "int", "str", "tuple", "list", "dict"]) : ∀ ns : List String, (∀ n ∈ ns, n ∈ ["int", "bool", "str", "list", "tuple", "dict"]) → PySem.W.kitAny K (.type t) (ns.map Value.type) = some (ns.any (isK t))
  | [], _ => rfl
  | n :: ns, h => by
    have h1 := kit_is t ht n (h n List.mem_cons_self)
    refine kitAny_cons (kit_ty h1) (fun hb => ?_) (fun hb => ?_)
    · rw [kit_any ht ns fun m hm => h m (List.mem_cons_of_mem _ hm)]
      rw [List.any_cons, hb, Bool.false_or]
    · rw [List.any_cons, hb, Bool.true_or]
def dIsiT (ns : List String) (da : DE) : DE := fun ρ G R => da ρ G fun x G1 => ∃ t, x.tyn = some t ∧ R (.bl (ns.any (isK t))) G1
theorem pd_isiT {ns : List String} {x1 : Nat} {q : Pos} {x : Str} (hx : x = "isinstance") (hn : ∀ n ∈ ns, n ∈ ["int", "bool", "str", "list", "tuple", "dict"]) (hz : ns.length ≤ sizeLine) (hg : Gl X x) (hm : X.mg x = none) (ha : PE X e (upE X.K B da)) (ht : PA X es (tTys ns))
    (he : starEach (e :: [.Tuple es x1 q]) X.env = (false, eval e X.env) :: starEach [.Tuple es x1 q] X.env := by rfl) (he2 : starEach ((.Tuple es x1 q) :: []) X.env = (false, eval (.Tuple es x1 q) X.env) :: starEach [] X.env := by rfl) (hpl : (backTo pos (starEach [.Tuple es x1 q] X.env)).any (·.1) = false := by rfl) :
    PE X (.Call (.Name x p) (e :: [.Tuple es x1 q]) [] pos) (upE X.K B (dIsiT ns da)) := by
  subst hx
  refine pe_imp (pe_callB call_isiT hg hm (by decide +kernel) (pa_cons ha (pa_cons (pe_tup ht) pa_nil he2) he) (by decide) (by decide) he hpl) fun σ H Q ⟨ρ, Hd, G, R, at_, h, k⟩ => ?_
  refine ⟨ρ, Hd, G, _, at_, h, fun v H1 Hd1 x G1 e1 s1 r1 ⟨t, et, hr⟩ => ?_⟩
  refine ⟨by rw [List.length_map]; exact hz, fun pp hp => ?_⟩
  exact ⟨v, pp, ns.map V.ty, .type t, ns.map Value.type, _, rfl, upd_same, paired_ty ns, ty_of (s1.side hp) r1 et, kit_any (tyn_in et) ns hn, k _ _ Hd1 _ G1 e1 (s1.side hp) (.bl _) hr⟩
theorem rpl_atI {K : PySem.W.Frag} {H : Hp} {vs : List V} {ds : List D} {i : Int} {d : D} (r : RpL K H vs ds) (h : atI ds i = some d) : ∃ v, atI vs i = some v ∧ Rp K H v d := by
  unfold atI at h ⊢
  rw [r.length]
  cases e : ixN ds.length i with
  | none =>
    rw [e] at h
    cases h
  | some j =>
    rw [e] at h
    exact r.at h
theorem pd_ix (ha : PE X a (upE X.K B da)) (hb : PE X b (upE X.K B db)) (hs : PlainIx b) : PE X (.Subscript a b pos) (upE X.K B (dIx da db)) := pe_imp (pe_ix ix_seq ha hb hs) fun σ H Q ⟨ρ, Hd, G, R, at_, h, k⟩ =>
  ⟨ρ, Hd, G, _, at_, h, fun v H1 Hd1 x G1 e1 s1 r1 h1 => ⟨ρ, Hd1, G1, _, at_.step e1 s1, h1, fun u H2 Hd2 y G2 e2 s2 r2 ⟨z, hf, hz⟩ => by
    have fin : ∀ w, Rp X.K Hd2 w z → Q w H2 := fun w r => k w H2 Hd2 z G2 (e1.trans e2) s2 r hz
    rcases hf with ⟨ds, i, hs, rfl, hi⟩ | ⟨t, i, cc, rfl, rfl, hz2, hi, rfl⟩
    · cases r2
      obtain ⟨q, xs, rfl, hq, r3⟩ := hs.sq s2 (r1.mono e2)
      obtain ⟨w, hw, rw_⟩ := rpl_atI r3 hi
      rcases hq with hq | hq
      · exact .inl ⟨q, xs, i, w, rfl, rfl, hq, hw, fin w rw_⟩
      · exact .inr (.inl ⟨q, xs, i, w, rfl, rfl, hq, hw, fin w rw_⟩)
    · cases r2
      cases r1
      exact .inr (.inr ⟨t, i, cc, rfl, rfl, hz2, hi, fin _ (.str _)⟩)⟩⟩
def dAndV (da db : DE) : DE := fun ρ G R => da ρ G fun x G1 => ∃ k, x = .bl k ∧ if k = true then db ρ G1 R else R (.bl false) G1
def dOrV (da db : DE) : DE := fun ρ G R => da ρ G fun x G1 => ∃ k, x = .bl k ∧ if k = true then R (.bl true) G1 else db ρ G1 R
def dNotV (da : DE) : DE := fun ρ G R => da ρ G fun x G1 => ∃ k, x = .bl k ∧ R (.bl (!k)) G1
variable {rest : List Expr} {A2 B2 : Expr}
theorem pd_one {op : BoolOp} (h : PE X a (upE X.K B da)) : PE X (.BoolOp op [a] pos) (upE X.K B da) := pe_one h
theorem pd_and (ha : PE X a (upE X.K B da)) (hb : PE X (.BoolOp .And (b :: rest) pos) (upE X.K B db)) : PE X (.BoolOp .And (a :: b :: rest) pos) (upE X.K B (dAndV da db)) := pe_imp (pe_and ha hb) fun σ H Q ⟨ρ, Hd, G, R, at_, h, k⟩ =>
  ⟨ρ, Hd, G, _, at_, h, fun v H1 Hd1 x G1 e1 s1 r1 ⟨t, et, h1⟩ => by
    subst et
    cases r1
    refine ⟨t, rfl, ?_⟩
    cases t with
    | true => exact ⟨ρ, Hd1, G1, R, at_.step e1 s1, h1, k.mono e1⟩
    | false => exact k _ H1 Hd1 _ G1 e1 s1 (.bl _) h1⟩
theorem pd_or (ha : PE X a (upE X.K B da)) (hb : PE X (.BoolOp .Or (b :: rest) pos) (upE X.K B db)) : PE X (.BoolOp .Or (a :: b :: rest) pos) (upE X.K B (dOrV da db)) := pe_imp (pe_or ha hb) fun σ H Q ⟨ρ, Hd, G, R, at_, h, k⟩ =>
  ⟨ρ, Hd, G, _, at_, h, fun v H1 Hd1 x G1 e1 s1 r1 ⟨t, et, h1⟩ => by
    subst et
    cases r1
    refine ⟨t, rfl, ?_⟩
    cases t with
    | true => exact k _ H1 Hd1 _ G1 e1 s1 (.bl _) h1
    | false => exact ⟨ρ, Hd1, G1, R, at_.step e1 s1, h1, k.mono e1⟩⟩
theorem pd_not (ha : PE X a (upE X.K B da)) : PE X (.UnaryOp .Not a pos) (upE X.K B (dNotV da)) := pe_imp (pe_not ha) fun σ H Q ⟨ρ, Hd, G, R, at_, h, k⟩ =>
  ⟨ρ, Hd, G, _, at_, h, fun v H1 Hd1 x G1 e1 s1 r1 ⟨t, et, h1⟩ => by
    subst et
    cases r1
    exact ⟨t, rfl, k _ H1 Hd1 _ G1 e1 s1 (.bl _) h1⟩⟩
def dAnd (t u : DT) : DT := fun ρ G R => t ρ G fun k G1 => if k = true then u ρ G1 R else R false G1
def dOr (t u : DT) : DT := fun ρ G R => t ρ G fun k G1 => if k = true then R true G1 else u ρ G1 R
def dNot (t : DT) : DT := fun ρ G R => t ρ G fun k G1 => R (!k) G1
theorem pwd_and1 (ha : PT X a (upT X.K B ta)) : PW X (.BoolOp .And [a] pos) (upT X.K B ta) := pw_and1 ha
theorem pwd_or1 (ha : PT X a (upT X.K B ta)) : PW X (.BoolOp .Or [a] pos) (upT X.K B ta) := pw_or1 ha
theorem pwd_and (ha : PT X a (upT X.K B ta)) (hb : PW X (.BoolOp .And (b :: rest) pos) (upT X.K B tb)) : PW X (.BoolOp .And (a :: b :: rest) pos) (upT X.K B (dAnd ta tb)) := pw_imp (pw_and ha hb) fun σ H Q ⟨ρ, Hd, G, R, at_, h, k⟩ =>
  ⟨ρ, Hd, G, _, at_, h, fun t H1 Hd1 G1 e1 s1 h1 => by
    cases t with
    | true => exact ⟨ρ, Hd1, G1, R, at_.step e1 s1, h1, k.mono e1⟩
    | false => exact k _ H1 Hd1 G1 e1 s1 h1⟩
theorem pwd_or (ha : PT X a (upT X.K B ta)) (hb : PW X (.BoolOp .Or (b :: rest) pos) (upT X.K B tb)) : PW X (.BoolOp .Or (a :: b :: rest) pos) (upT X.K B (dOr ta tb)) := pw_imp (pw_or ha hb) fun σ H Q ⟨ρ, Hd, G, R, at_, h, k⟩ =>
  ⟨ρ, Hd, G, _, at_, h, fun t H1 Hd1 G1 e1 s1 h1 => by
    cases t with
    | true => exact k _ H1 Hd1 G1 e1 s1 h1
    | false => exact ⟨ρ, Hd1, G1, R, at_.step e1 s1, h1, k.mono e1⟩⟩
theorem ptd_not (ha : PT X a (upT X.K B ta)) : PT X (.UnaryOp .Not a pos) (upT X.K B (dNot ta)) := pt_imp (pt_not ha) fun σ H Q ⟨ρ, Hd, G, R, at_, h, k⟩ =>
  ⟨ρ, Hd, G, _, at_, h, fun t H1 Hd1 G1 e1 s1 h1 => k _ H1 Hd1 G1 e1 s1 h1⟩
def dIf (t : DT) (da db : DE) : DE := fun ρ G R => t ρ G fun k G1 => if k = true then da ρ G1 R else db ρ G1 R
theorem pd_if (hc : PT X c (upT X.K B ta)) (ha : PE X a (upE X.K B da)) (hb : PE X b (upE X.K B db)) : PE X (.IfExp c a b pos) (upE X.K B (dIf ta da db)) := pe_imp (pe_ifExp hc ha hb) fun σ H Q ⟨ρ, Hd, G, R, at_, h, k⟩ =>
  ⟨ρ, Hd, G, _, at_, h, fun t H1 Hd1 G1 e1 s1 h1 => by
    cases t with
    | true => exact ⟨ρ, Hd1, G1, R, at_.step e1 s1, h1, k.mono e1⟩
    | false => exact ⟨ρ, Hd1, G1, R, at_.step e1 s1, h1, k.mono e1⟩⟩
def D.isN : D → Bool
  | .non => true
  | _ => false
def dIsN (da : DE) : DE := fun ρ G R => da ρ G fun x G1 => R (.bl x.isN) G1
def dNotN (da : DE) : DE := fun ρ G R => da ρ G fun x G1 => R (.bl (!x.isN)) G1
theorem non_iff {K : PySem.W.Frag} {H : Hp} {v : V} {x : D} (r : Rp K H v x) : decide (v = .non) = x.isN := by
  cases r <;> first | rfl | exact decide_eq_false (fun z => nomatch z)
theorem isn_imp {K : PySem.W.Frag} : ∀ σ H Q, upE K B (dIsN da) σ H Q → tIsN (upE K B da) σ H Q := fun σ H Q ⟨ρ, Hd, G, R, at_, h, k⟩ =>
  ⟨ρ, Hd, G, _, at_, h, fun v H1 Hd1 x G1 e1 s1 r1 h1 => by
    show Q (.bl (decide (v = .non))) H1
    rw [non_iff r1]
    exact k _ H1 Hd1 _ G1 e1 s1 (.bl _) h1⟩
theorem notn_imp {K : PySem.W.Frag} : ∀ σ H Q, upE K B (dNotN da) σ H Q → tNotN (upE K B da) σ H Q := fun σ H Q ⟨ρ, Hd, G, R, at_, h, k⟩ =>
  ⟨ρ, Hd, G, _, at_, h, fun v H1 Hd1 x G1 e1 s1 r1 h1 => by
    show Q (.bl (!decide (v = .non))) H1
    rw [non_iff r1]
    exact k _ H1 Hd1 _ G1 e1 s1 (.bl _) h1⟩
theorem pd_isN {j : Nat} {pp : Pos} (ha : PE X a (upE X.K B da)) : PE X (.Compare a [.Is] [.Constant .none j pp] pos) (upE X.K B (dIsN da)) := pe_imp (pe_cmp (pc_isN ha) rfl) isn_imp
theorem pd_notN {j : Nat} {pp : Pos} (ha : PE X a (upE X.K B da)) : PE X (.Compare a [.IsNot] [.Constant .none j pp] pos) (upE X.K B (dNotN da)) := pe_imp (pe_cmp (pc_notN ha) rfl) notn_imp
def dChain (f g : D → D → D → Prop) (da db dc : DE) : DE := fun ρ G R => da ρ G fun x G1 => db ρ G1 fun y G2 => ∃ k, f x y (.bl k) ∧ if k = true then dc ρ G2 fun z G3 => ∃ w, g y z w ∧ R w G3 else R (.bl false) G2
theorem chain_imp {K : PySem.W.Frag} {r r' : R2} {f g : D → D → D → Prop} (hd : OpD K r f) (hd' : OpD K r' g) : ∀ σ H Q, upE K B (dChain f g da db dc) σ H Q → tChain r r' (upE K B da) (upE K B db) (upE K B dc) σ H Q := fun σ H Q ⟨ρ, Hd, G, R, at_, h, k⟩ =>
  ⟨ρ, Hd, G, _, at_, h, fun v H1 Hd1 x G1 e1 s1 r1 h1 => ⟨ρ, Hd1, G1, _, at_.step e1 s1, h1, fun u H2 Hd2 y G2 e2 s2 r2 ⟨t, hf, hz⟩ =>
    hd B.f Hd2 H2 G2 v u x y (.bl t) _ s2 (r1.mono e2) r2 hf fun w H3 Hd3 e3 s3 r3 => by
      cases r3
      refine ⟨t, rfl, ?_⟩
      cases t with
      | false => exact k _ H3 Hd3 _ G2 ((e1.trans e2).trans e3) s3 (.bl _) hz
      | true => exact ⟨ρ, Hd3, G2, _, (at_.step (e1.trans e2) s2).step e3 s3, hz, fun w4 H4 Hd4 z G4 e4 s4 r4 ⟨w5, hg, h5⟩ =>
          hd' B.f Hd4 H4 G4 u w4 y z w5 _ s4 (r2.mono (e3.trans e4)) r4 hg fun w6 H6 Hd6 e6 s6 r6 => k w6 H6 Hd6 w5 G4 ((((e1.trans e2).trans e3).trans e4).trans e6) s6 r6 h5⟩⟩⟩
theorem ptd_chain {op op' : CmpOp} {r r' : R2} {f g : D → D → D → Prop} (ho : OpR X (compareOp op) r) (ho' : OpR X (compareOp op') r') (hd : OpD X.K r f) (hd' : OpD X.K r' g) (ha : PE X a (upE X.K B da)) (hb : PE X b (upE X.K B db)) (hc : PE X c (upE X.K B dc))
    (hm : lastMarks [op, op'] [b, c] = false := by with_unfolding_all rfl) : PT X (.Compare a [op, op'] [b, c] pos) (upT X.K B (dTst (dChain f g da db dc))) := pt_imp (pt_chain ho ho' ha hb hc hm) fun σ H Q h => chain_imp hd hd' σ H _ (tst_imp σ H Q h)
def dDct0 : DE := fun _ G R => R (.dct [] []) G
theorem pd_dct0 : PE X (.Dict [] [] pos) (upE X.K B dDct0) := pe_imp pe_dnewK fun σ H Q ⟨ρ, Hd, G, R, at_, h, k⟩ =>
  fun pp hp => k _ _ _ _ G (at_.s.exn hp) (at_.s.new hp) (.dct (ks := []) (xs := []) (by rw [upd_same]; rfl) rfl .nil) h
def upO (K : PySem.W.Frag) (B : Bs) (d : DO) : TO := fun σ H Q => ∃ ρ Hd G R, At K B σ H ρ Hd G ∧ d ρ G R ∧ ∀ o H' Hd' G', Ex Hd Hd' → Sim K B.f Hd' H' G' → R o G' → Q o H'
theorem po_imp {eo : Option Expr} {t t' : TO} (h : PO X eo t) (i : ∀ σ H Q, t' σ H Q → t σ H Q) : PO X eo t' := ⟨fun pins s σ H Q I w => h.run pins s σ H Q I (i σ H Q w)⟩
theorem pod_none : PO X none (upO X.K B dNoP) := po_imp po_none fun σ H Q ⟨ρ, Hd, G, R, at_, h, k⟩ => k none H Hd G (Ex.refl _) at_.s h
theorem pod_some (h : PE X e (upE X.K B da)) : PO X (some e) (upO X.K B (dPart da)) := po_imp (po_some h) fun σ H Q ⟨ρ, Hd, G, R, at_, h, k⟩ =>
  ⟨ρ, Hd, G, _, at_, h, fun v H1 Hd1 x G1 e1 s1 r1 ⟨i, ex, h1⟩ => by
    subst ex
    cases r1
    exact ⟨i, rfl, k _ H1 Hd1 G1 e1 s1 h1⟩⟩
theorem rpl_cut {K : PySem.W.Frag} {H : Hp} {vs : List V} {ds : List D} (r : RpL K H vs ds) (lo hi : Option Int) : RpL K H (cutV vs lo hi) (cutD ds lo hi) := by
  unfold cutV cutD
  rw [r.length]
  exact (r.drop _).take _
theorem pd_slice {lo hi : Option Expr} {l h : DO} {p2 : Pos} (he : PE X e (upE X.K B da)) (hl : PO X lo (upO X.K B l)) (hh : PO X hi (upO X.K B h)) : PE X (.Subscript e (.Slice lo hi none p2) pos) (upE X.K B (dSl da l h)) :=
  pe_imp (pe_slice (sl_list.or sl_tup) he hl hh) fun σ H Q ⟨ρ, Hd, G, R, at_, h, k⟩ =>
    ⟨ρ, Hd, G, _, at_, h, fun v H1 Hd1 x G1 e1 s1 r1 h1 => ⟨ρ, Hd1, G1, _, at_.step e1 s1, h1, fun lo H2 Hd2 G2 e2 s2 h2 => ⟨ρ, Hd2, G2, _, (at_.step e1 s1).step e2 s2, h2, fun hi H3 Hd3 G3 e3 s3 ⟨z, hz, h3⟩ => by
      have e123 := (e1.trans e2).trans e3
      rcases hz with ⟨ds, hl, rfl⟩ | ⟨ds, rfl, rfl, hn⟩
      · obtain ⟨q, ys, rfl, hq, r3⟩ := hl.sq s3 (r1.mono (e2.trans e3))
        exact .inl ⟨q, ys, rfl, hq, fun pp hp => k _ _ _ _ G3 (e123.trans (s3.exn hp)) (s3.new hp) (.lst sq_new ((rpl_cut r3 lo hi).mono (s3.exn hp))) h3⟩
      · cases r1.mono (e2.trans e3) with
        | tup hq r3 =>
          refine .inr ⟨_, _, rfl, ex_t s3.sub hq, ?_, fun pp hp => k _ _ _ _ G3 (e123.trans (s3.exn hp)) (s3.new hp) (.tup st_new ((rpl_cut r3 lo hi).mono (s3.exn hp))) h3⟩
          rw [r3.length]
          exact hn⟩⟩⟩
end
end DL
namespace DL
open PySem PySem.Spec PyProof.Rows L2 Evl
variable [TabC]
section
variable {X : Cx} {B : Bs} {pos p : Pos} {a b c e : Expr} {es : List Expr} {da db dc de : DE} {dA : DA} {ta tb : DT} {st : Stmt} {sts : List Stmt} {s1 s2 : DS}
def dSeq (s t : DS) : DS := fun E ρ G => s { E with nx := t E } ρ G
theorem psd_nil : PSs X [] (upS X.K B dNext) := pss_imp pss_nil fun D σ H ⟨ρ, Hd, G, E, at_, h, k⟩ => k.nx σ H Hd ρ G (Ex.refl _) at_.e at_.s h
theorem psd_cons (h1 : PS X st (upS X.K B s1)) (h2 : PSs X sts (upS X.K B s2)) : PSs X (st :: sts) (upS X.K B (dSeq s1 s2)) := pss_imp (pss_cons h1 h2) fun D σ H ⟨ρ, Hd, G, E, at_, h, k⟩ =>
  ⟨ρ, Hd, G, _, at_, h, ⟨fun σ' H' Hd' ρ' G' e r s h' => ⟨ρ', Hd', G', E, ⟨at_.b.trans e, r, s⟩, h', k.mono e⟩, k.rt, k.bk, k.ct⟩⟩
theorem psd_one (h1 : PS X st (upS X.K B s1)) : PSs X [st] (upS X.K B s1) := pss_one h1
def dRet (de : DE) : DS := fun E ρ G => de ρ G E.rt
theorem psd_ret (he : PE X e (upE X.K B de)) : PS X (.Return (some e) pos) (upS X.K B (dRet de)) := ps_imp (ps_ret he) fun D σ H ⟨ρ, Hd, G, E, at_, h, k⟩ => ⟨ρ, Hd, G, E.rt, at_, h, k.rt⟩
def dRetN : DS := fun E _ G => E.rt .non G
theorem psd_expr (he : PE X e (upE X.K B de)) (hs : swapsWith e none pos.line X.env = pure false := by rfl) : PS X (.Expr e pos) (upS X.K B (dDrop de)) := ps_imp (ps_expr he hs) fun D σ H ⟨ρ, Hd, G, E, at_, h, k⟩ =>
  ⟨ρ, Hd, G, _, at_, h, fun v H1 Hd1 x G1 e1 s1 r1 h1 => k.nx σ H1 Hd1 ρ G1 e1 (at_.e.mono e1) s1 h1⟩
def dIfS (t : DT) (s1 s2 : DS) : DS := fun E ρ G => t ρ G fun k G1 => if k = true then s1 E ρ G1 else s2 E ρ G1
theorem psd_if {A2 B2 : List Stmt} (hc : PT X c (upT X.K B ta)) (ha : PSs X A2 (upS X.K B s1)) (hb : PSs X B2 (upS X.K B s2)) : PS X (.If c A2 B2 pos) (upS X.K B (dIfS ta s1 s2)) := ps_imp (ps_if hc ha hb) fun D σ H ⟨ρ, Hd, G, E, at_, h, k⟩ =>
  ⟨ρ, Hd, G, _, at_, h, fun t H1 Hd1 G1 e1 s1 h1 => by
    cases t with
    | true => exact ⟨ρ, Hd1, G1, E, at_.step e1 s1, h1, k.mono e1⟩
    | false => exact ⟨ρ, Hd1, G1, E, at_.step e1 s1, h1, k.mono e1⟩⟩
def dNever : DS := fun _ _ _ => False
theorem psd_never : PS X st (upS X.K B dNever) := ps_imp ps_never fun D σ H ⟨ρ, Hd, G, E, at_, h, k⟩ => h
abbrev DG := D → En → Gm → (En → Gm → Prop) → Prop
abbrev DGs := List D → En → Gm → (En → Gm → Prop) → Prop
def KG (K : PySem.W.Frag) (F : Gm) (Hd : Hp) (js : List Nat) (σ : L2.St) (R : En → Gm → Prop) (Q : L2.St → Hp → Prop) : Prop := ∀ σ' H' Hd' ρ' G', Ex Hd Hd' → RpE K Hd' σ' ρ' → Sim K F Hd' H' G' → R ρ' G' → OnlyAt js σ σ' → Q σ' H'
theorem KN.kg {K : PySem.W.Frag} {F : Gm} {Hd : Hp} {js : List Nat} {σ : L2.St} {R : En → Gm → Prop} {Q : L2.St → Hp → Prop} (k : KN K F Hd R Q) : KG K F Hd js σ R Q := fun σ' H' Hd' ρ' G' e r s h _ => k σ' H' Hd' ρ' G' e r s h
def upG (K : PySem.W.Frag) (B : Bs) (js : List Nat) (g : DG) : TG := fun v σ H Q => ∃ x ρ Hd G R, At K B σ H ρ Hd G ∧ Rp K Hd v x ∧ g x ρ G R ∧ KG K B.f Hd js σ R Q
def upGs (K : PySem.W.Frag) (B : Bs) (js : List Nat) (g : DGs) : TGs := fun vs σ H Q => ∃ xs ρ Hd G R, At K B σ H ρ Hd G ∧ RpL K Hd vs xs ∧ g xs ρ G R ∧ KG K B.f Hd js σ R Q
theorem pg_imp {t t' : TG} (h : PG X e t) (i : ∀ v σ H Q, t' v σ H Q → t v σ H Q) : PG X e t' := ⟨fun pins s σ H v u Q I r w => h.run pins s σ H v u Q I r (i v σ H Q w)⟩
theorem pgs_imp {t t' : TGs} (h : PGs X es t) (i : ∀ v σ H Q, t' v σ H Q → t v σ H Q) : PGs X es t' := ⟨fun pins s σ H v u Q I r w => h.run pins s σ H v u Q I r (i v σ H Q w)⟩
def gN (i : Nat) : DG := fun x ρ G R => R (ρ.set i (some x)) G
theorem only_set {σ : L2.St} {i : Nat} {v : Option V} : OnlyAt [i] σ (σ.set i v) := ⟨List.length_set, fun j hj => List.getElem?_set_ne fun z => hj (by rw [z]; exact List.mem_singleton_self _)⟩
theorem pgd_name {i : Nat} {x : Str} (hN : X.N.Nodup) (hi : X.N[i]? = some x) (hx : Loc X.env.scope x) (hf : X.fn x = true ∨ X.env.scope.names.lookup x = some .local := by first | exact .inl rfl | exact .inr rfl | assumption) : PG X (.Name x pos) (upG X.K B [i] (gN i)) :=
  pg_imp (pg_name hN hi hx hf) fun v σ H Q ⟨x, ρ, Hd, G, R, at_, r, h, k⟩ => k _ H Hd _ G (Ex.refl _) (at_.e.set i r) at_.s h only_set
def gNil : DGs := fun xs ρ G R => xs = [] ∧ R ρ G
def gCons (g : DG) (gs : DGs) : DGs := fun xs ρ G R => ∃ y ys, xs = y :: ys ∧ g y ρ G fun ρ' G' => gs ys ρ' G' R
theorem pgsd_nil : PGs X [] (upGs X.K B [] gNil) := pgs_imp pgs_nil fun v σ H Q ⟨xs, ρ, Hd, G, R, at_, r, ⟨ex, h⟩, k⟩ => by
  subst ex
  cases r
  exact ⟨rfl, k _ H Hd _ G (Ex.refl _) at_.e at_.s h ⟨rfl, fun _ _ => rfl⟩⟩
theorem pgsd_cons {g : DG} {gs : DGs} {js ks : List Nat} (h1 : PG X e (upG X.K B js g)) (h2 : PGs X es (upGs X.K B ks gs)) (hs : (assignEach (e :: es) X.env).map (·.2) = assign e X.env :: (assignEach es X.env).map (·.2) := by rfl) : PGs X (e :: es) (upGs X.K B (js ++ ks) (gCons g gs)) :=
  pgs_imp (pgs_cons h1 h2 hs) fun v σ H Q ⟨xs, ρ, Hd, G, R, at_, r, ⟨y, ys, ex, h⟩, k⟩ => by
    subst ex
    cases r with
    | cons a b =>
      exact ⟨_, _, rfl, y, ρ, Hd, G, _, at_, a, h, fun σ' H' Hd' ρ' G' e1 r1 s1 h1 o1 => ⟨ys, ρ', Hd', G', R, ⟨at_.b.trans e1, r1, s1⟩, b.mono e1, h1, fun σ2 H2 Hd2 ρ2 G2 e2 r2 s2 h2 o2 => k σ2 H2 Hd2 ρ2 G2 (e1.trans e2) r2 s2 h2 (o1.trans o2)⟩⟩
def gSeq (n : Nat) (gs : DGs) : DG := fun x ρ G R => ∃ xs, SeqAt G x xs ∧ xs.length = n ∧ gs xs ρ G R
theorem pg_or {t t' : TG} (h : PG X e t) (h' : PG X e t') : PG X e (fun v σ H Q => t v σ H Q ∨ t' v σ H Q) := ⟨fun pins s σ H v u Q I r w => w.elim (h.run pins s σ H v u Q I r) (h'.run pins s σ H v u Q I r)⟩
theorem pgd_seq {k n : Nat} {gs : DGs} {js : List Nat} (hc : X.calm = true) (h : PGs X es (upGs X.K B js gs)) (hn : (assignEach es X.env).length = n := by rfl) (hst : (assignEach es X.env).findIdx? (·.1) = none := by rfl) : PG X (.Tuple es k pos) (upG X.K B js (gSeq n gs)) :=
  pg_imp (pg_or (pg_tup hc h hn hst) (pg_lst hc h hn hst)) fun v σ H Q ⟨x, ρ, Hd, G, R, at_, r, ⟨xs, hs, hl, h⟩, k⟩ => by
    obtain ⟨q, ys, rfl, hq, r2⟩ := hs.sq at_.s r
    have e : ys.length = n := by rw [r2.length, hl]
    have w : upGs X.K B js gs ys σ H Q := ⟨xs, ρ, Hd, G, R, at_, r2, h, k⟩
    rcases hq with hq | hq
    · exact .inr ⟨q, ys, rfl, hq, e, w⟩
    · exact .inl ⟨q, ys, rfl, hq, e, w⟩
def dAsg (de : DE) (g : DG) : DS := fun E ρ G => de ρ G fun x G1 => g x ρ G1 E.nx
theorem asg_imp {K : PySem.W.Frag} {g : DG} {js : List Nat} : ∀ D σ H, upS K B (dAsg de g) D σ H → tAsg (upE K B de) (upG K B js g) D σ H := fun D σ H ⟨ρ, Hd, G, E, at_, h, k⟩ =>
  ⟨ρ, Hd, G, _, at_, h, fun v H1 Hd1 x G1 e1 s1 r1 h1 => ⟨x, ρ, Hd1, G1, _, at_.step e1 s1, r1, h1, (k.nx.mono e1).kg⟩⟩
theorem psd_asg {tg : Expr} {g : DG} {js : List Nat} (he : PE X e (upE X.K B de)) (hg : PG X tg (upG X.K B js g)) (hs : swapsWithSole [tg] e pos.line X.env = pure false := by rfl) (hw : swappedStores [tg] e X.env = pure none := by rfl)
    (h1 : (assignEach [tg] X.env).map (·.2) = [assign tg X.env] := by rfl) : PS X (.Assign [tg] e pos) (upS X.K B (dAsg de g)) := ps_imp (ps_asg he hg hs hw h1) asg_imp
def dSet (i : Nat) (de : DE) : DS := fun E ρ G => de ρ G fun x G1 => E.nx (ρ.set i (some x)) G1
theorem set_imp {K : PySem.W.Frag} {i : Nat} : ∀ D σ H, upS K B (dSet i de) D σ H → tAsg (upE K B de) (gName i) D σ H := fun D σ H ⟨ρ, Hd, G, E, at_, h, k⟩ =>
  ⟨ρ, Hd, G, _, at_, h, fun v H1 Hd1 x G1 e1 s1 r1 h1 => k.nx _ H1 Hd1 _ G1 e1 ((at_.e.mono e1).set i r1) s1 h1⟩
theorem psd_set {i : Nat} {x : Str} {pp : Pos} (hN : X.N.Nodup) (hi : X.N[i]? = some x) (hx : Loc X.env.scope x) (he : PE X e (upE X.K B de)) (hs : swapsWith e (some (.Name x pp)) pos.line X.env = pure false := by rfl)
    (hf : X.fn x = true ∨ X.env.scope.names.lookup x = some .local := by first | exact .inl rfl | exact .inr rfl | assumption) : PS X (.Assign [.Name x pp] e pos) (upS X.K B (dSet i de)) := ps_imp (ps_set hN hi hx he hs hf) set_imp
def dPar (i j : Nat) (dA : DA) : DS := fun E ρ G => dA ρ G fun xs G1 => ∃ x y, xs = [x, y] ∧ E.nx ((ρ.set i (some x)).set j (some y)) G1
theorem psd_par {i j : Nat} {x y : Str} {px py pt : Pos} {kt k2 : Nat} {pt2 : Pos} (hc : X.calm = true) (hN : X.N.Nodup) (hi : X.N[i]? = some x) (hj : X.N[j]? = some y) (hij : i ≠ j) (hx : X.env.scope.names.lookup x = some .local) (hy : X.env.scope.names.lookup y = some .local)
    (ha : PA X [a, b] (upA X.K B dA)) (hw : swappedStores [.Tuple [.Name x px, .Name y py] kt pt] (.Tuple [a, b] k2 pt2) X.env = pure (some [x, y])) (hs : swapsWithSole [.Tuple [.Name x px, .Name y py] kt pt] (.Tuple [a, b] k2 pt2) pos.line X.env = pure false := by rfl) :
    PS X (.Assign [.Tuple [.Name x px, .Name y py] kt pt] (.Tuple [a, b] k2 pt2) pos) (upS X.K B (dPar i j dA)) := ps_imp (ps_par hc hN hi hj hij hx hy ha hw hs) fun D σ H ⟨ρ, Hd, G, E, at_, h, k⟩ =>
  ⟨ρ, Hd, G, _, at_, h, fun vs H1 Hd1 xs G1 e1 s1 r1 ⟨x, y, ex, h1⟩ => by
    subst ex
    obtain ⟨v, u, rfl, rv, ru⟩ := rpl2 r1
    exact ⟨v, u, rfl, k.nx _ H1 Hd1 _ G1 e1 (((at_.e.mono e1).set i rv).set j ru) s1 h1⟩⟩
def dSetIx (de dobj di : DE) : DS := fun E ρ G => de ρ G fun x G1 => dobj ρ G1 fun o G2 => di ρ G2 fun i G3 => ∃ q ds k j, o = .ref q ∧ G3 q = some (.lst ds) ∧ i = .int k ∧ ixN ds.length k = some j ∧ E.nx ρ (gup G3 q (.lst (ds.set j x)))
theorem psd_setIx {o i : Expr} {dobj di : DE} {pp : Pos} (he : PE X e (upE X.K B de)) (ho : PE X o (upE X.K B dobj)) (hi : PE X i (upE X.K B di))
    (hs : swapsWithSole [.Subscript o i pp] e pos.line X.env = pure false := by rfl) (hw : swappedStores [.Subscript o i pp] e X.env = pure none := by rfl) (h1 : (assignEach [.Subscript o i pp] X.env).map (·.2) = [assign (.Subscript o i pp) X.env] := by rfl)
    (ha : ∀ v, assign (.Subscript o i pp) X.env v = (do
      let ov ← holding [v] (eval o X.env)
      let iv ← holding [v, ov] (eval i X.env)
      standAt pp
      holding [v, ov, iv] (setItem ov iv v)
      release [v, ov, iv] []) := by intro _; rfl) : PS X (.Assign [.Subscript o i pp] e pos) (upS X.K B (dSetIx de dobj di)) := ps_imp (ps_asg he (pg_sub ho hi set_list ha) hs hw h1) fun D σ H ⟨ρ, Hd, G, E, at_, h, k⟩ =>
  ⟨ρ, Hd, G, _, at_, h, fun v H1 Hd1 x G1 e1 s1 r1 h1 => ⟨ρ, Hd1, G1, _, at_.step e1 s1, h1, fun u H2 Hd2 y G2 e2 s2 r2 h2 => ⟨ρ, Hd2, G2, _, (at_.step e1 s1).step e2 s2, h2, fun w H3 Hd3 z G3 e3 s3 r3 ⟨q, ds, kk, j, ey, hg, ez, hj, h3⟩ => by
    subst ey ez
    cases r2
    cases r3
    obtain ⟨ys, hy, ry⟩ := s3.hold q _ hg
    refine ⟨q, ys, kk, j, rfl, rfl, hy, by rw [ry.length]; exact hj, ?_⟩
    have e123 := (e1.trans e2).trans e3
    exact k.nx _ _ Hd3 ρ _ e123 (at_.e.mono e123) (s3.put (n := .lst (ds.set j x)) hg ⟨_, upd_same, ry.set j (r1.mono (e2.trans e3))⟩) h3⟩⟩⟩
def dWhile (t : DT) (s : DS) : DS := fun E ρ G => ∃ W : Nat → En → Gm → Prop, (∃ m, W m ρ G) ∧ ∀ m ρ G, W m ρ G → t ρ G fun k G1 => if k = true then s { E with nx := fun ρ' G' => ∃ m', m' < m ∧ W m' ρ' G', ct := fun ρ' G' => ∃ m', m' < m ∧ W m' ρ' G', bk := E.nx } ρ G1 else E.nx ρ G1
theorem psd_while {body : List Stmt} (hp : PassesOwn (model X.prog X.w) X.A X.env X.xe) (hc : PT X c (upT X.K B ta)) (hb : PSs X body (upS X.K B s1)) : PS X (.While c body [] pos) (upS X.K B (dWhile ta s1)) := ps_imp (ps_while hp hc hb) fun D σ H ⟨ρ, Hd, G, E, at_, ⟨W, ⟨m, w0⟩, turn⟩, k⟩ => by
  refine ⟨fun m σ H => ∃ ρ Hd' G, At X.K B σ H ρ Hd' G ∧ Ex Hd Hd' ∧ W m ρ G, ⟨m, ρ, Hd, G, at_, Ex.refl _, w0⟩, ?_⟩
  rintro m σ H ⟨ρ, Hd1, G, at1, e0, w⟩
  refine ⟨ρ, Hd1, G, _, at1, turn m ρ G w, fun t H1 Hd2 G1 e1 s1 h1 => ?_⟩
  cases t with
  | false => exact k.nx σ H1 Hd2 ρ G1 (e0.trans e1) (at1.e.mono e1) s1 h1
  | true =>
    refine ⟨fun σ' H' => ∃ m', m' < m ∧ ∃ ρ Hd' G, At X.K B σ' H' ρ Hd' G ∧ Ex Hd Hd' ∧ W m' ρ G, fun σ' H' h => h, ρ, Hd2, G1, _, at1.step e1 s1, h1, ?_⟩
    have again : KN X.K B.f Hd2 (fun ρ' G' => ∃ m', m' < m ∧ W m' ρ' G') (fun σ' H' => ∃ m', m' < m ∧ ∃ ρ Hd' G, At X.K B σ' H' ρ Hd' G ∧ Ex Hd Hd' ∧ W m' ρ G) := fun σ' H' Hd3 ρ' G' e3 r3 s3 ⟨m', l, w'⟩ =>
      ⟨m', l, ρ', Hd3, G', ⟨(at1.b.trans e1).trans e3, r3, s3⟩, (e0.trans e1).trans e3, w'⟩
    exact ⟨again, (k.mono (e0.trans e1)).rt, (k.mono (e0.trans e1)).nx, again⟩
abbrev DI := En → Gm → (List D → Gm → Prop) → Prop
def upI (K : PySem.W.Frag) (B : Bs) (di : DI) : TI := fun σ H R => ∃ ρ Hd G S, At K B σ H ρ Hd G ∧ di ρ G S ∧ ∀ J H' Hd' xs G', Ex Hd Hd' → Sim K B.f Hd' H' G' → Walks K Hd' J xs → S xs G' → R J H'
theorem pi_imp {tg iter : Expr} {t t' : TI} (h : PI X tg iter t) (i : ∀ σ H R, t' σ H R → t σ H R) : PI X tg iter t' := ⟨fun pins s σ H R I w => h.run pins s σ H R I (i σ H R w)⟩
theorem walks_lst {K : PySem.W.Frag} {Hd : Hp} {q : Addr} {ys : List V} {xs : List D} (h : SqL K Hd q ys) (r : RpL K Hd ys xs) : Walks K Hd (Itl K q) xs := fun F i H2 Hd2 G2 e s => by
  have hH : SqL K H2 q ys := ex_l (e.trans s.sub) h
  refine ⟨fun d hd => ?_, fun hl => ⟨ys, hH, by rw [r.length]; exact hl⟩⟩
  obtain ⟨v, hv, rv⟩ := r.at hd
  refine ⟨⟨ys, v, hH, hv⟩, fun w H3 ⟨eH, hw⟩ => ?_⟩
  subst eH
  have e2 : v = w := Option.some.inj (hv.symm.trans (hw ys hH))
  subst e2
  exact ⟨Hd2, Ex.refl _, s, rv.mono e⟩
theorem walks_tup {K : PySem.W.Frag} {Hd : Hp} {q : Addr} {ys : List V} {xs : List D} (h : SqT K Hd q ys) (r : RpL K Hd ys xs) : Walks K Hd (Itt K q) xs := fun F i H2 Hd2 G2 e s => by
  have hH : SqT K H2 q ys := ex_t (e.trans s.sub) h
  refine ⟨fun d hd => ?_, fun hl => ⟨ys, hH, by rw [r.length]; exact hl⟩⟩
  obtain ⟨v, hv, rv⟩ := r.at hd
  refine ⟨⟨ys, v, hH, hv⟩, fun w H3 ⟨eH, hw⟩ => ?_⟩
  subst eH
  have e2 : v = w := Option.some.inj (hv.symm.trans (hw ys hH))
  subst e2
  exact ⟨Hd2, Ex.refl _, s, rv.mono e⟩
theorem walks_rng {K : PySem.W.Frag} {Hd : Hp} {lo : Int} {n : Nat} : Walks K Hd (Itr lo n) ((List.range n).map fun i : Nat => D.int (lo + i)) := fun F i H2 Hd2 G2 e s => by
  refine ⟨fun d hd => ?_, fun hl => by
    show n ≤ i
    simpa using hl⟩
  rw [List.getElem?_map] at hd
  by_cases hi : i < n
  · rw [List.getElem?_range hi] at hd
    cases hd
    refine ⟨hi, fun w H3 ⟨eH, hw⟩ => ?_⟩
    subst eH hw
    exact ⟨Hd2, Ex.refl _, s, .int _⟩
  · rw [List.getElem?_eq_none (by simpa using hi)] at hd
    cases hd
def iSeq (K : PySem.W.Frag) (tl : TE) : TI := fun σ H R => tl σ H fun x H1 => ∃ q, x = .ref q ∧ (((∃ xs, SqL K H1 q xs) ∧ R (Itl K q) H1) ∨ ((∃ xs, SqT K H1 q xs) ∧ R (Itt K q) H1))
theorem pi_seq {tg l : Expr} {tl : TE} (hl : PE X l tl) : PI X tg l (iSeq X.K tl) := by
  refine ⟨fun pins s σ H R I h => ?_⟩
  refine thn (hl.run pins s σ H _ I h) fun v s2 hv => ?_
  obtain ⟨x, H1, I1, rx, q, ex, hx⟩ := hv
  subst ex
  cases rx
  have fp : ∀ b ∈ [s2.heap.objs.size], FpOk X pins H1 b := fun b hb => by
    cases List.mem_singleton.mp hb
    exact I1.fpOk (Nat.le_refl _) (I1.hok.fresh (Nat.le_refl _))
  rcases hx with ⟨⟨xs, hq⟩, w⟩ | ⟨⟨xs, hq⟩, w⟩
  · obtain ⟨its, _, pl, _⟩ := I1.list hq
    refine wpAny_pyIter_list pl.isList ?_
    exact ⟨_, _, _, _, H1, rfl, I1.kept (t' := s2.toks) fun b o e => Heap.get?_push_of_some _ e, turn_list q _, ⟨_, Heap.get?_push_size _ rfl, rfl, rfl⟩, fp, w⟩
  · obtain ⟨its, _, pl, _⟩ := I1.tuple hq
    refine wpAny_pyIter_tuple (show s2.heap.IsTuple q its.toArray from pl) ?_
    exact ⟨_, _, _, _, H1, rfl, I1.kept (t' := s2.toks) fun b o e => Heap.get?_push_of_some _ e, turn_tuple q _, ⟨_, Heap.get?_push_size _ rfl, rfl, rfl⟩, fp, w⟩
def dISeq (de : DE) : DI := fun ρ G S => de ρ G fun x G1 => ∃ xs, (x = .lst xs ∨ x = .tup xs) ∧ S xs G1
theorem pid_seq {tg : Expr} (he : PE X e (upE X.K B de)) : PI X tg e (upI X.K B (dISeq de)) := pi_imp (pi_seq he) fun σ H R ⟨ρ, Hd, G, S, at_, h, k⟩ =>
  ⟨ρ, Hd, G, _, at_, h, fun v H1 Hd1 x G1 e1 s1 r1 ⟨xs, hx, h1⟩ => by
    rcases hx with rfl | rfl
    · cases r1 with
      | lst q r => exact ⟨_, rfl, .inl ⟨⟨_, ex_l s1.sub q⟩, k _ H1 Hd1 xs G1 e1 s1 (walks_lst q r) h1⟩⟩
    · cases r1 with
      | tup q r => exact ⟨_, rfl, .inr ⟨⟨_, ex_t s1.sub q⟩, k _ H1 Hd1 xs G1 e1 s1 (walks_tup q r) h1⟩⟩⟩
def rngD (lo : Int) (n : Nat) : List D := (List.range n).map fun i : Nat => D.int (lo + i)
def dIRng1 (da : DE) : DI := fun ρ G S => da ρ G fun x G1 => ∃ j, x = .int j ∧ -(2 ^ 62) ≤ j ∧ j < 2 ^ 62 ∧ S (rngD 0 j.toNat) G1
theorem pid_rng1 {tg : Expr} (hg : Gl X "range") (hm : X.mg "range" = none) (ha : PE X a (upE X.K B da)) (hs : starEach [a] X.env = [(false, eval a X.env)] := by rfl) : PI X tg (.Call (.Name "range" p) [a] [] pos) (upI X.K B (dIRng1 da)) :=
  pi_imp (pi_range1 hg hm (pda_cons ha pda_nil hs) hs) fun σ H R ⟨ρ, Hd, G, S, at_, h, k⟩ =>
    ⟨ρ, Hd, G, fun xs G1 => ∃ j, xs = [.int j] ∧ -(2 ^ 62) ≤ j ∧ j < 2 ^ 62 ∧ S (rngD 0 j.toNat) G1, at_, by
      show da ρ G _
      exact cast (congrArg (da ρ G) (funext fun x => funext fun G1 => propext ⟨fun ⟨j, e, r⟩ => ⟨j, by rw [e], r⟩, fun ⟨j, e, r⟩ => ⟨j, by cases e; rfl, r⟩⟩)) h, fun vs H1 Hd1 xs G1 e1 s1 r1 ⟨j, ex, l, u, h1⟩ => by
      subst ex
      obtain ⟨v, rfl, rv⟩ := rpl1 r1
      cases rv
      exact ⟨j, rfl, l, u, k _ H1 Hd1 _ G1 e1 s1 walks_rng h1⟩⟩
def forL (g : DG) (s : DS) (E : DEnds) : List D → En → Gm → Prop
  | [] => E.nx
  | x :: xs => fun ρ G => g x ρ G fun ρ1 G1 => s { E with nx := forL g s E xs, ct := forL g s E xs, bk := E.nx } ρ1 G1
def dFor (di : DI) (g : DG) (s : DS) : DS := fun E ρ G => di ρ G fun xs G1 => forL g s E xs ρ G1
theorem psd_for {tg iter : Expr} {body : List Stmt} {di : DI} {g : DG} {sb : DS} {js : List Nat} (hp : PassesOwn (model X.prog X.w) X.A X.env X.xe) (hc : X.calm = true) (hi : PI X tg iter (upI X.K B di)) (hg : PG X tg (upG X.K B js g)) (hb : PSs X body (upS X.K B sb))
    (hs : ∀ x, foldedSetIterable iter X.env x = pure x := by intro _; rfl) : PS X (.For tg iter body [] pos) (upS X.K B (dFor di g sb)) := ps_imp (ps_for hp hc hi hg hb hs) fun D σ H ⟨ρ, Hd, G, E, at_, h, k⟩ => by
  refine ⟨ρ, Hd, G, _, at_, h, fun J H1 Hd1 xs G1 e1 s1 w h1 => ?_⟩
  refine ⟨fun i m σ H => m = xs.length - i ∧ i ≤ xs.length ∧ ∃ ρ Hd2 G2, At X.K B σ H ρ Hd2 G2 ∧ Ex Hd1 Hd2 ∧ forL g sb E (xs.drop i) ρ G2, ⟨_, rfl, Nat.zero_le _, ρ, Hd1, G1, at_.step e1 s1, Ex.refl _, h1⟩, ?_⟩
  rintro i m σ2 H2 ⟨rfl, hi2, ρ2, Hd2, G2, at2, e2, h2⟩
  obtain ⟨w1, w2⟩ := w B.f i H2 Hd2 G2 e2 at2.s
  by_cases hl : i < xs.length
  · rw [List.drop_eq_getElem_cons hl] at h2
    obtain ⟨go, yl⟩ := w1 xs[i] (by simp [hl])
    let N : L2.St → Hp → Prop := fun σ' H' => ∃ ρ Hd3 G3, At X.K B σ' H' ρ Hd3 G3 ∧ Ex Hd1 Hd3 ∧ forL g sb E (xs.drop (i + 1)) ρ G3
    refine .inr ⟨go, N, fun σ' H' h' => ⟨xs.length - (i + 1), by omega, rfl, hl, h'⟩, fun v H3 y => ?_⟩
    obtain ⟨Hd3, e3, s3, r3⟩ := yl v H3 y
    have again : ∀ {Hd4 : Hp}, Ex Hd1 Hd4 → Ex B.b Hd4 → KN X.K B.f Hd4 (forL g sb E (xs.drop (i + 1))) N := fun {Hd4} f1 f2 σ' H' Hd' ρ' G' e' r' s' h' => ⟨ρ', Hd', G', ⟨f2.trans e', r', s'⟩, f1.trans e', h'⟩
    refine ⟨xs[i], ρ2, Hd3, G2, _, at2.step e3 s3, r3, h2, fun σ' H' Hd' ρ' G' e' r' s' h' _ => ?_⟩
    have eB : Ex B.b Hd' := ((at2.b.trans e3).trans e')
    have e1' : Ex Hd1 Hd' := (e2.trans e3).trans e'
    have k' := k.mono (e1.trans e1')
    exact ⟨ρ', Hd', G', _, ⟨eB, r', s'⟩, h', ⟨again e1' eB, k'.rt, k'.nx, again e1' eB⟩⟩
  · have e0 : xs.drop i = [] := List.drop_eq_nil_of_le (by omega)
    rw [e0] at h2
    exact .inl ⟨w2 (by omega), k.nx σ2 H2 Hd2 ρ2 G2 (e1.trans e2) at2.e at2.s h2⟩
end
end DL
namespace DL
open PySem PySem.Spec PyProof.Rows L2 Evl
variable [TabC]
theorem wipe_in {σ : L2.St} {j : Nat} : ∀ {vs : List Nat}, j ∈ vs → (L2.wipe σ vs)[j]? = if j < σ.length then some none else none
  | [], h => nomatch h
  | v :: vs, h => by
    unfold L2.wipe
    by_cases e : v = j
    · subst e
      by_cases l : v < σ.length
      · rw [List.getElem?_set_self (by rw [wipe_length]; exact l), if_pos l]
      · rw [if_neg l, List.getElem?_eq_none (by rw [List.length_set, wipe_length]; omega)]
    · rw [List.getElem?_set_ne e]
      rcases List.mem_cons.mp h with z | z
      · exact absurd z.symm e
      · exact wipe_in z
theorem wipe_only {σ σ' : L2.St} {js vs : List Nat} (o : OnlyAt js (L2.wipe σ vs) σ') (h : ∀ j ∈ js, j ∈ vs) : L2.wipe σ' vs = L2.wipe σ vs := by
  have hl : σ'.length = σ.length := by rw [o.1, wipe_length]
  refine List.ext_getElem? fun j => ?_
  by_cases hj : j ∈ vs
  · rw [wipe_in hj, wipe_in hj, hl]
  · rw [wipe_out hj, o.2 j fun z => hj (h j z)]
section
variable {X : Cx}
theorem pe_ex {ι : Type} {e : Expr} {t : ι → TE} (h : ∀ i, PE X e (t i)) : PE X e (fun σ H Q => ∃ i, t i σ H Q) := ⟨fun pins s σ H Q I ⟨i, w⟩ => (h i).run pins s σ H Q I w⟩
theorem pg_ex {ι : Type} {e : Expr} {t : ι → TG} (h : ∀ i, PG X e (t i)) : PG X e (fun v σ H Q => ∃ i, t i v σ H Q) := ⟨fun pins s σ H v u Q I r ⟨i, w⟩ => (h i).run pins s σ H v u Q I r w⟩
theorem pts_ex {ι : Type} {es : List Expr} {t : ι → TT} (h : ∀ i, PTs X es (t i)) : PTs X es (fun σ H Q => ∃ i, t i σ H Q) := ⟨fun pins s σ H Q I ⟨i, w⟩ => (h i).run pins s σ H Q I w⟩
end
theorem Sim.putF {K : PySem.W.Frag} {F : Gm} {Hd H : Hp} {G : Gm} {p : Addr} {m n : Mt} {o : HO} (S : Sim K (gup F p m) Hd H G) (hm0 : ∀ q, m ≠ .tab q) (hm : HoldM K Hd (upd H p o) p n) : Sim K (gup F p n) Hd (upd H p o) G := by
  have hd : Hd p = none := S.offF p m gup_same
  have hg : G p = none := S.apart p m gup_same
  refine ⟨ex_put S.sub hd, S.off, fun a k e => (S.hold a k e).other (ne_g e hg), fun a k e => ?_, fun a k e => ?_, fun a k e => ?_, fun q hq => ?_⟩
  · by_cases q : a = p
    · rw [q]
      exact hd
    · exact S.offF a k (by rw [gup_ne q] at e ⊢; exact e)
  · by_cases q : a = p
    · subst q
      rw [gup_same] at e
      cases e
      exact hm
    · exact (S.holdF a k (by rw [gup_ne q] at e ⊢; exact e)).other q
  · by_cases q : a = p
    · rw [q]
      exact hg
    · exact S.apart a k (by rw [gup_ne q] at e ⊢; exact e)
  · have t := S.tabs q hq
    by_cases z : q.1 = p
    · rw [z, gup_same] at t
      exact (hm0 q.2 (Option.some.inj t)).elim
    · rw [gup_ne z] at t ⊢
      exact t
section
variable {X : Cx} {B : Bs} {pos p : Pos} {a b c e : Expr} {es : List Expr} {da db dc de : DE} {dA : DA} {ta tb : DT}
def cmpL (ρ0 : En) (g : DG) (t : DT) (de : DE) : List D → List D → Gm → (List D → Gm → Prop) → Prop
  | [], acc, G, S => S acc G
  | x :: xs, acc, G, S => g x ρ0 G fun ρ1 G1 => t ρ1 G1 fun k G2 => if k = true then de ρ1 G2 fun y G3 => acc.length < sizeLine ∧ cmpL ρ0 g t de xs (acc ++ [y]) G3 S else cmpL ρ0 g t de xs acc G2 S
def dCmp (di : DI) (g : DG) (t : DT) (de : DE) (vs : List Nat) : DE := fun ρ G R => di ρ G fun xs G1 => cmpL (wipeD ρ vs) g t de xs [] G1 fun acc G2 => R (.lst acc) G2
theorem ptsd_nil : PTs X [] (upT X.K B dYes) := ⟨fun pins s σ H Q I ⟨ρ, Hd, G, R, at_, h, k⟩ => pts_nil.run pins s σ H Q I (k true H Hd G (Ex.refl _) at_.s h)⟩
theorem lc_imp {K : PySem.W.Frag} {di : DI} {g : DG} {t : DT} {de : DE} {js vs : List Nat} (hj : ∀ j ∈ js, j ∈ vs) : ∀ σ H Q, upE K B (dCmp di g t de vs) σ H Q →
    tLc (upI K B di) (fun v σ H Q => ∃ B', upG K B' js g v σ H Q) (fun σ H Q => ∃ B', upT K B' t σ H Q) (fun σ H Q => ∃ B', upE K B' de σ H Q) vs σ H Q := fun σ H Q ⟨ρ, Hd, G, R, at_, h, k⟩ => by
  refine ⟨ρ, Hd, G, _, at_, h, fun J H1 Hd1 xs G1 e1 s1 w h1 Dl hD => ?_⟩
  have hF : B.f Dl = none := s1.ffree hD
  have ere : RpE K Hd1 (L2.wipe σ vs) (wipeD ρ vs) := (at_.e.mono e1).wipe vs
  refine ⟨fun i m H2 => m = xs.length - i ∧ i ≤ xs.length ∧ ∃ Hd2 G2 acc, Ex Hd1 Hd2 ∧ Sim K (gup B.f Dl (.lst acc)) Hd2 H2 G2 ∧ cmpL (wipeD ρ vs) g t de (xs.drop i) acc G2 fun acc G2 => R (.lst acc) G2,
    ⟨_, rfl, Nat.zero_le _, Hd1, G1, [], Ex.refl _, s1.hide (s1.ffree hD) (s1.free hD) (ex_put s1.sub (s1.free hD)) (s1.gfree hD) ⟨[], upd_same, .nil⟩, h1⟩, ?_⟩
  rintro i m H2 ⟨rfl, hi2, Hd2, G2, acc, e2, s2, h2⟩
  obtain ⟨w1, w2⟩ := w _ i H2 Hd2 G2 e2 s2
  by_cases hl : i < xs.length
  · rw [List.drop_eq_getElem_cons hl] at h2
    obtain ⟨go, yl⟩ := w1 xs[i] (by simp [hl])
    let N : Hp → Prop := fun H' => ∃ Hd2 G2 acc, Ex Hd1 Hd2 ∧ Sim K (gup B.f Dl (.lst acc)) Hd2 H' G2 ∧ cmpL (wipeD ρ vs) g t de (xs.drop (i + 1)) acc G2 fun acc G2 => R (.lst acc) G2
    refine .inr ⟨go, N, fun H' h' => ⟨xs.length - (i + 1), by omega, rfl, hl, h'⟩, fun v H3 y => ?_⟩
    obtain ⟨Hd3, e3, s3, r3⟩ := yl v H3 y
    have at3 : At K ⟨Hd3, gup B.f Dl (.lst acc)⟩ (L2.wipe σ vs) H3 (wipeD ρ vs) Hd3 G2 := ⟨Ex.refl _, ere.mono (e2.trans e3), s3⟩
    refine ⟨⟨Hd3, gup B.f Dl (.lst acc)⟩, xs[i], wipeD ρ vs, Hd3, G2, _, at3, r3, h2, fun σ4 H4 Hd4 ρ4 G4 e4 r4 s4 h4 o4 => ⟨wipe_only o4 hj, ?_⟩⟩
    refine ⟨⟨Hd3, gup B.f Dl (.lst acc)⟩, ρ4, Hd4, G4, _, ⟨e4, r4, s4⟩, h4, fun kk H5 Hd5 G5 e5 s5 h5 => ?_⟩
    cases kk with
    | false =>
      show N H5
      exact ⟨Hd5, G5, acc, ((e2.trans e3).trans e4).trans e5, s5, h5⟩
    | true =>
      refine ⟨⟨Hd3, gup B.f Dl (.lst acc)⟩, ρ4, Hd5, G5, _, ⟨e4.trans e5, r4.mono e5, s5⟩, h5, fun u H6 Hd6 y6 G6 e6 s6 r6 ⟨hz, h6⟩ => ?_⟩
      obtain ⟨ys, hy, ry⟩ := s6.holdF Dl (.lst acc) gup_same
      refine ⟨ys, hy, by rw [ry.length]; exact hz, Hd6, G6, acc ++ [y6], (((e2.trans e3).trans e4).trans e5).trans e6, s6.putF (fun q z => nomatch z) ⟨_, upd_same, ry.app (.cons r6 .nil)⟩, h6⟩
  · have e0 : xs.drop i = [] := List.drop_eq_nil_of_le (by omega)
    rw [e0] at h2
    obtain ⟨ys, hy, ry⟩ := s2.holdF Dl (.lst acc) gup_same
    have hd : Hd2 Dl = none := s2.offF Dl _ gup_same
    have ee : Ex Hd2 (upd Hd2 Dl (.lst ys)) := Ex.new hd
    exact .inl ⟨w2 (by omega), k (.ref Dl) H2 _ (.lst acc) G2 ((e1.trans e2).trans ee) (s2.bare hy hF) (.lst sq_new (ry.mono ee)) h2⟩
theorem pd_lc {elt tg iter : Expr} {ifs : List Expr} {scope : Scope} {own : List (Str × Nat)} {di : DI} {g : DG} {t : DT} {js : List Nat} (hc : X.calm = true) (hN : X.N.Nodup) (hi : PI X tg iter (upI X.K B di)) (ok : BlkOk X.N X.env.scope scope own) (hj : ∀ j ∈ js, j ∈ own.map (·.2))
    (hg : ∀ (B : Bs) (s : Shared) (H : Hp) (C : Addr) (cl : List (Str × Addr)) (fp : List Addr), PG (X.blk s H scope (compEnvC scope cl C X.env) fp) tg (upG X.K B js g)) (ht : ∀ (B : Bs) (s : Shared) (H : Hp) (C : Addr) (cl : List (Str × Addr)) (fp : List Addr), PTs (X.blk s H scope (compEnvC scope cl C X.env) fp) ifs (upT X.K B t))
    (he : ∀ (B : Bs) (s : Shared) (H : Hp) (C : Addr) (cl : List (Str × Addr)) (fp : List Addr), PE (X.blk s H scope (compEnvC scope cl C X.env) fp) elt (upE X.K B de)) (hs : ∀ x, foldedSetIterable iter X.env x = pure x := by intro _; rfl) :
    PE X (.ListComp elt [⟨tg, iter, ifs, 0⟩] scope pos) (upE X.K B (dCmp di g t de (own.map (·.2)))) :=
  pe_imp (pe_lc hc hN hi ok (fun s H C cl fp => pg_ex fun B => hg B s H C cl fp) (fun s H C cl fp => pts_ex fun B => ht B s H C cl fp) (fun s H C cl fp => pe_ex fun B => he B s H C cl fp) hs) (lc_imp hj)
end
end DL
namespace DL
open PySem PySem.Spec PyProof.Rows L2 Evl
variable [TabC]
section
variable {P : Program} {w : World} {K : PySem.W.Frag} {mg : Str → Option Value} {base : Heap}
theorem guards_in {A : Around} {env : Env} (h : A.guards = some []) : (A.deeper env).guards = some [] := h
def cdAt (K : PySem.W.Frag) (f : Addr) : Addr := match K.lookup f with
  | some ⟨_, _, .func fd, _⟩ => (match fd.code with
    | .ref c => c
    | _ => 0)
  | _ => 0
theorem cdAt_of {K : PySem.W.Frag} {f : Addr} {x qual : Str} {params : Arguments} {body : List Stmt} {scope : Scope} {oc : Value} {od : Option Addr} {dV kV doc pm cdv ct : Value} {an : Option Addr} {osl : Array (Option Value)}
    (lk : K.lookup f = some ⟨oc, od, .func (PySem.W.fnOf x qual params body scope dV kV doc pm an cdv ct), osl⟩) (hcd : PySem.W.codeIn K cdv qual = true) : cdv = .ref (cdAt K f) := by
  obtain ⟨c, rfl⟩ := He.codeIn_ref hcd
  unfold cdAt
  rw [lk]
theorem fng_of {x qual : Str} {params : Arguments} {body : List Stmt} {scope : Scope} {dvs : List V} {kws : List (Str × V)} {f : Addr} {fd : FuncData} {N ps : List Str} {k : Nat} {sp : Sp} (F : FunD K x qual params body scope dvs kws f fd) (S : FnScope N ps scope)
    (len : ∀ vs H Q E, sp vs H Q E → vs.length = ps.length)
    (hbody : ∀ (cdv : Value), cdv = .ref (cdAt K f) → ∀ (A : Around) (outer : List Env) (s : Shared) (H : Hp) (vs : List V) (Q : VK) (E : XK), Room k (A.deeper (envOfC qual scope s.heap.objs.size f cdv)) → (A.deeper (envOfC qual scope s.heap.objs.size f cdv)).guards = some [] → sp vs H Q E →
      ∃ t, PSs (cxOf (L2.CX P w) P w K mg base N qual scope f cdv A outer s H E) body t ∧ t { nx := fun _ H' => Q .non H', rt := Q } (start N vs) H) : FnG P w K mg base (k + 1) f fd ps sp := by
  obtain ⟨oc, od, dV, kV, doc, pm, an, cdv, ct, osl, rfl, lk, hcd, _, _⟩ := F.ex
  refine ⟨len, fun A outer s H args us vs Q E room hgd e0 hb hv hs => ?_⟩
  have keepB : ∀ b o, base.get? b = some o → s.heap.get? b = some o := fun b o e => (e0.bs b o e).1
  have hK : K.In s.heap := e0.mod.kin.keeps keepB
  refine codeAny_call_function room.depth (hK _ _ lk) rfl S.co S.gen rfl (PySem.W.codeRec_of hK hcd) (hb _ _ _ _ ?_)
  refine wpAny_newFunctionEnv_cells S.kind (fun y hy => ?_) fun env henv s1 hx => ?_
  · obtain ⟨n, u⟩ := y
    rcases S.par n (List.of_mem_zip hy).1 with q | q
    · exact .inl q
    · exact .inr ⟨q, PySem.W.cellsFrom_some _ _ _ (.inl q)⟩
  · subst henv
    obtain ⟨t, ht, hq⟩ := hbody cdv (cdAt_of lk hcd) A outer s H vs Q E (room.deeper _) (guards_in hgd) hs
    have I := inv_start (CX := L2.CX P w) (E := E) (w := w) S room.hd e0 (len _ _ _ _ hs) hv hx
    refine ⟨(e0.mod.nolimit.keeps keepB).keeps hx.toInCall.keep, codeAny_func (wpAny_mono (ht.run [] s1 (start N vs) H _ I hq) (fun fl s2 h2 => ?_) fun _ _ h2 => h2)⟩
    cases fl with
    | next =>
      obtain ⟨σ', H', J, q⟩ := h2
      exact ⟨.non, H', J.os, J.bare, J.base, J.hok, rfl, q⟩
    | ret u =>
      obtain ⟨v, σ', H', J, rv, q⟩ := h2
      exact ⟨v, H', J.os, J.bare, J.base, J.hok, rv, q⟩
    | brk =>
      obtain ⟨_, _, _, q⟩ := h2
      exact q.elim
    | cont =>
      obtain ⟨_, _, _, q⟩ := h2
      exact q.elim
end
section
variable {P : Program} {w : World} {K : PySem.W.Frag} {mg : Str → Option Value} {base : Heap}
theorem kn_of {x : Str} {st : Stmt} {N ps : List Str} {k : Nat} {p : DSp} (g : mg x = some (.ref (He.ga K x))) (F : ∃ fd, FunD K x x (defArgs st) (defBody st) (defScope st) [] [] (He.ga K x) fd) (S : FnScope N ps (defScope st)) (len : ∀ xs G R RX, p xs G R RX → xs.length = ps.length)
    (hbody : ∀ (cdv : Value), cdv = .ref (cdAt K (He.ga K x)) → ∀ (A : Around) (outer : List Env) (s : Shared) (H : Hp) (E : XK) (B : Bs) (RX : XD), Room k (A.deeper (envOfC x (defScope st) s.heap.objs.size (He.ga K x) cdv)) → (A.deeper (envOfC x (defScope st) s.heap.objs.size (He.ga K x) cdv)).guards = some [] → KX K B.f B.b RX E →
      ∃ t : DS, PSs (cxOf (L2.CX P w) P w K mg base N x (defScope st) (He.ga K x) cdv A outer s H E) (defBody st) (upS K B t) ∧ ∀ xs G R, p xs G R RX → t { nx := fun _ G => R .non G, rt := R } (xs.map some ++ List.replicate (N.length - xs.length) none) G) :
    Kn P w K mg base (k + 1) x st ps p := by
  obtain ⟨fd, F⟩ := F
  refine ⟨g, fd, F, fng_of F S (fun vs H Q E h => ?_) fun cdv hcv A outer s H vs Q E hr hg h => ?_⟩
  · obtain ⟨xs, _, _, G, R, RX, r, _, hp, _⟩ := h
    rw [r.length]
    exact len xs G R RX hp
  · obtain ⟨xs, F, Hd, G, R, RX, r, sm, hp, ke, kx⟩ := h
    obtain ⟨t, ht, h2⟩ := hbody cdv hcv A outer s H E ⟨Hd, F⟩ RX hr hg kx
    refine ⟨_, ht, _, Hd, G, _, ⟨Ex.refl _, RpE.start r, sm⟩, h2 xs G R hp, ?_⟩
    exact ⟨fun σ' H' Hd' ρ' G' e _ s h => ke .non H' Hd' .non G' e s .non h, ke, fun _ _ _ _ _ _ _ _ h => h.elim, fun _ _ _ _ _ _ _ _ h => h.elim⟩
end
section
variable {X : Cx} {B : Bs} {pos p : Pos} {e : Expr} {es : List Expr} {dA : DA}
theorem run_fng {k : Nat} {f : Addr} {fd : FuncData} {ps : List Str} {sp : Sp} {E : XK} {pins : List (Addr × Obj)} {σ : L2.St} {H : Hp} {s : Shared} {Q : VK} {args : Args} {us : List Value} {vs : List V} (F : FnG X.prog X.w X.K X.mg X.base k f fd ps sp) (hr : Room k X.A) (hgd : X.A.guards = some [])
    (hx : Passes (L2.CX X.prog X.w) X E) (I : Inv X pins σ H s) (hb : BindsTo s fd args (ps.zip us)) (r : Vals vs us) (h : sp vs H Q E) : codeAny (model X.prog X.w) X.A (.call (.ref f) args) (fun r s' => match r with | .ok (.ret u) => EP X pins σ Q u s' | .ok _ => False | .error e => X.xe e s') s := by
  refine codeAny_mono (F.run X.A X.stack s H args us vs Q E hr hgd I.env0 hb r h) fun r s' hq => ?_
  cases r with
  | error e => exact hx pins σ H s e s' I hq
  | ok fl =>
    cases fl with
    | ret u => exact I.after hq
    | next => exact hq.elim
    | brk => exact hq.elim
    | cont => exact hq.elim
theorem call_imp {K : PySem.W.Frag} {q : DSp} {RX : XD} {E : XK} (hx : ∀ Hd, Ex B.b Hd → KX K B.f Hd RX E) : ∀ σ H Q, upE K B (dCall q RX dA) σ H Q → tCall (spU K q) [] E (upA K B dA) σ H Q := fun σ H Q ⟨ρ, Hd, G, R, at_, h, k⟩ =>
  ⟨ρ, Hd, G, _, at_, h, fun vs H1 Hd1 xs G1 e1 s1 r1 h1 => ⟨xs, B.f, Hd1, G1, R, RX, by rw [List.append_nil]; exact r1, s1, h1, k.mono e1, hx Hd1 (at_.b.trans e1)⟩⟩
theorem pe_callG {k : Nat} {f : Addr} {fd : FuncData} {ps : List Str} {sp : Sp} {E : XK} {x : Str} {t : TA} (F : FnG X.prog X.w X.K X.mg X.base k f fd ps sp) (hr : Room k X.A) (hgd : X.A.guards = some []) (hg : Gl X x) (hm : X.mg x = some (.ref f)) (hk : PySem.W.keepIn X.K (.ref f) = true) (hb : Binds X.K fd ps [])
    (hx : Passes (L2.CX X.prog X.w) X E) (ha : PA X (e :: es) t) (hdb : (x == ("__debug__" : Str)) = false := by decide) (he : starEach (e :: es) X.env = (false, eval e X.env) :: starEach es X.env := by rfl) (hpl : (backTo pos (starEach es X.env)).any (·.1) = false := by rfl) :
    PE X (.Call (.Name x p) (e :: es) [] pos) (tCall sp [] E t) := ⟨fun pins s σ H Q I h => by
  refine wpAny_Call_Name_kw (ld_glob I hg hm (PySem.W.callWith_K (h₀ := X.base) I.ok.mod.kin hk (thn (ha.run pos pins s σ H _ I h) fun us s1 hh => ?_) he hpl) hdb)
  obtain ⟨vs, H1, I1, r, q⟩ := hh
  rw [List.append_nil] at q
  have hl : us.length = ps.length := by rw [← r.length]; exact F.len _ _ _ _ q
  have hb1 := hb s1 us I1.kIn (by rw [List.append_nil]; exact hl)
  rw [List.append_nil] at hb1
  refine ⟨I1.kIn, wpAny_call (codeAny_mono (run_fng F hr hgd hx I1 hb1 r q) fun r s2 hq => ?_)⟩
  cases r with
  | error e => exact hq
  | ok fl => cases fl <;> first | exact hq | exact hq.elim⟩
theorem pd_call {k : Nat} {x : Str} {st : Stmt} {ps : List Str} {q : DSp} {RX : XD} {E : XK} (h : Kn X.prog X.w X.K X.mg X.base k x st ps q) (hr : Room k X.A) (hgd : X.A.guards = some []) (hg : Gl X x) (hx : Passes (L2.CX X.prog X.w) X E) (kx : ∀ Hd, Ex B.b Hd → KX X.K B.f Hd RX E)
    (hb : ∀ (kV doc pm : Value) (an : Option Addr) (cdv ct : Value) (us : List Value), us.length = ps.length → bindArgs (PySem.W.fnOf x x (defArgs st) (defBody st) (defScope st) .none kV doc pm an cdv ct) ⟨us, []⟩ = pure (ps.zip us))
    (ha : PA X (e :: es) (upA X.K B dA)) (hdb : (x == ("__debug__" : Str)) = false := by decide) (he : starEach (e :: es) X.env = (false, eval e X.env) :: starEach es X.env := by rfl) (hpl : (backTo pos (starEach es X.env)).any (·.1) = false := by rfl) :
    PE X (.Call (.Name x p) (e :: es) [] pos) (upE X.K B (dCall q RX dA)) := by
  obtain ⟨fd, F, G⟩ := h.fn
  exact pe_imp (pe_callG G hr hgd hg h.g F.kp (F.bindsN hb) hx ha hdb he hpl) (call_imp kx)
theorem pkd_cons {nm : Option Str} {kpos : Pos} {kws : List Keyword} {de : DE} {dr : DA} (ha : PE X e (upE X.K B de)) (hr : PK X kws (upA X.K B dr)) (hk : ∀ {t : TA}, PK X kws t → PK X (⟨nm, e, kpos⟩ :: kws) (tCons (upE X.K B de) t)) : PK X (⟨nm, e, kpos⟩ :: kws) (upA X.K B (dCons de dr)) :=
  ⟨fun pos pins s σ H Q I ⟨ρ, Hd, G, R, at_, h, k⟩ => (hk hr).run pos pins s σ H Q I
    ⟨ρ, Hd, G, _, at_, h, fun v H1 Hd1 x G1 e1 s1 r1 h1 => ⟨ρ, Hd1, G1, _, at_.step e1 s1, h1, fun vs H2 Hd2 xs G2 e2 s2 r2 h2 => k _ H2 Hd2 _ G2 (e1.trans e2) s2 (.cons (r1.mono e2) r2) h2⟩⟩⟩
theorem pkd_nil : PK X [] (upA X.K B dNil) := ⟨fun pos pins s σ H Q I ⟨ρ, Hd, G, R, at_, h, k⟩ => pk_nil.run pos pins s σ H Q I (k [] H Hd [] G (Ex.refl _) at_.s .nil h)⟩
structure Ord where
  go : {α : Type} → List α → List α
  rel : ∀ {α β : Type} (R : α → β → Prop) (xs : List α) (ys : List β), Paired R xs ys → Paired R (go xs) (go ys)
def ordOf (pm : List Nat) : Ord where
  go := fun l => if l.length = pm.length then pm.filterMap (fun i => l[i]?) else l
  rel := fun {α β} R xs ys h => by
    have hl : xs.length = ys.length := Paired.length h
    have at_ : ∀ {xs : List α} {ys : List β}, Paired R xs ys → ∀ i : Nat, (xs[i]? = none ∧ ys[i]? = none) ∨ ∃ x y, xs[i]? = some x ∧ ys[i]? = some y ∧ R x y := fun {xs ys} h => by
      induction h with
      | nil => exact fun i => .inl ⟨rfl, rfl⟩
      | cons a _ ih => exact fun i => match i with
        | 0 => .inr ⟨_, _, rfl, rfl, a⟩
        | i + 1 => ih i
    have all : ∀ l : List Nat, Paired R (l.filterMap fun i => xs[i]?) (l.filterMap fun i => ys[i]?) := fun l => by
      induction l with
      | nil => exact .nil
      | cons i l ih =>
        rcases at_ h i with ⟨e1, e2⟩ | ⟨x, y, e1, e2, r⟩
        · rw [List.filterMap_cons_none e1, List.filterMap_cons_none e2]
          exact ih
        · rw [List.filterMap_cons_some e1, List.filterMap_cons_some e2]
          exact .cons r ih
    by_cases z : xs.length = pm.length
    · rw [if_pos z, if_pos (by rw [← hl]; exact z)]
      exact all pm
    · rw [if_neg z, if_neg (by rw [← hl]; exact z)]
      exact h
theorem ordOf_len {pm : List Nat} {n : Nat} (hn : n = pm.length) {α : Type} (l : List α) (h : ((ordOf pm).go l).length = n) : l.length = n := by
  by_cases z : l.length = pm.length
  · rw [z, hn]
  · have e : (ordOf pm).go l = l := if_neg z
    rw [e] at h
    exact h
theorem rpl_paired {K : PySem.W.Frag} {H : Hp} : ∀ {vs : List V} {ds : List D}, RpL K H vs ds → Paired (Rp K H) vs ds
  | _, _, .nil => .nil
  | _, _, .cons a b => .cons a (rpl_paired b)
theorem paired_rpl {K : PySem.W.Frag} {H : Hp} : ∀ {vs : List V} {ds : List D}, Paired (Rp K H) vs ds → RpL K H vs ds
  | _, _, .nil => .nil
  | _, _, .cons a b => .cons a (paired_rpl b)
def dCallK (q : DSp) (o : Ord) (RX : XD) (dA : DA) : DE := fun ρ G R => dA ρ G fun xs G1 => q (o.go xs) G1 R RX
theorem pd_callK {k : Nat} {x : Str} {st : Stmt} {ps ks : List Str} {q : DSp} {RX : XD} {E : XK} {kws : List Keyword} (o : Ord) (h : Kn X.prog X.w X.K X.mg X.base k x st ps q) (hr : Room k X.A) (hgd : X.A.guards = some []) (hg : Gl X x) (hx : Passes (L2.CX X.prog X.w) X E) (kx : ∀ Hd, Ex B.b Hd → KX X.K B.f Hd RX E)
    (hb : ∀ (kV doc pm : Value) (an : Option Addr) (cdv ct : Value) (us : List Value), us.length = ps.length → bindArgs (PySem.W.fnOf x x (defArgs st) (defBody st) (defScope st) .none kV doc pm an cdv ct) ⟨[], ks.zip us⟩ = pure (ps.zip (o.go us)))
    (hn : ks.length = ps.length) (ho : ∀ {α : Type} (l : List α), (o.go l).length = ps.length → l.length = ps.length)
    (hkw : PK X kws (upA X.K B dA)) (hall : (backToKw pos (keywordEach kws X.env)).all (·.1.isSome) = true := by rfl) (hks : (backToKw pos (keywordEach kws X.env)).filterMap (·.1) = ks := by rfl)
    (hdb : (x == ("__debug__" : Str)) = false := by decide) (hpl : ((backTo pos (starEach [] X.env)).any (·.1) || (backToKw pos (keywordEach kws X.env)).any (·.1.isNone)) = false := by rfl) :
    PE X (.Call (.Name x p) [] kws pos) (upE X.K B (dCallK q o RX dA)) := by
  obtain ⟨fd, F, G⟩ := h.fn
  refine ⟨fun pins s σ H Q I hw => ?_⟩
  refine wpAny_Call_Name_kw (ld_glob I hg h.g (PySem.W.callWith_KW0 (h₀ := X.base) I.ok.mod.kin F.kp hall (thn (hkw.run pos pins s σ H (fun vs H1 => spU X.K q (o.go vs) H1 Q E) I ?_) fun us s1 hh => ?_) hpl) hdb)
  · obtain ⟨ρ, Hd, G0, R, at_, h0, k0⟩ := hw
    exact ⟨ρ, Hd, G0, _, at_, h0, fun vs H1 Hd1 xs G1 e1 s1 r1 h1 => ⟨o.go xs, B.f, Hd1, G1, R, RX, paired_rpl (o.rel _ _ _ (rpl_paired r1)), s1, h1, k0.mono e1, kx Hd1 (at_.b.trans e1)⟩⟩
  · obtain ⟨vs, H1, I1, r, q1⟩ := hh
    have r2 : Vals (o.go vs) (o.go us) := o.rel _ _ _ r
    have hl : (o.go us).length = ps.length := by rw [← r2.length]; exact G.len _ _ _ _ q1
    have hus := ho us hl
    refine ⟨I1.kIn, ?_⟩
    rw [hks, List.append_nil]
    have hb1 : BindsTo s1 fd ⟨[], ks.zip us⟩ (ps.zip (o.go us)) := by
      obtain ⟨oc, od, dV, kV, doc, pm, an, cdv, ct, osl, rfl, lk, hcd, hD, hK⟩ := F.ex
      rcases hD with ⟨_, rfl⟩ | ⟨z, _⟩
      · exact .of_eq (hb kV doc pm an cdv ct us hus)
      · exact absurd rfl z
    refine wpAny_call (codeAny_mono (run_fng G hr hgd hx I1 hb1 r2 q1) fun r s2 hq => ?_)
    cases r with
    | error e => exact hq
    | ok fl => cases fl <;> first | exact hq | exact hq.elim
theorem pass0 : Passes (L2.CX X.prog X.w) X E0 := passL
theorem kx0 {K : PySem.W.Frag} : ∀ Hd, Ex B.b Hd → KX K B.f Hd X0 E0 := fun _ _ => .none
theorem pd_repr {da : DE} {x : Str} (hx : x = "repr") (hgd : X.A.guards = some []) (hu : X.A.units + 64 < cLine) (hg : Gl X x) (hm : X.mg x = none) (ha : PE X e (upE X.K B da)) (he : starEach (e :: []) X.env = (false, eval e X.env) :: starEach [] X.env := by rfl) (hpl : (backTo pos (starEach [] X.env)).any (·.1) = false := by rfl) :
    PE X (.Call (.Name x p) (e :: []) [] pos) (upE X.K B (dCal fRepr (dCons da dNil))) := by
  subst hx
  exact pd_callB (call_repr hgd hu) cd_repr hg hm (by decide +kernel) (pda_cons ha pda_nil he) (by decide) (by decide) he hpl
end
end DL
namespace DL
open PySem PySem.Spec PyProof.Rows L2 Evl
variable [TabC]
def scrH (K : PySem.W.Frag) (a : Addr) (o : Obj) (xs : List V) : Hp := fun b => if b = a ∧ K.lookup a = none then some (.frz o (.lst xs)) else none
section
variable {K : PySem.W.Frag} {a : Addr} {o : Obj} {xs : List V}
theorem scr_at (h : K.lookup a = none) : scrH K a o xs a = some (.frz o (.lst xs)) := if_pos ⟨rfl, h⟩
theorem scr_some {b : Addr} {u : HO} (h : scrH K a o xs b = some u) : b = a ∧ K.lookup a = none ∧ u = .frz o (.lst xs) := by
  unfold scrH at h
  by_cases z : b = a ∧ K.lookup a = none
  · rw [if_pos z] at h
    cases h
    exact ⟨z.1, z.2, rfl⟩
  · rw [if_neg z] at h
    cases h
theorem scr_ne {b : Addr} (h : b ≠ a) : scrH K a o xs b = none := if_neg fun z => h z.1
end
def sttH (K : PySem.W.Frag) (ts : List Addr) (a : Addr) (o : Obj) (xs : List V) : Hp := fun b => if b ∈ ts then some (.tbl #[]) else scrH K a o xs b
section
variable {K : PySem.W.Frag} {ts : List Addr} {a : Addr} {o : Obj} {xs : List V}
theorem stt_in {b : Addr} (h : b ∈ ts) : sttH K ts a o xs b = some (.tbl #[]) := if_pos h
theorem stt_out {b : Addr} (h : b ∉ ts) : sttH K ts a o xs b = scrH K a o xs b := if_neg h
end
abbrev tabO (us : Array Value) : Obj := { cls := .none, data := .fields us }
def BltMod (mg : Str → Option Value) (h : Heap) : Prop := ∃ (u : Addr) (ou : Obj), mg "__builtins__" = some (.ref u) ∧ u ≠ builtinsNs ∧ h.get? u = some ou ∧ ou.cls = .type "module" ∧ ou.dict = some builtinsNs ∧ ou.data = .plain
theorem law_callG {P : Program} {w : World} {K : PySem.W.Frag} {mg mb : Str → Option Value} {k : Nat} {fa a : Addr} {fd : FuncData} {x : Str} {sp : Sp} {s : Shared} {vs : List Value} {ns : List Int} {ct : List (Addr × Addr)}
    (hK : K.In s.heap) (hns : s.heap.Ns mainGlobals mg) (hb : s.heap.Ns builtinsNs mb) (hbb : ∀ x : Str, x ≠ "__name__" → mb x = bootBuiltins x) (hlim : s.heap.NoLimit) (hg : s.gens = #[])
    (tE : ∀ q ∈ ct, s.heap.get? q.2 = some (tabO #[])) (tK : ∀ q ∈ ct, K.lookup q.2 = none) (tC : ∀ q ∈ ct, PySem.W.CodeHd s.heap q.1 q.2) (hbm : BltMod mg s.heap)
    (ha : s.heap.get? a = some { cls := .type "list", data := .seq vs.toArray }) (hi : IntsAre vs ns) (hl : ns.length ≤ sizeLine) (hr : Room k callerA)
    (F : ∀ base : Heap, K.In base → base.Ns mainGlobals mg → (∀ q ∈ ct, LamX.TabB base mg q.1 q.2) → FnG P w K mg base k fa fd [x] sp) (hbind : ∀ (s : Shared) (u : Value), BindsTo s fd ⟨[u], []⟩ [(x, u)])
    (hsp : ∀ Hd H : Hp, Ex Hd H → (∀ q ∈ ct, H q.2 = some (.tbl #[]) ∧ Hd q.2 = none) → SqL K Hd a (ns.map V.int) → sp [.ref a] H (fun v _ => v = .bl true) fun _ _ _ => False) :
    codeAny (model P w) callerA (.call (.ref fa) ⟨[.ref a], []⟩) (fun r s' => r = .ok (.ret (.bool true)) ∧ OldK s.heap s'.heap ∧ s'.os = s.os ∧ AllBare s'.gens) s := by
  have rv := vals_ints hi
  generalize eo : ({ cls := .type "list", data := .seq vs.toArray } : Obj) = o at ha
  generalize eT : ct.map (·.2) = ts
  have inT : ∀ {q : Addr × Addr}, q ∈ ct → q.2 ∈ ts := fun hq => by
    rw [← eT]
    exact List.mem_map_of_mem hq
  have ofT : ∀ {b : Addr}, b ∈ ts → ∃ q ∈ ct, q.2 = b := fun hb => by
    rw [← eT] at hb
    exact List.mem_map.mp hb
  have aT : a ∉ ts := fun z => by
    obtain ⟨q, hq, e⟩ := ofT z
    have e2 := tE q hq
    rw [e, ha, ← eo] at e2
    cases e2
  generalize eHd : scrH K a o (ns.map V.int) = Hd
  generalize eH : sttH K ts a o (ns.map V.int) = H
  have hin : ∀ {b : Addr}, b ∈ ts → H b = some (.tbl #[]) := fun z => by
    rw [← eH]
    exact stt_in z
  have hout : ∀ {b : Addr}, b ∉ ts → H b = Hd b := fun z => by
    rw [← eH, ← eHd]
    exact stt_out z
  have dT : ∀ {b : Addr}, b ∈ ts → Hd b = none := fun {b} z => by
    rw [← eHd]
    exact scr_ne fun e => aT (by rw [← e]; exact z)
  have exd : Ex Hd H := fun b u e => by
    by_cases z : b ∈ ts
    · rw [dT z] at e
      cases e
    · rw [hout z]
      exact e
  have rd : SqL K Hd a (ns.map V.int) := by
    subst eHd
    cases q : K.lookup a with
    | none => exact .inl (.inr ⟨o, scr_at q⟩)
    | some o2 =>
      have e2 : o2 = o := Option.some.inj ((hK a o2 q).symm.trans ha)
      subst e2 eo
      exact .inr ⟨_, vs.toArray, _, q, rfl, rfl, rfl, by rw [List.size_toArray, hi.length]; exact hl, by simpa using rv⟩
  have ofD : ∀ {b : Addr} {u : HO}, Hd b = some u → b = a ∧ K.lookup a = none ∧ u = .frz o (.lst (ns.map V.int)) := fun e => by
    rw [← eHd] at e
    exact scr_some e
  have held : HOk P w H s.heap := fun b u q => by
    by_cases z : b ∈ ts
    · rw [hin z] at q
      cases q
      obtain ⟨r, hr, e⟩ := ofT z
      rw [← e]
      exact tE r hr
    · rw [hout z] at q
      obtain ⟨rfl, _, rfl⟩ := ofD q
      subst eo
      exact ⟨ha, by rw [List.length_map]; exact hl, vs, _, rv, ha⟩
  -- what is neither a list nor an empty record is untracked
  have freeO : ∀ {b : Addr} {ob : Obj}, s.heap.get? b = some ob → (∀ us m, ob.data ≠ .seq us m) → ob.data ≠ .fields #[] → H b = none := fun {b ob} e n1 n2 => by
    by_cases z : b ∈ ts
    · obtain ⟨r, hr, e2⟩ := ofT z
      have e3 := tE r hr
      rw [e2, e] at e3
      cases e3
      exact (n2 rfl).elim
    · rw [hout z]
      cases q : Hd b with
      | none => rfl
      | some u =>
        obtain ⟨rfl, _, _⟩ := ofD q
        rw [ha, ← eo] at e
        cases e
        exact (n1 _ _ rfl).elim
  have freeD : ∀ {b : Addr} {ob : Obj} {es : Array DictEntry} {ep : Nat}, s.heap.get? b = some ob → ob.data = .dict es ep → H b = none := fun {b ob es ep} e d =>
    freeO e (fun us m z => by rw [d] at z; cases z) (fun z => by rw [d] at z; cases z)
  have toB : ∀ {b : Addr} {m : Str → Option Value}, s.heap.Ns b m → (hidT s.heap H).Ns b m := fun {b m} ⟨ob, es, ep, e, d, r⟩ => ⟨ob, es, ep, hidT_get e (freeD e d), d, r⟩
  have kB : K.In (hidT s.heap H) := fun b ob e => hidT_get (hK b ob e) (by
    by_cases z : b ∈ ts
    · obtain ⟨r, hr, e2⟩ := ofT z
      rw [← e2, tK r hr] at e
      cases e
    · rw [hout z]
      cases q : Hd b with
      | none => rfl
      | some u =>
        obtain ⟨rfl, q2, _⟩ := ofD q
        rw [q2] at e
        cases e)
  have md : Mod K mg (hidT s.heap H) := ⟨kB, toB hns, ⟨mb, toB hb, hbb⟩, let ⟨mc, h1, h2⟩ := hlim; ⟨mc, toB h1, h2⟩⟩
  have tB : ∀ q ∈ ct, LamX.TabB (hidT s.heap H) mg q.1 q.2 := fun q hq => by
    have isP := tE q hq
    obtain ⟨gO, gE, gP, gG, gD, gR⟩ := hns
    obtain ⟨u, ou, m1, m2, m3, m4, m5, m6⟩ := hbm
    refine ⟨?_, ⟨u, ou, m1, m2, fun z => ?_, fun z => ?_, hidT_get m3 (freeO m3 (fun us m z => ?_) fun z => ?_), m4, m5, m6⟩, fun z => ?_⟩
    · obtain ⟨co, cf, c3, c4, c5, c6, c7, c8, c9, k1, k2, k3, k4, k5, k6, k7, k8, k9, k10⟩ := tC q hq
      refine ⟨co, cf, c3, c4, c5, c6, c7, c8, c9, hidT_get k1 (freeO k1 (fun us m z => ?_) fun z => ?_), k2, k3, k4, k5, k6, k7, k8, k9, k10⟩
      · rw [k3] at z
        cases z
      · rw [k3] at z
        cases z
        simp at k4
    · rw [z, gG] at m3
      cases m3
      rw [gD] at m6
      cases m6
    · rw [z, isP] at m3
      cases m3
      cases m6
    · rw [m6] at z
      cases z
    · rw [m6] at z
      cases z
    · rw [z, isP] at gG
      cases gG
      cases gD
  have e0 : Env0 P w K mg (hidT s.heap H) callerA [] s H := ⟨rfl, md, fun b o e => of_hidT e, Nat.le_of_eq (hidT_size _ _), trivial, fun b hb => (nomatch (show b ∈ ([] : List Addr) from hb)), held, .of_eq hg⟩
  refine codeAny_mono ((F _ kB (toB hns) tB).run callerA [] s H ⟨[.ref a], []⟩ [.ref a] [.ref a] _ _ hr rfl e0 (hbind s (.ref a)) (.cons rfl .nil) (hsp Hd H exd (fun q hq => ⟨hin (inT hq), dT (inT hq)⟩) rd)) fun r s' hq => ?_
  cases r with
  | error e =>
    obtain ⟨_, _, _, _, _, _, _, _, _, _, _, _, z⟩ := hq
    exact z.elim
  | ok fl =>
    cases fl with
    | next => exact hq.elim
    | brk => exact hq.elim
    | cont => exact hq.elim
    | ret u =>
      obtain ⟨v, H', os, bare, un, hok', r', q⟩ := hq
      have q2 : v = .bl true := q
      subst q2
      cases (show u = Value.bool true from r')
      have old : ∀ b ob, b ∉ ts → s.heap.get? b = some ob → s'.heap.get? b = some ob := fun b ob nb e => by
        cases z : Hd b with
        | none => exact un.keep b ob e (by rw [hout nb]; exact z) (by intro y; exact nomatch (show b ∈ ([] : List Addr) from y)) (by simp)
        | some u =>
          obtain ⟨rfl, _, rfl⟩ := ofD z
          have zH : H b = some (.frz o (.lst (ns.map V.int))) := by
            rw [hout nb]
            exact z
          have e1 := (held b _ zH).1
          have e2 := (hok' b _ (un.frzs b o _ zH)).1
          have e3 := e.symm.trans e1
          cases e3
          exact e2
      have more : ∀ q ∈ ct, ∃ us : Array Value, s'.heap.get? q.2 = some (tabO us) := fun q hq => by
        obtain ⟨us, z⟩ := un.tbls q.2 #[] (hin (inT hq))
        exact ⟨_, hok' q.2 _ z⟩
      refine ⟨rfl, ⟨fun b ob e => ?_, fun b ob e => ?_⟩, os, bare⟩
      · by_cases z : b ∈ ts
        · obtain ⟨r, hr, e2⟩ := ofT z
          obtain ⟨us, hm⟩ := more r hr
          rw [← e2] at e ⊢
          rw [tE r hr] at e
          cases e
          exact .inr (.inl ⟨((tC r hr).tab (tE r hr)).isCodeTable, rfl, #[], us, rfl, by rw [Array.empty_append]; exact hm⟩)
        · exact .inl (old b ob z e)
      · by_cases z : b ∈ ts
        · obtain ⟨r, hr, e2⟩ := ofT z
          obtain ⟨us, hm⟩ := more r hr
          exact ⟨_, by rw [← e2]; exact hm⟩
        · exact ⟨ob, old b ob z e⟩
theorem walk_lawT {l : PySem.W.OpenLaw} {n k : Nat} {q : Program} {loose : List Str} {XP : (Str → Option Value) → Heap → Prop} {YP : World → Heap → Prop} {d : DefRec} {x : Str}
    (hn : l.most = some n) (hn2 : n ≤ sizeLine) (hdf : d.params.defaults = []) (hr : Room k callerA)
    (F : ∀ (w : World) (mg : Str → Option Value) (fa : Addr) (h : Heap), YP w h → h.Ns mainGlobals mg → mg d.name = some (.ref fa) →
      ∃ (K : PySem.W.Frag) (fd : FuncData) (sp : Sp) (ct : List (Addr × Addr)), K.In h ∧ (∀ q ∈ ct, h.get? q.2 = some (tabO #[])) ∧ (∀ q ∈ ct, K.lookup q.2 = none) ∧ (∀ q ∈ ct, PySem.W.CodeHd h q.1 q.2) ∧ (∀ (s : Shared) (u : Value), BindsTo s fd ⟨[u], []⟩ [(x, u)]) ∧
        (∀ (Hd H : Hp) (a : Addr) (ns : List Int), ns.length ≤ n → Ex Hd H → (∀ q ∈ ct, H q.2 = some (.tbl #[]) ∧ Hd q.2 = none) → SqL K Hd a (ns.map V.int) → sp [.ref a] H (fun v _ => v = .bl true) fun _ _ _ => False) ∧
        ∀ base : Heap, K.In base → base.Ns mainGlobals mg → (∀ q ∈ ct, LamX.TabB base mg q.1 q.2) → FnG l.prog w K mg base k fa fd [x] sp) :
    PySem.W.WalkO q loose XP YP l.row.toRowW d [] (fun f vs => PySem.call f vs) := by
  refine Att.attach_call hn hdf fun w s0 s1 mg mb fa o pm cd doc a vs ns G Y ho hd hcd hmg hobj hints hlen hg => ?_
  obtain ⟨K, fd, sp, ct, KX, tE, tK, tC, hb, hsp, hF⟩ := F w mg fa _ Y G.T.g hmg
  exact law_callG KX G.T.g G.T.b G.T.builtins G.T.nolimit hg tE tK tC G.T.bmain hobj hints (Nat.le_trans hlen hn2) hr hF hb fun Hd H e hT hS => hsp Hd H a ns hlen e hT hS
theorem rp_script {K : PySem.W.Frag} {H : Hp} {a : Addr} {ns : List Int} (h : SqL K H a (ns.map V.int)) : RpL K H [.ref a] [.lst (ns.map D.int)] := by
  refine .cons (.lst h ?_) .nil
  induction ns with
  | nil => exact .nil
  | cons n ns ih => exact .cons (.int n) (RpL_ints ns)
where RpL_ints : ∀ ns : List Int, RpL K H (ns.map V.int) (ns.map D.int)
  | [] => .nil
  | n :: ns => .cons (.int n) (RpL_ints ns)
def F0 (K : PySem.W.Frag) : Gm := fun a => ((tabT K).lookup a).map Mt.tab
def TabOk (K : PySem.W.Frag) : Prop := ∀ p ∈ tabT K, ∀ q ∈ tabT K, p.1 = q.1 → p.2 = q.2
theorem lookup_in {α : Type} {a : Addr} : ∀ {l : List (Addr × α)} {x : α}, l.lookup a = some x → (a, x) ∈ l
  | (b, y) :: l, x, h => by
    rw [List.lookup_cons] at h
    split at h
    · rename_i e
      cases h
      rw [beq_iff_eq.mp e]
      exact List.mem_cons_self
    · exact List.mem_cons_of_mem _ (lookup_in h)
theorem lookup_of {α : Type} {a : Addr} {x : α} : ∀ {l : List (Addr × α)}, (a, x) ∈ l → ∃ y, l.lookup a = some y
  | (b, y) :: l, h => by
    rw [List.lookup_cons]
    split
    · exact ⟨_, rfl⟩
    · rename_i e
      rcases List.mem_cons.mp h with z | z
      · cases z
        simp at e
      · exact lookup_of z
theorem sim_start {K : PySem.W.Frag} {Hd H : Hp} (h : TabOk K) (e : Ex Hd H) (ht : ∀ p ∈ tabT K, H p.1 = some (.tbl #[]) ∧ Hd p.1 = none) : Sim K (F0 K) Hd H G0 := by
  have key : ∀ a m, F0 K a = some m → ∃ q, m = .tab q ∧ (a, q) ∈ tabT K := fun a m z => by
    unfold F0 at z
    cases y : (tabT K).lookup a with
    | none =>
      rw [y] at z
      cases z
    | some q =>
      rw [y] at z
      cases z
      exact ⟨q, rfl, lookup_in y⟩
  refine { sub := e, off := fun _ _ h => (g0 h).elim, hold := fun _ _ h => (g0 h).elim, offF := fun a m z => ?_, holdF := fun a m z => ?_, apart := fun _ _ h => rfl, tabs := fun p hp => ?_ }
  · obtain ⟨q, _, hq⟩ := key a m z
    exact (ht _ hq).2
  · obtain ⟨q, rfl, hq⟩ := key a m z
    refine ⟨#[], (ht _ hq).1, True.intro, fun pos cv y => ?_⟩
    have y2 : codeAmong pos [] = some cv := y
    unfold codeAmong at y2
    cases y2
  · obtain ⟨q, hq⟩ := lookup_of (x := p.2) (a := p.1) hp
    show ((tabT K).lookup p.1).map Mt.tab = _
    have e3 : q = p.2 := h (p.1, q) (lookup_in hq) p hp rfl
    rw [hq, e3]
    rfl
def lawSp : DSp := fun xs G R _ => ∃ ns : List Int, xs = [.lst (ns.map D.int)] ∧ ns.length ≤ 63 ∧ (∀ a, G a = none) ∧ ∀ G', R (.bl true) G'
theorem law_sp {K : PySem.W.Frag} {Hd H : Hp} {a : Addr} {ns : List Int} (hl : ns.length ≤ 63) (ok : TabOk K) (e : Ex Hd H) (ht : ∀ p ∈ tabT K, H p.1 = some (.tbl #[]) ∧ Hd p.1 = none) (h : SqL K Hd a (ns.map V.int)) : spU K lawSp [.ref a] H (fun v _ => v = .bl true) fun _ _ _ => False :=
  ⟨_, F0 K, Hd, G0, fun d _ => d = .bl true, X0, rp_script h, sim_start ok e ht, ⟨ns, rfl, hl, fun _ => rfl, fun _ => rfl⟩, fun v H' Hd' x G' _ _ r e => by
    subst e
    cases r
    rfl, .none⟩
end DL
namespace DL
open PySem PySem.Spec PyProof.Rows L2 Evl
variable [TabC]
def isIntD : D → Bool
  | .int _ => true
  | _ => false
def isSeqD : D → Bool
  | .tup _ => true
  | .lst _ => true
  | _ => false
mutual
/-- data of built-in kinds, all the way in -/
def D.kn : D → Bool
  | .non => true
  | .bl _ => true
  | .int _ => true
  | .str _ => true
  | .tup xs => D.knL xs
  | .lst xs => D.knL xs
  | .dct _ _ => true
  | .ty _ => false
  | .ref _ => false
  | .ins _ _ _ => false
  | .exc _ _ _ => false
  | .fnc _ => false
def D.knL : List D → Bool
  | [] => true
  | x :: xs => D.kn x && D.knL xs
end
def bndD : D → Option (Option Int)
  | .non => some none
  | .int i => some (some i)
  | _ => none
def leO (l : Option Int) (i : Int) : Bool := match l with
  | none => true
  | some a => decide (a ≤ i)
def geO (m : Option Int) (i : Int) : Bool := match m with
  | none => true
  | some a => decide (i ≤ a)
def withinD (x : D) (l m : Option Int) : Bool := match x with
  | .int i => leO l i && geO m i
  | _ => false
theorem pair_1 (a : D) : pairD [a] = none := by cases a <;> rfl
theorem pair_3 (a b c : D) (r : List D) : pairD (a :: b :: c :: r) = none := by cases a <;> first | rfl | (cases b <;> rfl)
theorem pair_2a (a b : D) (h : isIntD a = false) : pairD [a, b] = none := by cases a <;> first | rfl | cases h
theorem forL_inv {g : DG} {s : DS} {E : DEnds} (I : En → Gm → Prop) : ∀ {xs : List D} {ρ : En} {G : Gm},
    (∀ x ∈ xs, ∀ (N : En → Gm → Prop) (ρ : En) (G : Gm), (∀ ρ G, I ρ G → N ρ G) → I ρ G → g x ρ G fun ρ1 G1 => s { E with nx := N, ct := N, bk := E.nx } ρ1 G1) → (∀ ρ G, I ρ G → E.nx ρ G) → I ρ G → forL g s E xs ρ G
  | [], ρ, G, _, hd, h0 => hd ρ G h0
  | x :: xs, ρ, G, hs, hd, h0 => hs x List.mem_cons_self (forL g s E xs) ρ G (fun ρ G h => forL_inv I (fun y hy => hs y (List.mem_cons_of_mem _ hy)) hd h) h0
theorem forL_at {g : DG} {s : DS} {E : DEnds} (I : List D → En → Gm → Prop) : ∀ {xs : List D} {ρ : En} {G : Gm},
    (∀ x rest, ∀ (N : En → Gm → Prop) (ρ : En) (G : Gm), (x :: rest) <:+ xs → (∀ ρ G, I rest ρ G → N ρ G) → I (x :: rest) ρ G → g x ρ G fun ρ1 G1 => s { E with nx := N, ct := N, bk := E.nx } ρ1 G1) → (∀ ρ G, I [] ρ G → E.nx ρ G) → I xs ρ G → forL g s E xs ρ G
  | [], ρ, G, _, hd, h0 => hd ρ G h0
  | x :: xs, ρ, G, hs, hd, h0 => hs x xs (forL g s E xs) ρ G (List.suffix_refl _) (fun ρ G h => forL_at I (fun y r N ρ G hy => hs y r N ρ G (hy.trans (List.suffix_cons _ _))) hd h) h0
theorem cmpL_map {ρ0 : En} {i : Nat} {de : DE} {S : List D → Gm → Prop} {G : Gm} (f : D → D) : ∀ {xs acc : List D}, (∀ x ∈ xs, ∀ S' : KD, S' (f x) G → de (ρ0.set i (some x)) G S') → acc.length + xs.length ≤ sizeLine → S (acc ++ xs.map f) G → cmpL ρ0 (gN i) dYes de xs acc G S
  | [], acc, _, _, h => by
    rw [List.map_nil, List.append_nil] at h
    exact h
  | x :: xs, acc, hf, hz, h => by
    show de _ _ _
    rw [List.length_cons] at hz
    refine hf x List.mem_cons_self _ ⟨by omega, cmpL_map f (fun y hy => hf y (List.mem_cons_of_mem _ hy)) (by rw [List.length_append, List.length_singleton]; omega) ?_⟩
    rw [List.append_assoc, List.singleton_append]
    exact h
theorem gau_gup {G : Gm} {a : Addr} {m : Mt} {T : Nat} (h : Gau m T) : GauAt (gup G a m) a T := ⟨m, gup_same, h⟩
def spGauge : DSp := fun xs G R _ => ∃ ns : List Int, xs = [.lst (ns.map D.int)] ∧ ns.length ≤ 63 ∧ ∀ p m, G p = none → Gau m 0 → R (.ref p) (gup G p m)
def spDial : DSp := fun xs G R _ => ∃ a n T, xs = [.ref a, .int n] ∧ GauAt G a T ∧ T ≤ 1000000000 ∧ 1 ≤ n ∧ n < 2 ^ 8000 ∧ ∀ v m, 0 ≤ v → v < n → Gau m (T + 1) → R (.int v) (gup G a m)
def spPick : DSp := fun xs G R _ => ∃ a x ds T, xs = [.ref a, x] ∧ (x = .lst ds ∨ x = .tup ds) ∧ ds ≠ [] ∧ ds.length ≤ 1000000 ∧ GauAt G a T ∧ T ≤ 1000000000 ∧ ∀ v m, v ∈ ds → Gau m (T + 1) → R v (gup G a m)
theorem bits_lt {i : Int} {n : Nat} (h : i.natAbs < 2 ^ n) : Builtin.Int.intBits i ≤ n := by
  unfold Builtin.Int.intBits
  split
  · exact Nat.zero_le _
  · rename_i z
    have z2 : i.natAbs ≠ 0 := fun e => by
      have e2 : i = 0 := Int.natAbs_eq_zero.mp e
      rw [e2] at z
      simp at z
    exact (Nat.log2_lt z2).mpr h
theorem mul_left {i j : Int} (h : i.natAbs < 2 ^ 64) : IntMulOk i j := .of_left (bits_lt h)
theorem mul_right {i j : Int} (h : j.natAbs < 2 ^ 64) : IntMulOk i j := .of_right (bits_lt h)
theorem mul_both {i j : Int} {a b : Nat} (h : i.natAbs < 2 ^ a) (h' : j.natAbs < 2 ^ b) (hz : a + b ≤ 134217728) : IntMulOk i j := by
  have h1 := bits_lt h
  have h2 := bits_lt h'
  unfold IntMulOk
  intro z
  rw [Bool.and_eq_true] at z
  have z2 := z.2
  unfold Builtin.Int.intTooBig at z2
  have z3 := of_decide_eq_true z2
  rw [show bitsLine = 134217728 from by decide] at z3
  omega
theorem pow_ok {i j : Int} {n : Nat} (h : i.natAbs < 2 ^ n) (h0 : 0 ≤ j) (hz : (n : Int) * j ≤ 2 ^ 27) : CPw i j := by
  refine ⟨h0, Int.le_trans (Int.mul_le_mul_of_nonneg_right ?_ h0) hz⟩
  exact Int.ofNat_le.mpr (bits_lt h)
theorem div_ok {i j : Int} (h : 1 ≤ j) (h' : j < 2 ^ 8000) : CDivW i j := by
  refine wide_div (b := 8000) (by omega) ?_ (by decide) (by decide)
  have : (j.natAbs : Int) = j := by omega
  have h2 : ((j.natAbs : Nat) : Int) < ((2 ^ 8000 : Nat) : Int) := by rw [this]; exact_mod_cast h'
  exact Int.ofNat_lt.mp h2
end DL
namespace DL
open PySem PySem.Spec PyProof.Rows L2 Evl
variable [TabC]
def EvT (d : DT) (ρ : En) (G : Gm) (k : Bool) : Prop := ∀ R : Bool → Gm → Prop, R k G → d ρ G R
section
variable {ρ : En} {G : Gm} {da db : DE} {dA : DA} {x y z : D} {xs : List D} {ta tb : DT} {j k : Bool}
theorem Ev.var {i : Nat} (h : ρ[i]? = some (some z)) : Ev (dVar i) ρ G z := fun R r => ⟨z, h, r⟩
theorem EvT.tst (ha : Ev da ρ G (.bl k)) : EvT (dTst da) ρ G k := fun R r => ha _ ⟨k, rfl, r⟩
theorem EvT.and (ha : EvT ta ρ G j) (hb : EvT tb ρ G k) : EvT (dAnd ta tb) ρ G (j && k) := fun R r => ha _ (by
  cases j with
  | true => exact hb _ r
  | false => exact r)
theorem EvT.or (ha : EvT ta ρ G j) (hb : EvT tb ρ G k) : EvT (dOr ta tb) ρ G (j || k) := fun R r => ha _ (by
  cases j with
  | true => exact r
  | false => exact hb _ r)
theorem EvT.not (ha : EvT ta ρ G j) : EvT (dNot ta) ρ G (!j) := fun R r => ha _ r
theorem Ev.intC {i j : Int} {C : Int → Int → Prop} {g : Int → Int → D} (ha : Ev da ρ G (.int i)) (hb : Ev db ρ G (.int j)) (h : C i j) : Ev (dOp (fIntC C g) da db) ρ G (g i j) := .op ha hb ⟨i, j, rfl, rfl, h, rfl⟩
theorem Ev.add {i j : Int} (ha : Ev da ρ G (.int i)) (hb : Ev db ρ G (.int j)) : Ev (dOp fAdd da db) ρ G (.int (i + j)) := .op ha hb (.inl ⟨i, j, rfl, rfl, rfl⟩)
theorem Ev.mod {i j : Int} (ha : Ev da ρ G (.int i)) (hb : Ev db ρ G (.int j)) (h : (fun _ j => 0 < j) i j) : Ev (dOp (fIntC (fun _ j => 0 < j) fun i j => .int (i % j)) da db) ρ G (.int (i % j)) := .intC ha hb h
theorem Ev.mul {i j : Int} (ha : Ev da ρ G (.int i)) (hb : Ev db ρ G (.int j)) (h : (IntMulOk) i j) : Ev (dOp (fIntC (IntMulOk) fun i j => .int (i * j)) da db) ρ G (.int (i * j)) := .intC ha hb h
theorem Ev.pow {i j : Int} (ha : Ev da ρ G (.int i)) (hb : Ev db ρ G (.int j)) (h : (CPw) i j) : Ev (dOp (fIntC (CPw) fun i j => .int (i ^ j.toNat)) da db) ρ G (.int (i ^ j.toNat)) := .intC ha hb h
theorem Ev.fdiv {i j : Int} (ha : Ev da ρ G (.int i)) (hb : Ev db ρ G (.int j)) (h : (CDivW) i j) : Ev (dOp (fIntC (CDivW) fun i j => .int (i / j)) da db) ρ G (.int (i / j)) := .intC ha hb h
theorem Ev.lt {i j : Int} (ha : Ev da ρ G (.int i)) (hb : Ev db ρ G (.int j)) : Ev (dOp (fInt gLt) da db) ρ G (.bl (decide (i < j))) := .int ha hb
theorem Ev.le {i j : Int} (ha : Ev da ρ G (.int i)) (hb : Ev db ρ G (.int j)) : Ev (dOp (fInt gLe) da db) ρ G (.bl (decide (i ≤ j))) := .int ha hb
theorem Ev.gt {i j : Int} (ha : Ev da ρ G (.int i)) (hb : Ev db ρ G (.int j)) : Ev (dOp (fInt gGt) da db) ρ G (.bl (decide (j < i))) := .int ha hb
theorem Ev.ge {i j : Int} (ha : Ev da ρ G (.int i)) (hb : Ev db ρ G (.int j)) : Ev (dOp (fInt gGe) da db) ρ G (.bl (decide (j ≤ i))) := .int ha hb
theorem Ev.intOf {i : Int} (ha : Ev da ρ G (.int i)) : Ev (dCal fIntOf (dCons da dNil)) ρ G (.int i) := .cal (.one ha) (.inl ⟨i, rfl, rfl⟩)
theorem Ev.intB (ha : Ev da ρ G (.bl k)) : Ev (dCal fIntOf (dCons da dNil)) ρ G (.int (if k then 1 else 0)) := .cal (.one ha) (.inr ⟨k, rfl, rfl⟩)
theorem Ev.absN {i : Int} (ha : Ev da ρ G (.int i)) : Ev (dCal fAbs (dCons da dNil)) ρ G (.int (i.natAbs : Int)) := .cal (.one ha) ⟨i, rfl, by congr 1; split <;> omega⟩
theorem ds_set {E : DEnds} {i : Nat} (ha : Ev da ρ G x) (h : E.nx (ρ.set i (some x)) G) : dSet i da E ρ G := ha _ h
theorem ds_ret {E : DEnds} (ha : Ev da ρ G x) (h : E.rt x G) : dRet da E ρ G := ha _ h
theorem ds_if {E : DEnds} {s1 s2 : DS} (ha : EvT ta ρ G k) (h : if k = true then s1 E ρ G else s2 E ρ G) : dIfS ta s1 s2 E ρ G := ha _ h
theorem ds_setIx {E : DEnds} {dc : DE} {a : Addr} {i : Int} {j : Nat} (ha : Ev da ρ G x) (hb : Ev db ρ G (.ref a)) (hc : Ev dc ρ G (.int i)) (hg : G a = some (.lst xs)) (hj : ixN xs.length i = some j) (h : E.nx ρ (gup G a (.lst (xs.set j x)))) : dSetIx da db dc E ρ G :=
  ha _ (hb _ (hc _ ⟨a, xs, i, j, rfl, hg, rfl, hj, h⟩))
end
def dialB (c0 c1 c2 c3 c4 c5 c6 c7 c8 c9 : Int) : DS := (dSeq (dIfS (dTst (dOp (fInt gGt) (dIx (dVar 0) (dC (.int 2))) (dC (.int 0)))) (dSeq (dSet 2 (dCal fIntOf (dCons (dIx (dVar 0) (dC (.int 2))) dNil))) (dSeq (dSetIx (dOp (fIntC CDivW fun i j => .int (i / j)) (dVar 2) (dVar 1)) (dVar 0) (dC (.int 2))) (dRet (dOp (fIntC (fun _ j => 0 < j) fun i j => .int (i % j)) (dCal fIntOf (dCons (dVar 2) dNil)) (dVar 1))))) dNext) (dSeq (dSet 3 (dIx (dVar 0) (dC (.int 1)))) (dSeq (dSetIx (dOp fAdd (dVar 3) (dC (.int 1))) (dVar 0) (dC (.int 1))) (dSeq (dSet 4 (dOp fAdd (dOp (fIntC IntMulOk fun i j => .int (i * j)) (dC (.int c0)) (dVar 3)) (dC (.int c1)))) (dSeq (dIfS (dTst (dOp fNe (dIx (dVar 0) (dC (.int 0))) (dLst dNil))) (dSet 4 (dIx (dIx (dVar 0) (dC (.int 0))) (dOp (fIntC (fun _ j => 0 < j) fun i j => .int (i % j)) (dCal fIntOf (dCons (dVar 3) dNil)) (dCal fLen (dCons (dIx (dVar 0) (dC (.int 0))) dNil))))) dNext) (dSeq (dIfS (dAnd (dTst (dOp (fInt gLt) (dVar 3) (dCal fLen (dCons (dIx (dVar 0) (dC (.int 0))) dNil)))) (dTst (dOp (fInt gGe) (dCal fAbs (dCons (dVar 4) dNil)) (dOp (fIntC CPw fun i j => .int (i ^ j.toNat)) (dC (.int 10)) (dC (.int 18)))))) (dSeq (dSet 2 (dOp fAdd (dOp (fIntC IntMulOk fun i j => .int (i * j)) (dC (.int 2)) (dOp (fInt fun i j => .int (i - j)) (dCal fAbs (dCons (dCal fIntOf (dCons (dVar 4) dNil)) dNil)) (dOp (fIntC CPw fun i j => .int (i ^ j.toNat)) (dC (.int 10)) (dC (.int 18))))) (dCal fIntOf (dCons (dOp (fInt gLt) (dVar 4) (dC (.int 0))) dNil)))) (dSeq (dSetIx (dOp (fIntC CDivW fun i j => .int (i / j)) (dVar 2) (dVar 1)) (dVar 0) (dC (.int 2))) (dRet (dOp (fIntC (fun _ j => 0 < j) fun i j => .int (i % j)) (dCal fIntOf (dCons (dVar 2) dNil)) (dVar 1))))) dNext) (dSeq (dSet 5 (dOp (fIntC (fun _ j => 0 < j) fun i j => .int (i % j)) (dCal fIntOf (dCons (dOp (fIntC CPw fun i j => .int (i ^ j.toNat)) (dOp fAdd (dOp fAdd (dOp (fIntC (fun _ j => 0 < j) fun i j => .int (i % j)) (dCal fIntOf (dCons (dVar 4) dNil)) (dC (.int c2))) (dOp (fIntC IntMulOk fun i j => .int (i * j)) (dC (.int c3)) (dVar 3))) (dC (.int c4))) (dC (.int 5))) dNil)) (dC (.int c5)))) (dSeq (dSet 5 (dOp (fIntC (fun _ j => 0 < j) fun i j => .int (i % j)) (dCal fIntOf (dCons (dOp (fIntC CPw fun i j => .int (i ^ j.toNat)) (dOp fAdd (dOp fAdd (dOp (fIntC IntMulOk fun i j => .int (i * j)) (dVar 5) (dOp fAdd (dOp (fIntC IntMulOk fun i j => .int (i * j)) (dC (.int 2)) (dVar 3)) (dC (.int c6)))) (dOp (fIntC IntMulOk fun i j => .int (i * j)) (dOp (fIntC IntMulOk fun i j => .int (i * j)) (dC (.int c7)) (dVar 3)) (dVar 3))) (dC (.int c8))) (dC (.int 3))) dNil)) (dC (.int c9)))) (dRet (dOp (fIntC (fun _ j => 0 < j) fun i j => .int (i % j)) (dCal fIntOf (dCons (dOp (fIntC CDivW fun i j => .int (i / j)) (dVar 5) (dC (.int 64))) dNil)) (dVar 1)))))))))))
theorem atI_mod {cs : List Int} (h : cs ≠ []) (t : Nat) : ∃ v, atI (cs.map D.int) ((t : Int) % ((cs.map D.int).length : Int)) = some (.int v) := by
  have hl : 0 < cs.length := List.length_pos_iff.mpr h
  rw [List.length_map]
  have h1 : 0 ≤ (t : Int) % (cs.length : Int) := Int.emod_nonneg _ (by omega)
  have h2 : (t : Int) % (cs.length : Int) < cs.length := Int.emod_lt_of_pos _ (by omega)
  refine ⟨cs[((t : Int) % (cs.length : Int)).toNat]'(by omega), ?_⟩
  unfold atI ixN
  rw [List.length_map, if_pos h1, if_pos h2, Option.bind_some, List.getElem?_map, List.getElem?_eq_getElem (by omega)]
  rfl
def Sml (c : Int) : Prop := 0 < c ∧ c < 2 ^ 32
theorem mb {x y : Int} (a b : Nat) (hx : 0 ≤ x) (hxa : x < 2 ^ a) (hy : 0 ≤ y) (hyb : y < 2 ^ b) : 0 ≤ x * y ∧ x * y < 2 ^ (a + b) := by
  refine ⟨Int.mul_nonneg hx hy, ?_⟩
  rw [Int.pow_add]
  have h1 : x * y ≤ x * 2 ^ b := Int.mul_le_mul_of_nonneg_left (Int.le_of_lt hyb) hx
  have h2 : x * 2 ^ b < 2 ^ a * 2 ^ b := Int.mul_lt_mul_of_pos_right hxa (Int.pow_pos (by decide))
  omega
theorem nab {x : Int} (a : Nat) (h : 0 ≤ x) (h' : x < 2 ^ a) : x.natAbs < 2 ^ a := by
  have h2 : ((x.natAbs : Nat) : Int) < ((2 ^ a : Nat) : Int) := by
    rw [Int.natAbs_of_nonneg h]
    exact_mod_cast h'
  exact Int.ofNat_lt.mp h2
def tailD (c0 c1 c2 c3 c4 c5 c6 c7 : Int) : DS := (dSeq (dSet 5 (dOp (fIntC (fun _ j => 0 < j) fun i j => .int (i % j)) (dCal fIntOf (dCons (dOp (fIntC CPw fun i j => .int (i ^ j.toNat)) (dOp fAdd (dOp fAdd (dOp (fIntC (fun _ j => 0 < j) fun i j => .int (i % j)) (dCal fIntOf (dCons (dVar 4) dNil)) (dC (.int c0))) (dOp (fIntC IntMulOk fun i j => .int (i * j)) (dC (.int c1)) (dVar 3))) (dC (.int c2))) (dC (.int 5))) dNil)) (dC (.int c3)))) (dSeq (dSet 5 (dOp (fIntC (fun _ j => 0 < j) fun i j => .int (i % j)) (dCal fIntOf (dCons (dOp (fIntC CPw fun i j => .int (i ^ j.toNat)) (dOp fAdd (dOp fAdd (dOp (fIntC IntMulOk fun i j => .int (i * j)) (dVar 5) (dOp fAdd (dOp (fIntC IntMulOk fun i j => .int (i * j)) (dC (.int 2)) (dVar 3)) (dC (.int c4)))) (dOp (fIntC IntMulOk fun i j => .int (i * j)) (dOp (fIntC IntMulOk fun i j => .int (i * j)) (dC (.int c5)) (dVar 3)) (dVar 3))) (dC (.int c6))) (dC (.int 3))) dNil)) (dC (.int c7)))) (dRet (dOp (fIntC (fun _ j => 0 < j) fun i j => .int (i % j)) (dCal fIntOf (dCons (dOp (fIntC CDivW fun i j => .int (i / j)) (dVar 5) (dC (.int 64))) dNil)) (dVar 1)))))
theorem tail_ok {c0 c1 c2 c3 c4 c5 c6 c7 : Int} (h0 : Sml c0) (h1 : Sml c1) (h2 : Sml c2) (h3 : Sml c3) (h4 : Sml c4) (h5 : Sml c5) (h6 : Sml c6) (h7 : Sml c7) {E : DEnds} {ρ : En} {G : Gm} {n cell : Int} {t : Nat} (hn : 1 ≤ n) (ht : t ≤ 1000000000)
    (hl : ρ.length = 6) (r1 : ρ[1]? = some (some (.int n))) (r3 : ρ[3]? = some (some (.int t))) (r4 : ρ[4]? = some (some (.int cell))) (k : ∀ v, 0 ≤ v → v < n → E.rt (.int v) G) : tailD c0 c1 c2 c3 c4 c5 c6 c7 E ρ G := by
  obtain ⟨p0, q0⟩ := h0
  obtain ⟨p1, q1⟩ := h1
  obtain ⟨p2, q2⟩ := h2
  obtain ⟨p3, q3⟩ := h3
  obtain ⟨p4, q4⟩ := h4
  obtain ⟨p5, q5⟩ := h5
  obtain ⟨p6, q6⟩ := h6
  obtain ⟨p7, q7⟩ := h7
  have tt : (t : Int) < 2 ^ 30 := by omega
  have t0 : 0 ≤ (t : Int) := by omega
  have a1 := mb 32 30 (Int.le_of_lt p1) q1 t0 tt
  have a2 := Int.emod_nonneg cell (show c0 ≠ 0 by omega)
  have a3 := Int.emod_lt_of_pos cell p0
  have s1 : ∀ {c : Int}, 0 < c → c < 2 ^ 32 → c.natAbs < 2 ^ 64 := fun {c} h h' => Nat.lt_trans (nab 32 (Int.le_of_lt h) h') (by decide)
  refine ds_set (.mod (.intOf (.pow (.add (.add (.mod (.intOf (.var r4)) .c p0) (.mul .c (.var r3) (mul_left (s1 p1 q1)))) .c) .c ?_)) .c p3) ?_
  · exact pow_ok (n := 64) (nab 64 (by omega) (by omega)) (by decide) (by decide)
  generalize em : (cell % c0 + c1 * (t : Int) + c2) ^ Int.toNat 5 % c3 = mx
  have m0 : 0 ≤ mx := by rw [← em]; exact Int.emod_nonneg _ (by omega)
  have m1 : mx < 2 ^ 32 := by rw [← em]; exact Int.lt_trans (Int.emod_lt_of_pos _ p3) q3
  have l5 : (ρ.set 5 (some (.int mx)))[5]? = some (some (.int mx)) := List.getElem?_set_self (by omega)
  have ne5 : ∀ {i : Nat}, 5 ≠ i → (ρ.set 5 (some (D.int mx)))[i]? = ρ[i]? := fun h => List.getElem?_set_ne h
  have r3' : (ρ.set 5 (some (D.int mx)))[3]? = some (some (.int t)) := by rw [ne5 (by decide), r3]
  have b1 := mb 32 33 m0 m1 (show 0 ≤ 2 * (t : Int) + c4 by omega) (show 2 * (t : Int) + c4 < 2 ^ 33 by omega)
  have b2 := mb 32 30 (Int.le_of_lt p5) q5 t0 tt
  have b3 := mb 62 30 b2.1 b2.2 t0 tt
  refine ds_set (.mod (.intOf (.pow (.add (.add (.mul (.var l5) (.add (.mul .c (.var r3') ?_) .c) ?_) (.mul (.mul .c (.var r3') ?_) (.var r3') ?_)) .c) .c ?_)) .c p7) ?_
  · exact mul_left (show Int.natAbs 2 < 2 ^ 64 by decide)
  · exact mul_left (Nat.lt_trans (nab 32 m0 m1) (by decide))
  · exact mul_left (s1 p5 q5)
  · exact mul_right (Nat.lt_trans (nab 30 t0 tt) (by decide))
  · exact pow_ok (n := 100) (nab 100 (by omega) (by omega)) (by decide) (by decide)
  generalize (mx * (2 * (t : Int) + c4) + c5 * (t : Int) * (t : Int) + c6) ^ Int.toNat 3 % c7 = my
  refine ds_ret (.mod (.intOf (.fdiv (.var (List.getElem?_set_self (by rw [List.length_set]; omega))) .c (div_ok (by decide) (by decide +kernel)))) (.var ?_) (by omega)) (k _ (Int.emod_nonneg _ (by omega)) (Int.emod_lt_of_pos _ (by omega)))
  rw [List.getElem?_set_ne (by decide), ne5 (by decide), r1]
def finD : DS := (dSeq (dSetIx (dOp (fIntC CDivW fun i j => .int (i / j)) (dVar 2) (dVar 1)) (dVar 0) (dC (.int 2))) (dRet (dOp (fIntC (fun _ j => 0 < j) fun i j => .int (i % j)) (dCal fIntOf (dCons (dVar 2) dNil)) (dVar 1))))
theorem fin_ok {E : DEnds} {ρ : En} {G : Gm} {n q t r : Int} {a : Addr} {cs : List Int} (hn : 1 ≤ n) (hn2 : n < 2 ^ 8000) (r0 : ρ[0]? = some (some (.ref a))) (r1 : ρ[1]? = some (some (.int n))) (r2 : ρ[2]? = some (some (.int q)))
    (hg : G a = some (.lst [.lst (cs.map D.int), .int t, .int r])) (k : ∀ v, 0 ≤ v → v < n → E.rt (.int v) (gup G a (.lst [.lst (cs.map D.int), .int t, .int (q / n)]))) : finD E ρ G := by
  refine ds_setIx (.fdiv (.var r2) (.var r1) (div_ok hn hn2)) (.var r0) .c hg (j := 2) rfl ?_
  exact ds_ret (.mod (.intOf (.var r2)) (.var r1) (by omega)) (k _ (Int.emod_nonneg _ (by omega)) (Int.emod_lt_of_pos _ (by omega)))
theorem ne_nil_eqv {cs : List Int} : D.eqv (.lst (cs.map D.int)) (.lst []) = cs.isEmpty := by
  have key : ∀ cs : List Int, D.pyL (cs.map D.int) = some (cs.map PyData.int) := fun cs => by
    induction cs with
    | nil => rfl
    | cons c cs ih => simp only [List.map_cons, D.pyL, ih, D.py]
  have e1 : D.py (.lst (cs.map D.int)) = some (.list (cs.map PyData.int)) := by simp only [D.py, key, Option.map_some]
  rw [eqv_of e1 (q := .list []) rfl]
  cases cs <;> rfl
theorem cmp_ints (cs : List Int) : Cmp (.lst (cs.map D.int)) := by
  have l : ∀ cs : List Int, D.layL (cs.map D.int) = true := fun cs => by
    induction cs with
    | nil => rfl
    | cons c cs ih => simp only [List.map_cons, D.layL, ih, D.lay, Bool.and_self]
  have d : ∀ cs : List Int, D.dpL (cs.map D.int) = 0 := fun cs => by
    induction cs with
    | nil => rfl
    | cons c cs ih => simp only [List.map_cons, D.dpL, ih, D.dp, Nat.max_self]
  exact ⟨by simp only [D.lay, l], by simp only [D.dp, d]; decide⟩
theorem Ev.neNil {ρ : En} {G : Gm} {da : DE} {cs : List Int} (ha : Ev da ρ G (.lst (cs.map D.int))) : Ev (dOp fNe da (dLst dNil)) ρ G (.bl (!cs.isEmpty)) := .op ha (.lst .nil (Nat.zero_le _)) ⟨cmp_ints cs, cmp_ints [], by rw [ne_nil_eqv]⟩
theorem ten18 : CPw 10 18 := pow_ok (n := 4) (by decide) (by decide) (by decide)
theorem dialB_ok {c0 c1 c2 c3 c4 c5 c6 c7 c8 c9 : Int} (h0 : Sml c0) (h1 : Sml c1) (h2 : Sml c2) (h3 : Sml c3) (h4 : Sml c4) (h5 : Sml c5) (h6 : Sml c6) (h7 : Sml c7) (h8 : Sml c8) (h9 : Sml c9) (xs : List D) (G : Gm) (R : KD) (RX : XD) (h : spDial xs G R RX) :
    dialB c0 c1 c2 c3 c4 c5 c6 c7 c8 c9 { nx := fun _ G => R .non G, rt := R } (xs.map some ++ List.replicate (6 - xs.length) none) G := by
  obtain ⟨a, n, T, rfl, ⟨m, hg, cs, t, r, rfl, hcs, ht, hr⟩, hT, hn, hn2, hR⟩ := h
  show dialB c0 c1 c2 c3 c4 c5 c6 c7 c8 c9 _ [some (.ref a), some (.int n), none, none, none, none] G
  have kk : ∀ {v : Int} {t' : Nat} {r' : Int}, 0 ≤ v → v < n → t' ≤ T + 1 → 0 ≤ r' → R (.int v) (gup G a (.lst [.lst (cs.map D.int), .int t', .int r'])) := fun h1 h2 h3 h4 => hR _ _ h1 h2 ⟨cs, _, _, rfl, hcs, h3, h4⟩
  have dn : ∀ {q : Int}, 0 ≤ q → 0 ≤ q / n := fun h => Int.ediv_nonneg h (by omega)
  refine ds_if (.tst (.gt (.at (.var rfl) .c (seq_ref hg) rfl) .c)) ?_
  split
  · rename_i hr1
    refine ds_set (.intOf (.at (.var rfl) .c (seq_ref hg) rfl)) ?_
    exact fin_ok hn hn2 rfl rfl rfl hg fun v v0 v1 => kk v0 v1 (by omega) (dn hr)
  refine ds_set (.at (.var rfl) .c (seq_ref hg) rfl) ?_
  refine ds_setIx (.add (.var rfl) .c) (.var rfl) .c hg (j := 1) rfl ?_
  have kk2 : ∀ {v : Int} {r' : Int}, 0 ≤ v → v < n → 0 ≤ r' → R (.int v) (gup G a (.lst [.lst (cs.map D.int), .int ((t : Int) + 1), .int r'])) := fun h1 h2 h4 => kk (t' := t + 1) h1 h2 (by omega) h4
  have hg1 : gup G a (.lst ([D.lst (cs.map D.int), .int t, .int r].set 1 (.int ((t : Int) + 1)))) a = some (.lst [.lst (cs.map D.int), .int ((t : Int) + 1), .int r]) := gup_same
  refine ds_set (.add (.mul .c (.var rfl) (mul_left (Nat.lt_trans (nab 32 (Int.le_of_lt h0.1) h0.2) (by decide)))) .c) ?_
  have go : ∀ (cell : Int), (dSeq (dIfS (dAnd (dTst (dOp (fInt gLt) (dVar 3) (dCal fLen (dCons (dIx (dVar 0) (dC (.int 0))) dNil)))) (dTst (dOp (fInt gGe) (dCal fAbs (dCons (dVar 4) dNil)) (dOp (fIntC CPw fun i j => .int (i ^ j.toNat)) (dC (.int 10)) (dC (.int 18)))))) (dSeq (dSet 2 (dOp fAdd (dOp (fIntC IntMulOk fun i j => .int (i * j)) (dC (.int 2)) (dOp (fInt fun i j => .int (i - j)) (dCal fAbs (dCons (dCal fIntOf (dCons (dVar 4) dNil)) dNil)) (dOp (fIntC CPw fun i j => .int (i ^ j.toNat)) (dC (.int 10)) (dC (.int 18))))) (dCal fIntOf (dCons (dOp (fInt gLt) (dVar 4) (dC (.int 0))) dNil)))) (dSeq (dSetIx (dOp (fIntC CDivW fun i j => .int (i / j)) (dVar 2) (dVar 1)) (dVar 0) (dC (.int 2))) (dRet (dOp (fIntC (fun _ j => 0 < j) fun i j => .int (i % j)) (dCal fIntOf (dCons (dVar 2) dNil)) (dVar 1))))) dNext) (dSeq (dSet 5 (dOp (fIntC (fun _ j => 0 < j) fun i j => .int (i % j)) (dCal fIntOf (dCons (dOp (fIntC CPw fun i j => .int (i ^ j.toNat)) (dOp fAdd (dOp fAdd (dOp (fIntC (fun _ j => 0 < j) fun i j => .int (i % j)) (dCal fIntOf (dCons (dVar 4) dNil)) (dC (.int c2))) (dOp (fIntC IntMulOk fun i j => .int (i * j)) (dC (.int c3)) (dVar 3))) (dC (.int c4))) (dC (.int 5))) dNil)) (dC (.int c5)))) (dSeq (dSet 5 (dOp (fIntC (fun _ j => 0 < j) fun i j => .int (i % j)) (dCal fIntOf (dCons (dOp (fIntC CPw fun i j => .int (i ^ j.toNat)) (dOp fAdd (dOp fAdd (dOp (fIntC IntMulOk fun i j => .int (i * j)) (dVar 5) (dOp fAdd (dOp (fIntC IntMulOk fun i j => .int (i * j)) (dC (.int 2)) (dVar 3)) (dC (.int c6)))) (dOp (fIntC IntMulOk fun i j => .int (i * j)) (dOp (fIntC IntMulOk fun i j => .int (i * j)) (dC (.int c7)) (dVar 3)) (dVar 3))) (dC (.int c8))) (dC (.int 3))) dNil)) (dC (.int c9)))) (dRet (dOp (fIntC (fun _ j => 0 < j) fun i j => .int (i % j)) (dCal fIntOf (dCons (dOp (fIntC CDivW fun i j => .int (i / j)) (dVar 5) (dC (.int 64))) dNil)) (dVar 1)))))) { nx := fun _ G => R .non G, rt := R } [some (.ref a), some (.int n), none, some (.int t), some (.int cell), none] (gup G a (.lst [.lst (cs.map D.int), .int ((t : Int) + 1), .int r])) := fun cell => by
      refine ds_if (.and (.tst (.lt (.var rfl) (.len (.at (.var rfl) .c (seq_ref hg1) rfl) seq_lst))) (.tst (.ge (.absN (.var rfl)) (.pow .c .c ten18)))) ?_
      split
      · rename_i hb
        rw [Bool.and_eq_true] at hb
        have hb2 := of_decide_eq_true hb.2
        refine ds_set (.add (.mul .c (.sub (.absN (.intOf (.var rfl))) (.pow .c .c ten18)) (mul_left (show Int.natAbs 2 < 2 ^ 64 by decide))) (.intB (.lt (.var rfl) .c))) ?_
        refine fin_ok hn hn2 rfl rfl rfl hg1 fun v v0 v1 => ?_
        rw [gup_gup]
        refine kk2 v0 v1 (dn ?_)
        have : (0 : Int) ≤ if decide (cell < 0) = true then 1 else 0 := by split <;> decide
        omega
      exact tail_ok (E := { nx := fun _ G => R .non G, rt := R }) h2 h3 h4 h5 h6 h7 h8 h9 hn (by omega) rfl rfl rfl rfl fun v v0 v1 => kk2 v0 v1 hr
  refine ds_if (.tst (.neNil (.at (.var rfl) .c (seq_ref hg1) rfl))) ?_
  split
  · rename_i hne
    have hne2 : cs ≠ [] := fun e => by
      rw [e] at hne
      cases hne
    obtain ⟨cell, hcell⟩ := atI_mod hne2 t
    refine ds_set (.at (.at (.var rfl) .c (seq_ref hg1) rfl) (.mod (.intOf (.var rfl)) (.len (.at (.var rfl) .c (seq_ref hg1) rfl) seq_lst) ?_) seq_lst hcell) (go cell)
    rw [List.length_map]
    have := List.length_pos_iff.mpr hne2
    omega
  · exact go _
end DL
namespace DL
open PySem PySem.Spec PyProof.Rows L2 Evl
variable [TabC]
section
variable {ρ : En} {G : Gm} {da db dc : DE} {dA : DA} {x y z : D} {xs : List D} {ta tb : DT} {j k : Bool}
theorem EvT.orT (ha : EvT ta ρ G true) : EvT (dOr ta tb) ρ G true := fun R r => ha _ r
theorem EvT.orF (ha : EvT ta ρ G false) (hb : EvT tb ρ G k) : EvT (dOr ta tb) ρ G k := fun R r => ha _ (hb _ r)
theorem EvT.andT (ha : EvT ta ρ G true) (hb : EvT tb ρ G k) : EvT (dAnd ta tb) ρ G k := fun R r => ha _ (hb _ r)
theorem EvT.andF (ha : EvT ta ρ G false) : EvT (dAnd ta tb) ρ G false := fun R r => ha _ r
theorem Ev.andT (ha : Ev da ρ G (.bl true)) (hb : Ev db ρ G z) : Ev (dAndV da db) ρ G z := fun R r => ha _ ⟨true, rfl, hb _ r⟩
theorem Ev.andF (ha : Ev da ρ G (.bl false)) : Ev (dAndV da db) ρ G (.bl false) := fun R r => ha _ ⟨false, rfl, r⟩
theorem Ev.and2 (ha : Ev da ρ G (.bl j)) (hb : j = true → Ev db ρ G (.bl k)) : Ev (dAndV da db) ρ G (.bl (j && k)) := fun R r => ha _ ⟨j, rfl, by
  cases j with
  | true => exact hb rfl _ r
  | false => exact r⟩
theorem Ev.or2 (ha : Ev da ρ G (.bl j)) (hb : j = false → Ev db ρ G (.bl k)) : Ev (dOrV da db) ρ G (.bl (j || k)) := fun R r => ha _ ⟨j, rfl, by
  cases j with
  | true => exact r
  | false => exact hb rfl _ r⟩
theorem Ev.orT (ha : Ev da ρ G (.bl true)) : Ev (dOrV da db) ρ G (.bl true) := fun R r => ha _ ⟨true, rfl, r⟩
theorem Ev.orF (ha : Ev da ρ G (.bl false)) (hb : Ev db ρ G z) : Ev (dOrV da db) ρ G z := fun R r => ha _ ⟨false, rfl, hb _ r⟩
theorem Ev.notV (ha : Ev da ρ G (.bl j)) : Ev (dNotV da) ρ G (.bl (!j)) := fun R r => ha _ ⟨j, rfl, r⟩
theorem Ev.isN (ha : Ev da ρ G x) : Ev (dIsN da) ρ G (.bl x.isN) := fun R r => ha _ r
theorem Ev.ifT (ha : EvT ta ρ G true) (hb : Ev da ρ G z) : Ev (dIf ta da db) ρ G z := fun R r => ha _ (hb _ r)
theorem Ev.ifF (ha : EvT ta ρ G false) (hb : Ev db ρ G z) : Ev (dIf ta da db) ρ G z := fun R r => ha _ (hb _ r)
theorem Ev.callK {q : DSp} {o : Ord} (ha : EvA dA ρ G xs) (h : ∀ R, R z G → q (o.go xs) G R X0) : Ev (dCallK q o X0 dA) ρ G z := fun R r => ha _ (h R r)
theorem Ev.neg {i : Int} (ha : Ev da ρ G (.int i)) : Ev (dNeg da) ρ G (.int (-i)) := fun R r => ha _ ⟨i, rfl, r⟩
theorem Ev.isi {n t : String} (ha : Ev da ρ G x) (h : x.tyn = some t) : Ev (dCal (fIsi n) (dCons da (dCons (dC (.ty n)) dNil))) ρ G (.bl (isK t n)) := .cal (.cons ha (.one .c)) ⟨x, t, rfl, h, rfl⟩
theorem Ev.isiT {ns : List String} {t : String} (ha : Ev da ρ G x) (h : x.tyn = some t) : Ev (dIsiT ns da) ρ G (.bl (ns.any (isK t))) := fun R r => ha _ ⟨t, h, r⟩
theorem Ev.eqI {i j : Int} (ha : Ev da ρ G (.int i)) (hb : Ev db ρ G (.int j)) : Ev (dOp fEq da db) ρ G (.bl (decide (i = j))) := .op ha hb rfl
theorem Ev.neI {i j : Int} (ha : Ev da ρ G (.int i)) (hb : Ev db ρ G (.int j)) : Ev (dOp fNe da db) ρ G (.bl (!decide (i = j))) := .op ha hb rfl
theorem Ev.neS {i j : Str} (ha : Ev da ρ G (.str i)) (hb : Ev db ρ G (.str j)) : Ev (dOp fNe da db) ρ G (.bl (!decide (i = j))) := .op ha hb rfl
theorem ds_par {E : DEnds} {i j : Nat} (ha : Ev da ρ G x) (hb : Ev db ρ G y) (h : E.nx ((ρ.set i (some x)).set j (some y)) G) : dPar i j (dCons da (dCons db dNil)) E ρ G := ha _ (hb _ ⟨x, y, rfl, h⟩)
theorem Ev.cast {z' : D} (h : Ev da ρ G z) (e : z = z') : Ev da ρ G z' := e ▸ h
theorem EvT.cast (h : EvT ta ρ G j) (e : j = k) : EvT ta ρ G k := e ▸ h
end
section
variable {ρ : En} {a : Addr} {j k : Nat} {da db : DE} {dA : DA} {P P2 P3 : D → Prop} {PL : List D → Prop}
theorem Drw.ev {z : D} (h : ∀ G, Ev da ρ G z) (hp : P z) : Drw da ρ a 0 P := fun G T R ⟨m, hg, hm⟩ _ r => h G R (by
  rw [← gup_self hg]
  exact r z m hp hm)
theorem Drw.le (h : Drw da ρ a k P) (l : k ≤ j) : Drw da ρ a j P := fun G T R hg ht r => h G T R hg (by omega) fun x m px hm => r x m px (hm.mono (by omega))
theorem Drw.dial {i : Nat} {dn : DE} {n : Int} (hi : ρ[i]? = some (some (.ref a))) (hn : ∀ G, Ev dn ρ G (.int n)) (h1 : 1 ≤ n) (h2 : n < 2 ^ 8000) : Drw (dCall spDial X0 (dCons (dVar i) (dCons dn dNil))) ρ a 1 (fun x => ∃ v, x = .int v ∧ 0 ≤ v ∧ v < n) := fun G T R hg ht r =>
  (EvA.cons (Ev.var hi) (EvA.one (hn G))) _ ⟨a, n, T, rfl, hg, by omega, h1, h2, fun v m v0 v1 hm => r _ m ⟨v, rfl, v0, v1⟩ hm⟩
theorem Drw.pick {i : Nat} {dl : DE} (hi : ρ[i]? = some (some (.ref a))) (h : Drw dl ρ a k (fun x => ∃ ds, (x = .lst ds ∨ x = .tup ds) ∧ ds ≠ [] ∧ ds.length ≤ 1000000 ∧ ∀ y ∈ ds, P y)) : Drw (dCall spPick X0 (dCons (dVar i) (dCons dl dNil))) ρ a (k + 1) P := fun G T R hg ht r => by
  refine ⟨_, hi, h G T _ hg (by omega) fun x m ⟨ds, hx, h1, h2, h3⟩ hm => ?_⟩
  refine ⟨a, x, ds, T + k, rfl, hx, h1, h2, ⟨m, gup_same, hm⟩, by omega, fun v m' hv hm' => ?_⟩
  rw [gup_gup]
  exact r v m' (h3 v hv) hm'
theorem Drw.pickL {i n : Nat} (hi : ρ[i]? = some (some (.ref a))) (h : DrwA dA ρ a k (fun l => l.length = n ∧ ∀ x ∈ l, P x)) (hn : 1 ≤ n := by decide) (hn2 : n ≤ 1000000 := by decide) : Drw (dCall spPick X0 (dCons (dVar i) (dCons (dLst dA) dNil))) ρ a (k + 1) P :=
  .pick hi (.lst h fun l ⟨hl, hp⟩ => ⟨by rw [hl, sizeLine_eq]; omega, l, .inl rfl, fun e => by rw [e] at hl; simp at hl; omega, by omega, hp⟩)
theorem dw_set {E : DEnds} {G : Gm} {T i : Nat} (h : Drw da ρ a k P) (hg : GauAt G a T) (ht : T + k ≤ 1000000000) (hk : ∀ x m, P x → Gau m (T + k) → E.nx (ρ.set i (some x)) (gup G a m)) : dSet i da E ρ G := h G T _ hg ht hk
theorem dw_ret {E : DEnds} {G : Gm} {T : Nat} (h : Drw da ρ a k P) (hg : GauAt G a T) (ht : T + k ≤ 1000000000) (hk : ∀ x m, P x → Gau m (T + k) → E.rt x (gup G a m)) : dRet da E ρ G := h G T _ hg ht hk
theorem dw_par {E : DEnds} {G : Gm} {T i i2 : Nat} (h : Drw da ρ a j P) (h' : Drw db ρ a k P2) (hg : GauAt G a T) (ht : T + (j + k) ≤ 1000000000) (hk : ∀ x y m, P x → P2 y → Gau m (T + (j + k)) → E.nx ((ρ.set i (some x)).set i2 (some y)) (gup G a m)) : dPar i i2 (dCons da (dCons db dNil)) E ρ G :=
  (DrwA.cons h (DrwA.cons h' .nil)) G T _ hg ht fun l m ⟨x, xs, e, px, y, ys, e2, py, e3⟩ hm => by
    subst e3 e2 e
    exact ⟨x, y, rfl, hk x y m px py hm⟩
end
def gaugeD (c : Int) : DS := dRet (dLstM (dCons (dCmp (dISeq (dSl (dVar 0) dNoP (dPart (dC (.int c))))) (gN 1) dYes (dCal fIntOf (dCons (dVar 1) dNil)) [1]) (dCons (dC (.int 0)) (dCons (dC (.int 0)) dNil))))
theorem gauge_ok {c : Int} (xs : List D) (G : Gm) (R : KD) (RX : XD) (h : spGauge xs G R RX) : gaugeD c { nx := fun _ G => R .non G, rt := R } (xs.map some ++ List.replicate (2 - xs.length) none) G := by
  obtain ⟨ns, rfl, hl, h⟩ := h
  have hc : ∃ ms : List Int, cutD (ns.map D.int) none (some c) = ms.map D.int ∧ ms.length ≤ 63 := by
    unfold cutD
    rw [← List.map_drop, ← List.map_take]
    exact ⟨_, rfl, by rw [List.length_take, List.length_drop]; omega⟩
  obtain ⟨ms, hms, hml⟩ := hc
  show dLstM _ [some (.lst (ns.map D.int)), none] G R
  refine ⟨_, rfl, c, rfl, .lst (ms.map D.int), .inl ⟨ns.map D.int, lst_lst, by rw [hms]⟩, ms.map D.int, .inl rfl, ?_⟩
  refine cmpL_map (f := id) (fun x hx S' hS => ?_) (by rw [List.length_map, sizeLine_eq, List.length_nil]; omega) ?_
  · obtain ⟨i, _, rfl⟩ := List.mem_map.mp hx
    exact Ev.intOf (ρ := _) (.var rfl) _ hS
  · rw [List.map_id, List.nil_append]
    exact ⟨by rw [sizeLine_eq, List.length_cons, List.length_cons, List.length_singleton]; omega, fun p hp => h p _ hp ⟨ms, 0, 0, rfl, hml, Nat.le_refl _, Int.le_refl _⟩⟩
def pickD : DS := dRet (dIx (dVar 1) (dCall spDial X0 (dCons (dVar 0) (dCons (dCal fLen (dCons (dVar 1) dNil)) dNil))))
theorem atI_nat {ds : List D} {i : Int} (h : 0 ≤ i) (h' : i < ds.length) : ∃ z, z ∈ ds ∧ atI ds i = some z := by
  refine ⟨ds[i.toNat]'(by omega), List.getElem_mem _, ?_⟩
  unfold atI ixN
  rw [if_pos h, if_pos h', Option.bind_some, List.getElem?_eq_getElem (by omega)]
theorem pick_ok (xs : List D) (G : Gm) (R : KD) (RX : XD) (h : spPick xs G R RX) : pickD { nx := fun _ G => R .non G, rt := R } (xs.map some ++ List.replicate (2 - xs.length) none) G := by
  obtain ⟨a, x, ds, T, rfl, hx, hne, hl, hg, ht, h⟩ := h
  have hs : SeqAt G x ds := by
    rcases hx with rfl | rfl
    · exact seq_lst
    · exact seq_tup
  have h0 := List.length_pos_iff.mpr hne
  show dIx _ _ [some (.ref a), some x] G R
  refine ⟨x, rfl, (EvA.cons (Ev.var rfl) (EvA.one (Ev.len (Ev.var rfl) hs))) _ ⟨a, ds.length, T, rfl, hg, ht, by omega, ?_, fun v m v0 v1 hm => ?_⟩⟩
  · exact Int.lt_of_lt_of_le (b := 2000000) (by omega) (by decide +kernel)
  · obtain ⟨z, hz, he⟩ := atI_nat v0 v1
    refine ⟨z, .inl ⟨ds, v, ?_, rfl, he⟩, h z m hz hm⟩
    rcases hx with rfl | rfl
    · exact seq_lst
    · exact seq_tup
end DL
namespace DL
open PySem PySem.Spec PyProof.Rows L2 Evl
variable [TabC]
theorem kn_tyn {x : D} (h : x.kn = true) : ∃ t, x.tyn = some t := by cases x <;> first | exact ⟨_, rfl⟩ | cases h
def sp_is_integer : DSp := fun xs G R _ => ∃ x, xs = [x] ∧ x.kn = true ∧ R (.bl (isIntD x)) G
def sp_is_within : DSp := fun xs G R _ => ∃ x a b l m, xs = [x, a, b] ∧ x.kn = true ∧ bndD a = some l ∧ bndD b = some m ∧ R (.bl (withinD x l m)) G
def sp_is_list : DSp := fun xs G R _ => ∃ x, xs = [x] ∧ x.kn = true ∧ R (.bl (isSeqD x)) G
def sp_is_number : DSp := fun xs G R _ => ∃ x, xs = [x] ∧ x.kn = true ∧ R (.bl (numD x)) G
section
variable {ρ : En} {G : Gm} {da db dc : DE} {x a b : D} {l m : Option Int}
theorem Ev.isInteger (h : Ev da ρ G x) (hk : x.kn = true) : Ev (dCall sp_is_integer X0 (dCons da dNil)) ρ G (.bl (isIntD x)) := .call (.one h) fun R r => ⟨x, rfl, hk, r⟩
theorem Ev.isWithin (h : Ev da ρ G x) (h1 : Ev db ρ G a) (h2 : Ev dc ρ G b) (hk : x.kn = true) (hl : bndD a = some l) (hm : bndD b = some m) : Ev (dCall sp_is_within X0 (dCons da (dCons db (dCons dc dNil)))) ρ G (.bl (withinD x l m)) := .call (.cons h (.cons h1 (.one h2))) fun R r => ⟨x, a, b, l, m, rfl, hk, hl, hm, r⟩
theorem Ev.isList (h : Ev da ρ G x) (hk : x.kn = true) : Ev (dCall sp_is_list X0 (dCons da dNil)) ρ G (.bl (isSeqD x)) := .call (.one h) fun R r => ⟨x, rfl, hk, r⟩
theorem Ev.isNumber (h : Ev da ρ G x) (hk : x.kn = true) : Ev (dCall sp_is_number X0 (dCons da dNil)) ρ G (.bl (numD x)) := .call (.one h) fun R r => ⟨x, rfl, hk, r⟩
end
def wholeD : DE := dAndV (dCal (fIsi "int") (dCons (dVar 0) (dCons (dC (.ty "int")) dNil))) (dNotV (dCal (fIsi "bool") (dCons (dVar 0) (dCons (dC (.ty "bool")) dNil))))
theorem ev_whole {ρ : En} {G : Gm} {x : D} (h : ρ[0]? = some (some x)) (hk : x.kn = true) : Ev wholeD ρ G (.bl (isIntD x)) := by
  obtain ⟨t, ht⟩ := kn_tyn hk
  refine (Ev.and2 (.isi (.var h) ht) fun _ => .notV (.isi (.var h) ht)).cast ?_
  cases x <;> cases ht <;> first | rfl | cases hk
theorem is_integer_ok (xs : List D) (G : Gm) (R : KD) (RX : XD) (h : sp_is_integer xs G R RX) : dRet wholeD { nx := fun _ G => R .non G, rt := R } (xs.map some ++ List.replicate (1 - xs.length) none) G := by
  obtain ⟨x, rfl, hk, h⟩ := h
  exact ev_whole rfl hk _ h
def withinR : DS := (dSeq (dIfS (dNot (dTst (dCall sp_is_integer X0 (dCons (dVar 0) dNil)))) (dRet (dC (.bl false))) dNext) (dRet (dAndV (dOrV (dIsN (dVar 1)) (dOp (fInt gLe) (dVar 1) (dVar 0))) (dOrV (dIsN (dVar 2)) (dOp (fInt gLe) (dVar 0) (dVar 2))))))
theorem bnd_le {ρ : En} {G : Gm} {da db : DE} {b : D} {l : Option Int} {i : Int} (hb : bndD b = some l) (h : Ev da ρ G b) (h' : Ev db ρ G (.int i)) : Ev (dOrV (dIsN da) (dOp (fInt gLe) da db)) ρ G (.bl (leO l i)) := by
  cases b <;> cases hb
  · exact .orT (.isN h)
  · exact .orF (.isN h) (.le h h')
theorem bnd_ge {ρ : En} {G : Gm} {da db : DE} {b : D} {l : Option Int} {i : Int} (hb : bndD b = some l) (h : Ev da ρ G b) (h' : Ev db ρ G (.int i)) : Ev (dOrV (dIsN da) (dOp (fInt gLe) db da)) ρ G (.bl (geO l i)) := by
  cases b <;> cases hb
  · exact .orT (.isN h)
  · exact .orF (.isN h) (.le h' h)
theorem is_within_ok (xs : List D) (G : Gm) (R : KD) (RX : XD) (h : sp_is_within xs G R RX) : withinR { nx := fun _ G => R .non G, rt := R } (xs.map some ++ List.replicate (3 - xs.length) none) G := by
  obtain ⟨x, a, b, l, m, rfl, hk, ha, hb, h⟩ := h
  refine ds_if (.not (.tst (.isInteger (.var rfl) hk))) ?_
  by_cases hx : isIntD x = true
  · cases x <;> cases hx
    rename_i i
    exact (Ev.and2 (bnd_le ha (.var rfl) (.var rfl)) fun _ => bnd_ge hb (.var rfl) (.var rfl)) _ h
  · rw [if_pos (by simpa using hx)]
    refine ds_ret .c ?_
    have e : withinD x l m = false := by cases x <;> first | rfl | exact absurd rfl hx
    rw [e] at h
    exact h
theorem is_list_ok (xs : List D) (G : Gm) (R : KD) (RX : XD) (h : sp_is_list xs G R RX) : dRet (dIsiT ["list", "tuple"] (dVar 0)) { nx := fun _ G => R .non G, rt := R } (xs.map some ++ List.replicate (1 - xs.length) none) G := by
  obtain ⟨x, rfl, hk, h⟩ := h
  obtain ⟨t, ht⟩ := kn_tyn hk
  refine ((Ev.isiT (.var rfl) ht).cast ?_) _ h
  cases x <;> cases ht <;> first | rfl | cases hk
theorem num_cases {x : D} (h : numD x = true) : (∃ i, x = .int i) ∨ ∃ a b : Int, (x = .tup [.int a, .int b] ∨ x = .lst [.int a, .int b]) ∧ 2 ≤ b ∧ Int.gcd a b = 1 := by
  have key : ∀ xs, ratD (pairD xs) = true → ∃ a b : Int, xs = [.int a, .int b] ∧ 2 ≤ b ∧ Int.gcd a b = 1 := fun xs h => by
    unfold pairD at h
    split at h
    · rename_i a b
      have h2 : (decide (2 ≤ b) && decide (Int.gcd a b = 1)) = true := h
      rw [Bool.and_eq_true, decide_eq_true_eq, decide_eq_true_eq] at h2
      exact ⟨a, b, rfl, h2⟩
    · cases h
  cases x with
  | int i => exact .inl ⟨i, rfl⟩
  | tup xs =>
    obtain ⟨a, b, rfl, h2⟩ := key xs h
    exact .inr ⟨a, b, .inl rfl, h2⟩
  | lst xs =>
    obtain ⟨a, b, rfl, h2⟩ := key xs h
    exact .inr ⟨a, b, .inr rfl, h2⟩
  | _ => cases h
def halvesR : DS := (dRet (dIf (dTst (dCall sp_is_integer X0 (dCons (dVar 0) dNil))) (dTup (dCons (dVar 0) (dCons (dC (.int 1)) dNil))) (dTup (dCons (dIx (dVar 0) (dC (.int 0))) (dCons (dIx (dVar 0) (dC (.int 1))) dNil)))))
theorem halves_ok (xs : List D) (G : Gm) (R : KD) (RX : XD) (h : sp_halves xs G R RX) : halvesR { nx := fun _ G => R .non G, rt := R } (xs.map some ++ List.replicate (1 - xs.length) none) G := by
  obtain ⟨x, rfl, hk, h⟩ := h
  rcases num_cases hk with ⟨i, rfl⟩ | ⟨a, b, hx, _⟩
  · exact (Ev.ifT ((EvT.tst (.isInteger (.var rfl) rfl)).cast rfl) (.tup (.cons (.var rfl) (.one .c)) (show 2 ≤ sizeLine by decide))) _ h
  · rcases hx with rfl | rfl
    · exact (Ev.ifF ((EvT.tst (.isInteger (.var rfl) rfl)).cast rfl) (.tup (.cons (.at (.var rfl) .c seq_tup rfl) (.one (.at (.var rfl) .c seq_tup rfl))) (show 2 ≤ sizeLine by decide))) _ h
    · exact (Ev.ifF ((EvT.tst (.isInteger (.var rfl) rfl)).cast rfl) (.tup (.cons (.at (.var rfl) .c seq_lst rfl) (.one (.at (.var rfl) .c seq_lst rfl))) (show 2 ≤ sizeLine by decide))) _ h
theorem while_gcd {i j : Nat} (hij : i ≠ j) {da : DE} (hda : ∀ (ρ : En) (G : Gm) (p : Int), ρ[i]? = some (some (.int p)) → Ev da ρ G (.int p)) {E : DEnds} {ρ : En} {G : Gm} {p q : Nat} (h1 : ρ[i]? = some (some (.int p))) (h2 : ρ[j]? = some (some (.int q)))
    (k : ∀ ρ', ρ'[i]? = some (some (.int (Nat.gcd p q))) → E.nx ρ' G) : dWhile (dTst (dOp (fInt gGt) (dVar j) (dC (.int 0)))) (dPar i j (dCons (dVar j) (dCons (dOp (fIntC (fun _ j => 0 < j) fun i j => .int (i % j)) da (dVar j)) dNil))) E ρ G := by
  refine ⟨fun m ρ' G' => G' = G ∧ ∃ p' : Nat, ρ'[i]? = some (some (.int p')) ∧ ρ'[j]? = some (some (.int m)) ∧ Nat.gcd p' m = Nat.gcd p q, ⟨q, rfl, p, h1, h2, rfl⟩, ?_⟩
  rintro m ρ' G' ⟨rfl, p', r1, r2, e⟩
  refine (EvT.tst (.gt (.var r2) .c)) _ ?_
  by_cases h0 : 0 < m
  · rw [if_pos (by simpa using h0)]
    refine ds_par (.var r2) (.mod (hda _ _ _ r1) (.var r2) (by omega)) ?_
    refine ⟨p' % m, Nat.mod_lt _ h0, rfl, m, ?_, ?_, ?_⟩
    · rw [List.getElem?_set_ne (fun z => hij z.symm)]
      exact List.getElem?_set_self (by
        by_cases z : i < ρ'.length
        · exact z
        · rw [List.getElem?_eq_none (by omega)] at r1
          cases r1)
    · rw [List.getElem?_set_self (by
        rw [List.length_set]
        by_cases z : j < ρ'.length
        · exact z
        · rw [List.getElem?_eq_none (by omega)] at r2
          cases r2)]
      rfl
    · rw [← e, Nat.gcd_comm p' m, Nat.gcd_rec m p', Nat.gcd_comm]
  · rw [if_neg (by simpa using h0)]
    have m0 : m = 0 := by omega
    subst m0
    refine k ρ' ?_
    rw [← e, Nat.gcd_zero_right]
    exact r1
def commonR : DS := (dSeq (dPar 0 1 (dCons (dCal fAbs (dCons (dVar 0) dNil)) (dCons (dCal fAbs (dCons (dVar 1) dNil)) dNil))) (dSeq (dWhile (dTst (dOp (fInt gGt) (dVar 1) (dC (.int 0)))) (dPar 0 1 (dCons (dVar 1) (dCons (dOp (fIntC (fun _ j => 0 < j) fun i j => .int (i % j)) (dVar 0) (dVar 1)) dNil)))) (dRet (dVar 0))))
theorem common_ok (xs : List D) (G : Gm) (R : KD) (RX : XD) (h : sp_common xs G R RX) : commonR { nx := fun _ G => R .non G, rt := R } (xs.map some ++ List.replicate (2 - xs.length) none) G := by
  obtain ⟨i, j, rfl, h⟩ := h
  refine ds_par (.absN (.var rfl)) (.absN (.var rfl)) ?_
  refine while_gcd (by decide) (fun ρ G p h => .var h) rfl rfl fun ρ' h1 => ?_
  exact ds_ret (.var h1) h
def numberR : DS := (dSeq (dIfS (dNot (dTst (dCall sp_is_list X0 (dCons (dVar 0) dNil)))) (dRet (dCall sp_is_integer X0 (dCons (dVar 0) dNil))) dNext) (dSeq (dIfS (dOr (dTst (dOp fNe (dCal fLen (dCons (dVar 0) dNil)) (dC (.int 2)))) (dOr (dNot (dTst (dCall sp_is_integer X0 (dCons (dIx (dVar 0) (dC (.int 0))) dNil)))) (dNot (dTst (dCall sp_is_within X0 (dCons (dIx (dVar 0) (dC (.int 1))) (dCons (dC (.int 2)) (dCons (dC .non) dNil)))))))) (dRet (dC (.bl false))) dNext) (dRet (dOp fEq (dCall sp_common X0 (dCons (dIx (dVar 0) (dC (.int 0))) (dCons (dIx (dVar 0) (dC (.int 1))) dNil))) (dC (.int 1))))))
theorem rat_long {xs : List D} (h : xs.length ≠ 2) : pairD xs = none := by
  match xs, h with
  | [], _ => rfl
  | [a], _ => exact pair_1 a
  | [a, b], h => exact absurd rfl h
  | a :: b :: c :: r, _ => exact pair_3 a b c r
theorem knL_two {a b : D} (h : D.knL [a, b] = true) : a.kn = true ∧ b.kn = true := by
  simp only [D.knL, Bool.and_eq_true, and_true] at h
  exact h
theorem seq_kn {x : D} {ds : List D} (hx : x = .tup ds ∨ x = .lst ds) (hk : x.kn = true) : D.knL ds = true := by
  rcases hx with rfl | rfl
  · exact hk
  · exact hk
theorem num_seq {x : D} {ds : List D} (hx : x = .tup ds ∨ x = .lst ds) : numD x = ratD (pairD ds) := by
  rcases hx with rfl | rfl <;> rfl
theorem is_number_ok (xs : List D) (G : Gm) (R : KD) (RX : XD) (h : sp_is_number xs G R RX) : numberR { nx := fun _ G => R .non G, rt := R } (xs.map some ++ List.replicate (1 - xs.length) none) G := by
  obtain ⟨x, rfl, hk, h⟩ := h
  refine ds_if (.not (.tst (.isList (.var rfl) hk))) ?_
  by_cases hx : isSeqD x = true
  · have hx2 : ∃ ds, x = .tup ds ∨ x = .lst ds := by cases x <;> first | exact ⟨_, .inl rfl⟩ | exact ⟨_, .inr rfl⟩ | cases hx
    obtain ⟨ds, hx2⟩ := hx2
    have hs : SeqAt G x ds := seq_at hx2
    have hd := seq_kn hx2 hk
    rw [num_seq hx2] at h
    rw [if_neg (by rw [hx]; decide)]
    by_cases h2 : ds.length = 2
    · match ds, h2 with
      | [a, b], h2 =>
        obtain ⟨ka, kb⟩ := knL_two hd
        by_cases ia : isIntD a = true
        · cases a <;> cases ia
          rename_i i
          by_cases ib : withinD b (some 2) none = true
          · cases b <;> first | cases ib | skip
            rename_i j
            refine ds_if (.orF ((EvT.tst (.neI (.len (.var rfl) hs) .c)).cast rfl) (.orF ((EvT.not (.tst (.isInteger (.at (.var rfl) .c hs rfl) ka))).cast rfl) ((EvT.not (.tst (.isWithin (.at (.var rfl) .c hs rfl) .c .c kb rfl rfl))).cast (by rw [ib])))) ?_
            refine ds_ret ((Ev.eqI (.common (.at (.var rfl) .c hs rfl) (.at (.var rfl) .c hs rfl)) .c).cast ?_) h
            have ib2 : (decide (2 ≤ j) && true) = true := ib
            rw [Bool.and_true] at ib2
            show D.bl _ = D.bl (decide (2 ≤ j) && decide (Int.gcd i j = 1))
            rw [ib2, Bool.true_and]
            congr 1
            exact decide_eq_decide.mpr (by omega)
          · refine ds_if (.orF ((EvT.tst (.neI (.len (.var rfl) hs) .c)).cast rfl) (.orF ((EvT.not (.tst (.isInteger (.at (.var rfl) .c hs rfl) ka))).cast rfl) ((EvT.not (.tst (.isWithin (.at (.var rfl) .c hs rfl) .c .c kb rfl rfl))).cast (k := true) (by simpa using ib)))) ?_
            refine ds_ret .c ?_
            have e : ratD (pairD [.int i, b]) = false := by
              cases b <;> first | rfl | skip
              rename_i j
              have ib2 : ¬ (decide (2 ≤ j) && true) = true := ib
              rw [Bool.and_true] at ib2
              show (decide (2 ≤ j) && _) = false
              rw [Bool.eq_false_iff.mpr ib2, Bool.false_and]
            rw [e] at h
            exact h
        · refine ds_if (.orF ((EvT.tst (.neI (.len (.var rfl) hs) .c)).cast rfl) (.orT ((EvT.not (.tst (.isInteger (.at (.var rfl) .c hs rfl) ka))).cast (by simpa using ia)))) ?_
          refine ds_ret .c ?_
          rw [pair_2a a b (by simpa using ia)] at h
          exact h
    · refine ds_if (.orT ((EvT.tst (.neI (.len (.var rfl) hs) .c)).cast ?_)) ?_
      · rw [Bool.not_eq_true', decide_eq_false_iff_not]
        omega
      · refine ds_ret .c ?_
        rw [rat_long h2] at h
        exact h
  · rw [if_pos (by simpa using hx)]
    refine ds_ret (.isInteger (.var rfl) hk) ?_
    have e : numD x = isIntD x := by cases x <;> first | rfl | exact absurd rfl hx
    rw [e] at h
    exact h
end DL
namespace DL
open PySem PySem.Spec PyProof.Rows L2 Evl
variable [TabC]
structure Df (K : PySem.W.Frag) (mg : Str → Option Value) (x : Str) (st : Stmt) : Prop where
  g : mg x = some (.ref (He.ga K x))
  f : ∃ fd, FunD K x x (defArgs st) (defBody st) (defScope st) [] [] (He.ga K x) fd
theorem fund_one {K : PySem.W.Frag} {x qual : Str} {params : Arguments} {body : List Stmt} {scope : Scope} {dvs : List V} {kws : List (Str × V)} {f : Addr} {fd fd' : FuncData} (F : FunD K x qual params body scope dvs kws f fd) (F' : FunD K x qual params body scope dvs kws f fd') : fd = fd' := by
  obtain ⟨oc, od, dV, kV, doc, pm, an, cdv, ct, osl, _, lk, _⟩ := F.ex
  obtain ⟨oc', od', dV', kV', doc', pm', an', cdv', ct', osl', _, lk', _⟩ := F'.ex
  have e := lk.symm.trans lk'
  injection e with e
  injection e with _ _ e _
  injection e
structure TabF (K : PySem.W.Frag) (h : Heap) : Prop where
  ok : TabOk K
  empty : ∀ n ∈ TabC.tf, h.get? (He.cT K (n, none)).2 = some (tabO #[])
  out : ∀ n ∈ TabC.tf, K.lookup (He.cT K (n, none)).2 = none
  hd : ∀ n ∈ TabC.tf, PySem.W.CodeHd h (He.cT K (n, none)).1 (He.cT K (n, none)).2
def TabsB (K : PySem.W.Frag) (base : Heap) (mg : Str → Option Value) : Prop := ∀ n ∈ TabC.tf, LamX.TabB base mg (He.cT K (n, none)).1 (He.cT K (n, none)).2
theorem law_of {P : Program} {w : World} {K : PySem.W.Frag} {mg : Str → Option Value} {fa : Addr} {st : Stmt} {y : Str} {k : Nat} {h : Heap} (hm : mg ("law" : Str) = some (.ref fa)) (F : Df K mg "law" st) (T : TabF K h)
    (hb : ∀ (kV doc pm : Value) (an : Option Addr) (cdv ct : Value) (us : List Value), us.length = [y].length → bindArgs (PySem.W.fnOf "law" "law" (defArgs st) (defBody st) (defScope st) .none kV doc pm an cdv ct) ⟨us, []⟩ = pure ([y].zip us))
    (kn : ∀ base : Heap, TabsB K base mg → Kn P w K mg base k "law" st [y] lawSp) : ∃ (fd : FuncData) (sp : Sp) (ct : List (Addr × Addr)), (∀ q ∈ ct, h.get? q.2 = some (tabO #[])) ∧ (∀ q ∈ ct, K.lookup q.2 = none) ∧ (∀ q ∈ ct, PySem.W.CodeHd h q.1 q.2) ∧ (∀ (s : Shared) (u : Value), BindsTo s fd ⟨[u], []⟩ [(y, u)]) ∧
      (∀ (Hd H : Hp) (a : Addr) (ns : List Int), ns.length ≤ 63 → Ex Hd H → (∀ q ∈ ct, H q.2 = some (.tbl #[]) ∧ Hd q.2 = none) → SqL K Hd a (ns.map V.int) → sp [.ref a] H (fun v _ => v = .bl true) fun _ _ _ => False) ∧
      ∀ base : Heap, K.In base → base.Ns mainGlobals mg → (∀ q ∈ ct, LamX.TabB base mg q.1 q.2) → FnG P w K mg base k fa fd [y] sp := by
  obtain ⟨fd, FD⟩ := F.f
  have e := hm.symm.trans F.g
  cases e
  have of : ∀ {q : Addr × Addr}, q ∈ (TabC.tf.map fun n => He.cT K (n, none)) → ∃ n ∈ TabC.tf, He.cT K (n, none) = q := fun hq => List.mem_map.mp hq
  refine ⟨fd, spU K lawSp, TabC.tf.map fun n => He.cT K (n, none), fun q hq => ?_, fun q hq => ?_, fun q hq => ?_, fun s u => FunD.bindsA (ps := [y]) FD hb s [u] rfl, fun Hd H a ns hl ee ht hS => law_sp hl T.ok ee (fun p hp => ?_) hS, fun base _ _ ht => ?_⟩
  · obtain ⟨n, hn, rfl⟩ := of hq
    exact T.empty n hn
  · obtain ⟨n, hn, rfl⟩ := of hq
    exact T.out n hn
  · obtain ⟨n, hn, rfl⟩ := of hq
    exact T.hd n hn
  · obtain ⟨n, hn, rfl⟩ := List.mem_map.mp hp
    exact ht (He.cT K (n, none)) (List.mem_map_of_mem hn)
  · obtain ⟨fd', FD', G⟩ := (kn base fun n hn => ht _ (List.mem_map_of_mem hn)).fn
    rw [fund_one FD FD']
    exact G
end DL
namespace DL
open PySem PySem.Spec PyProof.Rows L2 Evl
variable [TabC]
structure DfD (K : PySem.W.Frag) (mg : Str → Option Value) (x : Str) (st : Stmt) (dvs : List V) : Prop where
  g : mg x = some (.ref (He.ga K x))
  f : ∃ fd, FunD K x x (defArgs st) (defBody st) (defScope st) dvs [] (He.ga K x) fd
structure KnD (P : Program) (w : World) (K : PySem.W.Frag) (mg : Str → Option Value) (base : Heap) (k : Nat) (x : Str) (st : Stmt) (ps : List Str) (dvs : List V) (p : DSp) : Prop where
  g : mg x = some (.ref (He.ga K x))
  fn : ∃ fd, FunD K x x (defArgs st) (defBody st) (defScope st) dvs [] (He.ga K x) fd ∧ FnG P w K mg base k (He.ga K x) fd ps (spU K p)
section
variable {P : Program} {w : World} {K : PySem.W.Frag} {mg : Str → Option Value} {base : Heap}
theorem knd_of {x : Str} {st : Stmt} {N ps : List Str} {dvs : List V} {k : Nat} {p : DSp} (g : mg x = some (.ref (He.ga K x))) (F : ∃ fd, FunD K x x (defArgs st) (defBody st) (defScope st) dvs [] (He.ga K x) fd) (S : FnScope N ps (defScope st)) (len : ∀ xs G R RX, p xs G R RX → xs.length = ps.length)
    (hbody : ∀ (cdv : Value), cdv = .ref (cdAt K (He.ga K x)) → ∀ (A : Around) (outer : List Env) (s : Shared) (H : Hp) (E : XK) (B : Bs) (RX : XD), Room k (A.deeper (envOfC x (defScope st) s.heap.objs.size (He.ga K x) cdv)) → (A.deeper (envOfC x (defScope st) s.heap.objs.size (He.ga K x) cdv)).guards = some [] → KX K B.f B.b RX E →
      ∃ t : DS, PSs (cxOf (L2.CX P w) P w K mg base N x (defScope st) (He.ga K x) cdv A outer s H E) (defBody st) (upS K B t) ∧ ∀ xs G R, p xs G R RX → t { nx := fun _ G => R .non G, rt := R } (xs.map some ++ List.replicate (N.length - xs.length) none) G) :
    KnD P w K mg base (k + 1) x st ps dvs p := by
  obtain ⟨fd, F⟩ := F
  refine ⟨g, fd, F, fng_of F S (fun vs H Q E h => ?_) fun cdv hcv A outer s H vs Q E hr hg h => ?_⟩
  · obtain ⟨xs, _, _, G, R, RX, r, _, hp, _⟩ := h
    rw [r.length]
    exact len xs G R RX hp
  · obtain ⟨xs, F, Hd, G, R, RX, r, sm, hp, ke, kx⟩ := h
    obtain ⟨t, ht, h2⟩ := hbody cdv hcv A outer s H E ⟨Hd, F⟩ RX hr hg kx
    exact ⟨_, ht, _, Hd, G, _, ⟨Ex.refl _, RpE.start r, sm⟩, h2 xs G R hp, fun σ' H' Hd' ρ' G' e _ s h => ke .non H' Hd' .non G' e s .non h, ke, fun _ _ _ _ _ _ _ _ h => h.elim, fun _ _ _ _ _ _ _ _ h => h.elim⟩
end
section
variable {X : Cx} {B : Bs} {pos p : Pos} {a b c e : Expr} {es : List Expr} {da db dc de : DE} {dA : DA}
def dCallD (q : DSp) (ds : List D) (RX : XD) (dA : DA) : DE := fun ρ G R => dA ρ G fun xs G1 => q (xs ++ ds) G1 R RX
theorem pe_callGD {k : Nat} {f : Addr} {fd : FuncData} {ps : List Str} {dvs : List V} {dus : List Value} {sp : Sp} {E : XK} {x : Str} {t : TA} (F : FnG X.prog X.w X.K X.mg X.base k f fd ps sp) (hr : Room k X.A) (hgd : X.A.guards = some []) (hg : Gl X x) (hm : X.mg x = some (.ref f)) (hk : PySem.W.keepIn X.K (.ref f) = true) (hb : Binds X.K fd ps dus) (hv : Vals dvs dus)
    (hx : Passes (L2.CX X.prog X.w) X E) (ha : PA X (e :: es) t) (hdb : (x == ("__debug__" : Str)) = false := by decide) (he : starEach (e :: es) X.env = (false, eval e X.env) :: starEach es X.env := by rfl) (hpl : (backTo pos (starEach es X.env)).any (·.1) = false := by rfl) :
    PE X (.Call (.Name x p) (e :: es) [] pos) (tCall sp dvs E t) := ⟨fun pins s σ H Q I h => by
  refine wpAny_Call_Name_kw (ld_glob I hg hm (PySem.W.callWith_K (h₀ := X.base) I.ok.mod.kin hk (thn (ha.run pos pins s σ H _ I h) fun us s1 hh => ?_) he hpl) hdb)
  obtain ⟨vs, H1, I1, r, q⟩ := hh
  have hl : (us ++ dus).length = ps.length := by
    rw [← F.len _ _ _ _ q, List.length_append, List.length_append, r.length, hv.length]
  have hb1 := hb s1 us I1.kIn hl
  refine ⟨I1.kIn, wpAny_call (codeAny_mono (run_fng F hr hgd hx I1 hb1 (r.append hv) q) fun r s2 hq => ?_)⟩
  cases r with
  | error e => exact hq
  | ok fl => cases fl <;> first | exact hq | exact hq.elim⟩
theorem pd_callD {k n j : Nat} {x : Str} {st : Stmt} {ps : List Str} {dvs : List V} {ds : List D} {q : DSp} {RX : XD} {E : XK} (h : KnD X.prog X.w X.K X.mg X.base k x st ps dvs q) (hd : dvs ≠ []) (hr : Room k X.A) (hgd : X.A.guards = some []) (hg : Gl X x) (hx : Passes (L2.CX X.prog X.w) X E) (kx : ∀ Hd, Ex B.b Hd → KX X.K B.f Hd RX E)
    (hn : n + (dvs.length - j) = ps.length) (hds : ∀ Hd, RpL X.K Hd (dvs.drop j) ds)
    (hb : ∀ (T : Addr) (kV doc pm : Value) (an : Option Addr) (cdv ct : Value) (us its : List Value), us.length = n → its.length = dvs.length →
      ∃ k, bindArgs (PySem.W.fnOf x x (defArgs st) (defBody st) (defScope st) (.ref T) kV doc pm an cdv ct) ⟨us, []⟩ = seqItems? (.ref T) >>= k ∧ k (some its.toArray) = pure (ps.zip (us ++ its.drop j)))
    (ha : PA X (e :: es) (upA X.K B dA)) (hdb : (x == ("__debug__" : Str)) = false := by decide) (he : starEach (e :: es) X.env = (false, eval e X.env) :: starEach es X.env := by rfl) (hpl : (backTo pos (starEach es X.env)).any (·.1) = false := by rfl) :
    PE X (.Call (.Name x p) (e :: es) [] pos) (upE X.K B (dCallD q ds RX dA)) := by
  obtain ⟨fd, F, G⟩ := h.fn
  obtain ⟨dus, hv, hbn⟩ := F.binds1 n j hd hn hb
  refine pe_imp (pe_callGD G hr hgd hg h.g F.kp hbn hv hx ha hdb he hpl) fun σ H Q ⟨ρ, Hd, G, R, at_, h, k⟩ => ?_
  exact ⟨ρ, Hd, G, _, at_, h, fun vs H1 Hd1 xs G1 e1 s1 r1 h1 => ⟨xs ++ ds, B.f, Hd1, G1, R, RX, r1.app (hds Hd1), s1, h1, k.mono e1, kx Hd1 (at_.b.trans e1)⟩⟩
def dPar3 (i j l : Nat) (dA : DA) : DS := fun E ρ G => dA ρ G fun xs G1 => ∃ x y z, xs = [x, y, z] ∧ E.nx (((ρ.set i (some x)).set j (some y)).set l (some z)) G1
def dRev (da : DE) : DE := fun ρ G R => da ρ G fun x G1 => ∃ ds, LstAt G1 x ds ∧ R (.lst ds.reverse) G1
theorem RpL.rev {K : PySem.W.Frag} {H : Hp} {vs : List V} {ds : List D} (r : RpL K H vs ds) : RpL K H vs.reverse ds.reverse := by
  induction vs generalizing ds with
  | nil =>
    cases r
    exact .nil
  | cons v vs ih =>
    cases r with
    | cons a b =>
      rw [List.reverse_cons, List.reverse_cons]
      exact (ih b).app (.cons a .nil)
theorem pd_rev {k : Nat} {p1 p2 p3 : Pos} (he : PE X e (upE X.K B de)) : PE X (.Subscript e (.Slice none none (some (.UnaryOp .USub (.Constant (.int 1) k p1) p2)) p3) pos) (upE X.K B (dRev de)) := pe_imp (pe_revL he) fun σ H Q ⟨ρ, Hd, G, R, at_, h, k⟩ =>
  ⟨ρ, Hd, G, _, at_, h, fun v H1 Hd1 x G1 e1 s1 r1 ⟨ds, hl, h1⟩ => by
    obtain ⟨q, ys, rfl, hq, r3⟩ := hl.sq s1 r1
    exact ⟨q, ys, rfl, hq, fun pp hp => k _ _ _ _ G1 (e1.trans (s1.exn hp)) (s1.new hp) (.lst sq_new (r3.rev.mono (s1.exn hp))) h1⟩⟩
def zipD (xs ys : List D) : List D := List.zipWith (fun x y => D.tup [x, y]) xs ys
def dIZip (dA : DA) : DI := fun ρ G S => dA ρ G fun vs G1 => ∃ xs ys, (vs = [.lst xs, .lst ys] ∨ vs = [.tup xs, .tup ys]) ∧ S (zipD xs ys) G1
theorem zip_at {xs ys : List D} {i : Nat} {d : D} (h : (zipD xs ys)[i]? = some d) : ∃ x y, xs[i]? = some x ∧ ys[i]? = some y ∧ d = .tup [x, y] := by
  unfold zipD at h
  rw [List.getElem?_zipWith] at h
  cases hx : xs[i]? with
  | none =>
    rw [hx] at h
    cases h
  | some x =>
    cases hy : ys[i]? with
    | none =>
      rw [hx, hy] at h
      cases h
    | some y =>
      rw [hx, hy] at h
      exact ⟨x, y, rfl, rfl, (Option.some.inj h).symm⟩
end
end DL
namespace DL
open PySem PySem.Spec PyProof.Rows L2 Evl
variable [TabC]
theorem eqv_self {x : D} (h : x.lay = true) : D.eqv x x = true := by
  obtain ⟨p, e, h1, _⟩ := py_lay x h
  rw [eqv_of e e]
  exact SeqAt.eqv_refl p h1
section
variable {ρ : En} {G : Gm} {da db dc : DE} {x y z : D}
theorem feq_cmp (hx : Cmp x) (hy : Cmp y) (h : ∀ i, x ≠ .int i) (h2 : ∀ i, x ≠ .str i) (h3 : ∀ i, x ≠ .bl i) : fEq x y (.bl (D.eqv x y)) := by
  unfold fEq
  split
  · exact absurd rfl (h _)
  · exact absurd rfl (h2 _)
  · exact absurd rfl (h3 _)
  · exact ⟨hx, hy, rfl⟩
theorem fne_cmp (hx : Cmp x) (hy : Cmp y) (h : ∀ i, x ≠ .int i) (h2 : ∀ i, x ≠ .str i) (h3 : ∀ i, x ≠ .bl i) : fNe x y (.bl (!D.eqv x y)) := by
  unfold fNe
  split
  · exact absurd rfl (h _)
  · exact absurd rfl (h2 _)
  · exact absurd rfl (h3 _)
  · exact ⟨hx, hy, rfl⟩
theorem Ev.neT {xs : List D} (ha : Ev da ρ G (.tup xs)) (hb : Ev db ρ G (.tup xs)) (h : Cmp (.tup xs)) : Ev (dOp fNe da db) ρ G (.bl false) := .op ha hb (by
  have e := fne_cmp h h (fun _ z => nomatch z) (fun _ z => nomatch z) (fun _ z => nomatch z)
  rw [eqv_self h.lay] at e
  exact e)
theorem Ev.lcSeq {i : Nat} {vs : List Nat} {xs : List D} (f : D → D) (ha : Ev da ρ G x) (hx : x = .lst xs ∨ x = .tup xs) (hf : ∀ y ∈ xs, Ev db ((wipeD ρ vs).set i (some y)) G (f y)) (hz : xs.length ≤ sizeLine) : Ev (dCmp (dISeq da) (gN i) dYes db vs) ρ G (.lst (xs.map f)) := fun R r =>
  ha _ ⟨xs, hx, cmpL_map f (fun y hy S' hS => hf y hy _ hS) (by rw [List.length_nil]; omega) (by rw [List.nil_append]; exact r)⟩
theorem Ev.lcRng {i : Nat} {vs : List Nat} {n : Nat} (f : Nat → D) (ha : Ev da ρ G (.int n)) (hf : ∀ j, j < n → Ev db ((wipeD ρ vs).set i (some (.int j))) G (f j)) (hz : n ≤ sizeLine) : Ev (dCmp (dIRng1 da) (gN i) dYes db vs) ρ G (.lst ((List.range n).map f)) := fun R r => by
  have hs := hz
  rw [sizeLine_eq] at hs
  refine ha _ ⟨n, rfl, by omega, by omega, ?_⟩
  refine cmpL_map (fun d => match d with | .int j => f j.toNat | _ => .non) (fun y hy S' hS => ?_) ?_ ?_
  · obtain ⟨j, hj, rfl⟩ := List.mem_map.mp hy
    have hj2 := List.mem_range.mp hj
    have e0 : (0 : Int) + (j : Nat) = (j : Nat) := Int.zero_add _
    rw [e0] at hS ⊢
    refine hf j (by omega) _ ?_
    exact hS
  · unfold rngD
    rw [List.length_map, List.length_range, List.length_nil]
    omega
  · have e : (rngD 0 (n : Int).toNat).map (fun d => match d with | .int j => f j.toNat | _ => .non) = (List.range n).map f := by
      unfold rngD
      rw [List.map_map]
      refine List.map_congr_left fun j _ => ?_
      show f ((0 : Int) + (j : Nat)).toNat = f j
      rw [Int.zero_add]
      rfl
    rw [e, List.nil_append]
    exact r
theorem Ev.tupOf {xs : List D} (ha : Ev da ρ G x) (h : SeqAt G x xs) : Ev (dCal fTupOf (dCons da dNil)) ρ G (.tup xs) := .cal (.one ha) ⟨x, xs, rfl, h, rfl⟩
theorem Ev.callD {q : DSp} {ds xs : List D} {dA : DA} (ha : EvA dA ρ G xs) (h : ∀ R, R z G → q (xs ++ ds) G R X0) : Ev (dCallD q ds X0 dA) ρ G z := fun R r => ha _ (h R r)
theorem Ev.chosen {t : DT} {k : Bool} (ht : EvT t ρ G k) (h1 : k = true → Ev da ρ G z) (h2 : k = false → Ev db ρ G z) : Ev (dIf t da db) ρ G z := fun R r => ht _ (by
  cases k with
  | true => exact h1 rfl _ r
  | false => exact h2 rfl _ r)
theorem ds_asg {E : DEnds} {g : DG} (ha : Ev da ρ G x) (h : g x ρ G E.nx) : dAsg da g E ρ G := ha _ h
theorem ds_asg2 {E : DEnds} {i j : Nat} {a b : D} (ha : Ev da ρ G x) (hs : SeqAt G x [a, b]) (h : E.nx ((ρ.set i (some a)).set j (some b)) G) : dAsg da (gSeq 2 (gCons (gN i) (gCons (gN j) gNil))) E ρ G :=
  ha _ ⟨_, hs, rfl, _, _, rfl, _, _, rfl, rfl, h⟩
end
theorem num_half {x : D} (h : numD x = true) : halfD x = (.int (numI x).1, .int (numI x).2) ∧ 0 < (numI x).2 := by
  rcases num_cases h with ⟨i, rfl⟩ | ⟨a, b, hx, h2, _⟩
  · exact ⟨rfl, by show (0 : Int) < 1; decide⟩
  · rcases hx with rfl | rfl
    · exact ⟨rfl, by show 0 < b; omega⟩
    · exact ⟨rfl, by show 0 < b; omega⟩
theorem low_num {a u : Int} (hu : 0 < u) : numI (lowD a u) = (a / (Int.gcd a u : Int), u / (Int.gcd a u : Int)) := by
  unfold lowD
  split
  · rename_i h
    rw [h]
    rfl
  · rfl
theorem low_isnum {a u : Int} (hu : 0 < u) : numD (lowD a u) = true := by
  obtain ⟨g, n, d, eg, g0, ea, eu, d0, e1, e2, e3, _⟩ := gcd_facts (a := a) hu
  unfold lowD
  rw [eg, e1, e2]
  split
  · rfl
  · show (decide (2 ≤ d) && decide (Int.gcd n d = 1)) = true
    rw [decide_eq_true e3, decide_eq_true (show 2 ≤ d by omega)]
    rfl
theorem low_bn {a u : Int} {k : Nat} (hu : 0 < u) (h : a.natAbs < 2 ^ k) (h' : u.natAbs < 2 ^ k) : Bn k (lowD a u) := by
  obtain ⟨g, n, d, eg, g0, ea, eu, d0, e1, e2, _⟩ := gcd_facts (a := a) hu
  unfold Bn
  rw [low_num hu, eg, e1, e2]
  have ha : a.natAbs = g.natAbs * n.natAbs := by rw [ea, Int.natAbs_mul]
  have hu' : u.natAbs = g.natAbs * d.natAbs := by rw [eu, Int.natAbs_mul]
  have hg : 1 ≤ g.natAbs := by omega
  have h1 : n.natAbs ≤ g.natAbs * n.natAbs := Nat.le_mul_of_pos_left _ hg
  have h2 : d.natAbs ≤ g.natAbs * d.natAbs := Nat.le_mul_of_pos_left _ hg
  exact ⟨by omega, by omega⟩
theorem low_floor {a u : Int} (p : Int) (hu : 0 < u) : (numI (lowD a u)).1 * p / (numI (lowD a u)).2 = a * p / u := by
  obtain ⟨g, n, d, eg, g0, ea, eu, d0, e1, e2, _⟩ := gcd_facts (a := a) hu
  rw [low_num hu, eg, e1, e2, ea, eu]
  show n * p / d = g * n * p / (g * d)
  rw [Int.mul_assoc g n p, Int.mul_ediv_mul_of_pos _ _ g0]
def sp_lowest_in : DSp := fun xs G R _ => ∃ a u : Int, xs = [.int a, .int u] ∧ 0 < u ∧ u < 2 ^ 8000 ∧ R (lowD a u) G
def sp_times_in : DSp := fun xs G R _ => ∃ x y : D, xs = [x, y] ∧ numD x = true ∧ numD y = true ∧ Bn 4000 x ∧ Bn 4000 y ∧ R (lowD ((numI x).1 * (numI y).1) ((numI x).2 * (numI y).2)) G
def sp_whole_in : DSp := fun xs G R _ => ∃ x : D, xs = [x] ∧ numD x = true ∧ Bn 8000 x ∧ R (.int ((numI x).1 / (numI x).2)) G
theorem abs_lt {x : Int} {k : Nat} (h : x.natAbs < 2 ^ k) : x < 2 ^ k := by
  have h2 : ((x.natAbs : Nat) : Int) < ((2 ^ k : Nat) : Int) := Int.ofNat_lt.mpr h
  have h3 : ((2 ^ k : Nat) : Int) = (2 : Int) ^ k := by norm_cast
  omega
def wholeR : DS := (dSeq (dAsg (dCall sp_halves X0 (dCons (dVar 0) dNil)) (gSeq 2 (gCons (gN 1) (gCons (gN 2) gNil)))) (dRet (dOp (fIntC CDivW fun i j => .int (i / j)) (dVar 1) (dVar 2))))
theorem whole_in_ok (xs : List D) (G : Gm) (R : KD) (RX : XD) (h : sp_whole_in xs G R RX) : wholeR { nx := fun _ G => R .non G, rt := R } (xs.map some ++ List.replicate (3 - xs.length) none) G := by
  obtain ⟨x, rfl, nx, bx, h⟩ := h
  obtain ⟨ex, px⟩ := num_half nx
  refine ds_asg2 (.halves (.var rfl) nx) seq_tup ?_
  rw [ex]
  exact ds_ret (.fdiv (.var rfl) (.var rfl) (div_ok px (abs_lt bx.2))) h
end DL
namespace DL
open PySem PySem.Spec PyProof.Rows L2 Evl
variable [TabC]
theorem num_kn {x : D} (h : numD x = true) : x.kn = true := by
  rcases num_cases h with ⟨i, rfl⟩ | ⟨a, b, hx, _⟩
  · rfl
  · rcases hx with rfl | rfl <;> rfl
theorem nums_kn : ∀ {ds : List D}, (∀ d ∈ ds, numD d = true) → D.knL ds = true
  | [], _ => rfl
  | d :: ds, h => by
    show (d.kn && D.knL ds) = true
    rw [num_kn (h d List.mem_cons_self), nums_kn fun e he => h e (List.mem_cons_of_mem _ he)]
    rfl
theorem Pt.kn {x : D} {ds : List D} (h : Pt x ds) : x.kn = true := by
  rcases h.sh with rfl | rfl
  · exact nums_kn h.nm
  · exact nums_kn h.nm
theorem Pt.seq {x : D} {ds : List D} (h : Pt x ds) : isSeqD x = true := by rcases h.sh with rfl | rfl <;> rfl
def keptD (x : D) : D := match x with
  | .lst xs => .tup xs
  | x => x
theorem kept_num {x : D} : numD (keptD x) = numD x := by cases x <;> rfl
theorem kept_I {x : D} : numI (keptD x) = numI x := by cases x <;> rfl
def sp_kept_number : DSp := fun xs G R _ => ∃ x : D, xs = [x] ∧ x.kn = true ∧ R (keptD x) G
def keptR : DS := (dRet (dIf (dTst (dCall sp_is_list X0 (dCons (dVar 0) dNil))) (dCal fTupOf (dCons (dVar 0) dNil)) (dVar 0)))
theorem kept_number_ok (xs : List D) (G : Gm) (R : KD) (RX : XD) (h : sp_kept_number xs G R RX) : keptR { nx := fun _ G => R .non G, rt := R } (xs.map some ++ List.replicate (1 - xs.length) none) G := by
  obtain ⟨x, rfl, hk, h⟩ := h
  refine ds_ret (x := keptD x) (.chosen (.tst (.isList (.var rfl) hk)) (fun e => ?_) fun e => ?_) h
  · cases x <;> first | cases e | skip
    · exact .tupOf (.var rfl) seq_tup
    · exact .tupOf (.var rfl) seq_lst
  · cases x <;> first | exact .var rfl | cases e
def sp_need_point : DSp := fun xs G R _ => ∃ (x p : D) (ds : List D), xs = [x, .int ds.length, p] ∧ Pt x ds ∧ ds.length ≤ 1000000 ∧ R (.tup (ds.map keptD)) G
def wh (d : D) (p : Int) : Int := (numI d).1 * p / (numI d).2
structure Nms (k : Nat) (ds : List D) : Prop where
  nm : ∀ d ∈ ds, numD d = true
  bn : ∀ d ∈ ds, Bn k d
theorem Nms.kept {k : Nat} {ds : List D} (h : Nms k ds) : Nms k (ds.map keptD) := ⟨fun d hd => by
  obtain ⟨e, he, rfl⟩ := List.mem_map.mp hd
  rw [kept_num]
  exact h.nm e he, fun d hd => by
  obtain ⟨e, he, rfl⟩ := List.mem_map.mp hd
  unfold Bn
  rw [kept_I]
  exact h.bn e he⟩
def tupI (is : List Int) : D := .tup (is.map D.int)
def subL (is js : List Int) : List Int := List.zipWith (fun i j => i - j) is js
def sp_gone : DSp := fun xs G R _ => ∃ is js : List Int, xs = [tupI is, tupI js] ∧ is.length ≤ 1000000 ∧ R (tupI (subL is js)) G
def goneR : DS := (dRet (dCal fTupOf (dCons (dCmp (dIZip (dCons (dVar 0) (dCons (dVar 1) dNil))) (gSeq 2 (gCons (gN 2) (gCons (gN 3) gNil))) dYes (dOp (fInt fun i j => .int (i - j)) (dVar 2) (dVar 3)) [2, 3]) dNil)))
theorem cmpL_mapG {ρ0 : En} {g : DG} {de : DE} {S : List D → Gm → Prop} {G : Gm} (f : D → D) : ∀ {xs acc : List D}, (∀ x ∈ xs, ∀ S' : KD, S' (f x) G → g x ρ0 G fun ρ1 G1 => de ρ1 G1 S') → acc.length + xs.length ≤ sizeLine → S (acc ++ xs.map f) G → cmpL ρ0 g dYes de xs acc G S
  | [], acc, _, _, h => by
    rw [List.map_nil, List.append_nil] at h
    exact h
  | x :: xs, acc, hf, hz, h => by
    rw [List.length_cons] at hz
    refine hf x List.mem_cons_self (fun y G3 => acc.length < sizeLine ∧ cmpL ρ0 g dYes de xs (acc ++ [y]) G3 S) ⟨by omega, cmpL_mapG f (fun y hy => hf y (List.mem_cons_of_mem _ hy)) (by rw [List.length_append, List.length_singleton]; omega) ?_⟩
    rw [List.append_assoc, List.singleton_append]
    exact h
theorem gone_ok (xs : List D) (G : Gm) (R : KD) (RX : XD) (h : sp_gone xs G R RX) : goneR { nx := fun _ G => R .non G, rt := R } (xs.map some ++ List.replicate (4 - xs.length) none) G := by
  obtain ⟨is, js, rfl, hl, h⟩ := h
  refine ds_ret (x := tupI (subL is js)) (.tupOf (xs := (subL is js).map D.int) ?_ seq_lst) h
  intro R2 r
  refine ⟨_, rfl, _, rfl, is.map D.int, js.map D.int, .inr rfl, ?_⟩
  refine cmpL_mapG (fun d => match d with | .tup [.int a, .int b] => .int (a - b) | _ => .non) (fun x hx S' hS => ?_) ?_ ?_
  · obtain ⟨i, hi⟩ := List.getElem?_of_mem hx
    obtain ⟨a, b, ha, hb, rfl⟩ := zip_at hi
    rw [List.getElem?_map] at ha hb
    cases ea : is[i]? with
    | none =>
      rw [ea] at ha
      cases ha
    | some a' =>
      cases eb : js[i]? with
      | none =>
        rw [eb] at hb
        cases hb
      | some b' =>
        rw [ea] at ha
        rw [eb] at hb
        cases ha
        cases hb
        exact ⟨_, seq_tup, rfl, _, _, rfl, _, _, rfl, rfl, (Ev.sub (.var rfl) (.var rfl)) _ hS⟩
  · unfold zipD
    rw [List.length_zipWith, List.length_map, List.length_map, List.length_nil, sizeLine_eq]
    omega
  · have e : ∀ is js : List Int, (zipD (is.map D.int) (js.map D.int)).map (fun d => match d with | .tup [.int a, .int b] => D.int (a - b) | _ => .non) = (subL is js).map D.int := fun is => by
      induction is with
      | nil => intro js; rfl
      | cons i is ih =>
        intro js
        cases js with
        | nil => rfl
        | cons j js => exact congrArg (D.int (i - j) :: ·) (ih js)
    rw [List.nil_append, e]
    exact r
section
variable {ρ : En} {G : Gm} {da db dc : DE} {ds : List D} {p q : Int}
end
section
variable {ρ : En} {G : Gm} {da db dc : DE} {ds : List D} {p first : Int} {n : Nat} {x : D}
end
structure PtN (x : D) (ds : List D) : Prop where
  sh : x = .tup ds ∨ x = .lst ds
  nm : Nms 3000 ds
  l1 : 1 ≤ ds.length
  l2 : ds.length ≤ 2
theorem PtN.pt {x : D} {ds : List D} (h : PtN x ds) : Pt x ds := ⟨h.sh, h.nm.nm⟩
section
variable {ρ : En} {G : Gm} {da db dc : DE} {ds : List D} {p first many : Int} {n : Nat} {x : D}
end
end DL
namespace DL
open PySem PySem.Spec PyProof.Rows L2 Evl
variable [TabC]
theorem while_gcd2 {i j : Nat} (hij : i ≠ j) {da : DE} (hda : ∀ (ρ : En) (G : Gm) (p : Int), ρ[i]? = some (some (.int p)) → Ev da ρ G (.int p)) {E : DEnds} {ρ : En} {G : Gm} {p q : Nat} (h1 : ρ[i]? = some (some (.int p))) (h2 : ρ[j]? = some (some (.int q)))
    (k : ∀ ρ', ρ'[i]? = some (some (.int (Nat.gcd p q))) → (∀ l, l ≠ i → l ≠ j → ρ'[l]? = ρ[l]?) → E.nx ρ' G) : dWhile (dTst (dOp (fInt gGt) (dVar j) (dC (.int 0)))) (dPar i j (dCons (dVar j) (dCons (dOp (fIntC (fun _ j => 0 < j) fun i j => .int (i % j)) da (dVar j)) dNil))) E ρ G := by
  refine ⟨fun m ρ' G' => G' = G ∧ (∃ p' : Nat, ρ'[i]? = some (some (.int p')) ∧ ρ'[j]? = some (some (.int m)) ∧ Nat.gcd p' m = Nat.gcd p q) ∧ ∀ l, l ≠ i → l ≠ j → ρ'[l]? = ρ[l]?, ⟨q, rfl, ⟨p, h1, h2, rfl⟩, fun _ _ _ => rfl⟩, ?_⟩
  rintro m ρ' G' ⟨rfl, ⟨p', r1, r2, e⟩, ho⟩
  have inl : ∀ {l : Nat} {x : Option D}, ρ'[l]? = some x → l < ρ'.length := fun {l x} h => by
    by_cases z : l < ρ'.length
    · exact z
    · rw [List.getElem?_eq_none (by omega)] at h
      cases h
  refine (EvT.tst (.gt (.var r2) .c)) _ ?_
  by_cases h0 : 0 < m
  · rw [if_pos (by simpa using h0)]
    refine ds_par (.var r2) (.mod (hda _ _ _ r1) (.var r2) (by omega)) ?_
    refine ⟨p' % m, Nat.mod_lt _ h0, rfl, ⟨m, ?_, ?_, ?_⟩, fun l l1 l2 => ?_⟩
    · rw [List.getElem?_set_ne (fun z => hij z.symm)]
      exact List.getElem?_set_self (inl r1)
    · rw [List.getElem?_set_self (by rw [List.length_set]; exact inl r2)]
      rfl
    · rw [← e, Nat.gcd_comm p' m, Nat.gcd_rec m p', Nat.gcd_comm]
    · rw [List.getElem?_set_ne (fun z => l2 z.symm), List.getElem?_set_ne (fun z => l1 z.symm), ho l l1 l2]
  · rw [if_neg (by simpa using h0)]
    have m0 : m = 0 := by omega
    subst m0
    refine k ρ' ?_ ho
    rw [← e, Nat.gcd_zero_right]
    exact r1
def Rat0 (k : Nat) (x : D) : Prop := ∃ a u : Int, x = lowD a u ∧ 0 < u ∧ a.natAbs < 2 ^ k ∧ u.natAbs < 2 ^ k
theorem Rat0.num {k : Nat} {x : D} : Rat0 k x → numD x = true := fun ⟨a, u, e, hu, _⟩ => by
  rw [e]
  exact low_isnum hu
theorem Rat0.bn {k : Nat} {x : D} : Rat0 k x → Bn k x := fun ⟨a, u, e, hu, h, h'⟩ => by
  rw [e]
  exact low_bn hu h h'
theorem Rat0.kn {k : Nat} {x : D} (h : Rat0 k x) : x.kn = true := num_kn h.num
section
variable {ρ : En} {a : Addr} {j k : Nat} {da db : DE} {dA : DA} {P P2 P3 : D → Prop} {PL : List D → Prop}
end
theorem Ev.rev {ρ : En} {G : Gm} {da : DE} {x : D} {ds : List D} (ha : Ev da ρ G x) (h : LstAt G x ds) : Ev (dRev da) ρ G (.lst ds.reverse) := fun R r => ha _ ⟨ds, h, r⟩
end DL
namespace MZ
open PySem PySem.Spec PyProof.Rows L2
open PySem.Sem (wp)
theorem ItB.to {t : Bool} {h h2 : Heap} {i p : Addr} {k : Nat} (x : ItB t h i p k) (e : ∀ o, h.get? i = some o → h2.get? i = some o) : ItB t h2 i p k := by
  cases t with
  | true => exact Heap.IsTupleIter.at x e
  | false => exact Heap.IsListIter.at x e
section
variable {prog : Program} {w : World} {A : Around} {E : Value → Shared → Prop} {s : Shared}
end
section
variable {prog : Program} {w : World} {A : Around} {E : Value → Shared → Prop} {s : Shared}
end
def SqK (K : PySem.W.Frag) (t : Bool) (H : Hp) (a : Addr) (xs : List V) : Prop := if t = true then SqT K H a xs else SqL K H a xs
section
variable {X : Cx} {pins : List (Addr × Obj)} {σ : L2.St} {H : Hp} {s : Shared}
end
end MZ
namespace DL
open PySem PySem.Spec PyProof.Rows L2 Evl
variable [TabC]
end DL
namespace DL
open PySem PySem.Spec PyProof.Rows L2 Evl
variable [TabC]
end DL
namespace DL
open PySem PySem.Spec PyProof.Rows L2 Evl
variable [TabC]
theorem AllR.right {P : D → D → Prop} {Q : D → Prop} (hp : ∀ x y, P x y → Q y) : ∀ {xs ys : List D}, AllR P xs ys → ∀ y ∈ ys, Q y
  | [], [], _, y, hy => nomatch hy
  | x :: xs, z :: ys, h, y, hy => by
    rcases List.mem_cons.mp hy with e | e
    · rw [e]
      exact hp x z h.1
    · exact AllR.right hp h.2 y e
  | [], _ :: _, h, _, _ => h.elim
  | _ :: _, [], h, _, _ => h.elim
theorem cmpL_drw {ρ0 : En} {i k : Nat} {a : Addr} {de : DE} {S : List D → Gm → Prop} (P : D → D → Prop) : ∀ {xs acc : List D} {G : Gm} {T : Nat}, (∀ x ∈ xs, Drw de (ρ0.set i (some x)) a k (P x)) → GauAt G a T → T + xs.length * k ≤ 1000000000 → acc.length + xs.length ≤ sizeLine →
    (∀ ys m, AllR P xs ys → Gau m (T + xs.length * k) → S (acc ++ ys) (gup G a m)) → cmpL ρ0 (gN i) dYes de xs acc G S
  | [], acc, G, T, _, ⟨m, hg, hm⟩, _, _, h => by
    have := h [] m trivial (by rw [List.length_nil, Nat.zero_mul]; exact hm)
    rw [List.append_nil, gup_self hg] at this
    exact this
  | x :: xs, acc, G, T, hd, hg, ht, hz, h => by
    rw [List.length_cons] at ht hz
    have e : (xs.length + 1) * k = xs.length * k + k := Nat.succ_mul _ _
    refine hd x List.mem_cons_self G T (fun y G3 => acc.length < sizeLine ∧ cmpL ρ0 (gN i) dYes de xs (acc ++ [y]) G3 S) hg (by omega) fun y m hy hm => ⟨by omega, ?_⟩
    refine cmpL_drw P (T := T + k) (fun z hz => hd z (List.mem_cons_of_mem _ hz)) (gau_gup hm) (by omega) (by rw [List.length_append, List.length_singleton]; omega) fun ys m2 hys hm2 => ?_
    rw [gup_gup, List.append_assoc, List.singleton_append]
    exact h (y :: ys) m2 ⟨hy, hys⟩ (by rw [List.length_cons, e]; exact hm2.mono (by omega))
section
variable {ρ : En} {G : Gm} {a : Addr} {j k : Nat} {da db dc : DE} {P : D → Prop}
theorem Drw.lcSeq {i : Nat} {vs : List Nat} {xs : List D} {x : D} (P : D → D → Prop) (ha : ∀ G, Ev da ρ G x) (hx : x = .lst xs ∨ x = .tup xs) (hd : ∀ y ∈ xs, Drw db ((wipeD ρ vs).set i (some y)) a k (P y)) (hz : xs.length ≤ sizeLine) :
    Drw (dCmp (dISeq da) (gN i) dYes db vs) ρ a (xs.length * k) (fun z => ∃ ys, z = .lst ys ∧ AllR P xs ys) := fun G T R hg ht r =>
  ha G _ ⟨xs, hx, cmpL_drw P hd hg ht (by rw [List.length_nil]; omega) fun ys m hys hm => r _ m ⟨ys, rfl, hys⟩ hm⟩
theorem Drw.lcRng {i : Nat} {vs : List Nat} {lo N : Nat} (ha : Drw da ρ a j (fun x => ∃ n : Nat, x = .int n ∧ lo ≤ n ∧ n ≤ N)) (hd : ∀ y, Drw db ((wipeD ρ vs).set i (some y)) a k P) (hz : N ≤ 1000000) :
    Drw (dCmp (dIRng1 da) (gN i) dYes db vs) ρ a (j + N * k) (fun z => ∃ ys, z = .lst ys ∧ lo ≤ ys.length ∧ ys.length ≤ N ∧ ∀ y ∈ ys, P y) := fun G T R hg ht r => by
  refine ha G T _ hg (by omega) fun x m ⟨n, e, l1, l2⟩ hm => ?_
  subst e
  have hl : (rngD 0 (n : Int).toNat).length = n := by
    unfold rngD
    rw [List.length_map, List.length_range]
    rfl
  have hnk : n * k ≤ N * k := Nat.mul_le_mul_right _ l2
  refine ⟨n, rfl, by omega, by omega, ?_⟩
  refine cmpL_drw (k := k) (fun _ => P) (fun x _ => hd x) (gau_gup hm) (by rw [hl]; omega) (by rw [hl, List.length_nil, sizeLine_eq]; omega) fun ys m2 hys hm2 => ?_
  rw [gup_gup]
  have h2 := hys.len
  rw [hl] at h2 hm2
  exact r _ m2 ⟨ys, rfl, by omega, by omega, AllR.right (P := fun _ => P) (fun _ _ h => h) hys⟩ (hm2.mono (by omega))
theorem Drw.ifT {PB : Bool → Prop} (ht : Drw da ρ a j (fun x => ∃ b, x = .bl b ∧ PB b)) (h1 : ∀ b, PB b → if b = true then Drw db ρ a k P else Drw dc ρ a k P) : Drw (dIf (dTst da) db dc) ρ a (j + k) P := fun G T R hg htt r =>
  ht G T _ hg (by omega) fun x m ⟨b, e, hb⟩ hm => by
    subst e
    refine ⟨b, rfl, ?_⟩
    have h := h1 b hb
    cases b with
    | true =>
      refine h _ (T + j) _ (gau_gup hm) (by omega) fun x2 m2 p2 hm2 => ?_
      rw [gup_gup]
      exact r x2 m2 p2 (hm2.mono (by omega))
    | false =>
      refine h _ (T + j) _ (gau_gup hm) (by omega) fun x2 m2 p2 hm2 => ?_
      rw [gup_gup]
      exact r x2 m2 p2 (hm2.mono (by omega))
theorem Ev.chain {i u l : Int} (ha : Ev da ρ G (.int i)) (hb : Ev db ρ G (.int u)) (hc : Ev dc ρ G (.int l)) : Ev (dChain (fInt gLe) (fInt gLe) da db dc) ρ G (.bl (decide (i ≤ u) && decide (u ≤ l))) := fun R r => ha _ (hb _ ⟨decide (i ≤ u), ⟨i, u, rfl, rfl, rfl⟩, by
  split
  · rename_i h
    rw [h, Bool.true_and] at r
    exact hc _ ⟨_, ⟨u, l, rfl, rfl, rfl⟩, r⟩
  · rename_i h
    rw [Bool.eq_false_iff.mpr h, Bool.false_and] at r
    exact r⟩)
end
end DL
namespace DL
open PySem PySem.Spec PyProof.Rows L2 Evl
variable [TabC]
end DL
namespace MZ
open PySem PySem.Spec PyProof.Rows L2
open PySem.Sem (wp)
section
variable {prog : Program} {w : World} {A : Around} {E : Value → Shared → Prop} {s : Shared}
end
section
variable {prog : Program} {w : World} {A : Around} {E : Value → Shared → Prop} {s : Shared}
end
def ItE (K : PySem.W.Frag) (t : Bool) (a : Addr) : It :=
  ⟨fun i H => ∃ (xs : List V) (x : V), SqK K t H a xs ∧ xs[i]? = some x, fun i H v H2 => ∃ T x, v = .ref T ∧ H T = none ∧ H2 = upd H T (.tup [.int (i : Nat), x]) ∧ ∀ xs, SqK K t H a xs → xs[i]? = some x, fun i H => ∃ xs : List V, SqK K t H a xs ∧ xs.length ≤ i⟩
def iEnumT (K : PySem.W.Frag) (ta : TA) : TI := fun σ H R => ta σ H fun vs H1 => ∃ a xs, vs = [.ref a] ∧ SqT K H1 a xs ∧ R (ItE K true a) H1
end MZ
namespace DL
open PySem PySem.Spec PyProof.Rows L2 Evl
variable [TabC]
def enumD (xs : List D) : List D := xs.zipIdx.map fun p => .tup [.int (p.2 : Nat), p.1]
def dIEnumerate (dA : DA) : DI := fun ρ G S => dA ρ G fun vs G1 => ∃ xs, (vs = [.lst xs] ∨ vs = [.tup xs]) ∧ S (enumD xs) G1
def ltN (x y : D) : Bool := decide ((numI x).1 * (numI y).2 < (numI y).1 * (numI x).2)
def sp_below : DSp := fun xs G R _ => ∃ x y : D, xs = [x, y] ∧ numD x = true ∧ numD y = true ∧ Bn 4000 x ∧ Bn 4000 y ∧ R (.bl (ltN x y)) G
def belowR : DS := (dSeq (dAsg (dTup (dCons (dCall sp_halves X0 (dCons (dVar 0) dNil)) (dCons (dCall sp_halves X0 (dCons (dVar 1) dNil)) dNil))) (gSeq 2 (gCons (gSeq 2 (gCons (gN 2) (gCons (gN 3) gNil))) (gCons (gSeq 2 (gCons (gN 4) (gCons (gN 5) gNil))) gNil)))) (dRet (dOp (fInt gLt) (dOp (fIntC IntMulOk fun i j => .int (i * j)) (dVar 2) (dVar 5)) (dOp (fIntC IntMulOk fun i j => .int (i * j)) (dVar 4) (dVar 3)))))
theorem below_ok (xs : List D) (G : Gm) (R : KD) (RX : XD) (h : sp_below xs G R RX) : belowR { nx := fun _ G => R .non G, rt := R } (xs.map some ++ List.replicate (6 - xs.length) none) G := by
  obtain ⟨x, y, rfl, nx, ny, bx, by_, h⟩ := h
  obtain ⟨ex, px⟩ := num_half nx
  obtain ⟨ey, py⟩ := num_half ny
  refine ds_asg (.tup (.cons (.halves (.var rfl) nx) (.one (.halves (.var rfl) ny))) (show 2 ≤ sizeLine by decide)) ?_
  rw [ex, ey]
  refine ⟨_, seq_tup, rfl, _, _, rfl, ⟨_, seq_tup, rfl, _, _, rfl, _, _, rfl, rfl, ?_⟩⟩
  refine ⟨_, _, rfl, ⟨_, seq_tup, rfl, _, _, rfl, _, _, rfl, rfl, ?_⟩⟩
  refine ⟨rfl, ?_⟩
  exact ds_ret (.lt (.mul (.var rfl) (.var rfl) (mul_both bx.1 by_.2 (by decide))) (.mul (.var rfl) (.var rfl) (mul_both by_.1 bx.2 (by decide)))) h
theorem Ev.below {ρ : En} {G : Gm} {da db : DE} {x y : D} (h : Ev da ρ G x) (h' : Ev db ρ G y) (nx : numD x = true) (ny : numD y = true) (bx : Bn 4000 x) (by_ : Bn 4000 y) : Ev (dCall sp_below X0 (dCons da (dCons db dNil))) ρ G (.bl (ltN x y)) := .call (.cons h (.one h')) fun R r => ⟨x, y, rfl, nx, ny, bx, by_, r⟩
end DL
namespace DL
open PySem PySem.Spec PyProof.Rows L2 Evl
variable [TabC]
end DL
namespace DL
open PySem PySem.Spec PyProof.Rows L2 Evl
variable [TabC]
def Cn (x : D) : Prop := (∃ i, x = .int i) ∨ ∃ a b : Int, x = .tup [.int a, .int b] ∧ 2 ≤ b ∧ Int.gcd a b = 1
theorem Cn.num {x : D} (h : Cn x) : numD x = true := by
  rcases h with ⟨i, rfl⟩ | ⟨a, b, rfl, h2, h3⟩
  · rfl
  · show (decide (2 ≤ b) && decide (Int.gcd a b = 1)) = true
    rw [decide_eq_true h2, decide_eq_true h3]
    rfl
theorem Cn.eq {x y : D} (h : Cn x) (h' : Cn y) (e : numI x = numI y) : x = y := by
  rcases h with ⟨i, rfl⟩ | ⟨a, b, rfl, h2, h3⟩ <;> rcases h' with ⟨j, rfl⟩ | ⟨c, d, rfl, k2, k3⟩
  · have : i = j := congrArg Prod.fst e
    rw [this]
  · have : (1 : Int) = d := congrArg Prod.snd e
    omega
  · have : b = (1 : Int) := congrArg Prod.snd e
    omega
  · have e1 : a = c := congrArg Prod.fst e
    have e2 : b = d := congrArg Prod.snd e
    rw [e1, e2]
end DL
namespace DL
open PySem PySem.Spec PyProof.Rows L2 Evl
variable [TabC]
end DL
namespace DL
open PySem PySem.Spec PyProof.Rows L2 Evl
variable [TabC]
def dApp (dobj de : DE) : DE := fun ρ G R => dobj ρ G fun o G1 => ∃ q, o = .ref q ∧ (∃ ds, G1 q = some (.lst ds)) ∧ dCons de dNil ρ G1 fun xs G2 => ∃ x, xs = [x] ∧ ∃ ds, G2 q = some (.lst ds) ∧ ds.length < sizeLine ∧ R .non (gup G2 q (.lst (ds ++ [x])))
section
variable {X : Cx} {B : Bs} {o e : Expr} {dobj de : DE} {pos p : Pos}
end
end DL
namespace MZ
open PySem PySem.Spec PyProof.Rows L2
theorem meetsCat (l : Addr) (us : Array Value) (n : Nat) (b : Addr) (vs : Array Value) (m : Nat) (sl sl2 : Array (Option Value)) (hz : us.size + vs.size ≤ sizeLine) : Meets (Builtin.«list.__add__» ⟨[.ref l, .ref b], []⟩) (fun _ R s =>
    s.heap.get? l = some { cls := .type "list", dict := none, data := .seq us n, slots := sl } ∧ s.heap.get? b = some { cls := .type "list", dict := none, data := .seq vs m, slots := sl2 } ∧ R (.ok (.ret (Value.ref s.heap.objs.size))) { s with heap := s.heap.push { cls := Value.type "list", data := Data.seq (us ++ vs) }, toks := s.toks }) :=
  .of_wp fun prog w A R s h => by
    obtain ⟨hp, g, d, tk, os⟩ := s
    obtain ⟨c1, c2, h⟩ := h
    have f1 := AutoSeq1.idx_int
    have f2 := AutoSeq1.sub_tuple_tuple
    have f3 := AutoSeq1.sub_list_list
    have f4 := AutoSeq1.sub_tuple_list
    have f5 := AutoSeq1.sub_list_tuple
    wp_walk using AutoSeq1.wpAny_loadPart' c1, AutoSeq1.wpAny_loadPart' c2
    exact ⟨_, rfl, h⟩
end MZ
namespace DL
open PySem PySem.Spec PyProof.Rows L2 Evl
variable [TabC]
def rCatL (K : PySem.W.Frag) : R2 := fun x y H Q => ∃ a b xs ys, x = .ref a ∧ y = .ref b ∧ SqL K H a xs ∧ SqL K H b ys ∧ xs.length + ys.length ≤ sizeLine ∧ ∀ p, H p = none → Q (.ref p) (upd H p (.lst (xs ++ ys)))
theorem op_catL {X : Cx} : OpR X (binaryOp .Add) (rCatL X.K) := by
  intro pins s σ H x y v u Q I rx ry h
  obtain ⟨a, b, xs, ys, rfl, rfl, ha, hb, hz, q⟩ := h
  cases rx
  cases ry
  obtain ⟨its, r1, ⟨⟨c1, d1, da1, sl1⟩, n1, e1, ec1, ed1, es1⟩, _⟩ := I.list ha
  obtain ⟨its2, r2, ⟨⟨c2, d2, da2, sl2⟩, n2, e2, ec2, ed2, es2⟩, _⟩ := I.list hb
  simp only at ec1 ed1 es1 ec2 ed2 es2
  subst ec1 ed1 es1 ec2 ed2 es2
  have l1 := r1.length
  have l2 := r2.length
  refine concat_meets ⟨_, e1, rfl⟩ ⟨_, e2, rfl⟩ noFill_list_add seq_list_add F.slot_list_add F.entry_list_add (F.args_list_add_2 _ _) (MZ.meetsCat a its.toArray n1 b its2.toArray n2 sl1 sl2 (by rw [List.size_toArray, List.size_toArray]; omega)) ⟨e1, e2, ?_⟩
  have ea : its.toArray ++ its2.toArray = (its ++ its2).toArray := by simp
  rw [ea]
  exact ⟨.ref _, _, I.lnew (t' := s.toks) (r1.append r2) (by rw [List.length_append]; omega), rfl, q _ I.fresh⟩
def fAddL (x y z : D) : Prop := ∃ xs ys, x = .lst xs ∧ y = .lst ys ∧ xs.length + ys.length ≤ sizeLine ∧ z = .lst (xs ++ ys)
theorem od_addL {K : PySem.W.Frag} : OpD K (rCatL K) fAddL := fun F Hd H G v u x y z Q s rv ru ⟨xs, ys, ex, ey, hz, ez⟩ k => by
  subst ex ey ez
  cases rv with
  | lst q r =>
    cases ru with
    | lst q' r' => exact ⟨_, _, _, _, rfl, rfl, ex_l s.sub q, ex_l s.sub q', by rw [r.length, r'.length]; exact hz, fun p hp => k _ _ _ (s.exn hp) (s.new hp) (.lst sq_new ((r.app r').mono (s.exn hp)))⟩
theorem pd_addL {X : Cx} {B : Bs} {pos : Pos} {a b : Expr} {da db : DE} (ha : PE X a (upE X.K B da)) (hb : PE X b (upE X.K B db)) : PE X (.BinOp a .Add b pos) (upE X.K B (dOp fAddL da db)) := pd_op op_catL od_addL ha hb
end DL
namespace DL
open PySem PySem.Spec PyProof.Rows L2 Evl
variable [TabC]
section
variable {X : Cx} {B : Bs} {pos pp : Pos} {a : Expr} {da : DE} {j : Nat}
theorem ptd_isN (ha : PE X a (upE X.K B da)) : PT X (.Compare a [.Is] [.Constant .none j pp] pos) (upT X.K B (dTst (dIsN da))) := pt_imp (pt_cmp (pc_isN ha) rfl) fun σ H Q h => isn_imp σ H _ (tst_imp σ H Q h)
theorem ptd_notN (ha : PE X a (upE X.K B da)) : PT X (.Compare a [.IsNot] [.Constant .none j pp] pos) (upT X.K B (dTst (dNotN da))) := pt_imp (pt_cmp (pc_notN ha) rfl) fun σ H Q h => notn_imp σ H _ (tst_imp σ H Q h)
end
end DL
namespace DL
open PySem PySem.Spec PyProof.Rows L2 Evl
variable [TabC]
end DL
namespace DL
open PySem PySem.Spec PyProof.Rows L2 Evl
variable [TabC]
mutual
/-- data of which == tells just whether they are the same -/
def D.pln : D → Bool
  | .non => true
  | .int _ => true
  | .str _ => true
  | .tup xs => D.plnL xs
  | .lst xs => D.plnL xs
  | _ => false
def D.plnL : List D → Bool
  | [] => true
  | x :: xs => D.pln x && D.plnL xs
end
mutual
theorem eqv_pln : ∀ (x y : D) (p q : PyData), x.pln = true → y.pln = true → x.py = some p → y.py = some q → (PyData.eqv p q = true ↔ x = y)
  | .non, y, p, q, _, hy, hp, hq => by
    cases y <;> first | (cases hy; done) | (cases hp; cases hq; simp [PyData.eqv]; done) | (cases hp; simp only [D.py, Option.map_eq_some_iff] at hq; obtain ⟨_, _, rfl⟩ := hq; simp [PyData.eqv])
  | .int i, y, p, q, _, hy, hp, hq => by
    cases y <;> first | (cases hy; done) | (cases hp; cases hq; simp [PyData.eqv]; done) | (cases hp; simp only [D.py, Option.map_eq_some_iff] at hq; obtain ⟨_, _, rfl⟩ := hq; simp [PyData.eqv])
  | .str i, y, p, q, _, hy, hp, hq => by
    cases y <;> first | (cases hy; done) | (cases hp; cases hq; simp [PyData.eqv]; done) | (cases hp; simp only [D.py, Option.map_eq_some_iff] at hq; obtain ⟨_, _, rfl⟩ := hq; simp [PyData.eqv])
  | .tup xs, y, p, q, hx, hy, hp, hq => by
    simp only [D.py, Option.map_eq_some_iff] at hp
    obtain ⟨ps, hps, rfl⟩ := hp
    cases y with
    | tup ys =>
      simp only [D.py, Option.map_eq_some_iff] at hq
      obtain ⟨qs, hqs, rfl⟩ := hq
      have := eqv_plnL xs ys ps qs hx hy hps hqs
      simp only [PyData.eqv, this, D.tup.injEq]
    | lst ys =>
      simp only [D.py, Option.map_eq_some_iff] at hq
      obtain ⟨qs, hqs, rfl⟩ := hq
      simp [PyData.eqv]
    | _ => first | (cases hy; done) | (cases hq; simp [PyData.eqv])
  | .lst xs, y, p, q, hx, hy, hp, hq => by
    simp only [D.py, Option.map_eq_some_iff] at hp
    obtain ⟨ps, hps, rfl⟩ := hp
    cases y with
    | lst ys =>
      simp only [D.py, Option.map_eq_some_iff] at hq
      obtain ⟨qs, hqs, rfl⟩ := hq
      have := eqv_plnL xs ys ps qs hx hy hps hqs
      simp only [PyData.eqv, this, D.lst.injEq]
    | tup ys =>
      simp only [D.py, Option.map_eq_some_iff] at hq
      obtain ⟨qs, hqs, rfl⟩ := hq
      simp [PyData.eqv]
    | _ => first | (cases hy; done) | (cases hq; simp [PyData.eqv])
  | .bl _, _, _, _, hx, _, _, _ => by cases hx
  | .ty _, _, _, _, hx, _, _, _ => by cases hx
  | .ref _, _, _, _, hx, _, _, _ => by cases hx
  | .dct _ _, _, _, _, hx, _, _, _ => by cases hx
  | .ins _ _ _, _, _, _, hx, _, _, _ => by cases hx
  | .exc _ _ _, _, _, _, hx, _, _, _ => by cases hx
  | .fnc _, _, _, _, hx, _, _, _ => by cases hx
theorem eqv_plnL : ∀ (xs ys : List D) (ps qs : List PyData), D.plnL xs = true → D.plnL ys = true → D.pyL xs = some ps → D.pyL ys = some qs → (PyData.eqvAll ps qs = true ↔ xs = ys)
  | [], [], ps, qs, _, _, hp, hq => by
    cases hp
    cases hq
    simp [PyData.eqvAll]
  | [], y :: ys, ps, qs, _, hy, hp, hq => by
    cases hp
    cases h : D.py y with
    | none => simp only [D.pyL, h] at hq; cases hq
    | some u =>
      cases h2 : D.pyL ys with
      | none => simp only [D.pyL, h, h2] at hq; cases hq
      | some us =>
        simp only [D.pyL, h, h2, Option.some.injEq] at hq
        subst hq
        simp [PyData.eqvAll]
  | x :: xs, [], ps, qs, _, hy, hp, hq => by
    cases hq
    cases h : D.py x with
    | none => simp only [D.pyL, h] at hp; cases hp
    | some u =>
      cases h2 : D.pyL xs with
      | none => simp only [D.pyL, h, h2] at hp; cases hp
      | some us =>
        simp only [D.pyL, h, h2, Option.some.injEq] at hp
        subst hp
        simp [PyData.eqvAll]
  | x :: xs, y :: ys, ps, qs, hx, hy, hp, hq => by
    have hx2 : (x.pln && D.plnL xs) = true := hx
    have hy2 : (y.pln && D.plnL ys) = true := hy
    rw [Bool.and_eq_true] at hx2 hy2
    cases h : D.py x with
    | none => simp only [D.pyL, h] at hp; cases hp
    | some u =>
      cases h2 : D.pyL xs with
      | none => simp only [D.pyL, h, h2] at hp; cases hp
      | some us =>
        cases h3 : D.py y with
        | none => simp only [D.pyL, h3] at hq; cases hq
        | some v =>
          cases h4 : D.pyL ys with
          | none => simp only [D.pyL, h3, h4] at hq; cases hq
          | some vs =>
            simp only [D.pyL, h, h2, Option.some.injEq] at hp
            simp only [D.pyL, h3, h4, Option.some.injEq] at hq
            subst hp hq
            have e1 := eqv_pln x y u v hx2.1 hy2.1 h h3
            have e2 := eqv_plnL xs ys us vs hx2.2 hy2.2 h2 h4
            simp only [PyData.eqvAll, Bool.and_eq_true, e1, e2, List.cons.injEq]
end
mutual
theorem py_pln : ∀ x : D, x.pln = true → ∃ p, x.py = some p
  | .non, _ => ⟨_, rfl⟩
  | .int _, _ => ⟨_, rfl⟩
  | .str _, _ => ⟨_, rfl⟩
  | .tup xs, h => by
    obtain ⟨ps, e⟩ := py_plnL xs h
    exact ⟨.tuple ps, by simp only [D.py, e, Option.map_some]⟩
  | .lst xs, h => by
    obtain ⟨ps, e⟩ := py_plnL xs h
    exact ⟨.list ps, by simp only [D.py, e, Option.map_some]⟩
  | .bl _, h => by cases h
  | .ty _, h => by cases h
  | .ref _, h => by cases h
  | .dct _ _, h => by cases h
  | .ins _ _ _, h => by cases h
  | .exc _ _ _, h => by cases h
  | .fnc _, h => by cases h
theorem py_plnL : ∀ xs : List D, D.plnL xs = true → ∃ ps, D.pyL xs = some ps
  | [], _ => ⟨[], rfl⟩
  | x :: xs, h => by
    have h2 : (x.pln && D.plnL xs) = true := h
    rw [Bool.and_eq_true] at h2
    obtain ⟨p, e⟩ := py_pln x h2.1
    obtain ⟨ps, es⟩ := py_plnL xs h2.2
    exact ⟨p :: ps, by simp only [D.pyL, e, es]⟩
end
theorem eqv_iff {x y : D} (hx : x.pln = true) (hy : y.pln = true) : D.eqv x y = true ↔ x = y := by
  obtain ⟨p, hp⟩ := py_pln x hx
  obtain ⟨q, hq⟩ := py_pln y hy
  rw [eqv_of hp hq]
  exact eqv_pln x y p q hx hy hp hq
theorem eqv_dec {x y : D} (hx : x.pln = true) (hy : y.pln = true) {k : Prop} [Decidable k] (h : x = y ↔ k) : D.eqv x y = decide k := by
  by_cases z : k
  · rw [decide_eq_true z]
    exact (eqv_iff hx hy).mpr (h.mpr z)
  · rw [decide_eq_false z]
    exact Bool.eq_false_iff.mpr fun e => z (h.mp ((eqv_iff hx hy).mp e))
theorem Sm.rep {d s : Nat} {x : D} (h : Sm d s x) (h1 : d ≤ 60 := by decide) (h2 : s ≤ 27000 := by decide) : RepOk x := .inl ⟨h.fit, Nat.le_trans h.dp h1, Nat.le_trans h.sz h2⟩
theorem Sm.two {d s : Nat} {x y : D} (h : Sm d s x) (h' : Sm d s y) : Sm (d + 1) (2 * s + 1) (.lst [x, y]) := Sm.lst fun z hz => by
  rcases List.mem_cons.mp hz with e | e
  · rw [e]; exact h
  · rw [List.mem_singleton.mp e]; exact h'
theorem fit_lay {x : D} (h : x.fit = true) : x.lay = true := go x h
where
  go : ∀ x : D, x.fit = true → x.lay = true
  | .non, _ => rfl
  | .bl _, _ => rfl
  | .int _, _ => rfl
  | .str _, h => h
  | .tup xs, h => goL xs h
  | .lst xs, h => goL xs h
  | .ty _, h => by cases h
  | .ref _, h => by cases h
  | .dct _ _, h => by cases h
  | .ins _ _ _, h => by cases h
  | .exc _ _ _, h => by cases h
  | .fnc _, h => by cases h
  goL : ∀ xs : List D, D.fitL xs = true → D.layL xs = true
  | [], _ => rfl
  | x :: xs, h => by
    have h2 : (x.fit && D.fitL xs) = true := h
    rw [Bool.and_eq_true] at h2
    show (x.lay && D.layL xs) = true
    rw [go x h2.1, goL xs h2.2]
    rfl
theorem Sm.cmp {d s : Nat} {x : D} (h : Sm d s x) (h1 : d ≤ 60 := by decide) : Cmp x := ⟨fit_lay h.fit, Nat.le_trans h.dp h1⟩
section
variable {ρ : En} {G : Gm} {da db dc : DE} {dA : DA} {x y z : D} {xs : List D} {ta tb : DT} {j k : Bool}
theorem Ev.slL {i : Int} (ha : Ev da ρ G (.lst xs)) (hb : Ev db ρ G (.int i)) : Ev (dSl da dNoP (dPart db)) ρ G (.lst (cutD xs none (some i))) := fun R r => ha _ (hb _ ⟨i, rfl, _, .inl ⟨xs, lst_lst, rfl⟩, r⟩)
end
end DL
namespace DL
open PySem PySem.Spec PyProof.Rows L2 Evl
variable [TabC]
section
variable {i j : Int} {a b : Nat}
theorem mul_bd [x : Bd i a] [y : Bd j b] (h : a + b ≤ 134217728 := by first | decide | decide +kernel | omega) : IntMulOk i j := mul_both x.h y.h h
theorem div_bd [x : Bd j b] (p : 0 < j) (h : b ≤ 8000 := by first | decide | decide +kernel | omega) : CDivW i j := div_ok (by omega) (Int.lt_of_lt_of_le (abs_lt x.h) (by
  have : (2 : Int) ^ b ≤ 2 ^ 8000 := by
    have z : (2 : Nat) ^ b ≤ 2 ^ 8000 := Nat.pow_le_pow_right (by decide) h
    exact_mod_cast z
  exact this))
theorem pow_bd [x : Bd i a] (h0 : 0 ≤ j) (h : (a : Int) * j ≤ 2 ^ 27) : CPw i j := pow_ok x.h h0 h
theorem Bd.le [x : Bd i a] {k : Nat} (h : a ≤ k := by first | decide | decide +kernel | omega) : i.natAbs < 2 ^ k := Nat.lt_of_lt_of_le x.h (Nat.pow_le_pow_right (by decide) h)
end
end DL
namespace Sup
open PySem PySem.Spec PySem.Calls PyProof.Rows L2 PySem.W
structure ScopeS (N ps : List Str) (sc : Scope) : Prop where
  kind : sc.kind = .function
  co : sc.isCoroutine = false
  gen : sc.isGenerator = false
  nd : N.Nodup
  pre : N.take ps.length = ps
  par : ∀ x ∈ ps, sc.names.lookup x = some .local
  nocell : ∀ y ∈ sc.names, y.2 ≠ .cell
  one : ∀ y ∈ sc.names, y.2 = .free → y.1 = "__class__"
  sup : sc.names.lookup ("super" : Str) = some .globalImplicit
  own : sc.names.lookup ("__class__" : Str) = some .free
def cxS (CX : CXT) (P : Program) (w : World) (K : PySem.W.Frag) (mg : Str → Option Value) (base : Heap) (N : List Str) (qual : Str) (scope : Scope) (f : Addr) (cd : Value) (cc : Addr) (A : Around) (outer : List Env) (s : Shared) (H : Hp) (E : XK) : Cx where
  prog := P
  w := w
  K := K
  mg := mg
  base := base
  A := A.deeper (ksEnv qual scope s.heap.objs.size f cd cc)
  N := N
  s_0 := s
  H_0 := H
  env := ksEnv qual scope s.heap.objs.size f cd cc
  outer := outer
  stack := ksEnv qual scope s.heap.objs.size f cd cc :: outer
  ex := []
  calm := true
  fn := fun _ => false
  pn := []
  xe := fun e s' => wpAny (model P w) (A.deeper (ksEnv qual scope s.heap.objs.size f cd cc)) (leaving (ksEnv qual scope s.heap.objs.size f cd cc) e) (fun _ s'' => CX outer H s E e s'') (fun e' s'' => CX outer H s E e' s'') s'
theorem look_nd {y : Str} {u : Value} : ∀ {l : List (Str × Value)}, (l.map (·.1)).Nodup → (y, u) ∈ l → l.lookup y = some u
  | [], _, h => nomatch h
  | (z, v) :: l, nd, h => by
    rw [List.map_cons, List.nodup_cons] at nd
    rcases List.mem_cons.mp h with e | e
    · cases e
      simp [List.lookup]
    · have ne : y ≠ z := fun q => nd.1 (by rw [← q]; exact List.mem_map.mpr ⟨_, e, rfl⟩)
      have ne2 : (y == z) = false := by simpa using ne
      rw [List.lookup_cons, ne2]
      exact look_nd nd.2 e
theorem look_zip {ps : List Str} {us : List Value} {i : Nat} {y : Str} {u : Value} (nd : ps.Nodup) (hl : us.length = ps.length) (hp : ps[i]? = some y) (hu : us[i]? = some u) : (ps.zip us).reverse.lookup y = some u := by
  refine look_nd ?_ ?_
  · rw [List.map_reverse, List.map_fst_zip (by omega)]
    exact (List.reverse_perm _).nodup_iff.mpr nd
  · rw [List.mem_reverse]
    refine List.mem_of_getElem? (i := i) ?_
    rw [List.getElem?_zip_eq_some]
    exact ⟨hp, hu⟩
section
variable {CX : CXT} {P : Program} {w : World} {K : PySem.W.Frag} {mg : Str → Option Value} {base : Heap} {N ps : List Str} {qual : Str} {scope : Scope} {f cc : Addr} {cd : Value} {A : Around} {outer : List Env} {s : Shared} {H : Hp} {E : XK} {us : List Value} {vs : List V}
theorem inv_startS {h₀ : Heap} {tk : Nat} {oc : Obj} {D : Value} (S : ScopeS N ps scope) (hd : A.handled = none) (e0 : Env0 P w K mg base A outer s H) (hl : vs.length = ps.length) (r : Vals vs us) (hcc : K.lookup cc = some oc) (hcd : oc.data = .cell (some D))
    (hns : h₀.Ns s.heap.objs.size fun x => (ps.zip us).reverse.lookup x) (kp : ∀ b o, s.heap.get? b = some o → h₀.get? b = some o) :
    Inv (cxS CX P w K mg base N qual scope f cd cc A outer s H E) [] (L2.start N vs) H { s with heap := h₀, toks := tk } := by
  have hpl : ps.length ≤ N.length := by have := congrArg List.length S.pre; rw [List.length_take] at this; omega
  have noA : ∀ b : Addr, b ∉ (cxS CX P w K mg base N qual scope f cd cc A outer s H E).ex := fun b z => absurd (show b ∈ ([] : List Addr) from z) (by simp)
  have cl : ∀ {y : Str} {c : Addr}, (cxS CX P w K mg base N qual scope f cd cc A outer s H E).env.cells.lookup y = some c → y = "__class__" ∧ c = cc := fun {y c} h => by
    have h2 : ([(("__class__" : Str), cc)] : List (Str × Addr)).lookup y = some c := h
    rw [List.lookup_cons] at h2
    split at h2
    · rename_i q
      exact ⟨beq_iff_eq.mp q, (Option.some.inj h2).symm⟩
    · cases h2
  obtain ⟨hb, hn⟩ := e0.bs cc oc (e0.mod.kin cc oc hcc)
  refine ⟨⟨e0.mod, S.kind, rfl, rfl, Nat.le_refl _, fun y z c h1 h2 => (cl h1).1.trans (cl h2).1.symm, fun y hy => ?_, fun y c h _ => (nomatch (show false = true from h)), fun _ => hd, Around.frames_deeper e0.frames, .inr ⟨rfl, rfl⟩, fun b z => absurd z (noA b), e0.bs, e0.bsz, fun b _ _ => noA b, fun b z => absurd z (noA b), e0.funs, e0.frf⟩,
    rfl, e0.bare, Un.kept kp, ⟨_, hns, fun i y v h1 h2 h3 => ?_⟩, fun y c h => ?_, e0.hok.fresh (Nat.le_refl _), fun y c h => ?_, fun p hp => absurd (show p ∈ ([] : List (Addr × Obj)) from hp) (by simp), e0.hok.kept kp, ?_⟩
  · have hy : scope.names.lookup y = some .cell ∨ scope.names.lookup y = some .free := hy
    rcases hy with hy | hy
    · exact absurd rfl (S.nocell _ (PySem.mem_of_lookup hy))
    · have e := S.one _ (PySem.mem_of_lookup hy) rfl
      have e2 : y = "__class__" := e
      subst e2
      exact ⟨cc, by show ([(("__class__" : Str), cc)] : List (Str × Addr)).lookup ("__class__" : Str) = some cc; rw [List.lookup_cons]; simp⟩
  · have hi : i < vs.length := by
      unfold L2.start at h2
      by_cases hi : i < vs.length
      · exact hi
      · rw [List.getElem?_append_right (by simpa using hi), List.getElem?_replicate] at h2
        split at h2 <;> cases h2
    have ha : vs[i]? = some v := by
      unfold L2.start at h2
      rw [List.getElem?_append_left (by simpa using hi), List.getElem?_map] at h2
      cases e : vs[i]? with
      | none => rw [e] at h2; cases h2
      | some a => rw [e] at h2; cases h2; rfl
    obtain ⟨u, hu, rv⟩ := r.get ha
    have hp : ps[i]? = some y := by
      rw [← S.pre, List.getElem?_take_of_lt (by omega)]; exact h1
    have ndP : ps.Nodup := by rw [← S.pre]; exact S.nd.sublist (List.take_sublist _ _)
    exact ⟨u, rv, .inl ⟨S.par y (List.mem_of_getElem? hp), look_zip ndP (by rw [← r.length, hl]) hp hu⟩⟩
  · obtain ⟨_, e2⟩ := cl h
    subst e2
    exact ⟨_, _, kp _ _ hb, hcd⟩
  · obtain ⟨_, e2⟩ := cl h
    rw [e2]
    exact hn
  · unfold L2.start
    show _ = N.length
    rw [List.length_append, List.length_map, List.length_replicate]
    omega
end
structure SupF (P : Program) (K : PySem.W.Frag) (f cda cc C D : Addr) (x qual : Str) (params : Arguments) (body : List Stmt) (scope : Scope) : Prop where
  fn : ∃ oc od osl dV kV doc pm an ct, K.lookup f = some ⟨oc, od, .func (ksFn x qual params body scope dV kV doc pm an (.ref cda) ct cc), osl⟩ ∧ dV = .none
  code : codeIn K (.ref cda) qual = true
  file : ∃ ccl cdd vs ccs fl tf, K.lookup cda = some ⟨ccl, cdd, .fields vs, ccs⟩ ∧ vs[2]? = some (.str fl tf) ∧ ((P.main.file : Str) == fl) = true
  top : (P.main.scope.names.lookup ("super" : Str)).isSome = false
  cell : ∃ cl cld csl, K.lookup cc = some ⟨cl, cld, .cell (some (.ref D)), csl⟩
  base : (clsIn K D).isSome = true
  sub : mroIn K C (.ref D) = some true
  free : nsIn K mainGlobals "super" = some none
  stat : nsIn K cStatics "thirdparty.any" = some none
  up : ks_superIn K C D "__init__" = some (some (.builtin "ValueError.__init__"))
  isV : subIn K (.ref C) (.type "ValueError") = some true
theorem boot_super : bootBuiltins ("super" : Str) = some (.type "super") := by kernel_rfl
section
variable {prog : Program} {w : World} {A : Around} {E : Value → Shared → Prop} {s : Shared}
theorem call_mw {u x t C N : Addr} {nm q : Str} {bs bm : List Value} {hdct : Bool} {sn : List Str} {sub : List Value} {ab : Bool} {col : Option Bool} {dd : Option Addr} {k0 k1 k2 k3 k5 : Option Value} {rest : List Value} {Q : Value → Shared → Prop}
    (hu : s.heap.get? u = some (kxs_mw "ValueError.__init__" x)) (he : s.heap.get? x = some (excObj C t none .none)) (hC : s.heap.get? C = some (excClassObj nm q C N bs bm hdct sn sub ab col dd k0 k1 k2 k3 k5 "ValueError.__new__")) (hz : rest.length ≤ sizeLine)
    (h : ∀ t' h', (∀ b o, b ≠ x → s.heap.get? b = some o → h'.get? b = some o) → h'.get? x = some (excObj C t' none .none) → Q .none { s with heap := h' }) :
    wpAny (model prog w) A (call (.ref u) rest) Q E s := by
  obtain ⟨hh, g, d, tk, os⟩ := s
  refine wpAny_call (codeAny_of_tree ?_)
  show wpAny _ A.in1 (callAny (.ref u) ⟨rest, []⟩) _ _ _
  simp only [callAny]
  refine wpAny_bind (wpAny_load hu ?_)
  have e1 : (Value.type "method-wrapper" == Value.type "method" || Value.type "method-wrapper" == Value.type "builtin_function_or_method" || Value.type "method-wrapper" == Value.type "method-wrapper") = true := by decide
  simp only [kxs_mw, e1, if_true]
  refine KFB.if_so (by decide) ?_
  refine wpAny_bind (check_bound_init F.excBase_ValueError.toExcCallFacts hC he rfl ?_)
  refine wpAny_bind (wpAny_pure (wpAny_pure ?_))
  refine ⟨plainId_quiet F.excBase_ValueError.init.plain _, codeAny_builtin F.excBase_ValueError.initEntry ?_⟩
  exact exc_init_tree (cls := .ref C) (t0 := t) (dv := none) (c2 := .none) (c3 := .none) (b4 := .bool false) he hz fun h' k e' _ => h _ h' k e'
end
section
variable {CX : CXT} {P : Program} {w : World} {K : PySem.W.Frag} {mg : Str → Option Value} {base : Heap} {N ps : List Str} {x qual : Str} {scope : Scope} {f cda cc C D : Addr} {A : Around} {outer : List Env} {s : Shared} {H : Hp} {E : XK} {params : Arguments} {body : List Stmt}
def tSup (K : PySem.W.Frag) (C : Addr) (ta : TA) : TE := fun σ H Q => ∃ a : Addr, σ[0]? = some (some (.ref a)) ∧ OexC K C ∧ H a = some (exo a C none) ∧ ta σ H fun vs H1 => vs.length ≤ 1000 ∧ H1 a = some (exo a C none) ∧ Q .non H1
theorem sup_call {e : Expr} {es : List Expr} {ta : TA} {ar : Arg} {p0 p1 p2 pos : Pos} {pl : Sem Bool} {pins : List (Addr × Obj)} {σ : L2.St} {H1 : Hp} {s1 : Shared} {Q : VK} (S : ScopeS N ps scope) (T : SupF P K f cda cc C D x qual params body scope)
    (hp : (params.posonlyargs ++ params.args).head? = some ar) (hN : N[0]? = some ar.arg) (hka : scope.names.lookup ar.arg = some .local)
    (ha : PA (cxS CX P w K mg base N qual scope f (.ref cda) cc A outer s H E) (e :: es) ta)
    (I : Inv (cxS CX P w K mg base N qual scope f (.ref cda) cc A outer s H E) pins σ H1 s1) (h : tSup K C ta σ H1 Q)
    (he : eval (.Call (.Attribute (.Call (.Name "super" p0) [] [] p1) "__init__" p2) (e :: es) [] pos) (cxS CX P w K mg base N qual scope f (.ref cda) cc A outer s H E).env = (do
      let ov ← attributeBase (.Call (.Name "super" p0) [] [] p1) "__init__" (cxS CX P w K mg base N qual scope f (.ref cda) cc A outer s H E).env (eval (.Call (.Name "super" p0) [] [] p1) (cxS CX P w K mg base N qual scope f (.ref cda) cc A outer s H E).env)
      standAt p2.atName
      let (g, first) ← holding [ov] (getMethod ov "__init__" pl)
      callWith pos g first (backTo pos (starEach (e :: es) (cxS CX P w K mg base N qual scope f (.ref cda) cc A outer s H E).env)) []) := by rfl)
    (hst : starEach (e :: es) (cxS CX P w K mg base N qual scope f (.ref cda) cc A outer s H E).env = (false, eval e (cxS CX P w K mg base N qual scope f (.ref cda) cc A outer s H E).env) :: starEach es (cxS CX P w K mg base N qual scope f (.ref cda) cc A outer s H E).env := by rfl)
    (hpl : (backTo pos (starEach es (cxS CX P w K mg base N qual scope f (.ref cda) cc A outer s H E).env)).any (·.1) = false := by rfl) :
    PySem.wpAt (model P w) (cxS CX P w K mg base N qual scope f (.ref cda) cc A outer s H E).A (.func body (cxS CX P w K mg base N qual scope f (.ref cda) cc A outer s H E).env) (eval (.Call (.Attribute (.Call (.Name "super" p0) [] [] p1) "__init__" p2) (e :: es) [] pos) (cxS CX P w K mg base N qual scope f (.ref cda) cc A outer s H E).env)
      (EP (cxS CX P w K mg base N qual scope f (.ref cda) cc A outer s H E) pins σ Q) (cxS CX P w K mg base N qual scope f (.ref cda) cc A outer s H E).xe s1 := by
  obtain ⟨a, hs, TC, ea, h⟩ := h
  obtain ⟨oc, od, osl, dV, kV, doc, pm, an, ct, lk, _⟩ := T.fn
  obtain ⟨ccl, cdd, vs, ccs, fl, tf, lc, hv2, hfl⟩ := T.file
  obtain ⟨cl, cld, csl, lcc⟩ := T.cell
  obtain ⟨cdD, hD⟩ := Option.isSome_iff_exists.mp T.base
  obtain ⟨nm, q, Nn, bs, bm, sn, sub, ab, col, dd, k0, k1, k2, k3, k5, hC, hbm⟩ := TC.cls
  obtain ⟨t1, ho⟩ := exo_at I.hok ea
  obtain ⟨m, hns, hl⟩ := I.loc
  have hv : m ar.arg = some (.ref a) := by
    obtain ⟨u, ru, lu⟩ := hl 0 ar.arg (.ref a) hN hs (.inl hka)
    cases (show u = Value.ref a from ru)
    rcases lu with ⟨_, q⟩ | ⟨k, _⟩
    · exact q
    · have k2 : scope.names.lookup ar.arg = some .cell ∨ scope.names.lookup ar.arg = some .free := k
      rw [hka] at k2
      rcases k2 with k2 | k2 <;> cases k2
  have X := I.kIn
  obtain ⟨oD, hD1, hD2⟩ : ∃ oD, s1.heap.get? D = some oD ∧ oD.data = .cls cdD := by
    have hD' := hD
    unfold clsIn at hD'
    split at hD'
    · rename_i c d cd' sl ho
      cases hD'
      exact ⟨_, X _ _ ho, rfl⟩
    · cases hD'
  have hClk : clsIn K C = some { name := nm, bases := bs, mro := .ref C :: bm, ns := Nn, qualname := q, hasDict := true, slotNames := sn, subclasses := sub, abstract := ab, collection := col, hasDel := false } := by unfold clsIn; rw [hC] <;> rfl
  have inst : InstAt s1.heap a { cls := .ref C, dict := none, data := .fields #[.ref t1, .none, .none, .none, .bool false, .none] } C none := ⟨ho, rfl, rfl, trivial⟩
  have hxC : a ≠ C := ks_ne (cd := _) X inst hClk
  have hsup := T.up
  unfold ks_superIn at hsup
  rw [hClk] at hsup
  have hsup2 : alongIn K "__init__" (((Value.ref C :: bm).dropWhile (· != .ref D)).drop 1) = some (some (.builtin "ValueError.__init__")) := hsup
  refine ks_wpAt_MethodCall (pl := pl) ?_ he
  refine ks_wpAt_super_base (whole := _) S.sup S.own (by decide) rfl (X _ _ lk) rfl hp rfl (X _ _ lc) rfl hv2 hfl T.top ?_
  obtain ⟨mb, hmb, hbb⟩ := I.mod.blt
  refine ks_loadName_global S.kind S.sup (loadGlobal_builtin (I.mod.glob.keeps I.bk) (mg_none_of X (I.mod.glob.keeps I.bk) T.free) (hmb.keeps I.bk) ((hbb _ (by decide +kernel)).trans boot_super) ⟨rfl, ?_⟩)
  refine wpAny_loadName_free (c := cc) S.kind S.own (by show ([(("__class__" : Str), cc)] : List (Str × Addr)).lookup ("__class__" : Str) = some cc; rw [List.lookup_cons]; simp) ⟨_, X _ _ lcc, rfl⟩ ?_
  refine wpAny_loadName_local S.kind hka hns hv ?_
  obtain ⟨hh, g, d, tk, os⟩ := s1
  refine ks_wpAny_isType_cls hD1 hD2 ⟨rfl, ?_⟩
  refine ks_wpAny_call_super hD1 hD2 ho rfl (fun c z => by cases z) (looks_mroIn X T.sub) (fun h' e1 k1 => ?_)
  have X1 : K.In h' := fun b o z => k1 b o (X b o z)
  have inst1 : InstAt h' a { cls := .ref C, dict := none, data := .fields #[.ref t1, .none, .none, .none, .bool false, .none] } C none := ⟨k1 _ _ ho, rfl, rfl, trivial⟩
  refine kxs_getMethod kxs_ValueError e1 (looks_opaque X1 T.stat) (l₀ := .ref C :: bm) (fun A Q E s k q => wpAny_bind ((looks_clsIn X1 hClk) A _ E s k (wpAny_pure q))) rfl X1 hsup2 (inst1.type.andThen (looks_subIn X1 T.isV)) hxC (by decide) ?_
  have lt1 : hh.objs.size < h'.objs.size := Heap.lt_size e1
  have k2 : ∀ b o, hh.get? b = some o → (h'.push (kxs_mw "ValueError.__init__" a)).get? b = some o := fun b o z => Heap.get?_push_of_some _ (k1 b o z)
  have hu : (h'.push (kxs_mw "ValueError.__init__" a)).get? h'.objs.size = some (kxs_mw "ValueError.__init__" a) := Heap.get?_push_at rfl rfl
  have I2 := (I.kept (t' := tk + 1) k2).pins_of (pins' := (h'.objs.size, kxs_mw "ValueError.__init__" a) :: pins) fun p hp => by
    rcases List.mem_cons.mp hp with z | z
    · rw [z]
      refine ⟨hu, I.hok.fresh (Nat.le_of_lt lt1), fun z => ?_, I.nofs (Nat.le_of_lt lt1), fun v z => by cases z⟩
      have := I.lt
      have z2 : h'.objs.size = (cxS CX P w K mg base N qual scope f (.ref cda) cc A outer s H E).env.locals := z
      rw [← z2] at this
      exact absurd (Nat.lt_trans this lt1) (Nat.lt_irrefl _)
    · have := I.pin p (List.mem_append_right _ z)
      exact ⟨k2 _ _ this.1, this.2⟩
  show wpAny _ _ (callWith pos (.ref h'.objs.size) [] (backTo pos (starEach (e :: es) _)) []) _ _ _
  rw [hst]
  refine kxs_callWith (i := "ValueError.__init__") (x := a) (by show (false || (backTo pos (starEach es _)).any (·.1)) = false; rw [hpl]; rfl) ?_
  have hrun := ha.run pos _ _ σ H1 _ I2 h
  rw [hst] at hrun
  refine evalArgs_plain (thn hrun fun us s3 hh3 => ?_)
  obtain ⟨ws, H3, I3, r3, hz, ea3, q3⟩ := hh3
  have hu3 := (I3.pin _ (List.mem_append_right _ List.mem_cons_self)).1
  refine ⟨hu3, ?_⟩
  obtain ⟨t3, ho3⟩ := exo_at I3.hok ea3
  refine call_mw hu3 ho3 (I3.kIn _ _ hC) (by show us.length ≤ sizeLine; rw [← r3.length, sizeLine_eq]; omega) fun t' h4 k4 e4 => ?_
  have J := I3.write (t' := s3.toks) (x := a) (e := a) (o := exo a C none) (by rw [ea3]; exact True.intro) (.inl rfl) k4 ⟨_, e4⟩ (exo_ok e4)
  have eu : upd H3 a (exo a C none) = H3 := by
    funext b
    by_cases hb : b = a
    · rw [hb, upd_same, ea3]
    · rw [upd_ne hb]
  rw [eu] at J
  exact ⟨.non, H3, J.pins_of fun p hp => J.pin p (List.mem_append_right _ (List.mem_cons_of_mem _ hp)), rfl, q3⟩
end
end Sup
namespace Sup
open PySem PySem.Spec PySem.Calls PyProof.Rows L2 PySem.W
section
variable {CX : CXT} {P : Program} {w : World} {K : PySem.W.Frag} {mg : Str → Option Value} {base : Heap} {N ps : List Str} {x qual : Str} {scope : Scope} {f cda cc C D : Addr} {A : Around} {outer : List Env} {s : Shared} {H : Hp} {E : XK} {params : Arguments} {body : List Stmt}
theorem psS_sup {e : Expr} {es : List Expr} {rest : List Stmt} {ta : TA} {t : TS} {ar : Arg} {p0 p1 p2 pos pos2 : Pos} {pl : Sem Bool} (S : ScopeS N ps scope) (T : SupF P K f cda cc C D x qual params body scope)
    (hp : (params.posonlyargs ++ params.args).head? = some ar) (hN : N[0]? = some ar.arg) (hka : scope.names.lookup ar.arg = some .local)
    (ha : PA (cxS CX P w K mg base N qual scope f (.ref cda) cc A outer s H E) (e :: es) ta) (hr : PSs (cxS CX P w K mg base N qual scope f (.ref cda) cc A outer s H E) rest t)
    (he : eval (.Call (.Attribute (.Call (.Name "super" p0) [] [] p1) "__init__" p2) (e :: es) [] pos) (cxS CX P w K mg base N qual scope f (.ref cda) cc A outer s H E).env = (do
      let ov ← attributeBase (.Call (.Name "super" p0) [] [] p1) "__init__" (cxS CX P w K mg base N qual scope f (.ref cda) cc A outer s H E).env (eval (.Call (.Name "super" p0) [] [] p1) (cxS CX P w K mg base N qual scope f (.ref cda) cc A outer s H E).env)
      standAt p2.atName
      let (g, first) ← holding [ov] (getMethod ov "__init__" pl)
      callWith pos g first (backTo pos (starEach (e :: es) (cxS CX P w K mg base N qual scope f (.ref cda) cc A outer s H E).env)) []) := by rfl)
    (hst : starEach (e :: es) (cxS CX P w K mg base N qual scope f (.ref cda) cc A outer s H E).env = (false, eval e (cxS CX P w K mg base N qual scope f (.ref cda) cc A outer s H E).env) :: starEach es (cxS CX P w K mg base N qual scope f (.ref cda) cc A outer s H E).env := by rfl)
    (hpl : (backTo pos (starEach es (cxS CX P w K mg base N qual scope f (.ref cda) cc A outer s H E).env)).any (·.1) = false := by rfl)
    (hi : interactive (cxS CX P w K mg base N qual scope f (.ref cda) cc A outer s H E).env = false := by rfl) (hsw : swapsWith (.Call (.Attribute (.Call (.Name "super" p0) [] [] p1) "__init__" p2) (e :: es) [] pos) none pos2.line (cxS CX P w K mg base N qual scope f (.ref cda) cc A outer s H E).env = pure false := by rfl) :
    PSsS (cxS CX P w K mg base N qual scope f (.ref cda) cc A outer s H E) body (.Expr (.Call (.Attribute (.Call (.Name "super" p0) [] [] p1) "__init__" p2) (e :: es) [] pos) pos2 :: rest) (fun D σ H => tSup K C ta σ H fun _ H1 => t D σ H1) := by
  refine ⟨fun pins s1 σ H1 D I h => ?_⟩
  refine ks_wpAt_execs_cons (ks_wpAt_Expr_any (ks_wpAt_mono (sup_call (pl := pl) S T hp hN hka ha I h he hst hpl) (fun v s2 hv => ?_) fun _ _ z => z) hi hsw)
  obtain ⟨_, H2, I2, _, q⟩ := hv
  exact wpAt_of_wpAny (hr.run pins s2 σ H2 D I2 q)
theorem fnok_sup {k : Nat} {sp : Sp} {oc : Value} {od : Option Addr} {osl : Array (Option Value)} {dV kV doc pm ct : Value} {an : Option Addr} (S : ScopeS N ps scope) (T : SupF P K f cda cc C D x qual params body scope)
    (lk : K.lookup f = some ⟨oc, od, .func (ksFn x qual params body scope dV kV doc pm an (.ref cda) ct cc), osl⟩) (len : ∀ vs H Q E, sp vs H Q E → vs.length = ps.length)
    (hbody : ∀ (A : Around) (outer : List Env) (s : Shared) (H : Hp) (vs : List V) (Q : VK) (E : XK), Room k (A.deeper (ksEnv qual scope s.heap.objs.size f (.ref cda) cc)) → sp vs H Q E →
      ∃ t, PSsS (cxS CX P w K mg base N qual scope f (.ref cda) cc A outer s H E) body body t ∧ t { nx := fun _ H' => Q .non H', rt := Q } (L2.start N vs) H) :
    FnOk P w K mg base CX (k + 1) f (ksFn x qual params body scope dV kV doc pm an (.ref cda) ct cc) ps sp := by
  refine ⟨len, fun A outer s H args us vs Q E hr e0 hb r hsp => ?_⟩
  have hl := len _ _ _ _ hsp
  obtain ⟨cl, cld, csl, lcc⟩ := T.cell
  have KX : K.In s.heap := e0.mod.kin.keeps fun b o e => (e0.bs b o e).1
  have lim : s.heap.NoLimit := e0.mod.nolimit.keeps fun b o e => (e0.bs b o e).1
  refine ks_codeAny_call_defAt (fd := ksFn x qual params body scope dV kV doc pm an (.ref cda) ct cc) (body := body) (binds := ps.zip us) hr.depth (KX _ _ lk) rfl lim (codeRec_of KX T.code) rfl hb S.nocell (fun y hy => ?_) (fun h₀ hns kp => ?_) S.co S.gen S.kind
  · obtain ⟨n, u⟩ := y
    exact S.par n (List.of_mem_zip hy).1
  obtain ⟨t, ht, hq⟩ := hbody A outer s H vs Q E (hr.deeper _) hsp
  have I : Inv (cxS CX P w K mg base N qual scope f (.ref cda) cc A outer s H E) [] (L2.start N vs) H { s with heap := h₀, toks := s.toks + (ps.zip us).length } := inv_startS S hr.hd e0 hl r lcc rfl hns kp
  refine ks_wpAt_mono (ht.run [] _ (L2.start N vs) H _ I hq) (fun fl s' hs => ?_) fun e s' hs => hs
  have fin : ∀ {σ' : L2.St} {H' : Hp} {v : V} {u : Value}, Inv (cxS CX P w K mg base N qual scope f (.ref cda) cc A outer s H E) [] σ' H' s' → L2.RelV v u → Q v H' → CE outer P w H s Q u s' :=
    fun {σ' H' v u} J rv q => ⟨v, H', J.os, J.bare, J.base, J.hok, rv, q⟩
  cases fl with
  | ret u =>
    obtain ⟨v, σ', H', J, rv, q⟩ := hs
    exact fin J rv q
  | next =>
    obtain ⟨σ', H', J, q⟩ := hs
    exact fin (v := V.non) (u := Value.none) J rfl q
  | brk =>
    obtain ⟨_, _, _, q⟩ := hs
    exact False.elim q
  | cont =>
    obtain ⟨_, _, _, q⟩ := hs
    exact False.elim q
end
end Sup
namespace DL
open PySem PySem.Spec PyProof.Rows L2 Evl Sup
variable [TabC]
theorem optB_ok {α : Type} {o : Option α} {f : α → Bool} (h : optB o f = true) : ∃ a, o = some a ∧ f a = true := by
  cases o with
  | none => cases h
  | some a => exact ⟨a, rfl, h⟩
theorem noneV_ok {v : Value} (h : noneV v = true) : v = .none := by
  cases v <;> first | rfl | cases h
theorem fdOf_ok {K : PySem.W.Frag} {f : Addr} {fd : FuncData} (h : fdOf K f = some fd) : ∃ oc od osl, K.lookup f = some ⟨oc, od, .func fd, osl⟩ := by
  unfold fdOf at h
  split at h
  · rename_i oc od fd' osl e
    cases h
    exact ⟨oc, od, osl, e⟩
  · cases h
theorem vsOf_ok {K : PySem.W.Frag} {f : Addr} {vs : Array Value} (h : vsOf K f = some vs) : ∃ oc od osl, K.lookup f = some ⟨oc, od, .fields vs, osl⟩ := by
  unfold vsOf at h
  split at h
  · rename_i oc od fd' osl e
    cases h
    exact ⟨oc, od, osl, e⟩
  · cases h
theorem cellOf_ok {K : PySem.W.Frag} {f D : Addr} (h : cellOf K f = some D) : ∃ oc od osl, K.lookup f = some ⟨oc, od, .cell (some (.ref D)), osl⟩ := by
  unfold cellOf at h
  split at h
  · rename_i oc od fd' osl e
    cases h
    exact ⟨oc, od, osl, e⟩
  · cases h
theorem refOf_ok {v : Value} {a : Addr} (h : refOf v = some a) : v = .ref a := by
  cases v <;> cases h
  rfl
theorem txtOf_ok {v : Option Value} {x : Str} (h : txtOf v = some x) : ∃ t, v = some (.str x t) := by
  unfold txtOf at h
  split at h
  · cases h
    exact ⟨_, rfl⟩
  · cases h
theorem onlyCl_ok {l : List (Str × Addr)} {c : Addr} (h : onlyCl l = some c) : l = [(("__class__" : Str), c)] := by
  unfold onlyCl at h
  split at h
  · split at h
    · rename_i e
      cases h
      rw [e]
    · cases h
  · cases h
theorem oexB_ok {K : PySem.W.Frag} {C : Addr} (h : oexB K C = true) : OexC K C := by
  obtain ⟨h1, h2⟩ := He.ba h
  obtain ⟨h2, h3⟩ := He.ba h2
  obtain ⟨h3, h4⟩ := He.ba h3
  obtain ⟨h4, h5⟩ := He.ba h4
  refine ⟨?_, He.eqO_ok h2, of_decide_eq_true h3, of_decide_eq_true h4, h5⟩
  split at h1
  · rename_i t dd cd sl ho
    split at h1
    · rename_i C' bm k0 k1 k2 k3 n k5 hm hs
      simp only [Bool.and_eq_true, beq_iff_eq, Bool.not_eq_true', decide_eq_true_eq] at h1
      obtain ⟨rfl, rfl, rfl, hdel, hdc, hre⟩ := h1
      obtain ⟨nm, bs, mro, ns, qn, hd, sn, sub, ab, col, del⟩ := cd
      dsimp only at hm hdel hdc
      subst hm hdel hdc
      have hsl : sl = #[k0, k1, k2, k3, some (.builtin "ValueError.__new__"), k5] := by
        obtain ⟨l⟩ := sl
        simp only at hs
        rw [hs]
      subst hsl
      exact ⟨nm, qn, ns, bs, bm, sn, sub, ab, col, dd, k0, k1, k2, k3, k5, ho, hre⟩
    · cases h1
  · cases h1
structure Xc (P : Program) (K : PySem.W.Frag) (mg : Str → Option Value) (C : Str) (fs : List Str) (qual : Str) (params : Arguments) (body : List Stmt) (scope : Scope) : Prop where
  g : mg C = some (.ref (He.ga K C))
  ox : OexC K (He.ga K C)
  sup : ∃ cda cc, SupF P K (He.ma K (He.ga K C) "__init__") cda cc (He.ga K C) (He.ga K C) "__init__" qual params body scope
  ini : PySem.W.findIn K (.ref (He.ga K C)) "__init__" = some (some (.ref (He.ma K (He.ga K C) "__init__")))
  ti : PySem.W.typeIn K (.ref (He.ma K (He.ga K C) "__init__")) = some (.type "function")
  no : ∀ f ∈ fs, PySem.W.findIn K (.ref (He.ga K C)) f = some none
  xf : XfC K (He.ga K C)
  xd : ExcC K (He.ga K C)
theorem xc_of {P : Program} {K : PySem.W.Frag} {h : Heap} {mg : Str → Option Value} {C : Str} {fs : List Str} {qual : Str} {params : Arguments} {body : List Stmt} {scope : Scope} (X : K.In h) (G : h.Ns mainGlobals mg) (b : xcB P.main.file K C fs = true) (e : fnC K C = (⟨C, qual, params, body, scope⟩ : DefC).val)
    (htop : (P.main.scope.names.lookup ("super" : Str)).isSome = false) : Xc P K mg C fs qual params body scope := by
  unfold xcB at b
  obtain ⟨b1, b⟩ := He.ba b
  obtain ⟨b2, b⟩ := He.ba b
  obtain ⟨b3, b⟩ := He.ba b
  obtain ⟨b4, b⟩ := He.ba b
  obtain ⟨b5, b⟩ := He.ba b
  obtain ⟨b6, b⟩ := He.ba b
  obtain ⟨b7, b⟩ := He.ba b
  obtain ⟨b8, b⟩ := He.ba b
  obtain ⟨b9, b⟩ := He.ba b
  obtain ⟨b10, b⟩ := He.ba b
  obtain ⟨b11, b⟩ := He.ba b
  obtain ⟨b12, b⟩ := He.ba b
  obtain ⟨b13, b⟩ := He.ba b
  obtain ⟨b14, b⟩ := He.ba b
  obtain ⟨b15, b⟩ := He.ba b
  obtain ⟨b16, b17⟩ := He.ba b
  obtain ⟨fd, q1, b6⟩ := optB_ok b6
  obtain ⟨cda, q2, b6⟩ := optB_ok b6
  obtain ⟨cc, q3, b6⟩ := optB_ok b6
  obtain ⟨c0, b6⟩ := He.ba b6
  obtain ⟨c1, b6⟩ := He.ba b6
  obtain ⟨c2, c3⟩ := He.ba b6
  obtain ⟨vs, q4, c2⟩ := optB_ok c2
  obtain ⟨fl, q5, c2⟩ := optB_ok c2
  obtain ⟨oc, od, osl, lk⟩ := fdOf_ok q1
  have e0 := refOf_ok q2
  have e1 := onlyCl_ok q3
  unfold fnC at e
  rw [lk] at e
  obtain ⟨n1, n2, n3, n4, n5, n6, n7, n8, n9, n10, n11, n12, n13, n14, n15⟩ := fd
  have e2 : (some (n1, n2, n3, n4, n5, n6, n15) : FnC) = some (("__init__" : Str), qual, params, FuncBody.stmts body, scope, mainGlobals, builtinsNs) := e
  simp only [Option.some.injEq, Prod.mk.injEq] at e2
  obtain ⟨h1, h2, h3, h4, h5, h6, h7⟩ := e2
  dsimp only at e0 e1 c1 c0
  subst h1 h2 h3 h4 h5 h6 h7 e0 e1
  obtain ⟨ccl, cdd, ccs, lc⟩ := vsOf_ok q4
  obtain ⟨tf, hv⟩ := txtOf_ok q5
  obtain ⟨cl, cld, csl, lcc⟩ := cellOf_ok (of_decide_eq_true c3)
  have xf := xfB_ok b13
  refine ⟨PySem.W.mg_of X G (He.eqO_ok b2), oexB_ok b1, ⟨cda, cc, ⟨⟨oc, od, osl, n8, n9, n10, n11, n12, n14, lk, noneV_ok c0⟩, c1, ⟨ccl, cdd, vs, ccs, fl, tf, lc, hv, c2⟩, htop, ⟨cl, cld, csl, lcc⟩, b7, of_decide_eq_true b8, He.eqO_ok b9, He.eqO_ok b10, He.eqO_ok b11, of_decide_eq_true b12⟩⟩,
    He.eqO_ok b3, of_decide_eq_true b4, fun f hf => He.eqO_ok (List.all_eq_true.mp b5 f hf), xf, ⟨xf.ga, xf.gg, xf.exC, xf.hdC, He.eqO_ok b14, He.eqO_ok b15, of_decide_eq_true b16, of_decide_eq_true b17⟩⟩
end DL
namespace DL
open PySem PySem.Spec PyProof.Rows L2 Evl Sup
variable [TabC]
def finX (C a d : Addr) (fs : List (Str × V)) (H : Hp) : Hp := upd (upd H d (exd d fs)) a (exo a C (some d))
theorem fin_more {C a d : Addr} {fs gs : List (Str × V)} {H : Hp} (h : d ≠ a) : upd (finX C a d fs H) d (exd d gs) = finX C a d gs H := by
  funext b
  unfold finX
  by_cases e1 : b = a
  · subst e1
    rw [upd_ne (Ne.symm h), upd_same, upd_same]
  · by_cases e2 : b = d
    · subst e2
      rw [upd_same, upd_ne e1, upd_same]
    · rw [upd_ne e2, upd_ne e1, upd_ne e2, upd_ne e1, upd_ne e2]
def FmtOk (v : V) : Prop := (∃ y : Str, v = .str y ∧ y.length ≤ 10000) ∨ ∃ i : Int, v = .int i ∧ i.natAbs < 10 ^ 560
def spI (K : PySem.W.Frag) (C : Addr) (fs : List Str) (tx : List V → Prop) : Sp := fun vs H Q _ => ∃ (a : Addr) (ws : List V), vs = .ref a :: ws ∧ ws.length = fs.length ∧ OexC K C ∧ (∀ f ∈ fs, PySem.W.findIn K (.ref C) f = some none) ∧ H a = some (exo a C none) ∧ tx ws ∧ ∀ d, H d = none → d ≠ a → Q .non (finX C a d (fs.zip ws).reverse H)
theorem spI_len {K : PySem.W.Frag} {C : Addr} {fs : List Str} {tx : List V → Prop} : ∀ vs H Q E, spI K C fs tx vs H Q E → vs.length = fs.length + 1 := fun vs H Q E ⟨a, ws, e, hl, _⟩ => by rw [e, List.length_cons, hl]
theorem len_app (x y : Str) : (x ++ y).length = x.length + y.length := by
  show (x.cps ++ y.cps).size = x.cps.size + y.cps.size
  exact Array.size_append
theorem jts_ok {σ : L2.St} {H : Hp} {Q : Str → Hp → Prop} : ∀ (l : List JP) (acc : Str), (∀ i, JP.v i ∈ l → ∃ w, σ[i]? = some (some w) ∧ FmtOk w) → (∀ x, JP.k x ∈ l → x.length ≤ 10000) → acc.length + l.length * 10000 ≤ sizeLine → (∀ out, Q out H) → tJs (l.map JP.t) acc σ H Q
  | [], acc, _, _, _, q => q acc
  | .k x :: l, acc, hv, hk, hz, q => by
    have hx := hk x List.mem_cons_self
    rw [List.length_cons] at hz
    exact ⟨x, rfl, by rw [len_app]; omega, jts_ok l (acc ++ x) (fun i hi => hv i (List.mem_cons_of_mem _ hi)) (fun y hy => hk y (List.mem_cons_of_mem _ hy)) (by rw [len_app]; omega) q⟩
  | .v i :: l, acc, hv, hk, hz, q => by
    rw [List.length_cons] at hz
    obtain ⟨w, hw, hf⟩ := hv i List.mem_cons_self
    have go : ∀ y : Str, y.length ≤ 10000 → ∃ z : Str, V.str y = V.str z ∧ (acc ++ z).length ≤ sizeLine ∧ tJs (l.map JP.t) (acc ++ z) σ H Q := fun y hy =>
      ⟨y, rfl, by rw [len_app]; omega, jts_ok l (acc ++ y) (fun i hi => hv i (List.mem_cons_of_mem _ hi)) (fun y hy => hk y (List.mem_cons_of_mem _ hy)) (by rw [len_app]; omega) q⟩
    refine ⟨w, hw, ?_⟩
    rcases hf with ⟨y, rfl, hy⟩ | ⟨i, rfl, hi⟩
    · exact .inl ⟨y, rfl, by rw [sizeLine_eq]; omega, go y hy⟩
    · exact .inr ⟨i, rfl, log_small hi, go _ (Nat.le_trans (by rw [PySem.ofString_length]; exact int_text_length_le10 (k := 560) (by decide) hi) (by decide))⟩
theorem ost_first {K : PySem.W.Frag} {C a : Addr} {f : Str} {i : Nat} {w : V} {D : Ends} {σ : L2.St} {H : Hp} (h0 : σ[0]? = some (some (.ref a))) (h1 : σ[i]? = some (some w)) (T : OexC K C) (hno : PySem.W.findIn K (.ref C) f = some none) (ha : H a = some (exo a C none))
    (h : ∀ d, H d = none → d ≠ a → D.nx σ (finX C a d [(f, w)] H)) : tOst K f (tVar 0) (tVar i) D σ H := ⟨w, h1, .ref a, h0, a, C, rfl, T, hno, .inl ⟨ha, fun d hd ne => h d hd ne⟩⟩
theorem ost_next {K : PySem.W.Frag} {C a d : Addr} {f : Str} {i : Nat} {w : V} {fs : List (Str × V)} {D : Ends} {σ : L2.St} {H : Hp} (h0 : σ[0]? = some (some (.ref a))) (h1 : σ[i]? = some (some w)) (T : OexC K C) (hno : PySem.W.findIn K (.ref C) f = some none) (hd : d ≠ a) (hl : fs.length ≤ 900)
    (h : D.nx σ (finX C a d ((f, w) :: fs) H)) : tOst K f (tVar 0) (tVar i) D σ (finX C a d fs H) := ⟨w, h1, .ref a, h0, a, C, rfl, T, hno, .inr ⟨d, fs, upd_same, by unfold finX; rw [upd_ne hd, upd_same], hl, by rw [fin_more hd]; exact h⟩⟩
theorem init1 {K : PySem.W.Frag} {C : Addr} {f : Str} {tx : List V → Prop} {ta : TA} {N : List Str} (hN : N.length = 2) (hta : ∀ (a : Addr) (w : V) (H : Hp) (Q : List V → Hp → Prop), tx [w] → (∀ us : List V, us.length ≤ 1000 → Q us H) → ta [some (.ref a), some w] H Q)
    {vs : List V} {H : Hp} {Q : VK} {E : XK} (h : spI K C [f] tx vs H Q E) : (fun D σ H => tSup K C ta σ H fun _ H1 => tOst K f (tVar 0) (tVar 1) D σ H1) { nx := fun _ H' => Q .non H', rt := Q } (L2.start N vs) H := by
  obtain ⟨a, ws, rfl, hl, T, hno, ha, hx, hq⟩ := h
  match ws, hl with
  | [w], _ =>
    have e : L2.start N [.ref a, w] = [some (.ref a), some w] := by
      unfold L2.start
      rw [hN]
      rfl
    rw [e]
    refine ⟨a, rfl, T, ha, hta a w H _ hx fun us hu => ⟨hu, ha, ?_⟩⟩
    exact ost_first rfl rfl T (hno f (List.mem_singleton_self _)) ha fun d hd ne => hq d hd ne
theorem init2 {K : PySem.W.Frag} {C : Addr} {f g : Str} {tx : List V → Prop} {ta : TA} {N : List Str} (hN : N.length = 3) (hta : ∀ (a : Addr) (w u : V) (H : Hp) (Q : List V → Hp → Prop), tx [w, u] → (∀ us : List V, us.length ≤ 1000 → Q us H) → ta [some (.ref a), some w, some u] H Q)
    {vs : List V} {H : Hp} {Q : VK} {E : XK} (h : spI K C [f, g] tx vs H Q E) : (fun D σ H => tSup K C ta σ H fun _ H1 => (tSeq (tOst K f (tVar 0) (tVar 1)) (tOst K g (tVar 0) (tVar 2))) D σ H1) { nx := fun _ H' => Q .non H', rt := Q } (L2.start N vs) H := by
  obtain ⟨a, ws, rfl, hl, T, hno, ha, hx, hq⟩ := h
  match ws, hl with
  | [w, u], _ =>
    have e : L2.start N [.ref a, w, u] = [some (.ref a), some w, some u] := by
      unfold L2.start
      rw [hN]
      rfl
    rw [e]
    refine ⟨a, rfl, T, ha, hta a w u H _ hx fun us hu => ⟨hu, ha, ?_⟩⟩
    exact ost_first rfl rfl T (hno f List.mem_cons_self) ha fun d hd ne => ost_next rfl rfl T (hno g (List.mem_cons_of_mem _ (List.mem_singleton_self _))) ne (by show 1 ≤ 900; decide) (hq d hd ne)
def FmtL (fm : List Bool) (ws : List V) : Prop := ∀ p ∈ fm.zip ws, p.1 = true → FmtOk p.2
structure KnX (P : Program) (w : World) (K : PySem.W.Frag) (mg : Str → Option Value) (base : Heap) (C : Str) (ps fs : List Str) (fm : List Bool) : Prop where
  g : mg C = some (.ref (He.ga K C))
  ox : OexC K (He.ga K C)
  ini : PySem.W.findIn K (.ref (He.ga K C)) "__init__" = some (some (.ref (He.ma K (He.ga K C) "__init__")))
  ti : PySem.W.typeIn K (.ref (He.ma K (He.ga K C) "__init__")) = some (.type "function")
  no : ∀ f ∈ fs, PySem.W.findIn K (.ref (He.ga K C)) f = some none
  xf : XfC K (He.ga K C)
  xd : ExcC K (He.ga K C)
  fn : ∃ fd, FnOk P w K mg base (L2.CX P w) 1 (He.ma K (He.ga K C) "__init__") fd ps (spI K (He.ga K C) fs (FmtL fm)) ∧ L2.Binds K fd ps []
def fmtD : D → Prop
  | .str y => y.length ≤ 10000
  | .int i => i.natAbs < 10 ^ 560
  | _ => False
def FmtDL (fm : List Bool) (xs : List D) : Prop := ∀ p ∈ fm.zip xs, p.1 = true → fmtD p.2
theorem fmt_of {K : PySem.W.Frag} {H : Hp} {v : V} {d : D} (r : Rp K H v d) (h : fmtD d) : FmtOk v := by
  cases r with
  | str x => exact .inl ⟨x, rfl, h⟩
  | int i => exact .inr ⟨i, rfl, h⟩
  | _ => exact h.elim
theorem fmt_all {K : PySem.W.Frag} {H : Hp} : ∀ {fm : List Bool} {vs : List V} {ds : List D}, RpL K H vs ds → FmtDL fm ds → FmtL fm vs
  | [], _, _, _, _ => fun p hp => by cases hp
  | _ :: _, _, _, .nil, _ => fun p hp => by cases hp
  | b :: fm, _, _, .cons a r, h => fun p hp hb => by
    rw [List.zip_cons_cons] at hp
    rcases List.mem_cons.mp hp with e | e
    · subst e
      exact fmt_of a (h (b, _) (by rw [List.zip_cons_cons]; exact List.mem_cons_self) hb)
    · exact fmt_all r (fun q hq => h q (by rw [List.zip_cons_cons]; exact List.mem_cons_of_mem _ hq)) p e hb
theorem RpL.revd {K : PySem.W.Frag} {H : Hp} {vs : List V} {ds : List D} (r : RpL K H vs ds) : RpL K H vs.reverse ds.reverse := RpL.rev r
def dRaise (C : Str) (fs : List Str) (fm : List Bool) (RX : XD) (dA : DA) : DS := fun _ ρ G => dA ρ G fun xs G1 => xs.length = fs.length ∧ FmtDL fm xs ∧ RX C fs.reverse xs.reverse G1
section
variable {X : Cx} {B : Bs} {pos p pos2 : Pos} {e : Expr} {es : List Expr} {dA : DA}
theorem psd_raise {C : Str} {ps fs : List Str} {fm : List Bool} {RX : XD} {E : XK} (F : KnX X.prog X.w X.K X.mg X.base C ps fs fm) (hl : fs.length ≤ 900) (hc : X.calm = true) (hr : Room 2 X.A) (hg : Gl X C) (tk : Takes X fun cls d _ H => E cls d H) (kx : ∀ Hd, Ex B.b Hd → KX X.K B.f Hd RX E)
    (hx : Passes (L2.CX X.prog X.w) X fun _ _ _ => False) (ha : PA X (e :: es) (upA X.K B dA)) (hdb : (C == ("__debug__" : Str)) = false := by decide) (he : starEach (e :: es) X.env = (false, eval e X.env) :: starEach es X.env := by rfl) (hpl : (backTo pos (starEach es X.env)).any (·.1) = false := by rfl) :
    PS X (.Raise (some (.Call (.Name C p) (e :: es) [] pos)) none pos2) (upS X.K B (dRaise C fs fm RX dA)) := by
  obtain ⟨fd, F1, hb⟩ := F.fn
  refine ps_imp (ps_raise hc tk (pmk_oex F.ox F.ini F.ti F1 hr hb .nil hx hg F.g ha hdb he hpl)) ?_
  rintro D σ H ⟨ρ, Hd, G, En, at_, h, k⟩
  refine ⟨ρ, Hd, G, _, at_, h, fun vs H1 Hd1 xs G1 e1 s1 r1 ⟨hl1, hf, hR⟩ => ?_⟩
  have hlv : vs.length = fs.length := by rw [r1.length, hl1]
  refine ⟨by omega, fun a ha => ?_⟩
  refine ⟨a, vs, by rw [List.append_nil], hlv, F.ox, F.no, upd_same, fmt_all r1 hf, fun d hd ne => ⟨rfl, d, (fs.zip vs).reverse, upd_same, by unfold finX; rw [upd_ne ne, upd_same], ?_, ?_⟩⟩
  · rw [upd_ne ne] at hd
    exact hd
  · have hd1 : H1 d = none := by
      rw [upd_ne ne] at hd
      exact hd
    have eH : upd (del (finX (He.ga X.K C) a d (fs.zip vs).reverse (upd H1 a (exo a (He.ga X.K C) none))) a) d (.xd (fs.zip vs).reverse) = upd H1 d (.xd (fs.zip vs).reverse) := by
      funext b
      by_cases q : b = d
      · subst q
        rw [upd_same, upd_same]
      · rw [upd_ne q, upd_ne q]
        by_cases q2 : b = a
        · subst q2
          rw [del_same, ha]
        · rw [del_ne q2]
          unfold finX
          rw [upd_ne q2, upd_ne q, upd_ne q2]
    rw [eH]
    have ez : (fs.zip vs).reverse = fs.reverse.zip vs.reverse := by
      rw [List.zip_eq_zipWith, List.zip_eq_zipWith, List.reverse_zipWith hlv.symm]
    rw [ez]
    exact kx Hd1 (at_.b.trans e1) C d _ Hd1 fs.reverse vs.reverse xs.reverse G1 (Ex.refl _) (s1.side hd1) upd_same (by rw [List.length_reverse, List.length_reverse, hlv]) r1.revd hR
end
end DL
namespace Held
open PySem PySem.Spec PyProof.Rows L2 DL
section
variable {X : Cx} {pins : List (Addr × Obj)} {σ : L2.St} {H : Hp} {s : Shared}
theorem inv_told {a : Addr} {φ : Heap → Prop} (I : Inv X pins σ H s) (na : H a = none) (new : ∀ o, X.s_0.heap.get? a = some o → X.H_0 a = none → a ∉ X.ex → False) (nl : a ≠ X.env.locals) (nc : ∀ y c, X.env.cells.lookup y = some c → c ≠ a) (np : ∀ q ∈ X.pn ++ pins, q.1 ≠ a)
    (ok : ∀ K : Hp, ObjOk X.prog X.w K s.heap a (.ext φ)) : Inv X pins σ (upd H a (.ext φ)) s := by
  have ne : ∀ {b : Addr} {u : HO}, H b = some u → b ≠ a := fun e z => by
    rw [z, na] at e
    cases e
  have put : ∀ {b : Addr} {u : HO}, H b = some u → upd H a (.ext φ) b = some u := fun e => by
    rw [upd_ne (ne e)]
    exact e
  have B := I.base
  refine ⟨I.ok, I.os, I.bare, ⟨fun b o e n h1 h2 => B.keep b o e n h1 h2, fun b o e n h1 h2 => B.slot b o e n h1 h2, fun b o e n h1 => ?_, fun b o e h1 => B.there b o e h1, fun b xs e => put (B.tups b xs e), fun b o u e => put (B.frzs b o u e), fun b ps e => ?_⟩, I.loc, I.cell, ?_, fun y c e => ?_, fun q hq => ?_, fun b u e => ?_, I.len⟩
  · have z : b ≠ a := fun z => new o (by rw [← z]; exact e) (by rw [← z]; exact n) (by rw [← z]; exact h1)
    rw [upd_ne z]
    exact B.free b o e n h1
  · obtain ⟨more, z⟩ := B.tbls b ps e
    exact ⟨more, put z⟩
  · rw [upd_ne (Ne.symm nl)]
    exact I.free
  · rw [upd_ne (nc y c e)]
    exact I.freeC y c e
  · obtain ⟨p1, p2, p3⟩ := I.pin q hq
    exact ⟨p1, by rw [upd_ne (np q hq)]; exact p2, p3⟩
  · by_cases z : b = a
    · rw [z, upd_same] at e
      cases e
      rw [z]
      exact ok _
    · rw [upd_ne z] at e
      exact (I.hok b u e).stay (fun _ _ _ q => q) (fun _ q => put q) fun _ _ q => put q
end
def wHeld (K : PySem.W.Frag) (c : Value) (i j : Nat) (W : WX) (D : Ends) : WX := fun cls d σ H => ∃ b, PySem.W.exmOne K cls c = some b ∧
  (b = true → ∃ C dd, cls = .ref C ∧ d = some dd ∧ ∀ a, H a = none → D.nx (((σ.set i (some (.ref a))).set j (some (.ref a))).set i none) (upd H a (exh a C dd))) ∧ (b = false → W cls d σ H)
section
variable {X : Cx} {x n m : Str} {c : Value} {body : List Stmt} {px pn pm pa ph pos : Pos} {i j : Nat} {tb : WX → TS} {W0 : WX}
theorem ps_try_held (hst : X.stack = X.env :: X.outer) (hfr : X.env.frame = some X.env.locals) (nd : X.N.Nodup) (hi : X.N[i]? = some n) (hj : X.N[j]? = some m) (kn : X.env.kindOf n = some .local) (km : X.env.scope.names.lookup m = some .local) (hij : i ≠ j) (hc : Names X x c) (tk : Takes X W0)
    (hdn : (n == ("__debug__" : Str)) = false) (hcn : (n == ("__classdict__" : Str)) = false)
    (hsw : swapsWith (.Name n pn) (some (.Name m pm)) pa.line X.env = pure false)
    (hb : ∀ (W : WX) (pins : List (Addr × Obj)) (xe : Value → Shared → Prop), Takes (X.tr pins xe) W → PassesOwn (model X.prog X.w) X.A X.env xe → PSs (X.tr pins xe) body (tb W)) :
    PS X (.Try body [.ExceptHandler (some (.Name x px)) (some n) [.Assign [.Name m pm] (.Name n pn) pa] ph] [] [] pos) (fun D σ H => tb (wHeld X.K c i j W0 D) D σ H) := by
  refine ⟨fun pins s0 σ0 H0 D I0 h0 => ?_⟩
  have ok := I0.ok
  have frames : X.A.frames = some (X.env :: X.outer) := ok.frames.trans (congrArg some hst)
  generalize ecl : ExceptHandler.ExceptHandler (some (.Name x px)) (some n) [.Assign [.Name m pm] (.Name n pn) pa] ph = cl
  refine wpAny_Try_except ?_
  have caught : ∀ u s', XE (X.tr (X.pn ++ pins) fun e s₁ => wpAny (model X.prog X.w) X.A (noteFrame e X.env) (fun _ s₂ => wpAny (model X.prog X.w) X.A (setFlight e none) (fun _ s₃ => wpAny (model X.prog X.w) X.A (handleBy e X.env [cl]) (SP X pins D) X.xe s₃) X.xe s₂) X.xe s₁) (wHeld X.K c i j W0 D) u s' →
      wpAny (model X.prog X.w) X.A (noteFrame u X.env) (fun _ s₂ => wpAny (model X.prog X.w) X.A (setFlight u none) (fun _ s₃ => wpAny (model X.prog X.w) X.A (handleBy u X.env [cl]) (SP X pins D) X.xe s₃) X.xe s₂) X.xe s' := by
    rintro u s' ⟨a, G, t, q0, σ1, H1, cls, d, rfl, Jt, ground, up0, sky, na, eos, eg, b, e1, yes, no⟩
    have J : Inv X pins σ1 H1 t := Jt.ofTry ok
    rw [show (X.tr (X.pn ++ pins) _).stack = X.stack from rfl, hst] at sky
    refine Sky.land Zc.steady frames hfr sky fun h1 fly1 up1 => ?_
    have J1 : Inv X pins σ1 H1 { s' with heap := h1 } := J.landed ground fly1.1 (up0.trans up1) eos eg
    obtain ⟨o1, w1, g1, z1, f1⟩ := fly1.there
    have offFr : a ∉ frs (X.env :: X.outer) := fun z => by
      obtain ⟨_, o, e, nf⟩ := (show h1.FunFrames G (X.env :: X.outer) from fly1.2.2.1).mem z
      rw [g1] at e
      cases e
      exact nf _ f1
    have nl : a ≠ X.env.locals := fun z => offFr (List.mem_filterMap.mpr ⟨X.env, .head _, hfr.trans (congrArg some z.symm)⟩)
    have nf : a ∉ X.fs := fun z => by
      obtain ⟨e, he, q⟩ := List.mem_filterMap.mp z
      exact offFr (List.mem_filterMap.mpr ⟨e, .tail _ he, q⟩)
    have Gn : G.get? a = none := fly1.2.1
    have inG : ∀ {b : Addr} {o : Obj}, t.heap.get? b = some o → b ≠ X.env.locals → b ∉ X.fs → b ≠ a := fun {b o} e k1 k2 z => by
      have e2 := ground b o e fun hm => (List.mem_cons.mp (J.stkSub b hm)).elim k1 k2
      rw [z, Gn] at e2
      cases e2
    have new : ∀ o, X.s_0.heap.get? a = some o → X.H_0 a = none → a ∉ X.ex → False := fun o e n0 hx => inG (J.base.keep a o e n0 nf hx) nl nf rfl
    have np : ∀ q ∈ X.pn ++ pins, q.1 ≠ a := fun q hq => by
      obtain ⟨p1, _, p3, p4, _⟩ := J.pin q hq
      exact inG p1 p3 p4
    have I1 := J1.suite g1 f1 na nl nf
    rw [← ecl]
    refine wpAny_handleBy_cons (codeAny_handlers_test ?_) (fun z => by cases z)
    have ty : PySem.W.Looks (model X.prog X.w) h1 (typeOf (.ref a)) cls := fun A Q E s k q => wpAny_typeOf_ref (k _ _ g1) (by rw [z1.1]; exact q)
    have is := PySem.W.exm_one (M := model X.prog X.w) J1.kIn ty e1
    have name : ∀ {Q : Value → Shared → Prop} {E : Value → Shared → Prop}, Q c { s' with heap := h1 } → wpAny (model X.prog X.w) (X.A.mark (some (.ref a))) (eval (.Name x px) X.env) Q E { s' with heap := h1 } := fun {Q E} q => by
      obtain ⟨k1, k2, k3⟩ := hc
      rcases k3 with k3 | ⟨k3, k4, k5⟩
      · exact ld_glob (X := X.suite a ((a, o1) :: (X.pn ++ pins))) I1 k1 k3 q k2
      · exact ld_blt (X := X.suite a ((a, o1) :: (X.pn ++ pins))) I1 k1 k3 k4 q k5 k2
    refine name (is.here ?_)
    cases b with
    | false =>
      show wpAny _ X.A (handleBy (.ref a) X.env []) _ _ _
      refine wpAny_handleBy_nil ?_
      have fly := fly1
      obtain ⟨_, _, _, oe, us, T, oT, ws, r1, r2, r3, r4, r5⟩ := fly
      have go : wpAny (model X.prog X.w) X.A (setFlight (.ref a) X.env.frame) (fun _ u => wpAny (model X.prog X.w) X.A (throw (.ref a) : Sem Flow) (SP X pins D) X.xe u) X.xe { s' with heap := h1 } := by
        rw [hfr]
        refine HandSPX.setFlight_upZ fly1 fun h2 held up2 => wpAny_throw (tk _ _ ⟨a, G, t, pins, σ1, H1, cls, d, rfl, J, ground, (up0.trans up1).trans up2, ?_, na, eos, eg, no rfl⟩)
        rw [hst]
        exact .inr (.inr held)
      unfold PySem.passOn
      refine wpAny_bind (wpAny_field r1 r3 r4 ?_)
      rw [if_neg (by simp : ¬ ((Value.ref T == Value.none) = true))]
      first
        | exact wpAny_bind go
        | exact wpAny_bind (wpAny_pure (wpAny_bind go))
    | true =>
      obtain ⟨C, dd, rfl, rfl, hd⟩ := yes rfl
      refine codeAny_handlers_suite_as (HandSPX.lands_againZ fly1 fun h2 fly2 up2 => ?_)
      have J2 : Inv X pins σ1 H1 { s' with heap := h2 } := J.landed ground fly2.1 ((up0.trans up1).trans up2) eos eg
      obtain ⟨o2, w2, g2, z2, f2⟩ := fly2.there
      have I2 := J2.suite g2 f2 na nl nf
      refine store_ok (X := X.suite a ((a, o2) :: (X.pn ++ pins))) (v := .ref a) I2 nd hi (.inl kn) rfl (fun s3 I3 => ?_) (.inr kn)
      have run : PSs (X.suite a ((a, o2) :: (X.pn ++ pins))) [.Assign [.Name m pm] (.Name n pn) pa] (tAsg (tVar i) (gName j)) := pss_one (ps_set (X := X.suite a ((a, o2) :: (X.pn ++ pins))) nd hj (.inl km) (pe_var hi (.inl kn) hdn hcn) hsw (.inr km))
      have li : i < X.N.length := (List.getElem?_eq_some_iff.mp hi).1
      refine wpAny_mono (run.run [] s3 _ H1 { nx := fun σ H => σ = (σ1.set i (some (.ref a))).set j (some (.ref a)) ∧ H = H1, rt := fun _ _ => False, bk := fun _ _ => False, ct := fun _ _ => False } I3 ⟨.ref a, by rw [List.getElem?_set_self (by rw [J.len]; exact li)], rfl, rfl⟩) (fun fl s4 q => ?_) fun _ _ z => z.elim
      cases fl with
      | next =>
        obtain ⟨σ4, H4, I4, e4, e5⟩ := q
        subst e4 e5
        obtain ⟨g4, _⟩ := I4.pin (a, o2) (List.mem_append_left _ (.head _))
        have J4 := I4.unsuite ok
        have J5 := inv_told (φ := fun h => ∃ o vs, h.get? a = some o ∧ o.cls = .ref C ∧ o.dict = some dd ∧ o.data = .fields vs) J4 na new nl (fun y u e z => ?_) np fun K => ⟨⟨o2, w2, g4, z2.1, z2.2, f2⟩, ⟨o2, g4⟩, fun h3 h4 ⟨o, vs, k1, k2⟩ st => ⟨o, vs, st _ k1, k2⟩⟩
        · exact gone_ok J5 nd hi kn fun s5 J6 => ⟨_, _, J6, hd a na⟩
        · obtain ⟨v, o, k1, k2⟩ := J4.cell y u e
          rw [z, g4] at k1
          cases k1
          rw [f2] at k2
          cases k2
      | brk =>
        obtain ⟨_, _, _, z⟩ := q
        exact False.elim z
      | cont =>
        obtain ⟨_, _, _, z⟩ := q
        exact False.elim z
      | ret u =>
        obtain ⟨_, _, _, _, _, z⟩ := q
        exact False.elim z
  refine wpAny_mono ((hb (wHeld X.K c i j W0 D) (X.pn ++ pins) _ caught PassesOwn.looking).run [] s0 σ0 H0 D (I0.toTry _) h0) (fun fl s1 q => ?_) fun e s1 q => q
  cases fl with
  | next =>
    obtain ⟨σ1, H1, J, q⟩ := q
    exact wpAny_execs_nil ⟨σ1, H1, J.ofTry ok, q⟩
  | brk =>
    obtain ⟨σ1, H1, J, q⟩ := q
    exact ⟨σ1, H1, J.ofTry ok, q⟩
  | cont =>
    obtain ⟨σ1, H1, J, q⟩ := q
    exact ⟨σ1, H1, J.ofTry ok, q⟩
  | ret u =>
    obtain ⟨v, σ1, H1, J, r, q⟩ := q
    exact ⟨v, σ1, H1, J.ofTry ok, r, q⟩
end
end Held
namespace DL
open PySem PySem.Spec PyProof.Rows L2 Evl Held
variable [TabC]
def upEX (K : PySem.W.Frag) (B : Bs) (d : XD → DE) (W : WX) : TE := fun σ H Q => ∃ ρ Hd G R RX, At K B σ H ρ Hd G ∧ d RX ρ G R ∧ KE K B.f Hd R Q ∧ KX K B.f Hd RX fun cls dd H' => W cls dd σ H'
def dTryH (i j : Nat) (cs : List Str) (dX : XD → DE) : DS := fun E ρ G => dX (fun C ns xs G' => C ∈ cs ∧ E.nx (((ρ.set i (some (.exc C ns xs))).set j (some (.exc C ns xs))).set i none) G') ρ G fun _ G' => E.nx ρ G'
section
variable {X : Cx} {B : Bs} {x n m : Str} {c : Value} {e : Expr} {px pn pm pa pe ph pos : Pos} {i j : Nat} {dX : XD → DE} {cs : List Str}
theorem psd_tryH (hcs : ∀ C ∈ cs, PySem.W.exmOne X.K (.ref (He.ga X.K C)) c = some true) (hst : X.stack = X.env :: X.outer) (hfr : X.env.frame = some X.env.locals) (nd : X.N.Nodup) (hi : X.N[i]? = some n) (hj : X.N[j]? = some m) (kn : X.env.kindOf n = some .local) (km : X.env.scope.names.lookup m = some .local) (hij : i ≠ j) (hc : Names X x c)
    (hb : ∀ (W : WX) (pins : List (Addr × Obj)) (xe : Value → Shared → Prop), Takes (X.tr pins xe) W → PE (X.tr pins xe) e (upEX X.K B dX W))
    (hdn : (n == ("__debug__" : Str)) = false := by decide) (hcn : (n == ("__classdict__" : Str)) = false := by decide) (hsw : swapsWith (.Name n pn) (some (.Name m pm)) pa.line X.env = pure false := by rfl) (hse : swapsWith e none pe.line X.env = pure false := by rfl) :
    PS X (.Try [.Expr e pe] [.ExceptHandler (some (.Name x px)) (some n) [.Assign [.Name m pm] (.Name n pn) pa] ph] [] [] pos) (upS X.K B (dTryH i j cs dX)) :=
  ps_imp (ps_try_held (tb := fun W => tDrop (upEX X.K B dX W)) hst hfr nd hi hj kn km hij hc (W0 := fun _ _ _ _ => False) LamX.takes0 hdn hcn hsw fun W pins xe tk _ => pss_one (ps_expr (hb W pins xe tk) hse)) fun D σ H ⟨ρ, Hd, G, E, at_, h, k⟩ => by
    refine ⟨ρ, Hd, G, _, _, at_, h, fun v H' Hd' y G' ee s' _ q => k.nx σ H' Hd' ρ G' ee (at_.e.mono ee) s' q, fun C d H' Hd' ns vs xs G' ee s' hd hl rl q => ?_⟩
    obtain ⟨hC, q⟩ := q
    refine ⟨true, hcs C hC, fun _ => ⟨He.ga X.K C, d, rfl, rfl, fun a na => ?_⟩, fun z => by cases z⟩
    obtain ⟨s2, e2⟩ := s'.fields hd
    have ra : Rp X.K (upd (upd Hd' d (.xd (List.zip ns vs))) a (exh a (He.ga X.K C) d)) (.ref a) (.exc C ns xs) := by
      refine .exc upd_same ?_ hl (rl.mono (e2.trans (s2.exn na)))
      rw [upd_ne (fun z => by rw [← z, hd] at na; cases na), upd_same]
    have e3 : Ex (upd Hd' d (.xd (List.zip ns vs))) (upd (upd Hd' d (.xd (List.zip ns vs))) a (exh a (He.ga X.K C) d)) := s2.exn na
    have re := at_.e.mono (ee.trans (e2.trans e3))
    exact k.nx _ _ _ _ G' (ee.trans (e2.trans e3)) (((re.set i ra).set j ra).unset i) (s2.new na) q
end
structure IsC (K : PySem.W.Frag) (mg : Str → Option Value) (es : List Str) (sub : Str → Str → Bool) (fl : List Str) : Prop where
  e : ∀ C ∈ es, ∀ D ∈ es, PySem.W.kitOne K (.ref (He.ga K C)) (.ref (He.ga K D)) = some (sub C D)
  t : ∀ t ∈ ["NoneType", "bool", "int", "str", "tuple", "list", "dict"], ∀ D ∈ es, PySem.W.kitOne K (.type t) (.ref (He.ga K D)) = some false
  m : ∀ C ∈ es, ∀ D ∈ es, PySem.W.exmOne K (.ref (He.ga K C)) (.ref (He.ga K D)) = some (sub C D)
  x : ∀ C ∈ es, ExcC K (He.ga K C)
  f : ∀ C ∈ es, XfC K (He.ga K C)
  n : ∀ C ∈ es, ∀ f ∈ fl, PySem.W.findIn K (.ref (He.ga K C)) f = some none
  g : ∀ C ∈ es, mg C = some (.ref (He.ga K C))
theorem excB_ok {K : PySem.W.Frag} {C : Addr} (h : excB K C = true) : XfC K C ∧ ExcC K C := by
  obtain ⟨h1, h⟩ := He.ba h
  obtain ⟨h2, h⟩ := He.ba h
  obtain ⟨h3, h⟩ := He.ba h
  obtain ⟨h4, h5⟩ := He.ba h
  have xf := xfB_ok h1
  exact ⟨xf, ⟨xf.ga, xf.gg, xf.exC, xf.hdC, He.eqO_ok h2, He.eqO_ok h3, of_decide_eq_true h4, of_decide_eq_true h5⟩⟩
theorem isB_ok {K : PySem.W.Frag} {h : Heap} {mg : Str → Option Value} {es : List Str} {sub : Str → Str → Bool} {fl : List Str} (X : K.In h) (G : h.Ns mainGlobals mg) (b : isB K es sub fl = true) : IsC K mg es sub fl := by
  have key := List.all_eq_true.mp b
  refine ⟨fun C hC D hD => ?_, fun t ht C hC => ?_, fun C hC D hD => ?_, fun C hC => ?_, fun C hC => ?_, fun C hC f hf => ?_, fun C hC => ?_⟩ <;> obtain ⟨h1, z⟩ := He.ba (key C hC) <;> obtain ⟨h2, z⟩ := He.ba z <;> obtain ⟨h3, z⟩ := He.ba z <;> obtain ⟨h4, h5⟩ := He.ba z
  · exact of_decide_eq_true (He.ba (List.all_eq_true.mp h5 D hD)).1
  · exact of_decide_eq_true (List.all_eq_true.mp h4 t ht)
  · exact of_decide_eq_true (He.ba (List.all_eq_true.mp h5 D hD)).2
  · exact (excB_ok h2).2
  · exact (excB_ok h2).1
  · exact He.eqO_ok (List.all_eq_true.mp h3 f hf)
  · exact PySem.W.mg_of X G (He.eqO_ok h1)
def TyY (K : PySem.W.Frag) (H : Hp) (v : V) (t : Value) : Prop := TyX K H v t ∨ ∃ a C d fs, v = .ref a ∧ t = .ref C ∧ H a = some (exh a C d) ∧ H d = some (.xd fs) ∧ ExcC K C
section
variable {X : Cx} {B : Bs} {pins : List (Addr × Obj)} {σ : L2.St} {H : Hp} {s : Shared} {p pos q : Pos} {e : Expr} {es : List Expr} {da : DE} {x : Str} {cl fl : List Str} {sub : Str → Str → Bool}
theorem exh_at {a C d : Addr} {fs : List (Str × V)} (I : Inv X pins σ H s) (ha : H a = some (exh a C d)) (hd : H d = some (.xd fs)) : ∃ (o : Obj) (od : Obj) (m : Str → Option Value), PySem.W.InstAt s.heap a o C (some od) ∧ (∀ y, RelO (fs.lookup y) (m y)) ∧ ∀ y, PySem.W.lookIn y od = some (m y) := by
  obtain ⟨⟨o, us, e1, e2, e3, e4⟩, _, _⟩ := I.hok a _ ha
  obtain ⟨m, hns, hr⟩ := (show ObjOk X.prog X.w H s.heap d (.xd fs) from I.hok d _ hd)
  obtain ⟨od, ho, hl⟩ := lookIn_ns hns
  exact ⟨o, od, m, ⟨e1, e2, by unfold PySem.W.notCls; rw [e4] <;> rfl, by rw [e3]; exact ho⟩, hr, hl⟩
theorem kit_ofY {v : V} {u t : Value} (I : Inv X pins σ H s) (r : RelV v u) (ty : TyY X.K H v t) : ∃ P : Heap → Prop, PySem.W.KitX X.K u t P ∧ P s.heap ∧ u ≠ .builtin "__main__.__loader__#opaque" := by
  rcases ty with ty | ⟨a, C, d, fs, rfl, rfl, ha, hd, E⟩
  · exact kit_of I r ty
  · cases (show u = Value.ref a from r)
    obtain ⟨o, od, m, J, _, _⟩ := exh_at I ha hd
    have cl : (PySem.W.clsIn X.K C).isSome = true := by
      obtain ⟨cd, hc, _⟩ := PySem.W.any_some E.hd
      rw [hc]
      rfl
    exact ⟨_, PySem.W.kitx_exc cl E.hg E.hk E.hs E.ha E.hn E.ht E.hm, J, fun z => nomatch z⟩
def rIsY (K : PySem.W.Frag) : List V → Hp → VK → Prop := fun xs H Q => ∃ (v c : V) (t u : Value) (b : Bool), xs = [v, c] ∧ ClsV c u ∧ TyY K H v t ∧ PySem.W.kitOne K t u = some b ∧ Q (.bl b) H
theorem call_isY : CallR X (.builtin "isinstance") (rIsY X.K) := by
  intro pins s σ H xs us Q I r ⟨v, c, t, u, b, e1, k, ty, e, hq⟩
  subst e1
  obtain ⟨w1, w2, e2, r1, r2⟩ := vals2 r
  subst e2
  cases k.eq r2
  obtain ⟨P, Z, hp, hn⟩ := kit_ofY I r1 ty
  exact PySem.W.kia_one Z I.kIn hp e hn fun tk => ⟨.bl b, H, I.tok tk, rfl, hq⟩
def tOwn (K : PySem.W.Frag) (cs : List Str) : TA := fun _ H Q => Q (cs.map fun C => V.ref (He.ga K C)) H
theorem pow_nil : PA X [] (tOwn X.K []) := pa_imp pa_nil fun _ _ _ h => h
theorem pow_cons {C : Str} {cs : List Str} (hg : Gl X C) (hm : X.mg C = some (.ref (He.ga X.K C))) (hr : PA X es (tOwn X.K cs)) (hd : (C == ("__debug__" : Str)) = false := by decide) (hs : starEach (.Name C q :: es) X.env = (false, eval (.Name C q) X.env) :: starEach es X.env := by rfl) :
    PA X (.Name C q :: es) (tOwn X.K (C :: cs)) := pa_imp (pa_cons (pe_glob (v := .ref (He.ga X.K C)) hg hm rfl hd) hr hs) fun _ _ _ h => h
def isO (cl : List Str) (sub : Str → Str → Bool) (cs : List Str) (x : D) : Option Bool := match x with
  | .exc C _ _ => if C ∈ cl then some (cs.any (sub C)) else none
  | x => if x.tyn.isSome then some false else none
theorem is_own {K : PySem.W.Frag} {mg : Str → Option Value} {F : Gm} {Hd H : Hp} {G : Gm} {v : V} {y : D} {b : Bool} {cs : List Str} (T : IsC K mg cl sub fl) (hcs : ∀ C ∈ cs, C ∈ cl) (s : Sim K F Hd H G) (r : Rp K Hd v y) (h : isO cl sub cs y = some b) :
    ∃ t, TyY K H v t ∧ PySem.W.kitAny K t (cs.map fun C => Value.ref (He.ga K C)) = some b := by
  have no : ∀ t ∈ ["NoneType", "bool", "int", "str", "tuple", "list", "dict"], ∀ l : List Str, (∀ C ∈ l, C ∈ cl) → PySem.W.kitAny K (.type t) (l.map fun C => Value.ref (He.ga K C)) = some false := fun t ht l => by
    induction l with
    | nil => exact fun _ => rfl
    | cons C l ih => exact fun hl => kitAny_cons (T.t t ht C (hl C List.mem_cons_self)) (fun _ => ih fun D hD => hl D (List.mem_cons_of_mem _ hD)) fun z => by cases z
  have own : ∀ C ∈ cl, ∀ l : List Str, (∀ D ∈ l, D ∈ cl) → PySem.W.kitAny K (.ref (He.ga K C)) (l.map fun D => Value.ref (He.ga K D)) = some (l.any (sub C)) := fun C hC l => by
    induction l with
    | nil => exact fun _ => rfl
    | cons D l ih =>
      intro hl
      refine kitAny_cons (T.e C hC D (hl D List.mem_cons_self)) (fun z => ?_) fun z => ?_
      · rw [List.any_cons, z, Bool.false_or]
        exact ih fun D hD => hl D (List.mem_cons_of_mem _ hD)
      · rw [List.any_cons, z, Bool.true_or]
  have base : ∀ t, y.tyn = some t → b = false → ∃ t, TyY K H v t ∧ PySem.W.kitAny K t (cs.map fun C => Value.ref (He.ga K C)) = some b := fun t ht hb => by
    rw [hb]
    exact ⟨_, .inl (ty_of s r ht), no t (tyn_in ht) cs hcs⟩
  have fin : (if y.tyn.isSome = true then some false else none) = some b → ∃ t, TyY K H v t ∧ PySem.W.kitAny K t (cs.map fun C => Value.ref (He.ga K C)) = some b := fun h => by
    cases q : y.tyn with
    | none =>
      rw [q] at h
      cases h
    | some t =>
      rw [q] at h
      exact base t q (Option.some.inj h).symm
  cases y with
  | exc C ns xs =>
    unfold isO at h
    dsimp only at h
    by_cases hC : C ∈ cl
    · rw [if_pos hC] at h
      cases h
      cases r with
      | exc ha hd _ _ => exact ⟨_, .inr ⟨_, _, _, _, rfl, rfl, s.sub _ _ ha, s.sub _ _ hd, T.x C hC⟩, own C hC cs hcs⟩
    · rw [if_neg hC] at h
      cases h
  | _ => exact fin h
def dIsO (cl : List Str) (sub : Str → Str → Bool) (cs : List Str) (da : DE) : DE := fun ρ G R => da ρ G fun y G1 => ∃ b, isO cl sub cs y = some b ∧ R (.bl b) G1
theorem pd_isO {C : Str} (T : IsC X.K X.mg cl sub fl) (hC : C ∈ cl) (hx : x = "isinstance") (hg : Gl X x) (hm : X.mg x = none) (hgC : Gl X C) (ha : PE X e (upE X.K B da)) (hd : (C == ("__debug__" : Str)) = false := by decide)
    (he : starEach (e :: [.Name C q]) X.env = (false, eval e X.env) :: starEach [.Name C q] X.env := by rfl) (he2 : starEach ((.Name C q) :: []) X.env = (false, eval (.Name C q) X.env) :: starEach [] X.env := by rfl) (hpl : (backTo pos (starEach [.Name C q] X.env)).any (·.1) = false := by rfl) :
    PE X (.Call (.Name x p) (e :: [.Name C q]) [] pos) (upE X.K B (dIsO cl sub [C] da)) := by
  subst hx
  refine pe_imp (pe_callB call_isY hg hm (by decide +kernel) (pa_cons ha (pow_cons hgC (T.g C hC) pow_nil hd he2) he) (by decide) (by decide) he hpl) fun σ H Q ⟨ρ, Hd, G, R, at_, h, k⟩ => ?_
  refine ⟨ρ, Hd, G, _, at_, h, fun v H1 Hd1 y G1 e1 s1 r1 ⟨b, eb, hr⟩ => ?_⟩
  obtain ⟨t, ty, kt⟩ := is_own (cs := [C]) T (fun D hD => by cases List.mem_singleton.mp hD; exact hC) s1 r1 eb
  refine ⟨v, _, t, _, b, rfl, .own _, ty, ?_, k _ H1 Hd1 _ G1 e1 s1 (.bl b) hr⟩
  unfold PySem.W.kitAny at kt
  simp only [List.map] at kt
  revert kt
  cases z : PySem.W.kitOne X.K t (Value.ref (He.ga X.K C)) with
  | none => exact fun kt => by cases kt
  | some w =>
    cases w with
    | true => exact fun kt => kt
    | false => exact fun kt => kt
def dXf (cl : List Str) (f : Str) (da : DE) : DE := fun ρ G R => da ρ G fun y G1 => ∃ C ns xs z, y = .exc C ns xs ∧ C ∈ cl ∧ (ns.zip xs).lookup f = some z ∧ R z G1
theorem rpl_lookup {K : PySem.W.Frag} {H : Hp} {f : Str} {z : D} : ∀ {ns : List Str} {vs : List V} {xs : List D}, RpL K H vs xs → (ns.zip xs).lookup f = some z → ∃ v, (ns.zip vs).lookup f = some v ∧ Rp K H v z
  | [], _, _, _, h => by cases h
  | _ :: _, _, _, .nil, h => by cases h
  | n :: ns, _, _, .cons (v := v) a b, h => by
    rw [List.zip_cons_cons, List.lookup_cons] at h
    rw [List.zip_cons_cons, List.lookup_cons]
    cases q : (f == n) with
    | true =>
      rw [q] at h
      cases h
      exact ⟨v, rfl, a⟩
    | false =>
      rw [q] at h
      exact rpl_lookup b h
theorem pd_xf {f : Str} (T : IsC X.K X.mg cl sub fl) (hf : f ∈ fl) (ha : PE X e (upE X.K B da)) (hb : attributeBase e f X.env (eval e X.env) = eval e X.env := by rfl) : PE X (.Attribute e f pos) (upE X.K B (dXf cl f da)) := by
  refine ⟨fun pins s σ H Q I ⟨ρ, Hd, G, R, at_, h, k⟩ => attr_of hb (thn (ha.run pins s σ H (fun v H1 => ∃ Hd1 C ns xs z G1, Ex Hd Hd1 ∧ Sim X.K B.f Hd1 H1 G1 ∧ Rp X.K Hd1 v (.exc C ns xs) ∧ C ∈ cl ∧ (ns.zip xs).lookup f = some z ∧ R z G1) I ⟨ρ, Hd, G, _, at_, h, fun v H1 Hd1 y G1 e1 s1 r1 ⟨C, ns, xs, z, ey, hC, hl, hr⟩ => ?_⟩) fun u s1 hh => ?_)⟩
  · subst ey
    exact ⟨Hd1, C, ns, xs, z, G1, e1, s1, r1, hC, hl, hr⟩
  · obtain ⟨v, H1, I1, rv, Hd1, C, ns, xs, z, G1, e1, s1, r1, hC, hl, hr⟩ := hh
    cases r1 with
    | exc h1 h2 h3 h4 =>
      rename_i a d us
      cases (show u = Value.ref a from rv)
      obtain ⟨o, od, m, J, hm, hlk⟩ := exh_at I1 (s1.sub _ _ h1) (s1.sub _ _ h2)
      obtain ⟨w, ew, rw_⟩ := rpl_lookup h4 hl
      obtain ⟨u, hu, ru⟩ := RelO.some_of (v := w) (o := m f) (by rw [← ew]; exact hm f)
      have xf := T.f C hC
      exact HandSPX.exc_get I1.kIn J xf.ga xf.gg xf.exC (PySem.W.findObj_own xf.hdC (T.n C hC f hf) rfl (by rw [hlk, hu])) (handed_of ru) ⟨w, H1, I1.tok _, ru, k w H1 Hd1 z G1 e1 s1 rw_ hr⟩
end
end DL
namespace Act
open PySem PySem.Spec PySem.Calls PyProof.Rows L2 LamX PySem.W
def lamOB (N : List Str) (sc scope : Scope) (bs : List Str) : Bool :=
  decide (scope.kind = .function) && (!scope.isCoroutine && (!scope.isGenerator && (scope.names.all (fun y => !decide (y.2 = .cell)) && (scope.names.all (fun y => !decide (y.2 = .local) || !decide (y.1 ∈ N)) && (scope.names.all (fun y => !decide (y.2 = .free) || (decide (sc.names.lookup y.1 = some .cell) || decide (sc.names.lookup y.1 = some .free))) && bs.all fun x => decide (scope.names.lookup x = some .local))))))
theorem lamO_by {N : List Str} {sc scope : Scope} {bs : List Str} (h : lamOB N sc scope bs = true) : LamO N sc scope bs := by
  unfold lamOB at h
  simp only [Bool.and_eq_true, Bool.or_eq_true, Bool.not_eq_true', decide_eq_true_eq, decide_eq_false_iff_not, List.all_eq_true] at h
  obtain ⟨h1, h2, h3, h4, h5, h6, h7⟩ := h
  exact ⟨h1, h2, h3, h4, fun y hy e => (h5 y hy).resolve_left fun z => z e, fun y hy e => (h6 y hy).resolve_left fun z => z e, h7⟩
section
variable {X : Cx} {pins : List (Addr × Obj)} {σ : L2.St} {H HZ : Hp} {s s1 : Shared} {c P : Addr} {params : Arguments} {body : Expr} {scope : Scope} {pos : Pos} {bs : List Str} {f c' : Addr}
abbrev lq (X : Cx) : Str := X.env.qual ++ "<lambda>"
abbrev lcl (X : Cx) (scope : Scope) : List (Str × Addr) := cloFrom X.env.cells scope.names []
theorem made {dV : Value} {Q E : Value → Shared → Prop} (I : Inv X pins σ H s) (tb : TabB X.base X.mg c P) (hcode : X.env.code = .ref c) (ht : TabS H P (lq X)) (hfree : ∀ y ∈ scope.names, y.2 = .free → ∃ u, X.env.cells.lookup y.1 = some u)
    (h : ∀ (f c' : Addr) (doc pm ctv : Value) (H1 : Hp) (s1 : Shared), Inv X pins σ H1 s1 → LamH H H1 P (lq X) → (∀ b, H b = none → b < s.heap.objs.size → H1 b = none) → (∀ b o, b ≠ P → s.heap.get? b = some o → s1.heap.get? b = some o) →
      s1.heap.get? f = some (kdv_obj "<lambda>" (lq X) params (.expr body) scope (lcl X scope) dV doc pm c' ctv) → H1 f = none → f ∉ frs X.stack → H1 c' = some (CodeO c' (lq X)) → Q (.ref f) s1) :
    wpAny (model X.prog X.w) X.A (makeTail "<lambda>" (lq X) params (.expr body) scope X.env dV .none none pos pos.line) Q E s := by
  obtain ⟨ps, gP, tr, am⟩ := ht
  have gP2 : s.heap.get? P = some { cls := .none, data := .fields ps } := I.hok P _ gP
  have bP := tb.bm.keeps I.bk
  have far : ∀ {b : Addr}, s.heap.objs.size ≤ b → b ∉ frs X.stack := fun {b} hb z => (List.mem_cons.mp (I.stkSub b z)).elim (fun e => by
    have l := I.lt
    rw [← e] at l
    exact absurd l (Nat.not_lt.mpr hb)) (I.nofs hb)
  cases am2 : codeAmong pos ps.toList with
  | some cv =>
    obtain ⟨c', rfl, hc'⟩ := am pos cv am2
    refine kdv_makeTailHit (mg := X.mg) (c := c) (P := P) (ps := ps) (closure_ok hfree) I.ok.glob (I.mod.glob.keeps I.bk) hcode (tb.code.keeps I.bk) gP2 tr am2 bP fun ctv doc h' tk kp sz => ?_
    exact h h'.objs.size c' doc _ ctv H _ (I.kept (t' := tk) fun b o e => Heap.get?_push_of_some _ (kp b o e)) ⟨fun _ _ _ e => e, ps, gP, tr, am⟩ (fun _ e _ => e) (fun b o _ e => Heap.get?_push_of_some _ (kp b o e)) (Heap.get?_push_size _ rfl) (I.hok.fresh sz) (far sz) hc'
  | none =>
    refine kdv_makeTail (mg := X.mg) (c := c) (P := P) (ps := ps) (closure_ok hfree) I.ok.glob (I.mod.glob.keeps I.bk) hcode (tb.code.keeps I.bk) gP2 tr am2 tb.gP bP fun c' ctv doc h' tk but ge lt rec_ new => ?_
    obtain ⟨_, oc, us, t, e2, k1, k2, k3⟩ := rec_
    cases e2
    have sz : s.heap.objs.size ≤ h'.objs.size := Nat.le_trans ge (Nat.le_of_lt lt)
    have n1 : H c' = none := I.hok.fresh ge
    have cP : c' ≠ P := fun z => by
      rw [← z, n1] at gP
      cases gP
    have stays : ∀ b o, b ≠ P → H b = some o → upd (upd H P (.tbl (ps ++ #[rawInt pos.line, rawInt pos.col, .ref c']))) c' (CodeO c' (lq X)) b = some o := fun b o hb e => by
      rw [upd_ne (fun z => by rw [z, n1] at e; cases e), upd_ne hb]
      exact e
    have J := inv_table (t' := tk) (more := #[rawInt pos.line, rawInt pos.col, .ref c']) (c := c') (q := lq X) (h' := h'.push (kdv_obj "<lambda>" (lq X) params (.expr body) scope (lcl X scope) dV doc ((X.mg "__name__").getD .none) c' ctv)) I gP
      (fun b o hb e => Heap.get?_push_of_some _ (but b o hb e)) (Heap.get?_push_of_some _ new) ge ⟨oc, us, t, Heap.get?_push_of_some _ k1, k2, k3⟩
    have app : (ps ++ #[rawInt pos.line, rawInt pos.col, .ref c']).toList = ps.toList ++ [rawInt pos.line, rawInt pos.col, .ref c'] := by simp
    have lP : P < s.heap.objs.size := Heap.lt_size gP2
    refine h h'.objs.size c' doc _ ctv _ _ J ⟨stays, ps ++ #[rawInt pos.line, rawInt pos.col, .ref c'], ?_, ?_, fun p2 cv hcv => ?_⟩ (fun b e hb => ?_) (fun b o hb e => Heap.get?_push_of_some _ (but b o hb e)) (Heap.get?_push_size _ rfl) ?_ (far sz) upd_same
    · rw [upd_ne cP.symm, upd_same]
    · rw [app]
      exact PySem.TriplesOk_snoc _ _ _ _ tr
    · rw [app] at hcv
      rcases among_app _ tr hcv with z | z
      · obtain ⟨c0, e1, e2⟩ := am p2 cv z
        refine ⟨c0, e1, stays _ _ (fun y => ?_) e2⟩
        rw [y, gP] at e2
        exact codeO_ne ps (Option.some.inj e2).symm
      · exact ⟨c', z, upd_same⟩
    · have y1 : b ≠ c' := fun z => by
        rw [z] at hb
        exact absurd hb (Nat.not_lt.mpr ge)
      have y2 : b ≠ P := fun z => by
        rw [z, gP] at e
        cases e
      rw [upd_ne y1, upd_ne y2]
      exact e
    · have y1 : h'.objs.size ≠ c' := Nat.ne_of_gt lt
      have y2 : h'.objs.size ≠ P := Nat.ne_of_gt (Nat.lt_of_lt_of_le lP sz)
      rw [upd_ne y1, upd_ne y2]
      exact I.hok.fresh sz
def LamAt (X : Cx) (H : Hp) (s : Shared) (params : Arguments) (body : Expr) (scope : Scope) (bs : List Str) (f c' : Addr) : Prop :=
  ∃ dV doc pm ctv, s.heap.get? f = some (kdv_obj "<lambda>" (lq X) params (.expr body) scope (lcl X scope) dV doc pm c' ctv) ∧
    ∀ s1 : Shared, (∀ b o, s.heap.get? b = some o → H b = none → b ∉ frs X.stack → s1.heap.get? b = some o) →
      ∃ binds : List (Str × Value), (∀ y ∈ binds, y.1 ∈ bs) ∧ BindsTo s1 (kdv_fn "<lambda>" (lq X) params (.expr body) scope (lcl X scope) dV doc pm (.ref c') ctv) ⟨[], []⟩ binds
structure PLam (X : Cx) (c P : Addr) (params : Arguments) (body : Expr) (scope : Scope) (pos : Pos) (bs : List Str) : Prop where
  run : ∀ (pins : List (Addr × Obj)) (σ : L2.St) (H : Hp) (s : Shared) (Q : Value → Shared → Prop), Inv X pins σ H s → TabS H P (lq X) →
    (∀ (f c' : Addr) (H1 : Hp) (s1 : Shared), Inv X pins σ H1 s1 → LamH H H1 P (lq X) → LamAt X H1 s1 params body scope bs f c' → H1 f = none → f ∉ frs X.stack → H1 c' = some (CodeO c' (lq X)) → Q (.ref f) s1) →
    wpAny (model X.prog X.w) X.A (eval (.Lambda params body scope pos) X.env) Q X.xe s
theorem plam0 (tb : TabB X.base X.mg c P) (hcode : X.env.code = .ref c) (L : LamO X.N X.env.scope scope []) (hd : defaultsOf params X.env = ([], []))
    (hb : ∀ (q : Str) (cl : List (Str × Addr)) (doc pm cv ctv : Value), bindArgs (kdv_fn "<lambda>" q params (.expr body) scope cl .none doc pm cv ctv) ⟨[], []⟩ = pure []) : PLam X c P params body scope pos [] := by
  refine ⟨fun pins σ H s Q I ht h => kla_eval hd ?_⟩
  rw [makeFunction_eq]
  simp only [List.zip_nil_right, List.filterMap_nil, List.isEmpty_nil, if_true, pure_bind]
  exact made I tb hcode ht (L.has I.ok) fun f c' doc pm ctv H1 s1 I1 lh _ _ g hf hfr hc => h f c' H1 s1 I1 lh ⟨_, doc, pm, ctv, g, fun s2 _ => ⟨[], fun y z => (nomatch z), .of_eq (hb _ _ _ _ _ _)⟩⟩ hf hfr hc
theorem plam1 {x : Str} {k : Int} {j : Nat} {p0 : Pos} (tb : TabB X.base X.mg c P) (hcode : X.env.code = .ref c) (L : LamO X.N X.env.scope scope [x]) (hd : params.defaults = [.Constant (.int k) j p0]) (hk : params.kw_defaults = [])
    (hb : ∀ (T : Addr) (q : Str) (cl : List (Str × Addr)) (doc pm cv ctv u : Value), ∃ kk, bindArgs (kdv_fn "<lambda>" q params (.expr body) scope cl (.ref T) doc pm cv ctv) ⟨[], []⟩ = seqItems? (.ref T) >>= kk ∧ kk (some [u].toArray) = pure [(x, u)]) : PLam X c P params body scope pos [x] := by
  refine ⟨fun pins σ H s Q I ht h => kdv_lam (by rw [hd]; rfl) hk ?_⟩
  rw [hd]
  refine kdv_all1 (thn ((pe_int (X := X) (i := k) (pos := p0)).run pins s σ H (fun _ H1 => H1 = H) I rfl) fun u s1 ⟨v, H1, I1, _, e⟩ => kdv_all0 ?_)
  subst e
  rw [makeFunction_eq]
  simp only [List.zip_nil_right, List.filterMap_nil, List.isEmpty_nil, if_true, pure_bind, List.isEmpty_cons, Bool.false_eq_true, if_false]
  refine wpAny_bind (wpAny_newTextTuple ?_)
  have far : s1.heap.objs.size ∉ frs X.stack := fun z => (List.mem_cons.mp (I1.stkSub _ z)).elim (fun e => by
    have l := I1.lt
    rw [← e] at l
    exact absurd l (Nat.lt_irrefl _)) (I1.nofs (Nat.le_refl _))
  have I2 : Inv X pins σ H1 { s1 with heap := s1.heap.push (kdv_tup [u]) } := I1.kept (t' := s1.toks) fun b o e => Heap.get?_push_of_some _ e
  have T2 : (s1.heap.push (kdv_tup [u])).get? s1.heap.objs.size = some (kdv_tup [u]) := Heap.get?_push_size _ rfl
  have fT : H1 s1.heap.objs.size = none := I1.hok.fresh (Nat.le_refl _)
  refine made I2 tb hcode ht (L.has I2.ok) fun f c' doc pm ctv H3 s3 I3 lh nn kp g hf hfr hc => h f c' H3 s3 I3 lh ⟨_, doc, pm, ctv, g, fun s4 st => ⟨[(x, u)], fun y z => ?_, ?_⟩⟩ hf hfr hc
  · cases List.mem_singleton.mp z
    exact List.mem_singleton_self _
  · obtain ⟨ps, gP, _⟩ := ht
    obtain ⟨kk, h1, h2⟩ := hb s1.heap.objs.size (lq X) (lcl X scope) doc pm (.ref c') ctv u
    have nP : s1.heap.objs.size ≠ P := fun z => by
      rw [z, gP] at fT
      cases fT
    exact BindsTo.of_defaults (T := s1.heap.objs.size) rfl (st _ _ (kp _ _ nP T2) (nn _ fT (by rw [Heap.size_push]; exact Nat.lt_succ_self _)) far) rfl h1 h2
theorem lam_in {A : Around} {outer : List Env} {E : XK} {h1 : Heap} {tk : Nat} {binds : List (Str × Value)} (I : Inv X pins σ H s) (L : LamO X.N X.env.scope scope bs) (e0 : Env0 X.prog X.w X.K X.mg X.base A outer s1 HZ) (hd : A.handled = none)
    (un : Un (frs X.stack) [] H HZ s.heap s1.heap) (hns : h1.Ns s1.heap.objs.size fun y => binds.reverse.lookup y) (kp : ∀ b o, s1.heap.get? b = some o → h1.get? b = some o) :
    Inv (lamCx X A outer s1 HZ E scope f c') [] σ HZ { s1 with heap := h1, toks := tk } := by
  have hfree := L.has I.ok
  have sub : ∀ {y u}, (lcl X scope).lookup y = some u → X.env.cells.lookup y = some u := fun {y u} e => by
    rcases cloFrom_mem (PySem.mem_of_lookup e) with z | ⟨z1, z2⟩
    · cases z
    · obtain ⟨u1, q⟩ := hfree _ z1 rfl
      have q : X.env.cells.lookup y = some u1 := q
      have : u = u1 := by
        rw [z2, q] <;> rfl
      rw [this]
      exact q
  have has : ∀ {y}, scope.names.lookup y = some .free → ∃ u, (lcl X scope).lookup y = some u := fun {y} e => by
    have m : (y, NameKind.free) ∈ scope.names := PySem.mem_of_lookup e
    exact mem_lookup (cloFrom_has (cells := X.env.cells) (acc := []) m)
  have cells : ∀ {u : Addr} {v : Option Value}, H u = none → s.heap.IsCell u v → h1.IsCell u v := fun {u v} n ⟨o, ho, hd⟩ => by
    obtain ⟨sl, q⟩ := un.any ho n (fun z => nomatch z)
    exact ⟨_, kp _ _ q, hd⟩
  have noX : ∀ {b : Addr}, b ∉ (lamCx X A outer s1 HZ E scope f c').ex := fun {b} z => nomatch (show b ∈ ([] : List Addr) from z)
  have ok : (lamCx X A outer s1 HZ E scope f c').Ok := by
    refine ⟨e0.mod, L.kind, rfl, rfl, Nat.le_refl _, fun y z u e1 e2 => I.ok.inj y z u (sub e1) (sub e2), fun y hy => ?_, fun y u z _ => (nomatch (show false = true from z)), fun _ => hd, Around.frames_deeper e0.frames, .inr ⟨rfl, rfl⟩, fun b z => (noX z).elim, e0.bs, e0.bsz, fun b _ _ => noX, fun b z => (noX z).elim, e0.funs, e0.frf⟩
    rcases (show scope.names.lookup y = some .cell ∨ scope.names.lookup y = some .free from hy) with z | z
    · exact (L.cell _ (PySem.mem_of_lookup z) rfl).elim
    · exact has z
  refine ⟨ok, rfl, e0.bare, Un.kept kp, ⟨_, hns, fun i y v e1 e2 e3 => ?_⟩, fun y u e => ?_, e0.hok.fresh (Nat.le_refl _), fun y u e => ?_, fun q hq => (nomatch (show q ∈ ([] : List (Addr × Obj)) from hq)), e0.hok.kept kp, I.len⟩
  · rcases (show Vis scope y from e3) with z | z | z
    · exact (L.loc _ (PySem.mem_of_lookup z) rfl (List.mem_iff_getElem?.mpr ⟨i, e1⟩)).elim
    · exact (L.cell _ (PySem.mem_of_lookup z) rfl).elim
    · obtain ⟨m, hn, hl⟩ := I.loc
      have fr := L.free _ (PySem.mem_of_lookup z) rfl
      obtain ⟨w, r, q⟩ := hl i y v e1 e2 (fr.elim (fun k => .inr (.inl k)) fun k => .inr (.inr k))
      obtain ⟨u2, h2⟩ := has z
      refine ⟨w, r, .inr ⟨.inr z, u2, h2, ?_⟩⟩
      have g1 := sub h2
      rcases q with ⟨k, _⟩ | ⟨_, u3, g2, g3⟩
      · have k2 : X.env.scope.names.lookup y = some .local := k
        rcases fr with fr | fr <;> rw [show X.env.scope.names.lookup y = _ from fr] at k2 <;> cases k2
      · rw [g1] at g2
        cases g2
        exact cells (I.freeC y _ g1) g3
  · obtain ⟨w, z⟩ := I.cell y u (sub e)
    exact ⟨w, cells (I.freeC y u (sub e)) z⟩
  · obtain ⟨v, o, ho, _⟩ := I.cell y u (sub e)
    exact un.free u o ho (I.freeC y u (sub e)) (fun z => nomatch z)
theorem act_run {A : Around} {outer : List Env} {Q : VK} {E : XK} {k : Nat} {tb : TE} (I : Inv X pins σ H s) (L : LamO X.N X.env.scope scope bs) (la : LamAt X H s params body scope bs f c') (hf : H f = none) (hfr : f ∉ frs X.stack) (hr : Room (k + 1) A) (e0 : Env0 X.prog X.w X.K X.mg X.base A outer s1 HZ)
    (un : Un (frs X.stack) [] H HZ s.heap s1.heap) (hco : HZ c' = some (CodeO c' (lq X))) (hb : Room k (A.deeper (lamEnv X scope s1.heap.objs.size f c')) → PE (lamCx X A outer s1 HZ E scope f c') body tb) (h : tb σ HZ Q) :
    codeAny (model X.prog X.w) A (.call (.ref f) ⟨[], []⟩) (CR (L2.CX X.prog X.w) outer X.prog X.w HZ s1 Q E) s1 := by
  obtain ⟨dV, doc, pm, ctv, g, bd⟩ := la
  have g1 := un.keep f _ g hf hfr (fun z => nomatch z)
  obtain ⟨binds, hin, hbd⟩ := bd s1 fun b o e n hb => un.keep b o e n hb (fun z => nomatch z)
  obtain ⟨⟨oc, us, t, k1, k2, k3⟩, _, _⟩ := e0.hok c' _ hco
  refine kla_callFunE hr.depth g1 rfl L.co L.gen rfl ⟨c', oc, us, t, rfl, k1, k2, k3⟩ (hbd _ _ _ _ ?_)
  refine wpAny_newFunctionEnv (fun y hy => L.cell y hy) (fun y hy => L.bs _ (hin y hy)) (fun h1 hns hsb => ⟨?_, ?_⟩) L.kind
  · exact (e0.mod.nolimit.keeps fun b o e => (e0.bs b o e).1).fresh _ hsb
  · have kp : ∀ b o, s1.heap.get? b = some o → h1.get? b = some o := fun b o e => hsb.extBut b o (Nat.ne_of_lt (Heap.lt_size e)) (Heap.get?_push_of_some _ e)
    have J : Inv (lamCx X A outer s1 HZ E scope f c') [] σ HZ { s1 with heap := h1, toks := s1.toks + binds.length } := lam_in I L e0 hr.hd un hns kp
    refine kla_codeExpr (wpAny_mono ((hb (hr.deeper _)).run [] _ σ HZ Q J h) (fun v s2 hq => ?_) fun _ _ hq => hq)
    obtain ⟨w, H2, J2, r, q⟩ := hq
    exact ⟨w, H2, J2.os, J2.bare, J2.base, J2.hok, r, q⟩
end
end Act
namespace DL
open PySem PySem.Spec PyProof.Rows L2 Evl Act
variable [TabC]
abbrev ActD := Gm → KD → XD → Prop
def dAct (f : Addr) (act : ActD) : XD → DE := fun RX ρ G R => ρ[0]? = some (some (.ref f)) ∧ ∃ RK RXK, act G RK RXK ∧ (∀ d G', RK d G' → R d G') ∧ ∀ C ns xs G', RXK C ns xs G' → RX C ns xs G'
abbrev cxK (P : Program) (w : World) (K : PySem.W.Frag) (mg : Str → Option Value) (base : Heap) (N : List Str) (x : Str) (st : Stmt) (cdv : Value) (A : Around) (outer : List Env) (s : Shared) (H : Hp) (E : XK) : Cx := cxOf (L2.CX P w) P w K mg base N x (defScope st) (He.ga K x) cdv A outer s H E
structure KnL (P : Program) (w : World) (K : PySem.W.Frag) (mg : Str → Option Value) (base : Heap) (k : Nat) (x a : Str) (st : Stmt) (N : List Str) (TT : ActD → Gm → KD → Prop) : Prop where
  g : mg x = some (.ref (He.ga K x))
  f : ∃ fd, FunD K x x (defArgs st) (defBody st) (defScope st) [] [] (He.ga K x) fd
  S : FnScope N [a] (defScope st)
  a0 : N[0]? = some a
  vis : Vis (defScope st) a
  body : ∀ (cdv : Value) (A : Around) (outer : List Env) (s : Shared) (H : Hp) (E : XK) (B : Bs) (f : Addr) (act : ActD), Room k (A.deeper (envOfC x (defScope st) s.heap.objs.size (He.ga K x) cdv)) → (A.deeper (envOfC x (defScope st) s.heap.objs.size (He.ga K x) cdv)).guards = some [] →
    (∀ (W : WX) (pins : List (Addr × Obj)) (xe : Value → Shared → Prop) (p1 p2 : Pos), Takes ((cxK P w K mg base N x st cdv A outer s H E).tr pins xe) W → PE ((cxK P w K mg base N x st cdv A outer s H E).tr pins xe) (.Call (.Name a p1) [] [] p2) (upEX K B (dAct f act) W)) →
    ∃ t : DS, PSs (cxK P w K mg base N x st cdv A outer s H E) (defBody st) (upS K B t) ∧ ∀ G R, TT act G R → t { nx := fun _ G => R .non G, rt := R } (some (.ref f) :: List.replicate (N.length - 1) none) G
def dLam (TT : ActD → Gm → KD → Prop) (dE : XD → DE) : DE := fun ρ G R => TT (fun G' R' RX' => dE RX' ρ G' R') G R
section
variable {X : Cx} {B : Bs} {p lpos pos : Pos} {x a : Str} {st : Stmt} {N bs : List Str} {TT : ActD → Gm → KD → Prop} {params : Arguments} {body : Expr} {scope : Scope} {c P : Addr} {dE : XD → DE} {k kl n : Nat}
theorem pd_lam (h : KnL X.prog X.w X.K X.mg X.base k x a st N TT) (hr : Room (n + 1) X.A) (h1 : k ≤ n) (h2 : kl + 1 ≤ n) (hgd : X.A.guards = some []) (hg : Gl X x)
    (hbi : ∀ (kV doc pm : Value) (an : Option Addr) (cdv ct : Value) (us : List Value), us.length = [a].length → bindArgs (PySem.W.fnOf x x (defArgs st) (defBody st) (defScope st) .none kV doc pm an cdv ct) ⟨us, []⟩ = pure ([a].zip us))
    (pl : PLam X c P params body scope lpos bs) (L : LamO X.N X.env.scope scope bs) (hP : (P, lq X) ∈ tabT X.K)
    (hb : ∀ (A : Around) (outer : List Env) (s : Shared) (H : Hp) (E : XK) (f c' : Addr) (Bz : Hp) (RX : XD), Room kl (LamX.lamCx X A outer s H E scope f c').A → (LamX.lamCx X A outer s H E scope f c').A.guards = some [] → KX X.K B.f Bz RX E → PE (LamX.lamCx X A outer s H E scope f c') body (upE X.K ⟨Bz, B.f⟩ (dE RX)))
    (hdb : (x == ("__debug__" : Str)) = false := by decide) (hda : (a == ("__debug__" : Str)) = false := by decide) (hca : (a == ("__classdict__" : Str)) = false := by decide) :
    PE X (.Call (.Name x p) [.Lambda params body scope lpos] [] pos) (upE X.K B (dLam TT dE)) := by
  refine ⟨fun pins s σ H Q I ⟨ρ, Hd, G, R, at_, hw, k0⟩ => ?_⟩
  obtain ⟨fd, FD⟩ := h.f
  have sm := at_.s
  have tabS : LamX.TabS H P (lq X) := by
    obtain ⟨ps, q1, q2, q3⟩ := (show TabD Hd H P (lq X) from sm.holdF P (.tab (lq X)) (sm.tabs (P, lq X) hP))
    exact ⟨ps, q1, q2, fun p cv z => let ⟨u, e1, e2⟩ := q3 p cv z; ⟨u, e1, sm.sub _ _ e2⟩⟩
  refine wpAny_Call_Name_kw (ld_glob I hg h.g (PySem.W.callWith_K (h₀ := X.base) I.ok.mod.kin FD.kp ?_ (by rfl) (by rfl)) hdb)
  show wpAny _ _ (spliced ((false, eval (.Lambda params body scope lpos) X.env) :: backTo pos (starEach [] X.env))) _ _ s
  refine Calls.spliced_cons (pl.run pins σ H s _ I tabS fun f c' H1 s1 I1 lh la hf hfr hco => Calls.spliced_nil ⟨I1.kIn, ?_⟩)
  have S1 := sm.table hP lh
  have e1 : Ex Hd (exts Hd H1) := ex_exts
  have bnd := FD.bindsN (ps := [a]) hbi s1 [.ref f] I1.kIn rfl
  obtain ⟨oc, od, dV, kV, doc, pm, an, cdv, ct, osl, rfl, lk, hcd, _, _⟩ := FD.ex
  have run : codeAny (model X.prog X.w) X.A (.call (.ref (He.ga X.K x)) ⟨[.ref f], []⟩) (CR (L2.CX X.prog X.w) X.stack X.prog X.w H1 s1 Q fun _ _ _ => False) s1 := by
    refine LamX.run_ofS (N := N) (ps := [a]) (us := [.ref f]) (vs := [.ref f]) (k := n) lk hcd h.S hr I1.env0 bnd (.cons rfl .nil) rfl fun hr' => ?_
    have acts : ∀ (W : WX) (pz : List (Addr × Obj)) (xe : Value → Shared → Prop) (p1 p2 : Pos), Takes ((cxK X.prog X.w X.K X.mg X.base N x st cdv X.A X.stack s1 H1 fun _ _ _ => False).tr pz xe) W → PE ((cxK X.prog X.w X.K X.mg X.base N x st cdv X.A X.stack s1 H1 fun _ _ _ => False).tr pz xe) (.Call (.Name a p1) [] [] p2) (upEX X.K ⟨exts Hd H1, B.f⟩ (dAct f fun G' R' RX' => dE RX' ρ G' R') W) := by
      intro W pz xe p1 p2 tk
      refine ⟨fun pinsZ sZ σZ HZ QZ IZ ⟨ρZ, HdZ, GZ, RZ, RXZ, atZ, ⟨h0, RK, RXK, hact, m1, m2⟩, kZ, kxZ⟩ => ?_⟩
      have hs : σZ[0]? = some (some (.ref f)) := by
        obtain ⟨v, e, r⟩ := atZ.e.2 0 _ h0
        cases r
        exact e
      refine wpAny_Call_Name_kw (thn ((pe_var (pos := p1) (i := 0) h.a0 h.vis hda hca).run pinsZ sZ σZ HZ (fun v H2 => v = .ref f ∧ H2 = HZ) IZ ⟨.ref f, hs, rfl, rfl⟩) fun u s2 ⟨v, H2, I2, r2, ev, eH⟩ => ?_)
      subst ev eH
      cases (show u = Value.ref f from r2)
      have un : Un (frs X.stack) [] H1 H2 s1.heap s2.heap := I2.base
      obtain ⟨dV2, doc2, pm2, ctv2, g, bd⟩ := la
      have g2 := un.keep f _ g hf hfr (fun z => nomatch z)
      refine PySem.W.callWith_F0 ⟨_, _, _, _, g2⟩ ?_
      have co2 : H2 c' = some (LamX.CodeO c' (lq X)) := atZ.s.sub _ _ (atZ.b _ _ (exts_in (Ex.trans ex_exts S1.sub) hco))
      have rc : codeAny (model X.prog X.w) (X.A.deeper (envOfC x (defScope st) s1.heap.objs.size (He.ga X.K x) cdv)) (.call (.ref f) ⟨[], []⟩) (CR (L2.CX X.prog X.w) (envOfC x (defScope st) s1.heap.objs.size (He.ga X.K x) cdv :: X.stack) X.prog X.w H2 s2 QZ fun cls dd H' => W cls dd σZ H') s2 :=
        act_run (X := X) (σ := σ) (tb := upE X.K ⟨HdZ, B.f⟩ (dE RXK)) (k := kl) I1 L ⟨dV2, doc2, pm2, ctv2, g, bd⟩ hf hfr (hr'.mono h2) I2.env0 un co2 (fun hrL => hb _ _ _ _ _ _ _ HdZ RXK hrL (guards_in (guards_in hgd)) fun C d H' Hd' ns vs xs G' q1 q2 q3 q4 q5 q6 => kxZ C d H' Hd' ns vs xs G' q1 q2 q3 q4 q5 (m2 _ _ _ _ q6)) ⟨ρ, HdZ, GZ, RK, ⟨Ex.refl _, at_.e.mono (e1.trans atZ.b), atZ.s⟩, hact, fun v H' Hd' y G' q1 q2 q3 q4 => kZ v H' Hd' y G' q1 q2 q3 (m1 _ _ q4)⟩
      refine wpAny_call (codeAny_mono rc fun r s3 hq => ?_)
      cases r with
      | error e => exact tk e s3 (XE.of_call I2 (fun _ _ _ h => h) hq)
      | ok fl =>
        cases fl with
        | ret u => exact I2.after hq
        | next => exact hq.elim
        | brk => exact hq.elim
        | cont => exact hq.elim
    obtain ⟨t, ht, htt⟩ := h.body cdv X.A X.stack s1 H1 (fun _ _ _ => False) ⟨exts Hd H1, B.f⟩ f (fun G' R' RX' => dE RX' ρ G' R') (hr'.mono h1) (guards_in hgd) acts
    refine ⟨_, ht, _, exts Hd H1, G, _, ⟨Ex.refl _, RpE.start (vs := [.ref f]) (ds := [.ref f]) (.cons (.ref f) .nil), S1⟩, htt G R hw, ?_⟩
    have k1 := k0.mono e1
    exact ⟨fun σ' H' Hd' ρ' G' e _ s h => k1 .non H' Hd' .non G' e s .non h, k1, fun _ _ _ _ _ _ _ _ h => h.elim, fun _ _ _ _ _ _ _ _ h => h.elim⟩
  refine wpAny_call (codeAny_mono run fun r s2 hq => ?_)
  cases r with
  | error e =>
    obtain ⟨_, _, _, _, _, _, _, _, _, _, _, _, z⟩ := hq
    exact z.elim
  | ok fl =>
    cases fl with
    | ret u => exact I1.after hq
    | next => exact hq.elim
    | brk => exact hq.elim
    | cont => exact hq.elim
end
end DL
namespace DL
open PySem PySem.Spec PyProof.Rows L2 Evl Sup
variable [TabC]
theorem SaysE.dic {q : Ask} {w : World} {h : Heap} {K : PySem.W.Frag} (c : SaysE q w h K) (i : Nat) {t : He.Tab} (ht : q.ts[i]? = some t) : He.dicW K (t.1 K) = some (He.keysIn w.params t.2) := by
  have e : q.ts.map (fun t => He.dicW K (t.1 K)) = q.ts.map fun t => some (He.keysIn w.params t.2) := congrArg (fun z : He.AlT => z.2) c.x.t
  have e2 : (q.ts.map fun t => He.dicW K (t.1 K))[i]? = (q.ts.map fun t => some (He.keysIn w.params t.2))[i]? := by rw [e]
  rw [List.getElem?_map, List.getElem?_map, ht] at e2
  exact Option.some.inj e2
theorem obsE_eq {q : Ask} {g : Addr → Option Obj} {s : Shared} (h : ∀ a, g a = s.heap.get? a) : obsE q g = (hookE q).obs s := by
  have e : g = s.heap.get? := funext h
  rw [e] <;> rfl
theorem tabOkB_ok {K : PySem.W.Frag} (h : tabOkB K = true) : TabOk K := fun p hp r hr e => by
  have z := List.all_eq_true.mp (List.all_eq_true.mp h p hp) r hr
  rw [e] at z
  simpa using z
theorem SaysE.tabF {q : Ask} {w : World} {h : Heap} {K : PySem.W.Frag} (c : SaysE q w h K) (X : K.In h) (e : TabC.tf = q.tf) (b : tabOkB K = true) : TabF K h := by
  have mem : ∀ n ∈ TabC.tf, ((n, none) : He.Defn) ∈ q.tfn := fun n hn => by
    rw [e] at hn
    exact List.mem_map_of_mem hn
  exact ⟨tabOkB_ok b, fun n hn => c.x.empty _ (mem n hn), fun n hn => c.x.out _ (mem n hn), fun n hn => PySem.W.codeHd_of_K X (c.x.hd _ (mem n hn))⟩
end DL
namespace DL
open PySem PySem.Spec PyProof.Rows L2 Evl
variable [TabC]
theorem RpL.rep {K : PySem.W.Frag} {H : Hp} {vs : List V} {ds : List D} (r : RpL K H vs ds) : ∀ n : Nat, RpL K H (List.replicate n vs).flatten (List.replicate n ds).flatten
  | 0 => .nil
  | n + 1 => by
    rw [List.replicate_succ, List.replicate_succ, List.flatten_cons, List.flatten_cons]
    exact r.app (RpL.rep r n)
end DL
namespace DL
open PySem PySem.Spec PyProof.Rows L2 Evl
variable [TabC]
section
variable {ρ : En} {G : Gm} {da : DE} {dA : DA} {E : DEnds}
theorem ds_raise1 {C f : Str} {RX : XD} {x : D} (ha : Ev da ρ G x) (hf : fmtD x) (h : RX C [f] [x] G) : dRaise C [f] [true] RX (dCons da dNil) ⟨fun _ _ => False, fun _ _ => False, fun _ _ => False, fun _ _ => False⟩ ρ G :=
  EvA.one ha _ ⟨rfl, fun p hp _ => by cases List.mem_singleton.mp hp; exact hf, h⟩
theorem dx_call {q : DSp} {RX : XD} {dA : DA} {xs : List D} {R : KD} (ha : EvA dA ρ G xs) (h : q xs G R RX) : dCall q RX dA ρ G R := ha _ h
end
def seqL : D → List D
  | .tup ds => ds
  | .lst ds => ds
  | _ => []
theorem seq_is {x : D} (h : isSeqD x = true) : x = .tup (seqL x) ∨ x = .lst (seqL x) := by
  cases x <;> first | exact .inl rfl | exact .inr rfl | cases h
theorem seqL_kn {x : D} (h : isSeqD x = true) (hk : x.kn = true) : D.knL (seqL x) = true := seq_kn (seq_is h) hk
theorem knL_all : ∀ {ds : List D}, D.knL ds = true → ∀ d ∈ ds, d.kn = true
  | [], _, _, h => by cases h
  | x :: xs, h, d, hd => by
    have h2 : (x.kn && D.knL xs) = true := h
    rw [Bool.and_eq_true] at h2
    rcases List.mem_cons.mp hd with e | e
    · rw [e]
      exact h2.1
    · exact knL_all h2.2 d e
theorem all_map (f : D → Bool) : ∀ ds : List D, (ds.map f).all id = ds.all f
  | [] => rfl
  | d :: ds => by
    rw [List.map_cons, List.all_cons, List.all_cons, all_map f ds]
    rfl
def ptOk (x : D) (w : Int) : Bool := isSeqD x && (decide (((seqL x).length : Int) = w) && (seqL x).all numD)
def sp_pointX : DSp := fun xs G R RX => ∃ x w p, xs = [x, .int w, .str p] ∧ x.kn = true ∧ p.length ≤ 10000 ∧ (seqL x).length ≤ 1000000 ∧ (ptOk x w = true → R (.tup ((seqL x).map keptD)) G) ∧ (ptOk x w = false → RX "BadPoint" ["part"] [.str p] G)
def pointXR (RX : XD) : DS := (dSeq (dIfS (dOr (dNot (dTst (dCall sp_is_list X0 (dCons (dVar 0) dNil)))) (dOr (dTst (dOp fNe (dCal fLen (dCons (dVar 0) dNil)) (dVar 1))) (dNot (dTst (dCal fAll (dCons (dCmp (dISeq (dVar 0)) (gN 3) dYes (dCall sp_is_number X0 (dCons (dVar 3) dNil)) [3]) dNil)))))) (dRaise "BadPoint" ["part"] [true] RX (dCons (dVar 2) dNil)) dNext) (dRet (dCal fTupOf (dCons (dCmp (dISeq (dVar 0)) (gN 3) dYes (dCall sp_kept_number X0 (dCons (dVar 3) dNil)) [3]) dNil))))
theorem pointX_ok (xs : List D) (G : Gm) (R : KD) (RX : XD) (h : sp_pointX xs G R RX) : pointXR RX { nx := fun _ G => R .non G, rt := R } (xs.map some ++ List.replicate (4 - xs.length) none) G := by
  obtain ⟨x, w, p, rfl, hk, hp, hl, hy, hn⟩ := h
  have hz : (seqL x).length ≤ sizeLine := by rw [sizeLine_eq]; omega
  cases q1 : isSeqD x with
  | false =>
    refine ds_if (k := true) (.orT ((EvT.not (.tst (.isList (.var rfl) hk))).cast (by rw [q1]; rfl))) (ds_raise1 (.var rfl) hp (hn ?_))
    unfold ptOk
    rw [q1]
    rfl
  | true =>
    have sh := seq_is q1
    have at_ : ∀ {G : Gm}, SeqAt G x (seqL x) := fun {G} => seq_at sh
    have kk := knL_all (seqL_kn q1 hk)
    have f1 : EvT (dNot (dTst (dCall sp_is_list X0 (dCons (dVar 0) dNil)))) [some x, some (.int w), some (.str p), none] G false := (EvT.not (.tst (.isList (.var rfl) hk))).cast (by rw [q1]; rfl)
    cases q2 : decide (((seqL x).length : Int) = w) with
    | false =>
      refine ds_if (k := true) (.orF f1 (.orT ((EvT.tst (.neI (.len (.var rfl) at_) (.var rfl))).cast (by rw [q2]; rfl)))) (ds_raise1 (.var rfl) hp (hn ?_))
      unfold ptOk
      rw [q1, q2]
      rfl
    | true =>
      have f2 : EvT (dTst (dOp fNe (dCal fLen (dCons (dVar 0) dNil)) (dVar 1))) [some x, some (.int w), some (.str p), none] G false := (EvT.tst (.neI (.len (.var rfl) at_) (.var rfl))).cast (by rw [q2]; rfl)
      have hall : Ev (dCmp (dISeq (dVar 0)) (gN 3) dYes (dCall sp_is_number X0 (dCons (dVar 3) dNil)) [3]) [some x, some (.int w), some (.str p), none] G (.lst (((seqL x).map numD).map D.bl)) := by
        rw [List.map_map]
        exact Ev.lcSeq (fun d => .bl (numD d)) (.var rfl) sh.symm (fun y hy => .isNumber (.var rfl) (kk y hy)) hz
      have f3 : EvT (dNot (dTst (dCal fAll (dCons (dCmp (dISeq (dVar 0)) (gN 3) dYes (dCall sp_is_number X0 (dCons (dVar 3) dNil)) [3]) dNil)))) [some x, some (.int w), some (.str p), none] G (!(seqL x).all numD) := (EvT.not (.tst (.all hall))).cast (by rw [all_map])
      have e : ptOk x w = (seqL x).all numD := by
        unfold ptOk
        rw [q1, q2]
        rfl
      refine ds_if (.orF f1 (.orF f2 f3)) ?_
      cases q3 : (seqL x).all numD with
      | false => exact ds_raise1 (.var rfl) hp (hn (by rw [e]; exact q3))
      | true => exact ds_ret (.tupOf (.lcSeq keptD (.var rfl) sh.symm (fun y hy => .call (.one (.var rfl)) fun R r => ⟨y, rfl, kk y hy, r⟩) hz) seq_lst) (hy (by rw [e]; exact q3))
theorem point_len : (("point" : Str)).length ≤ 10000 := by decide
theorem pickE {ρ : En} {a : Addr} {i : Nat} {dl : DE} {P : D → Prop} {ds : List D} (hi : ρ[i]? = some (some (.ref a))) (he : ∀ G, Ev dl ρ G (.lst ds)) (h1 : ds ≠ []) (h2 : ds.length ≤ 1000000) (hp : ∀ y ∈ ds, P y) : Drw (dCall spPick X0 (dCons (dVar i) (dCons dl dNil))) ρ a (0 + 1) P :=
  .pick hi (.ev he ⟨ds, .inl rfl, h1, h2, hp⟩)
theorem Ev.isO {ρ : En} {G : Gm} {da : DE} {cl cs : List Str} {sub : Str → Str → Bool} {y : D} {b : Bool} (ha : Ev da ρ G y) (h : isO cl sub cs y = some b) : Ev (dIsO cl sub cs da) ρ G (.bl b) := fun R r => ha _ ⟨b, h, r⟩
theorem Ev.xf {ρ : En} {G : Gm} {da : DE} {cl : List Str} {f C : Str} {ns : List Str} {xs : List D} {z : D} (ha : Ev da ρ G (.exc C ns xs)) (hC : C ∈ cl) (h : (ns.zip xs).lookup f = some z) : Ev (dXf cl f da) ρ G z := fun R r => ha _ ⟨C, ns, xs, z, rfl, hC, h, r⟩
theorem isO_exc {C : Str} {cl cs ns : List Str} {sub : Str → Str → Bool} {xs : List D} (h : C ∈ cl) : isO cl sub cs (.exc C ns xs) = some (cs.any (sub C)) := if_pos h
theorem to_next {E : DEnds} {ρ : En} {G : Gm} (h : E.nx ρ G) : dNext E ρ G := h
end DL
namespace DL
open PySem PySem.Spec PyProof.Rows L2 Evl
variable [TabC]
section
variable {X : Cx} {B : Bs} {pos p : Pos} {e : Expr} {es : List Expr} {dA : DA}
end
end DL
namespace DL
open PySem PySem.Spec PyProof.Rows L2 Evl
variable [TabC]
def CDivZ (_ j : Int) : Prop := j ≠ 0 ∧ j.natAbs.log2 < 9000
theorem op_fdivZ {X : Cx} : OpR X (binaryOp .FloorDiv) (rI CDivZ fun i j => .int (Int.fdiv i j)) := opI fun i j _ _ _ _ _ hc q => floordiv_int hc.1 q (.inl (PyProof.noPylong_of_log2 hc.2))
theorem pd_fdivZ {X : Cx} {B : Bs} {pos : Pos} {a b : Expr} {da db : DE} (ha : PE X a (upE X.K B da)) (hb : PE X b (upE X.K B db)) : PE X (.BinOp a .FloorDiv b pos) (upE X.K B (dOp (fIntC CDivZ fun i j => .int (Int.fdiv i j)) da db)) := pd_op op_fdivZ od_intC ha hb
theorem divZ_ok {i j : Int} (h : j ≠ 0) (hb : j.natAbs < 2 ^ 8000) : CDivZ i j := ⟨h, Nat.lt_of_lt_of_le (PySem.Flt.log2_lt_of (by decide) hb) (by decide)⟩
theorem dvd_gcd1 {d n e : Int} (h : d ∣ n * e) (c : Int.gcd d n = 1) : d ∣ e := by
  have h2 := Int.natAbs_dvd_natAbs.mpr h
  rw [Int.natAbs_mul] at h2
  have c2 : Nat.Coprime d.natAbs n.natAbs := c
  exact Int.natAbs_dvd_natAbs.mp (c2.dvd_of_dvd_mul_left h2)
theorem pair_eq {n d m e : Int} (hd : 0 < d) (he : 0 < e) (g1 : Int.gcd n d = 1) (g2 : Int.gcd m e = 1) (h : n * e = m * d) : n = m ∧ d = e := by
  have c1 : Int.gcd d n = 1 := by rw [Int.gcd_comm]; exact g1
  have c2 : Int.gcd e m = 1 := by rw [Int.gcd_comm]; exact g2
  have d1 : d ∣ e := dvd_gcd1 (show d ∣ n * e from ⟨m, by rw [h, Int.mul_comm]⟩) c1
  have d2 : e ∣ d := dvd_gcd1 (show e ∣ m * d from ⟨n, by rw [← h, Int.mul_comm]⟩) c2
  have q : d = e := Int.dvd_antisymm (by omega) (by omega) d1 d2
  subst q
  exact ⟨Int.eq_of_mul_eq_mul_right (by omega) h, rfl⟩
theorem lowZ_eq {a u b v : Int} (hu : u ≠ 0) (hv : v ≠ 0) (h : a * v = b * u) : lowZ a u = lowZ b v := by
  obtain ⟨n, d, s0, _, ea, eu, d0, g1, l1⟩ := lowZ_facts (a := a) hu
  obtain ⟨m, e, t0, _, eb, ev, e0, g2, l2⟩ := lowZ_facts (a := b) hv
  generalize sgZ a u = s at *
  generalize sgZ b v = t at *
  have k : (s * t) * (n * e) = (s * t) * (m * d) := by
    rw [ea, eu, eb, ev] at h
    grind
  have k2 := Int.eq_of_mul_eq_mul_left (Int.mul_ne_zero s0 t0) k
  obtain ⟨q1, q2⟩ := pair_eq d0 e0 g1 g2 k2
  rw [l1, l2, q1, q2]
def lowZR : DS := (dSeq (dSet 2 (dIf (dTst (dOp (fInt gGt) (dVar 1) (dC (.int 0)))) (dCall sp_common X0 (dCons (dVar 0) (dCons (dVar 1) dNil))) (dNeg (dCall sp_common X0 (dCons (dVar 0) (dCons (dVar 1) dNil)))))) (dRet (dIf (dTst (dOp fEq (dOp (fIntC CDivZ fun i j => .int (Int.fdiv i j)) (dVar 1) (dVar 2)) (dC (.int 1)))) (dOp (fIntC CDivZ fun i j => .int (Int.fdiv i j)) (dVar 0) (dVar 2)) (dTup (dCons (dOp (fIntC CDivZ fun i j => .int (Int.fdiv i j)) (dVar 0) (dVar 2)) (dCons (dOp (fIntC CDivZ fun i j => .int (Int.fdiv i j)) (dVar 1) (dVar 2)) dNil))))))
theorem Ev.divZ {ρ : En} {G : Gm} {da db : DE} {i j k : Int} (ha : Ev da ρ G (.int i)) (hb : Ev db ρ G (.int j)) (hc : CDivZ i j) (e : i = j * k) : Ev (dOp (fIntC CDivZ fun i j => .int (Int.fdiv i j)) da db) ρ G (.int k) := by
  have q : Int.fdiv i j = k := by
    rw [e]
    exact Int.mul_fdiv_cancel_left k hc.1
  have r := Ev.intC (C := CDivZ) (g := fun i j => .int (Int.fdiv i j)) ha hb hc
  rw [q] at r
  exact r
theorem lowZ_ok (xs : List D) (G : Gm) (R : KD) (RX : XD) (h : sp_lowZ xs G R RX) : lowZR { nx := fun _ G => R .non G, rt := R } (xs.map some ++ List.replicate (3 - xs.length) none) G := by
  obtain ⟨a, u, rfl, hu, hu2, h⟩ := h
  obtain ⟨n, d, s0, sl, ea, eu, d0, g1, l1⟩ := lowZ_facts (a := a) hu
  have cz : ∀ i, CDivZ i (sgZ a u) := fun i => divZ_ok s0 (Nat.lt_of_le_of_lt sl hu2)
  refine ds_set (x := .int (sgZ a u)) ?_ ?_
  · by_cases hp : 0 < u
    · rw [show sgZ a u = (Int.gcd a u : Int) from if_pos hp]
      exact .ifT ((EvT.tst (.gt (.var rfl) .c)).cast (decide_eq_true hp)) (.common (.var rfl) (.var rfl))
    · rw [show sgZ a u = -(Int.gcd a u : Int) from if_neg hp]
      exact .ifF ((EvT.tst (.gt (.var rfl) .c)).cast (decide_eq_false hp)) (.neg (.common (.var rfl) (.var rfl)))
  · rw [l1] at h
    generalize sgZ a u = s at *
    refine ds_ret (x := pairZ n d) (.chosen (.tst (.eqI (.divZ (.var rfl) (.var rfl) (cz u) eu) .c)) (fun hk => ?_) fun hk => ?_) h
    · unfold pairZ
      rw [if_pos (of_decide_eq_true hk)]
      exact .divZ (.var rfl) (.var rfl) (cz a) ea
    · unfold pairZ
      rw [if_neg (of_decide_eq_false hk)]
      exact .tup (.cons (.divZ (.var rfl) (.var rfl) (cz a) ea) (.one (.divZ (.var rfl) (.var rfl) (cz u) eu))) (show 2 ≤ sizeLine by decide)
end DL
namespace DL
open PySem PySem.Spec PyProof.Rows L2 Evl
variable [TabC]
theorem num_cop {x : D} (h : numD x = true) : Int.gcd (numI x).1 (numI x).2 = 1 := by
  have key : ∀ ds : List D, ratD (pairD ds) = true → Int.gcd ((pairD ds).getD (0, 1)).1 ((pairD ds).getD (0, 1)).2 = 1 := by
    intro ds hr
    cases q : pairD ds with
    | none =>
      rw [q] at hr
      cases hr
    | some p =>
      obtain ⟨a, b⟩ := p
      rw [q] at hr
      have h2 : (decide (2 ≤ b) && decide (Int.gcd a b = 1)) = true := hr
      rw [Bool.and_eq_true] at h2
      exact of_decide_eq_true h2.2
  cases x with
  | int i => exact Int.gcd_one_right i
  | tup ds => exact key ds h
  | lst ds => exact key ds h
  | _ => cases h
theorem lowZ_cop {p q : Int} (hq : 0 < q) (hg : Int.gcd p q = 1) : lowZ p q = pairZ p q := by
  obtain ⟨n, d, s0, _, ea, eu, d0, g1, l1⟩ := lowZ_facts (a := p) (show q ≠ 0 by omega)
  have es : sgZ p q = 1 := (if_pos hq).trans (by rw [hg]; rfl)
  rw [es, Int.one_mul] at ea eu
  rw [l1, ← ea, ← eu]
theorem lowZ_bn {a u : Int} {k : Nat} (hu : u ≠ 0) (h : a.natAbs < 2 ^ k) (h' : u.natAbs < 2 ^ k) : Bn k (lowZ a u) := by
  obtain ⟨n, d, s0, _, ea, eu, d0, g1, l1⟩ := lowZ_facts (a := a) hu
  unfold Bn
  rw [l1, numI_pair]
  generalize sgZ a u = s at *
  have ha : a.natAbs = s.natAbs * n.natAbs := by rw [ea, Int.natAbs_mul]
  have hu' : u.natAbs = s.natAbs * d.natAbs := by rw [eu, Int.natAbs_mul]
  have hs : 1 ≤ s.natAbs := by omega
  have h1 : n.natAbs ≤ s.natAbs * n.natAbs := Nat.le_mul_of_pos_left _ hs
  have h2 : d.natAbs ≤ s.natAbs * d.natAbs := Nat.le_mul_of_pos_left _ hs
  exact ⟨show n.natAbs < 2 ^ k by omega, show d.natAbs < 2 ^ k by omega⟩
def plusZ (x y : D) : D := lowZ ((numI x).1 * (numI y).2 + (numI y).1 * (numI x).2) ((numI x).2 * (numI y).2)
def minusZ (x y : D) : D := lowZ ((numI x).1 * (numI y).2 - (numI y).1 * (numI x).2) ((numI x).2 * (numI y).2)
def timesZ (x y : D) : D := lowZ ((numI x).1 * (numI y).1) ((numI x).2 * (numI y).2)
def sp_2 (k : Nat) (f : D → D → D) : DSp := fun xs G R _ => ∃ x y : D, xs = [x, y] ∧ numD x = true ∧ numD y = true ∧ Bn k x ∧ Bn k y ∧ R (f x y) G
def halvesA (t : DS) : DS := (dSeq (dAsg (dTup (dCons (dCall sp_halves X0 (dCons (dVar 0) dNil)) (dCons (dCall sp_halves X0 (dCons (dVar 1) dNil)) dNil))) (gSeq 2 (gCons (gSeq 2 (gCons (gN 2) (gCons (gN 3) gNil))) (gCons (gSeq 2 (gCons (gN 4) (gCons (gN 5) gNil))) gNil)))) t)
theorem halvesA_ok {x y : D} {t : DS} {E : DEnds} {G : Gm} (nx : numD x = true) (ny : numD y = true) (h : t E [some x, some y, some (.int (numI x).1), some (.int (numI x).2), some (.int (numI y).1), some (.int (numI y).2)] G) : halvesA t E [some x, some y, none, none, none, none] G := by
  obtain ⟨ex, px⟩ := num_half nx
  obtain ⟨ey, py⟩ := num_half ny
  refine ds_asg (.tup (.cons (.halves (.var rfl) nx) (.one (.halves (.var rfl) ny))) (show 2 ≤ sizeLine by decide)) ?_
  rw [ex, ey]
  refine ⟨_, seq_tup, rfl, _, _, rfl, ⟨_, seq_tup, rfl, _, _, rfl, _, _, rfl, rfl, ?_⟩⟩
  refine ⟨_, _, rfl, ⟨_, seq_tup, rfl, _, _, rfl, _, _, rfl, rfl, ?_⟩⟩
  exact ⟨rfl, h⟩
theorem bn_mul {x y : Int} (hx : x.natAbs < 2 ^ 3000) (hy : y.natAbs < 2 ^ 3000) : (x * y).natAbs < 2 ^ 8000 := by
  rw [Int.natAbs_mul]
  refine Nat.lt_of_lt_of_le (Nat.mul_lt_mul'' hx hy) ?_
  rw [← Nat.pow_add]
  exact Nat.pow_le_pow_right (by decide) (by decide)
def plusZR : DS := halvesA (dRet (dCall sp_lowZ X0 (dCons (dOp fAdd (dOp (fIntC IntMulOk fun i j => .int (i * j)) (dVar 2) (dVar 5)) (dOp (fIntC IntMulOk fun i j => .int (i * j)) (dVar 4) (dVar 3))) (dCons (dOp (fIntC IntMulOk fun i j => .int (i * j)) (dVar 3) (dVar 5)) dNil))))
theorem plusZ_ok (xs : List D) (G : Gm) (R : KD) (RX : XD) (h : sp_2 3000 plusZ xs G R RX) : plusZR { nx := fun _ G => R .non G, rt := R } (xs.map some ++ List.replicate (6 - xs.length) none) G := by
  obtain ⟨x, y, rfl, nx, ny, bx, by_, h⟩ := h
  have px := (num_half nx).2
  have py := (num_half ny).2
  refine halvesA_ok nx ny ?_
  exact ds_ret (.lowZ (.add (.mul (.var rfl) (.var rfl) (mul_both bx.1 by_.2 (by decide))) (.mul (.var rfl) (.var rfl) (mul_both by_.1 bx.2 (by decide)))) (.mul (.var rfl) (.var rfl) (mul_both bx.2 by_.2 (by decide))) (Int.mul_ne_zero (by omega) (by omega)) (bn_mul bx.2 by_.2)) h
def timesZR : DS := halvesA (dRet (dCall sp_lowZ X0 (dCons (dOp (fIntC IntMulOk fun i j => .int (i * j)) (dVar 2) (dVar 4)) (dCons (dOp (fIntC IntMulOk fun i j => .int (i * j)) (dVar 3) (dVar 5)) dNil))))
theorem timesZ_ok (xs : List D) (G : Gm) (R : KD) (RX : XD) (h : sp_2 3000 timesZ xs G R RX) : timesZR { nx := fun _ G => R .non G, rt := R } (xs.map some ++ List.replicate (6 - xs.length) none) G := by
  obtain ⟨x, y, rfl, nx, ny, bx, by_, h⟩ := h
  have px := (num_half nx).2
  have py := (num_half ny).2
  refine halvesA_ok nx ny ?_
  exact ds_ret (.lowZ (.mul (.var rfl) (.var rfl) (mul_both bx.1 by_.1 (by decide))) (.mul (.var rfl) (.var rfl) (mul_both bx.2 by_.2 (by decide))) (Int.mul_ne_zero (by omega) (by omega)) (bn_mul bx.2 by_.2)) h
def minusZR : DS := (dRet (dCall (sp_2 3000 plusZ) X0 (dCons (dVar 0) (dCons (dCall (sp_2 3000 timesZ) X0 (dCons (dVar 1) (dCons (dNeg (dC (.int 1))) dNil))) dNil))))
theorem timesZ_neg {y : D} (ny : numD y = true) : timesZ y (.int (-1)) = pairZ (-(numI y).1) (numI y).2 := by
  show lowZ ((numI y).1 * -1) ((numI y).2 * 1) = _
  rw [Int.mul_one, show (numI y).1 * -1 = -(numI y).1 by omega]
  exact lowZ_cop (num_half ny).2 (by rw [Int.neg_gcd]; exact num_cop ny)
theorem minusZ_ok (xs : List D) (G : Gm) (R : KD) (RX : XD) (h : sp_2 3000 minusZ xs G R RX) : minusZR { nx := fun _ G => R .non G, rt := R } (xs.map some ++ List.replicate (2 - xs.length) none) G := by
  obtain ⟨x, y, rfl, nx, ny, bx, by_, h⟩ := h
  have e := timesZ_neg ny
  have py := (num_half ny).2
  have e1 : Ev (dCall (sp_2 3000 timesZ) X0 (dCons (dVar 1) (dCons (dNeg (dC (.int 1))) dNil))) [some x, some y] G (timesZ y (.int (-1))) :=
    .call (.cons (.var rfl) (.one (.neg .c))) fun R r => ⟨y, .int (-1), rfl, ny, rfl, by_, ⟨Nat.lt_of_lt_of_le (show (-1 : Int).natAbs < 2 ^ 1 by decide) (Nat.pow_le_pow_right (by decide) (by decide)), Nat.lt_of_lt_of_le (show (1 : Int).natAbs < 2 ^ 1 by decide) (Nat.pow_le_pow_right (by decide) (by decide))⟩, r⟩
  rw [e] at e1
  have em : plusZ x (pairZ (-(numI y).1) (numI y).2) = minusZ x y := by
    unfold plusZ minusZ
    rw [numI_pair]
    show lowZ ((numI x).1 * (numI y).2 + -(numI y).1 * (numI x).2) ((numI x).2 * (numI y).2) = _
    rw [Int.neg_mul, ← Int.sub_eq_add_neg]
  refine ds_ret (x := minusZ x y) (.call (.cons (.var rfl) (.one e1)) fun R r => ⟨x, _, rfl, nx, numD_pair py (by rw [Int.neg_gcd]; exact num_cop ny), bx, ?_, by rw [em]; exact r⟩) h
  unfold Bn
  rw [numI_pair]
  exact ⟨by show (-(numI y).1).natAbs < _; rw [Int.natAbs_neg]; exact by_.1, by_.2⟩
end DL
namespace DL
open PySem PySem.Spec PyProof.Rows L2 Evl
variable [TabC]
end DL
namespace DL
open PySem PySem.Spec PyProof.Rows L2 Evl
variable [TabC]
end DL
namespace DL
open PySem PySem.Spec PyProof.Rows L2 Evl
variable [TabC]
theorem cz_low {a u : Int} {k : Nat} (hu : u ≠ 0) (h : a.natAbs < 2 ^ k) (h' : u.natAbs < 2 ^ k) : Cz k (lowZ a u) := by
  obtain ⟨n, d, s0, _, ea, eu, d0, g1, l1⟩ := lowZ_facts (a := a) hu
  have b := lowZ_bn hu h h'
  rw [l1] at b
  unfold Bn at b
  rw [numI_pair] at b
  exact ⟨n, d, l1, d0, g1, b.1, b.2⟩
theorem Cz.num {k : Nat} {x : D} (h : Cz k x) : numD x = true := by
  obtain ⟨n, d, rfl, d0, g, _⟩ := h
  exact numD_pair d0 g
theorem Cz.bn {k : Nat} {x : D} (h : Cz k x) : Bn k x := by
  obtain ⟨n, d, rfl, d0, g, h1, h2⟩ := h
  unfold Bn
  rw [numI_pair]
  exact ⟨h1, h2⟩
theorem Cz.kn {k : Nat} {x : D} (h : Cz k x) : x.kn = true := by
  obtain ⟨n, d, rfl, _⟩ := h
  unfold pairZ
  split <;> rfl
theorem Cz.self {k : Nat} {x : D} (h : Cz k x) : lowZ (numI x).1 (numI x).2 = x := by
  obtain ⟨n, d, rfl, d0, g, _⟩ := h
  rw [numI_pair]
  exact lowZ_cop d0 g
theorem Cz.kept {k : Nat} {x : D} (h : Cz k x) : keptD x = x := by
  obtain ⟨n, d, rfl, _⟩ := h
  unfold pairZ
  split <;> rfl
theorem p1800 : 2 ^ 1800 < 10 ^ 560 := by decide +kernel
theorem Cz.sm {x : D} (h : Cz 1800 x) : Sm 1 3 x := by
  obtain ⟨n, d, rfl, d0, g, h1, h2⟩ := h
  have hn : Sm 0 1 (.int n) := .int (Nat.lt_trans h1 p1800)
  have hd : Sm 0 1 (.int d) := .int (Nat.lt_trans h2 p1800)
  unfold pairZ
  split
  · exact hn.mono (by decide) (by decide)
  · exact (Sm.tup (d := 0) (s := 1) (xs := [.int n, .int d]) fun x hx => by
      simp only [List.mem_cons, List.mem_nil_iff, or_false] at hx
      rcases hx with rfl | rfl
      · exact hn
      · exact hd)
section
variable {a b c d : Int} {X Y F S : D}
theorem Rat.cross (h : Rat a b X F) : (numI X).1 * b = a * (numI X).2 := by
  rw [h.x]
  exact (lowZ_num h.b0).2.2
theorem plus_minus (nx : 0 < (numI X).2) (ny : 0 < (numI Y).2) (hY : lowZ (numI Y).1 (numI Y).2 = Y) (fX : numI F = numI X) (fY : numI S = numI Y) : minusZ (plusZ X S) F = Y := by
  have hP : Rat ((numI X).1 * (numI Y).2 + (numI Y).1 * (numI X).2) ((numI X).2 * (numI Y).2) (plusZ X S) (plusZ X S) := ⟨Int.mul_ne_zero (by omega) (by omega), by unfold plusZ; rw [fY], rfl⟩
  have q0 := hP.pos
  have e := hP.cross
  rw [← hY]
  unfold minusZ
  rw [fX]
  generalize numI (plusZ X S) = p at *
  generalize numI X = x at *
  generalize numI Y = y at *
  obtain ⟨p, q⟩ := p
  obtain ⟨n1, d1⟩ := x
  obtain ⟨n2, d2⟩ := y
  dsimp only at *
  refine lowZ_eq (Int.mul_ne_zero (by omega) (by omega)) (by omega) ?_
  have k : (p * d1 - n1 * q) * d2 = p * (d1 * d2) - n1 * q * d2 := by grind
  rw [k, e]
  grind
end
end DL
namespace DL
open PySem PySem.Spec PyProof.Rows L2 Evl
section
variable {M : Model} {A : Around} {E : Value → Shared → Prop} {s : Shared} {base : Heap} {env : Env} {outer l : List Env} {L e : Addr} {Z : Obj → Prop}
end
section
variable {X : Cx}
end
end DL
namespace DL
open PySem PySem.Spec PyProof.Rows L2 Evl
variable [TabC]
section
variable {X : Cx} {B : Bs} {pos p : Pos} {a b c e : Expr} {es : List Expr} {da db dc de : DE} {dA : DA} {ta tb : DT}
end
end DL
namespace DL
open PySem PySem.Spec PyProof.Rows L2 Evl
variable [TabC]
def putNs (f : Str) : List Str → List Str
  | [] => [f]
  | g :: r => if g = f then g :: r else g :: putNs f r
def putXs {α : Type} (f : Str) (z : α) : List Str → List α → List α
  | [], _ => [z]
  | _ :: _, [] => []
  | g :: r, x :: xs => if g = f then z :: xs else x :: putXs f z r xs
theorem putF_zip {f : Str} {v : V} : ∀ {ns : List Str} {vs : List V}, ns.length = vs.length → putF f v (ns.zip vs) = (putNs f ns).zip (putXs f v ns vs)
  | [], [], _ => rfl
  | g :: r, x :: xs, h => by
    show (if g = f then (g, v) :: r.zip xs else (g, x) :: putF f v (r.zip xs)) = _
    unfold putNs putXs
    by_cases q : g = f
    · rw [if_pos q, if_pos q, if_pos q]
      rfl
    · rw [if_neg q, if_neg q, if_neg q, putF_zip (by simpa using h)]
      rfl
theorem put_len {α : Type} {f : Str} {z : α} : ∀ {ns : List Str} {xs : List α}, ns.length = xs.length → (putNs f ns).length = (putXs f z ns xs).length
  | [], [], _ => rfl
  | g :: r, x :: xs, h => by
    unfold putNs putXs
    by_cases q : g = f
    · rw [if_pos q, if_pos q]
      simpa using h
    · rw [if_neg q, if_neg q, List.length_cons, List.length_cons, put_len (by simpa using h)]
theorem RpL.put {K : PySem.W.Frag} {H : Hp} {f : Str} {v : V} {z : D} (hz : Rp K H v z) : ∀ {ns : List Str} {vs : List V} {xs : List D}, RpL K H vs xs → RpL K H (putXs f v ns vs) (putXs f z ns xs)
  | [], _, _, _ => .cons hz .nil
  | _ :: _, _, _, .nil => .nil
  | g :: r, _, _, .cons a b => by
    unfold putXs
    by_cases q : g = f
    · rw [if_pos q, if_pos q]
      exact .cons hz b
    · rw [if_neg q, if_neg q]
      exact .cons a (RpL.put hz b)
def hasC (cl : ClT) (C : Str) : Bool := cl.any fun p => p.1 == C
theorem OwC.mem {K : PySem.W.Frag} {mg : Str → Option Value} {cl : ClT} {sub : Str → Str → Bool} (T : OwC K mg cl sub) {C : Str} (h : hasC cl C = true) : ∃ p ∈ cl, p.1 = C := by
  obtain ⟨p, hp, q⟩ := List.any_eq_true.mp h
  exact ⟨p, hp, beq_iff_eq.mp q⟩
theorem owB_ok {K : PySem.W.Frag} {h : Heap} {mg : Str → Option Value} {cl : ClT} {sub : Str → Str → Bool} (X : K.In h) (G : h.Ns mainGlobals mg) (b : owB K cl sub = true) : OwC K mg cl sub := by
  obtain ⟨b1, b⟩ := He.ba b
  obtain ⟨b2, b⟩ := He.ba b
  have key := List.all_eq_true.mp b
  refine ⟨fun p hp => ?_, fun p hp => ?_, fun p hp f hf => ?_, fun p hp => ?_, He.eqO_ok b1, of_decide_eq_true b2, fun p hp => ?_, fun p hp q hq => ?_, fun t ht p hp => ?_⟩ <;> obtain ⟨h1, z⟩ := He.ba (key p hp) <;> obtain ⟨h2, z⟩ := He.ba z <;> obtain ⟨h3, z⟩ := He.ba z <;> obtain ⟨h4, z⟩ := He.ba z <;> obtain ⟨h5, z⟩ := He.ba z <;> obtain ⟨h6, h7⟩ := He.ba z
  · exact He.glo_ok X G h1
  · exact He.cls_ok h2
  · exact He.noat_ok (List.all_eq_true.mp h3 f hf)
  · exact He.eqO_ok h4
  · exact of_decide_eq_true h5
  · exact of_decide_eq_true (List.all_eq_true.mp h7 q hq)
  · exact of_decide_eq_true (List.all_eq_true.mp h6 t ht)
def dSetF (cl : ClT) (f : Str) (dv dobj : DE) : DS := fun E ρ G => dv ρ G fun z G1 => dobj ρ G1 fun y G2 => ∃ a C ns xs, y = .ref a ∧ G2 a = some (.ins C ns xs) ∧ hasF cl C f = true ∧ ns.length < 1000 ∧ E.nx ρ (gup G2 a (.ins C (putNs f ns) (putXs f z ns xs)))
section
variable {X : Cx} {B : Bs} {p pos pos' q : Pos} {e o value : Expr} {es : List Expr} {da dv dobj : DE} {dA : DA} {cl : ClT} {sub : Str → Str → Bool} {x f : Str}
theorem pd_fld (T : OwC X.K X.mg cl sub) (ha : PE X e (upE X.K B da)) (hb : attributeBase e f X.env (eval e X.env) = eval e X.env := by rfl) : PE X (.Attribute e f pos) (upE X.K B (dFld cl f da)) :=
  pe_imp (pe_fld ha hb) fun σ H Q ⟨ρ, Hd, G, R, at_, h, k⟩ =>
    ⟨ρ, Hd, G, _, at_, h, fun v H1 Hd1 y G1 e1 s1 r1 ⟨C, ns, xs, z, hi, hf, hl, hr⟩ => by
      obtain ⟨a, dx, vs, rfl, ha, hlen, rl⟩ := hi.heap s1 r1
      obtain ⟨w, ew, rw_⟩ := rpl_lookup rl hl
      obtain ⟨c, n⟩ := T.fld hf
      exact ⟨a, _, dx, _, w, rfl, ha, c, n, ew, k w H1 Hd1 z G1 e1 s1 rw_ hr⟩⟩
theorem psd_setF (T : OwC X.K X.mg cl sub) (ha : PE X o (upE X.K B dobj)) (hv : PE X value (upE X.K B dv)) (hs : swapsWith value (some (.Attribute o f pos')) pos.line X.env = pure false := by rfl) :
    PS X (.Assign [.Attribute o f pos'] value pos) (upS X.K B (dSetF cl f dv dobj)) := ps_imp (ps_fld ha hv hs) fun D σ H ⟨ρ, Hd, G, E, at_, h, k⟩ => by
  refine ⟨ρ, Hd, G, _, at_, h, fun v H1 Hd1 z G1 e1 s1 r1 h1 => ?_⟩
  refine ⟨ρ, Hd1, G1, fun y G2 => ∃ a C ns xs, y = .ref a ∧ G2 a = some (.ins C ns xs) ∧ hasF cl C f = true ∧ ns.length < 1000 ∧ E.nx ρ (gup G2 a (.ins C (putNs f ns) (putXs f z ns xs))), at_.step e1 s1, h1, fun w H2 Hd2 y G2 e2 s2 r2 ⟨a, C, ns, xs, ey, hg, hf, hz, hE⟩ => ?_⟩
  subst ey
  cases r2
  obtain ⟨dx, vs, h2, hl, rl⟩ := s2.hold a _ hg
  obtain ⟨c, n⟩ := T.fld hf
  refine ⟨a, He.ga X.K C, dx, ns.zip vs, rfl, h2, c, n, ?_, ?_⟩
  · rw [List.length_zip, ← hl, Nat.min_self]
    exact hz
  · refine k.nx σ _ Hd2 ρ _ (e1.trans e2) (at_.e.mono (e1.trans e2)) (s2.put (n := .ins C (putNs f ns) (putXs f z ns xs)) hg ⟨dx, putXs f v ns vs, ?_, put_len hl, RpL.put (r1.mono e2) rl⟩) hE
    rw [upd_same, putF_zip hl]
def isW (cl : ClT) (sub : Str → Str → Bool) (C : Str) (y : D) : Option Bool := match y with
  | .ins E _ _ => if hasC cl E = true then some (sub E C) else none
  | y => if y.tyn.isSome then some false else none
def dIsW (cl : ClT) (sub : Str → Str → Bool) (C : Str) (da : DE) : DE := fun ρ G R => da ρ G fun y G1 => ∃ b, isW cl sub C y = some b ∧ R (.bl b) G1
theorem is_ownW {K : PySem.W.Frag} {mg : Str → Option Value} {F : Gm} {Hd H : Hp} {G : Gm} {v : V} {y : D} {b : Bool} {C : Str} (T : OwC K mg cl sub) (hC : hasC cl C = true) (s : Sim K F Hd H G) (r : Rp K Hd v y) (h : isW cl sub C y = some b) :
    ∃ t, TyX K H v t ∧ PySem.W.kitOne K t (.ref (He.ga K C)) = some b := by
  obtain ⟨p, hp, rfl⟩ := T.mem hC
  have fin : (if y.tyn.isSome = true then some false else none) = some b → ∃ t, TyX K H v t ∧ PySem.W.kitOne K t (.ref (He.ga K p.1)) = some b := fun h => by
    cases q : y.tyn with
    | none =>
      rw [q] at h
      cases h
    | some t =>
      rw [q] at h
      cases h
      exact ⟨_, ty_of s r q, T.t t (tyn_in q) p hp⟩
  cases y with
  | ins E ns xs =>
    unfold isW at h
    dsimp only at h
    by_cases hE : hasC cl E = true
    · rw [if_pos hE] at h
      cases h
      obtain ⟨q, hq, rfl⟩ := T.mem hE
      cases r with
      | ins h1 _ _ => exact ⟨_, .base (.ins (s.sub _ _ h1) (T.c q hq) (T.a q hq) T.s T.k (T.m q hq)), T.e q hq p hp⟩
    · rw [if_neg hE] at h
      cases h
  | _ => exact fin h
theorem pd_isW {C : Str} (T : OwC X.K X.mg cl sub) (hC : hasC cl C = true) (hx : x = "isinstance") (hg : Gl X x) (hm : X.mg x = none) (hgC : Gl X C) (ha : PE X e (upE X.K B da)) (hd : (C == ("__debug__" : Str)) = false := by decide)
    (he : starEach (e :: [.Name C q]) X.env = (false, eval e X.env) :: starEach [.Name C q] X.env := by rfl) (he2 : starEach ((.Name C q) :: []) X.env = (false, eval (.Name C q) X.env) :: starEach [] X.env := by rfl) (hpl : (backTo pos (starEach [.Name C q] X.env)).any (·.1) = false := by rfl) :
    PE X (.Call (.Name x p) (e :: [.Name C q]) [] pos) (upE X.K B (dIsW cl sub C da)) := by
  subst hx
  have gC : X.mg C = some (.ref (He.ga X.K C)) := by
    obtain ⟨p, hp, rfl⟩ := T.mem hC
    exact T.g p hp
  refine pe_imp (pe_callB call_isi hg hm (by decide +kernel) (pa_cons ha (pa_cons (pe_glob (v := .ref (He.ga X.K C)) hgC gC rfl hd) pa_nil he2) he) (by decide) (by decide) he hpl) fun σ H Q ⟨ρ, Hd, G, R, at_, h, k⟩ => ?_
  refine ⟨ρ, Hd, G, _, at_, h, fun v H1 Hd1 y G1 e1 s1 r1 ⟨b, eb, hr⟩ => ?_⟩
  obtain ⟨t, ty, kt⟩ := is_ownW T hC s1 r1 eb
  exact ⟨v, _, t, _, b, rfl, .own _, ty, kt, k _ H1 Hd1 _ G1 e1 s1 (.bl b) hr⟩
end
section
variable {P : Program} {w : World} {K : PySem.W.Frag} {mg : Str → Option Value} {base : Heap}
structure DfM (K : PySem.W.Frag) (C m : Str) (st : Stmt) : Prop where
  f : ∃ fd, FunD K m (C ++ "." ++ m) (defArgs st) (defBody st) (defScope st) [] [] (He.ma K (He.ga K C) m) fd
theorem knm_of {C m : Str} {st : Stmt} {N ps : List Str} {k : Nat} {p : DSp} (F : ∃ fd, FunD K m (C ++ "." ++ m) (defArgs st) (defBody st) (defScope st) [] [] (He.ma K (He.ga K C) m) fd) (S : FnScope N ps (defScope st)) (len : ∀ xs G R RX, p xs G R RX → xs.length = ps.length)
    (hbody : ∀ (cdv : Value), cdv = .ref (cdAt K (He.ma K (He.ga K C) m)) → ∀ (A : Around) (outer : List Env) (s : Shared) (H : Hp) (E : XK) (B : Bs) (RX : XD), Room k (A.deeper (envOfC (C ++ "." ++ m) (defScope st) s.heap.objs.size (He.ma K (He.ga K C) m) cdv)) → (A.deeper (envOfC (C ++ "." ++ m) (defScope st) s.heap.objs.size (He.ma K (He.ga K C) m) cdv)).guards = some [] → KX K B.f B.b RX E →
      ∃ t : DS, PSs (cxOf (L2.CX P w) P w K mg base N (C ++ "." ++ m) (defScope st) (He.ma K (He.ga K C) m) cdv A outer s H E) (defBody st) (upS K B t) ∧ ∀ xs G R, p xs G R RX → t { nx := fun _ G => R .non G, rt := R } (xs.map some ++ List.replicate (N.length - xs.length) none) G) :
    KnM P w K mg base (k + 1) C m st ps p := by
  obtain ⟨fd, F⟩ := F
  refine ⟨fd, F, fng_of F S (fun vs H Q E h => ?_) fun cdv hcv A outer s H vs Q E hr hg h => ?_⟩
  · obtain ⟨xs, _, _, G, R, RX, r, _, hp, _⟩ := h
    rw [r.length]
    exact len xs G R RX hp
  · obtain ⟨xs, F, Hd, G, R, RX, r, sm, hp, ke, kx⟩ := h
    obtain ⟨t, ht, h2⟩ := hbody cdv hcv A outer s H E ⟨Hd, F⟩ RX hr hg kx
    refine ⟨_, ht, _, Hd, G, _, ⟨Ex.refl _, RpE.start r, sm⟩, h2 xs G R hp, ?_⟩
    exact ⟨fun σ' H' Hd' ρ' G' e _ s h => ke .non H' Hd' .non G' e s .non h, ke, fun _ _ _ _ _ _ _ _ h => h.elim, fun _ _ _ _ _ _ _ _ h => h.elim⟩
end
section
variable {X : Cx} {B : Bs} {apos pos : Pos} {e o : Expr} {es : List Expr} {dobj : DE} {dA : DA} {k : Nat} {f C : Addr} {m : Str} {fd : FuncData} {ps : List Str} {sp : Sp} {E : XK} {ta : TE} {t : TA} {pl : Sem Bool}
end
theorem Sim.freezeO {K : PySem.W.Frag} {F : Gm} {Hd H : Hp} {G : Gm} (S : Sim K F Hd H G) {p : Addr} {m : Mt} {o : HO} (h : G p = some m) (hx : H p = some o) : Sim K F (upd Hd p o) H (DL.gdel G p) ∧ Ex Hd (upd Hd p o) := by
  have hd := S.off p _ h
  have hf := S.gf h
  have e : Ex Hd (upd Hd p o) := Ex.new hd
  have gd : ∀ {a : Addr} {m : Mt}, DL.gdel G p a = some m → a ≠ p ∧ G a = some m := fun {a m} q => by
    unfold DL.gdel at q
    split at q
    · cases q
    · rename_i z
      exact ⟨z, q⟩
  refine ⟨⟨fun a u q => ?_, fun a m q => ?_, fun a m q => (S.hold a m (gd q).2).mono e, fun a m q => ?_, fun a m q => (S.holdF a m q).mono e, fun a m q => ?_, S.tabs⟩, e⟩
  · by_cases z : a = p
    · subst z
      rw [upd_same] at q
      cases q
      exact hx
    · rw [upd_ne z] at q
      exact S.sub a u q
  · rw [upd_ne (gd q).1]
    exact S.off a m (gd q).2
  · rw [upd_ne (ne_g q hf)]
    exact S.offF a m q
  · unfold DL.gdel
    split
    · rfl
    · exact S.apart a m q
theorem make_guards {A : Around} {C : Addr} {us : List Value} {kw : List (Str × Value)} : (A.under (.builtin "type.__call__" ⟨.ref C :: us, kw⟩)).guards = A.guards := by
  first | rfl | simp [Around.under, Code.weight, Code.isCreation, Code.isGuard, Code.isCaller, Code.frames, Code.isFrame, guardIds]
def dMake (C : Str) (q : DSp) (RX : XD) (dA : DA) : DE := fun ρ G R => dA ρ G fun xs G1 => ∀ a, G1 a = none → q (.ref a :: xs) (gup G1 a (.ins C [] [])) (fun v G2 => v = .non ∧ ∃ ns ys, G2 a = some (.ins C ns ys) ∧ R (.ins C ns ys) (DL.gdel G2 a)) (fun D ns ys G2 => RX D ns ys (DL.gdel G2 a))
theorem make_sp {K : PySem.W.Frag} {F : Gm} {Hd H : Hp} {G : Gm} {C : Str} {q : DSp} {RX : XD} {E : XK} {R : KD} {Q : VK} {vs : List V} {xs : List D} (S : Sim K F Hd H G) (r : RpL K Hd vs xs) (ke : KE K F Hd R Q) (kx : KX K F Hd RX E)
    (h : ∀ a, G a = none → q (.ref a :: xs) (gup G a (.ins C [] [])) (fun v G2 => v = .non ∧ ∃ ns ys, G2 a = some (.ins C ns ys) ∧ R (.ins C ns ys) (DL.gdel G2 a)) (fun D ns ys G2 => RX D ns ys (DL.gdel G2 a))) :
    ∀ x dx, H x = none → H dx = none → dx ≠ x → spU K q (.ref x :: vs) (upd (upd H dx (.own x)) x (.ins (He.ga K C) dx [])) (fun v H2 => v = .non ∧ Q (.ref x) H2) E := fun x dx hx hdx ne => by
  have s1 : Sim K F Hd (upd H dx (.own x)) G := S.side hdx
  have hx1 : upd H dx (.own x) x = none := by rw [upd_ne (Ne.symm ne)]; exact hx
  have s2 := s1.cell (m := .ins C [] []) (o := .ins (He.ga K C) dx []) hx1 ⟨dx, [], upd_same, rfl, .nil⟩
  refine ⟨.ref x :: xs, F, Hd, _, _, _, .cons (.ref x) r, s2, h x (S.gfree hx), fun v H' Hd' y G' e1 s3 r3 hh => ?_, fun D d H' Hd' ns ws ys G' e1 s3 hd hl rl hR => kx D d H' Hd' ns ws ys _ e1 (s3.gdel x) hd hl rl hR⟩
  obtain ⟨rfl, ns, ys, hg, hR⟩ := hh
  cases r3
  refine ⟨rfl, ?_⟩
  obtain ⟨dx2, ws, h2, hl, rl⟩ := s3.hold x _ hg
  obtain ⟨s4, e4⟩ := s3.freezeO hg h2
  exact ke (.ref x) H' _ (.ins C ns ys) _ (e1.trans e4) s4 (.ins upd_same hl (rl.mono e4)) hR
section
variable {X : Cx} {B : Bs} {p pos : Pos} {e : Expr} {es : List Expr} {dA : DA} {k : Nat} {f : Addr} {fd : FuncData} {ps : List Str} {sp : Sp} {E : XK} {t : TA}
theorem run_makeG {C : Addr} {pins : List (Addr × Obj)} {σ : L2.St} {H : Hp} {s : Shared} {Q : VK} {us us0 : List Value} {kw : List (Str × Value)} {vs : List V} (M : L2.Mk X.K C f) (F : FnG X.prog X.w X.K X.mg X.base k f fd ps sp) (hr : Room (k + 1) X.A) (hgd : X.A.guards = some [])
    (hb : ∀ (s' : Shared) (x : Addr), X.K.In s'.heap → (Value.ref x :: us).length = ps.length → BindsTo s' fd ⟨.ref x :: us0, kw⟩ (ps.zip (.ref x :: us))) (hx : Passes (L2.CX X.prog X.w) X E) (I : Inv X pins σ H s) (r : Vals vs us)
    (h : ∀ x dx, H x = none → H dx = none → dx ≠ x → sp (.ref x :: vs) (upd (upd H dx (.own x)) x (.ins C dx [])) (fun v H2 => v = .non ∧ Q (.ref x) H2) E) :
    wpAny (model X.prog X.w) X.A (call (.ref C) us0 kw) (EP X pins σ Q) X.xe s := by
  have hq := h (s.heap.objs.size + 1) s.heap.objs.size (I.hok.fresh (Nat.le_succ _)) (I.hok.fresh (Nat.le_refl _)) (Nat.ne_of_lt (Nat.lt_succ_self _))
  have I2 := Inv.made (C := C) I
  have r2 : Vals (V.ref (s.heap.objs.size + 1) :: vs) (Value.ref (s.heap.objs.size + 1) :: us) := .cons rfl r
  have hl : (Value.ref (s.heap.objs.size + 1) :: us).length = ps.length := by
    rw [← r2.length]
    exact F.len _ _ _ _ hq
  refine wpAny_call (make_map (f := f) I.kIn M.makes M.init (beq_iff_eq.mp M.fn) (codeAny_mono (F.run _ X.stack _ _ ⟨Value.ref (s.heap.objs.size + 1) :: us0, kw⟩ (Value.ref (s.heap.objs.size + 1) :: us) _ _ E (hr.make C us0 kw)
    (make_guards.trans hgd) (I2.env0.make C us0 kw) (hb _ _ I2.kIn hl) r2 hq) fun r s' hq' => ?_))
  cases r with
  | error e => exact hx pins σ _ _ e s' I2 hq'
  | ok fl =>
    cases fl with
    | ret u =>
      obtain ⟨v, H', I3, rv, ev, q3⟩ := I2.after hq'
      subst ev
      exact ⟨rv, ⟨V.ref (s.heap.objs.size + 1), H', I3, rfl, q3⟩⟩
    | next => exact False.elim hq'
    | brk => exact False.elim hq'
    | cont => exact False.elim hq'
end
end DL
namespace OwnNe
open PySem PySem.W PyProof.Rows Builtin
section
variable {prog : Program} {w : World} {A : Around} {E : Value → Shared → Prop} {s : Shared} {K : Frag} {x C f L : Addr} {ox : Obj} {od : Option Obj} {h₀ : Heap} {m : Str → Option Value} {b tb : Value}
end
end OwnNe
namespace DL
open PySem PySem.Spec PyProof.Rows L2 Evl
variable [TabC]
section
variable {X : Cx} {k : Nat} {f : Addr} {fd : FuncData} {ps : List Str} {sp : Sp} {E : XK}
end
section
variable {X : Cx} {B : Bs} {p pos : Pos} {a b e : Expr} {da db : DE} {k : Nat} {ps : List Str} {E : XK} {cl : ClT} {sub : Str → Str → Bool} {cs : List Str} {f : Addr} {fd : FuncData} {q : DSp} {RX : XD}
end
abbrev TrT := List (Str × Bool)
section
variable {X : Cx} {B : Bs} {p pos : Pos} {e : Expr} {da : DE} {k : Nat} {tb : TrT}
end
end DL
namespace Sup
open PySem PySem.Spec PySem.Calls PyProof.Rows L2 PySem.W
section
variable {P : Program} {w : World} {K : PySem.W.Frag} {mg : Str → Option Value} {base : Heap} {N ps : List Str} {x qual : Str} {scope : Scope} {f cda cc C f2 : Addr} {A : Around} {outer : List Env} {s : Shared} {H : Hp} {E E2 : XK} {params : Arguments} {body : List Stmt} {k : Nat} {sp : Sp}
end
end Sup
namespace Sup
open PySem PySem.Spec PySem.Calls PyProof.Rows L2 PySem.W
section
variable {P : Program} {w : World} {K : PySem.W.Frag} {mg : Str → Option Value} {base : Heap} {N ps : List Str} {x qual : Str} {scope : Scope} {f cda cc C f2 : Addr} {A : Around} {outer : List Env} {s : Shared} {H : Hp} {E E2 : XK} {params : Arguments} {body : List Stmt} {k : Nat} {sp : Sp}
end
end Sup
namespace DL
open PySem PySem.Spec PyProof.Rows L2 Evl Sup
variable [TabC]
section
variable {P : Program} {w : World} {K : PySem.W.Frag} {mg : Str → Option Value} {base : Heap}
theorem KnM.toI {k : Nat} {C : Str} {st : Stmt} {ps : List Str} {p : DSp} (h : KnM P w K mg base k C "__init__" st ps p) : KnI P w K mg base k C st ps p := by
  obtain ⟨fd, F, G⟩ := h.fn
  obtain ⟨oc, od, dV, kV, doc, pm, an, cdv, ct, osl, rfl, lk, hcd, hD, hK⟩ := F.ex
  rcases hD with ⟨_, rfl⟩ | ⟨z, _⟩
  · exact ⟨_, G, rfl, rfl⟩
  · exact absurd rfl z
end
section
variable {X : Cx} {B : Bs} {p pos : Pos} {e : Expr} {es : List Expr} {dA : DA} {k : Nat} {ps : List Str} {E : XK}
theorem pd_makeI {C : Str} {st : Stmt} {q : DSp} {RX : XD} (h : KnI X.prog X.w X.K X.mg X.base k C st ps q) (M : L2.Mk X.K (He.ga X.K C) (He.ma X.K (He.ga X.K C) "__init__")) (hm : X.mg C = some (.ref (He.ga X.K C))) (hr : Room (k + 1) X.A) (hgd : X.A.guards = some []) (hg : Gl X C)
    (hx : Passes (L2.CX X.prog X.w) X E) (kx : ∀ Hd, Ex B.b Hd → KX X.K B.f Hd RX E)
    (hb : ∀ fd : FuncData, fd.params = defArgs st → fd.defaults = .none → ∀ us : List Value, us.length = ps.length → bindArgs fd ⟨us, []⟩ = pure (ps.zip us))
    (ha : PA X (e :: es) (upA X.K B dA)) (hdb : (C == ("__debug__" : Str)) = false := by decide) (he : starEach (e :: es) X.env = (false, eval e X.env) :: starEach es X.env := by rfl) (hpl : (backTo pos (starEach es X.env)).any (·.1) = false := by rfl) :
    PE X (.Call (.Name C p) (e :: es) [] pos) (upE X.K B (dMake C q RX dA)) := by
  obtain ⟨fd, G, f1, f2⟩ := h.fn
  refine ⟨fun pins s σ H Q I ⟨ρ, Hd, G0, R, at_, h0, k0⟩ => ?_⟩
  refine wpAny_Call_Name_kw (ld_glob I hg hm ?_ hdb)
  refine PySem.W.callWith_K (h₀ := X.base) I.ok.mod.kin M.kp (thn (ha.run pos pins s σ H (fun vs H1 => ∀ x dx, H1 x = none → H1 dx = none → dx ≠ x → spU X.K q (.ref x :: vs) (upd (upd H1 dx (.own x)) x (.ins (He.ga X.K C) dx [])) (fun v H2 => v = .non ∧ Q (.ref x) H2) E) I
    ⟨ρ, Hd, G0, _, at_, h0, fun vs H1 Hd1 xs G1 e1 s1 r1 h1 => make_sp s1 r1 (k0.mono e1) (kx Hd1 (at_.b.trans e1)) h1⟩) fun us s1 hh => ?_) he hpl
  obtain ⟨vs, H1, I1, r, q1⟩ := hh
  exact ⟨I1.kIn, run_makeG M G hr hgd (fun s' x hk hl => .of_eq (hb fd f1 f2 (.ref x :: us) hl)) hx I1 r q1⟩
end
section
variable {X : Cx} {B : Bs} {pos : Pos} {o : Expr} {to : TE} {dobj : DE} {f : Str} {cl : ClT} {sub : Str → Str → Bool}
end
end DL
namespace DL
open PySem PySem.Spec PyProof.Rows L2 Evl Sup
variable [TabC]
def fAddT (x y z : D) : Prop := ∃ xs ys, x = .tup xs ∧ y = .tup ys ∧ xs.length + ys.length ≤ sizeLine ∧ z = .tup (xs ++ ys)
theorem od_addT {K : PySem.W.Frag} : OpD K (rCatA K) fAddT := fun F Hd H G v u x y z Q s rv ru ⟨xs, ys, ex, ey, hz, ez⟩ k => by
  subst ex ey ez
  cases rv with
  | tup q r =>
    cases ru with
    | tup q' r' =>
      rename_i a vs b us
      have nz : ∀ {vs : List V} {ds : List D}, RpL K Hd vs ds → (vs = [] ↔ ds = []) := fun r => by
        cases r with
        | nil => simp
        | cons _ _ => simp
      refine ⟨_, _, _, _, rfl, rfl, ex_t s.sub q, ex_t s.sub q', by rw [r.length, r'.length]; exact hz, fun z => ?_, fun _ z => ?_, fun _ _ p hp => ?_⟩
      · have w := k (.ref b) H Hd (Ex.refl _) s
        rw [(nz r).mp z, List.nil_append] at w
        exact w (.tup q' r')
      · have w := k (.ref a) H Hd (Ex.refl _) s
        rw [(nz r').mp z, List.append_nil] at w
        exact w (.tup q r)
      · exact k _ _ _ (s.exn hp) (s.new hp) (.tup st_new ((r.app r').mono (s.exn hp)))
theorem pd_addT {X : Cx} {B : Bs} {pos : Pos} {a b : Expr} {da db : DE} (ha : PE X a (upE X.K B da)) (hb : PE X b (upE X.K B db)) : PE X (.BinOp a .Add b pos) (upE X.K B (dOp fAddT da db)) := pd_op op_catA od_addT ha hb
section
variable {X : Cx} {B : Bs} {p pos : Pos} {e o : Expr} {es : List Expr} {dA : DA} {dobj di da db : DE}
end
theorem nsIn_key {K : PySem.W.Frag} {P : Params} {a : Addr} {ks : List Str} {z : Str} (h : He.dicW K a = some (He.keysIn P ks)) (hz : z ∉ ks) : PySem.W.nsIn K a z = some none := by
  unfold He.dicW at h
  unfold PySem.W.nsIn
  cases q : K.lookup a with
  | none =>
    rw [q] at h
    cases h
  | some o =>
    obtain ⟨oc, od, dt, osl⟩ := o
    rw [q] at h
    cases oc with
    | type c =>
      cases od with
      | none =>
        cases dt with
        | dict es n =>
          dsimp only at h ⊢
          split at h
          · have h1 : es.toList.map He.keyOf = He.keysIn P ks := Option.some.inj h
            have key : ∀ (l : List DictEntry) (ks : List Str), l.map He.keyOf = He.keysIn P ks → z ∉ ks → l.find? (·.key.isStr z) = none ∧ l.any (·.refKey) = false := by
              intro l
              induction l with
              | nil => exact fun _ _ _ => ⟨rfl, rfl⟩
              | cons e r ih =>
                intro ks h hz
                cases ks with
                | nil => cases h
                | cons k ks =>
                  have h2 : He.keyOf e :: r.map He.keyOf = some (k, PyData.keyHash P k) :: He.keysIn P ks := h
                  injection h2 with h3 h4
                  obtain ⟨i1, i2⟩ := ih ks h4 fun m => hz (List.mem_cons_of_mem _ m)
                  unfold He.keyOf at h3
                  split at h3
                  · rename_i x t hx
                    have h5 := Option.some.inj h3
                    obtain ⟨h6, _⟩ := Prod.mk.inj h5
                    have nz : ¬ x = z := fun e => hz (by rw [← e, h6]; exact List.mem_cons_self)
                    have b1 : e.key.isStr z = false := by
                      rw [hx, PySem.W.isStr_of]
                      unfold Value.isStrOf
                      simpa using nz
                    have b2 : e.refKey = false := by simp [DictEntry.refKey, hx]
                    refine ⟨by rw [List.find?_cons, b1]; exact i1, by rw [List.any_cons, b2, Bool.false_or]; exact i2⟩
                  · cases h3
            obtain ⟨k1, k2⟩ := key es.toList ks h1 hz
            rw [k1]
            dsimp only
            rw [k2]
            rfl
          · cases h
        | _ => cases h
      | some b => cases dt <;> cases h
    | _ => cases od <;> cases dt <;> cases h
theorem dctk_of {K : PySem.W.Frag} {w : World} {h : Heap} {mg : Str → Option Value} {x : Str} {kvs : KvT} (X : K.In h) (G : h.Ns mainGlobals mg) (b : dctB K x kvs = true) (d : He.dicW K (He.ga K x) = some (He.keysIn w.params (kvs.map (·.1)))) : DctK K w mg x kvs := by
  obtain ⟨b1, b2⟩ := He.ba b
  have key : ∀ p ∈ kvs, ∃ t, PySem.W.nsIn K (He.ga K x) p.1 = some (some (.int p.2 t)) := fun p hp => by
    have z := List.all_eq_true.mp b2 p hp
    split at z
    · rename_i j t q
      rw [← of_decide_eq_true z]
      exact ⟨t, q⟩
    · cases z
  refine ⟨He.glo_ok X G b1, He.dicW_ok d, fun z hz => nsIn_key d fun m => ?_, fun z i hz => ?_⟩
  · obtain ⟨p, hp, e⟩ := List.mem_map.mp m
    have : ∀ l : KvT, p ∈ l → (l.lookup z).isSome = true := fun l => by
      induction l with
      | nil => exact fun m => by cases m
      | cons q r ih =>
        intro m
        rw [List.lookup_cons]
        cases hq : (z == q.1) with
        | true => rfl
        | false =>
          rcases List.mem_cons.mp m with m | m
          · rw [← m, e] at hq
            simp at hq
          · exact ih m
    rw [this kvs hp] at hz
    cases hz
  · have : ∀ l : KvT, l.lookup z = some i → (z, i) ∈ l := fun l => by
      induction l with
      | nil => exact fun m => by cases m
      | cons q r ih =>
        intro m
        rw [List.lookup_cons] at m
        cases hq : (z == q.1) with
        | true =>
          rw [hq] at m
          have e1 := beq_iff_eq.mp hq
          have e2 := Option.some.inj m
          rw [e1, ← e2]
          exact List.mem_cons_self
        | false =>
          rw [hq] at m
          exact List.mem_cons_of_mem _ (ih m)
    obtain ⟨t, ht⟩ := key (z, i) (this kvs hz)
    exact ⟨_, ht, t, rfl⟩
def dInK (kvs : KvT) (neg : Bool) (da : DE) : DE := fun ρ G R => da ρ G fun y G1 => ∃ z, y = .str z ∧ R (.bl (neg != (kvs.lookup z).isSome)) G1
def dIxK (kvs : KvT) (da : DE) : DE := fun ρ G R => da ρ G fun y G1 => ∃ z i, y = .str z ∧ kvs.lookup z = some i ∧ R (.int i) G1
section
variable {X : Cx} {B : Bs} {p pos : Pos} {e : Expr} {da : DE} {x : Str} {kvs : KvT}
theorem ptd_notInK (D : DctK X.K X.w X.mg x kvs) (hg : Gl X x) (ha : PE X e (upE X.K B da)) (hm : behindInMarks .NotIn (.Name x p) = false := by first | exact nomark _ | rfl) (hd : (x == ("__debug__" : Str)) = false := by decide) : PT X (.Compare e [.NotIn] [.Name x p] pos) (upT X.K B (dTst (dInK kvs true da))) := by
  obtain ⟨es, n, kd⟩ := D.d
  refine pt_imp (pt_cmpR (op_notIn_kd kd) ha (pe_glob (v := .ref (He.ga X.K x)) hg D.g rfl hd) hm) fun σ H Q h0 => ?_
  obtain ⟨ρ, Hd, G, R, at_, h, k⟩ := tst_imp σ H Q h0
  refine ⟨ρ, Hd, G, _, at_, h, fun v H1 Hd1 y G1 e1 s1 r1 ⟨z, ey, hR⟩ => ?_⟩
  subst ey
  cases r1
  obtain ⟨r, hr, er⟩ := D.ns z
  refine ⟨z, r, rfl, rfl, hr, ?_⟩
  rw [er]
  rw [Bool.true_bne] at hR
  exact k _ H1 Hd1 _ G1 e1 s1 (.bl _) hR
end
end DL
namespace DL
open PySem PySem.Spec PyProof.Rows L2 Evl Sup
variable [TabC]
section
variable {X : Cx} {B : Bs} {p pos : Pos} {e : Expr} {da : DE} {x : Str} {kvs : KvT}
theorem pd_ixK (D : DctK X.K X.w X.mg x kvs) (hg : Gl X x) (ha : PE X e (upE X.K B da)) (hs : PlainIx e) (hd : (x == ("__debug__" : Str)) = false := by decide) : PE X (.Subscript (.Name x p) e pos) (upE X.K B (dIxK kvs da)) := by
  refine pe_imp (pe_ix ix_kdict (pe_glob (v := .ref (He.ga X.K x)) hg D.g rfl hd) ha hs) fun σ H Q ⟨ρ, Hd, G, R, at_, h, k⟩ => ?_
  refine ⟨ρ, Hd, G, _, at_, h, fun v H1 Hd1 y G1 e1 s1 r1 ⟨z, i, ey, hi, hR⟩ => ?_⟩
  subst ey
  cases r1
  obtain ⟨es, n, kd⟩ := D.d
  obtain ⟨u, hu, ru⟩ := D.yes z i hi
  exact ⟨_, z, .int i, rfl, rfl, ⟨es, n, u, kd.at_, kd.lit, hu, ru⟩, k _ H1 Hd1 _ G1 e1 s1 (.int i) hR⟩
end
end DL
namespace DL
open PySem PySem.Spec PyProof.Rows L2
end DL
namespace DL
open PySem PySem.Spec PyProof.Rows L2 Evl Sup
variable [TabC]
def dGcE (s : DS) : DS := fun E ρ G => s { nx := fun ρ G' => ∃ l, E.nx ρ (gdels G' l), rt := Gc E.rt, bk := fun ρ G' => ∃ l, E.bk ρ (gdels G' l), ct := fun ρ G' => ∃ l, E.ct ρ (gdels G' l) } ρ G
section
variable {ρ : En} {G : Gm} {da db dv dobj : DE} {dA : DA} {x y z : D} {xs ys : List D} {ns : List Str} {cl : ClT} {sub : Str → Str → Bool} {C f : Str} {a : Addr} {E : DEnds}
theorem Ev.isW {b : Bool} (ha : Ev da ρ G x) (h : isW cl sub C x = some b) : Ev (dIsW cl sub C da) ρ G (.bl b) := fun R r => ha _ ⟨b, h, r⟩
theorem put_new {α : Type} {f : Str} {z : α} : ∀ {ns : List Str} {xs : List α}, f ∉ ns → ns.length = xs.length → putNs f ns = ns ++ [f] ∧ putXs f z ns xs = xs ++ [z]
  | [], [], _, _ => ⟨rfl, rfl⟩
  | g :: r, x :: xs, h, hl => by
    have ne : ¬ g = f := fun e => h (by rw [e]; exact List.mem_cons_self)
    obtain ⟨e1, e2⟩ := put_new (z := z) (xs := xs) (fun m => h (List.mem_cons_of_mem _ m)) (by simpa using hl)
    unfold putNs putXs
    rw [if_neg ne, if_neg ne, e1, e2]
    exact ⟨rfl, rfl⟩
theorem ds_setF (hv : Ev dv ρ G z) (ho : Ev dobj ρ G (.ref a)) (hg : G a = some (.ins C ns xs)) (hf : hasF cl C f = true) (hn : f ∉ ns) (hl : ns.length = xs.length) (hz : ns.length < 1000) (h : E.nx ρ (gup G a (.ins C (ns ++ [f]) (xs ++ [z])))) : dSetF cl f dv dobj E ρ G := by
  obtain ⟨e1, e2⟩ := put_new (z := z) hn hl
  refine hv _ (ho _ ⟨a, C, ns, xs, rfl, hg, hf, hz, ?_⟩)
  rw [e1, e2]
  exact h
end
end DL
namespace DL
open PySem PySem.Spec PyProof.Rows L2 Evl Sup
def LsOk (ls : List Ln) : Prop := 1 ≤ ls.length ∧ ls.length ≤ 15 ∧ ∀ ln ∈ ls, ln.ok ls.length
variable [TabC]
section
variable {ρ : En} {G : Gm} {da db dv dobj : DE} {dA : DA} {x y z : D} {xs ys : List D}
theorem Ev.slF {i : Int} (ha : Ev da ρ G x) (hb : Ev db ρ G (.int i)) (h : fSl G x (some i) none z) : Ev (dSl da (dPart db) dNoP) ρ G z := fun R r => ha _ (hb _ ⟨i, rfl, z, h, r⟩)
theorem Ev.eqS {i j : Str} (ha : Ev da ρ G (.str i)) (hb : Ev db ρ G (.str j)) : Ev (dOp fEq da db) ρ G (.bl (decide (i = j))) := .op ha hb rfl
theorem Ev.inK {kvs : KvT} {neg : Bool} {s : Str} (ha : Ev da ρ G (.str s)) : Ev (dInK kvs neg da) ρ G (.bl (neg != (kvs.lookup s).isSome)) := fun R r => ha _ ⟨s, rfl, r⟩
theorem Ev.ixK {kvs : KvT} {s : Str} {i : Int} (ha : Ev da ρ G (.str s)) (h : kvs.lookup s = some i) : Ev (dIxK kvs da) ρ G (.int i) := fun R r => ha _ ⟨s, i, rfl, h, r⟩
end
def kvEnds : KvT := [("up", 1), ("down", 1), ("test", 2)]
def isLineR : DS := (dSeq (dIfS (dOr (dNot (dTst (dCall sp_is_list X0 (dCons (dVar 0) dNil)))) (dOr (dTst (dOp fEq (dCal fLen (dCons (dVar 0) dNil)) (dC (.int 0)))) (dNot (dTst (dCal (fIsi "str") (dCons (dIx (dVar 0) (dC (.int 0))) (dCons (dC (.ty "str")) dNil))))))) (dRet (dC (.bl false))) dNext) (dSeq (dIfS (dTst (dOp fEq (dIx (dVar 0) (dC (.int 0))) (dC (.str "stop")))) (dRet (dOp fEq (dCal fLen (dCons (dVar 0) dNil)) (dC (.int 1)))) dNext) (dSeq (dIfS (dOr (dTst (dInK kvEnds true (dIx (dVar 0) (dC (.int 0))))) (dOr (dTst (dOp fNe (dCal fLen (dCons (dVar 0) dNil)) (dOp fAdd (dIxK kvEnds (dIx (dVar 0) (dC (.int 0)))) (dC (.int 2))))) (dNot (dTst (dCall sp_is_within X0 (dCons (dIx (dVar 0) (dC (.int 1))) (dCons (dC (.int 0)) (dCons (dC (.int 1)) dNil)))))))) (dRet (dC (.bl false))) dNext) (dRet (dCal fAll (dCons (dCmp (dISeq (dSl (dVar 0) (dPart (dC (.int 2))) dNoP)) (gN 2) dYes (dCall sp_is_within X0 (dCons (dVar 2) (dCons (dC (.int 0)) (dCons (dOp (fInt fun i j => .int (i - j)) (dVar 1) (dC (.int 1))) dNil)))) [2]) dNil))))))
def sp_is_line : DSp := fun xs G R _ => ∃ (x : D) (ln : Ln) (n : Nat), xs = [x, .int n] ∧ (x = .lst ln.its ∨ x = .tup ln.its) ∧ ln.ok n ∧ R (.bl true) G
theorem within_nat {g n : Nat} (h : g < n) : withinD (.int g) (some 0) (some ((n : Int) - 1)) = true := by
  simp [withinD, leO, geO]
  omega
theorem within_box {b : Nat} (h : b < 2) : withinD (.int b) (some 0) (some 1) = true := by
  simp [withinD, leO, geO]
  omega
theorem cut2 {a b : D} {gs : List D} : cutD (a :: b :: gs) (some 2) none = gs := by
  have e1 : HT.sIx (a :: b :: gs).length 0 (some 2) = 2 := by
    rw [show HT.sIx (a :: b :: gs).length 0 (some 2) = min 2 (a :: b :: gs).length from HT.sIx_nat _ _ 2, List.length_cons, List.length_cons]
    omega
  unfold cutD
  rw [e1]
  show List.take ((a :: b :: gs).length - 2) gs = gs
  rw [List.length_cons, List.length_cons, List.take_of_length_le (by omega)]
theorem its_cases (ln : Ln) : ln = .stop ∨ ∃ (w : Str) (b : Nat) (gs : List Nat), ln.its = .str w :: .int b :: gs.map (fun g : Nat => D.int g) ∧ w ≠ "stop" ∧ kvEnds.lookup w = some (gs.length : Int) ∧ gs.length ≤ 2 ∧ ∀ n, ln.ok n → b < 2 ∧ ∀ g ∈ gs, g < n := by
  cases ln with
  | stop => exact .inl rfl
  | up b g => exact .inr ⟨"up", b, [g], rfl, by decide +kernel, (show kvEnds.lookup ("up" : Str) = some 1 by decide +kernel), (show 1 ≤ 2 by decide), fun n h => ⟨h.1, fun k hk => by rw [List.mem_singleton.mp hk]; exact h.2⟩⟩
  | down b g => exact .inr ⟨"down", b, [g], rfl, by decide +kernel, (show kvEnds.lookup ("down" : Str) = some 1 by decide +kernel), (show 1 ≤ 2 by decide), fun n h => ⟨h.1, fun k hk => by rw [List.mem_singleton.mp hk]; exact h.2⟩⟩
  | test b g k => exact .inr ⟨"test", b, [g, k], rfl, by decide +kernel, (show kvEnds.lookup ("test" : Str) = some 2 by decide +kernel), (show 2 ≤ 2 by decide), fun n h => ⟨h.1, fun j hj => by
      simp only [List.mem_cons, List.mem_nil_iff, or_false] at hj
      rcases hj with rfl | rfl
      · exact h.2.1
      · exact h.2.2⟩⟩
theorem is_line_ok (xs : List D) (G : Gm) (R : KD) (RX : XD) (h : sp_is_line xs G R RX) : isLineR { nx := fun _ G => R .non G, rt := R } (xs.map some ++ List.replicate (3 - xs.length) none) G := by
  obtain ⟨x, ln, n, rfl, hx, ho, h⟩ := h
  have hs : SeqAt G x ln.its := by
    rcases hx with rfl | rfl
    · exact seq_lst
    · exact seq_tup
  have hk : x.kn = true := by
    rcases hx with rfl | rfl <;> cases ln <;> rfl
  have hq : isSeqD x = true := by rcases hx with rfl | rfl <;> rfl
  rcases its_cases ln with rfl | ⟨w, b, gs, hi, hw, hv, hg, hn⟩
  · have e0 : ∀ {ρ : En} {da : DE}, Ev da ρ G x → Ev (dIx da (dC (.int 0))) ρ G (.str "stop") := fun ha => .at ha .c hs rfl
    refine ds_if (k := false) (.orF ((EvT.not (.tst (.isList (.var rfl) hk))).cast (by rw [hq]; rfl)) (.orF (.tst ((Ev.eqI (.len (.var rfl) hs) .c).cast rfl)) ((EvT.not (.tst (.isi (t := "str") (e0 (.var rfl)) rfl))).cast rfl))) ?_
    dsimp only
    refine to_next ?_
    refine ds_if (k := true) (.tst ((Ev.eqS (e0 (.var rfl)) .c).cast (by rw [decide_eq_true rfl]))) ?_
    exact ds_ret ((Ev.eqI (.len (.var rfl) hs) .c).cast rfl) h
  · obtain ⟨hb, hgs⟩ := hn n ho
    rw [hi] at hs hx
    have ne0 : ¬ (((D.str w :: D.int b :: gs.map fun g : Nat => D.int g).length : Int) = 0) := by
      rw [List.length_cons]
      omega
    have e0 : ∀ {ρ : En} {da : DE}, Ev da ρ G x → Ev (dIx da (dC (.int 0))) ρ G (.str w) := fun ha => .at ha .c hs (L2.atI_nat (j := 0) rfl)
    refine ds_if (k := false) (.orF ((EvT.not (.tst (.isList (.var rfl) hk))).cast (by rw [hq]; rfl)) (.orF (.tst ((Ev.eqI (.len (.var rfl) hs) .c).cast (by rw [decide_eq_false ne0]))) ((EvT.not (.tst (.isi (t := "str") (e0 (.var rfl)) rfl))).cast rfl))) ?_
    dsimp only
    refine to_next ?_
    refine ds_if (k := false) (.tst ((Ev.eqS (e0 (.var rfl)) .c).cast (by rw [decide_eq_false hw]))) ?_
    dsimp only
    refine to_next ?_
    refine ds_if (k := false) (.orF (.tst ((Ev.inK (e0 (.var rfl))).cast (by rw [hv]; rfl))) (.orF (.tst ((Ev.neI (.len (.var rfl) hs) (.add (.ixK (e0 (.var rfl)) hv) .c)).cast (by rw [decide_eq_true (by rw [List.length_cons, List.length_cons, List.length_map]; omega)]; rfl))) ((EvT.not (.tst (.isWithin (.at (.var rfl) .c hs (L2.atI_nat (j := 1) rfl)) .c .c rfl rfl rfl))).cast (by rw [within_box hb]; rfl)))) ?_
    dsimp only
    refine to_next ?_
    have all : ∀ {z : D} {d : DE}, Ev d [some x, some (.int n), none] G z → (z = .lst (gs.map fun g : Nat => D.int g) ∨ z = .tup (gs.map fun g : Nat => D.int g)) → Ev (dCmp (dISeq d) (gN 2) dYes (dCall sp_is_within X0 (dCons (dVar 2) (dCons (dC (.int 0)) (dCons (dOp (fInt fun i j => .int (i - j)) (dVar 1) (dC (.int 1))) dNil)))) [2]) [some x, some (.int n), none] G (.lst ((gs.map fun _ => true).map D.bl)) := fun ha hz => by
      refine (Ev.lcSeq (fun y => .bl (withinD y (some 0) (some ((n : Int) - 1)))) ha hz (fun y hy => ?_) (by rw [List.length_map]; exact Nat.le_trans hg (by show 2 ≤ sizeLine; decide))).cast ?_
      · obtain ⟨g, _, rfl⟩ := List.mem_map.mp hy
        exact .isWithin (.var rfl) .c (.sub (.var rfl) .c) rfl rfl rfl
      · rw [List.map_map, List.map_map]
        congr 1
        exact List.map_congr_left fun g hgm => by
          show D.bl (withinD (.int g) (some 0) (some ((n : Int) - 1))) = D.bl true
          rw [within_nat (hgs g hgm)]
    have fin : (gs.map fun _ => true).all id = true := by rw [List.all_map]; exact List.all_eq_true.mpr fun _ _ => rfl
    rcases hx with rfl | rfl
    · exact ds_ret ((Ev.all (all (.slF (.var rfl) .c (.inl ⟨_, lst_lst, by rw [cut2]⟩)) (.inl rfl))).cast (by rw [fin])) h
    · exact ds_ret ((Ev.all (all (.slF (.var rfl) .c (.inr ⟨_, rfl, by rw [cut2], fun z => by
        have := z.1
        rw [show HT.sIx (D.str w :: D.int b :: gs.map fun g : Nat => D.int g).length 0 (some 2) = min 2 (gs.length + 2) by rw [List.length_cons, List.length_cons, List.length_map]; exact HT.sIx_nat _ _ 2] at this
        omega⟩)) (.inr rfl))).cast (by rw [fin])) h
def progR (cl : ClT) (q : DSp) : DS := (dSeq (dIfS (dOr (dNot (dTst (dCall sp_is_list X0 (dCons (dVar 1) dNil)))) (dNot (dTst (dChain (fInt gLe) (fInt gLe) (dC (.int 1)) (dCal fLen (dCons (dVar 1) dNil)) (dC (.int 15)))))) dNever dNext) (dSeq (dIfS (dNot (dTst (dCal fAll (dCons (dCmp (dISeq (dVar 1)) (gN 2) dYes (dCall q X0 (dCons (dVar 2) (dCons (dCal fLen (dCons (dVar 1) dNil)) dNil))) [2]) dNil)))) dNever dNext) (dSetF cl "lines" (dCal fTupOf (dCons (dCmp (dISeq (dVar 1)) (gN 2) dYes (dCal fTupOf (dCons (dVar 2) dNil)) [2]) dNil)) (dVar 0))))
def sp_prog : DSp := fun xs G R _ => ∃ a x ls, xs = [.ref a, x] ∧ (x = .lst (ls.map Ln.d) ∨ x = .tup (ls.map Ln.d)) ∧ LsOk ls ∧ G a = some (.ins "Program" [] []) ∧ R .non (gup G a (.ins "Program" ["lines"] [.tup (ls.map Ln.d)]))
theorem Ln.kn (l : Ln) : l.d.kn = true := by cases l <;> rfl
theorem knL_map (ls : List Ln) : D.knL (ls.map Ln.d) = true := by
  induction ls with
  | nil => rfl
  | cons l ls ih =>
    show (l.d.kn && D.knL (ls.map Ln.d)) = true
    rw [l.kn, ih]
    rfl
theorem prog_ok {cl : ClT} (hf : hasF cl "Program" "lines" = true) (xs : List D) (G : Gm) (R : KD) (RX : XD) (h : sp_prog xs G R RX) : progR cl sp_is_line { nx := fun _ G => R .non G, rt := R } (xs.map some ++ List.replicate (3 - xs.length) none) G := by
  obtain ⟨a, x, ls, rfl, hx, ⟨l1, l2, lo⟩, hg, h⟩ := h
  have hs : SeqAt G x (ls.map Ln.d) := by
    rcases hx with rfl | rfl
    · exact seq_lst
    · exact seq_tup
  have hk : x.kn = true := by
    rcases hx with rfl | rfl
    · exact knL_map ls
    · exact knL_map ls
  have hq : isSeqD x = true := by rcases hx with rfl | rfl <;> rfl
  have sz : (ls.map Ln.d).length ≤ sizeLine := by rw [List.length_map]; exact Nat.le_trans l2 (by show 15 ≤ sizeLine; decide)
  have len : ∀ {ρ : En} {da : DE}, Ev da ρ G x → Ev (dCal fLen (dCons da dNil)) ρ G (.int ls.length) := fun ha => (Ev.len ha hs).cast (by rw [List.length_map])
  refine ds_if (k := false) (.orF ((EvT.not (.tst (.isList (.var rfl) hk))).cast (by rw [hq]; rfl)) ((EvT.not (.tst (.chain .c (len (.var rfl)) .c))).cast (by rw [decide_eq_true (by omega), decide_eq_true (by omega)]; rfl))) ?_
  dsimp only
  refine to_next ?_
  have lns : Ev (dCmp (dISeq (dVar 1)) (gN 2) dYes (dCall sp_is_line X0 (dCons (dVar 2) (dCons (dCal fLen (dCons (dVar 1) dNil)) dNil))) [2]) [some (.ref a), some x, none] G (.lst ((ls.map fun _ => true).map D.bl)) := by
    refine (Ev.lcSeq (fun _ => .bl true) (.var rfl) hx (fun y hy => ?_) sz).cast ?_
    · obtain ⟨ln, hm, rfl⟩ := List.mem_map.mp hy
      exact .call (.cons (.var rfl) (.one (len (.var rfl)))) fun R r => ⟨ln.d, ln, ls.length, rfl, .inr rfl, lo ln hm, r⟩
    · rw [List.map_map, List.map_map]
      rfl
  refine ds_if (k := false) ((EvT.not (.tst ((Ev.all lns).cast (by rw [show (ls.map fun _ => true).all id = true by rw [List.all_map]; exact List.all_eq_true.mpr fun _ _ => rfl])))).cast rfl) ?_
  dsimp only
  refine to_next ?_
  have tps : Ev (dCmp (dISeq (dVar 1)) (gN 2) dYes (dCal fTupOf (dCons (dVar 2) dNil)) [2]) [some (.ref a), some x, none] G (.lst (ls.map Ln.d)) := by
    refine (Ev.lcSeq id (.var rfl) hx (fun y hy => ?_) sz).cast (by rw [List.map_id])
    obtain ⟨ln, hm, rfl⟩ := List.mem_map.mp hy
    exact .tupOf (.var rfl) seq_tup
  refine ds_setF (.tupOf tps seq_lst) (.var rfl) hg hf (fun h => nomatch h) rfl (by decide) h
def sp_need_program : DSp := fun xs G R _ => ∃ ls y, xs = [progD ls, y] ∧ R .non G
theorem bx_kn (b : Bx) : (bxD b).kn = true := by cases b <;> rfl
def sp_is_contents : DSp := fun xs G R _ => ∃ b : Bx, xs = [bxD b] ∧ R (.bl true) G
def sp_need_stand : DSp := fun xs G R _ => ∃ (ls : List Ln) (x : D) (s : Sd), xs = [progD ls, x] ∧ (x = .lst [.int s.l, bxD s.x, bxD s.y] ∨ x = .tup [.int s.l, bxD s.x, bxD s.y]) ∧ s.l < ls.length ∧ R s.d G
theorem cut1 {a : D} {gs : List D} : cutD (a :: gs) (some 1) none = gs := by
  have e1 : HT.sIx (a :: gs).length 0 (some 1) = 1 := by
    rw [show HT.sIx (a :: gs).length 0 (some 1) = min 1 (a :: gs).length from HT.sIx_nat _ _ 1, List.length_cons]
    omega
  unfold cutD
  rw [e1]
  show List.take ((a :: gs).length - 1) gs = gs
  rw [List.length_cons, List.take_of_length_le (by omega)]
theorem sl_std {G : Gm} {s : Sd} : fSl G s.d (some 1) none (.tup [bxD s.x, bxD s.y]) := .inr ⟨_, rfl, by rw [cut1], fun z => by
  have := z.1
  rw [show HT.sIx [D.int s.l, bxD s.x, bxD s.y].length 0 (some 1) = min 1 3 from HT.sIx_nat _ _ 1] at this
  omega⟩
def StdV (x : D) (s : Sd) : Prop := x = .lst [.int s.l, bxD s.x, bxD s.y] ∨ x = .tup [.int s.l, bxD s.x, bxD s.y]
theorem Ev.notN {x : D} {ρ : En} {G : Gm} {da : DE} (ha : Ev da ρ G x) : Ev (dNotN da) ρ G (.bl (!x.isN)) := fun R r => ha _ r
end DL
namespace DL
open PySem PySem.Spec PyProof.Rows L2 Evl Sup
variable [TabC]
def fNotB (x y z : D) : Prop := ∃ a b : Bool, x = .bl a ∧ y = .bl b ∧ z = .bl (!decide (a = b))
def D.fv : D → V
  | .bl b => .bl b
  | .int i => .int i
  | .str i => .str i
  | _ => .non
def fIn (neg : Bool) (x y z : D) : Prop := ∃ ds, y = .tup ds ∧ x.flat = true ∧ ds.all D.flat = true ∧ z = .bl (if neg = true then !inV x.fv (ds.map D.fv) else inV x.fv (ds.map D.fv))
def dIfT (tc ta tb : DT) : DT := fun ρ G R => tc ρ G fun k G1 => if k = true then ta ρ G1 R else tb ρ G1 R
section
variable {X : Cx} {B : Bs} {p pos : Pos} {e : Expr} {es : List Expr} {dA : DA} {k : Nat} {f : Addr} {sp : Sp} {E : XK}
end
theorem sm_bx {b : Bx} (h : ∀ n, b = some n → n < 10 ^ 26) : Sm 0 1 (bxD b) := by
  cases b with
  | none => exact .non
  | some n => exact .int (Nat.lt_trans (h n rfl) (by decide +kernel))
theorem sm_std {s : Sd} (hl : s.l < 100) (hx : ∀ n, s.x = some n → n < 10 ^ 26) (hy : ∀ n, s.y = some n → n < 10 ^ 26) : Sm 1 4 s.d := Sm.tup (d := 0) (s := 1) (xs := [.int s.l, bxD s.x, bxD s.y]) fun z hz => by
  simp only [List.mem_cons, List.mem_nil_iff, or_false] at hz
  rcases hz with rfl | rfl | rfl
  · exact .int (Nat.lt_trans (m := 100) (by omega) (by decide +kernel))
  · exact sm_bx hx
  · exact sm_bx hy
end DL
namespace DL
open PySem PySem.Spec PyProof.Rows L2 Evl Sup
variable [TabC]
section
variable {ρ : En} {a : Addr} {k n : Nat} {da : DE} {P : D → Prop}
theorem Drw.pickE {i : Nat} {dl : DE} {ds : List D} (hi : ρ[i]? = some (some (.ref a))) (hl : ∀ G, Ev dl ρ G (.lst ds)) (hn : ds ≠ []) (hz : ds.length ≤ 1000000) (hp : ∀ y ∈ ds, P y) : Drw (dCall spPick X0 (dCons (dVar i) (dCons dl dNil))) ρ a 1 P :=
  .pick (k := 0) hi (.ev (z := .lst ds) hl ⟨ds, .inl rfl, hn, hz, hp⟩)
theorem Drw.nat {i : Nat} {dn : DE} {n : Nat} (hi : ρ[i]? = some (some (.ref a))) (hn : ∀ G, Ev dn ρ G (.int n)) (h1 : 1 ≤ n) (h2 : n ≤ 1000000000) : Drw (dCall spDial X0 (dCons (dVar i) (dCons dn dNil))) ρ a 1 (fun x => ∃ g : Nat, x = .int g ∧ g < n) :=
  (Drw.dial hi hn (by omega) (Int.lt_of_le_of_lt (b := 1000000000) (by omega) (by decide +kernel))).mono fun x ⟨v, e, v0, v1⟩ => ⟨v.toNat, by rw [e]; congr 1; omega, by omega⟩
end
def Line4 (x : D) : Prop := x = .str "up" ∨ x = .str "down" ∨ x = .str "test" ∨ x = .str "stop"
def lawLineR : DS := (dSeq (dPar 2 3 (dCons (dCall spPick X0 (dCons (dVar 0) (dCons (dLst (dCons (dC (.str "up")) (dCons (dC (.str "down")) (dCons (dC (.str "test")) (dCons (dC (.str "up")) (dCons (dC (.str "down")) (dCons (dC (.str "test")) (dCons (dC (.str "stop")) dNil)))))))) dNil))) (dCons (dCall spDial X0 (dCons (dVar 0) (dCons (dC (.int 2)) dNil))) dNil))) (dSeq (dIfS (dTst (dOp fEq (dVar 2) (dC (.str "stop")))) (dRet (dTup (dCons (dVar 2) dNil))) dNext) (dSeq (dIfS (dTst (dOp fEq (dVar 2) (dC (.str "test")))) (dRet (dTup (dCons (dVar 2) (dCons (dVar 3) (dCons (dCall spDial X0 (dCons (dVar 0) (dCons (dVar 1) dNil))) (dCons (dCall spDial X0 (dCons (dVar 0) (dCons (dVar 1) dNil))) dNil)))))) dNext) (dRet (dTup (dCons (dVar 2) (dCons (dVar 3) (dCons (dCall spDial X0 (dCons (dVar 0) (dCons (dVar 1) dNil))) dNil))))))))
def sp_drawLine : DSp := fun xs G R _ => ∃ (a : Addr) (many T : Nat), xs = [.ref a, .int many] ∧ GauAt G a T ∧ T + 4 ≤ 1000000000 ∧ 1 ≤ many ∧ many ≤ 15 ∧ ∀ (ln : Ln) m, ln.ok many → Gau m (T + 4) → R ln.d (gup G a m)
theorem drawLine_ok (xs : List D) (G : Gm) (R : KD) (RX : XD) (h : sp_drawLine xs G R RX) : lawLineR { nx := fun _ G => R .non G, rt := R } (xs.map some ++ List.replicate (4 - xs.length) none) G := by
  obtain ⟨a, many, T, rfl, hg, hT, h1, h15, h⟩ := h
  refine dw_par (P := Line4) (Drw.pickE (ds := [.str "up", .str "down", .str "test", .str "up", .str "down", .str "test", .str "stop"]) rfl (fun _ => .lst (.cons .c (.cons .c (.cons .c (.cons .c (.cons .c (.cons .c (.one .c))))))) (show 7 ≤ sizeLine by decide)) (fun e => by cases e) (by show 7 ≤ 1000000; decide) ?_) (Drw.nat (n := 2) rfl (fun _ => .c) (by decide) (by decide)) hg (by omega) fun x y m hx hy hm => ?_
  · intro y hy
    simp only [List.mem_cons, List.mem_nil_iff, or_false] at hy
    rcases hy with rfl | rfl | rfl | rfl | rfl | rfl | rfl
    · exact .inl rfl
    · exact .inr (.inl rfl)
    · exact .inr (.inr (.inl rfl))
    · exact .inl rfl
    · exact .inr (.inl rfl)
    · exact .inr (.inr (.inl rfl))
    · exact .inr (.inr (.inr rfl))
  obtain ⟨b, rfl, hb⟩ := hy
  dsimp only [List.set, List.map, List.replicate, List.length, Nat.sub, List.append]
  have g1 : GauAt (gup G a m) a (T + 2) := gau_gup hm
  have dr : ∀ {ρ : En}, ρ[0]? = some (some (.ref a)) → ρ[1]? = some (some (.int many)) → Drw (dCall spDial X0 (dCons (dVar 0) (dCons (dVar 1) dNil))) ρ a 1 (fun x => ∃ g : Nat, x = .int g ∧ g < many) := fun e0 e1 => Drw.nat e0 (fun _ => .var e1) h1 (by omega)
  have one : ∀ {w : Str}, (w = "up" ∨ w = "down") → dRet (dTup (dCons (dVar 2) (dCons (dVar 3) (dCons (dCall spDial X0 (dCons (dVar 0) (dCons (dVar 1) dNil))) dNil)))) { nx := fun _ G => R .non G, rt := R } [some (.ref a), some (.int many), some (.str w), some (.int b)] (gup G a m) := fun {w} hw =>
    dw_ret (k := 0 + (0 + (1 + 0))) (P := fun x => ∃ g : Nat, x = .tup [.str w, .int b, .int g] ∧ g < many) (Drw.tup (DrwA.cons (P := fun x => x = .str w) (Drw.ev (z := .str w) (fun _ => .var rfl) rfl) (DrwA.cons (P := fun x => x = .int b) (Drw.ev (z := .int b) (fun _ => .var rfl) rfl) (DrwA.cons (dr rfl rfl) .nil))) fun l hl => by
      obtain ⟨_, _, e1, rfl, _, _, e2, rfl, _, _, e3, ⟨g, rfl, hg⟩, e4⟩ := hl
      subst e4 e3 e2 e1
      exact ⟨by show 3 ≤ sizeLine; decide, g, rfl, hg⟩) g1 (by omega) fun x m2 ⟨g, e, hgm⟩ hm2 => by
      subst e
      rw [gup_gup]
      rcases hw with rfl | rfl
      · exact h (.up b g) m2 ⟨hb, hgm⟩ (hm2.mono (by omega))
      · exact h (.down b g) m2 ⟨hb, hgm⟩ (hm2.mono (by omega))
  rcases hx with rfl | rfl | rfl | rfl
  · refine ds_if (k := false) (.tst ((Ev.eqS (.var rfl) .c).cast (by rw [decide_eq_false (by decide +kernel)]))) ?_
    dsimp only
    refine to_next ?_
    refine ds_if (k := false) (.tst ((Ev.eqS (.var rfl) .c).cast (by rw [decide_eq_false (by decide +kernel)]))) ?_
    exact one (.inl rfl)
  · refine ds_if (k := false) (.tst ((Ev.eqS (.var rfl) .c).cast (by rw [decide_eq_false (by decide +kernel)]))) ?_
    dsimp only
    refine to_next ?_
    refine ds_if (k := false) (.tst ((Ev.eqS (.var rfl) .c).cast (by rw [decide_eq_false (by decide +kernel)]))) ?_
    exact one (.inr rfl)
  · refine ds_if (k := false) (.tst ((Ev.eqS (.var rfl) .c).cast (by rw [decide_eq_false (by decide +kernel)]))) ?_
    dsimp only
    refine to_next ?_
    refine ds_if (k := true) (.tst ((Ev.eqS (.var rfl) .c).cast (by rw [decide_eq_true rfl]))) ?_
    refine dw_ret (k := 0 + (0 + (1 + (1 + 0)))) (P := fun x => ∃ g g' : Nat, x = .tup [.str "test", .int b, .int g, .int g'] ∧ g < many ∧ g' < many) (Drw.tup (DrwA.cons (P := fun x => x = .str "test") (Drw.ev (z := .str "test") (fun _ => .var rfl) rfl) (DrwA.cons (P := fun x => x = .int b) (Drw.ev (z := .int b) (fun _ => .var rfl) rfl) (DrwA.cons (dr rfl rfl) (DrwA.cons (dr rfl rfl) .nil)))) fun l hl => by
      obtain ⟨_, _, e1, rfl, _, _, e2, rfl, _, _, e3, ⟨g, rfl, hg⟩, _, _, e4, ⟨g', rfl, hg'⟩, e5⟩ := hl
      subst e5 e4 e3 e2 e1
      exact ⟨by show 4 ≤ sizeLine; decide, g, g', rfl, hg, hg'⟩) g1 (by omega) fun x m2 ⟨g, g', e, hgm, hgm'⟩ hm2 => ?_
    subst e
    rw [gup_gup]
    exact h (.test b g g') m2 ⟨hb, hgm, hgm'⟩ (hm2.mono (by omega))
  · refine ds_if (k := true) (.tst ((Ev.eqS (.var rfl) .c).cast (by rw [decide_eq_true rfl]))) ?_
    exact ds_ret (.tup (.one (.var rfl)) (show 1 ≤ sizeLine by decide)) (h .stop m True.intro (hm.mono (by omega)))
def lawLinesR : DS := (dSeq (dSet 2 (dOp fAdd (dC (.int 1)) (dCall spDial X0 (dCons (dVar 0) (dCons (dVar 1) dNil))))) (dRet (dCmp (dIRng1 (dVar 2)) (gN 3) dYes (dCall sp_drawLine X0 (dCons (dVar 0) (dCons (dVar 2) dNil))) [3])))
def sp_drawLines : DSp := fun xs G R _ => ∃ (a : Addr) (most T : Nat), xs = [.ref a, .int most] ∧ GauAt G a T ∧ T + 100 ≤ 1000000000 ∧ 1 ≤ most ∧ most ≤ 15 ∧ ∀ (ls : List Ln) m, LsOk ls → ls.length ≤ most → Gau m (T + 100) → R (.lst (ls.map Ln.d)) (gup G a m)
theorem lns_of {many : Nat} : ∀ {ys : List D}, (∀ y ∈ ys, ∃ ln : Ln, y = ln.d ∧ ln.ok many) → ∃ ls : List Ln, ys = ls.map Ln.d ∧ ∀ ln ∈ ls, ln.ok many
  | [], _ => ⟨[], rfl, fun ln h => nomatch h⟩
  | y :: ys, h => by
    obtain ⟨ln, rfl, hl⟩ := h y List.mem_cons_self
    obtain ⟨ls, rfl, hls⟩ := lns_of (ys := ys) fun z hz => h z (List.mem_cons_of_mem _ hz)
    exact ⟨ln :: ls, rfl, fun k hk => (List.mem_cons.mp hk).elim (fun e => by rw [e]; exact hl) (hls k)⟩
theorem drawLines_ok (xs : List D) (G : Gm) (R : KD) (RX : XD) (h : sp_drawLines xs G R RX) : lawLinesR { nx := fun _ G => R .non G, rt := R } (xs.map some ++ List.replicate (4 - xs.length) none) G := by
  obtain ⟨a, most, T, rfl, hg, hT, h1, h15, h⟩ := h
  refine dw_set (k := 0 + 1) (P := fun z => ∃ k : Nat, z = .int k ∧ 1 ≤ k ∧ k ≤ most) (Drw.op (.ev (P := fun x => x = .int 1) (fun _ => .c) rfl) (Drw.nat rfl (fun _ => .var rfl) h1 (by omega)) fun x y e ⟨g, e2, hgm⟩ => ⟨_, .inl ⟨1, g, e, e2, rfl⟩, g + 1, by congr 1; omega, by omega, by omega⟩) hg (by omega) fun z m hz hm => ?_
  obtain ⟨many, rfl, m1, m2⟩ := hz
  refine dw_ret (P := fun z => ∃ ys, z = .lst ys ∧ many ≤ ys.length ∧ ys.length ≤ many ∧ ∀ y ∈ ys, ∃ ln : Ln, y = ln.d ∧ ln.ok many) (k := 0 + many * 4) (Drw.lcRng (lo := many) (N := many) (.ev (fun _ => .var rfl) ⟨many, rfl, Nat.le_refl _, Nat.le_refl _⟩) (fun y => fun G T R hg ht r => ⟨_, rfl, _, rfl, a, many, T, rfl, hg, by omega, m1, by omega, fun ln m ho hm => r _ m ⟨ln, rfl, ho⟩ hm⟩) (by omega)) (gau_gup hm) (by omega) fun z m' hz hm' => ?_
  obtain ⟨ys, rfl, y1, y2, hy⟩ := hz
  obtain ⟨ls, rfl, hls⟩ := lns_of hy
  rw [List.length_map] at y1 y2
  have e : ls.length = many := by omega
  rw [gup_gup]
  exact h ls m' ⟨by omega, by omega, fun ln hln => by rw [e]; exact hls ln hln⟩ (by omega) (hm'.mono (by omega))
def lawContentsR : DS := (dRet (dCall spPick X0 (dCons (dVar 0) (dCons (dLst (dCons (dC (.int 0)) (dCons (dC (.int 1)) (dCons (dC (.int 2)) (dCons (dC .non) (dCons (dCall spDial X0 (dCons (dVar 0) (dCons (dC (.int 6)) dNil))) (dCons (dCall spDial X0 (dCons (dVar 0) (dCons (dC (.int 30)) dNil))) dNil))))))) dNil))))
def sp_drawBox : DSp := fun xs G R _ => ∃ (a : Addr) (T : Nat), xs = [.ref a] ∧ GauAt G a T ∧ T + 3 ≤ 1000000000 ∧ ∀ (b : Bx) m, bxLt 30 b → Gau m (T + 3) → R (bxD b) (gup G a m)
theorem drawBox_ok (xs : List D) (G : Gm) (R : KD) (RX : XD) (h : sp_drawBox xs G R RX) : lawContentsR { nx := fun _ G => R .non G, rt := R } (xs.map some ++ List.replicate (1 - xs.length) none) G := by
  obtain ⟨a, T, rfl, hg, hT, h⟩ := h
  have c : ∀ (n : Nat), n < 30 → ∃ b : Bx, D.int n = bxD b ∧ bxLt 30 b := fun n hn => ⟨some n, rfl, fun k e => by cases e; exact hn⟩
  refine dw_ret (k := 0 + (0 + (0 + (0 + (1 + (1 + 0))))) + 1) (P := fun x => ∃ b : Bx, x = bxD b ∧ bxLt 30 b) (Drw.pickL (n := 6) rfl (DrwA.more (.ev (fun _ => .c) (c 0 (by decide))) (DrwA.more (.ev (fun _ => .c) (c 1 (by decide))) (DrwA.more (.ev (fun _ => .c) (c 2 (by decide))) (DrwA.more (.ev (fun _ => .c) ⟨none, rfl, fun k e => nomatch e⟩) (DrwA.more ((Drw.nat (n := 6) rfl (fun _ => .c) (by decide) (by decide)).mono fun x ⟨g, e, hg⟩ => by rw [e]; exact c g (by omega)) (DrwA.more ((Drw.nat (n := 30) rfl (fun _ => .c) (by decide) (by decide)).mono fun x ⟨g, e, hg⟩ => by rw [e]; exact c g hg) .none))))))) hg (by omega) fun x m ⟨b, e, hb⟩ hm => ?_
  subst e
  exact h b m hb (hm.mono (by omega))
end DL
namespace DL
open PySem PySem.Spec PyProof.Rows L2 Evl Sup
variable [TabC]
def needProgXR (cl : ClT) (sub : Str → Str → Bool) (RX : XD) : DS := (dIfS (dNot (dTst (dIsW cl sub "Program" (dVar 0)))) (dRaise "BadProgram" ["part"] [true] RX (dCons (dVar 1) dNil)) dNext)
def sp_needProgX (cl : ClT) (sub : Str → Str → Bool) : DSp := fun xs G R RX => ∃ x p b, xs = [x, .str p] ∧ isW cl sub "Program" x = some b ∧ p.length ≤ 10000 ∧ (b = true → R .non G) ∧ (b = false → RX "BadProgram" ["part"] [.str p] G)
theorem needProgX_ok {cl : ClT} {sub : Str → Str → Bool} (xs : List D) (G : Gm) (R : KD) (RX : XD) (h : sp_needProgX cl sub xs G R RX) : needProgXR cl sub RX { nx := fun _ G => R .non G, rt := R } (xs.map some ++ List.replicate (2 - xs.length) none) G := by
  obtain ⟨x, p, b, rfl, hb, hp, hy, hn⟩ := h
  refine ds_if (EvT.not (.tst (.isW (.var rfl) hb))) ?_
  cases b with
  | true => exact hy rfl
  | false => exact ds_raise1 (.var rfl) hp (hn rfl)
def boxB (b : D) : Bool := b.isN || withinD b (some 0) none
def sp_isContX : DSp := fun xs G R _ => ∃ x : D, xs = [x] ∧ x.kn = true ∧ R (.bl (boxB x)) G
theorem isContX_ok (xs : List D) (G : Gm) (R : KD) (RX : XD) (h : sp_isContX xs G R RX) : dRet (dOrV (dIsN (dVar 0)) (dCall sp_is_within X0 (dCons (dVar 0) (dCons (dC (.int 0)) (dCons (dC .non) dNil))))) { nx := fun _ G => R .non G, rt := R } (xs.map some ++ List.replicate (1 - xs.length) none) G := by
  obtain ⟨x, rfl, hk, h⟩ := h
  exact ds_ret (.or2 (.isN (.var rfl)) fun _ => .isWithin (.var rfl) .c .c hk rfl rfl) h
def stdB (n : Nat) (x : D) : Bool := isSeqD x && match seqL x with
  | [a, b, c] => withinD a (some 0) (some ((n : Int) - 1)) && (boxB b && boxB c)
  | _ => false
def sp_needStdX : DSp := fun xs G R RX => ∃ ls x, xs = [progD ls, x] ∧ x.kn = true ∧ (stdB ls.length x = true → R (.tup (seqL x)) G) ∧ (stdB ls.length x = false → RX "BadStand" ["part"] [.str "stand"] G)
def needStdXR (cl : ClT) (RX : XD) : DS := (dSeq (dIfS (dOr (dNot (dTst (dCall sp_is_list X0 (dCons (dVar 1) dNil)))) (dOr (dTst (dOp fNe (dCal fLen (dCons (dVar 1) dNil)) (dC (.int 3)))) (dNot (dTst (dCall sp_is_within X0 (dCons (dIx (dVar 1) (dC (.int 0))) (dCons (dC (.int 0)) (dCons (dOp (fInt fun i j => .int (i - j)) (dCal fLen (dCons (dFld cl "lines" (dVar 0)) dNil)) (dC (.int 1))) dNil)))))))) (dRaise "BadStand" ["part"] [true] RX (dCons (dC (.str "stand")) dNil)) dNext) (dSeq (dIfS (dOr (dNot (dTst (dCall sp_isContX X0 (dCons (dIx (dVar 1) (dC (.int 1))) dNil)))) (dNot (dTst (dCall sp_isContX X0 (dCons (dIx (dVar 1) (dC (.int 2))) dNil))))) (dRaise "BadStand" ["part"] [true] RX (dCons (dC (.str "stand")) dNil)) dNext) (dRet (dCal fTupOf (dCons (dVar 1) dNil)))))
theorem needStdX_ok {cl : ClT} (hf : hasF cl "Program" "lines" = true) (xs : List D) (G : Gm) (R : KD) (RX : XD) (h : sp_needStdX xs G R RX) : needStdXR cl RX { nx := fun _ G => R .non G, rt := R } (xs.map some ++ List.replicate (2 - xs.length) none) G := by
  obtain ⟨ls, x, rfl, hk, hy, hn⟩ := h
  have pl : (("stand" : Str)).length ≤ 10000 := by decide +kernel
  cases q1 : isSeqD x with
  | false =>
    refine ds_if (k := true) (.orT ((EvT.not (.tst (.isList (.var rfl) hk))).cast (by rw [q1]; rfl))) (ds_raise1 .c pl (hn ?_))
    unfold stdB
    rw [q1]
    rfl
  | true =>
    have hs : SeqAt G x (seqL x) := by
      rcases seq_is q1 with e | e
      · rw [e]
        exact seq_tup
      · rw [e]
        exact seq_lst
    have hkl := knL_all (seqL_kn q1 hk)
    have f1 : ∀ {ρ : En}, ρ[1]? = some (some x) → EvT (dNot (dTst (dCall sp_is_list X0 (dCons (dVar 1) dNil)))) ρ G false := fun e => (EvT.not (.tst (.isList (.var e) hk))).cast (by rw [q1]; rfl)
    by_cases h3 : (seqL x).length = 3
    · match hsx : seqL x, h3 with
      | [a, b, c], _ =>
        rw [hsx] at hs hkl
        have e1 : stdB ls.length x = (withinD a (some 0) (some ((ls.length : Int) - 1)) && (boxB b && boxB c)) := by
          unfold stdB
          rw [q1, hsx]
          rfl
        have lenp : Ev (dOp (fInt fun i j => .int (i - j)) (dCal fLen (dCons (dFld cl "lines" (dVar 0)) dNil)) (dC (.int 1))) [some (progD ls), some x] G (.int ((ls.length : Int) - 1)) := .sub ((Ev.len (Ev.lines (ls := ls) hf (.var rfl)) seq_tup).cast (by rw [List.length_map])) .c
        refine ds_if (.orF (f1 rfl) (.orF (.tst ((Ev.neI (.len (.var rfl) hs) .c).cast rfl)) (EvT.not (.tst (.isWithin (.at (.var rfl) .c hs rfl) .c lenp (hkl a (by simp)) rfl rfl))))) ?_
        cases qa : withinD a (some 0) (some ((ls.length : Int) - 1)) with
        | false => exact ds_raise1 .c pl (hn (by rw [e1, qa]; rfl))
        | true =>
          refine to_next ?_
          have c1 : Ev (dCall sp_isContX X0 (dCons (dIx (dVar 1) (dC (.int 1))) dNil)) [some (progD ls), some x] G (.bl (boxB b)) := .call (.one (.at (.var rfl) .c hs rfl)) fun R r => ⟨b, rfl, hkl b (by simp), r⟩
          have c2 : Ev (dCall sp_isContX X0 (dCons (dIx (dVar 1) (dC (.int 2))) dNil)) [some (progD ls), some x] G (.bl (boxB c)) := .call (.one (.at (.var rfl) .c hs rfl)) fun R r => ⟨c, rfl, hkl c (by simp), r⟩
          cases qb : boxB b with
          | false => exact ds_if (k := true) (.orT ((EvT.not (.tst c1)).cast (by rw [qb]; rfl))) (ds_raise1 .c pl (hn (by rw [e1, qa, qb]; rfl)))
          | true =>
            refine ds_if (.orF ((EvT.not (.tst c1)).cast (by rw [qb]; rfl)) (EvT.not (.tst c2))) ?_
            cases qc : boxB c with
            | false => exact ds_raise1 .c pl (hn (by rw [e1, qa, qb, qc]; rfl))
            | true =>
              refine to_next ?_
              refine ds_ret (.tupOf (.var rfl) hs) ?_
              rw [← hsx]
              exact hy (by rw [e1, qa, qb, qc]; rfl)
    · refine ds_if (k := true) (.orF (f1 rfl) (.orT (.tst ((Ev.neI (.len (.var rfl) hs) .c).cast (by rw [decide_eq_false (by omega)]; rfl))))) (ds_raise1 .c pl (hn ?_))
      unfold stdB
      rw [q1]
      match hsx : seqL x, h3 with
      | [], _ => rfl
      | [_], _ => rfl
      | [_, _], _ => rfl
      | [_, _, _], h3 => exact absurd rfl h3
      | _ :: _ :: _ :: _ :: _, _ => rfl
theorem std_yes {n : Nat} {x : D} {s : Sd} (hx : StdV x s) (hl : s.l < n) : stdB n x = true ∧ D.tup (seqL x) = s.d ∧ x.kn = true := by
  have hb : ∀ b : Bx, boxB (bxD b) = true := fun b => by
    cases b with
    | none => rfl
    | some k => simp [boxB, bxD, withinD, leO, geO]
  have k : D.knL [.int s.l, bxD s.x, bxD s.y] = true := by
    show ((D.int s.l).kn && ((bxD s.x).kn && ((bxD s.y).kn && true))) = true
    rw [bx_kn, bx_kn]
    rfl
  rcases hx with rfl | rfl
  · refine ⟨?_, rfl, k⟩
    show (true && (withinD (.int s.l) (some 0) (some ((n : Int) - 1)) && (boxB (bxD s.x) && boxB (bxD s.y)))) = true
    rw [within_nat hl, hb, hb]
    rfl
  · refine ⟨?_, rfl, k⟩
    show (true && (withinD (.int s.l) (some 0) (some ((n : Int) - 1)) && (boxB (bxD s.x) && boxB (bxD s.y)))) = true
    rw [within_nat hl, hb, hb]
    rfl
theorem needStd_yes {ls : List Ln} {x : D} {s : Sd} {G : Gm} {R : KD} {RX : XD} (hx : StdV x s) (hl : s.l < ls.length) (h : R s.d G) : sp_needStdX [progD ls, x] G R RX := by
  obtain ⟨h1, h2, h3⟩ := std_yes hx hl
  exact ⟨ls, x, rfl, h3, (fun _ => by rw [h2]; exact h), (fun z => by rw [h1] at z; cases z)⟩
theorem needStd_no {ls : List Ln} {x : D} {G : Gm} {R : KD} {RX : XD} (hk : x.kn = true) (hs : stdB ls.length x = false) (h : RX "BadStand" ["part"] [.str "stand"] G) : sp_needStdX [progD ls, x] G R RX :=
  ⟨ls, x, rfl, hk, (fun z => by rw [hs] at z; cases z), fun _ => h⟩
theorem prog_is {cl : ClT} {sub : Str → Str → Bool} (hc : hasC cl "Program" = true) (hs : sub "Program" "Program" = true) (ls : List Ln) : isW cl sub "Program" (progD ls) = some true := by
  show (if hasC cl "Program" = true then some (sub "Program" "Program") else none) = some true
  rw [if_pos hc, hs]
theorem needProg_yes {cl : ClT} {sub : Str → Str → Bool} {x : D} {p : Str} {G : Gm} {R : KD} {RX : XD} (hi : isW cl sub "Program" x = some true) (hp : p.length ≤ 10000) (h : R .non G) : sp_needProgX cl sub [x, .str p] G R RX := ⟨x, p, true, rfl, hi, hp, (fun _ => h), (fun z => by cases z)⟩
theorem needProg_no {cl : ClT} {sub : Str → Str → Bool} {x : D} {p : Str} {G : Gm} {R : KD} {RX : XD} (hi : isW cl sub "Program" x = some false) (hp : p.length ≤ 10000) (h : RX "BadProgram" ["part"] [.str p] G) : sp_needProgX cl sub [x, .str p] G R RX := ⟨x, p, false, rfl, hi, hp, (fun z => by cases z), (fun _ => h)⟩
theorem dx_callD {ρ : En} {G : Gm} {q : DSp} {ds : List D} {RX : XD} {dA : DA} {xs : List D} {R : KD} (ha : EvA dA ρ G xs) (h : q (xs ++ ds) G R RX) : dCallD q ds RX dA ρ G R := ha _ h
theorem plen : (("program" : Str)).length ≤ 10000 := by decide +kernel
inductive Askd (cl : ClT) (sub : Str → Str → Bool) (p x : D) (G : Gm) (RX : XD) (ok : List Ln → Sd → Prop) : Prop
  | prog (h : isW cl sub "Program" p = some false) (r : RX "BadProgram" ["part"] [.str "program"] G)
  | std (ls : List Ln) (e : p = progD ls) (hk : x.kn = true) (hs : stdB ls.length x = false) (r : RX "BadStand" ["part"] [.str "stand"] G)
  | good (ls : List Ln) (s : Sd) (e : p = progD ls) (hx : StdV x s) (hl : s.l < ls.length) (ho : LsOk ls) (h : ok ls s)
mutual
/-- None, truths, integers, texts, tuples of such -/
def D.tk : D → Bool
  | .non => true
  | .bl _ => true
  | .int _ => true
  | .str _ => true
  | .tup xs => D.tkL xs
  | .dct _ _ => true
  | _ => false
def D.tkL : List D → Bool
  | [] => true
  | x :: xs => D.tk x && D.tkL xs
end
end DL
namespace DL
open PySem PySem.Spec PyProof.Rows L2 Evl Sup
variable [TabC]
section
variable {ρ : En} {G : Gm} {da db : DE} {xs : List D} {i : Nat}
end
theorem Ev.inT {ρ : En} {G : Gm} {da db : DE} {x : D} {ds : List D} (ha : Ev da ρ G x) (hb : Ev db ρ G (.tup ds)) (hx : x.flat = true) (hd : ds.all D.flat = true) : Ev (dOp (fIn false) da db) ρ G (.bl (inV x.fv (ds.map D.fv))) := .op ha hb ⟨ds, rfl, hx, hd, rfl⟩
end DL
namespace DL
open PySem PySem.Spec PyProof.Rows L2 Evl Sup
variable [TabC]
def dlook {α : Type} (ks : List Key) (xs : List α) (k : Key) : Option α := ((ks.zip xs).find? fun kv => decide (kv.1 = k)).map (·.2)
def hasK (ks : List Key) (k : Key) : Bool := ks.any fun j => decide (j = k)
def putKs (ks : List Key) (k : Key) : List Key := if hasK ks k = true then ks else ks ++ [k]
def putVs {α : Type} (ks : List Key) (k : Key) (z : α) (xs : List α) : List α := if hasK ks k = true then List.zipWith (fun j x => if j = k then z else x) ks xs else xs ++ [z]
theorem put_len2 {α : Type} {ks : List Key} {k : Key} {z : α} {xs : List α} (h : ks.length = xs.length) : (putKs ks k).length = (putVs ks k z xs).length := by
  unfold putKs putVs
  split
  · rw [List.length_zipWith, ← h, Nat.min_self]
  · rw [List.length_append, List.length_append, h]
    rfl
theorem any_key {α : Type} {k : Key} : ∀ {ks : List Key} {xs : List α}, ks.length = xs.length → ((ks.zip xs).any fun kv => decide (kv.1 = k)) = hasK ks k
  | [], [], _ => rfl
  | j :: ks, x :: xs, h => by
    unfold hasK
    rw [List.zip_cons_cons, List.any_cons, List.any_cons, any_key (by simpa using h)]
    rfl
theorem map_rep {k : Key} {v : V} : ∀ {ks : List Key} {vs : List V}, ks.length = vs.length → (ks.zip vs).map (fun kv => if kv.1 = k then (kv.1, v) else kv) = ks.zip (List.zipWith (fun j x => if j = k then v else x) ks vs)
  | [], [], _ => rfl
  | j :: ks, x :: vs, h => by
    rw [List.zip_cons_cons, List.map_cons, List.zipWith_cons_cons, List.zip_cons_cons, map_rep (by simpa using h)]
    by_cases e : j = k
    · rw [if_pos e, if_pos e]
    · rw [if_neg e, if_neg e]
theorem put_zip {ks : List Key} {k : Key} {v : V} {vs : List V} (h : ks.length = vs.length) : putK (ks.zip vs) k v = (putKs ks k).zip (putVs ks k v vs) := by
  unfold putK putKs putVs
  rw [any_key h]
  by_cases m : hasK ks k = true
  · rw [if_pos m, if_pos m, if_pos m, map_rep h]
  · rw [if_neg m, if_neg m, if_neg m, List.zip_append h]
    rfl
theorem RpL.repV {K : PySem.W.Frag} {H : Hp} {k : Key} {v : V} {z : D} (hz : Rp K H v z) : ∀ {ks : List Key} {vs : List V} {xs : List D}, RpL K H vs xs → RpL K H (List.zipWith (fun j x => if j = k then v else x) ks vs) (List.zipWith (fun j x => if j = k then z else x) ks xs)
  | [], _, _, _ => .nil
  | _ :: _, _, _, .nil => .nil
  | j :: ks, _, _, .cons a r => by
    rw [List.zipWith_cons_cons, List.zipWith_cons_cons]
    by_cases e : j = k
    · rw [if_pos e, if_pos e]
      exact .cons hz (RpL.repV hz r)
    · rw [if_neg e, if_neg e]
      exact .cons a (RpL.repV hz r)
theorem RpL.putV {K : PySem.W.Frag} {H : Hp} {ks : List Key} {k : Key} {v : V} {z : D} {vs : List V} {xs : List D} (hz : Rp K H v z) (r : RpL K H vs xs) : RpL K H (putVs ks k v vs) (putVs ks k z xs) := by
  unfold putVs
  split
  · exact RpL.repV hz r
  · exact r.app (.cons hz .nil)
theorem look_rel {K : PySem.W.Frag} {H : Hp} {k : Key} : ∀ {ks : List Key} {vs : List V} {xs : List D}, RpL K H vs xs → (valV (ks.zip vs) k = none ∧ dlook ks xs k = none) ∨ ∃ v z, valV (ks.zip vs) k = some v ∧ dlook ks xs k = some z ∧ Rp K H v z
  | [], _, _, _ => .inl ⟨rfl, rfl⟩
  | _ :: _, _, _, .nil => .inl ⟨rfl, rfl⟩
  | j :: ks, v :: vs, x :: xs, .cons a r => by
    by_cases e : j = k
    · exact .inr ⟨v, x, by unfold valV; simp [List.zip_cons_cons, List.find?_cons, e], by unfold dlook; simp [List.zip_cons_cons, List.find?_cons, e], a⟩
    · have e1 : valV ((j :: ks).zip (v :: vs)) k = valV (ks.zip vs) k := by unfold valV; simp [List.zip_cons_cons, List.find?_cons, e]
      have e2 : dlook (j :: ks) (x :: xs) k = dlook ks xs k := by unfold dlook; simp [List.zip_cons_cons, List.find?_cons, e]
      rw [e1, e2]
      exact look_rel r
def dDctM : DE := fun _ G R => ∀ p, G p = none → R (.ref p) (gup G p (.dct [] []))
def dDget2 (dobj dk dd : DE) : DE := fun ρ G R => dobj ρ G fun o G1 => ∃ q, o = .ref q ∧ (∃ ks xs, G1 q = some (.dct ks xs)) ∧ dk ρ G1 fun y G2 => dd ρ G2 fun z G3 => ∃ s ks xs, y = .str s ∧ G3 q = some (.dct ks xs) ∧ R ((dlook ks xs (.inr s)).getD z) G3
def dDput (dv dobj dk : DE) : DS := fun E ρ G => dv ρ G fun z G1 => dobj ρ G1 fun o G2 => dk ρ G2 fun y G3 => ∃ q s ks xs, o = .ref q ∧ y = .str s ∧ G3 q = some (.dct ks xs) ∧ ks.length < sizeLine ∧ E.nx ρ (gup G3 q (.dct (putKs ks (.inr s)) (putVs ks (.inr s) z xs)))
section
variable {X : Cx} {B : Bs} {pos pos' apos cpos : Pos} {o e f i value : Expr} {dobj dk dd dv : DE}
theorem pd_dnewM : PE X (.Dict [] [] pos) (upE X.K B dDctM) := pe_imp pe_dnewK fun σ H Q ⟨ρ, Hd, G, R, at_, h, k⟩ p hp =>
  k (.ref p) _ Hd (.ref p) _ (Ex.refl _) (at_.s.cell (m := .dct [] []) hp ⟨[], upd_same, rfl, .nil⟩) (.ref p) (h p (at_.s.gfree hp))
theorem pd_dget2 (hu : X.A.units + 64 < cLine) (ho : PE X o (upE X.K B dobj)) (he : PE X e (upE X.K B dk)) (hf : PE X f (upE X.K B dd)) (m : M2 X o "get" apos e f cpos := by exact ⟨rfl, rfl, rfl, rfl⟩) : PE X (.Call (.Attribute o "get" apos) [e, f] [] cpos) (upE X.K B (dDget2 dobj dk dd)) :=
  pe_imp (pe_dget2 (by omega) ho he hf m) fun σ H Q ⟨ρ, Hd, G, R, at_, h, k⟩ =>
    ⟨ρ, Hd, G, _, at_, h, fun v H1 Hd1 x G1 e1 s1 r1 ⟨q, ex, ⟨ks, xs, hg⟩, h1⟩ => by
      subst ex
      cases r1
      obtain ⟨vs, h2, hl, rl⟩ := s1.hold q _ hg
      refine ⟨q, rfl, .inl ⟨_, .inl h2⟩, ρ, Hd1, G1, _, at_.step e1 s1, h1, fun v2 H2 Hd2 y G2 e2 s2 r2 h3 => ⟨ρ, Hd2, G2, _, (at_.step e1 s1).step e2 s2, h3, fun v3 H3 Hd3 z G3 e3 s3 r3 ⟨s, ks, xs, ey, hg3, h4⟩ => ?_⟩⟩
      subst ey
      cases r2
      obtain ⟨vs, h5, hl, rl⟩ := s3.hold q _ hg3
      refine ⟨_, DGet.k (k := .inr s) h5, ?_⟩
      rcases look_rel (ks := ks) (k := .inr s) rl with ⟨a, b⟩ | ⟨v, z', a, b, r⟩
      · rw [a]
        rw [b] at h4
        exact k _ H3 Hd3 _ G3 ((e1.trans e2).trans e3) s3 r3 h4
      · rw [a]
        rw [b] at h4
        exact k _ H3 Hd3 _ G3 ((e1.trans e2).trans e3) s3 r h4⟩
theorem psd_dput (hu : X.A.units + 64 < cLine) (hv : PE X value (upE X.K B dv)) (ho : PE X o (upE X.K B dobj)) (hi : PE X i (upE X.K B dk)) (hs : swapsWith value (some (.Subscript o i pos')) pos.line X.env = pure false := by rfl) :
    PS X (.Assign [.Subscript o i pos'] value pos) (upS X.K B (dDput dv dobj dk)) := ps_imp (ps_dput (by omega) ho hi hv hs) fun D σ H ⟨ρ, Hd, G, E, at_, h, k⟩ =>
  ⟨ρ, Hd, G, _, at_, h, fun v H1 Hd1 z G1 e1 s1 r1 h1 => ⟨ρ, Hd1, G1, _, at_.step e1 s1, h1, fun v2 H2 Hd2 x G2 e2 s2 r2 h2 => ⟨ρ, Hd2, G2, _, (at_.step e1 s1).step e2 s2, h2, fun v3 H3 Hd3 y G3 e3 s3 r3 ⟨q, s, ks, xs, ex, ey, hg, hz, hE⟩ => by
    subst ex ey
    cases r2
    cases r3
    obtain ⟨vs, h5, hl, rl⟩ := s3.hold q _ hg
    refine ⟨q, _, rfl, DPut.k (k := .inr s) h5 (by rw [List.length_zip, ← hl, Nat.min_self]; exact hz), ?_⟩
    refine k.nx σ _ Hd3 ρ _ ((e1.trans e2).trans e3) (at_.e.mono ((e1.trans e2).trans e3)) (s3.put (n := .dct (putKs ks (.inr s)) (putVs ks (.inr s) z xs)) hg ⟨putVs ks (.inr s) v vs, ?_, put_len2 hl, RpL.putV (r1.mono (e2.trans e3)) rl⟩) hE
    rw [upd_same, put_zip hl]⟩⟩⟩
end
end DL
namespace DL
open PySem PySem.Spec PyProof.Rows L2 Evl Sup
variable [TabC]
theorem p3 (n : Nat) : (0 : Int) < 3 ^ n := Int.pow_pos (by decide)
theorem hp_pos (b : Bx) : 0 < (hp b).2 := by
  match b with
  | none => decide
  | some 0 => decide
  | some (n + 1) => exact p3 n
theorem gcd_one (a : Int) : Int.gcd 1 a = 1 := by
  show Nat.gcd (Int.natAbs 1) a.natAbs = 1
  exact Nat.gcd_one_left _
theorem hp_cop (b : Bx) : Int.gcd (hp b).1 (hp b).2 = 1 := by
  match b with
  | none => decide
  | some 0 => decide
  | some (n + 1) => exact gcd_one _
theorem hp_low (b : Bx) : hgt b = lowZ (hp b).1 (hp b).2 := (lowZ_cop (hp_pos b) (hp_cop b)).symm
theorem p3_lt {n k : Nat} (h : n ≤ k) : ((3 : Int) ^ n).natAbs < 2 ^ (2 * k + 1) := by
  have e : ((3 : Int) ^ n).natAbs = 3 ^ n := by
    rw [Int.natAbs_pow]
    rfl
  rw [e]
  have h1 : 3 ^ n ≤ 4 ^ n := Nat.pow_le_pow_left (by decide) n
  have h2 : (4 : Nat) ^ n = 2 ^ (2 * n) := by rw [Nat.pow_mul]
  rw [h2] at h1
  exact Nat.lt_of_le_of_lt h1 (Nat.pow_lt_pow_right (by decide) (by omega))
theorem hgt_cz {b : Bx} {N : Nat} (h : bxLt (N + 1) b) (hN : 1 ≤ N) : Cz (2 * N + 1) (hgt b) := by
  have one : 1 < 2 ^ (2 * N + 1) := Nat.lt_of_lt_of_le (show 1 < 2 ^ 1 by decide) (Nat.pow_le_pow_right (by decide) (by omega))
  refine ⟨_, _, rfl, hp_pos b, hp_cop b, ?_, ?_⟩
  · match b with
    | none => exact Nat.pow_pos (by decide)
    | some 0 => exact Nat.lt_of_lt_of_le (show 3 < 2 ^ 2 by decide) (Nat.pow_le_pow_right (by decide) (by omega))
    | some (n + 1) => exact one
  · match b with
    | none => exact one
    | some 0 => exact one
    | some (n + 1) =>
      have := h (n + 1) rfl
      exact p3_lt (by omega)
theorem p3_inj {m n : Nat} (h : (3 : Int) ^ m = 3 ^ n) : m = n := by
  have h2 : (3 : Nat) ^ m = 3 ^ n := by exact_mod_cast h
  rcases Nat.lt_trichotomy m n with l | e | l
  · have := Nat.pow_lt_pow_right (a := 3) (by decide) l
    omega
  · exact e
  · have := Nat.pow_lt_pow_right (a := 3) (by decide) l
    omega
theorem hp_inj {a b : Bx} (h : hp a = hp b) : a = b := by
  match a, b with
  | none, none => rfl
  | none, some 0 => exact absurd (congrArg Prod.fst h) (by decide)
  | none, some (n + 1) => exact absurd (congrArg Prod.fst h) (by show ¬ (0 : Int) = 1; decide)
  | some 0, none => exact absurd (congrArg Prod.fst h) (by decide)
  | some 0, some 0 => rfl
  | some 0, some (n + 1) => exact absurd (congrArg Prod.fst h) (by show ¬ (3 : Int) = 1; decide)
  | some (m + 1), none => exact absurd (congrArg Prod.fst h) (by show ¬ (1 : Int) = 0; decide)
  | some (m + 1), some 0 => exact absurd (congrArg Prod.fst h) (by show ¬ (1 : Int) = 3; decide)
  | some (m + 1), some (n + 1) =>
    have e : (3 : Int) ^ m = 3 ^ n := congrArg Prod.snd h
    rw [p3_inj e]
theorem hgt_I (b : Bx) : numI (hgt b) = hp b := numI_pair
theorem hgt_inj {a b : Bx} (h : hgt a = hgt b) : a = b := hp_inj (by rw [← hgt_I, ← hgt_I, h])
theorem Ev.mul3 {ρ : En} {G : Gm} {da : DE} {i : Int} (ha : Ev da ρ G (.int i)) : Ev (dOp (fIntC IntMulOk fun i j => .int (i * j)) da (dC (.int 3))) ρ G (.int (i * 3)) := .mul ha .c (mul_right (by decide))
def heightR : DS := (dSeq (dIfS (dTst (dIsN (dVar 0))) (dRet (dC (.int 0))) dNext) (dSeq (dIfS (dTst (dOp fEq (dVar 0) (dC (.int 0)))) (dRet (dC (.int 3))) dNext) (dSeq (dSet 1 (dC (.int 1))) (dSeq (dFor (dIRng1 (dOp (fInt fun i j => .int (i - j)) (dVar 0) (dC (.int 1)))) (gN 2) (dSet 1 (dOp (fIntC IntMulOk fun i j => .int (i * j)) (dVar 1) (dC (.int 3))))) (dRet (dCall sp_lowZ X0 (dCons (dC (.int 1)) (dCons (dVar 1) dNil))))))))
def sp_height : DSp := fun xs G R _ => ∃ b : Bx, xs = [bxD b] ∧ bxLt 1201 b ∧ R (hgt b) G
theorem rng_len (n : Nat) : (rngD 0 ((n : Int)).toNat).length = n := by
  unfold rngD
  rw [List.length_map, List.length_range, Int.toNat_natCast]
theorem for3 {E : DEnds} {ρ0 : Option D} {G : Gm} {n : Nat} {d : DE} {rest : DS} (o2 : Option D) (hd : ∀ o1, Ev d [ρ0, o1, o2] G (.int n)) (hn : n ≤ 1000000) (h : ∀ o2, rest E [ρ0, some (.int (3 ^ n)), o2] G) :
    dSeq (dSet 1 (dC (.int 1))) (dSeq (dFor (dIRng1 d) (gN 2) (dSet 1 (dOp (fIntC IntMulOk fun i j => .int (i * j)) (dVar 1) (dC (.int 3))))) rest) E [ρ0, none, o2] G := by
  refine ds_set .c ?_
  dsimp only [List.set]
  refine hd _ _ ⟨(n : Int), rfl, by omega, by omega, ?_⟩
  refine forL_at (fun rst ρ G' => G' = G ∧ ∃ (k : Nat) (o2 : Option D), ρ = [ρ0, some (.int (3 ^ k)), o2] ∧ k + rst.length = n) ?_ ?_ ?_
  · rintro x rst N ρ G1 hsuf hN ⟨rfl, k, o2, rfl, hk⟩
    rw [List.length_cons] at hk
    show _
    refine ds_set (.mul3 (.var rfl)) ?_
    exact hN _ _ ⟨rfl, k + 1, _, by dsimp only [List.set]; rw [Int.pow_succ], by omega⟩
  · rintro ρ G1 ⟨rfl, k, o2, rfl, hk⟩
    have e : k = n := by simpa using hk
    subst e
    exact h o2
  · exact ⟨rfl, 0, o2, rfl, by rw [rng_len]; omega⟩
theorem height_ok (xs : List D) (G : Gm) (R : KD) (RX : XD) (h : sp_height xs G R RX) : heightR { nx := fun _ G => R .non G, rt := R } (xs.map some ++ List.replicate (3 - xs.length) none) G := by
  obtain ⟨b, rfl, hb, h⟩ := h
  match b, hb, h with
  | none, _, h =>
    refine ds_if (k := true) (.tst ((Ev.isN (x := .non) (.var rfl)).cast rfl)) ?_
    exact ds_ret .c h
  | some 0, _, h =>
    refine ds_if (k := false) (.tst ((Ev.isN (x := .int 0) (.var rfl)).cast rfl)) ?_
    dsimp only
    refine to_next ?_
    refine ds_if (k := true) (.tst ((Ev.eqI (i := 0) (.var rfl) .c).cast rfl)) ?_
    exact ds_ret .c h
  | some (n + 1), hb, h =>
    have := hb (n + 1) rfl
    refine ds_if (k := false) (.tst ((Ev.isN (x := .int ((n + 1 : Nat) : Int)) (.var rfl)).cast rfl)) ?_
    dsimp only
    refine to_next ?_
    refine ds_if (k := false) (.tst ((Ev.eqI (i := ((n + 1 : Nat) : Int)) (.var rfl) .c).cast (by rw [decide_eq_false (by omega)]))) ?_
    dsimp only
    refine to_next ?_
    refine for3 (n := n) none (fun o1 => (Ev.sub (i := ((n + 1 : Nat) : Int)) (.var rfl) .c).cast (by congr 1; omega)) (by omega) fun o2 => ?_
    refine ds_ret (.lowZ (a := 1) (u := 3 ^ n) .c (.var rfl) (by have := p3 n; omega) (Nat.lt_of_lt_of_le (p3_lt (k := 1200) (by omega)) (Nat.pow_le_pow_right (by decide) (by decide)))) ?_
    rw [show lowZ 1 (3 ^ n) = hgt (some (n + 1)) from (hp_low (some (n + 1))).symm]
    exact h
def lawHeightR : DS := (dSeq (dIfS (dOr (dTst (dIsN (dVar 0))) (dTst (dOp fEq (dVar 0) (dC (.int 0))))) (dRet (dIf (dTst (dIsN (dVar 0))) (dC (.int 0)) (dC (.int 3)))) dNext) (dSeq (dSet 1 (dC (.int 1))) (dSeq (dFor (dIRng1 (dOp (fInt fun i j => .int (i - j)) (dVar 0) (dC (.int 1)))) (gN 2) (dSet 1 (dOp (fIntC IntMulOk fun i j => .int (i * j)) (dVar 1) (dC (.int 3))))) (dRet (dIf (dTst (dOp fEq (dVar 1) (dC (.int 1)))) (dC (.int 1)) (dTup (dCons (dC (.int 1)) (dCons (dVar 1) dNil))))))))
theorem law_height_ok (xs : List D) (G : Gm) (R : KD) (RX : XD) (h : sp_height xs G R RX) : lawHeightR { nx := fun _ G => R .non G, rt := R } (xs.map some ++ List.replicate (3 - xs.length) none) G := by
  obtain ⟨b, rfl, hb, h⟩ := h
  match b, hb, h with
  | none, _, h =>
    refine ds_if (k := true) (.orT (.tst ((Ev.isN (x := .non) (.var rfl)).cast rfl))) ?_
    exact ds_ret (.ifT (.tst ((Ev.isN (x := .non) (.var rfl)).cast rfl)) .c) h
  | some 0, _, h =>
    refine ds_if (k := true) (.orF (.tst ((Ev.isN (x := .int 0) (.var rfl)).cast rfl)) (.tst ((Ev.eqI (i := 0) (.var rfl) .c).cast rfl))) ?_
    exact ds_ret (.ifF (.tst ((Ev.isN (x := .int 0) (.var rfl)).cast rfl)) .c) h
  | some (n + 1), hb, h =>
    have := hb (n + 1) rfl
    refine ds_if (k := false) (.orF (.tst ((Ev.isN (x := .int ((n + 1 : Nat) : Int)) (.var rfl)).cast rfl)) (.tst ((Ev.eqI (i := ((n + 1 : Nat) : Int)) (.var rfl) .c).cast (by rw [decide_eq_false (by omega)])))) ?_
    dsimp only
    refine to_next ?_
    refine for3 (n := n) none (fun o1 => (Ev.sub (i := ((n + 1 : Nat) : Int)) (.var rfl) .c).cast (by congr 1; omega)) (by omega) fun o2 => ?_
    have eh : hgt (some (n + 1)) = pairZ 1 (3 ^ n) := rfl
    unfold pairZ at eh
    by_cases h1 : (3 : Int) ^ n = 1
    · rw [if_pos h1] at eh
      rw [eh] at h
      exact ds_ret (.ifT (.tst ((Ev.eqI (.var rfl) .c).cast (by rw [decide_eq_true h1]))) .c) h
    · rw [if_neg h1] at eh
      rw [eh] at h
      exact ds_ret (.ifF (.tst ((Ev.eqI (.var rfl) .c).cast (by rw [decide_eq_false h1]))) (.tup (.cons .c (.one (.var rfl))) (show 2 ≤ sizeLine by decide))) h
end DL
namespace DL
open PySem PySem.Spec PyProof.Rows L2 Evl Sup
variable [TabC]
theorem cmp_pair {k : Nat} {x : D} (h : Cz k x) : Cmp x ∧ x.pln = true := by
  obtain ⟨n, d, rfl, _⟩ := h
  unfold pairZ
  split
  · exact ⟨⟨rfl, show 0 ≤ 60 by decide⟩, rfl⟩
  · exact ⟨⟨rfl, by show max 0 (max 0 0) + 1 ≤ 60; decide⟩, rfl⟩
theorem Ev.eqZ {ρ : En} {G : Gm} {da db : DE} {x y : D} {j k : Nat} (ha : Ev da ρ G x) (hb : Ev db ρ G y) (hx : Cz j x) (hy : Cz k y) {b : Bool} (h : x = y ↔ b = true) : Ev (dOp fEq da db) ρ G (.bl b) := by
  obtain ⟨cx, px⟩ := cmp_pair hx
  obtain ⟨cy, py⟩ := cmp_pair hy
  have e : D.eqv x y = b := by
    rw [eqv_dec px py h]
    cases b <;> rfl
  obtain ⟨n, d, rfl, _⟩ := hx
  obtain ⟨m, c, rfl, _⟩ := hy
  refine .op ha hb ?_
  unfold pairZ at h e cx cy ⊢
  by_cases h1 : d = 1
  · rw [if_pos h1] at h e cx ⊢
    by_cases h2 : c = 1
    · rw [if_pos h2] at h e cy ⊢
      show D.bl b = D.bl (decide (n = m))
      congr 1
      cases b with
      | true => exact (decide_eq_true (D.int.inj (h.mpr rfl))).symm
      | false => exact (decide_eq_false fun z => by cases h.mp (congrArg D.int z)).symm
    · rw [if_neg h2] at h e cy ⊢
      exact ⟨cx, cy, by rw [e]⟩
  · rw [if_neg h1] at h e cx ⊢
    by_cases h2 : c = 1
    · rw [if_pos h2] at h e cy ⊢
      exact ⟨cx, cy, by rw [e]⟩
    · rw [if_neg h2] at h e cy ⊢
      exact ⟨cx, cy, by rw [e]⟩
theorem cz_int {i : Int} {k : Nat} (h : i.natAbs < 2 ^ k) (hk : 1 ≤ k) : Cz k (.int i) := ⟨i, 1, rfl, by decide, by show Nat.gcd _ 1 = 1; exact Nat.gcd_one_right _, h, Nat.lt_of_lt_of_le (show 1 < 2 ^ 1 by decide) (Nat.pow_le_pow_right (by decide) hk)⟩
theorem cz_pos {k : Nat} {x : D} (h : Cz k x) : 0 < (numI x).2 := by
  obtain ⟨n, d, rfl, hd, _⟩ := h
  rw [numI_pair]
  exact hd
theorem lt_low {x : D} {a u : Int} (hx : 0 < (numI x).2) (hu : 0 < u) : ltN x (lowZ a u) = decide ((numI x).1 * u < a * (numI x).2) := by
  obtain ⟨_, h0, hc⟩ := lowZ_num (a := a) (u := u) (by omega)
  unfold ltN
  generalize (numI (lowZ a u)).1 = n at *
  generalize (numI (lowZ a u)).2 = d at *
  generalize (numI x).1 = p at *
  generalize (numI x).2 = q at *
  refine decide_eq_decide.mpr ⟨fun h => ?_, fun h => ?_⟩
  · have h1 : p * d * u < n * q * u := Int.mul_lt_mul_of_pos_right h hu
    have e1 : n * q * u = a * d * q := by rw [Int.mul_right_comm, hc]
    have e2 : p * d * u = p * u * d := Int.mul_right_comm ..
    have e3 : a * d * q = a * q * d := Int.mul_right_comm ..
    rw [e1, e2, e3] at h1
    exact Int.lt_of_mul_lt_mul_right h1 (Int.le_of_lt h0)
  · have h1 : p * u * d < a * q * d := Int.mul_lt_mul_of_pos_right h h0
    have e1 : n * q * u = a * d * q := by rw [Int.mul_right_comm, hc]
    have e2 : p * d * u = p * u * d := Int.mul_right_comm ..
    have e3 : a * d * q = a * q * d := Int.mul_right_comm ..
    rw [← e3, ← e1, ← e2] at h1
    exact Int.lt_of_mul_lt_mul_right h1 (Int.le_of_lt hu)
theorem lt_int {x : D} {i : Int} : ltN x (.int i) = decide ((numI x).1 < i * (numI x).2) := by
  show decide ((numI x).1 * 1 < i * (numI x).2) = _
  rw [Int.mul_one]
theorem int_lt {x : D} {i : Int} : ltN (.int i) x = decide (i * (numI x).2 < (numI x).1) := by
  show decide (i * (numI x).2 < (numI x).1 * 1) = _
  rw [Int.mul_one]
def LikeK (p q : Int) (k : Nat) : Prop := (∀ j, j < k → p * 3 ^ j < 2 * q) ∧ 2 * q ≤ p * 3 ^ k
theorem like_ex {p q : Int} : ∀ {N : Nat}, 2 * q ≤ p * 3 ^ N → ∃ k, k ≤ N ∧ LikeK p q k
  | 0, h => ⟨0, Nat.le_refl _, fun j hj => absurd hj (Nat.not_lt_zero _), h⟩
  | N + 1, h => by
    by_cases h1 : ∃ j, j ≤ N ∧ 2 * q ≤ p * 3 ^ j
    · obtain ⟨j, hj, hq⟩ := h1
      obtain ⟨k, hk, hl⟩ := like_ex hq
      exact ⟨k, by omega, hl⟩
    · exact ⟨N + 1, Nat.le_refl _, fun j hj => Int.not_le.mp fun z => h1 ⟨j, by omega, z⟩, h⟩
termination_by N => N
theorem like_hp {b : Bx} {n : Nat} (e : b = some n) : LikeK (hp b).1 (hp b).2 n := by
  subst e
  match n with
  | 0 => exact ⟨fun j hj => absurd hj (Nat.not_lt_zero _), by show 2 * 1 ≤ (3 : Int) * 3 ^ 0; decide⟩
  | n + 1 =>
    refine ⟨fun j hj => ?_, ?_⟩
    · show 1 * (3 : Int) ^ j < 2 * 3 ^ n
      have : (3 : Int) ^ j ≤ 3 ^ n := by exact_mod_cast Nat.pow_le_pow_right (show 0 < 3 by decide) (show j ≤ n by omega)
      have := p3 n
      omega
    · show 2 * (3 : Int) ^ n ≤ 1 * 3 ^ (n + 1)
      rw [Int.pow_succ]
      have := p3 n
      omega
theorem like_one {p q : Int} (hp : 0 < p) {j k : Nat} (h : LikeK p q j) (h' : LikeK p q k) : j = k := by
  rcases Nat.lt_trichotomy j k with l | e | l
  · have := h'.1 j l
    have := h.2
    omega
  · exact e
  · have := h.1 k l
    have := h'.2
    omega
def likeR : DS := (dSeq (dIfS (dTst (dOp fEq (dVar 0) (dC (.int 0)))) (dRet (dC .non)) dNext) (dSeq (dAsg (dTup (dCons (dC (.int 0)) (dCons (dC (.int 1)) dNil))) (gSeq 2 (gCons (gN 1) (gCons (gN 2) gNil)))) (dSeq (dWhile (dTst (dCall sp_below X0 (dCons (dVar 0) (dCons (dCall sp_lowZ X0 (dCons (dC (.int 2)) (dCons (dVar 2) dNil))) dNil)))) (dPar 1 2 (dCons (dOp fAdd (dVar 1) (dC (.int 1))) (dCons (dOp (fIntC IntMulOk fun i j => .int (i * j)) (dVar 2) (dC (.int 3))) dNil)))) (dRet (dVar 1)))))
def sp_like : DSp := fun xs G R _ => ∃ x : D, xs = [x] ∧ Cz 3900 x ∧ ((x = .int 0 ∧ R .non G) ∨ ∃ k : Nat, 0 < (numI x).1 ∧ k ≤ 1200 ∧ LikeK (numI x).1 (numI x).2 k ∧ R (.int k) G)
theorem like_ok (xs : List D) (G : Gm) (R : KD) (RX : XD) (h : sp_like xs G R RX) : likeR { nx := fun _ G => R .non G, rt := R } (xs.map some ++ List.replicate (3 - xs.length) none) G := by
  obtain ⟨x, rfl, hx, h⟩ := h
  have c0 : Cz 1 (.int 0) := cz_int (by decide) (by decide)
  rcases h with ⟨rfl, h⟩ | ⟨k, hp, hk, hl, h⟩
  · refine ds_if (k := true) (.tst (.eqZ (.var rfl) .c c0 c0 ⟨fun _ => rfl, fun _ => rfl⟩)) ?_
    exact ds_ret .c h
  · refine ds_if (k := false) (.tst (.eqZ (.var rfl) .c hx c0 ⟨fun z => by rw [z] at hp; exact absurd hp (by decide), fun z => by cases z⟩)) ?_
    dsimp only
    refine to_next ?_
    refine ds_asg2 (.tup (.cons .c (.one .c)) (show 2 ≤ sizeLine by decide)) seq_tup ?_
    dsimp only [List.set, List.map, List.replicate, List.length, Nat.sub, List.append]
    refine ⟨fun m ρ G' => G' = G ∧ ∃ j : Nat, ρ = [some x, some (.int j), some (.int (3 ^ j))] ∧ j + m = k, ⟨k, rfl, 0, rfl, by omega⟩, ?_⟩
    rintro m ρ G' ⟨rfl, j, rfl, hm⟩
    have hu : ((3 : Int) ^ j).natAbs < 2 ^ 2401 := p3_lt (k := 1200) (by omega)
    have bl : Bn 4000 (lowZ 2 (3 ^ j)) := lowZ_bn (by have := p3 j; omega) (Nat.lt_of_lt_of_le (show (2 : Int).natAbs < 2 ^ 2 by decide) (Nat.pow_le_pow_right (by decide) (by decide))) (Nat.lt_of_lt_of_le hu (Nat.pow_le_pow_right (by decide) (by decide)))
    have test : Ev (dCall sp_below X0 (dCons (dVar 0) (dCons (dCall sp_lowZ X0 (dCons (dC (.int 2)) (dCons (dVar 2) dNil))) dNil))) [some x, some (.int j), some (.int (3 ^ j))] G' (.bl (decide ((numI x).1 * 3 ^ j < 2 * (numI x).2))) := (Ev.below (.var rfl) (.lowZ .c (.var rfl) (by have := p3 j; omega) (Nat.lt_of_lt_of_le hu (Nat.pow_le_pow_right (by decide) (by decide)))) hx.num (lowZ_num (by have := p3 j; omega)).1 (hx.bn.mono (by decide)) bl).cast (by rw [lt_low (cz_pos hx) (p3 j)])
    refine (EvT.tst test) _ ?_
    cases m with
    | zero =>
      have e : j = k := by omega
      subst e
      rw [if_neg (by rw [decide_eq_true_eq]; have := hl.2; omega)]
      exact ds_ret (.var rfl) h
    | succ m =>
      rw [if_pos (decide_eq_true (hl.1 j (by omega)))]
      refine ds_par (.add (.var rfl) .c) (.mul3 (.var rfl)) ?_
      refine ⟨m, Nat.lt_succ_self _, rfl, j + 1, ?_, by omega⟩
      dsimp only [List.set]
      rw [Int.pow_succ]
      rfl
def NoH (a u : Int) : Prop := a ≠ 0 ∧ a ≠ 3 * u ∧ ∀ n : Nat, a * 3 ^ n ≠ u
theorem noH_ne {a u : Int} (hu : 0 < u) (h : NoH a u) (b : Bx) : lowZ a u ≠ hgt b := fun z => by
  obtain ⟨_, h0, hc⟩ := lowZ_num (a := a) (u := u) (by omega)
  rw [z, hgt_I] at hc
  match b with
  | none => exact h.1 (by have : (0 : Int) * u = a * 1 := hc; omega)
  | some 0 => exact h.2.1 (by have : (3 : Int) * u = a * 1 := hc; omega)
  | some (n + 1) => exact h.2.2 n (by have : (1 : Int) * u = a * 3 ^ n := hc; omega)
def hasR : DS := (dSeq (dIfS (dOr (dTst (dCall sp_below X0 (dCons (dVar 0) (dCons (dC (.int 0)) dNil)))) (dTst (dCall sp_below X0 (dCons (dC (.int 3)) (dCons (dVar 0) dNil))))) (dRet (dC (.bl false))) dNext) (dSeq (dIfS (dNot (dTst (dCall sp_below X0 (dCons (dVar 0) (dCons (dC (.int 2)) dNil))))) (dRet (dOp fEq (dVar 0) (dC (.int 3)))) dNext) (dRet (dAndV (dNotV (dCall sp_below X0 (dCons (dC (.int 1)) (dCons (dVar 0) dNil)))) (dOp fEq (dCall sp_height X0 (dCons (dCall sp_like X0 (dCons (dVar 0) dNil)) dNil)) (dVar 0))))))
theorem has_ok (xs : List D) (G : Gm) (R : KD) (RX : XD) (h : sp_has xs G R RX) : hasR { nx := fun _ G => R .non G, rt := R } (xs.map some ++ List.replicate (1 - xs.length) none) G := by
  obtain ⟨x, rfl, hx, h⟩ := h
  obtain ⟨t, ht, hR⟩ : ∃ t : Bool, ((t = true ∧ ∃ b, x = hgt b) ∨ (t = false ∧ ∀ b, x ≠ hgt b)) ∧ R (.bl t) G := by
    rcases h with ⟨b, e, h⟩ | ⟨e, h⟩
    · exact ⟨true, .inl ⟨rfl, b, e⟩, h⟩
    · exact ⟨false, .inr ⟨rfl, e⟩, h⟩
  have hx0 := cz_pos hx
  have bx : Bn 4000 x := hx.bn.mono (by decide)
  have ci : ∀ {i : Int}, i.natAbs < 2 ^ 3 → Bn 4000 (.int i) := fun h => (cz_int (k := 3) h (by decide)).bn.mono (by decide)
  have ni : ∀ {i : Int}, numD (.int i) = true := rfl
  obtain ⟨p, hpx⟩ : ∃ p, p = (numI x).1 := ⟨_, rfl⟩
  obtain ⟨q, hq⟩ : ∃ q, q = (numI x).2 := ⟨_, rfl⟩
  rw [← hq] at hx0
  have b0 : Ev (dCall sp_below X0 (dCons (dVar 0) (dCons (dC (.int 0)) dNil))) [some x] G (.bl (decide (p < 0 * q))) := (Ev.below (.var rfl) .c hx.num ni bx (ci (by decide))).cast (by rw [lt_int, ← hpx, ← hq])
  have b3 : Ev (dCall sp_below X0 (dCons (dC (.int 3)) (dCons (dVar 0) dNil))) [some x] G (.bl (decide (3 * q < p))) := (Ev.below .c (.var rfl) ni hx.num (ci (by decide)) bx).cast (by rw [int_lt, ← hpx, ← hq])
  have b2 : Ev (dCall sp_below X0 (dCons (dVar 0) (dCons (dC (.int 2)) dNil))) [some x] G (.bl (decide (p < 2 * q))) := (Ev.below (.var rfl) .c hx.num ni bx (ci (by decide))).cast (by rw [lt_int, ← hpx, ← hq])
  have b1 : Ev (dCall sp_below X0 (dCons (dC (.int 1)) (dCons (dVar 0) dNil))) [some x] G (.bl (decide (1 * q < p))) := (Ev.below .c (.var rfl) ni hx.num (ci (by decide)) bx).cast (by rw [int_lt, ← hpx, ← hq])
  -- a height lies from 0 to 3, and not between 1 and 3
  have hb : ∀ b, x = hgt b → (b = none ∧ p = 0 ∧ q = 1) ∨ (b = some 0 ∧ p = 3 ∧ q = 1) ∨ (∃ n, b = some (n + 1) ∧ p = 1 ∧ q = 3 ^ n) := fun b e => by
    rw [e, hgt_I] at hpx hq
    match b, hpx, hq with
    | none, hpx, hq => exact .inl ⟨rfl, hpx, hq⟩
    | some 0, hpx, hq => exact .inr (.inl ⟨rfl, hpx, hq⟩)
    | some (n + 1), hpx, hq => exact .inr (.inr ⟨n, rfl, hpx, hq⟩)
  have no : ∀ {P : Prop}, (∀ b, x = hgt b → False) → t = false := fun {P} hh => by
    rcases ht with ⟨_, b, e⟩ | ⟨e, _⟩
    · exact (hh b e).elim
    · exact e
  by_cases c0 : p < 0 * q
  · have e := no (P := True) fun b e => by
      rcases hb b e with ⟨_, h1, h2⟩ | ⟨_, h1, h2⟩ | ⟨n, _, h1, h2⟩ <;> omega
    subst e
    exact ds_if (k := true) (.orT (.tst (b0.cast (by rw [decide_eq_true c0])))) (ds_ret .c hR)
  by_cases c3 : 3 * q < p
  · have e := no (P := True) fun b e => by
      rcases hb b e with ⟨_, h1, h2⟩ | ⟨_, h1, h2⟩ | ⟨n, _, h1, h2⟩ <;> omega
    subst e
    exact ds_if (k := true) (.orF (.tst (b0.cast (by rw [decide_eq_false c0]))) (.tst (b3.cast (by rw [decide_eq_true c3])))) (ds_ret .c hR)
  refine ds_if (k := false) (.orF (.tst (b0.cast (by rw [decide_eq_false c0]))) (.tst (b3.cast (by rw [decide_eq_false c3])))) ?_
  dsimp only
  refine to_next ?_
  by_cases c2 : p < 2 * q
  · refine ds_if (k := false) ((EvT.not (.tst b2)).cast (by rw [decide_eq_true c2]; rfl)) ?_
    dsimp only
    refine to_next ?_
    by_cases c1 : 1 * q < p
    · have e := no (P := True) fun b e => by
        rcases hb b e with ⟨_, h1, h2⟩ | ⟨_, h1, h2⟩ | ⟨n, _, h1, h2⟩ <;> omega
      subst e
      exact ds_ret (.andF ((Ev.notV b1).cast (by rw [decide_eq_true c1]; rfl))) hR
    · have ev : Ev (dOp fEq (dCall sp_height X0 (dCons (dCall sp_like X0 (dCons (dVar 0) dNil)) dNil)) (dVar 0)) [some x] G (.bl t) := by
        by_cases p0 : p = 0
        · have e : x = .int 0 := by
            obtain ⟨n, d, rfl, hd, hg, _⟩ := hx
            rw [numI_pair] at hpx hq
            have hn : n = 0 := by rw [← p0, hpx]
            subst hn
            have : d = 1 := by
              have : Int.gcd 0 d = d.natAbs := Int.gcd_zero_left ..
              omega
            subst this
            rfl
          have tt : t = true := by
            rcases ht with ⟨e, _⟩ | ⟨_, h2⟩
            · exact e
            · exact absurd e (h2 none)
          subst tt
          have hn : Ev (dCall sp_height X0 (dCons (dCall sp_like X0 (dCons (dVar 0) dNil)) dNil)) [some x] G (.int 0) := .call (.one (.call (z := .non) (.one (.var rfl)) fun R r => ⟨x, rfl, hx.mono (by decide), .inl ⟨e, r⟩⟩)) fun R r => ⟨none, rfl, (fun k z => by cases z), r⟩
          exact .eqZ hn (.var rfl) (cz_int (k := 1) (by decide) (by decide)) hx ⟨fun _ => rfl, fun _ => e.symm⟩
        · have p1 : 0 < p := by omega
          have qb : q < 2 ^ 1300 := by
            obtain ⟨n, d, rfl, hd, hg, _, hdb⟩ := hx
            rw [numI_pair] at hq
            have : (d.natAbs : Int) < 2 ^ 1300 := by exact_mod_cast hdb
            rw [hq]
            show d < 2 ^ 1300
            omega
          have big : (2 : Int) * 2 ^ 1300 ≤ 3 ^ 1000 := by decide +kernel
          obtain ⟨k, hk, hl⟩ : ∃ k, k ≤ 1000 ∧ LikeK p q k := like_ex (by
            have : (3 : Int) ^ 1000 ≤ p * 3 ^ 1000 := by
              have := p3 1000
              have h1 := Int.mul_le_mul_of_nonneg_right (show 1 ≤ p by omega) (Int.le_of_lt this)
              rw [Int.one_mul] at h1
              exact h1
            generalize (3 : Int) ^ 1000 = w at *
            generalize (2 : Int) ^ 1300 = v at *
            omega)
          have hlk : Ev (dCall sp_height X0 (dCons (dCall sp_like X0 (dCons (dVar 0) dNil)) dNil)) [some x] G (hgt (some k)) := .call (.one (.call (z := .int k) (.one (.var rfl)) fun R r => ⟨x, rfl, hx.mono (by decide), .inr ⟨k, by rw [← hpx]; exact p1, by omega, by rw [← hpx, ← hq]; exact hl, r⟩⟩)) fun R r => ⟨some k, rfl, (fun j z => by cases z; omega), r⟩
          have ck : Cz 2401 (hgt (some k)) := hgt_cz (N := 1200) (fun j z => by cases z; omega) (by decide)
          refine .eqZ hlk (.var rfl) ck hx ⟨fun z => ?_, fun z => ?_⟩
          · rcases ht with ⟨e, _⟩ | ⟨_, h2⟩
            · exact e
            · exact absurd z.symm (h2 _)
          · rcases ht with ⟨_, b, e⟩ | ⟨e, _⟩
            · rw [e]
              congr 1
              rcases hb b e with ⟨_, h1, _⟩ | ⟨e2, h1, h2⟩ | ⟨n, e2, h1, h2⟩
              · omega
              · omega
              · have := like_hp (b := b) e2
                have e3 : hp b = (p, q) := by rw [← hgt_I, ← e, hpx, hq]
                rw [e3] at this
                rw [e2, like_one p1 hl this]
            · rw [e] at z
              cases z
      exact ds_ret (.andT ((Ev.notV b1).cast (by rw [decide_eq_false c1]; rfl)) ev) hR
  · refine ds_if (k := true) ((EvT.not (.tst b2)).cast (by rw [decide_eq_false c2]; rfl)) ?_
    refine ds_ret (.eqZ (.var rfl) .c hx (cz_int (i := 3) (k := 3) (by decide) (by decide)) ⟨fun z => ?_, fun z => ?_⟩) hR
    · rcases ht with ⟨e, _⟩ | ⟨_, h2⟩
      · exact e
      · exact absurd z (h2 (some 0))
    · rcases ht with ⟨_, b, e⟩ | ⟨e, _⟩
      · rcases hb b e with ⟨_, h1, h2⟩ | ⟨e2, h1, h2⟩ | ⟨n, _, h1, h2⟩
        · omega
        · rw [e, e2]
          rfl
        · have := p3 n
          omega
      · rw [e] at z
        cases z
end DL
namespace DL
open PySem PySem.Spec PyProof.Rows L2 Evl Sup
variable [TabC]
def lawPairR : DS := (dRet (dIf (dTst (dCal (fIsi "int") (dCons (dVar 0) (dCons (dC (.ty "int")) dNil)))) (dTup (dCons (dVar 0) (dCons (dC (.int 1)) dNil))) (dTup (dCons (dIx (dVar 0) (dC (.int 0))) (dCons (dIx (dVar 0) (dC (.int 1))) dNil)))))
def sp_pairN : DSp := fun xs G R _ => ∃ (x : D) (k : Nat), xs = [x] ∧ Cz k x ∧ R (.tup [.int (numI x).1, .int (numI x).2]) G
theorem law_pair_ok (xs : List D) (G : Gm) (R : KD) (RX : XD) (h : sp_pairN xs G R RX) : lawPairR { nx := fun _ G => R .non G, rt := R } (xs.map some ++ List.replicate (1 - xs.length) none) G := by
  obtain ⟨x, k, rfl, ⟨n, d, rfl, _⟩, h⟩ := h
  rw [numI_pair] at h
  unfold pairZ
  by_cases h1 : d = 1
  · rw [if_pos h1]
    subst h1
    exact ds_ret (.ifT (.tst ((Ev.isi (t := "int") (.var rfl) rfl).cast rfl)) (.tup (.cons (.var rfl) (.one .c)) (show 2 ≤ sizeLine by decide))) h
  · rw [if_neg h1]
    exact ds_ret (.ifF (.tst ((Ev.isi (t := "tuple") (.var rfl) rfl).cast (congrArg D.bl (by decide)))) (.tup (.cons (.at (.var rfl) .c seq_tup rfl) (.one (.at (.var rfl) .c seq_tup rfl))) (show 2 ≤ sizeLine by decide))) h
def pairsA (t : DS) : DS := (dSeq (dAsg (dTup (dCons (dCall sp_pairN X0 (dCons (dVar 0) dNil)) (dCons (dCall sp_pairN X0 (dCons (dVar 1) dNil)) dNil))) (gSeq 2 (gCons (gSeq 2 (gCons (gN 2) (gCons (gN 3) gNil))) (gCons (gSeq 2 (gCons (gN 4) (gCons (gN 5) gNil))) gNil)))) t)
theorem pairsA_ok {x y : D} {j k : Nat} {t : DS} {E : DEnds} {G : Gm} (nx : Cz j x) (ny : Cz k y) (h : t E [some x, some y, some (.int (numI x).1), some (.int (numI x).2), some (.int (numI y).1), some (.int (numI y).2)] G) : pairsA t E [some x, some y, none, none, none, none] G := by
  refine ds_asg (.tup (.cons (.call (.one (.var rfl)) fun R r => ⟨x, j, rfl, nx, r⟩) (.one (.call (.one (.var rfl)) fun R r => ⟨y, k, rfl, ny, r⟩))) (show 2 ≤ sizeLine by decide)) ?_
  refine ⟨_, seq_tup, rfl, _, _, rfl, ⟨_, seq_tup, rfl, _, _, rfl, _, _, rfl, rfl, ?_⟩⟩
  refine ⟨_, _, rfl, ⟨_, seq_tup, rfl, _, _, rfl, _, _, rfl, rfl, ?_⟩⟩
  exact ⟨rfl, h⟩
def sp_C2 (f : D → D → D) : DSp := fun xs G R _ => ∃ x y : D, xs = [x, y] ∧ Cz 2900 x ∧ Cz 2900 y ∧ R (f x y) G
def lawAddR : DS := pairsA (dRet (dCall sp_lowZ X0 (dCons (dOp fAdd (dOp (fIntC IntMulOk fun i j => .int (i * j)) (dVar 2) (dVar 5)) (dOp (fIntC IntMulOk fun i j => .int (i * j)) (dVar 4) (dVar 3))) (dCons (dOp (fIntC IntMulOk fun i j => .int (i * j)) (dVar 3) (dVar 5)) dNil))))
theorem law_add_ok (xs : List D) (G : Gm) (R : KD) (RX : XD) (h : sp_C2 plusZ xs G R RX) : lawAddR { nx := fun _ G => R .non G, rt := R } (xs.map some ++ List.replicate (6 - xs.length) none) G := by
  obtain ⟨x, y, rfl, nx, ny, h⟩ := h
  have px := cz_pos nx
  have py := cz_pos ny
  have bx := nx.bn.mono (show 2900 ≤ 3000 by decide)
  have by_ := ny.bn.mono (show 2900 ≤ 3000 by decide)
  refine pairsA_ok nx ny ?_
  exact ds_ret (.lowZ (.add (.mul (.var rfl) (.var rfl) (mul_both bx.1 by_.2 (by decide))) (.mul (.var rfl) (.var rfl) (mul_both by_.1 bx.2 (by decide)))) (.mul (.var rfl) (.var rfl) (mul_both bx.2 by_.2 (by decide))) (Int.mul_ne_zero (by omega) (by omega)) (bn_mul bx.2 by_.2)) h
def lawMulR : DS := pairsA (dRet (dCall sp_lowZ X0 (dCons (dOp (fIntC IntMulOk fun i j => .int (i * j)) (dVar 2) (dVar 4)) (dCons (dOp (fIntC IntMulOk fun i j => .int (i * j)) (dVar 3) (dVar 5)) dNil))))
theorem law_mul_ok (xs : List D) (G : Gm) (R : KD) (RX : XD) (h : sp_C2 timesZ xs G R RX) : lawMulR { nx := fun _ G => R .non G, rt := R } (xs.map some ++ List.replicate (6 - xs.length) none) G := by
  obtain ⟨x, y, rfl, nx, ny, h⟩ := h
  have px := cz_pos nx
  have py := cz_pos ny
  have bx := nx.bn.mono (show 2900 ≤ 3000 by decide)
  have by_ := ny.bn.mono (show 2900 ≤ 3000 by decide)
  refine pairsA_ok nx ny ?_
  exact ds_ret (.lowZ (.mul (.var rfl) (.var rfl) (mul_both bx.1 by_.1 (by decide))) (.mul (.var rfl) (.var rfl) (mul_both bx.2 by_.2 (by decide))) (Int.mul_ne_zero (by omega) (by omega)) (bn_mul bx.2 by_.2)) h
def lawLessPR : DS := pairsA (dRet (dOp (fInt gLt) (dOp (fIntC IntMulOk fun i j => .int (i * j)) (dVar 2) (dVar 5)) (dOp (fIntC IntMulOk fun i j => .int (i * j)) (dVar 4) (dVar 3))))
theorem law_lessP_ok (xs : List D) (G : Gm) (R : KD) (RX : XD) (h : sp_C2 (fun x y => .bl (ltN x y)) xs G R RX) : lawLessPR { nx := fun _ G => R .non G, rt := R } (xs.map some ++ List.replicate (6 - xs.length) none) G := by
  obtain ⟨x, y, rfl, nx, ny, h⟩ := h
  have bx := nx.bn.mono (show 2900 ≤ 3000 by decide)
  have by_ := ny.bn.mono (show 2900 ≤ 3000 by decide)
  refine pairsA_ok nx ny ?_
  exact ds_ret (.lt (.mul (.var rfl) (.var rfl) (mul_both bx.1 by_.2 (by decide))) (.mul (.var rfl) (.var rfl) (mul_both by_.1 bx.2 (by decide)))) h
def pt0 (s : Sd) : D := plusZ (.int (4 * (s.l : Int))) (hgt s.x)
def ptD (s : Sd) : D := .tup [pt0 s, hgt s.y]
def flo (x : D) : Int := (numI x).1 / (numI x).2
theorem plus_int {i : Int} {z : D} : plusZ (.int i) z = lowZ (i * (numI z).2 + (numI z).1) (numI z).2 := by
  unfold plusZ
  show lowZ (i * (numI z).2 + (numI z).1 * 1) (1 * (numI z).2) = _
  rw [Int.mul_one, Int.one_mul]
theorem flo_low {a u : Int} (hu : 0 < u) : flo (lowZ a u) = a / u := by
  have h := low_floor (a := a) (u := u) 1 hu
  rw [Int.mul_one, Int.mul_one] at h
  unfold flo lowZ
  rw [if_pos hu]
  exact h
theorem cz_plus {i : Int} {z : D} {k : Nat} (hz : Cz k z) (hi : i.natAbs ≤ 1000) : Cz (k + 11) (plusZ (.int i) z) := by
  have h0 := cz_pos hz
  rw [plus_int]
  obtain ⟨n, d, rfl, hd, _, hn, hdb⟩ := hz
  rw [numI_pair] at h0 ⊢
  have e : (2 : Nat) ^ (k + 11) = 2 ^ k * 2048 := by rw [Nat.pow_add]
  refine cz_low (by omega) ?_ ?_
  · show (i * d + n).natAbs < _
    have h1 : (i * d + n).natAbs ≤ (i * d).natAbs + n.natAbs := Int.natAbs_add_le ..
    rw [Int.natAbs_mul] at h1
    have h2 : i.natAbs * d.natAbs ≤ 1000 * d.natAbs := Nat.mul_le_mul_right _ hi
    rw [e]
    omega
  · show d.natAbs < _
    rw [e]
    omega
theorem cz_times {y z : D} {j k : Nat} (hy : Cz j y) (hz : Cz k z) : Cz (j + k) (timesZ y z) := by
  have h0 := cz_pos hy
  have h1 := cz_pos hz
  unfold timesZ
  obtain ⟨n, d, rfl, hd, _, hn, hdb⟩ := hy
  obtain ⟨m, c, rfl, hc, _, hm, hcb⟩ := hz
  rw [numI_pair] at h0 ⊢
  rw [numI_pair] at h1 ⊢
  refine cz_low (Int.mul_ne_zero (by omega) (by omega)) ?_ ?_
  · show (n * m).natAbs < _
    rw [Int.natAbs_mul]
    exact nat_mul_lt hn hm
  · show (d * c).natAbs < _
    rw [Int.natAbs_mul]
    exact nat_mul_lt hdb hcb
theorem part_of {l : Int} {z : D} {k : Nat} (hz : Cz k z) (h0 : 0 ≤ (numI z).1) (h4 : (numI z).1 < 4 * (numI z).2) : flo (plusZ (.int (4 * l)) z) / 4 = l ∧ minusZ (plusZ (.int (4 * l)) z) (.int (4 * l)) = z := by
  have hq := cz_pos hz
  refine ⟨?_, plus_minus (X := .int (4 * l)) (Y := z) (F := .int (4 * l)) (S := z) (show (0 : Int) < 1 by decide) hq hz.self rfl rfl⟩
  rw [plus_int, flo_low hq, Int.add_comm, Int.add_mul_ediv_right _ _ (by omega)]
  have h1 : 0 ≤ (numI z).1 / (numI z).2 := Int.ediv_nonneg h0 (by omega)
  have h2 : (numI z).1 / (numI z).2 < 4 := Int.ediv_lt_of_lt_mul hq h4
  omega
theorem hp_rng (b : Bx) : 0 ≤ (hp b).1 ∧ (hp b).1 ≤ 3 * (hp b).2 := by
  match b with
  | none => decide
  | some 0 => decide
  | some (n + 1) =>
    have := p3 n
    exact ⟨by show (0 : Int) ≤ 1; decide, by show (1 : Int) ≤ 3 * 3 ^ n; omega⟩
theorem part_hgt {l : Int} {b : Bx} : flo (plusZ (.int (4 * l)) (hgt b)) / 4 = l ∧ minusZ (plusZ (.int (4 * l)) (hgt b)) (.int (4 * l)) = hgt b := by
  obtain ⟨h1, h2⟩ := hp_rng b
  have hq := hp_pos b
  have cz : ∃ k, Cz k (hgt b) := by
    refine ⟨max ((hp b).1.natAbs) ((hp b).2.natAbs), _, _, rfl, hp_pos b, hp_cop b, ?_, ?_⟩
    · exact Nat.lt_of_le_of_lt (Nat.le_max_left _ _) Nat.lt_two_pow_self
    · exact Nat.lt_of_le_of_lt (Nat.le_max_right _ _) Nat.lt_two_pow_self
  obtain ⟨k, hk⟩ := cz
  exact part_of hk (by rw [hgt_I]; exact h1) (by rw [hgt_I]; omega)
def partedR : DS := (dSeq (dSet 1 (dOp (fIntC CDivW fun i j => .int (i / j)) (dCall sp_whole_in X0 (dCons (dIx (dVar 0) (dC (.int 0))) dNil)) (dC (.int 4)))) (dRet (dTup (dCons (dVar 1) (dCons (dCall (sp_2 3000 minusZ) X0 (dCons (dIx (dVar 0) (dC (.int 0))) (dCons (dOp (fIntC IntMulOk fun i j => .int (i * j)) (dC (.int 4)) (dVar 1)) dNil))) (dCons (dIx (dVar 0) (dC (.int 1))) dNil))))))
def sp_parted : DSp := fun xs G R _ => ∃ x y : D, xs = [.tup [x, y]] ∧ Cz 1400 x ∧ R (.tup [.int (flo x / 4), minusZ x (.int (4 * (flo x / 4))), y]) G
theorem flo_bd {x : D} {k : Nat} (h : Cz k x) : (4 * (flo x / 4)).natAbs < 2 ^ (k + 3) := by
  obtain ⟨n, d, rfl, hd, _, hn, _⟩ := h
  unfold flo
  rw [numI_pair]
  show (4 * (n / d / 4)).natAbs < _
  have e : (2 : Nat) ^ (k + 3) = 2 ^ k * 8 := by rw [Nat.pow_add]
  have h1 : n / d ≤ n.natAbs := by
    rcases Int.lt_or_le n 0 with z | z
    · have := Int.ediv_neg_of_neg_of_pos z hd
      omega
    · have := Int.ediv_le_self d z
      omega
  have h2 : -(n.natAbs : Int) ≤ n / d := by
    rcases Int.lt_or_le n 0 with z | z
    · have h3 : -(n.natAbs : Int) = n := by omega
      rw [h3]
      refine (Int.le_ediv_iff_mul_le hd).mpr ?_
      have h5 := Int.mul_le_mul_of_nonneg_left (show (1 : Int) ≤ d by omega) (show 0 ≤ -n by omega)
      rw [Int.mul_one, Int.neg_mul] at h5
      omega
    · have := Int.ediv_nonneg z (show 0 ≤ d by omega)
      omega
  rw [e]
  omega
theorem parted_ok (xs : List D) (G : Gm) (R : KD) (RX : XD) (h : sp_parted xs G R RX) : partedR { nx := fun _ G => R .non G, rt := R } (xs.map some ++ List.replicate (2 - xs.length) none) G := by
  obtain ⟨x, y, rfl, hx, h⟩ := h
  have at0 : ∀ {ρ : En}, ρ[0]? = some (some (.tup [x, y])) → Ev (dIx (dVar 0) (dC (.int 0))) ρ G x := fun e => .at (.var e) .c seq_tup rfl
  refine ds_set (.intC (.call (z := .int (flo x)) (.one (at0 rfl)) fun R r => ⟨x, rfl, hx.num, hx.bn.mono (by decide), r⟩) .c (div_ok (by decide) (by decide))) ?_
  have b := flo_bd hx
  refine ds_ret (.tup (.cons (.var rfl) (.cons (.call (.cons (at0 rfl) (.one (.mul .c (.var rfl) (mul_left (by decide))))) fun R r => ⟨x, .int (4 * (flo x / 4)), rfl, hx.num, rfl, hx.bn.mono (by decide), (cz_int b (by decide)).bn.mono (by decide), r⟩) (.one (.at (.var rfl) .c seq_tup rfl)))) (show 3 ≤ sizeLine by decide)) h
end DL
namespace DL
open PySem PySem.Spec PyProof.Rows L2 Evl Sup
variable [TabC]
def ptInR : DS := (dRet (dTup (dCons (dCall (sp_2 3000 plusZ) X0 (dCons (dOp (fIntC IntMulOk fun i j => .int (i * j)) (dC (.int 4)) (dIx (dVar 0) (dC (.int 0)))) (dCons (dCall sp_height X0 (dCons (dIx (dVar 0) (dC (.int 1))) dNil)) dNil))) (dCons (dCall sp_height X0 (dCons (dIx (dVar 0) (dC (.int 2))) dNil)) dNil))))
def sp_ptOf : DSp := fun xs G R _ => ∃ s : Sd, xs = [s.d] ∧ s.l < 1000 ∧ bxLt 1201 s.x ∧ bxLt 1201 s.y ∧ R (ptD s) G
theorem four_bn {l : Nat} (h : l < 1000) : Cz 20 (.int (4 * (l : Int))) := cz_int (by
  have : (2 : Nat) ^ 20 = 1048576 := by decide
  omega) (by decide)
theorem pointIn_ok (xs : List D) (G : Gm) (R : KD) (RX : XD) (h : sp_ptOf xs G R RX) : ptInR { nx := fun _ G => R .non G, rt := R } (xs.map some ++ List.replicate (1 - xs.length) none) G := by
  obtain ⟨s, rfl, hl, hx, hy, h⟩ := h
  have cx : Cz 2401 (hgt s.x) := hgt_cz (N := 1200) hx (by decide)
  refine ds_ret (.tup (.cons (.call (.cons (.mul (i := 4) .c (.at (.var rfl) .c seq_tup (i := 0) (z := .int (s.l : Int)) rfl) (mul_left (by decide))) (.one (.call (.one (.at (.var rfl) .c seq_tup rfl)) fun R r => ⟨s.x, rfl, hx, r⟩))) fun R r => ⟨_, _, rfl, rfl, cx.num, (four_bn hl).bn.mono (by decide), cx.bn.mono (by decide), r⟩) (.one (.call (.one (.at (.var rfl) .c seq_tup rfl)) fun R r => ⟨s.y, rfl, hy, r⟩))) (show 2 ≤ sizeLine by decide)) h
def lawPointR : DS := (dRet (dTup (dCons (dCall (sp_C2 plusZ) X0 (dCons (dOp (fIntC IntMulOk fun i j => .int (i * j)) (dC (.int 4)) (dIx (dVar 0) (dC (.int 0)))) (dCons (dCall sp_height X0 (dCons (dIx (dVar 0) (dC (.int 1))) dNil)) dNil))) (dCons (dCall sp_height X0 (dCons (dIx (dVar 0) (dC (.int 2))) dNil)) dNil))))
theorem law_point_ok (xs : List D) (G : Gm) (R : KD) (RX : XD) (h : sp_ptOf xs G R RX) : lawPointR { nx := fun _ G => R .non G, rt := R } (xs.map some ++ List.replicate (1 - xs.length) none) G := by
  obtain ⟨s, rfl, hl, hx, hy, h⟩ := h
  have cx : Cz 2401 (hgt s.x) := hgt_cz (N := 1200) hx (by decide)
  refine ds_ret (.tup (.cons (.call (.cons (.mul (i := 4) .c (.at (.var rfl) .c seq_tup (i := 0) (z := .int (s.l : Int)) rfl) (mul_left (by decide))) (.one (.call (.one (.at (.var rfl) .c seq_tup rfl)) fun R r => ⟨s.x, rfl, hx, r⟩))) fun R r => ⟨_, _, rfl, (four_bn hl).mono (by decide), cx.mono (by decide), r⟩) (.one (.call (.one (.at (.var rfl) .c seq_tup rfl)) fun R r => ⟨s.y, rfl, hy, r⟩))) (show 2 ≤ sizeLine by decide)) h
def bigB : Bx → Bool
  | none => false
  | some n => decide (200 < n)
def sp_pointOfX (cl : ClT) (sub : Str → Str → Bool) : DSp := fun xs G R RX => ∃ p x, xs = [p, x] ∧ Askd cl sub p x G RX fun _ s => (((bigB s.x || bigB s.y) = true ∧ RX "TooMany" ["most", "what"] [.int 200, .str "contents"] G) ∨ ((bigB s.x || bigB s.y) = false ∧ R (ptD s) G))
def pointOfXR (cl : ClT) (sub : Str → Str → Bool) (RX : XD) : DS := (dSeq (dDrop (dCallD (sp_needProgX cl sub) [D.str "program"] RX (dCons (dVar 0) dNil))) (dSeq (dSet 2 (dCall sp_needStdX RX (dCons (dVar 0) (dCons (dVar 1) dNil)))) (dSeq (dIfS (dTst (dCal fAny (dCons (dCmp (dISeq (dSl (dVar 2) (dPart (dC (.int 1))) dNoP)) (gN 3) dYes (dAndV (dNotN (dVar 3)) (dOp (fInt gGt) (dVar 3) (dC (.int 200)))) [3]) dNil))) (dRaise "TooMany" ["what", "most"] [true, true] RX (dCons (dC (.str "contents")) (dCons (dC (.int 200)) dNil))) dNext) (dRet (dCall sp_ptOf X0 (dCons (dVar 2) dNil))))))
def bigD : D → D
  | .int i => .bl (decide (200 < i))
  | _ => .bl false
theorem pointOfX_ok {cl : ClT} {sub : Str → Str → Bool} (hc : hasC cl "Program" = true) (hs : sub "Program" "Program" = true) (xs : List D) (G : Gm) (R : KD) (RX : XD) (h : sp_pointOfX cl sub xs G R RX) : pointOfXR cl sub RX { nx := fun _ G => R .non G, rt := R } (xs.map some ++ List.replicate (4 - xs.length) none) G := by
  obtain ⟨p, x, rfl, h⟩ := h
  cases h with
  | prog hp r => exact dx_callD (.one (.var rfl)) (needProg_no hp plen r)
  | std ls e hk hb r =>
    subst e
    refine dx_callD (.one (.var rfl)) (needProg_yes (prog_is hc hs ls) plen ?_)
    exact dx_call (.cons (.var rfl) (.one (.var rfl))) (needStd_no hk hb r)
  | good ls s e hx hl ho h =>
    subst e
    refine dx_callD (.one (.var rfl)) (needProg_yes (prog_is hc hs ls) plen ?_)
    refine dx_call (.cons (.var rfl) (.one (.var rfl))) (needStd_yes hx hl ?_)
    dsimp only [List.set, List.map, List.replicate, List.length, Nat.sub, List.append]
    have el : ∀ (b : Bx) {ρ : En}, ρ[3]? = some (some (bxD b)) → Ev (dAndV (dNotN (dVar 3)) (dOp (fInt gGt) (dVar 3) (dC (.int 200)))) ρ G (bigD (bxD b)) := fun b {ρ} e => by
      cases b with
      | none => exact .andF ((Ev.notN (x := .non) (.var e)).cast rfl)
      | some n => exact .andT ((Ev.notN (x := .int (n : Int)) (.var e)).cast rfl) (.gt (.var e) .c)
    have eb : ∀ b : Bx, bigD (bxD b) = .bl (bigB b) := fun b => by
      cases b with
      | none => rfl
      | some n => exact congrArg D.bl (decide_eq_decide.mpr ⟨fun z => by omega, fun z => by omega⟩)
    have lc : Ev (dCmp (dISeq (dSl (dVar 2) (dPart (dC (.int 1))) dNoP)) (gN 3) dYes (dAndV (dNotN (dVar 3)) (dOp (fInt gGt) (dVar 3) (dC (.int 200)))) [3]) [some (progD ls), some x, some s.d, none] G (.lst ([bigB s.x, bigB s.y].map D.bl)) := (Ev.lcSeq (x := .tup [bxD s.x, bxD s.y]) (xs := [bxD s.x, bxD s.y]) bigD (.slF (.var rfl) .c sl_std) (.inr rfl) (fun y hy => by
      simp only [List.mem_cons, List.mem_nil_iff, or_false] at hy
      rcases hy with rfl | rfl
      · exact el s.x rfl
      · exact el s.y rfl) (show 2 ≤ sizeLine by decide)).cast (by
        show D.lst [bigD (bxD s.x), bigD (bxD s.y)] = D.lst [.bl (bigB s.x), .bl (bigB s.y)]
        rw [eb, eb])
    have any : Ev (dCal fAny (dCons (dCmp (dISeq (dSl (dVar 2) (dPart (dC (.int 1))) dNoP)) (gN 3) dYes (dAndV (dNotN (dVar 3)) (dOp (fInt gGt) (dVar 3) (dC (.int 200)))) [3]) dNil)) [some (progD ls), some x, some s.d, none] G (.bl (bigB s.x || bigB s.y)) := .cal (.one lc) ⟨_, [bigB s.x, bigB s.y], rfl, lst_lst, by
      show D.bl (bigB s.x || bigB s.y) = D.bl (bigB s.x || (bigB s.y || false))
      rw [Bool.or_false]⟩
    refine ds_if (.tst any) ?_
    rcases h with ⟨hb, r⟩ | ⟨hb, h⟩
    · rw [hb, if_pos rfl]
      have two : EvA (dCons (dC (.str "contents")) (dCons (dC (.int 200)) dNil)) [some (progD ls), some x, some s.d, none] G [.str "contents", .int 200] := .cons .c (.one .c)
      refine two _ ⟨rfl, fun p hp _ => ?_, r⟩
      simp only [List.zip_cons_cons, List.zip_nil_left, List.mem_cons, List.mem_nil_iff, or_false] at hp
      rcases hp with rfl | rfl
      · exact (by decide +kernel : (("contents" : Str)).length ≤ 10000)
      · exact (by decide +kernel : (200 : Int).natAbs < 10 ^ 560)
    · rw [hb, if_neg (by decide)]
      have sm : ∀ b : Bx, bigB b = false → bxLt 1201 b := fun b h k e => by
        subst e
        have : ¬ 200 < k := of_decide_eq_false h
        omega
      rw [Bool.or_eq_false_iff] at hb
      refine to_next ?_
      exact ds_ret (.call (.one (.var rfl)) fun R r => ⟨s, rfl, by have := ho.2.1; omega, sm _ hb.1, sm _ hb.2, r⟩) h
def Told (n : Nat) (x y : D) (G : Gm) (R : KD) : Prop :=
  (∃ s : Sd, s.l < n ∧ flo x / 4 = s.l ∧ minusZ x (.int (4 * (flo x / 4))) = hgt s.x ∧ y = hgt s.y ∧ bxLt 1201 s.x ∧ bxLt 1201 s.y ∧ R s.d G) ∨
  ((¬ (0 ≤ flo x / 4 ∧ flo x / 4 < n) ∨ (∀ b, minusZ x (.int (4 * (flo x / 4))) ≠ hgt b) ∨ ∀ b, y ≠ hgt b) ∧ R .non G)
inductive AskP (cl : ClT) (sub : Str → Str → Bool) (p v : D) (G : Gm) (R : KD) (RX : XD) : Prop
  | prog (h : isW cl sub "Program" p = some false) (r : RX "BadProgram" ["part"] [.str "program"] G)
  | pt (ls : List Ln) (e : p = progD ls) (hk : v.kn = true) (hz : (seqL v).length ≤ 1000000) (hs : ptOk v 2 = false) (r : RX "BadPoint" ["part"] [.str "point"] G)
  | good (ls : List Ln) (x y : D) (e : p = progD ls) (hk : v.kn = true) (hz : (seqL v).length ≤ 1000000) (hs : ptOk v 2 = true) (hm : (seqL v).map keptD = [x, y]) (hx : Cz 1300 x) (hy : Cz 1300 y) (h1 : Cz 1300 (minusZ x (.int (4 * (flo x / 4))))) (h : Told ls.length x y G R)
def sp_standOfX (cl : ClT) (sub : Str → Str → Bool) : DSp := fun xs G R RX => ∃ p v, xs = [p, v] ∧ AskP cl sub p v G R RX
def standOfXR (cl : ClT) (sub : Str → Str → Bool) (RX : XD) : DS := (dSeq (dDrop (dCallD (sp_needProgX cl sub) [D.str "program"] RX (dCons (dVar 0) dNil))) (dSeq (dAsg (dCall sp_parted X0 (dCons (dCallD sp_pointX [D.str "point"] RX (dCons (dVar 1) (dCons (dC (.int 2)) dNil))) dNil)) (gSeq 3 (gCons (gN 2) (gCons (gN 3) (gCons (gN 4) gNil))))) (dSeq (dIfS (dOr (dNot (dTst (dChain (fInt gLe) (fInt gLt) (dC (.int 0)) (dVar 2) (dCal fLen (dCons (dFld cl "lines" (dVar 0)) dNil))))) (dOr (dNot (dTst (dCall sp_has X0 (dCons (dVar 3) dNil)))) (dNot (dTst (dCall sp_has X0 (dCons (dVar 4) dNil)))))) (dRet (dC .non)) dNext) (dRet (dTup (dCons (dVar 2) (dCons (dCall sp_like X0 (dCons (dVar 3) dNil)) (dCons (dCall sp_like X0 (dCons (dVar 4) dNil)) dNil))))))))
theorem Ev.chainLeLt {ρ : En} {G : Gm} {da db dc : DE} {i u l : Int} (ha : Ev da ρ G (.int i)) (hb : Ev db ρ G (.int u)) (hc : Ev dc ρ G (.int l)) : Ev (dChain (fInt gLe) (fInt gLt) da db dc) ρ G (.bl (decide (i ≤ u) && decide (u < l))) := fun R r => ha _ (hb _ ⟨decide (i ≤ u), ⟨i, u, rfl, rfl, rfl⟩, by
  by_cases h : i ≤ u
  · rw [if_pos (decide_eq_true h)]
    rw [decide_eq_true h] at r
    exact hc _ ⟨_, ⟨u, l, rfl, rfl, rfl⟩, r⟩
  · rw [if_neg (by rw [decide_eq_false h]; decide)]
    rw [decide_eq_false h] at r
    exact r⟩)
theorem ds_asgD {ρ : En} {G : Gm} {E : DEnds} {q1 q2 : DSp} {ds : List D} {RX : XD} {dA : DA} {g : DG} {xs : List D} (ha : EvA dA ρ G xs) (h : q2 (xs ++ ds) G (fun y G1 => q1 [y] G1 (fun z G2 => g z ρ G2 E.nx) X0) RX) : dAsg (dCall q1 X0 (dCons (dCallD q2 ds RX dA) dNil)) g E ρ G := ha _ h
theorem has_or (x : D) : ∃ k : Bool, (k = true ∧ ∃ b, x = hgt b) ∨ (k = false ∧ ∀ b, x ≠ hgt b) := by
  by_cases h : ∃ b, x = hgt b
  · exact ⟨true, .inl ⟨rfl, h⟩⟩
  · exact ⟨false, .inr ⟨rfl, fun b e => h ⟨b, e⟩⟩⟩
theorem Ev.like {ρ : En} {G : Gm} {da : DE} {b : Bx} (ha : Ev da ρ G (hgt b)) (hb : bxLt 1201 b) : Ev (dCall sp_like X0 (dCons da dNil)) ρ G (bxD b) := .call (.one ha) fun R r => ⟨_, rfl, (hgt_cz (N := 1200) hb (by decide)).mono (by decide), by
  match b, hb, r with
  | none, _, r => exact .inl ⟨rfl, r⟩
  | some n, hb, r =>
    have h := like_hp (b := some n) rfl
    refine .inr ⟨n, ?_, ?_, by rw [hgt_I]; exact h, r⟩
    · rw [hgt_I]
      match n with
      | 0 => decide
      | n + 1 => exact (by decide : (0 : Int) < 1)
    · have := hb n rfl
      omega⟩
theorem standOfX_ok {cl : ClT} {sub : Str → Str → Bool} (hc : hasC cl "Program" = true) (hs : sub "Program" "Program" = true) (hf : hasF cl "Program" "lines" = true) (xs : List D) (G : Gm) (R : KD) (RX : XD) (h : sp_standOfX cl sub xs G R RX) : standOfXR cl sub RX { nx := fun _ G => R .non G, rt := R } (xs.map some ++ List.replicate (5 - xs.length) none) G := by
  obtain ⟨p, v, rfl, h⟩ := h
  cases h with
  | prog hp r => exact dx_callD (.one (.var rfl)) (needProg_no hp plen r)
  | pt ls e hk hz hb r =>
    subst e
    refine dx_callD (.one (.var rfl)) (needProg_yes (prog_is hc hs ls) plen ?_)
    refine ds_asgD (.cons (.var rfl) (.one .c)) ?_
    exact ⟨v, 2, "point", rfl, hk, point_len, hz, (fun z => by rw [hb] at z; cases z), fun _ => r⟩
  | good ls x y e hk hz hsq hm hx hy h1 h =>
    subst e
    refine dx_callD (.one (.var rfl)) (needProg_yes (prog_is hc hs ls) plen ?_)
    refine ds_asgD (.cons (.var rfl) (.one .c)) ?_
    refine ⟨v, 2, "point", rfl, hk, point_len, hz, fun _ => ?_, (fun z => by rw [hsq] at z; cases z)⟩
    rw [hm]
    refine ⟨x, y, rfl, hx.mono (by decide), ?_⟩
    refine ⟨_, seq_tup, rfl, _, _, rfl, _, _, rfl, _, _, rfl, rfl, ?_⟩
    dsimp only [List.set, List.map, List.replicate, List.length, Nat.sub, List.append]
    have len : Ev (dCal fLen (dCons (dFld cl "lines" (dVar 0)) dNil)) [some (progD ls), some v, some (.int (flo x / 4)), some (minusZ x (.int (4 * (flo x / 4)))), some y] G (.int ls.length) := (Ev.len (Ev.lines (ls := ls) hf (.var rfl)) seq_tup).cast (by rw [List.length_map])
    have ch : Ev (dChain (fInt gLe) (fInt gLt) (dC (.int 0)) (dVar 2) (dCal fLen (dCons (dFld cl "lines" (dVar 0)) dNil))) [some (progD ls), some v, some (.int (flo x / 4)), some (minusZ x (.int (4 * (flo x / 4)))), some y] G (.bl (decide (0 ≤ flo x / 4) && decide (flo x / 4 < ls.length))) := .chainLeLt .c (.var rfl) len
    rcases h with ⟨s, sl, e1, e2, e3, bx, by_, h⟩ | ⟨hn, h⟩
    · rw [e2] at h1 ch ⊢
      rw [e1] at ch ⊢
      subst e3
      refine ds_if (k := false) (.orF ((EvT.not (.tst ch)).cast (by rw [decide_eq_true (by omega), decide_eq_true (by omega)]; rfl)) (.orF ((EvT.not (.tst (.has (.var rfl) h1 (.inl ⟨rfl, s.x, rfl⟩)))).cast rfl) ((EvT.not (.tst (.has (.var rfl) hy (.inl ⟨rfl, s.y, rfl⟩)))).cast rfl))) ?_
      dsimp only
      refine to_next ?_
      exact ds_ret (.tup (.cons (.var rfl) (.cons (.like (.var rfl) bx) (.one (.like (.var rfl) by_)))) (show 3 ≤ sizeLine by decide)) h
    · generalize minusZ x (.int (4 * (flo x / 4))) = o at *
      by_cases c : 0 ≤ flo x / 4 ∧ flo x / 4 < ls.length
      · obtain ⟨k1, hk1⟩ := has_or o
        obtain ⟨k2, hk2⟩ := has_or y
        refine ds_if (k := true) ?_ (ds_ret .c h)
        have f0 : EvT (dNot (dTst (dChain (fInt gLe) (fInt gLt) (dC (.int 0)) (dVar 2) (dCal fLen (dCons (dFld cl "lines" (dVar 0)) dNil))))) [some (progD ls), some v, some (.int (flo x / 4)), some o, some y] G false := (EvT.not (.tst ch)).cast (by rw [decide_eq_true c.1, decide_eq_true c.2]; rfl)
        cases k1 with
        | false => exact .orF f0 (.orT ((EvT.not (.tst (.has (.var rfl) h1 hk1))).cast rfl))
        | true =>
          refine .orF f0 (.orF ((EvT.not (.tst (.has (.var rfl) h1 hk1))).cast rfl) ((EvT.not (.tst (.has (.var rfl) hy hk2))).cast ?_))
          cases k2 with
          | false => rfl
          | true =>
            exfalso
            rcases hn with hn | hn | hn
            · exact hn c
            · rcases hk1 with ⟨_, b, e⟩ | ⟨e, _⟩
              · exact hn b e
              · cases e
            · rcases hk2 with ⟨_, b, e⟩ | ⟨e, _⟩
              · exact hn b e
              · cases e
      · refine ds_if (k := true) (.orT ((EvT.not (.tst ch)).cast ?_)) (ds_ret .c h)
        by_cases c1 : 0 ≤ flo x / 4
        · rw [decide_eq_true c1, decide_eq_false fun z => c ⟨c1, z⟩]
          rfl
        · rw [decide_eq_false c1]
          rfl
end DL
namespace DL
open PySem PySem.Spec PyProof.Rows L2 Evl Sup
variable [TabC]
theorem split_at : ∀ {u u' : List Nat} {c c' : Nat} {r r' : List Nat}, (∀ x ∈ u, 48 ≤ x ∧ x ≤ 57) → (∀ x ∈ u', 48 ≤ x ∧ x ≤ 57) → (c < 48 ∨ 57 < c) → (c' < 48 ∨ 57 < c') → u ++ c :: r = u' ++ c' :: r' → u = u' ∧ c :: r = c' :: r'
  | [], [], _, _, _, _, _, _, _, _, h => ⟨rfl, h⟩
  | [], x :: u', c, c', r, r', _, h2, h3, _, h => by
    have e : c = x := (List.cons.inj h).1
    have := h2 x List.mem_cons_self
    omega
  | x :: u, [], c, c', r, r', h1, _, _, h4, h => by
    have e : x = c' := (List.cons.inj h).1
    have := h1 x List.mem_cons_self
    omega
  | x :: u, y :: u', c, c', r, r', h1, h2, h3, h4, h => by
    obtain ⟨e1, e2⟩ := List.cons.inj (show x :: (u ++ c :: r) = y :: (u' ++ c' :: r') from h)
    obtain ⟨e3, e4⟩ := split_at (fun z hz => h1 z (List.mem_cons_of_mem _ hz)) (fun z hz => h2 z (List.mem_cons_of_mem _ hz)) h3 h4 e2
    exact ⟨by rw [e1, e3], e4⟩
theorem num_dig (n : Nat) : ∀ x ∈ TL.numL n, 48 ≤ x ∧ x ≤ 57 := fun x hx => TL.numL_digits n x hx
def numT (n d : Nat) : List Nat := if d = 1 then TL.numL n else 40 :: (TL.numL n ++ 44 :: 32 :: (TL.numL d ++ [41]))
theorem numT_at {n d n' d' : Nat} {c c' : Nat} {r r' : List Nat} (hc : c < 48 ∨ 57 < c) (hc' : c' < 48 ∨ 57 < c') (h : numT n d ++ c :: r = numT n' d' ++ c' :: r') : n = n' ∧ d = d' ∧ c :: r = c' :: r' := by
  unfold numT at h
  by_cases h1 : d = 1
  · by_cases h2 : d' = 1
    · rw [if_pos h1, if_pos h2] at h
      obtain ⟨e1, e2⟩ := split_at (num_dig n) (num_dig n') hc hc' h
      exact ⟨TL.numL_inj e1, by omega, e2⟩
    · rw [if_pos h1, if_neg h2] at h
      exfalso
      cases q : TL.numL n with
      | nil => exact TL.numL_ne n q
      | cons x u =>
        rw [q] at h
        have e : x = 40 := (List.cons.inj h).1
        have := num_dig n x (by rw [q]; exact List.mem_cons_self)
        omega
  · by_cases h2 : d' = 1
    · rw [if_neg h1, if_pos h2] at h
      exfalso
      cases q : TL.numL n' with
      | nil => exact TL.numL_ne n' q
      | cons x u =>
        rw [q] at h
        have e : 40 = x := (List.cons.inj h).1
        have := num_dig n' x (by rw [q]; exact List.mem_cons_self)
        omega
    · rw [if_neg h1, if_neg h2] at h
      rw [List.cons_append, List.cons_append] at h
      have h3 := (List.cons.inj h).2
      rw [List.append_assoc, List.append_assoc, List.cons_append, List.cons_append, List.cons_append, List.cons_append, List.append_assoc, List.append_assoc] at h3
      obtain ⟨e1, e2⟩ := split_at (num_dig n) (num_dig n') (by decide) (by decide) h3
      have h4 := (List.cons.inj (List.cons.inj e2).2).2
      obtain ⟨e3, e4⟩ := split_at (num_dig d) (num_dig d') (by decide) (by decide) h4
      exact ⟨TL.numL_inj e1, TL.numL_inj e3, (List.cons.inj e4).2⟩
theorem shown_tup2 {x y : D} {p q : PyData} (hx : x.py = some p) (hy : y.py = some q) : (D.tup [x, y]).py = some (.tuple [p, q]) ∧ (D.tup [x, y]).shown = PyData.shown (.tuple [p, q]) := by
  have e : (D.tup [x, y]).py = some (.tuple [p, q]) := by
    unfold D.py D.pyL D.pyL D.pyL
    rw [hx, hy]
    rfl
  refine ⟨e, ?_⟩
  show (match D.py (.tup [x, y]) with
    | some p => p.shown
    | none => "") = _
  rw [e]
theorem tl_tup2 (a b : Str) : TL.tl (PySem.tupleText [a, b]) = 40 :: (TL.tl a ++ 44 :: 32 :: (TL.tl b ++ [41])) := by
  show TL.tl (("(" : Str) ++ (a ++ ", " ++ b) ++ (")" : Str)) = _
  rw [TL.tl_append, TL.tl_append, TL.tl_append, TL.tl_append]
  rw [show TL.tl ("(" : Str) = [40] by rw [TL.tl_ofString]; decide, show TL.tl (", " : Str) = [44, 32] by rw [TL.tl_ofString]; decide, show TL.tl (")" : Str) = [41] by rw [TL.tl_ofString]; decide]
  simp only [List.append_assoc, List.cons_append, List.nil_append]
theorem pair_text {n d : Nat} : ∃ p, (pairZ n d).py = some p ∧ TL.tl p.shown = numT n d := by
  unfold pairZ numT
  by_cases h : d = 1
  · rw [if_pos (by omega), if_pos h]
    exact ⟨.int n, rfl, TL.tl_num n⟩
  · rw [if_neg (by omega), if_neg h]
    obtain ⟨e1, _⟩ := shown_tup2 (x := .int n) (y := .int d) (p := .int n) (q := .int d) rfl rfl
    refine ⟨_, e1, ?_⟩
    show TL.tl (PySem.tupleText [PyData.shown (.int n), PyData.shown (.int d)]) = _
    rw [tl_tup2, show TL.tl (PyData.shown (.int n)) = TL.numL n from TL.tl_num n, show TL.tl (PyData.shown (.int d)) = TL.numL d from TL.tl_num d]
theorem two_text {a b c d a' b' c' d' : Nat} (h : (D.tup [pairZ a b, pairZ c d]).shown = (D.tup [pairZ a' b', pairZ c' d']).shown) : a = a' ∧ b = b' ∧ c = c' ∧ d = d' := by
  obtain ⟨p1, e1, t1⟩ := pair_text (n := a) (d := b)
  obtain ⟨p2, e2, t2⟩ := pair_text (n := c) (d := d)
  obtain ⟨q1, f1, u1⟩ := pair_text (n := a') (d := b')
  obtain ⟨q2, f2, u2⟩ := pair_text (n := c') (d := d')
  rw [(shown_tup2 e1 e2).2, (shown_tup2 f1 f2).2] at h
  have h2 := congrArg TL.tl h
  have h3 : TL.tl (PySem.tupleText [p1.shown, p2.shown]) = TL.tl (PySem.tupleText [q1.shown, q2.shown]) := h2
  rw [tl_tup2, tl_tup2, t1, t2, u1, u2] at h3
  obtain ⟨g1, g2, g3⟩ := numT_at (by decide) (by decide) (List.cons.inj h3).2
  have h4 := (List.cons.inj (List.cons.inj g3).2).2
  obtain ⟨g4, g5, _⟩ := numT_at (by decide) (by decide) h4
  exact ⟨g1, g2, g4, g5⟩
theorem nat_pair {k : Nat} {x : D} (h : Cz k x) (h0 : 0 ≤ (numI x).1) : ∃ n d : Nat, x = pairZ n d := by
  obtain ⟨n, d, rfl, hd, _⟩ := h
  rw [numI_pair] at h0
  refine ⟨n.toNat, d.toNat, ?_⟩
  congr 1 <;> omega
theorem pt0_cz {s : Sd} (hl : s.l < 250) {N : Nat} (h : bxLt (N + 1) s.x) (hN : 1 ≤ N) : Cz (2 * N + 12) (pt0 s) := cz_plus (hgt_cz h hN) (by omega)
theorem pt0_nn {s : Sd} : 0 ≤ (numI (pt0 s)).1 := by
  have hq := hp_pos s.x
  have h1 := (hp_rng s.x).1
  unfold pt0
  rw [plus_int, hgt_I]
  obtain ⟨_, h0, hc⟩ := lowZ_num (a := 4 * (s.l : Int) * (hp s.x).2 + (hp s.x).1) (u := (hp s.x).2) (by omega)
  have h2 : 0 ≤ (4 * (s.l : Int) * (hp s.x).2 + (hp s.x).1) * (numI (lowZ (4 * (s.l : Int) * (hp s.x).2 + (hp s.x).1) (hp s.x).2)).2 := by
    refine Int.mul_nonneg ?_ (by omega)
    have := Int.mul_nonneg (show 0 ≤ 4 * (s.l : Int) by omega) (show 0 ≤ (hp s.x).2 by omega)
    omega
  rw [← hc] at h2
  rcases Int.lt_or_le (numI (lowZ (4 * (s.l : Int) * (hp s.x).2 + (hp s.x).1) (hp s.x).2)).1 0 with z | z
  · have := Int.mul_neg_of_neg_of_pos z hq
    omega
  · exact z
theorem pt_inj {s t : Sd} (h0 : pt0 s = pt0 t) (h1 : hgt s.y = hgt t.y) : s = t := by
  obtain ⟨a1, a2⟩ := part_hgt (l := s.l) (b := s.x)
  obtain ⟨b1, b2⟩ := part_hgt (l := t.l) (b := t.x)
  have e0 : flo (pt0 s) / 4 = s.l := a1
  have e1 : flo (pt0 t) / 4 = t.l := b1
  rw [h0, e1] at e0
  have el : s.l = t.l := by omega
  have g0 : minusZ (pt0 s) (.int (4 * (s.l : Int))) = hgt s.x := a2
  have g1 : minusZ (pt0 t) (.int (4 * (t.l : Int))) = hgt t.x := b2
  rw [h0, el, g1] at g0
  obtain ⟨l, x, y⟩ := s
  obtain ⟨l', x', y'⟩ := t
  have ex := hgt_inj g0
  have ey := hgt_inj h1
  cases el
  cases ex
  cases ey
  rfl
theorem text_inj {s t : Sd} (hs : s.l < 250) (ht : t.l < 250) (sx : bxLt 1201 s.x) (sy : bxLt 1201 s.y) (tx : bxLt 1201 t.x) (ty : bxLt 1201 t.y) (h : (ptD s).shown = (ptD t).shown) : s = t := by
  have nn : ∀ b : Bx, 0 ≤ (numI (hgt b)).1 := fun b => by rw [hgt_I]; exact (hp_rng b).1
  obtain ⟨a, b, e1⟩ := nat_pair (pt0_cz hs (N := 1200) sx (by decide)) pt0_nn
  obtain ⟨c, d, e2⟩ := nat_pair (hgt_cz (N := 1200) sy (by decide)) (nn _)
  obtain ⟨a', b', f1⟩ := nat_pair (pt0_cz ht (N := 1200) tx (by decide)) pt0_nn
  obtain ⟨c', d', f2⟩ := nat_pair (hgt_cz (N := 1200) ty (by decide)) (nn _)
  unfold ptD at h
  rw [e1, e2, f1, f2] at h
  obtain ⟨g1, g2, g3, g4⟩ := two_text h
  exact pt_inj (by rw [e1, f1, g1, g2]) (by rw [e2, f2, g3, g4])
end DL
namespace DL
open PySem PySem.Spec PyProof.Rows L2 Evl Sup
variable [TabC]
theorem Ev.neZ {ρ : En} {G : Gm} {da db : DE} {x y : D} {j k : Nat} (ha : Ev da ρ G x) (hb : Ev db ρ G y) (hx : Cz j x) (hy : Cz k y) {b : Bool} (h : x = y ↔ b = true) : Ev (dOp fNe da db) ρ G (.bl (!b)) := by
  obtain ⟨cx, px⟩ := cmp_pair hx
  obtain ⟨cy, py⟩ := cmp_pair hy
  have e : D.eqv x y = b := by
    rw [eqv_dec px py h]
    cases b <;> rfl
  obtain ⟨n, d, rfl, _⟩ := hx
  obtain ⟨m, c, rfl, _⟩ := hy
  refine .op ha hb ?_
  unfold pairZ at h e cx cy ⊢
  by_cases h1 : d = 1
  · rw [if_pos h1] at h e cx ⊢
    by_cases h2 : c = 1
    · rw [if_pos h2] at h e cy ⊢
      show D.bl (!b) = D.bl (!decide (n = m))
      congr 2
      cases b with
      | true => exact (decide_eq_true (D.int.inj (h.mpr rfl))).symm
      | false => exact (decide_eq_false fun z => by cases h.mp (congrArg D.int z)).symm
    · rw [if_neg h2] at h e cy ⊢
      exact ⟨cx, cy, by rw [e]⟩
  · rw [if_neg h1] at h e cx ⊢
    by_cases h2 : c = 1
    · rw [if_pos h2] at h e cy ⊢
      exact ⟨cx, cy, by rw [e]⟩
    · rw [if_neg h2] at h e cy ⊢
      exact ⟨cx, cy, by rw [e]⟩
theorem odd3 : ∀ n : Nat, (3 : Int) ^ n % 2 = 1
  | 0 => by decide
  | n + 1 => by
    have := odd3 n
    rw [Int.pow_succ]
    omega
theorem mod7 : ∀ n : Nat, (3 : Int) ^ n % 7 ≠ 0
  | 0 => by decide
  | n + 1 => by
    have := mod7 n
    rw [Int.pow_succ]
    omega
structure NoZ (z : D) : Prop where
  cz : Cz 40 z
  no : ∀ b, z ≠ hgt b
theorem noZ_of {a u : Int} (hu : 0 < u) (h : NoH a u) (ha : a.natAbs < 2 ^ 40) (hb : u.natAbs < 2 ^ 40) : NoZ (lowZ a u) := ⟨cz_low (by omega) ha hb, noH_ne hu h⟩
theorem noZ_lit {a u : Int} {z : D} (e : pairZ a u = z) (hu : 0 < u) (hg : Int.gcd a u = 1) (h : NoH a u) (ha : a.natAbs < 2 ^ 40) (hb : u.natAbs < 2 ^ 40) : NoZ z := by
  rw [← e, ← lowZ_cop hu hg]
  exact noZ_of hu h ha hb
theorem noH_oe {a u : Int} (h0 : a ≠ 0) (h3 : a ≠ 3 * u) (ho : a % 2 = 1) (he : u % 2 = 0) : NoH a u := ⟨h0, h3, fun n z => by
  have h := odd3 n
  have : (a * 3 ^ n) % 2 = 1 := by rw [Int.mul_emod, ho, h]; decide
  omega⟩
theorem noH_eo {a u : Int} (h0 : a ≠ 0) (h3 : a ≠ 3 * u) (he : a % 2 = 0) (ho : u % 2 = 1) : NoH a u := ⟨h0, h3, fun n z => by
  have : (a * 3 ^ n) % 2 = 0 := by rw [Int.mul_emod, he, Int.zero_mul]; decide
  omega⟩
theorem noH_neg {a u : Int} (h0 : a < 0) (hu : 0 < u) : NoH a u := ⟨by omega, by omega, fun n z => by
  have := Int.mul_neg_of_neg_of_pos h0 (p3 n)
  omega⟩
theorem noH_big {a u : Int} (h : u < a) (hu : 0 < u) (h3 : a ≠ 3 * u) : NoH a u := ⟨by omega, h3, fun n z => by
  have h1 := Int.mul_le_mul_of_nonneg_left (show (1 : Int) ≤ 3 ^ n by have := p3 n; omega) (show 0 ≤ a by omega)
  rw [Int.mul_one] at h1
  omega⟩
def noL (k : Nat) : List D := [.tup [.int 1, .int 2], .int 2, .tup [.int 5, .int 2], .tup [.int 2, .int 9], .tup [.int 4, .int 9], .int (-1), .int 4, .int 9, .tup [.int (-1), .int 3], .tup [.int 1, .int 6], lowZ 2 (3 * 3 ^ k), lowZ (3 * 3 ^ k + 1) (9 * 3 ^ k), .tup [.int 8, .int 3], .tup [.int 3, .int 2]]
theorem noL_all {k : Nat} (hk : k ≤ 8) : ∀ z ∈ noL k, NoZ z := by
  intro z hz
  have h3 := p3 k
  have ho := odd3 k
  have hb : ((3 : Int) ^ k).natAbs < 2 ^ 17 := p3_lt (k := 8) hk
  have e40 : (2 : Nat) ^ 40 = 1099511627776 := by decide
  have e17 : (2 : Nat) ^ 17 = 131072 := by decide
  unfold noL at hz
  simp only [List.mem_cons, List.mem_nil_iff, or_false] at hz
  rcases hz with rfl | rfl | rfl | rfl | rfl | rfl | rfl | rfl | rfl | rfl | rfl | rfl | rfl | rfl
  · exact noZ_lit (a := 1) (u := 2) rfl (by decide) (by decide) (noH_oe (by decide) (by decide) (by decide) (by decide)) (by decide) (by decide)
  · exact noZ_lit (a := 2) (u := 1) rfl (by decide) (by decide) (noH_eo (by decide) (by decide) (by decide) (by decide)) (by decide) (by decide)
  · exact noZ_lit (a := 5) (u := 2) rfl (by decide) (by decide) (noH_oe (by decide) (by decide) (by decide) (by decide)) (by decide) (by decide)
  · exact noZ_lit (a := 2) (u := 9) rfl (by decide) (by decide) (noH_eo (by decide) (by decide) (by decide) (by decide)) (by decide) (by decide)
  · exact noZ_lit (a := 4) (u := 9) rfl (by decide) (by decide) (noH_eo (by decide) (by decide) (by decide) (by decide)) (by decide) (by decide)
  · exact noZ_lit (a := -1) (u := 1) rfl (by decide) (by decide) (noH_neg (by decide) (by decide)) (by decide) (by decide)
  · exact noZ_lit (a := 4) (u := 1) rfl (by decide) (by decide) (noH_big (by decide) (by decide) (by decide)) (by decide) (by decide)
  · exact noZ_lit (a := 9) (u := 1) rfl (by decide) (by decide) (noH_big (by decide) (by decide) (by decide)) (by decide) (by decide)
  · exact noZ_lit (a := -1) (u := 3) rfl (by decide) (by decide) (noH_neg (by decide) (by decide)) (by decide) (by decide)
  · exact noZ_lit (a := 1) (u := 6) rfl (by decide) (by decide) (noH_oe (by decide) (by decide) (by decide) (by decide)) (by decide) (by decide)
  · exact noZ_of (by omega) (noH_eo (by decide) (by omega) (by decide) (by omega)) (by omega) (by omega)
  · exact noZ_of (by omega) (noH_eo (by omega) (by omega) (by omega) (by omega)) (by omega) (by omega)
  · exact noZ_lit (a := 8) (u := 3) rfl (by decide) (by decide) (noH_eo (by decide) (by decide) (by decide) (by decide)) (by decide) (by decide)
  · exact noZ_lit (a := 3) (u := 2) rfl (by decide) (by decide) (noH_oe (by decide) (by decide) (by decide) (by decide)) (by decide) (by decide)
def noHeightR : DS := (dSeq (dSet 1 (dC (.int 1))) (dSeq (dFor (dIRng1 (dCall spDial X0 (dCons (dVar 0) (dCons (dC (.int 9)) dNil)))) (gN 2) (dSet 1 (dOp (fIntC IntMulOk fun i j => .int (i * j)) (dVar 1) (dC (.int 3))))) (dSeq (dSet 3 (dLst (dCons (dTup (dCons (dC (.int 1)) (dCons (dC (.int 2)) dNil))) (dCons (dC (.int 2)) (dCons (dTup (dCons (dC (.int 5)) (dCons (dC (.int 2)) dNil))) (dCons (dTup (dCons (dC (.int 2)) (dCons (dC (.int 9)) dNil))) (dCons (dTup (dCons (dC (.int 4)) (dCons (dC (.int 9)) dNil))) (dCons (dNeg (dC (.int 1))) (dCons (dC (.int 4)) (dCons (dC (.int 9)) (dCons (dTup (dCons (dNeg (dC (.int 1))) (dCons (dC (.int 3)) dNil))) (dCons (dTup (dCons (dC (.int 1)) (dCons (dC (.int 6)) dNil))) (dCons (dCall sp_lowZ X0 (dCons (dC (.int 2)) (dCons (dOp (fIntC IntMulOk fun i j => .int (i * j)) (dC (.int 3)) (dVar 1)) dNil))) (dCons (dCall sp_lowZ X0 (dCons (dOp fAdd (dOp (fIntC IntMulOk fun i j => .int (i * j)) (dC (.int 3)) (dVar 1)) (dC (.int 1))) (dCons (dOp (fIntC IntMulOk fun i j => .int (i * j)) (dC (.int 9)) (dVar 1)) dNil))) (dCons (dTup (dCons (dC (.int 8)) (dCons (dC (.int 3)) dNil))) (dCons (dTup (dCons (dC (.int 3)) (dCons (dC (.int 2)) dNil))) dNil)))))))))))))))) (dRet (dCall spPick X0 (dCons (dVar 0) (dCons (dVar 3) dNil)))))))
def sp_noHeight : DSp := fun xs G R _ => ∃ (a : Addr) (T : Nat), xs = [.ref a] ∧ GauAt G a T ∧ T + 2 ≤ 1000000000 ∧ ∀ z m, NoZ z → Gau m (T + 2) → R z (gup G a m)
theorem noHeight_ok (xs : List D) (G : Gm) (R : KD) (RX : XD) (h : sp_noHeight xs G R RX) : noHeightR { nx := fun _ G => R .non G, rt := R } (xs.map some ++ List.replicate (4 - xs.length) none) G := by
  obtain ⟨a, T, rfl, hg, hT, h⟩ := h
  refine ds_set .c ?_
  dsimp only [List.set, List.map, List.replicate, List.length, Nat.sub, List.append]
  refine (Drw.nat (a := a) (n := 9) rfl (fun _ => .c) (by decide) (by decide)) G T _ hg (by omega) fun x m ⟨k, e, hk⟩ hm => ?_
  subst e
  refine ⟨(k : Int), rfl, by omega, by omega, ?_⟩
  refine forL_at (fun rst ρ G' => G' = gup G a m ∧ ∃ (j : Nat) (o2 : Option D), ρ = [some (.ref a), some (.int (3 ^ j)), o2, none] ∧ j + rst.length = k) ?_ ?_ ?_
  · rintro x rst N ρ G1 hsuf hN ⟨rfl, j, o2, rfl, hj⟩
    rw [List.length_cons] at hj
    show _
    refine ds_set (.mul3 (.var rfl)) ?_
    exact hN _ _ ⟨rfl, j + 1, _, by dsimp only [List.set]; rw [Int.pow_succ], by omega⟩
  · rintro ρ G1 ⟨rfl, j, o2, rfl, hj⟩
    have e : j = k := by simpa using hj
    subst e
    have h3 := p3 j
    have hb : ((3 : Int) ^ j).natAbs < 2 ^ 17 := p3_lt (k := 8) (by omega)
    have e17 : (2 : Nat) ^ 17 = 131072 := by decide
    have b40 : ∀ {i : Int}, i.natAbs < 10000000 → i.natAbs < 2 ^ 8000 := fun h => Nat.lt_trans h (Nat.lt_of_lt_of_le (show 10000000 < 2 ^ 24 by decide) (Nat.pow_le_pow_right (by decide) (by decide)))
    have t2 : ∀ {ρ : En} {G : Gm} {da db : DE} {x y : D}, Ev da ρ G x → Ev db ρ G y → Ev (dTup (dCons da (dCons db dNil))) ρ G (.tup [x, y]) := fun a b => .tup (.cons a (.one b)) (show 2 ≤ sizeLine by decide)
    refine ds_set (x := .lst (noL j)) (.lst (.cons (t2 .c .c) (.cons .c (.cons (t2 .c .c) (.cons (t2 .c .c) (.cons (t2 .c .c) (.cons (.neg .c) (.cons .c (.cons .c (.cons (t2 (.neg .c) .c) (.cons (t2 .c .c) (.cons (.lowZ .c (.mul .c (.var rfl) (mul_left (by decide))) (by omega) (b40 (by omega))) (.cons (.lowZ (.add (.mul .c (.var rfl) (mul_left (by decide))) .c) (.mul .c (.var rfl) (mul_left (by decide))) (by omega) (b40 (by omega))) (.cons (t2 .c .c) (.one (t2 .c .c))))))))))))))) (show 14 ≤ sizeLine by decide)) ?_
    dsimp only [List.set]
    refine dw_ret (P := NoZ) (Drw.pickE rfl (fun _ => .var rfl) (fun e => by cases e) (by show 14 ≤ 1000000; decide) (noL_all (by omega))) (gau_gup hm) (by omega) fun z m2 hz hm2 => ?_
    rw [gup_gup]
    exact h z m2 hz (hm2.mono (by omega))
  · exact ⟨rfl, 0, none, rfl, by rw [rng_len]; omega⟩
end DL
namespace DL
open PySem PySem.Spec PyProof.Rows L2 Evl Sup
variable [TabC]
namespace Y
section
variable {ρ ρ' : En} {G : Gm} {E : DEnds} {R : KD} {da db dc dv dobj di de : DE} {dA : DA} {x y z : D} {xs ys : List D} {ta tb tc : DT} {j k : Bool} {s t s1 s2 : DS} {g : DG} {gs : DGs} {T : Bool → Gm → Prop} {L : List D → Gm → Prop} {P : Prop}
theorem seq (h : s { E with nx := t E } ρ G) : dSeq s t E ρ G := h
theorem ret (h : de ρ G E.rt) : dRet de E ρ G := h
theorem retN (h : E.rt .non G) : dRetN E ρ G := h
theorem ifS (h : tc ρ G fun k G1 => if k = true then s1 E ρ G1 else s2 E ρ G1) : dIfS tc s1 s2 E ρ G := h
theorem asg (h : de ρ G fun x G1 => g x ρ G1 E.nx) : dAsg de g E ρ G := h
theorem set {i : Nat} (h : de ρ G fun x G1 => E.nx (ρ.set i (some x)) G1) : dSet i de E ρ G := h
theorem par {i j : Nat} (h : dA ρ G fun xs G1 => ∃ x y, xs = [x, y] ∧ E.nx ((ρ.set i (some x)).set j (some y)) G1) : dPar i j dA E ρ G := h
theorem par3 {i j l : Nat} (h : dA ρ G fun xs G1 => ∃ x y z, xs = [x, y, z] ∧ E.nx (((ρ.set i (some x)).set j (some y)).set l (some z)) G1) : dPar3 i j l dA E ρ G := h
theorem par_ {Q : D → D → Prop} (h : Q x y) : ∃ x' y', [x, y] = [x', y'] ∧ Q x' y' := ⟨x, y, rfl, h⟩
theorem par3_ {Q : D → D → D → Prop} (h : Q x y z) : ∃ x' y' z', [x, y, z] = [x', y', z'] ∧ Q x' y' z' := ⟨x, y, z, rfl, h⟩
theorem iteT (h : k = true) (p : P) {Q : Prop} : if k = true then P else Q := by rw [if_pos h]; exact p
theorem iteF (h : k = false) {Q : Prop} (p : Q) : if k = true then P else Q := by rw [h, if_neg (by decide)]; exact p
theorem gn {i : Nat} {N : En → Gm → Prop} (h : N (ρ.set i (some x)) G) : gN i x ρ G N := h
theorem gnil {N : En → Gm → Prop} (h : N ρ G) : gNil [] ρ G N := ⟨rfl, h⟩
theorem gcons {N : En → Gm → Prop} (h : g x ρ G fun ρ' G' => gs xs ρ' G' N) : gCons g gs (x :: xs) ρ G N := ⟨x, xs, rfl, h⟩
theorem gseqT {n : Nat} {N : En → Gm → Prop} (hl : xs.length = n) (h : gs xs ρ G N) : gSeq n gs (.tup xs) ρ G N := ⟨xs, seq_tup, hl, h⟩
theorem gseqL {n : Nat} {N : En → Gm → Prop} (hl : xs.length = n) (h : gs xs ρ G N) : gSeq n gs (.lst xs) ρ G N := ⟨xs, seq_lst, hl, h⟩
theorem var {i : Nat} (e : ρ[i]? = some (some x)) (h : R x G) : dVar i ρ G R := ⟨x, e, h⟩
theorem len_ {n : Nat} (hn : xs.length = n) (h1 : n ≤ 10000000) (h : P) : xs.length ≤ sizeLine ∧ P := ⟨by rw [hn, sizeLine_eq]; exact Nat.le_trans h1 (by decide), h⟩
theorem oint {f : Int → Int → D} {i j : Int} {Q : D → Prop} (h : Q (f i j)) : ∃ z, fInt f (.int i) (.int j) z ∧ Q z := ⟨_, ⟨i, j, rfl, rfl, rfl⟩, h⟩
theorem ointC {C : Int → Int → Prop} {f : Int → Int → D} {i j : Int} (hc : C i j) {Q : D → Prop} (h : Q (f i j)) : ∃ z, fIntC C f (.int i) (.int j) z ∧ Q z := ⟨_, ⟨i, j, rfl, rfl, hc, rfl⟩, h⟩
theorem oadd {i j : Int} {Q : D → Prop} (h : Q (.int (i + j))) : ∃ z, fAdd (.int i) (.int j) z ∧ Q z := ⟨_, .inl ⟨i, j, rfl, rfl, rfl⟩, h⟩
theorem oeqI {i j : Int} {Q : D → Prop} (h : Q (.bl (decide (i = j)))) : ∃ z, fEq (.int i) (.int j) z ∧ Q z := ⟨_, rfl, h⟩
theorem oneI {i j : Int} {Q : D → Prop} (h : Q (.bl (!decide (i = j)))) : ∃ z, fNe (.int i) (.int j) z ∧ Q z := ⟨_, rfl, h⟩
theorem oeqS {i j : Str} {Q : D → Prop} (h : Q (.bl (decide (i = j)))) : ∃ z, fEq (.str i) (.str j) z ∧ Q z := ⟨_, rfl, h⟩
theorem oneS {i j : Str} {Q : D → Prop} (h : Q (.bl (!decide (i = j)))) : ∃ z, fNe (.str i) (.str j) z ∧ Q z := ⟨_, rfl, h⟩
theorem oeqB {i j : Bool} {Q : D → Prop} (h : Q (.bl (decide (i = j)))) : ∃ z, fEq (.bl i) (.bl j) z ∧ Q z := ⟨_, rfl, h⟩
theorem oaddL (hz : xs.length + ys.length ≤ 10000000) {Q : D → Prop} (h : Q (.lst (xs ++ ys))) : ∃ z, fAddL (.lst xs) (.lst ys) z ∧ Q z := ⟨_, ⟨xs, ys, rfl, rfl, by rw [sizeLine_eq]; exact Nat.le_trans hz (by decide), rfl⟩, h⟩
theorem oaddT (hz : xs.length + ys.length ≤ 10000000) {Q : D → Prop} (h : Q (.tup (xs ++ ys))) : ∃ z, fAddT (.tup xs) (.tup ys) z ∧ Q z := ⟨_, ⟨xs, ys, rfl, rfl, by rw [sizeLine_eq]; exact Nat.le_trans hz (by decide), rfl⟩, h⟩
theorem oisB {i j : Bool} {Q : D → Prop} (h : Q (.bl (decide (i = j)))) : ∃ z, fIsB (.bl i) (.bl j) z ∧ Q z := ⟨_, ⟨i, j, rfl, rfl, rfl⟩, h⟩
theorem onotB {i j : Bool} {Q : D → Prop} (h : Q (.bl (!decide (i = j)))) : ∃ z, fNotB (.bl i) (.bl j) z ∧ Q z := ⟨_, ⟨i, j, rfl, rfl, rfl⟩, h⟩
theorem neg (h : da ρ G fun x G1 => ∃ i, x = .int i ∧ R (.int (-i)) G1) : dNeg da ρ G R := h
theorem int_ {f : Int → Prop} {i : Int} (h : f i) : ∃ j, D.int i = .int j ∧ f j := ⟨i, rfl, h⟩
theorem bl_ {f : Bool → Prop} (h : f k) : ∃ j, D.bl k = .bl j ∧ f j := ⟨k, rfl, h⟩
theorem tst (h : da ρ G fun x G1 => ∃ k, x = .bl k ∧ T k G1) : dTst da ρ G T := h
theorem notT (h : ta ρ G fun k G1 => T (!k) G1) : dNot ta ρ G T := h
theorem andT (h : ta ρ G fun k G1 => if k = true then tb ρ G1 T else T false G1) : dAnd ta tb ρ G T := h
theorem orT (h : ta ρ G fun k G1 => if k = true then T true G1 else tb ρ G1 T) : dOr ta tb ρ G T := h
theorem ifE (h : tc ρ G fun k G1 => if k = true then da ρ G1 R else db ρ G1 R) : dIf tc da db ρ G R := h
theorem ifT (h : tc ρ G fun k G1 => if k = true then ta ρ G1 T else tb ρ G1 T) : dIfT tc ta tb ρ G T := h
theorem andV (h : da ρ G fun x G1 => ∃ k, x = .bl k ∧ if k = true then db ρ G1 R else R (.bl false) G1) : dAndV da db ρ G R := h
theorem orV (h : da ρ G fun x G1 => ∃ k, x = .bl k ∧ if k = true then R (.bl true) G1 else db ρ G1 R) : dOrV da db ρ G R := h
theorem notV (h : da ρ G fun x G1 => ∃ k, x = .bl k ∧ R (.bl (!k)) G1) : dNotV da ρ G R := h
theorem isN (h : da ρ G fun x G1 => R (.bl x.isN) G1) : dIsN da ρ G R := h
theorem notN (h : da ρ G fun x G1 => R (.bl (!x.isN)) G1) : dNotN da ρ G R := h
theorem ixT {i : Int} (hi : atI xs i = some z) {Q : D → Prop} (h : Q z) : ∃ z, fIx G (.tup xs) (.int i) z ∧ Q z := ⟨z, .inl ⟨xs, i, seq_tup, rfl, hi⟩, h⟩
theorem ixL {i : Int} (hi : atI xs i = some z) {Q : D → Prop} (h : Q z) : ∃ z, fIx G (.lst xs) (.int i) z ∧ Q z := ⟨z, .inl ⟨xs, i, seq_lst, rfl, hi⟩, h⟩
theorem ixR {i : Int} {a : Addr} (hg : G a = some (.lst xs)) (hi : atI xs i = some z) {Q : D → Prop} (h : Q z) : ∃ z, fIx G (.ref a) (.int i) z ∧ Q z := ⟨z, .inl ⟨xs, i, seq_ref hg, rfl, hi⟩, h⟩
theorem lenT {Q : D → Prop} (h : Q (.int xs.length)) : ∃ z, fLen G [.tup xs] z ∧ Q z := ⟨_, ⟨_, rfl, .inl ⟨xs, seq_tup, rfl⟩⟩, h⟩
theorem lenL {Q : D → Prop} (h : Q (.int xs.length)) : ∃ z, fLen G [.lst xs] z ∧ Q z := ⟨_, ⟨_, rfl, .inl ⟨xs, seq_lst, rfl⟩⟩, h⟩
theorem lenR {a : Addr} (hg : G a = some (.lst xs)) {Q : D → Prop} (h : Q (.int xs.length)) : ∃ z, fLen G [.ref a] z ∧ Q z := ⟨_, ⟨_, rfl, .inl ⟨xs, seq_ref hg, rfl⟩⟩, h⟩
theorem absI {i : Int} {Q : D → Prop} (h : Q (.int (i.natAbs : Int))) : ∃ z, fAbs G [.int i] z ∧ Q z := ⟨_, ⟨i, rfl, rfl⟩, by
  rw [show (if i < 0 then -i else i) = (i.natAbs : Int) by split <;> omega]
  exact h⟩
theorem intI {i : Int} {Q : D → Prop} (h : Q (.int i)) : ∃ z, fIntOf G [.int i] z ∧ Q z := ⟨_, .inl ⟨i, rfl, rfl⟩, h⟩
theorem intB {Q : D → Prop} (h : Q (.int (if k then 1 else 0))) : ∃ z, fIntOf G [.bl k] z ∧ Q z := ⟨_, .inr ⟨k, rfl, rfl⟩, h⟩
theorem tupT {Q : D → Prop} (h : Q (.tup xs)) : ∃ z, fTupOf G [.tup xs] z ∧ Q z := ⟨_, ⟨_, xs, rfl, seq_tup, rfl⟩, h⟩
theorem tupL {Q : D → Prop} (h : Q (.tup xs)) : ∃ z, fTupOf G [.lst xs] z ∧ Q z := ⟨_, ⟨_, xs, rfl, seq_lst, rfl⟩, h⟩
theorem tupR {a : Addr} (hg : G a = some (.lst xs)) {Q : D → Prop} (h : Q (.tup xs)) : ∃ z, fTupOf G [.ref a] z ∧ Q z := ⟨_, ⟨_, xs, rfl, seq_ref hg, rfl⟩, h⟩
theorem lstT {Q : D → Prop} (h : Q (.lst xs)) : ∃ z, fLstOf G [.tup xs] z ∧ Q z := ⟨_, ⟨_, xs, rfl, seq_tup, rfl⟩, h⟩
theorem lstL {Q : D → Prop} (h : Q (.lst xs)) : ∃ z, fLstOf G [.lst xs] z ∧ Q z := ⟨_, ⟨_, xs, rfl, seq_lst, rfl⟩, h⟩
theorem allL {bs : List Bool} {Q : D → Prop} (h : Q (.bl (bs.all id))) : ∃ z, fAll G [.lst (bs.map D.bl)] z ∧ Q z := ⟨_, ⟨_, bs, rfl, lst_lst, rfl⟩, h⟩
theorem anyL {bs : List Bool} {Q : D → Prop} (h : Q (.bl (bs.any id))) : ∃ z, fAny G [.lst (bs.map D.bl)] z ∧ Q z := ⟨_, ⟨_, bs, rfl, lst_lst, rfl⟩, h⟩
theorem repr_ (hr : RepOk x) {Q : D → Prop} (h : Q (.str x.shown)) : ∃ z, fRepr G [x] z ∧ Q z := ⟨_, ⟨x, rfl, hr, rfl⟩, h⟩
theorem isi_ {n t : String} (ht : x.tyn = some t) {Q : D → Prop} (h : Q (.bl (isK t n))) : ∃ z, fIsi n G [x, .ty n] z ∧ Q z := ⟨_, ⟨x, t, rfl, ht, rfl⟩, h⟩
theorem isiT {ns : List String} (h : da ρ G fun x G1 => ∃ t, x.tyn = some t ∧ R (.bl (ns.any (isK t))) G1) : dIsiT ns da ρ G R := h
theorem chain {f g : D → D → D → Prop} (h : da ρ G fun x G1 => db ρ G1 fun y G2 => ∃ k, f x y (.bl k) ∧ if k = true then dc ρ G2 fun z G3 => ∃ w, g y z w ∧ R w G3 else R (.bl false) G2) : dChain f g da db dc ρ G R := h
theorem noP {O : Option Int → Gm → Prop} (h : O none G) : dNoP ρ G O := h
theorem slL {lo hi : Option Int} {Q : D → Prop} (h : Q (.lst (cutD xs lo hi))) : ∃ z, fSl G (.lst xs) lo hi z ∧ Q z := ⟨_, .inl ⟨xs, lst_lst, rfl⟩, h⟩
theorem callK {q : DSp} {o : Ord} {RX : XD} (h : dA ρ G fun xs G1 => q (o.go xs) G1 R RX) : dCallK q o RX dA ρ G R := h
theorem callD {q : DSp} {ds : List D} {RX : XD} (h : dA ρ G fun xs G1 => q (xs ++ ds) G1 R RX) : dCallD q ds RX dA ρ G R := h
theorem fld_ {Q : D → Prop} {cl : ClT} {f C : Str} {ns : List Str} (hf : hasF cl C f = true) (hl : (ns.zip xs).lookup f = some z) (h : Q z) : ∃ C' ns' xs' z, InsAt G (.ins C ns xs) C' ns' xs' ∧ hasF cl C' f = true ∧ (ns'.zip xs').lookup f = some z ∧ Q z := ⟨C, ns, xs, z, ins_ins, hf, hl, h⟩
theorem isW_ {cl : ClT} {sub : Str → Str → Bool} {C : Str} (h : da ρ G fun y G1 => ∃ b, isW cl sub C y = some b ∧ R (.bl b) G1) : dIsW cl sub C da ρ G R := h
theorem inK {kvs : KvT} {neg : Bool} (h : da ρ G fun y G1 => ∃ z, y = .str z ∧ R (.bl (neg != (kvs.lookup z).isSome)) G1) : dInK kvs neg da ρ G R := h
theorem str_ {f : Str → Prop} {i : Str} (h : f i) : ∃ j, D.str i = .str j ∧ f j := ⟨i, rfl, h⟩
theorem iSeq {S : List D → Gm → Prop} (h : de ρ G fun x G1 => ∃ xs, (x = .lst xs ∨ x = .tup xs) ∧ S xs G1) : dISeq de ρ G S := h
theorem iSeqL {S : List D → Prop} (h : S xs) : ∃ ys, (D.lst xs = .lst ys ∨ D.lst xs = .tup ys) ∧ S ys := ⟨xs, .inl rfl, h⟩
theorem iSeqT {S : List D → Prop} (h : S xs) : ∃ ys, (D.tup xs = .lst ys ∨ D.tup xs = .tup ys) ∧ S ys := ⟨xs, .inr rfl, h⟩
theorem iRng1 {S : List D → Gm → Prop} (h : da ρ G fun x G1 => ∃ j, x = .int j ∧ -(2 ^ 62) ≤ j ∧ j < 2 ^ 62 ∧ S (rngD 0 j.toNat) G1) : dIRng1 da ρ G S := h
theorem iRng1_ {S : Int → Prop} {i : Int} (h1 : -100000000 ≤ i ∧ i ≤ 100000000) (h : S i) : ∃ j, D.int i = .int j ∧ -(2 ^ 62) ≤ j ∧ j < 2 ^ 62 ∧ S j := ⟨i, rfl, by omega, by omega, h⟩
theorem iZip {S : List D → Gm → Prop} (h : dA ρ G fun vs G1 => ∃ xs ys, (vs = [.lst xs, .lst ys] ∨ vs = [.tup xs, .tup ys]) ∧ S (zipD xs ys) G1) : dIZip dA ρ G S := h
theorem iZipT {S : List D → List D → Prop} (h : S xs ys) : ∃ xs' ys', ([D.tup xs, .tup ys] = [.lst xs', .lst ys'] ∨ [D.tup xs, .tup ys] = [.tup xs', .tup ys']) ∧ S xs' ys' := ⟨xs, ys, .inr rfl, h⟩
theorem iZipL {S : List D → List D → Prop} (h : S xs ys) : ∃ xs' ys', ([D.lst xs, .lst ys] = [.lst xs', .lst ys'] ∨ [D.lst xs, .lst ys] = [.tup xs', .tup ys']) ∧ S xs' ys' := ⟨xs, ys, .inl rfl, h⟩
theorem iEnum {S : List D → Gm → Prop} (h : dA ρ G fun vs G1 => ∃ xs, (vs = [.lst xs] ∨ vs = [.tup xs]) ∧ S (enumD xs) G1) : dIEnumerate dA ρ G S := h
theorem iEnumT {S : List D → Prop} (h : S xs) : ∃ xs', ([D.tup xs] = [.lst xs'] ∨ [D.tup xs] = [.tup xs']) ∧ S xs' := ⟨xs, .inr rfl, h⟩
theorem iEnumL {S : List D → Prop} (h : S xs) : ∃ xs', ([D.lst xs] = [.lst xs'] ∨ [D.lst xs] = [.tup xs']) ∧ S xs' := ⟨xs, .inl rfl, h⟩
theorem for_ {dI : DI} (h : dI ρ G fun xs G1 => forL g s E xs ρ G1) : dFor dI g s E ρ G := h
theorem cmp {dI : DI} {vs : List Nat} (h : dI ρ G fun xs G1 => cmpL (wipeD ρ vs) g ta de xs [] G1 fun acc G2 => R (.lst acc) G2) : dCmp dI g ta de vs ρ G R := h
theorem done (e : x = y) (h : R y G) : R x G := e ▸ h
theorem dial {a : Addr} {n : Int} {T' : Nat} {RX : XD} (hg : GauAt G a T') (ht : T' ≤ 1000000000) (h1 : 1 ≤ n) (h2 : n < 2 ^ 8000) (h : ∀ v m, 0 ≤ v → v < n → Gau m (T' + 1) → R (.int v) (gup G a m)) : spDial [.ref a, .int n] G R RX := ⟨a, n, T', rfl, hg, ht, h1, h2, h⟩
theorem dialN {a : Addr} {n : Int} {T' : Nat} {RX : XD} (hg : GauAt G a T') (ht : T' ≤ 1000000000) (h1 : 1 ≤ n) (h2 : n ≤ 1000000000) (h : ∀ (v : Nat) m, (v : Int) < n → Gau m (T' + 1) → R (.int v) (gup G a m)) : spDial [.ref a, .int n] G R RX := ⟨a, n, T', rfl, hg, ht, h1, Int.lt_of_le_of_lt h2 (by decide +kernel), fun v m v0 v1 hm => by
  have e : v = (v.toNat : Int) := by omega
  rw [e]
  exact h v.toNat m (by omega) hm⟩
theorem pickL {a : Addr} {T' : Nat} {RX : XD} (hg : GauAt G a T') (ht : T' ≤ 1000000000) (hn : xs ≠ []) (hl : xs.length ≤ 1000000) (h : ∀ v m, v ∈ xs → Gau m (T' + 1) → R v (gup G a m)) : spPick [.ref a, .lst xs] G R RX := ⟨a, _, xs, T', rfl, .inl rfl, hn, hl, hg, ht, h⟩
theorem isO {cl : List Str} {sub : Str → Str → Bool} {cs : List Str} (h : da ρ G fun y G1 => ∃ b, isO cl sub cs y = some b ∧ R (.bl b) G1) : dIsO cl sub cs da ρ G R := h
theorem isO_ {cl : List Str} {sub : Str → Str → Bool} {cs : List Str} {Q : Bool → Prop} (e : DL.isO cl sub cs y = some k) (h : Q k) : ∃ b, DL.isO cl sub cs y = some b ∧ Q b := ⟨k, e, h⟩
theorem isW1 {cl : ClT} {sub : Str → Str → Bool} {C : Str} {Q : Bool → Prop} (e : isW cl sub C y = some k) (h : Q k) : ∃ b, isW cl sub C y = some b ∧ Q b := ⟨k, e, h⟩
theorem xf {cl : List Str} {f : Str} (h : da ρ G fun y G1 => ∃ C ns xs z, y = .exc C ns xs ∧ C ∈ cl ∧ (ns.zip xs).lookup f = some z ∧ R z G1) : dXf cl f da ρ G R := h
theorem xf_ {cl : List Str} {f C : Str} {ns : List Str} {Q : D → Prop} (hC : C ∈ cl) (hl : (ns.zip xs).lookup f = some z) (h : Q z) : ∃ C' ns' xs' z, D.exc C ns xs = .exc C' ns' xs' ∧ C' ∈ cl ∧ (ns'.zip xs').lookup f = some z ∧ Q z := ⟨C, ns, xs, z, rfl, hC, hl, h⟩
theorem neZ {Q : D → Prop} {i l : Nat} (hx : Cz i x) (hy : Cz l y) (e : x = y ↔ k = true) (h : Q (.bl (!k))) : ∃ z, fNe x y z ∧ Q z := Ev.neZ (ρ := []) (G := fun _ => none) .c .c hx hy e (fun z _ => Q z) h
theorem eqZ {Q : D → Prop} {i l : Nat} (hx : Cz i x) (hy : Cz l y) (e : x = y ↔ k = true) (h : Q (.bl k)) : ∃ z, fEq x y z ∧ Q z := Ev.eqZ (ρ := []) (G := fun _ => none) .c .c hx hy e (fun z _ => Q z) h
def Mkd (C : Str) (q : DSp) (xs : List D) (R : KD) (G1 : Gm) : Prop := ∀ a, G1 a = none → q (.ref a :: xs) (gup G1 a (.ins C [] [])) (fun v G2 => v = .non ∧ ∃ ns ys, G2 a = some (.ins C ns ys) ∧ R (.ins C ns ys) (DL.gdel G2 a)) (fun _ _ _ _ => False)
theorem mk {C : Str} {q : DSp} (h : dA ρ G fun xs G1 => Mkd C q xs R G1) : dMake C q X0 dA ρ G R := h
theorem mkP {ls : List Ln} (hx : x = .lst (ls.map Ln.d) ∨ x = .tup (ls.map Ln.d)) (ho : LsOk ls) (h : R (progD ls) G) : Mkd "Program" sp_prog [x] R G := fun a hn => ⟨a, x, ls, rfl, hx, ho, gup_same, rfl, _, _, gup_same, by rw [gup_gup, gdel_gup hn]; exact h⟩
theorem dctM (h : ∀ p, G p = none → R (.ref p) (gup G p (.dct [] []))) : dDctM ρ G R := h
theorem dct0 (h : R (.dct [] []) G) : dDct0 ρ G R := h
theorem lstM (h : dA ρ G fun xs G1 => xs.length ≤ sizeLine ∧ ∀ p, G1 p = none → R (.ref p) (gup G1 p (.lst xs))) : dLstM dA ρ G R := h
theorem rev (h : da ρ G fun x G1 => ∃ ds, LstAt G1 x ds ∧ R (.lst ds.reverse) G1) : dRev da ρ G R := h
theorem revL {Q : List D → Prop} (h : Q xs) : ∃ ds, LstAt G (.lst xs) ds ∧ Q ds := ⟨xs, lst_lst, h⟩
theorem dget {dobj dk dd : DE} (h : dobj ρ G fun o G1 => ∃ q, o = .ref q ∧ (∃ ks xs, G1 q = some (.dct ks xs)) ∧ dk ρ G1 fun y G2 => dd ρ G2 fun z G3 => ∃ s ks xs, y = .str s ∧ G3 q = some (.dct ks xs) ∧ R ((dlook ks xs (.inr s)).getD z) G3) : dDget2 dobj dk dd ρ G R := h
theorem dput {dv dobj dk : DE} (h : dv ρ G fun z G1 => dobj ρ G1 fun o G2 => dk ρ G2 fun y G3 => ∃ q s ks xs, o = .ref q ∧ y = .str s ∧ G3 q = some (.dct ks xs) ∧ ks.length < sizeLine ∧ E.nx ρ (gup G3 q (.dct (putKs ks (.inr s)) (putVs ks (.inr s) z xs)))) : dDput dv dobj dk E ρ G := h
theorem app {dobj de : DE} (h : dobj ρ G fun o G1 => ∃ q, o = .ref q ∧ (∃ ds, G1 q = some (.lst ds)) ∧ dCons de dNil ρ G1 fun xs G2 => ∃ x, xs = [x] ∧ ∃ ds, G2 q = some (.lst ds) ∧ ds.length < sizeLine ∧ R .non (gup G2 q (.lst (ds ++ [x])))) : dApp dobj de ρ G R := h
theorem gc {s : DS} (h : s { nx := fun ρ G' => ∃ l, E.nx ρ (gdels G' l), rt := Gc E.rt, bk := fun ρ G' => ∃ l, E.bk ρ (gdels G' l), ct := fun ρ G' => ∃ l, E.ct ρ (gdels G' l) } ρ G) : dGcE s E ρ G := h
theorem join {d : DE} (P : D → Prop) (h : ∃ w, P w ∧ Ev d ρ G w) (k : ∀ w, P w → R w G) : d ρ G R := by
  obtain ⟨w, hw, hd⟩ := h
  exact hd R (k w hw)
theorem slLl {lo hi : Option Int} {Q : D → Prop} (hn : Nat.ble xs.length 100 = true) (e : cutD xs lo hi = ys) (h : Q (.lst ys)) : ∃ z, fSl G (.lst xs) lo hi z ∧ Q z := ⟨_, .inl ⟨xs, lst_lst, rfl⟩, by rw [e]; exact h⟩
theorem slTl {lo hi : Option Int} {Q : D → Prop} (hn : Nat.ble xs.length 100 = true) (hn : ¬ (HT.sIx xs.length 0 lo = 0 ∧ HT.sIx xs.length xs.length hi = xs.length)) (e : cutD xs lo hi = ys) (h : Q (.tup ys)) : ∃ z, fSl G (.tup xs) lo hi z ∧ Q z := ⟨_, .inr ⟨xs, rfl, rfl, hn⟩, by rw [e]; exact h⟩
theorem eqL {Q : D → Prop} (hc : Cmp (.lst xs)) (h : Q (.bl true)) : ∃ z, fEq (.lst xs) (.lst xs) z ∧ Q z := ⟨_, feq_cmp hc hc (fun _ e => by cases e) (fun _ e => by cases e) (fun _ e => by cases e), by rw [eqv_self hc.lay]; exact h⟩
theorem neT {Q : D → Prop} (hc : Cmp (.tup xs)) (h : Q (.bl false)) : ∃ z, fNe (.tup xs) (.tup xs) z ∧ Q z := ⟨_, fne_cmp hc hc (fun _ e => by cases e) (fun _ e => by cases e) (fun _ e => by cases e), by rw [eqv_self hc.lay]; exact h⟩
theorem neS {Q : D → Prop} {i : Str} (h : Q (.bl false)) : ∃ z, fNe (.str i) (.str i) z ∧ Q z := ⟨_, rfl, by rw [decide_eq_true rfl]; exact h⟩
theorem ref_ {a : Addr} {f : Addr → Prop} (h : f a) : ∃ q, D.ref a = .ref q ∧ f q := ⟨a, rfl, h⟩
end
end Y
end DL
namespace DL
open PySem PySem.Spec PyProof.Rows L2 Evl Sup
variable [TabC]
theorem cz_minusI {x : D} {k : Nat} (h : Cz k x) : Cz (2 * k + 5) (minusZ x (.int (4 * (flo x / 4)))) := by
  have hf := flo_bd h
  generalize 4 * (flo x / 4) = q at hf
  obtain ⟨n, d, rfl, hd, _, hn, hdb⟩ := h
  show Cz _ (lowZ ((numI (pairZ n d)).1 * 1 - q * (numI (pairZ n d)).2) ((numI (pairZ n d)).2 * 1))
  rw [numI_pair]
  have e1 : (2 : Nat) ^ (2 * k + 5) = 2 ^ (k + 3) * 2 ^ k * 4 := by
    rw [show (4 : Nat) = 2 ^ 2 by rfl, ← Nat.pow_add, ← Nat.pow_add]
    congr 1
    omega
  have e2 : (2 : Nat) ^ (k + 3) * 2 ^ k = 2 ^ k * (2 ^ k * 8) := by rw [Nat.pow_add, Nat.mul_comm, show (2 : Nat) ^ 3 = 8 by rfl]
  have h1 : q.natAbs * d.natAbs ≤ 2 ^ (k + 3) * 2 ^ k := Nat.mul_le_mul (Nat.le_of_lt hf) (Nat.le_of_lt hdb)
  have p2 : 1 ≤ 2 ^ k := Nat.one_le_two_pow
  have h3 : 2 ^ k ≤ 2 ^ k * (2 ^ k * 8) := Nat.le_mul_of_pos_right _ (by omega)
  refine cz_low (by show d * 1 ≠ 0; omega) ?_ ?_
  · show (n * 1 - q * d).natAbs < _
    have := Int.natAbs_sub_le (n * 1) (q * d)
    rw [Int.natAbs_mul q d] at this
    omega
  · show (d * 1).natAbs < _
    omega
def Out (n : Nat) (w : D) : Prop := ∃ x y : D, w = .tup [x, y] ∧ Cz 600 x ∧ Cz 600 y ∧ (¬ (0 ≤ flo x / 4 ∧ flo x / 4 < n) ∨ (∀ b, minusZ x (.int (4 * (flo x / 4))) ≠ hgt b) ∨ ∀ b, y ≠ hgt b)
theorem pt_ok2 {x y : D} {j k : Nat} (hx : Cz j x) (hy : Cz k y) {w : D} (hw : w = .tup [x, y] ∨ w = .lst [x, y]) : w.kn = true ∧ (seqL w).length ≤ 1000000 ∧ ptOk w 2 = true ∧ (seqL w).map keptD = [x, y] := by
  have hk : D.knL [x, y] = true := by
    show (x.kn && (y.kn && true)) = true
    rw [hx.kn, hy.kn]
    rfl
  have hn : [x, y].all numD = true := by
    show (numD x && (numD y && true)) = true
    rw [hx.num, hy.num]
    rfl
  have hm : [x, y].map keptD = [x, y] := by
    show [keptD x, keptD y] = _
    rw [hx.kept, hy.kept]
  rcases hw with rfl | rfl
  · exact ⟨hk, (by decide : 2 ≤ 1000000), (show (true && (true && [x, y].all numD)) = true by rw [hn]; rfl), hm⟩
  · exact ⟨hk, (by decide : 2 ≤ 1000000), (show (true && (true && [x, y].all numD)) = true by rw [hn]; rfl), hm⟩
theorem out_none {cl : ClT} {sub : Str → Str → Bool} {ls : List Ln} {w : D} {G : Gm} {R : KD} {RX : XD} (h : Out ls.length w) (r : R .non G) : sp_standOfX cl sub [progD ls, w] G R RX := by
  obtain ⟨x, y, rfl, hx, hy, ho⟩ := h
  obtain ⟨h1, h2, h3, h4⟩ := pt_ok2 hx hy (.inl rfl)
  exact ⟨_, _, rfl, .good ls x y rfl h1 h2 h3 h4 hx.mono hy.mono ((cz_minusI hx).mono) (.inr ⟨ho, r⟩)⟩
theorem stand_some {cl : ClT} {sub : Str → Str → Bool} {ls : List Ln} {s : Sd} {w : D} {G : Gm} {R : KD} {RX : XD} (hw : w = ptD s ∨ w = .lst [pt0 s, hgt s.y]) (hl : s.l < ls.length) (h15 : ls.length ≤ 15) (hx : bxLt 600 s.x) (hy : bxLt 600 s.y) (r : R s.d G) : sp_standOfX cl sub [progD ls, w] G R RX := by
  have c0 : Cz 1300 (pt0 s) := (pt0_cz (N := 599) (by omega) hx (by decide)).mono
  have c1 : Cz 1300 (hgt s.y) := (hgt_cz (N := 599) hy (by decide)).mono
  have c2 : Cz 1300 (hgt s.x) := (hgt_cz (N := 599) hx (by decide)).mono
  obtain ⟨h1, h2, h3, h4⟩ := pt_ok2 c0 c1 hw
  obtain ⟨e1, e2⟩ := part_hgt (l := (s.l : Int)) (b := s.x)
  refine ⟨_, _, rfl, .good ls _ _ rfl h1 h2 h3 h4 c0 c1 ?_ (.inl ⟨s, hl, ?_, ?_, rfl, hx.mono (by decide), hy.mono (by decide), r⟩)⟩
  · show Cz 1300 (minusZ (plusZ (.int (4 * (s.l : Int))) (hgt s.x)) (.int (4 * (flo (plusZ (.int (4 * (s.l : Int))) (hgt s.x)) / 4))))
    rw [e1, e2]
    exact c2
  · exact e1
  · show minusZ (plusZ (.int (4 * (s.l : Int))) (hgt s.x)) (.int (4 * (flo (plusZ (.int (4 * (s.l : Int))) (hgt s.x)) / 4))) = hgt s.x
    rw [e1, e2]
namespace Y
theorem ixS0 {G : Gm} {s : Sd} {Q : D → Prop} (h : Q (.int s.l)) : ∃ z, fIx G s.d (.int 0) z ∧ Q z := ⟨_, .inl ⟨_, 0, seq_tup, rfl, rfl⟩, h⟩
theorem ixS1 {G : Gm} {s : Sd} {Q : D → Prop} (h : Q (bxD s.x)) : ∃ z, fIx G s.d (.int 1) z ∧ Q z := ⟨_, .inl ⟨_, 1, seq_tup, rfl, rfl⟩, h⟩
theorem ixS2 {G : Gm} {s : Sd} {Q : D → Prop} (h : Q (bxD s.y)) : ∃ z, fIx G s.d (.int 2) z ∧ Q z := ⟨_, .inl ⟨_, 2, seq_tup, rfl, rfl⟩, h⟩
theorem ixP0 {G : Gm} {s : Sd} {Q : D → Prop} (h : Q (pt0 s)) : ∃ z, fIx G (ptD s) (.int 0) z ∧ Q z := ⟨_, .inl ⟨_, 0, seq_tup, rfl, rfl⟩, h⟩
theorem ixP1 {G : Gm} {s : Sd} {Q : D → Prop} (h : Q (hgt s.y)) : ∃ z, fIx G (ptD s) (.int 1) z ∧ Q z := ⟨_, .inl ⟨_, 1, seq_tup, rfl, rfl⟩, h⟩
theorem lstS {G : Gm} {s : Sd} {Q : D → Prop} (h : Q (.lst [.int s.l, bxD s.x, bxD s.y])) : ∃ z, fLstOf G [s.d] z ∧ Q z := ⟨_, ⟨_, _, rfl, seq_tup, rfl⟩, h⟩
theorem lstP {G : Gm} {s : Sd} {Q : D → Prop} (h : Q (.lst [pt0 s, hgt s.y])) : ∃ z, fLstOf G [ptD s] z ∧ Q z := ⟨_, ⟨_, _, rfl, seq_tup, rfl⟩, h⟩
end Y
theorem out_on {l : Int} {z : D} (hz : NoZ z) (h1 : -(numI z).2 < (numI z).1) (h4 : (numI z).1 < 4 * (numI z).2) : ∀ b, minusZ (plusZ (.int (4 * l)) z) (.int (4 * (flo (plusZ (.int (4 * l)) z) / 4))) ≠ hgt b := by
  have hq := cz_pos hz.cz
  rcases Int.lt_or_le (numI z).1 0 with hn | hn
  · have cz2 : Cz 100 (plusZ (.int 4) z) := (cz_plus (i := 4) hz.cz (by decide)).mono
    have e2 : plusZ (.int 4) z = pairZ ((numI z).1 + 4 * (numI z).2) (numI z).2 := by
      rw [plus_int, Int.add_comm]
      refine lowZ_cop hq ?_
      rw [Int.gcd_add_mul_right_left]
      obtain ⟨n, d, rfl, _, hg, _⟩ := hz.cz
      rw [numI_pair]
      exact hg
    have e3 : plusZ (.int (4 * l)) z = plusZ (.int (4 * (l - 1))) (plusZ (.int 4) z) := by
      rw [e2, plus_int, plus_int, numI_pair]
      congr 1
      show 4 * l * (numI z).2 + (numI z).1 = 4 * (l - 1) * (numI z).2 + ((numI z).1 + 4 * (numI z).2)
      grind
    obtain ⟨f1, f2⟩ := part_of (l := l - 1) cz2 (by rw [e2, numI_pair]; show 0 ≤ (numI z).1 + 4 * (numI z).2; omega) (by rw [e2, numI_pair]; show (numI z).1 + 4 * (numI z).2 < 4 * (numI z).2; omega)
    rw [e3, f1, f2]
    intro b e
    have r := (hp_rng b).2
    have e4 : numI (plusZ (.int 4) z) = hp b := by rw [e, hgt_I]
    rw [e2, numI_pair] at e4
    rw [← e4] at r
    have : (numI z).1 + 4 * (numI z).2 ≤ 3 * (numI z).2 := r
    omega
  · obtain ⟨f1, f2⟩ := part_of (l := l) hz.cz hn h4
    rw [f1, f2]
    exact hz.no
theorem mul_prime {b : Bx} (hb : b ≠ none) : NoH ((hp b).1 * 7) ((hp b).2 * 5) := by
  match b, hb with
  | some 0, _ =>
    refine ⟨by decide, by decide, fun n e => ?_⟩
    have e : (3 : Int) * 7 * 3 ^ n = 1 * 5 := e
    omega
  | some (n + 1), _ =>
    refine ⟨(show (1 : Int) * 7 ≠ 0 by decide), fun e => ?_, fun k e => ?_⟩
    · have e : (1 : Int) * 7 = 3 * (3 ^ n * 5) := e
      omega
    · have e : (1 : Int) * 7 * 3 ^ k = 3 ^ n * 5 := e
      have := mod7 n
      omega
theorem times75 {b : Bx} {N : Nat} (h : bxLt (N + 1) b) (hN : 1 ≤ N) (hb : b ≠ none) : (∀ c, timesZ (hgt b) (.tup [.int 7, .int 5]) ≠ hgt c) ∧ Cz (2 * N + 4) (timesZ (hgt b) (.tup [.int 7, .int 5])) := by
  have c75 : Cz 3 (.tup [.int 7, .int 5]) := ⟨7, 5, rfl, by decide, by decide, by decide, by decide⟩
  refine ⟨fun c => ?_, (cz_times (hgt_cz h hN) c75).mono (by omega)⟩
  have e : timesZ (hgt b) (.tup [.int 7, .int 5]) = lowZ ((hp b).1 * 7) ((hp b).2 * 5) := by
    show lowZ ((numI (hgt b)).1 * 7) ((numI (hgt b)).2 * 5) = _
    rw [hgt_I]
  rw [e]
  have := hp_pos b
  exact noH_ne (by omega) (mul_prime hb) c
theorem lowFin {ρ : En} {a u n d s : Int} (s0 : s ≠ 0) (cz : ∀ i, CDivZ i s) (ea : a = s * n) (eu : u = s * d) {d0 d1 : DE} (h0 : ∀ G, Ev d0 ρ G (.int a)) (h1 : ∀ G, Ev d1 ρ G (.int u)) (q2 : ρ[2]? = some (some (.int s))) {E : DEnds} {G : Gm} (h : E.rt (pairZ n d) G) : dRet (dIf (dTst (dOp fEq (dOp (fIntC CDivZ fun i j => .int (Int.fdiv i j)) d1 (dVar 2)) (dC (.int 1)))) (dOp (fIntC CDivZ fun i j => .int (Int.fdiv i j)) d0 (dVar 2)) (dTup (dCons (dOp (fIntC CDivZ fun i j => .int (Int.fdiv i j)) d0 (dVar 2)) (dCons (dOp (fIntC CDivZ fun i j => .int (Int.fdiv i j)) d1 (dVar 2)) dNil)))) E ρ G := by
  refine ds_ret (x := pairZ n d) (.chosen (.tst (.eqI (.divZ (h1 _) (.var q2) (cz u) eu) .c)) (fun hk => ?_) fun hk => ?_) h
  · unfold pairZ
    rw [if_pos (of_decide_eq_true hk)]
    exact .divZ (h0 _) (.var q2) (cz a) ea
  · unfold pairZ
    rw [if_neg (of_decide_eq_false hk)]
    exact .tup (.cons (.divZ (h0 _) (.var q2) (cz a) ea) (.one (.divZ (h1 _) (.var q2) (cz u) eu))) (show 2 ≤ sizeLine by decide)
theorem dlook_mem {α : Type} {k : Key} {z : α} : ∀ {ks : List Key} {xs : List α}, dlook ks xs k = some z → (k, z) ∈ ks.zip xs := fun {ks xs} h => by
  unfold dlook at h
  cases e : (ks.zip xs).find? fun kv => decide (kv.1 = k) with
  | none => rw [e] at h; cases h
  | some p =>
    rw [e] at h
    have h1 := List.mem_of_find?_eq_some e
    have h2 : p.1 = k := of_decide_eq_true (List.find?_some (p := fun kv : Key × α => decide (kv.1 = k)) e)
    cases h
    rw [← h2]
    exact h1
theorem put_all {α : Type} {P : Key → α → Prop} {k : Key} {z : α} (hz : P k z) : ∀ {ks : List Key} {xs : List α}, ks.length = xs.length → (∀ p ∈ ks.zip xs, P p.1 p.2) → ∀ p ∈ (putKs ks k).zip (putVs ks k z xs), P p.1 p.2 := fun {ks xs} hl h p hp => by
  unfold putKs putVs at hp
  by_cases hk : hasK ks k = true
  · rw [if_pos hk, if_pos hk] at hp
    clear hk
    have key : ∀ (ks : List Key) (xs : List α), (∀ p ∈ ks.zip xs, P p.1 p.2) → ∀ p ∈ ks.zip (List.zipWith (fun j x => if j = k then z else x) ks xs), P p.1 p.2 := fun ks => by
      induction ks with
      | nil => exact fun xs _ p hp => by cases hp
      | cons j ks ih =>
        intro xs h p hp
        match xs, h, hp with
        | [], _, hp => cases hp
        | x :: xs, h, hp =>
          rw [List.zipWith_cons_cons, List.zip_cons_cons] at hp
          rcases List.mem_cons.mp hp with e | e
          · subst e
            show P j (if j = k then z else x)
            by_cases q : j = k
            · rw [if_pos q, q]
              exact hz
            · rw [if_neg q]
              exact h (j, x) (by rw [List.zip_cons_cons]; exact List.mem_cons_self)
          · exact ih xs (fun p hp => h p (by rw [List.zip_cons_cons]; exact List.mem_cons_of_mem _ hp)) p e
    exact key ks xs h p hp
  · rw [if_neg hk, if_neg hk, List.zip_append hl] at hp
    rcases List.mem_append.mp hp with e | e
    · exact h p e
    · rw [show [k].zip [z] = [(k, z)] from rfl, List.mem_singleton] at e
      rw [e]
      exact hz
theorem put_len1 {ks : List Key} {k : Key} : (putKs ks k).length ≤ ks.length + 1 := by
  unfold putKs
  split
  · omega
  · rw [List.length_append]
    exact Nat.le_refl _
theorem std_sm {s : Sd} (hl : s.l < 100) {N : Nat} (hN : N ≤ 10 ^ 6) (hx : bxLt N s.x) (hy : bxLt N s.y) : Sm 1 4 s.d := sm_std hl (fun n e => Nat.lt_of_lt_of_le (hx n e) (Nat.le_trans hN (by decide))) fun n e => Nat.lt_of_lt_of_le (hy n e) (Nat.le_trans hN (by decide))
theorem ptd_sm {s : Sd} (hl : s.l < 250) (hx : bxLt 801 s.x) (hy : bxLt 801 s.y) : Sm 2 7 (ptD s) := Sm.tup (d := 1) (s := 3) (xs := [pt0 s, hgt s.y]) fun z hz => by
  simp only [List.mem_cons, List.mem_nil_iff, or_false] at hz
  rcases hz with rfl | rfl
  · exact Cz.sm ((pt0_cz (N := 800) hl hx (by decide)).mono)
  · exact Cz.sm ((hgt_cz (N := 800) hy (by decide)).mono)
theorem std_cmp {s : Sd} : Cmp s.d ∧ s.d.pln = true := by
  obtain ⟨l, x, y⟩ := s
  constructor
  · refine ⟨?_, ?_⟩ <;> cases x <;> cases y <;> first | rfl | exact Nat.le_of_ble_eq_true rfl
  · cases x <;> cases y <;> rfl
end DL
open PySem PySem.Spec PyProof.Rows L2 Evl DL
local macro_rules | `(tactic| walk_at "side") => `(tactic| first | exact mul_left (by decide) | exact mul_right (by decide) | exact mul_bd | exact div_bd (by first | assumption | decide | omega) | exact pow_bd (by first | decide | omega) (by first | decide | omega) | assumption | (show (0 : Int) < _; first | decide | omega))
local macro_rules | `(tactic| walk_at "eva") => `(tactic| first | exact DL.EvA.nil | (refine' DL.EvA.cons ?e ?r; (case' e => walk_at "ev"); (case' r => walk_at "eva")))
local macro_rules | `(tactic| walk_at "seq") => `(tactic| first | exact seq_tup | exact seq_lst | exact seq_ref (by assumption))
local macro_rules | `(tactic| walk_at "size") => `(tactic| first | (show _ ≤ sizeLine; simp only [List.length_cons, List.length_nil]; decide) | (rw [sizeLine_eq]; omega))
local macro_rules | `(tactic| walk_at "ev") => `(tactic| first
  | exact DL.Ev.c
  | exact DL.Ev.var rfl
  | (refine' DL.Ev.int ?a ?b; (case' a => walk_at "ev"); (case' b => walk_at "ev"))
  | (refine' DL.Ev.intC ?a ?b ?s; (case' a => walk_at "ev"); (case' b => walk_at "ev"); (case' s => try walk_at "side"))
  | (refine' DL.Ev.add ?a ?b; (case' a => walk_at "ev"); (case' b => walk_at "ev"))
  | (refine' DL.Ev.neg ?a; (case' a => walk_at "ev"))
  | (refine' DL.Ev.intOf ?a; (case' a => walk_at "ev"))
  | (refine' DL.Ev.intB ?a; (case' a => walk_at "ev"))
  | (refine' DL.Ev.absN ?a; (case' a => walk_at "ev"))
  | (refine' DL.Ev.eqI ?a ?b; (case' a => walk_at "ev"); (case' b => walk_at "ev"))
  | (refine' DL.Ev.neI ?a ?b; (case' a => walk_at "ev"); (case' b => walk_at "ev"))
  | (refine' DL.Ev.at ?a ?b ?s ?k; (case' a => walk_at "ev"); (case' b => walk_at "ev"); (case' s => walk_at "seq"); (case' k => try rfl))
  | (refine' DL.Ev.len ?a ?s; (case' a => walk_at "ev"); (case' s => walk_at "seq"))
  | (refine' DL.Ev.tupOf ?a ?s; (case' a => walk_at "ev"); (case' s => walk_at "seq"))
  | (refine' DL.Ev.tup ?a ?z; (case' a => walk_at "eva"); (case' z => try walk_at "size"))
  | (refine' DL.Ev.lst ?a ?z; (case' a => walk_at "eva"); (case' z => try walk_at "size"))
  | (refine' DL.Ev.notV ?a; (case' a => walk_at "ev"))
  | (refine' DL.Ev.isN ?a; (case' a => walk_at "ev"))
  | exact fun R r => r
  | assumption)
local macro_rules | `(tactic| walk_at "set") => `(tactic| (refine' ds_set ?e ?_; (case' e => walk_at "ev")))
local macro_rules | `(tactic| walk_at "ret") => `(tactic| (refine' ds_ret ?e ?_; (case' e => walk_at "ev")))
local macro_rules | `(tactic| walk_at "par") => `(tactic| (refine' ds_par ?e ?f ?_; (case' e => walk_at "ev"); (case' f => walk_at "ev")))
local macro_rules | `(tactic| walk_at "cut") => `(tactic| (simp only [DL.cutD, HT.sIx, List.length_cons, List.length_nil, Nat.zero_add, Nat.reduceAdd, Nat.min_def, Nat.reduceLeDiff, ↓reduceIte, List.drop_zero, List.drop_succ_cons, List.take_zero, List.take_succ_cons, List.take_nil, List.drop_nil, List.cons_append, List.nil_append, Int.reduceLT, Int.reduceToNat, Nat.reduceSub, Nat.sub_zero, Int.reduceNeg, Int.cast_ofNat_Int, Int.reduceAdd]; exact rfl))
local macro_rules | `(tactic| walk_at "xu") => `(tactic| first
  | with_reducible refine' DL.Y.ixS0 ?_
  | with_reducible refine' DL.Y.ixS1 ?_
  | with_reducible refine' DL.Y.ixS2 ?_
  | with_reducible refine' DL.Y.ixP0 ?_
  | with_reducible refine' DL.Y.ixP1 ?_
  | with_reducible refine' DL.Y.lstS ?_
  | with_reducible refine' DL.Y.lstP ?_)
local macro_rules | `(tactic| walk_at "dec") => `(tactic| first | rfl | assumption | exact decide_eq_true (by omega) | exact decide_eq_false (by omega) | decide +kernel)
local macro_rules | `(tactic| walk_at "size2") => `(tactic| first | exact Nat.le_of_ble_eq_true rfl | omega)
local macro_rules | `(tactic| walk_at "x0") => `(tactic| first
  | with_reducible refine' DL.Y.cons ?_
  | ((with_reducible refine' DL.Y.var ?e ?_); (case' e => (first | exact rfl | assumption)))
  | with_reducible refine' DL.Y.c ?_
  | with_reducible refine' DL.Y.nil ?_
  | with_reducible refine' DL.Y.op ?_
  | with_reducible refine' DL.Y.oint ?_
  | ((with_reducible refine' DL.Y.ointC ?s ?_); (case' s => try walk_at "side"))
  | with_reducible refine' DL.Y.oadd ?_
  | with_reducible refine' DL.Y.oeqI ?_
  | with_reducible refine' DL.Y.oneI ?_
  | with_reducible refine' DL.Y.oeqS ?_
  | with_reducible refine' DL.Y.neS ?_
  | with_reducible refine' DL.Y.oneS ?_
  | with_reducible refine' DL.Y.oeqB ?_
  | with_reducible refine' DL.Y.tst ?_
  | with_reducible refine' DL.Y.bl_ ?_
  | ((with_reducible refine' DL.Y.iRng1_ ?z ?_); (case' z => (omega; done)))
  | with_reducible refine' DL.Y.int_ ?_
  | with_reducible refine' DL.Y.str_ ?_
  | with_reducible refine' DL.Y.ref_ ?_
  | ((with_reducible refine' DL.Y.iteT ?h ?_); (case' h => (walk_at "dec"; done)))
  | ((with_reducible refine' DL.Y.iteF ?h ?_); (case' h => (walk_at "dec"; done)))
  | with_reducible refine' DL.Y.seq ?_
  | with_reducible refine' DL.Y.set ?_
  | with_reducible refine' DL.Y.ifS ?_
  | with_reducible refine' DL.Y.ret ?_
  | with_reducible refine' DL.Y.nx ?_
  | with_reducible refine' DL.Y.drop ?_
  | with_reducible refine' DL.Y.asg ?_
  | with_reducible refine' DL.Y.par ?_
  | with_reducible refine' DL.Y.par_ ?_
  | with_reducible refine' DL.Y.par3 ?_
  | with_reducible refine' DL.Y.par3_ ?_
  | with_reducible refine' DL.Y.bk ?_
  | with_reducible refine' DL.Y.ct ?_
  | with_reducible refine' DL.Y.retN ?_
  | with_reducible refine' DL.Y.gn ?_
  | with_reducible refine' DL.Y.gnil ?_
  | with_reducible refine' DL.Y.gcons ?_
  | ((with_reducible refine' DL.Y.gseqT ?e ?_); (case' e => (rfl; done)))
  | ((with_reducible refine' DL.Y.gseqL ?e ?_); (case' e => (rfl; done)))
  | with_reducible refine' DL.Y.tup ?_
  | with_reducible refine' DL.Y.lst ?_
  | ((with_reducible refine' DL.Y.len_ ?n ?l ?_); (case' n => exact rfl); (case' l => try walk_at "size2"))
  | with_reducible refine' DL.Y.ix ?_
  | ((with_reducible refine' DL.Y.ixT ?e ?_); (case' e => (rfl; done)))
  | ((with_reducible refine' DL.Y.ixL ?e ?_); (case' e => (rfl; done)))
  | ((with_reducible refine' DL.Y.ixR ?g ?e ?_); (case' g => with_reducible assumption); (case' e => (rfl; done)))
  | with_reducible refine' DL.Y.cal ?_
  | with_reducible refine' DL.Y.lenT ?_
  | with_reducible refine' DL.Y.lenL ?_
  | ((with_reducible refine' DL.Y.lenR ?g ?_); (case' g => with_reducible assumption))
  | with_reducible refine' DL.Y.absI ?_
  | with_reducible refine' DL.Y.intI ?_
  | with_reducible refine' DL.Y.intB ?_
  | with_reducible refine' DL.Y.tupT ?_
  | with_reducible refine' DL.Y.tupL ?_
  | ((with_reducible refine' DL.Y.tupR ?g ?_); (case' g => with_reducible assumption))
  | with_reducible refine' DL.Y.lstT ?_
  | with_reducible refine' DL.Y.lstL ?_
  | with_reducible refine' DL.Y.allL ?_
  | with_reducible refine' DL.Y.anyL ?_
  | ((with_reducible refine' DL.Y.oaddL ?z ?_); (case' z => try walk_at "size2"))
  | ((with_reducible refine' DL.Y.oaddT ?z ?_); (case' z => try walk_at "size2"))
  | with_reducible refine' DL.Y.oisB ?_
  | with_reducible refine' DL.Y.onotB ?_
  | with_reducible refine' DL.Y.neg ?_
  | with_reducible refine' DL.Y.notT ?_
  | with_reducible refine' DL.Y.andT ?_
  | with_reducible refine' DL.Y.orT ?_
  | with_reducible refine' DL.Y.yes ?_
  | with_reducible refine' DL.Y.ifT ?_
  | with_reducible refine' DL.Y.andV ?_
  | with_reducible refine' DL.Y.orV ?_
  | with_reducible refine' DL.Y.notV ?_
  | with_reducible refine' DL.Y.isN ?_
  | with_reducible refine' DL.Y.notN ?_
  | ((with_reducible refine' DL.Y.isi_ ?e ?_); (case' e => (rfl; done)))
  | with_reducible refine' DL.Y.isiT ?_
  | with_reducible refine' DL.Y.chain ?_
  | with_reducible refine' DL.Y.sl ?_
  | with_reducible refine' DL.Y.noP ?_
  | with_reducible refine' DL.Y.part ?_
  | ((with_reducible refine' DL.Y.slLl ?n ?e ?_); (case' n => (rfl; done)); (case' e => walk_at "cut"))
  | ((with_reducible refine' DL.Y.slTl ?n ?m ?e ?_); (case' n => (rfl; done)); (case' m => (simp [HT.sIx]; done)); (case' e => walk_at "cut"))
  | with_reducible refine' DL.Y.slL ?_
  | with_reducible refine' DL.Y.call ?_
  | with_reducible refine' DL.Y.callK ?_
  | with_reducible refine' DL.Y.callD ?_
  | with_reducible refine' DL.Y.fld ?_
  | ((with_reducible refine' DL.Y.fld_ ?f ?e ?_); (case' f => (first | rfl | assumption); done); (case' e => (rfl; done)))
  | with_reducible refine' DL.Y.isW_ ?_
  | with_reducible refine' DL.Y.inK ?_
  | with_reducible refine' DL.Y.iSeq ?_
  | with_reducible refine' DL.Y.iSeqL ?_
  | with_reducible refine' DL.Y.iSeqT ?_
  | with_reducible refine' DL.Y.iRng1 ?_
  | with_reducible refine' DL.Y.iZip ?_
  | with_reducible refine' DL.Y.iZipT ?_
  | with_reducible refine' DL.Y.iZipL ?_
  | with_reducible refine' DL.Y.iEnum ?_
  | with_reducible refine' DL.Y.iEnumT ?_
  | with_reducible refine' DL.Y.iEnumL ?_
  | with_reducible refine' DL.Y.for_ ?_
  | with_reducible refine' DL.Y.cmp ?_
  | with_reducible refine' DL.Y.isO ?_
  | ((with_reducible refine' DL.Y.isO_ (isO_exc ?c) ?_); (case' c => (decide +kernel; done)))
  | ((with_reducible refine' DL.Y.isO_ ?e ?_); (case' e => (rfl; done)))
  | ((with_reducible refine' DL.Y.isW1 ?e ?_); (case' e => (first | assumption | (rfl; done))))
  | with_reducible refine' DL.Y.xf ?_
  | ((with_reducible refine' DL.Y.xf_ ?c ?e ?_); (case' c => (decide +kernel; done)); (case' e => (first | assumption | (rfl; done))))
  | with_reducible refine' DL.Y.mk ?_
  | with_reducible refine' DL.Y.dctM ?_
  | with_reducible refine' DL.Y.dct0 ?_
  | with_reducible refine' DL.Y.lstM ?_
  | with_reducible refine' DL.Y.rev ?_
  | with_reducible refine' DL.Y.revL ?_
  | with_reducible refine' DL.Y.dget ?_
  | with_reducible refine' DL.Y.dput ?_
  | with_reducible refine' DL.Y.app ?_
  | with_reducible refine' DL.Y.gc ?_
  | ((with_reducible refine' DL.Y.fld_ ?f ?e ?_); (case' f => ((first | rfl | assumption | decide +kernel); done)); (case' e => (rfl; done)))
  | walk_at "xu"
  | walk_at "norm")
local macro_rules | `(tactic| walk_at "norm") => `(tactic| (dsimp only [List.set]))
local macro_rules | `(tactic| walk_at "x") => `(tactic| first | walk_at "x0" | with_reducible refine' DL.Y.ifE ?_)
local macro_rules | `(tactic| walk_at "xs") => `(tactic| repeat walk_at "x0")
local macro_rules | `(tactic| walk_at "xx") => `(tactic| repeat walk_at "x")
local macro_rules | `(tactic| walk_at "start") => `(tactic| dsimp only [List.map, List.length_cons, List.length_nil, List.cons_append, List.nil_append, Nat.zero_add, Nat.reduceAdd, Nat.reduceSub, List.reduceReplicate])
namespace Lw
open PySem PySem.Spec PyProof.Rows L2 Evl DL
abbrev st_is_integer : Stmt := top 9
abbrev st_is_within : Stmt := top 10
abbrev st_is_list : Stmt := top 11
abbrev st_halves : Stmt := top 14
abbrev st_common : Stmt := top 15
abbrev st_lowest_in : Stmt := top 16
abbrev st_plus_in : Stmt := top 17
abbrev st_times_in : Stmt := top 18
abbrev st_minus_in : Stmt := top 19
abbrev st_below_in : Stmt := top 20
abbrev st_whole_in : Stmt := top 21
abbrev st_is_number : Stmt := top 22
abbrev st_kept_number : Stmt := top 23
abbrev st_need_point : Stmt := top 24
abbrev st_is_line : Stmt := top 39
abbrev st_Program___init__ : Stmt := methOf (top 40) "__init__"
abbrev st_need_program : Stmt := top 42
abbrev st_is_contents : Stmt := top 44
abbrev st_need_stand : Stmt := top 45
abbrev st_height_in : Stmt := top 52
abbrev st_point_in : Stmt := top 53
abbrev st_parted : Stmt := top 54
abbrev st_like_contents : Stmt := top 55
abbrev st_has_contents : Stmt := top 56
abbrev st_point_of : Stmt := top 57
abbrev st_stand_of : Stmt := top 58
abbrev st__law_quarry : Stmt := top 60
abbrev st__law_hew : Stmt := top 61
abbrev st__law_pick : Stmt := top 62
abbrev st__law_pair : Stmt := top 63
abbrev st__law_form : Stmt := top 64
abbrev st__law_add : Stmt := top 65
abbrev st__law_mul : Stmt := top 66
abbrev st__law_less : Stmt := top 67
abbrev st__law_line : Stmt := top 68
abbrev st__law_lines : Stmt := top 69
abbrev st__law_contents : Stmt := top 70
abbrev st__law_height : Stmt := top 72
abbrev st__law_point : Stmt := top 73
abbrev st__law_far_stand : Stmt := top 74
abbrev st__law_no_height : Stmt := top 75
abbrev st__law_heard : Stmt := top 76
abbrev st__law_others_right : Stmt := top 77
abbrev st__law_refused_right : Stmt := top 78
abbrev st_law : Stmt := top 79
structure Tx (mg : Str → Option Value) : Prop where
  f_abs : mg "abs" = none
  f_all : mg "all" = none
  f_any : mg "any" = none
  f_bool : mg "bool" = none
  f_int : mg "int" = none
  f_isinstance : mg "isinstance" = none
  f_len : mg "len" = none
  f_list : mg "list" = none
  f_range : mg "range" = none
  f_repr : mg "repr" = none
  f_str : mg "str" = none
  f_tuple : mg "tuple" = none
  c_LEAST_UNDER : ∃ t, mg "LEAST_UNDER" = some (.int 2 t)
  c_BAR : ∃ t, mg "BAR" = some (.str "/" t)
  c_FIGURES : ∃ t, mg "FIGURES" = some (.str "0123456789" t)
  c_MOST_FIGURES : ∃ t, mg "MOST_FIGURES" = some (.int 140 t)
  c_MOST_LINES : ∃ t, mg "MOST_LINES" = some (.int 15 t)
  c_LAST_BOX : ∃ t, mg "LAST_BOX" = some (.int 1 t)
  c_UP : ∃ t, mg "UP" = some (.str "up" t)
  c_DOWN : ∃ t, mg "DOWN" = some (.str "down" t)
  c_TEST : ∃ t, mg "TEST" = some (.str "test" t)
  c_STOP : ∃ t, mg "STOP" = some (.str "stop" t)
  c_SPAN : ∃ t, mg "SPAN" = some (.int 4 t)
  c_BASE : ∃ t, mg "BASE" = some (.int 3 t)
  c_LOWEST : ∃ t, mg "LOWEST" = some (.int 2 t)
  c_MOST_CONTENTS : ∃ t, mg "MOST_CONTENTS" = some (.int 200 t)
  c_WIDE : ∃ t, mg "WIDE" = some (.int 2 t)
theorem sub_TileError : ∀ C ∈ errs, subE C "TileError" = true := by decide +kernel
abbrev si_BadPoint : Stmt := initOf (top 3)
set_option maxHeartbeats 4000000 in
theorem x_BadPoint {P : Program} {w : World} {K : PySem.W.Frag} {mg : Str → Option Value} {base : Heap} (x : Xc P K mg "BadPoint" ["part"] (("BadPoint" : Str) ++ ".__init__") (defArgs si_BadPoint) (defBody si_BadPoint) (defScope si_BadPoint)) : KnX P w K mg base "BadPoint" ["self", "part"] ["part"] [true] := by
  obtain ⟨g, ox, ⟨cda, cc, T⟩, ini, ti, no, xf, xd⟩ := x
  have S : Sup.ScopeS ["self", "part"] ["self", "part"] (defScope si_BadPoint) := ⟨rfl, rfl, rfl, by decide +kernel, rfl, by decide +kernel, by decide +kernel, by decide +kernel, rfl, rfl⟩
  obtain ⟨oc, od, osl, dV, kV, doc, pm, an, ct, lk, rfl⟩ := T.fn
  refine ⟨g, ox, ini, ti, no, xf, xd, _, Sup.fnok_sup (k := 0) S T lk spI_len (fun A outer s H vs Q E room hsp => ⟨_, Sup.psS_sup (pl := pure false) S T rfl rfl rfl (pa_cons (pe_joined (PJ.cons pe_str (PJ.cons (pe_fmt (pe_var (i := 1) rfl (.inl rfl))) PJ.nil))) pa_nil) (pss_one (ps_ost (pe_var (i := 0) rfl (.inl rfl)) (pe_var (i := 1) rfl (.inl rfl)))), init1 rfl ?_ hsp⟩), ?_⟩
  · intro a w H Q hx hq
    refine jts_ok [JP.k "is none: ", JP.v 1] Str.empty (fun i hi => ?_) (fun x hx => ?_) (by show _ ≤ sizeLine; rw [sizeLine_eq]; decide) (fun out => hq _ (by show 1 ≤ 1000; decide))
    · simp only [List.mem_cons, List.mem_nil_iff, or_false, false_or, reduceCtorEq, JP.v.injEq] at hi
      subst hi
      exact ⟨w, rfl, hx (true, w) (by simp) rfl⟩
    · simp only [List.mem_cons, List.mem_nil_iff, or_false, false_or, reduceCtorEq, JP.k.injEq] at hx
      first | (subst hx; decide) | (rcases hx with rfl | rfl <;> decide) | (rcases hx with rfl | rfl | rfl <;> decide) | cases hx
  · intro s us _ hl
    match us, hl with | [_, _], _ => exact .of_eq rfl
abbrev si_BadProgram : Stmt := initOf (top 4)
set_option maxHeartbeats 4000000 in
theorem x_BadProgram {P : Program} {w : World} {K : PySem.W.Frag} {mg : Str → Option Value} {base : Heap} (x : Xc P K mg "BadProgram" ["part"] (("BadProgram" : Str) ++ ".__init__") (defArgs si_BadProgram) (defBody si_BadProgram) (defScope si_BadProgram)) : KnX P w K mg base "BadProgram" ["self", "part"] ["part"] [true] := by
  obtain ⟨g, ox, ⟨cda, cc, T⟩, ini, ti, no, xf, xd⟩ := x
  have S : Sup.ScopeS ["self", "part"] ["self", "part"] (defScope si_BadProgram) := ⟨rfl, rfl, rfl, by decide +kernel, rfl, by decide +kernel, by decide +kernel, by decide +kernel, rfl, rfl⟩
  obtain ⟨oc, od, osl, dV, kV, doc, pm, an, ct, lk, rfl⟩ := T.fn
  refine ⟨g, ox, ini, ti, no, xf, xd, _, Sup.fnok_sup (k := 0) S T lk spI_len (fun A outer s H vs Q E room hsp => ⟨_, Sup.psS_sup (pl := pure false) S T rfl rfl rfl (pa_cons (pe_joined (PJ.cons pe_str (PJ.cons (pe_fmt (pe_var (i := 1) rfl (.inl rfl))) PJ.nil))) pa_nil) (pss_one (ps_ost (pe_var (i := 0) rfl (.inl rfl)) (pe_var (i := 1) rfl (.inl rfl)))), init1 rfl ?_ hsp⟩), ?_⟩
  · intro a w H Q hx hq
    refine jts_ok [JP.k "is none: ", JP.v 1] Str.empty (fun i hi => ?_) (fun x hx => ?_) (by show _ ≤ sizeLine; rw [sizeLine_eq]; decide) (fun out => hq _ (by show 1 ≤ 1000; decide))
    · simp only [List.mem_cons, List.mem_nil_iff, or_false, false_or, reduceCtorEq, JP.v.injEq] at hi
      subst hi
      exact ⟨w, rfl, hx (true, w) (by simp) rfl⟩
    · simp only [List.mem_cons, List.mem_nil_iff, or_false, false_or, reduceCtorEq, JP.k.injEq] at hx
      first | (subst hx; decide) | (rcases hx with rfl | rfl <;> decide) | (rcases hx with rfl | rfl | rfl <;> decide) | cases hx
  · intro s us _ hl
    match us, hl with | [_, _], _ => exact .of_eq rfl
abbrev si_BadStand : Stmt := initOf (top 5)
set_option maxHeartbeats 4000000 in
theorem x_BadStand {P : Program} {w : World} {K : PySem.W.Frag} {mg : Str → Option Value} {base : Heap} (x : Xc P K mg "BadStand" ["part"] (("BadStand" : Str) ++ ".__init__") (defArgs si_BadStand) (defBody si_BadStand) (defScope si_BadStand)) : KnX P w K mg base "BadStand" ["self", "part"] ["part"] [true] := by
  obtain ⟨g, ox, ⟨cda, cc, T⟩, ini, ti, no, xf, xd⟩ := x
  have S : Sup.ScopeS ["self", "part"] ["self", "part"] (defScope si_BadStand) := ⟨rfl, rfl, rfl, by decide +kernel, rfl, by decide +kernel, by decide +kernel, by decide +kernel, rfl, rfl⟩
  obtain ⟨oc, od, osl, dV, kV, doc, pm, an, ct, lk, rfl⟩ := T.fn
  refine ⟨g, ox, ini, ti, no, xf, xd, _, Sup.fnok_sup (k := 0) S T lk spI_len (fun A outer s H vs Q E room hsp => ⟨_, Sup.psS_sup (pl := pure false) S T rfl rfl rfl (pa_cons (pe_joined (PJ.cons pe_str (PJ.cons (pe_fmt (pe_var (i := 1) rfl (.inl rfl))) PJ.nil))) pa_nil) (pss_one (ps_ost (pe_var (i := 0) rfl (.inl rfl)) (pe_var (i := 1) rfl (.inl rfl)))), init1 rfl ?_ hsp⟩), ?_⟩
  · intro a w H Q hx hq
    refine jts_ok [JP.k "is none: ", JP.v 1] Str.empty (fun i hi => ?_) (fun x hx => ?_) (by show _ ≤ sizeLine; rw [sizeLine_eq]; decide) (fun out => hq _ (by show 1 ≤ 1000; decide))
    · simp only [List.mem_cons, List.mem_nil_iff, or_false, false_or, reduceCtorEq, JP.v.injEq] at hi
      subst hi
      exact ⟨w, rfl, hx (true, w) (by simp) rfl⟩
    · simp only [List.mem_cons, List.mem_nil_iff, or_false, false_or, reduceCtorEq, JP.k.injEq] at hx
      first | (subst hx; decide) | (rcases hx with rfl | rfl <;> decide) | (rcases hx with rfl | rfl | rfl <;> decide) | cases hx
  · intro s us _ hl
    match us, hl with | [_, _], _ => exact .of_eq rfl
abbrev si_TooMany : Stmt := initOf (top 6)
set_option maxHeartbeats 4000000 in
theorem x_TooMany {P : Program} {w : World} {K : PySem.W.Frag} {mg : Str → Option Value} {base : Heap} (x : Xc P K mg "TooMany" ["what", "most"] (("TooMany" : Str) ++ ".__init__") (defArgs si_TooMany) (defBody si_TooMany) (defScope si_TooMany)) : KnX P w K mg base "TooMany" ["self", "what", "most"] ["what", "most"] [true, true] := by
  obtain ⟨g, ox, ⟨cda, cc, T⟩, ini, ti, no, xf, xd⟩ := x
  have S : Sup.ScopeS ["self", "what", "most"] ["self", "what", "most"] (defScope si_TooMany) := ⟨rfl, rfl, rfl, by decide +kernel, rfl, by decide +kernel, by decide +kernel, by decide +kernel, rfl, rfl⟩
  obtain ⟨oc, od, osl, dV, kV, doc, pm, an, ct, lk, rfl⟩ := T.fn
  refine ⟨g, ox, ini, ti, no, xf, xd, _, Sup.fnok_sup (k := 0) S T lk spI_len (fun A outer s H vs Q E room hsp => ⟨_, Sup.psS_sup (pl := pure false) S T rfl rfl rfl (pa_cons (pe_joined (PJ.cons (pe_fmt (pe_var (i := 1) rfl (.inl rfl))) (PJ.cons pe_str (PJ.cons (pe_fmt (pe_var (i := 2) rfl (.inl rfl))) PJ.nil)))) pa_nil) (pss_cons (ps_ost (pe_var (i := 0) rfl (.inl rfl)) (pe_var (i := 1) rfl (.inl rfl))) (pss_one (ps_ost (pe_var (i := 0) rfl (.inl rfl)) (pe_var (i := 2) rfl (.inl rfl))))), init2 rfl ?_ hsp⟩), ?_⟩
  · intro a w u H Q hx hq
    refine jts_ok [JP.v 1, JP.k ": at most ", JP.v 2] Str.empty (fun i hi => ?_) (fun x hx => ?_) (by show _ ≤ sizeLine; rw [sizeLine_eq]; decide) (fun out => hq _ (by show 1 ≤ 1000; decide))
    · simp only [List.mem_cons, List.mem_nil_iff, or_false, false_or, reduceCtorEq, JP.v.injEq] at hi
      rcases hi with rfl | rfl
      · exact ⟨w, rfl, hx (true, w) (by simp) rfl⟩
      · exact ⟨u, rfl, hx (true, u) (by simp) rfl⟩
    · simp only [List.mem_cons, List.mem_nil_iff, or_false, false_or, reduceCtorEq, JP.k.injEq] at hx
      first | (subst hx; decide) | (rcases hx with rfl | rfl <;> decide) | (rcases hx with rfl | rfl | rfl <;> decide) | cases hx
  · intro s us _ hl
    match us, hl with | [_, _, _], _ => exact .of_eq rfl
theorem isw_plain {k : Str} {v : D} (h1 : v.tyn.isSome = true) (h2 : ∀ C ns xs, v ≠ .ins C ns xs) : isW cls subC k v = some false := by
  cases v <;> first | rfl | (exact absurd rfl (h2 _ _ _)) | (cases h1)
def hkL : List (Str × Str) := [("BadProgram", "program"), ("BadStand", "stand"), ("BadPoint", "point")]
def ttH : ActD → Gm → KD → Prop := fun act G R => ∃ RK RXK, act G RK RXK ∧ (∀ d G', RK d G' → R .non G') ∧ ∀ C ns xs G', RXK C ns xs G' → (∃ z w, (ns.zip xs).lookup ("part" : Str) = some z ∧ (C, w) ∈ hkL ∧ R (.tup [.str w, z]) G') ∨ (C = "TooMany" ∧ ∃ z w, (ns.zip xs).lookup ("what" : Str) = some z ∧ (ns.zip xs).lookup ("most" : Str) = some w ∧ R (.tup [z, w]) G')
theorem hear {dE : XD → DE} {ρ : En} {G : Gm} {R : KD} {C w p : Str} (hC : (C, w) ∈ hkL) (h : ∀ (RK : KD) (RX : XD), RX C ["part"] [.str p] G → dE RX ρ G RK) (r : R (.tup [.str w, .str p]) G) : dLam ttH dE ρ G R :=
  ⟨fun _ _ => False, fun C' ns xs G' => C' = C ∧ ns = [("part" : Str)] ∧ xs = [.str p] ∧ G' = G, h _ _ ⟨rfl, rfl, rfl, rfl⟩, fun _ _ q => q.elim, fun C' ns xs G' ⟨e1, e2, e3, e4⟩ => by
    subst e1 e2 e3 e4
    exact .inl ⟨.str p, w, rfl, hC, r⟩⟩
theorem hearM {dE : XD → DE} {ρ : En} {G : Gm} {R : KD} {x y : D} (h : ∀ (RK : KD) (RX : XD), RX "TooMany" ["most", "what"] [y, x] G → dE RX ρ G RK) (r : R (.tup [x, y]) G) : dLam ttH dE ρ G R :=
  ⟨fun _ _ => False, fun C' ns xs G' => C' = "TooMany" ∧ ns = [("most" : Str), "what"] ∧ xs = [y, x] ∧ G' = G, h _ _ ⟨rfl, rfl, rfl, rfl⟩, fun _ _ q => q.elim, fun C' ns xs G' ⟨e1, e2, e3, e4⟩ => by
    subst e1 e2 e3 e4
    exact .inr ⟨rfl, x, y, rfl, rfl, r⟩⟩
def Tells (k : Key) (z : D) : Prop := ∃ s : Sd, z = s.d ∧ s.l < 250 ∧ bxLt 201 s.x ∧ bxLt 201 s.y ∧ k = .inr (ptD s).shown
def sp_farStand : DSp := fun xs G R _ => ∃ (a : Addr) (ls : List Ln) (T : Nat), xs = [.ref a, .lst (ls.map Ln.d)] ∧ LsOk ls ∧ GauAt G a T ∧ T + 10 ≤ 1000000000 ∧ ∀ (s : Sd) m, s.l < ls.length → bxLt 201 s.x → bxLt 201 s.y → Gau m (T + 10) → R s.d (gup G a m)
def sp_others : DSp := fun xs G R _ => ∃ (a : Addr) (ls : List Ln) (s : Sd) (T : Nat), xs = [.ref a, .lst (ls.map Ln.d), s.d] ∧ LsOk ls ∧ s.l < ls.length ∧ bxLt 201 s.x ∧ bxLt 201 s.y ∧ GauAt G a T ∧ T + 2 ≤ 1000000000 ∧ ∀ m, Gau m (T + 2) → R (.bl true) (gup G a m)
def sp_refused : DSp := fun xs G R _ => ∃ (a : Addr) (ls : List Ln) (s : Sd) (T : Nat), xs = [.ref a, .lst (ls.map Ln.d), s.d] ∧ LsOk ls ∧ s.l < ls.length ∧ GauAt G a T ∧ T + 10 ≤ 1000000000 ∧ ∀ m, Gau m (T + 10) → R (.bl true) (gup G a m)
abbrev sp_is_integer : DSp := DL.sp_is_integer
def r_is_integer : DS := (dRet (dAndV (dCal (fIsi "int") (dCons (dVar 0) (dCons (dC (.ty "int")) dNil))) (dNotV (dCal (fIsi "bool") (dCons (dVar 0) (dCons (dC (.ty "bool")) dNil))))))
theorem sc_is_integer : FnScope ["value"] ["value"] (defScope st_is_integer) := ⟨rfl, rfl, rfl, by decide +kernel, rfl, by decide +kernel, by decide +kernel⟩
theorem v_is_integer (xs : List D) (G : Gm) (R : KD) (RX : XD) (h : sp_is_integer xs G R RX) : r_is_integer { nx := fun _ G => R .non G, rt := R } (xs.map some ++ List.replicate (1 - xs.length) none) G := by
  exact is_integer_ok xs G R RX h
theorem l_is_integer (xs : List D) (G : Gm) (R : KD) (RX : XD) (h : sp_is_integer xs G R RX) : xs.length = 1 := by
  obtain ⟨_, rfl, _⟩ := h
  rfl
set_option maxHeartbeats 4000000 in
theorem k_is_integer {P : Program} {w : World} {K : PySem.W.Frag} {mg : Str → Option Value} {base : Heap} (T : Tx mg) (F : Df K mg "is_integer" st_is_integer) :
    Kn P w K mg base 1 "is_integer" st_is_integer ["value"] sp_is_integer :=
  kn_of F.g F.f sc_is_integer l_is_integer fun cdv hcv A outer s H E B RX hr hg kx => ⟨r_is_integer, (psd_one (psd_ret (pd_and (pd_isi rfl (by decide) rfl T.f_isinstance (pd_var 0) (pd_bty rfl T.f_int (by decide +kernel))) (pd_one (pd_not (pd_isi rfl (by decide) rfl T.f_isinstance (pd_var 0) (pd_bty rfl T.f_bool (by decide +kernel)))))))), fun xs G R h => v_is_integer xs G R RX h⟩
abbrev sp_is_within : DSp := DL.sp_is_within
def r_is_within : DS := (dSeq (dIfS (dNot (dTst (dCall sp_is_integer X0 (dCons (dVar 0) dNil)))) (dRet (dC (.bl false))) dNext) (dRet (dAndV (dOrV (dIsN (dVar 1)) (dOp (fInt gLe) (dVar 1) (dVar 0))) (dOrV (dIsN (dVar 2)) (dOp (fInt gLe) (dVar 0) (dVar 2))))))
theorem sc_is_within : FnScope ["value", "least", "most"] ["value", "least", "most"] (defScope st_is_within) := ⟨rfl, rfl, rfl, by decide +kernel, rfl, by decide +kernel, by decide +kernel⟩
theorem v_is_within (xs : List D) (G : Gm) (R : KD) (RX : XD) (h : sp_is_within xs G R RX) : r_is_within { nx := fun _ G => R .non G, rt := R } (xs.map some ++ List.replicate (3 - xs.length) none) G := by
  exact is_within_ok xs G R RX h
theorem l_is_within (xs : List D) (G : Gm) (R : KD) (RX : XD) (h : sp_is_within xs G R RX) : xs.length = 3 := by
  obtain ⟨_, _, _, _, _, rfl, _⟩ := h
  rfl
set_option maxHeartbeats 4000000 in
theorem k_is_within {P : Program} {w : World} {K : PySem.W.Frag} {mg : Str → Option Value} {base : Heap} (T : Tx mg) (F : Df K mg "is_within" st_is_within) (k_is_integer : Kn P w K mg base 1 "is_integer" st_is_integer ["value"] sp_is_integer) :
    Kn P w K mg base 2 "is_within" st_is_within ["value", "least", "most"] sp_is_within :=
  kn_of F.g F.f sc_is_within l_is_within fun cdv hcv A outer s H E B RX hr hg kx => ⟨r_is_within, (psd_cons (psd_if (ptd_not (ptd_val (pd_call k_is_integer (hr.mono (by decide)) hg rfl pass0 kx0 (fun _ _ _ _ _ _ us hl => match us, hl with | [_], _ => rfl) (pda_cons (pd_var 0) pda_nil)))) (psd_one (psd_ret pd_bl)) psd_nil) (psd_one (psd_ret (pd_and (pd_or (pd_isN (pd_var 1)) (pd_one (pd_cmp op_le od_bl (pd_var 1) (pd_var 0) (nomark _)))) (pd_one (pd_or (pd_isN (pd_var 2)) (pd_one (pd_cmp op_le od_bl (pd_var 0) (pd_var 2) (nomark _))))))))), fun xs G R h => v_is_within xs G R RX h⟩
abbrev sp_is_list : DSp := DL.sp_is_list
def r_is_list : DS := (dRet (dIsiT ["list", "tuple"] (dVar 0)))
theorem sc_is_list : FnScope ["value"] ["value"] (defScope st_is_list) := ⟨rfl, rfl, rfl, by decide +kernel, rfl, by decide +kernel, by decide +kernel⟩
theorem v_is_list (xs : List D) (G : Gm) (R : KD) (RX : XD) (h : sp_is_list xs G R RX) : r_is_list { nx := fun _ G => R .non G, rt := R } (xs.map some ++ List.replicate (1 - xs.length) none) G := by
  exact is_list_ok xs G R RX h
theorem l_is_list (xs : List D) (G : Gm) (R : KD) (RX : XD) (h : sp_is_list xs G R RX) : xs.length = 1 := by
  obtain ⟨_, rfl, _⟩ := h
  rfl
set_option maxHeartbeats 4000000 in
theorem k_is_list {P : Program} {w : World} {K : PySem.W.Frag} {mg : Str → Option Value} {base : Heap} (T : Tx mg) (F : Df K mg "is_list" st_is_list) :
    Kn P w K mg base 1 "is_list" st_is_list ["value"] sp_is_list :=
  kn_of F.g F.f sc_is_list l_is_list fun cdv hcv A outer s H E B RX hr hg kx => ⟨r_is_list, (psd_one (psd_ret (pd_isiT rfl (by decide) (by decide) rfl T.f_isinstance (pd_var 0) (pty_cons (pe_ty rfl T.f_list (by decide +kernel)) (pty_cons (pe_ty rfl T.f_tuple (by decide +kernel)) pty_nil))))), fun xs G R h => v_is_list xs G R RX h⟩
def r_halves : DS := (dRet (dIf (dTst (dCall sp_is_integer X0 (dCons (dVar 0) dNil))) (dTup (dCons (dVar 0) (dCons (dC (.int 1)) dNil))) (dTup (dCons (dIx (dVar 0) (dC (.int 0))) (dCons (dIx (dVar 0) (dC (.int 1))) dNil)))))
theorem sc_halves : FnScope ["number"] ["number"] (defScope st_halves) := ⟨rfl, rfl, rfl, by decide +kernel, rfl, by decide +kernel, by decide +kernel⟩
theorem v_halves (xs : List D) (G : Gm) (R : KD) (RX : XD) (h : sp_halves xs G R RX) : r_halves { nx := fun _ G => R .non G, rt := R } (xs.map some ++ List.replicate (1 - xs.length) none) G := by
  exact halves_ok xs G R RX h
theorem l_halves (xs : List D) (G : Gm) (R : KD) (RX : XD) (h : sp_halves xs G R RX) : xs.length = 1 := by
  obtain ⟨_, rfl, _⟩ := h
  rfl
set_option maxHeartbeats 4000000 in
theorem k_halves {P : Program} {w : World} {K : PySem.W.Frag} {mg : Str → Option Value} {base : Heap} (T : Tx mg) (F : Df K mg "halves" st_halves) (k_is_integer : Kn P w K mg base 1 "is_integer" st_is_integer ["value"] sp_is_integer) :
    Kn P w K mg base 2 "halves" st_halves ["number"] sp_halves :=
  kn_of F.g F.f sc_halves l_halves fun cdv hcv A outer s H E B RX hr hg kx => ⟨r_halves, (psd_one (psd_ret (pd_if (ptd_val (pd_call k_is_integer (hr.mono (by decide)) hg rfl pass0 kx0 (fun _ _ _ _ _ _ us hl => match us, hl with | [_], _ => rfl) (pda_cons (pd_var 0) pda_nil))) (pd_tup (pda_cons (pd_var 0) (pda_cons pd_int pda_nil))) (pd_tup (pda_cons (pd_ix (pd_var 0) pd_int (fun _ _ => rfl)) (pda_cons (pd_ix (pd_var 0) pd_int (fun _ _ => rfl)) pda_nil)))))), fun xs G R h => v_halves xs G R RX h⟩
def r_common : DS := (dSeq (dPar 0 1 (dCons (dCal fAbs (dCons (dVar 0) dNil)) (dCons (dCal fAbs (dCons (dVar 1) dNil)) dNil))) (dSeq (dWhile (dTst (dOp (fInt gGt) (dVar 1) (dC (.int 0)))) (dPar 0 1 (dCons (dVar 1) (dCons (dOp (fIntC (fun _ j => 0 < j) fun i j => .int (i % j)) (dVar 0) (dVar 1)) dNil)))) (dRet (dVar 0))))
theorem sc_common : FnScope ["one", "other"] ["one", "other"] (defScope st_common) := ⟨rfl, rfl, rfl, by decide +kernel, rfl, by decide +kernel, by decide +kernel⟩
theorem v_common (xs : List D) (G : Gm) (R : KD) (RX : XD) (h : sp_common xs G R RX) : r_common { nx := fun _ G => R .non G, rt := R } (xs.map some ++ List.replicate (2 - xs.length) none) G := by
  exact common_ok xs G R RX h
theorem l_common (xs : List D) (G : Gm) (R : KD) (RX : XD) (h : sp_common xs G R RX) : xs.length = 2 := by
  obtain ⟨_, _, rfl, _⟩ := h
  rfl
set_option maxHeartbeats 4000000 in
theorem k_common {P : Program} {w : World} {K : PySem.W.Frag} {mg : Str → Option Value} {base : Heap} (T : Tx mg) (F : Df K mg "common" st_common) :
    Kn P w K mg base 1 "common" st_common ["one", "other"] sp_common :=
  kn_of F.g F.f sc_common l_common fun cdv hcv A outer s H E B RX hr hg kx => ⟨r_common, (psd_cons (psd_par (i := 0) (j := 1) rfl sc_common.nd rfl rfl (by decide) rfl rfl (pda_cons (pd_callB call_abs cd_abs rfl T.f_abs (by decide +kernel) (pda_cons (pd_var 0) pda_nil)) (pda_cons (pd_callB call_abs cd_abs rfl T.f_abs (by decide +kernel) (pda_cons (pd_var 1) pda_nil)) pda_nil)) rfl) (psd_cons (psd_while (passes_of rfl) (ptd_cmp op_gt od_bl (pd_var 1) pd_int (nomark _)) (psd_one (psd_par (i := 0) (j := 1) rfl sc_common.nd rfl rfl (by decide) rfl rfl (pda_cons (pd_var 1) (pda_cons (pd_mod (pd_var 0) (pd_var 1)) pda_nil)) rfl))) (psd_one (psd_ret (pd_var 0))))), fun xs G R h => v_common xs G R RX h⟩
abbrev sp_lowest_in : DSp := DL.sp_lowZ
def r_lowest_in : DS := (dSeq (dSet 2 (dIf (dTst (dOp (fInt gGt) (dVar 1) (dC (.int 0)))) (dCall sp_common X0 (dCons (dVar 0) (dCons (dVar 1) dNil))) (dNeg (dCall sp_common X0 (dCons (dVar 0) (dCons (dVar 1) dNil)))))) (dRet (dIf (dTst (dOp fEq (dOp (fIntC CDivZ fun i j => .int (Int.fdiv i j)) (dVar 1) (dVar 2)) (dC (.int 1)))) (dOp (fIntC CDivZ fun i j => .int (Int.fdiv i j)) (dVar 0) (dVar 2)) (dTup (dCons (dOp (fIntC CDivZ fun i j => .int (Int.fdiv i j)) (dVar 0) (dVar 2)) (dCons (dOp (fIntC CDivZ fun i j => .int (Int.fdiv i j)) (dVar 1) (dVar 2)) dNil))))))
theorem sc_lowest_in : FnScope ["above", "under", "by"] ["above", "under"] (defScope st_lowest_in) := ⟨rfl, rfl, rfl, by decide +kernel, rfl, by decide +kernel, by decide +kernel⟩
theorem v_lowest_in (xs : List D) (G : Gm) (R : KD) (RX : XD) (h : sp_lowest_in xs G R RX) : r_lowest_in { nx := fun _ G => R .non G, rt := R } (xs.map some ++ List.replicate (3 - xs.length) none) G := by
  exact lowZ_ok xs G R RX h
theorem l_lowest_in (xs : List D) (G : Gm) (R : KD) (RX : XD) (h : sp_lowest_in xs G R RX) : xs.length = 2 := by
  obtain ⟨_, _, rfl, _⟩ := h
  rfl
set_option maxHeartbeats 4000000 in
theorem k_lowest_in {P : Program} {w : World} {K : PySem.W.Frag} {mg : Str → Option Value} {base : Heap} (T : Tx mg) (F : Df K mg "lowest_in" st_lowest_in) (k_common : Kn P w K mg base 1 "common" st_common ["one", "other"] sp_common) :
    Kn P w K mg base 2 "lowest_in" st_lowest_in ["above", "under"] sp_lowest_in :=
  kn_of F.g F.f sc_lowest_in l_lowest_in fun cdv hcv A outer s H E B RX hr hg kx => ⟨r_lowest_in, (psd_cons (psd_set (i := 2) sc_lowest_in.nd rfl (by first | exact Or.inl rfl | exact Or.inr rfl) (pd_if (ptd_cmp op_gt od_bl (pd_var 1) pd_int (nomark _)) (pd_call k_common (hr.mono (by decide)) hg rfl pass0 kx0 (fun _ _ _ _ _ _ us hl => match us, hl with | [_, _], _ => rfl) (pda_cons (pd_var 0) (pda_cons (pd_var 1) pda_nil))) (pd_neg (pd_call k_common (hr.mono (by decide)) hg rfl pass0 kx0 (fun _ _ _ _ _ _ us hl => match us, hl with | [_, _], _ => rfl) (pda_cons (pd_var 0) (pda_cons (pd_var 1) pda_nil)))))) (psd_one (psd_ret (pd_if (ptd_cmp (op_eq2 hr.units) od_eq (pd_fdivZ (pd_var 1) (pd_var 2)) pd_int (nomark _)) (pd_fdivZ (pd_var 0) (pd_var 2)) (pd_tup (pda_cons (pd_fdivZ (pd_var 0) (pd_var 2)) (pda_cons (pd_fdivZ (pd_var 1) (pd_var 2)) pda_nil))))))), fun xs G R h => v_lowest_in xs G R RX h⟩
abbrev sp_plus_in : DSp := sp_2 3000 plusZ
def r_plus_in : DS := (dSeq (dAsg (dTup (dCons (dCall sp_halves X0 (dCons (dVar 0) dNil)) (dCons (dCall sp_halves X0 (dCons (dVar 1) dNil)) dNil))) (gSeq 2 (gCons (gSeq 2 (gCons (gN 2) (gCons (gN 3) gNil))) (gCons (gSeq 2 (gCons (gN 4) (gCons (gN 5) gNil))) gNil)))) (dRet (dCall sp_lowest_in X0 (dCons (dOp fAdd (dOp (fIntC IntMulOk fun i j => .int (i * j)) (dVar 2) (dVar 5)) (dOp (fIntC IntMulOk fun i j => .int (i * j)) (dVar 4) (dVar 3))) (dCons (dOp (fIntC IntMulOk fun i j => .int (i * j)) (dVar 3) (dVar 5)) dNil)))))
theorem sc_plus_in : FnScope ["one", "other", "a", "b", "c", "d"] ["one", "other"] (defScope st_plus_in) := ⟨rfl, rfl, rfl, by decide +kernel, rfl, by decide +kernel, by decide +kernel⟩
theorem v_plus_in (xs : List D) (G : Gm) (R : KD) (RX : XD) (h : sp_plus_in xs G R RX) : r_plus_in { nx := fun _ G => R .non G, rt := R } (xs.map some ++ List.replicate (6 - xs.length) none) G := by
  exact plusZ_ok xs G R RX h
theorem l_plus_in (xs : List D) (G : Gm) (R : KD) (RX : XD) (h : sp_plus_in xs G R RX) : xs.length = 2 := by
  obtain ⟨_, _, rfl, _⟩ := h
  rfl
set_option maxHeartbeats 4000000 in
theorem k_plus_in {P : Program} {w : World} {K : PySem.W.Frag} {mg : Str → Option Value} {base : Heap} (T : Tx mg) (F : Df K mg "plus_in" st_plus_in) (k_halves : Kn P w K mg base 2 "halves" st_halves ["number"] sp_halves) (k_lowest_in : Kn P w K mg base 2 "lowest_in" st_lowest_in ["above", "under"] sp_lowest_in) :
    Kn P w K mg base 3 "plus_in" st_plus_in ["one", "other"] sp_plus_in :=
  kn_of F.g F.f sc_plus_in l_plus_in fun cdv hcv A outer s H E B RX hr hg kx => ⟨r_plus_in, (psd_cons (psd_asg (pd_tup (pda_cons (pd_call k_halves (hr.mono (by decide)) hg rfl pass0 kx0 (fun _ _ _ _ _ _ us hl => match us, hl with | [_], _ => rfl) (pda_cons (pd_var 0) pda_nil)) (pda_cons (pd_call k_halves (hr.mono (by decide)) hg rfl pass0 kx0 (fun _ _ _ _ _ _ us hl => match us, hl with | [_], _ => rfl) (pda_cons (pd_var 1) pda_nil)) pda_nil))) (pgd_seq rfl (pgsd_cons (pgd_seq rfl (pgsd_cons (pgd_name (i := 2) sc_plus_in.nd rfl (by first | exact Or.inl rfl | exact Or.inr rfl)) (pgsd_cons (pgd_name (i := 3) sc_plus_in.nd rfl (by first | exact Or.inl rfl | exact Or.inr rfl)) pgsd_nil))) (pgsd_cons (pgd_seq rfl (pgsd_cons (pgd_name (i := 4) sc_plus_in.nd rfl (by first | exact Or.inl rfl | exact Or.inr rfl)) (pgsd_cons (pgd_name (i := 5) sc_plus_in.nd rfl (by first | exact Or.inl rfl | exact Or.inr rfl)) pgsd_nil))) pgsd_nil)))) (psd_one (psd_ret (pd_call k_lowest_in (hr.mono (by decide)) hg rfl pass0 kx0 (fun _ _ _ _ _ _ us hl => match us, hl with | [_, _], _ => rfl) (pda_cons (pd_add (pd_mul (pd_var 2) (pd_var 5)) (pd_mul (pd_var 4) (pd_var 3))) (pda_cons (pd_mul (pd_var 3) (pd_var 5)) pda_nil)))))), fun xs G R h => v_plus_in xs G R RX h⟩
abbrev sp_times_in : DSp := sp_2 3000 timesZ
def r_times_in : DS := (dSeq (dAsg (dTup (dCons (dCall sp_halves X0 (dCons (dVar 0) dNil)) (dCons (dCall sp_halves X0 (dCons (dVar 1) dNil)) dNil))) (gSeq 2 (gCons (gSeq 2 (gCons (gN 2) (gCons (gN 3) gNil))) (gCons (gSeq 2 (gCons (gN 4) (gCons (gN 5) gNil))) gNil)))) (dRet (dCall sp_lowest_in X0 (dCons (dOp (fIntC IntMulOk fun i j => .int (i * j)) (dVar 2) (dVar 4)) (dCons (dOp (fIntC IntMulOk fun i j => .int (i * j)) (dVar 3) (dVar 5)) dNil)))))
theorem sc_times_in : FnScope ["one", "other", "a", "b", "c", "d"] ["one", "other"] (defScope st_times_in) := ⟨rfl, rfl, rfl, by decide +kernel, rfl, by decide +kernel, by decide +kernel⟩
theorem v_times_in (xs : List D) (G : Gm) (R : KD) (RX : XD) (h : sp_times_in xs G R RX) : r_times_in { nx := fun _ G => R .non G, rt := R } (xs.map some ++ List.replicate (6 - xs.length) none) G := by
  exact timesZ_ok xs G R RX h
theorem l_times_in (xs : List D) (G : Gm) (R : KD) (RX : XD) (h : sp_times_in xs G R RX) : xs.length = 2 := by
  obtain ⟨_, _, rfl, _⟩ := h
  rfl
set_option maxHeartbeats 4000000 in
theorem k_times_in {P : Program} {w : World} {K : PySem.W.Frag} {mg : Str → Option Value} {base : Heap} (T : Tx mg) (F : Df K mg "times_in" st_times_in) (k_halves : Kn P w K mg base 2 "halves" st_halves ["number"] sp_halves) (k_lowest_in : Kn P w K mg base 2 "lowest_in" st_lowest_in ["above", "under"] sp_lowest_in) :
    Kn P w K mg base 3 "times_in" st_times_in ["one", "other"] sp_times_in :=
  kn_of F.g F.f sc_times_in l_times_in fun cdv hcv A outer s H E B RX hr hg kx => ⟨r_times_in, (psd_cons (psd_asg (pd_tup (pda_cons (pd_call k_halves (hr.mono (by decide)) hg rfl pass0 kx0 (fun _ _ _ _ _ _ us hl => match us, hl with | [_], _ => rfl) (pda_cons (pd_var 0) pda_nil)) (pda_cons (pd_call k_halves (hr.mono (by decide)) hg rfl pass0 kx0 (fun _ _ _ _ _ _ us hl => match us, hl with | [_], _ => rfl) (pda_cons (pd_var 1) pda_nil)) pda_nil))) (pgd_seq rfl (pgsd_cons (pgd_seq rfl (pgsd_cons (pgd_name (i := 2) sc_times_in.nd rfl (by first | exact Or.inl rfl | exact Or.inr rfl)) (pgsd_cons (pgd_name (i := 3) sc_times_in.nd rfl (by first | exact Or.inl rfl | exact Or.inr rfl)) pgsd_nil))) (pgsd_cons (pgd_seq rfl (pgsd_cons (pgd_name (i := 4) sc_times_in.nd rfl (by first | exact Or.inl rfl | exact Or.inr rfl)) (pgsd_cons (pgd_name (i := 5) sc_times_in.nd rfl (by first | exact Or.inl rfl | exact Or.inr rfl)) pgsd_nil))) pgsd_nil)))) (psd_one (psd_ret (pd_call k_lowest_in (hr.mono (by decide)) hg rfl pass0 kx0 (fun _ _ _ _ _ _ us hl => match us, hl with | [_, _], _ => rfl) (pda_cons (pd_mul (pd_var 2) (pd_var 4)) (pda_cons (pd_mul (pd_var 3) (pd_var 5)) pda_nil)))))), fun xs G R h => v_times_in xs G R RX h⟩
abbrev sp_minus_in : DSp := sp_2 3000 minusZ
def r_minus_in : DS := (dRet (dCall sp_plus_in X0 (dCons (dVar 0) (dCons (dCall sp_times_in X0 (dCons (dVar 1) (dCons (dNeg (dC (.int 1))) dNil))) dNil))))
theorem sc_minus_in : FnScope ["one", "other"] ["one", "other"] (defScope st_minus_in) := ⟨rfl, rfl, rfl, by decide +kernel, rfl, by decide +kernel, by decide +kernel⟩
theorem v_minus_in (xs : List D) (G : Gm) (R : KD) (RX : XD) (h : sp_minus_in xs G R RX) : r_minus_in { nx := fun _ G => R .non G, rt := R } (xs.map some ++ List.replicate (2 - xs.length) none) G := by
  exact minusZ_ok xs G R RX h
theorem l_minus_in (xs : List D) (G : Gm) (R : KD) (RX : XD) (h : sp_minus_in xs G R RX) : xs.length = 2 := by
  obtain ⟨_, _, rfl, _⟩ := h
  rfl
set_option maxHeartbeats 4000000 in
theorem k_minus_in {P : Program} {w : World} {K : PySem.W.Frag} {mg : Str → Option Value} {base : Heap} (T : Tx mg) (F : Df K mg "minus_in" st_minus_in) (k_plus_in : Kn P w K mg base 3 "plus_in" st_plus_in ["one", "other"] sp_plus_in) (k_times_in : Kn P w K mg base 3 "times_in" st_times_in ["one", "other"] sp_times_in) :
    Kn P w K mg base 4 "minus_in" st_minus_in ["one", "other"] sp_minus_in :=
  kn_of F.g F.f sc_minus_in l_minus_in fun cdv hcv A outer s H E B RX hr hg kx => ⟨r_minus_in, (psd_one (psd_ret (pd_call k_plus_in (hr.mono (by decide)) hg rfl pass0 kx0 (fun _ _ _ _ _ _ us hl => match us, hl with | [_, _], _ => rfl) (pda_cons (pd_var 0) (pda_cons (pd_call k_times_in (hr.mono (by decide)) hg rfl pass0 kx0 (fun _ _ _ _ _ _ us hl => match us, hl with | [_, _], _ => rfl) (pda_cons (pd_var 1) (pda_cons (pd_neg pd_int) pda_nil))) pda_nil))))), fun xs G R h => v_minus_in xs G R RX h⟩
abbrev sp_below_in : DSp := DL.sp_below
def r_below_in : DS := (dSeq (dAsg (dTup (dCons (dCall sp_halves X0 (dCons (dVar 0) dNil)) (dCons (dCall sp_halves X0 (dCons (dVar 1) dNil)) dNil))) (gSeq 2 (gCons (gSeq 2 (gCons (gN 2) (gCons (gN 3) gNil))) (gCons (gSeq 2 (gCons (gN 4) (gCons (gN 5) gNil))) gNil)))) (dRet (dOp (fInt gLt) (dOp (fIntC IntMulOk fun i j => .int (i * j)) (dVar 2) (dVar 5)) (dOp (fIntC IntMulOk fun i j => .int (i * j)) (dVar 4) (dVar 3)))))
theorem sc_below_in : FnScope ["one", "other", "a", "b", "c", "d"] ["one", "other"] (defScope st_below_in) := ⟨rfl, rfl, rfl, by decide +kernel, rfl, by decide +kernel, by decide +kernel⟩
theorem v_below_in (xs : List D) (G : Gm) (R : KD) (RX : XD) (h : sp_below_in xs G R RX) : r_below_in { nx := fun _ G => R .non G, rt := R } (xs.map some ++ List.replicate (6 - xs.length) none) G := by
  exact below_ok xs G R RX h
theorem l_below_in (xs : List D) (G : Gm) (R : KD) (RX : XD) (h : sp_below_in xs G R RX) : xs.length = 2 := by
  obtain ⟨_, _, rfl, _⟩ := h
  rfl
set_option maxHeartbeats 4000000 in
theorem k_below_in {P : Program} {w : World} {K : PySem.W.Frag} {mg : Str → Option Value} {base : Heap} (T : Tx mg) (F : Df K mg "below_in" st_below_in) (k_halves : Kn P w K mg base 2 "halves" st_halves ["number"] sp_halves) :
    Kn P w K mg base 3 "below_in" st_below_in ["one", "other"] sp_below_in :=
  kn_of F.g F.f sc_below_in l_below_in fun cdv hcv A outer s H E B RX hr hg kx => ⟨r_below_in, (psd_cons (psd_asg (pd_tup (pda_cons (pd_call k_halves (hr.mono (by decide)) hg rfl pass0 kx0 (fun _ _ _ _ _ _ us hl => match us, hl with | [_], _ => rfl) (pda_cons (pd_var 0) pda_nil)) (pda_cons (pd_call k_halves (hr.mono (by decide)) hg rfl pass0 kx0 (fun _ _ _ _ _ _ us hl => match us, hl with | [_], _ => rfl) (pda_cons (pd_var 1) pda_nil)) pda_nil))) (pgd_seq rfl (pgsd_cons (pgd_seq rfl (pgsd_cons (pgd_name (i := 2) sc_below_in.nd rfl (by first | exact Or.inl rfl | exact Or.inr rfl)) (pgsd_cons (pgd_name (i := 3) sc_below_in.nd rfl (by first | exact Or.inl rfl | exact Or.inr rfl)) pgsd_nil))) (pgsd_cons (pgd_seq rfl (pgsd_cons (pgd_name (i := 4) sc_below_in.nd rfl (by first | exact Or.inl rfl | exact Or.inr rfl)) (pgsd_cons (pgd_name (i := 5) sc_below_in.nd rfl (by first | exact Or.inl rfl | exact Or.inr rfl)) pgsd_nil))) pgsd_nil)))) (psd_one (psd_ret (pd_cmp op_lt od_bl (pd_mul (pd_var 2) (pd_var 5)) (pd_mul (pd_var 4) (pd_var 3)) (nomark _))))), fun xs G R h => v_below_in xs G R RX h⟩
abbrev sp_whole_in : DSp := DL.sp_whole_in
def r_whole_in : DS := (dSeq (dAsg (dCall sp_halves X0 (dCons (dVar 0) dNil)) (gSeq 2 (gCons (gN 1) (gCons (gN 2) gNil)))) (dRet (dOp (fIntC CDivW fun i j => .int (i / j)) (dVar 1) (dVar 2))))
theorem sc_whole_in : FnScope ["number", "above", "under"] ["number"] (defScope st_whole_in) := ⟨rfl, rfl, rfl, by decide +kernel, rfl, by decide +kernel, by decide +kernel⟩
theorem v_whole_in (xs : List D) (G : Gm) (R : KD) (RX : XD) (h : sp_whole_in xs G R RX) : r_whole_in { nx := fun _ G => R .non G, rt := R } (xs.map some ++ List.replicate (3 - xs.length) none) G := by
  exact whole_in_ok xs G R RX h
theorem l_whole_in (xs : List D) (G : Gm) (R : KD) (RX : XD) (h : sp_whole_in xs G R RX) : xs.length = 1 := by
  obtain ⟨_, rfl, _⟩ := h
  rfl
set_option maxHeartbeats 4000000 in
theorem k_whole_in {P : Program} {w : World} {K : PySem.W.Frag} {mg : Str → Option Value} {base : Heap} (T : Tx mg) (F : Df K mg "whole_in" st_whole_in) (k_halves : Kn P w K mg base 2 "halves" st_halves ["number"] sp_halves) :
    Kn P w K mg base 3 "whole_in" st_whole_in ["number"] sp_whole_in :=
  kn_of F.g F.f sc_whole_in l_whole_in fun cdv hcv A outer s H E B RX hr hg kx => ⟨r_whole_in, (psd_cons (psd_asg (pd_call k_halves (hr.mono (by decide)) hg rfl pass0 kx0 (fun _ _ _ _ _ _ us hl => match us, hl with | [_], _ => rfl) (pda_cons (pd_var 0) pda_nil)) (pgd_seq rfl (pgsd_cons (pgd_name (i := 1) sc_whole_in.nd rfl (by first | exact Or.inl rfl | exact Or.inr rfl)) (pgsd_cons (pgd_name (i := 2) sc_whole_in.nd rfl (by first | exact Or.inl rfl | exact Or.inr rfl)) pgsd_nil)))) (psd_one (psd_ret (pd_fdiv (pd_var 1) (pd_var 2))))), fun xs G R h => v_whole_in xs G R RX h⟩
abbrev sp_is_number : DSp := DL.sp_is_number
def r_is_number : DS := (dSeq (dIfS (dNot (dTst (dCall sp_is_list X0 (dCons (dVar 0) dNil)))) (dRet (dCall sp_is_integer X0 (dCons (dVar 0) dNil))) dNext) (dSeq (dIfS (dOr (dTst (dOp fNe (dCal fLen (dCons (dVar 0) dNil)) (dC (.int 2)))) (dOr (dNot (dTst (dCall sp_is_integer X0 (dCons (dIx (dVar 0) (dC (.int 0))) dNil)))) (dNot (dTst (dCall sp_is_within X0 (dCons (dIx (dVar 0) (dC (.int 1))) (dCons (dC (.int 2)) (dCons (dC .non) dNil)))))))) (dRet (dC (.bl false))) dNext) (dRet (dOp fEq (dCall sp_common X0 (dCons (dIx (dVar 0) (dC (.int 0))) (dCons (dIx (dVar 0) (dC (.int 1))) dNil))) (dC (.int 1))))))
theorem sc_is_number : FnScope ["value"] ["value"] (defScope st_is_number) := ⟨rfl, rfl, rfl, by decide +kernel, rfl, by decide +kernel, by decide +kernel⟩
theorem v_is_number (xs : List D) (G : Gm) (R : KD) (RX : XD) (h : sp_is_number xs G R RX) : r_is_number { nx := fun _ G => R .non G, rt := R } (xs.map some ++ List.replicate (1 - xs.length) none) G := by
  exact is_number_ok xs G R RX h
theorem l_is_number (xs : List D) (G : Gm) (R : KD) (RX : XD) (h : sp_is_number xs G R RX) : xs.length = 1 := by
  obtain ⟨_, rfl, _⟩ := h
  rfl
set_option maxHeartbeats 4000000 in
theorem k_is_number {P : Program} {w : World} {K : PySem.W.Frag} {mg : Str → Option Value} {base : Heap} (T : Tx mg) (F : Df K mg "is_number" st_is_number) (k_is_integer : Kn P w K mg base 1 "is_integer" st_is_integer ["value"] sp_is_integer) (k_is_within : Kn P w K mg base 2 "is_within" st_is_within ["value", "least", "most"] sp_is_within) (k_is_list : Kn P w K mg base 1 "is_list" st_is_list ["value"] sp_is_list) (k_common : Kn P w K mg base 1 "common" st_common ["one", "other"] sp_common) :
    Kn P w K mg base 3 "is_number" st_is_number ["value"] sp_is_number :=
  kn_of F.g F.f sc_is_number l_is_number fun cdv hcv A outer s H E B RX hr hg kx => ⟨r_is_number, (psd_cons (psd_if (ptd_not (ptd_val (pd_call k_is_list (hr.mono (by decide)) hg rfl pass0 kx0 (fun _ _ _ _ _ _ us hl => match us, hl with | [_], _ => rfl) (pda_cons (pd_var 0) pda_nil)))) (psd_one (psd_ret (pd_call k_is_integer (hr.mono (by decide)) hg rfl pass0 kx0 (fun _ _ _ _ _ _ us hl => match us, hl with | [_], _ => rfl) (pda_cons (pd_var 0) pda_nil)))) psd_nil) (psd_cons (psd_if (PW.pt (pwd_or (ptd_cmp (op_ne2 hr.units) od_ne (pd_len rfl rfl T.f_len (pd_var 0)) pd_int (nomark _)) (pwd_or (ptd_not (ptd_val (pd_call k_is_integer (hr.mono (by decide)) hg rfl pass0 kx0 (fun _ _ _ _ _ _ us hl => match us, hl with | [_], _ => rfl) (pda_cons (pd_ix (pd_var 0) pd_int (fun _ _ => rfl)) pda_nil)))) (pwd_or1 (ptd_not (ptd_val (pd_call k_is_within (hr.mono (by decide)) hg rfl pass0 kx0 (fun _ _ _ _ _ _ us hl => match us, hl with | [_, _, _], _ => rfl) (pda_cons (pd_ix (pd_var 0) pd_int (fun _ _ => rfl)) (pda_cons (pd_gint rfl T.c_LEAST_UNDER) (pda_cons pd_non pda_nil)))))))))) (psd_one (psd_ret pd_bl)) psd_nil) (psd_one (psd_ret (pd_cmp (op_eq2 hr.units) od_eq (pd_call k_common (hr.mono (by decide)) hg rfl pass0 kx0 (fun _ _ _ _ _ _ us hl => match us, hl with | [_, _], _ => rfl) (pda_cons (pd_ix (pd_var 0) pd_int (fun _ _ => rfl)) (pda_cons (pd_ix (pd_var 0) pd_int (fun _ _ => rfl)) pda_nil))) pd_int (nomark _)))))), fun xs G R h => v_is_number xs G R RX h⟩
abbrev sp_kept_number : DSp := DL.sp_kept_number
def r_kept_number : DS := (dRet (dIf (dTst (dCall sp_is_list X0 (dCons (dVar 0) dNil))) (dCal fTupOf (dCons (dVar 0) dNil)) (dVar 0)))
theorem sc_kept_number : FnScope ["value"] ["value"] (defScope st_kept_number) := ⟨rfl, rfl, rfl, by decide +kernel, rfl, by decide +kernel, by decide +kernel⟩
theorem v_kept_number (xs : List D) (G : Gm) (R : KD) (RX : XD) (h : sp_kept_number xs G R RX) : r_kept_number { nx := fun _ G => R .non G, rt := R } (xs.map some ++ List.replicate (1 - xs.length) none) G := by
  exact kept_number_ok xs G R RX h
theorem l_kept_number (xs : List D) (G : Gm) (R : KD) (RX : XD) (h : sp_kept_number xs G R RX) : xs.length = 1 := by
  obtain ⟨_, rfl, _⟩ := h
  rfl
set_option maxHeartbeats 4000000 in
theorem k_kept_number {P : Program} {w : World} {K : PySem.W.Frag} {mg : Str → Option Value} {base : Heap} (T : Tx mg) (F : Df K mg "kept_number" st_kept_number) (k_is_list : Kn P w K mg base 1 "is_list" st_is_list ["value"] sp_is_list) :
    Kn P w K mg base 2 "kept_number" st_kept_number ["value"] sp_kept_number :=
  kn_of F.g F.f sc_kept_number l_kept_number fun cdv hcv A outer s H E B RX hr hg kx => ⟨r_kept_number, (psd_one (psd_ret (pd_if (ptd_val (pd_call k_is_list (hr.mono (by decide)) hg rfl pass0 kx0 (fun _ _ _ _ _ _ us hl => match us, hl with | [_], _ => rfl) (pda_cons (pd_var 0) pda_nil))) (pd_callTy call_tuple_of cd_tuple rfl T.f_tuple (by decide +kernel) (pda_cons (pd_var 0) pda_nil)) (pd_var 0)))), fun xs G R h => v_kept_number xs G R RX h⟩
abbrev sp_need_point : DSp := DL.sp_pointX
def r_need_point (RX : XD) : DS := (dSeq (dIfS (dOr (dNot (dTst (dCall sp_is_list X0 (dCons (dVar 0) dNil)))) (dOr (dTst (dOp fNe (dCal fLen (dCons (dVar 0) dNil)) (dVar 1))) (dNot (dTst (dCal fAll (dCons (dCmp (dISeq (dVar 0)) (gN 3) dYes (dCall sp_is_number X0 (dCons (dVar 3) dNil)) [3]) dNil)))))) (dRaise "BadPoint" ["part"] [true] RX (dCons (dVar 2) dNil)) dNext) (dRet (dCal fTupOf (dCons (dCmp (dISeq (dVar 0)) (gN 3) dYes (dCall sp_kept_number X0 (dCons (dVar 3) dNil)) [3]) dNil))))
theorem sc_need_point : FnScope ["value", "wide", "part", "each"] ["value", "wide", "part"] (defScope st_need_point) := ⟨rfl, rfl, rfl, by decide +kernel, rfl, by decide +kernel, by decide +kernel⟩
theorem v_need_point (xs : List D) (G : Gm) (R : KD) (RX : XD) (h : sp_need_point xs G R RX) : r_need_point RX { nx := fun _ G => R .non G, rt := R } (xs.map some ++ List.replicate (4 - xs.length) none) G := by
  exact pointX_ok xs G R RX h
theorem l_need_point (xs : List D) (G : Gm) (R : KD) (RX : XD) (h : sp_need_point xs G R RX) : xs.length = 3 := by
  obtain ⟨_, _, _, rfl, _⟩ := h
  rfl
set_option maxHeartbeats 4000000 in
theorem k_need_point {P : Program} {w : World} {K : PySem.W.Frag} {mg : Str → Option Value} {base : Heap} (T : Tx mg) (F : DfD K mg "need_point" st_need_point [V.str "point"]) (x_BadPoint : KnX P w K mg base "BadPoint" ["self", "part"] ["part"] [true]) (k_is_list : Kn P w K mg base 1 "is_list" st_is_list ["value"] sp_is_list) (k_is_number : Kn P w K mg base 3 "is_number" st_is_number ["value"] sp_is_number) (k_kept_number : Kn P w K mg base 2 "kept_number" st_kept_number ["value"] sp_kept_number) :
    KnD P w K mg base 4 "need_point" st_need_point ["value", "wide", "part"] [V.str "point"] sp_need_point :=
  knd_of F.g F.f sc_need_point l_need_point fun cdv hcv A outer s H E B RX hr hg kx => ⟨r_need_point RX, (psd_cons (psd_if (PW.pt (pwd_or (ptd_not (ptd_val (pd_call k_is_list (hr.mono (by decide)) hg rfl pass0 kx0 (fun _ _ _ _ _ _ us hl => match us, hl with | [_], _ => rfl) (pda_cons (pd_var 0) pda_nil)))) (pwd_or (ptd_cmp (op_ne2 hr.units) od_ne (pd_len rfl rfl T.f_len (pd_var 0)) (pd_var 1) (nomark _)) (pwd_or1 (ptd_not (ptd_val (pd_callB (cr_all rfl) cd_all rfl T.f_all (by decide +kernel) (pda_cons (pd_lc (own := [("each", 3)]) rfl sc_need_point.nd (pid_seq (pd_var 0)) (blkOk_by (N := ["value", "wide", "part", "each"]) (sc := defScope st_need_point) (by decide +kernel)) (by decide) (fun _ _ _ _ _ _ => (pgd_name (i := 3) sc_need_point.nd rfl (by first | exact Or.inl rfl | exact Or.inr rfl))) (fun _ _ _ _ _ _ => ptsd_nil) (fun _ _ _ _ _ _ => (pd_call k_is_number (hr.mono (by decide)) hg rfl pass0 kx0 (fun _ _ _ _ _ _ us hl => match us, hl with | [_], _ => rfl) (pda_cons (pd_var 3) pda_nil)))) pda_nil)))))))) (psd_one (psd_raise x_BadPoint (by decide) rfl (hr.mono (by decide)) rfl (takes_of rfl rfl rfl rfl) (fun _ e => kx.mono e) pass0 (pda_cons (pd_var 2) pda_nil))) psd_nil) (psd_one (psd_ret (pd_callTy call_tuple_of cd_tuple rfl T.f_tuple (by decide +kernel) (pda_cons (pd_lc (own := [("each", 3)]) rfl sc_need_point.nd (pid_seq (pd_var 0)) (blkOk_by (N := ["value", "wide", "part", "each"]) (sc := defScope st_need_point) (by decide +kernel)) (by decide) (fun _ _ _ _ _ _ => (pgd_name (i := 3) sc_need_point.nd rfl (by first | exact Or.inl rfl | exact Or.inr rfl))) (fun _ _ _ _ _ _ => ptsd_nil) (fun _ _ _ _ _ _ => (pd_call k_kept_number (hr.mono (by decide)) hg rfl pass0 kx0 (fun _ _ _ _ _ _ us hl => match us, hl with | [_], _ => rfl) (pda_cons (pd_var 3) pda_nil)))) pda_nil))))), fun xs G R h => v_need_point xs G R RX h⟩
abbrev sp_is_line : DSp := DL.sp_is_line
def r_is_line : DS := (dSeq (dIfS (dOr (dNot (dTst (dCall sp_is_list X0 (dCons (dVar 0) dNil)))) (dOr (dTst (dOp fEq (dCal fLen (dCons (dVar 0) dNil)) (dC (.int 0)))) (dNot (dTst (dCal (fIsi "str") (dCons (dIx (dVar 0) (dC (.int 0))) (dCons (dC (.ty "str")) dNil))))))) (dRet (dC (.bl false))) dNext) (dSeq (dIfS (dTst (dOp fEq (dIx (dVar 0) (dC (.int 0))) (dC (.str "stop")))) (dRet (dOp fEq (dCal fLen (dCons (dVar 0) dNil)) (dC (.int 1)))) dNext) (dSeq (dIfS (dOr (dTst (dInK kv_ENDS true (dIx (dVar 0) (dC (.int 0))))) (dOr (dTst (dOp fNe (dCal fLen (dCons (dVar 0) dNil)) (dOp fAdd (dIxK kv_ENDS (dIx (dVar 0) (dC (.int 0)))) (dC (.int 2))))) (dNot (dTst (dCall sp_is_within X0 (dCons (dIx (dVar 0) (dC (.int 1))) (dCons (dC (.int 0)) (dCons (dC (.int 1)) dNil)))))))) (dRet (dC (.bl false))) dNext) (dRet (dCal fAll (dCons (dCmp (dISeq (dSl (dVar 0) (dPart (dC (.int 2))) dNoP)) (gN 2) dYes (dCall sp_is_within X0 (dCons (dVar 2) (dCons (dC (.int 0)) (dCons (dOp (fInt fun i j => .int (i - j)) (dVar 1) (dC (.int 1))) dNil)))) [2]) dNil))))))
theorem sc_is_line : FnScope ["value", "many", "each"] ["value", "many"] (defScope st_is_line) := ⟨rfl, rfl, rfl, by decide +kernel, rfl, by decide +kernel, by decide +kernel⟩
theorem v_is_line (xs : List D) (G : Gm) (R : KD) (RX : XD) (h : sp_is_line xs G R RX) : r_is_line { nx := fun _ G => R .non G, rt := R } (xs.map some ++ List.replicate (3 - xs.length) none) G := by
  exact is_line_ok xs G R RX h
theorem l_is_line (xs : List D) (G : Gm) (R : KD) (RX : XD) (h : sp_is_line xs G R RX) : xs.length = 2 := by
  obtain ⟨_, _, _, rfl, _⟩ := h
  rfl
set_option maxHeartbeats 4000000 in
theorem k_is_line {P : Program} {w : World} {K : PySem.W.Frag} {mg : Str → Option Value} {base : Heap} (T : Tx mg) (F : Df K mg "is_line" st_is_line) (dk_ENDS : DctK K w mg "ENDS" kv_ENDS) (k_is_within : Kn P w K mg base 2 "is_within" st_is_within ["value", "least", "most"] sp_is_within) (k_is_list : Kn P w K mg base 1 "is_list" st_is_list ["value"] sp_is_list) :
    Kn P w K mg base 3 "is_line" st_is_line ["value", "many"] sp_is_line :=
  kn_of F.g F.f sc_is_line l_is_line fun cdv hcv A outer s H E B RX hr hg kx => ⟨r_is_line, (psd_cons (psd_if (PW.pt (pwd_or (ptd_not (ptd_val (pd_call k_is_list (hr.mono (by decide)) hg rfl pass0 kx0 (fun _ _ _ _ _ _ us hl => match us, hl with | [_], _ => rfl) (pda_cons (pd_var 0) pda_nil)))) (pwd_or (ptd_cmp (op_eq2 hr.units) od_eq (pd_len rfl rfl T.f_len (pd_var 0)) pd_int (nomark _)) (pwd_or1 (ptd_not (ptd_val (pd_isi rfl (by decide) rfl T.f_isinstance (pd_ix (pd_var 0) pd_int (fun _ _ => rfl)) (pd_bty rfl T.f_str (by decide +kernel))))))))) (psd_one (psd_ret pd_bl)) psd_nil) (psd_cons (psd_if (ptd_cmp (op_eq2 hr.units) od_eq (pd_ix (pd_var 0) pd_int (fun _ _ => rfl)) (pd_gstr rfl T.c_STOP) (nomark _)) (psd_one (psd_ret (pd_cmp (op_eq2 hr.units) od_eq (pd_len rfl rfl T.f_len (pd_var 0)) pd_int (nomark _)))) psd_nil) (psd_cons (psd_if (PW.pt (pwd_or (ptd_notInK dk_ENDS rfl (pd_ix (pd_var 0) pd_int (fun _ _ => rfl))) (pwd_or (ptd_cmp (op_ne2 hr.units) od_ne (pd_len rfl rfl T.f_len (pd_var 0)) (pd_add (pd_ixK dk_ENDS rfl (pd_ix (pd_var 0) pd_int (fun _ _ => rfl)) (fun _ _ => rfl)) pd_int) (nomark _)) (pwd_or1 (ptd_not (ptd_val (pd_call k_is_within (hr.mono (by decide)) hg rfl pass0 kx0 (fun _ _ _ _ _ _ us hl => match us, hl with | [_, _, _], _ => rfl) (pda_cons (pd_ix (pd_var 0) pd_int (fun _ _ => rfl)) (pda_cons pd_int (pda_cons (pd_gint rfl T.c_LAST_BOX) pda_nil)))))))))) (psd_one (psd_ret pd_bl)) psd_nil) (psd_one (psd_ret (pd_callB (cr_all rfl) cd_all rfl T.f_all (by decide +kernel) (pda_cons (pd_lc (own := [("each", 2)]) rfl sc_is_line.nd (pid_seq (pd_slice (pd_var 0) (pod_some pd_int) pod_none)) (blkOk_by (N := ["value", "many", "each"]) (sc := defScope st_is_line) (by decide +kernel)) (by decide) (fun _ _ _ _ _ _ => (pgd_name (i := 2) sc_is_line.nd rfl (by first | exact Or.inl rfl | exact Or.inr rfl))) (fun _ _ _ _ _ _ => ptsd_nil) (fun _ _ _ _ _ _ => (pd_call k_is_within (hr.mono (by decide)) hg rfl pass0 kx0 (fun _ _ _ _ _ _ us hl => match us, hl with | [_, _, _], _ => rfl) (pda_cons (pd_var 2) (pda_cons pd_int (pda_cons (pd_sub (pd_var 1) pd_int) pda_nil)))))) pda_nil))))))), fun xs G R h => v_is_line xs G R RX h⟩
abbrev sp_Program___init__ : DSp := sp_prog
def r_Program___init__ : DS := (dSeq (dIfS (dOr (dNot (dTst (dCall sp_is_list X0 (dCons (dVar 1) dNil)))) (dNot (dTst (dChain (fInt gLe) (fInt gLe) (dC (.int 1)) (dCal fLen (dCons (dVar 1) dNil)) (dC (.int 15)))))) dNever dNext) (dSeq (dIfS (dNot (dTst (dCal fAll (dCons (dCmp (dISeq (dVar 1)) (gN 2) dYes (dCall sp_is_line X0 (dCons (dVar 2) (dCons (dCal fLen (dCons (dVar 1) dNil)) dNil))) [2]) dNil)))) dNever dNext) (dSetF cls "lines" (dCal fTupOf (dCons (dCmp (dISeq (dVar 1)) (gN 2) dYes (dCal fTupOf (dCons (dVar 2) dNil)) [2]) dNil)) (dVar 0))))
theorem sc_Program___init__ : FnScope ["self", "lines", "line"] ["self", "lines"] (defScope st_Program___init__) := ⟨rfl, rfl, rfl, by decide +kernel, rfl, by decide +kernel, by decide +kernel⟩
theorem v_Program___init__ (xs : List D) (G : Gm) (R : KD) (RX : XD) (h : sp_Program___init__ xs G R RX) : r_Program___init__ { nx := fun _ G => R .non G, rt := R } (xs.map some ++ List.replicate (3 - xs.length) none) G := by
  exact prog_ok (cl := cls) (by decide +kernel) xs G R RX h
theorem l_Program___init__ (xs : List D) (G : Gm) (R : KD) (RX : XD) (h : sp_Program___init__ xs G R RX) : xs.length = 2 := by
  obtain ⟨_, _, _, rfl, _⟩ := h
  rfl
set_option maxHeartbeats 4000000 in
theorem k_Program___init__ {P : Program} {w : World} {K : PySem.W.Frag} {mg : Str → Option Value} {base : Heap} (T : Tx mg) (F : DfM K "Program" "__init__" st_Program___init__) (W : OwC K mg cls subC) (k_is_list : Kn P w K mg base 1 "is_list" st_is_list ["value"] sp_is_list) (k_is_line : Kn P w K mg base 3 "is_line" st_is_line ["value", "many"] sp_is_line) :
    KnM P w K mg base 4 "Program" "__init__" st_Program___init__ ["self", "lines"] sp_Program___init__ :=
  knm_of F.f sc_Program___init__ l_Program___init__ fun cdv hcv A outer s H E B RX hr hg kx => ⟨r_Program___init__, (psd_cons (psd_if (PW.pt (pwd_or (ptd_not (ptd_val (pd_call k_is_list (hr.mono (by decide)) hg rfl pass0 kx0 (fun _ _ _ _ _ _ us hl => match us, hl with | [_], _ => rfl) (pda_cons (pd_var 1) pda_nil)))) (pwd_or1 (ptd_not (ptd_chain op_le op_le od_bl od_bl pd_int (pd_len rfl rfl T.f_len (pd_var 1)) (pd_gint rfl T.c_MOST_LINES)))))) (psd_one psd_never) psd_nil) (psd_cons (psd_if (ptd_not (ptd_val (pd_callB (cr_all rfl) cd_all rfl T.f_all (by decide +kernel) (pda_cons (pd_lc (own := [("line", 2)]) rfl sc_Program___init__.nd (pid_seq (pd_var 1)) (blkOk_by (N := ["self", "lines", "line"]) (sc := defScope st_Program___init__) (by decide +kernel)) (by decide) (fun _ _ _ _ _ _ => (pgd_name (i := 2) sc_Program___init__.nd rfl (by first | exact Or.inl rfl | exact Or.inr rfl))) (fun _ _ _ _ _ _ => ptsd_nil) (fun _ _ _ _ _ _ => (pd_call k_is_line (hr.mono (by decide)) hg rfl pass0 kx0 (fun _ _ _ _ _ _ us hl => match us, hl with | [_, _], _ => rfl) (pda_cons (pd_var 2) (pda_cons (pd_len rfl rfl T.f_len (pd_var 1)) pda_nil))))) pda_nil)))) (psd_one psd_never) psd_nil) (psd_one (psd_setF W (pd_var 0) (pd_callTy call_tuple_of cd_tuple rfl T.f_tuple (by decide +kernel) (pda_cons (pd_lc (own := [("line", 2)]) rfl sc_Program___init__.nd (pid_seq (pd_var 1)) (blkOk_by (N := ["self", "lines", "line"]) (sc := defScope st_Program___init__) (by decide +kernel)) (by decide) (fun _ _ _ _ _ _ => (pgd_name (i := 2) sc_Program___init__.nd rfl (by first | exact Or.inl rfl | exact Or.inr rfl))) (fun _ _ _ _ _ _ => ptsd_nil) (fun _ _ _ _ _ _ => (pd_callTy call_tuple_of cd_tuple rfl T.f_tuple (by decide +kernel) (pda_cons (pd_var 2) pda_nil)))) pda_nil)))))), fun xs G R h => v_Program___init__ xs G R RX h⟩
abbrev sp_need_program : DSp := sp_needProgX cls subC
def r_need_program (RX : XD) : DS := (dIfS (dNot (dTst (dIsW cls subC "Program" (dVar 0)))) (dRaise "BadProgram" ["part"] [true] RX (dCons (dVar 1) dNil)) dNext)
theorem sc_need_program : FnScope ["value", "part"] ["value", "part"] (defScope st_need_program) := ⟨rfl, rfl, rfl, by decide +kernel, rfl, by decide +kernel, by decide +kernel⟩
theorem v_need_program (xs : List D) (G : Gm) (R : KD) (RX : XD) (h : sp_need_program xs G R RX) : r_need_program RX { nx := fun _ G => R .non G, rt := R } (xs.map some ++ List.replicate (2 - xs.length) none) G := by
  exact needProgX_ok xs G R RX h
theorem l_need_program (xs : List D) (G : Gm) (R : KD) (RX : XD) (h : sp_need_program xs G R RX) : xs.length = 2 := by
  obtain ⟨_, _, _, rfl, _⟩ := h
  rfl
set_option maxHeartbeats 4000000 in
theorem k_need_program {P : Program} {w : World} {K : PySem.W.Frag} {mg : Str → Option Value} {base : Heap} (T : Tx mg) (F : DfD K mg "need_program" st_need_program [V.str "program"]) (W : OwC K mg cls subC) (x_BadProgram : KnX P w K mg base "BadProgram" ["self", "part"] ["part"] [true]) :
    KnD P w K mg base 3 "need_program" st_need_program ["value", "part"] [V.str "program"] sp_need_program :=
  knd_of F.g F.f sc_need_program l_need_program fun cdv hcv A outer s H E B RX hr hg kx => ⟨r_need_program RX, (psd_one (psd_if (ptd_not (ptd_val (pd_isW W rfl rfl rfl T.f_isinstance rfl (pd_var 0)))) (psd_one (psd_raise x_BadProgram (by decide) rfl (hr.mono (by decide)) rfl (takes_of rfl rfl rfl rfl) (fun _ e => kx.mono e) pass0 (pda_cons (pd_var 1) pda_nil))) psd_nil)), fun xs G R h => v_need_program xs G R RX h⟩
abbrev sp_is_contents : DSp := sp_isContX
def r_is_contents : DS := (dRet (dOrV (dIsN (dVar 0)) (dCall sp_is_within X0 (dCons (dVar 0) (dCons (dC (.int 0)) (dCons (dC .non) dNil))))))
theorem sc_is_contents : FnScope ["value"] ["value"] (defScope st_is_contents) := ⟨rfl, rfl, rfl, by decide +kernel, rfl, by decide +kernel, by decide +kernel⟩
theorem v_is_contents (xs : List D) (G : Gm) (R : KD) (RX : XD) (h : sp_is_contents xs G R RX) : r_is_contents { nx := fun _ G => R .non G, rt := R } (xs.map some ++ List.replicate (1 - xs.length) none) G := by
  exact isContX_ok xs G R RX h
theorem l_is_contents (xs : List D) (G : Gm) (R : KD) (RX : XD) (h : sp_is_contents xs G R RX) : xs.length = 1 := by
  obtain ⟨_, rfl, _⟩ := h
  rfl
set_option maxHeartbeats 4000000 in
theorem k_is_contents {P : Program} {w : World} {K : PySem.W.Frag} {mg : Str → Option Value} {base : Heap} (T : Tx mg) (F : Df K mg "is_contents" st_is_contents) (k_is_within : Kn P w K mg base 2 "is_within" st_is_within ["value", "least", "most"] sp_is_within) :
    Kn P w K mg base 3 "is_contents" st_is_contents ["value"] sp_is_contents :=
  kn_of F.g F.f sc_is_contents l_is_contents fun cdv hcv A outer s H E B RX hr hg kx => ⟨r_is_contents, (psd_one (psd_ret (pd_or (pd_isN (pd_var 0)) (pd_one (pd_call k_is_within (hr.mono (by decide)) hg rfl pass0 kx0 (fun _ _ _ _ _ _ us hl => match us, hl with | [_, _, _], _ => rfl) (pda_cons (pd_var 0) (pda_cons pd_int (pda_cons pd_non pda_nil)))))))), fun xs G R h => v_is_contents xs G R RX h⟩
abbrev sp_need_stand : DSp := sp_needStdX
def r_need_stand (RX : XD) : DS := (dSeq (dIfS (dOr (dNot (dTst (dCall sp_is_list X0 (dCons (dVar 1) dNil)))) (dOr (dTst (dOp fNe (dCal fLen (dCons (dVar 1) dNil)) (dC (.int 3)))) (dNot (dTst (dCall sp_is_within X0 (dCons (dIx (dVar 1) (dC (.int 0))) (dCons (dC (.int 0)) (dCons (dOp (fInt fun i j => .int (i - j)) (dCal fLen (dCons (dFld cls "lines" (dVar 0)) dNil)) (dC (.int 1))) dNil)))))))) (dRaise "BadStand" ["part"] [true] RX (dCons (dC (.str "stand")) dNil)) dNext) (dSeq (dIfS (dOr (dNot (dTst (dCall sp_is_contents X0 (dCons (dIx (dVar 1) (dC (.int 1))) dNil)))) (dNot (dTst (dCall sp_is_contents X0 (dCons (dIx (dVar 1) (dC (.int 2))) dNil))))) (dRaise "BadStand" ["part"] [true] RX (dCons (dC (.str "stand")) dNil)) dNext) (dRet (dCal fTupOf (dCons (dVar 1) dNil)))))
theorem sc_need_stand : FnScope ["program", "value"] ["program", "value"] (defScope st_need_stand) := ⟨rfl, rfl, rfl, by decide +kernel, rfl, by decide +kernel, by decide +kernel⟩
theorem v_need_stand (xs : List D) (G : Gm) (R : KD) (RX : XD) (h : sp_need_stand xs G R RX) : r_need_stand RX { nx := fun _ G => R .non G, rt := R } (xs.map some ++ List.replicate (2 - xs.length) none) G := by
  exact needStdX_ok (cl := cls) (by decide +kernel) xs G R RX h
theorem l_need_stand (xs : List D) (G : Gm) (R : KD) (RX : XD) (h : sp_need_stand xs G R RX) : xs.length = 2 := by
  obtain ⟨_, _, rfl, _⟩ := h
  rfl
set_option maxHeartbeats 4000000 in
theorem k_need_stand {P : Program} {w : World} {K : PySem.W.Frag} {mg : Str → Option Value} {base : Heap} (T : Tx mg) (F : Df K mg "need_stand" st_need_stand) (W : OwC K mg cls subC) (x_BadStand : KnX P w K mg base "BadStand" ["self", "part"] ["part"] [true]) (k_is_within : Kn P w K mg base 2 "is_within" st_is_within ["value", "least", "most"] sp_is_within) (k_is_list : Kn P w K mg base 1 "is_list" st_is_list ["value"] sp_is_list) (k_is_contents : Kn P w K mg base 3 "is_contents" st_is_contents ["value"] sp_is_contents) :
    Kn P w K mg base 4 "need_stand" st_need_stand ["program", "value"] sp_need_stand :=
  kn_of F.g F.f sc_need_stand l_need_stand fun cdv hcv A outer s H E B RX hr hg kx => ⟨r_need_stand RX, (psd_cons (psd_if (PW.pt (pwd_or (ptd_not (ptd_val (pd_call k_is_list (hr.mono (by decide)) hg rfl pass0 kx0 (fun _ _ _ _ _ _ us hl => match us, hl with | [_], _ => rfl) (pda_cons (pd_var 1) pda_nil)))) (pwd_or (ptd_cmp (op_ne2 hr.units) od_ne (pd_len rfl rfl T.f_len (pd_var 1)) pd_int (nomark _)) (pwd_or1 (ptd_not (ptd_val (pd_call k_is_within (hr.mono (by decide)) hg rfl pass0 kx0 (fun _ _ _ _ _ _ us hl => match us, hl with | [_, _, _], _ => rfl) (pda_cons (pd_ix (pd_var 1) pd_int (fun _ _ => rfl)) (pda_cons pd_int (pda_cons (pd_sub (pd_len rfl rfl T.f_len (pd_fld W (pd_var 0))) pd_int) pda_nil)))))))))) (psd_one (psd_raise x_BadStand (by decide) rfl (hr.mono (by decide)) rfl (takes_of rfl rfl rfl rfl) (fun _ e => kx.mono e) pass0 (pda_cons pd_str pda_nil))) psd_nil) (psd_cons (psd_if (PW.pt (pwd_or (ptd_not (ptd_val (pd_call k_is_contents (hr.mono (by decide)) hg rfl pass0 kx0 (fun _ _ _ _ _ _ us hl => match us, hl with | [_], _ => rfl) (pda_cons (pd_ix (pd_var 1) pd_int (fun _ _ => rfl)) pda_nil)))) (pwd_or1 (ptd_not (ptd_val (pd_call k_is_contents (hr.mono (by decide)) hg rfl pass0 kx0 (fun _ _ _ _ _ _ us hl => match us, hl with | [_], _ => rfl) (pda_cons (pd_ix (pd_var 1) pd_int (fun _ _ => rfl)) pda_nil))))))) (psd_one (psd_raise x_BadStand (by decide) rfl (hr.mono (by decide)) rfl (takes_of rfl rfl rfl rfl) (fun _ e => kx.mono e) pass0 (pda_cons pd_str pda_nil))) psd_nil) (psd_one (psd_ret (pd_callTy call_tuple_of cd_tuple rfl T.f_tuple (by decide +kernel) (pda_cons (pd_var 1) pda_nil)))))), fun xs G R h => v_need_stand xs G R RX h⟩
abbrev sp_height_in : DSp := DL.sp_height
def r_height_in : DS := (dSeq (dIfS (dTst (dIsN (dVar 0))) (dRet (dC (.int 0))) dNext) (dSeq (dIfS (dTst (dOp fEq (dVar 0) (dC (.int 0)))) (dRet (dC (.int 3))) dNext) (dSeq (dSet 1 (dC (.int 1))) (dSeq (dFor (dIRng1 (dOp (fInt fun i j => .int (i - j)) (dVar 0) (dC (.int 1)))) (gN 2) (dSet 1 (dOp (fIntC IntMulOk fun i j => .int (i * j)) (dVar 1) (dC (.int 3))))) (dRet (dCall sp_lowest_in X0 (dCons (dC (.int 1)) (dCons (dVar 1) dNil))))))))
theorem sc_height_in : FnScope ["contents", "under", "_"] ["contents"] (defScope st_height_in) := ⟨rfl, rfl, rfl, by decide +kernel, rfl, by decide +kernel, by decide +kernel⟩
theorem v_height_in (xs : List D) (G : Gm) (R : KD) (RX : XD) (h : sp_height_in xs G R RX) : r_height_in { nx := fun _ G => R .non G, rt := R } (xs.map some ++ List.replicate (3 - xs.length) none) G := by
  exact height_ok xs G R RX h
theorem l_height_in (xs : List D) (G : Gm) (R : KD) (RX : XD) (h : sp_height_in xs G R RX) : xs.length = 1 := by
  obtain ⟨_, rfl, _⟩ := h
  rfl
set_option maxHeartbeats 4000000 in
theorem k_height_in {P : Program} {w : World} {K : PySem.W.Frag} {mg : Str → Option Value} {base : Heap} (T : Tx mg) (F : Df K mg "height_in" st_height_in) (k_lowest_in : Kn P w K mg base 2 "lowest_in" st_lowest_in ["above", "under"] sp_lowest_in) :
    Kn P w K mg base 3 "height_in" st_height_in ["contents"] sp_height_in :=
  kn_of F.g F.f sc_height_in l_height_in fun cdv hcv A outer s H E B RX hr hg kx => ⟨r_height_in, (psd_cons (psd_if (ptd_isN (pd_var 0)) (psd_one (psd_ret pd_int)) psd_nil) (psd_cons (psd_if (ptd_cmp (op_eq2 hr.units) od_eq (pd_var 0) pd_int (nomark _)) (psd_one (psd_ret (pd_gint rfl T.c_BASE))) psd_nil) (psd_cons (psd_set (i := 1) sc_height_in.nd rfl (by first | exact Or.inl rfl | exact Or.inr rfl) pd_int) (psd_cons (psd_for (passes_of rfl) rfl (pid_rng1 rfl T.f_range (pd_sub (pd_var 0) pd_int)) (pgd_name (i := 2) sc_height_in.nd rfl (by first | exact Or.inl rfl | exact Or.inr rfl)) (psd_one (psd_set (i := 1) sc_height_in.nd rfl (by first | exact Or.inl rfl | exact Or.inr rfl) (pd_mul (pd_var 1) (pd_gint rfl T.c_BASE))))) (psd_one (psd_ret (pd_call k_lowest_in (hr.mono (by decide)) hg rfl pass0 kx0 (fun _ _ _ _ _ _ us hl => match us, hl with | [_, _], _ => rfl) (pda_cons pd_int (pda_cons (pd_var 1) pda_nil))))))))), fun xs G R h => v_height_in xs G R RX h⟩
abbrev sp_point_in : DSp := DL.sp_ptOf
def r_point_in : DS := (dRet (dTup (dCons (dCall sp_plus_in X0 (dCons (dOp (fIntC IntMulOk fun i j => .int (i * j)) (dC (.int 4)) (dIx (dVar 0) (dC (.int 0)))) (dCons (dCall sp_height_in X0 (dCons (dIx (dVar 0) (dC (.int 1))) dNil)) dNil))) (dCons (dCall sp_height_in X0 (dCons (dIx (dVar 0) (dC (.int 2))) dNil)) dNil))))
theorem sc_point_in : FnScope ["stand"] ["stand"] (defScope st_point_in) := ⟨rfl, rfl, rfl, by decide +kernel, rfl, by decide +kernel, by decide +kernel⟩
theorem v_point_in (xs : List D) (G : Gm) (R : KD) (RX : XD) (h : sp_point_in xs G R RX) : r_point_in { nx := fun _ G => R .non G, rt := R } (xs.map some ++ List.replicate (1 - xs.length) none) G := by
  exact pointIn_ok xs G R RX h
theorem l_point_in (xs : List D) (G : Gm) (R : KD) (RX : XD) (h : sp_point_in xs G R RX) : xs.length = 1 := by
  obtain ⟨_, rfl, _⟩ := h
  rfl
set_option maxHeartbeats 4000000 in
theorem k_point_in {P : Program} {w : World} {K : PySem.W.Frag} {mg : Str → Option Value} {base : Heap} (T : Tx mg) (F : Df K mg "point_in" st_point_in) (k_plus_in : Kn P w K mg base 3 "plus_in" st_plus_in ["one", "other"] sp_plus_in) (k_height_in : Kn P w K mg base 3 "height_in" st_height_in ["contents"] sp_height_in) :
    Kn P w K mg base 4 "point_in" st_point_in ["stand"] sp_point_in :=
  kn_of F.g F.f sc_point_in l_point_in fun cdv hcv A outer s H E B RX hr hg kx => ⟨r_point_in, (psd_one (psd_ret (pd_tup (pda_cons (pd_call k_plus_in (hr.mono (by decide)) hg rfl pass0 kx0 (fun _ _ _ _ _ _ us hl => match us, hl with | [_, _], _ => rfl) (pda_cons (pd_mul (pd_gint rfl T.c_SPAN) (pd_ix (pd_var 0) pd_int (fun _ _ => rfl))) (pda_cons (pd_call k_height_in (hr.mono (by decide)) hg rfl pass0 kx0 (fun _ _ _ _ _ _ us hl => match us, hl with | [_], _ => rfl) (pda_cons (pd_ix (pd_var 0) pd_int (fun _ _ => rfl)) pda_nil)) pda_nil))) (pda_cons (pd_call k_height_in (hr.mono (by decide)) hg rfl pass0 kx0 (fun _ _ _ _ _ _ us hl => match us, hl with | [_], _ => rfl) (pda_cons (pd_ix (pd_var 0) pd_int (fun _ _ => rfl)) pda_nil)) pda_nil))))), fun xs G R h => v_point_in xs G R RX h⟩
abbrev sp_parted : DSp := DL.sp_parted
def r_parted : DS := (dSeq (dSet 1 (dOp (fIntC CDivW fun i j => .int (i / j)) (dCall sp_whole_in X0 (dCons (dIx (dVar 0) (dC (.int 0))) dNil)) (dC (.int 4)))) (dRet (dTup (dCons (dVar 1) (dCons (dCall sp_minus_in X0 (dCons (dIx (dVar 0) (dC (.int 0))) (dCons (dOp (fIntC IntMulOk fun i j => .int (i * j)) (dC (.int 4)) (dVar 1)) dNil))) (dCons (dIx (dVar 0) (dC (.int 1))) dNil))))))
theorem sc_parted : FnScope ["point", "line"] ["point"] (defScope st_parted) := ⟨rfl, rfl, rfl, by decide +kernel, rfl, by decide +kernel, by decide +kernel⟩
theorem v_parted (xs : List D) (G : Gm) (R : KD) (RX : XD) (h : sp_parted xs G R RX) : r_parted { nx := fun _ G => R .non G, rt := R } (xs.map some ++ List.replicate (2 - xs.length) none) G := by
  exact parted_ok xs G R RX h
theorem l_parted (xs : List D) (G : Gm) (R : KD) (RX : XD) (h : sp_parted xs G R RX) : xs.length = 1 := by
  obtain ⟨_, _, rfl, _⟩ := h
  rfl
set_option maxHeartbeats 4000000 in
theorem k_parted {P : Program} {w : World} {K : PySem.W.Frag} {mg : Str → Option Value} {base : Heap} (T : Tx mg) (F : Df K mg "parted" st_parted) (k_minus_in : Kn P w K mg base 4 "minus_in" st_minus_in ["one", "other"] sp_minus_in) (k_whole_in : Kn P w K mg base 3 "whole_in" st_whole_in ["number"] sp_whole_in) :
    Kn P w K mg base 5 "parted" st_parted ["point"] sp_parted :=
  kn_of F.g F.f sc_parted l_parted fun cdv hcv A outer s H E B RX hr hg kx => ⟨r_parted, (psd_cons (psd_set (i := 1) sc_parted.nd rfl (by first | exact Or.inl rfl | exact Or.inr rfl) (pd_fdiv (pd_call k_whole_in (hr.mono (by decide)) hg rfl pass0 kx0 (fun _ _ _ _ _ _ us hl => match us, hl with | [_], _ => rfl) (pda_cons (pd_ix (pd_var 0) pd_int (fun _ _ => rfl)) pda_nil)) (pd_gint rfl T.c_SPAN))) (psd_one (psd_ret (pd_tup (pda_cons (pd_var 1) (pda_cons (pd_call k_minus_in (hr.mono (by decide)) hg rfl pass0 kx0 (fun _ _ _ _ _ _ us hl => match us, hl with | [_, _], _ => rfl) (pda_cons (pd_ix (pd_var 0) pd_int (fun _ _ => rfl)) (pda_cons (pd_mul (pd_gint rfl T.c_SPAN) (pd_var 1)) pda_nil))) (pda_cons (pd_ix (pd_var 0) pd_int (fun _ _ => rfl)) pda_nil))))))), fun xs G R h => v_parted xs G R RX h⟩
abbrev sp_like_contents : DSp := DL.sp_like
def r_like_contents : DS := (dSeq (dIfS (dTst (dOp fEq (dVar 0) (dC (.int 0)))) (dRet (dC .non)) dNext) (dSeq (dAsg (dTup (dCons (dC (.int 0)) (dCons (dC (.int 1)) dNil))) (gSeq 2 (gCons (gN 1) (gCons (gN 2) gNil)))) (dSeq (dWhile (dTst (dCall sp_below_in X0 (dCons (dVar 0) (dCons (dCall sp_lowest_in X0 (dCons (dC (.int 2)) (dCons (dVar 2) dNil))) dNil)))) (dPar 1 2 (dCons (dOp fAdd (dVar 1) (dC (.int 1))) (dCons (dOp (fIntC IntMulOk fun i j => .int (i * j)) (dVar 2) (dC (.int 3))) dNil)))) (dRet (dVar 1)))))
theorem sc_like_contents : FnScope ["height", "found", "under"] ["height"] (defScope st_like_contents) := ⟨rfl, rfl, rfl, by decide +kernel, rfl, by decide +kernel, by decide +kernel⟩
theorem v_like_contents (xs : List D) (G : Gm) (R : KD) (RX : XD) (h : sp_like_contents xs G R RX) : r_like_contents { nx := fun _ G => R .non G, rt := R } (xs.map some ++ List.replicate (3 - xs.length) none) G := by
  exact like_ok xs G R RX h
theorem l_like_contents (xs : List D) (G : Gm) (R : KD) (RX : XD) (h : sp_like_contents xs G R RX) : xs.length = 1 := by
  obtain ⟨_, rfl, _⟩ := h
  rfl
set_option maxHeartbeats 4000000 in
theorem k_like_contents {P : Program} {w : World} {K : PySem.W.Frag} {mg : Str → Option Value} {base : Heap} (T : Tx mg) (F : Df K mg "like_contents" st_like_contents) (k_lowest_in : Kn P w K mg base 2 "lowest_in" st_lowest_in ["above", "under"] sp_lowest_in) (k_below_in : Kn P w K mg base 3 "below_in" st_below_in ["one", "other"] sp_below_in) :
    Kn P w K mg base 4 "like_contents" st_like_contents ["height"] sp_like_contents :=
  kn_of F.g F.f sc_like_contents l_like_contents fun cdv hcv A outer s H E B RX hr hg kx => ⟨r_like_contents, (psd_cons (psd_if (ptd_cmp (op_eq2 hr.units) od_eq (pd_var 0) pd_int (nomark _)) (psd_one (psd_ret pd_non)) psd_nil) (psd_cons (psd_asg (pd_tup (pda_cons pd_int (pda_cons pd_int pda_nil))) (pgd_seq rfl (pgsd_cons (pgd_name (i := 1) sc_like_contents.nd rfl (by first | exact Or.inl rfl | exact Or.inr rfl)) (pgsd_cons (pgd_name (i := 2) sc_like_contents.nd rfl (by first | exact Or.inl rfl | exact Or.inr rfl)) pgsd_nil)))) (psd_cons (psd_while (passes_of rfl) (ptd_val (pd_call k_below_in (hr.mono (by decide)) hg rfl pass0 kx0 (fun _ _ _ _ _ _ us hl => match us, hl with | [_, _], _ => rfl) (pda_cons (pd_var 0) (pda_cons (pd_call k_lowest_in (hr.mono (by decide)) hg rfl pass0 kx0 (fun _ _ _ _ _ _ us hl => match us, hl with | [_, _], _ => rfl) (pda_cons (pd_gint rfl T.c_LOWEST) (pda_cons (pd_var 2) pda_nil))) pda_nil)))) (psd_one (psd_par (i := 1) (j := 2) rfl sc_like_contents.nd rfl rfl (by decide) rfl rfl (pda_cons (pd_add (pd_var 1) pd_int) (pda_cons (pd_mul (pd_var 2) (pd_gint rfl T.c_BASE)) pda_nil)) rfl))) (psd_one (psd_ret (pd_var 1)))))), fun xs G R h => v_like_contents xs G R RX h⟩
abbrev sp_has_contents : DSp := DL.sp_has
def r_has_contents : DS := (dSeq (dIfS (dOr (dTst (dCall sp_below_in X0 (dCons (dVar 0) (dCons (dC (.int 0)) dNil)))) (dTst (dCall sp_below_in X0 (dCons (dC (.int 3)) (dCons (dVar 0) dNil))))) (dRet (dC (.bl false))) dNext) (dSeq (dIfS (dNot (dTst (dCall sp_below_in X0 (dCons (dVar 0) (dCons (dC (.int 2)) dNil))))) (dRet (dOp fEq (dVar 0) (dC (.int 3)))) dNext) (dRet (dAndV (dNotV (dCall sp_below_in X0 (dCons (dC (.int 1)) (dCons (dVar 0) dNil)))) (dOp fEq (dCall sp_height_in X0 (dCons (dCall sp_like_contents X0 (dCons (dVar 0) dNil)) dNil)) (dVar 0))))))
theorem sc_has_contents : FnScope ["height"] ["height"] (defScope st_has_contents) := ⟨rfl, rfl, rfl, by decide +kernel, rfl, by decide +kernel, by decide +kernel⟩
theorem v_has_contents (xs : List D) (G : Gm) (R : KD) (RX : XD) (h : sp_has_contents xs G R RX) : r_has_contents { nx := fun _ G => R .non G, rt := R } (xs.map some ++ List.replicate (1 - xs.length) none) G := by
  exact has_ok xs G R RX h
theorem l_has_contents (xs : List D) (G : Gm) (R : KD) (RX : XD) (h : sp_has_contents xs G R RX) : xs.length = 1 := by
  obtain ⟨_, rfl, _⟩ := h
  rfl
set_option maxHeartbeats 4000000 in
theorem k_has_contents {P : Program} {w : World} {K : PySem.W.Frag} {mg : Str → Option Value} {base : Heap} (T : Tx mg) (F : Df K mg "has_contents" st_has_contents) (k_below_in : Kn P w K mg base 3 "below_in" st_below_in ["one", "other"] sp_below_in) (k_height_in : Kn P w K mg base 3 "height_in" st_height_in ["contents"] sp_height_in) (k_like_contents : Kn P w K mg base 4 "like_contents" st_like_contents ["height"] sp_like_contents) :
    Kn P w K mg base 5 "has_contents" st_has_contents ["height"] sp_has_contents :=
  kn_of F.g F.f sc_has_contents l_has_contents fun cdv hcv A outer s H E B RX hr hg kx => ⟨r_has_contents, (psd_cons (psd_if (PW.pt (pwd_or (ptd_val (pd_call k_below_in (hr.mono (by decide)) hg rfl pass0 kx0 (fun _ _ _ _ _ _ us hl => match us, hl with | [_, _], _ => rfl) (pda_cons (pd_var 0) (pda_cons pd_int pda_nil)))) (pwd_or1 (ptd_val (pd_call k_below_in (hr.mono (by decide)) hg rfl pass0 kx0 (fun _ _ _ _ _ _ us hl => match us, hl with | [_, _], _ => rfl) (pda_cons (pd_gint rfl T.c_BASE) (pda_cons (pd_var 0) pda_nil))))))) (psd_one (psd_ret pd_bl)) psd_nil) (psd_cons (psd_if (ptd_not (ptd_val (pd_call k_below_in (hr.mono (by decide)) hg rfl pass0 kx0 (fun _ _ _ _ _ _ us hl => match us, hl with | [_, _], _ => rfl) (pda_cons (pd_var 0) (pda_cons (pd_gint rfl T.c_LOWEST) pda_nil))))) (psd_one (psd_ret (pd_cmp (op_eq2 hr.units) od_eq (pd_var 0) (pd_gint rfl T.c_BASE) (nomark _)))) psd_nil) (psd_one (psd_ret (pd_and (pd_not (pd_call k_below_in (hr.mono (by decide)) hg rfl pass0 kx0 (fun _ _ _ _ _ _ us hl => match us, hl with | [_, _], _ => rfl) (pda_cons pd_int (pda_cons (pd_var 0) pda_nil)))) (pd_one (pd_cmp (op_eq2 hr.units) od_eq (pd_call k_height_in (hr.mono (by decide)) hg rfl pass0 kx0 (fun _ _ _ _ _ _ us hl => match us, hl with | [_], _ => rfl) (pda_cons (pd_call k_like_contents (hr.mono (by decide)) hg rfl pass0 kx0 (fun _ _ _ _ _ _ us hl => match us, hl with | [_], _ => rfl) (pda_cons (pd_var 0) pda_nil)) pda_nil)) (pd_var 0) (nomark _)))))))), fun xs G R h => v_has_contents xs G R RX h⟩
abbrev sp_point_of : DSp := sp_pointOfX cls subC
def r_point_of (RX : XD) : DS := (dSeq (dDrop (dCallD sp_need_program [D.str "program"] RX (dCons (dVar 0) dNil))) (dSeq (dSet 2 (dCall sp_need_stand RX (dCons (dVar 0) (dCons (dVar 1) dNil)))) (dSeq (dIfS (dTst (dCal fAny (dCons (dCmp (dISeq (dSl (dVar 2) (dPart (dC (.int 1))) dNoP)) (gN 3) dYes (dAndV (dNotN (dVar 3)) (dOp (fInt gGt) (dVar 3) (dC (.int 200)))) [3]) dNil))) (dRaise "TooMany" ["what", "most"] [true, true] RX (dCons (dC (.str "contents")) (dCons (dC (.int 200)) dNil))) dNext) (dRet (dCall sp_point_in X0 (dCons (dVar 2) dNil))))))
theorem sc_point_of : FnScope ["program", "stand", "kept", "contents"] ["program", "stand"] (defScope st_point_of) := ⟨rfl, rfl, rfl, by decide +kernel, rfl, by decide +kernel, by decide +kernel⟩
theorem v_point_of (xs : List D) (G : Gm) (R : KD) (RX : XD) (h : sp_point_of xs G R RX) : r_point_of RX { nx := fun _ G => R .non G, rt := R } (xs.map some ++ List.replicate (4 - xs.length) none) G := by
  exact pointOfX_ok (cl := cls) (sub := subC) (by decide +kernel) (by decide +kernel) xs G R RX h
theorem l_point_of (xs : List D) (G : Gm) (R : KD) (RX : XD) (h : sp_point_of xs G R RX) : xs.length = 2 := by
  obtain ⟨_, _, rfl, _⟩ := h
  rfl
set_option maxHeartbeats 4000000 in
theorem k_point_of {P : Program} {w : World} {K : PySem.W.Frag} {mg : Str → Option Value} {base : Heap} (T : Tx mg) (F : Df K mg "point_of" st_point_of) (x_TooMany : KnX P w K mg base "TooMany" ["self", "what", "most"] ["what", "most"] [true, true]) (k_need_program : KnD P w K mg base 3 "need_program" st_need_program ["value", "part"] [V.str "program"] sp_need_program) (k_need_stand : Kn P w K mg base 4 "need_stand" st_need_stand ["program", "value"] sp_need_stand) (k_point_in : Kn P w K mg base 4 "point_in" st_point_in ["stand"] sp_point_in) :
    Kn P w K mg base 5 "point_of" st_point_of ["program", "stand"] sp_point_of :=
  kn_of F.g F.f sc_point_of l_point_of fun cdv hcv A outer s H E B RX hr hg kx => ⟨r_point_of RX, (psd_cons (psd_expr (pd_callD (n := 1) (j := 0) (ds := [D.str "program"]) k_need_program (by simp) (hr.mono (by decide)) hg rfl (passes_call (takes_of rfl rfl rfl rfl) fun _ _ _ _ h => h) (fun _ e => kx.mono e) rfl (fun _ => .cons (.str _) (.nil)) (fun _ _ _ _ _ _ _ us its hl hl2 => match us, hl, its, hl2 with | [_], _, [_], _ => ⟨_, rfl, rfl⟩) (pda_cons (pd_var 0) pda_nil))) (psd_cons (psd_set (i := 2) sc_point_of.nd rfl (by first | exact Or.inl rfl | exact Or.inr rfl) (pd_call k_need_stand (hr.mono (by decide)) hg rfl (passes_call (takes_of rfl rfl rfl rfl) fun _ _ _ _ h => h) (fun _ e => kx.mono e) (fun _ _ _ _ _ _ us hl => match us, hl with | [_, _], _ => rfl) (pda_cons (pd_var 0) (pda_cons (pd_var 1) pda_nil)))) (psd_cons (psd_if (ptd_val (pd_callB (cr_any rfl) cd_any rfl T.f_any (by decide +kernel) (pda_cons (pd_lc (own := [("contents", 3)]) rfl sc_point_of.nd (pid_seq (pd_slice (pd_var 2) (pod_some pd_int) pod_none)) (blkOk_by (N := ["program", "stand", "kept", "contents"]) (sc := defScope st_point_of) (by decide +kernel)) (by decide) (fun _ _ _ _ _ _ => (pgd_name (i := 3) sc_point_of.nd rfl (by first | exact Or.inl rfl | exact Or.inr rfl))) (fun _ _ _ _ _ _ => ptsd_nil) (fun _ _ _ _ _ _ => (pd_and (pd_notN (pd_var 3)) (pd_one (pd_cmp op_gt od_bl (pd_var 3) (pd_gint rfl T.c_MOST_CONTENTS) (nomark _)))))) pda_nil))) (psd_one (psd_raise x_TooMany (by decide) rfl (hr.mono (by decide)) rfl (takes_of rfl rfl rfl rfl) (fun _ e => kx.mono e) pass0 (pda_cons pd_str (pda_cons (pd_gint rfl T.c_MOST_CONTENTS) pda_nil)))) psd_nil) (psd_one (psd_ret (pd_call k_point_in (hr.mono (by decide)) hg rfl pass0 kx0 (fun _ _ _ _ _ _ us hl => match us, hl with | [_], _ => rfl) (pda_cons (pd_var 2) pda_nil))))))), fun xs G R h => v_point_of xs G R RX h⟩
abbrev sp_stand_of : DSp := sp_standOfX cls subC
def r_stand_of (RX : XD) : DS := (dSeq (dDrop (dCallD sp_need_program [D.str "program"] RX (dCons (dVar 0) dNil))) (dSeq (dAsg (dCall sp_parted X0 (dCons (dCallD sp_need_point [D.str "point"] RX (dCons (dVar 1) (dCons (dC (.int 2)) dNil))) dNil)) (gSeq 3 (gCons (gN 2) (gCons (gN 3) (gCons (gN 4) gNil))))) (dSeq (dIfS (dOr (dNot (dTst (dChain (fInt gLe) (fInt gLt) (dC (.int 0)) (dVar 2) (dCal fLen (dCons (dFld cls "lines" (dVar 0)) dNil))))) (dOr (dNot (dTst (dCall sp_has_contents X0 (dCons (dVar 3) dNil)))) (dNot (dTst (dCall sp_has_contents X0 (dCons (dVar 4) dNil)))))) (dRet (dC .non)) dNext) (dRet (dTup (dCons (dVar 2) (dCons (dCall sp_like_contents X0 (dCons (dVar 3) dNil)) (dCons (dCall sp_like_contents X0 (dCons (dVar 4) dNil)) dNil))))))))
theorem sc_stand_of : FnScope ["program", "point", "line", "one", "other"] ["program", "point"] (defScope st_stand_of) := ⟨rfl, rfl, rfl, by decide +kernel, rfl, by decide +kernel, by decide +kernel⟩
theorem v_stand_of (xs : List D) (G : Gm) (R : KD) (RX : XD) (h : sp_stand_of xs G R RX) : r_stand_of RX { nx := fun _ G => R .non G, rt := R } (xs.map some ++ List.replicate (5 - xs.length) none) G := by
  exact standOfX_ok (cl := cls) (sub := subC) (by decide +kernel) (by decide +kernel) (by decide +kernel) xs G R RX h
theorem l_stand_of (xs : List D) (G : Gm) (R : KD) (RX : XD) (h : sp_stand_of xs G R RX) : xs.length = 2 := by
  obtain ⟨_, _, rfl, _⟩ := h
  rfl
set_option maxHeartbeats 4000000 in
theorem k_stand_of {P : Program} {w : World} {K : PySem.W.Frag} {mg : Str → Option Value} {base : Heap} (T : Tx mg) (F : Df K mg "stand_of" st_stand_of) (W : OwC K mg cls subC) (k_need_point : KnD P w K mg base 4 "need_point" st_need_point ["value", "wide", "part"] [V.str "point"] sp_need_point) (k_need_program : KnD P w K mg base 3 "need_program" st_need_program ["value", "part"] [V.str "program"] sp_need_program) (k_parted : Kn P w K mg base 5 "parted" st_parted ["point"] sp_parted) (k_like_contents : Kn P w K mg base 4 "like_contents" st_like_contents ["height"] sp_like_contents) (k_has_contents : Kn P w K mg base 5 "has_contents" st_has_contents ["height"] sp_has_contents) :
    Kn P w K mg base 6 "stand_of" st_stand_of ["program", "point"] sp_stand_of :=
  kn_of F.g F.f sc_stand_of l_stand_of fun cdv hcv A outer s H E B RX hr hg kx => ⟨r_stand_of RX, (psd_cons (psd_expr (pd_callD (n := 1) (j := 0) (ds := [D.str "program"]) k_need_program (by simp) (hr.mono (by decide)) hg rfl (passes_call (takes_of rfl rfl rfl rfl) fun _ _ _ _ h => h) (fun _ e => kx.mono e) rfl (fun _ => .cons (.str _) (.nil)) (fun _ _ _ _ _ _ _ us its hl hl2 => match us, hl, its, hl2 with | [_], _, [_], _ => ⟨_, rfl, rfl⟩) (pda_cons (pd_var 0) pda_nil))) (psd_cons (psd_asg (pd_call k_parted (hr.mono (by decide)) hg rfl pass0 kx0 (fun _ _ _ _ _ _ us hl => match us, hl with | [_], _ => rfl) (pda_cons (pd_callD (n := 2) (j := 0) (ds := [D.str "point"]) k_need_point (by simp) (hr.mono (by decide)) hg rfl (passes_call (takes_of rfl rfl rfl rfl) fun _ _ _ _ h => h) (fun _ e => kx.mono e) rfl (fun _ => .cons (.str _) (.nil)) (fun _ _ _ _ _ _ _ us its hl hl2 => match us, hl, its, hl2 with | [_, _], _, [_], _ => ⟨_, rfl, rfl⟩) (pda_cons (pd_var 1) (pda_cons (pd_gint rfl T.c_WIDE) pda_nil))) pda_nil)) (pgd_seq rfl (pgsd_cons (pgd_name (i := 2) sc_stand_of.nd rfl (by first | exact Or.inl rfl | exact Or.inr rfl)) (pgsd_cons (pgd_name (i := 3) sc_stand_of.nd rfl (by first | exact Or.inl rfl | exact Or.inr rfl)) (pgsd_cons (pgd_name (i := 4) sc_stand_of.nd rfl (by first | exact Or.inl rfl | exact Or.inr rfl)) pgsd_nil))))) (psd_cons (psd_if (PW.pt (pwd_or (ptd_not (ptd_chain op_le op_lt od_bl od_bl pd_int (pd_var 2) (pd_len rfl rfl T.f_len (pd_fld W (pd_var 0))))) (pwd_or (ptd_not (ptd_val (pd_call k_has_contents (hr.mono (by decide)) hg rfl pass0 kx0 (fun _ _ _ _ _ _ us hl => match us, hl with | [_], _ => rfl) (pda_cons (pd_var 3) pda_nil)))) (pwd_or1 (ptd_not (ptd_val (pd_call k_has_contents (hr.mono (by decide)) hg rfl pass0 kx0 (fun _ _ _ _ _ _ us hl => match us, hl with | [_], _ => rfl) (pda_cons (pd_var 4) pda_nil)))))))) (psd_one (psd_ret pd_non)) psd_nil) (psd_one (psd_ret (pd_tup (pda_cons (pd_var 2) (pda_cons (pd_call k_like_contents (hr.mono (by decide)) hg rfl pass0 kx0 (fun _ _ _ _ _ _ us hl => match us, hl with | [_], _ => rfl) (pda_cons (pd_var 3) pda_nil)) (pda_cons (pd_call k_like_contents (hr.mono (by decide)) hg rfl pass0 kx0 (fun _ _ _ _ _ _ us hl => match us, hl with | [_], _ => rfl) (pda_cons (pd_var 4) pda_nil)) pda_nil))))))))), fun xs G R h => v_stand_of xs G R RX h⟩
abbrev sp__law_quarry : DSp := spGauge
def r__law_quarry : DS := (dRet (dLstM (dCons (dCmp (dISeq (dSl (dVar 0) dNoP (dPart (dC (.int 59))))) (gN 1) dYes (dCal fIntOf (dCons (dVar 1) dNil)) [1]) (dCons (dC (.int 0)) (dCons (dC (.int 0)) dNil)))))
theorem sc__law_quarry : FnScope ["_law_script", "_law_cell"] ["_law_script"] (defScope st__law_quarry) := ⟨rfl, rfl, rfl, by decide +kernel, rfl, by decide +kernel, by decide +kernel⟩
theorem v__law_quarry (xs : List D) (G : Gm) (R : KD) (RX : XD) (h : sp__law_quarry xs G R RX) : r__law_quarry { nx := fun _ G => R .non G, rt := R } (xs.map some ++ List.replicate (2 - xs.length) none) G := by
  exact gauge_ok (c := 59) xs G R RX h
theorem l__law_quarry (xs : List D) (G : Gm) (R : KD) (RX : XD) (h : sp__law_quarry xs G R RX) : xs.length = 1 := by
  obtain ⟨_, rfl, _⟩ := h
  rfl
set_option maxHeartbeats 4000000 in
theorem k__law_quarry {P : Program} {w : World} {K : PySem.W.Frag} {mg : Str → Option Value} {base : Heap} (T : Tx mg) (F : Df K mg "_law_quarry" st__law_quarry) :
    Kn P w K mg base 1 "_law_quarry" st__law_quarry ["_law_script"] sp__law_quarry :=
  kn_of F.g F.f sc__law_quarry l__law_quarry fun cdv hcv A outer s H E B RX hr hg kx => ⟨r__law_quarry, (psd_one (psd_ret (pd_lstM (pda_cons (pd_lc (own := [("_law_cell", 1)]) rfl sc__law_quarry.nd (pid_seq (pd_slice (pd_var 0) pod_none (pod_some pd_int))) (blkOk_by (N := ["_law_script", "_law_cell"]) (sc := defScope st__law_quarry) (by decide +kernel)) (by decide) (fun _ _ _ _ _ _ => (pgd_name (i := 1) sc__law_quarry.nd rfl (by first | exact Or.inl rfl | exact Or.inr rfl))) (fun _ _ _ _ _ _ => ptsd_nil) (fun _ _ _ _ _ _ => (pd_callTy call_int1 cd_int rfl T.f_int (by decide +kernel) (pda_cons (pd_var 1) pda_nil)))) (pda_cons pd_int (pda_cons pd_int pda_nil)))))), fun xs G R h => v__law_quarry xs G R RX h⟩
abbrev sp__law_hew : DSp := spDial
def r__law_hew : DS := (dSeq (dIfS (dTst (dOp (fInt gGt) (dIx (dVar 0) (dC (.int 2))) (dC (.int 0)))) (dSeq (dSet 2 (dCal fIntOf (dCons (dIx (dVar 0) (dC (.int 2))) dNil))) (dSeq (dSetIx (dOp (fIntC CDivW fun i j => .int (i / j)) (dVar 2) (dVar 1)) (dVar 0) (dC (.int 2))) (dRet (dOp (fIntC (fun _ j => 0 < j) fun i j => .int (i % j)) (dCal fIntOf (dCons (dVar 2) dNil)) (dVar 1))))) dNext) (dSeq (dSet 3 (dIx (dVar 0) (dC (.int 1)))) (dSeq (dSetIx (dOp fAdd (dVar 3) (dC (.int 1))) (dVar 0) (dC (.int 1))) (dSeq (dSet 4 (dOp fAdd (dOp (fIntC IntMulOk fun i j => .int (i * j)) (dC (.int 110269)) (dVar 3)) (dC (.int 8467)))) (dSeq (dIfS (dTst (dOp fNe (dIx (dVar 0) (dC (.int 0))) (dLst dNil))) (dSet 4 (dIx (dIx (dVar 0) (dC (.int 0))) (dOp (fIntC (fun _ j => 0 < j) fun i j => .int (i % j)) (dCal fIntOf (dCons (dVar 3) dNil)) (dCal fLen (dCons (dIx (dVar 0) (dC (.int 0))) dNil))))) dNext) (dSeq (dIfS (dAnd (dTst (dOp (fInt gLt) (dVar 3) (dCal fLen (dCons (dIx (dVar 0) (dC (.int 0))) dNil)))) (dTst (dOp (fInt gGe) (dCal fAbs (dCons (dVar 4) dNil)) (dOp (fIntC CPw fun i j => .int (i ^ j.toNat)) (dC (.int 10)) (dC (.int 18)))))) (dSeq (dSet 2 (dOp fAdd (dOp (fIntC IntMulOk fun i j => .int (i * j)) (dC (.int 2)) (dOp (fInt fun i j => .int (i - j)) (dCal fAbs (dCons (dCal fIntOf (dCons (dVar 4) dNil)) dNil)) (dOp (fIntC CPw fun i j => .int (i ^ j.toNat)) (dC (.int 10)) (dC (.int 18))))) (dCal fIntOf (dCons (dOp (fInt gLt) (dVar 4) (dC (.int 0))) dNil)))) (dSeq (dSetIx (dOp (fIntC CDivW fun i j => .int (i / j)) (dVar 2) (dVar 1)) (dVar 0) (dC (.int 2))) (dRet (dOp (fIntC (fun _ j => 0 < j) fun i j => .int (i % j)) (dCal fIntOf (dCons (dVar 2) dNil)) (dVar 1))))) dNext) (dSeq (dSet 5 (dOp (fIntC (fun _ j => 0 < j) fun i j => .int (i % j)) (dCal fIntOf (dCons (dOp (fIntC CPw fun i j => .int (i ^ j.toNat)) (dOp fAdd (dOp fAdd (dOp (fIntC (fun _ j => 0 < j) fun i j => .int (i % j)) (dCal fIntOf (dCons (dVar 4) dNil)) (dC (.int 2147483563))) (dOp (fIntC IntMulOk fun i j => .int (i * j)) (dC (.int 86197)) (dVar 3))) (dC (.int 8467))) (dC (.int 5))) dNil)) (dC (.int 2147483579)))) (dSeq (dSet 5 (dOp (fIntC (fun _ j => 0 < j) fun i j => .int (i % j)) (dCal fIntOf (dCons (dOp (fIntC CPw fun i j => .int (i ^ j.toNat)) (dOp fAdd (dOp fAdd (dOp (fIntC IntMulOk fun i j => .int (i * j)) (dVar 5) (dOp fAdd (dOp (fIntC IntMulOk fun i j => .int (i * j)) (dC (.int 2)) (dVar 3)) (dC (.int 8467)))) (dOp (fIntC IntMulOk fun i j => .int (i * j)) (dOp (fIntC IntMulOk fun i j => .int (i * j)) (dC (.int 110269)) (dVar 3)) (dVar 3))) (dC (.int 86197))) (dC (.int 3))) dNil)) (dC (.int 2147483549)))) (dRet (dOp (fIntC (fun _ j => 0 < j) fun i j => .int (i % j)) (dCal fIntOf (dCons (dOp (fIntC CDivW fun i j => .int (i / j)) (dVar 5) (dC (.int 64))) dNil)) (dVar 1)))))))))))
theorem sc__law_hew : FnScope ["_law_quarry_here", "_law_many", "_law_left", "_law_turn", "_law_cell", "_law_mixed"] ["_law_quarry_here", "_law_many"] (defScope st__law_hew) := ⟨rfl, rfl, rfl, by decide +kernel, rfl, by decide +kernel, by decide +kernel⟩
theorem v__law_hew (xs : List D) (G : Gm) (R : KD) (RX : XD) (h : sp__law_hew xs G R RX) : r__law_hew { nx := fun _ G => R .non G, rt := R } (xs.map some ++ List.replicate (6 - xs.length) none) G := by
  exact dialB_ok (c0 := 110269) (c1 := 8467) (c2 := 2147483563) (c3 := 86197) (c4 := 8467) (c5 := 2147483579) (c6 := 8467) (c7 := 110269) (c8 := 86197) (c9 := 2147483549) ⟨by decide, by decide⟩ ⟨by decide, by decide⟩ ⟨by decide, by decide⟩ ⟨by decide, by decide⟩ ⟨by decide, by decide⟩ ⟨by decide, by decide⟩ ⟨by decide, by decide⟩ ⟨by decide, by decide⟩ ⟨by decide, by decide⟩ ⟨by decide, by decide⟩ xs G R RX h
theorem l__law_hew (xs : List D) (G : Gm) (R : KD) (RX : XD) (h : sp__law_hew xs G R RX) : xs.length = 2 := by
  obtain ⟨_, _, _, rfl, _⟩ := h
  rfl
set_option maxHeartbeats 4000000 in
theorem k__law_hew {P : Program} {w : World} {K : PySem.W.Frag} {mg : Str → Option Value} {base : Heap} (T : Tx mg) (F : Df K mg "_law_hew" st__law_hew) :
    Kn P w K mg base 1 "_law_hew" st__law_hew ["_law_quarry_here", "_law_many"] sp__law_hew :=
  kn_of F.g F.f sc__law_hew l__law_hew fun cdv hcv A outer s H E B RX hr hg kx => ⟨r__law_hew, (psd_cons (psd_if (ptd_cmp op_gt od_bl (pd_ix (pd_var 0) pd_int (fun _ _ => rfl)) pd_int (nomark _)) (psd_cons (psd_set (i := 2) sc__law_hew.nd rfl (by first | exact Or.inl rfl | exact Or.inr rfl) (pd_callTy call_int1 cd_int rfl T.f_int (by decide +kernel) (pda_cons (pd_ix (pd_var 0) pd_int (fun _ _ => rfl)) pda_nil))) (psd_cons (psd_setIx (pd_fdiv (pd_var 2) (pd_var 1)) (pd_var 0) pd_int) (psd_one (psd_ret (pd_mod (pd_callTy call_int1 cd_int rfl T.f_int (by decide +kernel) (pda_cons (pd_var 2) pda_nil)) (pd_var 1)))))) psd_nil) (psd_cons (psd_set (i := 3) sc__law_hew.nd rfl (by first | exact Or.inl rfl | exact Or.inr rfl) (pd_ix (pd_var 0) pd_int (fun _ _ => rfl))) (psd_cons (psd_setIx (pd_add (pd_var 3) pd_int) (pd_var 0) pd_int) (psd_cons (psd_set (i := 4) sc__law_hew.nd rfl (by first | exact Or.inl rfl | exact Or.inr rfl) (pd_add (pd_mul pd_int (pd_var 3)) pd_int)) (psd_cons (psd_if (ptd_cmp (op_ne2 hr.units) od_ne (pd_ix (pd_var 0) pd_int (fun _ _ => rfl)) (pd_lst pda_nil) (nomark _)) (psd_one (psd_set (i := 4) sc__law_hew.nd rfl (by first | exact Or.inl rfl | exact Or.inr rfl) (pd_ix (pd_ix (pd_var 0) pd_int (fun _ _ => rfl)) (pd_mod (pd_callTy call_int1 cd_int rfl T.f_int (by decide +kernel) (pda_cons (pd_var 3) pda_nil)) (pd_len rfl rfl T.f_len (pd_ix (pd_var 0) pd_int (fun _ _ => rfl)))) (fun _ _ => rfl)))) psd_nil) (psd_cons (psd_if (PW.pt (pwd_and (ptd_cmp op_lt od_bl (pd_var 3) (pd_len rfl rfl T.f_len (pd_ix (pd_var 0) pd_int (fun _ _ => rfl))) (nomark _)) (pwd_and1 (ptd_cmp op_ge od_bl (pd_callB call_abs cd_abs rfl T.f_abs (by decide +kernel) (pda_cons (pd_var 4) pda_nil)) (pd_pow pd_int pd_int) (nomark _))))) (psd_cons (psd_set (i := 2) sc__law_hew.nd rfl (by first | exact Or.inl rfl | exact Or.inr rfl) (pd_add (pd_mul pd_int (pd_sub (pd_callB call_abs cd_abs rfl T.f_abs (by decide +kernel) (pda_cons (pd_callTy call_int1 cd_int rfl T.f_int (by decide +kernel) (pda_cons (pd_var 4) pda_nil)) pda_nil)) (pd_pow pd_int pd_int))) (pd_callTy call_int1 cd_int rfl T.f_int (by decide +kernel) (pda_cons (pd_cmp op_lt od_bl (pd_var 4) pd_int (nomark _)) pda_nil)))) (psd_cons (psd_setIx (pd_fdiv (pd_var 2) (pd_var 1)) (pd_var 0) pd_int) (psd_one (psd_ret (pd_mod (pd_callTy call_int1 cd_int rfl T.f_int (by decide +kernel) (pda_cons (pd_var 2) pda_nil)) (pd_var 1)))))) psd_nil) (psd_cons (psd_set (i := 5) sc__law_hew.nd rfl (by first | exact Or.inl rfl | exact Or.inr rfl) (pd_mod (pd_callTy call_int1 cd_int rfl T.f_int (by decide +kernel) (pda_cons (pd_pow (pd_add (pd_add (pd_mod (pd_callTy call_int1 cd_int rfl T.f_int (by decide +kernel) (pda_cons (pd_var 4) pda_nil)) pd_int) (pd_mul pd_int (pd_var 3))) pd_int) pd_int) pda_nil)) pd_int)) (psd_cons (psd_set (i := 5) sc__law_hew.nd rfl (by first | exact Or.inl rfl | exact Or.inr rfl) (pd_mod (pd_callTy call_int1 cd_int rfl T.f_int (by decide +kernel) (pda_cons (pd_pow (pd_add (pd_add (pd_mul (pd_var 5) (pd_add (pd_mul pd_int (pd_var 3)) pd_int)) (pd_mul (pd_mul pd_int (pd_var 3)) (pd_var 3))) pd_int) pd_int) pda_nil)) pd_int)) (psd_one (psd_ret (pd_mod (pd_callTy call_int1 cd_int rfl T.f_int (by decide +kernel) (pda_cons (pd_fdiv (pd_var 5) pd_int) pda_nil)) (pd_var 1)))))))))))), fun xs G R h => v__law_hew xs G R RX h⟩
abbrev sp__law_pick : DSp := spPick
def r__law_pick : DS := (dRet (dIx (dVar 1) (dCall sp__law_hew X0 (dCons (dVar 0) (dCons (dCal fLen (dCons (dVar 1) dNil)) dNil)))))
theorem sc__law_pick : FnScope ["_law_quarry_here", "_law_some"] ["_law_quarry_here", "_law_some"] (defScope st__law_pick) := ⟨rfl, rfl, rfl, by decide +kernel, rfl, by decide +kernel, by decide +kernel⟩
theorem v__law_pick (xs : List D) (G : Gm) (R : KD) (RX : XD) (h : sp__law_pick xs G R RX) : r__law_pick { nx := fun _ G => R .non G, rt := R } (xs.map some ++ List.replicate (2 - xs.length) none) G := by
  exact pick_ok xs G R RX h
theorem l__law_pick (xs : List D) (G : Gm) (R : KD) (RX : XD) (h : sp__law_pick xs G R RX) : xs.length = 2 := by
  obtain ⟨_, _, _, _, rfl, _⟩ := h
  rfl
set_option maxHeartbeats 4000000 in
theorem k__law_pick {P : Program} {w : World} {K : PySem.W.Frag} {mg : Str → Option Value} {base : Heap} (T : Tx mg) (F : Df K mg "_law_pick" st__law_pick) (k__law_hew : Kn P w K mg base 1 "_law_hew" st__law_hew ["_law_quarry_here", "_law_many"] sp__law_hew) :
    Kn P w K mg base 2 "_law_pick" st__law_pick ["_law_quarry_here", "_law_some"] sp__law_pick :=
  kn_of F.g F.f sc__law_pick l__law_pick fun cdv hcv A outer s H E B RX hr hg kx => ⟨r__law_pick, (psd_one (psd_ret (pd_ix (pd_var 1) (pd_call k__law_hew (hr.mono (by decide)) hg rfl pass0 kx0 (fun _ _ _ _ _ _ us hl => match us, hl with | [_, _], _ => rfl) (pda_cons (pd_var 0) (pda_cons (pd_len rfl rfl T.f_len (pd_var 1)) pda_nil))) (fun _ _ => rfl)))), fun xs G R h => v__law_pick xs G R RX h⟩
abbrev sp__law_pair : DSp := DL.sp_pairN
def r__law_pair : DS := (dRet (dIf (dTst (dCal (fIsi "int") (dCons (dVar 0) (dCons (dC (.ty "int")) dNil)))) (dTup (dCons (dVar 0) (dCons (dC (.int 1)) dNil))) (dTup (dCons (dIx (dVar 0) (dC (.int 0))) (dCons (dIx (dVar 0) (dC (.int 1))) dNil)))))
theorem sc__law_pair : FnScope ["_law_number"] ["_law_number"] (defScope st__law_pair) := ⟨rfl, rfl, rfl, by decide +kernel, rfl, by decide +kernel, by decide +kernel⟩
theorem v__law_pair (xs : List D) (G : Gm) (R : KD) (RX : XD) (h : sp__law_pair xs G R RX) : r__law_pair { nx := fun _ G => R .non G, rt := R } (xs.map some ++ List.replicate (1 - xs.length) none) G := by
  exact law_pair_ok xs G R RX h
theorem l__law_pair (xs : List D) (G : Gm) (R : KD) (RX : XD) (h : sp__law_pair xs G R RX) : xs.length = 1 := by
  obtain ⟨_, _, rfl, _⟩ := h
  rfl
set_option maxHeartbeats 4000000 in
theorem k__law_pair {P : Program} {w : World} {K : PySem.W.Frag} {mg : Str → Option Value} {base : Heap} (T : Tx mg) (F : Df K mg "_law_pair" st__law_pair) :
    Kn P w K mg base 1 "_law_pair" st__law_pair ["_law_number"] sp__law_pair :=
  kn_of F.g F.f sc__law_pair l__law_pair fun cdv hcv A outer s H E B RX hr hg kx => ⟨r__law_pair, (psd_one (psd_ret (pd_if (ptd_val (pd_isi rfl (by decide) rfl T.f_isinstance (pd_var 0) (pd_bty rfl T.f_int (by decide +kernel)))) (pd_tup (pda_cons (pd_var 0) (pda_cons pd_int pda_nil))) (pd_tup (pda_cons (pd_ix (pd_var 0) pd_int (fun _ _ => rfl)) (pda_cons (pd_ix (pd_var 0) pd_int (fun _ _ => rfl)) pda_nil)))))), fun xs G R h => v__law_pair xs G R RX h⟩
abbrev sp__law_form : DSp := DL.sp_lowZ
def r__law_form : DS := (dSeq (dPar 2 3 (dCons (dCal fAbs (dCons (dVar 0) dNil)) (dCons (dCal fAbs (dCons (dVar 1) dNil)) dNil))) (dSeq (dWhile (dTst (dOp (fInt gGt) (dVar 3) (dC (.int 0)))) (dPar 2 3 (dCons (dVar 3) (dCons (dOp (fIntC (fun _ j => 0 < j) fun i j => .int (i % j)) (dCal fIntOf (dCons (dVar 2) dNil)) (dVar 3)) dNil)))) (dSeq (dSet 2 (dIf (dTst (dOp (fInt gGt) (dVar 1) (dC (.int 0)))) (dVar 2) (dNeg (dVar 2)))) (dRet (dIf (dTst (dOp fEq (dOp (fIntC CDivZ fun i j => .int (Int.fdiv i j)) (dVar 1) (dVar 2)) (dC (.int 1)))) (dOp (fIntC CDivZ fun i j => .int (Int.fdiv i j)) (dVar 0) (dVar 2)) (dTup (dCons (dOp (fIntC CDivZ fun i j => .int (Int.fdiv i j)) (dVar 0) (dVar 2)) (dCons (dOp (fIntC CDivZ fun i j => .int (Int.fdiv i j)) (dVar 1) (dVar 2)) dNil))))))))
theorem sc__law_form : FnScope ["_law_above", "_law_under", "_law_one", "_law_other"] ["_law_above", "_law_under"] (defScope st__law_form) := ⟨rfl, rfl, rfl, by decide +kernel, rfl, by decide +kernel, by decide +kernel⟩
theorem v__law_form (xs : List D) (G : Gm) (R : KD) (RX : XD) (h : sp__law_form xs G R RX) : r__law_form { nx := fun _ G => R .non G, rt := R } (xs.map some ++ List.replicate (4 - xs.length) none) G := by
  obtain ⟨a, u, rfl, hu, hu2, h⟩ := h
  obtain ⟨n, d, s0, sl, ea, eu, d0, g1, l1⟩ := lowZ_facts (a := a) hu
  have cz : ∀ i, CDivZ i (sgZ a u) := fun i => divZ_ok s0 (Nat.lt_of_le_of_lt sl hu2)
  refine ds_par (.absN (.var rfl)) (.absN (.var rfl)) ?_
  first
    | refine while_gcd2 (p := a.natAbs) (q := u.natAbs) (by decide) (fun ρ G p h => .intOf (.var h)) rfl rfl fun ρ' r2 ho => ?_
    | refine while_gcd2 (p := a.natAbs) (q := u.natAbs) (by decide) (fun ρ G p h => .var h) rfl rfl fun ρ' r2 ho => ?_
  have r0 : ρ'[0]? = some (some (.int a)) := ho 0 (by decide) (by decide)
  have r1 : ρ'[1]? = some (some (.int u)) := ho 1 (by decide) (by decide)
  have eg' : ((Nat.gcd a.natAbs u.natAbs : Nat) : Int) = (Int.gcd a u : Int) := rfl
  rw [eg'] at r2
  have l2 : 2 < ρ'.length := (List.getElem?_eq_some_iff.mp r2).1
  dsimp only
  refine ds_set (x := .int (sgZ a u)) ?_ ?_
  · by_cases hp : 0 < u
    · rw [show sgZ a u = (Int.gcd a u : Int) from if_pos hp]
      exact .ifT ((EvT.tst (.gt (.var r1) .c)).cast (decide_eq_true hp)) (.var r2)
    · rw [show sgZ a u = -(Int.gcd a u : Int) from if_neg hp]
      exact .ifF ((EvT.tst (.gt (.var r1) .c)).cast (decide_eq_false hp)) (.neg (.var r2))
  · rw [l1] at h
    generalize sgZ a u = s at *
    have q0 : (ρ'.set 2 (some (.int s)))[0]? = some (some (.int a)) := by rw [List.getElem?_set_ne (by decide)]; exact r0
    have q1 : (ρ'.set 2 (some (.int s)))[1]? = some (some (.int u)) := by rw [List.getElem?_set_ne (by decide)]; exact r1
    have q2 : (ρ'.set 2 (some (.int s)))[2]? = some (some (.int s)) := List.getElem?_set_self l2
    first
      | exact lowFin s0 cz ea eu (fun _ => .var q0) (fun _ => .var q1) q2 h
      | exact lowFin s0 cz ea eu (fun _ => .intOf (.var q0)) (fun _ => .intOf (.var q1)) q2 h
theorem l__law_form (xs : List D) (G : Gm) (R : KD) (RX : XD) (h : sp__law_form xs G R RX) : xs.length = 2 := by
  obtain ⟨_, _, rfl, _⟩ := h
  rfl
set_option maxHeartbeats 4000000 in
theorem k__law_form {P : Program} {w : World} {K : PySem.W.Frag} {mg : Str → Option Value} {base : Heap} (T : Tx mg) (F : Df K mg "_law_form" st__law_form) :
    Kn P w K mg base 1 "_law_form" st__law_form ["_law_above", "_law_under"] sp__law_form :=
  kn_of F.g F.f sc__law_form l__law_form fun cdv hcv A outer s H E B RX hr hg kx => ⟨r__law_form, (psd_cons (psd_par (i := 2) (j := 3) rfl sc__law_form.nd rfl rfl (by decide) rfl rfl (pda_cons (pd_callB call_abs cd_abs rfl T.f_abs (by decide +kernel) (pda_cons (pd_var 0) pda_nil)) (pda_cons (pd_callB call_abs cd_abs rfl T.f_abs (by decide +kernel) (pda_cons (pd_var 1) pda_nil)) pda_nil)) rfl) (psd_cons (psd_while (passes_of rfl) (ptd_cmp op_gt od_bl (pd_var 3) pd_int (nomark _)) (psd_one (psd_par (i := 2) (j := 3) rfl sc__law_form.nd rfl rfl (by decide) rfl rfl (pda_cons (pd_var 3) (pda_cons (pd_mod (pd_callTy call_int1 cd_int rfl T.f_int (by decide +kernel) (pda_cons (pd_var 2) pda_nil)) (pd_var 3)) pda_nil)) rfl))) (psd_cons (psd_set (i := 2) sc__law_form.nd rfl (by first | exact Or.inl rfl | exact Or.inr rfl) (pd_if (ptd_cmp op_gt od_bl (pd_var 1) pd_int (nomark _)) (pd_var 2) (pd_neg (pd_var 2)))) (psd_one (psd_ret (pd_if (ptd_cmp (op_eq2 hr.units) od_eq (pd_fdivZ (pd_var 1) (pd_var 2)) pd_int (nomark _)) (pd_fdivZ (pd_var 0) (pd_var 2)) (pd_tup (pda_cons (pd_fdivZ (pd_var 0) (pd_var 2)) (pda_cons (pd_fdivZ (pd_var 1) (pd_var 2)) pda_nil))))))))), fun xs G R h => v__law_form xs G R RX h⟩
abbrev sp__law_add : DSp := sp_C2 plusZ
def r__law_add : DS := (dSeq (dAsg (dTup (dCons (dCall sp__law_pair X0 (dCons (dVar 0) dNil)) (dCons (dCall sp__law_pair X0 (dCons (dVar 1) dNil)) dNil))) (gSeq 2 (gCons (gSeq 2 (gCons (gN 2) (gCons (gN 3) gNil))) (gCons (gSeq 2 (gCons (gN 4) (gCons (gN 5) gNil))) gNil)))) (dRet (dCall sp__law_form X0 (dCons (dOp fAdd (dOp (fIntC IntMulOk fun i j => .int (i * j)) (dVar 2) (dVar 5)) (dOp (fIntC IntMulOk fun i j => .int (i * j)) (dVar 4) (dVar 3))) (dCons (dOp (fIntC IntMulOk fun i j => .int (i * j)) (dVar 3) (dVar 5)) dNil)))))
theorem sc__law_add : FnScope ["_law_one", "_law_other", "_law_a", "_law_b", "_law_c", "_law_d"] ["_law_one", "_law_other"] (defScope st__law_add) := ⟨rfl, rfl, rfl, by decide +kernel, rfl, by decide +kernel, by decide +kernel⟩
theorem v__law_add (xs : List D) (G : Gm) (R : KD) (RX : XD) (h : sp__law_add xs G R RX) : r__law_add { nx := fun _ G => R .non G, rt := R } (xs.map some ++ List.replicate (6 - xs.length) none) G := by
  exact law_add_ok xs G R RX h
theorem l__law_add (xs : List D) (G : Gm) (R : KD) (RX : XD) (h : sp__law_add xs G R RX) : xs.length = 2 := by
  obtain ⟨_, _, rfl, _⟩ := h
  rfl
set_option maxHeartbeats 4000000 in
theorem k__law_add {P : Program} {w : World} {K : PySem.W.Frag} {mg : Str → Option Value} {base : Heap} (T : Tx mg) (F : Df K mg "_law_add" st__law_add) (k__law_pair : Kn P w K mg base 1 "_law_pair" st__law_pair ["_law_number"] sp__law_pair) (k__law_form : Kn P w K mg base 1 "_law_form" st__law_form ["_law_above", "_law_under"] sp__law_form) :
    Kn P w K mg base 2 "_law_add" st__law_add ["_law_one", "_law_other"] sp__law_add :=
  kn_of F.g F.f sc__law_add l__law_add fun cdv hcv A outer s H E B RX hr hg kx => ⟨r__law_add, (psd_cons (psd_asg (pd_tup (pda_cons (pd_call k__law_pair (hr.mono (by decide)) hg rfl pass0 kx0 (fun _ _ _ _ _ _ us hl => match us, hl with | [_], _ => rfl) (pda_cons (pd_var 0) pda_nil)) (pda_cons (pd_call k__law_pair (hr.mono (by decide)) hg rfl pass0 kx0 (fun _ _ _ _ _ _ us hl => match us, hl with | [_], _ => rfl) (pda_cons (pd_var 1) pda_nil)) pda_nil))) (pgd_seq rfl (pgsd_cons (pgd_seq rfl (pgsd_cons (pgd_name (i := 2) sc__law_add.nd rfl (by first | exact Or.inl rfl | exact Or.inr rfl)) (pgsd_cons (pgd_name (i := 3) sc__law_add.nd rfl (by first | exact Or.inl rfl | exact Or.inr rfl)) pgsd_nil))) (pgsd_cons (pgd_seq rfl (pgsd_cons (pgd_name (i := 4) sc__law_add.nd rfl (by first | exact Or.inl rfl | exact Or.inr rfl)) (pgsd_cons (pgd_name (i := 5) sc__law_add.nd rfl (by first | exact Or.inl rfl | exact Or.inr rfl)) pgsd_nil))) pgsd_nil)))) (psd_one (psd_ret (pd_call k__law_form (hr.mono (by decide)) hg rfl pass0 kx0 (fun _ _ _ _ _ _ us hl => match us, hl with | [_, _], _ => rfl) (pda_cons (pd_add (pd_mul (pd_var 2) (pd_var 5)) (pd_mul (pd_var 4) (pd_var 3))) (pda_cons (pd_mul (pd_var 3) (pd_var 5)) pda_nil)))))), fun xs G R h => v__law_add xs G R RX h⟩
abbrev sp__law_mul : DSp := sp_C2 timesZ
def r__law_mul : DS := (dSeq (dAsg (dTup (dCons (dCall sp__law_pair X0 (dCons (dVar 0) dNil)) (dCons (dCall sp__law_pair X0 (dCons (dVar 1) dNil)) dNil))) (gSeq 2 (gCons (gSeq 2 (gCons (gN 2) (gCons (gN 3) gNil))) (gCons (gSeq 2 (gCons (gN 4) (gCons (gN 5) gNil))) gNil)))) (dRet (dCall sp__law_form X0 (dCons (dOp (fIntC IntMulOk fun i j => .int (i * j)) (dVar 2) (dVar 4)) (dCons (dOp (fIntC IntMulOk fun i j => .int (i * j)) (dVar 3) (dVar 5)) dNil)))))
theorem sc__law_mul : FnScope ["_law_one", "_law_other", "_law_a", "_law_b", "_law_c", "_law_d"] ["_law_one", "_law_other"] (defScope st__law_mul) := ⟨rfl, rfl, rfl, by decide +kernel, rfl, by decide +kernel, by decide +kernel⟩
theorem v__law_mul (xs : List D) (G : Gm) (R : KD) (RX : XD) (h : sp__law_mul xs G R RX) : r__law_mul { nx := fun _ G => R .non G, rt := R } (xs.map some ++ List.replicate (6 - xs.length) none) G := by
  exact law_mul_ok xs G R RX h
theorem l__law_mul (xs : List D) (G : Gm) (R : KD) (RX : XD) (h : sp__law_mul xs G R RX) : xs.length = 2 := by
  obtain ⟨_, _, rfl, _⟩ := h
  rfl
set_option maxHeartbeats 4000000 in
theorem k__law_mul {P : Program} {w : World} {K : PySem.W.Frag} {mg : Str → Option Value} {base : Heap} (T : Tx mg) (F : Df K mg "_law_mul" st__law_mul) (k__law_pair : Kn P w K mg base 1 "_law_pair" st__law_pair ["_law_number"] sp__law_pair) (k__law_form : Kn P w K mg base 1 "_law_form" st__law_form ["_law_above", "_law_under"] sp__law_form) :
    Kn P w K mg base 2 "_law_mul" st__law_mul ["_law_one", "_law_other"] sp__law_mul :=
  kn_of F.g F.f sc__law_mul l__law_mul fun cdv hcv A outer s H E B RX hr hg kx => ⟨r__law_mul, (psd_cons (psd_asg (pd_tup (pda_cons (pd_call k__law_pair (hr.mono (by decide)) hg rfl pass0 kx0 (fun _ _ _ _ _ _ us hl => match us, hl with | [_], _ => rfl) (pda_cons (pd_var 0) pda_nil)) (pda_cons (pd_call k__law_pair (hr.mono (by decide)) hg rfl pass0 kx0 (fun _ _ _ _ _ _ us hl => match us, hl with | [_], _ => rfl) (pda_cons (pd_var 1) pda_nil)) pda_nil))) (pgd_seq rfl (pgsd_cons (pgd_seq rfl (pgsd_cons (pgd_name (i := 2) sc__law_mul.nd rfl (by first | exact Or.inl rfl | exact Or.inr rfl)) (pgsd_cons (pgd_name (i := 3) sc__law_mul.nd rfl (by first | exact Or.inl rfl | exact Or.inr rfl)) pgsd_nil))) (pgsd_cons (pgd_seq rfl (pgsd_cons (pgd_name (i := 4) sc__law_mul.nd rfl (by first | exact Or.inl rfl | exact Or.inr rfl)) (pgsd_cons (pgd_name (i := 5) sc__law_mul.nd rfl (by first | exact Or.inl rfl | exact Or.inr rfl)) pgsd_nil))) pgsd_nil)))) (psd_one (psd_ret (pd_call k__law_form (hr.mono (by decide)) hg rfl pass0 kx0 (fun _ _ _ _ _ _ us hl => match us, hl with | [_, _], _ => rfl) (pda_cons (pd_mul (pd_var 2) (pd_var 4)) (pda_cons (pd_mul (pd_var 3) (pd_var 5)) pda_nil)))))), fun xs G R h => v__law_mul xs G R RX h⟩
abbrev sp__law_less : DSp := sp_C2 (fun x y => .bl (ltN x y))
def r__law_less : DS := (dSeq (dAsg (dTup (dCons (dCall sp__law_pair X0 (dCons (dVar 0) dNil)) (dCons (dCall sp__law_pair X0 (dCons (dVar 1) dNil)) dNil))) (gSeq 2 (gCons (gSeq 2 (gCons (gN 2) (gCons (gN 3) gNil))) (gCons (gSeq 2 (gCons (gN 4) (gCons (gN 5) gNil))) gNil)))) (dRet (dOp (fInt gLt) (dOp (fIntC IntMulOk fun i j => .int (i * j)) (dVar 2) (dVar 5)) (dOp (fIntC IntMulOk fun i j => .int (i * j)) (dVar 4) (dVar 3)))))
theorem sc__law_less : FnScope ["_law_one", "_law_other", "_law_a", "_law_b", "_law_c", "_law_d"] ["_law_one", "_law_other"] (defScope st__law_less) := ⟨rfl, rfl, rfl, by decide +kernel, rfl, by decide +kernel, by decide +kernel⟩
theorem v__law_less (xs : List D) (G : Gm) (R : KD) (RX : XD) (h : sp__law_less xs G R RX) : r__law_less { nx := fun _ G => R .non G, rt := R } (xs.map some ++ List.replicate (6 - xs.length) none) G := by
  exact law_lessP_ok xs G R RX h
theorem l__law_less (xs : List D) (G : Gm) (R : KD) (RX : XD) (h : sp__law_less xs G R RX) : xs.length = 2 := by
  obtain ⟨_, _, rfl, _⟩ := h
  rfl
set_option maxHeartbeats 4000000 in
theorem k__law_less {P : Program} {w : World} {K : PySem.W.Frag} {mg : Str → Option Value} {base : Heap} (T : Tx mg) (F : Df K mg "_law_less" st__law_less) (k__law_pair : Kn P w K mg base 1 "_law_pair" st__law_pair ["_law_number"] sp__law_pair) :
    Kn P w K mg base 2 "_law_less" st__law_less ["_law_one", "_law_other"] sp__law_less :=
  kn_of F.g F.f sc__law_less l__law_less fun cdv hcv A outer s H E B RX hr hg kx => ⟨r__law_less, (psd_cons (psd_asg (pd_tup (pda_cons (pd_call k__law_pair (hr.mono (by decide)) hg rfl pass0 kx0 (fun _ _ _ _ _ _ us hl => match us, hl with | [_], _ => rfl) (pda_cons (pd_var 0) pda_nil)) (pda_cons (pd_call k__law_pair (hr.mono (by decide)) hg rfl pass0 kx0 (fun _ _ _ _ _ _ us hl => match us, hl with | [_], _ => rfl) (pda_cons (pd_var 1) pda_nil)) pda_nil))) (pgd_seq rfl (pgsd_cons (pgd_seq rfl (pgsd_cons (pgd_name (i := 2) sc__law_less.nd rfl (by first | exact Or.inl rfl | exact Or.inr rfl)) (pgsd_cons (pgd_name (i := 3) sc__law_less.nd rfl (by first | exact Or.inl rfl | exact Or.inr rfl)) pgsd_nil))) (pgsd_cons (pgd_seq rfl (pgsd_cons (pgd_name (i := 4) sc__law_less.nd rfl (by first | exact Or.inl rfl | exact Or.inr rfl)) (pgsd_cons (pgd_name (i := 5) sc__law_less.nd rfl (by first | exact Or.inl rfl | exact Or.inr rfl)) pgsd_nil))) pgsd_nil)))) (psd_one (psd_ret (pd_cmp op_lt od_bl (pd_mul (pd_var 2) (pd_var 5)) (pd_mul (pd_var 4) (pd_var 3)) (nomark _))))), fun xs G R h => v__law_less xs G R RX h⟩
abbrev sp__law_line : DSp := sp_drawLine
def r__law_line : DS := (dSeq (dPar 2 3 (dCons (dCall sp__law_pick X0 (dCons (dVar 0) (dCons (dLst (dCons (dC (.str "up")) (dCons (dC (.str "down")) (dCons (dC (.str "test")) (dCons (dC (.str "up")) (dCons (dC (.str "down")) (dCons (dC (.str "test")) (dCons (dC (.str "stop")) dNil)))))))) dNil))) (dCons (dCall sp__law_hew X0 (dCons (dVar 0) (dCons (dC (.int 2)) dNil))) dNil))) (dSeq (dIfS (dTst (dOp fEq (dVar 2) (dC (.str "stop")))) (dRet (dTup (dCons (dVar 2) dNil))) dNext) (dSeq (dIfS (dTst (dOp fEq (dVar 2) (dC (.str "test")))) (dRet (dTup (dCons (dVar 2) (dCons (dVar 3) (dCons (dCall sp__law_hew X0 (dCons (dVar 0) (dCons (dVar 1) dNil))) (dCons (dCall sp__law_hew X0 (dCons (dVar 0) (dCons (dVar 1) dNil))) dNil)))))) dNext) (dRet (dTup (dCons (dVar 2) (dCons (dVar 3) (dCons (dCall sp__law_hew X0 (dCons (dVar 0) (dCons (dVar 1) dNil))) dNil))))))))
theorem sc__law_line : FnScope ["_law_quarry_here", "_law_many", "_law_word", "_law_box"] ["_law_quarry_here", "_law_many"] (defScope st__law_line) := ⟨rfl, rfl, rfl, by decide +kernel, rfl, by decide +kernel, by decide +kernel⟩
theorem v__law_line (xs : List D) (G : Gm) (R : KD) (RX : XD) (h : sp__law_line xs G R RX) : r__law_line { nx := fun _ G => R .non G, rt := R } (xs.map some ++ List.replicate (4 - xs.length) none) G := by
  exact drawLine_ok xs G R RX h
theorem l__law_line (xs : List D) (G : Gm) (R : KD) (RX : XD) (h : sp__law_line xs G R RX) : xs.length = 2 := by
  obtain ⟨_, _, _, rfl, _⟩ := h
  rfl
set_option maxHeartbeats 4000000 in
theorem k__law_line {P : Program} {w : World} {K : PySem.W.Frag} {mg : Str → Option Value} {base : Heap} (T : Tx mg) (F : Df K mg "_law_line" st__law_line) (k__law_hew : Kn P w K mg base 1 "_law_hew" st__law_hew ["_law_quarry_here", "_law_many"] sp__law_hew) (k__law_pick : Kn P w K mg base 2 "_law_pick" st__law_pick ["_law_quarry_here", "_law_some"] sp__law_pick) :
    Kn P w K mg base 3 "_law_line" st__law_line ["_law_quarry_here", "_law_many"] sp__law_line :=
  kn_of F.g F.f sc__law_line l__law_line fun cdv hcv A outer s H E B RX hr hg kx => ⟨r__law_line, (psd_cons (psd_par (i := 2) (j := 3) rfl sc__law_line.nd rfl rfl (by decide) rfl rfl (pda_cons (pd_call k__law_pick (hr.mono (by decide)) hg rfl pass0 kx0 (fun _ _ _ _ _ _ us hl => match us, hl with | [_, _], _ => rfl) (pda_cons (pd_var 0) (pda_cons (pd_lst (pda_cons pd_str (pda_cons pd_str (pda_cons pd_str (pda_cons pd_str (pda_cons pd_str (pda_cons pd_str (pda_cons pd_str pda_nil)))))))) pda_nil))) (pda_cons (pd_call k__law_hew (hr.mono (by decide)) hg rfl pass0 kx0 (fun _ _ _ _ _ _ us hl => match us, hl with | [_, _], _ => rfl) (pda_cons (pd_var 0) (pda_cons pd_int pda_nil))) pda_nil)) rfl) (psd_cons (psd_if (ptd_cmp (op_eq2 hr.units) od_eq (pd_var 2) pd_str (nomark _)) (psd_one (psd_ret (pd_tup (pda_cons (pd_var 2) pda_nil)))) psd_nil) (psd_cons (psd_if (ptd_cmp (op_eq2 hr.units) od_eq (pd_var 2) pd_str (nomark _)) (psd_one (psd_ret (pd_tup (pda_cons (pd_var 2) (pda_cons (pd_var 3) (pda_cons (pd_call k__law_hew (hr.mono (by decide)) hg rfl pass0 kx0 (fun _ _ _ _ _ _ us hl => match us, hl with | [_, _], _ => rfl) (pda_cons (pd_var 0) (pda_cons (pd_var 1) pda_nil))) (pda_cons (pd_call k__law_hew (hr.mono (by decide)) hg rfl pass0 kx0 (fun _ _ _ _ _ _ us hl => match us, hl with | [_, _], _ => rfl) (pda_cons (pd_var 0) (pda_cons (pd_var 1) pda_nil))) pda_nil))))))) psd_nil) (psd_one (psd_ret (pd_tup (pda_cons (pd_var 2) (pda_cons (pd_var 3) (pda_cons (pd_call k__law_hew (hr.mono (by decide)) hg rfl pass0 kx0 (fun _ _ _ _ _ _ us hl => match us, hl with | [_, _], _ => rfl) (pda_cons (pd_var 0) (pda_cons (pd_var 1) pda_nil))) pda_nil))))))))), fun xs G R h => v__law_line xs G R RX h⟩
abbrev sp__law_lines : DSp := sp_drawLines
def r__law_lines : DS := (dSeq (dSet 2 (dOp fAdd (dC (.int 1)) (dCall sp__law_hew X0 (dCons (dVar 0) (dCons (dVar 1) dNil))))) (dRet (dCmp (dIRng1 (dVar 2)) (gN 3) dYes (dCall sp__law_line X0 (dCons (dVar 0) (dCons (dVar 2) dNil))) [3])))
theorem sc__law_lines : FnScope ["_law_quarry_here", "_law_most", "_law_many", "_law_at"] ["_law_quarry_here", "_law_most"] (defScope st__law_lines) := ⟨rfl, rfl, rfl, by decide +kernel, rfl, by decide +kernel, by decide +kernel⟩
theorem v__law_lines (xs : List D) (G : Gm) (R : KD) (RX : XD) (h : sp__law_lines xs G R RX) : r__law_lines { nx := fun _ G => R .non G, rt := R } (xs.map some ++ List.replicate (4 - xs.length) none) G := by
  exact drawLines_ok xs G R RX h
theorem l__law_lines (xs : List D) (G : Gm) (R : KD) (RX : XD) (h : sp__law_lines xs G R RX) : xs.length = 2 := by
  obtain ⟨_, _, _, rfl, _⟩ := h
  rfl
set_option maxHeartbeats 4000000 in
theorem k__law_lines {P : Program} {w : World} {K : PySem.W.Frag} {mg : Str → Option Value} {base : Heap} (T : Tx mg) (F : Df K mg "_law_lines" st__law_lines) (k__law_hew : Kn P w K mg base 1 "_law_hew" st__law_hew ["_law_quarry_here", "_law_many"] sp__law_hew) (k__law_line : Kn P w K mg base 3 "_law_line" st__law_line ["_law_quarry_here", "_law_many"] sp__law_line) :
    Kn P w K mg base 4 "_law_lines" st__law_lines ["_law_quarry_here", "_law_most"] sp__law_lines :=
  kn_of F.g F.f sc__law_lines l__law_lines fun cdv hcv A outer s H E B RX hr hg kx => ⟨r__law_lines, (psd_cons (psd_set (i := 2) sc__law_lines.nd rfl (by first | exact Or.inl rfl | exact Or.inr rfl) (pd_add pd_int (pd_call k__law_hew (hr.mono (by decide)) hg rfl pass0 kx0 (fun _ _ _ _ _ _ us hl => match us, hl with | [_, _], _ => rfl) (pda_cons (pd_var 0) (pda_cons (pd_var 1) pda_nil))))) (psd_one (psd_ret (pd_lc (own := [("_law_at", 3)]) rfl sc__law_lines.nd (pid_rng1 rfl T.f_range (pd_var 2)) (blkOk_by (N := ["_law_quarry_here", "_law_most", "_law_many", "_law_at"]) (sc := defScope st__law_lines) (by decide +kernel)) (by decide) (fun _ _ _ _ _ _ => (pgd_name (i := 3) sc__law_lines.nd rfl (by first | exact Or.inl rfl | exact Or.inr rfl))) (fun _ _ _ _ _ _ => ptsd_nil) (fun _ _ _ _ _ _ => (pd_call k__law_line (hr.mono (by decide)) hg rfl pass0 kx0 (fun _ _ _ _ _ _ us hl => match us, hl with | [_, _], _ => rfl) (pda_cons (pd_var 0) (pda_cons (pd_var 2) pda_nil)))))))), fun xs G R h => v__law_lines xs G R RX h⟩
abbrev sp__law_contents : DSp := sp_drawBox
def r__law_contents : DS := (dRet (dCall sp__law_pick X0 (dCons (dVar 0) (dCons (dLst (dCons (dC (.int 0)) (dCons (dC (.int 1)) (dCons (dC (.int 2)) (dCons (dC .non) (dCons (dCall sp__law_hew X0 (dCons (dVar 0) (dCons (dC (.int 6)) dNil))) (dCons (dCall sp__law_hew X0 (dCons (dVar 0) (dCons (dC (.int 30)) dNil))) dNil))))))) dNil))))
theorem sc__law_contents : FnScope ["_law_quarry_here"] ["_law_quarry_here"] (defScope st__law_contents) := ⟨rfl, rfl, rfl, by decide +kernel, rfl, by decide +kernel, by decide +kernel⟩
theorem v__law_contents (xs : List D) (G : Gm) (R : KD) (RX : XD) (h : sp__law_contents xs G R RX) : r__law_contents { nx := fun _ G => R .non G, rt := R } (xs.map some ++ List.replicate (1 - xs.length) none) G := by
  exact drawBox_ok xs G R RX h
theorem l__law_contents (xs : List D) (G : Gm) (R : KD) (RX : XD) (h : sp__law_contents xs G R RX) : xs.length = 1 := by
  obtain ⟨_, _, rfl, _⟩ := h
  rfl
set_option maxHeartbeats 4000000 in
theorem k__law_contents {P : Program} {w : World} {K : PySem.W.Frag} {mg : Str → Option Value} {base : Heap} (T : Tx mg) (F : Df K mg "_law_contents" st__law_contents) (k__law_hew : Kn P w K mg base 1 "_law_hew" st__law_hew ["_law_quarry_here", "_law_many"] sp__law_hew) (k__law_pick : Kn P w K mg base 2 "_law_pick" st__law_pick ["_law_quarry_here", "_law_some"] sp__law_pick) :
    Kn P w K mg base 3 "_law_contents" st__law_contents ["_law_quarry_here"] sp__law_contents :=
  kn_of F.g F.f sc__law_contents l__law_contents fun cdv hcv A outer s H E B RX hr hg kx => ⟨r__law_contents, (psd_one (psd_ret (pd_call k__law_pick (hr.mono (by decide)) hg rfl pass0 kx0 (fun _ _ _ _ _ _ us hl => match us, hl with | [_, _], _ => rfl) (pda_cons (pd_var 0) (pda_cons (pd_lst (pda_cons pd_int (pda_cons pd_int (pda_cons pd_int (pda_cons pd_non (pda_cons (pd_call k__law_hew (hr.mono (by decide)) hg rfl pass0 kx0 (fun _ _ _ _ _ _ us hl => match us, hl with | [_, _], _ => rfl) (pda_cons (pd_var 0) (pda_cons pd_int pda_nil))) (pda_cons (pd_call k__law_hew (hr.mono (by decide)) hg rfl pass0 kx0 (fun _ _ _ _ _ _ us hl => match us, hl with | [_, _], _ => rfl) (pda_cons (pd_var 0) (pda_cons pd_int pda_nil))) pda_nil))))))) pda_nil))))), fun xs G R h => v__law_contents xs G R RX h⟩
abbrev sp__law_height : DSp := DL.sp_height
def r__law_height : DS := (dSeq (dIfS (dOr (dTst (dIsN (dVar 0))) (dTst (dOp fEq (dVar 0) (dC (.int 0))))) (dRet (dIf (dTst (dIsN (dVar 0))) (dC (.int 0)) (dC (.int 3)))) dNext) (dSeq (dSet 1 (dC (.int 1))) (dSeq (dFor (dIRng1 (dOp (fInt fun i j => .int (i - j)) (dVar 0) (dC (.int 1)))) (gN 2) (dSet 1 (dOp (fIntC IntMulOk fun i j => .int (i * j)) (dVar 1) (dC (.int 3))))) (dRet (dIf (dTst (dOp fEq (dVar 1) (dC (.int 1)))) (dC (.int 1)) (dTup (dCons (dC (.int 1)) (dCons (dVar 1) dNil))))))))
theorem sc__law_height : FnScope ["_law_contents_here", "_law_under", "_law_turn"] ["_law_contents_here"] (defScope st__law_height) := ⟨rfl, rfl, rfl, by decide +kernel, rfl, by decide +kernel, by decide +kernel⟩
theorem v__law_height (xs : List D) (G : Gm) (R : KD) (RX : XD) (h : sp__law_height xs G R RX) : r__law_height { nx := fun _ G => R .non G, rt := R } (xs.map some ++ List.replicate (3 - xs.length) none) G := by
  exact law_height_ok xs G R RX h
theorem l__law_height (xs : List D) (G : Gm) (R : KD) (RX : XD) (h : sp__law_height xs G R RX) : xs.length = 1 := by
  obtain ⟨_, rfl, _⟩ := h
  rfl
set_option maxHeartbeats 4000000 in
theorem k__law_height {P : Program} {w : World} {K : PySem.W.Frag} {mg : Str → Option Value} {base : Heap} (T : Tx mg) (F : Df K mg "_law_height" st__law_height) :
    Kn P w K mg base 1 "_law_height" st__law_height ["_law_contents_here"] sp__law_height :=
  kn_of F.g F.f sc__law_height l__law_height fun cdv hcv A outer s H E B RX hr hg kx => ⟨r__law_height, (psd_cons (psd_if (PW.pt (pwd_or (ptd_isN (pd_var 0)) (pwd_or1 (ptd_cmp (op_eq2 hr.units) od_eq (pd_var 0) pd_int (nomark _))))) (psd_one (psd_ret (pd_if (ptd_isN (pd_var 0)) pd_int pd_int))) psd_nil) (psd_cons (psd_set (i := 1) sc__law_height.nd rfl (by first | exact Or.inl rfl | exact Or.inr rfl) pd_int) (psd_cons (psd_for (passes_of rfl) rfl (pid_rng1 rfl T.f_range (pd_sub (pd_var 0) pd_int)) (pgd_name (i := 2) sc__law_height.nd rfl (by first | exact Or.inl rfl | exact Or.inr rfl)) (psd_one (psd_set (i := 1) sc__law_height.nd rfl (by first | exact Or.inl rfl | exact Or.inr rfl) (pd_mul (pd_var 1) pd_int)))) (psd_one (psd_ret (pd_if (ptd_cmp (op_eq2 hr.units) od_eq (pd_var 1) pd_int (nomark _)) pd_int (pd_tup (pda_cons pd_int (pda_cons (pd_var 1) pda_nil))))))))), fun xs G R h => v__law_height xs G R RX h⟩
abbrev sp__law_point : DSp := DL.sp_ptOf
def r__law_point : DS := (dRet (dTup (dCons (dCall sp__law_add X0 (dCons (dOp (fIntC IntMulOk fun i j => .int (i * j)) (dC (.int 4)) (dIx (dVar 0) (dC (.int 0)))) (dCons (dCall sp__law_height X0 (dCons (dIx (dVar 0) (dC (.int 1))) dNil)) dNil))) (dCons (dCall sp__law_height X0 (dCons (dIx (dVar 0) (dC (.int 2))) dNil)) dNil))))
theorem sc__law_point : FnScope ["_law_stand_here"] ["_law_stand_here"] (defScope st__law_point) := ⟨rfl, rfl, rfl, by decide +kernel, rfl, by decide +kernel, by decide +kernel⟩
theorem v__law_point (xs : List D) (G : Gm) (R : KD) (RX : XD) (h : sp__law_point xs G R RX) : r__law_point { nx := fun _ G => R .non G, rt := R } (xs.map some ++ List.replicate (1 - xs.length) none) G := by
  exact law_point_ok xs G R RX h
theorem l__law_point (xs : List D) (G : Gm) (R : KD) (RX : XD) (h : sp__law_point xs G R RX) : xs.length = 1 := by
  obtain ⟨_, rfl, _⟩ := h
  rfl
set_option maxHeartbeats 4000000 in
theorem k__law_point {P : Program} {w : World} {K : PySem.W.Frag} {mg : Str → Option Value} {base : Heap} (T : Tx mg) (F : Df K mg "_law_point" st__law_point) (k__law_add : Kn P w K mg base 2 "_law_add" st__law_add ["_law_one", "_law_other"] sp__law_add) (k__law_height : Kn P w K mg base 1 "_law_height" st__law_height ["_law_contents_here"] sp__law_height) :
    Kn P w K mg base 3 "_law_point" st__law_point ["_law_stand_here"] sp__law_point :=
  kn_of F.g F.f sc__law_point l__law_point fun cdv hcv A outer s H E B RX hr hg kx => ⟨r__law_point, (psd_one (psd_ret (pd_tup (pda_cons (pd_call k__law_add (hr.mono (by decide)) hg rfl pass0 kx0 (fun _ _ _ _ _ _ us hl => match us, hl with | [_, _], _ => rfl) (pda_cons (pd_mul pd_int (pd_ix (pd_var 0) pd_int (fun _ _ => rfl))) (pda_cons (pd_call k__law_height (hr.mono (by decide)) hg rfl pass0 kx0 (fun _ _ _ _ _ _ us hl => match us, hl with | [_], _ => rfl) (pda_cons (pd_ix (pd_var 0) pd_int (fun _ _ => rfl)) pda_nil)) pda_nil))) (pda_cons (pd_call k__law_height (hr.mono (by decide)) hg rfl pass0 kx0 (fun _ _ _ _ _ _ us hl => match us, hl with | [_], _ => rfl) (pda_cons (pd_ix (pd_var 0) pd_int (fun _ _ => rfl)) pda_nil)) pda_nil))))), fun xs G R h => v__law_point xs G R RX h⟩
abbrev sp__law_far_stand : DSp := sp_farStand
def r__law_far_stand : DS := (dSeq (dSet 2 (dLst (dCons (dCall sp__law_contents X0 (dCons (dVar 0) dNil)) (dCons (dCall sp__law_contents X0 (dCons (dVar 0) dNil)) (dCons (dC (.int 200)) (dCons (dC (.int 199)) (dCons (dCall sp__law_hew X0 (dCons (dVar 0) (dCons (dC (.int 201)) dNil))) dNil))))))) (dRet (dTup (dCons (dCall sp__law_hew X0 (dCons (dVar 0) (dCons (dCal fLen (dCons (dVar 1) dNil)) dNil))) (dCons (dCall sp__law_pick X0 (dCons (dVar 0) (dCons (dVar 2) dNil))) (dCons (dCall sp__law_pick X0 (dCons (dVar 0) (dCons (dRev (dVar 2)) dNil))) dNil))))))
theorem sc__law_far_stand : FnScope ["_law_quarry_here", "_law_lines_here", "_law_some"] ["_law_quarry_here", "_law_lines_here"] (defScope st__law_far_stand) := ⟨rfl, rfl, rfl, by decide +kernel, rfl, by decide +kernel, by decide +kernel⟩
theorem v__law_far_stand (xs : List D) (G : Gm) (R : KD) (RX : XD) (h : sp__law_far_stand xs G R RX) : r__law_far_stand { nx := fun _ G => R .non G, rt := R } (xs.map some ++ List.replicate (3 - xs.length) none) G := by
  obtain ⟨a, ls, T, rfl, lsok, hg, hT, h⟩ := h
  have l1 := lsok.1
  have l2 := lsok.2.1
  unfold r__law_far_stand
  walk_at "start"
  walk_at "xx"
  refine ⟨a, T, rfl, hg, by omega, fun b0 m0 hb0 hm0 => ?_⟩
  walk_at "xx"
  refine ⟨a, _, rfl, gau_gup hm0, by omega, fun b1 m1 hb1 hm1 => ?_⟩
  rw [gup_gup]
  walk_at "xx"
  refine DL.Y.dialN (gau_gup hm1) (by omega) (by decide) (by decide) fun v m2 hv hm2 => ?_
  rw [gup_gup]
  have box : ∀ y ∈ [bxD b0, bxD b1, .int 200, .int 199, .int v], ∃ b : Bx, y = bxD b ∧ bxLt 201 b := fun y hy => by
    simp only [List.mem_cons, List.mem_nil_iff, or_false] at hy
    rcases hy with rfl | rfl | rfl | rfl | rfl
    · exact ⟨b0, rfl, hb0.mono (by decide)⟩
    · exact ⟨b1, rfl, hb1.mono (by decide)⟩
    · exact ⟨some 200, rfl, fun n e => by cases e; decide⟩
    · exact ⟨some 199, rfl, fun n e => by cases e; decide⟩
    · exact ⟨some v, rfl, fun n e => by cases e; omega⟩
  walk_at "xx"
  refine DL.Y.dialN (gau_gup hm2) (by omega) (by rw [List.length_map]; omega) (by rw [List.length_map]; omega) fun l m3 hl hm3 => ?_
  rw [gup_gup]
  rw [List.length_map] at hl
  walk_at "xx"
  refine DL.Y.pickL (gau_gup hm3) (by omega) (by simp) (Nat.le_of_ble_eq_true rfl) fun y m4 hy hm4 => ?_
  rw [gup_gup]
  walk_at "xx"
  refine DL.Y.pickL (gau_gup hm4) (by omega) (by simp) (Nat.le_of_ble_eq_true rfl) fun z m5 hz hm5 => ?_
  rw [gup_gup]
  walk_at "xx"
  obtain ⟨by_, rfl, hby⟩ := box y hy
  obtain ⟨bz, rfl, hbz⟩ := box z (List.mem_reverse.mp hz)
  exact h ⟨l, by_, bz⟩ m5 (by show l < ls.length; omega) hby hbz (hm5.mono (by omega))
theorem l__law_far_stand (xs : List D) (G : Gm) (R : KD) (RX : XD) (h : sp__law_far_stand xs G R RX) : xs.length = 2 := by
  obtain ⟨_, _, _, rfl, _⟩ := h
  rfl
set_option maxHeartbeats 4000000 in
theorem k__law_far_stand {P : Program} {w : World} {K : PySem.W.Frag} {mg : Str → Option Value} {base : Heap} (T : Tx mg) (F : Df K mg "_law_far_stand" st__law_far_stand) (k__law_hew : Kn P w K mg base 1 "_law_hew" st__law_hew ["_law_quarry_here", "_law_many"] sp__law_hew) (k__law_pick : Kn P w K mg base 2 "_law_pick" st__law_pick ["_law_quarry_here", "_law_some"] sp__law_pick) (k__law_contents : Kn P w K mg base 3 "_law_contents" st__law_contents ["_law_quarry_here"] sp__law_contents) :
    Kn P w K mg base 4 "_law_far_stand" st__law_far_stand ["_law_quarry_here", "_law_lines_here"] sp__law_far_stand :=
  kn_of F.g F.f sc__law_far_stand l__law_far_stand fun cdv hcv A outer s H E B RX hr hg kx => ⟨r__law_far_stand, (psd_cons (psd_set (i := 2) sc__law_far_stand.nd rfl (by first | exact Or.inl rfl | exact Or.inr rfl) (pd_lst (pda_cons (pd_call k__law_contents (hr.mono (by decide)) hg rfl pass0 kx0 (fun _ _ _ _ _ _ us hl => match us, hl with | [_], _ => rfl) (pda_cons (pd_var 0) pda_nil)) (pda_cons (pd_call k__law_contents (hr.mono (by decide)) hg rfl pass0 kx0 (fun _ _ _ _ _ _ us hl => match us, hl with | [_], _ => rfl) (pda_cons (pd_var 0) pda_nil)) (pda_cons pd_int (pda_cons pd_int (pda_cons (pd_call k__law_hew (hr.mono (by decide)) hg rfl pass0 kx0 (fun _ _ _ _ _ _ us hl => match us, hl with | [_, _], _ => rfl) (pda_cons (pd_var 0) (pda_cons pd_int pda_nil))) pda_nil))))))) (psd_one (psd_ret (pd_tup (pda_cons (pd_call k__law_hew (hr.mono (by decide)) hg rfl pass0 kx0 (fun _ _ _ _ _ _ us hl => match us, hl with | [_, _], _ => rfl) (pda_cons (pd_var 0) (pda_cons (pd_len rfl rfl T.f_len (pd_var 1)) pda_nil))) (pda_cons (pd_call k__law_pick (hr.mono (by decide)) hg rfl pass0 kx0 (fun _ _ _ _ _ _ us hl => match us, hl with | [_, _], _ => rfl) (pda_cons (pd_var 0) (pda_cons (pd_var 2) pda_nil))) (pda_cons (pd_call k__law_pick (hr.mono (by decide)) hg rfl pass0 kx0 (fun _ _ _ _ _ _ us hl => match us, hl with | [_, _], _ => rfl) (pda_cons (pd_var 0) (pda_cons (pd_rev (pd_var 2)) pda_nil))) pda_nil))))))), fun xs G R h => v__law_far_stand xs G R RX h⟩
abbrev sp__law_no_height : DSp := DL.sp_noHeight
def r__law_no_height : DS := (dSeq (dSet 1 (dC (.int 1))) (dSeq (dFor (dIRng1 (dCall sp__law_hew X0 (dCons (dVar 0) (dCons (dC (.int 9)) dNil)))) (gN 2) (dSet 1 (dOp (fIntC IntMulOk fun i j => .int (i * j)) (dVar 1) (dC (.int 3))))) (dSeq (dSet 3 (dLst (dCons (dTup (dCons (dC (.int 1)) (dCons (dC (.int 2)) dNil))) (dCons (dC (.int 2)) (dCons (dTup (dCons (dC (.int 5)) (dCons (dC (.int 2)) dNil))) (dCons (dTup (dCons (dC (.int 2)) (dCons (dC (.int 9)) dNil))) (dCons (dTup (dCons (dC (.int 4)) (dCons (dC (.int 9)) dNil))) (dCons (dNeg (dC (.int 1))) (dCons (dC (.int 4)) (dCons (dC (.int 9)) (dCons (dTup (dCons (dNeg (dC (.int 1))) (dCons (dC (.int 3)) dNil))) (dCons (dTup (dCons (dC (.int 1)) (dCons (dC (.int 6)) dNil))) (dCons (dCall sp__law_form X0 (dCons (dC (.int 2)) (dCons (dOp (fIntC IntMulOk fun i j => .int (i * j)) (dC (.int 3)) (dVar 1)) dNil))) (dCons (dCall sp__law_form X0 (dCons (dOp fAdd (dOp (fIntC IntMulOk fun i j => .int (i * j)) (dC (.int 3)) (dVar 1)) (dC (.int 1))) (dCons (dOp (fIntC IntMulOk fun i j => .int (i * j)) (dC (.int 9)) (dVar 1)) dNil))) (dCons (dTup (dCons (dC (.int 8)) (dCons (dC (.int 3)) dNil))) (dCons (dTup (dCons (dC (.int 3)) (dCons (dC (.int 2)) dNil))) dNil)))))))))))))))) (dRet (dCall sp__law_pick X0 (dCons (dVar 0) (dCons (dVar 3) dNil)))))))
theorem sc__law_no_height : FnScope ["_law_quarry_here", "_law_under", "_law_turn", "_law_some"] ["_law_quarry_here"] (defScope st__law_no_height) := ⟨rfl, rfl, rfl, by decide +kernel, rfl, by decide +kernel, by decide +kernel⟩
theorem v__law_no_height (xs : List D) (G : Gm) (R : KD) (RX : XD) (h : sp__law_no_height xs G R RX) : r__law_no_height { nx := fun _ G => R .non G, rt := R } (xs.map some ++ List.replicate (4 - xs.length) none) G := by
  exact noHeight_ok xs G R RX h
theorem l__law_no_height (xs : List D) (G : Gm) (R : KD) (RX : XD) (h : sp__law_no_height xs G R RX) : xs.length = 1 := by
  obtain ⟨_, _, rfl, _⟩ := h
  rfl
set_option maxHeartbeats 4000000 in
theorem k__law_no_height {P : Program} {w : World} {K : PySem.W.Frag} {mg : Str → Option Value} {base : Heap} (T : Tx mg) (F : Df K mg "_law_no_height" st__law_no_height) (k__law_hew : Kn P w K mg base 1 "_law_hew" st__law_hew ["_law_quarry_here", "_law_many"] sp__law_hew) (k__law_pick : Kn P w K mg base 2 "_law_pick" st__law_pick ["_law_quarry_here", "_law_some"] sp__law_pick) (k__law_form : Kn P w K mg base 1 "_law_form" st__law_form ["_law_above", "_law_under"] sp__law_form) :
    Kn P w K mg base 3 "_law_no_height" st__law_no_height ["_law_quarry_here"] sp__law_no_height :=
  kn_of F.g F.f sc__law_no_height l__law_no_height fun cdv hcv A outer s H E B RX hr hg kx => ⟨r__law_no_height, (psd_cons (psd_set (i := 1) sc__law_no_height.nd rfl (by first | exact Or.inl rfl | exact Or.inr rfl) pd_int) (psd_cons (psd_for (passes_of rfl) rfl (pid_rng1 rfl T.f_range (pd_call k__law_hew (hr.mono (by decide)) hg rfl pass0 kx0 (fun _ _ _ _ _ _ us hl => match us, hl with | [_, _], _ => rfl) (pda_cons (pd_var 0) (pda_cons pd_int pda_nil)))) (pgd_name (i := 2) sc__law_no_height.nd rfl (by first | exact Or.inl rfl | exact Or.inr rfl)) (psd_one (psd_set (i := 1) sc__law_no_height.nd rfl (by first | exact Or.inl rfl | exact Or.inr rfl) (pd_mul (pd_var 1) pd_int)))) (psd_cons (psd_set (i := 3) sc__law_no_height.nd rfl (by first | exact Or.inl rfl | exact Or.inr rfl) (pd_lst (pda_cons (pd_tup (pda_cons pd_int (pda_cons pd_int pda_nil))) (pda_cons pd_int (pda_cons (pd_tup (pda_cons pd_int (pda_cons pd_int pda_nil))) (pda_cons (pd_tup (pda_cons pd_int (pda_cons pd_int pda_nil))) (pda_cons (pd_tup (pda_cons pd_int (pda_cons pd_int pda_nil))) (pda_cons (pd_neg pd_int) (pda_cons pd_int (pda_cons pd_int (pda_cons (pd_tup (pda_cons (pd_neg pd_int) (pda_cons pd_int pda_nil))) (pda_cons (pd_tup (pda_cons pd_int (pda_cons pd_int pda_nil))) (pda_cons (pd_call k__law_form (hr.mono (by decide)) hg rfl pass0 kx0 (fun _ _ _ _ _ _ us hl => match us, hl with | [_, _], _ => rfl) (pda_cons pd_int (pda_cons (pd_mul pd_int (pd_var 1)) pda_nil))) (pda_cons (pd_call k__law_form (hr.mono (by decide)) hg rfl pass0 kx0 (fun _ _ _ _ _ _ us hl => match us, hl with | [_, _], _ => rfl) (pda_cons (pd_add (pd_mul pd_int (pd_var 1)) pd_int) (pda_cons (pd_mul pd_int (pd_var 1)) pda_nil))) (pda_cons (pd_tup (pda_cons pd_int (pda_cons pd_int pda_nil))) (pda_cons (pd_tup (pda_cons pd_int (pda_cons pd_int pda_nil))) pda_nil)))))))))))))))) (psd_one (psd_ret (pd_call k__law_pick (hr.mono (by decide)) hg rfl pass0 kx0 (fun _ _ _ _ _ _ us hl => match us, hl with | [_, _], _ => rfl) (pda_cons (pd_var 0) (pda_cons (pd_var 3) pda_nil)))))))), fun xs G R h => v__law_no_height xs G R RX h⟩
def tt__law_heard : ActD → Gm → KD → Prop := ttH
def r__law_heard (f : Addr) (act : ActD) : DS := (dSeq (dSet 1 (dC .non)) (dSeq (dTryH 2 1 errs (dAct f act)) (dSeq (dIfS (dTst (dIsO errs subE ["BadProgram"] (dVar 1))) (dRet (dTup (dCons (dC (.str "program")) (dCons (dXf errs "part" (dVar 1)) dNil)))) dNext) (dSeq (dIfS (dTst (dIsO errs subE ["BadStand"] (dVar 1))) (dRet (dTup (dCons (dC (.str "stand")) (dCons (dXf errs "part" (dVar 1)) dNil)))) dNext) (dSeq (dIfS (dTst (dIsO errs subE ["TooMany"] (dVar 1))) (dRet (dTup (dCons (dXf errs "what" (dVar 1)) (dCons (dXf errs "most" (dVar 1)) dNil)))) dNext) (dRet (dIf (dTst (dIsO errs subE ["BadPoint"] (dVar 1))) (dTup (dCons (dC (.str "point")) (dCons (dXf errs "part" (dVar 1)) dNil))) (dIf (dTst (dIsN (dVar 1))) (dC .non) (dTup (dCons (dC (.str "other")) (dCons (dC .non) dNil)))))))))))
theorem sc__law_heard : FnScope ["_law_ask", "_law_caught", "error"] ["_law_ask"] (defScope st__law_heard) := ⟨rfl, rfl, rfl, by decide +kernel, rfl, by decide +kernel, by decide +kernel⟩
theorem v__law_heard (f : Addr) (act : ActD) (G : Gm) (R : KD) (h : tt__law_heard act G R) : r__law_heard f act { nx := fun _ G => R .non G, rt := R } (some (.ref f) :: List.replicate 2 none) G := by
  obtain ⟨RK, RXK, ha, h1, h2⟩ := h
  unfold r__law_heard
  walk_at "start"
  walk_at "xx"
  refine ⟨rfl, RK, RXK, ha, fun d G' q => ?_, fun C ns xs G' q => ?_⟩
  · walk_at "xx"
    exact h1 d G' q
  · rcases h2 C ns xs G' q with ⟨z, w, hz, hC, hc⟩ | ⟨rfl, z, w, hz, hw, hc⟩
    · unfold hkL at hC
      simp only [List.mem_cons, List.mem_nil_iff, or_false, Prod.mk.injEq] at hC
      rcases hC with ⟨rfl, rfl⟩ | ⟨rfl, rfl⟩ | ⟨rfl, rfl⟩
      all_goals refine ⟨by decide +kernel, ?_⟩
      all_goals walk_at "xx"
      all_goals exact hc
    · refine ⟨by decide +kernel, ?_⟩
      walk_at "xx"
      exact hc
set_option maxHeartbeats 4000000 in
theorem k__law_heard {P : Program} {w : World} {K : PySem.W.Frag} {mg : Str → Option Value} {base : Heap} (T : Tx mg) (F : Df K mg "_law_heard" st__law_heard) (I : IsC K mg errs subE errF) :
    KnL P w K mg base 0 "_law_heard" "_law_ask" st__law_heard ["_law_ask", "_law_caught", "error"] tt__law_heard :=
  ⟨F.g, F.f, sc__law_heard, rfl, .inl rfl, fun cdv A outer s H E B f actD hr hg act => ⟨r__law_heard f actD, (psd_cons (psd_set (i := 1) sc__law_heard.nd rfl (by first | exact Or.inl rfl | exact Or.inr rfl) pd_non) (psd_cons (psd_tryH (i := 2) (j := 1) (cs := errs) (fun C hC => (I.m C hC "TileError" (by decide +kernel)).trans (congrArg some (sub_TileError C hC))) rfl rfl sc__law_heard.nd rfl rfl rfl rfl (by decide) ⟨rfl, by decide, .inl (I.g _ (by decide +kernel))⟩ (fun W pins xe tk => (act W _ _ _ _ tk))) (psd_cons (psd_if (ptd_val (pd_isO I (by decide +kernel) rfl rfl T.f_isinstance rfl (pd_var 1))) (psd_one (psd_ret (pd_tup (pda_cons pd_str (pda_cons (pd_xf I (by decide +kernel) (pd_var 1)) pda_nil))))) psd_nil) (psd_cons (psd_if (ptd_val (pd_isO I (by decide +kernel) rfl rfl T.f_isinstance rfl (pd_var 1))) (psd_one (psd_ret (pd_tup (pda_cons pd_str (pda_cons (pd_xf I (by decide +kernel) (pd_var 1)) pda_nil))))) psd_nil) (psd_cons (psd_if (ptd_val (pd_isO I (by decide +kernel) rfl rfl T.f_isinstance rfl (pd_var 1))) (psd_one (psd_ret (pd_tup (pda_cons (pd_xf I (by decide +kernel) (pd_var 1)) (pda_cons (pd_xf I (by decide +kernel) (pd_var 1)) pda_nil))))) psd_nil) (psd_one (psd_ret (pd_if (ptd_val (pd_isO I (by decide +kernel) rfl rfl T.f_isinstance rfl (pd_var 1))) (pd_tup (pda_cons pd_str (pda_cons (pd_xf I (by decide +kernel) (pd_var 1)) pda_nil))) (pd_if (ptd_isN (pd_var 1)) pd_non (pd_tup (pda_cons pd_str (pda_cons pd_non pda_nil)))))))))))), fun G R h => v__law_heard f actD G R h⟩⟩
abbrev sp__law_others_right : DSp := sp_others
def r__law_others_right : DS := (dSeq (dPar 3 4 (dCons (dMake "Program" sp_Program___init__ X0 (dCons (dVar 1) dNil)) (dCons (dCall sp__law_point X0 (dCons (dVar 2) dNil)) dNil))) (dSeq (dSet 5 (dCall sp__law_no_height X0 (dCons (dVar 0) dNil))) (dSeq (dSet 6 (dLst (dCons (dTup (dCons (dIx (dVar 4) (dC (.int 0))) (dCons (dVar 5) dNil))) (dCons (dIf (dAnd (dTst (dCall sp__law_less X0 (dCons (dNeg (dC (.int 1))) (dCons (dVar 5) dNil)))) (dAnd (dTst (dCall sp__law_less X0 (dCons (dVar 5) (dCons (dC (.int 4)) dNil)))) (dTst (dOp fNe (dVar 5) (dNeg (dC (.int 1))))))) (dTup (dCons (dCall sp__law_add X0 (dCons (dOp (fIntC IntMulOk fun i j => .int (i * j)) (dC (.int 4)) (dIx (dVar 2) (dC (.int 0)))) (dCons (dVar 5) dNil))) (dCons (dIx (dVar 4) (dC (.int 1))) dNil))) (dTup (dCons (dIx (dVar 4) (dC (.int 0))) (dCons (dTup (dCons (dC (.int 1)) (dCons (dC (.int 2)) dNil))) dNil)))) dNil)))) (dSeq (dSet 6 (dOp fAddL (dVar 6) (dLst (dCons (dTup (dCons (dCall sp__law_add X0 (dCons (dOp (fIntC IntMulOk fun i j => .int (i * j)) (dC (.int 4)) (dCal fLen (dCons (dVar 1) dNil))) (dCons (dCall sp__law_height X0 (dCons (dIx (dVar 2) (dC (.int 1))) dNil)) dNil))) (dCons (dIx (dVar 4) (dC (.int 1))) dNil))) (dCons (dTup (dCons (dCall sp__law_add X0 (dCons (dNeg (dC (.int 4))) (dCons (dCall sp__law_height X0 (dCons (dIx (dVar 2) (dC (.int 1))) dNil)) dNil))) (dCons (dIx (dVar 4) (dC (.int 1))) dNil))) (dCons (dTup (dCons (dIx (dVar 4) (dC (.int 0))) (dCons (dCall sp__law_mul X0 (dCons (dIx (dVar 4) (dC (.int 1))) (dCons (dTup (dCons (dC (.int 7)) (dCons (dC (.int 5)) dNil))) dNil))) dNil))) dNil)))))) (dSeq (dFor (dISeq (dOp fAddL (dSl (dVar 6) dNoP (dPart (dC (.int 4)))) (dIf (dTst (dOp fNe (dIx (dVar 4) (dC (.int 1))) (dC (.int 0)))) (dSl (dVar 6) (dPart (dC (.int 4))) dNoP) (dLst dNil)))) (gN 7) (dIfS (dTst (dNotN (dCall sp_stand_of X0 (dCons (dVar 3) (dCons (dVar 7) dNil))))) (dRet (dC (.bl false))) dNext)) (dRet (dC (.bl true))))))))
theorem sc__law_others_right : FnScope ["_law_quarry_here", "_law_lines_here", "_law_stand_here", "_law_program", "_law_point_here", "_law_none", "_law_others", "_law_other"] ["_law_quarry_here", "_law_lines_here", "_law_stand_here"] (defScope st__law_others_right) := ⟨rfl, rfl, rfl, by decide +kernel, rfl, by decide +kernel, by decide +kernel⟩
theorem v__law_others_right (xs : List D) (G : Gm) (R : KD) (RX : XD) (h : sp__law_others_right xs G R RX) : r__law_others_right { nx := fun _ G => R .non G, rt := R } (xs.map some ++ List.replicate (8 - xs.length) none) G := by
  obtain ⟨a, ls, s, T, rfl, lsok, hl, hx, hy, hg, hT, h⟩ := h
  have l2 := lsok.2.1
  unfold r__law_others_right
  walk_at "start"
  walk_at "xx"
  refine DL.Y.mkP (.inl rfl) lsok ?_
  walk_at "xx"
  refine ⟨s, rfl, by omega, hx.mono (by decide), hy.mono (by decide), ?_⟩
  walk_at "xx"
  refine ⟨a, T, rfl, hg, by omega, fun z m hz hm => ?_⟩
  walk_at "xs"
  have c0 : Cz 600 (pt0 s) := (pt0_cz (N := 200) (by omega) hx (by decide)).mono
  have c1 : Cz 600 (hgt s.y) := (hgt_cz (N := 200) hy (by decide)).mono
  have c2 : Cz 450 (hgt s.x) := (hgt_cz (N := 200) hx (by decide)).mono
  have o1 : Out ls.length (.tup [pt0 s, z]) := ⟨_, _, rfl, c0, hz.cz.mono, .inr (.inr hz.no)⟩
  have no12 : NoZ (.tup [.int 1, .int 2]) := noL_all (k := 0) (by decide) _ (by unfold noL; simp)
  refine DL.Y.join (fun w => Out ls.length w) ?_ fun w2 o2 => ?_
  · by_cases h1 : ltN (.int (-1)) z = true ∧ ltN z (.int 4) = true ∧ z ≠ .int (-1)
    · obtain ⟨h1, h4, hne⟩ := h1
      refine ⟨.tup [plusZ (.int (4 * (s.l : Int))) z, hgt s.y], ⟨_, _, rfl, (cz_plus hz.cz (by omega)).mono, c1, .inr (.inl (out_on hz ?_ ?_))⟩, fun R r => ?_⟩
      · rw [DL.int_lt] at h1
        have := of_decide_eq_true h1
        omega
      · rw [DL.lt_int] at h4
        have := of_decide_eq_true h4
        omega
      · walk_at "xx"
        refine ⟨_, _, rfl, (cz_int (k := 3) (by decide) (by decide)).mono, hz.cz.mono, ?_⟩
        dsimp only
        rw [h1]
        walk_at "xx"
        refine ⟨_, _, rfl, hz.cz.mono, (cz_int (k := 3) (by decide) (by decide)).mono, ?_⟩
        dsimp only
        rw [h4]
        walk_at "xx"
        refine DL.Y.neZ (k := false) hz.cz (cz_int (i := -1) (k := 3) (by decide) (by decide)) ⟨fun e => absurd e hne, fun e => by cases e⟩ ?_
        walk_at "xx"
        refine ⟨_, _, rfl, (cz_int (k := 20) (by omega) (by decide)).mono, hz.cz.mono, ?_⟩
        walk_at "xx"
        exact r
    · refine ⟨.tup [pt0 s, .tup [.int 1, .int 2]], ⟨_, _, rfl, c0, no12.cz.mono, .inr (.inr no12.no)⟩, fun R r => ?_⟩
      walk_at "xx"
      refine ⟨_, _, rfl, (cz_int (k := 3) (by decide) (by decide)).mono, hz.cz.mono, ?_⟩
      dsimp only
      cases e1 : ltN (.int (-1)) z with
      | false =>
        walk_at "xx"
        exact r
      | true =>
        walk_at "xx"
        refine ⟨_, _, rfl, hz.cz.mono, (cz_int (k := 3) (by decide) (by decide)).mono, ?_⟩
        dsimp only
        cases e4 : ltN z (.int 4) with
        | false =>
          walk_at "xx"
          exact r
        | true =>
          walk_at "xx"
          refine DL.Y.neZ (k := true) hz.cz (cz_int (i := -1) (k := 3) (by decide) (by decide)) ⟨fun e => rfl, fun _ => Classical.byContradiction fun e => h1 ⟨e1, e4, e⟩⟩ ?_
          walk_at "xx"
          exact r
  walk_at "xx"
  rw [List.length_map]
  refine ⟨s.x, rfl, hx.mono (by decide), ?_⟩
  refine ⟨_, _, rfl, (cz_int (k := 20) (by omega) (by decide)).mono, c2.mono, ?_⟩
  walk_at "xx"
  refine ⟨s.x, rfl, hx.mono (by decide), ?_⟩
  refine ⟨_, _, rfl, (cz_int (k := 20) (by decide) (by decide)).mono, c2.mono, ?_⟩
  walk_at "xx"
  refine ⟨_, _, rfl, c1.mono, Cz.mono (j := 3) ⟨7, 5, rfl, by decide, by decide, by decide, by decide⟩, ?_⟩
  walk_at "xs"
  have o3 : Out ls.length (.tup [plusZ (.int (4 * (ls.length : Int))) (hgt s.x), hgt s.y]) := ⟨_, _, rfl, (cz_plus c2 (by omega)).mono, c1, .inl (by rw [(part_hgt (l := (ls.length : Int)) (b := s.x)).1]; omega)⟩
  have o4 : Out ls.length (.tup [plusZ (.int (-4)) (hgt s.x), hgt s.y]) := ⟨_, _, rfl, (cz_plus c2 (by decide)).mono, c1, .inl (by rw [show (-4 : Int) = 4 * (-1) by decide, (part_hgt (l := -1) (b := s.x)).1]; omega)⟩
  refine DL.Y.join (fun w => ∃ ys, w = .lst ys ∧ ys.length ≤ 1 ∧ ∀ y ∈ ys, Out ls.length y) ?_ fun w ⟨ys, ew, hys, hy2⟩ => ?_
  · by_cases hb : s.y = none
    · refine ⟨.lst [], ⟨[], rfl, by decide, by simp⟩, fun R r => ?_⟩
      walk_at "xx"
      refine DL.Y.neZ (k := true) c1 (cz_int (i := 0) (k := 3) (by decide) (by decide)) ⟨fun e => rfl, fun _ => by rw [hb]; rfl⟩ ?_
      walk_at "xx"
      exact r
    · obtain ⟨t1, t2⟩ := times75 (N := 200) hy (by decide) hb
      refine ⟨.lst [.tup [pt0 s, timesZ (hgt s.y) (.tup [.int 7, .int 5])]], ⟨_, rfl, Nat.le_refl _, fun y hy => ?_⟩, fun R r => ?_⟩
      · rw [List.mem_singleton.mp hy]
        exact ⟨_, _, rfl, c0, t2.mono, .inr (.inr t1)⟩
      · walk_at "xx"
        refine DL.Y.neZ (k := false) c1 (cz_int (i := 0) (k := 3) (by decide) (by decide)) ⟨fun e => absurd (hgt_inj (e.trans (show D.int 0 = hgt none from rfl))) hb, fun e => by cases e⟩ ?_
        walk_at "xx"
        exact r
  · subst ew
    walk_at "xx"
    · show 4 + ys.length ≤ 10000000
      omega
    walk_at "xx"
    refine forL_inv (fun ρ G' => G' = gup G a m ∧ ∃ o7, ρ = [some (.ref a), some (.lst (ls.map Ln.d)), some s.d, some (progD ls), some (ptD s), some z, some (.lst ([.tup [pt0 s, z], w2] ++ [.tup [plusZ (.int (4 * (ls.length : Int))) (hgt s.x), hgt s.y], .tup [plusZ (.int (-4)) (hgt s.x), hgt s.y], .tup [pt0 s, timesZ (hgt s.y) (.tup [.int 7, .int 5])]])), o7]) ?_ ?_ ⟨rfl, _, rfl⟩
    · rintro w hw N ρ G1 hN ⟨rfl, o7, rfl⟩
      have ho : Out ls.length w := by
        rcases List.mem_append.mp hw with q | q
        · simp only [List.mem_cons, List.mem_nil_iff, or_false] at q
          rcases q with rfl | rfl | rfl | rfl
          · exact o1
          · exact o2
          · exact o3
          · exact o4
        · exact hy2 w q
      walk_at "xx"
      refine out_none ho ?_
      walk_at "xx"
      exact hN _ _ ⟨rfl, _, rfl⟩
    · rintro ρ G1 ⟨rfl, o7, rfl⟩
      walk_at "xx"
      exact h m hm
theorem l__law_others_right (xs : List D) (G : Gm) (R : KD) (RX : XD) (h : sp__law_others_right xs G R RX) : xs.length = 3 := by
  obtain ⟨_, _, _, _, rfl, _⟩ := h
  rfl
set_option maxHeartbeats 4000000 in
theorem k__law_others_right {P : Program} {w : World} {K : PySem.W.Frag} {mg : Str → Option Value} {base : Heap} (T : Tx mg) (F : Df K mg "_law_others_right" st__law_others_right) (W : OwC K mg cls subC) (mk_Program : L2.Mk K (He.ga K "Program") (He.ma K (He.ga K "Program") "__init__")) (k_Program___init__ : KnM P w K mg base 4 "Program" "__init__" st_Program___init__ ["self", "lines"] sp_Program___init__) (k_stand_of : Kn P w K mg base 6 "stand_of" st_stand_of ["program", "point"] sp_stand_of) (k__law_add : Kn P w K mg base 2 "_law_add" st__law_add ["_law_one", "_law_other"] sp__law_add) (k__law_mul : Kn P w K mg base 2 "_law_mul" st__law_mul ["_law_one", "_law_other"] sp__law_mul) (k__law_less : Kn P w K mg base 2 "_law_less" st__law_less ["_law_one", "_law_other"] sp__law_less) (k__law_height : Kn P w K mg base 1 "_law_height" st__law_height ["_law_contents_here"] sp__law_height) (k__law_point : Kn P w K mg base 3 "_law_point" st__law_point ["_law_stand_here"] sp__law_point) (k__law_no_height : Kn P w K mg base 3 "_law_no_height" st__law_no_height ["_law_quarry_here"] sp__law_no_height) :
    Kn P w K mg base 7 "_law_others_right" st__law_others_right ["_law_quarry_here", "_law_lines_here", "_law_stand_here"] sp__law_others_right :=
  kn_of F.g F.f sc__law_others_right l__law_others_right fun cdv hcv A outer s H E B RX hr hg kx => ⟨r__law_others_right, (psd_cons (psd_par (i := 3) (j := 4) rfl sc__law_others_right.nd rfl rfl (by decide) rfl rfl (pda_cons (pd_makeI k_Program___init__.toI mk_Program (W.g ("Program", ["lines"]) (by decide +kernel)) (hr.mono (by decide)) hg rfl pass0 kx0 (fun fd e1 e2 us hl => by obtain ⟨_, _, _, _, _, _, _, _, _, _, _, _, _, _, _⟩ := fd; cases e1; cases e2; exact match us, hl with | [_, _], _ => rfl) (pda_cons (pd_var 1) pda_nil)) (pda_cons (pd_call k__law_point (hr.mono (by decide)) hg rfl pass0 kx0 (fun _ _ _ _ _ _ us hl => match us, hl with | [_], _ => rfl) (pda_cons (pd_var 2) pda_nil)) pda_nil)) rfl) (psd_cons (psd_set (i := 5) sc__law_others_right.nd rfl (by first | exact Or.inl rfl | exact Or.inr rfl) (pd_call k__law_no_height (hr.mono (by decide)) hg rfl pass0 kx0 (fun _ _ _ _ _ _ us hl => match us, hl with | [_], _ => rfl) (pda_cons (pd_var 0) pda_nil))) (psd_cons (psd_set (i := 6) sc__law_others_right.nd rfl (by first | exact Or.inl rfl | exact Or.inr rfl) (pd_lst (pda_cons (pd_tup (pda_cons (pd_ix (pd_var 4) pd_int (fun _ _ => rfl)) (pda_cons (pd_var 5) pda_nil))) (pda_cons (pd_if (PW.pt (pwd_and (ptd_val (pd_call k__law_less (hr.mono (by decide)) hg rfl pass0 kx0 (fun _ _ _ _ _ _ us hl => match us, hl with | [_, _], _ => rfl) (pda_cons (pd_neg pd_int) (pda_cons (pd_var 5) pda_nil)))) (pwd_and (ptd_val (pd_call k__law_less (hr.mono (by decide)) hg rfl pass0 kx0 (fun _ _ _ _ _ _ us hl => match us, hl with | [_, _], _ => rfl) (pda_cons (pd_var 5) (pda_cons pd_int pda_nil)))) (pwd_and1 (ptd_cmp (op_ne2 hr.units) od_ne (pd_var 5) (pd_neg pd_int) (nomark _)))))) (pd_tup (pda_cons (pd_call k__law_add (hr.mono (by decide)) hg rfl pass0 kx0 (fun _ _ _ _ _ _ us hl => match us, hl with | [_, _], _ => rfl) (pda_cons (pd_mul pd_int (pd_ix (pd_var 2) pd_int (fun _ _ => rfl))) (pda_cons (pd_var 5) pda_nil))) (pda_cons (pd_ix (pd_var 4) pd_int (fun _ _ => rfl)) pda_nil))) (pd_tup (pda_cons (pd_ix (pd_var 4) pd_int (fun _ _ => rfl)) (pda_cons (pd_tup (pda_cons pd_int (pda_cons pd_int pda_nil))) pda_nil)))) pda_nil)))) (psd_cons (psd_set (i := 6) sc__law_others_right.nd rfl (by first | exact Or.inl rfl | exact Or.inr rfl) (pd_addL (pd_var 6) (pd_lst (pda_cons (pd_tup (pda_cons (pd_call k__law_add (hr.mono (by decide)) hg rfl pass0 kx0 (fun _ _ _ _ _ _ us hl => match us, hl with | [_, _], _ => rfl) (pda_cons (pd_mul pd_int (pd_len rfl rfl T.f_len (pd_var 1))) (pda_cons (pd_call k__law_height (hr.mono (by decide)) hg rfl pass0 kx0 (fun _ _ _ _ _ _ us hl => match us, hl with | [_], _ => rfl) (pda_cons (pd_ix (pd_var 2) pd_int (fun _ _ => rfl)) pda_nil)) pda_nil))) (pda_cons (pd_ix (pd_var 4) pd_int (fun _ _ => rfl)) pda_nil))) (pda_cons (pd_tup (pda_cons (pd_call k__law_add (hr.mono (by decide)) hg rfl pass0 kx0 (fun _ _ _ _ _ _ us hl => match us, hl with | [_, _], _ => rfl) (pda_cons (pd_neg pd_int) (pda_cons (pd_call k__law_height (hr.mono (by decide)) hg rfl pass0 kx0 (fun _ _ _ _ _ _ us hl => match us, hl with | [_], _ => rfl) (pda_cons (pd_ix (pd_var 2) pd_int (fun _ _ => rfl)) pda_nil)) pda_nil))) (pda_cons (pd_ix (pd_var 4) pd_int (fun _ _ => rfl)) pda_nil))) (pda_cons (pd_tup (pda_cons (pd_ix (pd_var 4) pd_int (fun _ _ => rfl)) (pda_cons (pd_call k__law_mul (hr.mono (by decide)) hg rfl pass0 kx0 (fun _ _ _ _ _ _ us hl => match us, hl with | [_, _], _ => rfl) (pda_cons (pd_ix (pd_var 4) pd_int (fun _ _ => rfl)) (pda_cons (pd_tup (pda_cons pd_int (pda_cons pd_int pda_nil))) pda_nil))) pda_nil))) pda_nil)))))) (psd_cons (psd_for (passes_of rfl) rfl (pid_seq (pd_addL (pd_slice (pd_var 6) pod_none (pod_some pd_int)) (pd_if (ptd_cmp (op_ne2 hr.units) od_ne (pd_ix (pd_var 4) pd_int (fun _ _ => rfl)) pd_int (nomark _)) (pd_slice (pd_var 6) (pod_some pd_int) pod_none) (pd_lst pda_nil)))) (pgd_name (i := 7) sc__law_others_right.nd rfl (by first | exact Or.inl rfl | exact Or.inr rfl)) (psd_one (psd_if (ptd_notN (pd_call k_stand_of (hr.mono (by decide)) hg rfl pass0 kx0 (fun _ _ _ _ _ _ us hl => match us, hl with | [_, _], _ => rfl) (pda_cons (pd_var 3) (pda_cons (pd_var 7) pda_nil)))) (psd_one (psd_ret pd_bl)) psd_nil))) (psd_one (psd_ret pd_bl))))))), fun xs G R h => v__law_others_right xs G R RX h⟩
abbrev sp__law_refused_right : DSp := sp_refused
def r__law_refused_right : DS := (dSeq (dAsg (dTup (dCons (dMake "Program" sp_Program___init__ X0 (dCons (dVar 1) dNil)) (dCons (dCal fLen (dCons (dVar 1) dNil)) dNil))) (gSeq 2 (gCons (gN 3) (gCons (gN 4) gNil)))) (dSeq (dSet 5 (dCall sp__law_pick X0 (dCons (dVar 0) (dCons (dLst (dCons (dC .non) (dCons (dC (.int 5)) (dCons (dVar 1) (dCons (dC (.str "stop")) (dCons (dC (.bl true)) dNil)))))) dNil)))) (dSeq (dSet 6 (dCall sp__law_pick X0 (dCons (dVar 0) (dCons (dLst (dCons (dC .non) (dCons (dC (.int 5)) (dCons (dOp fAddT (dVar 2) (dTup (dCons (dC (.int 0)) dNil))) (dCons (dSl (dVar 2) dNoP (dPart (dC (.int 2)))) (dCons (dTup (dCons (dVar 4) (dCons (dC (.int 0)) (dCons (dC (.int 0)) dNil)))) (dCons (dTup (dCons (dNeg (dC (.int 1))) (dCons (dC (.int 0)) (dCons (dC (.int 0)) dNil)))) (dCons (dTup (dCons (dC (.bl true)) (dCons (dC (.int 0)) (dCons (dC (.int 0)) dNil)))) (dCons (dTup (dCons (dC (.int 0)) (dCons (dNeg (dC (.int 1))) (dCons (dC (.int 0)) dNil)))) (dCons (dTup (dCons (dC (.int 0)) (dCons (dC (.int 0)) (dCons (dC (.bl true)) dNil)))) (dCons (dTup (dCons (dC (.int 0)) (dCons (dC (.str "0")) (dCons (dC (.int 0)) dNil)))) (dCons (dTup (dCons (dC (.int 0)) (dCons (dTup (dCons (dC (.int 1)) (dCons (dC (.int 3)) dNil))) (dCons (dC (.int 0)) dNil)))) dNil)))))))))))) dNil)))) (dSeq (dSet 7 (dCall sp__law_pick X0 (dCons (dVar 0) (dCons (dLst (dCons (dC .non) (dCons (dC (.int 5)) (dCons (dTup (dCons (dC (.int 0)) dNil)) (dCons (dTup (dCons (dC (.int 0)) (dCons (dC (.int 0)) (dCons (dC (.int 0)) dNil)))) (dCons (dTup (dCons (dC (.int 0)) (dCons (dTup (dCons (dC (.int 2)) (dCons (dC (.int 4)) dNil))) dNil))) (dCons (dTup (dCons (dC (.bl true)) (dCons (dC (.int 0)) dNil))) (dCons (dTup (dCons (dC (.int 0)) (dCons (dC .non) dNil))) (dCons (dTup (dCons (dC (.str "0")) (dCons (dC (.int 0)) dNil))) (dCons dDct0 (dCons (dC (.str "00")) dNil))))))))))) dNil)))) (dSeq (dSet 8 (dOp fAddT (dTup (dCons (dIx (dVar 2) (dC (.int 0))) dNil)) (dCall sp__law_pick X0 (dCons (dVar 0) (dCons (dLst (dCons (dTup (dCons (dC (.int 201)) (dCons (dC (.int 0)) dNil))) (dCons (dTup (dCons (dC (.int 0)) (dCons (dC (.int 201)) dNil))) (dCons (dTup (dCons (dOp (fIntC CPw fun i j => .int (i ^ j.toNat)) (dC (.int 10)) (dC (.int 20))) (dCons (dC .non) dNil))) (dCons (dTup (dCons (dC .non) (dCons (dC (.int 201)) dNil))) (dCons (dTup (dCons (dC (.int 201)) (dCons (dC (.int 201)) dNil))) dNil)))))) dNil))))) (dSeq (dSet 9 (dLst (dCons (dLam (tt__law_heard) fun RX => (dCall sp_point_of RX (dCons (dVar 5) (dCons (dVar 6) dNil)))) (dCons (dLam (tt__law_heard) fun RX => (dCall sp_stand_of RX (dCons (dVar 5) (dCons (dVar 7) dNil)))) (dCons (dLam (tt__law_heard) fun RX => (dCall sp_point_of RX (dCons (dVar 3) (dCons (dVar 6) dNil)))) dNil))))) (dSeq (dSet 9 (dOp fAddL (dVar 9) (dLst (dCons (dLam (tt__law_heard) fun RX => (dCall sp_stand_of RX (dCons (dVar 3) (dCons (dVar 7) dNil)))) (dCons (dLam (tt__law_heard) fun RX => (dCall sp_point_of RX (dCons (dVar 3) (dCons (dVar 8) dNil)))) dNil))))) (dRet (dOp fEq (dVar 9) (dLst (dCons (dTup (dCons (dC (.str "program")) (dCons (dC (.str "program")) dNil))) (dCons (dTup (dCons (dC (.str "program")) (dCons (dC (.str "program")) dNil))) (dCons (dTup (dCons (dC (.str "stand")) (dCons (dC (.str "stand")) dNil))) (dCons (dTup (dCons (dC (.str "point")) (dCons (dC (.str "point")) dNil))) (dCons (dTup (dCons (dC (.str "contents")) (dCons (dC (.int 200)) dNil))) dNil)))))))))))))))
theorem sc__law_refused_right : FnScope ["_law_quarry_here", "_law_lines_here", "_law_stand_here", "_law_program", "_law_many", "_law_odd", "_law_no", "_law_none", "_law_long", "_law_heard_here"] ["_law_quarry_here", "_law_lines_here", "_law_stand_here"] (defScope st__law_refused_right) := ⟨rfl, rfl, rfl, by decide +kernel, rfl, by decide +kernel, by decide +kernel⟩
theorem v__law_refused_right (xs : List D) (G : Gm) (R : KD) (RX : XD) (h : sp__law_refused_right xs G R RX) : r__law_refused_right { nx := fun _ G => R .non G, rt := R } (xs.map some ++ List.replicate (10 - xs.length) none) G := by
  obtain ⟨a, ls, s, T, rfl, lsok, hl, hg, hT, h⟩ := h
  have l2 := lsok.2.1
  unfold r__law_refused_right
  walk_at "start"
  walk_at "xx"
  refine DL.Y.mkP (.inl rfl) lsok ?_
  walk_at "xx"
  rw [List.length_map]
  refine DL.Y.pickL hg (by omega) (by simp) (Nat.le_of_ble_eq_true rfl) fun odd m ho hm => ?_
  have po : isW cls subC "Program" odd = some false := by
    simp only [List.mem_cons, List.mem_nil_iff, or_false] at ho
    rcases ho with rfl | rfl | rfl | rfl | rfl <;> exact isw_plain rfl fun _ _ _ z => by cases z
  dsimp only [Sd.d]
  walk_at "xx"
  refine DL.Y.pickL (gau_gup hm) (by omega) (by simp) (Nat.le_of_ble_eq_true rfl) fun no m2 hn hm2 => ?_
  rw [gup_gup]
  have kb : ∀ {x y z : D}, x.kn = true → y.kn = true → z.kn = true → (D.tup [x, y, z]).kn = true := fun {x y z} h1 h2 h3 => by
    show (x.kn && (y.kn && (z.kn && true))) = true
    rw [h1, h2, h3]
    rfl
  have wb : ∀ {x y z : D}, (boxB y && boxB z) = false → stdB ls.length (.tup [x, y, z]) = false := fun {x y z} h1 => by
    show (true && (withinD x (some 0) (some ((ls.length : Int) - 1)) && (boxB y && boxB z))) = false
    rw [h1, Bool.and_false, Bool.and_false]
  have wl : ∀ {x y z : D}, withinD x (some 0) (some ((ls.length : Int) - 1)) = false → stdB ls.length (.tup [x, y, z]) = false := fun {x y z} h1 => by
    show (true && (withinD x (some 0) (some ((ls.length : Int) - 1)) && (boxB y && boxB z))) = false
    rw [h1]
    rfl
  have wn : withinD (.int (ls.length : Int)) (some 0) (some ((ls.length : Int) - 1)) = false := by
    show (decide ((0 : Int) ≤ ls.length) && decide ((ls.length : Int) ≤ (ls.length : Int) - 1)) = false
    rw [decide_eq_false (show ¬ ((ls.length : Int) ≤ (ls.length : Int) - 1) by omega), Bool.and_false]
  have sno : no.kn = true ∧ stdB ls.length no = false := by
    have k1 := bx_kn s.x
    have k2 := bx_kn s.y
    simp only [List.mem_cons, List.mem_nil_iff, or_false] at hn
    rcases hn with rfl | rfl | rfl | rfl | rfl | rfl | rfl | rfl | rfl | rfl | rfl
    · exact ⟨rfl, rfl⟩
    · exact ⟨rfl, rfl⟩
    · refine ⟨?_, rfl⟩
      show (true && ((bxD s.x).kn && ((bxD s.y).kn && true))) = true
      rw [k1, k2]
      rfl
    · refine ⟨?_, rfl⟩
      show (true && ((bxD s.x).kn && true)) = true
      rw [k1]
      rfl
    · exact ⟨kb rfl rfl rfl, wl wn⟩
    · exact ⟨rfl, wl rfl⟩
    · exact ⟨rfl, wl rfl⟩
    · exact ⟨rfl, wb rfl⟩
    · exact ⟨rfl, wb rfl⟩
    · exact ⟨rfl, wb rfl⟩
    · exact ⟨rfl, wb rfl⟩
  walk_at "xx"
  refine DL.Y.pickL (gau_gup hm2) (by omega) (by simp) (Nat.le_of_ble_eq_true rfl) fun none_ m3 hn3 hm3 => ?_
  rw [gup_gup]
  have pno : none_.kn = true ∧ (seqL none_).length ≤ 1000000 ∧ ptOk none_ 2 = false := (show ∀ y ∈ [D.non, .int 5, .tup [.int 0], .tup [.int 0, .int 0, .int 0], .tup [.int 0, .tup [.int 2, .int 4]], .tup [.bl true, .int 0], .tup [.int 0, .non], .tup [.str "0", .int 0], .dct [] [], .str "00"], y.kn = true ∧ (seqL y).length ≤ 1000000 ∧ ptOk y 2 = false from by decide +kernel) none_ hn3
  walk_at "xx"
  refine DL.Y.pickL (gau_gup hm3) (by omega) (by simp) (Nat.le_of_ble_eq_true rfl) fun lg m4 hn4 hm4 => ?_
  rw [gup_gup]
  obtain ⟨bx, by_, rfl, hbig⟩ : ∃ bx by_ : Bx, lg = .tup [bxD bx, bxD by_] ∧ (bigB bx || bigB by_) = true := by
    simp only [List.mem_cons, List.mem_nil_iff, or_false] at hn4
    rcases hn4 with rfl | rfl | rfl | rfl | rfl
    · exact ⟨some 201, some 0, rfl, rfl⟩
    · exact ⟨some 0, some 201, rfl, rfl⟩
    · exact ⟨some (10 ^ 20), none, congrArg (fun i => D.tup [.int i, .non]) (by decide +kernel), by decide +kernel⟩
    · exact ⟨none, some 201, rfl, rfl⟩
    · exact ⟨some 201, some 201, rfl, rfl⟩
  clear hn hn3 hn4 ho
  walk_at "xx"
  have m1 : (("BadProgram" : Str), ("program" : Str)) ∈ hkL := by unfold hkL; simp
  have ms : (("BadStand" : Str), ("stand" : Str)) ∈ hkL := by unfold hkL; simp
  have mp : (("BadPoint" : Str), ("point" : Str)) ∈ hkL := by unfold hkL; simp
  have StdS : StdV s.d s := .inr rfl
  refine hear (p := "program") m1 (fun RK RX hx => ?_) ?_
  · walk_at "xx"
    exact ⟨_, _, rfl, .prog po hx⟩
  walk_at "xx"
  refine hear (p := "program") m1 (fun RK RX hx => ?_) ?_
  · walk_at "xx"
    exact ⟨_, _, rfl, .prog po hx⟩
  walk_at "xx"
  refine hear (p := "stand") ms (fun RK RX hx => ?_) ?_
  · walk_at "xx"
    exact ⟨_, _, rfl, .std ls rfl sno.1 sno.2 hx⟩
  walk_at "xx"
  refine hear (p := "point") mp (fun RK RX hx => ?_) ?_
  · walk_at "xx"
    exact ⟨_, _, rfl, .pt ls rfl pno.1 pno.2.1 pno.2.2 hx⟩
  walk_at "xx"
  refine hearM (x := .str "contents") (y := .int 200) (fun RK RX hx => ?_) ?_
  · walk_at "xx"
    exact ⟨_, _, rfl, .good ls ⟨s.l, bx, by_⟩ rfl (.inr rfl) hl lsok (.inl ⟨hbig, hx⟩)⟩
  walk_at "xx"
  refine DL.Y.eqL ⟨by decide +kernel, by decide +kernel⟩ ?_
  exact h m4 (hm4.mono (by omega))
theorem l__law_refused_right (xs : List D) (G : Gm) (R : KD) (RX : XD) (h : sp__law_refused_right xs G R RX) : xs.length = 3 := by
  obtain ⟨_, _, _, _, rfl, _⟩ := h
  rfl
set_option maxHeartbeats 4000000 in
theorem k__law_refused_right {P : Program} {w : World} {K : PySem.W.Frag} {mg : Str → Option Value} {base : Heap} (T : Tx mg) (F : Df K mg "_law_refused_right" st__law_refused_right) (W : OwC K mg cls subC) (mk_Program : L2.Mk K (He.ga K "Program") (He.ma K (He.ga K "Program") "__init__")) (tb : TabsB K base mg) (k_Program___init__ : KnM P w K mg base 4 "Program" "__init__" st_Program___init__ ["self", "lines"] sp_Program___init__) (k_point_of : Kn P w K mg base 5 "point_of" st_point_of ["program", "stand"] sp_point_of) (k_stand_of : Kn P w K mg base 6 "stand_of" st_stand_of ["program", "point"] sp_stand_of) (k__law_pick : Kn P w K mg base 2 "_law_pick" st__law_pick ["_law_quarry_here", "_law_some"] sp__law_pick) (k__law_heard : KnL P w K mg base 0 "_law_heard" "_law_ask" st__law_heard ["_law_ask", "_law_caught", "error"] tt__law_heard) :
    Kn P w K mg base 9 "_law_refused_right" st__law_refused_right ["_law_quarry_here", "_law_lines_here", "_law_stand_here"] sp__law_refused_right :=
  kn_of F.g F.f sc__law_refused_right l__law_refused_right fun cdv hcv A outer s H E B RX hr hg kx => ⟨r__law_refused_right, (psd_cons (psd_asg (pd_tup (pda_cons (pd_makeI k_Program___init__.toI mk_Program (W.g ("Program", ["lines"]) (by decide +kernel)) (hr.mono (by decide)) hg rfl pass0 kx0 (fun fd e1 e2 us hl => by obtain ⟨_, _, _, _, _, _, _, _, _, _, _, _, _, _, _⟩ := fd; cases e1; cases e2; exact match us, hl with | [_, _], _ => rfl) (pda_cons (pd_var 1) pda_nil)) (pda_cons (pd_len rfl rfl T.f_len (pd_var 1)) pda_nil))) (pgd_seq rfl (pgsd_cons (pgd_name (i := 3) sc__law_refused_right.nd rfl (by first | exact Or.inl rfl | exact Or.inr rfl)) (pgsd_cons (pgd_name (i := 4) sc__law_refused_right.nd rfl (by first | exact Or.inl rfl | exact Or.inr rfl)) pgsd_nil)))) (psd_cons (psd_set (i := 5) sc__law_refused_right.nd rfl (by first | exact Or.inl rfl | exact Or.inr rfl) (pd_call k__law_pick (hr.mono (by decide)) hg rfl pass0 kx0 (fun _ _ _ _ _ _ us hl => match us, hl with | [_, _], _ => rfl) (pda_cons (pd_var 0) (pda_cons (pd_lst (pda_cons pd_non (pda_cons pd_int (pda_cons (pd_var 1) (pda_cons pd_str (pda_cons pd_bl pda_nil)))))) pda_nil)))) (psd_cons (psd_set (i := 6) sc__law_refused_right.nd rfl (by first | exact Or.inl rfl | exact Or.inr rfl) (pd_call k__law_pick (hr.mono (by decide)) hg rfl pass0 kx0 (fun _ _ _ _ _ _ us hl => match us, hl with | [_, _], _ => rfl) (pda_cons (pd_var 0) (pda_cons (pd_lst (pda_cons pd_non (pda_cons pd_int (pda_cons (pd_addT (pd_var 2) (pd_tup (pda_cons pd_int pda_nil))) (pda_cons (pd_slice (pd_var 2) pod_none (pod_some pd_int)) (pda_cons (pd_tup (pda_cons (pd_var 4) (pda_cons pd_int (pda_cons pd_int pda_nil)))) (pda_cons (pd_tup (pda_cons (pd_neg pd_int) (pda_cons pd_int (pda_cons pd_int pda_nil)))) (pda_cons (pd_tup (pda_cons pd_bl (pda_cons pd_int (pda_cons pd_int pda_nil)))) (pda_cons (pd_tup (pda_cons pd_int (pda_cons (pd_neg pd_int) (pda_cons pd_int pda_nil)))) (pda_cons (pd_tup (pda_cons pd_int (pda_cons pd_int (pda_cons pd_bl pda_nil)))) (pda_cons (pd_tup (pda_cons pd_int (pda_cons pd_str (pda_cons pd_int pda_nil)))) (pda_cons (pd_tup (pda_cons pd_int (pda_cons (pd_tup (pda_cons pd_int (pda_cons pd_int pda_nil))) (pda_cons pd_int pda_nil)))) pda_nil)))))))))))) pda_nil)))) (psd_cons (psd_set (i := 7) sc__law_refused_right.nd rfl (by first | exact Or.inl rfl | exact Or.inr rfl) (pd_call k__law_pick (hr.mono (by decide)) hg rfl pass0 kx0 (fun _ _ _ _ _ _ us hl => match us, hl with | [_, _], _ => rfl) (pda_cons (pd_var 0) (pda_cons (pd_lst (pda_cons pd_non (pda_cons pd_int (pda_cons (pd_tup (pda_cons pd_int pda_nil)) (pda_cons (pd_tup (pda_cons pd_int (pda_cons pd_int (pda_cons pd_int pda_nil)))) (pda_cons (pd_tup (pda_cons pd_int (pda_cons (pd_tup (pda_cons pd_int (pda_cons pd_int pda_nil))) pda_nil))) (pda_cons (pd_tup (pda_cons pd_bl (pda_cons pd_int pda_nil))) (pda_cons (pd_tup (pda_cons pd_int (pda_cons pd_non pda_nil))) (pda_cons (pd_tup (pda_cons pd_str (pda_cons pd_int pda_nil))) (pda_cons pd_dct0 (pda_cons pd_str pda_nil))))))))))) pda_nil)))) (psd_cons (psd_set (i := 8) sc__law_refused_right.nd rfl (by first | exact Or.inl rfl | exact Or.inr rfl) (pd_addT (pd_tup (pda_cons (pd_ix (pd_var 2) pd_int (fun _ _ => rfl)) pda_nil)) (pd_call k__law_pick (hr.mono (by decide)) hg rfl pass0 kx0 (fun _ _ _ _ _ _ us hl => match us, hl with | [_, _], _ => rfl) (pda_cons (pd_var 0) (pda_cons (pd_lst (pda_cons (pd_tup (pda_cons pd_int (pda_cons pd_int pda_nil))) (pda_cons (pd_tup (pda_cons pd_int (pda_cons pd_int pda_nil))) (pda_cons (pd_tup (pda_cons (pd_pow pd_int pd_int) (pda_cons pd_non pda_nil))) (pda_cons (pd_tup (pda_cons pd_non (pda_cons pd_int pda_nil))) (pda_cons (pd_tup (pda_cons pd_int (pda_cons pd_int pda_nil))) pda_nil)))))) pda_nil))))) (psd_cons (psd_set (i := 9) sc__law_refused_right.nd rfl (by first | exact Or.inl rfl | exact Or.inr rfl) (pd_lst (pda_cons (pd_lam (n := 7) (kl := 6) k__law_heard hr (by decide) (by decide) hg rfl (fun _ _ _ _ _ _ us hl => match us, hl with | [_], _ => rfl) (Act.plam0 (tb "_law_refused_right" (by decide +kernel)) hcv (Act.lamO_by (N := ["_law_quarry_here", "_law_lines_here", "_law_stand_here", "_law_program", "_law_many", "_law_odd", "_law_no", "_law_none", "_law_long", "_law_heard_here"]) (sc := defScope st__law_refused_right) (bs := []) (by decide +kernel)) rfl (fun _ _ _ _ _ _ => rfl)) (Act.lamO_by (N := ["_law_quarry_here", "_law_lines_here", "_law_stand_here", "_law_program", "_law_many", "_law_odd", "_law_no", "_law_none", "_law_long", "_law_heard_here"]) (sc := defScope st__law_refused_right) (bs := []) (by decide +kernel)) (List.mem_map_of_mem (a := ("_law_refused_right" : Str)) (by decide +kernel)) (fun A outer s H E f c' Bz RX hr hg kx => (pd_call k_point_of (hr.mono (by decide)) hg rfl (passes_call (takes_of rfl rfl rfl rfl) fun _ _ _ _ h => h) (fun _ e => kx.mono e) (fun _ _ _ _ _ _ us hl => match us, hl with | [_, _], _ => rfl) (pda_cons (pd_var 5) (pda_cons (pd_var 6) pda_nil))))) (pda_cons (pd_lam (n := 7) (kl := 6) k__law_heard hr (by decide) (by decide) hg rfl (fun _ _ _ _ _ _ us hl => match us, hl with | [_], _ => rfl) (Act.plam1 (tb "_law_refused_right" (by decide +kernel)) hcv (Act.lamO_by (N := ["_law_quarry_here", "_law_lines_here", "_law_stand_here", "_law_program", "_law_many", "_law_odd", "_law_no", "_law_none", "_law_long", "_law_heard_here"]) (sc := defScope st__law_refused_right) (bs := ["_law_a1"]) (by decide +kernel)) rfl rfl (fun _ _ _ _ _ _ _ _ => ⟨_, rfl, rfl⟩)) (Act.lamO_by (N := ["_law_quarry_here", "_law_lines_here", "_law_stand_here", "_law_program", "_law_many", "_law_odd", "_law_no", "_law_none", "_law_long", "_law_heard_here"]) (sc := defScope st__law_refused_right) (bs := ["_law_a1"]) (by decide +kernel)) (List.mem_map_of_mem (a := ("_law_refused_right" : Str)) (by decide +kernel)) (fun A outer s H E f c' Bz RX hr hg kx => (pd_call k_stand_of (hr.mono (by decide)) hg rfl (passes_call (takes_of rfl rfl rfl rfl) fun _ _ _ _ h => h) (fun _ e => kx.mono e) (fun _ _ _ _ _ _ us hl => match us, hl with | [_, _], _ => rfl) (pda_cons (pd_var 5) (pda_cons (pd_var 7) pda_nil))))) (pda_cons (pd_lam (n := 7) (kl := 6) k__law_heard hr (by decide) (by decide) hg rfl (fun _ _ _ _ _ _ us hl => match us, hl with | [_], _ => rfl) (Act.plam1 (tb "_law_refused_right" (by decide +kernel)) hcv (Act.lamO_by (N := ["_law_quarry_here", "_law_lines_here", "_law_stand_here", "_law_program", "_law_many", "_law_odd", "_law_no", "_law_none", "_law_long", "_law_heard_here"]) (sc := defScope st__law_refused_right) (bs := ["_law_a2"]) (by decide +kernel)) rfl rfl (fun _ _ _ _ _ _ _ _ => ⟨_, rfl, rfl⟩)) (Act.lamO_by (N := ["_law_quarry_here", "_law_lines_here", "_law_stand_here", "_law_program", "_law_many", "_law_odd", "_law_no", "_law_none", "_law_long", "_law_heard_here"]) (sc := defScope st__law_refused_right) (bs := ["_law_a2"]) (by decide +kernel)) (List.mem_map_of_mem (a := ("_law_refused_right" : Str)) (by decide +kernel)) (fun A outer s H E f c' Bz RX hr hg kx => (pd_call k_point_of (hr.mono (by decide)) hg rfl (passes_call (takes_of rfl rfl rfl rfl) fun _ _ _ _ h => h) (fun _ e => kx.mono e) (fun _ _ _ _ _ _ us hl => match us, hl with | [_, _], _ => rfl) (pda_cons (pd_var 3) (pda_cons (pd_var 6) pda_nil))))) pda_nil))))) (psd_cons (psd_set (i := 9) sc__law_refused_right.nd rfl (by first | exact Or.inl rfl | exact Or.inr rfl) (pd_addL (pd_var 9) (pd_lst (pda_cons (pd_lam (n := 7) (kl := 6) k__law_heard hr (by decide) (by decide) hg rfl (fun _ _ _ _ _ _ us hl => match us, hl with | [_], _ => rfl) (Act.plam0 (tb "_law_refused_right" (by decide +kernel)) hcv (Act.lamO_by (N := ["_law_quarry_here", "_law_lines_here", "_law_stand_here", "_law_program", "_law_many", "_law_odd", "_law_no", "_law_none", "_law_long", "_law_heard_here"]) (sc := defScope st__law_refused_right) (bs := []) (by decide +kernel)) rfl (fun _ _ _ _ _ _ => rfl)) (Act.lamO_by (N := ["_law_quarry_here", "_law_lines_here", "_law_stand_here", "_law_program", "_law_many", "_law_odd", "_law_no", "_law_none", "_law_long", "_law_heard_here"]) (sc := defScope st__law_refused_right) (bs := []) (by decide +kernel)) (List.mem_map_of_mem (a := ("_law_refused_right" : Str)) (by decide +kernel)) (fun A outer s H E f c' Bz RX hr hg kx => (pd_call k_stand_of (hr.mono (by decide)) hg rfl (passes_call (takes_of rfl rfl rfl rfl) fun _ _ _ _ h => h) (fun _ e => kx.mono e) (fun _ _ _ _ _ _ us hl => match us, hl with | [_, _], _ => rfl) (pda_cons (pd_var 3) (pda_cons (pd_var 7) pda_nil))))) (pda_cons (pd_lam (n := 7) (kl := 6) k__law_heard hr (by decide) (by decide) hg rfl (fun _ _ _ _ _ _ us hl => match us, hl with | [_], _ => rfl) (Act.plam1 (tb "_law_refused_right" (by decide +kernel)) hcv (Act.lamO_by (N := ["_law_quarry_here", "_law_lines_here", "_law_stand_here", "_law_program", "_law_many", "_law_odd", "_law_no", "_law_none", "_law_long", "_law_heard_here"]) (sc := defScope st__law_refused_right) (bs := ["_law_a1"]) (by decide +kernel)) rfl rfl (fun _ _ _ _ _ _ _ _ => ⟨_, rfl, rfl⟩)) (Act.lamO_by (N := ["_law_quarry_here", "_law_lines_here", "_law_stand_here", "_law_program", "_law_many", "_law_odd", "_law_no", "_law_none", "_law_long", "_law_heard_here"]) (sc := defScope st__law_refused_right) (bs := ["_law_a1"]) (by decide +kernel)) (List.mem_map_of_mem (a := ("_law_refused_right" : Str)) (by decide +kernel)) (fun A outer s H E f c' Bz RX hr hg kx => (pd_call k_point_of (hr.mono (by decide)) hg rfl (passes_call (takes_of rfl rfl rfl rfl) fun _ _ _ _ h => h) (fun _ e => kx.mono e) (fun _ _ _ _ _ _ us hl => match us, hl with | [_, _], _ => rfl) (pda_cons (pd_var 3) (pda_cons (pd_var 8) pda_nil))))) pda_nil))))) (psd_one (psd_ret (pd_cmp (op_eq2 hr.units) od_eq (pd_var 9) (pd_lst (pda_cons (pd_tup (pda_cons pd_str (pda_cons pd_str pda_nil))) (pda_cons (pd_tup (pda_cons pd_str (pda_cons pd_str pda_nil))) (pda_cons (pd_tup (pda_cons pd_str (pda_cons pd_str pda_nil))) (pda_cons (pd_tup (pda_cons pd_str (pda_cons pd_str pda_nil))) (pda_cons (pd_tup (pda_cons pd_str (pda_cons pd_int pda_nil))) pda_nil)))))) (nomark _))))))))))), fun xs G R h => v__law_refused_right xs G R RX h⟩
abbrev sp_law : DSp := lawSp
def r_law : DS := (dSeq (dSet 1 (dCall sp__law_quarry X0 (dCons (dVar 0) dNil))) (dSeq (dFor (dIRng1 (dC (.int 3))) (gN 2) (dSeq (dPar 3 4 (dCons (dCall sp__law_lines X0 (dCons (dVar 1) (dCons (dC (.int 15)) dNil))) (dCons dDctM dNil))) (dSeq (dSet 5 (dMake "Program" sp_Program___init__ X0 (dCons (dVar 3) dNil))) (dSeq (dFor (dIRng1 (dC (.int 4))) (gN 6) (dSeq (dSet 7 (dCall sp__law_far_stand X0 (dCons (dVar 1) (dCons (dVar 3) dNil)))) (dSeq (dSet 8 (dCall sp__law_point X0 (dCons (dVar 7) dNil))) (dSeq (dIfS (dTst (dOp fNe (dCal fRepr (dCons (dLst (dCons (dCall sp_point_of X0 (dCons (dVar 5) (dCons (dVar 7) dNil))) (dCons (dCallK sp_point_of (ordOf [1, 0]) X0 (dCons (dCal fLstOf (dCons (dVar 7) dNil)) (dCons (dVar 5) dNil))) dNil))) dNil)) (dCal fRepr (dCons (dLst (dCons (dVar 8) (dCons (dVar 8) dNil))) dNil)))) (dRet (dC (.bl false))) dNext) (dSeq (dIfS (dTst (dOp fNe (dCal fRepr (dCons (dLst (dCons (dCall sp_stand_of X0 (dCons (dVar 5) (dCons (dVar 8) dNil))) (dCons (dCallK sp_stand_of (ordOf [1, 0]) X0 (dCons (dCal fLstOf (dCons (dVar 8) dNil)) (dCons (dVar 5) dNil))) dNil))) dNil)) (dCal fRepr (dCons (dLst (dCons (dVar 7) (dCons (dVar 7) dNil))) dNil)))) (dRet (dC (.bl false))) dNext) (dSeq (dIfS (dOr (dTst (dOp fNe (dDget2 (dVar 4) (dCal fRepr (dCons (dVar 8) dNil)) (dVar 7)) (dVar 7))) (dNot (dTst (dCall sp__law_others_right X0 (dCons (dVar 1) (dCons (dVar 3) (dCons (dVar 7) dNil))))))) (dRet (dC (.bl false))) dNext) (dDput (dVar 7) (dVar 4) (dCal fRepr (dCons (dVar 8) dNil))))))))) (dSeq (dIfS (dNot (dTst (dCall sp__law_refused_right X0 (dCons (dVar 1) (dCons (dVar 3) (dCons (dVar 7) dNil)))))) (dRet (dC (.bl false))) dNext) (dSeq (dSet 9 (dTup (dCons (dIx (dVar 7) (dC (.int 0))) (dCons (dCall sp__law_pick X0 (dCons (dVar 1) (dCons (dLst (dCons (dC (.int 201)) (dCons (dC (.int 300)) (dCons (dC (.int 580)) (dCons (dC .non) dNil))))) dNil))) (dCons (dCall sp__law_pick X0 (dCons (dVar 1) (dCons (dLst (dCons (dC (.int 201)) (dCons (dC (.int 450)) (dCons (dC (.int 0)) dNil)))) dNil))) dNil))))) (dIfS (dTst (dOp fNe (dCal fRepr (dCons (dCall sp_stand_of X0 (dCons (dVar 5) (dCons (dCall sp__law_point X0 (dCons (dVar 9) dNil)) dNil))) dNil)) (dCal fRepr (dCons (dVar 9) dNil)))) (dRet (dC (.bl false))) dNext))))))) (dRet (dC (.bl true)))))
theorem sc_law : FnScope ["_law_script", "_law_quarry_here", "_law_turn", "_law_lines_here", "_law_points", "_law_program", "_law_lap", "_law_stand_here", "_law_due", "_law_far"] ["_law_script"] (defScope st_law) := ⟨rfl, rfl, rfl, by decide +kernel, rfl, by decide +kernel, by decide +kernel⟩
theorem v_law (xs : List D) (G : Gm) (R : KD) (RX : XD) (h : sp_law xs G R RX) : r_law { nx := fun _ G => R .non G, rt := R } (xs.map some ++ List.replicate (10 - xs.length) none) G := by
  obtain ⟨ns, rfl, hl, _, h⟩ := h
  unfold r_law
  walk_at "start"
  walk_at "xx"
  refine ⟨ns, rfl, hl, fun p m hp hm0 => ?_⟩
  walk_at "xx"
  refine forL_at (fun rest ρ G => rest.length ≤ 3 ∧ (∃ o2 o3 o4 o5 o6 o7 o8 o9, ρ = [some (.lst (ns.map D.int)), some (.ref p), o2, o3, o4, o5, o6, o7, o8, o9]) ∧ GauAt G p (1000 * (3 - rest.length))) ?_ ?_ ?_
  · rintro x rest N ρ G1 hsuf hN ⟨hlen, ⟨o2, o3, o4, o5, o6, o7, o8, o9, rfl⟩, hg⟩
    rw [List.length_cons] at hlen hg
    walk_at "xx"
    refine ⟨p, 15, _, rfl, hg, by omega, by decide, by decide, fun ls m1 lsok l15 hm1 => ?_⟩
    walk_at "xx"
    intro q hq
    have nqp : q ≠ p := fun e => by rw [e, gup_same] at hq; cases hq
    walk_at "xx"
    refine DL.Y.mkP (.inl rfl) lsok ?_
    walk_at "xx"
    refine forL_at (fun rst ρ G' => rst.length ≤ 4 ∧ (∃ o6 o7 o8 o9, ρ = [some (.lst (ns.map D.int)), some (.ref p), some x, some (.lst (ls.map Ln.d)), some (.ref q), some (progD ls), o6, o7, o8, o9] ∧ (rst.length = 4 ∨ ∃ s : Sd, o7 = some s.d ∧ s.l < ls.length)) ∧ GauAt G' p (1000 * (3 - (rest.length + 1)) + 100 + 50 * (4 - rst.length)) ∧ ∃ ks xs, G' q = some (.dct ks xs) ∧ ks.length = xs.length ∧ ks.length ≤ 4 - rst.length ∧ ∀ pr ∈ ks.zip xs, Tells pr.1 pr.2) ?_ ?_ ?_
    · rintro y rst N2 ρ G2 hs2 hN2 ⟨hl2, ⟨o6, o7, o8, o9, rfl, _⟩, hg2, ks, xs, hq2, hks, hkl, hd⟩
      rw [List.length_cons] at hl2 hg2 hkl
      walk_at "xx"
      refine ⟨p, ls, _, rfl, lsok, hg2, by omega, fun s m2 sl sx sy hm2 => ?_⟩
      have q2 : (gup G2 p m2) q = some (.dct ks xs) := by rw [gup_ne nqp]; exact hq2
      have s250 : s.l < 250 := by omega
      have pSm := ptd_sm s250 (sx.mono (by decide)) (sy.mono (by decide))
      have sSm := std_sm (s := s) (by omega) (N := 201) (by decide) sx sy
      have big : ∀ b : Bx, bxLt 201 b → bigB b = false := fun b hb => by
        cases b with
        | none => rfl
        | some n =>
          have := hb n rfl
          exact decide_eq_false (by omega)
      have hbig : (bigB s.x || bigB s.y) = false := by rw [big _ sx, big _ sy]; rfl
      walk_at "xx"
      refine ⟨s, rfl, by omega, sx.mono (by decide), sy.mono (by decide), ?_⟩
      walk_at "xx"
      refine ⟨_, _, rfl, .good ls s rfl (.inr rfl) sl lsok (.inr ⟨hbig, ?_⟩)⟩
      walk_at "xx"
      refine ⟨_, _, rfl, .good ls s rfl (.inl rfl) sl lsok (.inr ⟨hbig, ?_⟩)⟩
      walk_at "xx"
      refine DL.Y.repr_ (Sm.rep (Sm.two pSm pSm)) ?_
      walk_at "xx"
      refine DL.Y.repr_ (Sm.rep (Sm.two pSm pSm)) ?_
      walk_at "xx"
      refine stand_some (.inl rfl) sl (by omega) (sx.mono (by decide)) (sy.mono (by decide)) ?_
      walk_at "xx"
      refine stand_some (.inr rfl) sl (by omega) (sx.mono (by decide)) (sy.mono (by decide)) ?_
      walk_at "xx"
      refine DL.Y.repr_ (Sm.rep (Sm.two sSm sSm)) ?_
      walk_at "xx"
      refine DL.Y.repr_ (Sm.rep (Sm.two sSm sSm)) ?_
      walk_at "xx"
      refine ⟨⟨ks, xs, q2⟩, ?_⟩
      walk_at "xx"
      refine DL.Y.repr_ (Sm.rep pSm) ?_
      walk_at "xx"
      refine ⟨_, ks, xs, rfl, q2, ?_⟩
      have hz : (dlook ks xs (.inr (ptD s).shown)).getD s.d = s.d := by
        cases e : dlook ks xs (.inr (ptD s).shown) with
        | none => rfl
        | some z =>
          obtain ⟨t, rfl, tl, tx, ty, te⟩ := hd _ (dlook_mem e)
          have : (ptD s).shown = (ptD t).shown := Sum.inr.inj te
          have := text_inj s250 tl (sx.mono (by decide)) (sy.mono (by decide)) (tx.mono (by decide)) (ty.mono (by decide)) this
          rw [this]
          rfl
      rw [hz]
      walk_at "xx"
      refine DL.Y.neT std_cmp.1 ?_
      walk_at "xx"
      refine ⟨p, ls, s, _, rfl, lsok, sl, sx, sy, gau_gup hm2, by omega, fun m3 hm3 => ?_⟩
      rw [gup_gup]
      have q3 : (gup G2 p m3) q = some (.dct ks xs) := by rw [gup_ne nqp]; exact hq2
      walk_at "xx"
      refine DL.Y.repr_ (Sm.rep pSm) ?_
      refine ⟨q, _, ks, xs, rfl, rfl, q3, Nat.lt_of_le_of_lt (m := 4) (by omega) (by rw [sizeLine_eq]; decide), ?_⟩
      refine hN2 _ _ ⟨by omega, ⟨_, _, _, _, rfl, .inr ⟨s, rfl, sl⟩⟩, ?_, _, _, gup_same, put_len2 hks, ?_, put_all ⟨s, rfl, s250, sx, sy, rfl⟩ hks hd⟩
      · exact ⟨m3, by rw [gup_ne nqp.symm]; exact gup_same, hm3.mono (by omega)⟩
      · have := put_len1 (ks := ks) (k := .inr (ptD s).shown)
        omega
    · rintro ρ G2 ⟨_, ⟨o6, o7, o8, o9, rfl, hs⟩, hg2, _⟩
      obtain ⟨s, rfl, sl⟩ : ∃ s : Sd, o7 = some s.d ∧ s.l < ls.length := by
        rcases hs with e | e
        · cases e
        · exact e
      rw [List.length_nil] at hg2
      walk_at "xx"
      refine ⟨p, ls, s, _, rfl, lsok, sl, hg2, by omega, fun m3 hm3 => ?_⟩
      walk_at "xx"
      refine DL.Y.pickL (gau_gup hm3) (by omega) (by simp) (Nat.le_of_ble_eq_true rfl) fun v1 m4 hv1 hm4 => ?_
      rw [gup_gup]
      walk_at "xx"
      refine DL.Y.pickL (gau_gup hm4) (by omega) (by simp) (Nat.le_of_ble_eq_true rfl) fun v2 m5 hv2 hm5 => ?_
      rw [gup_gup]
      obtain ⟨b1, rfl, hb1⟩ : ∃ b : Bx, v1 = bxD b ∧ bxLt 600 b := by
        simp only [List.mem_cons, List.mem_nil_iff, or_false] at hv1
        rcases hv1 with rfl | rfl | rfl | rfl
        · exact ⟨some 201, rfl, fun n e => by cases e; decide⟩
        · exact ⟨some 300, rfl, fun n e => by cases e; decide⟩
        · exact ⟨some 580, rfl, fun n e => by cases e; decide⟩
        · exact ⟨none, rfl, fun n e => by cases e⟩
      obtain ⟨b2, rfl, hb2⟩ : ∃ b : Bx, v2 = bxD b ∧ bxLt 600 b := by
        simp only [List.mem_cons, List.mem_nil_iff, or_false] at hv2
        rcases hv2 with rfl | rfl | rfl
        · exact ⟨some 201, rfl, fun n e => by cases e; decide⟩
        · exact ⟨some 450, rfl, fun n e => by cases e; decide⟩
        · exact ⟨some 0, rfl, fun n e => by cases e; decide⟩
      have fSm := std_sm (s := ⟨s.l, b1, b2⟩) (show s.l < 100 by omega) (N := 600) (by decide) hb1 hb2
      walk_at "xx"
      refine ⟨⟨s.l, b1, b2⟩, rfl, (show s.l < 1000 by omega), hb1.mono (by decide), hb2.mono (by decide), ?_⟩
      walk_at "xx"
      refine stand_some (s := ⟨s.l, b1, b2⟩) (.inl rfl) sl (by omega) hb1 hb2 ?_
      walk_at "xx"
      refine DL.Y.repr_ (Sm.rep fSm) ?_
      walk_at "xx"
      refine DL.Y.repr_ (Sm.rep fSm) ?_
      refine DL.Y.neS ?_
      walk_at "xx"
      exact hN _ _ ⟨by omega, ⟨_, _, _, _, _, _, _, _, rfl⟩, m5, gup_same, hm5.mono (by omega)⟩
    · refine ⟨Nat.le_of_ble_eq_true rfl, ⟨_, _, _, _, rfl, .inl rfl⟩, ⟨m1, by rw [gup_ne nqp.symm]; exact gup_same, hm1.mono (by omega)⟩, [], [], gup_same, rfl, Nat.zero_le _, fun pr hp => by cases hp⟩
  · rintro ρ G1 ⟨_, ⟨o2, o3, o4, o5, o6, o7, o8, o9, rfl⟩, _⟩
    walk_at "xx"
    exact h _
  · exact ⟨Nat.le_of_ble_eq_true rfl, ⟨_, _, _, _, _, _, _, _, rfl⟩, gau_gup hm0⟩
theorem l_law (xs : List D) (G : Gm) (R : KD) (RX : XD) (h : sp_law xs G R RX) : xs.length = 1 := by
  obtain ⟨_, rfl, _⟩ := h
  rfl
set_option maxHeartbeats 4000000 in
theorem k_law {P : Program} {w : World} {K : PySem.W.Frag} {mg : Str → Option Value} {base : Heap} (T : Tx mg) (F : Df K mg "law" st_law) (W : OwC K mg cls subC) (mk_Program : L2.Mk K (He.ga K "Program") (He.ma K (He.ga K "Program") "__init__")) (k_Program___init__ : KnM P w K mg base 4 "Program" "__init__" st_Program___init__ ["self", "lines"] sp_Program___init__) (k_point_of : Kn P w K mg base 5 "point_of" st_point_of ["program", "stand"] sp_point_of) (k_stand_of : Kn P w K mg base 6 "stand_of" st_stand_of ["program", "point"] sp_stand_of) (k__law_quarry : Kn P w K mg base 1 "_law_quarry" st__law_quarry ["_law_script"] sp__law_quarry) (k__law_pick : Kn P w K mg base 2 "_law_pick" st__law_pick ["_law_quarry_here", "_law_some"] sp__law_pick) (k__law_lines : Kn P w K mg base 4 "_law_lines" st__law_lines ["_law_quarry_here", "_law_most"] sp__law_lines) (k__law_point : Kn P w K mg base 3 "_law_point" st__law_point ["_law_stand_here"] sp__law_point) (k__law_far_stand : Kn P w K mg base 4 "_law_far_stand" st__law_far_stand ["_law_quarry_here", "_law_lines_here"] sp__law_far_stand) (k__law_others_right : Kn P w K mg base 7 "_law_others_right" st__law_others_right ["_law_quarry_here", "_law_lines_here", "_law_stand_here"] sp__law_others_right) (k__law_refused_right : Kn P w K mg base 9 "_law_refused_right" st__law_refused_right ["_law_quarry_here", "_law_lines_here", "_law_stand_here"] sp__law_refused_right) :
    Kn P w K mg base 10 "law" st_law ["_law_script"] sp_law :=
  kn_of F.g F.f sc_law l_law fun cdv hcv A outer s H E B RX hr hg kx => ⟨r_law, (psd_cons (psd_set (i := 1) sc_law.nd rfl (by first | exact Or.inl rfl | exact Or.inr rfl) (pd_call k__law_quarry (hr.mono (by decide)) hg rfl pass0 kx0 (fun _ _ _ _ _ _ us hl => match us, hl with | [_], _ => rfl) (pda_cons (pd_var 0) pda_nil))) (psd_cons (psd_for (passes_of rfl) rfl (pid_rng1 rfl T.f_range pd_int) (pgd_name (i := 2) sc_law.nd rfl (by first | exact Or.inl rfl | exact Or.inr rfl)) (psd_cons (psd_par (i := 3) (j := 4) rfl sc_law.nd rfl rfl (by decide) rfl rfl (pda_cons (pd_call k__law_lines (hr.mono (by decide)) hg rfl pass0 kx0 (fun _ _ _ _ _ _ us hl => match us, hl with | [_, _], _ => rfl) (pda_cons (pd_var 1) (pda_cons pd_int pda_nil))) (pda_cons pd_dnewM pda_nil)) rfl) (psd_cons (psd_set (i := 5) sc_law.nd rfl (by first | exact Or.inl rfl | exact Or.inr rfl) (pd_makeI k_Program___init__.toI mk_Program (W.g ("Program", ["lines"]) (by decide +kernel)) (hr.mono (by decide)) hg rfl pass0 kx0 (fun fd e1 e2 us hl => by obtain ⟨_, _, _, _, _, _, _, _, _, _, _, _, _, _, _⟩ := fd; cases e1; cases e2; exact match us, hl with | [_, _], _ => rfl) (pda_cons (pd_var 3) pda_nil))) (psd_cons (psd_for (passes_of rfl) rfl (pid_rng1 rfl T.f_range pd_int) (pgd_name (i := 6) sc_law.nd rfl (by first | exact Or.inl rfl | exact Or.inr rfl)) (psd_cons (psd_set (i := 7) sc_law.nd rfl (by first | exact Or.inl rfl | exact Or.inr rfl) (pd_call k__law_far_stand (hr.mono (by decide)) hg rfl pass0 kx0 (fun _ _ _ _ _ _ us hl => match us, hl with | [_, _], _ => rfl) (pda_cons (pd_var 1) (pda_cons (pd_var 3) pda_nil)))) (psd_cons (psd_set (i := 8) sc_law.nd rfl (by first | exact Or.inl rfl | exact Or.inr rfl) (pd_call k__law_point (hr.mono (by decide)) hg rfl pass0 kx0 (fun _ _ _ _ _ _ us hl => match us, hl with | [_], _ => rfl) (pda_cons (pd_var 7) pda_nil))) (psd_cons (psd_if (ptd_cmp (op_ne2 hr.units) od_ne (pd_repr rfl hg hr.units rfl T.f_repr (pd_lst (pda_cons (pd_call k_point_of (hr.mono (by decide)) hg rfl pass0 kx0 (fun _ _ _ _ _ _ us hl => match us, hl with | [_, _], _ => rfl) (pda_cons (pd_var 5) (pda_cons (pd_var 7) pda_nil))) (pda_cons (pd_callK (ks := ["stand", "program"]) (ordOf [1, 0]) k_point_of (hr.mono (by decide)) hg rfl pass0 kx0 (fun _ _ _ _ _ _ us hl => match us, hl with | [_, _], _ => rfl) rfl (ordOf_len rfl) (pkd_cons (pd_callTy call_list_of cd_list rfl T.f_list (by decide +kernel) (pda_cons (pd_var 7) pda_nil)) (pkd_cons (pd_var 5) pkd_nil (fun h => pk_cons (pd_var 5) h)) (fun h => pk_cons (pd_callTy call_list_of cd_list rfl T.f_list (by decide +kernel) (pda_cons (pd_var 7) pda_nil)) h))) pda_nil)))) (pd_repr rfl hg hr.units rfl T.f_repr (pd_lst (pda_cons (pd_var 8) (pda_cons (pd_var 8) pda_nil)))) (nomark _)) (psd_one (psd_ret pd_bl)) psd_nil) (psd_cons (psd_if (ptd_cmp (op_ne2 hr.units) od_ne (pd_repr rfl hg hr.units rfl T.f_repr (pd_lst (pda_cons (pd_call k_stand_of (hr.mono (by decide)) hg rfl pass0 kx0 (fun _ _ _ _ _ _ us hl => match us, hl with | [_, _], _ => rfl) (pda_cons (pd_var 5) (pda_cons (pd_var 8) pda_nil))) (pda_cons (pd_callK (ks := ["point", "program"]) (ordOf [1, 0]) k_stand_of (hr.mono (by decide)) hg rfl pass0 kx0 (fun _ _ _ _ _ _ us hl => match us, hl with | [_, _], _ => rfl) rfl (ordOf_len rfl) (pkd_cons (pd_callTy call_list_of cd_list rfl T.f_list (by decide +kernel) (pda_cons (pd_var 8) pda_nil)) (pkd_cons (pd_var 5) pkd_nil (fun h => pk_cons (pd_var 5) h)) (fun h => pk_cons (pd_callTy call_list_of cd_list rfl T.f_list (by decide +kernel) (pda_cons (pd_var 8) pda_nil)) h))) pda_nil)))) (pd_repr rfl hg hr.units rfl T.f_repr (pd_lst (pda_cons (pd_var 7) (pda_cons (pd_var 7) pda_nil)))) (nomark _)) (psd_one (psd_ret pd_bl)) psd_nil) (psd_cons (psd_if (PW.pt (pwd_or (ptd_cmp (op_ne2 hr.units) od_ne (pd_dget2 hr.units (pd_var 4) (pd_repr rfl hg hr.units rfl T.f_repr (pd_var 8)) (pd_var 7)) (pd_var 7) (nomark _)) (pwd_or1 (ptd_not (ptd_val (pd_call k__law_others_right (hr.mono (by decide)) hg rfl pass0 kx0 (fun _ _ _ _ _ _ us hl => match us, hl with | [_, _, _], _ => rfl) (pda_cons (pd_var 1) (pda_cons (pd_var 3) (pda_cons (pd_var 7) pda_nil))))))))) (psd_one (psd_ret pd_bl)) psd_nil) (psd_one (psd_dput hr.units (pd_var 7) (pd_var 4) (pd_repr rfl hg hr.units rfl T.f_repr (pd_var 8)))))))))) (psd_cons (psd_if (ptd_not (ptd_val (pd_call k__law_refused_right (hr.mono (by decide)) hg rfl pass0 kx0 (fun _ _ _ _ _ _ us hl => match us, hl with | [_, _, _], _ => rfl) (pda_cons (pd_var 1) (pda_cons (pd_var 3) (pda_cons (pd_var 7) pda_nil)))))) (psd_one (psd_ret pd_bl)) psd_nil) (psd_cons (psd_set (i := 9) sc_law.nd rfl (by first | exact Or.inl rfl | exact Or.inr rfl) (pd_tup (pda_cons (pd_ix (pd_var 7) pd_int (fun _ _ => rfl)) (pda_cons (pd_call k__law_pick (hr.mono (by decide)) hg rfl pass0 kx0 (fun _ _ _ _ _ _ us hl => match us, hl with | [_, _], _ => rfl) (pda_cons (pd_var 1) (pda_cons (pd_lst (pda_cons pd_int (pda_cons pd_int (pda_cons pd_int (pda_cons pd_non pda_nil))))) pda_nil))) (pda_cons (pd_call k__law_pick (hr.mono (by decide)) hg rfl pass0 kx0 (fun _ _ _ _ _ _ us hl => match us, hl with | [_, _], _ => rfl) (pda_cons (pd_var 1) (pda_cons (pd_lst (pda_cons pd_int (pda_cons pd_int (pda_cons pd_int pda_nil)))) pda_nil))) pda_nil))))) (psd_one (psd_if (ptd_cmp (op_ne2 hr.units) od_ne (pd_repr rfl hg hr.units rfl T.f_repr (pd_call k_stand_of (hr.mono (by decide)) hg rfl pass0 kx0 (fun _ _ _ _ _ _ us hl => match us, hl with | [_, _], _ => rfl) (pda_cons (pd_var 5) (pda_cons (pd_call k__law_point (hr.mono (by decide)) hg rfl pass0 kx0 (fun _ _ _ _ _ _ us hl => match us, hl with | [_], _ => rfl) (pda_cons (pd_var 9) pda_nil)) pda_nil)))) (pd_repr rfl hg hr.units rfl T.f_repr (pd_var 9)) (nomark _)) (psd_one (psd_ret pd_bl)) psd_nil)))))))) (psd_one (psd_ret pd_bl)))), fun xs G R h => v_law xs G R RX h⟩
theorem ob_eq (s : PySem.W.SharedT) : ob s = hk.obs s.abs := obsE_eq (HandSHeadRun.getT_eq s)
theorem run (w : World) : HandSHeadRun.RunEq Rw (PySem.W.view Rw.prog [79]) hk ob 12000 loose w := PySem.W.byRow2 "special-get-raises" (P := fun w => HandSHeadRun.RunEq Rw (PySem.W.view Rw.prog [79]) hk ob 12000 loose w) run_false run_true w
section
variable {K : PySem.W.Frag} {h : Heap} {mg : Str → Option Value}
theorem tx (X : K.In h) (G : h.Ns mainGlobals mg) (c : He.SaysD fa fn K) : Tx mg := ⟨He.free_ok X G (c.fact 47 (f := .free "abs") rfl), He.free_ok X G (c.fact 48 (f := .free "all") rfl), He.free_ok X G (c.fact 49 (f := .free "any") rfl), He.free_ok X G (c.fact 50 (f := .free "bool") rfl), He.free_ok X G (c.fact 51 (f := .free "int") rfl), He.free_ok X G (c.fact 52 (f := .free "isinstance") rfl), He.free_ok X G (c.fact 53 (f := .free "len") rfl), He.free_ok X G (c.fact 54 (f := .free "list") rfl), He.free_ok X G (c.fact 55 (f := .free "range") rfl), He.free_ok X G (c.fact 56 (f := .free "repr") rfl), He.free_ok X G (c.fact 57 (f := .free "str") rfl), He.free_ok X G (c.fact 58 (f := .free "tuple") rfl), He.int_ok X G (c.fact 59 (f := .int "LEAST_UNDER" 2) rfl), He.str_ok X G (c.fact 60 (f := .str "BAR" "/") rfl), He.str_ok X G (c.fact 61 (f := .str "FIGURES" "0123456789") rfl), He.int_ok X G (c.fact 62 (f := .int "MOST_FIGURES" 140) rfl), He.int_ok X G (c.fact 63 (f := .int "MOST_LINES" 15) rfl), He.int_ok X G (c.fact 64 (f := .int "LAST_BOX" 1) rfl), He.str_ok X G (c.fact 65 (f := .str "UP" "up") rfl), He.str_ok X G (c.fact 66 (f := .str "DOWN" "down") rfl), He.str_ok X G (c.fact 67 (f := .str "TEST" "test") rfl), He.str_ok X G (c.fact 68 (f := .str "STOP" "stop") rfl), He.int_ok X G (c.fact 69 (f := .int "SPAN" 4) rfl), He.int_ok X G (c.fact 70 (f := .int "BASE" 3) rfl), He.int_ok X G (c.fact 71 (f := .int "LOWEST" 2) rfl), He.int_ok X G (c.fact 72 (f := .int "MOST_CONTENTS" 200) rfl), He.int_ok X G (c.fact 73 (f := .int "WIDE" 2) rfl)⟩
theorem df_is_integer (X : K.In h) (G : h.Ns mainGlobals mg) (c : He.SaysD fa fn K) : Df K mg "is_integer" st_is_integer := ⟨He.glo_ok X G (c.fact 0 (f := .glo "is_integer") rfl), c.def_ 0 (d := dd "is_integer" 9) rfl⟩
theorem df_is_within (X : K.In h) (G : h.Ns mainGlobals mg) (c : He.SaysD fa fn K) : Df K mg "is_within" st_is_within := ⟨He.glo_ok X G (c.fact 1 (f := .glo "is_within") rfl), c.def_ 1 (d := dd "is_within" 10) rfl⟩
theorem df_is_list (X : K.In h) (G : h.Ns mainGlobals mg) (c : He.SaysD fa fn K) : Df K mg "is_list" st_is_list := ⟨He.glo_ok X G (c.fact 2 (f := .glo "is_list") rfl), c.def_ 2 (d := dd "is_list" 11) rfl⟩
theorem df_halves (X : K.In h) (G : h.Ns mainGlobals mg) (c : He.SaysD fa fn K) : Df K mg "halves" st_halves := ⟨He.glo_ok X G (c.fact 3 (f := .glo "halves") rfl), c.def_ 3 (d := dd "halves" 14) rfl⟩
theorem df_common (X : K.In h) (G : h.Ns mainGlobals mg) (c : He.SaysD fa fn K) : Df K mg "common" st_common := ⟨He.glo_ok X G (c.fact 4 (f := .glo "common") rfl), c.def_ 4 (d := dd "common" 15) rfl⟩
theorem df_lowest_in (X : K.In h) (G : h.Ns mainGlobals mg) (c : He.SaysD fa fn K) : Df K mg "lowest_in" st_lowest_in := ⟨He.glo_ok X G (c.fact 5 (f := .glo "lowest_in") rfl), c.def_ 5 (d := dd "lowest_in" 16) rfl⟩
theorem df_plus_in (X : K.In h) (G : h.Ns mainGlobals mg) (c : He.SaysD fa fn K) : Df K mg "plus_in" st_plus_in := ⟨He.glo_ok X G (c.fact 6 (f := .glo "plus_in") rfl), c.def_ 6 (d := dd "plus_in" 17) rfl⟩
theorem df_times_in (X : K.In h) (G : h.Ns mainGlobals mg) (c : He.SaysD fa fn K) : Df K mg "times_in" st_times_in := ⟨He.glo_ok X G (c.fact 7 (f := .glo "times_in") rfl), c.def_ 7 (d := dd "times_in" 18) rfl⟩
theorem df_minus_in (X : K.In h) (G : h.Ns mainGlobals mg) (c : He.SaysD fa fn K) : Df K mg "minus_in" st_minus_in := ⟨He.glo_ok X G (c.fact 8 (f := .glo "minus_in") rfl), c.def_ 8 (d := dd "minus_in" 19) rfl⟩
theorem df_below_in (X : K.In h) (G : h.Ns mainGlobals mg) (c : He.SaysD fa fn K) : Df K mg "below_in" st_below_in := ⟨He.glo_ok X G (c.fact 9 (f := .glo "below_in") rfl), c.def_ 9 (d := dd "below_in" 20) rfl⟩
theorem df_whole_in (X : K.In h) (G : h.Ns mainGlobals mg) (c : He.SaysD fa fn K) : Df K mg "whole_in" st_whole_in := ⟨He.glo_ok X G (c.fact 10 (f := .glo "whole_in") rfl), c.def_ 10 (d := dd "whole_in" 21) rfl⟩
theorem df_is_number (X : K.In h) (G : h.Ns mainGlobals mg) (c : He.SaysD fa fn K) : Df K mg "is_number" st_is_number := ⟨He.glo_ok X G (c.fact 11 (f := .glo "is_number") rfl), c.def_ 11 (d := dd "is_number" 22) rfl⟩
theorem df_kept_number (X : K.In h) (G : h.Ns mainGlobals mg) (c : He.SaysD fa fn K) : Df K mg "kept_number" st_kept_number := ⟨He.glo_ok X G (c.fact 12 (f := .glo "kept_number") rfl), c.def_ 12 (d := dd "kept_number" 23) rfl⟩
theorem df_need_point (X : K.In h) (G : h.Ns mainGlobals mg) (c : He.SaysD fa fn K) : DfD K mg "need_point" st_need_point [V.str "point"] := ⟨He.glo_ok X G (c.fact 13 (f := .glo "need_point") rfl), c.def_ 13 (d := de "need_point" 24 [He.Dv.str "point"]) rfl⟩
theorem df_is_line (X : K.In h) (G : h.Ns mainGlobals mg) (c : He.SaysD fa fn K) : Df K mg "is_line" st_is_line := ⟨He.glo_ok X G (c.fact 14 (f := .glo "is_line") rfl), c.def_ 14 (d := dd "is_line" 39) rfl⟩
theorem df_Program___init__ (X : K.In h) (G : h.Ns mainGlobals mg) (c : He.SaysD fa fn K) : DfM K "Program" "__init__" st_Program___init__ := ⟨c.def_ 15 (d := dm "Program" "__init__" 40) rfl⟩
theorem df_need_program (X : K.In h) (G : h.Ns mainGlobals mg) (c : He.SaysD fa fn K) : DfD K mg "need_program" st_need_program [V.str "program"] := ⟨He.glo_ok X G (c.fact 16 (f := .glo "need_program") rfl), c.def_ 16 (d := de "need_program" 42 [He.Dv.str "program"]) rfl⟩
theorem df_is_contents (X : K.In h) (G : h.Ns mainGlobals mg) (c : He.SaysD fa fn K) : Df K mg "is_contents" st_is_contents := ⟨He.glo_ok X G (c.fact 17 (f := .glo "is_contents") rfl), c.def_ 17 (d := dd "is_contents" 44) rfl⟩
theorem df_need_stand (X : K.In h) (G : h.Ns mainGlobals mg) (c : He.SaysD fa fn K) : Df K mg "need_stand" st_need_stand := ⟨He.glo_ok X G (c.fact 18 (f := .glo "need_stand") rfl), c.def_ 18 (d := dd "need_stand" 45) rfl⟩
theorem df_height_in (X : K.In h) (G : h.Ns mainGlobals mg) (c : He.SaysD fa fn K) : Df K mg "height_in" st_height_in := ⟨He.glo_ok X G (c.fact 19 (f := .glo "height_in") rfl), c.def_ 19 (d := dd "height_in" 52) rfl⟩
theorem df_point_in (X : K.In h) (G : h.Ns mainGlobals mg) (c : He.SaysD fa fn K) : Df K mg "point_in" st_point_in := ⟨He.glo_ok X G (c.fact 20 (f := .glo "point_in") rfl), c.def_ 20 (d := dd "point_in" 53) rfl⟩
theorem df_parted (X : K.In h) (G : h.Ns mainGlobals mg) (c : He.SaysD fa fn K) : Df K mg "parted" st_parted := ⟨He.glo_ok X G (c.fact 21 (f := .glo "parted") rfl), c.def_ 21 (d := dd "parted" 54) rfl⟩
theorem df_like_contents (X : K.In h) (G : h.Ns mainGlobals mg) (c : He.SaysD fa fn K) : Df K mg "like_contents" st_like_contents := ⟨He.glo_ok X G (c.fact 22 (f := .glo "like_contents") rfl), c.def_ 22 (d := dd "like_contents" 55) rfl⟩
theorem df_has_contents (X : K.In h) (G : h.Ns mainGlobals mg) (c : He.SaysD fa fn K) : Df K mg "has_contents" st_has_contents := ⟨He.glo_ok X G (c.fact 23 (f := .glo "has_contents") rfl), c.def_ 23 (d := dd "has_contents" 56) rfl⟩
theorem df_point_of (X : K.In h) (G : h.Ns mainGlobals mg) (c : He.SaysD fa fn K) : Df K mg "point_of" st_point_of := ⟨He.glo_ok X G (c.fact 24 (f := .glo "point_of") rfl), c.def_ 24 (d := dd "point_of" 57) rfl⟩
theorem df_stand_of (X : K.In h) (G : h.Ns mainGlobals mg) (c : He.SaysD fa fn K) : Df K mg "stand_of" st_stand_of := ⟨He.glo_ok X G (c.fact 25 (f := .glo "stand_of") rfl), c.def_ 25 (d := dd "stand_of" 58) rfl⟩
theorem df__law_quarry (X : K.In h) (G : h.Ns mainGlobals mg) (c : He.SaysD fa fn K) : Df K mg "_law_quarry" st__law_quarry := ⟨He.glo_ok X G (c.fact 26 (f := .glo "_law_quarry") rfl), c.def_ 26 (d := dd "_law_quarry" 60) rfl⟩
theorem df__law_hew (X : K.In h) (G : h.Ns mainGlobals mg) (c : He.SaysD fa fn K) : Df K mg "_law_hew" st__law_hew := ⟨He.glo_ok X G (c.fact 27 (f := .glo "_law_hew") rfl), c.def_ 27 (d := dd "_law_hew" 61) rfl⟩
theorem df__law_pick (X : K.In h) (G : h.Ns mainGlobals mg) (c : He.SaysD fa fn K) : Df K mg "_law_pick" st__law_pick := ⟨He.glo_ok X G (c.fact 28 (f := .glo "_law_pick") rfl), c.def_ 28 (d := dd "_law_pick" 62) rfl⟩
theorem df__law_pair (X : K.In h) (G : h.Ns mainGlobals mg) (c : He.SaysD fa fn K) : Df K mg "_law_pair" st__law_pair := ⟨He.glo_ok X G (c.fact 29 (f := .glo "_law_pair") rfl), c.def_ 29 (d := dd "_law_pair" 63) rfl⟩
theorem df__law_form (X : K.In h) (G : h.Ns mainGlobals mg) (c : He.SaysD fa fn K) : Df K mg "_law_form" st__law_form := ⟨He.glo_ok X G (c.fact 30 (f := .glo "_law_form") rfl), c.def_ 30 (d := dd "_law_form" 64) rfl⟩
theorem df__law_add (X : K.In h) (G : h.Ns mainGlobals mg) (c : He.SaysD fa fn K) : Df K mg "_law_add" st__law_add := ⟨He.glo_ok X G (c.fact 31 (f := .glo "_law_add") rfl), c.def_ 31 (d := dd "_law_add" 65) rfl⟩
theorem df__law_mul (X : K.In h) (G : h.Ns mainGlobals mg) (c : He.SaysD fa fn K) : Df K mg "_law_mul" st__law_mul := ⟨He.glo_ok X G (c.fact 32 (f := .glo "_law_mul") rfl), c.def_ 32 (d := dd "_law_mul" 66) rfl⟩
theorem df__law_less (X : K.In h) (G : h.Ns mainGlobals mg) (c : He.SaysD fa fn K) : Df K mg "_law_less" st__law_less := ⟨He.glo_ok X G (c.fact 33 (f := .glo "_law_less") rfl), c.def_ 33 (d := dd "_law_less" 67) rfl⟩
theorem df__law_line (X : K.In h) (G : h.Ns mainGlobals mg) (c : He.SaysD fa fn K) : Df K mg "_law_line" st__law_line := ⟨He.glo_ok X G (c.fact 34 (f := .glo "_law_line") rfl), c.def_ 34 (d := dd "_law_line" 68) rfl⟩
theorem df__law_lines (X : K.In h) (G : h.Ns mainGlobals mg) (c : He.SaysD fa fn K) : Df K mg "_law_lines" st__law_lines := ⟨He.glo_ok X G (c.fact 35 (f := .glo "_law_lines") rfl), c.def_ 35 (d := dd "_law_lines" 69) rfl⟩
theorem df__law_contents (X : K.In h) (G : h.Ns mainGlobals mg) (c : He.SaysD fa fn K) : Df K mg "_law_contents" st__law_contents := ⟨He.glo_ok X G (c.fact 36 (f := .glo "_law_contents") rfl), c.def_ 36 (d := dd "_law_contents" 70) rfl⟩
theorem df__law_height (X : K.In h) (G : h.Ns mainGlobals mg) (c : He.SaysD fa fn K) : Df K mg "_law_height" st__law_height := ⟨He.glo_ok X G (c.fact 38 (f := .glo "_law_height") rfl), c.def_ 38 (d := dd "_law_height" 72) rfl⟩
theorem df__law_point (X : K.In h) (G : h.Ns mainGlobals mg) (c : He.SaysD fa fn K) : Df K mg "_law_point" st__law_point := ⟨He.glo_ok X G (c.fact 39 (f := .glo "_law_point") rfl), c.def_ 39 (d := dd "_law_point" 73) rfl⟩
theorem df__law_far_stand (X : K.In h) (G : h.Ns mainGlobals mg) (c : He.SaysD fa fn K) : Df K mg "_law_far_stand" st__law_far_stand := ⟨He.glo_ok X G (c.fact 40 (f := .glo "_law_far_stand") rfl), c.def_ 40 (d := dd "_law_far_stand" 74) rfl⟩
theorem df__law_no_height (X : K.In h) (G : h.Ns mainGlobals mg) (c : He.SaysD fa fn K) : Df K mg "_law_no_height" st__law_no_height := ⟨He.glo_ok X G (c.fact 41 (f := .glo "_law_no_height") rfl), c.def_ 41 (d := dd "_law_no_height" 75) rfl⟩
theorem df__law_heard (X : K.In h) (G : h.Ns mainGlobals mg) (c : He.SaysD fa fn K) : Df K mg "_law_heard" st__law_heard := ⟨He.glo_ok X G (c.fact 42 (f := .glo "_law_heard") rfl), c.def_ 42 (d := dd "_law_heard" 76) rfl⟩
theorem df__law_others_right (X : K.In h) (G : h.Ns mainGlobals mg) (c : He.SaysD fa fn K) : Df K mg "_law_others_right" st__law_others_right := ⟨He.glo_ok X G (c.fact 43 (f := .glo "_law_others_right") rfl), c.def_ 43 (d := dd "_law_others_right" 77) rfl⟩
theorem df__law_refused_right (X : K.In h) (G : h.Ns mainGlobals mg) (c : He.SaysD fa fn K) : Df K mg "_law_refused_right" st__law_refused_right := ⟨He.glo_ok X G (c.fact 44 (f := .glo "_law_refused_right") rfl), c.def_ 44 (d := dd "_law_refused_right" 78) rfl⟩
theorem df_law (X : K.In h) (G : h.Ns mainGlobals mg) (c : He.SaysD fa fn K) : Df K mg "law" st_law := ⟨He.glo_ok X G (c.fact 45 (f := .glo "law") rfl), c.def_ 45 (d := dd "law" 79) rfl⟩
set_option maxHeartbeats 4000000 in
theorem law_kn {w : World} {base : Heap} (X : K.In h) (G : h.Ns mainGlobals mg) (c : SaysE ask w h K) (tb : TabsB K base mg) : Kn (PySem.Challenge.rw_timesfloor_k63_whole_stands_as_points).prog w K mg base 10 "law" st_law ["_law_script"] lawSp := by
  obtain ⟨_, bz⟩ := He.ba (show ex K = true from c.x.more)
  obtain ⟨bi, bz⟩ := He.ba bz
  have I : IsC K mg errs subE errF := isB_ok X G bi
  obtain ⟨bx, bz⟩ := He.ba bz
  have x_BadPoint := Lw.x_BadPoint (base := base) (w := w) (xc_of (P := (PySem.Challenge.rw_timesfloor_k63_whole_stands_as_points).prog) X G bx (c.cls 0 (d := defC "BadPoint" (top 3)) rfl) (by kernel_rfl))
  obtain ⟨bx, bz⟩ := He.ba bz
  have x_BadProgram := Lw.x_BadProgram (base := base) (w := w) (xc_of (P := (PySem.Challenge.rw_timesfloor_k63_whole_stands_as_points).prog) X G bx (c.cls 1 (d := defC "BadProgram" (top 4)) rfl) (by kernel_rfl))
  obtain ⟨bx, bz⟩ := He.ba bz
  have x_BadStand := Lw.x_BadStand (base := base) (w := w) (xc_of (P := (PySem.Challenge.rw_timesfloor_k63_whole_stands_as_points).prog) X G bx (c.cls 2 (d := defC "BadStand" (top 5)) rfl) (by kernel_rfl))
  obtain ⟨bx, bz⟩ := He.ba bz
  have x_TooMany := Lw.x_TooMany (base := base) (w := w) (xc_of (P := (PySem.Challenge.rw_timesfloor_k63_whole_stands_as_points).prog) X G bx (c.cls 3 (d := defC "TooMany" (top 6)) rfl) (by kernel_rfl))
  obtain ⟨bx, bz⟩ := He.ba bz
  have W : OwC K mg cls subC := owB_ok X G bx
  obtain ⟨bx, bz⟩ := He.ba bz
  have dk_ENDS : DctK K w mg "ENDS" kv_ENDS := dctk_of X G bx (c.dic 0 (t := (fun K => He.ga K "ENDS", kv_ENDS.map (·.1))) rfl)
  have mk_Program := He.mkr_ok (x := "Program") (c.d.fact 46 (f := .mkr "Program") rfl)
  have k_is_list := Lw.k_is_list (P := (PySem.Challenge.rw_timesfloor_k63_whole_stands_as_points).prog) (w := w) (base := base) (tx X G c.d) (df_is_list X G c.d)
  have k_is_integer := Lw.k_is_integer (P := (PySem.Challenge.rw_timesfloor_k63_whole_stands_as_points).prog) (w := w) (base := base) (tx X G c.d) (df_is_integer X G c.d)
  have k_is_within := Lw.k_is_within (P := (PySem.Challenge.rw_timesfloor_k63_whole_stands_as_points).prog) (w := w) (base := base) (tx X G c.d) (df_is_within X G c.d) k_is_integer
  have k_is_line := Lw.k_is_line (P := (PySem.Challenge.rw_timesfloor_k63_whole_stands_as_points).prog) (w := w) (base := base) (tx X G c.d) (df_is_line X G c.d) dk_ENDS k_is_within k_is_list
  have k_Program___init__ := Lw.k_Program___init__ (P := (PySem.Challenge.rw_timesfloor_k63_whole_stands_as_points).prog) (w := w) (base := base) (tx X G c.d) (df_Program___init__ X G c.d) W k_is_list k_is_line
  have k_need_program := Lw.k_need_program (P := (PySem.Challenge.rw_timesfloor_k63_whole_stands_as_points).prog) (w := w) (base := base) (tx X G c.d) (df_need_program X G c.d) W x_BadProgram
  have k_is_contents := Lw.k_is_contents (P := (PySem.Challenge.rw_timesfloor_k63_whole_stands_as_points).prog) (w := w) (base := base) (tx X G c.d) (df_is_contents X G c.d) k_is_within
  have k_need_stand := Lw.k_need_stand (P := (PySem.Challenge.rw_timesfloor_k63_whole_stands_as_points).prog) (w := w) (base := base) (tx X G c.d) (df_need_stand X G c.d) W x_BadStand k_is_within k_is_list k_is_contents
  have k_halves := Lw.k_halves (P := (PySem.Challenge.rw_timesfloor_k63_whole_stands_as_points).prog) (w := w) (base := base) (tx X G c.d) (df_halves X G c.d) k_is_integer
  have k_common := Lw.k_common (P := (PySem.Challenge.rw_timesfloor_k63_whole_stands_as_points).prog) (w := w) (base := base) (tx X G c.d) (df_common X G c.d)
  have k_lowest_in := Lw.k_lowest_in (P := (PySem.Challenge.rw_timesfloor_k63_whole_stands_as_points).prog) (w := w) (base := base) (tx X G c.d) (df_lowest_in X G c.d) k_common
  have k_plus_in := Lw.k_plus_in (P := (PySem.Challenge.rw_timesfloor_k63_whole_stands_as_points).prog) (w := w) (base := base) (tx X G c.d) (df_plus_in X G c.d) k_halves k_lowest_in
  have k_height_in := Lw.k_height_in (P := (PySem.Challenge.rw_timesfloor_k63_whole_stands_as_points).prog) (w := w) (base := base) (tx X G c.d) (df_height_in X G c.d) k_lowest_in
  have k_point_in := Lw.k_point_in (P := (PySem.Challenge.rw_timesfloor_k63_whole_stands_as_points).prog) (w := w) (base := base) (tx X G c.d) (df_point_in X G c.d) k_plus_in k_height_in
  have k_point_of := Lw.k_point_of (P := (PySem.Challenge.rw_timesfloor_k63_whole_stands_as_points).prog) (w := w) (base := base) (tx X G c.d) (df_point_of X G c.d) x_TooMany k_need_program k_need_stand k_point_in
  have k_is_number := Lw.k_is_number (P := (PySem.Challenge.rw_timesfloor_k63_whole_stands_as_points).prog) (w := w) (base := base) (tx X G c.d) (df_is_number X G c.d) k_is_integer k_is_within k_is_list k_common
  have k_kept_number := Lw.k_kept_number (P := (PySem.Challenge.rw_timesfloor_k63_whole_stands_as_points).prog) (w := w) (base := base) (tx X G c.d) (df_kept_number X G c.d) k_is_list
  have k_need_point := Lw.k_need_point (P := (PySem.Challenge.rw_timesfloor_k63_whole_stands_as_points).prog) (w := w) (base := base) (tx X G c.d) (df_need_point X G c.d) x_BadPoint k_is_list k_is_number k_kept_number
  have k_times_in := Lw.k_times_in (P := (PySem.Challenge.rw_timesfloor_k63_whole_stands_as_points).prog) (w := w) (base := base) (tx X G c.d) (df_times_in X G c.d) k_halves k_lowest_in
  have k_minus_in := Lw.k_minus_in (P := (PySem.Challenge.rw_timesfloor_k63_whole_stands_as_points).prog) (w := w) (base := base) (tx X G c.d) (df_minus_in X G c.d) k_plus_in k_times_in
  have k_whole_in := Lw.k_whole_in (P := (PySem.Challenge.rw_timesfloor_k63_whole_stands_as_points).prog) (w := w) (base := base) (tx X G c.d) (df_whole_in X G c.d) k_halves
  have k_parted := Lw.k_parted (P := (PySem.Challenge.rw_timesfloor_k63_whole_stands_as_points).prog) (w := w) (base := base) (tx X G c.d) (df_parted X G c.d) k_minus_in k_whole_in
  have k_below_in := Lw.k_below_in (P := (PySem.Challenge.rw_timesfloor_k63_whole_stands_as_points).prog) (w := w) (base := base) (tx X G c.d) (df_below_in X G c.d) k_halves
  have k_like_contents := Lw.k_like_contents (P := (PySem.Challenge.rw_timesfloor_k63_whole_stands_as_points).prog) (w := w) (base := base) (tx X G c.d) (df_like_contents X G c.d) k_lowest_in k_below_in
  have k_has_contents := Lw.k_has_contents (P := (PySem.Challenge.rw_timesfloor_k63_whole_stands_as_points).prog) (w := w) (base := base) (tx X G c.d) (df_has_contents X G c.d) k_below_in k_height_in k_like_contents
  have k_stand_of := Lw.k_stand_of (P := (PySem.Challenge.rw_timesfloor_k63_whole_stands_as_points).prog) (w := w) (base := base) (tx X G c.d) (df_stand_of X G c.d) W k_need_point k_need_program k_parted k_like_contents k_has_contents
  have k__law_quarry := Lw.k__law_quarry (P := (PySem.Challenge.rw_timesfloor_k63_whole_stands_as_points).prog) (w := w) (base := base) (tx X G c.d) (df__law_quarry X G c.d)
  have k__law_hew := Lw.k__law_hew (P := (PySem.Challenge.rw_timesfloor_k63_whole_stands_as_points).prog) (w := w) (base := base) (tx X G c.d) (df__law_hew X G c.d)
  have k__law_pick := Lw.k__law_pick (P := (PySem.Challenge.rw_timesfloor_k63_whole_stands_as_points).prog) (w := w) (base := base) (tx X G c.d) (df__law_pick X G c.d) k__law_hew
  have k__law_line := Lw.k__law_line (P := (PySem.Challenge.rw_timesfloor_k63_whole_stands_as_points).prog) (w := w) (base := base) (tx X G c.d) (df__law_line X G c.d) k__law_hew k__law_pick
  have k__law_lines := Lw.k__law_lines (P := (PySem.Challenge.rw_timesfloor_k63_whole_stands_as_points).prog) (w := w) (base := base) (tx X G c.d) (df__law_lines X G c.d) k__law_hew k__law_line
  have k__law_pair := Lw.k__law_pair (P := (PySem.Challenge.rw_timesfloor_k63_whole_stands_as_points).prog) (w := w) (base := base) (tx X G c.d) (df__law_pair X G c.d)
  have k__law_form := Lw.k__law_form (P := (PySem.Challenge.rw_timesfloor_k63_whole_stands_as_points).prog) (w := w) (base := base) (tx X G c.d) (df__law_form X G c.d)
  have k__law_add := Lw.k__law_add (P := (PySem.Challenge.rw_timesfloor_k63_whole_stands_as_points).prog) (w := w) (base := base) (tx X G c.d) (df__law_add X G c.d) k__law_pair k__law_form
  have k__law_height := Lw.k__law_height (P := (PySem.Challenge.rw_timesfloor_k63_whole_stands_as_points).prog) (w := w) (base := base) (tx X G c.d) (df__law_height X G c.d)
  have k__law_point := Lw.k__law_point (P := (PySem.Challenge.rw_timesfloor_k63_whole_stands_as_points).prog) (w := w) (base := base) (tx X G c.d) (df__law_point X G c.d) k__law_add k__law_height
  have k__law_contents := Lw.k__law_contents (P := (PySem.Challenge.rw_timesfloor_k63_whole_stands_as_points).prog) (w := w) (base := base) (tx X G c.d) (df__law_contents X G c.d) k__law_hew k__law_pick
  have k__law_far_stand := Lw.k__law_far_stand (P := (PySem.Challenge.rw_timesfloor_k63_whole_stands_as_points).prog) (w := w) (base := base) (tx X G c.d) (df__law_far_stand X G c.d) k__law_hew k__law_pick k__law_contents
  have k__law_mul := Lw.k__law_mul (P := (PySem.Challenge.rw_timesfloor_k63_whole_stands_as_points).prog) (w := w) (base := base) (tx X G c.d) (df__law_mul X G c.d) k__law_pair k__law_form
  have k__law_less := Lw.k__law_less (P := (PySem.Challenge.rw_timesfloor_k63_whole_stands_as_points).prog) (w := w) (base := base) (tx X G c.d) (df__law_less X G c.d) k__law_pair
  have k__law_no_height := Lw.k__law_no_height (P := (PySem.Challenge.rw_timesfloor_k63_whole_stands_as_points).prog) (w := w) (base := base) (tx X G c.d) (df__law_no_height X G c.d) k__law_hew k__law_pick k__law_form
  have k__law_others_right := Lw.k__law_others_right (P := (PySem.Challenge.rw_timesfloor_k63_whole_stands_as_points).prog) (w := w) (base := base) (tx X G c.d) (df__law_others_right X G c.d) W mk_Program k_Program___init__ k_stand_of k__law_add k__law_mul k__law_less k__law_height k__law_point k__law_no_height
  have k__law_heard := Lw.k__law_heard (P := (PySem.Challenge.rw_timesfloor_k63_whole_stands_as_points).prog) (w := w) (base := base) (tx X G c.d) (df__law_heard X G c.d) I
  have k__law_refused_right := Lw.k__law_refused_right (P := (PySem.Challenge.rw_timesfloor_k63_whole_stands_as_points).prog) (w := w) (base := base) (tx X G c.d) (df__law_refused_right X G c.d) W mk_Program tb k_Program___init__ k_point_of k_stand_of k__law_pick k__law_heard
  have k_law := Lw.k_law (P := (PySem.Challenge.rw_timesfloor_k63_whole_stands_as_points).prog) (w := w) (base := base) (tx X G c.d) (df_law X G c.d) W mk_Program k_Program___init__ k_point_of k_stand_of k__law_quarry k__law_pick k__law_lines k__law_point k__law_far_stand k__law_others_right k__law_refused_right
  exact k_law
end
end Lw
open PySem PySem.W PySem.Calls PyProof.Rows
set_option maxHeartbeats 0 in
theorem PySem.Challenge.cw_timesfloor_k63_whole_stands_as_points_holds : PySem.Challenge.rw_timesfloor_k63_whole_stands_as_points.Holds := by
  w_on; o_law
  refine HandSHeadRun.head_any (r := OpenLaw.row PySem.Challenge.rw_timesfloor_k63_whole_stands_as_points) (q := view (OpenLaw.row PySem.Challenge.rw_timesfloor_k63_whole_stands_as_points).prog [79]) (H := Lw.hk) (ob := Lw.ob) (M := 12000) (loose := Lw.loose) (d := HandSHeadRun.topDef (OpenLaw.row PySem.Challenge.rw_timesfloor_k63_whole_stands_as_points).prog 79) (kwd := []) Lw.ob_eq
    (by kernel_rfl) (fun s => by kernel_rfl) Lw.run (by kernel_rfl) (by kernel_rfl) (by kernel_rfl) (by rfl) (by first | assumption | decide +kernel) (by decide +kernel) ⟨rfl, rfl, rfl, rfl, rfl, by decide +kernel⟩ ?hw ?hc
  case hw => w_witness2
  case hc =>
    refine DL.walk_lawT (l := PySem.Challenge.rw_timesfloor_k63_whole_stands_as_points) (n := 63) (k := 10) (x := "_law_script") rfl (by decide) (by kernel_rfl) ⟨rfl, by decide, by decide⟩ ?F
    intro w mg fa h Y G hmg0
    obtain ⟨K, KX, c⟩ := Y
    have hmg : mg ("law" : PySem.Str) = some (.ref fa) := by
      have e : (HandSHeadRun.topDef (OpenLaw.row PySem.Challenge.rw_timesfloor_k63_whole_stands_as_points).prog 79).name = ("law" : PySem.Str) := by kernel_rfl
      rw [← e]
      exact hmg0
    have tf := c.tabF KX rfl (He.ba (show Lw.ex K = true from c.x.more)).1
    obtain ⟨fd, sp, ct, q1, q2, q3, q4, q5, q6⟩ := DL.law_of (P := (PySem.Challenge.rw_timesfloor_k63_whole_stands_as_points).prog) (w := w) hmg (Lw.df_law KX G c.d) tf (fun _ _ _ _ _ _ us hl => match us, hl with | [_], _ => rfl) fun base tb => Lw.law_kn KX G c tb
    exact ⟨K, fd, sp, ct, KX, q1, q2, q3, q4, q5, q6⟩
