import PyProof.Rows.All
import Wide.All
import OpenK.AllK
import Wide.FinOn
import PyProof.EqAt
import PyProof.ReprRoads
import HandS.ForMost
import HandS.Exc
import HandS.WordsExc
import HandS.IsInst
import HandS.Wide
import HandS.Defaults
import HandS.Zip
import HandS.Evl
import HandS.HeadHook1
import HandS.ExcInit
import HandS.HeadHook4
import HandS.Lambda
import HandS.TryOnly
import HandS.HeadHook2
import HandS.Head0
import HandS.Head1
import HandS.Head2
import HandS.HeadEnd
import KE.KStateDown
import HandS.Style
import PyProof.P3Eq
import HandS.Zip0
import PyProof.LongRange
import PyProof.EnumMake
import HandS.List
import KE.KExcSuper
import HandS.FStr
import HandS.HeadHook3
import HandS.ExcField
import HandS.ExcIs
import KE.KExcIs
import KE.KDflt
import HandS.Sort
import KE.GoesRaise
import HandS.OwnEq
import KE.KSuper
import HandS.Star
import HandS.ClsMeth
import HandS.TupAny
import HandS.Dict
import HandS.Text
import KE.KeyNested
import HandS.TupSets
import HandS.Deep
import PyProof.StrBlock2
import HandS.Comp
import HandS.ExcOwn
import HandS.SetFor
import HandS.Conv
import HandS.RaiseMore
import HandS.Iter
import PySem.Challenge.RW_timesfloor_k04_numbers_written_and_read
set_option Elab.async false
set_option linter.all false
set_option maxRecDepth 100000
set_option maxHeartbeats 4000000
set_option exponentiation.threshold 9000
namespace DL
open PySem PySem.Spec PyProof.Rows L2 Evl
section
variable {K : PySem.W.Frag} {H H' : Hp}
end
class TabC where
  tf : List Str
def lamQ (n : Str) : Str := n ++ ".<locals>." ++ "<lambda>"
def tabT [TabC] (K : PySem.W.Frag) : List (Addr × Str) := (TabC.tf).map fun n => ((He.cT K (n, none)).2, lamQ n)
variable [TabC]
section
end
section
end
section
end
section
variable {X : Cx}
end
end DL
namespace DL
open PySem PySem.Spec PyProof.Rows L2 Evl
variable [TabC]
section
end
end DL
namespace DL
open PySem PySem.Spec PyProof.Rows L2 Evl
variable [TabC]
section
variable {X : Cx}
end
section
variable {X : Cx}
end
end DL
namespace DL
open PySem PySem.Spec PyProof.Rows L2 Evl
variable [TabC]
section
end
section
variable {rest : List Expr} {A2 B2 : Expr}
end
end DL
namespace DL
open PySem PySem.Spec PyProof.Rows L2 Evl
variable [TabC]
section
end
end DL
namespace DL
open PySem PySem.Spec PyProof.Rows L2 Evl
variable [TabC]
section
variable {X : Cx}
end
section
end
end DL
namespace DL
open PySem PySem.Spec PyProof.Rows L2 Evl
variable [TabC]
section
variable {P : Program} {w : World} {K : PySem.W.Frag} {mg : Str → Option Value} {base : Heap}
end
section
variable {P : Program} {w : World} {K : PySem.W.Frag} {mg : Str → Option Value} {base : Heap}
end
section
end
end DL
namespace DL
open PySem PySem.Spec PyProof.Rows L2 Evl
variable [TabC]
section
variable {K : PySem.W.Frag} {a : Addr} {o : Obj} {xs : List V}
end
section
variable {K : PySem.W.Frag} {ts : List Addr} {a : Addr} {o : Obj} {xs : List V}
end
end DL
namespace DL
open PySem PySem.Spec PyProof.Rows L2 Evl
variable [TabC]
end DL
namespace DL
open PySem PySem.Spec PyProof.Rows L2 Evl
variable [TabC]
section
end
end DL
namespace DL
open PySem PySem.Spec PyProof.Rows L2 Evl
variable [TabC]
section
end
section
end
end DL
namespace DL
open PySem PySem.Spec PyProof.Rows L2 Evl
variable [TabC]
section
end
end DL
namespace DL
open PySem PySem.Spec PyProof.Rows L2 Evl
variable [TabC]
end DL
namespace DL
open PySem PySem.Spec PyProof.Rows L2 Evl
variable [TabC]
section
variable {P : Program} {w : World} {K : PySem.W.Frag} {mg : Str → Option Value} {base : Heap}
end
section
end
end DL
namespace DL
open PySem PySem.Spec PyProof.Rows L2 Evl
variable [TabC]
section
end
end DL
namespace DL
open PySem PySem.Spec PyProof.Rows L2 Evl
variable [TabC]
section
end
section
end
section
end
end DL
namespace DL
open PySem PySem.Spec PyProof.Rows L2 Evl
variable [TabC]
section
end
end DL
namespace MZ
open PySem PySem.Spec PyProof.Rows L2
open PySem.Sem (wp)
section
variable {prog : Program} {w : World} {A : Around} {E : Value → Shared → Prop} {s : Shared}
end
section
variable {prog : Program} {w : World} {A : Around} {E : Value → Shared → Prop} {s : Shared}
end
section
variable {X : Cx} {pins : List (Addr × Obj)} {σ : L2.St} {H : Hp} {s : Shared}
end
end MZ
namespace DL
open PySem PySem.Spec PyProof.Rows L2 Evl
variable [TabC]
end DL
namespace DL
open PySem PySem.Spec PyProof.Rows L2 Evl
variable [TabC]
end DL
namespace DL
open PySem PySem.Spec PyProof.Rows L2 Evl
variable [TabC]
section
end
end DL
namespace DL
open PySem PySem.Spec PyProof.Rows L2 Evl
variable [TabC]
end DL
namespace MZ
open PySem PySem.Spec PyProof.Rows L2
open PySem.Sem (wp)
section
variable {prog : Program} {w : World} {A : Around} {E : Value → Shared → Prop} {s : Shared}
end
section
variable {prog : Program} {w : World} {A : Around} {E : Value → Shared → Prop} {s : Shared}
end
end MZ
namespace DL
open PySem PySem.Spec PyProof.Rows L2 Evl
variable [TabC]
end DL
namespace DL
open PySem PySem.Spec PyProof.Rows L2 Evl
variable [TabC]
end DL
namespace DL
open PySem PySem.Spec PyProof.Rows L2 Evl
variable [TabC]
end DL
namespace DL
open PySem PySem.Spec PyProof.Rows L2 Evl
variable [TabC]
end DL
namespace DL
open PySem PySem.Spec PyProof.Rows L2 Evl
variable [TabC]
section
end
end DL
namespace MZ
open PySem PySem.Spec PyProof.Rows L2
end MZ
namespace DL
open PySem PySem.Spec PyProof.Rows L2 Evl
variable [TabC]
end DL
namespace DL
open PySem PySem.Spec PyProof.Rows L2 Evl
variable [TabC]
section
end
end DL
namespace DL
open PySem PySem.Spec PyProof.Rows L2 Evl
variable [TabC]
end DL
namespace DL
open PySem PySem.Spec PyProof.Rows L2 Evl
variable [TabC]
section
end
end DL
namespace DL
open PySem PySem.Spec PyProof.Rows L2 Evl
variable [TabC]
section
variable {i j : Int} {a b : Nat}
end
end DL
namespace Sup
open PySem PySem.Spec PySem.Calls PyProof.Rows L2 PySem.W
section
variable {CX : CXT} {P : Program} {w : World} {K : PySem.W.Frag} {mg : Str → Option Value} {base : Heap} {N ps : List Str} {qual : Str} {scope : Scope} {f cc : Addr} {cd : Value} {A : Around} {outer : List Env} {s : Shared} {H : Hp} {E : XK} {us : List Value} {vs : List V}
end
section
variable {prog : Program} {w : World} {A : Around} {E : Value → Shared → Prop} {s : Shared}
end
section
end
end Sup
namespace Sup
open PySem PySem.Spec PySem.Calls PyProof.Rows L2 PySem.W
section
end
end Sup
namespace DL
open PySem PySem.Spec PyProof.Rows L2 Evl Sup
variable [TabC]
abbrev FnC : Type := Option (Str × Str × Arguments × FuncBody × Scope × Addr × Addr)
def fnC (K : PySem.W.Frag) (C : Str) : FnC := match K.lookup (He.ma K (He.ga K C) "__init__") with
  | some ⟨_, _, .func fd, _⟩ => some (fd.name, fd.qualname, fd.params, fd.body, fd.scope, fd.globals, fd.builtins)
  | _ => none
structure DefC where
  cls : Str
  qual : Str
  params : Arguments
  body : List Stmt
  scope : Scope
def DefC.val (d : DefC) : FnC := some ("__init__", d.qual, d.params, .stmts d.body, d.scope, mainGlobals, builtinsNs)
def optB {α : Type} (o : Option α) (f : α → Bool) : Bool := match o with
  | some a => f a
  | none => false
def fdOf (K : PySem.W.Frag) (f : Addr) : Option FuncData := match K.lookup f with
  | some ⟨_, _, .func fd, _⟩ => some fd
  | _ => none
def vsOf (K : PySem.W.Frag) (f : Addr) : Option (Array Value) := match K.lookup f with
  | some ⟨_, _, .fields vs, _⟩ => some vs
  | _ => none
def cellOf (K : PySem.W.Frag) (f : Addr) : Option Addr := match K.lookup f with
  | some ⟨_, _, .cell (some (.ref D)), _⟩ => some D
  | _ => none
def refOf : Value → Option Addr
  | .ref a => some a
  | _ => none
def txtOf : Option Value → Option Str
  | some (.str x _) => some x
  | _ => none
def noneV : Value → Bool
  | .none => true
  | _ => false
def onlyCl : List (Str × Addr) → Option Addr
  | [(x, c)] => if x = "__class__" then some c else none
  | _ => none
def oexB (K : PySem.W.Frag) (C : Addr) : Bool := (match K.lookup C with
  | some ⟨.type t, _, .cls cd, sl⟩ => (match cd.mro, sl.toList with
    | .ref C' :: bm, [_, _, _, _, some (.builtin n), _] => decide (t = "type") && (C' == C && (n == "ValueError.__new__" && (!cd.hasDel && (cd.hasDict && PySem.HandSPX.refsVE bm))))
    | _, _ => false)
  | _ => false) && (He.eqO (PySem.W.findIn K (.ref C) "__setattr__") (some (some (.builtin "object.__setattr__"))) && (decide (PySem.W.subIn K (.ref C) (.type "BaseException") = some true) && (decide (PySem.W.typeIn K (.ref C) = some (.type "type")) && PySem.W.keepIn K (.ref C))))
def xcB (file : Str) (K : PySem.W.Frag) (C : Str) (fs : List Str) : Bool :=
  oexB K (He.ga K C) && (He.eqO (PySem.W.nsIn K mainGlobals C) (some (some (.ref (He.ga K C)))) && (He.eqO (PySem.W.findIn K (.ref (He.ga K C)) "__init__") (some (some (.ref (He.ma K (He.ga K C) "__init__")))) && (decide (PySem.W.typeIn K (.ref (He.ma K (He.ga K C) "__init__")) = some (.type "function")) && (fs.all (fun f => He.eqO (PySem.W.findIn K (.ref (He.ga K C)) f) (some none)) &&
  (optB (fdOf K (He.ma K (He.ga K C) "__init__")) (fun fd => optB (refOf fd.code) (fun cda => optB (onlyCl fd.closure) fun cc => noneV fd.defaults && (PySem.W.codeIn K (.ref cda) fd.qualname && (optB (vsOf K cda) (fun vs => optB (txtOf vs[2]?) fun fl => (file : Str) == fl) && decide (cellOf K cc = some (He.ga K C)))))) &&
  ((PySem.W.clsIn K (He.ga K C)).isSome && (decide (PySem.W.mroIn K (He.ga K C) (.ref (He.ga K C)) = some true) && (He.eqO (PySem.W.nsIn K mainGlobals "super") (some none) && (He.eqO (PySem.W.nsIn K cStatics "thirdparty.any") (some none) && (He.eqO (PySem.W.ks_superIn K (He.ga K C) (He.ga K C) "__init__") (some (some (.builtin "ValueError.__init__"))) &&
  (decide (PySem.W.subIn K (.ref (He.ga K C)) (.type "ValueError") = some true) && (xfB K (He.ga K C) && (He.eqO (PySem.W.findIn K (.ref (He.ga K C)) "__class__") (some (some (.builtin "object.__class__"))) && (He.eqO (PySem.W.specialIn K (.builtin "object.__class__") "__get__") (some (some (.builtin "getset_descriptor.__get__"))) && (decide (PySem.W.takesIn K (.builtin "object.__class__") = some true) && decide (PySem.W.mroIn K (He.ga K C) (.type "object") = some true))))))))))))))))
end DL
namespace DL
open PySem PySem.Spec PyProof.Rows L2 Evl Sup
variable [TabC]
section
end
end DL
namespace Held
open PySem PySem.Spec PyProof.Rows L2 DL
section
variable {X : Cx} {pins : List (Addr × Obj)} {σ : L2.St} {H : Hp} {s : Shared}
end
section
variable {X : Cx} {x n m : Str} {c : Value} {body : List Stmt} {px pn pm pa ph pos : Pos} {i j : Nat} {tb : WX → TS} {W0 : WX}
end
end Held
namespace DL
open PySem PySem.Spec PyProof.Rows L2 Evl Held
variable [TabC]
section
end
def excB (K : PySem.W.Frag) (C : Addr) : Bool := xfB K C && (He.eqO (PySem.W.findIn K (.ref C) "__class__") (some (some (.builtin "object.__class__"))) && (He.eqO (PySem.W.specialIn K (.builtin "object.__class__") "__get__") (some (some (.builtin "getset_descriptor.__get__"))) && (decide (PySem.W.takesIn K (.builtin "object.__class__") = some true) && decide (PySem.W.mroIn K C (.type "object") = some true))))
def isB (K : PySem.W.Frag) (es : List Str) (sub : Str → Str → Bool) (fl : List Str) : Bool :=
  es.all fun C => He.eqO (PySem.W.nsIn K mainGlobals C) (some (some (.ref (He.ga K C)))) && (excB K (He.ga K C) && (fl.all (fun f => He.eqO (PySem.W.findIn K (.ref (He.ga K C)) f) (some none)) &&
    (["NoneType", "bool", "int", "str", "tuple", "list", "dict"].all (fun t => decide (PySem.W.kitOne K (.type t) (.ref (He.ga K C)) = some false)) && es.all fun D => decide (PySem.W.kitOne K (.ref (He.ga K C)) (.ref (He.ga K D)) = some (sub C D)) && decide (PySem.W.exmOne K (.ref (He.ga K C)) (.ref (He.ga K D)) = some (sub C D)))))
section
end
end DL
namespace Act
open PySem PySem.Spec PySem.Calls PyProof.Rows L2 LamX PySem.W
section
variable {X : Cx} {pins : List (Addr × Obj)} {σ : L2.St} {H HZ : Hp} {s s1 : Shared} {c P : Addr} {params : Arguments} {body : Expr} {scope : Scope} {pos : Pos} {bs : List Str} {f c' : Addr}
end
end Act
namespace DL
open PySem PySem.Spec PyProof.Rows L2 Evl Act
variable [TabC]
section
end
end DL
namespace DL
open PySem PySem.Spec PyProof.Rows L2 Evl Sup
variable [TabC]
def clsBody : Stmt → List Stmt
  | .ClassDef _ _ _ b _ _ _ _ _ _ _ => b
  | _ => []
def isInit : Stmt → Bool
  | .FunctionDef n _ _ _ _ _ _ _ _ _ => n == ("__init__" : Str)
  | _ => false
def initOf (st : Stmt) : Stmt := ((clsBody st).find? isInit).getD (.Pass ⟨0, 0, 0, 0⟩)
def defC (C : Str) (st : Stmt) : DefC := ⟨C, C ++ ".__init__", defArgs (initOf st), defBody (initOf st), defScope (initOf st)⟩
abbrev AlE : Type := (He.AlT × Bool) × List FnC
structure Ask where
  n : Nat
  fa : List He.Fa
  fn : List He.DefD
  tf : List Str
  ex : PySem.W.Frag → Bool
  cs : List DefC
  /-- the module's dicts of texts -/
  ts : List He.Tab := []
def Ask.tfn (q : Ask) : List He.Defn := q.tf.map fun x => (x, none)
def valE (q : Ask) (w : World) : AlE := ((He.valT q.fn q.ts w, true), q.cs.map DefC.val)
structure SaysE (q : Ask) (w : World) (h : Heap) (K : PySem.W.Frag) : Prop where
  x : He.SaysX q.fa q.fn q.ts q.tfn q.ex w h K
  c : (q.cs.map fun d => fnC K d.cls) = q.cs.map DefC.val
def tabOkB (K : PySem.W.Frag) : Bool := (tabT K).all fun p => (tabT K).all fun r => p.1 != r.1 || p.2 == r.2
end DL
namespace DL
open PySem PySem.Spec PyProof.Rows L2 Evl
variable [TabC]
end DL
namespace DL
open PySem PySem.Spec PyProof.Rows L2 Evl
variable [TabC]
section
end
end DL
namespace DL
open PySem PySem.Spec PyProof.Rows L2 Evl
variable [TabC]
section
end
end DL
namespace DL
open PySem PySem.Spec PyProof.Rows L2 Evl
variable [TabC]
end DL
namespace DL
open PySem PySem.Spec PyProof.Rows L2 Evl
variable [TabC]
end DL
namespace DL
open PySem PySem.Spec PyProof.Rows L2 Evl
variable [TabC]
end DL
namespace DL
open PySem PySem.Spec PyProof.Rows L2 Evl
variable [TabC]
end DL
namespace DL
open PySem PySem.Spec PyProof.Rows L2 Evl
variable [TabC]
section
end
end DL
namespace DL
open PySem PySem.Spec PyProof.Rows L2 Evl
section
variable {M : Model} {A : Around} {E : Value → Shared → Prop} {s : Shared} {base : Heap} {env : Env} {outer l : List Env} {L e : Addr} {Z : Obj → Prop}
end
section
variable {X : Cx}
end
end DL
namespace DL
open PySem PySem.Spec PyProof.Rows L2 Evl
variable [TabC]
section
end
end DL
namespace DL
open PySem PySem.Spec PyProof.Rows L2 Evl
variable [TabC]
section
end
section
variable {P : Program} {w : World} {K : PySem.W.Frag} {mg : Str → Option Value} {base : Heap}
end
section
end
section
end
end DL
namespace OwnNe
open PySem PySem.W PyProof.Rows Builtin
section
variable {prog : Program} {w : World} {A : Around} {E : Value → Shared → Prop} {s : Shared} {K : Frag} {x C f L : Addr} {ox : Obj} {od : Option Obj} {h₀ : Heap} {m : Str → Option Value} {b tb : Value}
end
end OwnNe
namespace DL
open PySem PySem.Spec PyProof.Rows L2 Evl
variable [TabC]
section
variable {X : Cx} {k : Nat} {f : Addr} {fd : FuncData} {ps : List Str} {sp : Sp} {E : XK}
end
section
end
section
end
end DL
namespace Sup
open PySem PySem.Spec PySem.Calls PyProof.Rows L2 PySem.W
section
variable {P : Program} {w : World} {K : PySem.W.Frag} {mg : Str → Option Value} {base : Heap} {N ps : List Str} {x qual : Str} {scope : Scope} {f cda cc C f2 : Addr} {A : Around} {outer : List Env} {s : Shared} {H : Hp} {E E2 : XK} {params : Arguments} {body : List Stmt} {k : Nat} {sp : Sp}
end
end Sup
namespace Sup
open PySem PySem.Spec PySem.Calls PyProof.Rows L2 PySem.W
section
variable {P : Program} {w : World} {K : PySem.W.Frag} {mg : Str → Option Value} {base : Heap} {N ps : List Str} {x qual : Str} {scope : Scope} {f cda cc C f2 : Addr} {A : Around} {outer : List Env} {s : Shared} {H : Hp} {E E2 : XK} {params : Arguments} {body : List Stmt} {k : Nat} {sp : Sp}
end
end Sup
namespace DL
open PySem PySem.Spec PyProof.Rows L2 Evl Sup
variable [TabC]
section
variable {P : Program} {w : World} {K : PySem.W.Frag} {mg : Str → Option Value} {base : Heap}
end
section
end
section
end
end DL
namespace DL
open PySem PySem.Spec PyProof.Rows L2 Evl Sup
variable [TabC]
section
end
section
end
end DL
namespace DL
open PySem PySem.Spec PyProof.Rows L2 Evl Sup
variable [TabC]
section
end
end DL
namespace DL
open PySem PySem.Spec PyProof.Rows L2
end DL
namespace DL
open PySem PySem.Spec PyProof.Rows L2 Evl Sup
variable [TabC]
section
end
end DL
namespace DL
open PySem PySem.Spec PyProof.Rows L2 Evl Sup
variable [TabC]
section
end
end DL
namespace DL
open PySem PySem.Spec PyProof.Rows L2 Evl Sup
variable [TabC]
section
end
end DL
namespace DL
open PySem PySem.Spec PyProof.Rows L2 Evl Sup
variable [TabC]
section
end
end DL
namespace DL
open PySem PySem.Spec PyProof.Rows L2 Evl Sup
variable [TabC]
end DL
namespace DL
open PySem PySem.Spec PyProof.Rows L2 Evl Sup
variable [TabC]
section
end
end DL
namespace DL
open PySem PySem.Spec PyProof.Rows L2 Evl Sup
variable [TabC]
section
end
end DL
namespace DL
open PySem PySem.Spec PyProof.Rows L2 Evl Sup
variable [TabC]
end DL
namespace DL
open PySem PySem.Spec PyProof.Rows L2 Evl Sup
variable [TabC]
end DL
namespace DL
open PySem PySem.Spec PyProof.Rows L2 Evl Sup
variable [TabC]
end DL
namespace DL
open PySem PySem.Spec PyProof.Rows L2 Evl Sup
variable [TabC]
end DL
namespace DL
open PySem PySem.Spec PyProof.Rows L2 Evl Sup
variable [TabC]
end DL
namespace DL
open PySem PySem.Spec PyProof.Rows L2 Evl Sup
variable [TabC]
end DL
namespace DL
open PySem PySem.Spec PyProof.Rows L2 Evl Sup
variable [TabC]
namespace Y
section
end
end Y
end DL
namespace DL
open PySem PySem.Spec PyProof.Rows L2 Evl Sup
variable [TabC]
namespace Y
end Y
end DL
namespace DLS
open PySem PySem.Spec PyProof.Rows L2
section
variable {pr : Program} {w : World} {A : Around} {E : Value → Shared → Prop}
section
end
end
end DLS
namespace DLS
open PySem PySem.Spec PyProof.Rows L2
end DLS
namespace DL
open PySem PySem.Spec PyProof.Rows L2 Evl DLS
section
variable {X : Cx} {Hd H : Hp} {pins : List (Addr × Obj)} {σ : L2.St} {z : Shared}
end
variable [TabC]
section
end
end DL
namespace DL
open PySem PySem.Spec PyProof.Rows L2 Evl Sup
variable [TabC]
section
end
end DL
namespace DL
open PySem PySem.Spec PyProof.Rows L2 Evl Sup
variable [TabC]
section
end
namespace Y
section
end
end Y
end DL
section
open PySem PySem.Spec PyProof.Rows L2 Evl DL
namespace DL
open PySem PySem.Spec PyProof.Rows L2 Evl Sup
variable [TabC]
end DL
namespace DL
open PySem PySem.Spec PyProof.Rows L2 Evl Sup
variable [TabC]
namespace Y
section
end
end Y
end DL
end
section
open PySem PySem.Spec PyProof.Rows L2 Evl DL
namespace DL
open PySem PySem.Spec PyProof.Rows L2 Evl Sup
variable [TabC]
end DL
namespace DL
open PySem PySem.Spec PyProof.Rows L2 Evl Sup
variable [TabC]
namespace Y
section
end
end Y
end DL
namespace DL
open PySem PySem.Spec PyProof.Rows L2 Evl Sup
variable [TabC]
end DL
namespace DL
open PySem PySem.Spec PyProof.Rows L2 Evl Sup
variable [TabC]
namespace Y
section
end
end Y
end DL
namespace DL
open PySem PySem.Spec PyProof.Rows L2 Evl Sup
variable [TabC]
end DL
namespace DL
open PySem PySem.Spec PyProof.Rows L2 Evl Sup
variable [TabC]
end DL
namespace DL
open PySem PySem.Spec PyProof.Rows L2 Evl Sup
variable [TabC]
end DL
namespace DL
open PySem PySem.Spec PyProof.Rows L2 Evl Sup
variable [TabC]
end DL
namespace DL
open PySem PySem.Spec PyProof.Rows L2 Evl Sup
variable [TabC]
end DL
namespace DL
open PySem PySem.Spec PyProof.Rows L2 Evl Sup
variable [TabC]
section
end
end DL
end
section
open PySem PySem.Spec PyProof.Rows L2 Evl DL
namespace DL
open PySem PySem.Spec PyProof.Rows L2 Evl Sup
variable [TabC]
section
end
namespace Y
end Y
end DL
end
section
open PySem PySem.Spec PyProof.Rows L2 Evl DL
namespace DL
open PySem PySem.Spec PyProof.Rows L2 Evl Sup
variable [TabC]
end DL
end
section
open PySem PySem.Spec PyProof.Rows L2 Evl DL
namespace DL
open PySem PySem.Spec PyProof.Rows L2 Evl Sup
variable [TabC]
end DL
namespace DL
open PySem PySem.Spec PyProof.Rows L2 Evl Sup
variable [TabC]
section
end
end DL
namespace DL
open PySem PySem.Spec PyProof.Rows L2 Evl Sup
variable [TabC]
end DL
namespace DL
open PySem PySem.Spec PyProof.Rows L2 Evl Sup
variable [TabC]
end DL
namespace DL
open PySem PySem.Spec PyProof.Rows L2 Evl Sup
variable [TabC]
section
namespace Y
end Y
end
end DL
end
section
open PySem PySem.Spec PyProof.Rows L2 Evl DL
namespace DL
open PySem PySem.Spec PyProof.Rows L2 Evl Sup
variable [TabC]
section
end
namespace Y
end Y
end DL
end
section
open PySem PySem.Spec PyProof.Rows L2 Evl DL
namespace DL
open PySem PySem.Spec PyProof.Rows L2 Evl Sup
variable [TabC]
end DL
namespace DL
open PySem PySem.Spec PyProof.Rows L2 Evl Sup
variable [TabC]
end DL
namespace DL
open PySem PySem.Spec PyProof.Rows L2 Evl Sup
variable [TabC]
end DL
namespace DL
open PySem PySem.Spec PyProof.Rows L2 Evl Sup
variable [TabC]
end DL
namespace DL
open PySem PySem.Spec PyProof.Rows L2 Evl Sup
variable [TabC]
end DL
namespace MZ
open PySem PySem.Spec PyProof.Rows L2
open PySem.Sem (wp)
section
variable {prog : Program} {w : World} {A : Around} {E : Value → Shared → Prop} {s : Shared}
end
end MZ
namespace DL
open PySem PySem.Spec PyProof.Rows L2 Evl Sup
variable [TabC]
end DL
namespace MZ
open PySem PySem.Spec PyProof.Rows L2
open PySem.Sem (wp)
section
variable {prog : Program} {w : World} {A : Around} {E : Value → Shared → Prop} {s : Shared}
end
end MZ
namespace DL
open PySem PySem.Spec PyProof.Rows L2 Evl Sup
variable [TabC]
namespace Y
end Y
end DL
end
section
open PySem PySem.Spec PyProof.Rows L2 Evl DL
namespace DL
open PySem PySem.Spec PyProof.Rows L2 Evl Sup
variable [TabC]
end DL
namespace DL
open PySem PySem.Spec PyProof.Rows L2 Evl Sup
variable [TabC]
end DL
namespace DL
open PySem PySem.Spec PyProof.Rows L2 Evl Sup
variable [TabC]
end DL
namespace DL
open PySem PySem.Spec PyProof.Rows L2 Evl Sup
variable [TabC]
end DL
namespace DL
open PySem PySem.Spec PyProof.Rows L2 Evl Sup
variable [TabC]
end DL
namespace DL
open PySem PySem.Spec PyProof.Rows L2 Evl Sup
variable [TabC]
end DL
namespace DL
open PySem PySem.Spec PyProof.Rows L2 Evl Sup
variable [TabC]
end DL
namespace DL
open PySem PySem.Spec PyProof.Rows L2 Evl Sup
variable [TabC]
end DL
namespace DL
open PySem PySem.Spec PyProof.Rows L2 Evl Sup
variable [TabC]
end DL
namespace DL
open PySem PySem.Spec PyProof.Rows L2 Evl Sup
variable [TabC]
end DL
namespace DL
open PySem PySem.Spec PyProof.Rows L2 Evl Sup
variable [TabC]
end DL
namespace DL
open PySem PySem.Spec PyProof.Rows L2 Evl Sup
variable [TabC]
end DL
namespace DL
open PySem PySem.Spec PyProof.Rows L2 Evl Sup
variable [TabC]
end DL
namespace DL
open PySem PySem.Spec PyProof.Rows L2 Evl Sup
variable [TabC]
end DL
namespace DL
open PySem PySem.Spec PyProof.Rows L2 Evl Sup
variable [TabC]
end DL
namespace DL
open PySem PySem.Spec PyProof.Rows L2 Evl Sup
variable [TabC]
end DL
namespace DL
open PySem PySem.Spec PyProof.Rows L2 Evl Sup
variable [TabC]
end DL
namespace DL
open PySem PySem.Spec PyProof.Rows L2 Evl Sup
variable [TabC]
end DL
end
namespace BackT
open PySem PySem.Spec PyProof.Rows L2
section
variable {prog : Program} {w : World} {A : Around} {E : Value → Shared → Prop} {s : Shared}
end
end BackT
namespace L2
open PySem PySem.Spec PyProof.Rows
section
variable {X : Cx} {e : Expr} {te : TE} {lo hi : Option Expr} {tl th : TO} {pos p2 : Pos}
end
end L2
namespace L2
open PySem PySem.Spec PyProof.Rows
section
variable {X : Cx} {tg : Expr}
end
end L2
namespace DL
open PySem PySem.Spec PyProof.Rows L2 Evl
variable [TabC]
section
end
namespace Y
section
end
end Y
end DL
namespace DL
open PySem PySem.Spec PyProof.Rows L2 Evl Sup
variable [TabC]
def eyesL (as : List Addr) (g : Addr → Option Obj) : PySem.W.Frag := He.frT g (cStatics :: as)
def obsL (as : List Addr) (q : Ask) (g : Addr → Option Obj) : AlE := ((He.obsT q.fa q.fn q.ts (eyesL as g), q.ex (eyesL as g) && He.tabsB g q.tfn (eyesL as g)), q.cs.map fun d => fnC (eyesL as g) d.cls)
theorem saysL_of {as : List Addr} {q : Ask} {w : World} {h : Heap} (e : obsL as q h.get? = valE q w) : SaysE q w h (eyesL as h.get?) := by
  have e1 : He.obsT q.fa q.fn q.ts (eyesL as h.get?) = He.valT q.fn q.ts w := congrArg (fun z : AlE => z.1.1) e
  have e2 : (q.ex (eyesL as h.get?) && He.tabsB h.get? q.tfn (eyesL as h.get?)) = true := congrArg (fun z : AlE => z.1.2) e
  have e3 := congrArg (fun z : AlE => z.2) e
  obtain ⟨b1, b2⟩ := He.ba e2
  have tab : ∀ p ∈ q.tfn, PySem.W.codeHdIn (eyesL as h.get?) (He.cT (eyesL as h.get?) p).1 (He.cT (eyesL as h.get?) p).2 = true ∧ ∃ o, h.get? (He.cT (eyesL as h.get?) p).2 = some o ∧ He.emptyTab o = true := by
    intro p hp
    obtain ⟨c1, c2⟩ := He.ba (List.all_eq_true.mp b2 p hp)
    refine ⟨c1, ?_⟩
    cases z : h.get? (He.cT (eyesL as h.get?) p).2 with
    | some o =>
      rw [z] at c2
      exact ⟨o, rfl, c2⟩
    | none =>
      rw [z] at c2
      cases c2
  refine ⟨⟨e1, b1, fun p hp => (tab p hp).1, fun p hp => ?_, fun p hp => ?_⟩, e3⟩
  · obtain ⟨_, o, c1, c2⟩ := tab p hp
    exact He.frT_none c1 c2
  · obtain ⟨_, o, c1, c2⟩ := tab p hp
    rw [c1, He.emptyTab_eq c2]
def hookL (as : List Addr) (q : Ask) : PySem.W.Hook where
  α := AlE
  obs := fun s => obsL as q s.heap.get?
  val := fun w => valE q w
  says := fun w h => ∃ K : PySem.W.Frag, K.In h ∧ SaysE q w h K
  of := fun w s e => ⟨_, He.frT_in, saysL_of e⟩
  keeps := fun _ _ _ ⟨K, hK, c⟩ k => ⟨K, PySem.W.Frag.In.keeps hK k, ⟨c.x.t, c.x.more, c.x.hd, c.x.out, fun p hp => k _ _ (c.x.empty p hp)⟩, c.c⟩
theorem obsL_eq {as : List Addr} {q : Ask} {g : Addr → Option Obj} {s : Shared} (h : ∀ a, g a = s.heap.get? a) : obsL as q g = (hookL as q).obs s := by
  have e : g = s.heap.get? := funext h
  rw [e] <;> rfl
end DL
section
open PySem PySem.Spec PyProof.Rows L2 Evl DL
namespace DL
open PySem PySem.Spec PyProof.Rows L2 Evl Sup
variable [TabC]
end DL
namespace DL
open PySem PySem.Spec PyProof.Rows L2 Evl Sup
variable [TabC]
end DL
namespace DL
open PySem PySem.Spec PyProof.Rows L2 Evl Sup
variable [TabC]
end DL
namespace DL
open PySem PySem.Spec PyProof.Rows L2 Evl Sup
variable [TabC]
end DL
namespace DL
open PySem PySem.Spec PyProof.Rows L2 Evl Sup
variable [TabC]
end DL
namespace DL
open PySem PySem.Spec PyProof.Rows L2 Evl Sup
variable [TabC]
end DL
namespace DL
open PySem PySem.Spec PyProof.Rows L2 Evl Sup
variable [TabC]
end DL
namespace DL
open PySem PySem.Spec PyProof.Rows L2 Evl Sup
variable [TabC]
end DL
namespace DL
open PySem PySem.Spec PyProof.Rows L2 Evl Sup
variable [TabC]
end DL
namespace DL
open PySem PySem.Spec PyProof.Rows L2 Evl Sup
variable [TabC]
end DL
namespace DL
open PySem PySem.Spec PyProof.Rows L2 Evl Sup
variable [TabC]
end DL
end
namespace DL
open PySem PySem.Spec PyProof.Rows L2 Evl Sup
variable [TabC]
section
end
end DL
section
open PySem PySem.Spec PyProof.Rows L2 Evl DL
namespace DL
open PySem PySem.Spec PyProof.Rows L2 Evl Sup
variable [TabC]
end DL
namespace DL
open PySem PySem.Spec PyProof.Rows L2 Evl Sup
variable [TabC]
end DL
end
namespace DLS
open PySem PySem.Spec PyProof.Rows L2
section
variable {pr : Program} {w : World} {A : Around} {E : Value → Shared → Prop} {z : Shared}
end
end DLS
namespace DL
open PySem PySem.Spec PyProof.Rows L2 Evl DLS
variable [TabC]
end DL
section
open PySem PySem.Spec PyProof.Rows L2 Evl DL
namespace DL
open PySem PySem.Spec PyProof.Rows L2 Evl Sup
variable [TabC]
end DL
namespace DL
open PySem PySem.Spec PyProof.Rows L2 Evl Sup
variable [TabC]
end DL
namespace DL
open PySem PySem.Spec PyProof.Rows L2 Evl Sup
variable [TabC]
end DL
end
section
open PySem PySem.Spec PyProof.Rows L2 Evl DL
namespace DL
open PySem PySem.Spec PyProof.Rows L2 Evl Sup
variable [TabC]
end DL
end
section
open PySem PySem.Spec PyProof.Rows L2 Evl DL
namespace DL
open PySem PySem.Spec PyProof.Rows L2 Evl Sup
variable [TabC]
end DL
namespace DL
open PySem PySem.Spec PyProof.Rows L2 Evl Sup
variable [TabC]
end DL
namespace DL
open PySem PySem.Spec PyProof.Rows L2 Evl Sup
variable [TabC]
end DL
namespace DL
open PySem PySem.Spec PyProof.Rows L2 Evl Sup
variable [TabC]
end DL
namespace DL
open PySem PySem.Spec PyProof.Rows L2 Evl Sup
variable [TabC]
end DL
namespace DL
open PySem PySem.Spec PyProof.Rows L2 Evl Sup
variable [TabC]
end DL
namespace DL
open PySem PySem.Spec PyProof.Rows L2 Evl Sup
variable [TabC]
end DL
namespace DL
open PySem PySem.Spec PyProof.Rows L2 Evl Sup
variable [TabC]
end DL
namespace DL
open PySem PySem.Spec PyProof.Rows L2 Evl Sup
variable [TabC]
end DL
end
section
open PySem PySem.Spec PyProof.Rows L2 Evl DL
namespace DL
open PySem PySem.Spec PyProof.Rows L2 Evl Sup
variable [TabC]
section
end
end DL
end
section
open PySem PySem.Spec PyProof.Rows L2 Evl DL
namespace DL
open PySem PySem.Spec PyProof.Rows L2 Evl Sup
variable [TabC]
end DL
namespace DL
open PySem PySem.Spec PyProof.Rows L2 Evl Sup
variable [TabC]
end DL
namespace DL
open PySem PySem.Spec PyProof.Rows L2 Evl Sup
variable [TabC]
end DL
namespace DL
open PySem PySem.Spec PyProof.Rows L2 Evl Sup
variable [TabC]
end DL
namespace DL
open PySem PySem.Spec PyProof.Rows L2 Evl Sup
variable [TabC]
end DL
namespace DL
open PySem PySem.Spec PyProof.Rows L2 Evl Sup
variable [TabC]
end DL
namespace DL
open PySem PySem.Spec PyProof.Rows L2 Evl Sup
variable [TabC]
end DL
end
section
open PySem PySem.Spec PyProof.Rows L2 Evl DL
namespace Hear
open PySem PySem.Spec PyProof.Rows L2 DL Held
section
variable {X : Cx} {n : Str} {body : List Stmt} {cls0 : ExceptHandler} {hds0 : List ExceptHandler} {l0 : List (Value × (Addr → Value → Option Addr → TS))} {pos : Pos} {i : Nat} {tb : WX → TS} {W0 : WX}
end
end Hear
namespace DL
open PySem PySem.Spec PyProof.Rows L2 Evl Held Hear
variable [TabC]
section
variable {X : Cx} {a : Addr} {o : Obj} {cls : Value} {d : Option Addr} {pins : List (Addr × Obj)} {f n m : Str} {pn pa pm pt ps pc : Pos} {i j : Nat}
end
end DL
end
section
open PySem PySem.Spec PyProof.Rows L2 Evl DL
namespace DL
open PySem PySem.Spec PyProof.Rows L2 Evl Held Hear
variable [TabC]
section
end
end DL
end
section
open PySem PySem.Spec PyProof.Rows L2 Evl DL
namespace DL
open PySem PySem.Spec PyProof.Rows L2 Evl Sup Held
variable [TabC]
end DL
namespace DL
open PySem PySem.Spec PyProof.Rows L2 Evl Sup Held
variable [TabC]
end DL
end
section
open PySem PySem.Spec PyProof.Rows L2 Evl DL
namespace DL
open PySem PySem.Spec PyProof.Rows L2 Evl Sup
variable [TabC]
section
end
section
end
end DL
end
section
open PySem PySem.Spec PyProof.Rows L2 Evl DL
namespace DL
open PySem PySem.Spec PyProof.Rows L2 Evl Sup
variable [TabC]
end DL
namespace DL
open PySem PySem.Spec PyProof.Rows L2 Evl Sup
variable [TabC]
end DL
namespace DL
open PySem PySem.Spec PyProof.Rows L2 Evl Sup
variable [TabC]
end DL
namespace DL
open PySem PySem.Spec PyProof.Rows L2 Evl Sup
variable [TabC]
end DL
namespace DL
open PySem PySem.Spec PyProof.Rows L2 Evl Sup
variable [TabC]
end DL
namespace DL
open PySem PySem.Spec PyProof.Rows L2 Evl Sup
variable [TabC]
end DL
end
section
open PySem PySem.Spec PyProof.Rows L2 Evl DL
namespace DL
open PySem PySem.Spec PyProof.Rows L2 Evl Sup
variable [TabC]
section
end
end DL
end
section
open PySem PySem.Spec PyProof.Rows L2 Evl DL
namespace DL
open PySem PySem.Spec PyProof.Rows L2 Evl Sup
variable [TabC]
section
end
end DL
namespace DL
open PySem PySem.Spec PyProof.Rows L2 Evl Sup PySem.W HandSHeadRun PySem.Calls
section
variable [TabC]
variable {r : OpenRow} {M : Nat} {w : World}
end
end DL
namespace DL
open PySem PySem.Spec PyProof.Rows L2 Evl Held
variable [TabC]
section
end
end DL
namespace DL
open PySem PySem.Spec PyProof.Rows L2 Evl Sup
variable [TabC]
end DL
namespace DL
open PySem PySem.Spec PyProof.Rows L2 Evl Sup
variable [TabC]
section
end
end DL
namespace DL
open PySem PySem.Spec PyProof.Rows L2 Evl Sup
variable [TabC]
end DL
namespace DL
open PySem PySem.Spec PyProof.Rows L2 Evl Sup
variable [TabC]
section
end
end DL
namespace DL
open PySem PySem.Spec PyProof.Rows L2 Evl Sup
variable [TabC]
section
end
end DL
namespace DL
open PySem PySem.Spec PyProof.Rows L2 Evl Sup
variable [TabC]
end DL
namespace DL
open PySem PySem.Spec PyProof.Rows L2 Evl Sup
variable [TabC]
end DL
end
namespace DL
open PySem PySem.Spec PyProof.Rows L2 Evl Sup
variable [TabC]
section
end
end DL
namespace DL
open PySem PySem.Spec PyProof.Rows L2 Evl Sup
variable [TabC]
section
end
end DL
namespace DL
open PySem PySem.Spec PyProof.Rows L2 Evl Sup
variable [TabC]
section
end
end DL
section
open PySem PySem.Spec PyProof.Rows L2 Evl DL
namespace DL
open PySem PySem.Spec PyProof.Rows L2 Evl Sup
variable [TabC]
end DL
end
namespace DL
open PySem PySem.Spec PyProof.Rows L2 Evl Sup
variable [TabC]
section
end
end DL
namespace DL
open PySem PySem.Spec PyProof.Rows L2 Evl Sup
variable [TabC]
end DL
section
open PySem PySem.Spec PyProof.Rows L2 Evl DL
namespace DL
open PySem PySem.Spec PyProof.Rows L2 Evl Sup
variable [TabC]
end DL
namespace DL
open PySem PySem.Spec PyProof.Rows L2 Evl Sup
variable [TabC]
end DL
namespace DL
open PySem PySem.Spec PyProof.Rows L2 Evl Sup
variable [TabC]
end DL
namespace DL
open PySem PySem.Spec PyProof.Rows L2 Evl Sup
variable [TabC]
end DL
namespace DL
open PySem PySem.Spec PyProof.Rows L2 Evl Sup
variable [TabC]
end DL
namespace DL
open PySem PySem.Spec PyProof.Rows L2 Evl Sup
variable [TabC]
end DL
end
namespace DL
open PySem PySem.Spec PyProof.Rows L2 Evl Sup PySem.W HandSHeadRun PySem.Calls
section
variable [TabC]
end
end DL
section
open PySem PySem.Spec PyProof.Rows L2 Evl DL
namespace DL
open PySem PySem.Spec PyProof.Rows L2 Evl Sup
variable [TabC]
end DL
namespace DL
open PySem PySem.Spec PyProof.Rows L2 Evl Sup
variable [TabC]
end DL
namespace DL
open PySem PySem.Spec PyProof.Rows L2 Evl Sup
variable [TabC]
end DL
namespace DL
open PySem PySem.Spec PyProof.Rows L2 Evl Sup
variable [TabC]
end DL
namespace DL
open PySem PySem.Spec PyProof.Rows L2 Evl Sup
variable [TabC]
end DL
namespace DL
open PySem PySem.Spec PyProof.Rows L2 Evl Sup
variable [TabC]
end DL
namespace DL
open PySem PySem.Spec PyProof.Rows L2 Evl Sup
variable [TabC]
end DL
namespace DL
open PySem PySem.Spec PyProof.Rows L2 Evl Sup
variable [TabC]
end DL
namespace DL
open PySem PySem.Spec PyProof.Rows L2 Evl Sup
variable [TabC]
end DL
namespace DL
open PySem PySem.Spec PyProof.Rows L2 Evl Sup
variable [TabC]
end DL
namespace DL
open PySem PySem.Spec PyProof.Rows L2 Evl Sup
variable [TabC]
end DL
namespace DL
open PySem PySem.Spec PyProof.Rows L2 Evl Sup
variable [TabC]
end DL
namespace DL
open PySem PySem.Spec PyProof.Rows L2 Evl Sup
variable [TabC]
end DL
namespace DL
open PySem PySem.Spec PyProof.Rows L2 Evl Sup
variable [TabC]
end DL
end
namespace DL
open PySem PySem.Spec PyProof.Rows L2 Evl Sup PySem.W HandSHeadRun PySem.Calls
section
variable [TabC]
end
end DL
section
open PySem PySem.Spec PyProof.Rows L2 Evl DL
namespace DL
open PySem PySem.Spec PyProof.Rows L2 Evl Sup
variable [TabC]
section
end
end DL
namespace Hear
open PySem PySem.Spec PyProof.Rows L2 DL Held
section
variable {X : Cx} {x n : Str} {c : Value} {i : Nat} {body suite : List Stmt} {b₀ : Stmt} {np pos pos' : Pos} {tb : WX → TS} {ts : Addr → Value → Option Addr → TS} {hds : List ExceptHandler}
end
end Hear
namespace DL
open PySem PySem.Spec PyProof.Rows L2 Evl Held Hear
variable [TabC]
section
end
section
end
end DL
end
section
open PySem PySem.Spec PyProof.Rows L2 Evl DL
namespace DL
open PySem PySem.Spec PyProof.Rows L2 Evl Sup
variable [TabC]
end DL
namespace DL
open PySem PySem.Spec PyProof.Rows L2 Evl Sup
variable [TabC]
end DL
namespace DL
open PySem PySem.Spec PyProof.Rows L2 Evl Sup
variable [TabC]
section
end
section
end
end DL
namespace Lw
open PySem PySem.Spec PyProof.Rows L2 Evl DL
instance tabC : TabC := ⟨[]⟩
def top (i : Nat) : Stmt := PySem.Challenge.pw_timesfloor_k04_numbers_written_and_read.main.body.getD i (.Pass ⟨0, 0, 0, 0⟩)
def errs : List Str := ["TileError", "BadFraction", "BadText"]
def subT : List (Str × Str) := [("BadFraction", "TileError"), ("BadText", "TileError")]
def subE (c d : Str) : Bool := c == d || subT.contains (c, d)
def errF : List Str := ["item", "line", "part"]
def dd (x : Str) (i : Nat) : He.DefD := ⟨(x, none), x, x, defArgs (top i), defBody (top i), defScope (top i), [], []⟩
def fn : List He.DefD := [dd "is_integer" 5, dd "is_within" 6, dd "is_list" 7, dd "common" 10, dd "lowest_in" 11, dd "text_in" 12, dd "is_number" 13, dd "kept_number" 14, dd "need_fraction" 15, dd "written" 20, dd "written_fraction" 21, dd "number_text" 23, dd "number_of" 24, dd "_law_scribe" 26, dd "_law_quill_by" 27, dd "_law_pick" 28, dd "_law_low" 29, dd "_law_whole" 30, dd "_law_read" 31, dd "_law_told" 32, dd "_law_bent" 33, dd "law" 34]
def fa : List He.Fa := [.glo "is_integer", .glo "is_within", .glo "is_list", .glo "common", .glo "lowest_in", .glo "text_in", .glo "is_number", .glo "kept_number", .glo "need_fraction", .glo "written", .glo "written_fraction", .glo "number_text", .glo "number_of", .glo "_law_scribe", .glo "_law_quill_by", .glo "_law_pick", .glo "_law_low", .glo "_law_whole", .glo "_law_read", .glo "_law_told", .glo "_law_bent", .glo "law", .free "abs", .free "all", .free "bool", .free "int", .free "isinstance", .free "len", .free "list", .free "range", .free "repr", .free "str", .free "tuple", .int "LEAST_UNDER" 2, .str "BAR" "/", .str "FIGURES" "0123456789", .int "MOST_FIGURES" 140]
abbrev Rw : PySem.W.OpenRow := PySem.W.OpenLaw.row PySem.Challenge.rw_timesfloor_k04_numbers_written_and_read
def ex (K : PySem.W.Frag) : Bool := tabOkB K && (isB K errs subE errF && (xcB (PySem.Challenge.rw_timesfloor_k04_numbers_written_and_read).prog.main.file K "BadFraction" ["part"] && (xcB (PySem.Challenge.rw_timesfloor_k04_numbers_written_and_read).prog.main.file K "BadText" ["line", "item"] && (true))))
def ask : Ask := ⟨5, fa, fn, [], ex, [defC "BadFraction" (top 2), defC "BadText" (top 3)], []⟩
def as_ : List Nat := [3, 6, 4, 24, 46, 67, 76, 83, 90, 97, 104, 111, 118, 125, 132, 137, 144, 151, 158, 163, 170, 177, 184, 189, 196, 203, 210, 217, 0, 23, 45, 66, 75, 82, 89, 96, 103, 110, 117, 124, 131, 136, 143, 150, 157, 162, 169, 176, 183, 188, 195, 202, 209, 216, 22, 25, 43, 44, 64, 65, 70, 71, 72, 73, 74, 77, 78, 79, 80, 81, 84, 85, 86, 87, 88, 91, 92, 93, 94, 95, 98, 99, 100, 101, 102, 105, 106, 107, 108, 109, 112, 113, 114, 115, 116, 119, 120, 121, 122, 123, 126, 127, 128, 129, 130, 133, 134, 135, 138, 139, 140, 141, 142, 145, 146, 147, 148, 149, 152, 153, 154, 155, 156, 159, 160, 161, 164, 165, 166, 167, 168, 171, 172, 173, 174, 175, 178, 179, 180, 181, 182, 185, 186, 187, 190, 191, 192, 193, 194, 197, 198, 199, 200, 201, 204, 205, 206, 207, 208, 211, 212, 213, 214, 215, 42, 31, 63, 52, 37, 38, 39, 40, 41, 58, 59, 60, 61, 62]
abbrev hk : PySem.W.Hook := hookL as_ ask
def ob (s : PySem.W.SharedT) : AlE := obsL as_ ask (HandSHeadRun.getT s)
theorem ob_eq (s : PySem.W.SharedT) : ob s = hk.obs s.abs := obsL_eq (HandSHeadRun.getT_eq s)
def loose : List Str := (["TileError", "BadFraction", "BadText", "is_integer", "is_within", "is_list", "LEAST_UNDER", "common", "lowest_in", "text_in", "is_number", "kept_number"] : List Str) ++ (["need_fraction", "BAR", "FIGURES", "MOST_FIGURES", "written", "written_fraction", "number_text", "number_of", "_law_scribe", "_law_quill_by", "_law_pick", "_law_low"] : List Str) ++ (["_law_whole", "_law_read", "_law_told", "_law_bent"] : List Str)
set_option maxHeartbeats 0 in
theorem run (w : World) : HandSHeadRun.RunEq Rw (PySem.W.view Rw.prog [34]) hk ob 12000 loose w := by
  intro os
  kernel_rfl
set_option maxHeartbeats 0 in
def topHd := HandSHeadRun.head_any (r := PySem.W.OpenLaw.row PySem.Challenge.rw_timesfloor_k04_numbers_written_and_read) (q := PySem.W.view (PySem.W.OpenLaw.row PySem.Challenge.rw_timesfloor_k04_numbers_written_and_read).prog [34]) (H := Lw.hk) (ob := Lw.ob) (M := 12000) (loose := Lw.loose) (d := HandSHeadRun.topDef (PySem.W.OpenLaw.row PySem.Challenge.rw_timesfloor_k04_numbers_written_and_read).prog 34) (kwd := []) Lw.ob_eq
    (by kernel_rfl) (fun s => by kernel_rfl) Lw.run (by kernel_rfl) (by kernel_rfl) (by kernel_rfl) (by rfl) (by first | assumption | decide +kernel) (by decide +kernel) ⟨rfl, rfl, rfl, rfl, rfl, by decide +kernel⟩
set_option maxHeartbeats 0 in
theorem topLaw (hl : (PySem.W.OpenLaw.row PySem.Challenge.rw_timesfloor_k04_numbers_written_and_read).wellSaid = true → (PySem.W.OpenLaw.row PySem.Challenge.rw_timesfloor_k04_numbers_written_and_read).Holds) : PySem.Challenge.rw_timesfloor_k04_numbers_written_and_read.Holds := by
  w_on; o_law
  exact hl (by assumption)
section
variable {K : PySem.W.Frag} {h : Heap} {mg : Str → Option Value}
end
end Lw
open PySem PySem.W PySem.Calls PyProof.Rows
end
namespace DL
open PySem PySem.Spec PyProof.Rows L2 Evl
inductive D where
  | non | bl (b : Bool) | int (i : Int) | str (x : Str) | ty (n : String) | ref (a : Addr)
  | tup (xs : List D) | lst (xs : List D) | dct (ks : List Key) (xs : List D) | ins (C : Str) (ns : List Str) (xs : List D)
  /-- an exception that is held -/
  | exc (C : Str) (ns : List Str) (xs : List D)
  /-- a def of the top, as a value -/
  | fnc (x : Str)
  /-- a range of ints, step 1 -/
  | rng (lo hi : Int)
def exh (a C d : Addr) : HO := .ext fun h => ∃ o vs, h.get? a = some o ∧ o.cls = .ref C ∧ o.dict = some d ∧ o.data = .fields vs
mutual
/-- v stands for d over the heap H of what never changes -/
inductive Rp (K : PySem.W.Frag) (H : Hp) : V → D → Prop
  | non : Rp K H .non .non
  | bl (b : Bool) : Rp K H (.bl b) (.bl b)
  | int (i : Int) : Rp K H (.int i) (.int i)
  | str (x : Str) : Rp K H (.str x) (.str x)
  | ty (n : String) : Rp K H (.ty n) (.ty n)
  | ref (a : Addr) : Rp K H (.ref a) (.ref a)
  | tup {a : Addr} {xs : List V} {ds : List D} : SqT K H a xs → RpL K H xs ds → Rp K H (.ref a) (.tup ds)
  | lst {a : Addr} {xs : List V} {ds : List D} : SqL K H a xs → RpL K H xs ds → Rp K H (.ref a) (.lst ds)
  | dct {a : Addr} {ks : List Key} {xs : List V} {ds : List D} : H a = some (.dK (ks.zip xs)) → ks.length = xs.length → RpL K H xs ds → Rp K H (.ref a) (.dct ks ds)
  | ins {a dx : Addr} {C : Str} {ns : List Str} {xs : List V} {ds : List D} : H a = some (.ins (He.ga K C) dx (ns.zip xs)) → ns.length = xs.length → RpL K H xs ds → Rp K H (.ref a) (.ins C ns ds)
  | exc {a d : Addr} {C : Str} {ns : List Str} {xs : List V} {ds : List D} : H a = some (exh a (He.ga K C) d) → H d = some (.xd (ns.zip xs)) → ns.length = xs.length → RpL K H xs ds → Rp K H (.ref a) (.exc C ns ds)
  | fnc (x : Str) : Rp K H (.ref (He.ga K x)) (.fnc x)
  | rng {a : Addr} {lo hi : Int} : H a = some (.rng lo hi) → Rp K H (.ref a) (.rng lo hi)
inductive RpL (K : PySem.W.Frag) (H : Hp) : List V → List D → Prop
  | nil : RpL K H [] []
  | cons {v : V} {vs : List V} {d : D} {ds : List D} : Rp K H v d → RpL K H vs ds → RpL K H (v :: vs) (d :: ds)
end
section
variable {K : PySem.W.Frag} {H H' : Hp}
mutual
theorem Rp.mono (e : Ex H H') : ∀ {v : V} {d : D}, Rp K H v d → Rp K H' v d
  | _, _, .non => .non
  | _, _, .bl b => .bl b
  | _, _, .int i => .int i
  | _, _, .str x => .str x
  | _, _, .ty n => .ty n
  | _, _, .ref a => .ref a
  | _, _, .tup s r => .tup (ex_t e s) (RpL.mono e r)
  | _, _, .lst s r => .lst (ex_l e s) (RpL.mono e r)
  | _, _, .dct s z r => .dct (e _ _ s) z (RpL.mono e r)
  | _, _, .ins s z r => .ins (e _ _ s) z (RpL.mono e r)
  | _, _, .exc s s2 z r => .exc (e _ _ s) (e _ _ s2) z (RpL.mono e r)
  | _, _, .fnc x => .fnc x
  | _, _, .rng s => .rng (e _ _ s)
theorem RpL.mono (e : Ex H H') : ∀ {vs : List V} {ds : List D}, RpL K H vs ds → RpL K H' vs ds
  | _, _, .nil => .nil
  | _, _, .cons a b => .cons (Rp.mono e a) (RpL.mono e b)
end
theorem RpL.length : ∀ {vs : List V} {ds : List D}, RpL K H vs ds → vs.length = ds.length
  | _, _, .nil => rfl
  | _, _, .cons _ b => congrArg (· + 1) (RpL.length b)
theorem RpL.app : ∀ {vs ws : List V} {ds es : List D}, RpL K H vs ds → RpL K H ws es → RpL K H (vs ++ ws) (ds ++ es)
  | _, _, _, _, .nil, h => h
  | _, _, _, _, .cons a b, h => .cons a (RpL.app b h)
theorem RpL.at : ∀ {vs : List V} {ds : List D} {i : Nat} {d : D}, RpL K H vs ds → ds[i]? = some d → ∃ v, vs[i]? = some v ∧ Rp K H v d
  | _, _, _, _, .nil, h => nomatch h
  | _, _, 0, _, .cons a _, h => ⟨_, rfl, by cases Option.some.inj h; exact a⟩
  | _, _, i + 1, _, .cons _ b, h => RpL.at (i := i) b h
theorem RpL.take : ∀ {vs : List V} {ds : List D} (n : Nat), RpL K H vs ds → RpL K H (vs.take n) (ds.take n)
  | _, _, 0, _ => .nil
  | _, _, _ + 1, .nil => .nil
  | _, _, n + 1, .cons a b => .cons a (RpL.take n b)
theorem RpL.drop : ∀ {vs : List V} {ds : List D} (n : Nat), RpL K H vs ds → RpL K H (vs.drop n) (ds.drop n)
  | _, _, 0, h => h
  | _, _, _ + 1, .nil => .nil
  | _, _, n + 1, .cons _ b => RpL.drop n b
theorem RpL.set : ∀ {vs : List V} {ds : List D} {v : V} {d : D} (i : Nat), Rp K H v d → RpL K H vs ds → RpL K H (vs.set i v) (ds.set i d)
  | _, _, _, _, _, _, .nil => .nil
  | _, _, _, _, 0, h, .cons _ b => .cons h b
  | _, _, _, _, i + 1, h, .cons a b => .cons a (RpL.set i h b)
end
inductive Mt where
  | lst (xs : List D) | ins (C : Str) (ns : List Str) (xs : List D) | gau (T : Nat)
  /-- a dict -/
  | dct (ks : List Key) (xs : List D)
  /-- a def's table of code objects, all of the name q -/
  | tab (q : Str)
  /-- what others keep at this address: any object of which φ is true -/
  | ho (φ : Heap → Prop)
def TabD (Hd H : Hp) (P : Addr) (q : Str) : Prop := ∃ ps : Array Value, H P = some (.tbl ps) ∧ TriplesOk ps.toList ∧ ∀ (pos : Pos) (cv : Value), codeAmong pos ps.toList = some cv → ∃ c, cv = .ref c ∧ Hd c = some (LamX.CodeO c q)
variable [TabC]
abbrev Gm := Addr → Option Mt
def gup (G : Gm) (a : Addr) (m : Mt) : Gm := fun b => if b = a then some m else G b
theorem gup_same {G : Gm} {a : Addr} {m : Mt} : gup G a m a = some m := if_pos rfl
theorem gup_ne {G : Gm} {a b : Addr} {m : Mt} (h : b ≠ a) : gup G a m b = G b := if_neg h
theorem gup_gup {G : Gm} {a : Addr} {m n : Mt} : gup (gup G a m) a n = gup G a n := by
  funext b
  unfold gup
  split <;> rfl
def HoldM (K : PySem.W.Frag) (Hd H : Hp) (a : Addr) : Mt → Prop
  | .lst ds => ∃ xs, H a = some (.lst xs) ∧ RpL K Hd xs ds
  | .ins C ns ds => ∃ dx xs, H a = some (.ins (He.ga K C) dx (ns.zip xs)) ∧ ns.length = xs.length ∧ RpL K Hd xs ds
  | .dct ks ds => ∃ xs, H a = some (.dK (ks.zip xs)) ∧ ks.length = xs.length ∧ RpL K Hd xs ds
  | .tab q => TabD Hd H a q
  | .ho φ => H a = some (.ext φ) ∧ ∀ q, HO.ext φ ≠ LamX.CodeO a q
  | .gau T => ∃ (l : Addr) (t : Nat) (r : Int) (cs : List Int), H a = some (.lst [.ref l, .int t, .int r]) ∧ Hd l = some (.lst (cs.map V.int)) ∧ cs.length ≤ 63 ∧ t ≤ T ∧ 0 ≤ r
structure Sim (K : PySem.W.Frag) (F : Gm) (Hd H : Hp) (G : Gm) : Prop where
  sub : Ex Hd H
  off : ∀ a m, G a = some m → Hd a = none
  hold : ∀ a m, G a = some m → HoldM K Hd H a m
  offF : ∀ a m, F a = some m → Hd a = none
  holdF : ∀ a m, F a = some m → HoldM K Hd H a m
  apart : ∀ a m, F a = some m → G a = none
  tabs : ∀ p ∈ tabT K, F p.1 = some (.tab p.2)
theorem HoldM.mono {K : PySem.W.Frag} {Hd Hd' H : Hp} {a : Addr} (e : Ex Hd Hd') : ∀ {m : Mt}, HoldM K Hd H a m → HoldM K Hd' H a m
  | .lst _, ⟨xs, h, r⟩ => ⟨xs, h, r.mono e⟩
  | .ins _ _ _, ⟨dx, xs, h, z, r⟩ => ⟨dx, xs, h, z, r.mono e⟩
  | .dct _ _, ⟨xs, h, z, r⟩ => ⟨xs, h, z, r.mono e⟩
  | .gau _, ⟨l, t, r, cs, h, hl, z⟩ => ⟨l, t, r, cs, h, e _ _ hl, z⟩
  | .tab _, ⟨ps, h, ht, hc⟩ => ⟨ps, h, ht, fun pos cv z => let ⟨c, e1, e2⟩ := hc pos cv z; ⟨c, e1, e _ _ e2⟩⟩
  | .ho _, ⟨h, z⟩ => ⟨h, z⟩
theorem HoldM.there {K : PySem.W.Frag} {Hd H : Hp} {a : Addr} : ∀ {m : Mt}, HoldM K Hd H a m → ∃ o, H a = some o
  | .lst _, ⟨_, h, _⟩ => ⟨_, h⟩
  | .ins _ _ _, ⟨_, _, h, _⟩ => ⟨_, h⟩
  | .dct _ _, ⟨_, h, _⟩ => ⟨_, h⟩
  | .gau _, ⟨_, _, _, _, h, _⟩ => ⟨_, h⟩
  | .tab _, ⟨_, h, _⟩ => ⟨_, h⟩
  | .ho _, ⟨h, _⟩ => ⟨_, h⟩
theorem HoldM.other {K : PySem.W.Frag} {Hd H : Hp} {a p : Addr} {o : HO} (hp : a ≠ p) : ∀ {m : Mt}, HoldM K Hd H a m → HoldM K Hd (upd H p o) a m
  | .lst _, ⟨xs, h, r⟩ => ⟨xs, by rw [upd_ne hp]; exact h, r⟩
  | .ins _ _ _, ⟨dx, xs, h, z⟩ => ⟨dx, xs, by rw [upd_ne hp]; exact h, z⟩
  | .dct _ _, ⟨xs, h, z⟩ => ⟨xs, by rw [upd_ne hp]; exact h, z⟩
  | .gau _, ⟨l, t, r, cs, h, z⟩ => ⟨l, t, r, cs, by rw [upd_ne hp]; exact h, z⟩
  | .tab _, ⟨ps, h, z⟩ => ⟨ps, by rw [upd_ne hp]; exact h, z⟩
  | .ho _, ⟨h, z⟩ => ⟨by rw [upd_ne hp]; exact h, z⟩
section
variable {K : PySem.W.Frag} {F : Gm} {Hd H : Hp} {G : Gm}
theorem Sim.free (S : Sim K F Hd H G) {p : Addr} (h : H p = none) : Hd p = none := fresh_back S.sub h
theorem Sim.gfree (S : Sim K F Hd H G) {p : Addr} (h : H p = none) : G p = none := by
  cases e : G p with
  | none => rfl
  | some m =>
    obtain ⟨o, q⟩ := (S.hold p m e).there
    rw [h] at q
    cases q
theorem Sim.ffree (S : Sim K F Hd H G) {p : Addr} (h : H p = none) : F p = none := by
  cases e : F p with
  | none => rfl
  | some m =>
    obtain ⟨o, q⟩ := (S.holdF p m e).there
    rw [h] at q
    cases q
theorem ne_g {G : Gm} {a p : Addr} {m : Mt} (e : G a = some m) (h : G p = none) : a ≠ p := fun z => by
  rw [z, h] at e
  cases e
theorem Sim.new (S : Sim K F Hd H G) {p : Addr} {o : HO} (h : H p = none) : Sim K F (upd Hd p o) (upd H p o) G where
  sub := fun a u e => by
    by_cases q : a = p
    · subst q
      rw [upd_same] at e ⊢
      exact e
    · rw [upd_ne q] at e ⊢
      exact S.sub a u e
  off := fun a m e => by
    rw [upd_ne (ne_g e (S.gfree h))]
    exact S.off a m e
  hold := fun a m e => ((S.hold a m e).mono (Ex.new (S.free h))).other (ne_g e (S.gfree h))
  offF := fun a m e => by
    rw [upd_ne (ne_g e (S.ffree h))]
    exact S.offF a m e
  holdF := fun a m e => ((S.holdF a m e).mono (Ex.new (S.free h))).other (ne_g e (S.ffree h))
  apart := S.apart
  tabs := S.tabs
theorem Sim.exn (S : Sim K F Hd H G) {p : Addr} {o : HO} (h : H p = none) : Ex Hd (upd Hd p o) := Ex.new (S.free h)
theorem Sim.side (S : Sim K F Hd H G) {p : Addr} {o : HO} (h : H p = none) : Sim K F Hd (upd H p o) G where
  sub := S.sub.trans (Ex.new h)
  off := S.off
  hold := fun a m e => (S.hold a m e).other (ne_g e (S.gfree h))
  offF := S.offF
  holdF := fun a m e => (S.holdF a m e).other (ne_g e (S.ffree h))
  apart := S.apart
  tabs := S.tabs
theorem Sim.setG (S : Sim K F Hd H G) {p : Addr} {o : HO} {n : Mt} (hs : Ex Hd (upd H p o)) (hd : Hd p = none) (hf : F p = none) (hm : HoldM K Hd (upd H p o) p n) : Sim K F Hd (upd H p o) (gup G p n) where
  sub := hs
  off := fun a k e => by
    by_cases q : a = p
    · rw [q]
      exact hd
    · rw [gup_ne q] at e
      exact S.off a k e
  hold := fun a k e => by
    by_cases q : a = p
    · subst q
      rw [gup_same] at e
      cases e
      exact hm
    · rw [gup_ne q] at e
      exact (S.hold a k e).other q
  offF := S.offF
  holdF := fun a m e => (S.holdF a m e).other (ne_g e hf)
  apart := fun a m e => by
    rw [gup_ne (ne_g e hf)]
    exact S.apart a m e
  tabs := S.tabs
theorem Sim.cell (S : Sim K F Hd H G) {p : Addr} {o : HO} {m : Mt} (h : H p = none) (hm : HoldM K Hd (upd H p o) p m) : Sim K F Hd (upd H p o) (gup G p m) :=
  S.setG (S.sub.trans (Ex.new h)) (S.free h) (S.ffree h) hm
theorem Sim.gf (S : Sim K F Hd H G) {p : Addr} {m : Mt} (h : G p = some m) : F p = none := by
  cases e : F p with
  | none => rfl
  | some k =>
    rw [S.apart p k e] at h
    cases h
theorem ex_put {Hd H : Hp} {p : Addr} {o : HO} (e : Ex Hd H) (h : Hd p = none) : Ex Hd (upd H p o) := fun a u q => by
  have z : a ≠ p := fun z => by
    rw [z, h] at q
    cases q
  rw [upd_ne z]
  exact e a u q
theorem Sim.put (S : Sim K F Hd H G) {p : Addr} {o : HO} {m n : Mt} (h : G p = some m) (hm : HoldM K Hd (upd H p o) p n) : Sim K F Hd (upd H p o) (gup G p n) :=
  S.setG (ex_put S.sub (S.off p m h)) (S.off p m h) (S.gf h) hm
theorem Sim.hide (S : Sim K F Hd H G) {p : Addr} {m : Mt} {o : HO} (hfp : F p = none) (hd : Hd p = none) (hs : Ex Hd (upd H p o)) (hg : G p = none) (hm : HoldM K Hd (upd H p o) p m) : Sim K (gup F p m) Hd (upd H p o) G where
  sub := hs
  off := S.off
  hold := fun a k e => (S.hold a k e).other (ne_g e hg)
  offF := fun a k e => by
    by_cases q : a = p
    · rw [q]
      exact hd
    · rw [gup_ne q] at e
      exact S.offF a k e
  holdF := fun a k e => by
    by_cases q : a = p
    · subst q
      rw [gup_same] at e
      cases e
      exact hm
    · rw [gup_ne q] at e
      exact (S.holdF a k e).other q
  apart := fun a k e => by
    by_cases q : a = p
    · rw [q]
      exact hg
    · rw [gup_ne q] at e
      exact S.apart a k e
  tabs := fun q hq => by
    rw [gup_ne (ne_g (S.tabs q hq) hfp)]
    exact S.tabs q hq
theorem Sim.bare {p : Addr} {m : Mt} (S : Sim K (gup F p m) Hd H G) {xs : List V} (h : H p = some (.lst xs)) (hf : F p = none) : Sim K F (upd Hd p (.lst xs)) H G := by
  have hd : Hd p = none := S.offF p m gup_same
  have e : Ex Hd (upd Hd p (.lst xs)) := Ex.new hd
  have hg : G p = none := S.apart p m gup_same
  refine ⟨fun a u q => ?_, fun a k q => ?_, fun a k q => (S.hold a k q).mono e, fun a k q => ?_, fun a k q => ?_, fun a k q => ?_, fun q hq => ?_⟩
  · by_cases z : a = p
    · subst z
      rw [upd_same] at q
      cases q
      exact h
    · rw [upd_ne z] at q
      exact S.sub a u q
  · rw [upd_ne (ne_g q hg)]
    exact S.off a k q
  · rw [upd_ne (ne_g q hf)]
    exact S.offF a k (by rw [gup_ne (ne_g q hf)]; exact q)
  · exact (S.holdF a k (by rw [gup_ne (ne_g q hf)]; exact q)).mono e
  · exact S.apart a k (by rw [gup_ne (ne_g q hf)]; exact q)
  · have t := S.tabs q hq
    by_cases z : q.1 = p
    · obtain ⟨ps, e1, _⟩ := (show TabD Hd H q.1 q.2 from S.holdF q.1 (.tab q.2) t)
      rw [z, h] at e1
      cases e1
    · rw [gup_ne z] at t
      exact t
end
abbrev En := List (Option D)
def RpE (K : PySem.W.Frag) (H : Hp) (σ : L2.St) (ρ : En) : Prop := σ.length = ρ.length ∧ ∀ (i : Nat) (d : D), ρ[i]? = some (some d) → ∃ v, σ[i]? = some (some v) ∧ Rp K H v d
section
variable {K : PySem.W.Frag} {H H' : Hp} {σ : L2.St} {ρ : En}
theorem RpE.mono (e : Ex H H') (r : RpE K H σ ρ) : RpE K H' σ ρ := ⟨r.1, fun i d h => let ⟨v, a, b⟩ := r.2 i d h; ⟨v, a, b.mono e⟩⟩
theorem RpE.set (r : RpE K H σ ρ) (i : Nat) {v : V} {d : D} (h : Rp K H v d) : RpE K H (σ.set i (some v)) (ρ.set i (some d)) := by
  refine ⟨by rw [List.length_set, List.length_set]; exact r.1, fun j x e => ?_⟩
  by_cases q : i = j
  · subst q
    by_cases z : i < ρ.length
    · rw [List.getElem?_set_self z] at e
      cases e
      exact ⟨v, by rw [List.getElem?_set_self (by rw [r.1]; exact z)], h⟩
    · rw [List.getElem?_eq_none (by simpa using z)] at e
      cases e
  · rw [List.getElem?_set_ne q] at e ⊢
    exact r.2 j x e
theorem RpE.unset (r : RpE K H σ ρ) (i : Nat) : RpE K H (σ.set i none) (ρ.set i none) := by
  refine ⟨by rw [List.length_set, List.length_set]; exact r.1, fun j x e => ?_⟩
  by_cases q : i = j
  · subst q
    by_cases z : i < ρ.length
    · rw [List.getElem?_set_self z] at e
      cases e
    · rw [List.getElem?_eq_none (by simpa using z)] at e
      cases e
  · rw [List.getElem?_set_ne q] at e ⊢
    exact r.2 j x e
def wipeD (ρ : En) : List Nat → En
  | [] => ρ
  | v :: vs => (wipeD ρ vs).set v none
theorem RpE.wipe (r : RpE K H σ ρ) : ∀ vs : List Nat, RpE K H (L2.wipe σ vs) (wipeD ρ vs)
  | [] => r
  | v :: vs => by
    unfold L2.wipe wipeD
    exact (RpE.wipe r vs).unset v
theorem RpE.start {N : List Str} {vs : List V} {ds : List D} (r : RpL K H vs ds) : RpE K H (L2.start N vs) (ds.map some ++ List.replicate (N.length - ds.length) none) := by
  refine ⟨by unfold L2.start; simp [r.length], fun i d e => ?_⟩
  by_cases h : i < ds.length
  · rw [List.getElem?_append_left (by simpa using h), List.getElem?_map] at e
    cases q : ds[i]? with
    | none =>
      rw [q] at e
      cases e
    | some x =>
      rw [q] at e
      cases e
      obtain ⟨v, a, b⟩ := r.at q
      refine ⟨v, ?_, b⟩
      unfold L2.start
      rw [List.getElem?_append_left (by rw [List.length_map, r.length]; exact h), List.getElem?_map, a]
      rfl
  · rw [List.getElem?_append_right (by simpa using h), List.getElem?_replicate] at e
    split at e <;> cases e
end
abbrev KD := D → Gm → Prop
abbrev DE := En → Gm → KD → Prop
abbrev DT := En → Gm → (Bool → Gm → Prop) → Prop
abbrev DA := En → Gm → (List D → Gm → Prop) → Prop
structure DEnds where
  nx : En → Gm → Prop
  rt : KD
  bk : En → Gm → Prop := fun _ _ => False
  ct : En → Gm → Prop := fun _ _ => False
abbrev DS := DEnds → En → Gm → Prop
def KE (K : PySem.W.Frag) (F : Gm) (Hd : Hp) (R : KD) (Q : VK) : Prop := ∀ v H' Hd' x G', Ex Hd Hd' → Sim K F Hd' H' G' → Rp K Hd' v x → R x G' → Q v H'
def KT (K : PySem.W.Frag) (F : Gm) (Hd : Hp) (R : Bool → Gm → Prop) (Q : Bool → Hp → Prop) : Prop := ∀ b H' Hd' G', Ex Hd Hd' → Sim K F Hd' H' G' → R b G' → Q b H'
def KA (K : PySem.W.Frag) (F : Gm) (Hd : Hp) (R : List D → Gm → Prop) (Q : List V → Hp → Prop) : Prop := ∀ vs H' Hd' xs G', Ex Hd Hd' → Sim K F Hd' H' G' → RpL K Hd' vs xs → R xs G' → Q vs H'
def KN (K : PySem.W.Frag) (F : Gm) (Hd : Hp) (R : En → Gm → Prop) (Q : L2.St → Hp → Prop) : Prop := ∀ σ' H' Hd' ρ' G', Ex Hd Hd' → RpE K Hd' σ' ρ' → Sim K F Hd' H' G' → R ρ' G' → Q σ' H'
structure KS (K : PySem.W.Frag) (F : Gm) (Hd : Hp) (E : DEnds) (D : Ends) : Prop where
  nx : KN K F Hd E.nx D.nx
  rt : KE K F Hd E.rt D.rt
  bk : KN K F Hd E.bk D.bk
  ct : KN K F Hd E.ct D.ct
structure Bs where
  b : Hp
  f : Gm
structure At (K : PySem.W.Frag) (B : Bs) (σ : L2.St) (H : Hp) (ρ : En) (Hd : Hp) (G : Gm) : Prop where
  b : Ex B.b Hd
  e : RpE K Hd σ ρ
  s : Sim K B.f Hd H G
theorem At.step {K : PySem.W.Frag} {B : Bs} {σ : L2.St} {H H' : Hp} {ρ : En} {Hd Hd' : Hp} {G G' : Gm} (a : At K B σ H ρ Hd G) (e : Ex Hd Hd') (s : Sim K B.f Hd' H' G') : At K B σ H' ρ Hd' G' :=
  ⟨a.b.trans e, a.e.mono e, s⟩
def upE (K : PySem.W.Frag) (B : Bs) (d : DE) : TE := fun σ H Q => ∃ ρ Hd G R, At K B σ H ρ Hd G ∧ d ρ G R ∧ KE K B.f Hd R Q
def upT (K : PySem.W.Frag) (B : Bs) (d : DT) : TT := fun σ H Q => ∃ ρ Hd G R, At K B σ H ρ Hd G ∧ d ρ G R ∧ KT K B.f Hd R Q
def upA (K : PySem.W.Frag) (B : Bs) (d : DA) : TA := fun σ H Q => ∃ ρ Hd G R, At K B σ H ρ Hd G ∧ d ρ G R ∧ KA K B.f Hd R Q
def upS (K : PySem.W.Frag) (B : Bs) (d : DS) : TS := fun D σ H => ∃ ρ Hd G E, At K B σ H ρ Hd G ∧ d E ρ G ∧ KS K B.f Hd E D
section
variable {K : PySem.W.Frag} {F : Gm} {Hd Hd' : Hp}
theorem KE.mono {R : KD} {Q : VK} (k : KE K F Hd R Q) (e : Ex Hd Hd') : KE K F Hd' R Q := fun v H' Hd2 x G' e2 => k v H' Hd2 x G' (e.trans e2)
theorem KT.mono {R : Bool → Gm → Prop} {Q : Bool → Hp → Prop} (k : KT K F Hd R Q) (e : Ex Hd Hd') : KT K F Hd' R Q := fun b H' Hd2 G' e2 => k b H' Hd2 G' (e.trans e2)
theorem KN.mono {R : En → Gm → Prop} {Q : L2.St → Hp → Prop} (k : KN K F Hd R Q) (e : Ex Hd Hd') : KN K F Hd' R Q := fun v H' Hd2 x G' e2 => k v H' Hd2 x G' (e.trans e2)
theorem KS.mono {E : DEnds} {D : Ends} (k : KS K F Hd E D) (e : Ex Hd Hd') : KS K F Hd' E D := ⟨k.nx.mono e, k.rt.mono e, k.bk.mono e, k.ct.mono e⟩
end
section
variable {X : Cx}
theorem pe_imp {e : Expr} {t t' : TE} (h : PE X e t) (i : ∀ σ H Q, t' σ H Q → t σ H Q) : PE X e t' := ⟨fun pins s σ H Q I w => h.run pins s σ H Q I (i σ H Q w)⟩
theorem pt_imp {e : Expr} {t t' : TT} (h : PT X e t) (i : ∀ σ H Q, t' σ H Q → t σ H Q) : PT X e t' := ⟨fun pins s σ H Q I w => h.run pins s σ H Q I (i σ H Q w)⟩
theorem pw_imp {e : Expr} {t t' : TT} (h : PW X e t) (i : ∀ σ H Q, t' σ H Q → t σ H Q) : PW X e t' := ⟨fun wh pins s σ H Q I w => h.run wh pins s σ H Q I (i σ H Q w)⟩
theorem pa_imp {e : List Expr} {t t' : TA} (h : PA X e t) (i : ∀ σ H Q, t' σ H Q → t σ H Q) : PA X e t' := ⟨fun p pins s σ H Q I w => h.run p pins s σ H Q I (i σ H Q w)⟩
theorem ps_imp {e : Stmt} {t t' : TS} (h : PS X e t) (i : ∀ D σ H, t' D σ H → t D σ H) : PS X e t' := ⟨fun pins s σ H D I w => h.run pins s σ H D I (i D σ H w)⟩
theorem pss_imp {e : List Stmt} {t t' : TS} (h : PSs X e t) (i : ∀ D σ H, t' D σ H → t D σ H) : PSs X e t' := ⟨fun pins s σ H D I w => h.run pins s σ H D I (i D σ H w)⟩
end
end DL
namespace DL
open PySem PySem.Spec PyProof.Rows L2 Evl
variable [TabC]
section
variable {X : Cx} {B : Bs} {pos : Pos} {a b c : Expr} {da db dc : DE} {ta tb : DT}
def dVar (i : Nat) : DE := fun ρ G R => ∃ d, ρ[i]? = some (some d) ∧ R d G
def dC (d : D) : DE := fun _ G R => R d G
theorem pd_v {i : Nat} {e : Expr} (h : PE X e (tVar i)) : PE X e (upE X.K B (dVar i)) := pe_imp h fun σ H Q ⟨ρ, Hd, G, R, at_, ⟨d, hd, hr⟩, k⟩ =>
  let ⟨v, h1, h2⟩ := at_.e.2 i d hd
  ⟨v, h1, k v H Hd d G (Ex.refl _) at_.s h2 hr⟩
theorem pd_var (i : Nat) {x : Str} (hN : X.N[i]? = some x := by rfl) (hv : Vis X.env.scope x := by first | exact Or.inl rfl | exact Or.inr (Or.inl rfl) | exact Or.inr (Or.inr rfl)) (hd : (x == ("__debug__" : Str)) = false := by decide)
    (hcd : (x == ("__classdict__" : Str)) = false := by decide) : PE X (.Name x pos) (upE X.K B (dVar i)) := pd_v (pe_var hN hv hd hcd)
theorem pd_c {e : Expr} {v : V} {d : D} (h : PE X e (tC v)) (r : ∀ Hd, Rp X.K Hd v d) : PE X e (upE X.K B (dC d)) := pe_imp h fun σ H Q ⟨ρ, Hd, G, R, at_, hr, k⟩ =>
  k v H Hd d G (Ex.refl _) at_.s (r Hd) hr
theorem pd_int {i : Int} {j : Nat} : PE X (.Constant (.int i) j pos) (upE X.K B (dC (.int i))) := pd_c pe_int fun _ => .int i
theorem pd_bl {i : Bool} {j : Nat} : PE X (.Constant (.bool i) j pos) (upE X.K B (dC (.bl i))) := pd_c pe_bl fun _ => .bl i
theorem pd_str {i : Str} {j : Nat} : PE X (.Constant (.str i) j pos) (upE X.K B (dC (.str i))) := pd_c pe_str fun _ => .str i
theorem pd_non {j : Nat} : PE X (.Constant .none j pos) (upE X.K B (dC .non)) := pd_c pe_non fun _ => .non
theorem pd_gint {x : Str} {i : Int} (hg : Gl X x) (hm : ∃ t, X.mg x = some (.int i t)) (hd : (x == ("__debug__" : Str)) = false := by decide) : PE X (.Name x pos) (upE X.K B (dC (.int i))) :=
  let ⟨t, h⟩ := hm
  pd_c (v := .int i) (pe_glob hg h ⟨t, rfl⟩ hd) fun _ => .int i
theorem pd_gstr {x : Str} {i : Str} (hg : Gl X x) (hm : ∃ t, X.mg x = some (.str i t)) (hd : (x == ("__debug__" : Str)) = false := by decide) : PE X (.Name x pos) (upE X.K B (dC (.str i))) :=
  let ⟨t, h⟩ := hm
  pd_c (v := .str i) (pe_glob hg h ⟨t, rfl⟩ hd) fun _ => .str i
theorem pd_bty {x : Str} {n : String} (hg : Gl X x) (hm : X.mg x = none) (hv : bootBuiltins x = some (.type n)) (hn : x ≠ "__name__" := by decide) (hd : (x == ("__debug__" : Str)) = false := by decide) : PE X (.Name x pos) (upE X.K B (dC (.ty n))) :=
  pd_c (v := .ty n) (pe_bltn hg hm hv rfl hn hd) fun _ => .ty n
def dNil : DA := fun _ G R => R [] G
def dCons (da : DE) (dr : DA) : DA := fun ρ G R => da ρ G fun x G1 => dr ρ G1 fun xs G2 => R (x :: xs) G2
theorem pda_nil : PA X [] (upA X.K B dNil) := pa_imp pa_nil fun σ H Q ⟨ρ, Hd, G, R, at_, hr, k⟩ => k [] H Hd [] G (Ex.refl _) at_.s .nil hr
theorem pda_cons {e : Expr} {es : List Expr} {de : DE} {dr : DA} (he : PE X e (upE X.K B de)) (hr : PA X es (upA X.K B dr)) (hs : starEach (e :: es) X.env = (false, eval e X.env) :: starEach es X.env := by rfl) : PA X (e :: es) (upA X.K B (dCons de dr)) :=
  pa_imp (pa_cons he hr hs) fun σ H Q ⟨ρ, Hd, G, R, at_, h, k⟩ =>
    ⟨ρ, Hd, G, _, at_, h, fun v H1 Hd1 x G1 e1 s1 r1 h1 => ⟨ρ, Hd1, G1, _, at_.step e1 s1, h1, fun vs H2 Hd2 xs G2 e2 s2 r2 h2 => k _ H2 Hd2 _ G2 (e1.trans e2) s2 (.cons (r1.mono e2) r2) h2⟩⟩
def dTup (dA : DA) : DE := fun ρ G R => dA ρ G fun xs G1 => xs.length ≤ sizeLine ∧ R (.tup xs) G1
def dLst (dA : DA) : DE := fun ρ G R => dA ρ G fun xs G1 => xs.length ≤ sizeLine ∧ R (.lst xs) G1
def dLstM (dA : DA) : DE := fun ρ G R => dA ρ G fun xs G1 => xs.length ≤ sizeLine ∧ ∀ p, G1 p = none → R (.ref p) (gup G1 p (.lst xs))
theorem sq_new {K : PySem.W.Frag} {H : Hp} {p : Addr} {xs : List V} : SqL K (upd H p (.lst xs)) p xs := sq_of upd_same
theorem st_new {K : PySem.W.Frag} {H : Hp} {p : Addr} {xs : List V} : SqT K (upd H p (.tup xs)) p xs := st_of upd_same
theorem pd_tup {es : List Expr} {dA : DA} {x1 : Nat} (h : PA X es (upA X.K B dA)) : PE X (.Tuple es x1 pos) (upE X.K B (dTup dA)) := pe_imp (pe_tup h) fun σ H Q ⟨ρ, Hd, G, R, at_, h, k⟩ =>
  ⟨ρ, Hd, G, _, at_, h, fun vs H1 Hd1 xs G1 e1 s1 r1 ⟨hz, h1⟩ => ⟨by rw [r1.length]; exact hz, fun p hp => k _ _ _ (.tup xs) G1 (e1.trans (s1.exn hp)) (s1.new hp) (.tup st_new (r1.mono (s1.exn hp))) h1⟩⟩
theorem pd_lst {es : List Expr} {dA : DA} (h : PA X es (upA X.K B dA)) : PE X (.List es pos) (upE X.K B (dLst dA)) := pe_imp (pe_lst h) fun σ H Q ⟨ρ, Hd, G, R, at_, h, k⟩ =>
  ⟨ρ, Hd, G, _, at_, h, fun vs H1 Hd1 xs G1 e1 s1 r1 ⟨hz, h1⟩ => ⟨by rw [r1.length]; exact hz, fun p hp => k _ _ _ (.lst xs) G1 (e1.trans (s1.exn hp)) (s1.new hp) (.lst sq_new (r1.mono (s1.exn hp))) h1⟩⟩
theorem pd_lstM {es : List Expr} {dA : DA} (h : PA X es (upA X.K B dA)) : PE X (.List es pos) (upE X.K B (dLstM dA)) := pe_imp (pe_lst h) fun σ H Q ⟨ρ, Hd, G, R, at_, h, k⟩ =>
  ⟨ρ, Hd, G, _, at_, h, fun vs H1 Hd1 xs G1 e1 s1 r1 ⟨hz, h1⟩ => ⟨by rw [r1.length]; exact hz, fun p hp => k _ _ _ (.ref p) _ e1 (s1.cell (m := .lst xs) hp ⟨_, upd_same, r1⟩) (.ref p) (h1 p (s1.gfree hp))⟩⟩
def OpD (K : PySem.W.Frag) (r : R2) (f : D → D → D → Prop) : Prop := ∀ (F : Gm) (Hd H : Hp) (G : Gm) (v u : V) (x y z : D) (Q : VK), Sim K F Hd H G → Rp K Hd v x → Rp K Hd u y → f x y z → (∀ w H' Hd', Ex Hd Hd' → Sim K F Hd' H' G → Rp K Hd' w z → Q w H') → r v u H Q
def dOp (f : D → D → D → Prop) (da db : DE) : DE := fun ρ G R => da ρ G fun x G1 => db ρ G1 fun y G2 => ∃ z, f x y z ∧ R z G2
theorem opd_imp {K : PySem.W.Frag} {r : R2} {f : D → D → D → Prop} (hd : OpD K r f) {B : Bs} {da db : DE} : ∀ σ H Q, upE K B (dOp f da db) σ H Q → tOp r (upE K B da) (upE K B db) σ H Q := fun σ H Q ⟨ρ, Hd, G, R, at_, h, k⟩ =>
  ⟨ρ, Hd, G, _, at_, h, fun v H1 Hd1 x G1 e1 s1 r1 h1 => ⟨ρ, Hd1, G1, _, at_.step e1 s1, h1, fun u H2 Hd2 y G2 e2 s2 r2 ⟨z, hf, hz⟩ =>
    hd B.f Hd2 H2 G2 v u x y z _ s2 (r1.mono e2) r2 hf fun w H3 Hd3 e3 s3 r3 => k w H3 Hd3 z G2 ((e1.trans e2).trans e3) s3 r3 hz⟩⟩
theorem pd_op {op : Operator} {r : R2} {f : D → D → D → Prop} (ho : OpR X (binaryOp op) r) (hd : OpD X.K r f) (ha : PE X a (upE X.K B da)) (hb : PE X b (upE X.K B db)) : PE X (.BinOp a op b pos) (upE X.K B (dOp f da db)) :=
  pe_imp (pe_op ho ha hb) (opd_imp hd)
theorem pd_cmp {op : CmpOp} {r : R2} {f : D → D → D → Prop} (ho : OpR X (compareOp op) r) (hd : OpD X.K r f) (ha : PE X a (upE X.K B da)) (hb : PE X b (upE X.K B db)) (hm : behindInMarks op b = false) : PE X (.Compare a [op] [b] pos) (upE X.K B (dOp f da db)) :=
  pe_imp (pe_cmpR ho ha hb hm) (opd_imp hd)
def dTst (d : DE) : DT := fun ρ G R => d ρ G fun x G1 => ∃ k, x = .bl k ∧ R k G1
theorem tst_imp {K : PySem.W.Frag} {d : DE} : ∀ σ H Q, upT K B (dTst d) σ H Q → upE K B d σ H fun x H' => ∃ k, x = .bl k ∧ Q k H' := fun σ H Q ⟨ρ, Hd, G, R, at_, h, k⟩ =>
  ⟨ρ, Hd, G, _, at_, h, fun v H1 Hd1 x G1 e1 s1 r1 ⟨t, et, ht⟩ => by
    subst et
    cases r1
    exact ⟨t, rfl, k t H1 Hd1 G1 e1 s1 ht⟩⟩
theorem ptd_cmp {op : CmpOp} {r : R2} {f : D → D → D → Prop} (ho : OpR X (compareOp op) r) (hd : OpD X.K r f) (ha : PE X a (upE X.K B da)) (hb : PE X b (upE X.K B db)) (hm : behindInMarks op b = false) : PT X (.Compare a [op] [b] pos) (upT X.K B (dTst (dOp f da db))) :=
  pt_imp (pt_cmpR ho ha hb hm) fun σ H Q h => opd_imp hd σ H _ (tst_imp σ H Q h)
theorem ptd_val {e : Expr} {d : DE} (h : PE X e (upE X.K B d)) (he : ∀ whole, isTrue e X.env whole = (do let v ← whole; standAt e.pos; holding [v] (truthy v)) := by intro _; rfl) : PT X e (upT X.K B (dTst d)) :=
  pt_imp (pt_val h he) fun σ H Q h => tst_imp σ H Q h
def fInt (g : Int → Int → D) (x y z : D) : Prop := ∃ i j, x = .int i ∧ y = .int j ∧ z = g i j
def fIntC (C : Int → Int → Prop) (g : Int → Int → D) (x y z : D) : Prop := ∃ i j, x = .int i ∧ y = .int j ∧ C i j ∧ z = g i j
theorem od_int {K : PySem.W.Frag} {g : Int → Int → Int} : OpD K (rI0 fun i j => .int (g i j)) (fInt fun i j => .int (g i j)) := fun F Hd H G v u x y z Q s rv ru ⟨i, j, ex, ey, ez⟩ k => by
  subst ex ey ez
  cases rv
  cases ru
  exact ⟨i, j, rfl, rfl, k _ H Hd (Ex.refl _) s (.int _)⟩
theorem od_intC {K : PySem.W.Frag} {C : Int → Int → Prop} {g : Int → Int → Int} : OpD K (rI C fun i j => .int (g i j)) (fIntC C fun i j => .int (g i j)) := fun F Hd H G v u x y z Q s rv ru ⟨i, j, ex, ey, c, ez⟩ k => by
  subst ex ey ez
  cases rv
  cases ru
  exact ⟨i, j, rfl, rfl, c, k _ H Hd (Ex.refl _) s (.int _)⟩
theorem od_bl {K : PySem.W.Frag} {g : Int → Int → Bool} : OpD K (rI0 fun i j => .bl (g i j)) (fInt fun i j => .bl (g i j)) := fun F Hd H G v u x y z Q s rv ru ⟨i, j, ex, ey, ez⟩ k => by
  subst ex ey ez
  cases rv
  cases ru
  exact ⟨i, j, rfl, rfl, k _ H Hd (Ex.refl _) s (.bl _)⟩
theorem pd_sub (ha : PE X a (upE X.K B da)) (hb : PE X b (upE X.K B db)) : PE X (.BinOp a .Sub b pos) (upE X.K B (dOp (fInt fun i j => .int (i - j)) da db)) := pd_op op_sub od_int ha hb
theorem pd_fdiv (ha : PE X a (upE X.K B da)) (hb : PE X b (upE X.K B db)) : PE X (.BinOp a .FloorDiv b pos) (upE X.K B (dOp (fIntC CDivW fun i j => .int (i / j)) da db)) := pd_op op_fdivW od_intC ha hb
theorem pd_mod (ha : PE X a (upE X.K B da)) (hb : PE X b (upE X.K B db)) : PE X (.BinOp a .Mod b pos) (upE X.K B (dOp (fIntC (fun _ j => 0 < j) fun i j => .int (i % j)) da db)) := pd_op op_mod od_intC ha hb
def CPw (i j : Int) : Prop := 0 ≤ j ∧ (Builtin.Int.intBits i : Int) * j ≤ 2 ^ 27
theorem op_pw : OpR X (binaryOp .Pow) (rI CPw fun i j => .int (i ^ j.toNat)) := opI fun _ _ _ _ _ _ _ hc q => pow_int hc.1 hc.2 q
theorem pd_pow (ha : PE X a (upE X.K B da)) (hb : PE X b (upE X.K B db)) : PE X (.BinOp a .Pow b pos) (upE X.K B (dOp (fIntC CPw fun i j => .int (i ^ j.toNat)) da db)) := pd_op op_pw od_intC ha hb
def fAdd (x y z : D) : Prop := (∃ i j, x = .int i ∧ y = .int j ∧ z = .int (i + j)) ∨ (∃ i j, x = .str i ∧ y = .str j ∧ i.length + j.length ≤ sizeLine ∧ z = .str (i ++ j))
theorem od_add {K : PySem.W.Frag} : OpD K (fun x y H Q => (rI0 fun i j => .int (i + j)) x y H Q ∨ ∃ i j, x = .str i ∧ y = .str j ∧ i.length + j.length ≤ sizeLine ∧ Q (.str (i ++ j)) H) fAdd := fun F Hd H G v u x y z Q s rv ru f k => by
  rcases f with ⟨i, j, rfl, rfl, rfl⟩ | ⟨i, j, rfl, rfl, h, rfl⟩
  · cases rv
    cases ru
    exact .inl ⟨i, j, rfl, rfl, k _ H Hd (Ex.refl _) s (.int _)⟩
  · cases rv
    cases ru
    exact .inr ⟨i, j, rfl, rfl, h, k _ H Hd (Ex.refl _) s (.str _)⟩
theorem pd_add (ha : PE X a (upE X.K B da)) (hb : PE X b (upE X.K B db)) : PE X (.BinOp a .Add b pos) (upE X.K B (dOp fAdd da db)) := pd_op (op_add.or op_add_str) od_add ha hb
theorem op_mulOk : OpR X (binaryOp .Mult) (rI IntMulOk fun i j => .int (i * j)) := opI fun _ _ _ _ _ _ _ hc q => mul_int q hc
theorem pd_mul (ha : PE X a (upE X.K B da)) (hb : PE X b (upE X.K B db)) : PE X (.BinOp a .Mult b pos) (upE X.K B (dOp (fIntC IntMulOk fun i j => .int (i * j)) da db)) := pd_op op_mulOk od_intC ha hb
def dNeg (da : DE) : DE := fun ρ G R => da ρ G fun x G1 => ∃ i, x = .int i ∧ R (.int (-i)) G1
theorem pd_neg (ha : PE X a (upE X.K B da)) : PE X (.UnaryOp .USub a pos) (upE X.K B (dNeg da)) := pe_imp (pe_un un_neg ha) fun σ H Q ⟨ρ, Hd, G, R, at_, h, k⟩ =>
  ⟨ρ, Hd, G, _, at_, h, fun v H1 Hd1 x G1 e1 s1 r1 ⟨i, ex, hi⟩ => by
    subst ex
    cases r1
    exact ⟨i, rfl, k _ H1 Hd1 _ G1 e1 s1 (.int _) hi⟩⟩
abbrev gLt : Int → Int → D := fun i j => .bl (decide (i < j))
abbrev gLe : Int → Int → D := fun i j => .bl (decide (i ≤ j))
abbrev gGt : Int → Int → D := fun i j => .bl (decide (j < i))
abbrev gGe : Int → Int → D := fun i j => .bl (decide (j ≤ i))
end
end DL
namespace DL
open PySem PySem.Spec PyProof.Rows L2 Evl
variable [TabC]
mutual
/-- a datum as the library has it -/
def D.py : D → Option PyData
  | .non => some .none
  | .bl b => some (.bool b)
  | .int i => some (.int i)
  | .str x => some (.str x)
  | .tup xs => (D.pyL xs).map .tuple
  | .lst xs => (D.pyL xs).map .list
  | .ty _ => none
  | .ref _ => none
  | .dct _ _ => none
  | .ins _ _ _ => none
  | .exc _ _ _ => none
  | .fnc _ => none
  | .rng _ _ => none
def D.pyL : List D → Option (List PyData)
  | [] => some []
  | x :: xs => match D.py x, D.pyL xs with
    | some p, some ps => some (p :: ps)
    | _, _ => none
end
mutual
/-- leaves of no great size -/
def D.fit : D → Bool
  | .non => true
  | .bl _ => true
  | .int i => decide (i.natAbs < 10 ^ 560)
  | .str x => PyData.strOk x
  | .tup xs => D.fitL xs
  | .lst xs => D.fitL xs
  | .ty _ => false
  | .ref _ => false
  | .dct _ _ => false
  | .ins _ _ _ => false
  | .exc _ _ _ => false
  | .fnc _ => false
  | .rng _ _ => false
def D.fitL : List D → Bool
  | [] => true
  | x :: xs => D.fit x && D.fitL xs
end
mutual
/-- how much of it there is -/
def D.sz : D → Nat
  | .str x => x.length + 1
  | .tup xs => D.szL xs + 1
  | .lst xs => D.szL xs + 1
  | _ => 1
def D.szL : List D → Nat
  | [] => 0
  | x :: xs => D.sz x + D.szL xs
end
mutual
def D.dp : D → Nat
  | .tup xs => D.dpL xs + 1
  | .lst xs => D.dpL xs + 1
  | _ => 0
def D.dpL : List D → Nat
  | [] => 0
  | x :: xs => max (D.dp x) (D.dpL xs)
end
theorem log_small {n : Nat} (h : n < 10 ^ 560) : n.log2 < 1920 := by
  by_cases z : n = 0
  · subst z
    decide
  · rw [Nat.log2_lt z]
    exact Nat.lt_trans h (by decide +kernel)
theorem str_short {x : Str} (h : PyData.strOk x = true) : x.cps.toList.all (fun c => decide (c < 16 ^ 8)) = true := by
  rw [List.all_eq_true]
  intro c hc
  have h2 : (x.cps.all (· < 0x110000)) = true := h
  rw [← Array.all_toList, List.all_eq_true] at h2
  have h3 := of_decide_eq_true (h2 c hc)
  exact decide_eq_true (Nat.lt_trans h3 (by decide))
mutual
theorem py_fit : ∀ d : D, d.fit = true → ∃ p, d.py = some p ∧ p.showable = true ∧ p.canLay0 = true ∧ p.leavesShort 600 = true ∧ p.bulk + 1 ≤ d.sz ∧ p.depth = d.dp
  | .non, _ => ⟨_, rfl, rfl, rfl, rfl, Nat.le_refl _, rfl⟩
  | .bl b, _ => ⟨_, rfl, rfl, rfl, rfl, Nat.le_refl _, rfl⟩
  | .int i, h => by
    have h2 : i.natAbs < 10 ^ 560 := of_decide_eq_true h
    refine ⟨_, rfl, decide_eq_true (log_small h2), rfl, ?_, Nat.le_refl _, rfl⟩
    refine decide_eq_true ?_
    show (Str.ofString (toString i)).length ≤ 600
    rw [PySem.ofString_length]
    exact Nat.le_trans (int_text_length_le10 (by decide) h2) (by decide)
  | .str x, h => by
    have h2 : PyData.strOk x = true := h
    refine ⟨_, rfl, rfl, h2, str_short h2, Nat.le_refl _, rfl⟩
  | .tup xs, h => by
    obtain ⟨ps, e, h1, h2, h3, h4, h5⟩ := py_fitL xs h
    refine ⟨.tuple ps, by simp only [D.py, e, Option.map_some], h1, h2, h3, ?_, ?_⟩
    · simp only [PyData.bulk, D.sz]
      omega
    · simp only [PyData.depth, D.dp]
      omega
  | .lst xs, h => by
    obtain ⟨ps, e, h1, h2, h3, h4, h5⟩ := py_fitL xs h
    refine ⟨.list ps, by simp only [D.py, e, Option.map_some], h1, h2, h3, ?_, ?_⟩
    · simp only [PyData.bulk, D.sz]
      omega
    · simp only [PyData.depth, D.dp]
      omega
  | .ty _, h => by cases h
  | .ref _, h => by cases h
  | .dct _ _, h => by cases h
  | .ins _ _ _, h => by cases h
  | .exc _ _ _, h => by cases h
  | .fnc _, h => by cases h
  | .rng _ _, h => by cases h
theorem py_fitL : ∀ xs : List D, D.fitL xs = true → ∃ ps, D.pyL xs = some ps ∧ PyData.showableAll ps = true ∧ PyData.canLayAll0 ps = true ∧ PyData.leavesShortAll 600 ps = true ∧ PyData.bulkAll ps ≤ D.szL xs ∧ PyData.depthAll ps = D.dpL xs
  | [], _ => ⟨[], rfl, rfl, rfl, rfl, Nat.le_refl _, rfl⟩
  | x :: xs, h => by
    have h2 : (D.fit x && D.fitL xs) = true := h
    rw [Bool.and_eq_true] at h2
    obtain ⟨p, e, a1, a2, a3, a4, a5⟩ := py_fit x h2.1
    obtain ⟨ps, es, b1, b2, b3, b4, b5⟩ := py_fitL xs h2.2
    refine ⟨p :: ps, by simp only [D.pyL, e, es], ?_, ?_, ?_, ?_, ?_⟩
    · simp only [PyData.showableAll, a1, b1, Bool.and_self]
    · simp only [PyData.canLayAll0, a2, b2, Bool.and_self]
    · simp only [PyData.leavesShortAll, a3, b3, Bool.and_self]
    · simp only [PyData.bulkAll, D.szL]
      omega
    · simp only [PyData.depthAll, D.dpL]
      omega
end
mutual
theorem rp_dp {K : PySem.W.Frag} {H H' : Hp} (e : Ex H H') : ∀ (d : D) {v : V} {p : PyData}, Rp K H v d → d.py = some p → Dp K H' v p
  | .non, _, _, r, h => by cases r; cases h; exact .non
  | .bl b, _, _, r, h => by cases r; cases h; exact .bl b
  | .int i, _, _, r, h => by cases r; cases h; exact .int i
  | .str x, _, _, r, h => by cases r; cases h; exact .str x
  | .tup xs, _, p, r, h => by
    cases r with
    | tup s r =>
      cases q : D.pyL xs with
      | none =>
        simp only [D.py, q, Option.map_none] at h
        cases h
      | some ps =>
        simp only [D.py, q, Option.map_some, Option.some.injEq] at h
        subst h
        exact .tup (ex_t e s) (rp_dpL e xs r q)
  | .lst xs, _, p, r, h => by
    cases r with
    | lst s r =>
      cases q : D.pyL xs with
      | none =>
        simp only [D.py, q, Option.map_none] at h
        cases h
      | some ps =>
        simp only [D.py, q, Option.map_some, Option.some.injEq] at h
        subst h
        exact .lst (ex_l e s) (rp_dpL e xs r q)
  | .ty _, _, _, _, h => by cases h
  | .ref _, _, _, _, h => by cases h
  | .dct _ _, _, _, _, h => by cases h
  | .ins _ _ _, _, _, _, h => by cases h
  | .exc _ _ _, _, _, _, h => by cases h
  | .fnc _, _, _, _, h => by cases h
  | .rng _ _, _, _, _, h => by cases h
theorem rp_dpL {K : PySem.W.Frag} {H H' : Hp} (e : Ex H H') : ∀ (xs : List D) {vs : List V} {ps : List PyData}, RpL K H vs xs → D.pyL xs = some ps → DpAll K H' vs ps
  | [], _, _, r, h => by
    cases r
    cases h
    exact .nil
  | x :: xs, _, ps, r, h => by
    cases r with
    | cons a b =>
      cases q : D.py x with
      | none =>
        simp only [D.pyL, q] at h
        cases h
      | some p =>
        cases q2 : D.pyL xs with
        | none =>
          simp only [D.pyL, q, q2] at h
          cases h
        | some qs =>
          simp only [D.pyL, q, q2, Option.some.injEq] at h
          subst h
          exact .cons (rp_dp e x a q) (rp_dpL e xs b q2)
end
def D.eqv (x y : D) : Bool := match D.py x, D.py y with
  | some p, some q => PyData.eqv p q
  | _, _ => false
mutual
/-- data that == takes -/
def D.lay : D → Bool
  | .non => true
  | .bl _ => true
  | .int _ => true
  | .str x => PyData.strOk x
  | .tup xs => D.layL xs
  | .lst xs => D.layL xs
  | .ty _ => false
  | .ref _ => false
  | .dct _ _ => false
  | .ins _ _ _ => false
  | .exc _ _ _ => false
  | .fnc _ => false
  | .rng _ _ => false
def D.layL : List D → Bool
  | [] => true
  | x :: xs => D.lay x && D.layL xs
end
mutual
theorem py_lay : ∀ d : D, d.lay = true → ∃ p, d.py = some p ∧ p.canLay0 = true ∧ p.depth = d.dp
  | .non, _ => ⟨_, rfl, rfl, rfl⟩
  | .bl b, _ => ⟨_, rfl, rfl, rfl⟩
  | .int i, _ => ⟨_, rfl, rfl, rfl⟩
  | .str x, h => ⟨_, rfl, h, rfl⟩
  | .tup xs, h => by
    obtain ⟨ps, e, h1, h2⟩ := py_layL xs h
    refine ⟨.tuple ps, by simp only [D.py, e, Option.map_some], h1, ?_⟩
    simp only [PyData.depth, D.dp]
    omega
  | .lst xs, h => by
    obtain ⟨ps, e, h1, h2⟩ := py_layL xs h
    refine ⟨.list ps, by simp only [D.py, e, Option.map_some], h1, ?_⟩
    simp only [PyData.depth, D.dp]
    omega
  | .ty _, h => by cases h
  | .ref _, h => by cases h
  | .dct _ _, h => by cases h
  | .ins _ _ _, h => by cases h
  | .exc _ _ _, h => by cases h
  | .fnc _, h => by cases h
  | .rng _ _, h => by cases h
theorem py_layL : ∀ xs : List D, D.layL xs = true → ∃ ps, D.pyL xs = some ps ∧ PyData.canLayAll0 ps = true ∧ PyData.depthAll ps = D.dpL xs
  | [], _ => ⟨[], rfl, rfl, rfl⟩
  | x :: xs, h => by
    have h2 : (D.lay x && D.layL xs) = true := h
    rw [Bool.and_eq_true] at h2
    obtain ⟨p, e, a1, a2⟩ := py_lay x h2.1
    obtain ⟨ps, es, b1, b2⟩ := py_layL xs h2.2
    refine ⟨p :: ps, by simp only [D.pyL, e, es], ?_, ?_⟩
    · simp only [PyData.canLayAll0, a1, b1, Bool.and_self]
    · simp only [PyData.depthAll, D.dpL]
      omega
end
structure Cmp (x : D) : Prop where
  lay : x.lay = true
  dp : x.dp ≤ 60
theorem Cmp.shaped {x : D} (h : Cmp x) : ∃ p, x.py = some p ∧ SeqAt.shaped p = true := by
  obtain ⟨p, e, h2, h5⟩ := py_lay x h.lay
  refine ⟨p, e, ?_⟩
  unfold SeqAt.shaped
  rw [h2, h5, decide_eq_true (Nat.le_trans h.dp (by decide))]
  rfl
def fEq (x y z : D) : Prop := match x, y with
  | .int i, .int j => z = .bl (decide (i = j))
  | .str i, .str j => z = .bl (decide (i = j))
  | .bl i, .bl j => z = .bl (decide (i = j))
  | x, y => Cmp x ∧ Cmp y ∧ z = .bl (D.eqv x y)
def fNe (x y z : D) : Prop := match x, y with
  | .int i, .int j => z = .bl (!decide (i = j))
  | .str i, .str j => z = .bl (!decide (i = j))
  | .bl i, .bl j => z = .bl (!decide (i = j))
  | x, y => Cmp x ∧ Cmp y ∧ z = .bl (!D.eqv x y)
theorem eqv_of {x y : D} {p q : PyData} (h : x.py = some p) (h' : y.py = some q) : D.eqv x y = PyData.eqv p q := by
  unfold D.eqv
  rw [h, h']
def rEq2 (K : PySem.W.Frag) : R2 := fun x y H Q => rEq x y H Q ∨ rEqD K x y H Q
def rNe2 (K : PySem.W.Frag) : R2 := fun x y H Q => rNe x y H Q ∨ rNeD K x y H Q
theorem od_eq0 {K : PySem.W.Frag} : OpD K (rEqD K) (fun x y z => Cmp x ∧ Cmp y ∧ z = .bl (D.eqv x y)) := fun F Hd H G v u x y z Q s rv ru ⟨cx, cy, ez⟩ k => by
  subst ez
  obtain ⟨p, ep, sp⟩ := cx.shaped
  obtain ⟨q, eq, sq⟩ := cy.shaped
  refine ⟨p, q, rp_dp s.sub x rv ep, rp_dp s.sub y ru eq, sp, sq, ?_⟩
  rw [← eqv_of ep eq]
  exact k _ H Hd (Ex.refl _) s (.bl _)
theorem od_ne0 {K : PySem.W.Frag} : OpD K (rNeD K) (fun x y z => Cmp x ∧ Cmp y ∧ z = .bl (!D.eqv x y)) := fun F Hd H G v u x y z Q s rv ru ⟨cx, cy, ez⟩ k => by
  subst ez
  obtain ⟨p, ep, sp⟩ := cx.shaped
  obtain ⟨q, eq, sq⟩ := cy.shaped
  refine ⟨p, q, rp_dp s.sub x rv ep, rp_dp s.sub y ru eq, sp, sq, ?_⟩
  rw [← eqv_of ep eq]
  exact k _ H Hd (Ex.refl _) s (.bl _)
theorem vint {i j : Int} : decide (V.int i = V.int j) = decide (i = j) := decide_eq_decide.mpr ⟨fun h => by injection h, fun h => by rw [h]⟩
theorem vstr {i j : Str} : decide (V.str i = V.str j) = decide (i = j) := decide_eq_decide.mpr ⟨fun h => by injection h, fun h => by rw [h]⟩
theorem vbl {i j : Bool} : decide (V.bl i = V.bl j) = decide (i = j) := decide_eq_decide.mpr ⟨fun h => by injection h, fun h => by rw [h]⟩
theorem od_eq {K : PySem.W.Frag} : OpD K (rEq2 K) fEq := fun F Hd H G v u x y z Q s rv ru f k => by
  unfold fEq at f
  split at f
  · subst f; cases rv; cases ru
    exact .inl ⟨rfl, by rw [vint]; exact k _ H Hd (Ex.refl _) s (.bl _)⟩
  · subst f; cases rv; cases ru
    exact .inl ⟨rfl, by rw [vstr]; exact k _ H Hd (Ex.refl _) s (.bl _)⟩
  · subst f; cases rv; cases ru
    exact .inl ⟨rfl, by rw [vbl]; exact k _ H Hd (Ex.refl _) s (.bl _)⟩
  · exact .inr (od_eq0 F Hd H G v u _ _ z Q s rv ru f k)
theorem od_ne {K : PySem.W.Frag} : OpD K (rNe2 K) fNe := fun F Hd H G v u x y z Q s rv ru f k => by
  unfold fNe at f
  split at f
  · subst f; cases rv; cases ru
    exact .inl ⟨rfl, by rw [vint]; exact k _ H Hd (Ex.refl _) s (.bl _)⟩
  · subst f; cases rv; cases ru
    exact .inl ⟨rfl, by rw [vstr]; exact k _ H Hd (Ex.refl _) s (.bl _)⟩
  · subst f; cases rv; cases ru
    exact .inl ⟨rfl, by rw [vbl]; exact k _ H Hd (Ex.refl _) s (.bl _)⟩
  · exact .inr (od_ne0 F Hd H G v u _ _ z Q s rv ru f k)
section
variable {X : Cx}
theorem op_eq2 (hu : X.A.units + 64 < cLine) : OpR X (compareOp .Eq) (rEq2 X.K) := op_eq.or (op_eqD hu)
theorem op_ne2 (hu : X.A.units + 64 < cLine) : OpR X (compareOp .NotEq) (rNe2 X.K) := op_ne.or (op_neD hu)
end
def D.shown (d : D) : Str := match d with
  | .dct [] [] => "{}"
  | d => match D.py d with
    | some p => p.shown
    | none => ""
structure Shw (x : D) : Prop where
  fit : x.fit = true
  dp : x.dp ≤ 60
  sz : x.sz ≤ 27000
theorem Shw.py {x : D} (h : Shw x) : ∃ p, x.py = some p ∧ p.showable = true ∧ p.shown.length ≤ sizeLine ∧ p.depth ≤ 60 ∧ p.hasDict = false ∧ x.shown = p.shown := by
  obtain ⟨p, e, h1, h2, h3, h4, h5⟩ := py_fit x h.fit
  refine ⟨p, e, h1, ?_, by rw [h5]; exact h.dp, PyData.hasDict_of_canLay p h2, ?_⟩
  · have z := PyData.shown_le_bulk 600 (by decide) p h3
    have z2 := h.sz
    rw [sizeLine_eq]
    omega
  · cases x with
    | dct ks xs => cases e
    | _ => simp only [D.shown, e]
def rRepr0 (K : PySem.W.Frag) : List V → Hp → VK → Prop := fun vs H Q => ∃ (v : V) (p : PyData), vs = [v] ∧ Dp K H v p ∧ p.showable = true ∧ p.shown.length ≤ sizeLine ∧ p.depth ≤ 60 ∧ p.hasDict = false ∧ Q (.str p.shown) H
def rRepr (K : PySem.W.Frag) : List V → Hp → VK → Prop := fun vs H Q => rRepr0 K vs H Q ∨ ∃ a, vs = [.ref a] ∧ H a = some (.dK []) ∧ Q (.str "{}") H
section
variable {X : Cx}
theorem call_repr0 (hg : X.A.guards = some []) (hu : X.A.units + 64 < cLine) : CallR X (.builtin "repr") (rRepr0 X.K) := by
  intro pins s σ H vs us Q I r h
  obtain ⟨v, p, rfl, hd, h1, h2, h3, h4, q⟩ := h
  obtain ⟨u, rfl, ru⟩ := vals1 r
  obtain ⟨as, rd⟩ := Dp.reads I p v u hd ru
  have fin : ∀ {s' : Shared} {t : Tok}, Inv X pins σ H s' → EP X pins σ Q (.str p.shown t) s' := fun {s' t} I' => ⟨.str _, H, I', ⟨_, rfl⟩, q⟩
  cases hd with
  | non => cases ru; exact PySem.P.repr_of_none (fin (I.tok _))
  | bl b => cases ru; exact PySem.P.repr_of_bool (by have e := fin (t := s.toks) (I.tok (s.toks + 1)); cases b <;> exact e)
  | int i =>
    obtain ⟨t, rfl⟩ := ru
    exact PySem.P.repr_of_int (of_decide_eq_true h1) (fin (I.tok _))
  | str x =>
    obtain ⟨t, rfl⟩ := ru
    exact PySem.P.repr_of_str (fin (I.tok _)) h2
  | lst _ _ =>
    cases ru
    exact repr_of_reads' rd h1 (PyData.noDict_hsm h4) hg (by omega) (fun _ _ e => e) (fun h' t tk k => fin (I.kept k)) h2
  | tup _ _ =>
    cases ru
    exact repr_of_reads' rd h1 (PyData.noDict_hsm h4) hg (by omega) (fun _ _ e => e) (fun h' t tk k => fin (I.kept k)) h2
theorem call_repr (hg : X.A.guards = some []) (hu : X.A.units + 64 < cLine) : CallR X (.builtin "repr") (rRepr X.K) := by
  intro pins s σ H vs us Q I r h
  rcases h with h | ⟨a, rfl, ha, q⟩
  · exact call_repr0 hg hu pins s σ H vs us Q I r h
  · obtain ⟨u, rfl, ru⟩ := vals1 r
    cases (show u = Value.ref a from ru)
    obtain ⟨_, hs, vs2, r2, o, es, ep, h1, h2, h3, _, h5, _⟩ := (show ObjOk X.prog X.w H s.heap a (.dK []) from I.hok a _ ha)
    cases r2
    have e0 : es.toList = [] := by
      generalize es.toList = l at h5
      cases h5
      rfl
    have rd : Reads s.heap (.ref a) (.dict []) (a :: [] ++ []) := .dict h1 h2.1 h3 (by rw [e0]; exact .nil) (by rw [e0]; exact .nil)
    refine repr_of_reads' rd rfl (fun _ z => ?_) hg (by show X.A.units + (0 + 1 + 1) < cLine; omega) (fun _ _ e => e) (fun h' t tk k => ⟨.str "{}", H, I.kept k, ⟨t, rfl⟩, q⟩) (by decide)
    have z2 : a = sysModules := (List.mem_singleton.mp z).symm
    rw [z2] at hs
    simp at hs
end
end DL
namespace DL
open PySem PySem.Spec PyProof.Rows L2 Evl
variable [TabC]
def LstAt (G : Gm) (x : D) (ds : List D) : Prop := x = .lst ds ∨ ∃ a, x = .ref a ∧ G a = some (.lst ds)
def SeqAt (G : Gm) (x : D) (ds : List D) : Prop := x = .tup ds ∨ LstAt G x ds
section
variable {K : PySem.W.Frag} {F : Gm} {Hd H : Hp} {G : Gm} {v : V} {x : D} {ds : List D}
theorem LstAt.sq (s : Sim K F Hd H G) (r : Rp K Hd v x) (h : LstAt G x ds) : ∃ a xs, v = .ref a ∧ SqL K H a xs ∧ RpL K Hd xs ds := by
  rcases h with rfl | ⟨a, rfl, h⟩
  · cases r with
    | lst q r => exact ⟨_, _, rfl, ex_l s.sub q, r⟩
  · cases r
    obtain ⟨xs, h1, h2⟩ := s.hold a _ h
    exact ⟨a, xs, rfl, SqL.of h1, h2⟩
theorem SeqAt.sq (s : Sim K F Hd H G) (r : Rp K Hd v x) (h : SeqAt G x ds) : ∃ a xs, v = .ref a ∧ (SqL K H a xs ∨ SqT K H a xs) ∧ RpL K Hd xs ds := by
  rcases h with rfl | h
  · cases r with
    | tup q r => exact ⟨_, _, rfl, .inr (ex_t s.sub q), r⟩
  · obtain ⟨a, xs, e, q, r⟩ := h.sq s r
    exact ⟨a, xs, e, .inl q, r⟩
theorem seq_tup : SeqAt G (.tup ds) ds := .inl rfl
theorem seq_lst : SeqAt G (.lst ds) ds := .inr (.inl rfl)
theorem seq_ref {a : Addr} (h : G a = some (.lst ds)) : SeqAt G (.ref a) ds := .inr (.inr ⟨a, rfl, h⟩)
theorem lst_lst : LstAt G (.lst ds) ds := .inl rfl
end
section
variable {X : Cx} {B : Bs} {pos p : Pos} {a b c e : Expr} {es : List Expr} {da db dc : DE} {dA : DA} {ta tb : DT}
def CalD (K : PySem.W.Frag) (r : List V → Hp → VK → Prop) (f : Gm → List D → D → Prop) : Prop :=
  ∀ (F : Gm) (Hd H : Hp) (G : Gm) (vs : List V) (xs : List D) (z : D) (Q : VK), Sim K F Hd H G → RpL K Hd vs xs → f G xs z → (∀ w H' Hd', Ex Hd Hd' → Sim K F Hd' H' G → Rp K Hd' w z → Q w H') → r vs H Q
def dCal (f : Gm → List D → D → Prop) (dA : DA) : DE := fun ρ G R => dA ρ G fun xs G1 => ∃ z, f G1 xs z ∧ R z G1
theorem cal_imp {K : PySem.W.Frag} {r : List V → Hp → VK → Prop} {f : Gm → List D → D → Prop} (hd : CalD K r f) {B : Bs} {dA : DA} : ∀ σ H Q, upE K B (dCal f dA) σ H Q → tCB r (upA K B dA) σ H Q := fun σ H Q ⟨ρ, Hd, G, R, at_, h, k⟩ =>
  ⟨ρ, Hd, G, _, at_, h, fun vs H1 Hd1 xs G1 e1 s1 r1 ⟨z, hf, hz⟩ => hd B.f Hd1 H1 G1 vs xs z _ s1 r1 hf fun w H3 Hd3 e3 s3 r3 => k w H3 Hd3 z G1 (e1.trans e3) s3 r3 hz⟩
theorem pd_callB {id : String} {r : List V → Hp → VK → Prop} {f : Gm → List D → D → Prop} {x : Str} (hc : CallR X (.builtin id) r) (hd : CalD X.K r f) (hg : Gl X x) (hm : X.mg x = none) (hv : bootBuiltins x = some (.builtin id)) (ha : PA X (e :: es) (upA X.K B dA))
    (hn : x ≠ "__name__" := by decide) (hdb : (x == ("__debug__" : Str)) = false := by decide)
    (he : starEach (e :: es) X.env = (false, eval e X.env) :: starEach es X.env := by rfl) (hpl : (backTo pos (starEach es X.env)).any (·.1) = false := by rfl) : PE X (.Call (.Name x p) (e :: es) [] pos) (upE X.K B (dCal f dA)) :=
  pe_imp (pe_callB hc hg hm hv ha hn hdb he hpl) (cal_imp hd)
theorem pd_callTy {T : String} {r : List V → Hp → VK → Prop} {f : Gm → List D → D → Prop} {x : Str} (hc : CallR X (.type T) r) (hd : CalD X.K r f) (hg : Gl X x) (hm : X.mg x = none) (hv : bootBuiltins x = some (.type T)) (ha : PA X (e :: es) (upA X.K B dA))
    (hn : x ≠ "__name__" := by decide) (hdb : (x == ("__debug__" : Str)) = false := by decide)
    (he : starEach (e :: es) X.env = (false, eval e X.env) :: starEach es X.env := by rfl) (hpl : (backTo pos (starEach es X.env)).any (·.1) = false := by rfl) : PE X (.Call (.Name x p) (e :: es) [] pos) (upE X.K B (dCal f dA)) :=
  pe_imp (pe_callTy hc hg hm hv ha hn hdb he hpl) (cal_imp hd)
theorem rpl1 {K : PySem.W.Frag} {Hd : Hp} {vs : List V} {x : D} (r : RpL K Hd vs [x]) : ∃ v, vs = [v] ∧ Rp K Hd v x := by
  cases r with
  | cons a b =>
    cases b
    exact ⟨_, rfl, a⟩
theorem rpl2 {K : PySem.W.Frag} {Hd : Hp} {vs : List V} {x y : D} (r : RpL K Hd vs [x, y]) : ∃ v u, vs = [v, u] ∧ Rp K Hd v x ∧ Rp K Hd u y := by
  cases r with
  | cons a b =>
    obtain ⟨u, rfl, h⟩ := rpl1 b
    exact ⟨_, _, rfl, a, h⟩
def RepOk (x : D) : Prop := Shw x ∨ x = .dct [] []
def fRepr (_ : Gm) (xs : List D) (z : D) : Prop := ∃ x, xs = [x] ∧ RepOk x ∧ z = .str x.shown
theorem cd_repr {K : PySem.W.Frag} : CalD K (rRepr K) fRepr := fun F Hd H G vs xs z Q s r ⟨x, ex, h, ez⟩ k => by
  subst ex ez
  obtain ⟨v, rfl, rv⟩ := rpl1 r
  rcases h with h | rfl
  · obtain ⟨q, e, h1, h2, h3, h4, h5⟩ := h.py
    refine .inl ⟨v, q, rfl, rp_dp s.sub x rv e, h1, h2, h3, h4, ?_⟩
    rw [← h5]
    exact k _ H Hd (Ex.refl _) s (.str _)
  · cases rv with
    | @dct a ks xs ds q l r2 =>
      cases r2
      exact .inr ⟨_, rfl, s.sub _ _ q, k _ H Hd (Ex.refl _) s (.str _)⟩
def fLen (G : Gm) (xs : List D) (z : D) : Prop := ∃ x, xs = [x] ∧ ((∃ ds, SeqAt G x ds ∧ z = .int ds.length) ∨ ∃ y, x = .str y ∧ y.length ≤ sizeLine ∧ z = .int y.length)
theorem cd_len {K : PySem.W.Frag} : CalD K (fun xs H Q => ∃ x n, xs = [x] ∧ LenV K x H n ∧ Q (.int n) H) fLen := fun F Hd H G vs xs z Q s r ⟨x, ex, h⟩ k => by
  subst ex
  obtain ⟨v, rfl, rv⟩ := rpl1 r
  rcases h with ⟨ds, h, rfl⟩ | ⟨y, rfl, h, rfl⟩
  · obtain ⟨a, ys, rfl, q, r2⟩ := h.sq s rv
    refine ⟨_, ys.length, rfl, ?_, by rw [r2.length]; exact k _ H Hd (Ex.refl _) s (.int _)⟩
    rcases q with q | q
    · exact .inl ⟨ys, q, rfl⟩
    · exact .inr ⟨ys, q, rfl⟩
  · cases rv
    exact ⟨_, y.length, rfl, ⟨h, rfl⟩, k _ H Hd (Ex.refl _) s (.int _)⟩
theorem pd_len {x : Str} (hx : x = "len") (hg : Gl X x) (hm : X.mg x = none) (ha : PE X e (upE X.K B da)) (he : starEach (e :: []) X.env = (false, eval e X.env) :: starEach [] X.env := by rfl) (hpl : (backTo pos (starEach [] X.env)).any (·.1) = false := by rfl) :
    PE X (.Call (.Name x p) (e :: []) [] pos) (upE X.K B (dCal fLen (dCons da dNil))) := by
  subst hx
  exact pd_callB call_len cd_len hg hm PySem.boot_len (pda_cons ha pda_nil he) (by decide) (by decide) he hpl
def fAbs (_ : Gm) (xs : List D) (z : D) : Prop := ∃ i : Int, xs = [.int i] ∧ z = .int (if i < 0 then -i else i)
theorem cd_abs {K : PySem.W.Frag} : CalD K (fun xs H Q => ∃ i, xs = [.int i] ∧ Q (.int (if i < 0 then -i else i)) H) fAbs := fun F Hd H G vs xs z Q s r ⟨i, ex, ez⟩ k => by
  subst ex ez
  obtain ⟨v, rfl, rv⟩ := rpl1 r
  cases rv
  exact ⟨i, rfl, k _ H Hd (Ex.refl _) s (.int _)⟩
def fIntOf (_ : Gm) (xs : List D) (z : D) : Prop := (∃ i : Int, xs = [.int i] ∧ z = .int i) ∨ ∃ b : Bool, xs = [.bl b] ∧ z = .int (if b then 1 else 0)
theorem cd_int {K : PySem.W.Frag} : CalD K (fun xs H Q => (∃ i, xs = [.int i] ∧ Q (.int i) H) ∨ ∃ k, xs = [.bl k] ∧ Q (.int (if k then 1 else 0)) H) fIntOf := fun F Hd H G vs xs z Q s r h k => by
  rcases h with ⟨i, ex, ez⟩ | ⟨b, ex, ez⟩
  · subst ex ez
    obtain ⟨v, rfl, rv⟩ := rpl1 r
    cases rv
    exact .inl ⟨i, rfl, k _ H Hd (Ex.refl _) s (.int _)⟩
  · subst ex ez
    obtain ⟨v, rfl, rv⟩ := rpl1 r
    cases rv
    exact .inr ⟨b, rfl, k _ H Hd (Ex.refl _) s (.int _)⟩
def fTupOf (G : Gm) (xs : List D) (z : D) : Prop := ∃ x ds, xs = [x] ∧ SeqAt G x ds ∧ z = .tup ds
theorem cd_tuple {K : PySem.W.Frag} : CalD K (fun xs H Q => ∃ p ys, xs = [.ref p] ∧ ((SqL K H p ys ∧ ∀ l, H l = none → Q (.ref l) (upd H l (.tup ys))) ∨ (SqT K H p ys ∧ Q (.ref p) H))) fTupOf := fun F Hd H G vs xs z Q s r ⟨x, ds, ex, h, ez⟩ k => by
  subst ex ez
  obtain ⟨v, rfl, rv⟩ := rpl1 r
  rcases h with rfl | h
  · cases rv with
    | tup q r2 => exact ⟨_, _, rfl, .inr ⟨ex_t s.sub q, k _ H Hd (Ex.refl _) s (.tup q r2)⟩⟩
  · obtain ⟨a, ys, rfl, q, r2⟩ := h.sq s rv
    exact ⟨a, ys, rfl, .inl ⟨q, fun l hl => k _ _ _ (s.exn hl) (s.new hl) (.tup st_new (r2.mono (s.exn hl)))⟩⟩
def fLstOf (G : Gm) (xs : List D) (z : D) : Prop := ∃ x ds, xs = [x] ∧ SeqAt G x ds ∧ z = .lst ds
theorem cd_list {K : PySem.W.Frag} : CalD K (fun xs H Q => ∃ p ys, xs = [.ref p] ∧ (SqL K H p ys ∨ SqT K H p ys) ∧ ∀ l, H l = none → Q (.ref l) (upd H l (.lst ys))) fLstOf := fun F Hd H G vs xs z Q s r ⟨x, ds, ex, h, ez⟩ k => by
  subst ex ez
  obtain ⟨v, rfl, rv⟩ := rpl1 r
  obtain ⟨a, ys, rfl, q, r2⟩ := h.sq s rv
  exact ⟨a, ys, rfl, q, fun l hl => k _ _ _ (s.exn hl) (s.new hl) (.lst sq_new (r2.mono (s.exn hl)))⟩
def fAll (G : Gm) (xs : List D) (z : D) : Prop := ∃ x, ∃ bs : List Bool, xs = [x] ∧ LstAt G x (bs.map D.bl) ∧ z = .bl (bs.all id)
theorem rp_bls {K : PySem.W.Frag} {H : Hp} : ∀ {bs : List Bool} {vs : List V}, RpL K H vs (bs.map D.bl) → vs = bs.map V.bl
  | [], _, r => by cases r; rfl
  | b :: bs, _, r => by
    cases r with
    | cons x y =>
      cases x
      rw [rp_bls y]
      rfl
theorem cd_all {K : PySem.W.Frag} : CalD K (rAll K) fAll := fun F Hd H G vs xs z Q s r ⟨x, bs, ex, h, ez⟩ k => by
  subst ex ez
  obtain ⟨v, rfl, rv⟩ := rpl1 r
  obtain ⟨a, ys, rfl, q, r2⟩ := h.sq s rv
  rw [rp_bls r2] at q
  exact ⟨a, bs, rfl, q, k _ H Hd (Ex.refl _) s (.bl _)⟩
def D.tyn : D → Option String
  | .non => some "NoneType"
  | .bl _ => some "bool"
  | .int _ => some "int"
  | .str _ => some "str"
  | .tup _ => some "tuple"
  | .lst _ => some "list"
  | .dct _ _ => some "dict"
  | _ => none
theorem ty_of {K : PySem.W.Frag} {F : Gm} {Hd H : Hp} {G : Gm} {v : V} {x : D} {t : String} (s : Sim K F Hd H G) (r : Rp K Hd v x) (h : x.tyn = some t) : TyX K H v (.type t) := by
  cases r with
  | non => cases h; exact .base .non
  | bl b => cases h; exact .base (.bl b)
  | int i => cases h; exact .base (.int i)
  | str y => cases h; exact .base (.str y)
  | tup q _ =>
    cases h
    rcases ex_t s.sub q with (q | ⟨o, q⟩) | ⟨o, its, n, q, c, _⟩
    · exact .base (.tup q)
    · exact .fTuple q
    · exact .kTuple q c
  | lst q _ =>
    cases h
    rcases ex_l s.sub q with (q | ⟨o, q⟩) | ⟨o, its, n, q, c, _⟩
    · exact .base (.lst q)
    · exact .base (.frz q)
    · exact .kList q c
  | dct q _ _ => cases h; exact .base (.dK (s.sub _ _ q))
  | ty _ => cases h
  | ref _ => cases h
  | ins _ _ _ => cases h
  | exc _ _ _ _ => cases h
  | fnc _ => cases h
  | rng _ => cases h
def isK (t n : String) : Bool := t == n || (t == "bool" && n == "int")
theorem kit_is : ∀ t ∈ ["NoneType", "bool", "int", "str", "tuple", "list", "dict"], ∀ n ∈ ["int", "bool", "str", "list", "tuple", "dict"], kitB t n = some (isK t n) := by decide +kernel
theorem tyn_in {x : D} {t : String} (h : x.tyn = some t) : t ∈ ["NoneType", "bool", "int", "str", "tuple", "list", "dict"] := by
  cases x <;> cases h <;> decide
def fIsi (n : String) (_ : Gm) (xs : List D) (z : D) : Prop := ∃ x t, xs = [x, .ty n] ∧ x.tyn = some t ∧ z = .bl (isK t n)
theorem cd_isi {K : PySem.W.Frag} {n : String} (hn : n ∈ ["int", "bool", "str", "list", "tuple", "dict"]) : CalD K (rIsi K) (fIsi n) := fun F Hd H G vs xs z Q s r ⟨x, t, ex, h, ez⟩ k => by
  subst ex ez
  obtain ⟨v, u, rfl, rv, ru⟩ := rpl2 r
  cases ru
  exact ⟨v, .ty n, .type t, .type n, _, rfl, .ty n, ty_of s rv h, kit_ty (kit_is t (tyn_in h) n hn), k _ H Hd (Ex.refl _) s (.bl _)⟩
theorem pd_isi {n : String} {q : Pos} {m x : Str} (hx : x = "isinstance") (hn : n ∈ ["int", "bool", "str", "list", "tuple", "dict"]) (hg : Gl X x) (hm : X.mg x = none) (ha : PE X e (upE X.K B da)) (ht : PE X (.Name m q) (upE X.K B (dC (.ty n))))
    (he : starEach (e :: [.Name m q]) X.env = (false, eval e X.env) :: starEach [.Name m q] X.env := by rfl) (he2 : starEach ((.Name m q) :: []) X.env = (false, eval (.Name m q) X.env) :: starEach [] X.env := by rfl) (hpl : (backTo pos (starEach [.Name m q] X.env)).any (·.1) = false := by rfl) :
    PE X (.Call (.Name x p) (e :: [.Name m q]) [] pos) (upE X.K B (dCal (fIsi n) (dCons da (dCons (dC (.ty n)) dNil)))) := by
  subst hx
  exact pd_callB call_isi (cd_isi hn) hg hm (by decide +kernel) (pda_cons ha (pda_cons ht pda_nil he2) he) (by decide) (by decide) he hpl
def tTys (ns : List String) : TA := fun _ H Q => Q (ns.map V.ty) H
theorem pty_nil : PA X [] (tTys []) := pa_imp pa_nil fun _ _ _ h => h
theorem pty_cons {n : String} {ns : List String} (ht : PE X e (tC (.ty n))) (hr : PA X es (tTys ns)) (hs : starEach (e :: es) X.env = (false, eval e X.env) :: starEach es X.env := by rfl) : PA X (e :: es) (tTys (n :: ns)) := pa_imp (pa_cons ht hr hs) fun _ _ _ h => h
theorem pe_ty {x : Str} {n : String} {q : Pos} (hg : Gl X x) (hm : X.mg x = none) (hv : bootBuiltins x = some (.type n)) (hn : x ≠ "__name__" := by decide) (hd : (x == ("__debug__" : Str)) = false := by decide) : PE X (.Name x q) (tC (.ty n)) := pe_bltn hg hm hv rfl hn hd
theorem paired_ty : ∀ ns : List String, Paired ClsV (ns.map V.ty) (ns.map Value.type)
  | [] => .nil
  | n :: ns => .cons (.ty n) (paired_ty ns)
theorem kit_any {K : PySem.W.Frag} {t : String} (ht : t ∈ ["NoneType", "bool", "int", "str", "tuple", "list", "dict"]) : ∀ ns : List String, (∀ n ∈ ns, n ∈ ["int", "bool", "str", "list", "tuple", "dict"]) → PySem.W.kitAny K (.type t) (ns.map Value.type) = some (ns.any (isK t))
  | [], _ => rfl
  | n :: ns, h => by
    have h1 := kit_is t ht n (h n List.mem_cons_self)
    refine kitAny_cons (kit_ty h1) (fun hb => ?_) (fun hb => ?_)
    · rw [kit_any ht ns fun m hm => h m (List.mem_cons_of_mem _ hm)]
      rw [List.any_cons, hb, Bool.false_or]
    · rw [List.any_cons, hb, Bool.true_or]
def dIsiT (ns : List String) (da : DE) : DE := fun ρ G R => da ρ G fun x G1 => ∃ t, x.tyn = some t ∧ R (.bl (ns.any (isK t))) G1
theorem pd_isiT {ns : List String} {x1 : Nat} {q : Pos} {x : Str} (hx : x = "isinstance") (hn : ∀ n ∈ ns, n ∈ ["int", "bool", "str", "list", "tuple", "dict"]) (hz : ns.length ≤ sizeLine) (hg : Gl X x) (hm : X.mg x = none) (ha : PE X e (upE X.K B da)) (ht : PA X es (tTys ns))
    (he : starEach (e :: [.Tuple es x1 q]) X.env = (false, eval e X.env) :: starEach [.Tuple es x1 q] X.env := by rfl) (he2 : starEach ((.Tuple es x1 q) :: []) X.env = (false, eval (.Tuple es x1 q) X.env) :: starEach [] X.env := by rfl) (hpl : (backTo pos (starEach [.Tuple es x1 q] X.env)).any (·.1) = false := by rfl) :
    PE X (.Call (.Name x p) (e :: [.Tuple es x1 q]) [] pos) (upE X.K B (dIsiT ns da)) := by
  subst hx
  refine pe_imp (pe_callB call_isiT hg hm (by decide +kernel) (pa_cons ha (pa_cons (pe_tup ht) pa_nil he2) he) (by decide) (by decide) he hpl) fun σ H Q ⟨ρ, Hd, G, R, at_, h, k⟩ => ?_
  refine ⟨ρ, Hd, G, _, at_, h, fun v H1 Hd1 x G1 e1 s1 r1 ⟨t, et, hr⟩ => ?_⟩
  refine ⟨by rw [List.length_map]; exact hz, fun pp hp => ?_⟩
  exact ⟨v, pp, ns.map V.ty, .type t, ns.map Value.type, _, rfl, upd_same, paired_ty ns, ty_of (s1.side hp) r1 et, kit_any (tyn_in et) ns hn, k _ _ Hd1 _ G1 e1 (s1.side hp) (.bl _) hr⟩
theorem rpl_atI {K : PySem.W.Frag} {H : Hp} {vs : List V} {ds : List D} {i : Int} {d : D} (r : RpL K H vs ds) (h : atI ds i = some d) : ∃ v, atI vs i = some v ∧ Rp K H v d := by
  unfold atI at h ⊢
  rw [r.length]
  cases e : ixN ds.length i with
  | none =>
    rw [e] at h
    cases h
  | some j =>
    rw [e] at h
    exact r.at h
def fIx (G : Gm) (x y z : D) : Prop := (∃ ds i, SeqAt G x ds ∧ y = .int i ∧ atI ds i = some z) ∨ ∃ (t : Str) (i : Int) (c : Nat), x = .str t ∧ y = .int i ∧ t.length ≤ sizeLine ∧ atI t.cps.toList i = some c ∧ z = .str ⟨#[c]⟩
def dIx (da db : DE) : DE := fun ρ G R => da ρ G fun x G1 => db ρ G1 fun y G2 => ∃ z, fIx G2 x y z ∧ R z G2
theorem pd_ix (ha : PE X a (upE X.K B da)) (hb : PE X b (upE X.K B db)) (hs : PlainIx b) : PE X (.Subscript a b pos) (upE X.K B (dIx da db)) := pe_imp (pe_ix ix_seq ha hb hs) fun σ H Q ⟨ρ, Hd, G, R, at_, h, k⟩ =>
  ⟨ρ, Hd, G, _, at_, h, fun v H1 Hd1 x G1 e1 s1 r1 h1 => ⟨ρ, Hd1, G1, _, at_.step e1 s1, h1, fun u H2 Hd2 y G2 e2 s2 r2 ⟨z, hf, hz⟩ => by
    have fin : ∀ w, Rp X.K Hd2 w z → Q w H2 := fun w r => k w H2 Hd2 z G2 (e1.trans e2) s2 r hz
    rcases hf with ⟨ds, i, hs, rfl, hi⟩ | ⟨t, i, cc, rfl, rfl, hz2, hi, rfl⟩
    · cases r2
      obtain ⟨q, xs, rfl, hq, r3⟩ := hs.sq s2 (r1.mono e2)
      obtain ⟨w, hw, rw_⟩ := rpl_atI r3 hi
      rcases hq with hq | hq
      · exact .inl ⟨q, xs, i, w, rfl, rfl, hq, hw, fin w rw_⟩
      · exact .inr (.inl ⟨q, xs, i, w, rfl, rfl, hq, hw, fin w rw_⟩)
    · cases r2
      cases r1
      exact .inr (.inr ⟨t, i, cc, rfl, rfl, hz2, hi, fin _ (.str _)⟩)⟩⟩
def dAndV (da db : DE) : DE := fun ρ G R => da ρ G fun x G1 => ∃ k, x = .bl k ∧ if k = true then db ρ G1 R else R (.bl false) G1
def dOrV (da db : DE) : DE := fun ρ G R => da ρ G fun x G1 => ∃ k, x = .bl k ∧ if k = true then R (.bl true) G1 else db ρ G1 R
def dNotV (da : DE) : DE := fun ρ G R => da ρ G fun x G1 => ∃ k, x = .bl k ∧ R (.bl (!k)) G1
variable {rest : List Expr} {A2 B2 : Expr}
theorem pd_one {op : BoolOp} (h : PE X a (upE X.K B da)) : PE X (.BoolOp op [a] pos) (upE X.K B da) := pe_one h
theorem pd_and (ha : PE X a (upE X.K B da)) (hb : PE X (.BoolOp .And (b :: rest) pos) (upE X.K B db)) : PE X (.BoolOp .And (a :: b :: rest) pos) (upE X.K B (dAndV da db)) := pe_imp (pe_and ha hb) fun σ H Q ⟨ρ, Hd, G, R, at_, h, k⟩ =>
  ⟨ρ, Hd, G, _, at_, h, fun v H1 Hd1 x G1 e1 s1 r1 ⟨t, et, h1⟩ => by
    subst et
    cases r1
    refine ⟨t, rfl, ?_⟩
    cases t with
    | true => exact ⟨ρ, Hd1, G1, R, at_.step e1 s1, h1, k.mono e1⟩
    | false => exact k _ H1 Hd1 _ G1 e1 s1 (.bl _) h1⟩
theorem pd_or (ha : PE X a (upE X.K B da)) (hb : PE X (.BoolOp .Or (b :: rest) pos) (upE X.K B db)) : PE X (.BoolOp .Or (a :: b :: rest) pos) (upE X.K B (dOrV da db)) := pe_imp (pe_or ha hb) fun σ H Q ⟨ρ, Hd, G, R, at_, h, k⟩ =>
  ⟨ρ, Hd, G, _, at_, h, fun v H1 Hd1 x G1 e1 s1 r1 ⟨t, et, h1⟩ => by
    subst et
    cases r1
    refine ⟨t, rfl, ?_⟩
    cases t with
    | true => exact k _ H1 Hd1 _ G1 e1 s1 (.bl _) h1
    | false => exact ⟨ρ, Hd1, G1, R, at_.step e1 s1, h1, k.mono e1⟩⟩
theorem pd_not (ha : PE X a (upE X.K B da)) : PE X (.UnaryOp .Not a pos) (upE X.K B (dNotV da)) := pe_imp (pe_not ha) fun σ H Q ⟨ρ, Hd, G, R, at_, h, k⟩ =>
  ⟨ρ, Hd, G, _, at_, h, fun v H1 Hd1 x G1 e1 s1 r1 ⟨t, et, h1⟩ => by
    subst et
    cases r1
    exact ⟨t, rfl, k _ H1 Hd1 _ G1 e1 s1 (.bl _) h1⟩⟩
def dAnd (t u : DT) : DT := fun ρ G R => t ρ G fun k G1 => if k = true then u ρ G1 R else R false G1
def dOr (t u : DT) : DT := fun ρ G R => t ρ G fun k G1 => if k = true then R true G1 else u ρ G1 R
def dNot (t : DT) : DT := fun ρ G R => t ρ G fun k G1 => R (!k) G1
theorem pwd_and1 (ha : PT X a (upT X.K B ta)) : PW X (.BoolOp .And [a] pos) (upT X.K B ta) := pw_and1 ha
theorem pwd_or1 (ha : PT X a (upT X.K B ta)) : PW X (.BoolOp .Or [a] pos) (upT X.K B ta) := pw_or1 ha
theorem pwd_and (ha : PT X a (upT X.K B ta)) (hb : PW X (.BoolOp .And (b :: rest) pos) (upT X.K B tb)) : PW X (.BoolOp .And (a :: b :: rest) pos) (upT X.K B (dAnd ta tb)) := pw_imp (pw_and ha hb) fun σ H Q ⟨ρ, Hd, G, R, at_, h, k⟩ =>
  ⟨ρ, Hd, G, _, at_, h, fun t H1 Hd1 G1 e1 s1 h1 => by
    cases t with
    | true => exact ⟨ρ, Hd1, G1, R, at_.step e1 s1, h1, k.mono e1⟩
    | false => exact k _ H1 Hd1 G1 e1 s1 h1⟩
theorem pwd_or (ha : PT X a (upT X.K B ta)) (hb : PW X (.BoolOp .Or (b :: rest) pos) (upT X.K B tb)) : PW X (.BoolOp .Or (a :: b :: rest) pos) (upT X.K B (dOr ta tb)) := pw_imp (pw_or ha hb) fun σ H Q ⟨ρ, Hd, G, R, at_, h, k⟩ =>
  ⟨ρ, Hd, G, _, at_, h, fun t H1 Hd1 G1 e1 s1 h1 => by
    cases t with
    | true => exact k _ H1 Hd1 G1 e1 s1 h1
    | false => exact ⟨ρ, Hd1, G1, R, at_.step e1 s1, h1, k.mono e1⟩⟩
theorem ptd_not (ha : PT X a (upT X.K B ta)) : PT X (.UnaryOp .Not a pos) (upT X.K B (dNot ta)) := pt_imp (pt_not ha) fun σ H Q ⟨ρ, Hd, G, R, at_, h, k⟩ =>
  ⟨ρ, Hd, G, _, at_, h, fun t H1 Hd1 G1 e1 s1 h1 => k _ H1 Hd1 G1 e1 s1 h1⟩
def dIf (t : DT) (da db : DE) : DE := fun ρ G R => t ρ G fun k G1 => if k = true then da ρ G1 R else db ρ G1 R
theorem pd_if (hc : PT X c (upT X.K B ta)) (ha : PE X a (upE X.K B da)) (hb : PE X b (upE X.K B db)) : PE X (.IfExp c a b pos) (upE X.K B (dIf ta da db)) := pe_imp (pe_ifExp hc ha hb) fun σ H Q ⟨ρ, Hd, G, R, at_, h, k⟩ =>
  ⟨ρ, Hd, G, _, at_, h, fun t H1 Hd1 G1 e1 s1 h1 => by
    cases t with
    | true => exact ⟨ρ, Hd1, G1, R, at_.step e1 s1, h1, k.mono e1⟩
    | false => exact ⟨ρ, Hd1, G1, R, at_.step e1 s1, h1, k.mono e1⟩⟩
def D.isN : D → Bool
  | .non => true
  | _ => false
def dIsN (da : DE) : DE := fun ρ G R => da ρ G fun x G1 => R (.bl x.isN) G1
theorem non_iff {K : PySem.W.Frag} {H : Hp} {v : V} {x : D} (r : Rp K H v x) : decide (v = .non) = x.isN := by
  cases r <;> first | rfl | exact decide_eq_false (fun z => nomatch z)
theorem isn_imp {K : PySem.W.Frag} : ∀ σ H Q, upE K B (dIsN da) σ H Q → tIsN (upE K B da) σ H Q := fun σ H Q ⟨ρ, Hd, G, R, at_, h, k⟩ =>
  ⟨ρ, Hd, G, _, at_, h, fun v H1 Hd1 x G1 e1 s1 r1 h1 => by
    show Q (.bl (decide (v = .non))) H1
    rw [non_iff r1]
    exact k _ H1 Hd1 _ G1 e1 s1 (.bl _) h1⟩
theorem pd_isN {j : Nat} {pp : Pos} (ha : PE X a (upE X.K B da)) : PE X (.Compare a [.Is] [.Constant .none j pp] pos) (upE X.K B (dIsN da)) := pe_imp (pe_cmp (pc_isN ha) rfl) isn_imp
def dDct0 : DE := fun _ G R => R (.dct [] []) G
theorem pd_dct0 : PE X (.Dict [] [] pos) (upE X.K B dDct0) := pe_imp pe_dnewK fun σ H Q ⟨ρ, Hd, G, R, at_, h, k⟩ =>
  fun pp hp => k _ _ _ _ G (at_.s.exn hp) (at_.s.new hp) (.dct (ks := []) (xs := []) (by rw [upd_same]; rfl) rfl .nil) h
abbrev DO := En → Gm → (Option Int → Gm → Prop) → Prop
def upO (K : PySem.W.Frag) (B : Bs) (d : DO) : TO := fun σ H Q => ∃ ρ Hd G R, At K B σ H ρ Hd G ∧ d ρ G R ∧ ∀ o H' Hd' G', Ex Hd Hd' → Sim K B.f Hd' H' G' → R o G' → Q o H'
def dNoP : DO := fun _ G R => R none G
def dPart (de : DE) : DO := fun ρ G R => de ρ G fun x G1 => ∃ i, x = .int i ∧ R (some i) G1
theorem po_imp {eo : Option Expr} {t t' : TO} (h : PO X eo t) (i : ∀ σ H Q, t' σ H Q → t σ H Q) : PO X eo t' := ⟨fun pins s σ H Q I w => h.run pins s σ H Q I (i σ H Q w)⟩
theorem pod_none : PO X none (upO X.K B dNoP) := po_imp po_none fun σ H Q ⟨ρ, Hd, G, R, at_, h, k⟩ => k none H Hd G (Ex.refl _) at_.s h
theorem pod_some (h : PE X e (upE X.K B da)) : PO X (some e) (upO X.K B (dPart da)) := po_imp (po_some h) fun σ H Q ⟨ρ, Hd, G, R, at_, h, k⟩ =>
  ⟨ρ, Hd, G, _, at_, h, fun v H1 Hd1 x G1 e1 s1 r1 ⟨i, ex, h1⟩ => by
    subst ex
    cases r1
    exact ⟨i, rfl, k _ H1 Hd1 G1 e1 s1 h1⟩⟩
def cutD (xs : List D) (lo hi : Option Int) : List D := (xs.drop (HT.sIx xs.length 0 lo)).take (HT.sIx xs.length xs.length hi - HT.sIx xs.length 0 lo)
theorem rpl_cut {K : PySem.W.Frag} {H : Hp} {vs : List V} {ds : List D} (r : RpL K H vs ds) (lo hi : Option Int) : RpL K H (cutV vs lo hi) (cutD ds lo hi) := by
  unfold cutV cutD
  rw [r.length]
  exact (r.drop _).take _
def fSl (G : Gm) (x : D) (lo hi : Option Int) (z : D) : Prop := (∃ ds, LstAt G x ds ∧ z = .lst (cutD ds lo hi)) ∨ ∃ ds, x = .tup ds ∧ z = .tup (cutD ds lo hi) ∧ ¬ (HT.sIx ds.length 0 lo = 0 ∧ HT.sIx ds.length ds.length hi = ds.length)
def dSl (da : DE) (l h : DO) : DE := fun ρ G R => da ρ G fun x G1 => l ρ G1 fun lo G2 => h ρ G2 fun hi G3 => ∃ z, fSl G3 x lo hi z ∧ R z G3
theorem pd_slice {lo hi : Option Expr} {l h : DO} {p2 : Pos} (he : PE X e (upE X.K B da)) (hl : PO X lo (upO X.K B l)) (hh : PO X hi (upO X.K B h)) : PE X (.Subscript e (.Slice lo hi none p2) pos) (upE X.K B (dSl da l h)) :=
  pe_imp (pe_slice (sl_list.or sl_tup) he hl hh) fun σ H Q ⟨ρ, Hd, G, R, at_, h, k⟩ =>
    ⟨ρ, Hd, G, _, at_, h, fun v H1 Hd1 x G1 e1 s1 r1 h1 => ⟨ρ, Hd1, G1, _, at_.step e1 s1, h1, fun lo H2 Hd2 G2 e2 s2 h2 => ⟨ρ, Hd2, G2, _, (at_.step e1 s1).step e2 s2, h2, fun hi H3 Hd3 G3 e3 s3 ⟨z, hz, h3⟩ => by
      have e123 := (e1.trans e2).trans e3
      rcases hz with ⟨ds, hl, rfl⟩ | ⟨ds, rfl, rfl, hn⟩
      · obtain ⟨q, ys, rfl, hq, r3⟩ := hl.sq s3 (r1.mono (e2.trans e3))
        exact .inl ⟨q, ys, rfl, hq, fun pp hp => k _ _ _ _ G3 (e123.trans (s3.exn hp)) (s3.new hp) (.lst sq_new ((rpl_cut r3 lo hi).mono (s3.exn hp))) h3⟩
      · cases r1.mono (e2.trans e3) with
        | tup hq r3 =>
          refine .inr ⟨_, _, rfl, ex_t s3.sub hq, ?_, fun pp hp => k _ _ _ _ G3 (e123.trans (s3.exn hp)) (s3.new hp) (.tup st_new ((rpl_cut r3 lo hi).mono (s3.exn hp))) h3⟩
          rw [r3.length]
          exact hn⟩⟩⟩
end
end DL
namespace DL
open PySem PySem.Spec PyProof.Rows L2 Evl
variable [TabC]
section
variable {X : Cx} {B : Bs} {pos p : Pos} {a b c e : Expr} {es : List Expr} {da db dc de : DE} {dA : DA} {ta tb : DT} {st : Stmt} {sts : List Stmt} {s1 s2 : DS}
def dNext : DS := fun E ρ G => E.nx ρ G
def dSeq (s t : DS) : DS := fun E ρ G => s { E with nx := t E } ρ G
theorem psd_nil : PSs X [] (upS X.K B dNext) := pss_imp pss_nil fun D σ H ⟨ρ, Hd, G, E, at_, h, k⟩ => k.nx σ H Hd ρ G (Ex.refl _) at_.e at_.s h
theorem psd_cons (h1 : PS X st (upS X.K B s1)) (h2 : PSs X sts (upS X.K B s2)) : PSs X (st :: sts) (upS X.K B (dSeq s1 s2)) := pss_imp (pss_cons h1 h2) fun D σ H ⟨ρ, Hd, G, E, at_, h, k⟩ =>
  ⟨ρ, Hd, G, _, at_, h, ⟨fun σ' H' Hd' ρ' G' e r s h' => ⟨ρ', Hd', G', E, ⟨at_.b.trans e, r, s⟩, h', k.mono e⟩, k.rt, k.bk, k.ct⟩⟩
theorem psd_one (h1 : PS X st (upS X.K B s1)) : PSs X [st] (upS X.K B s1) := pss_one h1
def dBreak : DS := fun E ρ G => E.bk ρ G
def dCont : DS := fun E ρ G => E.ct ρ G
def dRet (de : DE) : DS := fun E ρ G => de ρ G E.rt
theorem psd_ret (he : PE X e (upE X.K B de)) : PS X (.Return (some e) pos) (upS X.K B (dRet de)) := ps_imp (ps_ret he) fun D σ H ⟨ρ, Hd, G, E, at_, h, k⟩ => ⟨ρ, Hd, G, E.rt, at_, h, k.rt⟩
def dIfS (t : DT) (s1 s2 : DS) : DS := fun E ρ G => t ρ G fun k G1 => if k = true then s1 E ρ G1 else s2 E ρ G1
theorem psd_if {A2 B2 : List Stmt} (hc : PT X c (upT X.K B ta)) (ha : PSs X A2 (upS X.K B s1)) (hb : PSs X B2 (upS X.K B s2)) : PS X (.If c A2 B2 pos) (upS X.K B (dIfS ta s1 s2)) := ps_imp (ps_if hc ha hb) fun D σ H ⟨ρ, Hd, G, E, at_, h, k⟩ =>
  ⟨ρ, Hd, G, _, at_, h, fun t H1 Hd1 G1 e1 s1 h1 => by
    cases t with
    | true => exact ⟨ρ, Hd1, G1, E, at_.step e1 s1, h1, k.mono e1⟩
    | false => exact ⟨ρ, Hd1, G1, E, at_.step e1 s1, h1, k.mono e1⟩⟩
abbrev DG := D → En → Gm → (En → Gm → Prop) → Prop
abbrev DGs := List D → En → Gm → (En → Gm → Prop) → Prop
def OnlyAt (js : List Nat) (σ σ' : L2.St) : Prop := σ'.length = σ.length ∧ ∀ j, j ∉ js → σ'[j]? = σ[j]?
theorem OnlyAt.trans {js ks : List Nat} {σ σ1 σ2 : L2.St} (h : OnlyAt js σ σ1) (h' : OnlyAt ks σ1 σ2) : OnlyAt (js ++ ks) σ σ2 :=
  ⟨h'.1.trans h.1, fun j hj => (h'.2 j fun z => hj (List.mem_append_right _ z)).trans (h.2 j fun z => hj (List.mem_append_left _ z))⟩
def KG (K : PySem.W.Frag) (F : Gm) (Hd : Hp) (js : List Nat) (σ : L2.St) (R : En → Gm → Prop) (Q : L2.St → Hp → Prop) : Prop := ∀ σ' H' Hd' ρ' G', Ex Hd Hd' → RpE K Hd' σ' ρ' → Sim K F Hd' H' G' → R ρ' G' → OnlyAt js σ σ' → Q σ' H'
theorem KN.kg {K : PySem.W.Frag} {F : Gm} {Hd : Hp} {js : List Nat} {σ : L2.St} {R : En → Gm → Prop} {Q : L2.St → Hp → Prop} (k : KN K F Hd R Q) : KG K F Hd js σ R Q := fun σ' H' Hd' ρ' G' e r s h _ => k σ' H' Hd' ρ' G' e r s h
def upG (K : PySem.W.Frag) (B : Bs) (js : List Nat) (g : DG) : TG := fun v σ H Q => ∃ x ρ Hd G R, At K B σ H ρ Hd G ∧ Rp K Hd v x ∧ g x ρ G R ∧ KG K B.f Hd js σ R Q
def upGs (K : PySem.W.Frag) (B : Bs) (js : List Nat) (g : DGs) : TGs := fun vs σ H Q => ∃ xs ρ Hd G R, At K B σ H ρ Hd G ∧ RpL K Hd vs xs ∧ g xs ρ G R ∧ KG K B.f Hd js σ R Q
theorem pg_imp {t t' : TG} (h : PG X e t) (i : ∀ v σ H Q, t' v σ H Q → t v σ H Q) : PG X e t' := ⟨fun pins s σ H v u Q I r w => h.run pins s σ H v u Q I r (i v σ H Q w)⟩
theorem pgs_imp {t t' : TGs} (h : PGs X es t) (i : ∀ v σ H Q, t' v σ H Q → t v σ H Q) : PGs X es t' := ⟨fun pins s σ H v u Q I r w => h.run pins s σ H v u Q I r (i v σ H Q w)⟩
def gN (i : Nat) : DG := fun x ρ G R => R (ρ.set i (some x)) G
theorem only_set {σ : L2.St} {i : Nat} {v : Option V} : OnlyAt [i] σ (σ.set i v) := ⟨List.length_set, fun j hj => List.getElem?_set_ne fun z => hj (by rw [z]; exact List.mem_singleton_self _)⟩
theorem pgd_name {i : Nat} {x : Str} (hN : X.N.Nodup) (hi : X.N[i]? = some x) (hx : Loc X.env.scope x) (hf : X.fn x = true ∨ X.env.scope.names.lookup x = some .local := by first | exact .inl rfl | exact .inr rfl | assumption) : PG X (.Name x pos) (upG X.K B [i] (gN i)) :=
  pg_imp (pg_name hN hi hx hf) fun v σ H Q ⟨x, ρ, Hd, G, R, at_, r, h, k⟩ => k _ H Hd _ G (Ex.refl _) (at_.e.set i r) at_.s h only_set
def gNil : DGs := fun xs ρ G R => xs = [] ∧ R ρ G
def gCons (g : DG) (gs : DGs) : DGs := fun xs ρ G R => ∃ y ys, xs = y :: ys ∧ g y ρ G fun ρ' G' => gs ys ρ' G' R
theorem pgsd_nil : PGs X [] (upGs X.K B [] gNil) := pgs_imp pgs_nil fun v σ H Q ⟨xs, ρ, Hd, G, R, at_, r, ⟨ex, h⟩, k⟩ => by
  subst ex
  cases r
  exact ⟨rfl, k _ H Hd _ G (Ex.refl _) at_.e at_.s h ⟨rfl, fun _ _ => rfl⟩⟩
theorem pgsd_cons {g : DG} {gs : DGs} {js ks : List Nat} (h1 : PG X e (upG X.K B js g)) (h2 : PGs X es (upGs X.K B ks gs)) (hs : (assignEach (e :: es) X.env).map (·.2) = assign e X.env :: (assignEach es X.env).map (·.2) := by rfl) : PGs X (e :: es) (upGs X.K B (js ++ ks) (gCons g gs)) :=
  pgs_imp (pgs_cons h1 h2 hs) fun v σ H Q ⟨xs, ρ, Hd, G, R, at_, r, ⟨y, ys, ex, h⟩, k⟩ => by
    subst ex
    cases r with
    | cons a b =>
      exact ⟨_, _, rfl, y, ρ, Hd, G, _, at_, a, h, fun σ' H' Hd' ρ' G' e1 r1 s1 h1 o1 => ⟨ys, ρ', Hd', G', R, ⟨at_.b.trans e1, r1, s1⟩, b.mono e1, h1, fun σ2 H2 Hd2 ρ2 G2 e2 r2 s2 h2 o2 => k σ2 H2 Hd2 ρ2 G2 (e1.trans e2) r2 s2 h2 (o1.trans o2)⟩⟩
def gSeq (n : Nat) (gs : DGs) : DG := fun x ρ G R => ∃ xs, SeqAt G x xs ∧ xs.length = n ∧ gs xs ρ G R
theorem pg_or {t t' : TG} (h : PG X e t) (h' : PG X e t') : PG X e (fun v σ H Q => t v σ H Q ∨ t' v σ H Q) := ⟨fun pins s σ H v u Q I r w => w.elim (h.run pins s σ H v u Q I r) (h'.run pins s σ H v u Q I r)⟩
theorem pgd_seq {k n : Nat} {gs : DGs} {js : List Nat} (hc : X.calm = true) (h : PGs X es (upGs X.K B js gs)) (hn : (assignEach es X.env).length = n := by rfl) (hst : (assignEach es X.env).findIdx? (·.1) = none := by rfl) : PG X (.Tuple es k pos) (upG X.K B js (gSeq n gs)) :=
  pg_imp (pg_or (pg_tup hc h hn hst) (pg_lst hc h hn hst)) fun v σ H Q ⟨x, ρ, Hd, G, R, at_, r, ⟨xs, hs, hl, h⟩, k⟩ => by
    obtain ⟨q, ys, rfl, hq, r2⟩ := hs.sq at_.s r
    have e : ys.length = n := by rw [r2.length, hl]
    have w : upGs X.K B js gs ys σ H Q := ⟨xs, ρ, Hd, G, R, at_, r2, h, k⟩
    rcases hq with hq | hq
    · exact .inr ⟨q, ys, rfl, hq, e, w⟩
    · exact .inl ⟨q, ys, rfl, hq, e, w⟩
def dAsg (de : DE) (g : DG) : DS := fun E ρ G => de ρ G fun x G1 => g x ρ G1 E.nx
theorem asg_imp {K : PySem.W.Frag} {g : DG} {js : List Nat} : ∀ D σ H, upS K B (dAsg de g) D σ H → tAsg (upE K B de) (upG K B js g) D σ H := fun D σ H ⟨ρ, Hd, G, E, at_, h, k⟩ =>
  ⟨ρ, Hd, G, _, at_, h, fun v H1 Hd1 x G1 e1 s1 r1 h1 => ⟨x, ρ, Hd1, G1, _, at_.step e1 s1, r1, h1, (k.nx.mono e1).kg⟩⟩
theorem psd_asg {tg : Expr} {g : DG} {js : List Nat} (he : PE X e (upE X.K B de)) (hg : PG X tg (upG X.K B js g)) (hs : swapsWithSole [tg] e pos.line X.env = pure false := by rfl) (hw : swappedStores [tg] e X.env = pure none := by rfl)
    (h1 : (assignEach [tg] X.env).map (·.2) = [assign tg X.env] := by rfl) : PS X (.Assign [tg] e pos) (upS X.K B (dAsg de g)) := ps_imp (ps_asg he hg hs hw h1) asg_imp
def dSet (i : Nat) (de : DE) : DS := fun E ρ G => de ρ G fun x G1 => E.nx (ρ.set i (some x)) G1
theorem set_imp {K : PySem.W.Frag} {i : Nat} : ∀ D σ H, upS K B (dSet i de) D σ H → tAsg (upE K B de) (gName i) D σ H := fun D σ H ⟨ρ, Hd, G, E, at_, h, k⟩ =>
  ⟨ρ, Hd, G, _, at_, h, fun v H1 Hd1 x G1 e1 s1 r1 h1 => k.nx _ H1 Hd1 _ G1 e1 ((at_.e.mono e1).set i r1) s1 h1⟩
theorem psd_set {i : Nat} {x : Str} {pp : Pos} (hN : X.N.Nodup) (hi : X.N[i]? = some x) (hx : Loc X.env.scope x) (he : PE X e (upE X.K B de)) (hs : swapsWith e (some (.Name x pp)) pos.line X.env = pure false := by rfl)
    (hf : X.fn x = true ∨ X.env.scope.names.lookup x = some .local := by first | exact .inl rfl | exact .inr rfl | assumption) : PS X (.Assign [.Name x pp] e pos) (upS X.K B (dSet i de)) := ps_imp (ps_set hN hi hx he hs hf) set_imp
def dPar (i j : Nat) (dA : DA) : DS := fun E ρ G => dA ρ G fun xs G1 => ∃ x y, xs = [x, y] ∧ E.nx ((ρ.set i (some x)).set j (some y)) G1
theorem psd_par {i j : Nat} {x y : Str} {px py pt : Pos} {kt k2 : Nat} {pt2 : Pos} (hc : X.calm = true) (hN : X.N.Nodup) (hi : X.N[i]? = some x) (hj : X.N[j]? = some y) (hij : i ≠ j) (hx : X.env.scope.names.lookup x = some .local) (hy : X.env.scope.names.lookup y = some .local)
    (ha : PA X [a, b] (upA X.K B dA)) (hw : swappedStores [.Tuple [.Name x px, .Name y py] kt pt] (.Tuple [a, b] k2 pt2) X.env = pure (some [x, y])) (hs : swapsWithSole [.Tuple [.Name x px, .Name y py] kt pt] (.Tuple [a, b] k2 pt2) pos.line X.env = pure false := by rfl) :
    PS X (.Assign [.Tuple [.Name x px, .Name y py] kt pt] (.Tuple [a, b] k2 pt2) pos) (upS X.K B (dPar i j dA)) := ps_imp (ps_par hc hN hi hj hij hx hy ha hw hs) fun D σ H ⟨ρ, Hd, G, E, at_, h, k⟩ =>
  ⟨ρ, Hd, G, _, at_, h, fun vs H1 Hd1 xs G1 e1 s1 r1 ⟨x, y, ex, h1⟩ => by
    subst ex
    obtain ⟨v, u, rfl, rv, ru⟩ := rpl2 r1
    exact ⟨v, u, rfl, k.nx _ H1 Hd1 _ G1 e1 (((at_.e.mono e1).set i rv).set j ru) s1 h1⟩⟩
def dSetIx (de dobj di : DE) : DS := fun E ρ G => de ρ G fun x G1 => dobj ρ G1 fun o G2 => di ρ G2 fun i G3 => ∃ q ds k j, o = .ref q ∧ G3 q = some (.lst ds) ∧ i = .int k ∧ ixN ds.length k = some j ∧ E.nx ρ (gup G3 q (.lst (ds.set j x)))
theorem psd_setIx {o i : Expr} {dobj di : DE} {pp : Pos} (he : PE X e (upE X.K B de)) (ho : PE X o (upE X.K B dobj)) (hi : PE X i (upE X.K B di))
    (hs : swapsWithSole [.Subscript o i pp] e pos.line X.env = pure false := by rfl) (hw : swappedStores [.Subscript o i pp] e X.env = pure none := by rfl) (h1 : (assignEach [.Subscript o i pp] X.env).map (·.2) = [assign (.Subscript o i pp) X.env] := by rfl)
    (ha : ∀ v, assign (.Subscript o i pp) X.env v = (do
      let ov ← holding [v] (eval o X.env)
      let iv ← holding [v, ov] (eval i X.env)
      standAt pp
      holding [v, ov, iv] (setItem ov iv v)
      release [v, ov, iv] []) := by intro _; rfl) : PS X (.Assign [.Subscript o i pp] e pos) (upS X.K B (dSetIx de dobj di)) := ps_imp (ps_asg he (pg_sub ho hi set_list ha) hs hw h1) fun D σ H ⟨ρ, Hd, G, E, at_, h, k⟩ =>
  ⟨ρ, Hd, G, _, at_, h, fun v H1 Hd1 x G1 e1 s1 r1 h1 => ⟨ρ, Hd1, G1, _, at_.step e1 s1, h1, fun u H2 Hd2 y G2 e2 s2 r2 h2 => ⟨ρ, Hd2, G2, _, (at_.step e1 s1).step e2 s2, h2, fun w H3 Hd3 z G3 e3 s3 r3 ⟨q, ds, kk, j, ey, hg, ez, hj, h3⟩ => by
    subst ey ez
    cases r2
    cases r3
    obtain ⟨ys, hy, ry⟩ := s3.hold q _ hg
    refine ⟨q, ys, kk, j, rfl, rfl, hy, by rw [ry.length]; exact hj, ?_⟩
    have e123 := (e1.trans e2).trans e3
    exact k.nx _ _ Hd3 ρ _ e123 (at_.e.mono e123) (s3.put (n := .lst (ds.set j x)) hg ⟨_, upd_same, ry.set j (r1.mono (e2.trans e3))⟩) h3⟩⟩⟩
def dWhile (t : DT) (s : DS) : DS := fun E ρ G => ∃ W : Nat → En → Gm → Prop, (∃ m, W m ρ G) ∧ ∀ m ρ G, W m ρ G → t ρ G fun k G1 => if k = true then s { E with nx := fun ρ' G' => ∃ m', m' < m ∧ W m' ρ' G', ct := fun ρ' G' => ∃ m', m' < m ∧ W m' ρ' G', bk := E.nx } ρ G1 else E.nx ρ G1
theorem psd_while {body : List Stmt} (hp : PassesOwn (model X.prog X.w) X.A X.env X.xe) (hc : PT X c (upT X.K B ta)) (hb : PSs X body (upS X.K B s1)) : PS X (.While c body [] pos) (upS X.K B (dWhile ta s1)) := ps_imp (ps_while hp hc hb) fun D σ H ⟨ρ, Hd, G, E, at_, ⟨W, ⟨m, w0⟩, turn⟩, k⟩ => by
  refine ⟨fun m σ H => ∃ ρ Hd' G, At X.K B σ H ρ Hd' G ∧ Ex Hd Hd' ∧ W m ρ G, ⟨m, ρ, Hd, G, at_, Ex.refl _, w0⟩, ?_⟩
  rintro m σ H ⟨ρ, Hd1, G, at1, e0, w⟩
  refine ⟨ρ, Hd1, G, _, at1, turn m ρ G w, fun t H1 Hd2 G1 e1 s1 h1 => ?_⟩
  cases t with
  | false => exact k.nx σ H1 Hd2 ρ G1 (e0.trans e1) (at1.e.mono e1) s1 h1
  | true =>
    refine ⟨fun σ' H' => ∃ m', m' < m ∧ ∃ ρ Hd' G, At X.K B σ' H' ρ Hd' G ∧ Ex Hd Hd' ∧ W m' ρ G, fun σ' H' h => h, ρ, Hd2, G1, _, at1.step e1 s1, h1, ?_⟩
    have again : KN X.K B.f Hd2 (fun ρ' G' => ∃ m', m' < m ∧ W m' ρ' G') (fun σ' H' => ∃ m', m' < m ∧ ∃ ρ Hd' G, At X.K B σ' H' ρ Hd' G ∧ Ex Hd Hd' ∧ W m' ρ G) := fun σ' H' Hd3 ρ' G' e3 r3 s3 ⟨m', l, w'⟩ =>
      ⟨m', l, ρ', Hd3, G', ⟨(at1.b.trans e1).trans e3, r3, s3⟩, (e0.trans e1).trans e3, w'⟩
    exact ⟨again, (k.mono (e0.trans e1)).rt, (k.mono (e0.trans e1)).nx, again⟩
def Walks (K : PySem.W.Frag) (Hd : Hp) (J : It) (xs : List D) : Prop := ∀ (F : Gm) (i : Nat) (H2 Hd2 : Hp) (G2 : Gm), Ex Hd Hd2 → Sim K F Hd2 H2 G2 →
  (∀ d, xs[i]? = some d → J.go i H2 ∧ ∀ v H3, J.yld i H2 v H3 → ∃ Hd3, Ex Hd2 Hd3 ∧ Sim K F Hd3 H3 G2 ∧ Rp K Hd3 v d) ∧ (xs.length ≤ i → J.stop i H2)
abbrev DI := En → Gm → (List D → Gm → Prop) → Prop
def upI (K : PySem.W.Frag) (B : Bs) (di : DI) : TI := fun σ H R => ∃ ρ Hd G S, At K B σ H ρ Hd G ∧ di ρ G S ∧ ∀ J H' Hd' xs G', Ex Hd Hd' → Sim K B.f Hd' H' G' → Walks K Hd' J xs → S xs G' → R J H'
theorem pi_imp {tg iter : Expr} {t t' : TI} (h : PI X tg iter t) (i : ∀ σ H R, t' σ H R → t σ H R) : PI X tg iter t' := ⟨fun pins s σ H R I w => h.run pins s σ H R I (i σ H R w)⟩
theorem walks_lst {K : PySem.W.Frag} {Hd : Hp} {q : Addr} {ys : List V} {xs : List D} (h : SqL K Hd q ys) (r : RpL K Hd ys xs) : Walks K Hd (Itl K q) xs := fun F i H2 Hd2 G2 e s => by
  have hH : SqL K H2 q ys := ex_l (e.trans s.sub) h
  refine ⟨fun d hd => ?_, fun hl => ⟨ys, hH, by rw [r.length]; exact hl⟩⟩
  obtain ⟨v, hv, rv⟩ := r.at hd
  refine ⟨⟨ys, v, hH, hv⟩, fun w H3 ⟨eH, hw⟩ => ?_⟩
  subst eH
  have e2 : v = w := Option.some.inj (hv.symm.trans (hw ys hH))
  subst e2
  exact ⟨Hd2, Ex.refl _, s, rv.mono e⟩
theorem walks_tup {K : PySem.W.Frag} {Hd : Hp} {q : Addr} {ys : List V} {xs : List D} (h : SqT K Hd q ys) (r : RpL K Hd ys xs) : Walks K Hd (Itt K q) xs := fun F i H2 Hd2 G2 e s => by
  have hH : SqT K H2 q ys := ex_t (e.trans s.sub) h
  refine ⟨fun d hd => ?_, fun hl => ⟨ys, hH, by rw [r.length]; exact hl⟩⟩
  obtain ⟨v, hv, rv⟩ := r.at hd
  refine ⟨⟨ys, v, hH, hv⟩, fun w H3 ⟨eH, hw⟩ => ?_⟩
  subst eH
  have e2 : v = w := Option.some.inj (hv.symm.trans (hw ys hH))
  subst e2
  exact ⟨Hd2, Ex.refl _, s, rv.mono e⟩
theorem walks_rng {K : PySem.W.Frag} {Hd : Hp} {lo : Int} {n : Nat} : Walks K Hd (Itr lo n) ((List.range n).map fun i : Nat => D.int (lo + i)) := fun F i H2 Hd2 G2 e s => by
  refine ⟨fun d hd => ?_, fun hl => by
    show n ≤ i
    simpa using hl⟩
  rw [List.getElem?_map] at hd
  by_cases hi : i < n
  · rw [List.getElem?_range hi] at hd
    cases hd
    refine ⟨hi, fun w H3 ⟨eH, hw⟩ => ?_⟩
    subst eH hw
    exact ⟨Hd2, Ex.refl _, s, .int _⟩
  · rw [List.getElem?_eq_none (by simpa using hi)] at hd
    cases hd
def iSeq (K : PySem.W.Frag) (tl : TE) : TI := fun σ H R => tl σ H fun x H1 => ∃ q, x = .ref q ∧ (((∃ xs, SqL K H1 q xs) ∧ R (Itl K q) H1) ∨ ((∃ xs, SqT K H1 q xs) ∧ R (Itt K q) H1))
theorem pi_seq {tg l : Expr} {tl : TE} (hl : PE X l tl) : PI X tg l (iSeq X.K tl) := by
  refine ⟨fun pins s σ H R I h => ?_⟩
  refine thn (hl.run pins s σ H _ I h) fun v s2 hv => ?_
  obtain ⟨x, H1, I1, rx, q, ex, hx⟩ := hv
  subst ex
  cases rx
  have fp : ∀ b ∈ [s2.heap.objs.size], FpOk X pins H1 b := fun b hb => by
    cases List.mem_singleton.mp hb
    exact I1.fpOk (Nat.le_refl _) (I1.hok.fresh (Nat.le_refl _))
  rcases hx with ⟨⟨xs, hq⟩, w⟩ | ⟨⟨xs, hq⟩, w⟩
  · obtain ⟨its, _, pl, _⟩ := I1.list hq
    refine wpAny_pyIter_list pl.isList ?_
    exact ⟨_, _, _, _, H1, rfl, I1.kept (t' := s2.toks) fun b o e => Heap.get?_push_of_some _ e, turn_list q _, ⟨_, Heap.get?_push_size _ rfl, rfl, rfl⟩, fp, w⟩
  · obtain ⟨its, _, pl, _⟩ := I1.tuple hq
    refine wpAny_pyIter_tuple (show s2.heap.IsTuple q its.toArray from pl) ?_
    exact ⟨_, _, _, _, H1, rfl, I1.kept (t' := s2.toks) fun b o e => Heap.get?_push_of_some _ e, turn_tuple q _, ⟨_, Heap.get?_push_size _ rfl, rfl, rfl⟩, fp, w⟩
def dISeq (de : DE) : DI := fun ρ G S => de ρ G fun x G1 => ∃ xs, (x = .lst xs ∨ x = .tup xs) ∧ S xs G1
theorem pid_seq {tg : Expr} (he : PE X e (upE X.K B de)) : PI X tg e (upI X.K B (dISeq de)) := pi_imp (pi_seq he) fun σ H R ⟨ρ, Hd, G, S, at_, h, k⟩ =>
  ⟨ρ, Hd, G, _, at_, h, fun v H1 Hd1 x G1 e1 s1 r1 ⟨xs, hx, h1⟩ => by
    rcases hx with rfl | rfl
    · cases r1 with
      | lst q r => exact ⟨_, rfl, .inl ⟨⟨_, ex_l s1.sub q⟩, k _ H1 Hd1 xs G1 e1 s1 (walks_lst q r) h1⟩⟩
    · cases r1 with
      | tup q r => exact ⟨_, rfl, .inr ⟨⟨_, ex_t s1.sub q⟩, k _ H1 Hd1 xs G1 e1 s1 (walks_tup q r) h1⟩⟩⟩
def rngD (lo : Int) (n : Nat) : List D := (List.range n).map fun i : Nat => D.int (lo + i)
def dIRng1 (da : DE) : DI := fun ρ G S => da ρ G fun x G1 => ∃ j, x = .int j ∧ -(2 ^ 62) ≤ j ∧ j < 2 ^ 62 ∧ S (rngD 0 j.toNat) G1
theorem pid_rng1 {tg : Expr} (hg : Gl X "range") (hm : X.mg "range" = none) (ha : PE X a (upE X.K B da)) (hs : starEach [a] X.env = [(false, eval a X.env)] := by rfl) : PI X tg (.Call (.Name "range" p) [a] [] pos) (upI X.K B (dIRng1 da)) :=
  pi_imp (pi_range1 hg hm (pda_cons ha pda_nil hs) hs) fun σ H R ⟨ρ, Hd, G, S, at_, h, k⟩ =>
    ⟨ρ, Hd, G, fun xs G1 => ∃ j, xs = [.int j] ∧ -(2 ^ 62) ≤ j ∧ j < 2 ^ 62 ∧ S (rngD 0 j.toNat) G1, at_, by
      show da ρ G _
      exact cast (congrArg (da ρ G) (funext fun x => funext fun G1 => propext ⟨fun ⟨j, e, r⟩ => ⟨j, by rw [e], r⟩, fun ⟨j, e, r⟩ => ⟨j, by cases e; rfl, r⟩⟩)) h, fun vs H1 Hd1 xs G1 e1 s1 r1 ⟨j, ex, l, u, h1⟩ => by
      subst ex
      obtain ⟨v, rfl, rv⟩ := rpl1 r1
      cases rv
      exact ⟨j, rfl, l, u, k _ H1 Hd1 _ G1 e1 s1 walks_rng h1⟩⟩
def forL (g : DG) (s : DS) (E : DEnds) : List D → En → Gm → Prop
  | [] => E.nx
  | x :: xs => fun ρ G => g x ρ G fun ρ1 G1 => s { E with nx := forL g s E xs, ct := forL g s E xs, bk := E.nx } ρ1 G1
def dFor (di : DI) (g : DG) (s : DS) : DS := fun E ρ G => di ρ G fun xs G1 => forL g s E xs ρ G1
theorem psd_for {tg iter : Expr} {body : List Stmt} {di : DI} {g : DG} {sb : DS} {js : List Nat} (hp : PassesOwn (model X.prog X.w) X.A X.env X.xe) (hc : X.calm = true) (hi : PI X tg iter (upI X.K B di)) (hg : PG X tg (upG X.K B js g)) (hb : PSs X body (upS X.K B sb))
    (hs : ∀ x, foldedSetIterable iter X.env x = pure x := by intro _; rfl) : PS X (.For tg iter body [] pos) (upS X.K B (dFor di g sb)) := ps_imp (ps_for hp hc hi hg hb hs) fun D σ H ⟨ρ, Hd, G, E, at_, h, k⟩ => by
  refine ⟨ρ, Hd, G, _, at_, h, fun J H1 Hd1 xs G1 e1 s1 w h1 => ?_⟩
  refine ⟨fun i m σ H => m = xs.length - i ∧ i ≤ xs.length ∧ ∃ ρ Hd2 G2, At X.K B σ H ρ Hd2 G2 ∧ Ex Hd1 Hd2 ∧ forL g sb E (xs.drop i) ρ G2, ⟨_, rfl, Nat.zero_le _, ρ, Hd1, G1, at_.step e1 s1, Ex.refl _, h1⟩, ?_⟩
  rintro i m σ2 H2 ⟨rfl, hi2, ρ2, Hd2, G2, at2, e2, h2⟩
  obtain ⟨w1, w2⟩ := w B.f i H2 Hd2 G2 e2 at2.s
  by_cases hl : i < xs.length
  · rw [List.drop_eq_getElem_cons hl] at h2
    obtain ⟨go, yl⟩ := w1 xs[i] (by simp [hl])
    let N : L2.St → Hp → Prop := fun σ' H' => ∃ ρ Hd3 G3, At X.K B σ' H' ρ Hd3 G3 ∧ Ex Hd1 Hd3 ∧ forL g sb E (xs.drop (i + 1)) ρ G3
    refine .inr ⟨go, N, fun σ' H' h' => ⟨xs.length - (i + 1), by omega, rfl, hl, h'⟩, fun v H3 y => ?_⟩
    obtain ⟨Hd3, e3, s3, r3⟩ := yl v H3 y
    have again : ∀ {Hd4 : Hp}, Ex Hd1 Hd4 → Ex B.b Hd4 → KN X.K B.f Hd4 (forL g sb E (xs.drop (i + 1))) N := fun {Hd4} f1 f2 σ' H' Hd' ρ' G' e' r' s' h' => ⟨ρ', Hd', G', ⟨f2.trans e', r', s'⟩, f1.trans e', h'⟩
    refine ⟨xs[i], ρ2, Hd3, G2, _, at2.step e3 s3, r3, h2, fun σ' H' Hd' ρ' G' e' r' s' h' _ => ?_⟩
    have eB : Ex B.b Hd' := ((at2.b.trans e3).trans e')
    have e1' : Ex Hd1 Hd' := (e2.trans e3).trans e'
    have k' := k.mono (e1.trans e1')
    exact ⟨ρ', Hd', G', _, ⟨eB, r', s'⟩, h', ⟨again e1' eB, k'.rt, k'.nx, again e1' eB⟩⟩
  · have e0 : xs.drop i = [] := List.drop_eq_nil_of_le (by omega)
    rw [e0] at h2
    exact .inl ⟨w2 (by omega), k.nx σ2 H2 Hd2 ρ2 G2 (e1.trans e2) at2.e at2.s h2⟩
end
end DL
namespace DL
open PySem PySem.Spec PyProof.Rows L2 Evl
variable [TabC]
theorem wipe_in {σ : L2.St} {j : Nat} : ∀ {vs : List Nat}, j ∈ vs → (L2.wipe σ vs)[j]? = if j < σ.length then some none else none
  | [], h => nomatch h
  | v :: vs, h => by
    unfold L2.wipe
    by_cases e : v = j
    · subst e
      by_cases l : v < σ.length
      · rw [List.getElem?_set_self (by rw [wipe_length]; exact l), if_pos l]
      · rw [if_neg l, List.getElem?_eq_none (by rw [List.length_set, wipe_length]; omega)]
    · rw [List.getElem?_set_ne e]
      rcases List.mem_cons.mp h with z | z
      · exact absurd z.symm e
      · exact wipe_in z
theorem wipe_only {σ σ' : L2.St} {js vs : List Nat} (o : OnlyAt js (L2.wipe σ vs) σ') (h : ∀ j ∈ js, j ∈ vs) : L2.wipe σ' vs = L2.wipe σ vs := by
  have hl : σ'.length = σ.length := by rw [o.1, wipe_length]
  refine List.ext_getElem? fun j => ?_
  by_cases hj : j ∈ vs
  · rw [wipe_in hj, wipe_in hj, hl]
  · rw [wipe_out hj, o.2 j fun z => hj (h j z)]
section
variable {X : Cx}
theorem pe_ex {ι : Type} {e : Expr} {t : ι → TE} (h : ∀ i, PE X e (t i)) : PE X e (fun σ H Q => ∃ i, t i σ H Q) := ⟨fun pins s σ H Q I ⟨i, w⟩ => (h i).run pins s σ H Q I w⟩
theorem pg_ex {ι : Type} {e : Expr} {t : ι → TG} (h : ∀ i, PG X e (t i)) : PG X e (fun v σ H Q => ∃ i, t i v σ H Q) := ⟨fun pins s σ H v u Q I r ⟨i, w⟩ => (h i).run pins s σ H v u Q I r w⟩
theorem pts_ex {ι : Type} {es : List Expr} {t : ι → TT} (h : ∀ i, PTs X es (t i)) : PTs X es (fun σ H Q => ∃ i, t i σ H Q) := ⟨fun pins s σ H Q I ⟨i, w⟩ => (h i).run pins s σ H Q I w⟩
end
theorem Sim.putF {K : PySem.W.Frag} {F : Gm} {Hd H : Hp} {G : Gm} {p : Addr} {m n : Mt} {o : HO} (S : Sim K (gup F p m) Hd H G) (hm0 : ∀ q, m ≠ .tab q) (hm : HoldM K Hd (upd H p o) p n) : Sim K (gup F p n) Hd (upd H p o) G := by
  have hd : Hd p = none := S.offF p m gup_same
  have hg : G p = none := S.apart p m gup_same
  refine ⟨ex_put S.sub hd, S.off, fun a k e => (S.hold a k e).other (ne_g e hg), fun a k e => ?_, fun a k e => ?_, fun a k e => ?_, fun q hq => ?_⟩
  · by_cases q : a = p
    · rw [q]
      exact hd
    · exact S.offF a k (by rw [gup_ne q] at e ⊢; exact e)
  · by_cases q : a = p
    · subst q
      rw [gup_same] at e
      cases e
      exact hm
    · exact (S.holdF a k (by rw [gup_ne q] at e ⊢; exact e)).other q
  · by_cases q : a = p
    · rw [q]
      exact hg
    · exact S.apart a k (by rw [gup_ne q] at e ⊢; exact e)
  · have t := S.tabs q hq
    by_cases z : q.1 = p
    · rw [z, gup_same] at t
      exact (hm0 q.2 (Option.some.inj t)).elim
    · rw [gup_ne z] at t ⊢
      exact t
section
variable {X : Cx} {B : Bs} {pos p : Pos} {a b c e : Expr} {es : List Expr} {da db dc de : DE} {dA : DA} {ta tb : DT}
def cmpL (ρ0 : En) (g : DG) (t : DT) (de : DE) : List D → List D → Gm → (List D → Gm → Prop) → Prop
  | [], acc, G, S => S acc G
  | x :: xs, acc, G, S => g x ρ0 G fun ρ1 G1 => t ρ1 G1 fun k G2 => if k = true then de ρ1 G2 fun y G3 => acc.length < sizeLine ∧ cmpL ρ0 g t de xs (acc ++ [y]) G3 S else cmpL ρ0 g t de xs acc G2 S
def dCmp (di : DI) (g : DG) (t : DT) (de : DE) (vs : List Nat) : DE := fun ρ G R => di ρ G fun xs G1 => cmpL (wipeD ρ vs) g t de xs [] G1 fun acc G2 => R (.lst acc) G2
def dYes : DT := fun _ G R => R true G
theorem ptsd_nil : PTs X [] (upT X.K B dYes) := ⟨fun pins s σ H Q I ⟨ρ, Hd, G, R, at_, h, k⟩ => pts_nil.run pins s σ H Q I (k true H Hd G (Ex.refl _) at_.s h)⟩
theorem ptsd_one (h : PT X c (upT X.K B ta)) : PTs X [c] (upT X.K B ta) := pts_one h
theorem lc_imp {K : PySem.W.Frag} {di : DI} {g : DG} {t : DT} {de : DE} {js vs : List Nat} (hj : ∀ j ∈ js, j ∈ vs) : ∀ σ H Q, upE K B (dCmp di g t de vs) σ H Q →
    tLc (upI K B di) (fun v σ H Q => ∃ B', upG K B' js g v σ H Q) (fun σ H Q => ∃ B', upT K B' t σ H Q) (fun σ H Q => ∃ B', upE K B' de σ H Q) vs σ H Q := fun σ H Q ⟨ρ, Hd, G, R, at_, h, k⟩ => by
  refine ⟨ρ, Hd, G, _, at_, h, fun J H1 Hd1 xs G1 e1 s1 w h1 Dl hD => ?_⟩
  have hF : B.f Dl = none := s1.ffree hD
  have ere : RpE K Hd1 (L2.wipe σ vs) (wipeD ρ vs) := (at_.e.mono e1).wipe vs
  refine ⟨fun i m H2 => m = xs.length - i ∧ i ≤ xs.length ∧ ∃ Hd2 G2 acc, Ex Hd1 Hd2 ∧ Sim K (gup B.f Dl (.lst acc)) Hd2 H2 G2 ∧ cmpL (wipeD ρ vs) g t de (xs.drop i) acc G2 fun acc G2 => R (.lst acc) G2,
    ⟨_, rfl, Nat.zero_le _, Hd1, G1, [], Ex.refl _, s1.hide (s1.ffree hD) (s1.free hD) (ex_put s1.sub (s1.free hD)) (s1.gfree hD) ⟨[], upd_same, .nil⟩, h1⟩, ?_⟩
  rintro i m H2 ⟨rfl, hi2, Hd2, G2, acc, e2, s2, h2⟩
  obtain ⟨w1, w2⟩ := w _ i H2 Hd2 G2 e2 s2
  by_cases hl : i < xs.length
  · rw [List.drop_eq_getElem_cons hl] at h2
    obtain ⟨go, yl⟩ := w1 xs[i] (by simp [hl])
    let N : Hp → Prop := fun H' => ∃ Hd2 G2 acc, Ex Hd1 Hd2 ∧ Sim K (gup B.f Dl (.lst acc)) Hd2 H' G2 ∧ cmpL (wipeD ρ vs) g t de (xs.drop (i + 1)) acc G2 fun acc G2 => R (.lst acc) G2
    refine .inr ⟨go, N, fun H' h' => ⟨xs.length - (i + 1), by omega, rfl, hl, h'⟩, fun v H3 y => ?_⟩
    obtain ⟨Hd3, e3, s3, r3⟩ := yl v H3 y
    have at3 : At K ⟨Hd3, gup B.f Dl (.lst acc)⟩ (L2.wipe σ vs) H3 (wipeD ρ vs) Hd3 G2 := ⟨Ex.refl _, ere.mono (e2.trans e3), s3⟩
    refine ⟨⟨Hd3, gup B.f Dl (.lst acc)⟩, xs[i], wipeD ρ vs, Hd3, G2, _, at3, r3, h2, fun σ4 H4 Hd4 ρ4 G4 e4 r4 s4 h4 o4 => ⟨wipe_only o4 hj, ?_⟩⟩
    refine ⟨⟨Hd3, gup B.f Dl (.lst acc)⟩, ρ4, Hd4, G4, _, ⟨e4, r4, s4⟩, h4, fun kk H5 Hd5 G5 e5 s5 h5 => ?_⟩
    cases kk with
    | false =>
      show N H5
      exact ⟨Hd5, G5, acc, ((e2.trans e3).trans e4).trans e5, s5, h5⟩
    | true =>
      refine ⟨⟨Hd3, gup B.f Dl (.lst acc)⟩, ρ4, Hd5, G5, _, ⟨e4.trans e5, r4.mono e5, s5⟩, h5, fun u H6 Hd6 y6 G6 e6 s6 r6 ⟨hz, h6⟩ => ?_⟩
      obtain ⟨ys, hy, ry⟩ := s6.holdF Dl (.lst acc) gup_same
      refine ⟨ys, hy, by rw [ry.length]; exact hz, Hd6, G6, acc ++ [y6], (((e2.trans e3).trans e4).trans e5).trans e6, s6.putF (fun q z => nomatch z) ⟨_, upd_same, ry.app (.cons r6 .nil)⟩, h6⟩
  · have e0 : xs.drop i = [] := List.drop_eq_nil_of_le (by omega)
    rw [e0] at h2
    obtain ⟨ys, hy, ry⟩ := s2.holdF Dl (.lst acc) gup_same
    have hd : Hd2 Dl = none := s2.offF Dl _ gup_same
    have ee : Ex Hd2 (upd Hd2 Dl (.lst ys)) := Ex.new hd
    exact .inl ⟨w2 (by omega), k (.ref Dl) H2 _ (.lst acc) G2 ((e1.trans e2).trans ee) (s2.bare hy hF) (.lst sq_new (ry.mono ee)) h2⟩
theorem pd_lc {elt tg iter : Expr} {ifs : List Expr} {scope : Scope} {own : List (Str × Nat)} {di : DI} {g : DG} {t : DT} {js : List Nat} (hc : X.calm = true) (hN : X.N.Nodup) (hi : PI X tg iter (upI X.K B di)) (ok : BlkOk X.N X.env.scope scope own) (hj : ∀ j ∈ js, j ∈ own.map (·.2))
    (hg : ∀ (B : Bs) (s : Shared) (H : Hp) (C : Addr) (cl : List (Str × Addr)) (fp : List Addr), PG (X.blk s H scope (compEnvC scope cl C X.env) fp) tg (upG X.K B js g)) (ht : ∀ (B : Bs) (s : Shared) (H : Hp) (C : Addr) (cl : List (Str × Addr)) (fp : List Addr), PTs (X.blk s H scope (compEnvC scope cl C X.env) fp) ifs (upT X.K B t))
    (he : ∀ (B : Bs) (s : Shared) (H : Hp) (C : Addr) (cl : List (Str × Addr)) (fp : List Addr), PE (X.blk s H scope (compEnvC scope cl C X.env) fp) elt (upE X.K B de)) (hs : ∀ x, foldedSetIterable iter X.env x = pure x := by intro _; rfl) :
    PE X (.ListComp elt [⟨tg, iter, ifs, 0⟩] scope pos) (upE X.K B (dCmp di g t de (own.map (·.2)))) :=
  pe_imp (pe_lc hc hN hi ok (fun s H C cl fp => pg_ex fun B => hg B s H C cl fp) (fun s H C cl fp => pts_ex fun B => ht B s H C cl fp) (fun s H C cl fp => pe_ex fun B => he B s H C cl fp) hs) (lc_imp hj)
end
end DL
namespace DL
open PySem PySem.Spec PyProof.Rows L2 Evl
variable [TabC]
structure FnG (P : Program) (w : World) (K : PySem.W.Frag) (mg : Str → Option Value) (base : Heap) (k : Nat) (f : Addr) (fd : FuncData) (ps : List Str) (sp : Sp) : Prop where
  len : ∀ vs H Q E, sp vs H Q E → vs.length = ps.length
  run : ∀ (A : Around) (outer : List Env) (s : Shared) (H : Hp) (args : Args) (us : List Value) (vs : List V) (Q : VK) (E : XK), Room k A → A.guards = some [] → Env0 P w K mg base A outer s H → BindsTo s fd args (ps.zip us) → Vals vs us →
    sp vs H Q E → codeAny (model P w) A (.call (.ref f) args) (CR (L2.CX P w) outer P w H s Q E) s
section
variable {P : Program} {w : World} {K : PySem.W.Frag} {mg : Str → Option Value} {base : Heap}
theorem guards_in {A : Around} {env : Env} (h : A.guards = some []) : (A.deeper env).guards = some [] := h
def cdAt (K : PySem.W.Frag) (f : Addr) : Addr := match K.lookup f with
  | some ⟨_, _, .func fd, _⟩ => (match fd.code with
    | .ref c => c
    | _ => 0)
  | _ => 0
theorem cdAt_of {K : PySem.W.Frag} {f : Addr} {x qual : Str} {params : Arguments} {body : List Stmt} {scope : Scope} {oc : Value} {od : Option Addr} {dV kV doc pm cdv ct : Value} {an : Option Addr} {osl : Array (Option Value)}
    (lk : K.lookup f = some ⟨oc, od, .func (PySem.W.fnOf x qual params body scope dV kV doc pm an cdv ct), osl⟩) (hcd : PySem.W.codeIn K cdv qual = true) : cdv = .ref (cdAt K f) := by
  obtain ⟨c, rfl⟩ := He.codeIn_ref hcd
  unfold cdAt
  rw [lk]
theorem fng_of {x qual : Str} {params : Arguments} {body : List Stmt} {scope : Scope} {dvs : List V} {kws : List (Str × V)} {f : Addr} {fd : FuncData} {N ps : List Str} {k : Nat} {sp : Sp} (F : FunD K x qual params body scope dvs kws f fd) (S : FnScope N ps scope)
    (len : ∀ vs H Q E, sp vs H Q E → vs.length = ps.length)
    (hbody : ∀ (cdv : Value), cdv = .ref (cdAt K f) → ∀ (A : Around) (outer : List Env) (s : Shared) (H : Hp) (vs : List V) (Q : VK) (E : XK), Room k (A.deeper (envOfC qual scope s.heap.objs.size f cdv)) → (A.deeper (envOfC qual scope s.heap.objs.size f cdv)).guards = some [] → sp vs H Q E →
      ∃ t, PSs (cxOf (L2.CX P w) P w K mg base N qual scope f cdv A outer s H E) body t ∧ t { nx := fun _ H' => Q .non H', rt := Q } (start N vs) H) : FnG P w K mg base (k + 1) f fd ps sp := by
  obtain ⟨oc, od, dV, kV, doc, pm, an, cdv, ct, osl, rfl, lk, hcd, _, _⟩ := F.ex
  refine ⟨len, fun A outer s H args us vs Q E room hgd e0 hb hv hs => ?_⟩
  have keepB : ∀ b o, base.get? b = some o → s.heap.get? b = some o := fun b o e => (e0.bs b o e).1
  have hK : K.In s.heap := e0.mod.kin.keeps keepB
  refine codeAny_call_function room.depth (hK _ _ lk) rfl S.co S.gen rfl (PySem.W.codeRec_of hK hcd) (hb _ _ _ _ ?_)
  refine wpAny_newFunctionEnv_cells S.kind (fun y hy => ?_) fun env henv s1 hx => ?_
  · obtain ⟨n, u⟩ := y
    rcases S.par n (List.of_mem_zip hy).1 with q | q
    · exact .inl q
    · exact .inr ⟨q, PySem.W.cellsFrom_some _ _ _ (.inl q)⟩
  · subst henv
    obtain ⟨t, ht, hq⟩ := hbody cdv (cdAt_of lk hcd) A outer s H vs Q E (room.deeper _) (guards_in hgd) hs
    have I := inv_start (CX := L2.CX P w) (E := E) (w := w) S room.hd e0 (len _ _ _ _ hs) hv hx
    refine ⟨(e0.mod.nolimit.keeps keepB).keeps hx.toInCall.keep, codeAny_func (wpAny_mono (ht.run [] s1 (start N vs) H _ I hq) (fun fl s2 h2 => ?_) fun _ _ h2 => h2)⟩
    cases fl with
    | next =>
      obtain ⟨σ', H', J, q⟩ := h2
      exact ⟨.non, H', J.os, J.bare, J.base, J.hok, rfl, q⟩
    | ret u =>
      obtain ⟨v, σ', H', J, rv, q⟩ := h2
      exact ⟨v, H', J.os, J.bare, J.base, J.hok, rv, q⟩
    | brk =>
      obtain ⟨_, _, _, q⟩ := h2
      exact q.elim
    | cont =>
      obtain ⟨_, _, _, q⟩ := h2
      exact q.elim
end
abbrev XD := Str → List Str → List D → Gm → Prop
abbrev X0 : XD := fun _ _ _ _ => False
abbrev DSp := List D → Gm → KD → XD → Prop
def KX (K : PySem.W.Frag) (F : Gm) (Hd : Hp) (RX : XD) (E : XK) : Prop := ∀ (C : Str) (d : Addr) H' Hd' ns vs xs G', Ex Hd Hd' → Sim K F Hd' H' G' → H' d = some (.xd (List.zip ns vs)) → ns.length = vs.length → RpL K Hd' vs xs → RX C ns xs G' → E (.ref (He.ga K C)) (some d) H'
def spU (K : PySem.W.Frag) (p : DSp) : Sp := fun vs H Q E => ∃ xs F Hd G R RX, RpL K Hd vs xs ∧ Sim K F Hd H G ∧ p xs G R RX ∧ KE K F Hd R Q ∧ KX K F Hd RX E
theorem KX.none {K : PySem.W.Frag} {F : Gm} {Hd : Hp} {E : XK} : KX K F Hd X0 E := fun _ _ _ _ _ _ _ _ _ _ _ _ _ h => h.elim
theorem KX.mono {K : PySem.W.Frag} {F : Gm} {Hd Hd' : Hp} {RX : XD} {E : XK} (k : KX K F Hd RX E) (e : Ex Hd Hd') : KX K F Hd' RX E := fun C d H' Hd2 ns vs xs G' e2 => k C d H' Hd2 ns vs xs G' (e.trans e2)
structure Kn (P : Program) (w : World) (K : PySem.W.Frag) (mg : Str → Option Value) (base : Heap) (k : Nat) (x : Str) (st : Stmt) (ps : List Str) (p : DSp) : Prop where
  g : mg x = some (.ref (He.ga K x))
  fn : ∃ fd, FunD K x x (defArgs st) (defBody st) (defScope st) [] [] (He.ga K x) fd ∧ FnG P w K mg base k (He.ga K x) fd ps (spU K p)
section
variable {P : Program} {w : World} {K : PySem.W.Frag} {mg : Str → Option Value} {base : Heap}
theorem kn_of {x : Str} {st : Stmt} {N ps : List Str} {k : Nat} {p : DSp} (g : mg x = some (.ref (He.ga K x))) (F : ∃ fd, FunD K x x (defArgs st) (defBody st) (defScope st) [] [] (He.ga K x) fd) (S : FnScope N ps (defScope st)) (len : ∀ xs G R RX, p xs G R RX → xs.length = ps.length)
    (hbody : ∀ (cdv : Value), cdv = .ref (cdAt K (He.ga K x)) → ∀ (A : Around) (outer : List Env) (s : Shared) (H : Hp) (E : XK) (B : Bs) (RX : XD), Room k (A.deeper (envOfC x (defScope st) s.heap.objs.size (He.ga K x) cdv)) → (A.deeper (envOfC x (defScope st) s.heap.objs.size (He.ga K x) cdv)).guards = some [] → KX K B.f B.b RX E →
      ∃ t : DS, PSs (cxOf (L2.CX P w) P w K mg base N x (defScope st) (He.ga K x) cdv A outer s H E) (defBody st) (upS K B t) ∧ ∀ xs G R, p xs G R RX → t { nx := fun _ G => R .non G, rt := R } (xs.map some ++ List.replicate (N.length - xs.length) none) G) :
    Kn P w K mg base (k + 1) x st ps p := by
  obtain ⟨fd, F⟩ := F
  refine ⟨g, fd, F, fng_of F S (fun vs H Q E h => ?_) fun cdv hcv A outer s H vs Q E hr hg h => ?_⟩
  · obtain ⟨xs, _, _, G, R, RX, r, _, hp, _⟩ := h
    rw [r.length]
    exact len xs G R RX hp
  · obtain ⟨xs, F, Hd, G, R, RX, r, sm, hp, ke, kx⟩ := h
    obtain ⟨t, ht, h2⟩ := hbody cdv hcv A outer s H E ⟨Hd, F⟩ RX hr hg kx
    refine ⟨_, ht, _, Hd, G, _, ⟨Ex.refl _, RpE.start r, sm⟩, h2 xs G R hp, ?_⟩
    exact ⟨fun σ' H' Hd' ρ' G' e _ s h => ke .non H' Hd' .non G' e s .non h, ke, fun _ _ _ _ _ _ _ _ h => h.elim, fun _ _ _ _ _ _ _ _ h => h.elim⟩
end
section
variable {X : Cx} {B : Bs} {pos p : Pos} {e : Expr} {es : List Expr} {dA : DA}
theorem run_fng {k : Nat} {f : Addr} {fd : FuncData} {ps : List Str} {sp : Sp} {E : XK} {pins : List (Addr × Obj)} {σ : L2.St} {H : Hp} {s : Shared} {Q : VK} {args : Args} {us : List Value} {vs : List V} (F : FnG X.prog X.w X.K X.mg X.base k f fd ps sp) (hr : Room k X.A) (hgd : X.A.guards = some [])
    (hx : Passes (L2.CX X.prog X.w) X E) (I : Inv X pins σ H s) (hb : BindsTo s fd args (ps.zip us)) (r : Vals vs us) (h : sp vs H Q E) : codeAny (model X.prog X.w) X.A (.call (.ref f) args) (fun r s' => match r with | .ok (.ret u) => EP X pins σ Q u s' | .ok _ => False | .error e => X.xe e s') s := by
  refine codeAny_mono (F.run X.A X.stack s H args us vs Q E hr hgd I.env0 hb r h) fun r s' hq => ?_
  cases r with
  | error e => exact hx pins σ H s e s' I hq
  | ok fl =>
    cases fl with
    | ret u => exact I.after hq
    | next => exact hq.elim
    | brk => exact hq.elim
    | cont => exact hq.elim
def dCall (q : DSp) (RX : XD) (dA : DA) : DE := fun ρ G R => dA ρ G fun xs G1 => q xs G1 R RX
theorem call_imp {K : PySem.W.Frag} {q : DSp} {RX : XD} {E : XK} (hx : ∀ Hd, Ex B.b Hd → KX K B.f Hd RX E) : ∀ σ H Q, upE K B (dCall q RX dA) σ H Q → tCall (spU K q) [] E (upA K B dA) σ H Q := fun σ H Q ⟨ρ, Hd, G, R, at_, h, k⟩ =>
  ⟨ρ, Hd, G, _, at_, h, fun vs H1 Hd1 xs G1 e1 s1 r1 h1 => ⟨xs, B.f, Hd1, G1, R, RX, by rw [List.append_nil]; exact r1, s1, h1, k.mono e1, hx Hd1 (at_.b.trans e1)⟩⟩
theorem pe_callG {k : Nat} {f : Addr} {fd : FuncData} {ps : List Str} {sp : Sp} {E : XK} {x : Str} {t : TA} (F : FnG X.prog X.w X.K X.mg X.base k f fd ps sp) (hr : Room k X.A) (hgd : X.A.guards = some []) (hg : Gl X x) (hm : X.mg x = some (.ref f)) (hk : PySem.W.keepIn X.K (.ref f) = true) (hb : Binds X.K fd ps [])
    (hx : Passes (L2.CX X.prog X.w) X E) (ha : PA X (e :: es) t) (hdb : (x == ("__debug__" : Str)) = false := by decide) (he : starEach (e :: es) X.env = (false, eval e X.env) :: starEach es X.env := by rfl) (hpl : (backTo pos (starEach es X.env)).any (·.1) = false := by rfl) :
    PE X (.Call (.Name x p) (e :: es) [] pos) (tCall sp [] E t) := ⟨fun pins s σ H Q I h => by
  refine wpAny_Call_Name_kw (ld_glob I hg hm (PySem.W.callWith_K (h₀ := X.base) I.ok.mod.kin hk (thn (ha.run pos pins s σ H _ I h) fun us s1 hh => ?_) he hpl) hdb)
  obtain ⟨vs, H1, I1, r, q⟩ := hh
  rw [List.append_nil] at q
  have hl : us.length = ps.length := by rw [← r.length]; exact F.len _ _ _ _ q
  have hb1 := hb s1 us I1.kIn (by rw [List.append_nil]; exact hl)
  rw [List.append_nil] at hb1
  refine ⟨I1.kIn, wpAny_call (codeAny_mono (run_fng F hr hgd hx I1 hb1 r q) fun r s2 hq => ?_)⟩
  cases r with
  | error e => exact hq
  | ok fl => cases fl <;> first | exact hq | exact hq.elim⟩
theorem pd_call {k : Nat} {x : Str} {st : Stmt} {ps : List Str} {q : DSp} {RX : XD} {E : XK} (h : Kn X.prog X.w X.K X.mg X.base k x st ps q) (hr : Room k X.A) (hgd : X.A.guards = some []) (hg : Gl X x) (hx : Passes (L2.CX X.prog X.w) X E) (kx : ∀ Hd, Ex B.b Hd → KX X.K B.f Hd RX E)
    (hb : ∀ (kV doc pm : Value) (an : Option Addr) (cdv ct : Value) (us : List Value), us.length = ps.length → bindArgs (PySem.W.fnOf x x (defArgs st) (defBody st) (defScope st) .none kV doc pm an cdv ct) ⟨us, []⟩ = pure (ps.zip us))
    (ha : PA X (e :: es) (upA X.K B dA)) (hdb : (x == ("__debug__" : Str)) = false := by decide) (he : starEach (e :: es) X.env = (false, eval e X.env) :: starEach es X.env := by rfl) (hpl : (backTo pos (starEach es X.env)).any (·.1) = false := by rfl) :
    PE X (.Call (.Name x p) (e :: es) [] pos) (upE X.K B (dCall q RX dA)) := by
  obtain ⟨fd, F, G⟩ := h.fn
  exact pe_imp (pe_callG G hr hgd hg h.g F.kp (F.bindsN hb) hx ha hdb he hpl) (call_imp kx)
theorem pkd_cons {nm : Option Str} {kpos : Pos} {kws : List Keyword} {de : DE} {dr : DA} (ha : PE X e (upE X.K B de)) (hr : PK X kws (upA X.K B dr)) (hk : ∀ {t : TA}, PK X kws t → PK X (⟨nm, e, kpos⟩ :: kws) (tCons (upE X.K B de) t)) : PK X (⟨nm, e, kpos⟩ :: kws) (upA X.K B (dCons de dr)) :=
  ⟨fun pos pins s σ H Q I ⟨ρ, Hd, G, R, at_, h, k⟩ => (hk hr).run pos pins s σ H Q I
    ⟨ρ, Hd, G, _, at_, h, fun v H1 Hd1 x G1 e1 s1 r1 h1 => ⟨ρ, Hd1, G1, _, at_.step e1 s1, h1, fun vs H2 Hd2 xs G2 e2 s2 r2 h2 => k _ H2 Hd2 _ G2 (e1.trans e2) s2 (.cons (r1.mono e2) r2) h2⟩⟩⟩
theorem pkd_nil : PK X [] (upA X.K B dNil) := ⟨fun pos pins s σ H Q I ⟨ρ, Hd, G, R, at_, h, k⟩ => pk_nil.run pos pins s σ H Q I (k [] H Hd [] G (Ex.refl _) at_.s .nil h)⟩
structure Ord where
  go : {α : Type} → List α → List α
  rel : ∀ {α β : Type} (R : α → β → Prop) (xs : List α) (ys : List β), Paired R xs ys → Paired R (go xs) (go ys)
def ordOf (pm : List Nat) : Ord where
  go := fun l => if l.length = pm.length then pm.filterMap (fun i => l[i]?) else l
  rel := fun {α β} R xs ys h => by
    have hl : xs.length = ys.length := Paired.length h
    have at_ : ∀ {xs : List α} {ys : List β}, Paired R xs ys → ∀ i : Nat, (xs[i]? = none ∧ ys[i]? = none) ∨ ∃ x y, xs[i]? = some x ∧ ys[i]? = some y ∧ R x y := fun {xs ys} h => by
      induction h with
      | nil => exact fun i => .inl ⟨rfl, rfl⟩
      | cons a _ ih => exact fun i => match i with
        | 0 => .inr ⟨_, _, rfl, rfl, a⟩
        | i + 1 => ih i
    have all : ∀ l : List Nat, Paired R (l.filterMap fun i => xs[i]?) (l.filterMap fun i => ys[i]?) := fun l => by
      induction l with
      | nil => exact .nil
      | cons i l ih =>
        rcases at_ h i with ⟨e1, e2⟩ | ⟨x, y, e1, e2, r⟩
        · rw [List.filterMap_cons_none e1, List.filterMap_cons_none e2]
          exact ih
        · rw [List.filterMap_cons_some e1, List.filterMap_cons_some e2]
          exact .cons r ih
    by_cases z : xs.length = pm.length
    · rw [if_pos z, if_pos (by rw [← hl]; exact z)]
      exact all pm
    · rw [if_neg z, if_neg (by rw [← hl]; exact z)]
      exact h
theorem ordOf_len {pm : List Nat} {n : Nat} (hn : n = pm.length) {α : Type} (l : List α) (h : ((ordOf pm).go l).length = n) : l.length = n := by
  by_cases z : l.length = pm.length
  · rw [z, hn]
  · have e : (ordOf pm).go l = l := if_neg z
    rw [e] at h
    exact h
theorem rpl_paired {K : PySem.W.Frag} {H : Hp} : ∀ {vs : List V} {ds : List D}, RpL K H vs ds → Paired (Rp K H) vs ds
  | _, _, .nil => .nil
  | _, _, .cons a b => .cons a (rpl_paired b)
theorem paired_rpl {K : PySem.W.Frag} {H : Hp} : ∀ {vs : List V} {ds : List D}, Paired (Rp K H) vs ds → RpL K H vs ds
  | _, _, .nil => .nil
  | _, _, .cons a b => .cons a (paired_rpl b)
def dCallK (q : DSp) (o : Ord) (RX : XD) (dA : DA) : DE := fun ρ G R => dA ρ G fun xs G1 => q (o.go xs) G1 R RX
theorem pd_callK {k : Nat} {x : Str} {st : Stmt} {ps ks : List Str} {q : DSp} {RX : XD} {E : XK} {kws : List Keyword} (o : Ord) (h : Kn X.prog X.w X.K X.mg X.base k x st ps q) (hr : Room k X.A) (hgd : X.A.guards = some []) (hg : Gl X x) (hx : Passes (L2.CX X.prog X.w) X E) (kx : ∀ Hd, Ex B.b Hd → KX X.K B.f Hd RX E)
    (hb : ∀ (kV doc pm : Value) (an : Option Addr) (cdv ct : Value) (us : List Value), us.length = ps.length → bindArgs (PySem.W.fnOf x x (defArgs st) (defBody st) (defScope st) .none kV doc pm an cdv ct) ⟨[], ks.zip us⟩ = pure (ps.zip (o.go us)))
    (hn : ks.length = ps.length) (ho : ∀ {α : Type} (l : List α), (o.go l).length = ps.length → l.length = ps.length)
    (hkw : PK X kws (upA X.K B dA)) (hall : (backToKw pos (keywordEach kws X.env)).all (·.1.isSome) = true := by rfl) (hks : (backToKw pos (keywordEach kws X.env)).filterMap (·.1) = ks := by rfl)
    (hdb : (x == ("__debug__" : Str)) = false := by decide) (hpl : ((backTo pos (starEach [] X.env)).any (·.1) || (backToKw pos (keywordEach kws X.env)).any (·.1.isNone)) = false := by rfl) :
    PE X (.Call (.Name x p) [] kws pos) (upE X.K B (dCallK q o RX dA)) := by
  obtain ⟨fd, F, G⟩ := h.fn
  refine ⟨fun pins s σ H Q I hw => ?_⟩
  refine wpAny_Call_Name_kw (ld_glob I hg h.g (PySem.W.callWith_KW0 (h₀ := X.base) I.ok.mod.kin F.kp hall (thn (hkw.run pos pins s σ H (fun vs H1 => spU X.K q (o.go vs) H1 Q E) I ?_) fun us s1 hh => ?_) hpl) hdb)
  · obtain ⟨ρ, Hd, G0, R, at_, h0, k0⟩ := hw
    exact ⟨ρ, Hd, G0, _, at_, h0, fun vs H1 Hd1 xs G1 e1 s1 r1 h1 => ⟨o.go xs, B.f, Hd1, G1, R, RX, paired_rpl (o.rel _ _ _ (rpl_paired r1)), s1, h1, k0.mono e1, kx Hd1 (at_.b.trans e1)⟩⟩
  · obtain ⟨vs, H1, I1, r, q1⟩ := hh
    have r2 : Vals (o.go vs) (o.go us) := o.rel _ _ _ r
    have hl : (o.go us).length = ps.length := by rw [← r2.length]; exact G.len _ _ _ _ q1
    have hus := ho us hl
    refine ⟨I1.kIn, ?_⟩
    rw [hks, List.append_nil]
    have hb1 : BindsTo s1 fd ⟨[], ks.zip us⟩ (ps.zip (o.go us)) := by
      obtain ⟨oc, od, dV, kV, doc, pm, an, cdv, ct, osl, rfl, lk, hcd, hD, hK⟩ := F.ex
      rcases hD with ⟨_, rfl⟩ | ⟨z, _⟩
      · exact .of_eq (hb kV doc pm an cdv ct us hus)
      · exact absurd rfl z
    refine wpAny_call (codeAny_mono (run_fng G hr hgd hx I1 hb1 r2 q1) fun r s2 hq => ?_)
    cases r with
    | error e => exact hq
    | ok fl => cases fl <;> first | exact hq | exact hq.elim
theorem pass0 : Passes (L2.CX X.prog X.w) X E0 := passL
theorem kx0 {K : PySem.W.Frag} : ∀ Hd, Ex B.b Hd → KX K B.f Hd X0 E0 := fun _ _ => .none
theorem pd_repr {da : DE} {x : Str} (hx : x = "repr") (hgd : X.A.guards = some []) (hu : X.A.units + 64 < cLine) (hg : Gl X x) (hm : X.mg x = none) (ha : PE X e (upE X.K B da)) (he : starEach (e :: []) X.env = (false, eval e X.env) :: starEach [] X.env := by rfl) (hpl : (backTo pos (starEach [] X.env)).any (·.1) = false := by rfl) :
    PE X (.Call (.Name x p) (e :: []) [] pos) (upE X.K B (dCal fRepr (dCons da dNil))) := by
  subst hx
  exact pd_callB (call_repr hgd hu) cd_repr hg hm (by decide +kernel) (pda_cons ha pda_nil he) (by decide) (by decide) he hpl
end
end DL
namespace DL
open PySem PySem.Spec PyProof.Rows L2 Evl
variable [TabC]
def scrH (K : PySem.W.Frag) (a : Addr) (o : Obj) (xs : List V) : Hp := fun b => if b = a ∧ K.lookup a = none then some (.frz o (.lst xs)) else none
section
variable {K : PySem.W.Frag} {a : Addr} {o : Obj} {xs : List V}
theorem scr_at (h : K.lookup a = none) : scrH K a o xs a = some (.frz o (.lst xs)) := if_pos ⟨rfl, h⟩
theorem scr_some {b : Addr} {u : HO} (h : scrH K a o xs b = some u) : b = a ∧ K.lookup a = none ∧ u = .frz o (.lst xs) := by
  unfold scrH at h
  by_cases z : b = a ∧ K.lookup a = none
  · rw [if_pos z] at h
    cases h
    exact ⟨z.1, z.2, rfl⟩
  · rw [if_neg z] at h
    cases h
theorem scr_ne {b : Addr} (h : b ≠ a) : scrH K a o xs b = none := if_neg fun z => h z.1
end
def sttH (K : PySem.W.Frag) (ts : List Addr) (a : Addr) (o : Obj) (xs : List V) : Hp := fun b => if b ∈ ts then some (.tbl #[]) else scrH K a o xs b
section
variable {K : PySem.W.Frag} {ts : List Addr} {a : Addr} {o : Obj} {xs : List V}
theorem stt_in {b : Addr} (h : b ∈ ts) : sttH K ts a o xs b = some (.tbl #[]) := if_pos h
theorem stt_out {b : Addr} (h : b ∉ ts) : sttH K ts a o xs b = scrH K a o xs b := if_neg h
end
abbrev tabO (us : Array Value) : Obj := { cls := .none, data := .fields us }
def BltMod (mg : Str → Option Value) (h : Heap) : Prop := ∃ (u : Addr) (ou : Obj), mg "__builtins__" = some (.ref u) ∧ u ≠ builtinsNs ∧ h.get? u = some ou ∧ ou.cls = .type "module" ∧ ou.dict = some builtinsNs ∧ ou.data = .plain
theorem law_callG {P : Program} {w : World} {K : PySem.W.Frag} {mg mb : Str → Option Value} {k : Nat} {fa a : Addr} {fd : FuncData} {x : Str} {sp : Sp} {s : Shared} {vs : List Value} {ns : List Int} {ct : List (Addr × Addr)}
    (hK : K.In s.heap) (hns : s.heap.Ns mainGlobals mg) (hb : s.heap.Ns builtinsNs mb) (hbb : ∀ x : Str, x ≠ "__name__" → mb x = bootBuiltins x) (hlim : s.heap.NoLimit) (hg : s.gens = #[])
    (tE : ∀ q ∈ ct, s.heap.get? q.2 = some (tabO #[])) (tK : ∀ q ∈ ct, K.lookup q.2 = none) (tC : ∀ q ∈ ct, PySem.W.CodeHd s.heap q.1 q.2) (hbm : BltMod mg s.heap)
    (ha : s.heap.get? a = some { cls := .type "list", data := .seq vs.toArray }) (hi : IntsAre vs ns) (hl : ns.length ≤ sizeLine) (hr : Room k callerA)
    (F : ∀ base : Heap, K.In base → base.Ns mainGlobals mg → (∀ q ∈ ct, LamX.TabB base mg q.1 q.2) → FnG P w K mg base k fa fd [x] sp) (hbind : ∀ (s : Shared) (u : Value), BindsTo s fd ⟨[u], []⟩ [(x, u)])
    (hsp : ∀ Hd H : Hp, Ex Hd H → (∀ q ∈ ct, H q.2 = some (.tbl #[]) ∧ Hd q.2 = none) → SqL K Hd a (ns.map V.int) → sp [.ref a] H (fun v _ => v = .bl true) fun _ _ _ => False) :
    codeAny (model P w) callerA (.call (.ref fa) ⟨[.ref a], []⟩) (fun r s' => r = .ok (.ret (.bool true)) ∧ OldK s.heap s'.heap ∧ s'.os = s.os ∧ AllBare s'.gens) s := by
  have rv := vals_ints hi
  generalize eo : ({ cls := .type "list", data := .seq vs.toArray } : Obj) = o at ha
  generalize eT : ct.map (·.2) = ts
  have inT : ∀ {q : Addr × Addr}, q ∈ ct → q.2 ∈ ts := fun hq => by
    rw [← eT]
    exact List.mem_map_of_mem hq
  have ofT : ∀ {b : Addr}, b ∈ ts → ∃ q ∈ ct, q.2 = b := fun hb => by
    rw [← eT] at hb
    exact List.mem_map.mp hb
  have aT : a ∉ ts := fun z => by
    obtain ⟨q, hq, e⟩ := ofT z
    have e2 := tE q hq
    rw [e, ha, ← eo] at e2
    cases e2
  generalize eHd : scrH K a o (ns.map V.int) = Hd
  generalize eH : sttH K ts a o (ns.map V.int) = H
  have hin : ∀ {b : Addr}, b ∈ ts → H b = some (.tbl #[]) := fun z => by
    rw [← eH]
    exact stt_in z
  have hout : ∀ {b : Addr}, b ∉ ts → H b = Hd b := fun z => by
    rw [← eH, ← eHd]
    exact stt_out z
  have dT : ∀ {b : Addr}, b ∈ ts → Hd b = none := fun {b} z => by
    rw [← eHd]
    exact scr_ne fun e => aT (by rw [← e]; exact z)
  have exd : Ex Hd H := fun b u e => by
    by_cases z : b ∈ ts
    · rw [dT z] at e
      cases e
    · rw [hout z]
      exact e
  have rd : SqL K Hd a (ns.map V.int) := by
    subst eHd
    cases q : K.lookup a with
    | none => exact .inl (.inr ⟨o, scr_at q⟩)
    | some o2 =>
      have e2 : o2 = o := Option.some.inj ((hK a o2 q).symm.trans ha)
      subst e2 eo
      exact .inr ⟨_, vs.toArray, _, q, rfl, rfl, rfl, by rw [List.size_toArray, hi.length]; exact hl, by simpa using rv⟩
  have ofD : ∀ {b : Addr} {u : HO}, Hd b = some u → b = a ∧ K.lookup a = none ∧ u = .frz o (.lst (ns.map V.int)) := fun e => by
    rw [← eHd] at e
    exact scr_some e
  have held : HOk P w H s.heap := fun b u q => by
    by_cases z : b ∈ ts
    · rw [hin z] at q
      cases q
      obtain ⟨r, hr, e⟩ := ofT z
      rw [← e]
      exact tE r hr
    · rw [hout z] at q
      obtain ⟨rfl, _, rfl⟩ := ofD q
      subst eo
      exact ⟨ha, by rw [List.length_map]; exact hl, vs, _, rv, ha⟩
  -- what is neither a list nor an empty record is untracked
  have freeO : ∀ {b : Addr} {ob : Obj}, s.heap.get? b = some ob → (∀ us m, ob.data ≠ .seq us m) → ob.data ≠ .fields #[] → H b = none := fun {b ob} e n1 n2 => by
    by_cases z : b ∈ ts
    · obtain ⟨r, hr, e2⟩ := ofT z
      have e3 := tE r hr
      rw [e2, e] at e3
      cases e3
      exact (n2 rfl).elim
    · rw [hout z]
      cases q : Hd b with
      | none => rfl
      | some u =>
        obtain ⟨rfl, _, _⟩ := ofD q
        rw [ha, ← eo] at e
        cases e
        exact (n1 _ _ rfl).elim
  have freeD : ∀ {b : Addr} {ob : Obj} {es : Array DictEntry} {ep : Nat}, s.heap.get? b = some ob → ob.data = .dict es ep → H b = none := fun {b ob es ep} e d =>
    freeO e (fun us m z => by rw [d] at z; cases z) (fun z => by rw [d] at z; cases z)
  have toB : ∀ {b : Addr} {m : Str → Option Value}, s.heap.Ns b m → (hidT s.heap H).Ns b m := fun {b m} ⟨ob, es, ep, e, d, r⟩ => ⟨ob, es, ep, hidT_get e (freeD e d), d, r⟩
  have kB : K.In (hidT s.heap H) := fun b ob e => hidT_get (hK b ob e) (by
    by_cases z : b ∈ ts
    · obtain ⟨r, hr, e2⟩ := ofT z
      rw [← e2, tK r hr] at e
      cases e
    · rw [hout z]
      cases q : Hd b with
      | none => rfl
      | some u =>
        obtain ⟨rfl, q2, _⟩ := ofD q
        rw [q2] at e
        cases e)
  have md : Mod K mg (hidT s.heap H) := ⟨kB, toB hns, ⟨mb, toB hb, hbb⟩, let ⟨mc, h1, h2⟩ := hlim; ⟨mc, toB h1, h2⟩⟩
  have tB : ∀ q ∈ ct, LamX.TabB (hidT s.heap H) mg q.1 q.2 := fun q hq => by
    have isP := tE q hq
    obtain ⟨gO, gE, gP, gG, gD, gR⟩ := hns
    obtain ⟨u, ou, m1, m2, m3, m4, m5, m6⟩ := hbm
    refine ⟨?_, ⟨u, ou, m1, m2, fun z => ?_, fun z => ?_, hidT_get m3 (freeO m3 (fun us m z => ?_) fun z => ?_), m4, m5, m6⟩, fun z => ?_⟩
    · obtain ⟨co, cf, c3, c4, c5, c6, c7, c8, c9, k1, k2, k3, k4, k5, k6, k7, k8, k9, k10⟩ := tC q hq
      refine ⟨co, cf, c3, c4, c5, c6, c7, c8, c9, hidT_get k1 (freeO k1 (fun us m z => ?_) fun z => ?_), k2, k3, k4, k5, k6, k7, k8, k9, k10⟩
      · rw [k3] at z
        cases z
      · rw [k3] at z
        cases z
        simp at k4
    · rw [z, gG] at m3
      cases m3
      rw [gD] at m6
      cases m6
    · rw [z, isP] at m3
      cases m3
      cases m6
    · rw [m6] at z
      cases z
    · rw [m6] at z
      cases z
    · rw [z, isP] at gG
      cases gG
      cases gD
  have e0 : Env0 P w K mg (hidT s.heap H) callerA [] s H := ⟨rfl, md, fun b o e => of_hidT e, Nat.le_of_eq (hidT_size _ _), trivial, fun b hb => (nomatch (show b ∈ ([] : List Addr) from hb)), held, .of_eq hg⟩
  refine codeAny_mono ((F _ kB (toB hns) tB).run callerA [] s H ⟨[.ref a], []⟩ [.ref a] [.ref a] _ _ hr rfl e0 (hbind s (.ref a)) (.cons rfl .nil) (hsp Hd H exd (fun q hq => ⟨hin (inT hq), dT (inT hq)⟩) rd)) fun r s' hq => ?_
  cases r with
  | error e =>
    obtain ⟨_, _, _, _, _, _, _, _, _, _, _, _, z⟩ := hq
    exact z.elim
  | ok fl =>
    cases fl with
    | next => exact hq.elim
    | brk => exact hq.elim
    | cont => exact hq.elim
    | ret u =>
      obtain ⟨v, H', os, bare, un, hok', r', q⟩ := hq
      have q2 : v = .bl true := q
      subst q2
      cases (show u = Value.bool true from r')
      have old : ∀ b ob, b ∉ ts → s.heap.get? b = some ob → s'.heap.get? b = some ob := fun b ob nb e => by
        cases z : Hd b with
        | none => exact un.keep b ob e (by rw [hout nb]; exact z) (by intro y; exact nomatch (show b ∈ ([] : List Addr) from y)) (by simp)
        | some u =>
          obtain ⟨rfl, _, rfl⟩ := ofD z
          have zH : H b = some (.frz o (.lst (ns.map V.int))) := by
            rw [hout nb]
            exact z
          have e1 := (held b _ zH).1
          have e2 := (hok' b _ (un.frzs b o _ zH)).1
          have e3 := e.symm.trans e1
          cases e3
          exact e2
      have more : ∀ q ∈ ct, ∃ us : Array Value, s'.heap.get? q.2 = some (tabO us) := fun q hq => by
        obtain ⟨us, z⟩ := un.tbls q.2 #[] (hin (inT hq))
        exact ⟨_, hok' q.2 _ z⟩
      refine ⟨rfl, ⟨fun b ob e => ?_, fun b ob e => ?_⟩, os, bare⟩
      · by_cases z : b ∈ ts
        · obtain ⟨r, hr, e2⟩ := ofT z
          obtain ⟨us, hm⟩ := more r hr
          rw [← e2] at e ⊢
          rw [tE r hr] at e
          cases e
          exact .inr (.inl ⟨((tC r hr).tab (tE r hr)).isCodeTable, rfl, #[], us, rfl, by rw [Array.empty_append]; exact hm⟩)
        · exact .inl (old b ob z e)
      · by_cases z : b ∈ ts
        · obtain ⟨r, hr, e2⟩ := ofT z
          obtain ⟨us, hm⟩ := more r hr
          exact ⟨_, by rw [← e2]; exact hm⟩
        · exact ⟨ob, old b ob z e⟩
theorem walk_lawT {l : PySem.W.OpenLaw} {n k : Nat} {q : Program} {loose : List Str} {XP : (Str → Option Value) → Heap → Prop} {YP : World → Heap → Prop} {d : DefRec} {x : Str}
    (hn : l.most = some n) (hn2 : n ≤ sizeLine) (hdf : d.params.defaults = []) (hr : Room k callerA)
    (F : ∀ (w : World) (mg : Str → Option Value) (fa : Addr) (h : Heap), YP w h → h.Ns mainGlobals mg → mg d.name = some (.ref fa) →
      ∃ (K : PySem.W.Frag) (fd : FuncData) (sp : Sp) (ct : List (Addr × Addr)), K.In h ∧ (∀ q ∈ ct, h.get? q.2 = some (tabO #[])) ∧ (∀ q ∈ ct, K.lookup q.2 = none) ∧ (∀ q ∈ ct, PySem.W.CodeHd h q.1 q.2) ∧ (∀ (s : Shared) (u : Value), BindsTo s fd ⟨[u], []⟩ [(x, u)]) ∧
        (∀ (Hd H : Hp) (a : Addr) (ns : List Int), ns.length ≤ n → Ex Hd H → (∀ q ∈ ct, H q.2 = some (.tbl #[]) ∧ Hd q.2 = none) → SqL K Hd a (ns.map V.int) → sp [.ref a] H (fun v _ => v = .bl true) fun _ _ _ => False) ∧
        ∀ base : Heap, K.In base → base.Ns mainGlobals mg → (∀ q ∈ ct, LamX.TabB base mg q.1 q.2) → FnG l.prog w K mg base k fa fd [x] sp) :
    PySem.W.WalkO q loose XP YP l.row.toRowW d [] (fun f vs => PySem.call f vs) := by
  refine Att.attach_call hn hdf fun w s0 s1 mg mb fa o pm cd doc a vs ns G Y ho hd hcd hmg hobj hints hlen hg => ?_
  obtain ⟨K, fd, sp, ct, KX, tE, tK, tC, hb, hsp, hF⟩ := F w mg fa _ Y G.T.g hmg
  exact law_callG KX G.T.g G.T.b G.T.builtins G.T.nolimit hg tE tK tC G.T.bmain hobj hints (Nat.le_trans hlen hn2) hr hF hb fun Hd H e hT hS => hsp Hd H a ns hlen e hT hS
theorem rp_script {K : PySem.W.Frag} {H : Hp} {a : Addr} {ns : List Int} (h : SqL K H a (ns.map V.int)) : RpL K H [.ref a] [.lst (ns.map D.int)] := by
  refine .cons (.lst h ?_) .nil
  induction ns with
  | nil => exact .nil
  | cons n ns ih => exact .cons (.int n) (RpL_ints ns)
where RpL_ints : ∀ ns : List Int, RpL K H (ns.map V.int) (ns.map D.int)
  | [] => .nil
  | n :: ns => .cons (.int n) (RpL_ints ns)
def G0 : Gm := fun _ => none
theorem g0 {a : Addr} {m : Mt} (h : G0 a = some m) : False := nomatch (show (none : Option Mt) = some m from h)
def F0 (K : PySem.W.Frag) : Gm := fun a => ((tabT K).lookup a).map Mt.tab
def TabOk (K : PySem.W.Frag) : Prop := ∀ p ∈ tabT K, ∀ q ∈ tabT K, p.1 = q.1 → p.2 = q.2
theorem lookup_in {α : Type} {a : Addr} : ∀ {l : List (Addr × α)} {x : α}, l.lookup a = some x → (a, x) ∈ l
  | (b, y) :: l, x, h => by
    rw [List.lookup_cons] at h
    split at h
    · rename_i e
      cases h
      rw [beq_iff_eq.mp e]
      exact List.mem_cons_self
    · exact List.mem_cons_of_mem _ (lookup_in h)
theorem lookup_of {α : Type} {a : Addr} {x : α} : ∀ {l : List (Addr × α)}, (a, x) ∈ l → ∃ y, l.lookup a = some y
  | (b, y) :: l, h => by
    rw [List.lookup_cons]
    split
    · exact ⟨_, rfl⟩
    · rename_i e
      rcases List.mem_cons.mp h with z | z
      · cases z
        simp at e
      · exact lookup_of z
theorem sim_start {K : PySem.W.Frag} {Hd H : Hp} (h : TabOk K) (e : Ex Hd H) (ht : ∀ p ∈ tabT K, H p.1 = some (.tbl #[]) ∧ Hd p.1 = none) : Sim K (F0 K) Hd H G0 := by
  have key : ∀ a m, F0 K a = some m → ∃ q, m = .tab q ∧ (a, q) ∈ tabT K := fun a m z => by
    unfold F0 at z
    cases y : (tabT K).lookup a with
    | none =>
      rw [y] at z
      cases z
    | some q =>
      rw [y] at z
      cases z
      exact ⟨q, rfl, lookup_in y⟩
  refine { sub := e, off := fun _ _ h => (g0 h).elim, hold := fun _ _ h => (g0 h).elim, offF := fun a m z => ?_, holdF := fun a m z => ?_, apart := fun _ _ h => rfl, tabs := fun p hp => ?_ }
  · obtain ⟨q, _, hq⟩ := key a m z
    exact (ht _ hq).2
  · obtain ⟨q, rfl, hq⟩ := key a m z
    refine ⟨#[], (ht _ hq).1, True.intro, fun pos cv y => ?_⟩
    have y2 : codeAmong pos [] = some cv := y
    unfold codeAmong at y2
    cases y2
  · obtain ⟨q, hq⟩ := lookup_of (x := p.2) (a := p.1) hp
    show ((tabT K).lookup p.1).map Mt.tab = _
    have e3 : q = p.2 := h (p.1, q) (lookup_in hq) p hp rfl
    rw [hq, e3]
    rfl
def lawSp : DSp := fun xs G R _ => ∃ ns : List Int, xs = [.lst (ns.map D.int)] ∧ ns.length ≤ 63 ∧ (∀ a, G a = none) ∧ ∀ G', R (.bl true) G'
theorem law_sp {K : PySem.W.Frag} {Hd H : Hp} {a : Addr} {ns : List Int} (hl : ns.length ≤ 63) (ok : TabOk K) (e : Ex Hd H) (ht : ∀ p ∈ tabT K, H p.1 = some (.tbl #[]) ∧ Hd p.1 = none) (h : SqL K Hd a (ns.map V.int)) : spU K lawSp [.ref a] H (fun v _ => v = .bl true) fun _ _ _ => False :=
  ⟨_, F0 K, Hd, G0, fun d _ => d = .bl true, X0, rp_script h, sim_start ok e ht, ⟨ns, rfl, hl, fun _ => rfl, fun _ => rfl⟩, fun v H' Hd' x G' _ _ r e => by
    subst e
    cases r
    rfl, .none⟩
end DL
namespace DL
open PySem PySem.Spec PyProof.Rows L2 Evl
variable [TabC]
def isIntD : D → Bool
  | .int _ => true
  | _ => false
def isSeqD : D → Bool
  | .tup _ => true
  | .lst _ => true
  | _ => false
mutual
/-- data of built-in kinds, all the way in -/
def D.kn : D → Bool
  | .non => true
  | .bl _ => true
  | .int _ => true
  | .str _ => true
  | .tup xs => D.knL xs
  | .lst xs => D.knL xs
  | .dct _ _ => true
  | .ty _ => false
  | .ref _ => false
  | .ins _ _ _ => false
  | .exc _ _ _ => false
  | .fnc _ => false
  | .rng _ _ => false
def D.knL : List D → Bool
  | [] => true
  | x :: xs => D.kn x && D.knL xs
end
def bndD : D → Option (Option Int)
  | .non => some none
  | .int i => some (some i)
  | _ => none
def leO (l : Option Int) (i : Int) : Bool := match l with
  | none => true
  | some a => decide (a ≤ i)
def geO (m : Option Int) (i : Int) : Bool := match m with
  | none => true
  | some a => decide (i ≤ a)
def withinD (x : D) (l m : Option Int) : Bool := match x with
  | .int i => leO l i && geO m i
  | _ => false
def pairD : List D → Option (Int × Int)
  | [.int a, .int b] => some (a, b)
  | _ => none
def ratD (p : Option (Int × Int)) : Bool := match p with
  | some (a, b) => decide (2 ≤ b) && decide (Int.gcd a b = 1)
  | none => false
def numD : D → Bool
  | .int _ => true
  | .tup xs => ratD (pairD xs)
  | .lst xs => ratD (pairD xs)
  | _ => false
theorem pair_1 (a : D) : pairD [a] = none := by cases a <;> rfl
theorem pair_3 (a b c : D) (r : List D) : pairD (a :: b :: c :: r) = none := by cases a <;> first | rfl | (cases b <;> rfl)
theorem pair_2a (a b : D) (h : isIntD a = false) : pairD [a, b] = none := by cases a <;> first | rfl | cases h
theorem forL_at {g : DG} {s : DS} {E : DEnds} (I : List D → En → Gm → Prop) : ∀ {xs : List D} {ρ : En} {G : Gm},
    (∀ x rest, ∀ (N : En → Gm → Prop) (ρ : En) (G : Gm), (x :: rest) <:+ xs → (∀ ρ G, I rest ρ G → N ρ G) → I (x :: rest) ρ G → g x ρ G fun ρ1 G1 => s { E with nx := N, ct := N, bk := E.nx } ρ1 G1) → (∀ ρ G, I [] ρ G → E.nx ρ G) → I xs ρ G → forL g s E xs ρ G
  | [], ρ, G, _, hd, h0 => hd ρ G h0
  | x :: xs, ρ, G, hs, hd, h0 => hs x xs (forL g s E xs) ρ G (List.suffix_refl _) (fun ρ G h => forL_at I (fun y r N ρ G hy => hs y r N ρ G (hy.trans (List.suffix_cons _ _))) hd h) h0
theorem cmpL_map {ρ0 : En} {i : Nat} {de : DE} {S : List D → Gm → Prop} {G : Gm} (f : D → D) : ∀ {xs acc : List D}, (∀ x ∈ xs, ∀ S' : KD, S' (f x) G → de (ρ0.set i (some x)) G S') → acc.length + xs.length ≤ sizeLine → S (acc ++ xs.map f) G → cmpL ρ0 (gN i) dYes de xs acc G S
  | [], acc, _, _, h => by
    rw [List.map_nil, List.append_nil] at h
    exact h
  | x :: xs, acc, hf, hz, h => by
    show de _ _ _
    rw [List.length_cons] at hz
    refine hf x List.mem_cons_self _ ⟨by omega, cmpL_map f (fun y hy => hf y (List.mem_cons_of_mem _ hy)) (by rw [List.length_append, List.length_singleton]; omega) ?_⟩
    rw [List.append_assoc, List.singleton_append]
    exact h
def Gau (m : Mt) (T : Nat) : Prop := ∃ (cs : List Int) (t : Nat) (r : Int), m = .lst [.lst (cs.map D.int), .int t, .int r] ∧ cs.length ≤ 63 ∧ t ≤ T ∧ 0 ≤ r
theorem Gau.mono {m : Mt} {T T' : Nat} (h : Gau m T) (l : T ≤ T') : Gau m T' := by
  obtain ⟨cs, t, r, e, h1, h2, h3⟩ := h
  exact ⟨cs, t, r, e, h1, Nat.le_trans h2 l, h3⟩
def GauAt (G : Gm) (a : Addr) (T : Nat) : Prop := ∃ m, G a = some m ∧ Gau m T
theorem gau_gup {G : Gm} {a : Addr} {m : Mt} {T : Nat} (h : Gau m T) : GauAt (gup G a m) a T := ⟨m, gup_same, h⟩
def spGauge : DSp := fun xs G R _ => ∃ ns : List Int, xs = [.lst (ns.map D.int)] ∧ ns.length ≤ 63 ∧ ∀ p m, G p = none → Gau m 0 → R (.ref p) (gup G p m)
def spDial : DSp := fun xs G R _ => ∃ a n T, xs = [.ref a, .int n] ∧ GauAt G a T ∧ T ≤ 1000000000 ∧ 1 ≤ n ∧ n < 2 ^ 8000 ∧ ∀ v m, 0 ≤ v → v < n → Gau m (T + 1) → R (.int v) (gup G a m)
def spPick : DSp := fun xs G R _ => ∃ a x ds T, xs = [.ref a, x] ∧ (x = .lst ds ∨ x = .tup ds) ∧ ds ≠ [] ∧ ds.length ≤ 1000000 ∧ GauAt G a T ∧ T ≤ 1000000000 ∧ ∀ v m, v ∈ ds → Gau m (T + 1) → R v (gup G a m)
theorem bits_lt {i : Int} {n : Nat} (h : i.natAbs < 2 ^ n) : Builtin.Int.intBits i ≤ n := by
  unfold Builtin.Int.intBits
  split
  · exact Nat.zero_le _
  · rename_i z
    have z2 : i.natAbs ≠ 0 := fun e => by
      have e2 : i = 0 := Int.natAbs_eq_zero.mp e
      rw [e2] at z
      simp at z
    exact (Nat.log2_lt z2).mpr h
theorem mul_left {i j : Int} (h : i.natAbs < 2 ^ 64) : IntMulOk i j := .of_left (bits_lt h)
theorem mul_right {i j : Int} (h : j.natAbs < 2 ^ 64) : IntMulOk i j := .of_right (bits_lt h)
theorem mul_both {i j : Int} {a b : Nat} (h : i.natAbs < 2 ^ a) (h' : j.natAbs < 2 ^ b) (hz : a + b ≤ 134217728) : IntMulOk i j := by
  have h1 := bits_lt h
  have h2 := bits_lt h'
  unfold IntMulOk
  intro z
  rw [Bool.and_eq_true] at z
  have z2 := z.2
  unfold Builtin.Int.intTooBig at z2
  have z3 := of_decide_eq_true z2
  rw [show bitsLine = 134217728 from by decide] at z3
  omega
theorem pow_ok {i j : Int} {n : Nat} (h : i.natAbs < 2 ^ n) (h0 : 0 ≤ j) (hz : (n : Int) * j ≤ 2 ^ 27) : CPw i j := by
  refine ⟨h0, Int.le_trans (Int.mul_le_mul_of_nonneg_right ?_ h0) hz⟩
  exact Int.ofNat_le.mpr (bits_lt h)
theorem div_ok {i j : Int} (h : 1 ≤ j) (h' : j < 2 ^ 8000) : CDivW i j := by
  refine wide_div (b := 8000) (by omega) ?_ (by decide) (by decide)
  have : (j.natAbs : Int) = j := by omega
  have h2 : ((j.natAbs : Nat) : Int) < ((2 ^ 8000 : Nat) : Int) := by rw [this]; exact_mod_cast h'
  exact Int.ofNat_lt.mp h2
end DL
namespace DL
open PySem PySem.Spec PyProof.Rows L2 Evl
variable [TabC]
def Ev (d : DE) (ρ : En) (G : Gm) (z : D) : Prop := ∀ R : KD, R z G → d ρ G R
def EvA (d : DA) (ρ : En) (G : Gm) (zs : List D) : Prop := ∀ R : List D → Gm → Prop, R zs G → d ρ G R
def EvT (d : DT) (ρ : En) (G : Gm) (k : Bool) : Prop := ∀ R : Bool → Gm → Prop, R k G → d ρ G R
section
variable {ρ : En} {G : Gm} {da db : DE} {dA : DA} {x y z : D} {xs : List D} {ta tb : DT} {j k : Bool}
theorem Ev.var {i : Nat} (h : ρ[i]? = some (some z)) : Ev (dVar i) ρ G z := fun R r => ⟨z, h, r⟩
theorem Ev.c : Ev (dC z) ρ G z := fun R r => r
theorem Ev.op {f : D → D → D → Prop} (ha : Ev da ρ G x) (hb : Ev db ρ G y) (h : f x y z) : Ev (dOp f da db) ρ G z := fun R r => ha _ (hb _ ⟨z, h, r⟩)
theorem Ev.cal {f : Gm → List D → D → Prop} (ha : EvA dA ρ G xs) (h : f G xs z) : Ev (dCal f dA) ρ G z := fun R r => ha _ ⟨z, h, r⟩
theorem Ev.ix (ha : Ev da ρ G x) (hb : Ev db ρ G y) (h : fIx G x y z) : Ev (dIx da db) ρ G z := fun R r => ha _ (hb _ ⟨z, h, r⟩)
theorem Ev.lst (ha : EvA dA ρ G xs) (h : xs.length ≤ sizeLine) : Ev (dLst dA) ρ G (.lst xs) := fun R r => ha _ ⟨h, r⟩
theorem Ev.tup (ha : EvA dA ρ G xs) (h : xs.length ≤ sizeLine) : Ev (dTup dA) ρ G (.tup xs) := fun R r => ha _ ⟨h, r⟩
theorem EvA.nil : EvA dNil ρ G [] := fun R r => r
theorem EvA.cons (ha : Ev da ρ G x) (hb : EvA dA ρ G xs) : EvA (dCons da dA) ρ G (x :: xs) := fun R r => ha _ (hb _ r)
theorem EvA.one (ha : Ev da ρ G x) : EvA (dCons da dNil) ρ G [x] := .cons ha .nil
theorem EvT.tst (ha : Ev da ρ G (.bl k)) : EvT (dTst da) ρ G k := fun R r => ha _ ⟨k, rfl, r⟩
theorem EvT.and (ha : EvT ta ρ G j) (hb : EvT tb ρ G k) : EvT (dAnd ta tb) ρ G (j && k) := fun R r => ha _ (by
  cases j with
  | true => exact hb _ r
  | false => exact r)
theorem EvT.not (ha : EvT ta ρ G j) : EvT (dNot ta) ρ G (!j) := fun R r => ha _ r
theorem Ev.int {i j : Int} {g : Int → Int → D} (ha : Ev da ρ G (.int i)) (hb : Ev db ρ G (.int j)) : Ev (dOp (fInt g) da db) ρ G (g i j) := .op ha hb ⟨i, j, rfl, rfl, rfl⟩
theorem Ev.intC {i j : Int} {C : Int → Int → Prop} {g : Int → Int → D} (ha : Ev da ρ G (.int i)) (hb : Ev db ρ G (.int j)) (h : C i j) : Ev (dOp (fIntC C g) da db) ρ G (g i j) := .op ha hb ⟨i, j, rfl, rfl, h, rfl⟩
theorem Ev.add {i j : Int} (ha : Ev da ρ G (.int i)) (hb : Ev db ρ G (.int j)) : Ev (dOp fAdd da db) ρ G (.int (i + j)) := .op ha hb (.inl ⟨i, j, rfl, rfl, rfl⟩)
theorem Ev.mod {i j : Int} (ha : Ev da ρ G (.int i)) (hb : Ev db ρ G (.int j)) (h : (fun _ j => 0 < j) i j) : Ev (dOp (fIntC (fun _ j => 0 < j) fun i j => .int (i % j)) da db) ρ G (.int (i % j)) := .intC ha hb h
theorem Ev.mul {i j : Int} (ha : Ev da ρ G (.int i)) (hb : Ev db ρ G (.int j)) (h : (IntMulOk) i j) : Ev (dOp (fIntC (IntMulOk) fun i j => .int (i * j)) da db) ρ G (.int (i * j)) := .intC ha hb h
theorem Ev.pow {i j : Int} (ha : Ev da ρ G (.int i)) (hb : Ev db ρ G (.int j)) (h : (CPw) i j) : Ev (dOp (fIntC (CPw) fun i j => .int (i ^ j.toNat)) da db) ρ G (.int (i ^ j.toNat)) := .intC ha hb h
theorem Ev.fdiv {i j : Int} (ha : Ev da ρ G (.int i)) (hb : Ev db ρ G (.int j)) (h : (CDivW) i j) : Ev (dOp (fIntC (CDivW) fun i j => .int (i / j)) da db) ρ G (.int (i / j)) := .intC ha hb h
theorem Ev.sub {i j : Int} (ha : Ev da ρ G (.int i)) (hb : Ev db ρ G (.int j)) : Ev (dOp (fInt fun i j => .int (i - j)) da db) ρ G (.int (i - j)) := .int ha hb
theorem Ev.lt {i j : Int} (ha : Ev da ρ G (.int i)) (hb : Ev db ρ G (.int j)) : Ev (dOp (fInt gLt) da db) ρ G (.bl (decide (i < j))) := .int ha hb
theorem Ev.le {i j : Int} (ha : Ev da ρ G (.int i)) (hb : Ev db ρ G (.int j)) : Ev (dOp (fInt gLe) da db) ρ G (.bl (decide (i ≤ j))) := .int ha hb
theorem Ev.gt {i j : Int} (ha : Ev da ρ G (.int i)) (hb : Ev db ρ G (.int j)) : Ev (dOp (fInt gGt) da db) ρ G (.bl (decide (j < i))) := .int ha hb
theorem Ev.ge {i j : Int} (ha : Ev da ρ G (.int i)) (hb : Ev db ρ G (.int j)) : Ev (dOp (fInt gGe) da db) ρ G (.bl (decide (j ≤ i))) := .int ha hb
theorem Ev.intOf {i : Int} (ha : Ev da ρ G (.int i)) : Ev (dCal fIntOf (dCons da dNil)) ρ G (.int i) := .cal (.one ha) (.inl ⟨i, rfl, rfl⟩)
theorem Ev.intB (ha : Ev da ρ G (.bl k)) : Ev (dCal fIntOf (dCons da dNil)) ρ G (.int (if k then 1 else 0)) := .cal (.one ha) (.inr ⟨k, rfl, rfl⟩)
theorem Ev.len (ha : Ev da ρ G x) (h : SeqAt G x xs) : Ev (dCal fLen (dCons da dNil)) ρ G (.int xs.length) := .cal (.one ha) ⟨x, rfl, .inl ⟨xs, h, rfl⟩⟩
theorem Ev.at {i : Int} (ha : Ev da ρ G x) (hb : Ev db ρ G (.int i)) (h : SeqAt G x xs) (h' : atI xs i = some z) : Ev (dIx da db) ρ G z := .ix ha hb (.inl ⟨xs, i, h, rfl, h'⟩)
theorem Ev.absN {i : Int} (ha : Ev da ρ G (.int i)) : Ev (dCal fAbs (dCons da dNil)) ρ G (.int (i.natAbs : Int)) := .cal (.one ha) ⟨i, rfl, by congr 1; split <;> omega⟩
theorem ds_set {E : DEnds} {i : Nat} (ha : Ev da ρ G x) (h : E.nx (ρ.set i (some x)) G) : dSet i da E ρ G := ha _ h
theorem ds_ret {E : DEnds} (ha : Ev da ρ G x) (h : E.rt x G) : dRet da E ρ G := ha _ h
theorem ds_if {E : DEnds} {s1 s2 : DS} (ha : EvT ta ρ G k) (h : if k = true then s1 E ρ G else s2 E ρ G) : dIfS ta s1 s2 E ρ G := ha _ h
theorem ds_setIx {E : DEnds} {dc : DE} {a : Addr} {i : Int} {j : Nat} (ha : Ev da ρ G x) (hb : Ev db ρ G (.ref a)) (hc : Ev dc ρ G (.int i)) (hg : G a = some (.lst xs)) (hj : ixN xs.length i = some j) (h : E.nx ρ (gup G a (.lst (xs.set j x)))) : dSetIx da db dc E ρ G :=
  ha _ (hb _ (hc _ ⟨a, xs, i, j, rfl, hg, rfl, hj, h⟩))
end
def dialA (c0 c1 c2 c3 c4 c5 c6 c7 : Int) : DS := (dSeq (dIfS (dTst (dOp (fInt gGt) (dIx (dVar 0) (dC (.int 2))) (dC (.int 0)))) (dSeq (dSet 2 (dCal fIntOf (dCons (dIx (dVar 0) (dC (.int 2))) dNil))) (dSeq (dSetIx (dOp (fIntC CDivW fun i j => .int (i / j)) (dVar 2) (dVar 1)) (dVar 0) (dC (.int 2))) (dRet (dOp (fIntC (fun _ j => 0 < j) fun i j => .int (i % j)) (dCal fIntOf (dCons (dVar 2) dNil)) (dVar 1))))) dNext) (dSeq (dSet 3 (dIx (dVar 0) (dC (.int 1)))) (dSeq (dSetIx (dOp fAdd (dVar 3) (dC (.int 1))) (dVar 0) (dC (.int 1))) (dSeq (dIfS (dTst (dOp fEq (dIx (dVar 0) (dC (.int 0))) (dLst dNil))) (dRet (dC (.int 0))) dNext) (dSeq (dSet 4 (dIx (dIx (dVar 0) (dC (.int 0))) (dOp (fIntC (fun _ j => 0 < j) fun i j => .int (i % j)) (dCal fIntOf (dCons (dVar 3) dNil)) (dCal fLen (dCons (dIx (dVar 0) (dC (.int 0))) dNil))))) (dSeq (dIfS (dAnd (dTst (dOp (fInt gLt) (dVar 3) (dCal fLen (dCons (dIx (dVar 0) (dC (.int 0))) dNil)))) (dTst (dOp (fInt gGe) (dCal fAbs (dCons (dVar 4) dNil)) (dOp (fIntC CPw fun i j => .int (i ^ j.toNat)) (dC (.int 10)) (dC (.int 18)))))) (dSeq (dSet 2 (dOp fAdd (dOp (fIntC IntMulOk fun i j => .int (i * j)) (dC (.int 2)) (dOp (fInt fun i j => .int (i - j)) (dCal fAbs (dCons (dCal fIntOf (dCons (dVar 4) dNil)) dNil)) (dOp (fIntC CPw fun i j => .int (i ^ j.toNat)) (dC (.int 10)) (dC (.int 18))))) (dCal fIntOf (dCons (dOp (fInt gLt) (dVar 4) (dC (.int 0))) dNil)))) (dSeq (dSetIx (dOp (fIntC CDivW fun i j => .int (i / j)) (dVar 2) (dVar 1)) (dVar 0) (dC (.int 2))) (dRet (dOp (fIntC (fun _ j => 0 < j) fun i j => .int (i % j)) (dCal fIntOf (dCons (dVar 2) dNil)) (dVar 1))))) dNext) (dSeq (dSet 5 (dOp (fIntC (fun _ j => 0 < j) fun i j => .int (i % j)) (dCal fIntOf (dCons (dOp (fIntC CPw fun i j => .int (i ^ j.toNat)) (dOp fAdd (dOp fAdd (dOp (fIntC (fun _ j => 0 < j) fun i j => .int (i % j)) (dCal fIntOf (dCons (dVar 4) dNil)) (dC (.int c0))) (dOp (fIntC IntMulOk fun i j => .int (i * j)) (dC (.int c1)) (dVar 3))) (dC (.int c2))) (dC (.int 5))) dNil)) (dC (.int c3)))) (dSeq (dSet 5 (dOp (fIntC (fun _ j => 0 < j) fun i j => .int (i % j)) (dCal fIntOf (dCons (dOp (fIntC CPw fun i j => .int (i ^ j.toNat)) (dOp fAdd (dOp fAdd (dOp (fIntC IntMulOk fun i j => .int (i * j)) (dVar 5) (dOp fAdd (dOp (fIntC IntMulOk fun i j => .int (i * j)) (dC (.int 2)) (dVar 3)) (dC (.int c4)))) (dOp (fIntC IntMulOk fun i j => .int (i * j)) (dOp (fIntC IntMulOk fun i j => .int (i * j)) (dC (.int c5)) (dVar 3)) (dVar 3))) (dC (.int c6))) (dC (.int 3))) dNil)) (dC (.int c7)))) (dRet (dOp (fIntC (fun _ j => 0 < j) fun i j => .int (i % j)) (dCal fIntOf (dCons (dOp (fIntC CDivW fun i j => .int (i / j)) (dVar 5) (dC (.int 64))) dNil)) (dVar 1)))))))))))
theorem atI_mod {cs : List Int} (h : cs ≠ []) (t : Nat) : ∃ v, atI (cs.map D.int) ((t : Int) % ((cs.map D.int).length : Int)) = some (.int v) := by
  have hl : 0 < cs.length := List.length_pos_iff.mpr h
  rw [List.length_map]
  have h1 : 0 ≤ (t : Int) % (cs.length : Int) := Int.emod_nonneg _ (by omega)
  have h2 : (t : Int) % (cs.length : Int) < cs.length := Int.emod_lt_of_pos _ (by omega)
  refine ⟨cs[((t : Int) % (cs.length : Int)).toNat]'(by omega), ?_⟩
  unfold atI ixN
  rw [List.length_map, if_pos h1, if_pos h2, Option.bind_some, List.getElem?_map, List.getElem?_eq_getElem (by omega)]
  rfl
def Sml (c : Int) : Prop := 0 < c ∧ c < 2 ^ 32
theorem mb {x y : Int} (a b : Nat) (hx : 0 ≤ x) (hxa : x < 2 ^ a) (hy : 0 ≤ y) (hyb : y < 2 ^ b) : 0 ≤ x * y ∧ x * y < 2 ^ (a + b) := by
  refine ⟨Int.mul_nonneg hx hy, ?_⟩
  rw [Int.pow_add]
  have h1 : x * y ≤ x * 2 ^ b := Int.mul_le_mul_of_nonneg_left (Int.le_of_lt hyb) hx
  have h2 : x * 2 ^ b < 2 ^ a * 2 ^ b := Int.mul_lt_mul_of_pos_right hxa (Int.pow_pos (by decide))
  omega
theorem nab {x : Int} (a : Nat) (h : 0 ≤ x) (h' : x < 2 ^ a) : x.natAbs < 2 ^ a := by
  have h2 : ((x.natAbs : Nat) : Int) < ((2 ^ a : Nat) : Int) := by
    rw [Int.natAbs_of_nonneg h]
    exact_mod_cast h'
  exact Int.ofNat_lt.mp h2
def tailD (c0 c1 c2 c3 c4 c5 c6 c7 : Int) : DS := (dSeq (dSet 5 (dOp (fIntC (fun _ j => 0 < j) fun i j => .int (i % j)) (dCal fIntOf (dCons (dOp (fIntC CPw fun i j => .int (i ^ j.toNat)) (dOp fAdd (dOp fAdd (dOp (fIntC (fun _ j => 0 < j) fun i j => .int (i % j)) (dCal fIntOf (dCons (dVar 4) dNil)) (dC (.int c0))) (dOp (fIntC IntMulOk fun i j => .int (i * j)) (dC (.int c1)) (dVar 3))) (dC (.int c2))) (dC (.int 5))) dNil)) (dC (.int c3)))) (dSeq (dSet 5 (dOp (fIntC (fun _ j => 0 < j) fun i j => .int (i % j)) (dCal fIntOf (dCons (dOp (fIntC CPw fun i j => .int (i ^ j.toNat)) (dOp fAdd (dOp fAdd (dOp (fIntC IntMulOk fun i j => .int (i * j)) (dVar 5) (dOp fAdd (dOp (fIntC IntMulOk fun i j => .int (i * j)) (dC (.int 2)) (dVar 3)) (dC (.int c4)))) (dOp (fIntC IntMulOk fun i j => .int (i * j)) (dOp (fIntC IntMulOk fun i j => .int (i * j)) (dC (.int c5)) (dVar 3)) (dVar 3))) (dC (.int c6))) (dC (.int 3))) dNil)) (dC (.int c7)))) (dRet (dOp (fIntC (fun _ j => 0 < j) fun i j => .int (i % j)) (dCal fIntOf (dCons (dOp (fIntC CDivW fun i j => .int (i / j)) (dVar 5) (dC (.int 64))) dNil)) (dVar 1)))))
theorem tail_ok {c0 c1 c2 c3 c4 c5 c6 c7 : Int} (h0 : Sml c0) (h1 : Sml c1) (h2 : Sml c2) (h3 : Sml c3) (h4 : Sml c4) (h5 : Sml c5) (h6 : Sml c6) (h7 : Sml c7) {E : DEnds} {ρ : En} {G : Gm} {n cell : Int} {t : Nat} (hn : 1 ≤ n) (ht : t ≤ 1000000000)
    (hl : ρ.length = 6) (r1 : ρ[1]? = some (some (.int n))) (r3 : ρ[3]? = some (some (.int t))) (r4 : ρ[4]? = some (some (.int cell))) (k : ∀ v, 0 ≤ v → v < n → E.rt (.int v) G) : tailD c0 c1 c2 c3 c4 c5 c6 c7 E ρ G := by
  obtain ⟨p0, q0⟩ := h0
  obtain ⟨p1, q1⟩ := h1
  obtain ⟨p2, q2⟩ := h2
  obtain ⟨p3, q3⟩ := h3
  obtain ⟨p4, q4⟩ := h4
  obtain ⟨p5, q5⟩ := h5
  obtain ⟨p6, q6⟩ := h6
  obtain ⟨p7, q7⟩ := h7
  have tt : (t : Int) < 2 ^ 30 := by omega
  have t0 : 0 ≤ (t : Int) := by omega
  have a1 := mb 32 30 (Int.le_of_lt p1) q1 t0 tt
  have a2 := Int.emod_nonneg cell (show c0 ≠ 0 by omega)
  have a3 := Int.emod_lt_of_pos cell p0
  have s1 : ∀ {c : Int}, 0 < c → c < 2 ^ 32 → c.natAbs < 2 ^ 64 := fun {c} h h' => Nat.lt_trans (nab 32 (Int.le_of_lt h) h') (by decide)
  refine ds_set (.mod (.intOf (.pow (.add (.add (.mod (.intOf (.var r4)) .c p0) (.mul .c (.var r3) (mul_left (s1 p1 q1)))) .c) .c ?_)) .c p3) ?_
  · exact pow_ok (n := 64) (nab 64 (by omega) (by omega)) (by decide) (by decide)
  generalize em : (cell % c0 + c1 * (t : Int) + c2) ^ Int.toNat 5 % c3 = mx
  have m0 : 0 ≤ mx := by rw [← em]; exact Int.emod_nonneg _ (by omega)
  have m1 : mx < 2 ^ 32 := by rw [← em]; exact Int.lt_trans (Int.emod_lt_of_pos _ p3) q3
  have l5 : (ρ.set 5 (some (.int mx)))[5]? = some (some (.int mx)) := List.getElem?_set_self (by omega)
  have ne5 : ∀ {i : Nat}, 5 ≠ i → (ρ.set 5 (some (D.int mx)))[i]? = ρ[i]? := fun h => List.getElem?_set_ne h
  have r3' : (ρ.set 5 (some (D.int mx)))[3]? = some (some (.int t)) := by rw [ne5 (by decide), r3]
  have b1 := mb 32 33 m0 m1 (show 0 ≤ 2 * (t : Int) + c4 by omega) (show 2 * (t : Int) + c4 < 2 ^ 33 by omega)
  have b2 := mb 32 30 (Int.le_of_lt p5) q5 t0 tt
  have b3 := mb 62 30 b2.1 b2.2 t0 tt
  refine ds_set (.mod (.intOf (.pow (.add (.add (.mul (.var l5) (.add (.mul .c (.var r3') ?_) .c) ?_) (.mul (.mul .c (.var r3') ?_) (.var r3') ?_)) .c) .c ?_)) .c p7) ?_
  · exact mul_left (show Int.natAbs 2 < 2 ^ 64 by decide)
  · exact mul_left (Nat.lt_trans (nab 32 m0 m1) (by decide))
  · exact mul_left (s1 p5 q5)
  · exact mul_right (Nat.lt_trans (nab 30 t0 tt) (by decide))
  · exact pow_ok (n := 100) (nab 100 (by omega) (by omega)) (by decide) (by decide)
  generalize (mx * (2 * (t : Int) + c4) + c5 * (t : Int) * (t : Int) + c6) ^ Int.toNat 3 % c7 = my
  refine ds_ret (.mod (.intOf (.fdiv (.var (List.getElem?_set_self (by rw [List.length_set]; omega))) .c (div_ok (by decide) (by decide +kernel)))) (.var ?_) (by omega)) (k _ (Int.emod_nonneg _ (by omega)) (Int.emod_lt_of_pos _ (by omega)))
  rw [List.getElem?_set_ne (by decide), ne5 (by decide), r1]
def finD : DS := (dSeq (dSetIx (dOp (fIntC CDivW fun i j => .int (i / j)) (dVar 2) (dVar 1)) (dVar 0) (dC (.int 2))) (dRet (dOp (fIntC (fun _ j => 0 < j) fun i j => .int (i % j)) (dCal fIntOf (dCons (dVar 2) dNil)) (dVar 1))))
theorem fin_ok {E : DEnds} {ρ : En} {G : Gm} {n q t r : Int} {a : Addr} {cs : List Int} (hn : 1 ≤ n) (hn2 : n < 2 ^ 8000) (r0 : ρ[0]? = some (some (.ref a))) (r1 : ρ[1]? = some (some (.int n))) (r2 : ρ[2]? = some (some (.int q)))
    (hg : G a = some (.lst [.lst (cs.map D.int), .int t, .int r])) (k : ∀ v, 0 ≤ v → v < n → E.rt (.int v) (gup G a (.lst [.lst (cs.map D.int), .int t, .int (q / n)]))) : finD E ρ G := by
  refine ds_setIx (.fdiv (.var r2) (.var r1) (div_ok hn hn2)) (.var r0) .c hg (j := 2) rfl ?_
  exact ds_ret (.mod (.intOf (.var r2)) (.var r1) (by omega)) (k _ (Int.emod_nonneg _ (by omega)) (Int.emod_lt_of_pos _ (by omega)))
theorem ne_nil_eqv {cs : List Int} : D.eqv (.lst (cs.map D.int)) (.lst []) = cs.isEmpty := by
  have key : ∀ cs : List Int, D.pyL (cs.map D.int) = some (cs.map PyData.int) := fun cs => by
    induction cs with
    | nil => rfl
    | cons c cs ih => simp only [List.map_cons, D.pyL, ih, D.py]
  have e1 : D.py (.lst (cs.map D.int)) = some (.list (cs.map PyData.int)) := by simp only [D.py, key, Option.map_some]
  rw [eqv_of e1 (q := .list []) rfl]
  cases cs <;> rfl
theorem cmp_ints (cs : List Int) : Cmp (.lst (cs.map D.int)) := by
  have l : ∀ cs : List Int, D.layL (cs.map D.int) = true := fun cs => by
    induction cs with
    | nil => rfl
    | cons c cs ih => simp only [List.map_cons, D.layL, ih, D.lay, Bool.and_self]
  have d : ∀ cs : List Int, D.dpL (cs.map D.int) = 0 := fun cs => by
    induction cs with
    | nil => rfl
    | cons c cs ih => simp only [List.map_cons, D.dpL, ih, D.dp, Nat.max_self]
  exact ⟨by simp only [D.lay, l], by simp only [D.dp, d]; decide⟩
theorem Ev.eqNil {ρ : En} {G : Gm} {da : DE} {cs : List Int} (ha : Ev da ρ G (.lst (cs.map D.int))) : Ev (dOp fEq da (dLst dNil)) ρ G (.bl cs.isEmpty) := .op ha (.lst .nil (Nat.zero_le _)) ⟨cmp_ints cs, cmp_ints [], by rw [ne_nil_eqv]⟩
theorem ten18 : CPw 10 18 := pow_ok (n := 4) (by decide) (by decide) (by decide)
theorem dialA_ok {c0 c1 c2 c3 c4 c5 c6 c7 : Int} (h0 : Sml c0) (h1 : Sml c1) (h2 : Sml c2) (h3 : Sml c3) (h4 : Sml c4) (h5 : Sml c5) (h6 : Sml c6) (h7 : Sml c7) (xs : List D) (G : Gm) (R : KD) (RX : XD) (h : spDial xs G R RX) :
    dialA c0 c1 c2 c3 c4 c5 c6 c7 { nx := fun _ G => R .non G, rt := R } (xs.map some ++ List.replicate (6 - xs.length) none) G := by
  obtain ⟨a, n, T, rfl, ⟨m, hg, cs, t, r, rfl, hcs, ht, hr⟩, hT, hn, hn2, hR⟩ := h
  show dialA c0 c1 c2 c3 c4 c5 c6 c7 _ [some (.ref a), some (.int n), none, none, none, none] G
  have kk : ∀ {v : Int} {t' : Nat} {r' : Int}, 0 ≤ v → v < n → t' ≤ T + 1 → 0 ≤ r' → R (.int v) (gup G a (.lst [.lst (cs.map D.int), .int t', .int r'])) := fun h1 h2 h3 h4 => hR _ _ h1 h2 ⟨cs, _, _, rfl, hcs, h3, h4⟩
  have dn : ∀ {q : Int}, 0 ≤ q → 0 ≤ q / n := fun h => Int.ediv_nonneg h (by omega)
  refine ds_if (.tst (.gt (.at (.var rfl) .c (seq_ref hg) rfl) .c)) ?_
  split
  · rename_i hr1
    refine ds_set (.intOf (.at (.var rfl) .c (seq_ref hg) rfl)) ?_
    exact fin_ok hn hn2 rfl rfl rfl hg fun v v0 v1 => kk v0 v1 (by omega) (dn hr)
  refine ds_set (.at (.var rfl) .c (seq_ref hg) rfl) ?_
  refine ds_setIx (.add (.var rfl) .c) (.var rfl) .c hg (j := 1) rfl ?_
  have kk2 : ∀ {v : Int} {r' : Int}, 0 ≤ v → v < n → 0 ≤ r' → R (.int v) (gup G a (.lst [.lst (cs.map D.int), .int ((t : Int) + 1), .int r'])) := fun h1 h2 h4 => kk (t' := t + 1) h1 h2 (by omega) h4
  have hg1 : gup G a (.lst ([D.lst (cs.map D.int), .int t, .int r].set 1 (.int ((t : Int) + 1)))) a = some (.lst [.lst (cs.map D.int), .int ((t : Int) + 1), .int r]) := gup_same
  refine ds_if (.tst (.eqNil (.at (.var rfl) .c (seq_ref hg1) rfl))) ?_
  split
  · exact ds_ret .c (kk2 (by omega) (by omega) hr)
  rename_i hne
  have hne2 : cs ≠ [] := fun e => hne (by rw [e]; rfl)
  obtain ⟨cell, hcell⟩ := atI_mod hne2 t
  refine ds_set (.at (.at (.var rfl) .c (seq_ref hg1) rfl) (.mod (.intOf (.var rfl)) (.len (.at (.var rfl) .c (seq_ref hg1) rfl) seq_lst) ?_) seq_lst hcell) ?_
  · rw [List.length_map]
    have := List.length_pos_iff.mpr hne2
    omega
  refine ds_if (.and (.tst (.lt (.var rfl) (.len (.at (.var rfl) .c (seq_ref hg1) rfl) seq_lst))) (.tst (.ge (.absN (.var rfl)) (.pow .c .c ten18)))) ?_
  split
  · rename_i hb
    rw [Bool.and_eq_true] at hb
    have hb2 := of_decide_eq_true hb.2
    refine ds_set (.add (.mul .c (.sub (.absN (.intOf (.var rfl))) (.pow .c .c ten18)) (mul_left (show Int.natAbs 2 < 2 ^ 64 by decide))) (.intB (.lt (.var rfl) .c))) ?_
    refine fin_ok hn hn2 rfl rfl rfl hg1 fun v v0 v1 => ?_
    rw [gup_gup]
    refine kk2 v0 v1 (dn ?_)
    have : (0 : Int) ≤ if decide (cell < 0) = true then 1 else 0 := by split <;> decide
    omega
  exact tail_ok (E := { nx := fun _ G => R .non G, rt := R }) h0 h1 h2 h3 h4 h5 h6 h7 hn (by omega) rfl rfl rfl rfl fun v v0 v1 => kk2 v0 v1 hr
end DL
namespace DL
open PySem PySem.Spec PyProof.Rows L2 Evl
variable [TabC]
section
variable {ρ : En} {G : Gm} {da db dc : DE} {dA : DA} {x y z : D} {xs : List D} {ta tb : DT} {j k : Bool}
theorem EvT.orT (ha : EvT ta ρ G true) : EvT (dOr ta tb) ρ G true := fun R r => ha _ r
theorem EvT.orF (ha : EvT ta ρ G false) (hb : EvT tb ρ G k) : EvT (dOr ta tb) ρ G k := fun R r => ha _ (hb _ r)
theorem Ev.and2 (ha : Ev da ρ G (.bl j)) (hb : j = true → Ev db ρ G (.bl k)) : Ev (dAndV da db) ρ G (.bl (j && k)) := fun R r => ha _ ⟨j, rfl, by
  cases j with
  | true => exact hb rfl _ r
  | false => exact r⟩
theorem Ev.orT (ha : Ev da ρ G (.bl true)) : Ev (dOrV da db) ρ G (.bl true) := fun R r => ha _ ⟨true, rfl, r⟩
theorem Ev.orF (ha : Ev da ρ G (.bl false)) (hb : Ev db ρ G z) : Ev (dOrV da db) ρ G z := fun R r => ha _ ⟨false, rfl, hb _ r⟩
theorem Ev.notV (ha : Ev da ρ G (.bl j)) : Ev (dNotV da) ρ G (.bl (!j)) := fun R r => ha _ ⟨j, rfl, r⟩
theorem Ev.isN (ha : Ev da ρ G x) : Ev (dIsN da) ρ G (.bl x.isN) := fun R r => ha _ r
theorem Ev.ifT (ha : EvT ta ρ G true) (hb : Ev da ρ G z) : Ev (dIf ta da db) ρ G z := fun R r => ha _ (hb _ r)
theorem Ev.ifF (ha : EvT ta ρ G false) (hb : Ev db ρ G z) : Ev (dIf ta da db) ρ G z := fun R r => ha _ (hb _ r)
theorem Ev.call {q : DSp} (ha : EvA dA ρ G xs) (h : ∀ R, R z G → q xs G R X0) : Ev (dCall q X0 dA) ρ G z := fun R r => ha _ (h R r)
theorem Ev.neg {i : Int} (ha : Ev da ρ G (.int i)) : Ev (dNeg da) ρ G (.int (-i)) := fun R r => ha _ ⟨i, rfl, r⟩
theorem Ev.isi {n t : String} (ha : Ev da ρ G x) (h : x.tyn = some t) : Ev (dCal (fIsi n) (dCons da (dCons (dC (.ty n)) dNil))) ρ G (.bl (isK t n)) := .cal (.cons ha (.one .c)) ⟨x, t, rfl, h, rfl⟩
theorem Ev.isiT {ns : List String} {t : String} (ha : Ev da ρ G x) (h : x.tyn = some t) : Ev (dIsiT ns da) ρ G (.bl (ns.any (isK t))) := fun R r => ha _ ⟨t, h, r⟩
theorem Ev.eqI {i j : Int} (ha : Ev da ρ G (.int i)) (hb : Ev db ρ G (.int j)) : Ev (dOp fEq da db) ρ G (.bl (decide (i = j))) := .op ha hb rfl
theorem Ev.neI {i j : Int} (ha : Ev da ρ G (.int i)) (hb : Ev db ρ G (.int j)) : Ev (dOp fNe da db) ρ G (.bl (!decide (i = j))) := .op ha hb rfl
theorem ds_par {E : DEnds} {i j : Nat} (ha : Ev da ρ G x) (hb : Ev db ρ G y) (h : E.nx ((ρ.set i (some x)).set j (some y)) G) : dPar i j (dCons da (dCons db dNil)) E ρ G := ha _ (hb _ ⟨x, y, rfl, h⟩)
theorem Ev.cast {z' : D} (h : Ev da ρ G z) (e : z = z') : Ev da ρ G z' := e ▸ h
theorem EvT.cast (h : EvT ta ρ G j) (e : j = k) : EvT ta ρ G k := e ▸ h
end
section
variable {ρ : En} {a : Addr} {j k : Nat} {da db : DE} {dA : DA} {P P2 P3 : D → Prop} {PL : List D → Prop}
end
def gaugeD (c : Int) : DS := dRet (dLstM (dCons (dCmp (dISeq (dSl (dVar 0) dNoP (dPart (dC (.int c))))) (gN 1) dYes (dCal fIntOf (dCons (dVar 1) dNil)) [1]) (dCons (dC (.int 0)) (dCons (dC (.int 0)) dNil))))
theorem gauge_ok {c : Int} (xs : List D) (G : Gm) (R : KD) (RX : XD) (h : spGauge xs G R RX) : gaugeD c { nx := fun _ G => R .non G, rt := R } (xs.map some ++ List.replicate (2 - xs.length) none) G := by
  obtain ⟨ns, rfl, hl, h⟩ := h
  have hc : ∃ ms : List Int, cutD (ns.map D.int) none (some c) = ms.map D.int ∧ ms.length ≤ 63 := by
    unfold cutD
    rw [← List.map_drop, ← List.map_take]
    exact ⟨_, rfl, by rw [List.length_take, List.length_drop]; omega⟩
  obtain ⟨ms, hms, hml⟩ := hc
  show dLstM _ [some (.lst (ns.map D.int)), none] G R
  refine ⟨_, rfl, c, rfl, .lst (ms.map D.int), .inl ⟨ns.map D.int, lst_lst, by rw [hms]⟩, ms.map D.int, .inl rfl, ?_⟩
  refine cmpL_map (f := id) (fun x hx S' hS => ?_) (by rw [List.length_map, sizeLine_eq, List.length_nil]; omega) ?_
  · obtain ⟨i, _, rfl⟩ := List.mem_map.mp hx
    exact Ev.intOf (ρ := _) (.var rfl) _ hS
  · rw [List.map_id, List.nil_append]
    exact ⟨by rw [sizeLine_eq, List.length_cons, List.length_cons, List.length_singleton]; omega, fun p hp => h p _ hp ⟨ms, 0, 0, rfl, hml, Nat.le_refl _, Int.le_refl _⟩⟩
def pickD : DS := dRet (dIx (dVar 1) (dCall spDial X0 (dCons (dVar 0) (dCons (dCal fLen (dCons (dVar 1) dNil)) dNil))))
theorem atI_nat {ds : List D} {i : Int} (h : 0 ≤ i) (h' : i < ds.length) : ∃ z, z ∈ ds ∧ atI ds i = some z := by
  refine ⟨ds[i.toNat]'(by omega), List.getElem_mem _, ?_⟩
  unfold atI ixN
  rw [if_pos h, if_pos h', Option.bind_some, List.getElem?_eq_getElem (by omega)]
theorem pick_ok (xs : List D) (G : Gm) (R : KD) (RX : XD) (h : spPick xs G R RX) : pickD { nx := fun _ G => R .non G, rt := R } (xs.map some ++ List.replicate (2 - xs.length) none) G := by
  obtain ⟨a, x, ds, T, rfl, hx, hne, hl, hg, ht, h⟩ := h
  have hs : SeqAt G x ds := by
    rcases hx with rfl | rfl
    · exact seq_lst
    · exact seq_tup
  have h0 := List.length_pos_iff.mpr hne
  show dIx _ _ [some (.ref a), some x] G R
  refine ⟨x, rfl, (EvA.cons (Ev.var rfl) (EvA.one (Ev.len (Ev.var rfl) hs))) _ ⟨a, ds.length, T, rfl, hg, ht, by omega, ?_, fun v m v0 v1 hm => ?_⟩⟩
  · exact Int.lt_of_lt_of_le (b := 2000000) (by omega) (by decide +kernel)
  · obtain ⟨z, hz, he⟩ := atI_nat v0 v1
    refine ⟨z, .inl ⟨ds, v, ?_, rfl, he⟩, h z m hz hm⟩
    rcases hx with rfl | rfl
    · exact seq_lst
    · exact seq_tup
end DL
namespace DL
open PySem PySem.Spec PyProof.Rows L2 Evl
variable [TabC]
theorem kn_tyn {x : D} (h : x.kn = true) : ∃ t, x.tyn = some t := by cases x <;> first | exact ⟨_, rfl⟩ | cases h
def sp_is_integer : DSp := fun xs G R _ => ∃ x, xs = [x] ∧ x.kn = true ∧ R (.bl (isIntD x)) G
def sp_is_within : DSp := fun xs G R _ => ∃ x a b l m, xs = [x, a, b] ∧ x.kn = true ∧ bndD a = some l ∧ bndD b = some m ∧ R (.bl (withinD x l m)) G
def sp_is_list : DSp := fun xs G R _ => ∃ x, xs = [x] ∧ x.kn = true ∧ R (.bl (isSeqD x)) G
def sp_common : DSp := fun xs G R _ => ∃ i j : Int, xs = [.int i, .int j] ∧ R (.int (Int.gcd i j)) G
def sp_is_number : DSp := fun xs G R _ => ∃ x, xs = [x] ∧ x.kn = true ∧ R (.bl (numD x)) G
section
variable {ρ : En} {G : Gm} {da db dc : DE} {x a b : D} {l m : Option Int}
theorem Ev.isInteger (h : Ev da ρ G x) (hk : x.kn = true) : Ev (dCall sp_is_integer X0 (dCons da dNil)) ρ G (.bl (isIntD x)) := .call (.one h) fun R r => ⟨x, rfl, hk, r⟩
theorem Ev.isWithin (h : Ev da ρ G x) (h1 : Ev db ρ G a) (h2 : Ev dc ρ G b) (hk : x.kn = true) (hl : bndD a = some l) (hm : bndD b = some m) : Ev (dCall sp_is_within X0 (dCons da (dCons db (dCons dc dNil)))) ρ G (.bl (withinD x l m)) := .call (.cons h (.cons h1 (.one h2))) fun R r => ⟨x, a, b, l, m, rfl, hk, hl, hm, r⟩
theorem Ev.isList (h : Ev da ρ G x) (hk : x.kn = true) : Ev (dCall sp_is_list X0 (dCons da dNil)) ρ G (.bl (isSeqD x)) := .call (.one h) fun R r => ⟨x, rfl, hk, r⟩
theorem Ev.common {i j : Int} (h : Ev da ρ G (.int i)) (h1 : Ev db ρ G (.int j)) : Ev (dCall sp_common X0 (dCons da (dCons db dNil))) ρ G (.int (Int.gcd i j)) := .call (.cons h (.one h1)) fun R r => ⟨i, j, rfl, r⟩
theorem Ev.isNumber (h : Ev da ρ G x) (hk : x.kn = true) : Ev (dCall sp_is_number X0 (dCons da dNil)) ρ G (.bl (numD x)) := .call (.one h) fun R r => ⟨x, rfl, hk, r⟩
end
def wholeD : DE := dAndV (dCal (fIsi "int") (dCons (dVar 0) (dCons (dC (.ty "int")) dNil))) (dNotV (dCal (fIsi "bool") (dCons (dVar 0) (dCons (dC (.ty "bool")) dNil))))
theorem ev_whole {ρ : En} {G : Gm} {x : D} (h : ρ[0]? = some (some x)) (hk : x.kn = true) : Ev wholeD ρ G (.bl (isIntD x)) := by
  obtain ⟨t, ht⟩ := kn_tyn hk
  refine (Ev.and2 (.isi (.var h) ht) fun _ => .notV (.isi (.var h) ht)).cast ?_
  cases x <;> cases ht <;> first | rfl | cases hk
theorem is_integer_ok (xs : List D) (G : Gm) (R : KD) (RX : XD) (h : sp_is_integer xs G R RX) : dRet wholeD { nx := fun _ G => R .non G, rt := R } (xs.map some ++ List.replicate (1 - xs.length) none) G := by
  obtain ⟨x, rfl, hk, h⟩ := h
  exact ev_whole rfl hk _ h
def withinR : DS := (dSeq (dIfS (dNot (dTst (dCall sp_is_integer X0 (dCons (dVar 0) dNil)))) (dRet (dC (.bl false))) dNext) (dRet (dAndV (dOrV (dIsN (dVar 1)) (dOp (fInt gLe) (dVar 1) (dVar 0))) (dOrV (dIsN (dVar 2)) (dOp (fInt gLe) (dVar 0) (dVar 2))))))
theorem bnd_le {ρ : En} {G : Gm} {da db : DE} {b : D} {l : Option Int} {i : Int} (hb : bndD b = some l) (h : Ev da ρ G b) (h' : Ev db ρ G (.int i)) : Ev (dOrV (dIsN da) (dOp (fInt gLe) da db)) ρ G (.bl (leO l i)) := by
  cases b <;> cases hb
  · exact .orT (.isN h)
  · exact .orF (.isN h) (.le h h')
theorem bnd_ge {ρ : En} {G : Gm} {da db : DE} {b : D} {l : Option Int} {i : Int} (hb : bndD b = some l) (h : Ev da ρ G b) (h' : Ev db ρ G (.int i)) : Ev (dOrV (dIsN da) (dOp (fInt gLe) db da)) ρ G (.bl (geO l i)) := by
  cases b <;> cases hb
  · exact .orT (.isN h)
  · exact .orF (.isN h) (.le h' h)
theorem is_within_ok (xs : List D) (G : Gm) (R : KD) (RX : XD) (h : sp_is_within xs G R RX) : withinR { nx := fun _ G => R .non G, rt := R } (xs.map some ++ List.replicate (3 - xs.length) none) G := by
  obtain ⟨x, a, b, l, m, rfl, hk, ha, hb, h⟩ := h
  refine ds_if (.not (.tst (.isInteger (.var rfl) hk))) ?_
  by_cases hx : isIntD x = true
  · cases x <;> cases hx
    rename_i i
    exact (Ev.and2 (bnd_le ha (.var rfl) (.var rfl)) fun _ => bnd_ge hb (.var rfl) (.var rfl)) _ h
  · rw [if_pos (by simpa using hx)]
    refine ds_ret .c ?_
    have e : withinD x l m = false := by cases x <;> first | rfl | exact absurd rfl hx
    rw [e] at h
    exact h
theorem is_list_ok (xs : List D) (G : Gm) (R : KD) (RX : XD) (h : sp_is_list xs G R RX) : dRet (dIsiT ["list", "tuple"] (dVar 0)) { nx := fun _ G => R .non G, rt := R } (xs.map some ++ List.replicate (1 - xs.length) none) G := by
  obtain ⟨x, rfl, hk, h⟩ := h
  obtain ⟨t, ht⟩ := kn_tyn hk
  refine ((Ev.isiT (.var rfl) ht).cast ?_) _ h
  cases x <;> cases ht <;> first | rfl | cases hk
theorem while_gcd {i j : Nat} (hij : i ≠ j) {da : DE} (hda : ∀ (ρ : En) (G : Gm) (p : Int), ρ[i]? = some (some (.int p)) → Ev da ρ G (.int p)) {E : DEnds} {ρ : En} {G : Gm} {p q : Nat} (h1 : ρ[i]? = some (some (.int p))) (h2 : ρ[j]? = some (some (.int q)))
    (k : ∀ ρ', ρ'[i]? = some (some (.int (Nat.gcd p q))) → E.nx ρ' G) : dWhile (dTst (dOp (fInt gGt) (dVar j) (dC (.int 0)))) (dPar i j (dCons (dVar j) (dCons (dOp (fIntC (fun _ j => 0 < j) fun i j => .int (i % j)) da (dVar j)) dNil))) E ρ G := by
  refine ⟨fun m ρ' G' => G' = G ∧ ∃ p' : Nat, ρ'[i]? = some (some (.int p')) ∧ ρ'[j]? = some (some (.int m)) ∧ Nat.gcd p' m = Nat.gcd p q, ⟨q, rfl, p, h1, h2, rfl⟩, ?_⟩
  rintro m ρ' G' ⟨rfl, p', r1, r2, e⟩
  refine (EvT.tst (.gt (.var r2) .c)) _ ?_
  by_cases h0 : 0 < m
  · rw [if_pos (by simpa using h0)]
    refine ds_par (.var r2) (.mod (hda _ _ _ r1) (.var r2) (by omega)) ?_
    refine ⟨p' % m, Nat.mod_lt _ h0, rfl, m, ?_, ?_, ?_⟩
    · rw [List.getElem?_set_ne (fun z => hij z.symm)]
      exact List.getElem?_set_self (by
        by_cases z : i < ρ'.length
        · exact z
        · rw [List.getElem?_eq_none (by omega)] at r1
          cases r1)
    · rw [List.getElem?_set_self (by
        rw [List.length_set]
        by_cases z : j < ρ'.length
        · exact z
        · rw [List.getElem?_eq_none (by omega)] at r2
          cases r2)]
      rfl
    · rw [← e, Nat.gcd_comm p' m, Nat.gcd_rec m p', Nat.gcd_comm]
  · rw [if_neg (by simpa using h0)]
    have m0 : m = 0 := by omega
    subst m0
    refine k ρ' ?_
    rw [← e, Nat.gcd_zero_right]
    exact r1
def commonR : DS := (dSeq (dPar 0 1 (dCons (dCal fAbs (dCons (dVar 0) dNil)) (dCons (dCal fAbs (dCons (dVar 1) dNil)) dNil))) (dSeq (dWhile (dTst (dOp (fInt gGt) (dVar 1) (dC (.int 0)))) (dPar 0 1 (dCons (dVar 1) (dCons (dOp (fIntC (fun _ j => 0 < j) fun i j => .int (i % j)) (dVar 0) (dVar 1)) dNil)))) (dRet (dVar 0))))
theorem common_ok (xs : List D) (G : Gm) (R : KD) (RX : XD) (h : sp_common xs G R RX) : commonR { nx := fun _ G => R .non G, rt := R } (xs.map some ++ List.replicate (2 - xs.length) none) G := by
  obtain ⟨i, j, rfl, h⟩ := h
  refine ds_par (.absN (.var rfl)) (.absN (.var rfl)) ?_
  refine while_gcd (by decide) (fun ρ G p h => .var h) rfl rfl fun ρ' h1 => ?_
  exact ds_ret (.var h1) h
def numberR : DS := (dSeq (dIfS (dNot (dTst (dCall sp_is_list X0 (dCons (dVar 0) dNil)))) (dRet (dCall sp_is_integer X0 (dCons (dVar 0) dNil))) dNext) (dSeq (dIfS (dOr (dTst (dOp fNe (dCal fLen (dCons (dVar 0) dNil)) (dC (.int 2)))) (dOr (dNot (dTst (dCall sp_is_integer X0 (dCons (dIx (dVar 0) (dC (.int 0))) dNil)))) (dNot (dTst (dCall sp_is_within X0 (dCons (dIx (dVar 0) (dC (.int 1))) (dCons (dC (.int 2)) (dCons (dC .non) dNil)))))))) (dRet (dC (.bl false))) dNext) (dRet (dOp fEq (dCall sp_common X0 (dCons (dIx (dVar 0) (dC (.int 0))) (dCons (dIx (dVar 0) (dC (.int 1))) dNil))) (dC (.int 1))))))
theorem rat_long {xs : List D} (h : xs.length ≠ 2) : pairD xs = none := by
  match xs, h with
  | [], _ => rfl
  | [a], _ => exact pair_1 a
  | [a, b], h => exact absurd rfl h
  | a :: b :: c :: r, _ => exact pair_3 a b c r
theorem knL_two {a b : D} (h : D.knL [a, b] = true) : a.kn = true ∧ b.kn = true := by
  simp only [D.knL, Bool.and_eq_true, and_true] at h
  exact h
theorem seq_kn {x : D} {ds : List D} (hx : x = .tup ds ∨ x = .lst ds) (hk : x.kn = true) : D.knL ds = true := by
  rcases hx with rfl | rfl
  · exact hk
  · exact hk
theorem seq_at {G : Gm} {x : D} {ds : List D} (hx : x = .tup ds ∨ x = .lst ds) : SeqAt G x ds := by
  rcases hx with rfl | rfl
  · exact seq_tup
  · exact seq_lst
theorem num_seq {x : D} {ds : List D} (hx : x = .tup ds ∨ x = .lst ds) : numD x = ratD (pairD ds) := by
  rcases hx with rfl | rfl <;> rfl
theorem is_number_ok (xs : List D) (G : Gm) (R : KD) (RX : XD) (h : sp_is_number xs G R RX) : numberR { nx := fun _ G => R .non G, rt := R } (xs.map some ++ List.replicate (1 - xs.length) none) G := by
  obtain ⟨x, rfl, hk, h⟩ := h
  refine ds_if (.not (.tst (.isList (.var rfl) hk))) ?_
  by_cases hx : isSeqD x = true
  · have hx2 : ∃ ds, x = .tup ds ∨ x = .lst ds := by cases x <;> first | exact ⟨_, .inl rfl⟩ | exact ⟨_, .inr rfl⟩ | cases hx
    obtain ⟨ds, hx2⟩ := hx2
    have hs : SeqAt G x ds := seq_at hx2
    have hd := seq_kn hx2 hk
    rw [num_seq hx2] at h
    rw [if_neg (by rw [hx]; decide)]
    by_cases h2 : ds.length = 2
    · match ds, h2 with
      | [a, b], h2 =>
        obtain ⟨ka, kb⟩ := knL_two hd
        by_cases ia : isIntD a = true
        · cases a <;> cases ia
          rename_i i
          by_cases ib : withinD b (some 2) none = true
          · cases b <;> first | cases ib | skip
            rename_i j
            refine ds_if (.orF ((EvT.tst (.neI (.len (.var rfl) hs) .c)).cast rfl) (.orF ((EvT.not (.tst (.isInteger (.at (.var rfl) .c hs rfl) ka))).cast rfl) ((EvT.not (.tst (.isWithin (.at (.var rfl) .c hs rfl) .c .c kb rfl rfl))).cast (by rw [ib])))) ?_
            refine ds_ret ((Ev.eqI (.common (.at (.var rfl) .c hs rfl) (.at (.var rfl) .c hs rfl)) .c).cast ?_) h
            have ib2 : (decide (2 ≤ j) && true) = true := ib
            rw [Bool.and_true] at ib2
            show D.bl _ = D.bl (decide (2 ≤ j) && decide (Int.gcd i j = 1))
            rw [ib2, Bool.true_and]
            congr 1
            exact decide_eq_decide.mpr (by omega)
          · refine ds_if (.orF ((EvT.tst (.neI (.len (.var rfl) hs) .c)).cast rfl) (.orF ((EvT.not (.tst (.isInteger (.at (.var rfl) .c hs rfl) ka))).cast rfl) ((EvT.not (.tst (.isWithin (.at (.var rfl) .c hs rfl) .c .c kb rfl rfl))).cast (k := true) (by simpa using ib)))) ?_
            refine ds_ret .c ?_
            have e : ratD (pairD [.int i, b]) = false := by
              cases b <;> first | rfl | skip
              rename_i j
              have ib2 : ¬ (decide (2 ≤ j) && true) = true := ib
              rw [Bool.and_true] at ib2
              show (decide (2 ≤ j) && _) = false
              rw [Bool.eq_false_iff.mpr ib2, Bool.false_and]
            rw [e] at h
            exact h
        · refine ds_if (.orF ((EvT.tst (.neI (.len (.var rfl) hs) .c)).cast rfl) (.orT ((EvT.not (.tst (.isInteger (.at (.var rfl) .c hs rfl) ka))).cast (by simpa using ia)))) ?_
          refine ds_ret .c ?_
          rw [pair_2a a b (by simpa using ia)] at h
          exact h
    · refine ds_if (.orT ((EvT.tst (.neI (.len (.var rfl) hs) .c)).cast ?_)) ?_
      · rw [Bool.not_eq_true', decide_eq_false_iff_not]
        omega
      · refine ds_ret .c ?_
        rw [rat_long h2] at h
        exact h
  · rw [if_pos (by simpa using hx)]
    refine ds_ret (.isInteger (.var rfl) hk) ?_
    have e : numD x = isIntD x := by cases x <;> first | rfl | exact absurd rfl hx
    rw [e] at h
    exact h
end DL
namespace DL
open PySem PySem.Spec PyProof.Rows L2 Evl
variable [TabC]
structure Df (K : PySem.W.Frag) (mg : Str → Option Value) (x : Str) (st : Stmt) : Prop where
  g : mg x = some (.ref (He.ga K x))
  f : ∃ fd, FunD K x x (defArgs st) (defBody st) (defScope st) [] [] (He.ga K x) fd
theorem fund_one {K : PySem.W.Frag} {x qual : Str} {params : Arguments} {body : List Stmt} {scope : Scope} {dvs : List V} {kws : List (Str × V)} {f : Addr} {fd fd' : FuncData} (F : FunD K x qual params body scope dvs kws f fd) (F' : FunD K x qual params body scope dvs kws f fd') : fd = fd' := by
  obtain ⟨oc, od, dV, kV, doc, pm, an, cdv, ct, osl, _, lk, _⟩ := F.ex
  obtain ⟨oc', od', dV', kV', doc', pm', an', cdv', ct', osl', _, lk', _⟩ := F'.ex
  have e := lk.symm.trans lk'
  injection e with e
  injection e with _ _ e _
  injection e
structure TabF (K : PySem.W.Frag) (h : Heap) : Prop where
  ok : TabOk K
  empty : ∀ n ∈ TabC.tf, h.get? (He.cT K (n, none)).2 = some (tabO #[])
  out : ∀ n ∈ TabC.tf, K.lookup (He.cT K (n, none)).2 = none
  hd : ∀ n ∈ TabC.tf, PySem.W.CodeHd h (He.cT K (n, none)).1 (He.cT K (n, none)).2
def TabsB (K : PySem.W.Frag) (base : Heap) (mg : Str → Option Value) : Prop := ∀ n ∈ TabC.tf, LamX.TabB base mg (He.cT K (n, none)).1 (He.cT K (n, none)).2
theorem law_of {P : Program} {w : World} {K : PySem.W.Frag} {mg : Str → Option Value} {fa : Addr} {st : Stmt} {y : Str} {k : Nat} {h : Heap} (hm : mg ("law" : Str) = some (.ref fa)) (F : Df K mg "law" st) (T : TabF K h)
    (hb : ∀ (kV doc pm : Value) (an : Option Addr) (cdv ct : Value) (us : List Value), us.length = [y].length → bindArgs (PySem.W.fnOf "law" "law" (defArgs st) (defBody st) (defScope st) .none kV doc pm an cdv ct) ⟨us, []⟩ = pure ([y].zip us))
    (kn : ∀ base : Heap, TabsB K base mg → Kn P w K mg base k "law" st [y] lawSp) : ∃ (fd : FuncData) (sp : Sp) (ct : List (Addr × Addr)), (∀ q ∈ ct, h.get? q.2 = some (tabO #[])) ∧ (∀ q ∈ ct, K.lookup q.2 = none) ∧ (∀ q ∈ ct, PySem.W.CodeHd h q.1 q.2) ∧ (∀ (s : Shared) (u : Value), BindsTo s fd ⟨[u], []⟩ [(y, u)]) ∧
      (∀ (Hd H : Hp) (a : Addr) (ns : List Int), ns.length ≤ 63 → Ex Hd H → (∀ q ∈ ct, H q.2 = some (.tbl #[]) ∧ Hd q.2 = none) → SqL K Hd a (ns.map V.int) → sp [.ref a] H (fun v _ => v = .bl true) fun _ _ _ => False) ∧
      ∀ base : Heap, K.In base → base.Ns mainGlobals mg → (∀ q ∈ ct, LamX.TabB base mg q.1 q.2) → FnG P w K mg base k fa fd [y] sp := by
  obtain ⟨fd, FD⟩ := F.f
  have e := hm.symm.trans F.g
  cases e
  have of : ∀ {q : Addr × Addr}, q ∈ (TabC.tf.map fun n => He.cT K (n, none)) → ∃ n ∈ TabC.tf, He.cT K (n, none) = q := fun hq => List.mem_map.mp hq
  refine ⟨fd, spU K lawSp, TabC.tf.map fun n => He.cT K (n, none), fun q hq => ?_, fun q hq => ?_, fun q hq => ?_, fun s u => FunD.bindsA (ps := [y]) FD hb s [u] rfl, fun Hd H a ns hl ee ht hS => law_sp hl T.ok ee (fun p hp => ?_) hS, fun base _ _ ht => ?_⟩
  · obtain ⟨n, hn, rfl⟩ := of hq
    exact T.empty n hn
  · obtain ⟨n, hn, rfl⟩ := of hq
    exact T.out n hn
  · obtain ⟨n, hn, rfl⟩ := of hq
    exact T.hd n hn
  · obtain ⟨n, hn, rfl⟩ := List.mem_map.mp hp
    exact ht (He.cT K (n, none)) (List.mem_map_of_mem hn)
  · obtain ⟨fd', FD', G⟩ := (kn base fun n hn => ht _ (List.mem_map_of_mem hn)).fn
    rw [fund_one FD FD']
    exact G
end DL
namespace DL
open PySem PySem.Spec PyProof.Rows L2 Evl
variable [TabC]
section
variable {P : Program} {w : World} {K : PySem.W.Frag} {mg : Str → Option Value} {base : Heap}
end
section
variable {X : Cx} {B : Bs} {pos p : Pos} {a b c e : Expr} {es : List Expr} {da db dc de : DE} {dA : DA}
theorem RpL.rev {K : PySem.W.Frag} {H : Hp} {vs : List V} {ds : List D} (r : RpL K H vs ds) : RpL K H vs.reverse ds.reverse := by
  induction vs generalizing ds with
  | nil =>
    cases r
    exact .nil
  | cons v vs ih =>
    cases r with
    | cons a b =>
      rw [List.reverse_cons, List.reverse_cons]
      exact (ih b).app (.cons a .nil)
def zipD (xs ys : List D) : List D := List.zipWith (fun x y => D.tup [x, y]) xs ys
def dIZip (dA : DA) : DI := fun ρ G S => dA ρ G fun vs G1 => ∃ xs ys, (vs = [.lst xs, .lst ys] ∨ vs = [.tup xs, .tup ys]) ∧ S (zipD xs ys) G1
theorem zip_at {xs ys : List D} {i : Nat} {d : D} (h : (zipD xs ys)[i]? = some d) : ∃ x y, xs[i]? = some x ∧ ys[i]? = some y ∧ d = .tup [x, y] := by
  unfold zipD at h
  rw [List.getElem?_zipWith] at h
  cases hx : xs[i]? with
  | none =>
    rw [hx] at h
    cases h
  | some x =>
    cases hy : ys[i]? with
    | none =>
      rw [hx, hy] at h
      cases h
    | some y =>
      rw [hx, hy] at h
      exact ⟨x, y, rfl, rfl, (Option.some.inj h).symm⟩
end
end DL
namespace DL
open PySem PySem.Spec PyProof.Rows L2 Evl
variable [TabC]
theorem eqv_self {x : D} (h : x.lay = true) : D.eqv x x = true := by
  obtain ⟨p, e, h1, _⟩ := py_lay x h
  rw [eqv_of e e]
  exact SeqAt.eqv_refl p h1
section
variable {ρ : En} {G : Gm} {da db dc : DE} {x y z : D}
theorem feq_cmp (hx : Cmp x) (hy : Cmp y) (h : ∀ i, x ≠ .int i) (h2 : ∀ i, x ≠ .str i) (h3 : ∀ i, x ≠ .bl i) : fEq x y (.bl (D.eqv x y)) := by
  unfold fEq
  split
  · exact absurd rfl (h _)
  · exact absurd rfl (h2 _)
  · exact absurd rfl (h3 _)
  · exact ⟨hx, hy, rfl⟩
theorem fne_cmp (hx : Cmp x) (hy : Cmp y) (h : ∀ i, x ≠ .int i) (h2 : ∀ i, x ≠ .str i) (h3 : ∀ i, x ≠ .bl i) : fNe x y (.bl (!D.eqv x y)) := by
  unfold fNe
  split
  · exact absurd rfl (h _)
  · exact absurd rfl (h2 _)
  · exact absurd rfl (h3 _)
  · exact ⟨hx, hy, rfl⟩
theorem Ev.tupOf {xs : List D} (ha : Ev da ρ G x) (h : SeqAt G x xs) : Ev (dCal fTupOf (dCons da dNil)) ρ G (.tup xs) := .cal (.one ha) ⟨x, xs, rfl, h, rfl⟩
theorem Ev.chosen {t : DT} {k : Bool} (ht : EvT t ρ G k) (h1 : k = true → Ev da ρ G z) (h2 : k = false → Ev db ρ G z) : Ev (dIf t da db) ρ G z := fun R r => ht _ (by
  cases k with
  | true => exact h1 rfl _ r
  | false => exact h2 rfl _ r)
end
def numI (x : D) : Int × Int := match x with
  | .int i => (i, 1)
  | .tup xs => (pairD xs).getD (0, 1)
  | .lst xs => (pairD xs).getD (0, 1)
  | _ => (0, 1)
def lowD (a u : Int) : D := if u / (Int.gcd a u : Int) = 1 then .int (a / (Int.gcd a u : Int)) else .tup [.int (a / (Int.gcd a u : Int)), .int (u / (Int.gcd a u : Int))]
theorem gcd_facts {a u : Int} (hu : 0 < u) : ∃ g n d : Int, (Int.gcd a u : Int) = g ∧ 0 < g ∧ a = g * n ∧ u = g * d ∧ 0 < d ∧ a / g = n ∧ u / g = d ∧ Int.gcd n d = 1 ∧ g ≤ u := by
  have hg : 0 < Int.gcd a u := Int.gcd_pos_of_ne_zero_right a (by omega)
  have hg' : (0 : Int) < (Int.gcd a u : Int) := by omega
  obtain ⟨n, hn⟩ := Int.gcd_dvd_left a u
  obtain ⟨d, hd⟩ := Int.gcd_dvd_right a u
  have e1 : a / (Int.gcd a u : Int) = n := by
    conv => lhs; lhs; rw [hn]
    exact Int.mul_ediv_cancel_left n (by omega)
  have e2 : u / (Int.gcd a u : Int) = d := by
    conv => lhs; lhs; rw [hd]
    exact Int.mul_ediv_cancel_left d (by omega)
  have hd0 : 0 < d := by
    refine Int.pos_of_mul_pos_left ?_ hg'
    rw [Int.mul_comm, ← hd]
    exact hu
  refine ⟨_, n, d, rfl, hg', hn, hd, hd0, e1, e2, ?_, ?_⟩
  · have h := Int.gcd_ediv_gcd_ediv_gcd hg
    rw [e1, e2] at h
    exact h
  · have h1 : (Int.gcd a u : Int) * 1 ≤ (Int.gcd a u : Int) * d := Int.mul_le_mul_of_nonneg_left (by omega) (by omega)
    rw [← hd] at h1
    omega
def sp_lowest_in : DSp := fun xs G R _ => ∃ a u : Int, xs = [.int a, .int u] ∧ 0 < u ∧ u < 2 ^ 8000 ∧ R (lowD a u) G
end DL
namespace DL
open PySem PySem.Spec PyProof.Rows L2 Evl
variable [TabC]
def keptD (x : D) : D := match x with
  | .lst xs => .tup xs
  | x => x
def sp_kept_number : DSp := fun xs G R _ => ∃ x : D, xs = [x] ∧ x.kn = true ∧ R (keptD x) G
def keptR : DS := (dRet (dIf (dTst (dCall sp_is_list X0 (dCons (dVar 0) dNil))) (dCal fTupOf (dCons (dVar 0) dNil)) (dVar 0)))
theorem kept_number_ok (xs : List D) (G : Gm) (R : KD) (RX : XD) (h : sp_kept_number xs G R RX) : keptR { nx := fun _ G => R .non G, rt := R } (xs.map some ++ List.replicate (1 - xs.length) none) G := by
  obtain ⟨x, rfl, hk, h⟩ := h
  refine ds_ret (x := keptD x) (.chosen (.tst (.isList (.var rfl) hk)) (fun e => ?_) fun e => ?_) h
  · cases x <;> first | cases e | skip
    · exact .tupOf (.var rfl) seq_tup
    · exact .tupOf (.var rfl) seq_lst
  · cases x <;> first | exact .var rfl | cases e
def wh (d : D) (p : Int) : Int := (numI d).1 * p / (numI d).2
def tupI (is : List Int) : D := .tup (is.map D.int)
theorem nat_mul_lt {x y j k : Nat} (h : x < 2 ^ j) (h' : y < 2 ^ k) : x * y < 2 ^ (j + k) := by
  rw [Nat.pow_add]
  exact Nat.mul_lt_mul'' h h'
def subL (is js : List Int) : List Int := List.zipWith (fun i j => i - j) is js
def sp_gone : DSp := fun xs G R _ => ∃ is js : List Int, xs = [tupI is, tupI js] ∧ is.length ≤ 1000000 ∧ R (tupI (subL is js)) G
def goneR : DS := (dRet (dCal fTupOf (dCons (dCmp (dIZip (dCons (dVar 0) (dCons (dVar 1) dNil))) (gSeq 2 (gCons (gN 2) (gCons (gN 3) gNil))) dYes (dOp (fInt fun i j => .int (i - j)) (dVar 2) (dVar 3)) [2, 3]) dNil)))
theorem cmpL_mapG {ρ0 : En} {g : DG} {de : DE} {S : List D → Gm → Prop} {G : Gm} (f : D → D) : ∀ {xs acc : List D}, (∀ x ∈ xs, ∀ S' : KD, S' (f x) G → g x ρ0 G fun ρ1 G1 => de ρ1 G1 S') → acc.length + xs.length ≤ sizeLine → S (acc ++ xs.map f) G → cmpL ρ0 g dYes de xs acc G S
  | [], acc, _, _, h => by
    rw [List.map_nil, List.append_nil] at h
    exact h
  | x :: xs, acc, hf, hz, h => by
    rw [List.length_cons] at hz
    refine hf x List.mem_cons_self (fun y G3 => acc.length < sizeLine ∧ cmpL ρ0 g dYes de xs (acc ++ [y]) G3 S) ⟨by omega, cmpL_mapG f (fun y hy => hf y (List.mem_cons_of_mem _ hy)) (by rw [List.length_append, List.length_singleton]; omega) ?_⟩
    rw [List.append_assoc, List.singleton_append]
    exact h
theorem gone_ok (xs : List D) (G : Gm) (R : KD) (RX : XD) (h : sp_gone xs G R RX) : goneR { nx := fun _ G => R .non G, rt := R } (xs.map some ++ List.replicate (4 - xs.length) none) G := by
  obtain ⟨is, js, rfl, hl, h⟩ := h
  refine ds_ret (x := tupI (subL is js)) (.tupOf (xs := (subL is js).map D.int) ?_ seq_lst) h
  intro R2 r
  refine ⟨_, rfl, _, rfl, is.map D.int, js.map D.int, .inr rfl, ?_⟩
  refine cmpL_mapG (fun d => match d with | .tup [.int a, .int b] => .int (a - b) | _ => .non) (fun x hx S' hS => ?_) ?_ ?_
  · obtain ⟨i, hi⟩ := List.getElem?_of_mem hx
    obtain ⟨a, b, ha, hb, rfl⟩ := zip_at hi
    rw [List.getElem?_map] at ha hb
    cases ea : is[i]? with
    | none =>
      rw [ea] at ha
      cases ha
    | some a' =>
      cases eb : js[i]? with
      | none =>
        rw [eb] at hb
        cases hb
      | some b' =>
        rw [ea] at ha
        rw [eb] at hb
        cases ha
        cases hb
        exact ⟨_, seq_tup, rfl, _, _, rfl, _, _, rfl, rfl, (Ev.sub (.var rfl) (.var rfl)) _ hS⟩
  · unfold zipD
    rw [List.length_zipWith, List.length_map, List.length_map, List.length_nil, sizeLine_eq]
    omega
  · have e : ∀ is js : List Int, (zipD (is.map D.int) (js.map D.int)).map (fun d => match d with | .tup [.int a, .int b] => D.int (a - b) | _ => .non) = (subL is js).map D.int := fun is => by
      induction is with
      | nil => intro js; rfl
      | cons i is ih =>
        intro js
        cases js with
        | nil => rfl
        | cons j js => exact congrArg (D.int (i - j) :: ·) (ih js)
    rw [List.nil_append, e]
    exact r
section
variable {ρ : En} {G : Gm} {da db dc : DE} {ds : List D} {p q : Int}
end
section
variable {ρ : En} {G : Gm} {da db dc : DE} {ds : List D} {p first : Int} {n : Nat} {x : D}
end
section
variable {ρ : En} {G : Gm} {da db dc : DE} {ds : List D} {p first many : Int} {n : Nat} {x : D}
end
end DL
namespace DL
open PySem PySem.Spec PyProof.Rows L2 Evl
variable [TabC]
theorem while_gcd2 {i j : Nat} (hij : i ≠ j) {da : DE} (hda : ∀ (ρ : En) (G : Gm) (p : Int), ρ[i]? = some (some (.int p)) → Ev da ρ G (.int p)) {E : DEnds} {ρ : En} {G : Gm} {p q : Nat} (h1 : ρ[i]? = some (some (.int p))) (h2 : ρ[j]? = some (some (.int q)))
    (k : ∀ ρ', ρ'[i]? = some (some (.int (Nat.gcd p q))) → (∀ l, l ≠ i → l ≠ j → ρ'[l]? = ρ[l]?) → E.nx ρ' G) : dWhile (dTst (dOp (fInt gGt) (dVar j) (dC (.int 0)))) (dPar i j (dCons (dVar j) (dCons (dOp (fIntC (fun _ j => 0 < j) fun i j => .int (i % j)) da (dVar j)) dNil))) E ρ G := by
  refine ⟨fun m ρ' G' => G' = G ∧ (∃ p' : Nat, ρ'[i]? = some (some (.int p')) ∧ ρ'[j]? = some (some (.int m)) ∧ Nat.gcd p' m = Nat.gcd p q) ∧ ∀ l, l ≠ i → l ≠ j → ρ'[l]? = ρ[l]?, ⟨q, rfl, ⟨p, h1, h2, rfl⟩, fun _ _ _ => rfl⟩, ?_⟩
  rintro m ρ' G' ⟨rfl, ⟨p', r1, r2, e⟩, ho⟩
  have inl : ∀ {l : Nat} {x : Option D}, ρ'[l]? = some x → l < ρ'.length := fun {l x} h => by
    by_cases z : l < ρ'.length
    · exact z
    · rw [List.getElem?_eq_none (by omega)] at h
      cases h
  refine (EvT.tst (.gt (.var r2) .c)) _ ?_
  by_cases h0 : 0 < m
  · rw [if_pos (by simpa using h0)]
    refine ds_par (.var r2) (.mod (hda _ _ _ r1) (.var r2) (by omega)) ?_
    refine ⟨p' % m, Nat.mod_lt _ h0, rfl, ⟨m, ?_, ?_, ?_⟩, fun l l1 l2 => ?_⟩
    · rw [List.getElem?_set_ne (fun z => hij z.symm)]
      exact List.getElem?_set_self (inl r1)
    · rw [List.getElem?_set_self (by rw [List.length_set]; exact inl r2)]
      rfl
    · rw [← e, Nat.gcd_comm p' m, Nat.gcd_rec m p', Nat.gcd_comm]
    · rw [List.getElem?_set_ne (fun z => l2 z.symm), List.getElem?_set_ne (fun z => l1 z.symm), ho l l1 l2]
  · rw [if_neg (by simpa using h0)]
    have m0 : m = 0 := by omega
    subst m0
    refine k ρ' ?_ ho
    rw [← e, Nat.gcd_zero_right]
    exact r1
section
variable {ρ : En} {a : Addr} {j k : Nat} {da db : DE} {dA : DA} {P P2 P3 : D → Prop} {PL : List D → Prop}
end
end DL
namespace MZ
open PySem PySem.Spec PyProof.Rows L2
open PySem.Sem (wp)
section
variable {prog : Program} {w : World} {A : Around} {E : Value → Shared → Prop} {s : Shared}
end
section
variable {prog : Program} {w : World} {A : Around} {E : Value → Shared → Prop} {s : Shared}
end
section
variable {X : Cx} {pins : List (Addr × Obj)} {σ : L2.St} {H : Hp} {s : Shared}
end
end MZ
namespace DL
open PySem PySem.Spec PyProof.Rows L2 Evl
variable [TabC]
end DL
namespace DL
open PySem PySem.Spec PyProof.Rows L2 Evl
variable [TabC]
end DL
namespace DL
open PySem PySem.Spec PyProof.Rows L2 Evl
variable [TabC]
section
variable {ρ : En} {G : Gm} {a : Addr} {j k : Nat} {da db dc : DE} {P : D → Prop}
end
end DL
namespace DL
open PySem PySem.Spec PyProof.Rows L2 Evl
variable [TabC]
end DL
namespace MZ
open PySem PySem.Spec PyProof.Rows L2
open PySem.Sem (wp)
section
variable {prog : Program} {w : World} {A : Around} {E : Value → Shared → Prop} {s : Shared}
end
section
variable {prog : Program} {w : World} {A : Around} {E : Value → Shared → Prop} {s : Shared}
end
end MZ
namespace DL
open PySem PySem.Spec PyProof.Rows L2 Evl
variable [TabC]
end DL
namespace DL
open PySem PySem.Spec PyProof.Rows L2 Evl
variable [TabC]
end DL
namespace DL
open PySem PySem.Spec PyProof.Rows L2 Evl
variable [TabC]
end DL
namespace DL
open PySem PySem.Spec PyProof.Rows L2 Evl
variable [TabC]
end DL
namespace DL
open PySem PySem.Spec PyProof.Rows L2 Evl
variable [TabC]
section
variable {X : Cx} {B : Bs} {o e : Expr} {dobj de : DE} {pos p : Pos}
end
end DL
namespace MZ
open PySem PySem.Spec PyProof.Rows L2
end MZ
namespace DL
open PySem PySem.Spec PyProof.Rows L2 Evl
variable [TabC]
end DL
namespace DL
open PySem PySem.Spec PyProof.Rows L2 Evl
variable [TabC]
section
variable {X : Cx} {B : Bs} {pos pp : Pos} {a : Expr} {da : DE} {j : Nat}
theorem ptd_isN (ha : PE X a (upE X.K B da)) : PT X (.Compare a [.Is] [.Constant .none j pp] pos) (upT X.K B (dTst (dIsN da))) := pt_imp (pt_cmp (pc_isN ha) rfl) fun σ H Q h => isn_imp σ H _ (tst_imp σ H Q h)
end
end DL
namespace DL
open PySem PySem.Spec PyProof.Rows L2 Evl
variable [TabC]
end DL
namespace DL
open PySem PySem.Spec PyProof.Rows L2 Evl
variable [TabC]
mutual
/-- data of which == tells just whether they are the same -/
def D.pln : D → Bool
  | .non => true
  | .int _ => true
  | .str _ => true
  | .tup xs => D.plnL xs
  | .lst xs => D.plnL xs
  | _ => false
def D.plnL : List D → Bool
  | [] => true
  | x :: xs => D.pln x && D.plnL xs
end
mutual
theorem eqv_pln : ∀ (x y : D) (p q : PyData), x.pln = true → y.pln = true → x.py = some p → y.py = some q → (PyData.eqv p q = true ↔ x = y)
  | .non, y, p, q, _, hy, hp, hq => by
    cases y <;> first | (cases hy; done) | (cases hp; cases hq; simp [PyData.eqv]; done) | (cases hp; simp only [D.py, Option.map_eq_some_iff] at hq; obtain ⟨_, _, rfl⟩ := hq; simp [PyData.eqv])
  | .int i, y, p, q, _, hy, hp, hq => by
    cases y <;> first | (cases hy; done) | (cases hp; cases hq; simp [PyData.eqv]; done) | (cases hp; simp only [D.py, Option.map_eq_some_iff] at hq; obtain ⟨_, _, rfl⟩ := hq; simp [PyData.eqv])
  | .str i, y, p, q, _, hy, hp, hq => by
    cases y <;> first | (cases hy; done) | (cases hp; cases hq; simp [PyData.eqv]; done) | (cases hp; simp only [D.py, Option.map_eq_some_iff] at hq; obtain ⟨_, _, rfl⟩ := hq; simp [PyData.eqv])
  | .tup xs, y, p, q, hx, hy, hp, hq => by
    simp only [D.py, Option.map_eq_some_iff] at hp
    obtain ⟨ps, hps, rfl⟩ := hp
    cases y with
    | tup ys =>
      simp only [D.py, Option.map_eq_some_iff] at hq
      obtain ⟨qs, hqs, rfl⟩ := hq
      have := eqv_plnL xs ys ps qs hx hy hps hqs
      simp only [PyData.eqv, this, D.tup.injEq]
    | lst ys =>
      simp only [D.py, Option.map_eq_some_iff] at hq
      obtain ⟨qs, hqs, rfl⟩ := hq
      simp [PyData.eqv]
    | _ => first | (cases hy; done) | (cases hq; simp [PyData.eqv])
  | .lst xs, y, p, q, hx, hy, hp, hq => by
    simp only [D.py, Option.map_eq_some_iff] at hp
    obtain ⟨ps, hps, rfl⟩ := hp
    cases y with
    | lst ys =>
      simp only [D.py, Option.map_eq_some_iff] at hq
      obtain ⟨qs, hqs, rfl⟩ := hq
      have := eqv_plnL xs ys ps qs hx hy hps hqs
      simp only [PyData.eqv, this, D.lst.injEq]
    | tup ys =>
      simp only [D.py, Option.map_eq_some_iff] at hq
      obtain ⟨qs, hqs, rfl⟩ := hq
      simp [PyData.eqv]
    | _ => first | (cases hy; done) | (cases hq; simp [PyData.eqv])
  | .bl _, _, _, _, hx, _, _, _ => by cases hx
  | .ty _, _, _, _, hx, _, _, _ => by cases hx
  | .ref _, _, _, _, hx, _, _, _ => by cases hx
  | .dct _ _, _, _, _, hx, _, _, _ => by cases hx
  | .ins _ _ _, _, _, _, hx, _, _, _ => by cases hx
  | .exc _ _ _, _, _, _, hx, _, _, _ => by cases hx
  | .fnc _, _, _, _, hx, _, _, _ => by cases hx
  | .rng _ _, _, _, _, hx, _, _, _ => by cases hx
theorem eqv_plnL : ∀ (xs ys : List D) (ps qs : List PyData), D.plnL xs = true → D.plnL ys = true → D.pyL xs = some ps → D.pyL ys = some qs → (PyData.eqvAll ps qs = true ↔ xs = ys)
  | [], [], ps, qs, _, _, hp, hq => by
    cases hp
    cases hq
    simp [PyData.eqvAll]
  | [], y :: ys, ps, qs, _, hy, hp, hq => by
    cases hp
    cases h : D.py y with
    | none => simp only [D.pyL, h] at hq; cases hq
    | some u =>
      cases h2 : D.pyL ys with
      | none => simp only [D.pyL, h, h2] at hq; cases hq
      | some us =>
        simp only [D.pyL, h, h2, Option.some.injEq] at hq
        subst hq
        simp [PyData.eqvAll]
  | x :: xs, [], ps, qs, _, hy, hp, hq => by
    cases hq
    cases h : D.py x with
    | none => simp only [D.pyL, h] at hp; cases hp
    | some u =>
      cases h2 : D.pyL xs with
      | none => simp only [D.pyL, h, h2] at hp; cases hp
      | some us =>
        simp only [D.pyL, h, h2, Option.some.injEq] at hp
        subst hp
        simp [PyData.eqvAll]
  | x :: xs, y :: ys, ps, qs, hx, hy, hp, hq => by
    have hx2 : (x.pln && D.plnL xs) = true := hx
    have hy2 : (y.pln && D.plnL ys) = true := hy
    rw [Bool.and_eq_true] at hx2 hy2
    cases h : D.py x with
    | none => simp only [D.pyL, h] at hp; cases hp
    | some u =>
      cases h2 : D.pyL xs with
      | none => simp only [D.pyL, h, h2] at hp; cases hp
      | some us =>
        cases h3 : D.py y with
        | none => simp only [D.pyL, h3] at hq; cases hq
        | some v =>
          cases h4 : D.pyL ys with
          | none => simp only [D.pyL, h3, h4] at hq; cases hq
          | some vs =>
            simp only [D.pyL, h, h2, Option.some.injEq] at hp
            simp only [D.pyL, h3, h4, Option.some.injEq] at hq
            subst hp hq
            have e1 := eqv_pln x y u v hx2.1 hy2.1 h h3
            have e2 := eqv_plnL xs ys us vs hx2.2 hy2.2 h2 h4
            simp only [PyData.eqvAll, Bool.and_eq_true, e1, e2, List.cons.injEq]
end
mutual
theorem py_pln : ∀ x : D, x.pln = true → ∃ p, x.py = some p
  | .non, _ => ⟨_, rfl⟩
  | .int _, _ => ⟨_, rfl⟩
  | .str _, _ => ⟨_, rfl⟩
  | .tup xs, h => by
    obtain ⟨ps, e⟩ := py_plnL xs h
    exact ⟨.tuple ps, by simp only [D.py, e, Option.map_some]⟩
  | .lst xs, h => by
    obtain ⟨ps, e⟩ := py_plnL xs h
    exact ⟨.list ps, by simp only [D.py, e, Option.map_some]⟩
  | .bl _, h => by cases h
  | .ty _, h => by cases h
  | .ref _, h => by cases h
  | .dct _ _, h => by cases h
  | .ins _ _ _, h => by cases h
  | .exc _ _ _, h => by cases h
  | .fnc _, h => by cases h
  | .rng _ _, h => by cases h
theorem py_plnL : ∀ xs : List D, D.plnL xs = true → ∃ ps, D.pyL xs = some ps
  | [], _ => ⟨[], rfl⟩
  | x :: xs, h => by
    have h2 : (x.pln && D.plnL xs) = true := h
    rw [Bool.and_eq_true] at h2
    obtain ⟨p, e⟩ := py_pln x h2.1
    obtain ⟨ps, es⟩ := py_plnL xs h2.2
    exact ⟨p :: ps, by simp only [D.pyL, e, es]⟩
end
theorem eqv_iff {x y : D} (hx : x.pln = true) (hy : y.pln = true) : D.eqv x y = true ↔ x = y := by
  obtain ⟨p, hp⟩ := py_pln x hx
  obtain ⟨q, hq⟩ := py_pln y hy
  rw [eqv_of hp hq]
  exact eqv_pln x y p q hx hy hp hq
section
variable {ρ : En} {G : Gm} {da db dc : DE} {dA : DA} {x y z : D} {xs : List D} {ta tb : DT} {j k : Bool}
end
end DL
namespace DL
open PySem PySem.Spec PyProof.Rows L2 Evl
variable [TabC]
class Bd (i : Int) (k : outParam Nat) : Prop where
  h : i.natAbs < 2 ^ k
class Ps (i : Int) : Prop where
  h : 0 < i
section
variable {i j : Int} {a b : Nat}
theorem two_le (k l : Nat) : 2 ^ k ≤ 2 ^ (max k l) ∧ 2 ^ l ≤ 2 ^ (max k l) := ⟨Nat.pow_le_pow_right (by decide) (Nat.le_max_left k l), Nat.pow_le_pow_right (by decide) (Nat.le_max_right k l)⟩
instance bd_lit {n : Nat} : Bd (no_index (@OfNat.ofNat Int n instOfNat)) (n.log2 + 1) := ⟨by
  show (Int.natAbs (n : Int)) < _
  rw [Int.natAbs_natCast]
  exact Nat.lt_log2_self⟩
instance bd_add [x : Bd i a] [y : Bd j b] : Bd (i + j) (max a b + 1) := ⟨by
  have h1 := x.h
  have h2 := y.h
  have h3 := two_le a b
  rw [Nat.pow_succ]
  omega⟩
instance bd_sub [x : Bd i a] [y : Bd j b] : Bd (i - j) (max a b + 1) := ⟨by
  have h1 := x.h
  have h2 := y.h
  have h3 := two_le a b
  rw [Nat.pow_succ]
  omega⟩
instance bd_neg [x : Bd i a] : Bd (-i) a := ⟨by rw [Int.natAbs_neg]; exact x.h⟩
instance bd_mul [x : Bd i a] [y : Bd j b] : Bd (i * j) (a + b) := ⟨by
  rw [Int.natAbs_mul]
  exact nat_mul_lt x.h y.h⟩
instance bd_div [x : Bd i a] : Bd (i / j) a := ⟨Nat.lt_of_le_of_lt (Int.natAbs_ediv_le_natAbs i j) x.h⟩
instance bd_pow {n : Nat} [x : Bd i a] : Bd (i ^ n) (a * n + 1) := ⟨by
  have h1 : (i ^ n).natAbs ≤ (2 ^ a) ^ n := by
    rw [Int.natAbs_pow]
    exact Nat.pow_le_pow_left (Nat.le_of_lt x.h) n
  rw [Nat.pow_succ, Nat.pow_mul]
  have h2 : 0 < (2 ^ a) ^ n := Nat.pow_pos (Nat.pow_pos (by decide))
  omega⟩
theorem mul_bd [x : Bd i a] [y : Bd j b] (h : a + b ≤ 134217728 := by first | decide | decide +kernel | omega) : IntMulOk i j := mul_both x.h y.h h
theorem pow_bd [x : Bd i a] (h0 : 0 ≤ j) (h : (a : Int) * j ≤ 2 ^ 27) : CPw i j := pow_ok x.h h0 h
end
end DL
namespace Sup
open PySem PySem.Spec PySem.Calls PyProof.Rows L2 PySem.W
structure ScopeS (N ps : List Str) (sc : Scope) : Prop where
  kind : sc.kind = .function
  co : sc.isCoroutine = false
  gen : sc.isGenerator = false
  nd : N.Nodup
  pre : N.take ps.length = ps
  par : ∀ x ∈ ps, sc.names.lookup x = some .local
  nocell : ∀ y ∈ sc.names, y.2 ≠ .cell
  one : ∀ y ∈ sc.names, y.2 = .free → y.1 = "__class__"
  sup : sc.names.lookup ("super" : Str) = some .globalImplicit
  own : sc.names.lookup ("__class__" : Str) = some .free
def cxS (CX : CXT) (P : Program) (w : World) (K : PySem.W.Frag) (mg : Str → Option Value) (base : Heap) (N : List Str) (qual : Str) (scope : Scope) (f : Addr) (cd : Value) (cc : Addr) (A : Around) (outer : List Env) (s : Shared) (H : Hp) (E : XK) : Cx where
  prog := P
  w := w
  K := K
  mg := mg
  base := base
  A := A.deeper (ksEnv qual scope s.heap.objs.size f cd cc)
  N := N
  s_0 := s
  H_0 := H
  env := ksEnv qual scope s.heap.objs.size f cd cc
  outer := outer
  stack := ksEnv qual scope s.heap.objs.size f cd cc :: outer
  ex := []
  calm := true
  fn := fun _ => false
  pn := []
  xe := fun e s' => wpAny (model P w) (A.deeper (ksEnv qual scope s.heap.objs.size f cd cc)) (leaving (ksEnv qual scope s.heap.objs.size f cd cc) e) (fun _ s'' => CX outer H s E e s'') (fun e' s'' => CX outer H s E e' s'') s'
theorem look_nd {y : Str} {u : Value} : ∀ {l : List (Str × Value)}, (l.map (·.1)).Nodup → (y, u) ∈ l → l.lookup y = some u
  | [], _, h => nomatch h
  | (z, v) :: l, nd, h => by
    rw [List.map_cons, List.nodup_cons] at nd
    rcases List.mem_cons.mp h with e | e
    · cases e
      simp [List.lookup]
    · have ne : y ≠ z := fun q => nd.1 (by rw [← q]; exact List.mem_map.mpr ⟨_, e, rfl⟩)
      have ne2 : (y == z) = false := by simpa using ne
      rw [List.lookup_cons, ne2]
      exact look_nd nd.2 e
theorem look_zip {ps : List Str} {us : List Value} {i : Nat} {y : Str} {u : Value} (nd : ps.Nodup) (hl : us.length = ps.length) (hp : ps[i]? = some y) (hu : us[i]? = some u) : (ps.zip us).reverse.lookup y = some u := by
  refine look_nd ?_ ?_
  · rw [List.map_reverse, List.map_fst_zip (by omega)]
    exact (List.reverse_perm _).nodup_iff.mpr nd
  · rw [List.mem_reverse]
    refine List.mem_of_getElem? (i := i) ?_
    rw [List.getElem?_zip_eq_some]
    exact ⟨hp, hu⟩
section
variable {CX : CXT} {P : Program} {w : World} {K : PySem.W.Frag} {mg : Str → Option Value} {base : Heap} {N ps : List Str} {qual : Str} {scope : Scope} {f cc : Addr} {cd : Value} {A : Around} {outer : List Env} {s : Shared} {H : Hp} {E : XK} {us : List Value} {vs : List V}
theorem inv_startS {h₀ : Heap} {tk : Nat} {oc : Obj} {D : Value} (S : ScopeS N ps scope) (hd : A.handled = none) (e0 : Env0 P w K mg base A outer s H) (hl : vs.length = ps.length) (r : Vals vs us) (hcc : K.lookup cc = some oc) (hcd : oc.data = .cell (some D))
    (hns : h₀.Ns s.heap.objs.size fun x => (ps.zip us).reverse.lookup x) (kp : ∀ b o, s.heap.get? b = some o → h₀.get? b = some o) :
    Inv (cxS CX P w K mg base N qual scope f cd cc A outer s H E) [] (L2.start N vs) H { s with heap := h₀, toks := tk } := by
  have hpl : ps.length ≤ N.length := by have := congrArg List.length S.pre; rw [List.length_take] at this; omega
  have noA : ∀ b : Addr, b ∉ (cxS CX P w K mg base N qual scope f cd cc A outer s H E).ex := fun b z => absurd (show b ∈ ([] : List Addr) from z) (by simp)
  have cl : ∀ {y : Str} {c : Addr}, (cxS CX P w K mg base N qual scope f cd cc A outer s H E).env.cells.lookup y = some c → y = "__class__" ∧ c = cc := fun {y c} h => by
    have h2 : ([(("__class__" : Str), cc)] : List (Str × Addr)).lookup y = some c := h
    rw [List.lookup_cons] at h2
    split at h2
    · rename_i q
      exact ⟨beq_iff_eq.mp q, (Option.some.inj h2).symm⟩
    · cases h2
  obtain ⟨hb, hn⟩ := e0.bs cc oc (e0.mod.kin cc oc hcc)
  refine ⟨⟨e0.mod, S.kind, rfl, rfl, Nat.le_refl _, fun y z c h1 h2 => (cl h1).1.trans (cl h2).1.symm, fun y hy => ?_, fun y c h _ => (nomatch (show false = true from h)), fun _ => hd, Around.frames_deeper e0.frames, .inr ⟨rfl, rfl⟩, fun b z => absurd z (noA b), e0.bs, e0.bsz, fun b _ _ => noA b, fun b z => absurd z (noA b), e0.funs, e0.frf⟩,
    rfl, e0.bare, Un.kept kp, ⟨_, hns, fun i y v h1 h2 h3 => ?_⟩, fun y c h => ?_, e0.hok.fresh (Nat.le_refl _), fun y c h => ?_, fun p hp => absurd (show p ∈ ([] : List (Addr × Obj)) from hp) (by simp), e0.hok.kept kp, ?_⟩
  · have hy : scope.names.lookup y = some .cell ∨ scope.names.lookup y = some .free := hy
    rcases hy with hy | hy
    · exact absurd rfl (S.nocell _ (PySem.mem_of_lookup hy))
    · have e := S.one _ (PySem.mem_of_lookup hy) rfl
      have e2 : y = "__class__" := e
      subst e2
      exact ⟨cc, by show ([(("__class__" : Str), cc)] : List (Str × Addr)).lookup ("__class__" : Str) = some cc; rw [List.lookup_cons]; simp⟩
  · have hi : i < vs.length := by
      unfold L2.start at h2
      by_cases hi : i < vs.length
      · exact hi
      · rw [List.getElem?_append_right (by simpa using hi), List.getElem?_replicate] at h2
        split at h2 <;> cases h2
    have ha : vs[i]? = some v := by
      unfold L2.start at h2
      rw [List.getElem?_append_left (by simpa using hi), List.getElem?_map] at h2
      cases e : vs[i]? with
      | none => rw [e] at h2; cases h2
      | some a => rw [e] at h2; cases h2; rfl
    obtain ⟨u, hu, rv⟩ := r.get ha
    have hp : ps[i]? = some y := by
      rw [← S.pre, List.getElem?_take_of_lt (by omega)]; exact h1
    have ndP : ps.Nodup := by rw [← S.pre]; exact S.nd.sublist (List.take_sublist _ _)
    exact ⟨u, rv, .inl ⟨S.par y (List.mem_of_getElem? hp), look_zip ndP (by rw [← r.length, hl]) hp hu⟩⟩
  · obtain ⟨_, e2⟩ := cl h
    subst e2
    exact ⟨_, _, kp _ _ hb, hcd⟩
  · obtain ⟨_, e2⟩ := cl h
    rw [e2]
    exact hn
  · unfold L2.start
    show _ = N.length
    rw [List.length_append, List.length_map, List.length_replicate]
    omega
end
structure PSsS (X : Cx) (b sts : List Stmt) (t : TS) : Prop where
  run : ∀ (pins : List (Addr × Obj)) (s : Shared) (σ : L2.St) (H : Hp) (D : Ends), Inv X pins σ H s → t D σ H → PySem.wpAt (model X.prog X.w) X.A (.func b X.env) (execs sts X.env) (SP X pins D) X.xe s
structure SupF (P : Program) (K : PySem.W.Frag) (f cda cc C D : Addr) (x qual : Str) (params : Arguments) (body : List Stmt) (scope : Scope) : Prop where
  fn : ∃ oc od osl dV kV doc pm an ct, K.lookup f = some ⟨oc, od, .func (ksFn x qual params body scope dV kV doc pm an (.ref cda) ct cc), osl⟩ ∧ dV = .none
  code : codeIn K (.ref cda) qual = true
  file : ∃ ccl cdd vs ccs fl tf, K.lookup cda = some ⟨ccl, cdd, .fields vs, ccs⟩ ∧ vs[2]? = some (.str fl tf) ∧ ((P.main.file : Str) == fl) = true
  top : (P.main.scope.names.lookup ("super" : Str)).isSome = false
  cell : ∃ cl cld csl, K.lookup cc = some ⟨cl, cld, .cell (some (.ref D)), csl⟩
  base : (clsIn K D).isSome = true
  sub : mroIn K C (.ref D) = some true
  free : nsIn K mainGlobals "super" = some none
  stat : nsIn K cStatics "thirdparty.any" = some none
  up : ks_superIn K C D "__init__" = some (some (.builtin "ValueError.__init__"))
  isV : subIn K (.ref C) (.type "ValueError") = some true
theorem boot_super : bootBuiltins ("super" : Str) = some (.type "super") := by kernel_rfl
section
variable {prog : Program} {w : World} {A : Around} {E : Value → Shared → Prop} {s : Shared}
theorem call_mw {u x t C N : Addr} {nm q : Str} {bs bm : List Value} {hdct : Bool} {sn : List Str} {sub : List Value} {ab : Bool} {col : Option Bool} {dd : Option Addr} {k0 k1 k2 k3 k5 : Option Value} {rest : List Value} {Q : Value → Shared → Prop}
    (hu : s.heap.get? u = some (kxs_mw "ValueError.__init__" x)) (he : s.heap.get? x = some (excObj C t none .none)) (hC : s.heap.get? C = some (excClassObj nm q C N bs bm hdct sn sub ab col dd k0 k1 k2 k3 k5 "ValueError.__new__")) (hz : rest.length ≤ sizeLine)
    (h : ∀ t' h', (∀ b o, b ≠ x → s.heap.get? b = some o → h'.get? b = some o) → h'.get? x = some (excObj C t' none .none) → Q .none { s with heap := h' }) :
    wpAny (model prog w) A (call (.ref u) rest) Q E s := by
  obtain ⟨hh, g, d, tk, os⟩ := s
  refine wpAny_call (codeAny_of_tree ?_)
  show wpAny _ A.in1 (callAny (.ref u) ⟨rest, []⟩) _ _ _
  simp only [callAny]
  refine wpAny_bind (wpAny_load hu ?_)
  have e1 : (Value.type "method-wrapper" == Value.type "method" || Value.type "method-wrapper" == Value.type "builtin_function_or_method" || Value.type "method-wrapper" == Value.type "method-wrapper") = true := by decide
  simp only [kxs_mw, e1, if_true]
  refine KFB.if_so (by decide) ?_
  refine wpAny_bind (check_bound_init F.excBase_ValueError.toExcCallFacts hC he rfl ?_)
  refine wpAny_bind (wpAny_pure (wpAny_pure ?_))
  refine ⟨plainId_quiet F.excBase_ValueError.init.plain _, codeAny_builtin F.excBase_ValueError.initEntry ?_⟩
  exact exc_init_tree (cls := .ref C) (t0 := t) (dv := none) (c2 := .none) (c3 := .none) (b4 := .bool false) he hz fun h' k e' _ => h _ h' k e'
end
section
variable {CX : CXT} {P : Program} {w : World} {K : PySem.W.Frag} {mg : Str → Option Value} {base : Heap} {N ps : List Str} {x qual : Str} {scope : Scope} {f cda cc C D : Addr} {A : Around} {outer : List Env} {s : Shared} {H : Hp} {E : XK} {params : Arguments} {body : List Stmt}
def tSup (K : PySem.W.Frag) (C : Addr) (ta : TA) : TE := fun σ H Q => ∃ a : Addr, σ[0]? = some (some (.ref a)) ∧ OexC K C ∧ H a = some (exo a C none) ∧ ta σ H fun vs H1 => vs.length ≤ 1000 ∧ H1 a = some (exo a C none) ∧ Q .non H1
theorem sup_call {e : Expr} {es : List Expr} {ta : TA} {ar : Arg} {p0 p1 p2 pos : Pos} {pl : Sem Bool} {pins : List (Addr × Obj)} {σ : L2.St} {H1 : Hp} {s1 : Shared} {Q : VK} (S : ScopeS N ps scope) (T : SupF P K f cda cc C D x qual params body scope)
    (hp : (params.posonlyargs ++ params.args).head? = some ar) (hN : N[0]? = some ar.arg) (hka : scope.names.lookup ar.arg = some .local)
    (ha : PA (cxS CX P w K mg base N qual scope f (.ref cda) cc A outer s H E) (e :: es) ta)
    (I : Inv (cxS CX P w K mg base N qual scope f (.ref cda) cc A outer s H E) pins σ H1 s1) (h : tSup K C ta σ H1 Q)
    (he : eval (.Call (.Attribute (.Call (.Name "super" p0) [] [] p1) "__init__" p2) (e :: es) [] pos) (cxS CX P w K mg base N qual scope f (.ref cda) cc A outer s H E).env = (do
      let ov ← attributeBase (.Call (.Name "super" p0) [] [] p1) "__init__" (cxS CX P w K mg base N qual scope f (.ref cda) cc A outer s H E).env (eval (.Call (.Name "super" p0) [] [] p1) (cxS CX P w K mg base N qual scope f (.ref cda) cc A outer s H E).env)
      standAt p2.atName
      let (g, first) ← holding [ov] (getMethod ov "__init__" pl)
      callWith pos g first (backTo pos (starEach (e :: es) (cxS CX P w K mg base N qual scope f (.ref cda) cc A outer s H E).env)) []) := by rfl)
    (hst : starEach (e :: es) (cxS CX P w K mg base N qual scope f (.ref cda) cc A outer s H E).env = (false, eval e (cxS CX P w K mg base N qual scope f (.ref cda) cc A outer s H E).env) :: starEach es (cxS CX P w K mg base N qual scope f (.ref cda) cc A outer s H E).env := by rfl)
    (hpl : (backTo pos (starEach es (cxS CX P w K mg base N qual scope f (.ref cda) cc A outer s H E).env)).any (·.1) = false := by rfl) :
    PySem.wpAt (model P w) (cxS CX P w K mg base N qual scope f (.ref cda) cc A outer s H E).A (.func body (cxS CX P w K mg base N qual scope f (.ref cda) cc A outer s H E).env) (eval (.Call (.Attribute (.Call (.Name "super" p0) [] [] p1) "__init__" p2) (e :: es) [] pos) (cxS CX P w K mg base N qual scope f (.ref cda) cc A outer s H E).env)
      (EP (cxS CX P w K mg base N qual scope f (.ref cda) cc A outer s H E) pins σ Q) (cxS CX P w K mg base N qual scope f (.ref cda) cc A outer s H E).xe s1 := by
  obtain ⟨a, hs, TC, ea, h⟩ := h
  obtain ⟨oc, od, osl, dV, kV, doc, pm, an, ct, lk, _⟩ := T.fn
  obtain ⟨ccl, cdd, vs, ccs, fl, tf, lc, hv2, hfl⟩ := T.file
  obtain ⟨cl, cld, csl, lcc⟩ := T.cell
  obtain ⟨cdD, hD⟩ := Option.isSome_iff_exists.mp T.base
  obtain ⟨nm, q, Nn, bs, bm, sn, sub, ab, col, dd, k0, k1, k2, k3, k5, hC, hbm⟩ := TC.cls
  obtain ⟨t1, ho⟩ := exo_at I.hok ea
  obtain ⟨m, hns, hl⟩ := I.loc
  have hv : m ar.arg = some (.ref a) := by
    obtain ⟨u, ru, lu⟩ := hl 0 ar.arg (.ref a) hN hs (.inl hka)
    cases (show u = Value.ref a from ru)
    rcases lu with ⟨_, q⟩ | ⟨k, _⟩
    · exact q
    · have k2 : scope.names.lookup ar.arg = some .cell ∨ scope.names.lookup ar.arg = some .free := k
      rw [hka] at k2
      rcases k2 with k2 | k2 <;> cases k2
  have X := I.kIn
  obtain ⟨oD, hD1, hD2⟩ : ∃ oD, s1.heap.get? D = some oD ∧ oD.data = .cls cdD := by
    have hD' := hD
    unfold clsIn at hD'
    split at hD'
    · rename_i c d cd' sl ho
      cases hD'
      exact ⟨_, X _ _ ho, rfl⟩
    · cases hD'
  have hClk : clsIn K C = some { name := nm, bases := bs, mro := .ref C :: bm, ns := Nn, qualname := q, hasDict := true, slotNames := sn, subclasses := sub, abstract := ab, collection := col, hasDel := false } := by unfold clsIn; rw [hC] <;> rfl
  have inst : InstAt s1.heap a { cls := .ref C, dict := none, data := .fields #[.ref t1, .none, .none, .none, .bool false, .none] } C none := ⟨ho, rfl, rfl, trivial⟩
  have hxC : a ≠ C := ks_ne (cd := _) X inst hClk
  have hsup := T.up
  unfold ks_superIn at hsup
  rw [hClk] at hsup
  have hsup2 : alongIn K "__init__" (((Value.ref C :: bm).dropWhile (· != .ref D)).drop 1) = some (some (.builtin "ValueError.__init__")) := hsup
  refine ks_wpAt_MethodCall (pl := pl) ?_ he
  refine ks_wpAt_super_base (whole := _) S.sup S.own (by decide) rfl (X _ _ lk) rfl hp rfl (X _ _ lc) rfl hv2 hfl T.top ?_
  obtain ⟨mb, hmb, hbb⟩ := I.mod.blt
  refine ks_loadName_global S.kind S.sup (loadGlobal_builtin (I.mod.glob.keeps I.bk) (mg_none_of X (I.mod.glob.keeps I.bk) T.free) (hmb.keeps I.bk) ((hbb _ (by decide +kernel)).trans boot_super) ⟨rfl, ?_⟩)
  refine wpAny_loadName_free (c := cc) S.kind S.own (by show ([(("__class__" : Str), cc)] : List (Str × Addr)).lookup ("__class__" : Str) = some cc; rw [List.lookup_cons]; simp) ⟨_, X _ _ lcc, rfl⟩ ?_
  refine wpAny_loadName_local S.kind hka hns hv ?_
  obtain ⟨hh, g, d, tk, os⟩ := s1
  refine ks_wpAny_isType_cls hD1 hD2 ⟨rfl, ?_⟩
  refine ks_wpAny_call_super hD1 hD2 ho rfl (fun c z => by cases z) (looks_mroIn X T.sub) (fun h' e1 k1 => ?_)
  have X1 : K.In h' := fun b o z => k1 b o (X b o z)
  have inst1 : InstAt h' a { cls := .ref C, dict := none, data := .fields #[.ref t1, .none, .none, .none, .bool false, .none] } C none := ⟨k1 _ _ ho, rfl, rfl, trivial⟩
  refine kxs_getMethod kxs_ValueError e1 (looks_opaque X1 T.stat) (l₀ := .ref C :: bm) (fun A Q E s k q => wpAny_bind ((looks_clsIn X1 hClk) A _ E s k (wpAny_pure q))) rfl X1 hsup2 (inst1.type.andThen (looks_subIn X1 T.isV)) hxC (by decide) ?_
  have lt1 : hh.objs.size < h'.objs.size := Heap.lt_size e1
  have k2 : ∀ b o, hh.get? b = some o → (h'.push (kxs_mw "ValueError.__init__" a)).get? b = some o := fun b o z => Heap.get?_push_of_some _ (k1 b o z)
  have hu : (h'.push (kxs_mw "ValueError.__init__" a)).get? h'.objs.size = some (kxs_mw "ValueError.__init__" a) := Heap.get?_push_at rfl rfl
  have I2 := (I.kept (t' := tk + 1) k2).pins_of (pins' := (h'.objs.size, kxs_mw "ValueError.__init__" a) :: pins) fun p hp => by
    rcases List.mem_cons.mp hp with z | z
    · rw [z]
      refine ⟨hu, I.hok.fresh (Nat.le_of_lt lt1), fun z => ?_, I.nofs (Nat.le_of_lt lt1), fun v z => by cases z⟩
      have := I.lt
      have z2 : h'.objs.size = (cxS CX P w K mg base N qual scope f (.ref cda) cc A outer s H E).env.locals := z
      rw [← z2] at this
      exact absurd (Nat.lt_trans this lt1) (Nat.lt_irrefl _)
    · have := I.pin p (List.mem_append_right _ z)
      exact ⟨k2 _ _ this.1, this.2⟩
  show wpAny _ _ (callWith pos (.ref h'.objs.size) [] (backTo pos (starEach (e :: es) _)) []) _ _ _
  rw [hst]
  refine kxs_callWith (i := "ValueError.__init__") (x := a) (by show (false || (backTo pos (starEach es _)).any (·.1)) = false; rw [hpl]; rfl) ?_
  have hrun := ha.run pos _ _ σ H1 _ I2 h
  rw [hst] at hrun
  refine evalArgs_plain (thn hrun fun us s3 hh3 => ?_)
  obtain ⟨ws, H3, I3, r3, hz, ea3, q3⟩ := hh3
  have hu3 := (I3.pin _ (List.mem_append_right _ List.mem_cons_self)).1
  refine ⟨hu3, ?_⟩
  obtain ⟨t3, ho3⟩ := exo_at I3.hok ea3
  refine call_mw hu3 ho3 (I3.kIn _ _ hC) (by show us.length ≤ sizeLine; rw [← r3.length, sizeLine_eq]; omega) fun t' h4 k4 e4 => ?_
  have J := I3.write (t' := s3.toks) (x := a) (e := a) (o := exo a C none) (by rw [ea3]; exact True.intro) (.inl rfl) k4 ⟨_, e4⟩ (exo_ok e4)
  have eu : upd H3 a (exo a C none) = H3 := by
    funext b
    by_cases hb : b = a
    · rw [hb, upd_same, ea3]
    · rw [upd_ne hb]
  rw [eu] at J
  exact ⟨.non, H3, J.pins_of fun p hp => J.pin p (List.mem_append_right _ (List.mem_cons_of_mem _ hp)), rfl, q3⟩
end
end Sup
namespace Sup
open PySem PySem.Spec PySem.Calls PyProof.Rows L2 PySem.W
section
variable {CX : CXT} {P : Program} {w : World} {K : PySem.W.Frag} {mg : Str → Option Value} {base : Heap} {N ps : List Str} {x qual : Str} {scope : Scope} {f cda cc C D : Addr} {A : Around} {outer : List Env} {s : Shared} {H : Hp} {E : XK} {params : Arguments} {body : List Stmt}
theorem psS_sup {e : Expr} {es : List Expr} {rest : List Stmt} {ta : TA} {t : TS} {ar : Arg} {p0 p1 p2 pos pos2 : Pos} {pl : Sem Bool} (S : ScopeS N ps scope) (T : SupF P K f cda cc C D x qual params body scope)
    (hp : (params.posonlyargs ++ params.args).head? = some ar) (hN : N[0]? = some ar.arg) (hka : scope.names.lookup ar.arg = some .local)
    (ha : PA (cxS CX P w K mg base N qual scope f (.ref cda) cc A outer s H E) (e :: es) ta) (hr : PSs (cxS CX P w K mg base N qual scope f (.ref cda) cc A outer s H E) rest t)
    (he : eval (.Call (.Attribute (.Call (.Name "super" p0) [] [] p1) "__init__" p2) (e :: es) [] pos) (cxS CX P w K mg base N qual scope f (.ref cda) cc A outer s H E).env = (do
      let ov ← attributeBase (.Call (.Name "super" p0) [] [] p1) "__init__" (cxS CX P w K mg base N qual scope f (.ref cda) cc A outer s H E).env (eval (.Call (.Name "super" p0) [] [] p1) (cxS CX P w K mg base N qual scope f (.ref cda) cc A outer s H E).env)
      standAt p2.atName
      let (g, first) ← holding [ov] (getMethod ov "__init__" pl)
      callWith pos g first (backTo pos (starEach (e :: es) (cxS CX P w K mg base N qual scope f (.ref cda) cc A outer s H E).env)) []) := by rfl)
    (hst : starEach (e :: es) (cxS CX P w K mg base N qual scope f (.ref cda) cc A outer s H E).env = (false, eval e (cxS CX P w K mg base N qual scope f (.ref cda) cc A outer s H E).env) :: starEach es (cxS CX P w K mg base N qual scope f (.ref cda) cc A outer s H E).env := by rfl)
    (hpl : (backTo pos (starEach es (cxS CX P w K mg base N qual scope f (.ref cda) cc A outer s H E).env)).any (·.1) = false := by rfl)
    (hi : interactive (cxS CX P w K mg base N qual scope f (.ref cda) cc A outer s H E).env = false := by rfl) (hsw : swapsWith (.Call (.Attribute (.Call (.Name "super" p0) [] [] p1) "__init__" p2) (e :: es) [] pos) none pos2.line (cxS CX P w K mg base N qual scope f (.ref cda) cc A outer s H E).env = pure false := by rfl) :
    PSsS (cxS CX P w K mg base N qual scope f (.ref cda) cc A outer s H E) body (.Expr (.Call (.Attribute (.Call (.Name "super" p0) [] [] p1) "__init__" p2) (e :: es) [] pos) pos2 :: rest) (fun D σ H => tSup K C ta σ H fun _ H1 => t D σ H1) := by
  refine ⟨fun pins s1 σ H1 D I h => ?_⟩
  refine ks_wpAt_execs_cons (ks_wpAt_Expr_any (ks_wpAt_mono (sup_call (pl := pl) S T hp hN hka ha I h he hst hpl) (fun v s2 hv => ?_) fun _ _ z => z) hi hsw)
  obtain ⟨_, H2, I2, _, q⟩ := hv
  exact wpAt_of_wpAny (hr.run pins s2 σ H2 D I2 q)
theorem fnok_sup {k : Nat} {sp : Sp} {oc : Value} {od : Option Addr} {osl : Array (Option Value)} {dV kV doc pm ct : Value} {an : Option Addr} (S : ScopeS N ps scope) (T : SupF P K f cda cc C D x qual params body scope)
    (lk : K.lookup f = some ⟨oc, od, .func (ksFn x qual params body scope dV kV doc pm an (.ref cda) ct cc), osl⟩) (len : ∀ vs H Q E, sp vs H Q E → vs.length = ps.length)
    (hbody : ∀ (A : Around) (outer : List Env) (s : Shared) (H : Hp) (vs : List V) (Q : VK) (E : XK), Room k (A.deeper (ksEnv qual scope s.heap.objs.size f (.ref cda) cc)) → sp vs H Q E →
      ∃ t, PSsS (cxS CX P w K mg base N qual scope f (.ref cda) cc A outer s H E) body body t ∧ t { nx := fun _ H' => Q .non H', rt := Q } (L2.start N vs) H) :
    FnOk P w K mg base CX (k + 1) f (ksFn x qual params body scope dV kV doc pm an (.ref cda) ct cc) ps sp := by
  refine ⟨len, fun A outer s H args us vs Q E hr e0 hb r hsp => ?_⟩
  have hl := len _ _ _ _ hsp
  obtain ⟨cl, cld, csl, lcc⟩ := T.cell
  have KX : K.In s.heap := e0.mod.kin.keeps fun b o e => (e0.bs b o e).1
  have lim : s.heap.NoLimit := e0.mod.nolimit.keeps fun b o e => (e0.bs b o e).1
  refine ks_codeAny_call_defAt (fd := ksFn x qual params body scope dV kV doc pm an (.ref cda) ct cc) (body := body) (binds := ps.zip us) hr.depth (KX _ _ lk) rfl lim (codeRec_of KX T.code) rfl hb S.nocell (fun y hy => ?_) (fun h₀ hns kp => ?_) S.co S.gen S.kind
  · obtain ⟨n, u⟩ := y
    exact S.par n (List.of_mem_zip hy).1
  obtain ⟨t, ht, hq⟩ := hbody A outer s H vs Q E (hr.deeper _) hsp
  have I : Inv (cxS CX P w K mg base N qual scope f (.ref cda) cc A outer s H E) [] (L2.start N vs) H { s with heap := h₀, toks := s.toks + (ps.zip us).length } := inv_startS S hr.hd e0 hl r lcc rfl hns kp
  refine ks_wpAt_mono (ht.run [] _ (L2.start N vs) H _ I hq) (fun fl s' hs => ?_) fun e s' hs => hs
  have fin : ∀ {σ' : L2.St} {H' : Hp} {v : V} {u : Value}, Inv (cxS CX P w K mg base N qual scope f (.ref cda) cc A outer s H E) [] σ' H' s' → L2.RelV v u → Q v H' → CE outer P w H s Q u s' :=
    fun {σ' H' v u} J rv q => ⟨v, H', J.os, J.bare, J.base, J.hok, rv, q⟩
  cases fl with
  | ret u =>
    obtain ⟨v, σ', H', J, rv, q⟩ := hs
    exact fin J rv q
  | next =>
    obtain ⟨σ', H', J, q⟩ := hs
    exact fin (v := V.non) (u := Value.none) J rfl q
  | brk =>
    obtain ⟨_, _, _, q⟩ := hs
    exact False.elim q
  | cont =>
    obtain ⟨_, _, _, q⟩ := hs
    exact False.elim q
end
end Sup
namespace DL
open PySem PySem.Spec PyProof.Rows L2 Evl Sup
variable [TabC]
theorem optB_ok {α : Type} {o : Option α} {f : α → Bool} (h : optB o f = true) : ∃ a, o = some a ∧ f a = true := by
  cases o with
  | none => cases h
  | some a => exact ⟨a, rfl, h⟩
theorem noneV_ok {v : Value} (h : noneV v = true) : v = .none := by
  cases v <;> first | rfl | cases h
theorem fdOf_ok {K : PySem.W.Frag} {f : Addr} {fd : FuncData} (h : fdOf K f = some fd) : ∃ oc od osl, K.lookup f = some ⟨oc, od, .func fd, osl⟩ := by
  unfold fdOf at h
  split at h
  · rename_i oc od fd' osl e
    cases h
    exact ⟨oc, od, osl, e⟩
  · cases h
theorem vsOf_ok {K : PySem.W.Frag} {f : Addr} {vs : Array Value} (h : vsOf K f = some vs) : ∃ oc od osl, K.lookup f = some ⟨oc, od, .fields vs, osl⟩ := by
  unfold vsOf at h
  split at h
  · rename_i oc od fd' osl e
    cases h
    exact ⟨oc, od, osl, e⟩
  · cases h
theorem cellOf_ok {K : PySem.W.Frag} {f D : Addr} (h : cellOf K f = some D) : ∃ oc od osl, K.lookup f = some ⟨oc, od, .cell (some (.ref D)), osl⟩ := by
  unfold cellOf at h
  split at h
  · rename_i oc od fd' osl e
    cases h
    exact ⟨oc, od, osl, e⟩
  · cases h
theorem refOf_ok {v : Value} {a : Addr} (h : refOf v = some a) : v = .ref a := by
  cases v <;> cases h
  rfl
theorem txtOf_ok {v : Option Value} {x : Str} (h : txtOf v = some x) : ∃ t, v = some (.str x t) := by
  unfold txtOf at h
  split at h
  · cases h
    exact ⟨_, rfl⟩
  · cases h
theorem onlyCl_ok {l : List (Str × Addr)} {c : Addr} (h : onlyCl l = some c) : l = [(("__class__" : Str), c)] := by
  unfold onlyCl at h
  split at h
  · split at h
    · rename_i e
      cases h
      rw [e]
    · cases h
  · cases h
theorem oexB_ok {K : PySem.W.Frag} {C : Addr} (h : oexB K C = true) : OexC K C := by
  obtain ⟨h1, h2⟩ := He.ba h
  obtain ⟨h2, h3⟩ := He.ba h2
  obtain ⟨h3, h4⟩ := He.ba h3
  obtain ⟨h4, h5⟩ := He.ba h4
  refine ⟨?_, He.eqO_ok h2, of_decide_eq_true h3, of_decide_eq_true h4, h5⟩
  split at h1
  · rename_i t dd cd sl ho
    split at h1
    · rename_i C' bm k0 k1 k2 k3 n k5 hm hs
      simp only [Bool.and_eq_true, beq_iff_eq, Bool.not_eq_true', decide_eq_true_eq] at h1
      obtain ⟨rfl, rfl, rfl, hdel, hdc, hre⟩ := h1
      obtain ⟨nm, bs, mro, ns, qn, hd, sn, sub, ab, col, del⟩ := cd
      dsimp only at hm hdel hdc
      subst hm hdel hdc
      have hsl : sl = #[k0, k1, k2, k3, some (.builtin "ValueError.__new__"), k5] := by
        obtain ⟨l⟩ := sl
        simp only at hs
        rw [hs]
      subst hsl
      exact ⟨nm, qn, ns, bs, bm, sn, sub, ab, col, dd, k0, k1, k2, k3, k5, ho, hre⟩
    · cases h1
  · cases h1
structure Xc (P : Program) (K : PySem.W.Frag) (mg : Str → Option Value) (C : Str) (fs : List Str) (qual : Str) (params : Arguments) (body : List Stmt) (scope : Scope) : Prop where
  g : mg C = some (.ref (He.ga K C))
  ox : OexC K (He.ga K C)
  sup : ∃ cda cc, SupF P K (He.ma K (He.ga K C) "__init__") cda cc (He.ga K C) (He.ga K C) "__init__" qual params body scope
  ini : PySem.W.findIn K (.ref (He.ga K C)) "__init__" = some (some (.ref (He.ma K (He.ga K C) "__init__")))
  ti : PySem.W.typeIn K (.ref (He.ma K (He.ga K C) "__init__")) = some (.type "function")
  no : ∀ f ∈ fs, PySem.W.findIn K (.ref (He.ga K C)) f = some none
  xf : XfC K (He.ga K C)
  xd : ExcC K (He.ga K C)
theorem xc_of {P : Program} {K : PySem.W.Frag} {h : Heap} {mg : Str → Option Value} {C : Str} {fs : List Str} {qual : Str} {params : Arguments} {body : List Stmt} {scope : Scope} (X : K.In h) (G : h.Ns mainGlobals mg) (b : xcB P.main.file K C fs = true) (e : fnC K C = (⟨C, qual, params, body, scope⟩ : DefC).val)
    (htop : (P.main.scope.names.lookup ("super" : Str)).isSome = false) : Xc P K mg C fs qual params body scope := by
  unfold xcB at b
  obtain ⟨b1, b⟩ := He.ba b
  obtain ⟨b2, b⟩ := He.ba b
  obtain ⟨b3, b⟩ := He.ba b
  obtain ⟨b4, b⟩ := He.ba b
  obtain ⟨b5, b⟩ := He.ba b
  obtain ⟨b6, b⟩ := He.ba b
  obtain ⟨b7, b⟩ := He.ba b
  obtain ⟨b8, b⟩ := He.ba b
  obtain ⟨b9, b⟩ := He.ba b
  obtain ⟨b10, b⟩ := He.ba b
  obtain ⟨b11, b⟩ := He.ba b
  obtain ⟨b12, b⟩ := He.ba b
  obtain ⟨b13, b⟩ := He.ba b
  obtain ⟨b14, b⟩ := He.ba b
  obtain ⟨b15, b⟩ := He.ba b
  obtain ⟨b16, b17⟩ := He.ba b
  obtain ⟨fd, q1, b6⟩ := optB_ok b6
  obtain ⟨cda, q2, b6⟩ := optB_ok b6
  obtain ⟨cc, q3, b6⟩ := optB_ok b6
  obtain ⟨c0, b6⟩ := He.ba b6
  obtain ⟨c1, b6⟩ := He.ba b6
  obtain ⟨c2, c3⟩ := He.ba b6
  obtain ⟨vs, q4, c2⟩ := optB_ok c2
  obtain ⟨fl, q5, c2⟩ := optB_ok c2
  obtain ⟨oc, od, osl, lk⟩ := fdOf_ok q1
  have e0 := refOf_ok q2
  have e1 := onlyCl_ok q3
  unfold fnC at e
  rw [lk] at e
  obtain ⟨n1, n2, n3, n4, n5, n6, n7, n8, n9, n10, n11, n12, n13, n14, n15⟩ := fd
  have e2 : (some (n1, n2, n3, n4, n5, n6, n15) : FnC) = some (("__init__" : Str), qual, params, FuncBody.stmts body, scope, mainGlobals, builtinsNs) := e
  simp only [Option.some.injEq, Prod.mk.injEq] at e2
  obtain ⟨h1, h2, h3, h4, h5, h6, h7⟩ := e2
  dsimp only at e0 e1 c1 c0
  subst h1 h2 h3 h4 h5 h6 h7 e0 e1
  obtain ⟨ccl, cdd, ccs, lc⟩ := vsOf_ok q4
  obtain ⟨tf, hv⟩ := txtOf_ok q5
  obtain ⟨cl, cld, csl, lcc⟩ := cellOf_ok (of_decide_eq_true c3)
  have xf := xfB_ok b13
  refine ⟨PySem.W.mg_of X G (He.eqO_ok b2), oexB_ok b1, ⟨cda, cc, ⟨⟨oc, od, osl, n8, n9, n10, n11, n12, n14, lk, noneV_ok c0⟩, c1, ⟨ccl, cdd, vs, ccs, fl, tf, lc, hv, c2⟩, htop, ⟨cl, cld, csl, lcc⟩, b7, of_decide_eq_true b8, He.eqO_ok b9, He.eqO_ok b10, He.eqO_ok b11, of_decide_eq_true b12⟩⟩,
    He.eqO_ok b3, of_decide_eq_true b4, fun f hf => He.eqO_ok (List.all_eq_true.mp b5 f hf), xf, ⟨xf.ga, xf.gg, xf.exC, xf.hdC, He.eqO_ok b14, He.eqO_ok b15, of_decide_eq_true b16, of_decide_eq_true b17⟩⟩
end DL
namespace DL
open PySem PySem.Spec PyProof.Rows L2 Evl Sup
variable [TabC]
def finX (C a d : Addr) (fs : List (Str × V)) (H : Hp) : Hp := upd (upd H d (exd d fs)) a (exo a C (some d))
theorem fin_more {C a d : Addr} {fs gs : List (Str × V)} {H : Hp} (h : d ≠ a) : upd (finX C a d fs H) d (exd d gs) = finX C a d gs H := by
  funext b
  unfold finX
  by_cases e1 : b = a
  · subst e1
    rw [upd_ne (Ne.symm h), upd_same, upd_same]
  · by_cases e2 : b = d
    · subst e2
      rw [upd_same, upd_ne e1, upd_same]
    · rw [upd_ne e2, upd_ne e1, upd_ne e2, upd_ne e1, upd_ne e2]
def FmtOk (v : V) : Prop := (∃ y : Str, v = .str y ∧ y.length ≤ 10000) ∨ ∃ i : Int, v = .int i ∧ i.natAbs < 10 ^ 560
def spI (K : PySem.W.Frag) (C : Addr) (fs : List Str) (tx : List V → Prop) : Sp := fun vs H Q _ => ∃ (a : Addr) (ws : List V), vs = .ref a :: ws ∧ ws.length = fs.length ∧ OexC K C ∧ (∀ f ∈ fs, PySem.W.findIn K (.ref C) f = some none) ∧ H a = some (exo a C none) ∧ tx ws ∧ ∀ d, H d = none → d ≠ a → Q .non (finX C a d (fs.zip ws).reverse H)
theorem spI_len {K : PySem.W.Frag} {C : Addr} {fs : List Str} {tx : List V → Prop} : ∀ vs H Q E, spI K C fs tx vs H Q E → vs.length = fs.length + 1 := fun vs H Q E ⟨a, ws, e, hl, _⟩ => by rw [e, List.length_cons, hl]
inductive JP where
  | k (x : Str) | v (i : Nat)
def JP.t : JP → TE
  | .k x => tC (.str x)
  | .v i => tFmt (tVar i)
theorem len_app (x y : Str) : (x ++ y).length = x.length + y.length := by
  show (x.cps ++ y.cps).size = x.cps.size + y.cps.size
  exact Array.size_append
theorem jts_ok {σ : L2.St} {H : Hp} {Q : Str → Hp → Prop} : ∀ (l : List JP) (acc : Str), (∀ i, JP.v i ∈ l → ∃ w, σ[i]? = some (some w) ∧ FmtOk w) → (∀ x, JP.k x ∈ l → x.length ≤ 10000) → acc.length + l.length * 10000 ≤ sizeLine → (∀ out, Q out H) → tJs (l.map JP.t) acc σ H Q
  | [], acc, _, _, _, q => q acc
  | .k x :: l, acc, hv, hk, hz, q => by
    have hx := hk x List.mem_cons_self
    rw [List.length_cons] at hz
    exact ⟨x, rfl, by rw [len_app]; omega, jts_ok l (acc ++ x) (fun i hi => hv i (List.mem_cons_of_mem _ hi)) (fun y hy => hk y (List.mem_cons_of_mem _ hy)) (by rw [len_app]; omega) q⟩
  | .v i :: l, acc, hv, hk, hz, q => by
    rw [List.length_cons] at hz
    obtain ⟨w, hw, hf⟩ := hv i List.mem_cons_self
    have go : ∀ y : Str, y.length ≤ 10000 → ∃ z : Str, V.str y = V.str z ∧ (acc ++ z).length ≤ sizeLine ∧ tJs (l.map JP.t) (acc ++ z) σ H Q := fun y hy =>
      ⟨y, rfl, by rw [len_app]; omega, jts_ok l (acc ++ y) (fun i hi => hv i (List.mem_cons_of_mem _ hi)) (fun y hy => hk y (List.mem_cons_of_mem _ hy)) (by rw [len_app]; omega) q⟩
    refine ⟨w, hw, ?_⟩
    rcases hf with ⟨y, rfl, hy⟩ | ⟨i, rfl, hi⟩
    · exact .inl ⟨y, rfl, by rw [sizeLine_eq]; omega, go y hy⟩
    · exact .inr ⟨i, rfl, log_small hi, go _ (Nat.le_trans (by rw [PySem.ofString_length]; exact int_text_length_le10 (k := 560) (by decide) hi) (by decide))⟩
theorem ost_first {K : PySem.W.Frag} {C a : Addr} {f : Str} {i : Nat} {w : V} {D : Ends} {σ : L2.St} {H : Hp} (h0 : σ[0]? = some (some (.ref a))) (h1 : σ[i]? = some (some w)) (T : OexC K C) (hno : PySem.W.findIn K (.ref C) f = some none) (ha : H a = some (exo a C none))
    (h : ∀ d, H d = none → d ≠ a → D.nx σ (finX C a d [(f, w)] H)) : tOst K f (tVar 0) (tVar i) D σ H := ⟨w, h1, .ref a, h0, a, C, rfl, T, hno, .inl ⟨ha, fun d hd ne => h d hd ne⟩⟩
theorem ost_next {K : PySem.W.Frag} {C a d : Addr} {f : Str} {i : Nat} {w : V} {fs : List (Str × V)} {D : Ends} {σ : L2.St} {H : Hp} (h0 : σ[0]? = some (some (.ref a))) (h1 : σ[i]? = some (some w)) (T : OexC K C) (hno : PySem.W.findIn K (.ref C) f = some none) (hd : d ≠ a) (hl : fs.length ≤ 900)
    (h : D.nx σ (finX C a d ((f, w) :: fs) H)) : tOst K f (tVar 0) (tVar i) D σ (finX C a d fs H) := ⟨w, h1, .ref a, h0, a, C, rfl, T, hno, .inr ⟨d, fs, upd_same, by unfold finX; rw [upd_ne hd, upd_same], hl, by rw [fin_more hd]; exact h⟩⟩
theorem init1 {K : PySem.W.Frag} {C : Addr} {f : Str} {tx : List V → Prop} {ta : TA} {N : List Str} (hN : N.length = 2) (hta : ∀ (a : Addr) (w : V) (H : Hp) (Q : List V → Hp → Prop), tx [w] → (∀ us : List V, us.length ≤ 1000 → Q us H) → ta [some (.ref a), some w] H Q)
    {vs : List V} {H : Hp} {Q : VK} {E : XK} (h : spI K C [f] tx vs H Q E) : (fun D σ H => tSup K C ta σ H fun _ H1 => tOst K f (tVar 0) (tVar 1) D σ H1) { nx := fun _ H' => Q .non H', rt := Q } (L2.start N vs) H := by
  obtain ⟨a, ws, rfl, hl, T, hno, ha, hx, hq⟩ := h
  match ws, hl with
  | [w], _ =>
    have e : L2.start N [.ref a, w] = [some (.ref a), some w] := by
      unfold L2.start
      rw [hN]
      rfl
    rw [e]
    refine ⟨a, rfl, T, ha, hta a w H _ hx fun us hu => ⟨hu, ha, ?_⟩⟩
    exact ost_first rfl rfl T (hno f (List.mem_singleton_self _)) ha fun d hd ne => hq d hd ne
theorem init2 {K : PySem.W.Frag} {C : Addr} {f g : Str} {tx : List V → Prop} {ta : TA} {N : List Str} (hN : N.length = 3) (hta : ∀ (a : Addr) (w u : V) (H : Hp) (Q : List V → Hp → Prop), tx [w, u] → (∀ us : List V, us.length ≤ 1000 → Q us H) → ta [some (.ref a), some w, some u] H Q)
    {vs : List V} {H : Hp} {Q : VK} {E : XK} (h : spI K C [f, g] tx vs H Q E) : (fun D σ H => tSup K C ta σ H fun _ H1 => (tSeq (tOst K f (tVar 0) (tVar 1)) (tOst K g (tVar 0) (tVar 2))) D σ H1) { nx := fun _ H' => Q .non H', rt := Q } (L2.start N vs) H := by
  obtain ⟨a, ws, rfl, hl, T, hno, ha, hx, hq⟩ := h
  match ws, hl with
  | [w, u], _ =>
    have e : L2.start N [.ref a, w, u] = [some (.ref a), some w, some u] := by
      unfold L2.start
      rw [hN]
      rfl
    rw [e]
    refine ⟨a, rfl, T, ha, hta a w u H _ hx fun us hu => ⟨hu, ha, ?_⟩⟩
    exact ost_first rfl rfl T (hno f List.mem_cons_self) ha fun d hd ne => ost_next rfl rfl T (hno g (List.mem_cons_of_mem _ (List.mem_singleton_self _))) ne (by show 1 ≤ 900; decide) (hq d hd ne)
def FmtL (fm : List Bool) (ws : List V) : Prop := ∀ p ∈ fm.zip ws, p.1 = true → FmtOk p.2
structure KnX (P : Program) (w : World) (K : PySem.W.Frag) (mg : Str → Option Value) (base : Heap) (C : Str) (ps fs : List Str) (fm : List Bool) : Prop where
  g : mg C = some (.ref (He.ga K C))
  ox : OexC K (He.ga K C)
  ini : PySem.W.findIn K (.ref (He.ga K C)) "__init__" = some (some (.ref (He.ma K (He.ga K C) "__init__")))
  ti : PySem.W.typeIn K (.ref (He.ma K (He.ga K C) "__init__")) = some (.type "function")
  no : ∀ f ∈ fs, PySem.W.findIn K (.ref (He.ga K C)) f = some none
  xf : XfC K (He.ga K C)
  xd : ExcC K (He.ga K C)
  fn : ∃ fd, FnOk P w K mg base (L2.CX P w) 1 (He.ma K (He.ga K C) "__init__") fd ps (spI K (He.ga K C) fs (FmtL fm)) ∧ L2.Binds K fd ps []
def fmtD : D → Prop
  | .str y => y.length ≤ 10000
  | .int i => i.natAbs < 10 ^ 560
  | _ => False
def FmtDL (fm : List Bool) (xs : List D) : Prop := ∀ p ∈ fm.zip xs, p.1 = true → fmtD p.2
theorem fmt_of {K : PySem.W.Frag} {H : Hp} {v : V} {d : D} (r : Rp K H v d) (h : fmtD d) : FmtOk v := by
  cases r with
  | str x => exact .inl ⟨x, rfl, h⟩
  | int i => exact .inr ⟨i, rfl, h⟩
  | _ => exact h.elim
theorem fmt_all {K : PySem.W.Frag} {H : Hp} : ∀ {fm : List Bool} {vs : List V} {ds : List D}, RpL K H vs ds → FmtDL fm ds → FmtL fm vs
  | [], _, _, _, _ => fun p hp => by cases hp
  | _ :: _, _, _, .nil, _ => fun p hp => by cases hp
  | b :: fm, _, _, .cons a r, h => fun p hp hb => by
    rw [List.zip_cons_cons] at hp
    rcases List.mem_cons.mp hp with e | e
    · subst e
      exact fmt_of a (h (b, _) (by rw [List.zip_cons_cons]; exact List.mem_cons_self) hb)
    · exact fmt_all r (fun q hq => h q (by rw [List.zip_cons_cons]; exact List.mem_cons_of_mem _ hq)) p e hb
theorem RpL.revd {K : PySem.W.Frag} {H : Hp} {vs : List V} {ds : List D} (r : RpL K H vs ds) : RpL K H vs.reverse ds.reverse := RpL.rev r
def dRaise (C : Str) (fs : List Str) (fm : List Bool) (RX : XD) (dA : DA) : DS := fun _ ρ G => dA ρ G fun xs G1 => xs.length = fs.length ∧ FmtDL fm xs ∧ RX C fs.reverse xs.reverse G1
section
variable {X : Cx} {B : Bs} {pos p pos2 : Pos} {e : Expr} {es : List Expr} {dA : DA}
theorem psd_raise {C : Str} {ps fs : List Str} {fm : List Bool} {RX : XD} {E : XK} (F : KnX X.prog X.w X.K X.mg X.base C ps fs fm) (hl : fs.length ≤ 900) (hc : X.calm = true) (hr : Room 2 X.A) (hg : Gl X C) (tk : Takes X fun cls d _ H => E cls d H) (kx : ∀ Hd, Ex B.b Hd → KX X.K B.f Hd RX E)
    (hx : Passes (L2.CX X.prog X.w) X fun _ _ _ => False) (ha : PA X (e :: es) (upA X.K B dA)) (hdb : (C == ("__debug__" : Str)) = false := by decide) (he : starEach (e :: es) X.env = (false, eval e X.env) :: starEach es X.env := by rfl) (hpl : (backTo pos (starEach es X.env)).any (·.1) = false := by rfl) :
    PS X (.Raise (some (.Call (.Name C p) (e :: es) [] pos)) none pos2) (upS X.K B (dRaise C fs fm RX dA)) := by
  obtain ⟨fd, F1, hb⟩ := F.fn
  refine ps_imp (ps_raise hc tk (pmk_oex F.ox F.ini F.ti F1 hr hb .nil hx hg F.g ha hdb he hpl)) ?_
  rintro D σ H ⟨ρ, Hd, G, En, at_, h, k⟩
  refine ⟨ρ, Hd, G, _, at_, h, fun vs H1 Hd1 xs G1 e1 s1 r1 ⟨hl1, hf, hR⟩ => ?_⟩
  have hlv : vs.length = fs.length := by rw [r1.length, hl1]
  refine ⟨by omega, fun a ha => ?_⟩
  refine ⟨a, vs, by rw [List.append_nil], hlv, F.ox, F.no, upd_same, fmt_all r1 hf, fun d hd ne => ⟨rfl, d, (fs.zip vs).reverse, upd_same, by unfold finX; rw [upd_ne ne, upd_same], ?_, ?_⟩⟩
  · rw [upd_ne ne] at hd
    exact hd
  · have hd1 : H1 d = none := by
      rw [upd_ne ne] at hd
      exact hd
    have eH : upd (del (finX (He.ga X.K C) a d (fs.zip vs).reverse (upd H1 a (exo a (He.ga X.K C) none))) a) d (.xd (fs.zip vs).reverse) = upd H1 d (.xd (fs.zip vs).reverse) := by
      funext b
      by_cases q : b = d
      · subst q
        rw [upd_same, upd_same]
      · rw [upd_ne q, upd_ne q]
        by_cases q2 : b = a
        · subst q2
          rw [del_same, ha]
        · rw [del_ne q2]
          unfold finX
          rw [upd_ne q2, upd_ne q, upd_ne q2]
    rw [eH]
    have ez : (fs.zip vs).reverse = fs.reverse.zip vs.reverse := by
      rw [List.zip_eq_zipWith, List.zip_eq_zipWith, List.reverse_zipWith hlv.symm]
    rw [ez]
    exact kx Hd1 (at_.b.trans e1) C d _ Hd1 fs.reverse vs.reverse xs.reverse G1 (Ex.refl _) (s1.side hd1) upd_same (by rw [List.length_reverse, List.length_reverse, hlv]) r1.revd hR
end
end DL
namespace Held
open PySem PySem.Spec PyProof.Rows L2 DL
section
variable {X : Cx} {pins : List (Addr × Obj)} {σ : L2.St} {H : Hp} {s : Shared}
theorem inv_told {a : Addr} {φ : Heap → Prop} (I : Inv X pins σ H s) (na : H a = none) (new : ∀ o, X.s_0.heap.get? a = some o → X.H_0 a = none → a ∉ X.ex → False) (nl : a ≠ X.env.locals) (nc : ∀ y c, X.env.cells.lookup y = some c → c ≠ a) (np : ∀ q ∈ X.pn ++ pins, q.1 ≠ a)
    (ok : ∀ K : Hp, ObjOk X.prog X.w K s.heap a (.ext φ)) : Inv X pins σ (upd H a (.ext φ)) s := by
  have ne : ∀ {b : Addr} {u : HO}, H b = some u → b ≠ a := fun e z => by
    rw [z, na] at e
    cases e
  have put : ∀ {b : Addr} {u : HO}, H b = some u → upd H a (.ext φ) b = some u := fun e => by
    rw [upd_ne (ne e)]
    exact e
  have B := I.base
  refine ⟨I.ok, I.os, I.bare, ⟨fun b o e n h1 h2 => B.keep b o e n h1 h2, fun b o e n h1 h2 => B.slot b o e n h1 h2, fun b o e n h1 => ?_, fun b o e h1 => B.there b o e h1, fun b xs e => put (B.tups b xs e), fun b o u e => put (B.frzs b o u e), fun b ps e => ?_⟩, I.loc, I.cell, ?_, fun y c e => ?_, fun q hq => ?_, fun b u e => ?_, I.len⟩
  · have z : b ≠ a := fun z => new o (by rw [← z]; exact e) (by rw [← z]; exact n) (by rw [← z]; exact h1)
    rw [upd_ne z]
    exact B.free b o e n h1
  · obtain ⟨more, z⟩ := B.tbls b ps e
    exact ⟨more, put z⟩
  · rw [upd_ne (Ne.symm nl)]
    exact I.free
  · rw [upd_ne (nc y c e)]
    exact I.freeC y c e
  · obtain ⟨p1, p2, p3⟩ := I.pin q hq
    exact ⟨p1, by rw [upd_ne (np q hq)]; exact p2, p3⟩
  · by_cases z : b = a
    · rw [z, upd_same] at e
      cases e
      rw [z]
      exact ok _
    · rw [upd_ne z] at e
      exact (I.hok b u e).stay (fun _ _ _ q => q) (fun _ q => put q) fun _ _ q => put q
end
def wHeld (K : PySem.W.Frag) (c : Value) (i j : Nat) (W : WX) (D : Ends) : WX := fun cls d σ H => ∃ b, PySem.W.exmOne K cls c = some b ∧
  (b = true → ∃ C dd, cls = .ref C ∧ d = some dd ∧ ∀ a, H a = none → D.nx (((σ.set i (some (.ref a))).set j (some (.ref a))).set i none) (upd H a (exh a C dd))) ∧ (b = false → W cls d σ H)
section
variable {X : Cx} {x n m : Str} {c : Value} {body : List Stmt} {px pn pm pa ph pos : Pos} {i j : Nat} {tb : WX → TS} {W0 : WX}
theorem ps_try_held (hst : X.stack = X.env :: X.outer) (hfr : X.env.frame = some X.env.locals) (nd : X.N.Nodup) (hi : X.N[i]? = some n) (hj : X.N[j]? = some m) (kn : X.env.kindOf n = some .local) (km : X.env.scope.names.lookup m = some .local) (hij : i ≠ j) (hc : Names X x c) (tk : Takes X W0)
    (hdn : (n == ("__debug__" : Str)) = false) (hcn : (n == ("__classdict__" : Str)) = false)
    (hsw : swapsWith (.Name n pn) (some (.Name m pm)) pa.line X.env = pure false)
    (hb : ∀ (W : WX) (pins : List (Addr × Obj)) (xe : Value → Shared → Prop), Takes (X.tr pins xe) W → PassesOwn (model X.prog X.w) X.A X.env xe → PSs (X.tr pins xe) body (tb W)) :
    PS X (.Try body [.ExceptHandler (some (.Name x px)) (some n) [.Assign [.Name m pm] (.Name n pn) pa] ph] [] [] pos) (fun D σ H => tb (wHeld X.K c i j W0 D) D σ H) := by
  refine ⟨fun pins s0 σ0 H0 D I0 h0 => ?_⟩
  have ok := I0.ok
  have frames : X.A.frames = some (X.env :: X.outer) := ok.frames.trans (congrArg some hst)
  generalize ecl : ExceptHandler.ExceptHandler (some (.Name x px)) (some n) [.Assign [.Name m pm] (.Name n pn) pa] ph = cl
  refine wpAny_Try_except ?_
  have caught : ∀ u s', XE (X.tr (X.pn ++ pins) fun e s₁ => wpAny (model X.prog X.w) X.A (noteFrame e X.env) (fun _ s₂ => wpAny (model X.prog X.w) X.A (setFlight e none) (fun _ s₃ => wpAny (model X.prog X.w) X.A (handleBy e X.env [cl]) (SP X pins D) X.xe s₃) X.xe s₂) X.xe s₁) (wHeld X.K c i j W0 D) u s' →
      wpAny (model X.prog X.w) X.A (noteFrame u X.env) (fun _ s₂ => wpAny (model X.prog X.w) X.A (setFlight u none) (fun _ s₃ => wpAny (model X.prog X.w) X.A (handleBy u X.env [cl]) (SP X pins D) X.xe s₃) X.xe s₂) X.xe s' := by
    rintro u s' ⟨a, G, t, q0, σ1, H1, cls, d, rfl, Jt, ground, up0, sky, na, eos, eg, b, e1, yes, no⟩
    have J : Inv X pins σ1 H1 t := Jt.ofTry ok
    rw [show (X.tr (X.pn ++ pins) _).stack = X.stack from rfl, hst] at sky
    refine Sky.land Zc.steady frames hfr sky fun h1 fly1 up1 => ?_
    have J1 : Inv X pins σ1 H1 { s' with heap := h1 } := J.landed ground fly1.1 (up0.trans up1) eos eg
    obtain ⟨o1, w1, g1, z1, f1⟩ := fly1.there
    have offFr : a ∉ frs (X.env :: X.outer) := fun z => by
      obtain ⟨_, o, e, nf⟩ := (show h1.FunFrames G (X.env :: X.outer) from fly1.2.2.1).mem z
      rw [g1] at e
      cases e
      exact nf _ f1
    have nl : a ≠ X.env.locals := fun z => offFr (List.mem_filterMap.mpr ⟨X.env, .head _, hfr.trans (congrArg some z.symm)⟩)
    have nf : a ∉ X.fs := fun z => by
      obtain ⟨e, he, q⟩ := List.mem_filterMap.mp z
      exact offFr (List.mem_filterMap.mpr ⟨e, .tail _ he, q⟩)
    have Gn : G.get? a = none := fly1.2.1
    have inG : ∀ {b : Addr} {o : Obj}, t.heap.get? b = some o → b ≠ X.env.locals → b ∉ X.fs → b ≠ a := fun {b o} e k1 k2 z => by
      have e2 := ground b o e fun hm => (List.mem_cons.mp (J.stkSub b hm)).elim k1 k2
      rw [z, Gn] at e2
      cases e2
    have new : ∀ o, X.s_0.heap.get? a = some o → X.H_0 a = none → a ∉ X.ex → False := fun o e n0 hx => inG (J.base.keep a o e n0 nf hx) nl nf rfl
    have np : ∀ q ∈ X.pn ++ pins, q.1 ≠ a := fun q hq => by
      obtain ⟨p1, _, p3, p4, _⟩ := J.pin q hq
      exact inG p1 p3 p4
    have I1 := J1.suite g1 f1 na nl nf
    rw [← ecl]
    refine wpAny_handleBy_cons (codeAny_handlers_test ?_) (fun z => by cases z)
    have ty : PySem.W.Looks (model X.prog X.w) h1 (typeOf (.ref a)) cls := fun A Q E s k q => wpAny_typeOf_ref (k _ _ g1) (by rw [z1.1]; exact q)
    have is := PySem.W.exm_one (M := model X.prog X.w) J1.kIn ty e1
    have name : ∀ {Q : Value → Shared → Prop} {E : Value → Shared → Prop}, Q c { s' with heap := h1 } → wpAny (model X.prog X.w) (X.A.mark (some (.ref a))) (eval (.Name x px) X.env) Q E { s' with heap := h1 } := fun {Q E} q => by
      obtain ⟨k1, k2, k3⟩ := hc
      rcases k3 with k3 | ⟨k3, k4, k5⟩
      · exact ld_glob (X := X.suite a ((a, o1) :: (X.pn ++ pins))) I1 k1 k3 q k2
      · exact ld_blt (X := X.suite a ((a, o1) :: (X.pn ++ pins))) I1 k1 k3 k4 q k5 k2
    refine name (is.here ?_)
    cases b with
    | false =>
      show wpAny _ X.A (handleBy (.ref a) X.env []) _ _ _
      refine wpAny_handleBy_nil ?_
      have fly := fly1
      obtain ⟨_, _, _, oe, us, T, oT, ws, r1, r2, r3, r4, r5⟩ := fly
      have go : wpAny (model X.prog X.w) X.A (setFlight (.ref a) X.env.frame) (fun _ u => wpAny (model X.prog X.w) X.A (throw (.ref a) : Sem Flow) (SP X pins D) X.xe u) X.xe { s' with heap := h1 } := by
        rw [hfr]
        refine HandSPX.setFlight_upZ fly1 fun h2 held up2 => wpAny_throw (tk _ _ ⟨a, G, t, pins, σ1, H1, cls, d, rfl, J, ground, (up0.trans up1).trans up2, ?_, na, eos, eg, no rfl⟩)
        rw [hst]
        exact .inr (.inr held)
      unfold PySem.passOn
      refine wpAny_bind (wpAny_field r1 r3 r4 ?_)
      rw [if_neg (by simp : ¬ ((Value.ref T == Value.none) = true))]
      first
        | exact wpAny_bind go
        | exact wpAny_bind (wpAny_pure (wpAny_bind go))
    | true =>
      obtain ⟨C, dd, rfl, rfl, hd⟩ := yes rfl
      refine codeAny_handlers_suite_as (HandSPX.lands_againZ fly1 fun h2 fly2 up2 => ?_)
      have J2 : Inv X pins σ1 H1 { s' with heap := h2 } := J.landed ground fly2.1 ((up0.trans up1).trans up2) eos eg
      obtain ⟨o2, w2, g2, z2, f2⟩ := fly2.there
      have I2 := J2.suite g2 f2 na nl nf
      refine store_ok (X := X.suite a ((a, o2) :: (X.pn ++ pins))) (v := .ref a) I2 nd hi (.inl kn) rfl (fun s3 I3 => ?_) (.inr kn)
      have run : PSs (X.suite a ((a, o2) :: (X.pn ++ pins))) [.Assign [.Name m pm] (.Name n pn) pa] (tAsg (tVar i) (gName j)) := pss_one (ps_set (X := X.suite a ((a, o2) :: (X.pn ++ pins))) nd hj (.inl km) (pe_var hi (.inl kn) hdn hcn) hsw (.inr km))
      have li : i < X.N.length := (List.getElem?_eq_some_iff.mp hi).1
      refine wpAny_mono (run.run [] s3 _ H1 { nx := fun σ H => σ = (σ1.set i (some (.ref a))).set j (some (.ref a)) ∧ H = H1, rt := fun _ _ => False, bk := fun _ _ => False, ct := fun _ _ => False } I3 ⟨.ref a, by rw [List.getElem?_set_self (by rw [J.len]; exact li)], rfl, rfl⟩) (fun fl s4 q => ?_) fun _ _ z => z.elim
      cases fl with
      | next =>
        obtain ⟨σ4, H4, I4, e4, e5⟩ := q
        subst e4 e5
        obtain ⟨g4, _⟩ := I4.pin (a, o2) (List.mem_append_left _ (.head _))
        have J4 := I4.unsuite ok
        have J5 := inv_told (φ := fun h => ∃ o vs, h.get? a = some o ∧ o.cls = .ref C ∧ o.dict = some dd ∧ o.data = .fields vs) J4 na new nl (fun y u e z => ?_) np fun K => ⟨⟨o2, w2, g4, z2.1, z2.2, f2⟩, ⟨o2, g4⟩, fun h3 h4 ⟨o, vs, k1, k2⟩ st => ⟨o, vs, st _ k1, k2⟩⟩
        · exact gone_ok J5 nd hi kn fun s5 J6 => ⟨_, _, J6, hd a na⟩
        · obtain ⟨v, o, k1, k2⟩ := J4.cell y u e
          rw [z, g4] at k1
          cases k1
          rw [f2] at k2
          cases k2
      | brk =>
        obtain ⟨_, _, _, z⟩ := q
        exact False.elim z
      | cont =>
        obtain ⟨_, _, _, z⟩ := q
        exact False.elim z
      | ret u =>
        obtain ⟨_, _, _, _, _, z⟩ := q
        exact False.elim z
  refine wpAny_mono ((hb (wHeld X.K c i j W0 D) (X.pn ++ pins) _ caught PassesOwn.looking).run [] s0 σ0 H0 D (I0.toTry _) h0) (fun fl s1 q => ?_) fun e s1 q => q
  cases fl with
  | next =>
    obtain ⟨σ1, H1, J, q⟩ := q
    exact wpAny_execs_nil ⟨σ1, H1, J.ofTry ok, q⟩
  | brk =>
    obtain ⟨σ1, H1, J, q⟩ := q
    exact ⟨σ1, H1, J.ofTry ok, q⟩
  | cont =>
    obtain ⟨σ1, H1, J, q⟩ := q
    exact ⟨σ1, H1, J.ofTry ok, q⟩
  | ret u =>
    obtain ⟨v, σ1, H1, J, r, q⟩ := q
    exact ⟨v, σ1, H1, J.ofTry ok, r, q⟩
end
end Held
namespace DL
open PySem PySem.Spec PyProof.Rows L2 Evl Held
variable [TabC]
def upEX (K : PySem.W.Frag) (B : Bs) (d : XD → DE) (W : WX) : TE := fun σ H Q => ∃ ρ Hd G R RX, At K B σ H ρ Hd G ∧ d RX ρ G R ∧ KE K B.f Hd R Q ∧ KX K B.f Hd RX fun cls dd H' => W cls dd σ H'
theorem Sim.fields {K : PySem.W.Frag} {F : Gm} {Hd H : Hp} {G : Gm} (S : Sim K F Hd H G) {d : Addr} {fs : List (Str × V)} (h : H d = some (.xd fs)) : Sim K F (upd Hd d (.xd fs)) H G ∧ Ex Hd (upd Hd d (.xd fs)) := by
  have no : ∀ {a : Addr} {m : Mt}, HoldM K Hd H a m → a ≠ d := fun {a m} hm z => by
    rw [z] at hm
    cases m with
    | lst ds =>
      obtain ⟨_, e, _⟩ := hm
      rw [h] at e
      cases e
    | ins C ns ds =>
      obtain ⟨_, _, e, _⟩ := hm
      rw [h] at e
      cases e
    | gau T =>
      obtain ⟨_, _, _, _, e, _⟩ := hm
      rw [h] at e
      cases e
    | tab q =>
      obtain ⟨_, e, _⟩ := hm
      rw [h] at e
      cases e
    | dct ks ds =>
      obtain ⟨_, e, _⟩ := hm
      rw [h] at e
      cases e
    | ho φ =>
      obtain ⟨e, _⟩ := hm
      rw [h] at e
      cases e
  have ex : Ex Hd (upd Hd d (.xd fs)) := fun a u e => by
    by_cases z : a = d
    · have e2 := S.sub a u e
      rw [z, h] at e2
      rw [z, upd_same]
      exact e2
    · rw [upd_ne z]
      exact e
  refine ⟨⟨fun a u e => ?_, fun a m e => ?_, fun a m e => (S.hold a m e).mono ex, fun a m e => ?_, fun a m e => (S.holdF a m e).mono ex, S.apart, S.tabs⟩, ex⟩
  · by_cases z : a = d
    · rw [z, upd_same] at e
      cases e
      rw [z]
      exact h
    · rw [upd_ne z] at e
      exact S.sub a u e
  · rw [upd_ne (no (S.hold a m e))]
    exact S.off a m e
  · rw [upd_ne (no (S.holdF a m e))]
    exact S.offF a m e
def dTryH (i j : Nat) (cs : List Str) (dX : XD → DE) : DS := fun E ρ G => dX (fun C ns xs G' => C ∈ cs ∧ E.nx (((ρ.set i (some (.exc C ns xs))).set j (some (.exc C ns xs))).set i none) G') ρ G fun _ G' => E.nx ρ G'
section
variable {X : Cx} {B : Bs} {x n m : Str} {c : Value} {e : Expr} {px pn pm pa pe ph pos : Pos} {i j : Nat} {dX : XD → DE} {cs : List Str}
theorem psd_tryH (hcs : ∀ C ∈ cs, PySem.W.exmOne X.K (.ref (He.ga X.K C)) c = some true) (hst : X.stack = X.env :: X.outer) (hfr : X.env.frame = some X.env.locals) (nd : X.N.Nodup) (hi : X.N[i]? = some n) (hj : X.N[j]? = some m) (kn : X.env.kindOf n = some .local) (km : X.env.scope.names.lookup m = some .local) (hij : i ≠ j) (hc : Names X x c)
    (hb : ∀ (W : WX) (pins : List (Addr × Obj)) (xe : Value → Shared → Prop), Takes (X.tr pins xe) W → PE (X.tr pins xe) e (upEX X.K B dX W))
    (hdn : (n == ("__debug__" : Str)) = false := by decide) (hcn : (n == ("__classdict__" : Str)) = false := by decide) (hsw : swapsWith (.Name n pn) (some (.Name m pm)) pa.line X.env = pure false := by rfl) (hse : swapsWith e none pe.line X.env = pure false := by rfl) :
    PS X (.Try [.Expr e pe] [.ExceptHandler (some (.Name x px)) (some n) [.Assign [.Name m pm] (.Name n pn) pa] ph] [] [] pos) (upS X.K B (dTryH i j cs dX)) :=
  ps_imp (ps_try_held (tb := fun W => tDrop (upEX X.K B dX W)) hst hfr nd hi hj kn km hij hc (W0 := fun _ _ _ _ => False) LamX.takes0 hdn hcn hsw fun W pins xe tk _ => pss_one (ps_expr (hb W pins xe tk) hse)) fun D σ H ⟨ρ, Hd, G, E, at_, h, k⟩ => by
    refine ⟨ρ, Hd, G, _, _, at_, h, fun v H' Hd' y G' ee s' _ q => k.nx σ H' Hd' ρ G' ee (at_.e.mono ee) s' q, fun C d H' Hd' ns vs xs G' ee s' hd hl rl q => ?_⟩
    obtain ⟨hC, q⟩ := q
    refine ⟨true, hcs C hC, fun _ => ⟨He.ga X.K C, d, rfl, rfl, fun a na => ?_⟩, fun z => by cases z⟩
    obtain ⟨s2, e2⟩ := s'.fields hd
    have ra : Rp X.K (upd (upd Hd' d (.xd (List.zip ns vs))) a (exh a (He.ga X.K C) d)) (.ref a) (.exc C ns xs) := by
      refine .exc upd_same ?_ hl (rl.mono (e2.trans (s2.exn na)))
      rw [upd_ne (fun z => by rw [← z, hd] at na; cases na), upd_same]
    have e3 : Ex (upd Hd' d (.xd (List.zip ns vs))) (upd (upd Hd' d (.xd (List.zip ns vs))) a (exh a (He.ga X.K C) d)) := s2.exn na
    have re := at_.e.mono (ee.trans (e2.trans e3))
    exact k.nx _ _ _ _ G' (ee.trans (e2.trans e3)) (((re.set i ra).set j ra).unset i) (s2.new na) q
end
structure IsC (K : PySem.W.Frag) (mg : Str → Option Value) (es : List Str) (sub : Str → Str → Bool) (fl : List Str) : Prop where
  e : ∀ C ∈ es, ∀ D ∈ es, PySem.W.kitOne K (.ref (He.ga K C)) (.ref (He.ga K D)) = some (sub C D)
  t : ∀ t ∈ ["NoneType", "bool", "int", "str", "tuple", "list", "dict"], ∀ D ∈ es, PySem.W.kitOne K (.type t) (.ref (He.ga K D)) = some false
  m : ∀ C ∈ es, ∀ D ∈ es, PySem.W.exmOne K (.ref (He.ga K C)) (.ref (He.ga K D)) = some (sub C D)
  x : ∀ C ∈ es, ExcC K (He.ga K C)
  f : ∀ C ∈ es, XfC K (He.ga K C)
  n : ∀ C ∈ es, ∀ f ∈ fl, PySem.W.findIn K (.ref (He.ga K C)) f = some none
  g : ∀ C ∈ es, mg C = some (.ref (He.ga K C))
theorem excB_ok {K : PySem.W.Frag} {C : Addr} (h : excB K C = true) : XfC K C ∧ ExcC K C := by
  obtain ⟨h1, h⟩ := He.ba h
  obtain ⟨h2, h⟩ := He.ba h
  obtain ⟨h3, h⟩ := He.ba h
  obtain ⟨h4, h5⟩ := He.ba h
  have xf := xfB_ok h1
  exact ⟨xf, ⟨xf.ga, xf.gg, xf.exC, xf.hdC, He.eqO_ok h2, He.eqO_ok h3, of_decide_eq_true h4, of_decide_eq_true h5⟩⟩
theorem isB_ok {K : PySem.W.Frag} {h : Heap} {mg : Str → Option Value} {es : List Str} {sub : Str → Str → Bool} {fl : List Str} (X : K.In h) (G : h.Ns mainGlobals mg) (b : isB K es sub fl = true) : IsC K mg es sub fl := by
  have key := List.all_eq_true.mp b
  refine ⟨fun C hC D hD => ?_, fun t ht C hC => ?_, fun C hC D hD => ?_, fun C hC => ?_, fun C hC => ?_, fun C hC f hf => ?_, fun C hC => ?_⟩ <;> obtain ⟨h1, z⟩ := He.ba (key C hC) <;> obtain ⟨h2, z⟩ := He.ba z <;> obtain ⟨h3, z⟩ := He.ba z <;> obtain ⟨h4, h5⟩ := He.ba z
  · exact of_decide_eq_true (He.ba (List.all_eq_true.mp h5 D hD)).1
  · exact of_decide_eq_true (List.all_eq_true.mp h4 t ht)
  · exact of_decide_eq_true (He.ba (List.all_eq_true.mp h5 D hD)).2
  · exact (excB_ok h2).2
  · exact (excB_ok h2).1
  · exact He.eqO_ok (List.all_eq_true.mp h3 f hf)
  · exact PySem.W.mg_of X G (He.eqO_ok h1)
def TyY (K : PySem.W.Frag) (H : Hp) (v : V) (t : Value) : Prop := TyX K H v t ∨ ∃ a C d fs, v = .ref a ∧ t = .ref C ∧ H a = some (exh a C d) ∧ H d = some (.xd fs) ∧ ExcC K C
section
variable {X : Cx} {B : Bs} {pins : List (Addr × Obj)} {σ : L2.St} {H : Hp} {s : Shared} {p pos q : Pos} {e : Expr} {es : List Expr} {da : DE} {x : Str} {cl fl : List Str} {sub : Str → Str → Bool}
theorem exh_at {a C d : Addr} {fs : List (Str × V)} (I : Inv X pins σ H s) (ha : H a = some (exh a C d)) (hd : H d = some (.xd fs)) : ∃ (o : Obj) (od : Obj) (m : Str → Option Value), PySem.W.InstAt s.heap a o C (some od) ∧ (∀ y, RelO (fs.lookup y) (m y)) ∧ ∀ y, PySem.W.lookIn y od = some (m y) := by
  obtain ⟨⟨o, us, e1, e2, e3, e4⟩, _, _⟩ := I.hok a _ ha
  obtain ⟨m, hns, hr⟩ := (show ObjOk X.prog X.w H s.heap d (.xd fs) from I.hok d _ hd)
  obtain ⟨od, ho, hl⟩ := lookIn_ns hns
  exact ⟨o, od, m, ⟨e1, e2, by unfold PySem.W.notCls; rw [e4] <;> rfl, by rw [e3]; exact ho⟩, hr, hl⟩
theorem kit_ofY {v : V} {u t : Value} (I : Inv X pins σ H s) (r : RelV v u) (ty : TyY X.K H v t) : ∃ P : Heap → Prop, PySem.W.KitX X.K u t P ∧ P s.heap ∧ u ≠ .builtin "__main__.__loader__#opaque" := by
  rcases ty with ty | ⟨a, C, d, fs, rfl, rfl, ha, hd, E⟩
  · exact kit_of I r ty
  · cases (show u = Value.ref a from r)
    obtain ⟨o, od, m, J, _, _⟩ := exh_at I ha hd
    have cl : (PySem.W.clsIn X.K C).isSome = true := by
      obtain ⟨cd, hc, _⟩ := PySem.W.any_some E.hd
      rw [hc]
      rfl
    exact ⟨_, PySem.W.kitx_exc cl E.hg E.hk E.hs E.ha E.hn E.ht E.hm, J, fun z => nomatch z⟩
def rIsY (K : PySem.W.Frag) : List V → Hp → VK → Prop := fun xs H Q => ∃ (v c : V) (t u : Value) (b : Bool), xs = [v, c] ∧ ClsV c u ∧ TyY K H v t ∧ PySem.W.kitOne K t u = some b ∧ Q (.bl b) H
theorem call_isY : CallR X (.builtin "isinstance") (rIsY X.K) := by
  intro pins s σ H xs us Q I r ⟨v, c, t, u, b, e1, k, ty, e, hq⟩
  subst e1
  obtain ⟨w1, w2, e2, r1, r2⟩ := vals2 r
  subst e2
  cases k.eq r2
  obtain ⟨P, Z, hp, hn⟩ := kit_ofY I r1 ty
  exact PySem.W.kia_one Z I.kIn hp e hn fun tk => ⟨.bl b, H, I.tok tk, rfl, hq⟩
def tOwn (K : PySem.W.Frag) (cs : List Str) : TA := fun _ H Q => Q (cs.map fun C => V.ref (He.ga K C)) H
theorem pow_nil : PA X [] (tOwn X.K []) := pa_imp pa_nil fun _ _ _ h => h
theorem pow_cons {C : Str} {cs : List Str} (hg : Gl X C) (hm : X.mg C = some (.ref (He.ga X.K C))) (hr : PA X es (tOwn X.K cs)) (hd : (C == ("__debug__" : Str)) = false := by decide) (hs : starEach (.Name C q :: es) X.env = (false, eval (.Name C q) X.env) :: starEach es X.env := by rfl) :
    PA X (.Name C q :: es) (tOwn X.K (C :: cs)) := pa_imp (pa_cons (pe_glob (v := .ref (He.ga X.K C)) hg hm rfl hd) hr hs) fun _ _ _ h => h
def isO (cl : List Str) (sub : Str → Str → Bool) (cs : List Str) (x : D) : Option Bool := match x with
  | .exc C _ _ => if C ∈ cl then some (cs.any (sub C)) else none
  | x => if x.tyn.isSome then some false else none
theorem is_own {K : PySem.W.Frag} {mg : Str → Option Value} {F : Gm} {Hd H : Hp} {G : Gm} {v : V} {y : D} {b : Bool} {cs : List Str} (T : IsC K mg cl sub fl) (hcs : ∀ C ∈ cs, C ∈ cl) (s : Sim K F Hd H G) (r : Rp K Hd v y) (h : isO cl sub cs y = some b) :
    ∃ t, TyY K H v t ∧ PySem.W.kitAny K t (cs.map fun C => Value.ref (He.ga K C)) = some b := by
  have no : ∀ t ∈ ["NoneType", "bool", "int", "str", "tuple", "list", "dict"], ∀ l : List Str, (∀ C ∈ l, C ∈ cl) → PySem.W.kitAny K (.type t) (l.map fun C => Value.ref (He.ga K C)) = some false := fun t ht l => by
    induction l with
    | nil => exact fun _ => rfl
    | cons C l ih => exact fun hl => kitAny_cons (T.t t ht C (hl C List.mem_cons_self)) (fun _ => ih fun D hD => hl D (List.mem_cons_of_mem _ hD)) fun z => by cases z
  have own : ∀ C ∈ cl, ∀ l : List Str, (∀ D ∈ l, D ∈ cl) → PySem.W.kitAny K (.ref (He.ga K C)) (l.map fun D => Value.ref (He.ga K D)) = some (l.any (sub C)) := fun C hC l => by
    induction l with
    | nil => exact fun _ => rfl
    | cons D l ih =>
      intro hl
      refine kitAny_cons (T.e C hC D (hl D List.mem_cons_self)) (fun z => ?_) fun z => ?_
      · rw [List.any_cons, z, Bool.false_or]
        exact ih fun D hD => hl D (List.mem_cons_of_mem _ hD)
      · rw [List.any_cons, z, Bool.true_or]
  have base : ∀ t, y.tyn = some t → b = false → ∃ t, TyY K H v t ∧ PySem.W.kitAny K t (cs.map fun C => Value.ref (He.ga K C)) = some b := fun t ht hb => by
    rw [hb]
    exact ⟨_, .inl (ty_of s r ht), no t (tyn_in ht) cs hcs⟩
  have fin : (if y.tyn.isSome = true then some false else none) = some b → ∃ t, TyY K H v t ∧ PySem.W.kitAny K t (cs.map fun C => Value.ref (He.ga K C)) = some b := fun h => by
    cases q : y.tyn with
    | none =>
      rw [q] at h
      cases h
    | some t =>
      rw [q] at h
      exact base t q (Option.some.inj h).symm
  cases y with
  | exc C ns xs =>
    unfold isO at h
    dsimp only at h
    by_cases hC : C ∈ cl
    · rw [if_pos hC] at h
      cases h
      cases r with
      | exc ha hd _ _ => exact ⟨_, .inr ⟨_, _, _, _, rfl, rfl, s.sub _ _ ha, s.sub _ _ hd, T.x C hC⟩, own C hC cs hcs⟩
    · rw [if_neg hC] at h
      cases h
  | _ => exact fin h
def dIsO (cl : List Str) (sub : Str → Str → Bool) (cs : List Str) (da : DE) : DE := fun ρ G R => da ρ G fun y G1 => ∃ b, isO cl sub cs y = some b ∧ R (.bl b) G1
theorem pd_isO {C : Str} (T : IsC X.K X.mg cl sub fl) (hC : C ∈ cl) (hx : x = "isinstance") (hg : Gl X x) (hm : X.mg x = none) (hgC : Gl X C) (ha : PE X e (upE X.K B da)) (hd : (C == ("__debug__" : Str)) = false := by decide)
    (he : starEach (e :: [.Name C q]) X.env = (false, eval e X.env) :: starEach [.Name C q] X.env := by rfl) (he2 : starEach ((.Name C q) :: []) X.env = (false, eval (.Name C q) X.env) :: starEach [] X.env := by rfl) (hpl : (backTo pos (starEach [.Name C q] X.env)).any (·.1) = false := by rfl) :
    PE X (.Call (.Name x p) (e :: [.Name C q]) [] pos) (upE X.K B (dIsO cl sub [C] da)) := by
  subst hx
  refine pe_imp (pe_callB call_isY hg hm (by decide +kernel) (pa_cons ha (pow_cons hgC (T.g C hC) pow_nil hd he2) he) (by decide) (by decide) he hpl) fun σ H Q ⟨ρ, Hd, G, R, at_, h, k⟩ => ?_
  refine ⟨ρ, Hd, G, _, at_, h, fun v H1 Hd1 y G1 e1 s1 r1 ⟨b, eb, hr⟩ => ?_⟩
  obtain ⟨t, ty, kt⟩ := is_own (cs := [C]) T (fun D hD => by cases List.mem_singleton.mp hD; exact hC) s1 r1 eb
  refine ⟨v, _, t, _, b, rfl, .own _, ty, ?_, k _ H1 Hd1 _ G1 e1 s1 (.bl b) hr⟩
  unfold PySem.W.kitAny at kt
  simp only [List.map] at kt
  revert kt
  cases z : PySem.W.kitOne X.K t (Value.ref (He.ga X.K C)) with
  | none => exact fun kt => by cases kt
  | some w =>
    cases w with
    | true => exact fun kt => kt
    | false => exact fun kt => kt
def dXf (cl : List Str) (f : Str) (da : DE) : DE := fun ρ G R => da ρ G fun y G1 => ∃ C ns xs z, y = .exc C ns xs ∧ C ∈ cl ∧ (ns.zip xs).lookup f = some z ∧ R z G1
theorem rpl_lookup {K : PySem.W.Frag} {H : Hp} {f : Str} {z : D} : ∀ {ns : List Str} {vs : List V} {xs : List D}, RpL K H vs xs → (ns.zip xs).lookup f = some z → ∃ v, (ns.zip vs).lookup f = some v ∧ Rp K H v z
  | [], _, _, _, h => by cases h
  | _ :: _, _, _, .nil, h => by cases h
  | n :: ns, _, _, .cons (v := v) a b, h => by
    rw [List.zip_cons_cons, List.lookup_cons] at h
    rw [List.zip_cons_cons, List.lookup_cons]
    cases q : (f == n) with
    | true =>
      rw [q] at h
      cases h
      exact ⟨v, rfl, a⟩
    | false =>
      rw [q] at h
      exact rpl_lookup b h
theorem pd_xf {f : Str} (T : IsC X.K X.mg cl sub fl) (hf : f ∈ fl) (ha : PE X e (upE X.K B da)) (hb : attributeBase e f X.env (eval e X.env) = eval e X.env := by rfl) : PE X (.Attribute e f pos) (upE X.K B (dXf cl f da)) := by
  refine ⟨fun pins s σ H Q I ⟨ρ, Hd, G, R, at_, h, k⟩ => attr_of hb (thn (ha.run pins s σ H (fun v H1 => ∃ Hd1 C ns xs z G1, Ex Hd Hd1 ∧ Sim X.K B.f Hd1 H1 G1 ∧ Rp X.K Hd1 v (.exc C ns xs) ∧ C ∈ cl ∧ (ns.zip xs).lookup f = some z ∧ R z G1) I ⟨ρ, Hd, G, _, at_, h, fun v H1 Hd1 y G1 e1 s1 r1 ⟨C, ns, xs, z, ey, hC, hl, hr⟩ => ?_⟩) fun u s1 hh => ?_)⟩
  · subst ey
    exact ⟨Hd1, C, ns, xs, z, G1, e1, s1, r1, hC, hl, hr⟩
  · obtain ⟨v, H1, I1, rv, Hd1, C, ns, xs, z, G1, e1, s1, r1, hC, hl, hr⟩ := hh
    cases r1 with
    | exc h1 h2 h3 h4 =>
      rename_i a d us
      cases (show u = Value.ref a from rv)
      obtain ⟨o, od, m, J, hm, hlk⟩ := exh_at I1 (s1.sub _ _ h1) (s1.sub _ _ h2)
      obtain ⟨w, ew, rw_⟩ := rpl_lookup h4 hl
      obtain ⟨u, hu, ru⟩ := RelO.some_of (v := w) (o := m f) (by rw [← ew]; exact hm f)
      have xf := T.f C hC
      exact HandSPX.exc_get I1.kIn J xf.ga xf.gg xf.exC (PySem.W.findObj_own xf.hdC (T.n C hC f hf) rfl (by rw [hlk, hu])) (handed_of ru) ⟨w, H1, I1.tok _, ru, k w H1 Hd1 z G1 e1 s1 rw_ hr⟩
end
end DL
namespace Act
open PySem PySem.Spec PySem.Calls PyProof.Rows L2 LamX PySem.W
section
variable {X : Cx} {pins : List (Addr × Obj)} {σ : L2.St} {H HZ : Hp} {s s1 : Shared} {c P : Addr} {params : Arguments} {body : Expr} {scope : Scope} {pos : Pos} {bs : List Str} {f c' : Addr}
end
end Act
namespace DL
open PySem PySem.Spec PyProof.Rows L2 Evl Act
variable [TabC]
section
variable {X : Cx} {B : Bs} {p lpos pos : Pos} {x a : Str} {st : Stmt} {N bs : List Str} {TT : ActD → Gm → KD → Prop} {params : Arguments} {body : Expr} {scope : Scope} {c P : Addr} {dE : XD → DE} {k kl n : Nat}
end
end DL
namespace DL
open PySem PySem.Spec PyProof.Rows L2 Evl Sup
variable [TabC]
theorem SaysE.d {q : Ask} {w : World} {h : Heap} {K : PySem.W.Frag} (c : SaysE q w h K) : He.SaysD q.fa q.fn K := congrArg (fun z : He.AlT => z.1) c.x.t
theorem SaysE.cls {q : Ask} {w : World} {h : Heap} {K : PySem.W.Frag} (c : SaysE q w h K) (i : Nat) {d : DefC} (hd : q.cs[i]? = some d) : fnC K d.cls = d.val := by
  have e := congrArg (fun l : List FnC => l[i]?) c.c
  rw [List.getElem?_map, List.getElem?_map, hd] at e
  exact Option.some.inj e
theorem tabOkB_ok {K : PySem.W.Frag} (h : tabOkB K = true) : TabOk K := fun p hp r hr e => by
  have z := List.all_eq_true.mp (List.all_eq_true.mp h p hp) r hr
  rw [e] at z
  simpa using z
theorem SaysE.tabF {q : Ask} {w : World} {h : Heap} {K : PySem.W.Frag} (c : SaysE q w h K) (X : K.In h) (e : TabC.tf = q.tf) (b : tabOkB K = true) : TabF K h := by
  have mem : ∀ n ∈ TabC.tf, ((n, none) : He.Defn) ∈ q.tfn := fun n hn => by
    rw [e] at hn
    exact List.mem_map_of_mem hn
  exact ⟨tabOkB_ok b, fun n hn => c.x.empty _ (mem n hn), fun n hn => c.x.out _ (mem n hn), fun n hn => PySem.W.codeHd_of_K X (c.x.hd _ (mem n hn))⟩
end DL
namespace DL
open PySem PySem.Spec PyProof.Rows L2 Evl
variable [TabC]
end DL
namespace DL
open PySem PySem.Spec PyProof.Rows L2 Evl
variable [TabC]
section
variable {ρ : En} {G : Gm} {da : DE} {dA : DA} {E : DEnds}
theorem ds_raise1 {C f : Str} {RX : XD} {x : D} (ha : Ev da ρ G x) (hf : fmtD x) (h : RX C [f] [x] G) : dRaise C [f] [true] RX (dCons da dNil) ⟨fun _ _ => False, fun _ _ => False, fun _ _ => False, fun _ _ => False⟩ ρ G :=
  EvA.one ha _ ⟨rfl, fun p hp _ => by cases List.mem_singleton.mp hp; exact hf, h⟩
end
def seqL : D → List D
  | .tup ds => ds
  | .lst ds => ds
  | _ => []
theorem isO_exc {C : Str} {cl cs ns : List Str} {sub : Str → Str → Bool} {xs : List D} (h : C ∈ cl) : isO cl sub cs (.exc C ns xs) = some (cs.any (sub C)) := if_pos h
end DL
namespace DL
open PySem PySem.Spec PyProof.Rows L2 Evl
variable [TabC]
section
variable {X : Cx} {B : Bs} {pos p : Pos} {e : Expr} {es : List Expr} {dA : DA}
end
end DL
namespace DL
open PySem PySem.Spec PyProof.Rows L2 Evl
variable [TabC]
def CDivZ (_ j : Int) : Prop := j ≠ 0 ∧ j.natAbs.log2 < 9000
theorem op_fdivZ {X : Cx} : OpR X (binaryOp .FloorDiv) (rI CDivZ fun i j => .int (Int.fdiv i j)) := opI fun i j _ _ _ _ _ hc q => floordiv_int hc.1 q (.inl (PyProof.noPylong_of_log2 hc.2))
theorem pd_fdivZ {X : Cx} {B : Bs} {pos : Pos} {a b : Expr} {da db : DE} (ha : PE X a (upE X.K B da)) (hb : PE X b (upE X.K B db)) : PE X (.BinOp a .FloorDiv b pos) (upE X.K B (dOp (fIntC CDivZ fun i j => .int (Int.fdiv i j)) da db)) := pd_op op_fdivZ od_intC ha hb
theorem divZ_ok {i j : Int} (h : j ≠ 0) (hb : j.natAbs < 2 ^ 8000) : CDivZ i j := ⟨h, Nat.lt_of_lt_of_le (PySem.Flt.log2_lt_of (by decide) hb) (by decide)⟩
def lowZ (a u : Int) : D := if 0 < u then lowD a u else lowD (-a) (-u)
def pairZ (n d : Int) : D := if d = 1 then .int n else .tup [.int n, .int d]
def sgZ (a u : Int) : Int := if 0 < u then (Int.gcd a u : Int) else -(Int.gcd a u : Int)
theorem lowZ_facts {a u : Int} (hu : u ≠ 0) : ∃ n d : Int, sgZ a u ≠ 0 ∧ (sgZ a u).natAbs ≤ u.natAbs ∧ a = sgZ a u * n ∧ u = sgZ a u * d ∧ 0 < d ∧ Int.gcd n d = 1 ∧ lowZ a u = pairZ n d := by
  by_cases h : 0 < u
  · obtain ⟨g, n, d, eg, g0, ea, eu, d0, e1, e2, e3, e4⟩ := gcd_facts (a := a) h
    have es : sgZ a u = g := (if_pos h).trans eg
    refine ⟨n, d, by rw [es]; omega, by rw [es]; omega, by rw [es]; exact ea, by rw [es]; exact eu, d0, e3, ?_⟩
    unfold lowZ lowD pairZ
    rw [if_pos h, eg, e1, e2]
  · have h2 : 0 < -u := by omega
    obtain ⟨g, n, d, eg, g0, ea, eu, d0, e1, e2, e3, e4⟩ := gcd_facts (a := -a) h2
    have eg2 : (Int.gcd a u : Int) = g := by
      rw [← eg, Int.gcd_neg, Int.neg_gcd]
    have es : sgZ a u = -g := (if_neg h).trans (by rw [eg2])
    refine ⟨n, d, by rw [es]; omega, by rw [es]; omega, ?_, ?_, d0, e3, ?_⟩
    · rw [es, Int.neg_mul]
      omega
    · rw [es, Int.neg_mul]
      omega
    · unfold lowZ lowD pairZ
      rw [if_neg h, eg, e1, e2]
theorem numI_pair {n d : Int} : numI (pairZ n d) = (n, d) := by
  unfold pairZ
  by_cases h : d = 1
  · rw [if_pos h, h]
    rfl
  · rw [if_neg h]
    rfl
def sp_lowZ : DSp := fun xs G R _ => ∃ a u : Int, xs = [.int a, .int u] ∧ u ≠ 0 ∧ u.natAbs < 2 ^ 8000 ∧ R (lowZ a u) G
def lowZR : DS := (dSeq (dSet 2 (dIf (dTst (dOp (fInt gGt) (dVar 1) (dC (.int 0)))) (dCall sp_common X0 (dCons (dVar 0) (dCons (dVar 1) dNil))) (dNeg (dCall sp_common X0 (dCons (dVar 0) (dCons (dVar 1) dNil)))))) (dRet (dIf (dTst (dOp fEq (dOp (fIntC CDivZ fun i j => .int (Int.fdiv i j)) (dVar 1) (dVar 2)) (dC (.int 1)))) (dOp (fIntC CDivZ fun i j => .int (Int.fdiv i j)) (dVar 0) (dVar 2)) (dTup (dCons (dOp (fIntC CDivZ fun i j => .int (Int.fdiv i j)) (dVar 0) (dVar 2)) (dCons (dOp (fIntC CDivZ fun i j => .int (Int.fdiv i j)) (dVar 1) (dVar 2)) dNil))))))
theorem Ev.divZ {ρ : En} {G : Gm} {da db : DE} {i j k : Int} (ha : Ev da ρ G (.int i)) (hb : Ev db ρ G (.int j)) (hc : CDivZ i j) (e : i = j * k) : Ev (dOp (fIntC CDivZ fun i j => .int (Int.fdiv i j)) da db) ρ G (.int k) := by
  have q : Int.fdiv i j = k := by
    rw [e]
    exact Int.mul_fdiv_cancel_left k hc.1
  have r := Ev.intC (C := CDivZ) (g := fun i j => .int (Int.fdiv i j)) ha hb hc
  rw [q] at r
  exact r
theorem lowZ_ok (xs : List D) (G : Gm) (R : KD) (RX : XD) (h : sp_lowZ xs G R RX) : lowZR { nx := fun _ G => R .non G, rt := R } (xs.map some ++ List.replicate (3 - xs.length) none) G := by
  obtain ⟨a, u, rfl, hu, hu2, h⟩ := h
  obtain ⟨n, d, s0, sl, ea, eu, d0, g1, l1⟩ := lowZ_facts (a := a) hu
  have cz : ∀ i, CDivZ i (sgZ a u) := fun i => divZ_ok s0 (Nat.lt_of_le_of_lt sl hu2)
  refine ds_set (x := .int (sgZ a u)) ?_ ?_
  · by_cases hp : 0 < u
    · rw [show sgZ a u = (Int.gcd a u : Int) from if_pos hp]
      exact .ifT ((EvT.tst (.gt (.var rfl) .c)).cast (decide_eq_true hp)) (.common (.var rfl) (.var rfl))
    · rw [show sgZ a u = -(Int.gcd a u : Int) from if_neg hp]
      exact .ifF ((EvT.tst (.gt (.var rfl) .c)).cast (decide_eq_false hp)) (.neg (.common (.var rfl) (.var rfl)))
  · rw [l1] at h
    generalize sgZ a u = s at *
    refine ds_ret (x := pairZ n d) (.chosen (.tst (.eqI (.divZ (.var rfl) (.var rfl) (cz u) eu) .c)) (fun hk => ?_) fun hk => ?_) h
    · unfold pairZ
      rw [if_pos (of_decide_eq_true hk)]
      exact .divZ (.var rfl) (.var rfl) (cz a) ea
    · unfold pairZ
      rw [if_neg (of_decide_eq_false hk)]
      exact .tup (.cons (.divZ (.var rfl) (.var rfl) (cz a) ea) (.one (.divZ (.var rfl) (.var rfl) (cz u) eu))) (show 2 ≤ sizeLine by decide)
end DL
namespace DL
open PySem PySem.Spec PyProof.Rows L2 Evl
variable [TabC]
def sp_fracX : DSp := fun xs G R RX => ∃ x p, xs = [x, .str p] ∧ x.kn = true ∧ p.length ≤ 10000 ∧ (numD x = true → R (keptD x) G) ∧ (numD x = false → RX "BadFraction" ["part"] [.str p] G)
def fracXR (RX : XD) : DS := (dSeq (dIfS (dNot (dTst (dCall sp_is_number X0 (dCons (dVar 0) dNil)))) (dRaise "BadFraction" ["part"] [true] RX (dCons (dVar 1) dNil)) dNext) (dRet (dCall sp_kept_number X0 (dCons (dVar 0) dNil))))
theorem fracX_ok (xs : List D) (G : Gm) (R : KD) (RX : XD) (h : sp_fracX xs G R RX) : fracXR RX { nx := fun _ G => R .non G, rt := R } (xs.map some ++ List.replicate (2 - xs.length) none) G := by
  obtain ⟨x, p, rfl, hk, hp, hy, hn⟩ := h
  refine ds_if (EvT.not (.tst (.isNumber (.var rfl) hk))) ?_
  cases q : numD x with
  | false => exact ds_raise1 (.var rfl) hp (hn q)
  | true => exact ds_ret (.call (.one (.var rfl)) fun R r => ⟨x, rfl, hk, r⟩) (hy q)
end DL
namespace DL
open PySem PySem.Spec PyProof.Rows L2 Evl
variable [TabC]
end DL
namespace DL
open PySem PySem.Spec PyProof.Rows L2 Evl
variable [TabC]
end DL
namespace DL
open PySem PySem.Spec PyProof.Rows L2 Evl
variable [TabC]
section
variable {a b c d : Int} {X Y F S : D}
end
end DL
namespace DL
open PySem PySem.Spec PyProof.Rows L2 Evl
section
variable {M : Model} {A : Around} {E : Value → Shared → Prop} {s : Shared} {base : Heap} {env : Env} {outer l : List Env} {L e : Addr} {Z : Obj → Prop}
end
section
variable {X : Cx}
end
end DL
namespace DL
open PySem PySem.Spec PyProof.Rows L2 Evl
variable [TabC]
section
variable {X : Cx} {B : Bs} {pos p : Pos} {a b c e : Expr} {es : List Expr} {da db dc de : DE} {dA : DA} {ta tb : DT}
end
end DL
namespace DL
open PySem PySem.Spec PyProof.Rows L2 Evl
variable [TabC]
section
variable {X : Cx} {B : Bs} {p pos pos' q : Pos} {e o value : Expr} {es : List Expr} {da dv dobj : DE} {dA : DA} {cl : ClT} {sub : Str → Str → Bool} {x f : Str}
end
section
variable {P : Program} {w : World} {K : PySem.W.Frag} {mg : Str → Option Value} {base : Heap}
end
section
variable {X : Cx} {B : Bs} {apos pos : Pos} {e o : Expr} {es : List Expr} {dobj : DE} {dA : DA} {k : Nat} {f C : Addr} {m : Str} {fd : FuncData} {ps : List Str} {sp : Sp} {E : XK} {ta : TE} {t : TA} {pl : Sem Bool}
end
section
variable {X : Cx} {B : Bs} {p pos : Pos} {e : Expr} {es : List Expr} {dA : DA} {k : Nat} {f : Addr} {fd : FuncData} {ps : List Str} {sp : Sp} {E : XK} {t : TA}
end
end DL
namespace OwnNe
open PySem PySem.W PyProof.Rows Builtin
section
variable {prog : Program} {w : World} {A : Around} {E : Value → Shared → Prop} {s : Shared} {K : Frag} {x C f L : Addr} {ox : Obj} {od : Option Obj} {h₀ : Heap} {m : Str → Option Value} {b tb : Value}
end
end OwnNe
namespace DL
open PySem PySem.Spec PyProof.Rows L2 Evl
variable [TabC]
section
variable {X : Cx} {k : Nat} {f : Addr} {fd : FuncData} {ps : List Str} {sp : Sp} {E : XK}
end
section
variable {X : Cx} {B : Bs} {p pos : Pos} {a b e : Expr} {da db : DE} {k : Nat} {ps : List Str} {E : XK} {cl : ClT} {sub : Str → Str → Bool} {cs : List Str} {f : Addr} {fd : FuncData} {q : DSp} {RX : XD}
end
section
variable {X : Cx} {B : Bs} {p pos : Pos} {e : Expr} {da : DE} {k : Nat} {tb : TrT}
end
end DL
namespace Sup
open PySem PySem.Spec PySem.Calls PyProof.Rows L2 PySem.W
section
variable {P : Program} {w : World} {K : PySem.W.Frag} {mg : Str → Option Value} {base : Heap} {N ps : List Str} {x qual : Str} {scope : Scope} {f cda cc C f2 : Addr} {A : Around} {outer : List Env} {s : Shared} {H : Hp} {E E2 : XK} {params : Arguments} {body : List Stmt} {k : Nat} {sp : Sp}
end
end Sup
namespace Sup
open PySem PySem.Spec PySem.Calls PyProof.Rows L2 PySem.W
section
variable {P : Program} {w : World} {K : PySem.W.Frag} {mg : Str → Option Value} {base : Heap} {N ps : List Str} {x qual : Str} {scope : Scope} {f cda cc C f2 : Addr} {A : Around} {outer : List Env} {s : Shared} {H : Hp} {E E2 : XK} {params : Arguments} {body : List Stmt} {k : Nat} {sp : Sp}
end
end Sup
namespace DL
open PySem PySem.Spec PyProof.Rows L2 Evl Sup
variable [TabC]
section
variable {P : Program} {w : World} {K : PySem.W.Frag} {mg : Str → Option Value} {base : Heap}
end
section
variable {X : Cx} {B : Bs} {p pos : Pos} {e : Expr} {es : List Expr} {dA : DA} {k : Nat} {ps : List Str} {E : XK}
end
section
variable {X : Cx} {B : Bs} {pos : Pos} {o : Expr} {to : TE} {dobj : DE} {f : Str} {cl : ClT} {sub : Str → Str → Bool}
end
end DL
namespace DL
open PySem PySem.Spec PyProof.Rows L2 Evl Sup
variable [TabC]
section
variable {X : Cx} {B : Bs} {p pos : Pos} {e o : Expr} {es : List Expr} {dA : DA} {dobj di da db : DE}
end
section
variable {X : Cx} {B : Bs} {p pos : Pos} {e : Expr} {da : DE} {x : Str} {kvs : KvT}
end
end DL
namespace DL
open PySem PySem.Spec PyProof.Rows L2 Evl Sup
variable [TabC]
section
variable {X : Cx} {B : Bs} {p pos : Pos} {e : Expr} {da : DE} {x : Str} {kvs : KvT}
end
end DL
namespace DL
open PySem PySem.Spec PyProof.Rows L2
end DL
namespace DL
open PySem PySem.Spec PyProof.Rows L2 Evl Sup
variable [TabC]
section
variable {ρ : En} {G : Gm} {da db dv dobj : DE} {dA : DA} {x y z : D} {xs ys : List D} {ns : List Str} {cl : ClT} {sub : Str → Str → Bool} {C f : Str} {a : Addr} {E : DEnds}
end
end DL
namespace DL
open PySem PySem.Spec PyProof.Rows L2 Evl Sup
abbrev Bx := Option Nat
structure Sd where
  l : Nat
  x : Bx
  y : Bx
variable [TabC]
section
variable {ρ : En} {G : Gm} {da db dv dobj : DE} {dA : DA} {x y z : D} {xs ys : List D}
end
end DL
namespace DL
open PySem PySem.Spec PyProof.Rows L2 Evl Sup
variable [TabC]
section
variable {X : Cx} {B : Bs} {p pos : Pos} {e : Expr} {es : List Expr} {dA : DA} {k : Nat} {f : Addr} {sp : Sp} {E : XK}
end
end DL
namespace DL
open PySem PySem.Spec PyProof.Rows L2 Evl Sup
variable [TabC]
section
variable {ρ : En} {a : Addr} {k n : Nat} {da : DE} {P : D → Prop}
end
end DL
namespace DL
open PySem PySem.Spec PyProof.Rows L2 Evl Sup
variable [TabC]
end DL
namespace DL
open PySem PySem.Spec PyProof.Rows L2 Evl Sup
variable [TabC]
section
variable {ρ : En} {G : Gm} {da db : DE} {xs : List D} {i : Nat}
end
end DL
namespace DL
open PySem PySem.Spec PyProof.Rows L2 Evl Sup
variable [TabC]
section
variable {X : Cx} {B : Bs} {pos pos' apos cpos : Pos} {o e f i value : Expr} {dobj dk dd dv : DE}
end
end DL
namespace DL
open PySem PySem.Spec PyProof.Rows L2 Evl Sup
variable [TabC]
def hp : Bx → Int × Int
  | none => (0, 1)
  | some 0 => (3, 1)
  | some (n + 1) => (1, 3 ^ n)
theorem p3 (n : Nat) : (0 : Int) < 3 ^ n := Int.pow_pos (by decide)
end DL
namespace DL
open PySem PySem.Spec PyProof.Rows L2 Evl Sup
variable [TabC]
end DL
namespace DL
open PySem PySem.Spec PyProof.Rows L2 Evl Sup
variable [TabC]
end DL
namespace DL
open PySem PySem.Spec PyProof.Rows L2 Evl Sup
variable [TabC]
end DL
namespace DL
open PySem PySem.Spec PyProof.Rows L2 Evl Sup
variable [TabC]
end DL
namespace DL
open PySem PySem.Spec PyProof.Rows L2 Evl Sup
variable [TabC]
end DL
namespace DL
open PySem PySem.Spec PyProof.Rows L2 Evl Sup
variable [TabC]
namespace Y
section
variable {ρ ρ' : En} {G : Gm} {E : DEnds} {R : KD} {da db dc dv dobj di de : DE} {dA : DA} {x y z : D} {xs ys : List D} {ta tb tc : DT} {j k : Bool} {s t s1 s2 : DS} {g : DG} {gs : DGs} {T : Bool → Gm → Prop} {L : List D → Gm → Prop} {P : Prop}
theorem nx (h : E.nx ρ G) : dNext E ρ G := h
theorem seq (h : s { E with nx := t E } ρ G) : dSeq s t E ρ G := h
theorem bk (h : E.bk ρ G) : dBreak E ρ G := h
theorem ct (h : E.ct ρ G) : dCont E ρ G := h
theorem ret (h : de ρ G E.rt) : dRet de E ρ G := h
theorem ifS (h : tc ρ G fun k G1 => if k = true then s1 E ρ G1 else s2 E ρ G1) : dIfS tc s1 s2 E ρ G := h
theorem asg (h : de ρ G fun x G1 => g x ρ G1 E.nx) : dAsg de g E ρ G := h
theorem set {i : Nat} (h : de ρ G fun x G1 => E.nx (ρ.set i (some x)) G1) : dSet i de E ρ G := h
theorem par {i j : Nat} (h : dA ρ G fun xs G1 => ∃ x y, xs = [x, y] ∧ E.nx ((ρ.set i (some x)).set j (some y)) G1) : dPar i j dA E ρ G := h
theorem par_ {Q : D → D → Prop} (h : Q x y) : ∃ x' y', [x, y] = [x', y'] ∧ Q x' y' := ⟨x, y, rfl, h⟩
theorem iteT (h : k = true) (p : P) {Q : Prop} : if k = true then P else Q := by rw [if_pos h]; exact p
theorem iteF (h : k = false) {Q : Prop} (p : Q) : if k = true then P else Q := by rw [h, if_neg (by decide)]; exact p
theorem gn {i : Nat} {N : En → Gm → Prop} (h : N (ρ.set i (some x)) G) : gN i x ρ G N := h
theorem gnil {N : En → Gm → Prop} (h : N ρ G) : gNil [] ρ G N := ⟨rfl, h⟩
theorem gcons {N : En → Gm → Prop} (h : g x ρ G fun ρ' G' => gs xs ρ' G' N) : gCons g gs (x :: xs) ρ G N := ⟨x, xs, rfl, h⟩
theorem gseqL {n : Nat} {N : En → Gm → Prop} (hl : xs.length = n) (h : gs xs ρ G N) : gSeq n gs (.lst xs) ρ G N := ⟨xs, seq_lst, hl, h⟩
theorem var {i : Nat} (e : ρ[i]? = some (some x)) (h : R x G) : dVar i ρ G R := ⟨x, e, h⟩
theorem c (h : R x G) : dC x ρ G R := h
theorem nil (h : L [] G) : dNil ρ G L := h
theorem cons (h : da ρ G fun x G1 => dA ρ G1 fun xs G2 => L (x :: xs) G2) : dCons da dA ρ G L := h
theorem tup (h : dA ρ G fun xs G1 => xs.length ≤ sizeLine ∧ R (.tup xs) G1) : dTup dA ρ G R := h
theorem lst (h : dA ρ G fun xs G1 => xs.length ≤ sizeLine ∧ R (.lst xs) G1) : dLst dA ρ G R := h
theorem len_ {n : Nat} (hn : xs.length = n) (h1 : n ≤ 10000000) (h : P) : xs.length ≤ sizeLine ∧ P := ⟨by rw [hn, sizeLine_eq]; exact Nat.le_trans h1 (by decide), h⟩
theorem op {f : D → D → D → Prop} (h : da ρ G fun x G1 => db ρ G1 fun y G2 => ∃ z, f x y z ∧ R z G2) : dOp f da db ρ G R := h
theorem oint {f : Int → Int → D} {i j : Int} {Q : D → Prop} (h : Q (f i j)) : ∃ z, fInt f (.int i) (.int j) z ∧ Q z := ⟨_, ⟨i, j, rfl, rfl, rfl⟩, h⟩
theorem ointC {C : Int → Int → Prop} {f : Int → Int → D} {i j : Int} (hc : C i j) {Q : D → Prop} (h : Q (f i j)) : ∃ z, fIntC C f (.int i) (.int j) z ∧ Q z := ⟨_, ⟨i, j, rfl, rfl, hc, rfl⟩, h⟩
theorem oadd {i j : Int} {Q : D → Prop} (h : Q (.int (i + j))) : ∃ z, fAdd (.int i) (.int j) z ∧ Q z := ⟨_, .inl ⟨i, j, rfl, rfl, rfl⟩, h⟩
theorem oeqI {i j : Int} {Q : D → Prop} (h : Q (.bl (decide (i = j)))) : ∃ z, fEq (.int i) (.int j) z ∧ Q z := ⟨_, rfl, h⟩
theorem oeqS {i j : Str} {Q : D → Prop} (h : Q (.bl (decide (i = j)))) : ∃ z, fEq (.str i) (.str j) z ∧ Q z := ⟨_, rfl, h⟩
theorem oneS {i j : Str} {Q : D → Prop} (h : Q (.bl (!decide (i = j)))) : ∃ z, fNe (.str i) (.str j) z ∧ Q z := ⟨_, rfl, h⟩
theorem neg (h : da ρ G fun x G1 => ∃ i, x = .int i ∧ R (.int (-i)) G1) : dNeg da ρ G R := h
theorem int_ {f : Int → Prop} {i : Int} (h : f i) : ∃ j, D.int i = .int j ∧ f j := ⟨i, rfl, h⟩
theorem bl_ {f : Bool → Prop} (h : f k) : ∃ j, D.bl k = .bl j ∧ f j := ⟨k, rfl, h⟩
theorem tst (h : da ρ G fun x G1 => ∃ k, x = .bl k ∧ T k G1) : dTst da ρ G T := h
theorem notT (h : ta ρ G fun k G1 => T (!k) G1) : dNot ta ρ G T := h
theorem andT (h : ta ρ G fun k G1 => if k = true then tb ρ G1 T else T false G1) : dAnd ta tb ρ G T := h
theorem orT (h : ta ρ G fun k G1 => if k = true then T true G1 else tb ρ G1 T) : dOr ta tb ρ G T := h
theorem yes (h : T true G) : dYes ρ G T := h
theorem ifE (h : tc ρ G fun k G1 => if k = true then da ρ G1 R else db ρ G1 R) : dIf tc da db ρ G R := h
theorem andV (h : da ρ G fun x G1 => ∃ k, x = .bl k ∧ if k = true then db ρ G1 R else R (.bl false) G1) : dAndV da db ρ G R := h
theorem isN (h : da ρ G fun x G1 => R (.bl x.isN) G1) : dIsN da ρ G R := h
theorem ix (h : da ρ G fun x G1 => db ρ G1 fun y G2 => ∃ z, fIx G2 x y z ∧ R z G2) : dIx da db ρ G R := h
theorem ixT {i : Int} (hi : atI xs i = some z) {Q : D → Prop} (h : Q z) : ∃ z, fIx G (.tup xs) (.int i) z ∧ Q z := ⟨z, .inl ⟨xs, i, seq_tup, rfl, hi⟩, h⟩
theorem ixL {i : Int} (hi : atI xs i = some z) {Q : D → Prop} (h : Q z) : ∃ z, fIx G (.lst xs) (.int i) z ∧ Q z := ⟨z, .inl ⟨xs, i, seq_lst, rfl, hi⟩, h⟩
theorem cal {f : Gm → List D → D → Prop} (h : dA ρ G fun xs G1 => ∃ z, f G1 xs z ∧ R z G1) : dCal f dA ρ G R := h
theorem lenL {Q : D → Prop} (h : Q (.int xs.length)) : ∃ z, fLen G [.lst xs] z ∧ Q z := ⟨_, ⟨_, rfl, .inl ⟨xs, seq_lst, rfl⟩⟩, h⟩
theorem lstT {Q : D → Prop} (h : Q (.lst xs)) : ∃ z, fLstOf G [.tup xs] z ∧ Q z := ⟨_, ⟨_, xs, rfl, seq_tup, rfl⟩, h⟩
theorem allL {bs : List Bool} {Q : D → Prop} (h : Q (.bl (bs.all id))) : ∃ z, fAll G [.lst (bs.map D.bl)] z ∧ Q z := ⟨_, ⟨_, bs, rfl, lst_lst, rfl⟩, h⟩
theorem repr_ (hr : RepOk x) {Q : D → Prop} (h : Q (.str x.shown)) : ∃ z, fRepr G [x] z ∧ Q z := ⟨_, ⟨x, rfl, hr, rfl⟩, h⟩
theorem isi_ {n t : String} (ht : x.tyn = some t) {Q : D → Prop} (h : Q (.bl (isK t n))) : ∃ z, fIsi n G [x, .ty n] z ∧ Q z := ⟨_, ⟨x, t, rfl, ht, rfl⟩, h⟩
theorem sl {l h' : DO} (h : da ρ G fun x G1 => l ρ G1 fun lo G2 => h' ρ G2 fun hi G3 => ∃ z, fSl G3 x lo hi z ∧ R z G3) : dSl da l h' ρ G R := h
theorem noP {O : Option Int → Gm → Prop} (h : O none G) : dNoP ρ G O := h
theorem part {O : Option Int → Gm → Prop} (h : de ρ G fun x G1 => ∃ i, x = .int i ∧ O (some i) G1) : dPart de ρ G O := h
theorem slL {lo hi : Option Int} {Q : D → Prop} (h : Q (.lst (cutD xs lo hi))) : ∃ z, fSl G (.lst xs) lo hi z ∧ Q z := ⟨_, .inl ⟨xs, lst_lst, rfl⟩, h⟩
theorem call {q : DSp} {RX : XD} (h : dA ρ G fun xs G1 => q xs G1 R RX) : dCall q RX dA ρ G R := h
theorem callK {q : DSp} {o : Ord} {RX : XD} (h : dA ρ G fun xs G1 => q (o.go xs) G1 R RX) : dCallK q o RX dA ρ G R := h
theorem str_ {f : Str → Prop} {i : Str} (h : f i) : ∃ j, D.str i = .str j ∧ f j := ⟨i, rfl, h⟩
theorem iSeq {S : List D → Gm → Prop} (h : de ρ G fun x G1 => ∃ xs, (x = .lst xs ∨ x = .tup xs) ∧ S xs G1) : dISeq de ρ G S := h
theorem iRng1 {S : List D → Gm → Prop} (h : da ρ G fun x G1 => ∃ j, x = .int j ∧ -(2 ^ 62) ≤ j ∧ j < 2 ^ 62 ∧ S (rngD 0 j.toNat) G1) : dIRng1 da ρ G S := h
theorem iRng1_ {S : Int → Prop} {i : Int} (h1 : -100000000 ≤ i ∧ i ≤ 100000000) (h : S i) : ∃ j, D.int i = .int j ∧ -(2 ^ 62) ≤ j ∧ j < 2 ^ 62 ∧ S j := ⟨i, rfl, by omega, by omega, h⟩
theorem for_ {dI : DI} (h : dI ρ G fun xs G1 => forL g s E xs ρ G1) : dFor dI g s E ρ G := h
theorem cmp {dI : DI} {vs : List Nat} (h : dI ρ G fun xs G1 => cmpL (wipeD ρ vs) g ta de xs [] G1 fun acc G2 => R (.lst acc) G2) : dCmp dI g ta de vs ρ G R := h
theorem done (e : x = y) (h : R y G) : R x G := e ▸ h
theorem dialN {a : Addr} {n : Int} {T' : Nat} {RX : XD} (hg : GauAt G a T') (ht : T' ≤ 1000000000) (h1 : 1 ≤ n) (h2 : n ≤ 1000000000) (h : ∀ (v : Nat) m, (v : Int) < n → Gau m (T' + 1) → R (.int v) (gup G a m)) : spDial [.ref a, .int n] G R RX := ⟨a, n, T', rfl, hg, ht, h1, Int.lt_of_le_of_lt h2 (by decide +kernel), fun v m v0 v1 hm => by
  have e : v = (v.toNat : Int) := by omega
  rw [e]
  exact h v.toNat m (by omega) hm⟩
theorem pickL {a : Addr} {T' : Nat} {RX : XD} (hg : GauAt G a T') (ht : T' ≤ 1000000000) (hn : xs ≠ []) (hl : xs.length ≤ 1000000) (h : ∀ v m, v ∈ xs → Gau m (T' + 1) → R v (gup G a m)) : spPick [.ref a, .lst xs] G R RX := ⟨a, _, xs, T', rfl, .inl rfl, hn, hl, hg, ht, h⟩
theorem isO {cl : List Str} {sub : Str → Str → Bool} {cs : List Str} (h : da ρ G fun y G1 => ∃ b, isO cl sub cs y = some b ∧ R (.bl b) G1) : dIsO cl sub cs da ρ G R := h
theorem isO_ {cl : List Str} {sub : Str → Str → Bool} {cs : List Str} {Q : Bool → Prop} (e : DL.isO cl sub cs y = some k) (h : Q k) : ∃ b, DL.isO cl sub cs y = some b ∧ Q b := ⟨k, e, h⟩
theorem xf {cl : List Str} {f : Str} (h : da ρ G fun y G1 => ∃ C ns xs z, y = .exc C ns xs ∧ C ∈ cl ∧ (ns.zip xs).lookup f = some z ∧ R z G1) : dXf cl f da ρ G R := h
theorem xf_ {cl : List Str} {f C : Str} {ns : List Str} {Q : D → Prop} (hC : C ∈ cl) (hl : (ns.zip xs).lookup f = some z) (h : Q z) : ∃ C' ns' xs' z, D.exc C ns xs = .exc C' ns' xs' ∧ C' ∈ cl ∧ (ns'.zip xs').lookup f = some z ∧ Q z := ⟨C, ns, xs, z, rfl, hC, hl, h⟩
theorem dct0 (h : R (.dct [] []) G) : dDct0 ρ G R := h
theorem eqL {Q : D → Prop} (hc : Cmp (.lst xs)) (h : Q (.bl true)) : ∃ z, fEq (.lst xs) (.lst xs) z ∧ Q z := ⟨_, feq_cmp hc hc (fun _ e => by cases e) (fun _ e => by cases e) (fun _ e => by cases e), by rw [eqv_self hc.lay]; exact h⟩
theorem neS {Q : D → Prop} {i : Str} (h : Q (.bl false)) : ∃ z, fNe (.str i) (.str i) z ∧ Q z := ⟨_, rfl, by rw [decide_eq_true rfl]; exact h⟩
end
end Y
end DL
namespace DL
open PySem PySem.Spec PyProof.Rows L2 Evl Sup
variable [TabC]
namespace Y
end Y
end DL
namespace DLS
open PySem PySem.Spec PyProof.Rows L2
section
variable {pr : Program} {w : World} {A : Around} {E : Value → Shared → Prop}
section
variable {z : Shared} {a : Addr} {L : List It} {es : Array (Int × Value)} {ep : Nat} {t : SetTable}
end
end
end DLS
namespace DLS
open PySem PySem.Spec PyProof.Rows L2
end DLS
namespace DL
open PySem PySem.Spec PyProof.Rows L2 Evl DLS
section
variable {X : Cx} {Hd H : Hp} {pins : List (Addr × Obj)} {σ : L2.St} {z : Shared}
end
variable [TabC]
section
variable {X : Cx} {B : Bs} {da : DE}
end
end DL
namespace DL
open PySem PySem.Spec PyProof.Rows L2 Evl Sup
variable [TabC]
section
variable {X : Cx} {B : Bs} {pos p apos cpos : Pos} {e o i : Expr} {es : List Expr} {da db dd di dk : DE} {dA : DA}
end
end DL
namespace DL
open PySem PySem.Spec PyProof.Rows L2 Evl Sup
variable [TabC]
section
variable {X : Cx} {B : Bs} {pos : Pos} {a b : Expr} {da db : DE}
def mulT (x : Str) (i : Int) : Str := PySem.Txt.mul x i
def fMulS (x y z : D) : Prop := ∃ (t : Str) (i : Int), x = .str t ∧ y = .int i ∧ -1000 ≤ i ∧ i ≤ 1000 ∧ t.length ≤ 1000 ∧ z = .str (mulT t i)
def rMulS : R2 := fun x y H Q => ∃ (t : Str) (i : Int), x = .str t ∧ y = .int i ∧ -1000 ≤ i ∧ i ≤ 1000 ∧ t.length ≤ 1000 ∧ Q (.str (mulT t i)) H
theorem op_mulS : OpR X (binaryOp .Mult) rMulS := fun pins s σ H x y v u Q I rx ry h => by
  obtain ⟨t, i, rfl, rfl, h1, h2, h3, q⟩ := h
  obtain ⟨k1, rfl⟩ := rx
  obtain ⟨k2, rfl⟩ := ry
  have m1 : t.length * i.toNat ≤ 1000 * 1000 := Nat.mul_le_mul h3 (by omega)
  refine SB.mul ⟨?_, fun p _ => ?_, fun p _ => ?_⟩ fun t' k => ⟨.str (mulT t i), H, I.kept (t' := k) fun _ _ z => z, ⟨t', rfl⟩, q⟩
  · rw [Bool.or_eq_false_iff]
    exact ⟨decide_eq_false (by omega), decide_eq_false (by omega)⟩
  · have e : (1000 : Int) * i ≤ 2 ^ 63 - 1 := by omega
    have := (Int.le_ediv_iff_mul_le (c := i) (a := 1000) (b := 2 ^ 63 - 1) (by omega)).mpr e
    omega
  · unfold Builtin.Str.tooLong
    exact decide_eq_false (by rw [sizeLine_eq]; omega)
theorem od_mulS {K : PySem.W.Frag} : OpD K rMulS fMulS := fun F Hd H G v u x y z Q s rv ru ⟨t, i, e1, e2, h1, h2, h3, e3⟩ k => by
  subst e1 e2 e3
  cases rv
  cases ru
  exact ⟨t, i, rfl, rfl, h1, h2, h3, k _ H Hd (Ex.refl _) s (.str _)⟩
theorem pd_mulS (ha : PE X a (upE X.K B da)) (hb : PE X b (upE X.K B db)) : PE X (.BinOp a .Mult b pos) (upE X.K B (dOp fMulS da db)) := pd_op op_mulS od_mulS ha hb
end
namespace Y
section
variable {ρ : En} {G : Gm} {R : KD} {da db dd di : DE} {x y z : D} {xs ys ds : List D} {k : Bool}
theorem mulS {Q : D → Prop} {t : Str} {i : Int} (h : -1000 ≤ i ∧ i ≤ 1000 ∧ t.length ≤ 1000) (q : Q (.str (mulT t i))) : ∃ z, fMulS (.str t) (.int i) z ∧ Q z := ⟨_, ⟨t, i, rfl, rfl, h.1, h.2.1, h.2.2, rfl⟩, q⟩
end
end Y
end DL
section
open PySem PySem.Spec PyProof.Rows L2 Evl DL
local macro_rules | `(tactic| walk_at "side") => `(tactic| first | exact mul_left (by decide) | exact mul_right (by decide) | exact mul_bd | exact div_bd (by first | assumption | decide | omega) | exact pow_bd (by first | decide | omega) (by first | decide | omega) | assumption | (show (0 : Int) < _; first | decide | omega))
local macro_rules | `(tactic| walk_at "eva") => `(tactic| first | exact DL.EvA.nil | (refine' DL.EvA.cons ?e ?r; (case' e => walk_at "ev"); (case' r => walk_at "eva")))
local macro_rules | `(tactic| walk_at "seq") => `(tactic| first | exact seq_tup | exact seq_lst | exact seq_ref (by assumption))
local macro_rules | `(tactic| walk_at "size") => `(tactic| first | (show _ ≤ sizeLine; simp only [List.length_cons, List.length_nil]; decide) | (rw [sizeLine_eq]; omega))
local macro_rules | `(tactic| walk_at "ev") => `(tactic| first
  | exact DL.Ev.c
  | exact DL.Ev.var rfl
  | (refine' DL.Ev.int ?a ?b; (case' a => walk_at "ev"); (case' b => walk_at "ev"))
  | (refine' DL.Ev.intC ?a ?b ?s; (case' a => walk_at "ev"); (case' b => walk_at "ev"); (case' s => try walk_at "side"))
  | (refine' DL.Ev.add ?a ?b; (case' a => walk_at "ev"); (case' b => walk_at "ev"))
  | (refine' DL.Ev.neg ?a; (case' a => walk_at "ev"))
  | (refine' DL.Ev.intOf ?a; (case' a => walk_at "ev"))
  | (refine' DL.Ev.intB ?a; (case' a => walk_at "ev"))
  | (refine' DL.Ev.absN ?a; (case' a => walk_at "ev"))
  | (refine' DL.Ev.eqI ?a ?b; (case' a => walk_at "ev"); (case' b => walk_at "ev"))
  | (refine' DL.Ev.neI ?a ?b; (case' a => walk_at "ev"); (case' b => walk_at "ev"))
  | (refine' DL.Ev.at ?a ?b ?s ?k; (case' a => walk_at "ev"); (case' b => walk_at "ev"); (case' s => walk_at "seq"); (case' k => try rfl))
  | (refine' DL.Ev.len ?a ?s; (case' a => walk_at "ev"); (case' s => walk_at "seq"))
  | (refine' DL.Ev.tupOf ?a ?s; (case' a => walk_at "ev"); (case' s => walk_at "seq"))
  | (refine' DL.Ev.tup ?a ?z; (case' a => walk_at "eva"); (case' z => try walk_at "size"))
  | (refine' DL.Ev.lst ?a ?z; (case' a => walk_at "eva"); (case' z => try walk_at "size"))
  | (refine' DL.Ev.notV ?a; (case' a => walk_at "ev"))
  | (refine' DL.Ev.isN ?a; (case' a => walk_at "ev"))
  | exact fun R r => r
  | assumption)
local macro_rules | `(tactic| walk_at "set") => `(tactic| (refine' ds_set ?e ?_; (case' e => walk_at "ev")))
local macro_rules | `(tactic| walk_at "ret") => `(tactic| (refine' ds_ret ?e ?_; (case' e => walk_at "ev")))
local macro_rules | `(tactic| walk_at "par") => `(tactic| (refine' ds_par ?e ?f ?_; (case' e => walk_at "ev"); (case' f => walk_at "ev")))
local macro_rules | `(tactic| walk_at "cut") => `(tactic| (simp only [DL.cutD, HT.sIx, List.length_cons, List.length_nil, Nat.zero_add, Nat.reduceAdd, Nat.min_def, Nat.reduceLeDiff, ↓reduceIte, List.drop_zero, List.drop_succ_cons, List.take_zero, List.take_succ_cons, List.take_nil, List.drop_nil, List.cons_append, List.nil_append, Int.reduceLT, Int.reduceToNat, Nat.reduceSub, Nat.sub_zero, Int.reduceNeg, Int.cast_ofNat_Int, Int.reduceAdd]; exact rfl))
local macro_rules | `(tactic| walk_at "xu") => `(tactic| first
  | with_reducible refine' DL.Y.ixS0 ?_
  | with_reducible refine' DL.Y.ixS1 ?_
  | with_reducible refine' DL.Y.ixS2 ?_
  | with_reducible refine' DL.Y.ixP0 ?_
  | with_reducible refine' DL.Y.ixP1 ?_
  | with_reducible refine' DL.Y.lstS ?_
  | with_reducible refine' DL.Y.lstP ?_)
local macro_rules | `(tactic| walk_at "dec") => `(tactic| first | rfl | assumption | exact decide_eq_true (by omega) | exact decide_eq_false (by omega) | exact DL.Y.ndT (by omega) | exact DL.Y.ndF (by omega) | decide +kernel)
local macro_rules | `(tactic| walk_at "size2") => `(tactic| first | exact Nat.le_of_ble_eq_true rfl | omega)
local macro_rules | `(tactic| walk_at "x0") => `(tactic| first
  | with_reducible refine' DL.Y.cons ?_
  | ((with_reducible refine' DL.Y.var ?e ?_); (case' e => (first | exact rfl | assumption)))
  | with_reducible refine' DL.Y.c ?_
  | with_reducible refine' DL.Y.nil ?_
  | with_reducible refine' DL.Y.op ?_
  | with_reducible refine' DL.Y.oint ?_
  | ((with_reducible refine' DL.Y.ointC ?s ?_); (case' s => try walk_at "side"))
  | with_reducible refine' DL.Y.oadd ?_
  | with_reducible refine' DL.Y.oeqI ?_
  | with_reducible refine' DL.Y.oneI ?_
  | with_reducible refine' DL.Y.oeqS ?_
  | with_reducible refine' DL.Y.neS ?_
  | with_reducible refine' DL.Y.oneS ?_
  | with_reducible refine' DL.Y.oeqB ?_
  | with_reducible refine' DL.Y.tst ?_
  | with_reducible refine' DL.Y.bl_ ?_
  | ((with_reducible refine' DL.Y.iRng1_ ?z ?_); (case' z => (omega; done)))
  | with_reducible refine' DL.Y.int_ ?_
  | with_reducible refine' DL.Y.str_ ?_
  | with_reducible refine' DL.Y.ref_ ?_
  | ((with_reducible refine' DL.Y.iteT ?h ?_); (case' h => (walk_at "dec"; done)))
  | ((with_reducible refine' DL.Y.iteF ?h ?_); (case' h => (walk_at "dec"; done)))
  | with_reducible refine' DL.Y.seq ?_
  | with_reducible refine' DL.Y.set ?_
  | with_reducible refine' DL.Y.ifS ?_
  | with_reducible refine' DL.Y.ret ?_
  | with_reducible refine' DL.Y.nx ?_
  | with_reducible refine' DL.Y.drop ?_
  | with_reducible refine' DL.Y.asg ?_
  | with_reducible refine' DL.Y.par ?_
  | with_reducible refine' DL.Y.par_ ?_
  | with_reducible refine' DL.Y.par3 ?_
  | with_reducible refine' DL.Y.par3_ ?_
  | with_reducible refine' DL.Y.bk ?_
  | with_reducible refine' DL.Y.ct ?_
  | with_reducible refine' DL.Y.retN ?_
  | with_reducible refine' DL.Y.gn ?_
  | with_reducible refine' DL.Y.gnil ?_
  | with_reducible refine' DL.Y.gcons ?_
  | ((with_reducible refine' DL.Y.gseqT ?e ?_); (case' e => (rfl; done)))
  | ((with_reducible refine' DL.Y.gseqL ?e ?_); (case' e => (rfl; done)))
  | with_reducible refine' DL.Y.tup ?_
  | with_reducible refine' DL.Y.lst ?_
  | ((with_reducible refine' DL.Y.len_ ?n ?l ?_); (case' n => exact rfl); (case' l => try walk_at "size2"))
  | with_reducible refine' DL.Y.ix ?_
  | ((with_reducible refine' DL.Y.ixT ?e ?_); (case' e => (rfl; done)))
  | ((with_reducible refine' DL.Y.ixL ?e ?_); (case' e => (rfl; done)))
  | ((with_reducible refine' DL.Y.ixR ?g ?e ?_); (case' g => with_reducible assumption); (case' e => (rfl; done)))
  | with_reducible refine' DL.Y.cal ?_
  | with_reducible refine' DL.Y.lenT ?_
  | with_reducible refine' DL.Y.lenL ?_
  | ((with_reducible refine' DL.Y.lenR ?g ?_); (case' g => with_reducible assumption))
  | with_reducible refine' DL.Y.absI ?_
  | with_reducible refine' DL.Y.intI ?_
  | with_reducible refine' DL.Y.intB ?_
  | with_reducible refine' DL.Y.tupT ?_
  | with_reducible refine' DL.Y.tupL ?_
  | ((with_reducible refine' DL.Y.tupR ?g ?_); (case' g => with_reducible assumption))
  | with_reducible refine' DL.Y.lstT ?_
  | with_reducible refine' DL.Y.lstL ?_
  | with_reducible refine' DL.Y.allL ?_
  | with_reducible refine' DL.Y.anyL ?_
  | ((with_reducible refine' DL.Y.oaddL ?z ?_); (case' z => try walk_at "size2"))
  | ((with_reducible refine' DL.Y.oaddT ?z ?_); (case' z => try walk_at "size2"))
  | with_reducible refine' DL.Y.oisB ?_
  | with_reducible refine' DL.Y.onotB ?_
  | with_reducible refine' DL.Y.neg ?_
  | with_reducible refine' DL.Y.notT ?_
  | with_reducible refine' DL.Y.andT ?_
  | with_reducible refine' DL.Y.orT ?_
  | with_reducible refine' DL.Y.yes ?_
  | with_reducible refine' DL.Y.ifT ?_
  | with_reducible refine' DL.Y.andV ?_
  | with_reducible refine' DL.Y.orV ?_
  | with_reducible refine' DL.Y.notV ?_
  | with_reducible refine' DL.Y.isN ?_
  | with_reducible refine' DL.Y.notN ?_
  | ((with_reducible refine' DL.Y.isi_ ?e ?_); (case' e => (rfl; done)))
  | with_reducible refine' DL.Y.isiT ?_
  | with_reducible refine' DL.Y.chain ?_
  | with_reducible refine' DL.Y.sl ?_
  | with_reducible refine' DL.Y.noP ?_
  | with_reducible refine' DL.Y.part ?_
  | ((with_reducible refine' DL.Y.slLl ?n ?e ?_); (case' n => (rfl; done)); (case' e => walk_at "cut"))
  | ((with_reducible refine' DL.Y.slTl ?n ?m ?e ?_); (case' n => (rfl; done)); (case' m => (simp [HT.sIx]; done)); (case' e => walk_at "cut"))
  | with_reducible refine' DL.Y.slL ?_
  | with_reducible refine' DL.Y.call ?_
  | with_reducible refine' DL.Y.callK ?_
  | with_reducible refine' DL.Y.callD ?_
  | with_reducible refine' DL.Y.fld ?_
  | ((with_reducible refine' DL.Y.fld_ ?f ?e ?_); (case' f => (first | rfl | assumption); done); (case' e => (rfl; done)))
  | with_reducible refine' DL.Y.isW_ ?_
  | with_reducible refine' DL.Y.inK ?_
  | with_reducible refine' DL.Y.iSeq ?_
  | with_reducible refine' DL.Y.iSeqL ?_
  | with_reducible refine' DL.Y.iSeqT ?_
  | with_reducible refine' DL.Y.iRng1 ?_
  | with_reducible refine' DL.Y.iZip ?_
  | with_reducible refine' DL.Y.iZipT ?_
  | with_reducible refine' DL.Y.iZipL ?_
  | with_reducible refine' DL.Y.iEnum ?_
  | with_reducible refine' DL.Y.iEnumT ?_
  | with_reducible refine' DL.Y.iEnumL ?_
  | with_reducible refine' DL.Y.for_ ?_
  | with_reducible refine' DL.Y.cmp ?_
  | with_reducible refine' DL.Y.isO ?_
  | ((with_reducible refine' DL.Y.isO_ (isO_exc ?c) ?_); (case' c => (decide +kernel; done)))
  | ((with_reducible refine' DL.Y.isO_ ?e ?_); (case' e => (rfl; done)))
  | ((with_reducible refine' DL.Y.isW1 ?e ?_); (case' e => (first | assumption | (rfl; done))))
  | with_reducible refine' DL.Y.xf ?_
  | ((with_reducible refine' DL.Y.xf_ ?c ?e ?_); (case' c => (decide +kernel; done)); (case' e => (first | assumption | (rfl; done))))
  | with_reducible refine' DL.Y.mk ?_
  | with_reducible refine' DL.Y.dctM ?_
  | with_reducible refine' DL.Y.dct0 ?_
  | with_reducible refine' DL.Y.lstM ?_
  | with_reducible refine' DL.Y.rev ?_
  | with_reducible refine' DL.Y.revL ?_
  | with_reducible refine' DL.Y.dget ?_
  | with_reducible refine' DL.Y.dput ?_
  | with_reducible refine' DL.Y.app ?_
  | with_reducible refine' DL.Y.gc ?_
  | ((with_reducible refine' DL.Y.fld_ ?f ?e ?_); (case' f => ((first | rfl | assumption | decide +kernel); done)); (case' e => (rfl; done)))
  | with_reducible refine' DL.Y.chLe ?_
  | with_reducible refine' DL.Y.chLt ?_
  | with_reducible refine' DL.Y.setF ?_
  | with_reducible refine' DL.Y.lenSet ?_
  | with_reducible refine' DL.Y.inL ?_
  | with_reducible refine' DL.Y.inD ?_
  | with_reducible refine' DL.Y.inD_ ?_
  | with_reducible refine' DL.Y.ixD ?_
  | ((with_reducible refine' DL.Y.mulS ?h ?_); (case' h => (exact ⟨by omega, by omega, by decide⟩)))
  | ((with_reducible refine' DL.Y.mulL ?h ?_); (case' h => (exact ⟨by simp only [List.length_cons, List.length_nil]; omega, by omega, by omega⟩)))
  | walk_at "xu"
  | walk_at "norm")
local macro_rules | `(tactic| walk_at "norm") => `(tactic| (dsimp only [List.set]))
local macro_rules | `(tactic| walk_at "x") => `(tactic| first | walk_at "x0" | with_reducible refine' DL.Y.ifE ?_)
local macro_rules | `(tactic| walk_at "xs") => `(tactic| repeat walk_at "x0")
local macro_rules | `(tactic| walk_at "xx") => `(tactic| repeat walk_at "x")
local macro_rules | `(tactic| walk_at "start") => `(tactic| dsimp only [List.map, List.length_cons, List.length_nil, List.cons_append, List.nil_append, Nat.zero_add, Nat.reduceAdd, Nat.reduceSub, List.reduceReplicate])
namespace DL
open PySem PySem.Spec PyProof.Rows L2 Evl Sup
variable [TabC]
abbrev Qr := _root_.Rat
def ofQ (q : Qr) : D := pairZ q.num q.den
theorem numI_ofQ (q : Qr) : numI (ofQ q) = (q.num, (q.den : Int)) := numI_pair
def Qb (k : Nat) (q : Qr) : Prop := q.num.natAbs < 2 ^ k ∧ q.den < 2 ^ k
theorem Qb.mono {j k : Nat} {q : Qr} (h : Qb j q) (l : j ≤ k := by decide) : Qb k q := ⟨Nat.lt_of_lt_of_le h.1 (Nat.pow_le_pow_right (by decide) l), Nat.lt_of_lt_of_le h.2 (Nat.pow_le_pow_right (by decide) l)⟩
theorem low_ofQ {a u : Int} (hu : u ≠ 0) : lowZ a u = ofQ (Rat.divInt a u) := by
  obtain ⟨n, d, s0, _, ea, eu, d0, g1, l1⟩ := lowZ_facts (a := a) hu
  rw [l1]
  generalize sgZ a u = s at s0 ea eu
  rw [ea, eu, Rat.divInt_mul_left s0]
  obtain ⟨m, rfl⟩ : ∃ m : Nat, d = m := ⟨d.toNat, by omega⟩
  have e : Rat.divInt n (m : Int) = ⟨n, m, by omega, g1⟩ := Rat.mk_eq_divInt.symm
  unfold ofQ
  rw [e]
def sp_qlow : DSp := fun xs G R _ => ∃ a u : Int, xs = [.int a, .int u] ∧ u ≠ 0 ∧ u.natAbs < 2 ^ 8000 ∧ R (ofQ (Rat.divInt a u)) G
theorem qlow_to {xs : List D} {G : Gm} {R : KD} {RX : XD} (h : sp_qlow xs G R RX) : sp_lowZ xs G R RX := by
  obtain ⟨a, u, rfl, hu, hb, h⟩ := h
  exact ⟨a, u, rfl, hu, hb, by rw [low_ofQ hu]; exact h⟩
end DL
namespace DL
open PySem PySem.Spec PyProof.Rows L2 Evl Sup
variable [TabC]
namespace Y
section
variable {ρ : En} {G : Gm} {R : KD} {E : DEnds} {xs ys : List D} {x : D}
end
end Y
mutual
/-- no list in it is too long -/
def D.few : D → Bool
  | .tup xs => decide (xs.length ≤ 1000000) && D.fewL xs
  | .lst xs => decide (xs.length ≤ 1000000) && D.fewL xs
  | .non => true
  | .bl _ => true
  | .int _ => true
  | .str _ => true
  | .ty _ => true
  | .ref _ => true
  | .dct _ _ => true
  | .ins _ _ _ => true
  | .exc _ _ _ => true
  | .fnc _ => true
  | .rng _ _ => true
def D.fewL : List D → Bool
  | [] => true
  | x :: xs => D.few x && D.fewL xs
end
def it (x : D) (i : Nat) : D := (seqL x).getD i .non
end DL
end
section
open PySem PySem.Spec PyProof.Rows L2 Evl DL
local macro_rules | `(tactic| walk_at "side") => `(tactic| first | exact mul_left (by decide) | exact mul_right (by decide) | exact mul_bd | exact div_bd (by first | assumption | decide | omega) | exact pow_bd (by first | decide | omega) (by first | decide | omega) | assumption | (show (0 : Int) < _; first | decide | omega))
local macro_rules | `(tactic| walk_at "eva") => `(tactic| first | exact DL.EvA.nil | (refine' DL.EvA.cons ?e ?r; (case' e => walk_at "ev"); (case' r => walk_at "eva")))
local macro_rules | `(tactic| walk_at "seq") => `(tactic| first | exact seq_tup | exact seq_lst | exact seq_ref (by assumption))
local macro_rules | `(tactic| walk_at "size") => `(tactic| first | (show _ ≤ sizeLine; simp only [List.length_cons, List.length_nil]; decide) | (rw [sizeLine_eq]; omega))
local macro_rules | `(tactic| walk_at "ev") => `(tactic| first
  | exact DL.Ev.c
  | exact DL.Ev.var rfl
  | (refine' DL.Ev.int ?a ?b; (case' a => walk_at "ev"); (case' b => walk_at "ev"))
  | (refine' DL.Ev.intC ?a ?b ?s; (case' a => walk_at "ev"); (case' b => walk_at "ev"); (case' s => try walk_at "side"))
  | (refine' DL.Ev.add ?a ?b; (case' a => walk_at "ev"); (case' b => walk_at "ev"))
  | (refine' DL.Ev.neg ?a; (case' a => walk_at "ev"))
  | (refine' DL.Ev.intOf ?a; (case' a => walk_at "ev"))
  | (refine' DL.Ev.intB ?a; (case' a => walk_at "ev"))
  | (refine' DL.Ev.absN ?a; (case' a => walk_at "ev"))
  | (refine' DL.Ev.eqI ?a ?b; (case' a => walk_at "ev"); (case' b => walk_at "ev"))
  | (refine' DL.Ev.neI ?a ?b; (case' a => walk_at "ev"); (case' b => walk_at "ev"))
  | (refine' DL.Ev.at ?a ?b ?s ?k; (case' a => walk_at "ev"); (case' b => walk_at "ev"); (case' s => walk_at "seq"); (case' k => try rfl))
  | (refine' DL.Ev.len ?a ?s; (case' a => walk_at "ev"); (case' s => walk_at "seq"))
  | (refine' DL.Ev.tupOf ?a ?s; (case' a => walk_at "ev"); (case' s => walk_at "seq"))
  | (refine' DL.Ev.tup ?a ?z; (case' a => walk_at "eva"); (case' z => try walk_at "size"))
  | (refine' DL.Ev.lst ?a ?z; (case' a => walk_at "eva"); (case' z => try walk_at "size"))
  | (refine' DL.Ev.notV ?a; (case' a => walk_at "ev"))
  | (refine' DL.Ev.isN ?a; (case' a => walk_at "ev"))
  | exact fun R r => r
  | assumption)
local macro_rules | `(tactic| walk_at "set") => `(tactic| (refine' ds_set ?e ?_; (case' e => walk_at "ev")))
local macro_rules | `(tactic| walk_at "ret") => `(tactic| (refine' ds_ret ?e ?_; (case' e => walk_at "ev")))
local macro_rules | `(tactic| walk_at "par") => `(tactic| (refine' ds_par ?e ?f ?_; (case' e => walk_at "ev"); (case' f => walk_at "ev")))
local macro_rules | `(tactic| walk_at "cut") => `(tactic| (simp only [DL.cutD, HT.sIx, List.length_cons, List.length_nil, Nat.zero_add, Nat.reduceAdd, Nat.min_def, Nat.reduceLeDiff, ↓reduceIte, List.drop_zero, List.drop_succ_cons, List.take_zero, List.take_succ_cons, List.take_nil, List.drop_nil, List.cons_append, List.nil_append, Int.reduceLT, Int.reduceToNat, Nat.reduceSub, Nat.sub_zero, Int.reduceNeg, Int.cast_ofNat_Int, Int.reduceAdd]; exact rfl))
local macro_rules | `(tactic| walk_at "xu") => `(tactic| first
  | with_reducible refine' DL.Y.ixS0 ?_
  | with_reducible refine' DL.Y.ixS1 ?_
  | with_reducible refine' DL.Y.ixS2 ?_
  | with_reducible refine' DL.Y.ixP0 ?_
  | with_reducible refine' DL.Y.ixP1 ?_
  | with_reducible refine' DL.Y.lstS ?_
  | with_reducible refine' DL.Y.lstP ?_)
local macro_rules | `(tactic| walk_at "dec") => `(tactic| first | rfl | assumption | exact decide_eq_true (by omega) | exact decide_eq_false (by omega) | exact DL.Y.ndT (by omega) | exact DL.Y.ndF (by omega) | decide +kernel)
local macro_rules | `(tactic| walk_at "size2") => `(tactic| first | exact Nat.le_of_ble_eq_true rfl | omega)
local macro_rules | `(tactic| walk_at "x0") => `(tactic| first
  | with_reducible refine' DL.Y.cons ?_
  | ((with_reducible refine' DL.Y.var ?e ?_); (case' e => (first | exact rfl | assumption)))
  | with_reducible refine' DL.Y.c ?_
  | with_reducible refine' DL.Y.nil ?_
  | with_reducible refine' DL.Y.op ?_
  | with_reducible refine' DL.Y.oint ?_
  | ((with_reducible refine' DL.Y.ointC ?s ?_); (case' s => try walk_at "side"))
  | with_reducible refine' DL.Y.oadd ?_
  | with_reducible refine' DL.Y.oeqI ?_
  | with_reducible refine' DL.Y.oneI ?_
  | with_reducible refine' DL.Y.oeqS ?_
  | with_reducible refine' DL.Y.neS ?_
  | with_reducible refine' DL.Y.oneS ?_
  | with_reducible refine' DL.Y.oeqB ?_
  | with_reducible refine' DL.Y.tst ?_
  | with_reducible refine' DL.Y.bl_ ?_
  | ((with_reducible refine' DL.Y.iRng1_ ?z ?_); (case' z => (omega; done)))
  | with_reducible refine' DL.Y.int_ ?_
  | with_reducible refine' DL.Y.str_ ?_
  | with_reducible refine' DL.Y.ref_ ?_
  | ((with_reducible refine' DL.Y.iteT ?h ?_); (case' h => (walk_at "dec"; done)))
  | ((with_reducible refine' DL.Y.iteF ?h ?_); (case' h => (walk_at "dec"; done)))
  | with_reducible refine' DL.Y.seq ?_
  | with_reducible refine' DL.Y.set ?_
  | with_reducible refine' DL.Y.ifS ?_
  | with_reducible refine' DL.Y.ret ?_
  | with_reducible refine' DL.Y.nx ?_
  | with_reducible refine' DL.Y.drop ?_
  | with_reducible refine' DL.Y.asg ?_
  | with_reducible refine' DL.Y.par ?_
  | with_reducible refine' DL.Y.par_ ?_
  | with_reducible refine' DL.Y.par3 ?_
  | with_reducible refine' DL.Y.par3_ ?_
  | with_reducible refine' DL.Y.bk ?_
  | with_reducible refine' DL.Y.ct ?_
  | with_reducible refine' DL.Y.retN ?_
  | with_reducible refine' DL.Y.gn ?_
  | with_reducible refine' DL.Y.gnil ?_
  | with_reducible refine' DL.Y.gcons ?_
  | ((with_reducible refine' DL.Y.gseqT ?e ?_); (case' e => (rfl; done)))
  | ((with_reducible refine' DL.Y.gseqL ?e ?_); (case' e => (rfl; done)))
  | with_reducible refine' DL.Y.tup ?_
  | with_reducible refine' DL.Y.lst ?_
  | ((with_reducible refine' DL.Y.len_ ?n ?l ?_); (case' n => exact rfl); (case' l => try walk_at "size2"))
  | with_reducible refine' DL.Y.ix ?_
  | ((with_reducible refine' DL.Y.ixT ?e ?_); (case' e => (rfl; done)))
  | ((with_reducible refine' DL.Y.ixL ?e ?_); (case' e => (rfl; done)))
  | ((with_reducible refine' DL.Y.ixR ?g ?e ?_); (case' g => with_reducible assumption); (case' e => (rfl; done)))
  | with_reducible refine' DL.Y.cal ?_
  | with_reducible refine' DL.Y.lenT ?_
  | with_reducible refine' DL.Y.lenL ?_
  | ((with_reducible refine' DL.Y.lenR ?g ?_); (case' g => with_reducible assumption))
  | with_reducible refine' DL.Y.absI ?_
  | with_reducible refine' DL.Y.intI ?_
  | with_reducible refine' DL.Y.intB ?_
  | with_reducible refine' DL.Y.tupT ?_
  | with_reducible refine' DL.Y.tupL ?_
  | ((with_reducible refine' DL.Y.tupR ?g ?_); (case' g => with_reducible assumption))
  | with_reducible refine' DL.Y.lstT ?_
  | with_reducible refine' DL.Y.lstL ?_
  | with_reducible refine' DL.Y.allL ?_
  | with_reducible refine' DL.Y.anyL ?_
  | ((with_reducible refine' DL.Y.oaddL ?z ?_); (case' z => try walk_at "size2"))
  | ((with_reducible refine' DL.Y.oaddT ?z ?_); (case' z => try walk_at "size2"))
  | with_reducible refine' DL.Y.oisB ?_
  | with_reducible refine' DL.Y.onotB ?_
  | with_reducible refine' DL.Y.neg ?_
  | with_reducible refine' DL.Y.notT ?_
  | with_reducible refine' DL.Y.andT ?_
  | with_reducible refine' DL.Y.orT ?_
  | with_reducible refine' DL.Y.yes ?_
  | with_reducible refine' DL.Y.ifT ?_
  | with_reducible refine' DL.Y.andV ?_
  | with_reducible refine' DL.Y.orV ?_
  | with_reducible refine' DL.Y.notV ?_
  | with_reducible refine' DL.Y.isN ?_
  | with_reducible refine' DL.Y.notN ?_
  | ((with_reducible refine' DL.Y.isi_ ?e ?_); (case' e => (rfl; done)))
  | with_reducible refine' DL.Y.isiT ?_
  | with_reducible refine' DL.Y.chain ?_
  | with_reducible refine' DL.Y.sl ?_
  | with_reducible refine' DL.Y.noP ?_
  | with_reducible refine' DL.Y.part ?_
  | ((with_reducible refine' DL.Y.slLl ?n ?e ?_); (case' n => (rfl; done)); (case' e => walk_at "cut"))
  | ((with_reducible refine' DL.Y.slTl ?n ?m ?e ?_); (case' n => (rfl; done)); (case' m => (simp [HT.sIx]; done)); (case' e => walk_at "cut"))
  | with_reducible refine' DL.Y.slL ?_
  | with_reducible refine' DL.Y.call ?_
  | with_reducible refine' DL.Y.callK ?_
  | with_reducible refine' DL.Y.callD ?_
  | with_reducible refine' DL.Y.fld ?_
  | ((with_reducible refine' DL.Y.fld_ ?f ?e ?_); (case' f => (first | rfl | assumption); done); (case' e => (rfl; done)))
  | with_reducible refine' DL.Y.isW_ ?_
  | with_reducible refine' DL.Y.inK ?_
  | with_reducible refine' DL.Y.iSeq ?_
  | with_reducible refine' DL.Y.iSeqL ?_
  | with_reducible refine' DL.Y.iSeqT ?_
  | with_reducible refine' DL.Y.iRng1 ?_
  | with_reducible refine' DL.Y.iZip ?_
  | with_reducible refine' DL.Y.iZipT ?_
  | with_reducible refine' DL.Y.iZipL ?_
  | with_reducible refine' DL.Y.iEnum ?_
  | with_reducible refine' DL.Y.iEnumT ?_
  | with_reducible refine' DL.Y.iEnumL ?_
  | with_reducible refine' DL.Y.for_ ?_
  | with_reducible refine' DL.Y.cmp ?_
  | with_reducible refine' DL.Y.isO ?_
  | ((with_reducible refine' DL.Y.isO_ (isO_exc ?c) ?_); (case' c => (decide +kernel; done)))
  | ((with_reducible refine' DL.Y.isO_ ?e ?_); (case' e => (rfl; done)))
  | ((with_reducible refine' DL.Y.isW1 ?e ?_); (case' e => (first | assumption | (rfl; done))))
  | with_reducible refine' DL.Y.xf ?_
  | ((with_reducible refine' DL.Y.xf_ ?c ?e ?_); (case' c => (decide +kernel; done)); (case' e => (first | assumption | (rfl; done))))
  | with_reducible refine' DL.Y.mk ?_
  | with_reducible refine' DL.Y.dctM ?_
  | with_reducible refine' DL.Y.dct0 ?_
  | with_reducible refine' DL.Y.lstM ?_
  | with_reducible refine' DL.Y.rev ?_
  | with_reducible refine' DL.Y.revL ?_
  | with_reducible refine' DL.Y.dget ?_
  | with_reducible refine' DL.Y.dput ?_
  | with_reducible refine' DL.Y.app ?_
  | with_reducible refine' DL.Y.gc ?_
  | ((with_reducible refine' DL.Y.fld_ ?f ?e ?_); (case' f => ((first | rfl | assumption | decide +kernel); done)); (case' e => (rfl; done)))
  | with_reducible refine' DL.Y.chLe ?_
  | with_reducible refine' DL.Y.chLt ?_
  | with_reducible refine' DL.Y.setF ?_
  | with_reducible refine' DL.Y.lenSet ?_
  | with_reducible refine' DL.Y.inL ?_
  | with_reducible refine' DL.Y.inD ?_
  | with_reducible refine' DL.Y.inD_ ?_
  | with_reducible refine' DL.Y.ixD ?_
  | ((with_reducible refine' DL.Y.mulS ?h ?_); (case' h => (exact ⟨by omega, by omega, by decide⟩)))
  | ((with_reducible refine' DL.Y.mulL ?h ?_); (case' h => (exact ⟨by simp only [List.length_cons, List.length_nil]; omega, by omega, by omega⟩)))
  | walk_at "xu"
  | walk_at "norm")
local macro_rules | `(tactic| walk_at "norm") => `(tactic| (dsimp only [List.set]))
local macro_rules | `(tactic| walk_at "x") => `(tactic| first | walk_at "x0" | with_reducible refine' DL.Y.ifE ?_)
local macro_rules | `(tactic| walk_at "xs") => `(tactic| repeat walk_at "x0")
local macro_rules | `(tactic| walk_at "xx") => `(tactic| repeat walk_at "x")
local macro_rules | `(tactic| walk_at "start") => `(tactic| dsimp only [List.map, List.length_cons, List.length_nil, List.cons_append, List.nil_append, Nat.zero_add, Nat.reduceAdd, Nat.reduceSub, List.reduceReplicate])
namespace DL
open PySem PySem.Spec PyProof.Rows L2 Evl Sup
variable [TabC]
end DL
namespace DL
open PySem PySem.Spec PyProof.Rows L2 Evl Sup
variable [TabC]
namespace Y
section
variable {ρ0 : En} {G : Gm} {g : DG} {t : DT} {de : DE} {xs : List D}
theorem cmpL_A {α : Type} (e : α → D) (p : α → Bool) (f : α → D) {S : List D → Gm → Prop} : ∀ (l : List α) (acc : List D), acc.length + l.length ≤ sizeLine → (∀ a ∈ l, ∀ (S1 : KD) (T1 : Gm → Prop), (p a = true → S1 (f a) G) → (p a = false → T1 G) → g (e a) ρ0 G fun ρ1 G1 => t ρ1 G1 fun k G2 => if k = true then de ρ1 G2 S1 else T1 G2) → S (acc ++ (l.filter p).map f) G → cmpL ρ0 g t de (l.map e) acc G S
  | [], acc, _, _, h => by
    rw [List.filter_nil, List.map_nil, List.append_nil] at h
    exact h
  | a :: l, acc, hz, hf, h => by
    rw [List.length_cons] at hz
    refine hf a List.mem_cons_self _ _ (fun hp => ⟨by omega, cmpL_A e p f l _ (by rw [List.length_append, List.length_singleton]; omega) (fun b hb => hf b (List.mem_cons_of_mem _ hb)) ?_⟩) fun hp => cmpL_A e p f l acc (by omega) (fun b hb => hf b (List.mem_cons_of_mem _ hb)) ?_
    · rw [List.filter_cons_of_pos hp, List.map_cons] at h
      rw [List.append_assoc]
      exact h
    · rw [List.filter_cons_of_neg (by rw [hp]; decide)] at h
      exact h
theorem cmpA {α : Type} (l : List α) (e : α → D) (p : α → Bool) (f : α → D) (hx : xs = l.map e) (hz : l.length ≤ 10000000) {S : List D → Gm → Prop} (hf : ∀ a ∈ l, ∀ (S1 : KD) (T1 : Gm → Prop), (p a = true → S1 (f a) G) → (p a = false → T1 G) → g (e a) ρ0 G fun ρ1 G1 => t ρ1 G1 fun k G2 => if k = true then de ρ1 G2 S1 else T1 G2) (h : S ((l.filter p).map f) G) : cmpL ρ0 g t de xs [] G S := by
  subst hx
  exact cmpL_A e p f l [] (by rw [sizeLine_eq, List.length_nil]; omega) hf h
theorem cmpB {α : Type} (l : List α) (e : α → D) (f : α → D) (hx : xs = l.map e) (hz : l.length ≤ 10000000) {S : List D → Gm → Prop} (hf : ∀ a ∈ l, ∀ S1 : KD, S1 (f a) G → g (e a) ρ0 G fun ρ1 G1 => de ρ1 G1 S1) (mono : ∀ x (N N' : En → Gm → Prop), (∀ ρ G, N ρ G → N' ρ G) → g x ρ0 G N → g x ρ0 G N') (h : S (l.map f) G) : cmpL ρ0 g dYes de xs [] G S :=
  cmpA l e (fun _ => true) f hx hz (fun a ha S1 T1 h1 _ => mono _ _ _ (fun ρ G n => (show (if true = true then de ρ G S1 else T1 G) from by rw [if_pos rfl]; exact n)) (hf a ha S1 (h1 rfl))) (by rw [show l.filter (fun _ => true) = l from List.filter_eq_self.mpr fun _ _ => rfl]; exact h)
end
end Y
end DL
namespace DL
open PySem PySem.Spec PyProof.Rows L2 Evl Sup
variable [TabC]
end DL
namespace DL
open PySem PySem.Spec PyProof.Rows L2 Evl Sup
variable [TabC]
theorem low_le {a u : Int} (hu : u ≠ 0) : (Rat.divInt a u).num.natAbs ≤ a.natAbs ∧ (Rat.divInt a u).den ≤ u.natAbs := by
  obtain ⟨n, d, s0, _, ea, eu, d0, g1, l1⟩ := lowZ_facts (a := a) hu
  have e := low_ofQ (a := a) hu
  rw [l1] at e
  have e2 : numI (pairZ n d) = numI (ofQ (Rat.divInt a u)) := by rw [e]
  rw [numI_pair, numI_ofQ] at e2
  have en : n = (Rat.divInt a u).num := congrArg Prod.fst e2
  have ed : d = ((Rat.divInt a u).den : Int) := congrArg Prod.snd e2
  rw [← en]
  generalize sgZ a u = s at s0 ea eu
  have hs : 1 ≤ s.natAbs := by omega
  have h1 : a.natAbs = s.natAbs * n.natAbs := by rw [ea, Int.natAbs_mul]
  have h2 : u.natAbs = s.natAbs * d.natAbs := by rw [eu, Int.natAbs_mul]
  have h3 : 1 * n.natAbs ≤ s.natAbs * n.natAbs := Nat.mul_le_mul_right _ hs
  have h4 : 1 * d.natAbs ≤ s.natAbs * d.natAbs := Nat.mul_le_mul_right _ hs
  omega
theorem gup_id {G : Gm} {a : Addr} {m : Mt} (h : G a = some m) : gup G a m = G := by
  funext b
  by_cases e : b = a
  · rw [e, gup_same, h]
  · exact gup_ne e
namespace Y
section
variable {ρ0 ρ : En} {G : Gm} {g : DG} {de : DE} {E : DEnds} {s : DS} {xs : List D}
theorem gn_mono {i : Nat} : ∀ x G (N N' : En → Gm → Prop), (∀ ρ G, N ρ G → N' ρ G) → gN i x ρ0 G N → gN i x ρ0 G N' := fun _ _ _ _ h => h _ _
end
end Y
end DL
namespace DL
open PySem PySem.Spec PyProof.Rows L2 Evl Sup
variable [TabC]
structure Fn (d s : Nat) (x : D) : Prop where
  lay : x.lay = true
  pln : x.pln = true
  fit : x.fit = true
  dp : x.dp ≤ d
  sz : x.sz ≤ s
  kn : x.kn = true
  few : x.few = true
theorem Fn.mono {d s e t : Nat} {x : D} (h : Fn d s x) (l : d ≤ e := by decide) (m : s ≤ t := by decide) : Fn e t x := ⟨h.lay, h.pln, h.fit, Nat.le_trans h.dp l, Nat.le_trans h.sz m, h.kn, h.few⟩
theorem fn_all {d s : Nat} : ∀ {xs : List D}, (∀ x ∈ xs, Fn d s x) → D.layL xs = true ∧ D.plnL xs = true ∧ D.fitL xs = true ∧ D.dpL xs ≤ d ∧ D.szL xs ≤ xs.length * s ∧ D.knL xs = true ∧ D.fewL xs = true
  | [], _ => ⟨rfl, rfl, rfl, Nat.zero_le _, Nat.zero_le _, rfl, rfl⟩
  | x :: xs, h => by
    have a := h x List.mem_cons_self
    obtain ⟨h1, h2, h3, h4, h5, h6, h7⟩ := fn_all fun y hy => h y (List.mem_cons_of_mem _ hy)
    refine ⟨?_, ?_, ?_, ?_, ?_, ?_, ?_⟩
    · show (D.lay x && D.layL xs) = true
      rw [a.lay, h1]
      rfl
    · show (D.pln x && D.plnL xs) = true
      rw [a.pln, h2]
      rfl
    · show (D.fit x && D.fitL xs) = true
      rw [a.fit, h3]
      rfl
    · show max (D.dp x) (D.dpL xs) ≤ d
      have := a.dp
      omega
    · show D.sz x + D.szL xs ≤ (xs.length + 1) * s
      have := a.sz
      rw [Nat.add_mul, Nat.one_mul]
      omega
    · show (D.kn x && D.knL xs) = true
      rw [a.kn, h6]
      rfl
    · show (D.few x && D.fewL xs) = true
      rw [a.few, h7]
      rfl
theorem fn_seq {d s n : Nat} {xs : List D} (h : ∀ x ∈ xs, Fn d s x) (hl : xs.length ≤ n) (hn : n ≤ 1000000 := by decide) : Fn (d + 1) (n * s + 1) (.tup xs) ∧ Fn (d + 1) (n * s + 1) (.lst xs) := by
  obtain ⟨h1, h2, h3, h4, h5, h6, h7⟩ := fn_all h
  have h8 : D.szL xs + 1 ≤ n * s + 1 := Nat.add_le_add_right (Nat.le_trans h5 (Nat.mul_le_mul_right _ hl)) 1
  have h9 : (decide (xs.length ≤ 1000000) && D.fewL xs) = true := by rw [h7, decide_eq_true (Nat.le_trans hl hn)]; rfl
  exact ⟨⟨h1, h2, h3, Nat.add_le_add_right h4 1, h8, h6, h9⟩, ⟨h1, h2, h3, Nat.add_le_add_right h4 1, h8, h6, h9⟩⟩
theorem fn_int {i : Int} (h : i.natAbs < 10 ^ 560) : Fn 0 1 (.int i) := ⟨rfl, rfl, decide_eq_true h, Nat.zero_le _, Nat.le_refl _, rfl, rfl⟩
theorem p1860 : 2 ^ 1860 ≤ 10 ^ 560 := by decide +kernel
theorem fn_q {k : Nat} {q : Qr} (h : Qb k q) (hk : k ≤ 1860 := by decide) : Fn 1 3 (ofQ q) := by
  have h1 : q.num.natAbs < 10 ^ 560 := Nat.lt_of_lt_of_le h.1 (Nat.le_trans (Nat.pow_le_pow_right (by decide) hk) p1860)
  have h2 : ((q.den : Int)).natAbs < 10 ^ 560 := by
    rw [Int.natAbs_natCast]
    exact Nat.lt_of_lt_of_le h.2 (Nat.le_trans (Nat.pow_le_pow_right (by decide) hk) p1860)
  unfold ofQ pairZ
  split
  · exact (fn_int h1).mono
  · exact (fn_seq (n := 2) (d := 0) (s := 1) (fun x hx => by
      rcases List.mem_cons.mp hx with rfl | hx
      · exact fn_int h1
      · rw [List.mem_singleton.mp hx]
        exact fn_int h2) (Nat.le_refl _)).1
theorem Fn.cmp {d s : Nat} {x : D} (h : Fn d s x) (hd : d ≤ 60 := by decide) : Cmp x := ⟨h.lay, Nat.le_trans h.dp hd⟩
theorem Fn.rep {d s : Nat} {x : D} (h : Fn d s x) (hd : d ≤ 60 := by decide) (hs : s ≤ 27000 := by decide) : RepOk x := .inl ⟨h.fit, Nat.le_trans h.dp hd, Nat.le_trans h.sz hs⟩
end DL
namespace DL
open PySem PySem.Spec PyProof.Rows L2 Evl Sup
variable [TabC]
end DL
namespace DL
open PySem PySem.Spec PyProof.Rows L2 Evl Sup
variable [TabC]
end DL
namespace DL
open PySem PySem.Spec PyProof.Rows L2 Evl Sup
variable [TabC]
end DL
namespace DL
open PySem PySem.Spec PyProof.Rows L2 Evl Sup
variable [TabC]
theorem kn_ofQ (q : Qr) : (ofQ q).kn = true := by
  unfold ofQ pairZ
  split <;> rfl
end DL
namespace DL
open PySem PySem.Spec PyProof.Rows L2 Evl Sup
variable [TabC]
section
variable {X : Cx} {B : Bs} {pos p : Pos} {a b c e : Expr} {es : List Expr} {da db dc de : DE} {dA : DA} {ta tb : DT}
end
end DL
end
section
open PySem PySem.Spec PyProof.Rows L2 Evl DL
local macro_rules | `(tactic| walk_at "side") => `(tactic| first | exact mul_left (by decide) | exact mul_right (by decide) | exact mul_bd | exact div_bd (by first | assumption | decide | omega) | exact pow_bd (by first | decide | omega) (by first | decide | omega) | assumption | (show (0 : Int) < _; first | decide | omega))
local macro_rules | `(tactic| walk_at "eva") => `(tactic| first | exact DL.EvA.nil | (refine' DL.EvA.cons ?e ?r; (case' e => walk_at "ev"); (case' r => walk_at "eva")))
local macro_rules | `(tactic| walk_at "seq") => `(tactic| first | exact seq_tup | exact seq_lst | exact seq_ref (by assumption))
local macro_rules | `(tactic| walk_at "size") => `(tactic| first | (show _ ≤ sizeLine; simp only [List.length_cons, List.length_nil]; decide) | (rw [sizeLine_eq]; omega))
local macro_rules | `(tactic| walk_at "ev") => `(tactic| first
  | exact DL.Ev.c
  | exact DL.Ev.var rfl
  | (refine' DL.Ev.int ?a ?b; (case' a => walk_at "ev"); (case' b => walk_at "ev"))
  | (refine' DL.Ev.intC ?a ?b ?s; (case' a => walk_at "ev"); (case' b => walk_at "ev"); (case' s => try walk_at "side"))
  | (refine' DL.Ev.add ?a ?b; (case' a => walk_at "ev"); (case' b => walk_at "ev"))
  | (refine' DL.Ev.neg ?a; (case' a => walk_at "ev"))
  | (refine' DL.Ev.intOf ?a; (case' a => walk_at "ev"))
  | (refine' DL.Ev.intB ?a; (case' a => walk_at "ev"))
  | (refine' DL.Ev.absN ?a; (case' a => walk_at "ev"))
  | (refine' DL.Ev.eqI ?a ?b; (case' a => walk_at "ev"); (case' b => walk_at "ev"))
  | (refine' DL.Ev.neI ?a ?b; (case' a => walk_at "ev"); (case' b => walk_at "ev"))
  | (refine' DL.Ev.at ?a ?b ?s ?k; (case' a => walk_at "ev"); (case' b => walk_at "ev"); (case' s => walk_at "seq"); (case' k => try rfl))
  | (refine' DL.Ev.len ?a ?s; (case' a => walk_at "ev"); (case' s => walk_at "seq"))
  | (refine' DL.Ev.tupOf ?a ?s; (case' a => walk_at "ev"); (case' s => walk_at "seq"))
  | (refine' DL.Ev.tup ?a ?z; (case' a => walk_at "eva"); (case' z => try walk_at "size"))
  | (refine' DL.Ev.lst ?a ?z; (case' a => walk_at "eva"); (case' z => try walk_at "size"))
  | (refine' DL.Ev.notV ?a; (case' a => walk_at "ev"))
  | (refine' DL.Ev.isN ?a; (case' a => walk_at "ev"))
  | exact fun R r => r
  | assumption)
local macro_rules | `(tactic| walk_at "set") => `(tactic| (refine' ds_set ?e ?_; (case' e => walk_at "ev")))
local macro_rules | `(tactic| walk_at "ret") => `(tactic| (refine' ds_ret ?e ?_; (case' e => walk_at "ev")))
local macro_rules | `(tactic| walk_at "par") => `(tactic| (refine' ds_par ?e ?f ?_; (case' e => walk_at "ev"); (case' f => walk_at "ev")))
local macro_rules | `(tactic| walk_at "cut") => `(tactic| (simp only [DL.cutD, HT.sIx, List.length_cons, List.length_nil, Nat.zero_add, Nat.reduceAdd, Nat.min_def, Nat.reduceLeDiff, ↓reduceIte, List.drop_zero, List.drop_succ_cons, List.take_zero, List.take_succ_cons, List.take_nil, List.drop_nil, List.cons_append, List.nil_append, Int.reduceLT, Int.reduceToNat, Nat.reduceSub, Nat.sub_zero, Int.reduceNeg, Int.cast_ofNat_Int, Int.reduceAdd]; exact rfl))
local macro_rules | `(tactic| walk_at "xu") => `(tactic| first
  | with_reducible refine' DL.Y.ixS0 ?_
  | with_reducible refine' DL.Y.ixS1 ?_
  | with_reducible refine' DL.Y.ixS2 ?_
  | with_reducible refine' DL.Y.ixP0 ?_
  | with_reducible refine' DL.Y.ixP1 ?_
  | with_reducible refine' DL.Y.lstS ?_
  | with_reducible refine' DL.Y.lstP ?_)
local macro_rules | `(tactic| walk_at "dec") => `(tactic| first | rfl | assumption | exact decide_eq_true (by omega) | exact decide_eq_false (by omega) | exact DL.Y.ndT (by omega) | exact DL.Y.ndF (by omega) | decide +kernel)
local macro_rules | `(tactic| walk_at "size2") => `(tactic| first | exact Nat.le_of_ble_eq_true rfl | omega)
local macro_rules | `(tactic| walk_at "x0") => `(tactic| first
  | with_reducible refine' DL.Y.cons ?_
  | ((with_reducible refine' DL.Y.var ?e ?_); (case' e => (first | exact rfl | assumption)))
  | with_reducible refine' DL.Y.c ?_
  | with_reducible refine' DL.Y.nil ?_
  | with_reducible refine' DL.Y.op ?_
  | with_reducible refine' DL.Y.oint ?_
  | ((with_reducible refine' DL.Y.ointC ?s ?_); (case' s => try walk_at "side"))
  | with_reducible refine' DL.Y.oadd ?_
  | with_reducible refine' DL.Y.oeqI ?_
  | with_reducible refine' DL.Y.oneI ?_
  | with_reducible refine' DL.Y.oeqS ?_
  | with_reducible refine' DL.Y.neS ?_
  | with_reducible refine' DL.Y.oneS ?_
  | with_reducible refine' DL.Y.oeqB ?_
  | with_reducible refine' DL.Y.tst ?_
  | with_reducible refine' DL.Y.bl_ ?_
  | ((with_reducible refine' DL.Y.iRng1_ ?z ?_); (case' z => (omega; done)))
  | with_reducible refine' DL.Y.int_ ?_
  | with_reducible refine' DL.Y.str_ ?_
  | with_reducible refine' DL.Y.ref_ ?_
  | ((with_reducible refine' DL.Y.iteT ?h ?_); (case' h => (walk_at "dec"; done)))
  | ((with_reducible refine' DL.Y.iteF ?h ?_); (case' h => (walk_at "dec"; done)))
  | with_reducible refine' DL.Y.seq ?_
  | with_reducible refine' DL.Y.set ?_
  | with_reducible refine' DL.Y.ifS ?_
  | with_reducible refine' DL.Y.ret ?_
  | with_reducible refine' DL.Y.nx ?_
  | with_reducible refine' DL.Y.drop ?_
  | with_reducible refine' DL.Y.asg ?_
  | with_reducible refine' DL.Y.par ?_
  | with_reducible refine' DL.Y.par_ ?_
  | with_reducible refine' DL.Y.par3 ?_
  | with_reducible refine' DL.Y.par3_ ?_
  | with_reducible refine' DL.Y.bk ?_
  | with_reducible refine' DL.Y.ct ?_
  | with_reducible refine' DL.Y.retN ?_
  | with_reducible refine' DL.Y.gn ?_
  | with_reducible refine' DL.Y.gnil ?_
  | with_reducible refine' DL.Y.gcons ?_
  | ((with_reducible refine' DL.Y.gseqT ?e ?_); (case' e => (rfl; done)))
  | ((with_reducible refine' DL.Y.gseqL ?e ?_); (case' e => (rfl; done)))
  | with_reducible refine' DL.Y.tup ?_
  | with_reducible refine' DL.Y.lst ?_
  | ((with_reducible refine' DL.Y.len_ ?n ?l ?_); (case' n => exact rfl); (case' l => try walk_at "size2"))
  | with_reducible refine' DL.Y.ix ?_
  | ((with_reducible refine' DL.Y.ixT ?e ?_); (case' e => (rfl; done)))
  | ((with_reducible refine' DL.Y.ixL ?e ?_); (case' e => (rfl; done)))
  | ((with_reducible refine' DL.Y.ixR ?g ?e ?_); (case' g => with_reducible assumption); (case' e => (rfl; done)))
  | with_reducible refine' DL.Y.cal ?_
  | with_reducible refine' DL.Y.lenT ?_
  | with_reducible refine' DL.Y.lenL ?_
  | ((with_reducible refine' DL.Y.lenR ?g ?_); (case' g => with_reducible assumption))
  | with_reducible refine' DL.Y.absI ?_
  | with_reducible refine' DL.Y.intI ?_
  | with_reducible refine' DL.Y.intB ?_
  | with_reducible refine' DL.Y.tupT ?_
  | with_reducible refine' DL.Y.tupL ?_
  | ((with_reducible refine' DL.Y.tupR ?g ?_); (case' g => with_reducible assumption))
  | with_reducible refine' DL.Y.lstT ?_
  | with_reducible refine' DL.Y.lstL ?_
  | with_reducible refine' DL.Y.allL ?_
  | with_reducible refine' DL.Y.anyL ?_
  | ((with_reducible refine' DL.Y.oaddL ?z ?_); (case' z => try walk_at "size2"))
  | ((with_reducible refine' DL.Y.oaddT ?z ?_); (case' z => try walk_at "size2"))
  | with_reducible refine' DL.Y.oisB ?_
  | with_reducible refine' DL.Y.onotB ?_
  | with_reducible refine' DL.Y.neg ?_
  | with_reducible refine' DL.Y.notT ?_
  | with_reducible refine' DL.Y.andT ?_
  | with_reducible refine' DL.Y.orT ?_
  | with_reducible refine' DL.Y.yes ?_
  | with_reducible refine' DL.Y.ifT ?_
  | with_reducible refine' DL.Y.andV ?_
  | with_reducible refine' DL.Y.orV ?_
  | with_reducible refine' DL.Y.notV ?_
  | with_reducible refine' DL.Y.isN ?_
  | with_reducible refine' DL.Y.notN ?_
  | ((with_reducible refine' DL.Y.isi_ ?e ?_); (case' e => (rfl; done)))
  | with_reducible refine' DL.Y.isiT ?_
  | with_reducible refine' DL.Y.chain ?_
  | with_reducible refine' DL.Y.sl ?_
  | with_reducible refine' DL.Y.noP ?_
  | with_reducible refine' DL.Y.part ?_
  | ((with_reducible refine' DL.Y.slLl ?n ?e ?_); (case' n => (rfl; done)); (case' e => walk_at "cut"))
  | ((with_reducible refine' DL.Y.slTl ?n ?m ?e ?_); (case' n => (rfl; done)); (case' m => (simp [HT.sIx]; done)); (case' e => walk_at "cut"))
  | with_reducible refine' DL.Y.slL ?_
  | with_reducible refine' DL.Y.call ?_
  | with_reducible refine' DL.Y.callK ?_
  | with_reducible refine' DL.Y.callD ?_
  | with_reducible refine' DL.Y.fld ?_
  | ((with_reducible refine' DL.Y.fld_ ?f ?e ?_); (case' f => (first | rfl | assumption); done); (case' e => (rfl; done)))
  | with_reducible refine' DL.Y.isW_ ?_
  | with_reducible refine' DL.Y.inK ?_
  | with_reducible refine' DL.Y.iSeq ?_
  | with_reducible refine' DL.Y.iSeqL ?_
  | with_reducible refine' DL.Y.iSeqT ?_
  | with_reducible refine' DL.Y.iRng1 ?_
  | with_reducible refine' DL.Y.iZip ?_
  | with_reducible refine' DL.Y.iZipT ?_
  | with_reducible refine' DL.Y.iZipL ?_
  | with_reducible refine' DL.Y.iEnum ?_
  | with_reducible refine' DL.Y.iEnumT ?_
  | with_reducible refine' DL.Y.iEnumL ?_
  | with_reducible refine' DL.Y.for_ ?_
  | with_reducible refine' DL.Y.cmp ?_
  | with_reducible refine' DL.Y.isO ?_
  | ((with_reducible refine' DL.Y.isO_ (isO_exc ?c) ?_); (case' c => (decide +kernel; done)))
  | ((with_reducible refine' DL.Y.isO_ ?e ?_); (case' e => (rfl; done)))
  | ((with_reducible refine' DL.Y.isW1 ?e ?_); (case' e => (first | assumption | (rfl; done))))
  | with_reducible refine' DL.Y.xf ?_
  | ((with_reducible refine' DL.Y.xf_ ?c ?e ?_); (case' c => (decide +kernel; done)); (case' e => (first | assumption | (rfl; done))))
  | with_reducible refine' DL.Y.mk ?_
  | with_reducible refine' DL.Y.dctM ?_
  | with_reducible refine' DL.Y.dct0 ?_
  | with_reducible refine' DL.Y.lstM ?_
  | with_reducible refine' DL.Y.rev ?_
  | with_reducible refine' DL.Y.revL ?_
  | with_reducible refine' DL.Y.dget ?_
  | with_reducible refine' DL.Y.dput ?_
  | with_reducible refine' DL.Y.app ?_
  | with_reducible refine' DL.Y.gc ?_
  | with_reducible refine' DL.Y.boolB ?_
  | with_reducible refine' DL.Y.disp ?_
  | with_reducible refine' DL.Y.valsC ?_
  | with_reducible refine' DL.Y.valsN ?_
  | with_reducible refine' DL.Y.ownEq ?_
  | with_reducible refine' DL.Y.cmp2 ?_
  | ((with_reducible refine' DL.Y.fld_ ?f ?e ?_); (case' f => ((first | rfl | assumption | decide +kernel); done)); (case' e => (rfl; done)))
  | with_reducible refine' DL.Y.chLe ?_
  | with_reducible refine' DL.Y.chLt ?_
  | with_reducible refine' DL.Y.setF ?_
  | with_reducible refine' DL.Y.lenSet ?_
  | with_reducible refine' DL.Y.inL ?_
  | with_reducible refine' DL.Y.inD ?_
  | with_reducible refine' DL.Y.inD_ ?_
  | with_reducible refine' DL.Y.ixD ?_
  | ((with_reducible refine' DL.Y.mulS ?h ?_); (case' h => (exact ⟨by omega, by omega, by decide⟩)))
  | ((with_reducible refine' DL.Y.mulL ?h ?_); (case' h => (exact ⟨by simp only [List.length_cons, List.length_nil]; omega, by omega, by omega⟩)))
  | walk_at "xu"
  | walk_at "norm")
local macro_rules | `(tactic| walk_at "norm") => `(tactic| (dsimp only [List.set]))
local macro_rules | `(tactic| walk_at "x") => `(tactic| first | walk_at "x0" | with_reducible refine' DL.Y.ifE ?_)
local macro_rules | `(tactic| walk_at "xs") => `(tactic| repeat walk_at "x0")
local macro_rules | `(tactic| walk_at "xx") => `(tactic| repeat walk_at "x")
local macro_rules | `(tactic| walk_at "start") => `(tactic| dsimp only [List.map, List.length_cons, List.length_nil, List.cons_append, List.nil_append, Nat.zero_add, Nat.reduceAdd, Nat.reduceSub, List.reduceReplicate])
namespace DL
open PySem PySem.Spec PyProof.Rows L2 Evl Sup
variable [TabC]
section
variable {X : Cx} {B : Bs} {pos p : Pos}
end
namespace Y
end Y
end DL
end
section
open PySem PySem.Spec PyProof.Rows L2 Evl DL
local macro_rules | `(tactic| walk_at "side") => `(tactic| first | exact mul_left (by decide) | exact mul_right (by decide) | exact mul_bd | exact div_bd (by first | assumption | decide | omega) | exact pow_bd (by first | decide | omega) (by first | decide | omega) | assumption | (show (0 : Int) < _; first | decide | omega))
local macro_rules | `(tactic| walk_at "eva") => `(tactic| first | exact DL.EvA.nil | (refine' DL.EvA.cons ?e ?r; (case' e => walk_at "ev"); (case' r => walk_at "eva")))
local macro_rules | `(tactic| walk_at "seq") => `(tactic| first | exact seq_tup | exact seq_lst | exact seq_ref (by assumption))
local macro_rules | `(tactic| walk_at "size") => `(tactic| first | (show _ ≤ sizeLine; simp only [List.length_cons, List.length_nil]; decide) | (rw [sizeLine_eq]; omega))
local macro_rules | `(tactic| walk_at "ev") => `(tactic| first
  | exact DL.Ev.c
  | exact DL.Ev.var rfl
  | (refine' DL.Ev.int ?a ?b; (case' a => walk_at "ev"); (case' b => walk_at "ev"))
  | (refine' DL.Ev.intC ?a ?b ?s; (case' a => walk_at "ev"); (case' b => walk_at "ev"); (case' s => try walk_at "side"))
  | (refine' DL.Ev.add ?a ?b; (case' a => walk_at "ev"); (case' b => walk_at "ev"))
  | (refine' DL.Ev.neg ?a; (case' a => walk_at "ev"))
  | (refine' DL.Ev.intOf ?a; (case' a => walk_at "ev"))
  | (refine' DL.Ev.intB ?a; (case' a => walk_at "ev"))
  | (refine' DL.Ev.absN ?a; (case' a => walk_at "ev"))
  | (refine' DL.Ev.eqI ?a ?b; (case' a => walk_at "ev"); (case' b => walk_at "ev"))
  | (refine' DL.Ev.neI ?a ?b; (case' a => walk_at "ev"); (case' b => walk_at "ev"))
  | (refine' DL.Ev.at ?a ?b ?s ?k; (case' a => walk_at "ev"); (case' b => walk_at "ev"); (case' s => walk_at "seq"); (case' k => try rfl))
  | (refine' DL.Ev.len ?a ?s; (case' a => walk_at "ev"); (case' s => walk_at "seq"))
  | (refine' DL.Ev.tupOf ?a ?s; (case' a => walk_at "ev"); (case' s => walk_at "seq"))
  | (refine' DL.Ev.tup ?a ?z; (case' a => walk_at "eva"); (case' z => try walk_at "size"))
  | (refine' DL.Ev.lst ?a ?z; (case' a => walk_at "eva"); (case' z => try walk_at "size"))
  | (refine' DL.Ev.notV ?a; (case' a => walk_at "ev"))
  | (refine' DL.Ev.isN ?a; (case' a => walk_at "ev"))
  | exact fun R r => r
  | assumption)
local macro_rules | `(tactic| walk_at "set") => `(tactic| (refine' ds_set ?e ?_; (case' e => walk_at "ev")))
local macro_rules | `(tactic| walk_at "ret") => `(tactic| (refine' ds_ret ?e ?_; (case' e => walk_at "ev")))
local macro_rules | `(tactic| walk_at "par") => `(tactic| (refine' ds_par ?e ?f ?_; (case' e => walk_at "ev"); (case' f => walk_at "ev")))
local macro_rules | `(tactic| walk_at "cut") => `(tactic| (simp only [DL.cutD, HT.sIx, List.length_cons, List.length_nil, Nat.zero_add, Nat.reduceAdd, Nat.min_def, Nat.reduceLeDiff, ↓reduceIte, List.drop_zero, List.drop_succ_cons, List.take_zero, List.take_succ_cons, List.take_nil, List.drop_nil, List.cons_append, List.nil_append, Int.reduceLT, Int.reduceToNat, Nat.reduceSub, Nat.sub_zero, Int.reduceNeg, Int.cast_ofNat_Int, Int.reduceAdd]; exact rfl))
local macro_rules | `(tactic| walk_at "xu") => `(tactic| first
  | with_reducible refine' DL.Y.ixS0 ?_
  | with_reducible refine' DL.Y.ixS1 ?_
  | with_reducible refine' DL.Y.ixS2 ?_
  | with_reducible refine' DL.Y.ixP0 ?_
  | with_reducible refine' DL.Y.ixP1 ?_
  | with_reducible refine' DL.Y.lstS ?_
  | with_reducible refine' DL.Y.lstP ?_)
local macro_rules | `(tactic| walk_at "dec") => `(tactic| first | rfl | assumption | exact decide_eq_true (by omega) | exact decide_eq_false (by omega) | exact DL.Y.ndT (by omega) | exact DL.Y.ndF (by omega) | decide +kernel)
local macro_rules | `(tactic| walk_at "size2") => `(tactic| first | exact Nat.le_of_ble_eq_true rfl | omega)
local macro_rules | `(tactic| walk_at "x0") => `(tactic| first
  | with_reducible refine' DL.Y.cons ?_
  | ((with_reducible refine' DL.Y.var ?e ?_); (case' e => (first | exact rfl | assumption)))
  | with_reducible refine' DL.Y.c ?_
  | with_reducible refine' DL.Y.nil ?_
  | with_reducible refine' DL.Y.op ?_
  | with_reducible refine' DL.Y.oint ?_
  | ((with_reducible refine' DL.Y.ointC ?s ?_); (case' s => try walk_at "side"))
  | with_reducible refine' DL.Y.oadd ?_
  | with_reducible refine' DL.Y.oeqI ?_
  | with_reducible refine' DL.Y.oneI ?_
  | with_reducible refine' DL.Y.oeqS ?_
  | with_reducible refine' DL.Y.neS ?_
  | with_reducible refine' DL.Y.oneS ?_
  | with_reducible refine' DL.Y.oeqB ?_
  | with_reducible refine' DL.Y.tst ?_
  | with_reducible refine' DL.Y.bl_ ?_
  | ((with_reducible refine' DL.Y.iRng1_ ?z ?_); (case' z => (omega; done)))
  | with_reducible refine' DL.Y.int_ ?_
  | with_reducible refine' DL.Y.str_ ?_
  | with_reducible refine' DL.Y.ref_ ?_
  | ((with_reducible refine' DL.Y.iteT ?h ?_); (case' h => (walk_at "dec"; done)))
  | ((with_reducible refine' DL.Y.iteF ?h ?_); (case' h => (walk_at "dec"; done)))
  | with_reducible refine' DL.Y.seq ?_
  | with_reducible refine' DL.Y.set ?_
  | with_reducible refine' DL.Y.ifS ?_
  | with_reducible refine' DL.Y.ret ?_
  | with_reducible refine' DL.Y.nx ?_
  | with_reducible refine' DL.Y.drop ?_
  | with_reducible refine' DL.Y.asg ?_
  | with_reducible refine' DL.Y.par ?_
  | with_reducible refine' DL.Y.par_ ?_
  | with_reducible refine' DL.Y.par3 ?_
  | with_reducible refine' DL.Y.par3_ ?_
  | with_reducible refine' DL.Y.bk ?_
  | with_reducible refine' DL.Y.ct ?_
  | with_reducible refine' DL.Y.retN ?_
  | with_reducible refine' DL.Y.gn ?_
  | with_reducible refine' DL.Y.gnil ?_
  | with_reducible refine' DL.Y.gcons ?_
  | ((with_reducible refine' DL.Y.gseqT ?e ?_); (case' e => (rfl; done)))
  | ((with_reducible refine' DL.Y.gseqL ?e ?_); (case' e => (rfl; done)))
  | with_reducible refine' DL.Y.tup ?_
  | with_reducible refine' DL.Y.lst ?_
  | ((with_reducible refine' DL.Y.len_ ?n ?l ?_); (case' n => exact rfl); (case' l => try walk_at "size2"))
  | with_reducible refine' DL.Y.ix ?_
  | ((with_reducible refine' DL.Y.ixT ?e ?_); (case' e => (rfl; done)))
  | ((with_reducible refine' DL.Y.ixL ?e ?_); (case' e => (rfl; done)))
  | ((with_reducible refine' DL.Y.ixR ?g ?e ?_); (case' g => with_reducible assumption); (case' e => (rfl; done)))
  | with_reducible refine' DL.Y.cal ?_
  | with_reducible refine' DL.Y.lenT ?_
  | with_reducible refine' DL.Y.lenL ?_
  | ((with_reducible refine' DL.Y.lenR ?g ?_); (case' g => with_reducible assumption))
  | with_reducible refine' DL.Y.absI ?_
  | with_reducible refine' DL.Y.intI ?_
  | with_reducible refine' DL.Y.intB ?_
  | with_reducible refine' DL.Y.tupT ?_
  | with_reducible refine' DL.Y.tupL ?_
  | ((with_reducible refine' DL.Y.tupR ?g ?_); (case' g => with_reducible assumption))
  | with_reducible refine' DL.Y.lstT ?_
  | with_reducible refine' DL.Y.lstL ?_
  | with_reducible refine' DL.Y.allL ?_
  | with_reducible refine' DL.Y.anyL ?_
  | ((with_reducible refine' DL.Y.oaddL ?z ?_); (case' z => try walk_at "size2"))
  | ((with_reducible refine' DL.Y.oaddT ?z ?_); (case' z => try walk_at "size2"))
  | with_reducible refine' DL.Y.oisB ?_
  | with_reducible refine' DL.Y.onotB ?_
  | with_reducible refine' DL.Y.neg ?_
  | with_reducible refine' DL.Y.notT ?_
  | with_reducible refine' DL.Y.andT ?_
  | with_reducible refine' DL.Y.orT ?_
  | with_reducible refine' DL.Y.yes ?_
  | with_reducible refine' DL.Y.ifT ?_
  | with_reducible refine' DL.Y.andV ?_
  | with_reducible refine' DL.Y.orV ?_
  | with_reducible refine' DL.Y.notV ?_
  | with_reducible refine' DL.Y.isN ?_
  | with_reducible refine' DL.Y.notN ?_
  | ((with_reducible refine' DL.Y.isi_ ?e ?_); (case' e => (rfl; done)))
  | with_reducible refine' DL.Y.isiT ?_
  | with_reducible refine' DL.Y.chain ?_
  | with_reducible refine' DL.Y.sl ?_
  | with_reducible refine' DL.Y.noP ?_
  | with_reducible refine' DL.Y.part ?_
  | ((with_reducible refine' DL.Y.slLl ?n ?e ?_); (case' n => (rfl; done)); (case' e => walk_at "cut"))
  | ((with_reducible refine' DL.Y.slTl ?n ?m ?e ?_); (case' n => (rfl; done)); (case' m => (simp [HT.sIx]; done)); (case' e => walk_at "cut"))
  | with_reducible refine' DL.Y.slL ?_
  | with_reducible refine' DL.Y.call ?_
  | with_reducible refine' DL.Y.callK ?_
  | with_reducible refine' DL.Y.callD ?_
  | with_reducible refine' DL.Y.fld ?_
  | ((with_reducible refine' DL.Y.fld_ ?f ?e ?_); (case' f => (first | rfl | assumption); done); (case' e => (rfl; done)))
  | with_reducible refine' DL.Y.isW_ ?_
  | with_reducible refine' DL.Y.inK ?_
  | with_reducible refine' DL.Y.iSeq ?_
  | with_reducible refine' DL.Y.iSeqL ?_
  | with_reducible refine' DL.Y.iSeqT ?_
  | with_reducible refine' DL.Y.iRng1 ?_
  | with_reducible refine' DL.Y.iZip ?_
  | with_reducible refine' DL.Y.iZipT ?_
  | with_reducible refine' DL.Y.iZipL ?_
  | with_reducible refine' DL.Y.iEnum ?_
  | with_reducible refine' DL.Y.iEnumT ?_
  | with_reducible refine' DL.Y.iEnumL ?_
  | with_reducible refine' DL.Y.for_ ?_
  | with_reducible refine' DL.Y.cmp ?_
  | with_reducible refine' DL.Y.isO ?_
  | ((with_reducible refine' DL.Y.isO_ (isO_exc ?c) ?_); (case' c => (decide +kernel; done)))
  | ((with_reducible refine' DL.Y.isO_ ?e ?_); (case' e => (rfl; done)))
  | ((with_reducible refine' DL.Y.isW1 ?e ?_); (case' e => (first | assumption | (rfl; done))))
  | with_reducible refine' DL.Y.xf ?_
  | ((with_reducible refine' DL.Y.xf_ ?c ?e ?_); (case' c => (decide +kernel; done)); (case' e => (first | assumption | (rfl; done))))
  | with_reducible refine' DL.Y.mk ?_
  | with_reducible refine' DL.Y.dctM ?_
  | with_reducible refine' DL.Y.dct0 ?_
  | with_reducible refine' DL.Y.lstM ?_
  | with_reducible refine' DL.Y.rev ?_
  | with_reducible refine' DL.Y.revL ?_
  | with_reducible refine' DL.Y.dget ?_
  | with_reducible refine' DL.Y.dput ?_
  | with_reducible refine' DL.Y.app ?_
  | with_reducible refine' DL.Y.gc ?_
  | with_reducible refine' DL.Y.boolB ?_
  | with_reducible refine' DL.Y.disp ?_
  | with_reducible refine' DL.Y.valsC ?_
  | with_reducible refine' DL.Y.valsN ?_
  | with_reducible refine' DL.Y.ownEq ?_
  | with_reducible refine' DL.Y.cmp2 ?_
  | ((with_reducible refine' DL.Y.fld_ ?f ?e ?_); (case' f => ((first | rfl | assumption | decide +kernel); done)); (case' e => (rfl; done)))
  | with_reducible refine' DL.Y.chLe ?_
  | with_reducible refine' DL.Y.chLt ?_
  | with_reducible refine' DL.Y.setF ?_
  | with_reducible refine' DL.Y.lenSet ?_
  | with_reducible refine' DL.Y.inL ?_
  | with_reducible refine' DL.Y.inD ?_
  | with_reducible refine' DL.Y.inD_ ?_
  | with_reducible refine' DL.Y.ixD ?_
  | ((with_reducible refine' DL.Y.mulS ?h ?_); (case' h => (exact ⟨by omega, by omega, by decide⟩)))
  | ((with_reducible refine' DL.Y.mulL ?h ?_); (case' h => (exact ⟨by simp only [List.length_cons, List.length_nil]; omega, by omega, by omega⟩)))
  | walk_at "xu"
  | walk_at "norm")
local macro_rules | `(tactic| walk_at "norm") => `(tactic| (dsimp only [List.set]))
local macro_rules | `(tactic| walk_at "x") => `(tactic| first | walk_at "x0" | with_reducible refine' DL.Y.ifE ?_)
local macro_rules | `(tactic| walk_at "xs") => `(tactic| repeat walk_at "x0")
local macro_rules | `(tactic| walk_at "xx") => `(tactic| repeat walk_at "x")
local macro_rules | `(tactic| walk_at "start") => `(tactic| dsimp only [List.map, List.length_cons, List.length_nil, List.cons_append, List.nil_append, Nat.zero_add, Nat.reduceAdd, Nat.reduceSub, List.reduceReplicate])
namespace DL
open PySem PySem.Spec PyProof.Rows L2 Evl Sup
variable [TabC]
end DL
end
section
open PySem PySem.Spec PyProof.Rows L2 Evl DL
local macro_rules | `(tactic| walk_at "side") => `(tactic| first | exact mul_left (by decide) | exact mul_right (by decide) | exact mul_bd | exact div_bd (by first | assumption | decide | omega) | exact pow_bd (by first | decide | omega) (by first | decide | omega) | assumption | (show (0 : Int) < _; first | decide | omega))
local macro_rules | `(tactic| walk_at "eva") => `(tactic| first | exact DL.EvA.nil | (refine' DL.EvA.cons ?e ?r; (case' e => walk_at "ev"); (case' r => walk_at "eva")))
local macro_rules | `(tactic| walk_at "seq") => `(tactic| first | exact seq_tup | exact seq_lst | exact seq_ref (by assumption))
local macro_rules | `(tactic| walk_at "size") => `(tactic| first | (show _ ≤ sizeLine; simp only [List.length_cons, List.length_nil]; decide) | (rw [sizeLine_eq]; omega))
local macro_rules | `(tactic| walk_at "ev") => `(tactic| first
  | exact DL.Ev.c
  | exact DL.Ev.var rfl
  | (refine' DL.Ev.int ?a ?b; (case' a => walk_at "ev"); (case' b => walk_at "ev"))
  | (refine' DL.Ev.intC ?a ?b ?s; (case' a => walk_at "ev"); (case' b => walk_at "ev"); (case' s => try walk_at "side"))
  | (refine' DL.Ev.add ?a ?b; (case' a => walk_at "ev"); (case' b => walk_at "ev"))
  | (refine' DL.Ev.neg ?a; (case' a => walk_at "ev"))
  | (refine' DL.Ev.intOf ?a; (case' a => walk_at "ev"))
  | (refine' DL.Ev.intB ?a; (case' a => walk_at "ev"))
  | (refine' DL.Ev.absN ?a; (case' a => walk_at "ev"))
  | (refine' DL.Ev.eqI ?a ?b; (case' a => walk_at "ev"); (case' b => walk_at "ev"))
  | (refine' DL.Ev.neI ?a ?b; (case' a => walk_at "ev"); (case' b => walk_at "ev"))
  | (refine' DL.Ev.at ?a ?b ?s ?k; (case' a => walk_at "ev"); (case' b => walk_at "ev"); (case' s => walk_at "seq"); (case' k => try rfl))
  | (refine' DL.Ev.len ?a ?s; (case' a => walk_at "ev"); (case' s => walk_at "seq"))
  | (refine' DL.Ev.tupOf ?a ?s; (case' a => walk_at "ev"); (case' s => walk_at "seq"))
  | (refine' DL.Ev.tup ?a ?z; (case' a => walk_at "eva"); (case' z => try walk_at "size"))
  | (refine' DL.Ev.lst ?a ?z; (case' a => walk_at "eva"); (case' z => try walk_at "size"))
  | (refine' DL.Ev.notV ?a; (case' a => walk_at "ev"))
  | (refine' DL.Ev.isN ?a; (case' a => walk_at "ev"))
  | exact fun R r => r
  | assumption)
local macro_rules | `(tactic| walk_at "set") => `(tactic| (refine' ds_set ?e ?_; (case' e => walk_at "ev")))
local macro_rules | `(tactic| walk_at "ret") => `(tactic| (refine' ds_ret ?e ?_; (case' e => walk_at "ev")))
local macro_rules | `(tactic| walk_at "par") => `(tactic| (refine' ds_par ?e ?f ?_; (case' e => walk_at "ev"); (case' f => walk_at "ev")))
local macro_rules | `(tactic| walk_at "cut") => `(tactic| (simp only [DL.cutD, HT.sIx, List.length_cons, List.length_nil, Nat.zero_add, Nat.reduceAdd, Nat.min_def, Nat.reduceLeDiff, ↓reduceIte, List.drop_zero, List.drop_succ_cons, List.take_zero, List.take_succ_cons, List.take_nil, List.drop_nil, List.cons_append, List.nil_append, Int.reduceLT, Int.reduceToNat, Nat.reduceSub, Nat.sub_zero, Int.reduceNeg, Int.cast_ofNat_Int, Int.reduceAdd]; exact rfl))
local macro_rules | `(tactic| walk_at "xu") => `(tactic| first
  | with_reducible refine' DL.Y.ixS0 ?_
  | with_reducible refine' DL.Y.ixS1 ?_
  | with_reducible refine' DL.Y.ixS2 ?_
  | with_reducible refine' DL.Y.ixP0 ?_
  | with_reducible refine' DL.Y.ixP1 ?_
  | with_reducible refine' DL.Y.lstS ?_
  | with_reducible refine' DL.Y.lstP ?_)
local macro_rules | `(tactic| walk_at "dec") => `(tactic| first | rfl | assumption | exact decide_eq_true (by omega) | exact decide_eq_false (by omega) | exact DL.Y.ndT (by omega) | exact DL.Y.ndF (by omega) | decide +kernel)
local macro_rules | `(tactic| walk_at "size2") => `(tactic| first | exact Nat.le_of_ble_eq_true rfl | omega)
local macro_rules | `(tactic| walk_at "x0") => `(tactic| first
  | with_reducible refine' DL.Y.cons ?_
  | ((with_reducible refine' DL.Y.var ?e ?_); (case' e => (first | exact rfl | assumption)))
  | with_reducible refine' DL.Y.c ?_
  | with_reducible refine' DL.Y.nil ?_
  | with_reducible refine' DL.Y.op ?_
  | with_reducible refine' DL.Y.oint ?_
  | ((with_reducible refine' DL.Y.ointC ?s ?_); (case' s => try walk_at "side"))
  | with_reducible refine' DL.Y.oadd ?_
  | with_reducible refine' DL.Y.oeqI ?_
  | with_reducible refine' DL.Y.oneI ?_
  | with_reducible refine' DL.Y.oeqS ?_
  | with_reducible refine' DL.Y.neS ?_
  | with_reducible refine' DL.Y.oneS ?_
  | with_reducible refine' DL.Y.oeqB ?_
  | with_reducible refine' DL.Y.tst ?_
  | with_reducible refine' DL.Y.bl_ ?_
  | ((with_reducible refine' DL.Y.iRng1_ ?z ?_); (case' z => (omega; done)))
  | with_reducible refine' DL.Y.int_ ?_
  | with_reducible refine' DL.Y.str_ ?_
  | with_reducible refine' DL.Y.ref_ ?_
  | ((with_reducible refine' DL.Y.iteT ?h ?_); (case' h => (walk_at "dec"; done)))
  | ((with_reducible refine' DL.Y.iteF ?h ?_); (case' h => (walk_at "dec"; done)))
  | with_reducible refine' DL.Y.seq ?_
  | with_reducible refine' DL.Y.set ?_
  | with_reducible refine' DL.Y.ifS ?_
  | with_reducible refine' DL.Y.ret ?_
  | with_reducible refine' DL.Y.nx ?_
  | with_reducible refine' DL.Y.drop ?_
  | with_reducible refine' DL.Y.asg ?_
  | with_reducible refine' DL.Y.par ?_
  | with_reducible refine' DL.Y.par_ ?_
  | with_reducible refine' DL.Y.par3 ?_
  | with_reducible refine' DL.Y.par3_ ?_
  | with_reducible refine' DL.Y.bk ?_
  | with_reducible refine' DL.Y.ct ?_
  | with_reducible refine' DL.Y.retN ?_
  | with_reducible refine' DL.Y.gn ?_
  | with_reducible refine' DL.Y.gnil ?_
  | with_reducible refine' DL.Y.gcons ?_
  | ((with_reducible refine' DL.Y.gseqT ?e ?_); (case' e => (rfl; done)))
  | ((with_reducible refine' DL.Y.gseqL ?e ?_); (case' e => (rfl; done)))
  | with_reducible refine' DL.Y.tup ?_
  | with_reducible refine' DL.Y.lst ?_
  | ((with_reducible refine' DL.Y.len_ ?n ?l ?_); (case' n => exact rfl); (case' l => try walk_at "size2"))
  | with_reducible refine' DL.Y.ix ?_
  | ((with_reducible refine' DL.Y.ixT ?e ?_); (case' e => ((first | rfl | assumption); done)))
  | ((with_reducible refine' DL.Y.ixL ?e ?_); (case' e => (rfl; done)))
  | ((with_reducible refine' DL.Y.ixR ?g ?e ?_); (case' g => with_reducible assumption); (case' e => (rfl; done)))
  | with_reducible refine' DL.Y.cal ?_
  | with_reducible refine' DL.Y.lenT ?_
  | with_reducible refine' DL.Y.lenL ?_
  | ((with_reducible refine' DL.Y.lenR ?g ?_); (case' g => with_reducible assumption))
  | with_reducible refine' DL.Y.absI ?_
  | with_reducible refine' DL.Y.intI ?_
  | with_reducible refine' DL.Y.intB ?_
  | with_reducible refine' DL.Y.tupT ?_
  | with_reducible refine' DL.Y.tupL ?_
  | ((with_reducible refine' DL.Y.tupR ?g ?_); (case' g => with_reducible assumption))
  | with_reducible refine' DL.Y.lstT ?_
  | with_reducible refine' DL.Y.lstL ?_
  | with_reducible refine' DL.Y.allL ?_
  | with_reducible refine' DL.Y.anyL ?_
  | ((with_reducible refine' DL.Y.oaddL ?z ?_); (case' z => try walk_at "size2"))
  | ((with_reducible refine' DL.Y.oaddT ?z ?_); (case' z => try walk_at "size2"))
  | with_reducible refine' DL.Y.oisB ?_
  | with_reducible refine' DL.Y.onotB ?_
  | with_reducible refine' DL.Y.neg ?_
  | with_reducible refine' DL.Y.notT ?_
  | with_reducible refine' DL.Y.andT ?_
  | with_reducible refine' DL.Y.orT ?_
  | with_reducible refine' DL.Y.yes ?_
  | with_reducible refine' DL.Y.ifT ?_
  | with_reducible refine' DL.Y.andV ?_
  | with_reducible refine' DL.Y.orV ?_
  | with_reducible refine' DL.Y.notV ?_
  | with_reducible refine' DL.Y.isN ?_
  | with_reducible refine' DL.Y.notN ?_
  | ((with_reducible refine' DL.Y.isi_ ?e ?_); (case' e => (rfl; done)))
  | with_reducible refine' DL.Y.isiT ?_
  | with_reducible refine' DL.Y.chain ?_
  | with_reducible refine' DL.Y.sl ?_
  | with_reducible refine' DL.Y.noP ?_
  | with_reducible refine' DL.Y.part ?_
  | ((with_reducible refine' DL.Y.slLl ?n ?e ?_); (case' n => (rfl; done)); (case' e => walk_at "cut"))
  | ((with_reducible refine' DL.Y.slTl ?n ?m ?e ?_); (case' n => (rfl; done)); (case' m => (simp [HT.sIx]; done)); (case' e => walk_at "cut"))
  | with_reducible refine' DL.Y.slL ?_
  | with_reducible refine' DL.Y.call ?_
  | with_reducible refine' DL.Y.callK ?_
  | with_reducible refine' DL.Y.callD ?_
  | with_reducible refine' DL.Y.fld ?_
  | ((with_reducible refine' DL.Y.fld_ ?f ?e ?_); (case' f => (first | rfl | assumption); done); (case' e => (rfl; done)))
  | with_reducible refine' DL.Y.isW_ ?_
  | with_reducible refine' DL.Y.inK ?_
  | with_reducible refine' DL.Y.iSeq ?_
  | with_reducible refine' DL.Y.iSeqL ?_
  | with_reducible refine' DL.Y.iSeqT ?_
  | with_reducible refine' DL.Y.iRng1 ?_
  | with_reducible refine' DL.Y.iZip ?_
  | with_reducible refine' DL.Y.iZipT ?_
  | with_reducible refine' DL.Y.iZipL ?_
  | with_reducible refine' DL.Y.iEnum ?_
  | with_reducible refine' DL.Y.iEnumT ?_
  | with_reducible refine' DL.Y.iEnumL ?_
  | with_reducible refine' DL.Y.for_ ?_
  | with_reducible refine' DL.Y.cmp ?_
  | with_reducible refine' DL.Y.isO ?_
  | ((with_reducible refine' DL.Y.isO_ (isO_exc ?c) ?_); (case' c => (decide +kernel; done)))
  | ((with_reducible refine' DL.Y.isO_ ?e ?_); (case' e => (rfl; done)))
  | ((with_reducible refine' DL.Y.isW1 ?e ?_); (case' e => (first | assumption | (rfl; done))))
  | with_reducible refine' DL.Y.xf ?_
  | ((with_reducible refine' DL.Y.xf_ ?c ?e ?_); (case' c => (decide +kernel; done)); (case' e => (first | assumption | (rfl; done))))
  | with_reducible refine' DL.Y.mk ?_
  | with_reducible refine' DL.Y.dctM ?_
  | with_reducible refine' DL.Y.dct0 ?_
  | with_reducible refine' DL.Y.lstM ?_
  | with_reducible refine' DL.Y.rev ?_
  | with_reducible refine' DL.Y.revL ?_
  | with_reducible refine' DL.Y.dget ?_
  | with_reducible refine' DL.Y.dput ?_
  | with_reducible refine' DL.Y.app ?_
  | with_reducible refine' DL.Y.gc ?_
  | with_reducible refine' DL.Y.boolB ?_
  | with_reducible refine' DL.Y.disp ?_
  | with_reducible refine' DL.Y.valsC ?_
  | with_reducible refine' DL.Y.valsN ?_
  | with_reducible refine' DL.Y.ownEq ?_
  | with_reducible refine' DL.Y.cmp2 ?_
  | ((with_reducible refine' DL.Y.fld_ ?f ?e ?_); (case' f => ((first | rfl | assumption | decide +kernel); done)); (case' e => (rfl; done)))
  | with_reducible refine' DL.Y.chLe ?_
  | with_reducible refine' DL.Y.chLt ?_
  | with_reducible refine' DL.Y.setF ?_
  | with_reducible refine' DL.Y.lenSet ?_
  | with_reducible refine' DL.Y.inL ?_
  | with_reducible refine' DL.Y.inD ?_
  | with_reducible refine' DL.Y.inD_ ?_
  | with_reducible refine' DL.Y.ixD ?_
  | ((with_reducible refine' DL.Y.mulS ?h ?_); (case' h => (exact ⟨by omega, by omega, by decide⟩)))
  | ((with_reducible refine' DL.Y.mulL ?h ?_); (case' h => (exact ⟨by simp only [List.length_cons, List.length_nil]; omega, by omega, by omega⟩)))
  | walk_at "xu"
  | walk_at "norm")
local macro_rules | `(tactic| walk_at "norm") => `(tactic| (dsimp only [List.set]))
local macro_rules | `(tactic| walk_at "x") => `(tactic| first | walk_at "x0" | with_reducible refine' DL.Y.ifE ?_)
local macro_rules | `(tactic| walk_at "xs") => `(tactic| repeat walk_at "x0")
local macro_rules | `(tactic| walk_at "xx") => `(tactic| repeat walk_at "x")
local macro_rules | `(tactic| walk_at "start") => `(tactic| dsimp only [List.map, List.length_cons, List.length_nil, List.cons_append, List.nil_append, Nat.zero_add, Nat.reduceAdd, Nat.reduceSub, List.reduceReplicate])
namespace DL
open PySem PySem.Spec PyProof.Rows L2 Evl Sup
variable [TabC]
end DL
namespace DL
open PySem PySem.Spec PyProof.Rows L2 Evl Sup
variable [TabC]
section
variable {X : Cx} {B : Bs} {p pos : Pos} {e : Expr} {es : List Expr} {dA : DA}
theorem pex_call {k : Nat} {x : Str} {st : Stmt} {ps : List Str} {q : DSp} {W : WX} (h : Kn X.prog X.w X.K X.mg X.base k x st ps q) (hr : Room k X.A) (hgd : X.A.guards = some []) (hg : Gl X x) (tk : Takes X W)
    (hb : ∀ (kV doc pm : Value) (an : Option Addr) (cdv ct : Value) (us : List Value), us.length = ps.length → bindArgs (PySem.W.fnOf x x (defArgs st) (defBody st) (defScope st) .none kV doc pm an cdv ct) ⟨us, []⟩ = pure (ps.zip us))
    (ha : PA X (e :: es) (upA X.K B dA)) (hdb : (x == ("__debug__" : Str)) = false := by decide) (he : starEach (e :: es) X.env = (false, eval e X.env) :: starEach es X.env := by rfl) (hpl : (backTo pos (starEach es X.env)).any (·.1) = false := by rfl) :
    PE X (.Call (.Name x p) (e :: es) [] pos) (upEX X.K B (fun RX => dCall q RX dA) W) := ⟨fun pins s σ H Q I ⟨ρ, Hd, G, R, RX, at_, h', ke, kx⟩ => by
  obtain ⟨fd, F, FG⟩ := h.fn
  have qa : upA X.K B dA σ H (fun vs H1 => spU X.K q vs H1 Q (WE W σ)) := ⟨ρ, Hd, G, _, at_, h', fun vs H1 Hd1 xs G1 e1 s1 r1 h1 => ⟨xs, B.f, Hd1, G1, R, RX, r1, s1, h1, ke.mono e1, kx.mono e1⟩⟩
  refine wpAny_Call_Name_kw (ld_glob I hg h.g (PySem.W.callWith_K (h₀ := X.base) I.ok.mod.kin F.kp (thn (ha.run pos pins s σ H _ I qa) fun us s1 hh => ?_) he hpl) hdb)
  obtain ⟨vs, H1, I1, r, q1⟩ := hh
  have hl : us.length = ps.length := by rw [← r.length]; exact FG.len _ _ _ _ q1
  have hb1 := F.bindsN hb s1 us I1.kIn (by rw [List.append_nil]; exact hl)
  rw [List.append_nil] at hb1
  refine ⟨I1.kIn, wpAny_call (codeAny_mono (FG.run X.A X.stack s1 H1 ⟨us, []⟩ us vs Q (WE W σ) hr hgd I1.env0 hb1 r q1) fun r s2 hq => ?_)⟩
  cases r with
  | error e => exact passAt tk σ pins H1 s1 e s2 I1 hq
  | ok fl =>
    cases fl with
    | ret u => exact I1.after hq
    | next => exact False.elim hq
    | brk => exact False.elim hq
    | cont => exact False.elim hq⟩
end
end DL
namespace DL
open PySem PySem.Spec PyProof.Rows L2 Evl Sup
variable [TabC]
end DL
namespace DL
open PySem PySem.Spec PyProof.Rows L2 Evl Sup
variable [TabC]
end DL
namespace DL
open PySem PySem.Spec PyProof.Rows L2 Evl Sup
variable [TabC]
section
variable {X : Cx} {B : Bs} {p pos : Pos} {e : Expr} {es : List Expr} {de : DE} {dA : DA}
namespace Y
end Y
end
end DL
end
section
open PySem PySem.Spec PyProof.Rows L2 Evl DL
local macro_rules | `(tactic| walk_at "side") => `(tactic| first | exact mul_left (by decide) | exact mul_right (by decide) | exact mul_bd | exact div_bd (by first | assumption | decide | omega) | exact pow_bd (by first | decide | omega) (by first | decide | omega) | assumption | (show (0 : Int) < _; first | decide | omega))
local macro_rules | `(tactic| walk_at "eva") => `(tactic| first | exact DL.EvA.nil | (refine' DL.EvA.cons ?e ?r; (case' e => walk_at "ev"); (case' r => walk_at "eva")))
local macro_rules | `(tactic| walk_at "seq") => `(tactic| first | exact seq_tup | exact seq_lst | exact seq_ref (by assumption))
local macro_rules | `(tactic| walk_at "size") => `(tactic| first | (show _ ≤ sizeLine; simp only [List.length_cons, List.length_nil]; decide) | (rw [sizeLine_eq]; omega))
local macro_rules | `(tactic| walk_at "ev") => `(tactic| first
  | exact DL.Ev.c
  | exact DL.Ev.var rfl
  | (refine' DL.Ev.int ?a ?b; (case' a => walk_at "ev"); (case' b => walk_at "ev"))
  | (refine' DL.Ev.intC ?a ?b ?s; (case' a => walk_at "ev"); (case' b => walk_at "ev"); (case' s => try walk_at "side"))
  | (refine' DL.Ev.add ?a ?b; (case' a => walk_at "ev"); (case' b => walk_at "ev"))
  | (refine' DL.Ev.neg ?a; (case' a => walk_at "ev"))
  | (refine' DL.Ev.intOf ?a; (case' a => walk_at "ev"))
  | (refine' DL.Ev.intB ?a; (case' a => walk_at "ev"))
  | (refine' DL.Ev.absN ?a; (case' a => walk_at "ev"))
  | (refine' DL.Ev.eqI ?a ?b; (case' a => walk_at "ev"); (case' b => walk_at "ev"))
  | (refine' DL.Ev.neI ?a ?b; (case' a => walk_at "ev"); (case' b => walk_at "ev"))
  | (refine' DL.Ev.at ?a ?b ?s ?k; (case' a => walk_at "ev"); (case' b => walk_at "ev"); (case' s => walk_at "seq"); (case' k => try rfl))
  | (refine' DL.Ev.len ?a ?s; (case' a => walk_at "ev"); (case' s => walk_at "seq"))
  | (refine' DL.Ev.tupOf ?a ?s; (case' a => walk_at "ev"); (case' s => walk_at "seq"))
  | (refine' DL.Ev.tup ?a ?z; (case' a => walk_at "eva"); (case' z => try walk_at "size"))
  | (refine' DL.Ev.lst ?a ?z; (case' a => walk_at "eva"); (case' z => try walk_at "size"))
  | (refine' DL.Ev.notV ?a; (case' a => walk_at "ev"))
  | (refine' DL.Ev.isN ?a; (case' a => walk_at "ev"))
  | exact fun R r => r
  | assumption)
local macro_rules | `(tactic| walk_at "set") => `(tactic| (refine' ds_set ?e ?_; (case' e => walk_at "ev")))
local macro_rules | `(tactic| walk_at "ret") => `(tactic| (refine' ds_ret ?e ?_; (case' e => walk_at "ev")))
local macro_rules | `(tactic| walk_at "par") => `(tactic| (refine' ds_par ?e ?f ?_; (case' e => walk_at "ev"); (case' f => walk_at "ev")))
local macro_rules | `(tactic| walk_at "cut") => `(tactic| (simp only [DL.cutD, HT.sIx, List.length_cons, List.length_nil, Nat.zero_add, Nat.reduceAdd, Nat.min_def, Nat.reduceLeDiff, ↓reduceIte, List.drop_zero, List.drop_succ_cons, List.take_zero, List.take_succ_cons, List.take_nil, List.drop_nil, List.cons_append, List.nil_append, Int.reduceLT, Int.reduceToNat, Nat.reduceSub, Nat.sub_zero, Int.reduceNeg, Int.cast_ofNat_Int, Int.reduceAdd]; exact rfl))
local macro_rules | `(tactic| walk_at "xu") => `(tactic| first
  | with_reducible refine' DL.Y.ixS0 ?_
  | with_reducible refine' DL.Y.ixS1 ?_
  | with_reducible refine' DL.Y.ixS2 ?_
  | with_reducible refine' DL.Y.ixP0 ?_
  | with_reducible refine' DL.Y.ixP1 ?_
  | with_reducible refine' DL.Y.lstS ?_
  | with_reducible refine' DL.Y.lstP ?_)
local macro_rules | `(tactic| walk_at "dec") => `(tactic| first | rfl | assumption | exact decide_eq_true (by omega) | exact decide_eq_false (by omega) | exact DL.Y.ndT (by omega) | exact DL.Y.ndF (by omega) | decide +kernel)
local macro_rules | `(tactic| walk_at "size2") => `(tactic| first | exact Nat.le_of_ble_eq_true rfl | omega)
local macro_rules | `(tactic| walk_at "x0") => `(tactic| first
  | with_reducible refine' DL.Y.cons ?_
  | ((with_reducible refine' DL.Y.var ?e ?_); (case' e => (first | exact rfl | assumption)))
  | with_reducible refine' DL.Y.c ?_
  | with_reducible refine' DL.Y.nil ?_
  | with_reducible refine' DL.Y.op ?_
  | with_reducible refine' DL.Y.oint ?_
  | ((with_reducible refine' DL.Y.ointC ?s ?_); (case' s => try walk_at "side"))
  | with_reducible refine' DL.Y.oadd ?_
  | with_reducible refine' DL.Y.oeqI ?_
  | with_reducible refine' DL.Y.oneI ?_
  | with_reducible refine' DL.Y.oeqS ?_
  | with_reducible refine' DL.Y.neS ?_
  | with_reducible refine' DL.Y.oneS ?_
  | with_reducible refine' DL.Y.oeqB ?_
  | with_reducible refine' DL.Y.tst ?_
  | with_reducible refine' DL.Y.bl_ ?_
  | ((with_reducible refine' DL.Y.iRng1_ ?z ?_); (case' z => (omega; done)))
  | with_reducible refine' DL.Y.int_ ?_
  | with_reducible refine' DL.Y.str_ ?_
  | with_reducible refine' DL.Y.ref_ ?_
  | ((with_reducible refine' DL.Y.iteT ?h ?_); (case' h => (walk_at "dec"; done)))
  | ((with_reducible refine' DL.Y.iteF ?h ?_); (case' h => (walk_at "dec"; done)))
  | with_reducible refine' DL.Y.seq ?_
  | with_reducible refine' DL.Y.set ?_
  | with_reducible refine' DL.Y.ifS ?_
  | with_reducible refine' DL.Y.ret ?_
  | with_reducible refine' DL.Y.nx ?_
  | with_reducible refine' DL.Y.drop ?_
  | with_reducible refine' DL.Y.asg ?_
  | with_reducible refine' DL.Y.par ?_
  | with_reducible refine' DL.Y.par_ ?_
  | with_reducible refine' DL.Y.par3 ?_
  | with_reducible refine' DL.Y.par3_ ?_
  | with_reducible refine' DL.Y.bk ?_
  | with_reducible refine' DL.Y.ct ?_
  | with_reducible refine' DL.Y.retN ?_
  | with_reducible refine' DL.Y.gn ?_
  | with_reducible refine' DL.Y.gnil ?_
  | with_reducible refine' DL.Y.gcons ?_
  | ((with_reducible refine' DL.Y.gseqT ?e ?_); (case' e => (rfl; done)))
  | ((with_reducible refine' DL.Y.gseqL ?e ?_); (case' e => (rfl; done)))
  | with_reducible refine' DL.Y.tup ?_
  | with_reducible refine' DL.Y.lst ?_
  | ((with_reducible refine' DL.Y.len_ ?n ?l ?_); (case' n => exact rfl); (case' l => try walk_at "size2"))
  | with_reducible refine' DL.Y.ix ?_
  | ((with_reducible refine' DL.Y.ixT ?e ?_); (case' e => ((first | rfl | assumption); done)))
  | ((with_reducible refine' DL.Y.ixL ?e ?_); (case' e => (rfl; done)))
  | ((with_reducible refine' DL.Y.ixR ?g ?e ?_); (case' g => with_reducible assumption); (case' e => (rfl; done)))
  | with_reducible refine' DL.Y.cal ?_
  | with_reducible refine' DL.Y.lenT ?_
  | with_reducible refine' DL.Y.lenL ?_
  | ((with_reducible refine' DL.Y.lenR ?g ?_); (case' g => with_reducible assumption))
  | with_reducible refine' DL.Y.absI ?_
  | with_reducible refine' DL.Y.intI ?_
  | with_reducible refine' DL.Y.intB ?_
  | with_reducible refine' DL.Y.tupT ?_
  | with_reducible refine' DL.Y.tupL ?_
  | ((with_reducible refine' DL.Y.tupR ?g ?_); (case' g => with_reducible assumption))
  | with_reducible refine' DL.Y.lstT ?_
  | with_reducible refine' DL.Y.lstL ?_
  | with_reducible refine' DL.Y.allL ?_
  | with_reducible refine' DL.Y.anyL ?_
  | ((with_reducible refine' DL.Y.oaddL ?z ?_); (case' z => try walk_at "size2"))
  | ((with_reducible refine' DL.Y.oaddT ?z ?_); (case' z => try walk_at "size2"))
  | with_reducible refine' DL.Y.oisB ?_
  | with_reducible refine' DL.Y.onotB ?_
  | with_reducible refine' DL.Y.neg ?_
  | with_reducible refine' DL.Y.notT ?_
  | with_reducible refine' DL.Y.andT ?_
  | with_reducible refine' DL.Y.orT ?_
  | with_reducible refine' DL.Y.yes ?_
  | with_reducible refine' DL.Y.ifT ?_
  | with_reducible refine' DL.Y.andV ?_
  | with_reducible refine' DL.Y.orV ?_
  | with_reducible refine' DL.Y.notV ?_
  | with_reducible refine' DL.Y.isN ?_
  | with_reducible refine' DL.Y.notN ?_
  | ((with_reducible refine' DL.Y.isi_ ?e ?_); (case' e => (rfl; done)))
  | with_reducible refine' DL.Y.isiT ?_
  | with_reducible refine' DL.Y.chain ?_
  | with_reducible refine' DL.Y.sl ?_
  | with_reducible refine' DL.Y.noP ?_
  | with_reducible refine' DL.Y.part ?_
  | ((with_reducible refine' DL.Y.slLl ?n ?e ?_); (case' n => (rfl; done)); (case' e => walk_at "cut"))
  | ((with_reducible refine' DL.Y.slTl ?n ?m ?e ?_); (case' n => (rfl; done)); (case' m => (simp [HT.sIx]; done)); (case' e => walk_at "cut"))
  | with_reducible refine' DL.Y.slL ?_
  | with_reducible refine' DL.Y.call ?_
  | with_reducible refine' DL.Y.callK ?_
  | with_reducible refine' DL.Y.callD ?_
  | with_reducible refine' DL.Y.fld ?_
  | ((with_reducible refine' DL.Y.fld_ ?f ?e ?_); (case' f => (first | rfl | assumption); done); (case' e => (rfl; done)))
  | with_reducible refine' DL.Y.isW_ ?_
  | with_reducible refine' DL.Y.inK ?_
  | with_reducible refine' DL.Y.iSeq ?_
  | with_reducible refine' DL.Y.iSeqL ?_
  | with_reducible refine' DL.Y.iSeqT ?_
  | with_reducible refine' DL.Y.iRng1 ?_
  | with_reducible refine' DL.Y.iZip ?_
  | with_reducible refine' DL.Y.iZipT ?_
  | with_reducible refine' DL.Y.iZipL ?_
  | with_reducible refine' DL.Y.iEnum ?_
  | with_reducible refine' DL.Y.iEnumT ?_
  | with_reducible refine' DL.Y.iEnumL ?_
  | with_reducible refine' DL.Y.for_ ?_
  | with_reducible refine' DL.Y.cmp ?_
  | with_reducible refine' DL.Y.isO ?_
  | ((with_reducible refine' DL.Y.isO_ (isO_exc ?c) ?_); (case' c => (decide +kernel; done)))
  | ((with_reducible refine' DL.Y.isO_ ?e ?_); (case' e => (rfl; done)))
  | ((with_reducible refine' DL.Y.isW1 ?e ?_); (case' e => (first | assumption | (rfl; done))))
  | with_reducible refine' DL.Y.xf ?_
  | ((with_reducible refine' DL.Y.xf_ ?c ?e ?_); (case' c => (decide +kernel; done)); (case' e => (first | assumption | (rfl; done))))
  | with_reducible refine' DL.Y.mk ?_
  | with_reducible refine' DL.Y.dctM ?_
  | with_reducible refine' DL.Y.dct0 ?_
  | with_reducible refine' DL.Y.lstM ?_
  | with_reducible refine' DL.Y.rev ?_
  | with_reducible refine' DL.Y.revL ?_
  | with_reducible refine' DL.Y.dget ?_
  | with_reducible refine' DL.Y.dput ?_
  | with_reducible refine' DL.Y.app ?_
  | with_reducible refine' DL.Y.gc ?_
  | with_reducible refine' DL.Y.boolB ?_
  | with_reducible refine' DL.Y.disp ?_
  | with_reducible refine' DL.Y.valsC ?_
  | with_reducible refine' DL.Y.valsN ?_
  | with_reducible refine' DL.Y.ownEq ?_
  | with_reducible refine' DL.Y.cmp2 ?_
  | with_reducible refine' DL.Y.star ?_
  | with_reducible refine' DL.Y.meth ?_
  | with_reducible refine' DL.Y.index ?_
  | ((with_reducible refine' DL.Y.fld_ ?f ?e ?_); (case' f => ((first | rfl | assumption | decide +kernel); done)); (case' e => (rfl; done)))
  | with_reducible refine' DL.Y.chLe ?_
  | with_reducible refine' DL.Y.chLt ?_
  | with_reducible refine' DL.Y.setF ?_
  | with_reducible refine' DL.Y.lenSet ?_
  | with_reducible refine' DL.Y.inL ?_
  | with_reducible refine' DL.Y.inD ?_
  | with_reducible refine' DL.Y.inD_ ?_
  | with_reducible refine' DL.Y.ixD ?_
  | ((with_reducible refine' DL.Y.mulS ?h ?_); (case' h => (exact ⟨by omega, by omega, by decide⟩)))
  | ((with_reducible refine' DL.Y.mulL ?h ?_); (case' h => (exact ⟨by simp only [List.length_cons, List.length_nil]; omega, by omega, by omega⟩)))
  | walk_at "xu"
  | walk_at "norm")
local macro_rules | `(tactic| walk_at "norm") => `(tactic| (dsimp only [List.set]))
local macro_rules | `(tactic| walk_at "x") => `(tactic| first | walk_at "x0" | with_reducible refine' DL.Y.ifE ?_)
local macro_rules | `(tactic| walk_at "xs") => `(tactic| repeat walk_at "x0")
local macro_rules | `(tactic| walk_at "xx") => `(tactic| repeat walk_at "x")
local macro_rules | `(tactic| walk_at "start") => `(tactic| dsimp only [List.map, List.length_cons, List.length_nil, List.cons_append, List.nil_append, Nat.zero_add, Nat.reduceAdd, Nat.reduceSub, List.reduceReplicate])
namespace DL
open PySem PySem.Spec PyProof.Rows L2 Evl Sup
variable [TabC]
section
variable {X : Cx} {B : Bs} {o e : Expr} {dobj de : DE} {pos p : Pos}
end
namespace Y
end Y
end DL
end
section
open PySem PySem.Spec PyProof.Rows L2 Evl DL
local macro_rules | `(tactic| walk_at "side") => `(tactic| first | exact mul_left (by decide) | exact mul_right (by decide) | exact mul_bd | exact div_bd (by first | assumption | decide | omega) | exact pow_bd (by first | decide | omega) (by first | decide | omega) | assumption | (show (0 : Int) < _; first | decide | omega))
local macro_rules | `(tactic| walk_at "eva") => `(tactic| first | exact DL.EvA.nil | (refine' DL.EvA.cons ?e ?r; (case' e => walk_at "ev"); (case' r => walk_at "eva")))
local macro_rules | `(tactic| walk_at "seq") => `(tactic| first | exact seq_tup | exact seq_lst | exact seq_ref (by assumption))
local macro_rules | `(tactic| walk_at "size") => `(tactic| first | (show _ ≤ sizeLine; simp only [List.length_cons, List.length_nil]; decide) | (rw [sizeLine_eq]; omega))
local macro_rules | `(tactic| walk_at "ev") => `(tactic| first
  | exact DL.Ev.c
  | exact DL.Ev.var rfl
  | (refine' DL.Ev.int ?a ?b; (case' a => walk_at "ev"); (case' b => walk_at "ev"))
  | (refine' DL.Ev.intC ?a ?b ?s; (case' a => walk_at "ev"); (case' b => walk_at "ev"); (case' s => try walk_at "side"))
  | (refine' DL.Ev.add ?a ?b; (case' a => walk_at "ev"); (case' b => walk_at "ev"))
  | (refine' DL.Ev.neg ?a; (case' a => walk_at "ev"))
  | (refine' DL.Ev.intOf ?a; (case' a => walk_at "ev"))
  | (refine' DL.Ev.intB ?a; (case' a => walk_at "ev"))
  | (refine' DL.Ev.absN ?a; (case' a => walk_at "ev"))
  | (refine' DL.Ev.eqI ?a ?b; (case' a => walk_at "ev"); (case' b => walk_at "ev"))
  | (refine' DL.Ev.neI ?a ?b; (case' a => walk_at "ev"); (case' b => walk_at "ev"))
  | (refine' DL.Ev.at ?a ?b ?s ?k; (case' a => walk_at "ev"); (case' b => walk_at "ev"); (case' s => walk_at "seq"); (case' k => try rfl))
  | (refine' DL.Ev.len ?a ?s; (case' a => walk_at "ev"); (case' s => walk_at "seq"))
  | (refine' DL.Ev.tupOf ?a ?s; (case' a => walk_at "ev"); (case' s => walk_at "seq"))
  | (refine' DL.Ev.tup ?a ?z; (case' a => walk_at "eva"); (case' z => try walk_at "size"))
  | (refine' DL.Ev.lst ?a ?z; (case' a => walk_at "eva"); (case' z => try walk_at "size"))
  | (refine' DL.Ev.notV ?a; (case' a => walk_at "ev"))
  | (refine' DL.Ev.isN ?a; (case' a => walk_at "ev"))
  | exact fun R r => r
  | assumption)
local macro_rules | `(tactic| walk_at "set") => `(tactic| (refine' ds_set ?e ?_; (case' e => walk_at "ev")))
local macro_rules | `(tactic| walk_at "ret") => `(tactic| (refine' ds_ret ?e ?_; (case' e => walk_at "ev")))
local macro_rules | `(tactic| walk_at "par") => `(tactic| (refine' ds_par ?e ?f ?_; (case' e => walk_at "ev"); (case' f => walk_at "ev")))
local macro_rules | `(tactic| walk_at "cut") => `(tactic| (simp only [DL.cutD, HT.sIx, List.length_cons, List.length_nil, Nat.zero_add, Nat.reduceAdd, Nat.min_def, Nat.reduceLeDiff, ↓reduceIte, List.drop_zero, List.drop_succ_cons, List.take_zero, List.take_succ_cons, List.take_nil, List.drop_nil, List.cons_append, List.nil_append, Int.reduceLT, Int.reduceToNat, Nat.reduceSub, Nat.sub_zero, Int.reduceNeg, Int.cast_ofNat_Int, Int.reduceAdd]; exact rfl))
local macro_rules | `(tactic| walk_at "xu") => `(tactic| first
  | with_reducible refine' DL.Y.ixS0 ?_
  | with_reducible refine' DL.Y.ixS1 ?_
  | with_reducible refine' DL.Y.ixS2 ?_
  | with_reducible refine' DL.Y.ixP0 ?_
  | with_reducible refine' DL.Y.ixP1 ?_
  | with_reducible refine' DL.Y.lstS ?_
  | with_reducible refine' DL.Y.lstP ?_)
local macro_rules | `(tactic| walk_at "dec") => `(tactic| first | rfl | assumption | exact decide_eq_true (by omega) | exact decide_eq_false (by omega) | exact DL.Y.ndT (by omega) | exact DL.Y.ndF (by omega) | decide +kernel)
local macro_rules | `(tactic| walk_at "size2") => `(tactic| first | exact Nat.le_of_ble_eq_true rfl | omega)
local macro_rules | `(tactic| walk_at "x0") => `(tactic| first
  | with_reducible refine' DL.Y.cons ?_
  | ((with_reducible refine' DL.Y.var ?e ?_); (case' e => (first | exact rfl | assumption)))
  | with_reducible refine' DL.Y.c ?_
  | with_reducible refine' DL.Y.nil ?_
  | with_reducible refine' DL.Y.op ?_
  | with_reducible refine' DL.Y.oint ?_
  | ((with_reducible refine' DL.Y.ointC ?s ?_); (case' s => try walk_at "side"))
  | with_reducible refine' DL.Y.oadd ?_
  | with_reducible refine' DL.Y.oeqI ?_
  | with_reducible refine' DL.Y.oneI ?_
  | with_reducible refine' DL.Y.oeqS ?_
  | with_reducible refine' DL.Y.neS ?_
  | with_reducible refine' DL.Y.oneS ?_
  | with_reducible refine' DL.Y.oeqB ?_
  | with_reducible refine' DL.Y.tst ?_
  | with_reducible refine' DL.Y.bl_ ?_
  | ((with_reducible refine' DL.Y.iRng1_ ?z ?_); (case' z => (omega; done)))
  | with_reducible refine' DL.Y.int_ ?_
  | with_reducible refine' DL.Y.str_ ?_
  | with_reducible refine' DL.Y.ref_ ?_
  | ((with_reducible refine' DL.Y.iteT ?h ?_); (case' h => (walk_at "dec"; done)))
  | ((with_reducible refine' DL.Y.iteF ?h ?_); (case' h => (walk_at "dec"; done)))
  | with_reducible refine' DL.Y.seq ?_
  | with_reducible refine' DL.Y.set ?_
  | with_reducible refine' DL.Y.ifS ?_
  | with_reducible refine' DL.Y.ret ?_
  | with_reducible refine' DL.Y.nx ?_
  | with_reducible refine' DL.Y.drop ?_
  | with_reducible refine' DL.Y.asg ?_
  | with_reducible refine' DL.Y.par ?_
  | with_reducible refine' DL.Y.par_ ?_
  | with_reducible refine' DL.Y.par3 ?_
  | with_reducible refine' DL.Y.par3_ ?_
  | with_reducible refine' DL.Y.bk ?_
  | with_reducible refine' DL.Y.ct ?_
  | with_reducible refine' DL.Y.retN ?_
  | with_reducible refine' DL.Y.gn ?_
  | with_reducible refine' DL.Y.gnil ?_
  | with_reducible refine' DL.Y.gcons ?_
  | ((with_reducible refine' DL.Y.gseqT ?e ?_); (case' e => (rfl; done)))
  | ((with_reducible refine' DL.Y.gseqL ?e ?_); (case' e => (rfl; done)))
  | with_reducible refine' DL.Y.tup ?_
  | with_reducible refine' DL.Y.lst ?_
  | ((with_reducible refine' DL.Y.len_ ?n ?l ?_); (case' n => exact rfl); (case' l => try walk_at "size2"))
  | with_reducible refine' DL.Y.ix ?_
  | ((with_reducible refine' DL.Y.ixT ?e ?_); (case' e => ((first | rfl | assumption); done)))
  | ((with_reducible refine' DL.Y.ixL ?e ?_); (case' e => (rfl; done)))
  | ((with_reducible refine' DL.Y.ixR ?g ?e ?_); (case' g => with_reducible assumption); (case' e => (rfl; done)))
  | with_reducible refine' DL.Y.cal ?_
  | with_reducible refine' DL.Y.lenT ?_
  | with_reducible refine' DL.Y.lenL ?_
  | ((with_reducible refine' DL.Y.lenR ?g ?_); (case' g => with_reducible assumption))
  | with_reducible refine' DL.Y.absI ?_
  | with_reducible refine' DL.Y.intI ?_
  | with_reducible refine' DL.Y.intB ?_
  | with_reducible refine' DL.Y.tupT ?_
  | with_reducible refine' DL.Y.tupL ?_
  | ((with_reducible refine' DL.Y.tupR ?g ?_); (case' g => with_reducible assumption))
  | with_reducible refine' DL.Y.lstT ?_
  | with_reducible refine' DL.Y.lstL ?_
  | with_reducible refine' DL.Y.allL ?_
  | with_reducible refine' DL.Y.anyL ?_
  | ((with_reducible refine' DL.Y.oaddL ?z ?_); (case' z => try walk_at "size2"))
  | ((with_reducible refine' DL.Y.oaddT ?z ?_); (case' z => try walk_at "size2"))
  | with_reducible refine' DL.Y.oisB ?_
  | with_reducible refine' DL.Y.onotB ?_
  | with_reducible refine' DL.Y.neg ?_
  | with_reducible refine' DL.Y.notT ?_
  | with_reducible refine' DL.Y.andT ?_
  | with_reducible refine' DL.Y.orT ?_
  | with_reducible refine' DL.Y.yes ?_
  | with_reducible refine' DL.Y.ifT ?_
  | with_reducible refine' DL.Y.andV ?_
  | with_reducible refine' DL.Y.orV ?_
  | with_reducible refine' DL.Y.notV ?_
  | with_reducible refine' DL.Y.isN ?_
  | with_reducible refine' DL.Y.notN ?_
  | ((with_reducible refine' DL.Y.isi_ ?e ?_); (case' e => (rfl; done)))
  | with_reducible refine' DL.Y.isiT ?_
  | with_reducible refine' DL.Y.chain ?_
  | with_reducible refine' DL.Y.sl ?_
  | with_reducible refine' DL.Y.noP ?_
  | with_reducible refine' DL.Y.part ?_
  | ((with_reducible refine' DL.Y.slLl ?n ?e ?_); (case' n => (rfl; done)); (case' e => walk_at "cut"))
  | ((with_reducible refine' DL.Y.slTl ?n ?m ?e ?_); (case' n => (rfl; done)); (case' m => (simp [HT.sIx]; done)); (case' e => walk_at "cut"))
  | with_reducible refine' DL.Y.slL ?_
  | with_reducible refine' DL.Y.call ?_
  | with_reducible refine' DL.Y.callK ?_
  | with_reducible refine' DL.Y.callD ?_
  | with_reducible refine' DL.Y.fld ?_
  | ((with_reducible refine' DL.Y.fld_ ?f ?e ?_); (case' f => (first | rfl | assumption); done); (case' e => (rfl; done)))
  | with_reducible refine' DL.Y.isW_ ?_
  | with_reducible refine' DL.Y.inK ?_
  | with_reducible refine' DL.Y.iSeq ?_
  | with_reducible refine' DL.Y.iSeqL ?_
  | with_reducible refine' DL.Y.iSeqT ?_
  | with_reducible refine' DL.Y.iRng1 ?_
  | with_reducible refine' DL.Y.iZip ?_
  | with_reducible refine' DL.Y.iZipT ?_
  | with_reducible refine' DL.Y.iZipL ?_
  | with_reducible refine' DL.Y.iEnum ?_
  | with_reducible refine' DL.Y.iEnumT ?_
  | with_reducible refine' DL.Y.iEnumL ?_
  | with_reducible refine' DL.Y.for_ ?_
  | with_reducible refine' DL.Y.cmp ?_
  | with_reducible refine' DL.Y.isO ?_
  | ((with_reducible refine' DL.Y.isO_ (isO_exc ?c) ?_); (case' c => (decide +kernel; done)))
  | ((with_reducible refine' DL.Y.isO_ ?e ?_); (case' e => (rfl; done)))
  | ((with_reducible refine' DL.Y.isW1 ?e ?_); (case' e => (first | assumption | (rfl; done))))
  | with_reducible refine' DL.Y.xf ?_
  | ((with_reducible refine' DL.Y.xf_ ?c ?e ?_); (case' c => (decide +kernel; done)); (case' e => (first | assumption | (rfl; done))))
  | with_reducible refine' DL.Y.mk ?_
  | with_reducible refine' DL.Y.dctM ?_
  | with_reducible refine' DL.Y.dct0 ?_
  | with_reducible refine' DL.Y.lstM ?_
  | with_reducible refine' DL.Y.rev ?_
  | with_reducible refine' DL.Y.revL ?_
  | with_reducible refine' DL.Y.dget ?_
  | with_reducible refine' DL.Y.dput ?_
  | with_reducible refine' DL.Y.app ?_
  | with_reducible refine' DL.Y.gc ?_
  | with_reducible refine' DL.Y.boolB ?_
  | with_reducible refine' DL.Y.disp ?_
  | with_reducible refine' DL.Y.valsC ?_
  | with_reducible refine' DL.Y.valsN ?_
  | with_reducible refine' DL.Y.ownEq ?_
  | with_reducible refine' DL.Y.cmp2 ?_
  | with_reducible refine' DL.Y.star ?_
  | with_reducible refine' DL.Y.meth ?_
  | with_reducible refine' DL.Y.index ?_
  | ((with_reducible refine' DL.Y.fld_ ?f ?e ?_); (case' f => ((first | rfl | assumption | decide +kernel); done)); (case' e => (rfl; done)))
  | with_reducible refine' DL.Y.chLe ?_
  | with_reducible refine' DL.Y.chLt ?_
  | with_reducible refine' DL.Y.setF ?_
  | with_reducible refine' DL.Y.lenSet ?_
  | with_reducible refine' DL.Y.inL ?_
  | with_reducible refine' DL.Y.inD ?_
  | with_reducible refine' DL.Y.inD_ ?_
  | with_reducible refine' DL.Y.ixD ?_
  | ((with_reducible refine' DL.Y.mulS ?h ?_); (case' h => (exact ⟨by omega, by omega, by decide⟩)))
  | ((with_reducible refine' DL.Y.mulL ?h ?_); (case' h => (exact ⟨by simp only [List.length_cons, List.length_nil]; omega, by omega, by omega⟩)))
  | walk_at "xu"
  | walk_at "norm")
local macro_rules | `(tactic| walk_at "norm") => `(tactic| (dsimp only [List.set]))
local macro_rules | `(tactic| walk_at "x") => `(tactic| first | walk_at "x0" | with_reducible refine' DL.Y.ifE ?_)
local macro_rules | `(tactic| walk_at "xs") => `(tactic| repeat walk_at "x0")
local macro_rules | `(tactic| walk_at "xx") => `(tactic| repeat walk_at "x")
local macro_rules | `(tactic| walk_at "start") => `(tactic| dsimp only [List.map, List.length_cons, List.length_nil, List.cons_append, List.nil_append, Nat.zero_add, Nat.reduceAdd, Nat.reduceSub, List.reduceReplicate])
namespace DL
open PySem PySem.Spec PyProof.Rows L2 Evl Sup
variable [TabC]
end DL
namespace DL
open PySem PySem.Spec PyProof.Rows L2 Evl Sup
variable [TabC]
end DL
namespace DL
open PySem PySem.Spec PyProof.Rows L2 Evl Sup
variable [TabC]
end DL
namespace DL
open PySem PySem.Spec PyProof.Rows L2 Evl Sup
variable [TabC]
end DL
namespace DL
open PySem PySem.Spec PyProof.Rows L2 Evl Sup
variable [TabC]
end DL
namespace MZ
open PySem PySem.Spec PyProof.Rows L2
open PySem.Sem (wp)
section
variable {prog : Program} {w : World} {A : Around} {E : Value → Shared → Prop} {s : Shared}
end
end MZ
namespace DL
open PySem PySem.Spec PyProof.Rows L2 Evl Sup
variable [TabC]
end DL
namespace MZ
open PySem PySem.Spec PyProof.Rows L2
open PySem.Sem (wp)
section
variable {prog : Program} {w : World} {A : Around} {E : Value → Shared → Prop} {s : Shared}
end
end MZ
namespace DL
open PySem PySem.Spec PyProof.Rows L2 Evl Sup
variable [TabC]
namespace Y
end Y
end DL
end
section
open PySem PySem.Spec PyProof.Rows L2 Evl DL
local macro_rules | `(tactic| walk_at "side") => `(tactic| first | exact mul_left (by decide) | exact mul_right (by decide) | exact mul_bd | exact div_bd (by first | assumption | decide | omega) | exact pow_bd (by first | decide | omega) (by first | decide | omega) | assumption | (show (0 : Int) < _; first | decide | omega))
local macro_rules | `(tactic| walk_at "eva") => `(tactic| first | exact DL.EvA.nil | (refine' DL.EvA.cons ?e ?r; (case' e => walk_at "ev"); (case' r => walk_at "eva")))
local macro_rules | `(tactic| walk_at "seq") => `(tactic| first | exact seq_tup | exact seq_lst | exact seq_ref (by assumption))
local macro_rules | `(tactic| walk_at "size") => `(tactic| first | (show _ ≤ sizeLine; simp only [List.length_cons, List.length_nil]; decide) | (rw [sizeLine_eq]; omega))
local macro_rules | `(tactic| walk_at "ev") => `(tactic| first
  | exact DL.Ev.c
  | exact DL.Ev.var rfl
  | (refine' DL.Ev.int ?a ?b; (case' a => walk_at "ev"); (case' b => walk_at "ev"))
  | (refine' DL.Ev.intC ?a ?b ?s; (case' a => walk_at "ev"); (case' b => walk_at "ev"); (case' s => try walk_at "side"))
  | (refine' DL.Ev.add ?a ?b; (case' a => walk_at "ev"); (case' b => walk_at "ev"))
  | (refine' DL.Ev.neg ?a; (case' a => walk_at "ev"))
  | (refine' DL.Ev.intOf ?a; (case' a => walk_at "ev"))
  | (refine' DL.Ev.intB ?a; (case' a => walk_at "ev"))
  | (refine' DL.Ev.absN ?a; (case' a => walk_at "ev"))
  | (refine' DL.Ev.eqI ?a ?b; (case' a => walk_at "ev"); (case' b => walk_at "ev"))
  | (refine' DL.Ev.neI ?a ?b; (case' a => walk_at "ev"); (case' b => walk_at "ev"))
  | (refine' DL.Ev.at ?a ?b ?s ?k; (case' a => walk_at "ev"); (case' b => walk_at "ev"); (case' s => walk_at "seq"); (case' k => try rfl))
  | (refine' DL.Ev.len ?a ?s; (case' a => walk_at "ev"); (case' s => walk_at "seq"))
  | (refine' DL.Ev.tupOf ?a ?s; (case' a => walk_at "ev"); (case' s => walk_at "seq"))
  | (refine' DL.Ev.tup ?a ?z; (case' a => walk_at "eva"); (case' z => try walk_at "size"))
  | (refine' DL.Ev.lst ?a ?z; (case' a => walk_at "eva"); (case' z => try walk_at "size"))
  | (refine' DL.Ev.notV ?a; (case' a => walk_at "ev"))
  | (refine' DL.Ev.isN ?a; (case' a => walk_at "ev"))
  | exact fun R r => r
  | assumption)
local macro_rules | `(tactic| walk_at "set") => `(tactic| (refine' ds_set ?e ?_; (case' e => walk_at "ev")))
local macro_rules | `(tactic| walk_at "ret") => `(tactic| (refine' ds_ret ?e ?_; (case' e => walk_at "ev")))
local macro_rules | `(tactic| walk_at "par") => `(tactic| (refine' ds_par ?e ?f ?_; (case' e => walk_at "ev"); (case' f => walk_at "ev")))
local macro_rules | `(tactic| walk_at "cut") => `(tactic| (simp only [DL.cutD, HT.sIx, List.length_cons, List.length_nil, Nat.zero_add, Nat.reduceAdd, Nat.min_def, Nat.reduceLeDiff, ↓reduceIte, List.drop_zero, List.drop_succ_cons, List.take_zero, List.take_succ_cons, List.take_nil, List.drop_nil, List.cons_append, List.nil_append, Int.reduceLT, Int.reduceToNat, Nat.reduceSub, Nat.sub_zero, Int.reduceNeg, Int.cast_ofNat_Int, Int.reduceAdd]; exact rfl))
local macro_rules | `(tactic| walk_at "xu") => `(tactic| first
  | with_reducible refine' DL.Y.ixS0 ?_
  | with_reducible refine' DL.Y.ixS1 ?_
  | with_reducible refine' DL.Y.ixS2 ?_
  | with_reducible refine' DL.Y.ixP0 ?_
  | with_reducible refine' DL.Y.ixP1 ?_
  | with_reducible refine' DL.Y.lstS ?_
  | with_reducible refine' DL.Y.lstP ?_)
local macro_rules | `(tactic| walk_at "dec") => `(tactic| first | rfl | assumption | exact decide_eq_true (by omega) | exact decide_eq_false (by omega) | exact DL.Y.ndT (by omega) | exact DL.Y.ndF (by omega) | decide +kernel)
local macro_rules | `(tactic| walk_at "size2") => `(tactic| first | exact Nat.le_of_ble_eq_true rfl | omega)
local macro_rules | `(tactic| walk_at "x0") => `(tactic| first
  | with_reducible refine' DL.Y.cons ?_
  | ((with_reducible refine' DL.Y.var ?e ?_); (case' e => (first | exact rfl | assumption)))
  | with_reducible refine' DL.Y.c ?_
  | with_reducible refine' DL.Y.nil ?_
  | with_reducible refine' DL.Y.op ?_
  | with_reducible refine' DL.Y.oint ?_
  | ((with_reducible refine' DL.Y.ointC ?s ?_); (case' s => try walk_at "side"))
  | with_reducible refine' DL.Y.oadd ?_
  | with_reducible refine' DL.Y.oeqI ?_
  | with_reducible refine' DL.Y.oneI ?_
  | with_reducible refine' DL.Y.oeqS ?_
  | with_reducible refine' DL.Y.neS ?_
  | with_reducible refine' DL.Y.oneS ?_
  | with_reducible refine' DL.Y.oeqB ?_
  | with_reducible refine' DL.Y.tst ?_
  | with_reducible refine' DL.Y.bl_ ?_
  | ((with_reducible refine' DL.Y.iRng1_ ?z ?_); (case' z => (omega; done)))
  | with_reducible refine' DL.Y.int_ ?_
  | with_reducible refine' DL.Y.str_ ?_
  | with_reducible refine' DL.Y.ref_ ?_
  | ((with_reducible refine' DL.Y.iteT ?h ?_); (case' h => (walk_at "dec"; done)))
  | ((with_reducible refine' DL.Y.iteF ?h ?_); (case' h => (walk_at "dec"; done)))
  | with_reducible refine' DL.Y.seq ?_
  | with_reducible refine' DL.Y.set ?_
  | with_reducible refine' DL.Y.ifS ?_
  | with_reducible refine' DL.Y.ret ?_
  | with_reducible refine' DL.Y.nx ?_
  | with_reducible refine' DL.Y.drop ?_
  | with_reducible refine' DL.Y.asg ?_
  | with_reducible refine' DL.Y.par ?_
  | with_reducible refine' DL.Y.par_ ?_
  | with_reducible refine' DL.Y.par3 ?_
  | with_reducible refine' DL.Y.par3_ ?_
  | with_reducible refine' DL.Y.bk ?_
  | with_reducible refine' DL.Y.ct ?_
  | with_reducible refine' DL.Y.retN ?_
  | with_reducible refine' DL.Y.gn ?_
  | with_reducible refine' DL.Y.gnil ?_
  | with_reducible refine' DL.Y.gcons ?_
  | ((with_reducible refine' DL.Y.gseqT ?e ?_); (case' e => (rfl; done)))
  | ((with_reducible refine' DL.Y.gseqL ?e ?_); (case' e => (rfl; done)))
  | with_reducible refine' DL.Y.tup ?_
  | with_reducible refine' DL.Y.lst ?_
  | ((with_reducible refine' DL.Y.len_ ?n ?l ?_); (case' n => exact rfl); (case' l => try walk_at "size2"))
  | with_reducible refine' DL.Y.ix ?_
  | ((with_reducible refine' DL.Y.ixT ?e ?_); (case' e => ((first | rfl | assumption); done)))
  | ((with_reducible refine' DL.Y.ixL ?e ?_); (case' e => (rfl; done)))
  | ((with_reducible refine' DL.Y.ixR ?g ?e ?_); (case' g => with_reducible assumption); (case' e => (rfl; done)))
  | with_reducible refine' DL.Y.cal ?_
  | with_reducible refine' DL.Y.lenT ?_
  | with_reducible refine' DL.Y.lenL ?_
  | ((with_reducible refine' DL.Y.lenR ?g ?_); (case' g => with_reducible assumption))
  | with_reducible refine' DL.Y.absI ?_
  | with_reducible refine' DL.Y.intI ?_
  | with_reducible refine' DL.Y.intB ?_
  | with_reducible refine' DL.Y.tupT ?_
  | with_reducible refine' DL.Y.tupL ?_
  | ((with_reducible refine' DL.Y.tupR ?g ?_); (case' g => with_reducible assumption))
  | with_reducible refine' DL.Y.lstT ?_
  | with_reducible refine' DL.Y.lstL ?_
  | with_reducible refine' DL.Y.allL ?_
  | with_reducible refine' DL.Y.anyL ?_
  | ((with_reducible refine' DL.Y.oaddL ?z ?_); (case' z => try walk_at "size2"))
  | ((with_reducible refine' DL.Y.oaddT ?z ?_); (case' z => try walk_at "size2"))
  | with_reducible refine' DL.Y.oisB ?_
  | with_reducible refine' DL.Y.onotB ?_
  | with_reducible refine' DL.Y.neg ?_
  | with_reducible refine' DL.Y.notT ?_
  | with_reducible refine' DL.Y.andT ?_
  | with_reducible refine' DL.Y.orT ?_
  | with_reducible refine' DL.Y.yes ?_
  | with_reducible refine' DL.Y.ifT ?_
  | with_reducible refine' DL.Y.andV ?_
  | with_reducible refine' DL.Y.orV ?_
  | with_reducible refine' DL.Y.notV ?_
  | with_reducible refine' DL.Y.isN ?_
  | with_reducible refine' DL.Y.notN ?_
  | ((with_reducible refine' DL.Y.isi_ ?e ?_); (case' e => (rfl; done)))
  | with_reducible refine' DL.Y.isiT ?_
  | with_reducible refine' DL.Y.chain ?_
  | with_reducible refine' DL.Y.sl ?_
  | with_reducible refine' DL.Y.noP ?_
  | with_reducible refine' DL.Y.part ?_
  | ((with_reducible refine' DL.Y.slLl ?n ?e ?_); (case' n => (rfl; done)); (case' e => walk_at "cut"))
  | ((with_reducible refine' DL.Y.slTl ?n ?m ?e ?_); (case' n => (rfl; done)); (case' m => (simp [HT.sIx]; done)); (case' e => walk_at "cut"))
  | with_reducible refine' DL.Y.slL ?_
  | with_reducible refine' DL.Y.call ?_
  | with_reducible refine' DL.Y.callK ?_
  | with_reducible refine' DL.Y.callD ?_
  | with_reducible refine' DL.Y.fld ?_
  | ((with_reducible refine' DL.Y.fld_ ?f ?e ?_); (case' f => (first | rfl | assumption); done); (case' e => (rfl; done)))
  | with_reducible refine' DL.Y.isW_ ?_
  | with_reducible refine' DL.Y.inK ?_
  | with_reducible refine' DL.Y.iSeq ?_
  | with_reducible refine' DL.Y.iSeqL ?_
  | with_reducible refine' DL.Y.iSeqT ?_
  | with_reducible refine' DL.Y.iRng1 ?_
  | with_reducible refine' DL.Y.iZip ?_
  | with_reducible refine' DL.Y.iZipT ?_
  | with_reducible refine' DL.Y.iZipL ?_
  | with_reducible refine' DL.Y.iZipR ?_
  | with_reducible refine' DL.Y.iZipM ?_
  | with_reducible refine' DL.Y.iEnum ?_
  | with_reducible refine' DL.Y.iEnumT ?_
  | with_reducible refine' DL.Y.iEnumL ?_
  | with_reducible refine' DL.Y.for_ ?_
  | with_reducible refine' DL.Y.cmp ?_
  | with_reducible refine' DL.Y.isO ?_
  | ((with_reducible refine' DL.Y.isO_ (isO_exc ?c) ?_); (case' c => (decide +kernel; done)))
  | ((with_reducible refine' DL.Y.isO_ ?e ?_); (case' e => (rfl; done)))
  | ((with_reducible refine' DL.Y.isW1 ?e ?_); (case' e => (first | assumption | (rfl; done))))
  | with_reducible refine' DL.Y.xf ?_
  | ((with_reducible refine' DL.Y.xf_ ?c ?e ?_); (case' c => (decide +kernel; done)); (case' e => (first | assumption | (rfl; done))))
  | with_reducible refine' DL.Y.mk ?_
  | with_reducible refine' DL.Y.dctM ?_
  | with_reducible refine' DL.Y.dct0 ?_
  | with_reducible refine' DL.Y.lstM ?_
  | with_reducible refine' DL.Y.rev ?_
  | with_reducible refine' DL.Y.revL ?_
  | with_reducible refine' DL.Y.dget ?_
  | with_reducible refine' DL.Y.dput ?_
  | with_reducible refine' DL.Y.app ?_
  | with_reducible refine' DL.Y.gc ?_
  | with_reducible refine' DL.Y.boolB ?_
  | with_reducible refine' DL.Y.disp ?_
  | with_reducible refine' DL.Y.valsC ?_
  | with_reducible refine' DL.Y.valsN ?_
  | with_reducible refine' DL.Y.ownEq ?_
  | with_reducible refine' DL.Y.cmp2 ?_
  | with_reducible refine' DL.Y.star ?_
  | with_reducible refine' DL.Y.meth ?_
  | with_reducible refine' DL.Y.index ?_
  | ((with_reducible refine' DL.Y.fld_ ?f ?e ?_); (case' f => ((first | rfl | assumption | decide +kernel); done)); (case' e => (rfl; done)))
  | with_reducible refine' DL.Y.chLe ?_
  | with_reducible refine' DL.Y.chLt ?_
  | with_reducible refine' DL.Y.setF ?_
  | with_reducible refine' DL.Y.lenSet ?_
  | with_reducible refine' DL.Y.inL ?_
  | with_reducible refine' DL.Y.inD ?_
  | with_reducible refine' DL.Y.inD_ ?_
  | with_reducible refine' DL.Y.ixD ?_
  | ((with_reducible refine' DL.Y.mulS ?h ?_); (case' h => (exact ⟨by omega, by omega, by decide⟩)))
  | ((with_reducible refine' DL.Y.mulL ?h ?_); (case' h => (exact ⟨by simp only [List.length_cons, List.length_nil]; omega, by omega, by omega⟩)))
  | walk_at "xu"
  | walk_at "norm")
local macro_rules | `(tactic| walk_at "norm") => `(tactic| (dsimp only [List.set]))
local macro_rules | `(tactic| walk_at "x") => `(tactic| first | walk_at "x0" | with_reducible refine' DL.Y.ifE ?_)
local macro_rules | `(tactic| walk_at "xs") => `(tactic| repeat walk_at "x0")
local macro_rules | `(tactic| walk_at "xx") => `(tactic| repeat walk_at "x")
local macro_rules | `(tactic| walk_at "start") => `(tactic| dsimp only [List.map, List.length_cons, List.length_nil, List.cons_append, List.nil_append, Nat.zero_add, Nat.reduceAdd, Nat.reduceSub, List.reduceReplicate])
namespace DL
open PySem PySem.Spec PyProof.Rows L2 Evl Sup
variable [TabC]
end DL
namespace DL
open PySem PySem.Spec PyProof.Rows L2 Evl Sup
variable [TabC]
end DL
namespace DL
open PySem PySem.Spec PyProof.Rows L2 Evl Sup
variable [TabC]
end DL
namespace DL
open PySem PySem.Spec PyProof.Rows L2 Evl Sup
variable [TabC]
end DL
namespace DL
open PySem PySem.Spec PyProof.Rows L2 Evl Sup
variable [TabC]
end DL
namespace DL
open PySem PySem.Spec PyProof.Rows L2 Evl Sup
variable [TabC]
end DL
namespace DL
open PySem PySem.Spec PyProof.Rows L2 Evl Sup
variable [TabC]
end DL
namespace DL
open PySem PySem.Spec PyProof.Rows L2 Evl Sup
variable [TabC]
end DL
namespace DL
open PySem PySem.Spec PyProof.Rows L2 Evl Sup
variable [TabC]
theorem numD_ofQ (q : Qr) : numD (ofQ q) = true := by
  unfold ofQ pairZ
  split
  · rfl
  · have hd := q.den_pos
    have hc := q.reduced
    have g : Int.gcd q.num (q.den : Int) = 1 := hc
    show ratD (some (q.num, (q.den : Int))) = true
    simp only [ratD, g]
    simp
    omega
end DL
namespace DL
open PySem PySem.Spec PyProof.Rows L2 Evl Sup
variable [TabC]
end DL
namespace DL
open PySem PySem.Spec PyProof.Rows L2 Evl Sup
variable [TabC]
end DL
namespace DL
open PySem PySem.Spec PyProof.Rows L2 Evl Sup
variable [TabC]
end DL
namespace DL
open PySem PySem.Spec PyProof.Rows L2 Evl Sup
variable [TabC]
end DL
namespace DL
open PySem PySem.Spec PyProof.Rows L2 Evl Sup
variable [TabC]
end DL
namespace DL
open PySem PySem.Spec PyProof.Rows L2 Evl Sup
variable [TabC]
end DL
namespace DL
open PySem PySem.Spec PyProof.Rows L2 Evl Sup
variable [TabC]
end DL
namespace DL
open PySem PySem.Spec PyProof.Rows L2 Evl Sup
variable [TabC]
end DL
namespace DL
open PySem PySem.Spec PyProof.Rows L2 Evl Sup
variable [TabC]
end DL
end
namespace BackT
open PySem PySem.Spec PyProof.Rows L2
section
variable {prog : Program} {w : World} {A : Around} {E : Value → Shared → Prop} {s : Shared}
end
end BackT
namespace L2
open PySem PySem.Spec PyProof.Rows
section
variable {X : Cx} {e : Expr} {te : TE} {lo hi : Option Expr} {tl th : TO} {pos p2 : Pos}
end
end L2
namespace L2
open PySem PySem.Spec PyProof.Rows
section
variable {X : Cx} {tg : Expr}
end
end L2
namespace DL
open PySem PySem.Spec PyProof.Rows L2 Evl
variable [TabC]
section
variable {X : Cx} {B : Bs} {e a b : Expr} {pos p2 p : Pos} {da db : DE} {tg : Expr}
end
namespace Y
section
variable {ρ : En} {G : Gm} {da : DE} {R : KD} {l h : DO}
end
end Y
end DL
namespace DL
open PySem PySem.Spec PyProof.Rows L2 Evl Sup
variable [TabC]
end DL
section
open PySem PySem.Spec PyProof.Rows L2 Evl DL
local macro_rules | `(tactic| walk_at "side") => `(tactic| first | exact mul_left (by decide) | exact mul_right (by decide) | exact mul_bd | exact div_bd (by first | assumption | decide | omega) | exact pow_bd (by first | decide | omega) (by first | decide | omega) | assumption | (show (0 : Int) < _; first | decide | omega))
local macro_rules | `(tactic| walk_at "eva") => `(tactic| first | exact DL.EvA.nil | (refine' DL.EvA.cons ?e ?r; (case' e => walk_at "ev"); (case' r => walk_at "eva")))
local macro_rules | `(tactic| walk_at "seq") => `(tactic| first | exact seq_tup | exact seq_lst | exact seq_ref (by assumption))
local macro_rules | `(tactic| walk_at "size") => `(tactic| first | (show _ ≤ sizeLine; simp only [List.length_cons, List.length_nil]; decide) | (rw [sizeLine_eq]; omega))
local macro_rules | `(tactic| walk_at "ev") => `(tactic| first
  | exact DL.Ev.c
  | exact DL.Ev.var rfl
  | (refine' DL.Ev.int ?a ?b; (case' a => walk_at "ev"); (case' b => walk_at "ev"))
  | (refine' DL.Ev.intC ?a ?b ?s; (case' a => walk_at "ev"); (case' b => walk_at "ev"); (case' s => try walk_at "side"))
  | (refine' DL.Ev.add ?a ?b; (case' a => walk_at "ev"); (case' b => walk_at "ev"))
  | (refine' DL.Ev.neg ?a; (case' a => walk_at "ev"))
  | (refine' DL.Ev.intOf ?a; (case' a => walk_at "ev"))
  | (refine' DL.Ev.intB ?a; (case' a => walk_at "ev"))
  | (refine' DL.Ev.absN ?a; (case' a => walk_at "ev"))
  | (refine' DL.Ev.eqI ?a ?b; (case' a => walk_at "ev"); (case' b => walk_at "ev"))
  | (refine' DL.Ev.neI ?a ?b; (case' a => walk_at "ev"); (case' b => walk_at "ev"))
  | (refine' DL.Ev.at ?a ?b ?s ?k; (case' a => walk_at "ev"); (case' b => walk_at "ev"); (case' s => walk_at "seq"); (case' k => try rfl))
  | (refine' DL.Ev.len ?a ?s; (case' a => walk_at "ev"); (case' s => walk_at "seq"))
  | (refine' DL.Ev.tupOf ?a ?s; (case' a => walk_at "ev"); (case' s => walk_at "seq"))
  | (refine' DL.Ev.tup ?a ?z; (case' a => walk_at "eva"); (case' z => try walk_at "size"))
  | (refine' DL.Ev.lst ?a ?z; (case' a => walk_at "eva"); (case' z => try walk_at "size"))
  | (refine' DL.Ev.notV ?a; (case' a => walk_at "ev"))
  | (refine' DL.Ev.isN ?a; (case' a => walk_at "ev"))
  | exact fun R r => r
  | assumption)
local macro_rules | `(tactic| walk_at "set") => `(tactic| (refine' ds_set ?e ?_; (case' e => walk_at "ev")))
local macro_rules | `(tactic| walk_at "ret") => `(tactic| (refine' ds_ret ?e ?_; (case' e => walk_at "ev")))
local macro_rules | `(tactic| walk_at "par") => `(tactic| (refine' ds_par ?e ?f ?_; (case' e => walk_at "ev"); (case' f => walk_at "ev")))
local macro_rules | `(tactic| walk_at "cut") => `(tactic| (simp only [DL.cutD, HT.sIx, List.length_cons, List.length_nil, Nat.zero_add, Nat.reduceAdd, Nat.min_def, Nat.reduceLeDiff, ↓reduceIte, List.drop_zero, List.drop_succ_cons, List.take_zero, List.take_succ_cons, List.take_nil, List.drop_nil, List.cons_append, List.nil_append, Int.reduceLT, Int.reduceToNat, Nat.reduceSub, Nat.sub_zero, Int.reduceNeg, Int.cast_ofNat_Int, Int.reduceAdd]; exact rfl))
local macro_rules | `(tactic| walk_at "xu") => `(tactic| first
  | with_reducible refine' DL.Y.ixS0 ?_
  | with_reducible refine' DL.Y.ixS1 ?_
  | with_reducible refine' DL.Y.ixS2 ?_
  | with_reducible refine' DL.Y.ixP0 ?_
  | with_reducible refine' DL.Y.ixP1 ?_
  | with_reducible refine' DL.Y.lstS ?_
  | with_reducible refine' DL.Y.lstP ?_)
local macro_rules | `(tactic| walk_at "dec") => `(tactic| first | rfl | assumption | exact decide_eq_true (by omega) | exact decide_eq_false (by omega) | exact DL.Y.ndT (by omega) | exact DL.Y.ndF (by omega) | decide +kernel)
local macro_rules | `(tactic| walk_at "size2") => `(tactic| first | exact Nat.le_of_ble_eq_true rfl | omega)
local macro_rules | `(tactic| walk_at "x0") => `(tactic| first
  | with_reducible refine' DL.Y.cons ?_
  | ((with_reducible refine' DL.Y.var ?e ?_); (case' e => (first | exact rfl | assumption)))
  | with_reducible refine' DL.Y.c ?_
  | with_reducible refine' DL.Y.nil ?_
  | with_reducible refine' DL.Y.op ?_
  | with_reducible refine' DL.Y.oint ?_
  | ((with_reducible refine' DL.Y.ointC ?s ?_); (case' s => try walk_at "side"))
  | with_reducible refine' DL.Y.oadd ?_
  | with_reducible refine' DL.Y.oeqI ?_
  | with_reducible refine' DL.Y.oneI ?_
  | with_reducible refine' DL.Y.oeqS ?_
  | with_reducible refine' DL.Y.neS ?_
  | with_reducible refine' DL.Y.oneS ?_
  | with_reducible refine' DL.Y.oeqB ?_
  | with_reducible refine' DL.Y.tst ?_
  | with_reducible refine' DL.Y.bl_ ?_
  | ((with_reducible refine' DL.Y.iRng1_ ?z ?_); (case' z => (omega; done)))
  | with_reducible refine' DL.Y.int_ ?_
  | with_reducible refine' DL.Y.str_ ?_
  | with_reducible refine' DL.Y.ref_ ?_
  | ((with_reducible refine' DL.Y.iteT ?h ?_); (case' h => (walk_at "dec"; done)))
  | ((with_reducible refine' DL.Y.iteF ?h ?_); (case' h => (walk_at "dec"; done)))
  | with_reducible refine' DL.Y.seq ?_
  | with_reducible refine' DL.Y.set ?_
  | with_reducible refine' DL.Y.ifS ?_
  | with_reducible refine' DL.Y.ret ?_
  | with_reducible refine' DL.Y.nx ?_
  | with_reducible refine' DL.Y.drop ?_
  | with_reducible refine' DL.Y.asg ?_
  | with_reducible refine' DL.Y.par ?_
  | with_reducible refine' DL.Y.par_ ?_
  | with_reducible refine' DL.Y.par3 ?_
  | with_reducible refine' DL.Y.par3_ ?_
  | with_reducible refine' DL.Y.bk ?_
  | with_reducible refine' DL.Y.ct ?_
  | with_reducible refine' DL.Y.retN ?_
  | with_reducible refine' DL.Y.gn ?_
  | with_reducible refine' DL.Y.gnil ?_
  | with_reducible refine' DL.Y.gcons ?_
  | ((with_reducible refine' DL.Y.gseqT ?e ?_); (case' e => (rfl; done)))
  | ((with_reducible refine' DL.Y.gseqL ?e ?_); (case' e => (rfl; done)))
  | with_reducible refine' DL.Y.tup ?_
  | with_reducible refine' DL.Y.lst ?_
  | ((with_reducible refine' DL.Y.len_ ?n ?l ?_); (case' n => exact rfl); (case' l => try walk_at "size2"))
  | with_reducible refine' DL.Y.ix ?_
  | ((with_reducible refine' DL.Y.ixT ?e ?_); (case' e => ((first | rfl | assumption); done)))
  | ((with_reducible refine' DL.Y.ixL ?e ?_); (case' e => (rfl; done)))
  | ((with_reducible refine' DL.Y.ixR ?g ?e ?_); (case' g => with_reducible assumption); (case' e => (rfl; done)))
  | with_reducible refine' DL.Y.cal ?_
  | with_reducible refine' DL.Y.lenT ?_
  | with_reducible refine' DL.Y.lenL ?_
  | ((with_reducible refine' DL.Y.lenR ?g ?_); (case' g => with_reducible assumption))
  | with_reducible refine' DL.Y.absI ?_
  | with_reducible refine' DL.Y.intI ?_
  | with_reducible refine' DL.Y.intB ?_
  | with_reducible refine' DL.Y.tupT ?_
  | with_reducible refine' DL.Y.tupL ?_
  | ((with_reducible refine' DL.Y.tupR ?g ?_); (case' g => with_reducible assumption))
  | with_reducible refine' DL.Y.lstT ?_
  | with_reducible refine' DL.Y.lstL ?_
  | with_reducible refine' DL.Y.allL ?_
  | with_reducible refine' DL.Y.anyL ?_
  | ((with_reducible refine' DL.Y.oaddL ?z ?_); (case' z => try walk_at "size2"))
  | ((with_reducible refine' DL.Y.oaddT ?z ?_); (case' z => try walk_at "size2"))
  | with_reducible refine' DL.Y.oisB ?_
  | with_reducible refine' DL.Y.onotB ?_
  | with_reducible refine' DL.Y.neg ?_
  | with_reducible refine' DL.Y.notT ?_
  | with_reducible refine' DL.Y.andT ?_
  | with_reducible refine' DL.Y.orT ?_
  | with_reducible refine' DL.Y.yes ?_
  | with_reducible refine' DL.Y.ifT ?_
  | with_reducible refine' DL.Y.andV ?_
  | with_reducible refine' DL.Y.orV ?_
  | with_reducible refine' DL.Y.notV ?_
  | with_reducible refine' DL.Y.isN ?_
  | with_reducible refine' DL.Y.notN ?_
  | ((with_reducible refine' DL.Y.isi_ ?e ?_); (case' e => (rfl; done)))
  | with_reducible refine' DL.Y.isiT ?_
  | with_reducible refine' DL.Y.chain ?_
  | with_reducible refine' DL.Y.sl ?_
  | with_reducible refine' DL.Y.noP ?_
  | with_reducible refine' DL.Y.part ?_
  | ((with_reducible refine' DL.Y.slLl ?n ?e ?_); (case' n => (rfl; done)); (case' e => walk_at "cut"))
  | ((with_reducible refine' DL.Y.slTl ?n ?m ?e ?_); (case' n => (rfl; done)); (case' m => (simp [HT.sIx]; done)); (case' e => walk_at "cut"))
  | with_reducible refine' DL.Y.slL ?_
  | with_reducible refine' DL.Y.call ?_
  | with_reducible refine' DL.Y.callK ?_
  | with_reducible refine' DL.Y.callD ?_
  | with_reducible refine' DL.Y.fld ?_
  | ((with_reducible refine' DL.Y.fld_ ?f ?e ?_); (case' f => (first | rfl | assumption); done); (case' e => (rfl; done)))
  | with_reducible refine' DL.Y.isW_ ?_
  | with_reducible refine' DL.Y.inK ?_
  | with_reducible refine' DL.Y.iSeq ?_
  | with_reducible refine' DL.Y.iSeqL ?_
  | with_reducible refine' DL.Y.iSeqT ?_
  | with_reducible refine' DL.Y.iRng1 ?_
  | with_reducible refine' DL.Y.iZip ?_
  | with_reducible refine' DL.Y.iZipT ?_
  | with_reducible refine' DL.Y.iZipL ?_
  | with_reducible refine' DL.Y.iZipR ?_
  | with_reducible refine' DL.Y.iZipM ?_
  | with_reducible refine' DL.Y.iEnum ?_
  | with_reducible refine' DL.Y.iEnumT ?_
  | with_reducible refine' DL.Y.iEnumL ?_
  | with_reducible refine' DL.Y.for_ ?_
  | with_reducible refine' DL.Y.cmp ?_
  | with_reducible refine' DL.Y.isO ?_
  | ((with_reducible refine' DL.Y.isO_ (isO_exc ?c) ?_); (case' c => (decide +kernel; done)))
  | ((with_reducible refine' DL.Y.isO_ ?e ?_); (case' e => (rfl; done)))
  | ((with_reducible refine' DL.Y.isW1 ?e ?_); (case' e => (first | assumption | (rfl; done))))
  | with_reducible refine' DL.Y.xf ?_
  | ((with_reducible refine' DL.Y.xf_ ?c ?e ?_); (case' c => (decide +kernel; done)); (case' e => (first | assumption | (rfl; done))))
  | with_reducible refine' DL.Y.mk ?_
  | with_reducible refine' DL.Y.dctM ?_
  | with_reducible refine' DL.Y.dct0 ?_
  | with_reducible refine' DL.Y.lstM ?_
  | with_reducible refine' DL.Y.rev ?_
  | with_reducible refine' DL.Y.revL ?_
  | with_reducible refine' DL.Y.dget ?_
  | with_reducible refine' DL.Y.dput ?_
  | with_reducible refine' DL.Y.app ?_
  | with_reducible refine' DL.Y.gc ?_
  | with_reducible refine' DL.Y.boolB ?_
  | with_reducible refine' DL.Y.disp ?_
  | with_reducible refine' DL.Y.valsC ?_
  | with_reducible refine' DL.Y.valsN ?_
  | with_reducible refine' DL.Y.ownEq ?_
  | with_reducible refine' DL.Y.cmp2 ?_
  | with_reducible refine' DL.Y.star ?_
  | with_reducible refine' DL.Y.meth ?_
  | with_reducible refine' DL.Y.index ?_
  | with_reducible refine' DL.Y.backT ?_
  | with_reducible refine' DL.Y.iRngV ?_
  | with_reducible refine' DL.Y.rng1_ ?_
  | with_reducible refine' DL.Y.rng2_ ?_
  | with_reducible refine' DL.Y.rngV_ ?_
  | ((with_reducible refine' DL.Y.fld_ ?f ?e ?_); (case' f => ((first | rfl | assumption | decide +kernel); done)); (case' e => (rfl; done)))
  | with_reducible refine' DL.Y.chLe ?_
  | with_reducible refine' DL.Y.chLt ?_
  | with_reducible refine' DL.Y.setF ?_
  | with_reducible refine' DL.Y.lenSet ?_
  | with_reducible refine' DL.Y.inL ?_
  | with_reducible refine' DL.Y.inD ?_
  | with_reducible refine' DL.Y.inD_ ?_
  | with_reducible refine' DL.Y.ixD ?_
  | ((with_reducible refine' DL.Y.mulS ?h ?_); (case' h => (exact ⟨by omega, by omega, by decide⟩)))
  | ((with_reducible refine' DL.Y.mulL ?h ?_); (case' h => (exact ⟨by simp only [List.length_cons, List.length_nil]; omega, by omega, by omega⟩)))
  | walk_at "xu"
  | walk_at "norm")
local macro_rules | `(tactic| walk_at "norm") => `(tactic| (dsimp only [List.set]))
local macro_rules | `(tactic| walk_at "x") => `(tactic| first | walk_at "x0" | with_reducible refine' DL.Y.ifE ?_)
local macro_rules | `(tactic| walk_at "xs") => `(tactic| repeat walk_at "x0")
local macro_rules | `(tactic| walk_at "xx") => `(tactic| repeat walk_at "x")
local macro_rules | `(tactic| walk_at "start") => `(tactic| dsimp only [List.map, List.length_cons, List.length_nil, List.cons_append, List.nil_append, Nat.zero_add, Nat.reduceAdd, Nat.reduceSub, List.reduceReplicate])
namespace DL
open PySem PySem.Spec PyProof.Rows L2 Evl Sup
variable [TabC]
structure Lp where
  c : Int
  q : Qr
  r : Qr
end DL
namespace DL
open PySem PySem.Spec PyProof.Rows L2 Evl Sup
variable [TabC]
end DL
namespace DL
open PySem PySem.Spec PyProof.Rows L2 Evl Sup
variable [TabC]
end DL
namespace DL
open PySem PySem.Spec PyProof.Rows L2 Evl Sup
variable [TabC]
end DL
namespace DL
open PySem PySem.Spec PyProof.Rows L2 Evl Sup
variable [TabC]
theorem Y.bind {de : DE} {ρ : En} {G : Gm} {R : KD} (P : KD) (h1 : ∀ R0 : KD, (∀ x G1, P x G1 → R0 x G1) → de ρ G R0) (h2 : ∀ x G1, P x G1 → R x G1) : de ρ G R := h1 R h2
end DL
namespace DL
open PySem PySem.Spec PyProof.Rows L2 Evl Sup
variable [TabC]
end DL
namespace DL
open PySem PySem.Spec PyProof.Rows L2 Evl Sup
variable [TabC]
end DL
namespace DL
open PySem PySem.Spec PyProof.Rows L2 Evl Sup
variable [TabC]
theorem fn_nil : Fn 1 1 (.lst []) := ⟨rfl, rfl, rfl, by decide, by decide, rfl, rfl⟩
end DL
namespace DL
open PySem PySem.Spec PyProof.Rows L2 Evl Sup
variable [TabC]
end DL
namespace DL
open PySem PySem.Spec PyProof.Rows L2 Evl Sup
variable [TabC]
end DL
namespace DL
open PySem PySem.Spec PyProof.Rows L2 Evl Sup
variable [TabC]
end DL
end
namespace DL
open PySem PySem.Spec PyProof.Rows L2 Evl Sup
variable [TabC]
section
variable {X : Cx} {B : Bs} {pos p apos cpos : Pos} {e o i : Expr} {es : List Expr} {da db dd di dk : DE} {dA : DA}
end
end DL
section
open PySem PySem.Spec PyProof.Rows L2 Evl DL
local macro_rules | `(tactic| walk_at "side") => `(tactic| first | exact mul_left (by decide) | exact mul_right (by decide) | exact mul_bd | exact div_bd (by first | assumption | decide | omega) | exact pow_bd (by first | decide | omega) (by first | decide | omega) | assumption | (show (0 : Int) < _; first | decide | omega))
local macro_rules | `(tactic| walk_at "eva") => `(tactic| first | exact DL.EvA.nil | (refine' DL.EvA.cons ?e ?r; (case' e => walk_at "ev"); (case' r => walk_at "eva")))
local macro_rules | `(tactic| walk_at "seq") => `(tactic| first | exact seq_tup | exact seq_lst | exact seq_ref (by assumption))
local macro_rules | `(tactic| walk_at "size") => `(tactic| first | (show _ ≤ sizeLine; simp only [List.length_cons, List.length_nil]; decide) | (rw [sizeLine_eq]; omega))
local macro_rules | `(tactic| walk_at "ev") => `(tactic| first
  | exact DL.Ev.c
  | exact DL.Ev.var rfl
  | (refine' DL.Ev.int ?a ?b; (case' a => walk_at "ev"); (case' b => walk_at "ev"))
  | (refine' DL.Ev.intC ?a ?b ?s; (case' a => walk_at "ev"); (case' b => walk_at "ev"); (case' s => try walk_at "side"))
  | (refine' DL.Ev.add ?a ?b; (case' a => walk_at "ev"); (case' b => walk_at "ev"))
  | (refine' DL.Ev.neg ?a; (case' a => walk_at "ev"))
  | (refine' DL.Ev.intOf ?a; (case' a => walk_at "ev"))
  | (refine' DL.Ev.intB ?a; (case' a => walk_at "ev"))
  | (refine' DL.Ev.absN ?a; (case' a => walk_at "ev"))
  | (refine' DL.Ev.eqI ?a ?b; (case' a => walk_at "ev"); (case' b => walk_at "ev"))
  | (refine' DL.Ev.neI ?a ?b; (case' a => walk_at "ev"); (case' b => walk_at "ev"))
  | (refine' DL.Ev.at ?a ?b ?s ?k; (case' a => walk_at "ev"); (case' b => walk_at "ev"); (case' s => walk_at "seq"); (case' k => try rfl))
  | (refine' DL.Ev.len ?a ?s; (case' a => walk_at "ev"); (case' s => walk_at "seq"))
  | (refine' DL.Ev.tupOf ?a ?s; (case' a => walk_at "ev"); (case' s => walk_at "seq"))
  | (refine' DL.Ev.tup ?a ?z; (case' a => walk_at "eva"); (case' z => try walk_at "size"))
  | (refine' DL.Ev.lst ?a ?z; (case' a => walk_at "eva"); (case' z => try walk_at "size"))
  | (refine' DL.Ev.notV ?a; (case' a => walk_at "ev"))
  | (refine' DL.Ev.isN ?a; (case' a => walk_at "ev"))
  | exact fun R r => r
  | assumption)
local macro_rules | `(tactic| walk_at "set") => `(tactic| (refine' ds_set ?e ?_; (case' e => walk_at "ev")))
local macro_rules | `(tactic| walk_at "ret") => `(tactic| (refine' ds_ret ?e ?_; (case' e => walk_at "ev")))
local macro_rules | `(tactic| walk_at "par") => `(tactic| (refine' ds_par ?e ?f ?_; (case' e => walk_at "ev"); (case' f => walk_at "ev")))
local macro_rules | `(tactic| walk_at "cut") => `(tactic| (simp only [DL.cutD, HT.sIx, List.length_cons, List.length_nil, Nat.zero_add, Nat.reduceAdd, Nat.min_def, Nat.reduceLeDiff, ↓reduceIte, List.drop_zero, List.drop_succ_cons, List.take_zero, List.take_succ_cons, List.take_nil, List.drop_nil, List.cons_append, List.nil_append, Int.reduceLT, Int.reduceToNat, Nat.reduceSub, Nat.sub_zero, Int.reduceNeg, Int.cast_ofNat_Int, Int.reduceAdd]; exact rfl))
local macro_rules | `(tactic| walk_at "xu") => `(tactic| first
  | with_reducible refine' DL.Y.ixS0 ?_
  | with_reducible refine' DL.Y.ixS1 ?_
  | with_reducible refine' DL.Y.ixS2 ?_
  | with_reducible refine' DL.Y.ixP0 ?_
  | with_reducible refine' DL.Y.ixP1 ?_
  | with_reducible refine' DL.Y.lstS ?_
  | with_reducible refine' DL.Y.lstP ?_)
local macro_rules | `(tactic| walk_at "dec") => `(tactic| first | rfl | assumption | exact decide_eq_true (by omega) | exact decide_eq_false (by omega) | exact DL.Y.ndT (by omega) | exact DL.Y.ndF (by omega) | decide +kernel)
local macro_rules | `(tactic| walk_at "size2") => `(tactic| first | exact Nat.le_of_ble_eq_true rfl | omega)
local macro_rules | `(tactic| walk_at "x0") => `(tactic| first
  | with_reducible refine' DL.Y.cons ?_
  | ((with_reducible refine' DL.Y.var ?e ?_); (case' e => (first | exact rfl | assumption)))
  | with_reducible refine' DL.Y.c ?_
  | with_reducible refine' DL.Y.nil ?_
  | with_reducible refine' DL.Y.op ?_
  | with_reducible refine' DL.Y.oint ?_
  | ((with_reducible refine' DL.Y.ointC ?s ?_); (case' s => try walk_at "side"))
  | with_reducible refine' DL.Y.oadd ?_
  | with_reducible refine' DL.Y.oeqI ?_
  | with_reducible refine' DL.Y.oneI ?_
  | with_reducible refine' DL.Y.oeqS ?_
  | with_reducible refine' DL.Y.neS ?_
  | with_reducible refine' DL.Y.oneS ?_
  | with_reducible refine' DL.Y.oeqB ?_
  | with_reducible refine' DL.Y.tst ?_
  | with_reducible refine' DL.Y.bl_ ?_
  | ((with_reducible refine' DL.Y.iRng1_ ?z ?_); (case' z => (omega; done)))
  | with_reducible refine' DL.Y.int_ ?_
  | with_reducible refine' DL.Y.str_ ?_
  | with_reducible refine' DL.Y.ref_ ?_
  | ((with_reducible refine' DL.Y.iteT ?h ?_); (case' h => (walk_at "dec"; done)))
  | ((with_reducible refine' DL.Y.iteF ?h ?_); (case' h => (walk_at "dec"; done)))
  | with_reducible refine' DL.Y.seq ?_
  | with_reducible refine' DL.Y.set ?_
  | with_reducible refine' DL.Y.ifS ?_
  | with_reducible refine' DL.Y.ret ?_
  | with_reducible refine' DL.Y.nx ?_
  | with_reducible refine' DL.Y.drop ?_
  | with_reducible refine' DL.Y.asg ?_
  | with_reducible refine' DL.Y.par ?_
  | with_reducible refine' DL.Y.par_ ?_
  | with_reducible refine' DL.Y.par3 ?_
  | with_reducible refine' DL.Y.par3_ ?_
  | with_reducible refine' DL.Y.bk ?_
  | with_reducible refine' DL.Y.ct ?_
  | with_reducible refine' DL.Y.retN ?_
  | with_reducible refine' DL.Y.gn ?_
  | with_reducible refine' DL.Y.gnil ?_
  | with_reducible refine' DL.Y.gcons ?_
  | ((with_reducible refine' DL.Y.gseqT ?e ?_); (case' e => (rfl; done)))
  | ((with_reducible refine' DL.Y.gseqL ?e ?_); (case' e => (rfl; done)))
  | with_reducible refine' DL.Y.tup ?_
  | with_reducible refine' DL.Y.lst ?_
  | ((with_reducible refine' DL.Y.len_ ?n ?l ?_); (case' n => exact rfl); (case' l => try walk_at "size2"))
  | with_reducible refine' DL.Y.ix ?_
  | ((with_reducible refine' DL.Y.ixT ?e ?_); (case' e => ((first | rfl | assumption); done)))
  | ((with_reducible refine' DL.Y.ixL ?e ?_); (case' e => (rfl; done)))
  | ((with_reducible refine' DL.Y.ixR ?g ?e ?_); (case' g => with_reducible assumption); (case' e => (rfl; done)))
  | with_reducible refine' DL.Y.cal ?_
  | with_reducible refine' DL.Y.lenT ?_
  | with_reducible refine' DL.Y.lenL ?_
  | ((with_reducible refine' DL.Y.lenR ?g ?_); (case' g => with_reducible assumption))
  | with_reducible refine' DL.Y.absI ?_
  | with_reducible refine' DL.Y.intI ?_
  | with_reducible refine' DL.Y.intB ?_
  | with_reducible refine' DL.Y.tupT ?_
  | with_reducible refine' DL.Y.tupL ?_
  | ((with_reducible refine' DL.Y.tupR ?g ?_); (case' g => with_reducible assumption))
  | with_reducible refine' DL.Y.lstT ?_
  | with_reducible refine' DL.Y.lstL ?_
  | with_reducible refine' DL.Y.allL ?_
  | with_reducible refine' DL.Y.anyL ?_
  | ((with_reducible refine' DL.Y.oaddL ?z ?_); (case' z => try walk_at "size2"))
  | ((with_reducible refine' DL.Y.oaddT ?z ?_); (case' z => try walk_at "size2"))
  | with_reducible refine' DL.Y.oisB ?_
  | with_reducible refine' DL.Y.onotB ?_
  | with_reducible refine' DL.Y.neg ?_
  | with_reducible refine' DL.Y.notT ?_
  | with_reducible refine' DL.Y.andT ?_
  | with_reducible refine' DL.Y.orT ?_
  | with_reducible refine' DL.Y.yes ?_
  | with_reducible refine' DL.Y.ifT ?_
  | with_reducible refine' DL.Y.andV ?_
  | with_reducible refine' DL.Y.orV ?_
  | with_reducible refine' DL.Y.notV ?_
  | with_reducible refine' DL.Y.isN ?_
  | with_reducible refine' DL.Y.notN ?_
  | ((with_reducible refine' DL.Y.isi_ ?e ?_); (case' e => (rfl; done)))
  | with_reducible refine' DL.Y.isiT ?_
  | with_reducible refine' DL.Y.chain ?_
  | with_reducible refine' DL.Y.sl ?_
  | with_reducible refine' DL.Y.noP ?_
  | with_reducible refine' DL.Y.part ?_
  | ((with_reducible refine' DL.Y.slLl ?n ?e ?_); (case' n => (rfl; done)); (case' e => walk_at "cut"))
  | ((with_reducible refine' DL.Y.slTl ?n ?m ?e ?_); (case' n => (rfl; done)); (case' m => (simp [HT.sIx]; done)); (case' e => walk_at "cut"))
  | with_reducible refine' DL.Y.slL ?_
  | with_reducible refine' DL.Y.call ?_
  | with_reducible refine' DL.Y.callK ?_
  | with_reducible refine' DL.Y.callD ?_
  | with_reducible refine' DL.Y.fld ?_
  | ((with_reducible refine' DL.Y.fld_ ?f ?e ?_); (case' f => (first | rfl | assumption); done); (case' e => (rfl; done)))
  | with_reducible refine' DL.Y.isW_ ?_
  | with_reducible refine' DL.Y.inK ?_
  | with_reducible refine' DL.Y.iSeq ?_
  | with_reducible refine' DL.Y.iSeqL ?_
  | with_reducible refine' DL.Y.iSeqT ?_
  | with_reducible refine' DL.Y.iRng1 ?_
  | with_reducible refine' DL.Y.iZip ?_
  | with_reducible refine' DL.Y.iZipT ?_
  | with_reducible refine' DL.Y.iZipL ?_
  | with_reducible refine' DL.Y.iZipR ?_
  | with_reducible refine' DL.Y.iZipM ?_
  | with_reducible refine' DL.Y.iEnum ?_
  | with_reducible refine' DL.Y.iEnumT ?_
  | with_reducible refine' DL.Y.iEnumL ?_
  | with_reducible refine' DL.Y.for_ ?_
  | with_reducible refine' DL.Y.cmp ?_
  | with_reducible refine' DL.Y.isO ?_
  | ((with_reducible refine' DL.Y.isO_ (isO_exc ?c) ?_); (case' c => (decide +kernel; done)))
  | ((with_reducible refine' DL.Y.isO_ ?e ?_); (case' e => (rfl; done)))
  | ((with_reducible refine' DL.Y.isW1 ?e ?_); (case' e => (first | assumption | (rfl; done))))
  | with_reducible refine' DL.Y.xf ?_
  | ((with_reducible refine' DL.Y.xf_ ?c ?e ?_); (case' c => (decide +kernel; done)); (case' e => (first | assumption | (rfl; done))))
  | with_reducible refine' DL.Y.mk ?_
  | with_reducible refine' DL.Y.dctM ?_
  | with_reducible refine' DL.Y.dct0 ?_
  | with_reducible refine' DL.Y.lstM ?_
  | with_reducible refine' DL.Y.rev ?_
  | with_reducible refine' DL.Y.revL ?_
  | with_reducible refine' DL.Y.dget ?_
  | with_reducible refine' DL.Y.dput ?_
  | with_reducible refine' DL.Y.app ?_
  | with_reducible refine' DL.Y.gc ?_
  | with_reducible refine' DL.Y.boolB ?_
  | with_reducible refine' DL.Y.disp ?_
  | with_reducible refine' DL.Y.valsC ?_
  | with_reducible refine' DL.Y.valsN ?_
  | with_reducible refine' DL.Y.ownEq ?_
  | with_reducible refine' DL.Y.cmp2 ?_
  | with_reducible refine' DL.Y.star ?_
  | with_reducible refine' DL.Y.meth ?_
  | with_reducible refine' DL.Y.index ?_
  | with_reducible refine' DL.Y.backT ?_
  | with_reducible refine' DL.Y.iRngV ?_
  | with_reducible refine' DL.Y.rng1_ ?_
  | with_reducible refine' DL.Y.rng2_ ?_
  | with_reducible refine' DL.Y.rngV_ ?_
  | ((with_reducible refine' DL.Y.fld_ ?f ?e ?_); (case' f => ((first | rfl | assumption | decide +kernel); done)); (case' e => (rfl; done)))
  | with_reducible refine' DL.Y.chLe ?_
  | with_reducible refine' DL.Y.chLt ?_
  | with_reducible refine' DL.Y.setF ?_
  | with_reducible refine' DL.Y.lenSet ?_
  | with_reducible refine' DL.Y.inL ?_
  | with_reducible refine' DL.Y.inTp ?_
  | with_reducible refine' DL.Y.slTA ?_
  | with_reducible refine' DL.Y.inD ?_
  | with_reducible refine' DL.Y.inD_ ?_
  | with_reducible refine' DL.Y.ixD ?_
  | ((with_reducible refine' DL.Y.mulS ?h ?_); (case' h => (exact ⟨by omega, by omega, by decide⟩)))
  | ((with_reducible refine' DL.Y.mulL ?h ?_); (case' h => (exact ⟨by simp only [List.length_cons, List.length_nil]; omega, by omega, by omega⟩)))
  | walk_at "xu"
  | walk_at "norm")
local macro_rules | `(tactic| walk_at "norm") => `(tactic| (dsimp only [List.set]))
local macro_rules | `(tactic| walk_at "x") => `(tactic| first | walk_at "x0" | with_reducible refine' DL.Y.ifE ?_)
local macro_rules | `(tactic| walk_at "xs") => `(tactic| repeat walk_at "x0")
local macro_rules | `(tactic| walk_at "xx") => `(tactic| repeat walk_at "x")
local macro_rules | `(tactic| walk_at "start") => `(tactic| dsimp only [List.map, List.length_cons, List.length_nil, List.cons_append, List.nil_append, Nat.zero_add, Nat.reduceAdd, Nat.reduceSub, List.reduceReplicate])
namespace DL
open PySem PySem.Spec PyProof.Rows L2 Evl Sup
variable [TabC]
end DL
namespace DL
open PySem PySem.Spec PyProof.Rows L2 Evl Sup
variable [TabC]
end DL
end
namespace DLS
open PySem PySem.Spec PyProof.Rows L2
section
variable {pr : Program} {w : World} {A : Around} {E : Value → Shared → Prop} {z : Shared}
end
end DLS
namespace DL
open PySem PySem.Spec PyProof.Rows L2 Evl DLS
variable [TabC]
end DL
section
open PySem PySem.Spec PyProof.Rows L2 Evl DL
local macro_rules | `(tactic| walk_at "side") => `(tactic| first | exact mul_left (by decide) | exact mul_right (by decide) | exact mul_bd | exact div_bd (by first | assumption | decide | omega) | exact pow_bd (by first | decide | omega) (by first | decide | omega) | assumption | (show (0 : Int) < _; first | decide | omega))
local macro_rules | `(tactic| walk_at "eva") => `(tactic| first | exact DL.EvA.nil | (refine' DL.EvA.cons ?e ?r; (case' e => walk_at "ev"); (case' r => walk_at "eva")))
local macro_rules | `(tactic| walk_at "seq") => `(tactic| first | exact seq_tup | exact seq_lst | exact seq_ref (by assumption))
local macro_rules | `(tactic| walk_at "size") => `(tactic| first | (show _ ≤ sizeLine; simp only [List.length_cons, List.length_nil]; decide) | (rw [sizeLine_eq]; omega))
local macro_rules | `(tactic| walk_at "ev") => `(tactic| first
  | exact DL.Ev.c
  | exact DL.Ev.var rfl
  | (refine' DL.Ev.int ?a ?b; (case' a => walk_at "ev"); (case' b => walk_at "ev"))
  | (refine' DL.Ev.intC ?a ?b ?s; (case' a => walk_at "ev"); (case' b => walk_at "ev"); (case' s => try walk_at "side"))
  | (refine' DL.Ev.add ?a ?b; (case' a => walk_at "ev"); (case' b => walk_at "ev"))
  | (refine' DL.Ev.neg ?a; (case' a => walk_at "ev"))
  | (refine' DL.Ev.intOf ?a; (case' a => walk_at "ev"))
  | (refine' DL.Ev.intB ?a; (case' a => walk_at "ev"))
  | (refine' DL.Ev.absN ?a; (case' a => walk_at "ev"))
  | (refine' DL.Ev.eqI ?a ?b; (case' a => walk_at "ev"); (case' b => walk_at "ev"))
  | (refine' DL.Ev.neI ?a ?b; (case' a => walk_at "ev"); (case' b => walk_at "ev"))
  | (refine' DL.Ev.at ?a ?b ?s ?k; (case' a => walk_at "ev"); (case' b => walk_at "ev"); (case' s => walk_at "seq"); (case' k => try rfl))
  | (refine' DL.Ev.len ?a ?s; (case' a => walk_at "ev"); (case' s => walk_at "seq"))
  | (refine' DL.Ev.tupOf ?a ?s; (case' a => walk_at "ev"); (case' s => walk_at "seq"))
  | (refine' DL.Ev.tup ?a ?z; (case' a => walk_at "eva"); (case' z => try walk_at "size"))
  | (refine' DL.Ev.lst ?a ?z; (case' a => walk_at "eva"); (case' z => try walk_at "size"))
  | (refine' DL.Ev.notV ?a; (case' a => walk_at "ev"))
  | (refine' DL.Ev.isN ?a; (case' a => walk_at "ev"))
  | exact fun R r => r
  | assumption)
local macro_rules | `(tactic| walk_at "set") => `(tactic| (refine' ds_set ?e ?_; (case' e => walk_at "ev")))
local macro_rules | `(tactic| walk_at "ret") => `(tactic| (refine' ds_ret ?e ?_; (case' e => walk_at "ev")))
local macro_rules | `(tactic| walk_at "par") => `(tactic| (refine' ds_par ?e ?f ?_; (case' e => walk_at "ev"); (case' f => walk_at "ev")))
local macro_rules | `(tactic| walk_at "cut") => `(tactic| (simp only [DL.cutD, HT.sIx, List.length_cons, List.length_nil, Nat.zero_add, Nat.reduceAdd, Nat.min_def, Nat.reduceLeDiff, ↓reduceIte, List.drop_zero, List.drop_succ_cons, List.take_zero, List.take_succ_cons, List.take_nil, List.drop_nil, List.cons_append, List.nil_append, Int.reduceLT, Int.reduceToNat, Nat.reduceSub, Nat.sub_zero, Int.reduceNeg, Int.cast_ofNat_Int, Int.reduceAdd]; exact rfl))
local macro_rules | `(tactic| walk_at "xu") => `(tactic| first
  | with_reducible refine' DL.Y.ixS0 ?_
  | with_reducible refine' DL.Y.ixS1 ?_
  | with_reducible refine' DL.Y.ixS2 ?_
  | with_reducible refine' DL.Y.ixP0 ?_
  | with_reducible refine' DL.Y.ixP1 ?_
  | with_reducible refine' DL.Y.lstS ?_
  | with_reducible refine' DL.Y.lstP ?_)
local macro_rules | `(tactic| walk_at "dec") => `(tactic| first | rfl | assumption | exact decide_eq_true (by omega) | exact decide_eq_false (by omega) | exact DL.Y.ndT (by omega) | exact DL.Y.ndF (by omega) | decide +kernel)
local macro_rules | `(tactic| walk_at "size2") => `(tactic| first | exact Nat.le_of_ble_eq_true rfl | omega)
local macro_rules | `(tactic| walk_at "x0") => `(tactic| first
  | with_reducible refine' DL.Y.cons ?_
  | ((with_reducible refine' DL.Y.var ?e ?_); (case' e => (first | exact rfl | assumption)))
  | with_reducible refine' DL.Y.c ?_
  | with_reducible refine' DL.Y.nil ?_
  | with_reducible refine' DL.Y.op ?_
  | with_reducible refine' DL.Y.oint ?_
  | ((with_reducible refine' DL.Y.ointC ?s ?_); (case' s => try walk_at "side"))
  | with_reducible refine' DL.Y.oadd ?_
  | with_reducible refine' DL.Y.oeqI ?_
  | with_reducible refine' DL.Y.oneI ?_
  | with_reducible refine' DL.Y.oeqS ?_
  | with_reducible refine' DL.Y.neS ?_
  | with_reducible refine' DL.Y.oneS ?_
  | with_reducible refine' DL.Y.oeqB ?_
  | with_reducible refine' DL.Y.tst ?_
  | with_reducible refine' DL.Y.bl_ ?_
  | ((with_reducible refine' DL.Y.iRng1_ ?z ?_); (case' z => (omega; done)))
  | with_reducible refine' DL.Y.int_ ?_
  | with_reducible refine' DL.Y.str_ ?_
  | with_reducible refine' DL.Y.ref_ ?_
  | ((with_reducible refine' DL.Y.iteT ?h ?_); (case' h => (walk_at "dec"; done)))
  | ((with_reducible refine' DL.Y.iteF ?h ?_); (case' h => (walk_at "dec"; done)))
  | with_reducible refine' DL.Y.seq ?_
  | with_reducible refine' DL.Y.set ?_
  | with_reducible refine' DL.Y.ifS ?_
  | with_reducible refine' DL.Y.ret ?_
  | with_reducible refine' DL.Y.nx ?_
  | with_reducible refine' DL.Y.drop ?_
  | with_reducible refine' DL.Y.asg ?_
  | with_reducible refine' DL.Y.par ?_
  | with_reducible refine' DL.Y.par_ ?_
  | with_reducible refine' DL.Y.par3 ?_
  | with_reducible refine' DL.Y.par3_ ?_
  | with_reducible refine' DL.Y.bk ?_
  | with_reducible refine' DL.Y.ct ?_
  | with_reducible refine' DL.Y.retN ?_
  | with_reducible refine' DL.Y.gn ?_
  | with_reducible refine' DL.Y.gnil ?_
  | with_reducible refine' DL.Y.gcons ?_
  | ((with_reducible refine' DL.Y.gseqT ?e ?_); (case' e => (rfl; done)))
  | ((with_reducible refine' DL.Y.gseqL ?e ?_); (case' e => (rfl; done)))
  | with_reducible refine' DL.Y.tup ?_
  | with_reducible refine' DL.Y.lst ?_
  | ((with_reducible refine' DL.Y.len_ ?n ?l ?_); (case' n => exact rfl); (case' l => try walk_at "size2"))
  | with_reducible refine' DL.Y.ix ?_
  | ((with_reducible refine' DL.Y.ixT ?e ?_); (case' e => ((first | rfl | assumption); done)))
  | ((with_reducible refine' DL.Y.ixL ?e ?_); (case' e => (rfl; done)))
  | ((with_reducible refine' DL.Y.ixR ?g ?e ?_); (case' g => with_reducible assumption); (case' e => (rfl; done)))
  | with_reducible refine' DL.Y.cal ?_
  | with_reducible refine' DL.Y.lenT ?_
  | with_reducible refine' DL.Y.lenL ?_
  | ((with_reducible refine' DL.Y.lenR ?g ?_); (case' g => with_reducible assumption))
  | with_reducible refine' DL.Y.absI ?_
  | with_reducible refine' DL.Y.intI ?_
  | with_reducible refine' DL.Y.intB ?_
  | with_reducible refine' DL.Y.tupT ?_
  | with_reducible refine' DL.Y.tupL ?_
  | ((with_reducible refine' DL.Y.tupR ?g ?_); (case' g => with_reducible assumption))
  | with_reducible refine' DL.Y.lstT ?_
  | with_reducible refine' DL.Y.lstL ?_
  | with_reducible refine' DL.Y.allL ?_
  | with_reducible refine' DL.Y.anyL ?_
  | ((with_reducible refine' DL.Y.oaddL ?z ?_); (case' z => try walk_at "size2"))
  | ((with_reducible refine' DL.Y.oaddT ?z ?_); (case' z => try walk_at "size2"))
  | with_reducible refine' DL.Y.oisB ?_
  | with_reducible refine' DL.Y.onotB ?_
  | with_reducible refine' DL.Y.neg ?_
  | with_reducible refine' DL.Y.notT ?_
  | with_reducible refine' DL.Y.andT ?_
  | with_reducible refine' DL.Y.orT ?_
  | with_reducible refine' DL.Y.yes ?_
  | with_reducible refine' DL.Y.ifT ?_
  | with_reducible refine' DL.Y.andV ?_
  | with_reducible refine' DL.Y.orV ?_
  | with_reducible refine' DL.Y.notV ?_
  | with_reducible refine' DL.Y.isN ?_
  | with_reducible refine' DL.Y.notN ?_
  | ((with_reducible refine' DL.Y.isi_ ?e ?_); (case' e => (rfl; done)))
  | with_reducible refine' DL.Y.isiT ?_
  | with_reducible refine' DL.Y.chain ?_
  | with_reducible refine' DL.Y.sl ?_
  | with_reducible refine' DL.Y.noP ?_
  | with_reducible refine' DL.Y.part ?_
  | ((with_reducible refine' DL.Y.slLl ?n ?e ?_); (case' n => (rfl; done)); (case' e => walk_at "cut"))
  | ((with_reducible refine' DL.Y.slTl ?n ?m ?e ?_); (case' n => (rfl; done)); (case' m => (simp [HT.sIx]; done)); (case' e => walk_at "cut"))
  | with_reducible refine' DL.Y.slL ?_
  | with_reducible refine' DL.Y.call ?_
  | with_reducible refine' DL.Y.callK ?_
  | with_reducible refine' DL.Y.callD ?_
  | with_reducible refine' DL.Y.fld ?_
  | ((with_reducible refine' DL.Y.fld_ ?f ?e ?_); (case' f => (first | rfl | assumption); done); (case' e => (rfl; done)))
  | with_reducible refine' DL.Y.isW_ ?_
  | with_reducible refine' DL.Y.inK ?_
  | with_reducible refine' DL.Y.iSeq ?_
  | with_reducible refine' DL.Y.iSeqL ?_
  | with_reducible refine' DL.Y.iSeqT ?_
  | with_reducible refine' DL.Y.iRng1 ?_
  | with_reducible refine' DL.Y.iZip ?_
  | with_reducible refine' DL.Y.iZipT ?_
  | with_reducible refine' DL.Y.iZipL ?_
  | with_reducible refine' DL.Y.iZipR ?_
  | with_reducible refine' DL.Y.iZipM ?_
  | with_reducible refine' DL.Y.iEnum ?_
  | with_reducible refine' DL.Y.iEnumT ?_
  | with_reducible refine' DL.Y.iEnumL ?_
  | with_reducible refine' DL.Y.for_ ?_
  | with_reducible refine' DL.Y.cmp ?_
  | with_reducible refine' DL.Y.isO ?_
  | ((with_reducible refine' DL.Y.isO_ (isO_exc ?c) ?_); (case' c => (decide +kernel; done)))
  | ((with_reducible refine' DL.Y.isO_ ?e ?_); (case' e => (rfl; done)))
  | ((with_reducible refine' DL.Y.isW1 ?e ?_); (case' e => (first | assumption | (rfl; done))))
  | with_reducible refine' DL.Y.xf ?_
  | ((with_reducible refine' DL.Y.xf_ ?c ?e ?_); (case' c => (decide +kernel; done)); (case' e => (first | assumption | (rfl; done))))
  | with_reducible refine' DL.Y.mk ?_
  | with_reducible refine' DL.Y.dctM ?_
  | with_reducible refine' DL.Y.dct0 ?_
  | with_reducible refine' DL.Y.lstM ?_
  | with_reducible refine' DL.Y.rev ?_
  | with_reducible refine' DL.Y.revL ?_
  | with_reducible refine' DL.Y.dget ?_
  | with_reducible refine' DL.Y.dput ?_
  | with_reducible refine' DL.Y.app ?_
  | with_reducible refine' DL.Y.gc ?_
  | with_reducible refine' DL.Y.boolB ?_
  | with_reducible refine' DL.Y.disp ?_
  | with_reducible refine' DL.Y.valsC ?_
  | with_reducible refine' DL.Y.valsN ?_
  | with_reducible refine' DL.Y.ownEq ?_
  | with_reducible refine' DL.Y.cmp2 ?_
  | with_reducible refine' DL.Y.star ?_
  | with_reducible refine' DL.Y.meth ?_
  | with_reducible refine' DL.Y.index ?_
  | with_reducible refine' DL.Y.backT ?_
  | with_reducible refine' DL.Y.iRngV ?_
  | with_reducible refine' DL.Y.rng1_ ?_
  | with_reducible refine' DL.Y.rng2_ ?_
  | with_reducible refine' DL.Y.rngV_ ?_
  | ((with_reducible refine' DL.Y.fld_ ?f ?e ?_); (case' f => ((first | rfl | assumption | decide +kernel); done)); (case' e => (rfl; done)))
  | with_reducible refine' DL.Y.chLe ?_
  | with_reducible refine' DL.Y.chLt ?_
  | with_reducible refine' DL.Y.setF ?_
  | with_reducible refine' DL.Y.lenSet ?_
  | with_reducible refine' DL.Y.inL ?_
  | with_reducible refine' DL.Y.inTp ?_
  | with_reducible refine' DL.Y.slTA ?_
  | with_reducible refine' DL.Y.sortS ?_
  | with_reducible refine' DL.Y.inD ?_
  | with_reducible refine' DL.Y.inD_ ?_
  | with_reducible refine' DL.Y.ixD ?_
  | ((with_reducible refine' DL.Y.mulS ?h ?_); (case' h => (exact ⟨by omega, by omega, by decide⟩)))
  | ((with_reducible refine' DL.Y.mulL ?h ?_); (case' h => (exact ⟨by simp only [List.length_cons, List.length_nil]; omega, by omega, by omega⟩)))
  | walk_at "xu"
  | walk_at "norm")
local macro_rules | `(tactic| walk_at "norm") => `(tactic| (dsimp only [List.set]))
local macro_rules | `(tactic| walk_at "x") => `(tactic| first | walk_at "x0" | with_reducible refine' DL.Y.ifE ?_)
local macro_rules | `(tactic| walk_at "xs") => `(tactic| repeat walk_at "x0")
local macro_rules | `(tactic| walk_at "xx") => `(tactic| repeat walk_at "x")
local macro_rules | `(tactic| walk_at "start") => `(tactic| dsimp only [List.map, List.length_cons, List.length_nil, List.cons_append, List.nil_append, Nat.zero_add, Nat.reduceAdd, Nat.reduceSub, List.reduceReplicate])
namespace DL
open PySem PySem.Spec PyProof.Rows L2 Evl Sup
variable [TabC]
end DL
namespace DL
open PySem PySem.Spec PyProof.Rows L2 Evl Sup
variable [TabC]
end DL
namespace DL
open PySem PySem.Spec PyProof.Rows L2 Evl Sup
variable [TabC]
instance : DecidableEq Lp := fun a b => decidable_of_iff (a.c = b.c ∧ a.q = b.q ∧ a.r = b.r) ⟨fun ⟨h1, h2, h3⟩ => by cases a; cases b; cases h1; cases h2; cases h3; rfl, fun h => by rw [h]; exact ⟨rfl, rfl, rfl⟩⟩
end DL
end
section
open PySem PySem.Spec PyProof.Rows L2 Evl DL
local macro_rules | `(tactic| walk_at "side") => `(tactic| first | exact mul_left (by decide) | exact mul_right (by decide) | exact mul_bd | exact div_bd (by first | assumption | decide | omega) | exact pow_bd (by first | decide | omega) (by first | decide | omega) | assumption | (show (0 : Int) < _; first | decide | omega))
local macro_rules | `(tactic| walk_at "eva") => `(tactic| first | exact DL.EvA.nil | (refine' DL.EvA.cons ?e ?r; (case' e => walk_at "ev"); (case' r => walk_at "eva")))
local macro_rules | `(tactic| walk_at "seq") => `(tactic| first | exact seq_tup | exact seq_lst | exact seq_ref (by assumption))
local macro_rules | `(tactic| walk_at "size") => `(tactic| first | (show _ ≤ sizeLine; simp only [List.length_cons, List.length_nil]; decide) | (rw [sizeLine_eq]; omega))
local macro_rules | `(tactic| walk_at "ev") => `(tactic| first
  | exact DL.Ev.c
  | exact DL.Ev.var rfl
  | (refine' DL.Ev.int ?a ?b; (case' a => walk_at "ev"); (case' b => walk_at "ev"))
  | (refine' DL.Ev.intC ?a ?b ?s; (case' a => walk_at "ev"); (case' b => walk_at "ev"); (case' s => try walk_at "side"))
  | (refine' DL.Ev.add ?a ?b; (case' a => walk_at "ev"); (case' b => walk_at "ev"))
  | (refine' DL.Ev.neg ?a; (case' a => walk_at "ev"))
  | (refine' DL.Ev.intOf ?a; (case' a => walk_at "ev"))
  | (refine' DL.Ev.intB ?a; (case' a => walk_at "ev"))
  | (refine' DL.Ev.absN ?a; (case' a => walk_at "ev"))
  | (refine' DL.Ev.eqI ?a ?b; (case' a => walk_at "ev"); (case' b => walk_at "ev"))
  | (refine' DL.Ev.neI ?a ?b; (case' a => walk_at "ev"); (case' b => walk_at "ev"))
  | (refine' DL.Ev.at ?a ?b ?s ?k; (case' a => walk_at "ev"); (case' b => walk_at "ev"); (case' s => walk_at "seq"); (case' k => try rfl))
  | (refine' DL.Ev.len ?a ?s; (case' a => walk_at "ev"); (case' s => walk_at "seq"))
  | (refine' DL.Ev.tupOf ?a ?s; (case' a => walk_at "ev"); (case' s => walk_at "seq"))
  | (refine' DL.Ev.tup ?a ?z; (case' a => walk_at "eva"); (case' z => try walk_at "size"))
  | (refine' DL.Ev.lst ?a ?z; (case' a => walk_at "eva"); (case' z => try walk_at "size"))
  | (refine' DL.Ev.notV ?a; (case' a => walk_at "ev"))
  | (refine' DL.Ev.isN ?a; (case' a => walk_at "ev"))
  | exact fun R r => r
  | assumption)
local macro_rules | `(tactic| walk_at "set") => `(tactic| (refine' ds_set ?e ?_; (case' e => walk_at "ev")))
local macro_rules | `(tactic| walk_at "ret") => `(tactic| (refine' ds_ret ?e ?_; (case' e => walk_at "ev")))
local macro_rules | `(tactic| walk_at "par") => `(tactic| (refine' ds_par ?e ?f ?_; (case' e => walk_at "ev"); (case' f => walk_at "ev")))
local macro_rules | `(tactic| walk_at "cut") => `(tactic| (simp only [DL.cutD, HT.sIx, List.length_cons, List.length_nil, Nat.zero_add, Nat.reduceAdd, Nat.min_def, Nat.reduceLeDiff, ↓reduceIte, List.drop_zero, List.drop_succ_cons, List.take_zero, List.take_succ_cons, List.take_nil, List.drop_nil, List.cons_append, List.nil_append, Int.reduceLT, Int.reduceToNat, Nat.reduceSub, Nat.sub_zero, Int.reduceNeg, Int.cast_ofNat_Int, Int.reduceAdd]; exact rfl))
local macro_rules | `(tactic| walk_at "xu") => `(tactic| first
  | with_reducible refine' DL.Y.ixS0 ?_
  | with_reducible refine' DL.Y.ixS1 ?_
  | with_reducible refine' DL.Y.ixS2 ?_
  | with_reducible refine' DL.Y.ixP0 ?_
  | with_reducible refine' DL.Y.ixP1 ?_
  | with_reducible refine' DL.Y.lstS ?_
  | with_reducible refine' DL.Y.lstP ?_)
local macro_rules | `(tactic| walk_at "dec") => `(tactic| first | rfl | assumption | exact decide_eq_true (by omega) | exact decide_eq_false (by omega) | exact DL.Y.ndT (by omega) | exact DL.Y.ndF (by omega) | decide +kernel)
local macro_rules | `(tactic| walk_at "size2") => `(tactic| first | exact Nat.le_of_ble_eq_true rfl | omega)
local macro_rules | `(tactic| walk_at "x0") => `(tactic| first
  | with_reducible refine' DL.Y.cons ?_
  | ((with_reducible refine' DL.Y.var ?e ?_); (case' e => (first | exact rfl | assumption)))
  | with_reducible refine' DL.Y.c ?_
  | with_reducible refine' DL.Y.nil ?_
  | with_reducible refine' DL.Y.op ?_
  | with_reducible refine' DL.Y.oint ?_
  | ((with_reducible refine' DL.Y.ointC ?s ?_); (case' s => try walk_at "side"))
  | with_reducible refine' DL.Y.oadd ?_
  | with_reducible refine' DL.Y.oeqI ?_
  | with_reducible refine' DL.Y.oneI ?_
  | with_reducible refine' DL.Y.oeqS ?_
  | with_reducible refine' DL.Y.neS ?_
  | with_reducible refine' DL.Y.oneS ?_
  | with_reducible refine' DL.Y.oeqB ?_
  | with_reducible refine' DL.Y.tst ?_
  | with_reducible refine' DL.Y.bl_ ?_
  | ((with_reducible refine' DL.Y.iRng1_ ?z ?_); (case' z => (omega; done)))
  | with_reducible refine' DL.Y.int_ ?_
  | with_reducible refine' DL.Y.str_ ?_
  | with_reducible refine' DL.Y.ref_ ?_
  | ((with_reducible refine' DL.Y.iteT ?h ?_); (case' h => (walk_at "dec"; done)))
  | ((with_reducible refine' DL.Y.iteF ?h ?_); (case' h => (walk_at "dec"; done)))
  | with_reducible refine' DL.Y.seq ?_
  | with_reducible refine' DL.Y.set ?_
  | with_reducible refine' DL.Y.ifS ?_
  | with_reducible refine' DL.Y.ret ?_
  | with_reducible refine' DL.Y.nx ?_
  | with_reducible refine' DL.Y.drop ?_
  | with_reducible refine' DL.Y.asg ?_
  | with_reducible refine' DL.Y.par ?_
  | with_reducible refine' DL.Y.par_ ?_
  | with_reducible refine' DL.Y.par3 ?_
  | with_reducible refine' DL.Y.par3_ ?_
  | with_reducible refine' DL.Y.bk ?_
  | with_reducible refine' DL.Y.ct ?_
  | with_reducible refine' DL.Y.retN ?_
  | with_reducible refine' DL.Y.gn ?_
  | with_reducible refine' DL.Y.gnil ?_
  | with_reducible refine' DL.Y.gcons ?_
  | ((with_reducible refine' DL.Y.gseqT ?e ?_); (case' e => (rfl; done)))
  | ((with_reducible refine' DL.Y.gseqL ?e ?_); (case' e => (rfl; done)))
  | with_reducible refine' DL.Y.tup ?_
  | with_reducible refine' DL.Y.lst ?_
  | ((with_reducible refine' DL.Y.len_ ?n ?l ?_); (case' n => exact rfl); (case' l => try walk_at "size2"))
  | with_reducible refine' DL.Y.ix ?_
  | ((with_reducible refine' DL.Y.ixT ?e ?_); (case' e => ((first | rfl | assumption); done)))
  | ((with_reducible refine' DL.Y.ixL ?e ?_); (case' e => (rfl; done)))
  | ((with_reducible refine' DL.Y.ixR ?g ?e ?_); (case' g => with_reducible assumption); (case' e => (rfl; done)))
  | with_reducible refine' DL.Y.cal ?_
  | with_reducible refine' DL.Y.lenT ?_
  | with_reducible refine' DL.Y.lenL ?_
  | ((with_reducible refine' DL.Y.lenR ?g ?_); (case' g => with_reducible assumption))
  | with_reducible refine' DL.Y.absI ?_
  | with_reducible refine' DL.Y.intI ?_
  | with_reducible refine' DL.Y.intB ?_
  | with_reducible refine' DL.Y.tupT ?_
  | with_reducible refine' DL.Y.tupL ?_
  | ((with_reducible refine' DL.Y.tupR ?g ?_); (case' g => with_reducible assumption))
  | with_reducible refine' DL.Y.lstT ?_
  | with_reducible refine' DL.Y.lstL ?_
  | with_reducible refine' DL.Y.allL ?_
  | with_reducible refine' DL.Y.anyL ?_
  | ((with_reducible refine' DL.Y.oaddL ?z ?_); (case' z => try walk_at "size2"))
  | ((with_reducible refine' DL.Y.oaddT ?z ?_); (case' z => try walk_at "size2"))
  | with_reducible refine' DL.Y.oisB ?_
  | with_reducible refine' DL.Y.onotB ?_
  | with_reducible refine' DL.Y.neg ?_
  | with_reducible refine' DL.Y.notT ?_
  | with_reducible refine' DL.Y.andT ?_
  | with_reducible refine' DL.Y.orT ?_
  | with_reducible refine' DL.Y.yes ?_
  | with_reducible refine' DL.Y.ifT ?_
  | with_reducible refine' DL.Y.andV ?_
  | with_reducible refine' DL.Y.orV ?_
  | with_reducible refine' DL.Y.notV ?_
  | with_reducible refine' DL.Y.isN ?_
  | with_reducible refine' DL.Y.notN ?_
  | ((with_reducible refine' DL.Y.isi_ ?e ?_); (case' e => (rfl; done)))
  | with_reducible refine' DL.Y.isiT ?_
  | with_reducible refine' DL.Y.chain ?_
  | with_reducible refine' DL.Y.sl ?_
  | with_reducible refine' DL.Y.noP ?_
  | with_reducible refine' DL.Y.part ?_
  | ((with_reducible refine' DL.Y.slLl ?n ?e ?_); (case' n => (rfl; done)); (case' e => walk_at "cut"))
  | ((with_reducible refine' DL.Y.slTl ?n ?m ?e ?_); (case' n => (rfl; done)); (case' m => (simp [HT.sIx]; done)); (case' e => walk_at "cut"))
  | with_reducible refine' DL.Y.slL ?_
  | with_reducible refine' DL.Y.call ?_
  | with_reducible refine' DL.Y.callK ?_
  | with_reducible refine' DL.Y.callD ?_
  | with_reducible refine' DL.Y.fld ?_
  | ((with_reducible refine' DL.Y.fld_ ?f ?e ?_); (case' f => (first | rfl | assumption); done); (case' e => (rfl; done)))
  | with_reducible refine' DL.Y.isW_ ?_
  | with_reducible refine' DL.Y.inK ?_
  | with_reducible refine' DL.Y.iSeq ?_
  | with_reducible refine' DL.Y.iSeqL ?_
  | with_reducible refine' DL.Y.iSeqT ?_
  | with_reducible refine' DL.Y.iRng1 ?_
  | with_reducible refine' DL.Y.iZip ?_
  | with_reducible refine' DL.Y.iZipT ?_
  | with_reducible refine' DL.Y.iZipL ?_
  | with_reducible refine' DL.Y.iZipR ?_
  | with_reducible refine' DL.Y.iZipM ?_
  | with_reducible refine' DL.Y.iEnum ?_
  | with_reducible refine' DL.Y.iEnumT ?_
  | with_reducible refine' DL.Y.iEnumL ?_
  | with_reducible refine' DL.Y.for_ ?_
  | with_reducible refine' DL.Y.cmp ?_
  | with_reducible refine' DL.Y.isO ?_
  | ((with_reducible refine' DL.Y.isO_ (isO_exc ?c) ?_); (case' c => (decide +kernel; done)))
  | ((with_reducible refine' DL.Y.isO_ ?e ?_); (case' e => (rfl; done)))
  | ((with_reducible refine' DL.Y.isW1 ?e ?_); (case' e => (first | assumption | (rfl; done))))
  | with_reducible refine' DL.Y.xf ?_
  | ((with_reducible refine' DL.Y.xf_ ?c ?e ?_); (case' c => (decide +kernel; done)); (case' e => (first | assumption | (rfl; done))))
  | with_reducible refine' DL.Y.mk ?_
  | with_reducible refine' DL.Y.dctM ?_
  | with_reducible refine' DL.Y.dct0 ?_
  | with_reducible refine' DL.Y.lstM ?_
  | with_reducible refine' DL.Y.rev ?_
  | with_reducible refine' DL.Y.revL ?_
  | with_reducible refine' DL.Y.dget ?_
  | with_reducible refine' DL.Y.dput ?_
  | with_reducible refine' DL.Y.app ?_
  | with_reducible refine' DL.Y.gc ?_
  | with_reducible refine' DL.Y.boolB ?_
  | with_reducible refine' DL.Y.disp ?_
  | with_reducible refine' DL.Y.valsC ?_
  | with_reducible refine' DL.Y.valsN ?_
  | with_reducible refine' DL.Y.ownEq ?_
  | with_reducible refine' DL.Y.cmp2 ?_
  | with_reducible refine' DL.Y.star ?_
  | with_reducible refine' DL.Y.meth ?_
  | with_reducible refine' DL.Y.index ?_
  | with_reducible refine' DL.Y.backT ?_
  | with_reducible refine' DL.Y.iRngV ?_
  | with_reducible refine' DL.Y.rng1_ ?_
  | with_reducible refine' DL.Y.rng2_ ?_
  | with_reducible refine' DL.Y.rngV_ ?_
  | ((with_reducible refine' DL.Y.fld_ ?f ?e ?_); (case' f => ((first | rfl | assumption | decide +kernel); done)); (case' e => (rfl; done)))
  | with_reducible refine' DL.Y.chLe ?_
  | with_reducible refine' DL.Y.chLt ?_
  | with_reducible refine' DL.Y.setF ?_
  | with_reducible refine' DL.Y.lenSet ?_
  | with_reducible refine' DL.Y.inL ?_
  | with_reducible refine' DL.Y.inTp ?_
  | with_reducible refine' DL.Y.slTA ?_
  | with_reducible refine' DL.Y.sortS ?_
  | with_reducible refine' DL.Y.iRng2 ?_
  | ((with_reducible refine' DL.Y.iRng2_ ?z ?_); (case' z => (omega; done)))
  | with_reducible refine' DL.Y.inD ?_
  | with_reducible refine' DL.Y.inD_ ?_
  | with_reducible refine' DL.Y.ixD ?_
  | ((with_reducible refine' DL.Y.mulS ?h ?_); (case' h => (exact ⟨by omega, by omega, by decide⟩)))
  | ((with_reducible refine' DL.Y.mulL ?h ?_); (case' h => (exact ⟨by simp only [List.length_cons, List.length_nil]; omega, by omega, by omega⟩)))
  | walk_at "xu"
  | walk_at "norm")
local macro_rules | `(tactic| walk_at "norm") => `(tactic| (dsimp only [List.set]))
local macro_rules | `(tactic| walk_at "x") => `(tactic| first | walk_at "x0" | with_reducible refine' DL.Y.ifE ?_)
local macro_rules | `(tactic| walk_at "xs") => `(tactic| repeat walk_at "x0")
local macro_rules | `(tactic| walk_at "xx") => `(tactic| repeat walk_at "x")
local macro_rules | `(tactic| walk_at "start") => `(tactic| dsimp only [List.map, List.length_cons, List.length_nil, List.cons_append, List.nil_append, Nat.zero_add, Nat.reduceAdd, Nat.reduceSub, List.reduceReplicate])
namespace DL
open PySem PySem.Spec PyProof.Rows L2 Evl Sup
variable [TabC]
end DL
end
section
open PySem PySem.Spec PyProof.Rows L2 Evl DL
local macro_rules | `(tactic| walk_at "side") => `(tactic| first | exact mul_left (by decide) | exact mul_right (by decide) | exact mul_bd | exact div_bd (by first | assumption | decide | omega) | exact pow_bd (by first | decide | omega) (by first | decide | omega) | assumption | (show (0 : Int) < _; first | decide | omega))
local macro_rules | `(tactic| walk_at "eva") => `(tactic| first | exact DL.EvA.nil | (refine' DL.EvA.cons ?e ?r; (case' e => walk_at "ev"); (case' r => walk_at "eva")))
local macro_rules | `(tactic| walk_at "seq") => `(tactic| first | exact seq_tup | exact seq_lst | exact seq_ref (by assumption))
local macro_rules | `(tactic| walk_at "size") => `(tactic| first | (show _ ≤ sizeLine; simp only [List.length_cons, List.length_nil]; decide) | (rw [sizeLine_eq]; omega))
local macro_rules | `(tactic| walk_at "ev") => `(tactic| first
  | exact DL.Ev.c
  | exact DL.Ev.var rfl
  | (refine' DL.Ev.int ?a ?b; (case' a => walk_at "ev"); (case' b => walk_at "ev"))
  | (refine' DL.Ev.intC ?a ?b ?s; (case' a => walk_at "ev"); (case' b => walk_at "ev"); (case' s => try walk_at "side"))
  | (refine' DL.Ev.add ?a ?b; (case' a => walk_at "ev"); (case' b => walk_at "ev"))
  | (refine' DL.Ev.neg ?a; (case' a => walk_at "ev"))
  | (refine' DL.Ev.intOf ?a; (case' a => walk_at "ev"))
  | (refine' DL.Ev.intB ?a; (case' a => walk_at "ev"))
  | (refine' DL.Ev.absN ?a; (case' a => walk_at "ev"))
  | (refine' DL.Ev.eqI ?a ?b; (case' a => walk_at "ev"); (case' b => walk_at "ev"))
  | (refine' DL.Ev.neI ?a ?b; (case' a => walk_at "ev"); (case' b => walk_at "ev"))
  | (refine' DL.Ev.at ?a ?b ?s ?k; (case' a => walk_at "ev"); (case' b => walk_at "ev"); (case' s => walk_at "seq"); (case' k => try rfl))
  | (refine' DL.Ev.len ?a ?s; (case' a => walk_at "ev"); (case' s => walk_at "seq"))
  | (refine' DL.Ev.tupOf ?a ?s; (case' a => walk_at "ev"); (case' s => walk_at "seq"))
  | (refine' DL.Ev.tup ?a ?z; (case' a => walk_at "eva"); (case' z => try walk_at "size"))
  | (refine' DL.Ev.lst ?a ?z; (case' a => walk_at "eva"); (case' z => try walk_at "size"))
  | (refine' DL.Ev.notV ?a; (case' a => walk_at "ev"))
  | (refine' DL.Ev.isN ?a; (case' a => walk_at "ev"))
  | exact fun R r => r
  | assumption)
local macro_rules | `(tactic| walk_at "set") => `(tactic| (refine' ds_set ?e ?_; (case' e => walk_at "ev")))
local macro_rules | `(tactic| walk_at "ret") => `(tactic| (refine' ds_ret ?e ?_; (case' e => walk_at "ev")))
local macro_rules | `(tactic| walk_at "par") => `(tactic| (refine' ds_par ?e ?f ?_; (case' e => walk_at "ev"); (case' f => walk_at "ev")))
local macro_rules | `(tactic| walk_at "cut") => `(tactic| (simp only [DL.cutD, HT.sIx, List.length_cons, List.length_nil, Nat.zero_add, Nat.reduceAdd, Nat.min_def, Nat.reduceLeDiff, ↓reduceIte, List.drop_zero, List.drop_succ_cons, List.take_zero, List.take_succ_cons, List.take_nil, List.drop_nil, List.cons_append, List.nil_append, Int.reduceLT, Int.reduceToNat, Nat.reduceSub, Nat.sub_zero, Int.reduceNeg, Int.cast_ofNat_Int, Int.reduceAdd]; exact rfl))
local macro_rules | `(tactic| walk_at "xu") => `(tactic| first
  | with_reducible refine' DL.Y.ixS0 ?_
  | with_reducible refine' DL.Y.ixS1 ?_
  | with_reducible refine' DL.Y.ixS2 ?_
  | with_reducible refine' DL.Y.ixP0 ?_
  | with_reducible refine' DL.Y.ixP1 ?_
  | with_reducible refine' DL.Y.lstS ?_
  | with_reducible refine' DL.Y.lstP ?_)
local macro_rules | `(tactic| walk_at "dec") => `(tactic| first | rfl | assumption | exact decide_eq_true (by omega) | exact decide_eq_false (by omega) | exact DL.Y.ndT (by omega) | exact DL.Y.ndF (by omega) | decide +kernel)
local macro_rules | `(tactic| walk_at "size2") => `(tactic| first | exact Nat.le_of_ble_eq_true rfl | omega)
local macro_rules | `(tactic| walk_at "x0") => `(tactic| first
  | with_reducible refine' DL.Y.cons ?_
  | ((with_reducible refine' DL.Y.var ?e ?_); (case' e => (first | exact rfl | assumption)))
  | with_reducible refine' DL.Y.c ?_
  | with_reducible refine' DL.Y.nil ?_
  | with_reducible refine' DL.Y.op ?_
  | with_reducible refine' DL.Y.oint ?_
  | ((with_reducible refine' DL.Y.ointC ?s ?_); (case' s => try walk_at "side"))
  | with_reducible refine' DL.Y.oadd ?_
  | with_reducible refine' DL.Y.oeqI ?_
  | with_reducible refine' DL.Y.oneI ?_
  | with_reducible refine' DL.Y.oeqS ?_
  | with_reducible refine' DL.Y.neS ?_
  | with_reducible refine' DL.Y.oneS ?_
  | with_reducible refine' DL.Y.oeqB ?_
  | with_reducible refine' DL.Y.tst ?_
  | with_reducible refine' DL.Y.bl_ ?_
  | ((with_reducible refine' DL.Y.iRng1_ ?z ?_); (case' z => (omega; done)))
  | with_reducible refine' DL.Y.int_ ?_
  | with_reducible refine' DL.Y.str_ ?_
  | with_reducible refine' DL.Y.ref_ ?_
  | ((with_reducible refine' DL.Y.iteT ?h ?_); (case' h => (walk_at "dec"; done)))
  | ((with_reducible refine' DL.Y.iteF ?h ?_); (case' h => (walk_at "dec"; done)))
  | with_reducible refine' DL.Y.seq ?_
  | with_reducible refine' DL.Y.set ?_
  | with_reducible refine' DL.Y.ifS ?_
  | with_reducible refine' DL.Y.ret ?_
  | with_reducible refine' DL.Y.nx ?_
  | with_reducible refine' DL.Y.drop ?_
  | with_reducible refine' DL.Y.asg ?_
  | with_reducible refine' DL.Y.par ?_
  | with_reducible refine' DL.Y.par_ ?_
  | with_reducible refine' DL.Y.par3 ?_
  | with_reducible refine' DL.Y.par3_ ?_
  | with_reducible refine' DL.Y.bk ?_
  | with_reducible refine' DL.Y.ct ?_
  | with_reducible refine' DL.Y.retN ?_
  | with_reducible refine' DL.Y.gn ?_
  | with_reducible refine' DL.Y.gnil ?_
  | with_reducible refine' DL.Y.gcons ?_
  | ((with_reducible refine' DL.Y.gseqT ?e ?_); (case' e => (rfl; done)))
  | ((with_reducible refine' DL.Y.gseqL ?e ?_); (case' e => (rfl; done)))
  | with_reducible refine' DL.Y.tup ?_
  | with_reducible refine' DL.Y.lst ?_
  | ((with_reducible refine' DL.Y.len_ ?n ?l ?_); (case' n => exact rfl); (case' l => try walk_at "size2"))
  | with_reducible refine' DL.Y.ix ?_
  | ((with_reducible refine' DL.Y.ixT ?e ?_); (case' e => ((first | rfl | assumption); done)))
  | ((with_reducible refine' DL.Y.ixL ?e ?_); (case' e => (rfl; done)))
  | ((with_reducible refine' DL.Y.ixR ?g ?e ?_); (case' g => with_reducible assumption); (case' e => (rfl; done)))
  | with_reducible refine' DL.Y.cal ?_
  | with_reducible refine' DL.Y.lenT ?_
  | with_reducible refine' DL.Y.lenL ?_
  | ((with_reducible refine' DL.Y.lenR ?g ?_); (case' g => with_reducible assumption))
  | with_reducible refine' DL.Y.absI ?_
  | with_reducible refine' DL.Y.intI ?_
  | with_reducible refine' DL.Y.intB ?_
  | with_reducible refine' DL.Y.tupT ?_
  | with_reducible refine' DL.Y.tupL ?_
  | ((with_reducible refine' DL.Y.tupR ?g ?_); (case' g => with_reducible assumption))
  | with_reducible refine' DL.Y.lstT ?_
  | with_reducible refine' DL.Y.lstL ?_
  | with_reducible refine' DL.Y.allL ?_
  | with_reducible refine' DL.Y.anyL ?_
  | ((with_reducible refine' DL.Y.oaddL ?z ?_); (case' z => try walk_at "size2"))
  | ((with_reducible refine' DL.Y.oaddT ?z ?_); (case' z => try walk_at "size2"))
  | with_reducible refine' DL.Y.oisB ?_
  | with_reducible refine' DL.Y.onotB ?_
  | with_reducible refine' DL.Y.neg ?_
  | with_reducible refine' DL.Y.notT ?_
  | with_reducible refine' DL.Y.andT ?_
  | with_reducible refine' DL.Y.orT ?_
  | with_reducible refine' DL.Y.yes ?_
  | with_reducible refine' DL.Y.ifT ?_
  | with_reducible refine' DL.Y.andV ?_
  | with_reducible refine' DL.Y.orV ?_
  | with_reducible refine' DL.Y.notV ?_
  | with_reducible refine' DL.Y.isN ?_
  | with_reducible refine' DL.Y.notN ?_
  | ((with_reducible refine' DL.Y.isi_ ?e ?_); (case' e => (rfl; done)))
  | with_reducible refine' DL.Y.isiT ?_
  | with_reducible refine' DL.Y.chain ?_
  | with_reducible refine' DL.Y.sl ?_
  | with_reducible refine' DL.Y.noP ?_
  | with_reducible refine' DL.Y.part ?_
  | ((with_reducible refine' DL.Y.slLl ?n ?e ?_); (case' n => (rfl; done)); (case' e => walk_at "cut"))
  | ((with_reducible refine' DL.Y.slTl ?n ?m ?e ?_); (case' n => (rfl; done)); (case' m => (simp [HT.sIx]; done)); (case' e => walk_at "cut"))
  | with_reducible refine' DL.Y.slL ?_
  | with_reducible refine' DL.Y.call ?_
  | with_reducible refine' DL.Y.callK ?_
  | with_reducible refine' DL.Y.callD ?_
  | with_reducible refine' DL.Y.fld ?_
  | ((with_reducible refine' DL.Y.fld_ ?f ?e ?_); (case' f => (first | rfl | assumption); done); (case' e => (rfl; done)))
  | with_reducible refine' DL.Y.isW_ ?_
  | with_reducible refine' DL.Y.inK ?_
  | with_reducible refine' DL.Y.iSeq ?_
  | with_reducible refine' DL.Y.iSeqL ?_
  | with_reducible refine' DL.Y.iSeqT ?_
  | with_reducible refine' DL.Y.iRng1 ?_
  | with_reducible refine' DL.Y.iZip ?_
  | with_reducible refine' DL.Y.iZipT ?_
  | with_reducible refine' DL.Y.iZipL ?_
  | with_reducible refine' DL.Y.iZipR ?_
  | with_reducible refine' DL.Y.iZipM ?_
  | with_reducible refine' DL.Y.iEnum ?_
  | with_reducible refine' DL.Y.iEnumT ?_
  | with_reducible refine' DL.Y.iEnumL ?_
  | with_reducible refine' DL.Y.for_ ?_
  | with_reducible refine' DL.Y.cmp ?_
  | with_reducible refine' DL.Y.isO ?_
  | ((with_reducible refine' DL.Y.isO_ (isO_exc ?c) ?_); (case' c => (decide +kernel; done)))
  | ((with_reducible refine' DL.Y.isO_ ?e ?_); (case' e => (rfl; done)))
  | ((with_reducible refine' DL.Y.isW1 ?e ?_); (case' e => (first | assumption | (rfl; done))))
  | with_reducible refine' DL.Y.xf ?_
  | ((with_reducible refine' DL.Y.xf_ ?c ?e ?_); (case' c => (decide +kernel; done)); (case' e => (first | assumption | (rfl; done))))
  | with_reducible refine' DL.Y.mk ?_
  | with_reducible refine' DL.Y.dctM ?_
  | with_reducible refine' DL.Y.dct0 ?_
  | with_reducible refine' DL.Y.lstM ?_
  | with_reducible refine' DL.Y.rev ?_
  | with_reducible refine' DL.Y.revL ?_
  | with_reducible refine' DL.Y.dget ?_
  | with_reducible refine' DL.Y.dput ?_
  | with_reducible refine' DL.Y.app ?_
  | with_reducible refine' DL.Y.gc ?_
  | with_reducible refine' DL.Y.boolB ?_
  | with_reducible refine' DL.Y.disp ?_
  | with_reducible refine' DL.Y.valsC ?_
  | with_reducible refine' DL.Y.valsN ?_
  | with_reducible refine' DL.Y.ownEq ?_
  | with_reducible refine' DL.Y.cmp2 ?_
  | with_reducible refine' DL.Y.star ?_
  | with_reducible refine' DL.Y.meth ?_
  | with_reducible refine' DL.Y.index ?_
  | with_reducible refine' DL.Y.backT ?_
  | with_reducible refine' DL.Y.iRngV ?_
  | with_reducible refine' DL.Y.rng1_ ?_
  | with_reducible refine' DL.Y.rng2_ ?_
  | with_reducible refine' DL.Y.rngV_ ?_
  | ((with_reducible refine' DL.Y.fld_ ?f ?e ?_); (case' f => ((first | rfl | assumption | decide +kernel); done)); (case' e => (rfl; done)))
  | with_reducible refine' DL.Y.chLe ?_
  | with_reducible refine' DL.Y.chLt ?_
  | with_reducible refine' DL.Y.setF ?_
  | with_reducible refine' DL.Y.lenSet ?_
  | with_reducible refine' DL.Y.inL ?_
  | with_reducible refine' DL.Y.inTp ?_
  | with_reducible refine' DL.Y.slTA ?_
  | with_reducible refine' DL.Y.sortS ?_
  | with_reducible refine' DL.Y.iRng2 ?_
  | ((with_reducible refine' DL.Y.iRng2_ ?z ?_); (case' z => (omega; done)))
  | with_reducible refine' DL.Y.inD ?_
  | with_reducible refine' DL.Y.inD_ ?_
  | with_reducible refine' DL.Y.ixD ?_
  | ((with_reducible refine' DL.Y.mulS ?h ?_); (case' h => (exact ⟨by omega, by omega, by decide⟩)))
  | ((with_reducible refine' DL.Y.mulL ?h ?_); (case' h => (exact ⟨by simp only [List.length_cons, List.length_nil]; omega, by omega, by omega⟩)))
  | walk_at "xu"
  | walk_at "norm")
local macro_rules | `(tactic| walk_at "norm") => `(tactic| (dsimp only [List.set]))
local macro_rules | `(tactic| walk_at "x") => `(tactic| first | walk_at "x0" | with_reducible refine' DL.Y.ifE ?_)
local macro_rules | `(tactic| walk_at "xs") => `(tactic| repeat walk_at "x0")
local macro_rules | `(tactic| walk_at "xx") => `(tactic| repeat walk_at "x")
local macro_rules | `(tactic| walk_at "start") => `(tactic| dsimp only [List.map, List.length_cons, List.length_nil, List.cons_append, List.nil_append, Nat.zero_add, Nat.reduceAdd, Nat.reduceSub, List.reduceReplicate])
namespace DL
open PySem PySem.Spec PyProof.Rows L2 Evl Sup
variable [TabC]
end DL
namespace DL
open PySem PySem.Spec PyProof.Rows L2 Evl Sup
variable [TabC]
end DL
namespace DL
open PySem PySem.Spec PyProof.Rows L2 Evl Sup
variable [TabC]
end DL
namespace DL
open PySem PySem.Spec PyProof.Rows L2 Evl Sup
variable [TabC]
end DL
namespace DL
open PySem PySem.Spec PyProof.Rows L2 Evl Sup
variable [TabC]
end DL
namespace DL
open PySem PySem.Spec PyProof.Rows L2 Evl Sup
variable [TabC]
end DL
namespace DL
open PySem PySem.Spec PyProof.Rows L2 Evl Sup
variable [TabC]
end DL
namespace DL
open PySem PySem.Spec PyProof.Rows L2 Evl Sup
variable [TabC]
end DL
namespace DL
open PySem PySem.Spec PyProof.Rows L2 Evl Sup
variable [TabC]
end DL
end
section
open PySem PySem.Spec PyProof.Rows L2 Evl DL
local macro_rules | `(tactic| walk_at "side") => `(tactic| first | exact mul_left (by decide) | exact mul_right (by decide) | exact mul_bd | exact div_bd (by first | assumption | decide | omega) | exact pow_bd (by first | decide | omega) (by first | decide | omega) | assumption | (show (0 : Int) < _; first | decide | omega))
local macro_rules | `(tactic| walk_at "eva") => `(tactic| first | exact DL.EvA.nil | (refine' DL.EvA.cons ?e ?r; (case' e => walk_at "ev"); (case' r => walk_at "eva")))
local macro_rules | `(tactic| walk_at "seq") => `(tactic| first | exact seq_tup | exact seq_lst | exact seq_ref (by assumption))
local macro_rules | `(tactic| walk_at "size") => `(tactic| first | (show _ ≤ sizeLine; simp only [List.length_cons, List.length_nil]; decide) | (rw [sizeLine_eq]; omega))
local macro_rules | `(tactic| walk_at "ev") => `(tactic| first
  | exact DL.Ev.c
  | exact DL.Ev.var rfl
  | (refine' DL.Ev.int ?a ?b; (case' a => walk_at "ev"); (case' b => walk_at "ev"))
  | (refine' DL.Ev.intC ?a ?b ?s; (case' a => walk_at "ev"); (case' b => walk_at "ev"); (case' s => try walk_at "side"))
  | (refine' DL.Ev.add ?a ?b; (case' a => walk_at "ev"); (case' b => walk_at "ev"))
  | (refine' DL.Ev.neg ?a; (case' a => walk_at "ev"))
  | (refine' DL.Ev.intOf ?a; (case' a => walk_at "ev"))
  | (refine' DL.Ev.intB ?a; (case' a => walk_at "ev"))
  | (refine' DL.Ev.absN ?a; (case' a => walk_at "ev"))
  | (refine' DL.Ev.eqI ?a ?b; (case' a => walk_at "ev"); (case' b => walk_at "ev"))
  | (refine' DL.Ev.neI ?a ?b; (case' a => walk_at "ev"); (case' b => walk_at "ev"))
  | (refine' DL.Ev.at ?a ?b ?s ?k; (case' a => walk_at "ev"); (case' b => walk_at "ev"); (case' s => walk_at "seq"); (case' k => try rfl))
  | (refine' DL.Ev.len ?a ?s; (case' a => walk_at "ev"); (case' s => walk_at "seq"))
  | (refine' DL.Ev.tupOf ?a ?s; (case' a => walk_at "ev"); (case' s => walk_at "seq"))
  | (refine' DL.Ev.tup ?a ?z; (case' a => walk_at "eva"); (case' z => try walk_at "size"))
  | (refine' DL.Ev.lst ?a ?z; (case' a => walk_at "eva"); (case' z => try walk_at "size"))
  | (refine' DL.Ev.notV ?a; (case' a => walk_at "ev"))
  | (refine' DL.Ev.isN ?a; (case' a => walk_at "ev"))
  | exact fun R r => r
  | assumption)
local macro_rules | `(tactic| walk_at "set") => `(tactic| (refine' ds_set ?e ?_; (case' e => walk_at "ev")))
local macro_rules | `(tactic| walk_at "ret") => `(tactic| (refine' ds_ret ?e ?_; (case' e => walk_at "ev")))
local macro_rules | `(tactic| walk_at "par") => `(tactic| (refine' ds_par ?e ?f ?_; (case' e => walk_at "ev"); (case' f => walk_at "ev")))
local macro_rules | `(tactic| walk_at "cut") => `(tactic| (simp only [DL.cutD, HT.sIx, List.length_cons, List.length_nil, Nat.zero_add, Nat.reduceAdd, Nat.min_def, Nat.reduceLeDiff, ↓reduceIte, List.drop_zero, List.drop_succ_cons, List.take_zero, List.take_succ_cons, List.take_nil, List.drop_nil, List.cons_append, List.nil_append, Int.reduceLT, Int.reduceToNat, Nat.reduceSub, Nat.sub_zero, Int.reduceNeg, Int.cast_ofNat_Int, Int.reduceAdd]; exact rfl))
local macro_rules | `(tactic| walk_at "xu") => `(tactic| first
  | with_reducible refine' DL.Y.ixS0 ?_
  | with_reducible refine' DL.Y.ixS1 ?_
  | with_reducible refine' DL.Y.ixS2 ?_
  | with_reducible refine' DL.Y.ixP0 ?_
  | with_reducible refine' DL.Y.ixP1 ?_
  | with_reducible refine' DL.Y.lstS ?_
  | with_reducible refine' DL.Y.lstP ?_)
local macro_rules | `(tactic| walk_at "dec") => `(tactic| first | rfl | assumption | exact decide_eq_true (by omega) | exact decide_eq_false (by omega) | exact DL.Y.ndT (by omega) | exact DL.Y.ndF (by omega) | decide +kernel)
local macro_rules | `(tactic| walk_at "size2") => `(tactic| first | exact Nat.le_of_ble_eq_true rfl | omega)
local macro_rules | `(tactic| walk_at "x0") => `(tactic| first
  | with_reducible refine' DL.Y.cons ?_
  | ((with_reducible refine' DL.Y.var ?e ?_); (case' e => (first | exact rfl | assumption)))
  | with_reducible refine' DL.Y.c ?_
  | with_reducible refine' DL.Y.nil ?_
  | with_reducible refine' DL.Y.op ?_
  | with_reducible refine' DL.Y.oint ?_
  | ((with_reducible refine' DL.Y.ointC ?s ?_); (case' s => try walk_at "side"))
  | with_reducible refine' DL.Y.oadd ?_
  | with_reducible refine' DL.Y.oeqI ?_
  | with_reducible refine' DL.Y.oneI ?_
  | with_reducible refine' DL.Y.oeqS ?_
  | with_reducible refine' DL.Y.neS ?_
  | with_reducible refine' DL.Y.oneS ?_
  | with_reducible refine' DL.Y.oeqB ?_
  | with_reducible refine' DL.Y.tst ?_
  | with_reducible refine' DL.Y.bl_ ?_
  | ((with_reducible refine' DL.Y.iRng1_ ?z ?_); (case' z => (omega; done)))
  | with_reducible refine' DL.Y.int_ ?_
  | with_reducible refine' DL.Y.str_ ?_
  | with_reducible refine' DL.Y.ref_ ?_
  | ((with_reducible refine' DL.Y.iteT ?h ?_); (case' h => (walk_at "dec"; done)))
  | ((with_reducible refine' DL.Y.iteF ?h ?_); (case' h => (walk_at "dec"; done)))
  | with_reducible refine' DL.Y.seq ?_
  | with_reducible refine' DL.Y.set ?_
  | with_reducible refine' DL.Y.ifS ?_
  | with_reducible refine' DL.Y.ret ?_
  | with_reducible refine' DL.Y.nx ?_
  | with_reducible refine' DL.Y.drop ?_
  | with_reducible refine' DL.Y.asg ?_
  | with_reducible refine' DL.Y.par ?_
  | with_reducible refine' DL.Y.par_ ?_
  | with_reducible refine' DL.Y.par3 ?_
  | with_reducible refine' DL.Y.par3_ ?_
  | with_reducible refine' DL.Y.bk ?_
  | with_reducible refine' DL.Y.ct ?_
  | with_reducible refine' DL.Y.retN ?_
  | with_reducible refine' DL.Y.gn ?_
  | with_reducible refine' DL.Y.gnil ?_
  | with_reducible refine' DL.Y.gcons ?_
  | ((with_reducible refine' DL.Y.gseqT ?e ?_); (case' e => (rfl; done)))
  | ((with_reducible refine' DL.Y.gseqL ?e ?_); (case' e => (rfl; done)))
  | with_reducible refine' DL.Y.tup ?_
  | with_reducible refine' DL.Y.lst ?_
  | ((with_reducible refine' DL.Y.len_ ?n ?l ?_); (case' n => exact rfl); (case' l => try walk_at "size2"))
  | with_reducible refine' DL.Y.ix ?_
  | ((with_reducible refine' DL.Y.ixT ?e ?_); (case' e => ((first | rfl | assumption); done)))
  | ((with_reducible refine' DL.Y.ixL ?e ?_); (case' e => (rfl; done)))
  | ((with_reducible refine' DL.Y.ixR ?g ?e ?_); (case' g => with_reducible assumption); (case' e => (rfl; done)))
  | with_reducible refine' DL.Y.cal ?_
  | with_reducible refine' DL.Y.lenT ?_
  | with_reducible refine' DL.Y.lenL ?_
  | ((with_reducible refine' DL.Y.lenR ?g ?_); (case' g => with_reducible assumption))
  | with_reducible refine' DL.Y.absI ?_
  | with_reducible refine' DL.Y.intI ?_
  | with_reducible refine' DL.Y.intB ?_
  | with_reducible refine' DL.Y.tupT ?_
  | with_reducible refine' DL.Y.tupL ?_
  | ((with_reducible refine' DL.Y.tupR ?g ?_); (case' g => with_reducible assumption))
  | with_reducible refine' DL.Y.lstT ?_
  | with_reducible refine' DL.Y.lstL ?_
  | with_reducible refine' DL.Y.allL ?_
  | with_reducible refine' DL.Y.anyL ?_
  | ((with_reducible refine' DL.Y.oaddL ?z ?_); (case' z => try walk_at "size2"))
  | ((with_reducible refine' DL.Y.oaddT ?z ?_); (case' z => try walk_at "size2"))
  | with_reducible refine' DL.Y.oisB ?_
  | with_reducible refine' DL.Y.onotB ?_
  | with_reducible refine' DL.Y.neg ?_
  | with_reducible refine' DL.Y.notT ?_
  | with_reducible refine' DL.Y.andT ?_
  | with_reducible refine' DL.Y.orT ?_
  | with_reducible refine' DL.Y.yes ?_
  | with_reducible refine' DL.Y.ifT ?_
  | with_reducible refine' DL.Y.andV ?_
  | with_reducible refine' DL.Y.orV ?_
  | with_reducible refine' DL.Y.notV ?_
  | with_reducible refine' DL.Y.isN ?_
  | with_reducible refine' DL.Y.notN ?_
  | ((with_reducible refine' DL.Y.isi_ ?e ?_); (case' e => (rfl; done)))
  | with_reducible refine' DL.Y.isiT ?_
  | with_reducible refine' DL.Y.chain ?_
  | with_reducible refine' DL.Y.sl ?_
  | with_reducible refine' DL.Y.noP ?_
  | with_reducible refine' DL.Y.part ?_
  | ((with_reducible refine' DL.Y.slLl ?n ?e ?_); (case' n => (rfl; done)); (case' e => walk_at "cut"))
  | ((with_reducible refine' DL.Y.slTl ?n ?m ?e ?_); (case' n => (rfl; done)); (case' m => (simp [HT.sIx]; done)); (case' e => walk_at "cut"))
  | with_reducible refine' DL.Y.slL ?_
  | with_reducible refine' DL.Y.call ?_
  | with_reducible refine' DL.Y.callK ?_
  | with_reducible refine' DL.Y.callD ?_
  | with_reducible refine' DL.Y.fld ?_
  | ((with_reducible refine' DL.Y.fld_ ?f ?e ?_); (case' f => (first | rfl | assumption); done); (case' e => (rfl; done)))
  | with_reducible refine' DL.Y.isW_ ?_
  | with_reducible refine' DL.Y.inK ?_
  | with_reducible refine' DL.Y.iSeq ?_
  | with_reducible refine' DL.Y.iSeqL ?_
  | with_reducible refine' DL.Y.iSeqT ?_
  | with_reducible refine' DL.Y.iRng1 ?_
  | with_reducible refine' DL.Y.iZip ?_
  | with_reducible refine' DL.Y.iZipT ?_
  | with_reducible refine' DL.Y.iZipL ?_
  | with_reducible refine' DL.Y.iZipR ?_
  | with_reducible refine' DL.Y.iZipM ?_
  | with_reducible refine' DL.Y.iEnum ?_
  | with_reducible refine' DL.Y.iEnumT ?_
  | with_reducible refine' DL.Y.iEnumL ?_
  | with_reducible refine' DL.Y.for_ ?_
  | with_reducible refine' DL.Y.cmp ?_
  | with_reducible refine' DL.Y.cmpM ?_
  | with_reducible refine' DL.Y.cmpQ ?_
  | with_reducible refine' DL.Y.isO ?_
  | ((with_reducible refine' DL.Y.isO_ (isO_exc ?c) ?_); (case' c => (decide +kernel; done)))
  | ((with_reducible refine' DL.Y.isO_ ?e ?_); (case' e => (rfl; done)))
  | ((with_reducible refine' DL.Y.isW1 ?e ?_); (case' e => (first | assumption | (rfl; done))))
  | with_reducible refine' DL.Y.xf ?_
  | ((with_reducible refine' DL.Y.xf_ ?c ?e ?_); (case' c => (decide +kernel; done)); (case' e => (first | assumption | (rfl; done))))
  | with_reducible refine' DL.Y.mk ?_
  | with_reducible refine' DL.Y.dctM ?_
  | with_reducible refine' DL.Y.dct0 ?_
  | with_reducible refine' DL.Y.lstM ?_
  | with_reducible refine' DL.Y.rev ?_
  | with_reducible refine' DL.Y.revL ?_
  | with_reducible refine' DL.Y.dget ?_
  | with_reducible refine' DL.Y.dput ?_
  | with_reducible refine' DL.Y.app ?_
  | with_reducible refine' DL.Y.gc ?_
  | with_reducible refine' DL.Y.boolB ?_
  | with_reducible refine' DL.Y.disp ?_
  | with_reducible refine' DL.Y.valsC ?_
  | with_reducible refine' DL.Y.valsN ?_
  | with_reducible refine' DL.Y.ownEq ?_
  | with_reducible refine' DL.Y.cmp2 ?_
  | with_reducible refine' DL.Y.star ?_
  | with_reducible refine' DL.Y.meth ?_
  | with_reducible refine' DL.Y.index ?_
  | with_reducible refine' DL.Y.backT ?_
  | with_reducible refine' DL.Y.iRngV ?_
  | with_reducible refine' DL.Y.rng1_ ?_
  | with_reducible refine' DL.Y.rng2_ ?_
  | with_reducible refine' DL.Y.rngV_ ?_
  | ((with_reducible refine' DL.Y.fld_ ?f ?e ?_); (case' f => ((first | rfl | assumption | decide +kernel); done)); (case' e => (rfl; done)))
  | with_reducible refine' DL.Y.chLe ?_
  | with_reducible refine' DL.Y.chLt ?_
  | with_reducible refine' DL.Y.setF ?_
  | with_reducible refine' DL.Y.lenSet ?_
  | with_reducible refine' DL.Y.inL ?_
  | with_reducible refine' DL.Y.inTp ?_
  | with_reducible refine' DL.Y.slTA ?_
  | with_reducible refine' DL.Y.sortS ?_
  | with_reducible refine' DL.Y.iRng2 ?_
  | ((with_reducible refine' DL.Y.iRng2_ ?z ?_); (case' z => (omega; done)))
  | with_reducible refine' DL.Y.inD ?_
  | with_reducible refine' DL.Y.inD_ ?_
  | with_reducible refine' DL.Y.ixD ?_
  | ((with_reducible refine' DL.Y.mulS ?h ?_); (case' h => (exact ⟨by omega, by omega, by decide⟩)))
  | ((with_reducible refine' DL.Y.mulL ?h ?_); (case' h => (exact ⟨by simp only [List.length_cons, List.length_nil]; omega, by omega, by omega⟩)))
  | walk_at "xu"
  | walk_at "norm")
local macro_rules | `(tactic| walk_at "norm") => `(tactic| (dsimp only [List.set]))
local macro_rules | `(tactic| walk_at "x") => `(tactic| first | walk_at "x0" | with_reducible refine' DL.Y.ifE ?_)
local macro_rules | `(tactic| walk_at "xs") => `(tactic| repeat walk_at "x0")
local macro_rules | `(tactic| walk_at "xx") => `(tactic| repeat walk_at "x")
local macro_rules | `(tactic| walk_at "start") => `(tactic| dsimp only [List.map, List.length_cons, List.length_nil, List.cons_append, List.nil_append, Nat.zero_add, Nat.reduceAdd, Nat.reduceSub, List.reduceReplicate])
namespace DL
open PySem PySem.Spec PyProof.Rows L2 Evl Sup
variable [TabC]
section
variable {X : Cx} {B : Bs} {pos p : Pos} {a b c e : Expr} {es : List Expr} {da db dc de : DE} {dA : DA} {ta tb : DT}
end
def hq : Bx → Qr
  | none => 0
  | some 0 => 3
  | some (n + 1) => (1 / 3) ^ n
def no0 (b : Bx) : Bool := decide (b = some 0)
end DL
end
section
open PySem PySem.Spec PyProof.Rows L2 Evl DL
local macro_rules | `(tactic| walk_at "side") => `(tactic| first | exact mul_left (by decide) | exact mul_right (by decide) | exact mul_bd | exact div_bd (by first | assumption | decide | omega) | exact pow_bd (by first | decide | omega) (by first | decide | omega) | assumption | (show (0 : Int) < _; first | decide | omega))
local macro_rules | `(tactic| walk_at "eva") => `(tactic| first | exact DL.EvA.nil | (refine' DL.EvA.cons ?e ?r; (case' e => walk_at "ev"); (case' r => walk_at "eva")))
local macro_rules | `(tactic| walk_at "seq") => `(tactic| first | exact seq_tup | exact seq_lst | exact seq_ref (by assumption))
local macro_rules | `(tactic| walk_at "size") => `(tactic| first | (show _ ≤ sizeLine; simp only [List.length_cons, List.length_nil]; decide) | (rw [sizeLine_eq]; omega))
local macro_rules | `(tactic| walk_at "ev") => `(tactic| first
  | exact DL.Ev.c
  | exact DL.Ev.var rfl
  | (refine' DL.Ev.int ?a ?b; (case' a => walk_at "ev"); (case' b => walk_at "ev"))
  | (refine' DL.Ev.intC ?a ?b ?s; (case' a => walk_at "ev"); (case' b => walk_at "ev"); (case' s => try walk_at "side"))
  | (refine' DL.Ev.add ?a ?b; (case' a => walk_at "ev"); (case' b => walk_at "ev"))
  | (refine' DL.Ev.neg ?a; (case' a => walk_at "ev"))
  | (refine' DL.Ev.intOf ?a; (case' a => walk_at "ev"))
  | (refine' DL.Ev.intB ?a; (case' a => walk_at "ev"))
  | (refine' DL.Ev.absN ?a; (case' a => walk_at "ev"))
  | (refine' DL.Ev.eqI ?a ?b; (case' a => walk_at "ev"); (case' b => walk_at "ev"))
  | (refine' DL.Ev.neI ?a ?b; (case' a => walk_at "ev"); (case' b => walk_at "ev"))
  | (refine' DL.Ev.at ?a ?b ?s ?k; (case' a => walk_at "ev"); (case' b => walk_at "ev"); (case' s => walk_at "seq"); (case' k => try rfl))
  | (refine' DL.Ev.len ?a ?s; (case' a => walk_at "ev"); (case' s => walk_at "seq"))
  | (refine' DL.Ev.tupOf ?a ?s; (case' a => walk_at "ev"); (case' s => walk_at "seq"))
  | (refine' DL.Ev.tup ?a ?z; (case' a => walk_at "eva"); (case' z => try walk_at "size"))
  | (refine' DL.Ev.lst ?a ?z; (case' a => walk_at "eva"); (case' z => try walk_at "size"))
  | (refine' DL.Ev.notV ?a; (case' a => walk_at "ev"))
  | (refine' DL.Ev.isN ?a; (case' a => walk_at "ev"))
  | exact fun R r => r
  | assumption)
local macro_rules | `(tactic| walk_at "set") => `(tactic| (refine' ds_set ?e ?_; (case' e => walk_at "ev")))
local macro_rules | `(tactic| walk_at "ret") => `(tactic| (refine' ds_ret ?e ?_; (case' e => walk_at "ev")))
local macro_rules | `(tactic| walk_at "par") => `(tactic| (refine' ds_par ?e ?f ?_; (case' e => walk_at "ev"); (case' f => walk_at "ev")))
local macro_rules | `(tactic| walk_at "cut") => `(tactic| (simp only [DL.cutD, HT.sIx, List.length_cons, List.length_nil, Nat.zero_add, Nat.reduceAdd, Nat.min_def, Nat.reduceLeDiff, ↓reduceIte, List.drop_zero, List.drop_succ_cons, List.take_zero, List.take_succ_cons, List.take_nil, List.drop_nil, List.cons_append, List.nil_append, Int.reduceLT, Int.reduceToNat, Nat.reduceSub, Nat.sub_zero, Int.reduceNeg, Int.cast_ofNat_Int, Int.reduceAdd]; exact rfl))
local macro_rules | `(tactic| walk_at "xu") => `(tactic| first
  | with_reducible refine' DL.Y.ixS0 ?_
  | with_reducible refine' DL.Y.ixS1 ?_
  | with_reducible refine' DL.Y.ixS2 ?_
  | with_reducible refine' DL.Y.ixP0 ?_
  | with_reducible refine' DL.Y.ixP1 ?_
  | with_reducible refine' DL.Y.lstS ?_
  | with_reducible refine' DL.Y.lstP ?_)
local macro_rules | `(tactic| walk_at "dec") => `(tactic| first | rfl | assumption | exact decide_eq_true (by omega) | exact decide_eq_false (by omega) | exact DL.Y.ndT (by omega) | exact DL.Y.ndF (by omega) | decide +kernel)
local macro_rules | `(tactic| walk_at "size2") => `(tactic| first | exact Nat.le_of_ble_eq_true rfl | omega)
local macro_rules | `(tactic| walk_at "x0") => `(tactic| first
  | with_reducible refine' DL.Y.cons ?_
  | ((with_reducible refine' DL.Y.var ?e ?_); (case' e => (first | exact rfl | assumption)))
  | with_reducible refine' DL.Y.c ?_
  | with_reducible refine' DL.Y.nil ?_
  | with_reducible refine' DL.Y.op ?_
  | with_reducible refine' DL.Y.oint ?_
  | ((with_reducible refine' DL.Y.ointC ?s ?_); (case' s => try walk_at "side"))
  | with_reducible refine' DL.Y.oadd ?_
  | with_reducible refine' DL.Y.oeqI ?_
  | with_reducible refine' DL.Y.oneI ?_
  | with_reducible refine' DL.Y.oeqS ?_
  | with_reducible refine' DL.Y.neS ?_
  | with_reducible refine' DL.Y.oneS ?_
  | with_reducible refine' DL.Y.oeqB ?_
  | with_reducible refine' DL.Y.tst ?_
  | with_reducible refine' DL.Y.bl_ ?_
  | ((with_reducible refine' DL.Y.iRng1_ ?z ?_); (case' z => (omega; done)))
  | with_reducible refine' DL.Y.int_ ?_
  | with_reducible refine' DL.Y.str_ ?_
  | with_reducible refine' DL.Y.ref_ ?_
  | ((with_reducible refine' DL.Y.iteT ?h ?_); (case' h => (walk_at "dec"; done)))
  | ((with_reducible refine' DL.Y.iteF ?h ?_); (case' h => (walk_at "dec"; done)))
  | with_reducible refine' DL.Y.seq ?_
  | with_reducible refine' DL.Y.set ?_
  | with_reducible refine' DL.Y.ifS ?_
  | with_reducible refine' DL.Y.ret ?_
  | with_reducible refine' DL.Y.nx ?_
  | with_reducible refine' DL.Y.drop ?_
  | with_reducible refine' DL.Y.asg ?_
  | with_reducible refine' DL.Y.par ?_
  | with_reducible refine' DL.Y.par_ ?_
  | with_reducible refine' DL.Y.par3 ?_
  | with_reducible refine' DL.Y.par3_ ?_
  | with_reducible refine' DL.Y.bk ?_
  | with_reducible refine' DL.Y.ct ?_
  | with_reducible refine' DL.Y.retN ?_
  | with_reducible refine' DL.Y.gn ?_
  | with_reducible refine' DL.Y.gnil ?_
  | with_reducible refine' DL.Y.gcons ?_
  | ((with_reducible refine' DL.Y.gseqT ?e ?_); (case' e => (rfl; done)))
  | ((with_reducible refine' DL.Y.gseqL ?e ?_); (case' e => (rfl; done)))
  | with_reducible refine' DL.Y.tup ?_
  | with_reducible refine' DL.Y.lst ?_
  | ((with_reducible refine' DL.Y.len_ ?n ?l ?_); (case' n => exact rfl); (case' l => try walk_at "size2"))
  | with_reducible refine' DL.Y.ix ?_
  | ((with_reducible refine' DL.Y.ixT ?e ?_); (case' e => ((first | rfl | assumption); done)))
  | ((with_reducible refine' DL.Y.ixL ?e ?_); (case' e => (rfl; done)))
  | ((with_reducible refine' DL.Y.ixR ?g ?e ?_); (case' g => with_reducible assumption); (case' e => (rfl; done)))
  | with_reducible refine' DL.Y.cal ?_
  | with_reducible refine' DL.Y.lenT ?_
  | with_reducible refine' DL.Y.lenL ?_
  | ((with_reducible refine' DL.Y.lenR ?g ?_); (case' g => with_reducible assumption))
  | with_reducible refine' DL.Y.absI ?_
  | with_reducible refine' DL.Y.intI ?_
  | with_reducible refine' DL.Y.intB ?_
  | with_reducible refine' DL.Y.tupT ?_
  | with_reducible refine' DL.Y.tupL ?_
  | ((with_reducible refine' DL.Y.tupR ?g ?_); (case' g => with_reducible assumption))
  | with_reducible refine' DL.Y.lstT ?_
  | with_reducible refine' DL.Y.lstL ?_
  | with_reducible refine' DL.Y.allL ?_
  | with_reducible refine' DL.Y.anyL ?_
  | ((with_reducible refine' DL.Y.oaddL ?z ?_); (case' z => try walk_at "size2"))
  | ((with_reducible refine' DL.Y.oaddT ?z ?_); (case' z => try walk_at "size2"))
  | with_reducible refine' DL.Y.oisB ?_
  | with_reducible refine' DL.Y.onotB ?_
  | with_reducible refine' DL.Y.neg ?_
  | with_reducible refine' DL.Y.notT ?_
  | with_reducible refine' DL.Y.andT ?_
  | with_reducible refine' DL.Y.orT ?_
  | with_reducible refine' DL.Y.yes ?_
  | with_reducible refine' DL.Y.ifT ?_
  | with_reducible refine' DL.Y.andV ?_
  | with_reducible refine' DL.Y.orV ?_
  | with_reducible refine' DL.Y.notV ?_
  | with_reducible refine' DL.Y.isN ?_
  | with_reducible refine' DL.Y.notN ?_
  | ((with_reducible refine' DL.Y.isi_ ?e ?_); (case' e => (rfl; done)))
  | with_reducible refine' DL.Y.isiT ?_
  | with_reducible refine' DL.Y.chain ?_
  | with_reducible refine' DL.Y.sl ?_
  | with_reducible refine' DL.Y.noP ?_
  | with_reducible refine' DL.Y.part ?_
  | ((with_reducible refine' DL.Y.slLl ?n ?e ?_); (case' n => (rfl; done)); (case' e => walk_at "cut"))
  | ((with_reducible refine' DL.Y.slTl ?n ?m ?e ?_); (case' n => (rfl; done)); (case' m => (simp [HT.sIx]; done)); (case' e => walk_at "cut"))
  | with_reducible refine' DL.Y.slL ?_
  | with_reducible refine' DL.Y.call ?_
  | with_reducible refine' DL.Y.callK ?_
  | with_reducible refine' DL.Y.callD ?_
  | with_reducible refine' DL.Y.fld ?_
  | ((with_reducible refine' DL.Y.fld_ ?f ?e ?_); (case' f => (first | rfl | assumption); done); (case' e => (rfl; done)))
  | with_reducible refine' DL.Y.isW_ ?_
  | with_reducible refine' DL.Y.inK ?_
  | with_reducible refine' DL.Y.iSeq ?_
  | with_reducible refine' DL.Y.iSeqL ?_
  | with_reducible refine' DL.Y.iSeqT ?_
  | with_reducible refine' DL.Y.iRng1 ?_
  | with_reducible refine' DL.Y.iZip ?_
  | with_reducible refine' DL.Y.iZipT ?_
  | with_reducible refine' DL.Y.iZipL ?_
  | with_reducible refine' DL.Y.iZipR ?_
  | with_reducible refine' DL.Y.iZipM ?_
  | with_reducible refine' DL.Y.iEnum ?_
  | with_reducible refine' DL.Y.iEnumT ?_
  | with_reducible refine' DL.Y.iEnumL ?_
  | with_reducible refine' DL.Y.for_ ?_
  | with_reducible refine' DL.Y.cmp ?_
  | with_reducible refine' DL.Y.cmpM ?_
  | with_reducible refine' DL.Y.cmpQ ?_
  | with_reducible refine' DL.Y.isO ?_
  | ((with_reducible refine' DL.Y.isO_ (isO_exc ?c) ?_); (case' c => (decide +kernel; done)))
  | ((with_reducible refine' DL.Y.isO_ ?e ?_); (case' e => (rfl; done)))
  | ((with_reducible refine' DL.Y.isW1 ?e ?_); (case' e => (first | assumption | (rfl; done))))
  | with_reducible refine' DL.Y.xf ?_
  | ((with_reducible refine' DL.Y.xf_ ?c ?e ?_); (case' c => (decide +kernel; done)); (case' e => (first | assumption | (rfl; done))))
  | with_reducible refine' DL.Y.mk ?_
  | with_reducible refine' DL.Y.dctM ?_
  | with_reducible refine' DL.Y.dct0 ?_
  | with_reducible refine' DL.Y.lstM ?_
  | with_reducible refine' DL.Y.rev ?_
  | with_reducible refine' DL.Y.revL ?_
  | with_reducible refine' DL.Y.dget ?_
  | with_reducible refine' DL.Y.dput ?_
  | with_reducible refine' DL.Y.app ?_
  | with_reducible refine' DL.Y.gc ?_
  | with_reducible refine' DL.Y.boolB ?_
  | with_reducible refine' DL.Y.disp ?_
  | with_reducible refine' DL.Y.valsC ?_
  | with_reducible refine' DL.Y.valsN ?_
  | with_reducible refine' DL.Y.ownEq ?_
  | with_reducible refine' DL.Y.cmp2 ?_
  | with_reducible refine' DL.Y.star ?_
  | with_reducible refine' DL.Y.meth ?_
  | with_reducible refine' DL.Y.index ?_
  | with_reducible refine' DL.Y.backT ?_
  | with_reducible refine' DL.Y.iRngV ?_
  | with_reducible refine' DL.Y.rng1_ ?_
  | with_reducible refine' DL.Y.rng2_ ?_
  | with_reducible refine' DL.Y.rngV_ ?_
  | ((with_reducible refine' DL.Y.fld_ ?f ?e ?_); (case' f => ((first | rfl | assumption | decide +kernel); done)); (case' e => (rfl; done)))
  | with_reducible refine' DL.Y.chLe ?_
  | with_reducible refine' DL.Y.chLt ?_
  | with_reducible refine' DL.Y.setF ?_
  | with_reducible refine' DL.Y.lenSet ?_
  | with_reducible refine' DL.Y.inL ?_
  | with_reducible refine' DL.Y.inTp ?_
  | with_reducible refine' DL.Y.slTA ?_
  | with_reducible refine' DL.Y.sortS ?_
  | with_reducible refine' DL.Y.iRng2 ?_
  | ((with_reducible refine' DL.Y.iRng2_ ?z ?_); (case' z => (omega; done)))
  | with_reducible refine' DL.Y.inD ?_
  | with_reducible refine' DL.Y.inD_ ?_
  | with_reducible refine' DL.Y.ixD ?_
  | ((with_reducible refine' DL.Y.mulS ?h ?_); (case' h => (exact ⟨by omega, by omega, by decide⟩)))
  | ((with_reducible refine' DL.Y.mulL ?h ?_); (case' h => (exact ⟨by simp only [List.length_cons, List.length_nil]; omega, by omega, by omega⟩)))
  | walk_at "xu"
  | walk_at "norm")
local macro_rules | `(tactic| walk_at "norm") => `(tactic| (dsimp only [List.set]))
local macro_rules | `(tactic| walk_at "x") => `(tactic| first | walk_at "x0" | with_reducible refine' DL.Y.ifE ?_)
local macro_rules | `(tactic| walk_at "xs") => `(tactic| repeat walk_at "x0")
local macro_rules | `(tactic| walk_at "xx") => `(tactic| repeat walk_at "x")
local macro_rules | `(tactic| walk_at "start") => `(tactic| dsimp only [List.map, List.length_cons, List.length_nil, List.cons_append, List.nil_append, Nat.zero_add, Nat.reduceAdd, Nat.reduceSub, List.reduceReplicate])
namespace DL
open PySem PySem.Spec PyProof.Rows L2 Evl Sup
variable [TabC]
theorem dec_of {k : Bool} {p : Prop} [Decidable p] (h : k = true ↔ p) : k = decide p := by
  by_cases q : p
  · rw [decide_eq_true q]; exact h.mpr q
  · rw [decide_eq_false q]
    cases k with
    | false => rfl
    | true => exact absurd (h.mp rfl) q
theorem eqv_k {x y : D} {k : Bool} (hx : x.pln = true) (hy : y.pln = true) (hk : k = true ↔ x = y) : D.eqv x y = k := by
  have := eqv_iff hx hy
  cases e : D.eqv x y with
  | true => exact ((hk.mpr (this.mp e))).symm
  | false =>
    cases k with
    | false => rfl
    | true => rw [this.mpr (hk.mp rfl)] at e; cases e
theorem Y.eqF {G : Gm} {d s e t : Nat} {x y : D} {k : Bool} {Q : D → Prop} (hx : Fn d s x) (hy : Fn e t y) (hk : k = true ↔ x = y) (h : Q (.bl k)) (hd : d ≤ 60 := by decide) (he : e ≤ 60 := by decide) : ∃ z, fEq x y z ∧ Q z := by
  refine ⟨.bl k, ?_, h⟩
  unfold fEq
  split
  · rename_i i j
    rw [dec_of (p := i = j) (hk.trans ⟨fun z => by injection z, fun z => by rw [z]⟩)]
  · rename_i i j
    rw [dec_of (p := i = j) (hk.trans ⟨fun z => by injection z, fun z => by rw [z]⟩)]
  · rename_i i j
    rw [dec_of (p := i = j) (hk.trans ⟨fun z => by injection z, fun z => by rw [z]⟩)]
  · exact ⟨hx.cmp hd, hy.cmp he, by rw [eqv_k hx.pln hy.pln hk]⟩
theorem kb (b : Bx) : decide (b = some 0) = no0 b := rfl
end DL
namespace DL
open PySem PySem.Spec PyProof.Rows L2 Evl Sup
variable [TabC]
end DL
namespace DL
open PySem PySem.Spec PyProof.Rows L2 Evl Sup
variable [TabC]
end DL
namespace DL
open PySem PySem.Spec PyProof.Rows L2 Evl Sup
variable [TabC]
end DL
namespace DL
open PySem PySem.Spec PyProof.Rows L2 Evl Sup
variable [TabC]
end DL
namespace DL
open PySem PySem.Spec PyProof.Rows L2 Evl Sup
variable [TabC]
end DL
namespace DL
open PySem PySem.Spec PyProof.Rows L2 Evl Sup
variable [TabC]
end DL
end
section
open PySem PySem.Spec PyProof.Rows L2 Evl DL
local macro_rules | `(tactic| walk_at "side") => `(tactic| first | exact mul_left (by decide) | exact mul_right (by decide) | exact mul_bd | exact div_bd (by first | assumption | decide | omega) | exact pow_bd (by first | decide | omega) (by first | decide | omega) | assumption | (show (0 : Int) < _; first | decide | omega))
local macro_rules | `(tactic| walk_at "eva") => `(tactic| first | exact DL.EvA.nil | (refine' DL.EvA.cons ?e ?r; (case' e => walk_at "ev"); (case' r => walk_at "eva")))
local macro_rules | `(tactic| walk_at "seq") => `(tactic| first | exact seq_tup | exact seq_lst | exact seq_ref (by assumption))
local macro_rules | `(tactic| walk_at "size") => `(tactic| first | (show _ ≤ sizeLine; simp only [List.length_cons, List.length_nil]; decide) | (rw [sizeLine_eq]; omega))
local macro_rules | `(tactic| walk_at "ev") => `(tactic| first
  | exact DL.Ev.c
  | exact DL.Ev.var rfl
  | (refine' DL.Ev.int ?a ?b; (case' a => walk_at "ev"); (case' b => walk_at "ev"))
  | (refine' DL.Ev.intC ?a ?b ?s; (case' a => walk_at "ev"); (case' b => walk_at "ev"); (case' s => try walk_at "side"))
  | (refine' DL.Ev.add ?a ?b; (case' a => walk_at "ev"); (case' b => walk_at "ev"))
  | (refine' DL.Ev.neg ?a; (case' a => walk_at "ev"))
  | (refine' DL.Ev.intOf ?a; (case' a => walk_at "ev"))
  | (refine' DL.Ev.intB ?a; (case' a => walk_at "ev"))
  | (refine' DL.Ev.absN ?a; (case' a => walk_at "ev"))
  | (refine' DL.Ev.eqI ?a ?b; (case' a => walk_at "ev"); (case' b => walk_at "ev"))
  | (refine' DL.Ev.neI ?a ?b; (case' a => walk_at "ev"); (case' b => walk_at "ev"))
  | (refine' DL.Ev.at ?a ?b ?s ?k; (case' a => walk_at "ev"); (case' b => walk_at "ev"); (case' s => walk_at "seq"); (case' k => try rfl))
  | (refine' DL.Ev.len ?a ?s; (case' a => walk_at "ev"); (case' s => walk_at "seq"))
  | (refine' DL.Ev.tupOf ?a ?s; (case' a => walk_at "ev"); (case' s => walk_at "seq"))
  | (refine' DL.Ev.tup ?a ?z; (case' a => walk_at "eva"); (case' z => try walk_at "size"))
  | (refine' DL.Ev.lst ?a ?z; (case' a => walk_at "eva"); (case' z => try walk_at "size"))
  | (refine' DL.Ev.notV ?a; (case' a => walk_at "ev"))
  | (refine' DL.Ev.isN ?a; (case' a => walk_at "ev"))
  | exact fun R r => r
  | assumption)
local macro_rules | `(tactic| walk_at "set") => `(tactic| (refine' ds_set ?e ?_; (case' e => walk_at "ev")))
local macro_rules | `(tactic| walk_at "ret") => `(tactic| (refine' ds_ret ?e ?_; (case' e => walk_at "ev")))
local macro_rules | `(tactic| walk_at "par") => `(tactic| (refine' ds_par ?e ?f ?_; (case' e => walk_at "ev"); (case' f => walk_at "ev")))
local macro_rules | `(tactic| walk_at "cut") => `(tactic| (simp only [DL.cutD, HT.sIx, List.length_cons, List.length_nil, Nat.zero_add, Nat.reduceAdd, Nat.min_def, Nat.reduceLeDiff, ↓reduceIte, List.drop_zero, List.drop_succ_cons, List.take_zero, List.take_succ_cons, List.take_nil, List.drop_nil, List.cons_append, List.nil_append, Int.reduceLT, Int.reduceToNat, Nat.reduceSub, Nat.sub_zero, Int.reduceNeg, Int.cast_ofNat_Int, Int.reduceAdd]; exact rfl))
local macro_rules | `(tactic| walk_at "xu") => `(tactic| first
  | with_reducible refine' DL.Y.ixS0 ?_
  | with_reducible refine' DL.Y.ixS1 ?_
  | with_reducible refine' DL.Y.ixS2 ?_
  | with_reducible refine' DL.Y.ixP0 ?_
  | with_reducible refine' DL.Y.ixP1 ?_
  | with_reducible refine' DL.Y.lstS ?_
  | with_reducible refine' DL.Y.lstP ?_)
local macro_rules | `(tactic| walk_at "dec") => `(tactic| first | rfl | assumption | exact decide_eq_true (by omega) | exact decide_eq_false (by omega) | exact DL.Y.ndT (by omega) | exact DL.Y.ndF (by omega) | decide +kernel)
local macro_rules | `(tactic| walk_at "size2") => `(tactic| first | exact Nat.le_of_ble_eq_true rfl | omega)
local macro_rules | `(tactic| walk_at "x0") => `(tactic| first
  | with_reducible refine' DL.Y.cons ?_
  | ((with_reducible refine' DL.Y.var ?e ?_); (case' e => (first | exact rfl | assumption)))
  | with_reducible refine' DL.Y.c ?_
  | with_reducible refine' DL.Y.nil ?_
  | with_reducible refine' DL.Y.op ?_
  | with_reducible refine' DL.Y.oint ?_
  | ((with_reducible refine' DL.Y.ointC ?s ?_); (case' s => try walk_at "side"))
  | with_reducible refine' DL.Y.oadd ?_
  | with_reducible refine' DL.Y.oeqI ?_
  | with_reducible refine' DL.Y.oneI ?_
  | with_reducible refine' DL.Y.oeqS ?_
  | with_reducible refine' DL.Y.neS ?_
  | with_reducible refine' DL.Y.oneS ?_
  | with_reducible refine' DL.Y.oeqB ?_
  | with_reducible refine' DL.Y.tst ?_
  | with_reducible refine' DL.Y.bl_ ?_
  | ((with_reducible refine' DL.Y.iRng1_ ?z ?_); (case' z => (omega; done)))
  | with_reducible refine' DL.Y.int_ ?_
  | with_reducible refine' DL.Y.str_ ?_
  | with_reducible refine' DL.Y.ref_ ?_
  | ((with_reducible refine' DL.Y.iteT ?h ?_); (case' h => (walk_at "dec"; done)))
  | ((with_reducible refine' DL.Y.iteF ?h ?_); (case' h => (walk_at "dec"; done)))
  | with_reducible refine' DL.Y.seq ?_
  | with_reducible refine' DL.Y.set ?_
  | with_reducible refine' DL.Y.ifS ?_
  | with_reducible refine' DL.Y.ret ?_
  | with_reducible refine' DL.Y.nx ?_
  | with_reducible refine' DL.Y.drop ?_
  | with_reducible refine' DL.Y.asg ?_
  | with_reducible refine' DL.Y.par ?_
  | with_reducible refine' DL.Y.par_ ?_
  | with_reducible refine' DL.Y.par3 ?_
  | with_reducible refine' DL.Y.par3_ ?_
  | with_reducible refine' DL.Y.bk ?_
  | with_reducible refine' DL.Y.ct ?_
  | with_reducible refine' DL.Y.retN ?_
  | with_reducible refine' DL.Y.gn ?_
  | with_reducible refine' DL.Y.gnil ?_
  | with_reducible refine' DL.Y.gcons ?_
  | ((with_reducible refine' DL.Y.gseqT ?e ?_); (case' e => (rfl; done)))
  | ((with_reducible refine' DL.Y.gseqL ?e ?_); (case' e => (rfl; done)))
  | with_reducible refine' DL.Y.tup ?_
  | with_reducible refine' DL.Y.lst ?_
  | ((with_reducible refine' DL.Y.len_ ?n ?l ?_); (case' n => exact rfl); (case' l => try walk_at "size2"))
  | with_reducible refine' DL.Y.ix ?_
  | ((with_reducible refine' DL.Y.ixT ?e ?_); (case' e => ((first | rfl | assumption); done)))
  | ((with_reducible refine' DL.Y.ixL ?e ?_); (case' e => (rfl; done)))
  | ((with_reducible refine' DL.Y.ixR ?g ?e ?_); (case' g => with_reducible assumption); (case' e => (rfl; done)))
  | with_reducible refine' DL.Y.cal ?_
  | with_reducible refine' DL.Y.lenT ?_
  | with_reducible refine' DL.Y.lenL ?_
  | ((with_reducible refine' DL.Y.lenR ?g ?_); (case' g => with_reducible assumption))
  | with_reducible refine' DL.Y.absI ?_
  | with_reducible refine' DL.Y.max2 ?_
  | with_reducible refine' DL.Y.lstRg1 ?_
  | with_reducible refine' DL.Y.lstRg2 ?_
  | with_reducible refine' DL.Y.lstRgM ?_
  | with_reducible refine' DL.Y.intI ?_
  | with_reducible refine' DL.Y.intB ?_
  | with_reducible refine' DL.Y.tupT ?_
  | with_reducible refine' DL.Y.tupL ?_
  | ((with_reducible refine' DL.Y.tupR ?g ?_); (case' g => with_reducible assumption))
  | with_reducible refine' DL.Y.lstT ?_
  | with_reducible refine' DL.Y.lstL ?_
  | with_reducible refine' DL.Y.allL ?_
  | with_reducible refine' DL.Y.anyL ?_
  | ((with_reducible refine' DL.Y.oaddL ?z ?_); (case' z => try walk_at "size2"))
  | ((with_reducible refine' DL.Y.oaddT ?z ?_); (case' z => try walk_at "size2"))
  | with_reducible refine' DL.Y.oisB ?_
  | with_reducible refine' DL.Y.onotB ?_
  | with_reducible refine' DL.Y.neg ?_
  | with_reducible refine' DL.Y.notT ?_
  | with_reducible refine' DL.Y.andT ?_
  | with_reducible refine' DL.Y.orT ?_
  | with_reducible refine' DL.Y.yes ?_
  | with_reducible refine' DL.Y.ifT ?_
  | with_reducible refine' DL.Y.andV ?_
  | with_reducible refine' DL.Y.orV ?_
  | with_reducible refine' DL.Y.notV ?_
  | with_reducible refine' DL.Y.isN ?_
  | with_reducible refine' DL.Y.notN ?_
  | ((with_reducible refine' DL.Y.isi_ ?e ?_); (case' e => (rfl; done)))
  | with_reducible refine' DL.Y.isiT ?_
  | with_reducible refine' DL.Y.chain ?_
  | with_reducible refine' DL.Y.sl ?_
  | with_reducible refine' DL.Y.noP ?_
  | with_reducible refine' DL.Y.part ?_
  | ((with_reducible refine' DL.Y.slLl ?n ?e ?_); (case' n => (rfl; done)); (case' e => walk_at "cut"))
  | ((with_reducible refine' DL.Y.slTl ?n ?m ?e ?_); (case' n => (rfl; done)); (case' m => (simp [HT.sIx]; done)); (case' e => walk_at "cut"))
  | with_reducible refine' DL.Y.slL ?_
  | with_reducible refine' DL.Y.call ?_
  | with_reducible refine' DL.Y.callK ?_
  | with_reducible refine' DL.Y.callD ?_
  | with_reducible refine' DL.Y.fld ?_
  | ((with_reducible refine' DL.Y.fld_ ?f ?e ?_); (case' f => (first | rfl | assumption); done); (case' e => (rfl; done)))
  | with_reducible refine' DL.Y.isW_ ?_
  | with_reducible refine' DL.Y.inK ?_
  | with_reducible refine' DL.Y.iSeq ?_
  | with_reducible refine' DL.Y.iSeqL ?_
  | with_reducible refine' DL.Y.iSeqT ?_
  | with_reducible refine' DL.Y.iRng1 ?_
  | with_reducible refine' DL.Y.iZip ?_
  | with_reducible refine' DL.Y.iZipT ?_
  | with_reducible refine' DL.Y.iZipL ?_
  | with_reducible refine' DL.Y.iZipR ?_
  | with_reducible refine' DL.Y.iZipM ?_
  | with_reducible refine' DL.Y.iEnum ?_
  | with_reducible refine' DL.Y.iEnumT ?_
  | with_reducible refine' DL.Y.iEnumL ?_
  | with_reducible refine' DL.Y.for_ ?_
  | with_reducible refine' DL.Y.cmp ?_
  | with_reducible refine' DL.Y.cmpM ?_
  | with_reducible refine' DL.Y.cmpQ ?_
  | with_reducible refine' DL.Y.isO ?_
  | ((with_reducible refine' DL.Y.isO_ (isO_exc ?c) ?_); (case' c => (decide +kernel; done)))
  | ((with_reducible refine' DL.Y.isO_ ?e ?_); (case' e => (rfl; done)))
  | ((with_reducible refine' DL.Y.isW1 ?e ?_); (case' e => (first | assumption | (rfl; done))))
  | with_reducible refine' DL.Y.xf ?_
  | ((with_reducible refine' DL.Y.xf_ ?c ?e ?_); (case' c => (decide +kernel; done)); (case' e => (first | assumption | (rfl; done))))
  | with_reducible refine' DL.Y.mk ?_
  | with_reducible refine' DL.Y.dctM ?_
  | with_reducible refine' DL.Y.dct0 ?_
  | with_reducible refine' DL.Y.lstM ?_
  | with_reducible refine' DL.Y.rev ?_
  | with_reducible refine' DL.Y.revL ?_
  | with_reducible refine' DL.Y.dget ?_
  | with_reducible refine' DL.Y.dput ?_
  | with_reducible refine' DL.Y.app ?_
  | with_reducible refine' DL.Y.gc ?_
  | with_reducible refine' DL.Y.boolB ?_
  | with_reducible refine' DL.Y.disp ?_
  | with_reducible refine' DL.Y.valsC ?_
  | with_reducible refine' DL.Y.valsN ?_
  | with_reducible refine' DL.Y.ownEq ?_
  | with_reducible refine' DL.Y.cmp2 ?_
  | with_reducible refine' DL.Y.star ?_
  | with_reducible refine' DL.Y.meth ?_
  | with_reducible refine' DL.Y.index ?_
  | with_reducible refine' DL.Y.backT ?_
  | with_reducible refine' DL.Y.iRngV ?_
  | with_reducible refine' DL.Y.rng1_ ?_
  | with_reducible refine' DL.Y.rng2_ ?_
  | with_reducible refine' DL.Y.rngV_ ?_
  | ((with_reducible refine' DL.Y.fld_ ?f ?e ?_); (case' f => ((first | rfl | assumption | decide +kernel); done)); (case' e => (rfl; done)))
  | with_reducible refine' DL.Y.chLe ?_
  | with_reducible refine' DL.Y.chLt ?_
  | with_reducible refine' DL.Y.setF ?_
  | with_reducible refine' DL.Y.lenSet ?_
  | with_reducible refine' DL.Y.inL ?_
  | with_reducible refine' DL.Y.inTp ?_
  | with_reducible refine' DL.Y.slTA ?_
  | with_reducible refine' DL.Y.sortS ?_
  | with_reducible refine' DL.Y.iRng2 ?_
  | ((with_reducible refine' DL.Y.iRng2_ ?z ?_); (case' z => (omega; done)))
  | with_reducible refine' DL.Y.inD ?_
  | with_reducible refine' DL.Y.inD_ ?_
  | with_reducible refine' DL.Y.ixD ?_
  | ((with_reducible refine' DL.Y.mulS ?h ?_); (case' h => (exact ⟨by omega, by omega, by decide⟩)))
  | ((with_reducible refine' DL.Y.mulL ?h ?_); (case' h => (exact ⟨by simp only [List.length_cons, List.length_nil]; omega, by omega, by omega⟩)))
  | walk_at "xu"
  | walk_at "norm")
local macro_rules | `(tactic| walk_at "norm") => `(tactic| (dsimp only [List.set]))
local macro_rules | `(tactic| walk_at "x") => `(tactic| first | walk_at "x0" | with_reducible refine' DL.Y.ifE ?_)
local macro_rules | `(tactic| walk_at "xs") => `(tactic| repeat walk_at "x0")
local macro_rules | `(tactic| walk_at "xx") => `(tactic| repeat walk_at "x")
local macro_rules | `(tactic| walk_at "start") => `(tactic| dsimp only [List.map, List.length_cons, List.length_nil, List.cons_append, List.nil_append, Nat.zero_add, Nat.reduceAdd, Nat.reduceSub, List.reduceReplicate])
namespace Hear
open PySem PySem.Spec PyProof.Rows L2 DL Held
section
variable {X : Cx} {n : Str} {body : List Stmt} {cls0 : ExceptHandler} {hds0 : List ExceptHandler} {l0 : List (Value × (Addr → Value → Option Addr → TS))} {pos : Pos} {i : Nat} {tb : WX → TS} {W0 : WX}
end
end Hear
namespace DL
open PySem PySem.Spec PyProof.Rows L2 Evl Held Hear
variable [TabC]
structure Fnd (K : PySem.W.Frag) (f : Str) (cls : Value) (d : Option Addr) where
  B : Bs
  C : Addr
  dd : Addr
  fs : List (Str × V)
  v : V
  z : D
  hcls : cls = .ref C
  hd : d = some dd
  xf : XfC K C
  no : PySem.W.findIn K (.ref C) f = some none
  told : B.b dd = some (.xd fs)
  look : fs.lookup f = some v
  rep : Rp K B.b v z
def dXs (i : Nat) (a : Addr) (z : D) : DE := fun ρ G R => ρ[i]? = some (some (.ref a)) ∧ R z G
section
variable {X : Cx} {a : Addr} {o : Obj} {cls : Value} {d : Option Addr} {pins : List (Addr × Obj)} {f n m : Str} {pn pa pm pt ps pc : Pos} {i j : Nat}
theorem pd_xs (F : Fnd X.K f cls d) (hz : Zc cls d o) (hf : ∃ vs, o.data = .fields vs) (hi : X.N[i]? = some n) (kn : X.env.kindOf n = some .local) (hdn : (n == ("__debug__" : Str)) = false := by decide) (hcn : (n == ("__classdict__" : Str)) = false := by decide) (hb : attributeBase (.Name n pn) f X.env (eval (.Name n pn) X.env) = eval (.Name n pn) X.env := by rfl) :
    PE (X.suite a ((a, o) :: pins)) (.Attribute (.Name n pn) f pa) (upE X.K F.B (dXs i a F.z)) :=
  pe_imp (pe_xf F.xf F.no hz hf (pe_var (X := X.suite a ((a, o) :: pins)) hi (.inl kn) hdn hcn) hb) fun σ H Q ⟨ρ, Hd, G, R, at_, ⟨hr, h⟩, k⟩ => by
    obtain ⟨v, hv, rv⟩ := at_.e.2 i _ hr
    cases rv
    exact ⟨.ref a, hv, rfl, F.hcls, F.dd, F.fs, F.v, F.hd, at_.s.sub _ _ (at_.b _ _ F.told), F.look, k F.v H Hd F.z G (Ex.refl _) at_.s (F.rep.mono at_.b) h⟩
theorem ps_ex {ι : Type} {e : Stmt} {t : ι → TS} (h : ∀ i, PS X e (t i)) : PS X e (fun D σ H => ∃ i, t i D σ H) := ⟨fun pins s σ H D I ⟨i, w⟩ => (h i).run pins s σ H D I w⟩
end
end DL
end
section
open PySem PySem.Spec PyProof.Rows L2 Evl DL
local macro_rules | `(tactic| walk_at "side") => `(tactic| first | exact mul_left (by decide) | exact mul_right (by decide) | exact mul_bd | exact div_bd (by first | assumption | decide | omega) | exact pow_bd (by first | decide | omega) (by first | decide | omega) | assumption | (show (0 : Int) < _; first | decide | omega))
local macro_rules | `(tactic| walk_at "eva") => `(tactic| first | exact DL.EvA.nil | (refine' DL.EvA.cons ?e ?r; (case' e => walk_at "ev"); (case' r => walk_at "eva")))
local macro_rules | `(tactic| walk_at "seq") => `(tactic| first | exact seq_tup | exact seq_lst | exact seq_ref (by assumption))
local macro_rules | `(tactic| walk_at "size") => `(tactic| first | (show _ ≤ sizeLine; simp only [List.length_cons, List.length_nil]; decide) | (rw [sizeLine_eq]; omega))
local macro_rules | `(tactic| walk_at "ev") => `(tactic| first
  | exact DL.Ev.c
  | exact DL.Ev.var rfl
  | (refine' DL.Ev.int ?a ?b; (case' a => walk_at "ev"); (case' b => walk_at "ev"))
  | (refine' DL.Ev.intC ?a ?b ?s; (case' a => walk_at "ev"); (case' b => walk_at "ev"); (case' s => try walk_at "side"))
  | (refine' DL.Ev.add ?a ?b; (case' a => walk_at "ev"); (case' b => walk_at "ev"))
  | (refine' DL.Ev.neg ?a; (case' a => walk_at "ev"))
  | (refine' DL.Ev.intOf ?a; (case' a => walk_at "ev"))
  | (refine' DL.Ev.intB ?a; (case' a => walk_at "ev"))
  | (refine' DL.Ev.absN ?a; (case' a => walk_at "ev"))
  | (refine' DL.Ev.eqI ?a ?b; (case' a => walk_at "ev"); (case' b => walk_at "ev"))
  | (refine' DL.Ev.neI ?a ?b; (case' a => walk_at "ev"); (case' b => walk_at "ev"))
  | (refine' DL.Ev.at ?a ?b ?s ?k; (case' a => walk_at "ev"); (case' b => walk_at "ev"); (case' s => walk_at "seq"); (case' k => try rfl))
  | (refine' DL.Ev.len ?a ?s; (case' a => walk_at "ev"); (case' s => walk_at "seq"))
  | (refine' DL.Ev.tupOf ?a ?s; (case' a => walk_at "ev"); (case' s => walk_at "seq"))
  | (refine' DL.Ev.tup ?a ?z; (case' a => walk_at "eva"); (case' z => try walk_at "size"))
  | (refine' DL.Ev.lst ?a ?z; (case' a => walk_at "eva"); (case' z => try walk_at "size"))
  | (refine' DL.Ev.notV ?a; (case' a => walk_at "ev"))
  | (refine' DL.Ev.isN ?a; (case' a => walk_at "ev"))
  | exact fun R r => r
  | assumption)
local macro_rules | `(tactic| walk_at "set") => `(tactic| (refine' ds_set ?e ?_; (case' e => walk_at "ev")))
local macro_rules | `(tactic| walk_at "ret") => `(tactic| (refine' ds_ret ?e ?_; (case' e => walk_at "ev")))
local macro_rules | `(tactic| walk_at "par") => `(tactic| (refine' ds_par ?e ?f ?_; (case' e => walk_at "ev"); (case' f => walk_at "ev")))
local macro_rules | `(tactic| walk_at "cut") => `(tactic| (simp only [DL.cutD, HT.sIx, List.length_cons, List.length_nil, Nat.zero_add, Nat.reduceAdd, Nat.min_def, Nat.reduceLeDiff, ↓reduceIte, List.drop_zero, List.drop_succ_cons, List.take_zero, List.take_succ_cons, List.take_nil, List.drop_nil, List.cons_append, List.nil_append, Int.reduceLT, Int.reduceToNat, Nat.reduceSub, Nat.sub_zero, Int.reduceNeg, Int.cast_ofNat_Int, Int.reduceAdd]; exact rfl))
local macro_rules | `(tactic| walk_at "xu") => `(tactic| first
  | with_reducible refine' DL.Y.ixS0 ?_
  | with_reducible refine' DL.Y.ixS1 ?_
  | with_reducible refine' DL.Y.ixS2 ?_
  | with_reducible refine' DL.Y.ixP0 ?_
  | with_reducible refine' DL.Y.ixP1 ?_
  | with_reducible refine' DL.Y.lstS ?_
  | with_reducible refine' DL.Y.lstP ?_)
local macro_rules | `(tactic| walk_at "dec") => `(tactic| first | rfl | assumption | exact decide_eq_true (by omega) | exact decide_eq_false (by omega) | exact DL.Y.ndT (by omega) | exact DL.Y.ndF (by omega) | decide +kernel)
local macro_rules | `(tactic| walk_at "size2") => `(tactic| first | exact Nat.le_of_ble_eq_true rfl | omega)
local macro_rules | `(tactic| walk_at "x0") => `(tactic| first
  | with_reducible refine' DL.Y.cons ?_
  | ((with_reducible refine' DL.Y.var ?e ?_); (case' e => (first | exact rfl | assumption)))
  | with_reducible refine' DL.Y.c ?_
  | with_reducible refine' DL.Y.nil ?_
  | with_reducible refine' DL.Y.op ?_
  | with_reducible refine' DL.Y.oint ?_
  | ((with_reducible refine' DL.Y.ointC ?s ?_); (case' s => try walk_at "side"))
  | with_reducible refine' DL.Y.oadd ?_
  | with_reducible refine' DL.Y.oeqI ?_
  | with_reducible refine' DL.Y.oneI ?_
  | with_reducible refine' DL.Y.oeqS ?_
  | with_reducible refine' DL.Y.neS ?_
  | with_reducible refine' DL.Y.oneS ?_
  | with_reducible refine' DL.Y.oeqB ?_
  | with_reducible refine' DL.Y.tst ?_
  | with_reducible refine' DL.Y.bl_ ?_
  | ((with_reducible refine' DL.Y.iRng1_ ?z ?_); (case' z => (omega; done)))
  | with_reducible refine' DL.Y.int_ ?_
  | with_reducible refine' DL.Y.str_ ?_
  | with_reducible refine' DL.Y.ref_ ?_
  | ((with_reducible refine' DL.Y.iteT ?h ?_); (case' h => (walk_at "dec"; done)))
  | ((with_reducible refine' DL.Y.iteF ?h ?_); (case' h => (walk_at "dec"; done)))
  | with_reducible refine' DL.Y.seq ?_
  | with_reducible refine' DL.Y.set ?_
  | with_reducible refine' DL.Y.ifS ?_
  | with_reducible refine' DL.Y.ret ?_
  | with_reducible refine' DL.Y.nx ?_
  | with_reducible refine' DL.Y.drop ?_
  | with_reducible refine' DL.Y.asg ?_
  | with_reducible refine' DL.Y.par ?_
  | with_reducible refine' DL.Y.par_ ?_
  | with_reducible refine' DL.Y.par3 ?_
  | with_reducible refine' DL.Y.par3_ ?_
  | with_reducible refine' DL.Y.bk ?_
  | with_reducible refine' DL.Y.ct ?_
  | with_reducible refine' DL.Y.retN ?_
  | with_reducible refine' DL.Y.gn ?_
  | with_reducible refine' DL.Y.gnil ?_
  | with_reducible refine' DL.Y.gcons ?_
  | ((with_reducible refine' DL.Y.gseqT ?e ?_); (case' e => (rfl; done)))
  | ((with_reducible refine' DL.Y.gseqL ?e ?_); (case' e => (rfl; done)))
  | with_reducible refine' DL.Y.tup ?_
  | with_reducible refine' DL.Y.lst ?_
  | ((with_reducible refine' DL.Y.len_ ?n ?l ?_); (case' n => exact rfl); (case' l => try walk_at "size2"))
  | with_reducible refine' DL.Y.ix ?_
  | ((with_reducible refine' DL.Y.ixT ?e ?_); (case' e => ((first | rfl | assumption); done)))
  | ((with_reducible refine' DL.Y.ixL ?e ?_); (case' e => (rfl; done)))
  | ((with_reducible refine' DL.Y.ixR ?g ?e ?_); (case' g => with_reducible assumption); (case' e => (rfl; done)))
  | with_reducible refine' DL.Y.cal ?_
  | with_reducible refine' DL.Y.lenT ?_
  | with_reducible refine' DL.Y.lenL ?_
  | ((with_reducible refine' DL.Y.lenR ?g ?_); (case' g => with_reducible assumption))
  | with_reducible refine' DL.Y.absI ?_
  | with_reducible refine' DL.Y.intI ?_
  | with_reducible refine' DL.Y.intB ?_
  | with_reducible refine' DL.Y.tupT ?_
  | with_reducible refine' DL.Y.tupL ?_
  | ((with_reducible refine' DL.Y.tupR ?g ?_); (case' g => with_reducible assumption))
  | with_reducible refine' DL.Y.lstT ?_
  | with_reducible refine' DL.Y.lstL ?_
  | with_reducible refine' DL.Y.allL ?_
  | with_reducible refine' DL.Y.anyL ?_
  | ((with_reducible refine' DL.Y.oaddL ?z ?_); (case' z => try walk_at "size2"))
  | ((with_reducible refine' DL.Y.oaddT ?z ?_); (case' z => try walk_at "size2"))
  | with_reducible refine' DL.Y.oisB ?_
  | with_reducible refine' DL.Y.onotB ?_
  | with_reducible refine' DL.Y.neg ?_
  | with_reducible refine' DL.Y.notT ?_
  | with_reducible refine' DL.Y.andT ?_
  | with_reducible refine' DL.Y.orT ?_
  | with_reducible refine' DL.Y.yes ?_
  | with_reducible refine' DL.Y.ifT ?_
  | with_reducible refine' DL.Y.andV ?_
  | with_reducible refine' DL.Y.orV ?_
  | with_reducible refine' DL.Y.notV ?_
  | with_reducible refine' DL.Y.isN ?_
  | with_reducible refine' DL.Y.notN ?_
  | ((with_reducible refine' DL.Y.isi_ ?e ?_); (case' e => (rfl; done)))
  | with_reducible refine' DL.Y.isiT ?_
  | with_reducible refine' DL.Y.chain ?_
  | with_reducible refine' DL.Y.sl ?_
  | with_reducible refine' DL.Y.noP ?_
  | with_reducible refine' DL.Y.part ?_
  | ((with_reducible refine' DL.Y.slLl ?n ?e ?_); (case' n => (rfl; done)); (case' e => walk_at "cut"))
  | ((with_reducible refine' DL.Y.slTl ?n ?m ?e ?_); (case' n => (rfl; done)); (case' m => (simp [HT.sIx]; done)); (case' e => walk_at "cut"))
  | with_reducible refine' DL.Y.slL ?_
  | with_reducible refine' DL.Y.call ?_
  | with_reducible refine' DL.Y.callK ?_
  | with_reducible refine' DL.Y.callD ?_
  | with_reducible refine' DL.Y.fld ?_
  | ((with_reducible refine' DL.Y.fld_ ?f ?e ?_); (case' f => (first | rfl | assumption); done); (case' e => (rfl; done)))
  | with_reducible refine' DL.Y.isW_ ?_
  | with_reducible refine' DL.Y.inK ?_
  | with_reducible refine' DL.Y.iSeq ?_
  | with_reducible refine' DL.Y.iSeqL ?_
  | with_reducible refine' DL.Y.iSeqT ?_
  | with_reducible refine' DL.Y.iRng1 ?_
  | with_reducible refine' DL.Y.iZip ?_
  | with_reducible refine' DL.Y.iZipT ?_
  | with_reducible refine' DL.Y.iZipL ?_
  | with_reducible refine' DL.Y.iZipR ?_
  | with_reducible refine' DL.Y.iZipM ?_
  | with_reducible refine' DL.Y.iEnum ?_
  | with_reducible refine' DL.Y.iEnumT ?_
  | with_reducible refine' DL.Y.iEnumL ?_
  | with_reducible refine' DL.Y.for_ ?_
  | with_reducible refine' DL.Y.cmp ?_
  | with_reducible refine' DL.Y.cmpM ?_
  | with_reducible refine' DL.Y.cmpQ ?_
  | with_reducible refine' DL.Y.isO ?_
  | ((with_reducible refine' DL.Y.isO_ (isO_exc ?c) ?_); (case' c => (decide +kernel; done)))
  | ((with_reducible refine' DL.Y.isO_ ?e ?_); (case' e => (rfl; done)))
  | ((with_reducible refine' DL.Y.isW1 ?e ?_); (case' e => (first | assumption | (rfl; done))))
  | with_reducible refine' DL.Y.xf ?_
  | ((with_reducible refine' DL.Y.xf_ ?c ?e ?_); (case' c => (decide +kernel; done)); (case' e => (first | assumption | (rfl; done))))
  | with_reducible refine' DL.Y.mk ?_
  | with_reducible refine' DL.Y.dctM ?_
  | with_reducible refine' DL.Y.dct0 ?_
  | with_reducible refine' DL.Y.lstM ?_
  | with_reducible refine' DL.Y.rev ?_
  | with_reducible refine' DL.Y.revL ?_
  | with_reducible refine' DL.Y.dget ?_
  | with_reducible refine' DL.Y.dput ?_
  | with_reducible refine' DL.Y.app ?_
  | with_reducible refine' DL.Y.gc ?_
  | with_reducible refine' DL.Y.boolB ?_
  | with_reducible refine' DL.Y.disp ?_
  | with_reducible refine' DL.Y.valsC ?_
  | with_reducible refine' DL.Y.valsN ?_
  | with_reducible refine' DL.Y.ownEq ?_
  | with_reducible refine' DL.Y.cmp2 ?_
  | with_reducible refine' DL.Y.star ?_
  | with_reducible refine' DL.Y.meth ?_
  | with_reducible refine' DL.Y.index ?_
  | with_reducible refine' DL.Y.backT ?_
  | with_reducible refine' DL.Y.iRngV ?_
  | with_reducible refine' DL.Y.rng1_ ?_
  | with_reducible refine' DL.Y.rng2_ ?_
  | with_reducible refine' DL.Y.rngV_ ?_
  | ((with_reducible refine' DL.Y.fld_ ?f ?e ?_); (case' f => ((first | rfl | assumption | decide +kernel); done)); (case' e => (rfl; done)))
  | with_reducible refine' DL.Y.chLe ?_
  | with_reducible refine' DL.Y.chLt ?_
  | with_reducible refine' DL.Y.setF ?_
  | with_reducible refine' DL.Y.lenSet ?_
  | with_reducible refine' DL.Y.inL ?_
  | with_reducible refine' DL.Y.inTp ?_
  | with_reducible refine' DL.Y.slTA ?_
  | with_reducible refine' DL.Y.sortS ?_
  | with_reducible refine' DL.Y.iRng2 ?_
  | ((with_reducible refine' DL.Y.iRng2_ ?z ?_); (case' z => (omega; done)))
  | with_reducible refine' DL.Y.inD ?_
  | with_reducible refine' DL.Y.inD_ ?_
  | with_reducible refine' DL.Y.ixD ?_
  | ((with_reducible refine' DL.Y.mulS ?h ?_); (case' h => (exact ⟨by omega, by omega, by decide⟩)))
  | ((with_reducible refine' DL.Y.mulL ?h ?_); (case' h => (exact ⟨by simp only [List.length_cons, List.length_nil]; omega, by omega, by omega⟩)))
  | walk_at "xu"
  | walk_at "norm")
local macro_rules | `(tactic| walk_at "norm") => `(tactic| (dsimp only [List.set]))
local macro_rules | `(tactic| walk_at "x") => `(tactic| first | walk_at "x0" | with_reducible refine' DL.Y.ifE ?_)
local macro_rules | `(tactic| walk_at "xs") => `(tactic| repeat walk_at "x0")
local macro_rules | `(tactic| walk_at "xx") => `(tactic| repeat walk_at "x")
local macro_rules | `(tactic| walk_at "start") => `(tactic| dsimp only [List.map, List.length_cons, List.length_nil, List.cons_append, List.nil_append, Nat.zero_add, Nat.reduceAdd, Nat.reduceSub, List.reduceReplicate])
namespace DL
open PySem PySem.Spec PyProof.Rows L2 Evl Held Hear
variable [TabC]
section
variable {X : Cx} {B : Bs} {n m : Str} {e : Expr} {pm pe ps pos : Pos} {i j : Nat} {dX : XD → DE} {cs : List Str} {sub : Str → Str → Bool} {cl : List (Str × Str × Bool)} {h0 : ExceptHandler} {hds : List ExceptHandler}
end
end DL
end
section
open PySem PySem.Spec PyProof.Rows L2 Evl DL
local macro_rules | `(tactic| walk_at "side") => `(tactic| first | exact mul_left (by decide) | exact mul_right (by decide) | exact mul_bd | exact div_bd (by first | assumption | decide | omega) | exact pow_bd (by first | decide | omega) (by first | decide | omega) | assumption | (show (0 : Int) < _; first | decide | omega))
local macro_rules | `(tactic| walk_at "eva") => `(tactic| first | exact DL.EvA.nil | (refine' DL.EvA.cons ?e ?r; (case' e => walk_at "ev"); (case' r => walk_at "eva")))
local macro_rules | `(tactic| walk_at "seq") => `(tactic| first | exact seq_tup | exact seq_lst | exact seq_ref (by assumption))
local macro_rules | `(tactic| walk_at "size") => `(tactic| first | (show _ ≤ sizeLine; simp only [List.length_cons, List.length_nil]; decide) | (rw [sizeLine_eq]; omega))
local macro_rules | `(tactic| walk_at "ev") => `(tactic| first
  | exact DL.Ev.c
  | exact DL.Ev.var rfl
  | (refine' DL.Ev.int ?a ?b; (case' a => walk_at "ev"); (case' b => walk_at "ev"))
  | (refine' DL.Ev.intC ?a ?b ?s; (case' a => walk_at "ev"); (case' b => walk_at "ev"); (case' s => try walk_at "side"))
  | (refine' DL.Ev.add ?a ?b; (case' a => walk_at "ev"); (case' b => walk_at "ev"))
  | (refine' DL.Ev.neg ?a; (case' a => walk_at "ev"))
  | (refine' DL.Ev.intOf ?a; (case' a => walk_at "ev"))
  | (refine' DL.Ev.intB ?a; (case' a => walk_at "ev"))
  | (refine' DL.Ev.absN ?a; (case' a => walk_at "ev"))
  | (refine' DL.Ev.eqI ?a ?b; (case' a => walk_at "ev"); (case' b => walk_at "ev"))
  | (refine' DL.Ev.neI ?a ?b; (case' a => walk_at "ev"); (case' b => walk_at "ev"))
  | (refine' DL.Ev.at ?a ?b ?s ?k; (case' a => walk_at "ev"); (case' b => walk_at "ev"); (case' s => walk_at "seq"); (case' k => try rfl))
  | (refine' DL.Ev.len ?a ?s; (case' a => walk_at "ev"); (case' s => walk_at "seq"))
  | (refine' DL.Ev.tupOf ?a ?s; (case' a => walk_at "ev"); (case' s => walk_at "seq"))
  | (refine' DL.Ev.tup ?a ?z; (case' a => walk_at "eva"); (case' z => try walk_at "size"))
  | (refine' DL.Ev.lst ?a ?z; (case' a => walk_at "eva"); (case' z => try walk_at "size"))
  | (refine' DL.Ev.notV ?a; (case' a => walk_at "ev"))
  | (refine' DL.Ev.isN ?a; (case' a => walk_at "ev"))
  | exact fun R r => r
  | assumption)
local macro_rules | `(tactic| walk_at "set") => `(tactic| (refine' ds_set ?e ?_; (case' e => walk_at "ev")))
local macro_rules | `(tactic| walk_at "ret") => `(tactic| (refine' ds_ret ?e ?_; (case' e => walk_at "ev")))
local macro_rules | `(tactic| walk_at "par") => `(tactic| (refine' ds_par ?e ?f ?_; (case' e => walk_at "ev"); (case' f => walk_at "ev")))
local macro_rules | `(tactic| walk_at "cut") => `(tactic| (simp only [DL.cutD, HT.sIx, List.length_cons, List.length_nil, Nat.zero_add, Nat.reduceAdd, Nat.min_def, Nat.reduceLeDiff, ↓reduceIte, List.drop_zero, List.drop_succ_cons, List.take_zero, List.take_succ_cons, List.take_nil, List.drop_nil, List.cons_append, List.nil_append, Int.reduceLT, Int.reduceToNat, Nat.reduceSub, Nat.sub_zero, Int.reduceNeg, Int.cast_ofNat_Int, Int.reduceAdd]; exact rfl))
local macro_rules | `(tactic| walk_at "xu") => `(tactic| first
  | with_reducible refine' DL.Y.ixS0 ?_
  | with_reducible refine' DL.Y.ixS1 ?_
  | with_reducible refine' DL.Y.ixS2 ?_
  | with_reducible refine' DL.Y.ixP0 ?_
  | with_reducible refine' DL.Y.ixP1 ?_
  | with_reducible refine' DL.Y.lstS ?_
  | with_reducible refine' DL.Y.lstP ?_)
local macro_rules | `(tactic| walk_at "dec") => `(tactic| first | rfl | assumption | exact decide_eq_true (by omega) | exact decide_eq_false (by omega) | exact DL.Y.ndT (by omega) | exact DL.Y.ndF (by omega) | decide +kernel)
local macro_rules | `(tactic| walk_at "size2") => `(tactic| first | exact Nat.le_of_ble_eq_true rfl | omega)
local macro_rules | `(tactic| walk_at "x0") => `(tactic| first
  | with_reducible refine' DL.Y.cons ?_
  | ((with_reducible refine' DL.Y.var ?e ?_); (case' e => (first | exact rfl | assumption)))
  | with_reducible refine' DL.Y.c ?_
  | with_reducible refine' DL.Y.nil ?_
  | with_reducible refine' DL.Y.op ?_
  | with_reducible refine' DL.Y.oint ?_
  | ((with_reducible refine' DL.Y.ointC ?s ?_); (case' s => try walk_at "side"))
  | with_reducible refine' DL.Y.oadd ?_
  | with_reducible refine' DL.Y.oeqI ?_
  | with_reducible refine' DL.Y.oneI ?_
  | with_reducible refine' DL.Y.oeqS ?_
  | with_reducible refine' DL.Y.neS ?_
  | with_reducible refine' DL.Y.oneS ?_
  | with_reducible refine' DL.Y.oeqB ?_
  | with_reducible refine' DL.Y.tst ?_
  | with_reducible refine' DL.Y.bl_ ?_
  | ((with_reducible refine' DL.Y.iRng1_ ?z ?_); (case' z => (omega; done)))
  | with_reducible refine' DL.Y.int_ ?_
  | with_reducible refine' DL.Y.str_ ?_
  | with_reducible refine' DL.Y.ref_ ?_
  | ((with_reducible refine' DL.Y.iteT ?h ?_); (case' h => (walk_at "dec"; done)))
  | ((with_reducible refine' DL.Y.iteF ?h ?_); (case' h => (walk_at "dec"; done)))
  | with_reducible refine' DL.Y.seq ?_
  | with_reducible refine' DL.Y.set ?_
  | with_reducible refine' DL.Y.ifS ?_
  | with_reducible refine' DL.Y.ret ?_
  | with_reducible refine' DL.Y.nx ?_
  | with_reducible refine' DL.Y.drop ?_
  | with_reducible refine' DL.Y.asg ?_
  | with_reducible refine' DL.Y.par ?_
  | with_reducible refine' DL.Y.par_ ?_
  | with_reducible refine' DL.Y.par3 ?_
  | with_reducible refine' DL.Y.par3_ ?_
  | with_reducible refine' DL.Y.bk ?_
  | with_reducible refine' DL.Y.ct ?_
  | with_reducible refine' DL.Y.retN ?_
  | with_reducible refine' DL.Y.gn ?_
  | with_reducible refine' DL.Y.gnil ?_
  | with_reducible refine' DL.Y.gcons ?_
  | ((with_reducible refine' DL.Y.gseqT ?e ?_); (case' e => (rfl; done)))
  | ((with_reducible refine' DL.Y.gseqL ?e ?_); (case' e => (rfl; done)))
  | with_reducible refine' DL.Y.tup ?_
  | with_reducible refine' DL.Y.lst ?_
  | ((with_reducible refine' DL.Y.len_ ?n ?l ?_); (case' n => exact rfl); (case' l => try walk_at "size2"))
  | with_reducible refine' DL.Y.ix ?_
  | ((with_reducible refine' DL.Y.ixT ?e ?_); (case' e => ((first | rfl | assumption); done)))
  | ((with_reducible refine' DL.Y.ixL ?e ?_); (case' e => (rfl; done)))
  | ((with_reducible refine' DL.Y.ixR ?g ?e ?_); (case' g => with_reducible assumption); (case' e => (rfl; done)))
  | with_reducible refine' DL.Y.cal ?_
  | with_reducible refine' DL.Y.lenT ?_
  | with_reducible refine' DL.Y.lenL ?_
  | ((with_reducible refine' DL.Y.lenR ?g ?_); (case' g => with_reducible assumption))
  | with_reducible refine' DL.Y.absI ?_
  | with_reducible refine' DL.Y.max2 ?_
  | with_reducible refine' DL.Y.intI ?_
  | with_reducible refine' DL.Y.intB ?_
  | with_reducible refine' DL.Y.tupT ?_
  | with_reducible refine' DL.Y.tupL ?_
  | ((with_reducible refine' DL.Y.tupR ?g ?_); (case' g => with_reducible assumption))
  | with_reducible refine' DL.Y.lstT ?_
  | with_reducible refine' DL.Y.lstL ?_
  | with_reducible refine' DL.Y.allL ?_
  | with_reducible refine' DL.Y.anyL ?_
  | ((with_reducible refine' DL.Y.oaddL ?z ?_); (case' z => try walk_at "size2"))
  | ((with_reducible refine' DL.Y.oaddT ?z ?_); (case' z => try walk_at "size2"))
  | with_reducible refine' DL.Y.oisB ?_
  | with_reducible refine' DL.Y.onotB ?_
  | with_reducible refine' DL.Y.neg ?_
  | with_reducible refine' DL.Y.notT ?_
  | with_reducible refine' DL.Y.andT ?_
  | with_reducible refine' DL.Y.orT ?_
  | with_reducible refine' DL.Y.yes ?_
  | with_reducible refine' DL.Y.ifT ?_
  | with_reducible refine' DL.Y.andV ?_
  | with_reducible refine' DL.Y.orV ?_
  | with_reducible refine' DL.Y.notV ?_
  | with_reducible refine' DL.Y.isN ?_
  | with_reducible refine' DL.Y.notN ?_
  | ((with_reducible refine' DL.Y.isi_ ?e ?_); (case' e => (rfl; done)))
  | with_reducible refine' DL.Y.isiT ?_
  | with_reducible refine' DL.Y.chain ?_
  | with_reducible refine' DL.Y.sl ?_
  | with_reducible refine' DL.Y.noP ?_
  | with_reducible refine' DL.Y.part ?_
  | ((with_reducible refine' DL.Y.slLl ?n ?e ?_); (case' n => (rfl; done)); (case' e => walk_at "cut"))
  | ((with_reducible refine' DL.Y.slTl ?n ?m ?e ?_); (case' n => (rfl; done)); (case' m => (simp [HT.sIx]; done)); (case' e => walk_at "cut"))
  | with_reducible refine' DL.Y.slL ?_
  | with_reducible refine' DL.Y.call ?_
  | with_reducible refine' DL.Y.callK ?_
  | with_reducible refine' DL.Y.callD ?_
  | with_reducible refine' DL.Y.fld ?_
  | ((with_reducible refine' DL.Y.fld_ ?f ?e ?_); (case' f => (first | rfl | assumption); done); (case' e => (rfl; done)))
  | with_reducible refine' DL.Y.isW_ ?_
  | with_reducible refine' DL.Y.inK ?_
  | with_reducible refine' DL.Y.iSeq ?_
  | with_reducible refine' DL.Y.iSeqL ?_
  | with_reducible refine' DL.Y.iSeqT ?_
  | with_reducible refine' DL.Y.iRng1 ?_
  | with_reducible refine' DL.Y.iZip ?_
  | with_reducible refine' DL.Y.iZipT ?_
  | with_reducible refine' DL.Y.iZipL ?_
  | with_reducible refine' DL.Y.iZipR ?_
  | with_reducible refine' DL.Y.iZipM ?_
  | with_reducible refine' DL.Y.iEnum ?_
  | with_reducible refine' DL.Y.iEnumT ?_
  | with_reducible refine' DL.Y.iEnumL ?_
  | with_reducible refine' DL.Y.for_ ?_
  | with_reducible refine' DL.Y.cmp ?_
  | with_reducible refine' DL.Y.cmpM ?_
  | with_reducible refine' DL.Y.cmpQ ?_
  | with_reducible refine' DL.Y.isO ?_
  | ((with_reducible refine' DL.Y.isO_ (isO_exc ?c) ?_); (case' c => (decide +kernel; done)))
  | ((with_reducible refine' DL.Y.isO_ ?e ?_); (case' e => (rfl; done)))
  | ((with_reducible refine' DL.Y.isW1 ?e ?_); (case' e => (first | assumption | (rfl; done))))
  | with_reducible refine' DL.Y.xf ?_
  | ((with_reducible refine' DL.Y.xf_ ?c ?e ?_); (case' c => (decide +kernel; done)); (case' e => (first | assumption | (rfl; done))))
  | with_reducible refine' DL.Y.mk ?_
  | with_reducible refine' DL.Y.dctM ?_
  | with_reducible refine' DL.Y.dct0 ?_
  | with_reducible refine' DL.Y.lstM ?_
  | with_reducible refine' DL.Y.rev ?_
  | with_reducible refine' DL.Y.revL ?_
  | with_reducible refine' DL.Y.dget ?_
  | with_reducible refine' DL.Y.dput ?_
  | with_reducible refine' DL.Y.app ?_
  | with_reducible refine' DL.Y.gc ?_
  | with_reducible refine' DL.Y.boolB ?_
  | with_reducible refine' DL.Y.disp ?_
  | with_reducible refine' DL.Y.valsC ?_
  | with_reducible refine' DL.Y.valsN ?_
  | with_reducible refine' DL.Y.ownEq ?_
  | with_reducible refine' DL.Y.cmp2 ?_
  | with_reducible refine' DL.Y.star ?_
  | with_reducible refine' DL.Y.meth ?_
  | with_reducible refine' DL.Y.index ?_
  | with_reducible refine' DL.Y.backT ?_
  | with_reducible refine' DL.Y.iRngV ?_
  | with_reducible refine' DL.Y.rng1_ ?_
  | with_reducible refine' DL.Y.rng2_ ?_
  | with_reducible refine' DL.Y.rngV_ ?_
  | ((with_reducible refine' DL.Y.fld_ ?f ?e ?_); (case' f => ((first | rfl | assumption | decide +kernel); done)); (case' e => (rfl; done)))
  | with_reducible refine' DL.Y.chLe ?_
  | with_reducible refine' DL.Y.chLt ?_
  | with_reducible refine' DL.Y.setF ?_
  | with_reducible refine' DL.Y.lenSet ?_
  | with_reducible refine' DL.Y.inL ?_
  | with_reducible refine' DL.Y.inTp ?_
  | with_reducible refine' DL.Y.slTA ?_
  | with_reducible refine' DL.Y.sortS ?_
  | with_reducible refine' DL.Y.iRng2 ?_
  | ((with_reducible refine' DL.Y.iRng2_ ?z ?_); (case' z => (omega; done)))
  | with_reducible refine' DL.Y.inD ?_
  | with_reducible refine' DL.Y.inD_ ?_
  | with_reducible refine' DL.Y.ixD ?_
  | ((with_reducible refine' DL.Y.mulS ?h ?_); (case' h => (exact ⟨by omega, by omega, by decide⟩)))
  | ((with_reducible refine' DL.Y.mulL ?h ?_); (case' h => (exact ⟨by simp only [List.length_cons, List.length_nil]; omega, by omega, by omega⟩)))
  | walk_at "xu"
  | walk_at "norm")
local macro_rules | `(tactic| walk_at "norm") => `(tactic| (dsimp only [List.set]))
local macro_rules | `(tactic| walk_at "x") => `(tactic| first | walk_at "x0" | with_reducible refine' DL.Y.ifE ?_)
local macro_rules | `(tactic| walk_at "xs") => `(tactic| repeat walk_at "x0")
local macro_rules | `(tactic| walk_at "xx") => `(tactic| repeat walk_at "x")
local macro_rules | `(tactic| walk_at "start") => `(tactic| dsimp only [List.map, List.length_cons, List.length_nil, List.cons_append, List.nil_append, Nat.zero_add, Nat.reduceAdd, Nat.reduceSub, List.reduceReplicate])
namespace DL
open PySem PySem.Spec PyProof.Rows L2 Evl Sup Held
variable [TabC]
end DL
namespace DL
open PySem PySem.Spec PyProof.Rows L2 Evl Sup Held
variable [TabC]
end DL
end
section
open PySem PySem.Spec PyProof.Rows L2 Evl DL
local macro_rules | `(tactic| walk_at "side") => `(tactic| first | exact mul_left (by decide) | exact mul_right (by decide) | exact mul_bd | exact div_bd (by first | assumption | decide | omega) | exact pow_bd (by first | decide | omega) (by first | decide | omega) | assumption | (show (0 : Int) < _; first | decide | omega))
local macro_rules | `(tactic| walk_at "eva") => `(tactic| first | exact DL.EvA.nil | (refine' DL.EvA.cons ?e ?r; (case' e => walk_at "ev"); (case' r => walk_at "eva")))
local macro_rules | `(tactic| walk_at "seq") => `(tactic| first | exact seq_tup | exact seq_lst | exact seq_ref (by assumption))
local macro_rules | `(tactic| walk_at "size") => `(tactic| first | (show _ ≤ sizeLine; simp only [List.length_cons, List.length_nil]; decide) | (rw [sizeLine_eq]; omega))
local macro_rules | `(tactic| walk_at "ev") => `(tactic| first
  | exact DL.Ev.c
  | exact DL.Ev.var rfl
  | (refine' DL.Ev.int ?a ?b; (case' a => walk_at "ev"); (case' b => walk_at "ev"))
  | (refine' DL.Ev.intC ?a ?b ?s; (case' a => walk_at "ev"); (case' b => walk_at "ev"); (case' s => try walk_at "side"))
  | (refine' DL.Ev.add ?a ?b; (case' a => walk_at "ev"); (case' b => walk_at "ev"))
  | (refine' DL.Ev.neg ?a; (case' a => walk_at "ev"))
  | (refine' DL.Ev.intOf ?a; (case' a => walk_at "ev"))
  | (refine' DL.Ev.intB ?a; (case' a => walk_at "ev"))
  | (refine' DL.Ev.absN ?a; (case' a => walk_at "ev"))
  | (refine' DL.Ev.eqI ?a ?b; (case' a => walk_at "ev"); (case' b => walk_at "ev"))
  | (refine' DL.Ev.neI ?a ?b; (case' a => walk_at "ev"); (case' b => walk_at "ev"))
  | (refine' DL.Ev.at ?a ?b ?s ?k; (case' a => walk_at "ev"); (case' b => walk_at "ev"); (case' s => walk_at "seq"); (case' k => try rfl))
  | (refine' DL.Ev.len ?a ?s; (case' a => walk_at "ev"); (case' s => walk_at "seq"))
  | (refine' DL.Ev.tupOf ?a ?s; (case' a => walk_at "ev"); (case' s => walk_at "seq"))
  | (refine' DL.Ev.tup ?a ?z; (case' a => walk_at "eva"); (case' z => try walk_at "size"))
  | (refine' DL.Ev.lst ?a ?z; (case' a => walk_at "eva"); (case' z => try walk_at "size"))
  | (refine' DL.Ev.notV ?a; (case' a => walk_at "ev"))
  | (refine' DL.Ev.isN ?a; (case' a => walk_at "ev"))
  | exact fun R r => r
  | assumption)
local macro_rules | `(tactic| walk_at "set") => `(tactic| (refine' ds_set ?e ?_; (case' e => walk_at "ev")))
local macro_rules | `(tactic| walk_at "ret") => `(tactic| (refine' ds_ret ?e ?_; (case' e => walk_at "ev")))
local macro_rules | `(tactic| walk_at "par") => `(tactic| (refine' ds_par ?e ?f ?_; (case' e => walk_at "ev"); (case' f => walk_at "ev")))
local macro_rules | `(tactic| walk_at "cut") => `(tactic| (simp only [DL.cutD, HT.sIx, List.length_cons, List.length_nil, Nat.zero_add, Nat.reduceAdd, Nat.min_def, Nat.reduceLeDiff, ↓reduceIte, List.drop_zero, List.drop_succ_cons, List.take_zero, List.take_succ_cons, List.take_nil, List.drop_nil, List.cons_append, List.nil_append, Int.reduceLT, Int.reduceToNat, Nat.reduceSub, Nat.sub_zero, Int.reduceNeg, Int.cast_ofNat_Int, Int.reduceAdd]; exact rfl))
local macro_rules | `(tactic| walk_at "xu") => `(tactic| first
  | with_reducible refine' DL.Y.ixS0 ?_
  | with_reducible refine' DL.Y.ixS1 ?_
  | with_reducible refine' DL.Y.ixS2 ?_
  | with_reducible refine' DL.Y.ixP0 ?_
  | with_reducible refine' DL.Y.ixP1 ?_
  | with_reducible refine' DL.Y.lstS ?_
  | with_reducible refine' DL.Y.lstP ?_)
local macro_rules | `(tactic| walk_at "dec") => `(tactic| first | rfl | assumption | exact decide_eq_true (by omega) | exact decide_eq_false (by omega) | exact DL.Y.ndT (by omega) | exact DL.Y.ndF (by omega) | decide +kernel)
local macro_rules | `(tactic| walk_at "size2") => `(tactic| first | exact Nat.le_of_ble_eq_true rfl | omega)
local macro_rules | `(tactic| walk_at "x0") => `(tactic| first
  | with_reducible refine' DL.Y.cons ?_
  | ((with_reducible refine' DL.Y.var ?e ?_); (case' e => (first | exact rfl | assumption)))
  | with_reducible refine' DL.Y.c ?_
  | with_reducible refine' DL.Y.nil ?_
  | with_reducible refine' DL.Y.op ?_
  | with_reducible refine' DL.Y.oint ?_
  | ((with_reducible refine' DL.Y.ointC ?s ?_); (case' s => try walk_at "side"))
  | with_reducible refine' DL.Y.oadd ?_
  | with_reducible refine' DL.Y.oeqI ?_
  | with_reducible refine' DL.Y.oneI ?_
  | with_reducible refine' DL.Y.oeqS ?_
  | with_reducible refine' DL.Y.neS ?_
  | with_reducible refine' DL.Y.oneS ?_
  | with_reducible refine' DL.Y.oeqB ?_
  | with_reducible refine' DL.Y.tst ?_
  | with_reducible refine' DL.Y.bl_ ?_
  | ((with_reducible refine' DL.Y.iRng1_ ?z ?_); (case' z => (omega; done)))
  | with_reducible refine' DL.Y.int_ ?_
  | with_reducible refine' DL.Y.str_ ?_
  | with_reducible refine' DL.Y.ref_ ?_
  | ((with_reducible refine' DL.Y.iteT ?h ?_); (case' h => (walk_at "dec"; done)))
  | ((with_reducible refine' DL.Y.iteF ?h ?_); (case' h => (walk_at "dec"; done)))
  | with_reducible refine' DL.Y.seq ?_
  | with_reducible refine' DL.Y.set ?_
  | with_reducible refine' DL.Y.ifS ?_
  | with_reducible refine' DL.Y.ret ?_
  | with_reducible refine' DL.Y.nx ?_
  | with_reducible refine' DL.Y.drop ?_
  | with_reducible refine' DL.Y.asg ?_
  | with_reducible refine' DL.Y.par ?_
  | with_reducible refine' DL.Y.par_ ?_
  | with_reducible refine' DL.Y.par3 ?_
  | with_reducible refine' DL.Y.par3_ ?_
  | with_reducible refine' DL.Y.bk ?_
  | with_reducible refine' DL.Y.ct ?_
  | with_reducible refine' DL.Y.retN ?_
  | with_reducible refine' DL.Y.gn ?_
  | with_reducible refine' DL.Y.gnil ?_
  | with_reducible refine' DL.Y.gcons ?_
  | ((with_reducible refine' DL.Y.gseqT ?e ?_); (case' e => (rfl; done)))
  | ((with_reducible refine' DL.Y.gseqL ?e ?_); (case' e => (rfl; done)))
  | with_reducible refine' DL.Y.tup ?_
  | with_reducible refine' DL.Y.lst ?_
  | ((with_reducible refine' DL.Y.len_ ?n ?l ?_); (case' n => exact rfl); (case' l => try walk_at "size2"))
  | with_reducible refine' DL.Y.ix ?_
  | ((with_reducible refine' DL.Y.ixT ?e ?_); (case' e => ((first | rfl | assumption); done)))
  | ((with_reducible refine' DL.Y.ixL ?e ?_); (case' e => (rfl; done)))
  | ((with_reducible refine' DL.Y.ixR ?g ?e ?_); (case' g => with_reducible assumption); (case' e => (rfl; done)))
  | with_reducible refine' DL.Y.cal ?_
  | with_reducible refine' DL.Y.lenT ?_
  | with_reducible refine' DL.Y.lenL ?_
  | ((with_reducible refine' DL.Y.lenR ?g ?_); (case' g => with_reducible assumption))
  | with_reducible refine' DL.Y.absI ?_
  | with_reducible refine' DL.Y.max2 ?_
  | with_reducible refine' DL.Y.neM ?_
  | with_reducible refine' DL.Y.popAt ?_
  | with_reducible refine' DL.Y.lstRg1 ?_
  | with_reducible refine' DL.Y.lstRg2 ?_
  | with_reducible refine' DL.Y.lstRgM ?_
  | with_reducible refine' DL.Y.intI ?_
  | with_reducible refine' DL.Y.intB ?_
  | with_reducible refine' DL.Y.tupT ?_
  | with_reducible refine' DL.Y.tupL ?_
  | ((with_reducible refine' DL.Y.tupR ?g ?_); (case' g => with_reducible assumption))
  | with_reducible refine' DL.Y.lstT ?_
  | with_reducible refine' DL.Y.lstL ?_
  | with_reducible refine' DL.Y.allL ?_
  | with_reducible refine' DL.Y.anyL ?_
  | ((with_reducible refine' DL.Y.oaddL ?z ?_); (case' z => try walk_at "size2"))
  | ((with_reducible refine' DL.Y.oaddT ?z ?_); (case' z => try walk_at "size2"))
  | with_reducible refine' DL.Y.oisB ?_
  | with_reducible refine' DL.Y.onotB ?_
  | with_reducible refine' DL.Y.neg ?_
  | with_reducible refine' DL.Y.notT ?_
  | with_reducible refine' DL.Y.andT ?_
  | with_reducible refine' DL.Y.orT ?_
  | with_reducible refine' DL.Y.yes ?_
  | with_reducible refine' DL.Y.ifT ?_
  | with_reducible refine' DL.Y.andV ?_
  | with_reducible refine' DL.Y.orV ?_
  | with_reducible refine' DL.Y.notV ?_
  | with_reducible refine' DL.Y.isN ?_
  | with_reducible refine' DL.Y.notN ?_
  | ((with_reducible refine' DL.Y.isi_ ?e ?_); (case' e => (rfl; done)))
  | with_reducible refine' DL.Y.isiT ?_
  | with_reducible refine' DL.Y.chain ?_
  | with_reducible refine' DL.Y.sl ?_
  | with_reducible refine' DL.Y.noP ?_
  | with_reducible refine' DL.Y.part ?_
  | ((with_reducible refine' DL.Y.slLl ?n ?e ?_); (case' n => (rfl; done)); (case' e => walk_at "cut"))
  | ((with_reducible refine' DL.Y.slTl ?n ?m ?e ?_); (case' n => (rfl; done)); (case' m => (simp [HT.sIx]; done)); (case' e => walk_at "cut"))
  | with_reducible refine' DL.Y.slL ?_
  | with_reducible refine' DL.Y.call ?_
  | with_reducible refine' DL.Y.callK ?_
  | with_reducible refine' DL.Y.callD ?_
  | with_reducible refine' DL.Y.fld ?_
  | ((with_reducible refine' DL.Y.fld_ ?f ?e ?_); (case' f => (first | rfl | assumption); done); (case' e => (rfl; done)))
  | with_reducible refine' DL.Y.isW_ ?_
  | with_reducible refine' DL.Y.inK ?_
  | with_reducible refine' DL.Y.iSeq ?_
  | with_reducible refine' DL.Y.iSeqL ?_
  | with_reducible refine' DL.Y.iSeqT ?_
  | with_reducible refine' DL.Y.iRng1 ?_
  | with_reducible refine' DL.Y.iZip ?_
  | with_reducible refine' DL.Y.iZipT ?_
  | with_reducible refine' DL.Y.iZipL ?_
  | with_reducible refine' DL.Y.iZipR ?_
  | with_reducible refine' DL.Y.iZipM ?_
  | with_reducible refine' DL.Y.iEnum ?_
  | with_reducible refine' DL.Y.iEnumT ?_
  | with_reducible refine' DL.Y.iEnumL ?_
  | with_reducible refine' DL.Y.for_ ?_
  | with_reducible refine' DL.Y.cmp ?_
  | with_reducible refine' DL.Y.cmpM ?_
  | with_reducible refine' DL.Y.cmpQ ?_
  | with_reducible refine' DL.Y.isO ?_
  | ((with_reducible refine' DL.Y.isO_ (isO_exc ?c) ?_); (case' c => (decide +kernel; done)))
  | ((with_reducible refine' DL.Y.isO_ ?e ?_); (case' e => (rfl; done)))
  | ((with_reducible refine' DL.Y.isW1 ?e ?_); (case' e => (first | assumption | (rfl; done))))
  | with_reducible refine' DL.Y.xf ?_
  | ((with_reducible refine' DL.Y.xf_ ?c ?e ?_); (case' c => (decide +kernel; done)); (case' e => (first | assumption | (rfl; done))))
  | with_reducible refine' DL.Y.mk ?_
  | with_reducible refine' DL.Y.dctM ?_
  | with_reducible refine' DL.Y.dct0 ?_
  | with_reducible refine' DL.Y.lstM ?_
  | with_reducible refine' DL.Y.rev ?_
  | with_reducible refine' DL.Y.revL ?_
  | with_reducible refine' DL.Y.dget ?_
  | with_reducible refine' DL.Y.dput ?_
  | with_reducible refine' DL.Y.app ?_
  | with_reducible refine' DL.Y.gc ?_
  | with_reducible refine' DL.Y.boolB ?_
  | with_reducible refine' DL.Y.disp ?_
  | with_reducible refine' DL.Y.valsC ?_
  | with_reducible refine' DL.Y.valsN ?_
  | with_reducible refine' DL.Y.ownEq ?_
  | with_reducible refine' DL.Y.cmp2 ?_
  | with_reducible refine' DL.Y.star ?_
  | with_reducible refine' DL.Y.meth ?_
  | with_reducible refine' DL.Y.index ?_
  | with_reducible refine' DL.Y.backT ?_
  | with_reducible refine' DL.Y.iRngV ?_
  | with_reducible refine' DL.Y.rng1_ ?_
  | with_reducible refine' DL.Y.rng2_ ?_
  | with_reducible refine' DL.Y.rngV_ ?_
  | ((with_reducible refine' DL.Y.fld_ ?f ?e ?_); (case' f => ((first | rfl | assumption | decide +kernel); done)); (case' e => (rfl; done)))
  | with_reducible refine' DL.Y.chLe ?_
  | with_reducible refine' DL.Y.chLt ?_
  | with_reducible refine' DL.Y.setF ?_
  | with_reducible refine' DL.Y.lenSet ?_
  | with_reducible refine' DL.Y.inL ?_
  | with_reducible refine' DL.Y.inTp ?_
  | with_reducible refine' DL.Y.slTA ?_
  | with_reducible refine' DL.Y.sortS ?_
  | with_reducible refine' DL.Y.iRng2 ?_
  | ((with_reducible refine' DL.Y.iRng2_ ?z ?_); (case' z => (omega; done)))
  | with_reducible refine' DL.Y.inD ?_
  | with_reducible refine' DL.Y.inD_ ?_
  | with_reducible refine' DL.Y.ixD ?_
  | ((with_reducible refine' DL.Y.mulS ?h ?_); (case' h => (exact ⟨by omega, by omega, by decide⟩)))
  | ((with_reducible refine' DL.Y.mulL ?h ?_); (case' h => (exact ⟨by simp only [List.length_cons, List.length_nil]; omega, by omega, by omega⟩)))
  | walk_at "xu"
  | walk_at "norm")
local macro_rules | `(tactic| walk_at "norm") => `(tactic| (dsimp only [List.set]))
local macro_rules | `(tactic| walk_at "x") => `(tactic| first | walk_at "x0" | with_reducible refine' DL.Y.ifE ?_)
local macro_rules | `(tactic| walk_at "xs") => `(tactic| repeat walk_at "x0")
local macro_rules | `(tactic| walk_at "xx") => `(tactic| repeat walk_at "x")
local macro_rules | `(tactic| walk_at "start") => `(tactic| dsimp only [List.map, List.length_cons, List.length_nil, List.cons_append, List.nil_append, Nat.zero_add, Nat.reduceAdd, Nat.reduceSub, List.reduceReplicate])
namespace DL
open PySem PySem.Spec PyProof.Rows L2 Evl Sup
variable [TabC]
section
variable {X : Cx} {B : Bs} {pos p : Pos} {a b c e : Expr} {es : List Expr} {da db dc de : DE} {dA : DA} {ta tb : DT}
end
section
variable {X : Cx} {B : Bs} {p p2 pos pos2 : Pos} {a b : Expr} {da db : DE}
end
variable {ρ : En} {G : Gm} {R : KD} {da db : DE}
end DL
end
section
open PySem PySem.Spec PyProof.Rows L2 Evl DL
local macro_rules | `(tactic| walk_at "side") => `(tactic| first | exact mul_left (by decide) | exact mul_right (by decide) | exact mul_bd | exact div_bd (by first | assumption | decide | omega) | exact pow_bd (by first | decide | omega) (by first | decide | omega) | assumption | (show (0 : Int) < _; first | decide | omega))
local macro_rules | `(tactic| walk_at "eva") => `(tactic| first | exact DL.EvA.nil | (refine' DL.EvA.cons ?e ?r; (case' e => walk_at "ev"); (case' r => walk_at "eva")))
local macro_rules | `(tactic| walk_at "seq") => `(tactic| first | exact seq_tup | exact seq_lst | exact seq_ref (by assumption))
local macro_rules | `(tactic| walk_at "size") => `(tactic| first | (show _ ≤ sizeLine; simp only [List.length_cons, List.length_nil]; decide) | (rw [sizeLine_eq]; omega))
local macro_rules | `(tactic| walk_at "ev") => `(tactic| first
  | exact DL.Ev.c
  | exact DL.Ev.var rfl
  | (refine' DL.Ev.int ?a ?b; (case' a => walk_at "ev"); (case' b => walk_at "ev"))
  | (refine' DL.Ev.intC ?a ?b ?s; (case' a => walk_at "ev"); (case' b => walk_at "ev"); (case' s => try walk_at "side"))
  | (refine' DL.Ev.add ?a ?b; (case' a => walk_at "ev"); (case' b => walk_at "ev"))
  | (refine' DL.Ev.neg ?a; (case' a => walk_at "ev"))
  | (refine' DL.Ev.intOf ?a; (case' a => walk_at "ev"))
  | (refine' DL.Ev.intB ?a; (case' a => walk_at "ev"))
  | (refine' DL.Ev.absN ?a; (case' a => walk_at "ev"))
  | (refine' DL.Ev.eqI ?a ?b; (case' a => walk_at "ev"); (case' b => walk_at "ev"))
  | (refine' DL.Ev.neI ?a ?b; (case' a => walk_at "ev"); (case' b => walk_at "ev"))
  | (refine' DL.Ev.at ?a ?b ?s ?k; (case' a => walk_at "ev"); (case' b => walk_at "ev"); (case' s => walk_at "seq"); (case' k => try rfl))
  | (refine' DL.Ev.len ?a ?s; (case' a => walk_at "ev"); (case' s => walk_at "seq"))
  | (refine' DL.Ev.tupOf ?a ?s; (case' a => walk_at "ev"); (case' s => walk_at "seq"))
  | (refine' DL.Ev.tup ?a ?z; (case' a => walk_at "eva"); (case' z => try walk_at "size"))
  | (refine' DL.Ev.lst ?a ?z; (case' a => walk_at "eva"); (case' z => try walk_at "size"))
  | (refine' DL.Ev.notV ?a; (case' a => walk_at "ev"))
  | (refine' DL.Ev.isN ?a; (case' a => walk_at "ev"))
  | exact fun R r => r
  | assumption)
local macro_rules | `(tactic| walk_at "set") => `(tactic| (refine' ds_set ?e ?_; (case' e => walk_at "ev")))
local macro_rules | `(tactic| walk_at "ret") => `(tactic| (refine' ds_ret ?e ?_; (case' e => walk_at "ev")))
local macro_rules | `(tactic| walk_at "par") => `(tactic| (refine' ds_par ?e ?f ?_; (case' e => walk_at "ev"); (case' f => walk_at "ev")))
local macro_rules | `(tactic| walk_at "cut") => `(tactic| (simp only [DL.cutD, HT.sIx, List.length_cons, List.length_nil, Nat.zero_add, Nat.reduceAdd, Nat.min_def, Nat.reduceLeDiff, ↓reduceIte, List.drop_zero, List.drop_succ_cons, List.take_zero, List.take_succ_cons, List.take_nil, List.drop_nil, List.cons_append, List.nil_append, Int.reduceLT, Int.reduceToNat, Nat.reduceSub, Nat.sub_zero, Int.reduceNeg, Int.cast_ofNat_Int, Int.reduceAdd]; exact rfl))
local macro_rules | `(tactic| walk_at "xu") => `(tactic| first
  | with_reducible refine' DL.Y.ixS0 ?_
  | with_reducible refine' DL.Y.ixS1 ?_
  | with_reducible refine' DL.Y.ixS2 ?_
  | with_reducible refine' DL.Y.ixP0 ?_
  | with_reducible refine' DL.Y.ixP1 ?_
  | with_reducible refine' DL.Y.lstS ?_
  | with_reducible refine' DL.Y.lstP ?_)
local macro_rules | `(tactic| walk_at "dec") => `(tactic| first | rfl | assumption | exact decide_eq_true (by omega) | exact decide_eq_false (by omega) | exact DL.Y.ndT (by omega) | exact DL.Y.ndF (by omega) | decide +kernel)
local macro_rules | `(tactic| walk_at "size2") => `(tactic| first | exact Nat.le_of_ble_eq_true rfl | omega)
local macro_rules | `(tactic| walk_at "x0") => `(tactic| first
  | with_reducible refine' DL.Y.cons ?_
  | ((with_reducible refine' DL.Y.var ?e ?_); (case' e => (first | exact rfl | assumption)))
  | with_reducible refine' DL.Y.c ?_
  | with_reducible refine' DL.Y.nil ?_
  | with_reducible refine' DL.Y.op ?_
  | with_reducible refine' DL.Y.oint ?_
  | ((with_reducible refine' DL.Y.ointC ?s ?_); (case' s => try walk_at "side"))
  | with_reducible refine' DL.Y.oadd ?_
  | with_reducible refine' DL.Y.oeqI ?_
  | with_reducible refine' DL.Y.oneI ?_
  | with_reducible refine' DL.Y.oeqS ?_
  | with_reducible refine' DL.Y.neS ?_
  | with_reducible refine' DL.Y.oneS ?_
  | with_reducible refine' DL.Y.oeqB ?_
  | with_reducible refine' DL.Y.tst ?_
  | with_reducible refine' DL.Y.bl_ ?_
  | ((with_reducible refine' DL.Y.iRng1_ ?z ?_); (case' z => (omega; done)))
  | with_reducible refine' DL.Y.int_ ?_
  | with_reducible refine' DL.Y.str_ ?_
  | with_reducible refine' DL.Y.ref_ ?_
  | ((with_reducible refine' DL.Y.iteT ?h ?_); (case' h => (walk_at "dec"; done)))
  | ((with_reducible refine' DL.Y.iteF ?h ?_); (case' h => (walk_at "dec"; done)))
  | with_reducible refine' DL.Y.seq ?_
  | with_reducible refine' DL.Y.set ?_
  | with_reducible refine' DL.Y.ifS ?_
  | with_reducible refine' DL.Y.ret ?_
  | with_reducible refine' DL.Y.nx ?_
  | with_reducible refine' DL.Y.drop ?_
  | with_reducible refine' DL.Y.asg ?_
  | with_reducible refine' DL.Y.par ?_
  | with_reducible refine' DL.Y.par_ ?_
  | with_reducible refine' DL.Y.par3 ?_
  | with_reducible refine' DL.Y.par3_ ?_
  | with_reducible refine' DL.Y.bk ?_
  | with_reducible refine' DL.Y.ct ?_
  | with_reducible refine' DL.Y.retN ?_
  | with_reducible refine' DL.Y.gn ?_
  | with_reducible refine' DL.Y.gnil ?_
  | with_reducible refine' DL.Y.gcons ?_
  | ((with_reducible refine' DL.Y.gseqT ?e ?_); (case' e => (rfl; done)))
  | ((with_reducible refine' DL.Y.gseqL ?e ?_); (case' e => (rfl; done)))
  | with_reducible refine' DL.Y.tup ?_
  | with_reducible refine' DL.Y.lst ?_
  | ((with_reducible refine' DL.Y.len_ ?n ?l ?_); (case' n => exact rfl); (case' l => try walk_at "size2"))
  | with_reducible refine' DL.Y.ix ?_
  | ((with_reducible refine' DL.Y.ixT ?e ?_); (case' e => ((first | rfl | assumption); done)))
  | ((with_reducible refine' DL.Y.ixL ?e ?_); (case' e => (rfl; done)))
  | ((with_reducible refine' DL.Y.ixR ?g ?e ?_); (case' g => with_reducible assumption); (case' e => (rfl; done)))
  | with_reducible refine' DL.Y.cal ?_
  | with_reducible refine' DL.Y.lenT ?_
  | with_reducible refine' DL.Y.lenL ?_
  | ((with_reducible refine' DL.Y.lenR ?g ?_); (case' g => with_reducible assumption))
  | with_reducible refine' DL.Y.absI ?_
  | with_reducible refine' DL.Y.max2 ?_
  | with_reducible refine' DL.Y.neM ?_
  | with_reducible refine' DL.Y.popAt ?_
  | with_reducible refine' DL.Y.lstRg1 ?_
  | with_reducible refine' DL.Y.lstRg2 ?_
  | with_reducible refine' DL.Y.lstRgM ?_
  | with_reducible refine' DL.Y.intI ?_
  | with_reducible refine' DL.Y.intB ?_
  | with_reducible refine' DL.Y.tupT ?_
  | with_reducible refine' DL.Y.tupL ?_
  | ((with_reducible refine' DL.Y.tupR ?g ?_); (case' g => with_reducible assumption))
  | with_reducible refine' DL.Y.lstT ?_
  | with_reducible refine' DL.Y.lstL ?_
  | with_reducible refine' DL.Y.allL ?_
  | with_reducible refine' DL.Y.anyL ?_
  | ((with_reducible refine' DL.Y.oaddL ?z ?_); (case' z => try walk_at "size2"))
  | ((with_reducible refine' DL.Y.oaddT ?z ?_); (case' z => try walk_at "size2"))
  | with_reducible refine' DL.Y.oisB ?_
  | with_reducible refine' DL.Y.onotB ?_
  | with_reducible refine' DL.Y.neg ?_
  | with_reducible refine' DL.Y.notT ?_
  | with_reducible refine' DL.Y.andT ?_
  | with_reducible refine' DL.Y.orT ?_
  | with_reducible refine' DL.Y.yes ?_
  | with_reducible refine' DL.Y.ifT ?_
  | with_reducible refine' DL.Y.andV ?_
  | with_reducible refine' DL.Y.orV ?_
  | with_reducible refine' DL.Y.notV ?_
  | with_reducible refine' DL.Y.isN ?_
  | with_reducible refine' DL.Y.notN ?_
  | ((with_reducible refine' DL.Y.isi_ ?e ?_); (case' e => (rfl; done)))
  | with_reducible refine' DL.Y.isiT ?_
  | with_reducible refine' DL.Y.chain ?_
  | with_reducible refine' DL.Y.sl ?_
  | with_reducible refine' DL.Y.noP ?_
  | with_reducible refine' DL.Y.part ?_
  | ((with_reducible refine' DL.Y.slLl ?n ?e ?_); (case' n => (rfl; done)); (case' e => walk_at "cut"))
  | ((with_reducible refine' DL.Y.slTl ?n ?m ?e ?_); (case' n => (rfl; done)); (case' m => (simp [HT.sIx]; done)); (case' e => walk_at "cut"))
  | with_reducible refine' DL.Y.slL ?_
  | with_reducible refine' DL.Y.call ?_
  | with_reducible refine' DL.Y.callK ?_
  | with_reducible refine' DL.Y.callD ?_
  | with_reducible refine' DL.Y.fld ?_
  | ((with_reducible refine' DL.Y.fld_ ?f ?e ?_); (case' f => (first | rfl | assumption); done); (case' e => (rfl; done)))
  | with_reducible refine' DL.Y.isW_ ?_
  | with_reducible refine' DL.Y.inK ?_
  | with_reducible refine' DL.Y.iSeq ?_
  | with_reducible refine' DL.Y.iSeqL ?_
  | with_reducible refine' DL.Y.iSeqT ?_
  | with_reducible refine' DL.Y.iRng1 ?_
  | with_reducible refine' DL.Y.iZip ?_
  | with_reducible refine' DL.Y.iZipT ?_
  | with_reducible refine' DL.Y.iZipL ?_
  | with_reducible refine' DL.Y.iZipR ?_
  | with_reducible refine' DL.Y.iZipM ?_
  | with_reducible refine' DL.Y.iEnum ?_
  | with_reducible refine' DL.Y.iEnumT ?_
  | with_reducible refine' DL.Y.iEnumL ?_
  | with_reducible refine' DL.Y.for_ ?_
  | with_reducible refine' DL.Y.cmp ?_
  | with_reducible refine' DL.Y.cmpM ?_
  | with_reducible refine' DL.Y.cmpQ ?_
  | with_reducible refine' DL.Y.isO ?_
  | ((with_reducible refine' DL.Y.isO_ (isO_exc ?c) ?_); (case' c => (decide +kernel; done)))
  | ((with_reducible refine' DL.Y.isO_ ?e ?_); (case' e => (rfl; done)))
  | ((with_reducible refine' DL.Y.isW1 ?e ?_); (case' e => (first | assumption | (rfl; done))))
  | with_reducible refine' DL.Y.xf ?_
  | ((with_reducible refine' DL.Y.xf_ ?c ?e ?_); (case' c => (decide +kernel; done)); (case' e => (first | assumption | (rfl; done))))
  | with_reducible refine' DL.Y.mk ?_
  | with_reducible refine' DL.Y.dctM ?_
  | with_reducible refine' DL.Y.dct0 ?_
  | with_reducible refine' DL.Y.lstM ?_
  | with_reducible refine' DL.Y.rev ?_
  | with_reducible refine' DL.Y.revL ?_
  | with_reducible refine' DL.Y.dget ?_
  | with_reducible refine' DL.Y.dput ?_
  | with_reducible refine' DL.Y.app ?_
  | with_reducible refine' DL.Y.gc ?_
  | with_reducible refine' DL.Y.boolB ?_
  | with_reducible refine' DL.Y.disp ?_
  | with_reducible refine' DL.Y.valsC ?_
  | with_reducible refine' DL.Y.valsN ?_
  | with_reducible refine' DL.Y.ownEq ?_
  | with_reducible refine' DL.Y.cmp2 ?_
  | with_reducible refine' DL.Y.star ?_
  | with_reducible refine' DL.Y.meth ?_
  | with_reducible refine' DL.Y.index ?_
  | with_reducible refine' DL.Y.backT ?_
  | with_reducible refine' DL.Y.iRngV ?_
  | with_reducible refine' DL.Y.rng1_ ?_
  | with_reducible refine' DL.Y.rng2_ ?_
  | with_reducible refine' DL.Y.rngV_ ?_
  | ((with_reducible refine' DL.Y.fld_ ?f ?e ?_); (case' f => ((first | rfl | assumption | decide +kernel); done)); (case' e => (rfl; done)))
  | with_reducible refine' DL.Y.chLe ?_
  | with_reducible refine' DL.Y.chLt ?_
  | with_reducible refine' DL.Y.setF ?_
  | with_reducible refine' DL.Y.lenSet ?_
  | with_reducible refine' DL.Y.inL ?_
  | with_reducible refine' DL.Y.inTp ?_
  | with_reducible refine' DL.Y.slTA ?_
  | with_reducible refine' DL.Y.sortS ?_
  | with_reducible refine' DL.Y.iRng2 ?_
  | ((with_reducible refine' DL.Y.iRng2_ ?z ?_); (case' z => (omega; done)))
  | with_reducible refine' DL.Y.inD ?_
  | with_reducible refine' DL.Y.inD_ ?_
  | with_reducible refine' DL.Y.ixD ?_
  | ((with_reducible refine' DL.Y.mulS ?h ?_); (case' h => (exact ⟨by omega, by omega, by decide⟩)))
  | ((with_reducible refine' DL.Y.mulL ?h ?_); (case' h => (exact ⟨by simp only [List.length_cons, List.length_nil]; omega, by omega, by omega⟩)))
  | walk_at "xu"
  | walk_at "norm")
local macro_rules | `(tactic| walk_at "norm") => `(tactic| (dsimp only [List.set]))
local macro_rules | `(tactic| walk_at "x") => `(tactic| first | walk_at "x0" | with_reducible refine' DL.Y.ifE ?_)
local macro_rules | `(tactic| walk_at "xs") => `(tactic| repeat walk_at "x0")
local macro_rules | `(tactic| walk_at "xx") => `(tactic| repeat walk_at "x")
local macro_rules | `(tactic| walk_at "start") => `(tactic| dsimp only [List.map, List.length_cons, List.length_nil, List.cons_append, List.nil_append, Nat.zero_add, Nat.reduceAdd, Nat.reduceSub, List.reduceReplicate])
namespace DL
open PySem PySem.Spec PyProof.Rows L2 Evl Sup
variable [TabC]
def denB (b : Bx) : Nat := match b with
  | some (n + 1) => 3 ^ n
  | _ => 1
def mx (c : List Sd) (a : Nat) : Nat := c.foldl (fun a s => max (max a (denB s.x)) (denB s.y)) a
end DL
namespace DL
open PySem PySem.Spec PyProof.Rows L2 Evl Sup
variable [TabC]
end DL
namespace DL
open PySem PySem.Spec PyProof.Rows L2 Evl Sup
variable [TabC]
end DL
namespace DL
open PySem PySem.Spec PyProof.Rows L2 Evl Sup
variable [TabC]
end DL
namespace DL
open PySem PySem.Spec PyProof.Rows L2 Evl Sup
variable [TabC]
end DL
namespace DL
open PySem PySem.Spec PyProof.Rows L2 Evl Sup
variable [TabC]
end DL
end
section
open PySem PySem.Spec PyProof.Rows L2 Evl DL
local macro_rules | `(tactic| walk_at "side") => `(tactic| first | exact mul_left (by decide) | exact mul_right (by decide) | exact mul_bd | exact div_bd (by first | assumption | decide | omega) | exact pow_bd (by first | decide | omega) (by first | decide | omega) | assumption | (show (0 : Int) < _; first | decide | omega))
local macro_rules | `(tactic| walk_at "eva") => `(tactic| first | exact DL.EvA.nil | (refine' DL.EvA.cons ?e ?r; (case' e => walk_at "ev"); (case' r => walk_at "eva")))
local macro_rules | `(tactic| walk_at "seq") => `(tactic| first | exact seq_tup | exact seq_lst | exact seq_ref (by assumption))
local macro_rules | `(tactic| walk_at "size") => `(tactic| first | (show _ ≤ sizeLine; simp only [List.length_cons, List.length_nil]; decide) | (rw [sizeLine_eq]; omega))
local macro_rules | `(tactic| walk_at "ev") => `(tactic| first
  | exact DL.Ev.c
  | exact DL.Ev.var rfl
  | (refine' DL.Ev.int ?a ?b; (case' a => walk_at "ev"); (case' b => walk_at "ev"))
  | (refine' DL.Ev.intC ?a ?b ?s; (case' a => walk_at "ev"); (case' b => walk_at "ev"); (case' s => try walk_at "side"))
  | (refine' DL.Ev.add ?a ?b; (case' a => walk_at "ev"); (case' b => walk_at "ev"))
  | (refine' DL.Ev.neg ?a; (case' a => walk_at "ev"))
  | (refine' DL.Ev.intOf ?a; (case' a => walk_at "ev"))
  | (refine' DL.Ev.intB ?a; (case' a => walk_at "ev"))
  | (refine' DL.Ev.absN ?a; (case' a => walk_at "ev"))
  | (refine' DL.Ev.eqI ?a ?b; (case' a => walk_at "ev"); (case' b => walk_at "ev"))
  | (refine' DL.Ev.neI ?a ?b; (case' a => walk_at "ev"); (case' b => walk_at "ev"))
  | (refine' DL.Ev.at ?a ?b ?s ?k; (case' a => walk_at "ev"); (case' b => walk_at "ev"); (case' s => walk_at "seq"); (case' k => try rfl))
  | (refine' DL.Ev.len ?a ?s; (case' a => walk_at "ev"); (case' s => walk_at "seq"))
  | (refine' DL.Ev.tupOf ?a ?s; (case' a => walk_at "ev"); (case' s => walk_at "seq"))
  | (refine' DL.Ev.tup ?a ?z; (case' a => walk_at "eva"); (case' z => try walk_at "size"))
  | (refine' DL.Ev.lst ?a ?z; (case' a => walk_at "eva"); (case' z => try walk_at "size"))
  | (refine' DL.Ev.notV ?a; (case' a => walk_at "ev"))
  | (refine' DL.Ev.isN ?a; (case' a => walk_at "ev"))
  | exact fun R r => r
  | assumption)
local macro_rules | `(tactic| walk_at "set") => `(tactic| (refine' ds_set ?e ?_; (case' e => walk_at "ev")))
local macro_rules | `(tactic| walk_at "ret") => `(tactic| (refine' ds_ret ?e ?_; (case' e => walk_at "ev")))
local macro_rules | `(tactic| walk_at "par") => `(tactic| (refine' ds_par ?e ?f ?_; (case' e => walk_at "ev"); (case' f => walk_at "ev")))
local macro_rules | `(tactic| walk_at "cut") => `(tactic| (simp only [DL.cutD, HT.sIx, List.length_cons, List.length_nil, Nat.zero_add, Nat.reduceAdd, Nat.min_def, Nat.reduceLeDiff, ↓reduceIte, List.drop_zero, List.drop_succ_cons, List.take_zero, List.take_succ_cons, List.take_nil, List.drop_nil, List.cons_append, List.nil_append, Int.reduceLT, Int.reduceToNat, Nat.reduceSub, Nat.sub_zero, Int.reduceNeg, Int.cast_ofNat_Int, Int.reduceAdd]; exact rfl))
local macro_rules | `(tactic| walk_at "xu") => `(tactic| first
  | with_reducible refine' DL.Y.ixS0 ?_
  | with_reducible refine' DL.Y.ixS1 ?_
  | with_reducible refine' DL.Y.ixS2 ?_
  | with_reducible refine' DL.Y.ixP0 ?_
  | with_reducible refine' DL.Y.ixP1 ?_
  | with_reducible refine' DL.Y.lstS ?_
  | with_reducible refine' DL.Y.lstP ?_)
local macro_rules | `(tactic| walk_at "dec") => `(tactic| first | rfl | assumption | exact decide_eq_true (by omega) | exact decide_eq_false (by omega) | exact DL.Y.ndT (by omega) | exact DL.Y.ndF (by omega) | decide +kernel)
local macro_rules | `(tactic| walk_at "size2") => `(tactic| first | exact Nat.le_of_ble_eq_true rfl | omega)
local macro_rules | `(tactic| walk_at "x0") => `(tactic| first
  | with_reducible refine' DL.Y.cons ?_
  | ((with_reducible refine' DL.Y.var ?e ?_); (case' e => (first | exact rfl | assumption)))
  | with_reducible refine' DL.Y.c ?_
  | with_reducible refine' DL.Y.nil ?_
  | with_reducible refine' DL.Y.op ?_
  | with_reducible refine' DL.Y.oint ?_
  | ((with_reducible refine' DL.Y.ointC ?s ?_); (case' s => try walk_at "side"))
  | with_reducible refine' DL.Y.oadd ?_
  | with_reducible refine' DL.Y.oeqI ?_
  | with_reducible refine' DL.Y.oneI ?_
  | with_reducible refine' DL.Y.oeqS ?_
  | with_reducible refine' DL.Y.neS ?_
  | with_reducible refine' DL.Y.oneS ?_
  | with_reducible refine' DL.Y.oeqB ?_
  | with_reducible refine' DL.Y.tst ?_
  | with_reducible refine' DL.Y.bl_ ?_
  | ((with_reducible refine' DL.Y.iRng1_ ?z ?_); (case' z => (omega; done)))
  | with_reducible refine' DL.Y.int_ ?_
  | with_reducible refine' DL.Y.str_ ?_
  | with_reducible refine' DL.Y.ref_ ?_
  | ((with_reducible refine' DL.Y.iteT ?h ?_); (case' h => (walk_at "dec"; done)))
  | ((with_reducible refine' DL.Y.iteF ?h ?_); (case' h => (walk_at "dec"; done)))
  | with_reducible refine' DL.Y.seq ?_
  | with_reducible refine' DL.Y.set ?_
  | with_reducible refine' DL.Y.ifS ?_
  | with_reducible refine' DL.Y.ret ?_
  | with_reducible refine' DL.Y.nx ?_
  | with_reducible refine' DL.Y.drop ?_
  | with_reducible refine' DL.Y.asg ?_
  | with_reducible refine' DL.Y.par ?_
  | with_reducible refine' DL.Y.par_ ?_
  | with_reducible refine' DL.Y.par3 ?_
  | with_reducible refine' DL.Y.par3_ ?_
  | with_reducible refine' DL.Y.bk ?_
  | with_reducible refine' DL.Y.ct ?_
  | with_reducible refine' DL.Y.retN ?_
  | with_reducible refine' DL.Y.gn ?_
  | with_reducible refine' DL.Y.gnil ?_
  | with_reducible refine' DL.Y.gcons ?_
  | ((with_reducible refine' DL.Y.gseqT ?e ?_); (case' e => (rfl; done)))
  | ((with_reducible refine' DL.Y.gseqL ?e ?_); (case' e => (rfl; done)))
  | with_reducible refine' DL.Y.tup ?_
  | with_reducible refine' DL.Y.lst ?_
  | ((with_reducible refine' DL.Y.len_ ?n ?l ?_); (case' n => exact rfl); (case' l => try walk_at "size2"))
  | with_reducible refine' DL.Y.ix ?_
  | ((with_reducible refine' DL.Y.ixT ?e ?_); (case' e => ((first | rfl | assumption); done)))
  | ((with_reducible refine' DL.Y.ixL ?e ?_); (case' e => (rfl; done)))
  | ((with_reducible refine' DL.Y.ixR ?g ?e ?_); (case' g => with_reducible assumption); (case' e => (rfl; done)))
  | with_reducible refine' DL.Y.cal ?_
  | with_reducible refine' DL.Y.lenT ?_
  | with_reducible refine' DL.Y.lenL ?_
  | ((with_reducible refine' DL.Y.lenR ?g ?_); (case' g => with_reducible assumption))
  | with_reducible refine' DL.Y.absI ?_
  | with_reducible refine' DL.Y.max2 ?_
  | with_reducible refine' DL.Y.strJoin ?_
  | with_reducible refine' DL.Y.neM ?_
  | with_reducible refine' DL.Y.popAt ?_
  | with_reducible refine' DL.Y.lstRg1 ?_
  | with_reducible refine' DL.Y.lstRg2 ?_
  | with_reducible refine' DL.Y.lstRgM ?_
  | with_reducible refine' DL.Y.intI ?_
  | with_reducible refine' DL.Y.intB ?_
  | with_reducible refine' DL.Y.tupT ?_
  | with_reducible refine' DL.Y.tupL ?_
  | ((with_reducible refine' DL.Y.tupR ?g ?_); (case' g => with_reducible assumption))
  | with_reducible refine' DL.Y.lstT ?_
  | with_reducible refine' DL.Y.lstL ?_
  | with_reducible refine' DL.Y.allL ?_
  | with_reducible refine' DL.Y.anyL ?_
  | ((with_reducible refine' DL.Y.oaddL ?z ?_); (case' z => try walk_at "size2"))
  | ((with_reducible refine' DL.Y.oaddT ?z ?_); (case' z => try walk_at "size2"))
  | with_reducible refine' DL.Y.oisB ?_
  | with_reducible refine' DL.Y.onotB ?_
  | with_reducible refine' DL.Y.neg ?_
  | with_reducible refine' DL.Y.notT ?_
  | with_reducible refine' DL.Y.andT ?_
  | with_reducible refine' DL.Y.orT ?_
  | with_reducible refine' DL.Y.yes ?_
  | with_reducible refine' DL.Y.ifT ?_
  | with_reducible refine' DL.Y.andV ?_
  | with_reducible refine' DL.Y.orV ?_
  | with_reducible refine' DL.Y.notV ?_
  | with_reducible refine' DL.Y.isN ?_
  | with_reducible refine' DL.Y.notN ?_
  | ((with_reducible refine' DL.Y.isi_ ?e ?_); (case' e => (rfl; done)))
  | with_reducible refine' DL.Y.isiT ?_
  | with_reducible refine' DL.Y.chain ?_
  | with_reducible refine' DL.Y.sl ?_
  | with_reducible refine' DL.Y.noP ?_
  | with_reducible refine' DL.Y.part ?_
  | ((with_reducible refine' DL.Y.slLl ?n ?e ?_); (case' n => (rfl; done)); (case' e => walk_at "cut"))
  | ((with_reducible refine' DL.Y.slTl ?n ?m ?e ?_); (case' n => (rfl; done)); (case' m => (simp [HT.sIx]; done)); (case' e => walk_at "cut"))
  | with_reducible refine' DL.Y.slL ?_
  | with_reducible refine' DL.Y.call ?_
  | with_reducible refine' DL.Y.callK ?_
  | with_reducible refine' DL.Y.callD ?_
  | with_reducible refine' DL.Y.fld ?_
  | ((with_reducible refine' DL.Y.fld_ ?f ?e ?_); (case' f => (first | rfl | assumption); done); (case' e => (rfl; done)))
  | with_reducible refine' DL.Y.isW_ ?_
  | with_reducible refine' DL.Y.inK ?_
  | with_reducible refine' DL.Y.iSeq ?_
  | with_reducible refine' DL.Y.iSeqL ?_
  | with_reducible refine' DL.Y.iSeqT ?_
  | with_reducible refine' DL.Y.iRng1 ?_
  | with_reducible refine' DL.Y.iZip ?_
  | with_reducible refine' DL.Y.iZipT ?_
  | with_reducible refine' DL.Y.iZipL ?_
  | with_reducible refine' DL.Y.iZipR ?_
  | with_reducible refine' DL.Y.iZipM ?_
  | with_reducible refine' DL.Y.iEnum ?_
  | with_reducible refine' DL.Y.iEnumT ?_
  | with_reducible refine' DL.Y.iEnumL ?_
  | with_reducible refine' DL.Y.for_ ?_
  | with_reducible refine' DL.Y.cmp ?_
  | with_reducible refine' DL.Y.cmpM ?_
  | with_reducible refine' DL.Y.cmpQ ?_
  | with_reducible refine' DL.Y.isO ?_
  | ((with_reducible refine' DL.Y.isO_ (isO_exc ?c) ?_); (case' c => (decide +kernel; done)))
  | ((with_reducible refine' DL.Y.isO_ ?e ?_); (case' e => (rfl; done)))
  | ((with_reducible refine' DL.Y.isW1 ?e ?_); (case' e => (first | assumption | (rfl; done))))
  | with_reducible refine' DL.Y.xf ?_
  | ((with_reducible refine' DL.Y.xf_ ?c ?e ?_); (case' c => (decide +kernel; done)); (case' e => (first | assumption | (rfl; done))))
  | with_reducible refine' DL.Y.mk ?_
  | with_reducible refine' DL.Y.dctM ?_
  | with_reducible refine' DL.Y.dct0 ?_
  | with_reducible refine' DL.Y.lstM ?_
  | with_reducible refine' DL.Y.rev ?_
  | with_reducible refine' DL.Y.revL ?_
  | with_reducible refine' DL.Y.dget ?_
  | with_reducible refine' DL.Y.dput ?_
  | with_reducible refine' DL.Y.app ?_
  | with_reducible refine' DL.Y.gc ?_
  | with_reducible refine' DL.Y.boolB ?_
  | with_reducible refine' DL.Y.disp ?_
  | with_reducible refine' DL.Y.valsC ?_
  | with_reducible refine' DL.Y.valsN ?_
  | with_reducible refine' DL.Y.ownEq ?_
  | with_reducible refine' DL.Y.cmp2 ?_
  | with_reducible refine' DL.Y.star ?_
  | with_reducible refine' DL.Y.meth ?_
  | with_reducible refine' DL.Y.index ?_
  | with_reducible refine' DL.Y.backT ?_
  | with_reducible refine' DL.Y.iRngV ?_
  | with_reducible refine' DL.Y.rng1_ ?_
  | with_reducible refine' DL.Y.rng2_ ?_
  | with_reducible refine' DL.Y.rngV_ ?_
  | ((with_reducible refine' DL.Y.fld_ ?f ?e ?_); (case' f => ((first | rfl | assumption | decide +kernel); done)); (case' e => (rfl; done)))
  | with_reducible refine' DL.Y.chLe ?_
  | with_reducible refine' DL.Y.chLt ?_
  | with_reducible refine' DL.Y.setF ?_
  | with_reducible refine' DL.Y.lenSet ?_
  | with_reducible refine' DL.Y.inL ?_
  | with_reducible refine' DL.Y.inTp ?_
  | with_reducible refine' DL.Y.slTA ?_
  | with_reducible refine' DL.Y.sortS ?_
  | with_reducible refine' DL.Y.iRng2 ?_
  | ((with_reducible refine' DL.Y.iRng2_ ?z ?_); (case' z => (omega; done)))
  | with_reducible refine' DL.Y.inD ?_
  | with_reducible refine' DL.Y.inD_ ?_
  | with_reducible refine' DL.Y.ixD ?_
  | ((with_reducible refine' DL.Y.mulS ?h ?_); (case' h => (exact ⟨by omega, by omega, by decide⟩)))
  | ((with_reducible refine' DL.Y.mulL ?h ?_); (case' h => (exact ⟨by simp only [List.length_cons, List.length_nil]; omega, by omega, by omega⟩)))
  | walk_at "xu"
  | walk_at "norm")
local macro_rules | `(tactic| walk_at "norm") => `(tactic| (dsimp only [List.set]))
local macro_rules | `(tactic| walk_at "x") => `(tactic| first | walk_at "x0" | with_reducible refine' DL.Y.ifE ?_)
local macro_rules | `(tactic| walk_at "xs") => `(tactic| repeat walk_at "x0")
local macro_rules | `(tactic| walk_at "xx") => `(tactic| repeat walk_at "x")
local macro_rules | `(tactic| walk_at "start") => `(tactic| dsimp only [List.map, List.length_cons, List.length_nil, List.cons_append, List.nil_append, Nat.zero_add, Nat.reduceAdd, Nat.reduceSub, List.reduceReplicate])
namespace DL
open PySem PySem.Spec PyProof.Rows L2 Evl Sup
variable [TabC]
section
variable {X : Cx} {B : Bs} {apos pos : Pos} {o e : Expr} {dobj de : DE}
end
variable {ρ : En} {G : Gm} {R : KD} {da db : DE}
end DL
end
section
open PySem PySem.Spec PyProof.Rows L2 Evl DL
local macro_rules | `(tactic| walk_at "side") => `(tactic| first | exact mul_left (by decide) | exact mul_right (by decide) | exact mul_bd | exact div_bd (by first | assumption | decide | omega) | exact pow_bd (by first | decide | omega) (by first | decide | omega) | assumption | (show (0 : Int) < _; first | decide | omega))
local macro_rules | `(tactic| walk_at "eva") => `(tactic| first | exact DL.EvA.nil | (refine' DL.EvA.cons ?e ?r; (case' e => walk_at "ev"); (case' r => walk_at "eva")))
local macro_rules | `(tactic| walk_at "seq") => `(tactic| first | exact seq_tup | exact seq_lst | exact seq_ref (by assumption))
local macro_rules | `(tactic| walk_at "size") => `(tactic| first | (show _ ≤ sizeLine; simp only [List.length_cons, List.length_nil]; decide) | (rw [sizeLine_eq]; omega))
local macro_rules | `(tactic| walk_at "ev") => `(tactic| first
  | exact DL.Ev.c
  | exact DL.Ev.var rfl
  | (refine' DL.Ev.int ?a ?b; (case' a => walk_at "ev"); (case' b => walk_at "ev"))
  | (refine' DL.Ev.intC ?a ?b ?s; (case' a => walk_at "ev"); (case' b => walk_at "ev"); (case' s => try walk_at "side"))
  | (refine' DL.Ev.add ?a ?b; (case' a => walk_at "ev"); (case' b => walk_at "ev"))
  | (refine' DL.Ev.neg ?a; (case' a => walk_at "ev"))
  | (refine' DL.Ev.intOf ?a; (case' a => walk_at "ev"))
  | (refine' DL.Ev.intB ?a; (case' a => walk_at "ev"))
  | (refine' DL.Ev.absN ?a; (case' a => walk_at "ev"))
  | (refine' DL.Ev.eqI ?a ?b; (case' a => walk_at "ev"); (case' b => walk_at "ev"))
  | (refine' DL.Ev.neI ?a ?b; (case' a => walk_at "ev"); (case' b => walk_at "ev"))
  | (refine' DL.Ev.at ?a ?b ?s ?k; (case' a => walk_at "ev"); (case' b => walk_at "ev"); (case' s => walk_at "seq"); (case' k => try rfl))
  | (refine' DL.Ev.len ?a ?s; (case' a => walk_at "ev"); (case' s => walk_at "seq"))
  | (refine' DL.Ev.tupOf ?a ?s; (case' a => walk_at "ev"); (case' s => walk_at "seq"))
  | (refine' DL.Ev.tup ?a ?z; (case' a => walk_at "eva"); (case' z => try walk_at "size"))
  | (refine' DL.Ev.lst ?a ?z; (case' a => walk_at "eva"); (case' z => try walk_at "size"))
  | (refine' DL.Ev.notV ?a; (case' a => walk_at "ev"))
  | (refine' DL.Ev.isN ?a; (case' a => walk_at "ev"))
  | exact fun R r => r
  | assumption)
local macro_rules | `(tactic| walk_at "set") => `(tactic| (refine' ds_set ?e ?_; (case' e => walk_at "ev")))
local macro_rules | `(tactic| walk_at "ret") => `(tactic| (refine' ds_ret ?e ?_; (case' e => walk_at "ev")))
local macro_rules | `(tactic| walk_at "par") => `(tactic| (refine' ds_par ?e ?f ?_; (case' e => walk_at "ev"); (case' f => walk_at "ev")))
local macro_rules | `(tactic| walk_at "cut") => `(tactic| (simp only [DL.cutD, HT.sIx, List.length_cons, List.length_nil, Nat.zero_add, Nat.reduceAdd, Nat.min_def, Nat.reduceLeDiff, ↓reduceIte, List.drop_zero, List.drop_succ_cons, List.take_zero, List.take_succ_cons, List.take_nil, List.drop_nil, List.cons_append, List.nil_append, Int.reduceLT, Int.reduceToNat, Nat.reduceSub, Nat.sub_zero, Int.reduceNeg, Int.cast_ofNat_Int, Int.reduceAdd]; exact rfl))
local macro_rules | `(tactic| walk_at "xu") => `(tactic| first
  | with_reducible refine' DL.Y.ixS0 ?_
  | with_reducible refine' DL.Y.ixS1 ?_
  | with_reducible refine' DL.Y.ixS2 ?_
  | with_reducible refine' DL.Y.ixP0 ?_
  | with_reducible refine' DL.Y.ixP1 ?_
  | with_reducible refine' DL.Y.lstS ?_
  | with_reducible refine' DL.Y.lstP ?_)
local macro_rules | `(tactic| walk_at "dec") => `(tactic| first | rfl | assumption | exact decide_eq_true (by omega) | exact decide_eq_false (by omega) | exact DL.Y.ndT (by omega) | exact DL.Y.ndF (by omega) | decide +kernel)
local macro_rules | `(tactic| walk_at "size2") => `(tactic| first | exact Nat.le_of_ble_eq_true rfl | omega)
local macro_rules | `(tactic| walk_at "x0") => `(tactic| first
  | with_reducible refine' DL.Y.cons ?_
  | ((with_reducible refine' DL.Y.var ?e ?_); (case' e => (first | exact rfl | assumption)))
  | with_reducible refine' DL.Y.c ?_
  | with_reducible refine' DL.Y.nil ?_
  | with_reducible refine' DL.Y.op ?_
  | with_reducible refine' DL.Y.oint ?_
  | ((with_reducible refine' DL.Y.ointC ?s ?_); (case' s => try walk_at "side"))
  | with_reducible refine' DL.Y.oadd ?_
  | with_reducible refine' DL.Y.oeqI ?_
  | with_reducible refine' DL.Y.oneI ?_
  | with_reducible refine' DL.Y.oeqS ?_
  | with_reducible refine' DL.Y.neS ?_
  | with_reducible refine' DL.Y.oneS ?_
  | with_reducible refine' DL.Y.oeqB ?_
  | with_reducible refine' DL.Y.tst ?_
  | with_reducible refine' DL.Y.bl_ ?_
  | ((with_reducible refine' DL.Y.iRng1_ ?z ?_); (case' z => (omega; done)))
  | with_reducible refine' DL.Y.int_ ?_
  | with_reducible refine' DL.Y.str_ ?_
  | with_reducible refine' DL.Y.ref_ ?_
  | ((with_reducible refine' DL.Y.iteT ?h ?_); (case' h => (walk_at "dec"; done)))
  | ((with_reducible refine' DL.Y.iteF ?h ?_); (case' h => (walk_at "dec"; done)))
  | with_reducible refine' DL.Y.seq ?_
  | with_reducible refine' DL.Y.set ?_
  | with_reducible refine' DL.Y.ifS ?_
  | with_reducible refine' DL.Y.ret ?_
  | with_reducible refine' DL.Y.nx ?_
  | with_reducible refine' DL.Y.drop ?_
  | with_reducible refine' DL.Y.asg ?_
  | with_reducible refine' DL.Y.par ?_
  | with_reducible refine' DL.Y.par_ ?_
  | with_reducible refine' DL.Y.par3 ?_
  | with_reducible refine' DL.Y.par3_ ?_
  | with_reducible refine' DL.Y.bk ?_
  | with_reducible refine' DL.Y.ct ?_
  | with_reducible refine' DL.Y.retN ?_
  | with_reducible refine' DL.Y.gn ?_
  | with_reducible refine' DL.Y.gnil ?_
  | with_reducible refine' DL.Y.gcons ?_
  | ((with_reducible refine' DL.Y.gseqT ?e ?_); (case' e => (rfl; done)))
  | ((with_reducible refine' DL.Y.gseqL ?e ?_); (case' e => (rfl; done)))
  | with_reducible refine' DL.Y.tup ?_
  | with_reducible refine' DL.Y.lst ?_
  | ((with_reducible refine' DL.Y.len_ ?n ?l ?_); (case' n => exact rfl); (case' l => try walk_at "size2"))
  | with_reducible refine' DL.Y.ix ?_
  | ((with_reducible refine' DL.Y.ixT ?e ?_); (case' e => ((first | rfl | assumption); done)))
  | ((with_reducible refine' DL.Y.ixL ?e ?_); (case' e => (rfl; done)))
  | ((with_reducible refine' DL.Y.ixR ?g ?e ?_); (case' g => with_reducible assumption); (case' e => (rfl; done)))
  | with_reducible refine' DL.Y.cal ?_
  | with_reducible refine' DL.Y.lenT ?_
  | with_reducible refine' DL.Y.lenL ?_
  | ((with_reducible refine' DL.Y.lenR ?g ?_); (case' g => with_reducible assumption))
  | with_reducible refine' DL.Y.absI ?_
  | with_reducible refine' DL.Y.max2 ?_
  | with_reducible refine' DL.Y.strJoin ?_
  | with_reducible refine' DL.Y.neM ?_
  | with_reducible refine' DL.Y.popAt ?_
  | with_reducible refine' DL.Y.lstRg1 ?_
  | with_reducible refine' DL.Y.lstRg2 ?_
  | with_reducible refine' DL.Y.lstRgM ?_
  | with_reducible refine' DL.Y.intI ?_
  | with_reducible refine' DL.Y.intB ?_
  | with_reducible refine' DL.Y.tupT ?_
  | with_reducible refine' DL.Y.tupL ?_
  | ((with_reducible refine' DL.Y.tupR ?g ?_); (case' g => with_reducible assumption))
  | with_reducible refine' DL.Y.lstT ?_
  | with_reducible refine' DL.Y.lstL ?_
  | with_reducible refine' DL.Y.allL ?_
  | with_reducible refine' DL.Y.anyL ?_
  | ((with_reducible refine' DL.Y.oaddL ?z ?_); (case' z => try walk_at "size2"))
  | ((with_reducible refine' DL.Y.oaddT ?z ?_); (case' z => try walk_at "size2"))
  | with_reducible refine' DL.Y.oisB ?_
  | with_reducible refine' DL.Y.onotB ?_
  | with_reducible refine' DL.Y.neg ?_
  | with_reducible refine' DL.Y.notT ?_
  | with_reducible refine' DL.Y.andT ?_
  | with_reducible refine' DL.Y.orT ?_
  | with_reducible refine' DL.Y.yes ?_
  | with_reducible refine' DL.Y.ifT ?_
  | with_reducible refine' DL.Y.andV ?_
  | with_reducible refine' DL.Y.orV ?_
  | with_reducible refine' DL.Y.notV ?_
  | with_reducible refine' DL.Y.isN ?_
  | with_reducible refine' DL.Y.notN ?_
  | ((with_reducible refine' DL.Y.isi_ ?e ?_); (case' e => (rfl; done)))
  | with_reducible refine' DL.Y.isiT ?_
  | with_reducible refine' DL.Y.chain ?_
  | with_reducible refine' DL.Y.sl ?_
  | with_reducible refine' DL.Y.noP ?_
  | with_reducible refine' DL.Y.part ?_
  | ((with_reducible refine' DL.Y.slLl ?n ?e ?_); (case' n => (rfl; done)); (case' e => walk_at "cut"))
  | ((with_reducible refine' DL.Y.slTl ?n ?m ?e ?_); (case' n => (rfl; done)); (case' m => (simp [HT.sIx]; done)); (case' e => walk_at "cut"))
  | with_reducible refine' DL.Y.slL ?_
  | with_reducible refine' DL.Y.call ?_
  | with_reducible refine' DL.Y.callK ?_
  | with_reducible refine' DL.Y.callD ?_
  | with_reducible refine' DL.Y.fld ?_
  | ((with_reducible refine' DL.Y.fld_ ?f ?e ?_); (case' f => (first | rfl | assumption); done); (case' e => (rfl; done)))
  | with_reducible refine' DL.Y.isW_ ?_
  | with_reducible refine' DL.Y.inK ?_
  | with_reducible refine' DL.Y.iSeq ?_
  | with_reducible refine' DL.Y.iSeqL ?_
  | with_reducible refine' DL.Y.iSeqT ?_
  | with_reducible refine' DL.Y.iRng1 ?_
  | with_reducible refine' DL.Y.iZip ?_
  | with_reducible refine' DL.Y.iZipT ?_
  | with_reducible refine' DL.Y.iZipL ?_
  | with_reducible refine' DL.Y.iZipR ?_
  | with_reducible refine' DL.Y.iZipM ?_
  | with_reducible refine' DL.Y.iEnum ?_
  | with_reducible refine' DL.Y.iEnumT ?_
  | with_reducible refine' DL.Y.iEnumL ?_
  | with_reducible refine' DL.Y.for_ ?_
  | with_reducible refine' DL.Y.cmp ?_
  | with_reducible refine' DL.Y.cmpM ?_
  | with_reducible refine' DL.Y.cmpQ ?_
  | with_reducible refine' DL.Y.isO ?_
  | ((with_reducible refine' DL.Y.isO_ (isO_exc ?c) ?_); (case' c => (decide +kernel; done)))
  | ((with_reducible refine' DL.Y.isO_ ?e ?_); (case' e => (rfl; done)))
  | ((with_reducible refine' DL.Y.isW1 ?e ?_); (case' e => (first | assumption | (rfl; done))))
  | with_reducible refine' DL.Y.xf ?_
  | ((with_reducible refine' DL.Y.xf_ ?c ?e ?_); (case' c => (decide +kernel; done)); (case' e => (first | assumption | (rfl; done))))
  | with_reducible refine' DL.Y.mk ?_
  | with_reducible refine' DL.Y.dctM ?_
  | with_reducible refine' DL.Y.dct0 ?_
  | with_reducible refine' DL.Y.lstM ?_
  | with_reducible refine' DL.Y.rev ?_
  | with_reducible refine' DL.Y.revL ?_
  | with_reducible refine' DL.Y.dget ?_
  | with_reducible refine' DL.Y.dput ?_
  | with_reducible refine' DL.Y.app ?_
  | with_reducible refine' DL.Y.gc ?_
  | with_reducible refine' DL.Y.boolB ?_
  | with_reducible refine' DL.Y.disp ?_
  | with_reducible refine' DL.Y.valsC ?_
  | with_reducible refine' DL.Y.valsN ?_
  | with_reducible refine' DL.Y.ownEq ?_
  | with_reducible refine' DL.Y.cmp2 ?_
  | with_reducible refine' DL.Y.star ?_
  | with_reducible refine' DL.Y.meth ?_
  | with_reducible refine' DL.Y.index ?_
  | with_reducible refine' DL.Y.backT ?_
  | with_reducible refine' DL.Y.iRngV ?_
  | with_reducible refine' DL.Y.rng1_ ?_
  | with_reducible refine' DL.Y.rng2_ ?_
  | with_reducible refine' DL.Y.rngV_ ?_
  | ((with_reducible refine' DL.Y.fld_ ?f ?e ?_); (case' f => ((first | rfl | assumption | decide +kernel); done)); (case' e => (rfl; done)))
  | with_reducible refine' DL.Y.chLe ?_
  | with_reducible refine' DL.Y.chLt ?_
  | with_reducible refine' DL.Y.setF ?_
  | with_reducible refine' DL.Y.lenSet ?_
  | with_reducible refine' DL.Y.inL ?_
  | with_reducible refine' DL.Y.inTp ?_
  | with_reducible refine' DL.Y.slTA ?_
  | with_reducible refine' DL.Y.sortS ?_
  | with_reducible refine' DL.Y.iRng2 ?_
  | ((with_reducible refine' DL.Y.iRng2_ ?z ?_); (case' z => (omega; done)))
  | with_reducible refine' DL.Y.inD ?_
  | with_reducible refine' DL.Y.inD_ ?_
  | with_reducible refine' DL.Y.ixD ?_
  | ((with_reducible refine' DL.Y.mulS ?h ?_); (case' h => (exact ⟨by omega, by omega, by decide⟩)))
  | ((with_reducible refine' DL.Y.mulL ?h ?_); (case' h => (exact ⟨by simp only [List.length_cons, List.length_nil]; omega, by omega, by omega⟩)))
  | walk_at "xu"
  | walk_at "norm")
local macro_rules | `(tactic| walk_at "norm") => `(tactic| (dsimp only [List.set]))
local macro_rules | `(tactic| walk_at "x") => `(tactic| first | walk_at "x0" | with_reducible refine' DL.Y.ifE ?_)
local macro_rules | `(tactic| walk_at "xs") => `(tactic| repeat walk_at "x0")
local macro_rules | `(tactic| walk_at "xx") => `(tactic| repeat walk_at "x")
local macro_rules | `(tactic| walk_at "start") => `(tactic| dsimp only [List.map, List.length_cons, List.length_nil, List.cons_append, List.nil_append, Nat.zero_add, Nat.reduceAdd, Nat.reduceSub, List.reduceReplicate])
namespace DL
open PySem PySem.Spec PyProof.Rows L2 Evl Sup
variable [TabC]
def fStrOf (_ : Gm) (xs : List D) (z : D) : Prop := (∃ i : Int, xs = [.int i] ∧ i.natAbs.log2 < 1920 ∧ z = .str (toString i)) ∨ ∃ a, xs = [.str a] ∧ z = .str a
theorem call_strIS {X : Cx} : CallR X (.type "str") (fun xs H Q => (∃ i, xs = [.int i] ∧ i.natAbs.log2 < 1920 ∧ Q (.str (toString i)) H) ∨ ∃ a, xs = [.str a] ∧ Q (.str a) H) := by
  intro pins s σ H xs us Q I r h
  rcases h with h | h
  · exact call_str_int pins s σ H xs us Q I r h
  · exact SkE.call_str_str pins s σ H xs us Q I r h
theorem cd_str {K : PySem.W.Frag} : CalD K (fun xs H Q => (∃ i, xs = [.int i] ∧ i.natAbs.log2 < 1920 ∧ Q (.str (toString i)) H) ∨ ∃ a, xs = [.str a] ∧ Q (.str a) H) fStrOf := fun F Hd H G vs xs z Q s r h k => by
  rcases h with ⟨i, ex, hl, ez⟩ | ⟨a, ex, ez⟩
  · subst ex ez
    obtain ⟨v, rfl, rv⟩ := rpl1 r
    cases rv
    exact .inl ⟨i, rfl, hl, k _ H Hd (Ex.refl _) s (.str _)⟩
  · subst ex ez
    obtain ⟨v, rfl, rv⟩ := rpl1 r
    cases rv
    exact .inr ⟨a, rfl, k _ H Hd (Ex.refl _) s (.str _)⟩
theorem Y.strI {G : Gm} {i : Int} {Q : D → Prop} (hl : i.natAbs.log2 < 1920) (h : Q (.str (toString i))) : ∃ z, fStrOf G [.int i] z ∧ Q z := ⟨_, .inl ⟨i, rfl, hl, rfl⟩, h⟩
def dFmt (d : DE) : DE := fun ρ G R => d ρ G fun x G1 => (∃ y : Str, x = .str y ∧ y.length ≤ sizeLine ∧ R (.str y) G1) ∨ ∃ i : Int, x = .int i ∧ i.natAbs.log2 < 1920 ∧ R (.str (toString i)) G1
def dJs : List DE → Str → En → Gm → (Str → Gm → Prop) → Prop
  | [], acc, _, G, Q => Q acc G
  | d :: ds, acc, ρ, G, Q => d ρ G fun x G1 => ∃ y : Str, x = .str y ∧ (acc ++ y).length ≤ sizeLine ∧ dJs ds (acc ++ y) ρ G1 Q
def dFst (ds : List DE) : DE := fun ρ G R => dJs ds Str.empty ρ G fun out G1 => R (.str out) G1
theorem js_imp {K : PySem.W.Frag} {B : Bs} : ∀ (ds : List DE) (acc : Str) (σ : L2.St) (H : Hp) (ρ : En) (Hd : Hp) (G : Gm) (Q : Str → Hp → Prop) (R : Str → Gm → Prop), At K B σ H ρ Hd G → dJs ds acc ρ G R →
    (∀ out H1 Hd1 G1, Ex Hd Hd1 → Sim K B.f Hd1 H1 G1 → R out G1 → Q out H1) → tJs (ds.map (upE K B)) acc σ H Q
  | [], acc, σ, H, ρ, Hd, G, Q, R, at_, h, k => k acc H Hd G (Ex.refl _) at_.s h
  | d :: ds, acc, σ, H, ρ, Hd, G, Q, R, at_, h, k => ⟨ρ, Hd, G, _, at_, h, fun v H1 Hd1 x G1 e1 s1 r1 ⟨y, ex, hl, h1⟩ => by
    subst ex
    cases r1
    exact ⟨y, rfl, hl, js_imp ds _ σ H1 ρ Hd1 G1 Q R (at_.step e1 s1) h1 fun out H2 Hd2 G2 e2 s2 hr => k out H2 Hd2 G2 (e1.trans e2) s2 hr⟩⟩
section
variable {X : Cx} {B : Bs} {pos : Pos} {e v1 v2 : Expr} {rest : List Expr} {de : DE} {ds : List DE}
theorem pd_fmt (he : PE X e (upE X.K B de)) : PE X (.FormattedValue e (-1) none pos) (upE X.K B (dFmt de)) :=
  pe_imp (pe_fmt he) fun σ H Q ⟨ρ, Hd, G, R, at_, h, k⟩ => ⟨ρ, Hd, G, _, at_, h, fun v H1 Hd1 x G1 e1 s1 r1 h1 => by
    rcases h1 with ⟨y, ex, hl, hR⟩ | ⟨i, ex, hl, hR⟩
    · subst ex
      cases r1
      exact .inl ⟨y, rfl, hl, k _ _ _ (.str _) _ e1 s1 (.str _) hR⟩
    · subst ex
      cases r1
      exact .inr ⟨i, rfl, hl, k _ _ _ (.str _) _ e1 s1 (.str _) hR⟩⟩
theorem pd_fst (h : PJ X (v1 :: v2 :: rest) (ds.map (upE X.K B))) : PE X (.JoinedStr (v1 :: v2 :: rest) pos) (upE X.K B (dFst ds)) :=
  pe_imp (pe_joined h) fun σ H Q ⟨ρ, Hd, G, R, at_, h, k⟩ => js_imp ds _ σ H ρ Hd G _ _ at_ h fun out H1 Hd1 G1 e1 s1 hR => k _ _ _ (.str _) _ e1 s1 (.str _) hR
end
end DL
namespace DL
open PySem PySem.Spec PyProof.Rows L2 Evl Sup PySem.W HandSHeadRun PySem.Calls
section
variable [TabC]
variable {r : OpenRow} {M : Nat} {w : World}
end
end DL
namespace DL
open PySem PySem.Spec PyProof.Rows L2 Evl Held
variable [TabC]
section
variable {X : Cx} {B : Bs} {p pos : Pos} {e : Expr} {es : List Expr} {dA : DA} {f : Addr} {fd : FuncData} {ps : List Str} {sp : Sp} {k : Nat}
end
theorem vals_ints {K : PySem.W.Frag} {Hd : Hp} : ∀ {vs : List V} {is : List Int}, RpL K Hd vs (is.map D.int) → vs = is.map V.int
  | [], [], .nil => rfl
  | v :: vs, i :: is, .cons a b => by
    cases a
    rw [List.map_cons, vals_ints b]
end DL
namespace DL
open PySem PySem.Spec PyProof.Rows L2 Evl Sup
variable [TabC]
end DL
namespace DL
open PySem PySem.Spec PyProof.Rows L2 Evl Sup
variable [TabC]
section
variable {ps : List Pc} {w : Nat} {rows : List (List Tl)} {n i k : Nat}
end
end DL
namespace DL
open PySem PySem.Spec PyProof.Rows L2 Evl Sup
variable [TabC]
end DL
namespace DL
open PySem PySem.Spec PyProof.Rows L2 Evl Sup
variable [TabC]
section
variable {ps : List Pc} {w n : Nat} {rows : List (List Tl)}
end
end DL
namespace DL
open PySem PySem.Spec PyProof.Rows L2 Evl Sup
variable [TabC]
section
variable {ps : List Pc} {w n : Nat} {rows : List (List Tl)} {x : D}
end
end DL
namespace DL
open PySem PySem.Spec PyProof.Rows L2 Evl Sup
variable [TabC]
end DL
namespace DL
open PySem PySem.Spec PyProof.Rows L2 Evl Sup
variable [TabC]
end DL
end
namespace DL
open PySem PySem.Spec PyProof.Rows L2 Evl Sup
variable [TabC]
section
variable {ps : List Pc} {w : Nat} {pt : List Qr} {ns : List Nat} {first : Int} {many : Nat}
end
end DL
namespace DL
open PySem PySem.Spec PyProof.Rows L2 Evl Sup
variable [TabC]
section
variable {ps : List Pc} {w : Nat} {pt : List Qr} {ns : List Nat} {first : Int} {many : Nat}
end
end DL
namespace DL
open PySem PySem.Spec PyProof.Rows L2 Evl Sup
variable [TabC]
section
variable {ps : List Pc} {w : Nat} {pt : List Qr} {ns : List Nat} {first : Int} {many : Nat}
end
end DL
section
open PySem PySem.Spec PyProof.Rows L2 Evl DL
local macro_rules | `(tactic| walk_at "side") => `(tactic| first | exact mul_left (by decide) | exact mul_right (by decide) | exact mul_bd | exact div_bd (by first | assumption | decide | omega) | exact pow_bd (by first | decide | omega) (by first | decide | omega) | assumption | (show (0 : Int) < _; first | decide | omega))
local macro_rules | `(tactic| walk_at "eva") => `(tactic| first | exact DL.EvA.nil | (refine' DL.EvA.cons ?e ?r; (case' e => walk_at "ev"); (case' r => walk_at "eva")))
local macro_rules | `(tactic| walk_at "seq") => `(tactic| first | exact seq_tup | exact seq_lst | exact seq_ref (by assumption))
local macro_rules | `(tactic| walk_at "size") => `(tactic| first | (show _ ≤ sizeLine; simp only [List.length_cons, List.length_nil]; decide) | (rw [sizeLine_eq]; omega))
local macro_rules | `(tactic| walk_at "ev") => `(tactic| first
  | exact DL.Ev.c
  | exact DL.Ev.var rfl
  | (refine' DL.Ev.int ?a ?b; (case' a => walk_at "ev"); (case' b => walk_at "ev"))
  | (refine' DL.Ev.intC ?a ?b ?s; (case' a => walk_at "ev"); (case' b => walk_at "ev"); (case' s => try walk_at "side"))
  | (refine' DL.Ev.add ?a ?b; (case' a => walk_at "ev"); (case' b => walk_at "ev"))
  | (refine' DL.Ev.neg ?a; (case' a => walk_at "ev"))
  | (refine' DL.Ev.intOf ?a; (case' a => walk_at "ev"))
  | (refine' DL.Ev.intB ?a; (case' a => walk_at "ev"))
  | (refine' DL.Ev.absN ?a; (case' a => walk_at "ev"))
  | (refine' DL.Ev.eqI ?a ?b; (case' a => walk_at "ev"); (case' b => walk_at "ev"))
  | (refine' DL.Ev.neI ?a ?b; (case' a => walk_at "ev"); (case' b => walk_at "ev"))
  | (refine' DL.Ev.at ?a ?b ?s ?k; (case' a => walk_at "ev"); (case' b => walk_at "ev"); (case' s => walk_at "seq"); (case' k => try rfl))
  | (refine' DL.Ev.len ?a ?s; (case' a => walk_at "ev"); (case' s => walk_at "seq"))
  | (refine' DL.Ev.tupOf ?a ?s; (case' a => walk_at "ev"); (case' s => walk_at "seq"))
  | (refine' DL.Ev.tup ?a ?z; (case' a => walk_at "eva"); (case' z => try walk_at "size"))
  | (refine' DL.Ev.lst ?a ?z; (case' a => walk_at "eva"); (case' z => try walk_at "size"))
  | (refine' DL.Ev.notV ?a; (case' a => walk_at "ev"))
  | (refine' DL.Ev.isN ?a; (case' a => walk_at "ev"))
  | exact fun R r => r
  | assumption)
local macro_rules | `(tactic| walk_at "set") => `(tactic| (refine' ds_set ?e ?_; (case' e => walk_at "ev")))
local macro_rules | `(tactic| walk_at "ret") => `(tactic| (refine' ds_ret ?e ?_; (case' e => walk_at "ev")))
local macro_rules | `(tactic| walk_at "par") => `(tactic| (refine' ds_par ?e ?f ?_; (case' e => walk_at "ev"); (case' f => walk_at "ev")))
local macro_rules | `(tactic| walk_at "cut") => `(tactic| (simp only [DL.cutD, HT.sIx, List.length_cons, List.length_nil, Nat.zero_add, Nat.reduceAdd, Nat.min_def, Nat.reduceLeDiff, ↓reduceIte, List.drop_zero, List.drop_succ_cons, List.take_zero, List.take_succ_cons, List.take_nil, List.drop_nil, List.cons_append, List.nil_append, Int.reduceLT, Int.reduceToNat, Nat.reduceSub, Nat.sub_zero, Int.reduceNeg, Int.cast_ofNat_Int, Int.reduceAdd]; exact rfl))
local macro_rules | `(tactic| walk_at "xu") => `(tactic| first
  | with_reducible refine' DL.Y.ixS0 ?_
  | with_reducible refine' DL.Y.ixS1 ?_
  | with_reducible refine' DL.Y.ixS2 ?_
  | with_reducible refine' DL.Y.ixP0 ?_
  | with_reducible refine' DL.Y.ixP1 ?_
  | with_reducible refine' DL.Y.lstS ?_
  | with_reducible refine' DL.Y.lstP ?_)
local macro_rules | `(tactic| walk_at "dec") => `(tactic| first | rfl | assumption | exact decide_eq_true (by omega) | exact decide_eq_false (by omega) | exact DL.Y.ndT (by omega) | exact DL.Y.ndF (by omega) | decide +kernel)
local macro_rules | `(tactic| walk_at "size2") => `(tactic| first | exact Nat.le_of_ble_eq_true rfl | omega)
local macro_rules | `(tactic| walk_at "x0") => `(tactic| first
  | with_reducible refine' DL.Y.cons ?_
  | ((with_reducible refine' DL.Y.var ?e ?_); (case' e => (first | exact rfl | assumption)))
  | with_reducible refine' DL.Y.c ?_
  | with_reducible refine' DL.Y.nil ?_
  | with_reducible refine' DL.Y.op ?_
  | with_reducible refine' DL.Y.oint ?_
  | ((with_reducible refine' DL.Y.ointC ?s ?_); (case' s => try walk_at "side"))
  | with_reducible refine' DL.Y.oadd ?_
  | with_reducible refine' DL.Y.oeqI ?_
  | with_reducible refine' DL.Y.oneI ?_
  | with_reducible refine' DL.Y.oeqS ?_
  | with_reducible refine' DL.Y.neS ?_
  | with_reducible refine' DL.Y.oneS ?_
  | with_reducible refine' DL.Y.oeqB ?_
  | with_reducible refine' DL.Y.tst ?_
  | with_reducible refine' DL.Y.bl_ ?_
  | ((with_reducible refine' DL.Y.iRng1_ ?z ?_); (case' z => (omega; done)))
  | with_reducible refine' DL.Y.int_ ?_
  | with_reducible refine' DL.Y.str_ ?_
  | with_reducible refine' DL.Y.ref_ ?_
  | ((with_reducible refine' DL.Y.iteT ?h ?_); (case' h => (walk_at "dec"; done)))
  | ((with_reducible refine' DL.Y.iteF ?h ?_); (case' h => (walk_at "dec"; done)))
  | with_reducible refine' DL.Y.seq ?_
  | with_reducible refine' DL.Y.set ?_
  | with_reducible refine' DL.Y.ifS ?_
  | with_reducible refine' DL.Y.ret ?_
  | with_reducible refine' DL.Y.nx ?_
  | with_reducible refine' DL.Y.drop ?_
  | with_reducible refine' DL.Y.asg ?_
  | with_reducible refine' DL.Y.par ?_
  | with_reducible refine' DL.Y.par_ ?_
  | with_reducible refine' DL.Y.par3 ?_
  | with_reducible refine' DL.Y.par3_ ?_
  | with_reducible refine' DL.Y.bk ?_
  | with_reducible refine' DL.Y.ct ?_
  | with_reducible refine' DL.Y.retN ?_
  | with_reducible refine' DL.Y.gn ?_
  | with_reducible refine' DL.Y.gnil ?_
  | with_reducible refine' DL.Y.gcons ?_
  | ((with_reducible refine' DL.Y.gseqT ?e ?_); (case' e => (rfl; done)))
  | ((with_reducible refine' DL.Y.gseqL ?e ?_); (case' e => (rfl; done)))
  | with_reducible refine' DL.Y.tup ?_
  | with_reducible refine' DL.Y.lst ?_
  | ((with_reducible refine' DL.Y.len_ ?n ?l ?_); (case' n => exact rfl); (case' l => try walk_at "size2"))
  | with_reducible refine' DL.Y.ix ?_
  | ((with_reducible refine' DL.Y.ixT ?e ?_); (case' e => ((first | rfl | assumption); done)))
  | ((with_reducible refine' DL.Y.ixL ?e ?_); (case' e => (rfl; done)))
  | ((with_reducible refine' DL.Y.ixR ?g ?e ?_); (case' g => with_reducible assumption); (case' e => (rfl; done)))
  | with_reducible refine' DL.Y.cal ?_
  | with_reducible refine' DL.Y.lenT ?_
  | with_reducible refine' DL.Y.lenL ?_
  | ((with_reducible refine' DL.Y.lenR ?g ?_); (case' g => with_reducible assumption))
  | with_reducible refine' DL.Y.absI ?_
  | with_reducible refine' DL.Y.max2 ?_
  | with_reducible refine' DL.Y.strJoin ?_
  | with_reducible refine' DL.Y.neM ?_
  | with_reducible refine' DL.Y.popAt ?_
  | with_reducible refine' DL.Y.lstRg1 ?_
  | with_reducible refine' DL.Y.lstRg2 ?_
  | with_reducible refine' DL.Y.lstRgM ?_
  | with_reducible refine' DL.Y.intI ?_
  | with_reducible refine' DL.Y.intB ?_
  | with_reducible refine' DL.Y.tupT ?_
  | with_reducible refine' DL.Y.tupL ?_
  | ((with_reducible refine' DL.Y.tupR ?g ?_); (case' g => with_reducible assumption))
  | with_reducible refine' DL.Y.lstT ?_
  | with_reducible refine' DL.Y.lstL ?_
  | with_reducible refine' DL.Y.allL ?_
  | with_reducible refine' DL.Y.anyL ?_
  | ((with_reducible refine' DL.Y.oaddL ?z ?_); (case' z => try walk_at "size2"))
  | ((with_reducible refine' DL.Y.oaddT ?z ?_); (case' z => try walk_at "size2"))
  | with_reducible refine' DL.Y.oisB ?_
  | with_reducible refine' DL.Y.onotB ?_
  | with_reducible refine' DL.Y.neg ?_
  | with_reducible refine' DL.Y.notT ?_
  | with_reducible refine' DL.Y.andT ?_
  | with_reducible refine' DL.Y.orT ?_
  | with_reducible refine' DL.Y.yes ?_
  | with_reducible refine' DL.Y.ifT ?_
  | with_reducible refine' DL.Y.andV ?_
  | with_reducible refine' DL.Y.orV ?_
  | with_reducible refine' DL.Y.notV ?_
  | with_reducible refine' DL.Y.isN ?_
  | with_reducible refine' DL.Y.notN ?_
  | ((with_reducible refine' DL.Y.isi_ ?e ?_); (case' e => (rfl; done)))
  | with_reducible refine' DL.Y.isiT ?_
  | with_reducible refine' DL.Y.chain ?_
  | with_reducible refine' DL.Y.sl ?_
  | with_reducible refine' DL.Y.noP ?_
  | with_reducible refine' DL.Y.part ?_
  | ((with_reducible refine' DL.Y.slLl ?n ?e ?_); (case' n => (rfl; done)); (case' e => walk_at "cut"))
  | ((with_reducible refine' DL.Y.slTl ?n ?m ?e ?_); (case' n => (rfl; done)); (case' m => (simp [HT.sIx]; done)); (case' e => walk_at "cut"))
  | with_reducible refine' DL.Y.slL ?_
  | with_reducible refine' DL.Y.call ?_
  | with_reducible refine' DL.Y.callK ?_
  | with_reducible refine' DL.Y.callD ?_
  | with_reducible refine' DL.Y.fld ?_
  | ((with_reducible refine' DL.Y.fld_ ?f ?e ?_); (case' f => (first | rfl | assumption); done); (case' e => (rfl; done)))
  | with_reducible refine' DL.Y.isW_ ?_
  | with_reducible refine' DL.Y.inK ?_
  | with_reducible refine' DL.Y.iSeq ?_
  | with_reducible refine' DL.Y.iSeqL ?_
  | with_reducible refine' DL.Y.iSeqT ?_
  | with_reducible refine' DL.Y.iRng1 ?_
  | with_reducible refine' DL.Y.iZip ?_
  | with_reducible refine' DL.Y.iZipT ?_
  | with_reducible refine' DL.Y.iZipL ?_
  | with_reducible refine' DL.Y.iZipR ?_
  | with_reducible refine' DL.Y.iZipM ?_
  | with_reducible refine' DL.Y.iEnum ?_
  | with_reducible refine' DL.Y.iEnumT ?_
  | with_reducible refine' DL.Y.iEnumL ?_
  | with_reducible refine' DL.Y.for_ ?_
  | with_reducible refine' DL.Y.cmp ?_
  | with_reducible refine' DL.Y.cmpM ?_
  | with_reducible refine' DL.Y.cmpQ ?_
  | with_reducible refine' DL.Y.isO ?_
  | ((with_reducible refine' DL.Y.isO_ (isO_exc ?c) ?_); (case' c => (decide +kernel; done)))
  | ((with_reducible refine' DL.Y.isO_ ?e ?_); (case' e => (rfl; done)))
  | ((with_reducible refine' DL.Y.isW1 ?e ?_); (case' e => (first | assumption | (rfl; done))))
  | with_reducible refine' DL.Y.xf ?_
  | ((with_reducible refine' DL.Y.xf_ ?c ?e ?_); (case' c => (decide +kernel; done)); (case' e => (first | assumption | (rfl; done))))
  | with_reducible refine' DL.Y.mk ?_
  | with_reducible refine' DL.Y.dctM ?_
  | with_reducible refine' DL.Y.dct0 ?_
  | with_reducible refine' DL.Y.lstM ?_
  | with_reducible refine' DL.Y.rev ?_
  | with_reducible refine' DL.Y.revL ?_
  | with_reducible refine' DL.Y.dget ?_
  | with_reducible refine' DL.Y.dput ?_
  | with_reducible refine' DL.Y.app ?_
  | with_reducible refine' DL.Y.gc ?_
  | with_reducible refine' DL.Y.boolB ?_
  | with_reducible refine' DL.Y.disp ?_
  | with_reducible refine' DL.Y.valsC ?_
  | with_reducible refine' DL.Y.valsN ?_
  | with_reducible refine' DL.Y.ownEq ?_
  | with_reducible refine' DL.Y.cmp2 ?_
  | with_reducible refine' DL.Y.star ?_
  | with_reducible refine' DL.Y.meth ?_
  | with_reducible refine' DL.Y.index ?_
  | with_reducible refine' DL.Y.backT ?_
  | with_reducible refine' DL.Y.iRngV ?_
  | with_reducible refine' DL.Y.rng1_ ?_
  | with_reducible refine' DL.Y.rng2_ ?_
  | with_reducible refine' DL.Y.rngV_ ?_
  | ((with_reducible refine' DL.Y.fld_ ?f ?e ?_); (case' f => ((first | rfl | assumption | decide +kernel); done)); (case' e => (rfl; done)))
  | with_reducible refine' DL.Y.chLe ?_
  | with_reducible refine' DL.Y.chLt ?_
  | with_reducible refine' DL.Y.setF ?_
  | with_reducible refine' DL.Y.lenSet ?_
  | with_reducible refine' DL.Y.inL ?_
  | with_reducible refine' DL.Y.inTp ?_
  | with_reducible refine' DL.Y.slTA ?_
  | with_reducible refine' DL.Y.sortS ?_
  | with_reducible refine' DL.Y.iRng2 ?_
  | ((with_reducible refine' DL.Y.iRng2_ ?z ?_); (case' z => (omega; done)))
  | with_reducible refine' DL.Y.inD ?_
  | with_reducible refine' DL.Y.inD_ ?_
  | with_reducible refine' DL.Y.ixD ?_
  | ((with_reducible refine' DL.Y.mulS ?h ?_); (case' h => (exact ⟨by omega, by omega, by decide⟩)))
  | ((with_reducible refine' DL.Y.mulL ?h ?_); (case' h => (exact ⟨by simp only [List.length_cons, List.length_nil]; omega, by omega, by omega⟩)))
  | walk_at "xu"
  | walk_at "norm")
local macro_rules | `(tactic| walk_at "norm") => `(tactic| (dsimp only [List.set]))
local macro_rules | `(tactic| walk_at "x") => `(tactic| first | walk_at "x0" | with_reducible refine' DL.Y.ifE ?_)
local macro_rules | `(tactic| walk_at "xs") => `(tactic| repeat walk_at "x0")
local macro_rules | `(tactic| walk_at "xx") => `(tactic| repeat walk_at "x")
local macro_rules | `(tactic| walk_at "start") => `(tactic| dsimp only [List.map, List.length_cons, List.length_nil, List.cons_append, List.nil_append, Nat.zero_add, Nat.reduceAdd, Nat.reduceSub, List.reduceReplicate])
namespace DL
open PySem PySem.Spec PyProof.Rows L2 Evl Sup
variable [TabC]
end DL
end
namespace DL
open PySem PySem.Spec PyProof.Rows L2 Evl Sup
variable [TabC]
section
variable {X : Cx} {B : Bs} {o e : Expr} {dobj de : DE} {pos p : Pos}
end
end DL
namespace DL
open PySem PySem.Spec PyProof.Rows L2 Evl Sup
variable [TabC]
end DL
section
open PySem PySem.Spec PyProof.Rows L2 Evl DL
local macro_rules | `(tactic| walk_at "side") => `(tactic| first | exact mul_left (by decide) | exact mul_right (by decide) | exact mul_bd | exact div_bd (by first | assumption | decide | omega) | exact pow_bd (by first | decide | omega) (by first | decide | omega) | assumption | (show (0 : Int) < _; first | decide | omega))
local macro_rules | `(tactic| walk_at "eva") => `(tactic| first | exact DL.EvA.nil | (refine' DL.EvA.cons ?e ?r; (case' e => walk_at "ev"); (case' r => walk_at "eva")))
local macro_rules | `(tactic| walk_at "seq") => `(tactic| first | exact seq_tup | exact seq_lst | exact seq_ref (by assumption))
local macro_rules | `(tactic| walk_at "size") => `(tactic| first | (show _ ≤ sizeLine; simp only [List.length_cons, List.length_nil]; decide) | (rw [sizeLine_eq]; omega))
local macro_rules | `(tactic| walk_at "ev") => `(tactic| first
  | exact DL.Ev.c
  | exact DL.Ev.var rfl
  | (refine' DL.Ev.int ?a ?b; (case' a => walk_at "ev"); (case' b => walk_at "ev"))
  | (refine' DL.Ev.intC ?a ?b ?s; (case' a => walk_at "ev"); (case' b => walk_at "ev"); (case' s => try walk_at "side"))
  | (refine' DL.Ev.add ?a ?b; (case' a => walk_at "ev"); (case' b => walk_at "ev"))
  | (refine' DL.Ev.neg ?a; (case' a => walk_at "ev"))
  | (refine' DL.Ev.intOf ?a; (case' a => walk_at "ev"))
  | (refine' DL.Ev.intB ?a; (case' a => walk_at "ev"))
  | (refine' DL.Ev.absN ?a; (case' a => walk_at "ev"))
  | (refine' DL.Ev.eqI ?a ?b; (case' a => walk_at "ev"); (case' b => walk_at "ev"))
  | (refine' DL.Ev.neI ?a ?b; (case' a => walk_at "ev"); (case' b => walk_at "ev"))
  | (refine' DL.Ev.at ?a ?b ?s ?k; (case' a => walk_at "ev"); (case' b => walk_at "ev"); (case' s => walk_at "seq"); (case' k => try rfl))
  | (refine' DL.Ev.len ?a ?s; (case' a => walk_at "ev"); (case' s => walk_at "seq"))
  | (refine' DL.Ev.tupOf ?a ?s; (case' a => walk_at "ev"); (case' s => walk_at "seq"))
  | (refine' DL.Ev.tup ?a ?z; (case' a => walk_at "eva"); (case' z => try walk_at "size"))
  | (refine' DL.Ev.lst ?a ?z; (case' a => walk_at "eva"); (case' z => try walk_at "size"))
  | (refine' DL.Ev.notV ?a; (case' a => walk_at "ev"))
  | (refine' DL.Ev.isN ?a; (case' a => walk_at "ev"))
  | exact fun R r => r
  | assumption)
local macro_rules | `(tactic| walk_at "set") => `(tactic| (refine' ds_set ?e ?_; (case' e => walk_at "ev")))
local macro_rules | `(tactic| walk_at "ret") => `(tactic| (refine' ds_ret ?e ?_; (case' e => walk_at "ev")))
local macro_rules | `(tactic| walk_at "par") => `(tactic| (refine' ds_par ?e ?f ?_; (case' e => walk_at "ev"); (case' f => walk_at "ev")))
local macro_rules | `(tactic| walk_at "cut") => `(tactic| (simp only [DL.cutD, HT.sIx, List.length_cons, List.length_nil, Nat.zero_add, Nat.reduceAdd, Nat.min_def, Nat.reduceLeDiff, ↓reduceIte, List.drop_zero, List.drop_succ_cons, List.take_zero, List.take_succ_cons, List.take_nil, List.drop_nil, List.cons_append, List.nil_append, Int.reduceLT, Int.reduceToNat, Nat.reduceSub, Nat.sub_zero, Int.reduceNeg, Int.cast_ofNat_Int, Int.reduceAdd]; exact rfl))
local macro_rules | `(tactic| walk_at "xu") => `(tactic| first
  | with_reducible refine' DL.Y.ixS0 ?_
  | with_reducible refine' DL.Y.ixS1 ?_
  | with_reducible refine' DL.Y.ixS2 ?_
  | with_reducible refine' DL.Y.ixP0 ?_
  | with_reducible refine' DL.Y.ixP1 ?_
  | with_reducible refine' DL.Y.lstS ?_
  | with_reducible refine' DL.Y.lstP ?_)
local macro_rules | `(tactic| walk_at "dec") => `(tactic| first | rfl | assumption | exact decide_eq_true (by omega) | exact decide_eq_false (by omega) | exact DL.Y.ndT (by omega) | exact DL.Y.ndF (by omega) | decide +kernel)
local macro_rules | `(tactic| walk_at "size2") => `(tactic| first | exact Nat.le_of_ble_eq_true rfl | omega)
local macro_rules | `(tactic| walk_at "x0") => `(tactic| first
  | with_reducible refine' DL.Y.cons ?_
  | ((with_reducible refine' DL.Y.var ?e ?_); (case' e => (first | exact rfl | assumption)))
  | with_reducible refine' DL.Y.c ?_
  | with_reducible refine' DL.Y.nil ?_
  | with_reducible refine' DL.Y.op ?_
  | with_reducible refine' DL.Y.oint ?_
  | ((with_reducible refine' DL.Y.ointC ?s ?_); (case' s => try walk_at "side"))
  | with_reducible refine' DL.Y.oadd ?_
  | with_reducible refine' DL.Y.oeqI ?_
  | with_reducible refine' DL.Y.oneI ?_
  | with_reducible refine' DL.Y.oeqS ?_
  | with_reducible refine' DL.Y.neS ?_
  | with_reducible refine' DL.Y.oneS ?_
  | with_reducible refine' DL.Y.oeqB ?_
  | with_reducible refine' DL.Y.tst ?_
  | with_reducible refine' DL.Y.bl_ ?_
  | ((with_reducible refine' DL.Y.iRng1_ ?z ?_); (case' z => (omega; done)))
  | with_reducible refine' DL.Y.int_ ?_
  | with_reducible refine' DL.Y.str_ ?_
  | with_reducible refine' DL.Y.ref_ ?_
  | ((with_reducible refine' DL.Y.iteT ?h ?_); (case' h => (walk_at "dec"; done)))
  | ((with_reducible refine' DL.Y.iteF ?h ?_); (case' h => (walk_at "dec"; done)))
  | with_reducible refine' DL.Y.seq ?_
  | with_reducible refine' DL.Y.set ?_
  | with_reducible refine' DL.Y.ifS ?_
  | with_reducible refine' DL.Y.ret ?_
  | with_reducible refine' DL.Y.nx ?_
  | with_reducible refine' DL.Y.drop ?_
  | with_reducible refine' DL.Y.asg ?_
  | with_reducible refine' DL.Y.par ?_
  | with_reducible refine' DL.Y.par_ ?_
  | with_reducible refine' DL.Y.par3 ?_
  | with_reducible refine' DL.Y.par3_ ?_
  | with_reducible refine' DL.Y.bk ?_
  | with_reducible refine' DL.Y.ct ?_
  | with_reducible refine' DL.Y.retN ?_
  | with_reducible refine' DL.Y.gn ?_
  | with_reducible refine' DL.Y.gnil ?_
  | with_reducible refine' DL.Y.gcons ?_
  | ((with_reducible refine' DL.Y.gseqT ?e ?_); (case' e => (rfl; done)))
  | ((with_reducible refine' DL.Y.gseqL ?e ?_); (case' e => (rfl; done)))
  | with_reducible refine' DL.Y.tup ?_
  | with_reducible refine' DL.Y.lst ?_
  | ((with_reducible refine' DL.Y.len_ ?n ?l ?_); (case' n => exact rfl); (case' l => try walk_at "size2"))
  | with_reducible refine' DL.Y.ix ?_
  | ((with_reducible refine' DL.Y.ixT ?e ?_); (case' e => ((first | rfl | assumption); done)))
  | ((with_reducible refine' DL.Y.ixL ?e ?_); (case' e => (rfl; done)))
  | ((with_reducible refine' DL.Y.ixR ?g ?e ?_); (case' g => with_reducible assumption); (case' e => (rfl; done)))
  | with_reducible refine' DL.Y.cal ?_
  | with_reducible refine' DL.Y.lenT ?_
  | with_reducible refine' DL.Y.lenL ?_
  | ((with_reducible refine' DL.Y.lenR ?g ?_); (case' g => with_reducible assumption))
  | with_reducible refine' DL.Y.absI ?_
  | with_reducible refine' DL.Y.max2 ?_
  | with_reducible refine' DL.Y.strJoin ?_
  | with_reducible refine' DL.Y.neM ?_
  | with_reducible refine' DL.Y.popAt ?_
  | with_reducible refine' DL.Y.lstRg1 ?_
  | with_reducible refine' DL.Y.lstRg2 ?_
  | with_reducible refine' DL.Y.lstRgM ?_
  | with_reducible refine' DL.Y.intI ?_
  | with_reducible refine' DL.Y.intB ?_
  | with_reducible refine' DL.Y.tupT ?_
  | with_reducible refine' DL.Y.tupL ?_
  | ((with_reducible refine' DL.Y.tupR ?g ?_); (case' g => with_reducible assumption))
  | with_reducible refine' DL.Y.lstT ?_
  | with_reducible refine' DL.Y.lstL ?_
  | with_reducible refine' DL.Y.allL ?_
  | with_reducible refine' DL.Y.anyL ?_
  | ((with_reducible refine' DL.Y.oaddL ?z ?_); (case' z => try walk_at "size2"))
  | ((with_reducible refine' DL.Y.oaddT ?z ?_); (case' z => try walk_at "size2"))
  | with_reducible refine' DL.Y.oisB ?_
  | with_reducible refine' DL.Y.onotB ?_
  | with_reducible refine' DL.Y.neg ?_
  | with_reducible refine' DL.Y.notT ?_
  | with_reducible refine' DL.Y.andT ?_
  | with_reducible refine' DL.Y.orT ?_
  | with_reducible refine' DL.Y.yes ?_
  | with_reducible refine' DL.Y.ifT ?_
  | with_reducible refine' DL.Y.andV ?_
  | with_reducible refine' DL.Y.orV ?_
  | with_reducible refine' DL.Y.notV ?_
  | with_reducible refine' DL.Y.isN ?_
  | with_reducible refine' DL.Y.notN ?_
  | ((with_reducible refine' DL.Y.isi_ ?e ?_); (case' e => (rfl; done)))
  | with_reducible refine' DL.Y.isiT ?_
  | with_reducible refine' DL.Y.chain ?_
  | with_reducible refine' DL.Y.sl ?_
  | with_reducible refine' DL.Y.noP ?_
  | with_reducible refine' DL.Y.part ?_
  | ((with_reducible refine' DL.Y.slLl ?n ?e ?_); (case' n => (rfl; done)); (case' e => walk_at "cut"))
  | ((with_reducible refine' DL.Y.slTl ?n ?m ?e ?_); (case' n => (rfl; done)); (case' m => (simp [HT.sIx]; done)); (case' e => walk_at "cut"))
  | with_reducible refine' DL.Y.slL ?_
  | with_reducible refine' DL.Y.call ?_
  | with_reducible refine' DL.Y.callK ?_
  | with_reducible refine' DL.Y.callD ?_
  | with_reducible refine' DL.Y.fld ?_
  | ((with_reducible refine' DL.Y.fld_ ?f ?e ?_); (case' f => (first | rfl | assumption); done); (case' e => (rfl; done)))
  | with_reducible refine' DL.Y.isW_ ?_
  | with_reducible refine' DL.Y.inK ?_
  | with_reducible refine' DL.Y.iSeq ?_
  | with_reducible refine' DL.Y.iSeqL ?_
  | with_reducible refine' DL.Y.iSeqT ?_
  | with_reducible refine' DL.Y.iRng1 ?_
  | with_reducible refine' DL.Y.iZip ?_
  | with_reducible refine' DL.Y.iZipT ?_
  | with_reducible refine' DL.Y.iZipL ?_
  | with_reducible refine' DL.Y.iZipR ?_
  | with_reducible refine' DL.Y.iZipM ?_
  | with_reducible refine' DL.Y.iEnum ?_
  | with_reducible refine' DL.Y.iEnumT ?_
  | with_reducible refine' DL.Y.iEnumL ?_
  | with_reducible refine' DL.Y.for_ ?_
  | with_reducible refine' DL.Y.cmp ?_
  | with_reducible refine' DL.Y.cmpM ?_
  | with_reducible refine' DL.Y.cmpQ ?_
  | with_reducible refine' DL.Y.isO ?_
  | ((with_reducible refine' DL.Y.isO_ (isO_exc ?c) ?_); (case' c => (decide +kernel; done)))
  | ((with_reducible refine' DL.Y.isO_ ?e ?_); (case' e => (rfl; done)))
  | ((with_reducible refine' DL.Y.isW1 ?e ?_); (case' e => (first | assumption | (rfl; done))))
  | with_reducible refine' DL.Y.xf ?_
  | ((with_reducible refine' DL.Y.xf_ ?c ?e ?_); (case' c => (decide +kernel; done)); (case' e => (first | assumption | (rfl; done))))
  | with_reducible refine' DL.Y.mk ?_
  | with_reducible refine' DL.Y.dctM ?_
  | with_reducible refine' DL.Y.dct0 ?_
  | with_reducible refine' DL.Y.lstM ?_
  | with_reducible refine' DL.Y.rev ?_
  | with_reducible refine' DL.Y.revL ?_
  | with_reducible refine' DL.Y.dget ?_
  | with_reducible refine' DL.Y.dput ?_
  | with_reducible refine' DL.Y.app ?_
  | with_reducible refine' DL.Y.gc ?_
  | with_reducible refine' DL.Y.boolB ?_
  | with_reducible refine' DL.Y.disp ?_
  | with_reducible refine' DL.Y.valsC ?_
  | with_reducible refine' DL.Y.valsN ?_
  | with_reducible refine' DL.Y.ownEq ?_
  | with_reducible refine' DL.Y.cmp2 ?_
  | with_reducible refine' DL.Y.star ?_
  | with_reducible refine' DL.Y.meth ?_
  | with_reducible refine' DL.Y.index ?_
  | with_reducible refine' DL.Y.backT ?_
  | with_reducible refine' DL.Y.iRngV ?_
  | with_reducible refine' DL.Y.rng1_ ?_
  | with_reducible refine' DL.Y.rng2_ ?_
  | with_reducible refine' DL.Y.rngV_ ?_
  | ((with_reducible refine' DL.Y.fld_ ?f ?e ?_); (case' f => ((first | rfl | assumption | decide +kernel); done)); (case' e => (rfl; done)))
  | with_reducible refine' DL.Y.chLe ?_
  | with_reducible refine' DL.Y.chLt ?_
  | with_reducible refine' DL.Y.setF ?_
  | with_reducible refine' DL.Y.lenSet ?_
  | with_reducible refine' DL.Y.inL ?_
  | with_reducible refine' DL.Y.inTp ?_
  | with_reducible refine' DL.Y.slTA ?_
  | with_reducible refine' DL.Y.sortS ?_
  | with_reducible refine' DL.Y.iRng2 ?_
  | ((with_reducible refine' DL.Y.iRng2_ ?z ?_); (case' z => (omega; done)))
  | with_reducible refine' DL.Y.inD ?_
  | with_reducible refine' DL.Y.inD_ ?_
  | with_reducible refine' DL.Y.ixD ?_
  | ((with_reducible refine' DL.Y.mulS ?h ?_); (case' h => (exact ⟨by omega, by omega, by decide⟩)))
  | ((with_reducible refine' DL.Y.mulL ?h ?_); (case' h => (exact ⟨by simp only [List.length_cons, List.length_nil]; omega, by omega, by omega⟩)))
  | walk_at "xu"
  | walk_at "norm")
local macro_rules | `(tactic| walk_at "norm") => `(tactic| (dsimp only [List.set]))
local macro_rules | `(tactic| walk_at "x") => `(tactic| first | walk_at "x0" | with_reducible refine' DL.Y.ifE ?_)
local macro_rules | `(tactic| walk_at "xs") => `(tactic| repeat walk_at "x0")
local macro_rules | `(tactic| walk_at "xx") => `(tactic| repeat walk_at "x")
local macro_rules | `(tactic| walk_at "start") => `(tactic| dsimp only [List.map, List.length_cons, List.length_nil, List.cons_append, List.nil_append, Nat.zero_add, Nat.reduceAdd, Nat.reduceSub, List.reduceReplicate])
namespace DL
open PySem PySem.Spec PyProof.Rows L2 Evl Sup
variable [TabC]
end DL
namespace DL
open PySem PySem.Spec PyProof.Rows L2 Evl Sup
variable [TabC]
end DL
namespace DL
open PySem PySem.Spec PyProof.Rows L2 Evl Sup
variable [TabC]
end DL
namespace DL
open PySem PySem.Spec PyProof.Rows L2 Evl Sup
variable [TabC]
end DL
namespace DL
open PySem PySem.Spec PyProof.Rows L2 Evl Sup
variable [TabC]
end DL
namespace DL
open PySem PySem.Spec PyProof.Rows L2 Evl Sup
variable [TabC]
end DL
end
namespace DL
open PySem PySem.Spec PyProof.Rows L2 Evl Sup PySem.W HandSHeadRun PySem.Calls
section
variable [TabC]
end
end DL
section
open PySem PySem.Spec PyProof.Rows L2 Evl DL
local macro_rules | `(tactic| walk_at "side") => `(tactic| first | exact mul_left (by decide) | exact mul_right (by decide) | exact mul_bd | exact div_bd (by first | assumption | decide | omega) | exact pow_bd (by first | decide | omega) (by first | decide | omega) | assumption | (show (0 : Int) < _; first | decide | omega))
local macro_rules | `(tactic| walk_at "eva") => `(tactic| first | exact DL.EvA.nil | (refine' DL.EvA.cons ?e ?r; (case' e => walk_at "ev"); (case' r => walk_at "eva")))
local macro_rules | `(tactic| walk_at "seq") => `(tactic| first | exact seq_tup | exact seq_lst | exact seq_ref (by assumption))
local macro_rules | `(tactic| walk_at "size") => `(tactic| first | (show _ ≤ sizeLine; simp only [List.length_cons, List.length_nil]; decide) | (rw [sizeLine_eq]; omega))
local macro_rules | `(tactic| walk_at "ev") => `(tactic| first
  | exact DL.Ev.c
  | exact DL.Ev.var rfl
  | (refine' DL.Ev.int ?a ?b; (case' a => walk_at "ev"); (case' b => walk_at "ev"))
  | (refine' DL.Ev.intC ?a ?b ?s; (case' a => walk_at "ev"); (case' b => walk_at "ev"); (case' s => try walk_at "side"))
  | (refine' DL.Ev.add ?a ?b; (case' a => walk_at "ev"); (case' b => walk_at "ev"))
  | (refine' DL.Ev.neg ?a; (case' a => walk_at "ev"))
  | (refine' DL.Ev.intOf ?a; (case' a => walk_at "ev"))
  | (refine' DL.Ev.intB ?a; (case' a => walk_at "ev"))
  | (refine' DL.Ev.absN ?a; (case' a => walk_at "ev"))
  | (refine' DL.Ev.eqI ?a ?b; (case' a => walk_at "ev"); (case' b => walk_at "ev"))
  | (refine' DL.Ev.neI ?a ?b; (case' a => walk_at "ev"); (case' b => walk_at "ev"))
  | (refine' DL.Ev.at ?a ?b ?s ?k; (case' a => walk_at "ev"); (case' b => walk_at "ev"); (case' s => walk_at "seq"); (case' k => try rfl))
  | (refine' DL.Ev.len ?a ?s; (case' a => walk_at "ev"); (case' s => walk_at "seq"))
  | (refine' DL.Ev.tupOf ?a ?s; (case' a => walk_at "ev"); (case' s => walk_at "seq"))
  | (refine' DL.Ev.tup ?a ?z; (case' a => walk_at "eva"); (case' z => try walk_at "size"))
  | (refine' DL.Ev.lst ?a ?z; (case' a => walk_at "eva"); (case' z => try walk_at "size"))
  | (refine' DL.Ev.notV ?a; (case' a => walk_at "ev"))
  | (refine' DL.Ev.isN ?a; (case' a => walk_at "ev"))
  | exact fun R r => r
  | assumption)
local macro_rules | `(tactic| walk_at "set") => `(tactic| (refine' ds_set ?e ?_; (case' e => walk_at "ev")))
local macro_rules | `(tactic| walk_at "ret") => `(tactic| (refine' ds_ret ?e ?_; (case' e => walk_at "ev")))
local macro_rules | `(tactic| walk_at "par") => `(tactic| (refine' ds_par ?e ?f ?_; (case' e => walk_at "ev"); (case' f => walk_at "ev")))
local macro_rules | `(tactic| walk_at "cut") => `(tactic| (simp only [DL.cutD, HT.sIx, List.length_cons, List.length_nil, Nat.zero_add, Nat.reduceAdd, Nat.min_def, Nat.reduceLeDiff, ↓reduceIte, List.drop_zero, List.drop_succ_cons, List.take_zero, List.take_succ_cons, List.take_nil, List.drop_nil, List.cons_append, List.nil_append, Int.reduceLT, Int.reduceToNat, Nat.reduceSub, Nat.sub_zero, Int.reduceNeg, Int.cast_ofNat_Int, Int.reduceAdd]; exact rfl))
local macro_rules | `(tactic| walk_at "xu") => `(tactic| first
  | with_reducible refine' DL.Y.ixS0 ?_
  | with_reducible refine' DL.Y.ixS1 ?_
  | with_reducible refine' DL.Y.ixS2 ?_
  | with_reducible refine' DL.Y.ixP0 ?_
  | with_reducible refine' DL.Y.ixP1 ?_
  | with_reducible refine' DL.Y.lstS ?_
  | with_reducible refine' DL.Y.lstP ?_)
local macro_rules | `(tactic| walk_at "dec") => `(tactic| first | rfl | assumption | exact decide_eq_true (by omega) | exact decide_eq_false (by omega) | exact DL.Y.ndT (by omega) | exact DL.Y.ndF (by omega) | decide +kernel)
local macro_rules | `(tactic| walk_at "size2") => `(tactic| first | exact Nat.le_of_ble_eq_true rfl | omega)
local macro_rules | `(tactic| walk_at "x0") => `(tactic| first
  | with_reducible refine' DL.Y.cons ?_
  | ((with_reducible refine' DL.Y.var ?e ?_); (case' e => (first | exact rfl | assumption)))
  | with_reducible refine' DL.Y.c ?_
  | with_reducible refine' DL.Y.nil ?_
  | with_reducible refine' DL.Y.op ?_
  | with_reducible refine' DL.Y.oint ?_
  | ((with_reducible refine' DL.Y.ointC ?s ?_); (case' s => try walk_at "side"))
  | with_reducible refine' DL.Y.oadd ?_
  | with_reducible refine' DL.Y.oeqI ?_
  | with_reducible refine' DL.Y.oneI ?_
  | with_reducible refine' DL.Y.oeqS ?_
  | with_reducible refine' DL.Y.neS ?_
  | with_reducible refine' DL.Y.oneS ?_
  | with_reducible refine' DL.Y.oeqB ?_
  | with_reducible refine' DL.Y.tst ?_
  | with_reducible refine' DL.Y.bl_ ?_
  | ((with_reducible refine' DL.Y.iRng1_ ?z ?_); (case' z => (omega; done)))
  | with_reducible refine' DL.Y.int_ ?_
  | with_reducible refine' DL.Y.str_ ?_
  | with_reducible refine' DL.Y.ref_ ?_
  | ((with_reducible refine' DL.Y.iteT ?h ?_); (case' h => (walk_at "dec"; done)))
  | ((with_reducible refine' DL.Y.iteF ?h ?_); (case' h => (walk_at "dec"; done)))
  | with_reducible refine' DL.Y.seq ?_
  | with_reducible refine' DL.Y.set ?_
  | with_reducible refine' DL.Y.ifS ?_
  | with_reducible refine' DL.Y.ret ?_
  | with_reducible refine' DL.Y.nx ?_
  | with_reducible refine' DL.Y.drop ?_
  | with_reducible refine' DL.Y.asg ?_
  | with_reducible refine' DL.Y.par ?_
  | with_reducible refine' DL.Y.par_ ?_
  | with_reducible refine' DL.Y.par3 ?_
  | with_reducible refine' DL.Y.par3_ ?_
  | with_reducible refine' DL.Y.bk ?_
  | with_reducible refine' DL.Y.ct ?_
  | with_reducible refine' DL.Y.retN ?_
  | with_reducible refine' DL.Y.gn ?_
  | with_reducible refine' DL.Y.gnil ?_
  | with_reducible refine' DL.Y.gcons ?_
  | ((with_reducible refine' DL.Y.gseqT ?e ?_); (case' e => (rfl; done)))
  | ((with_reducible refine' DL.Y.gseqL ?e ?_); (case' e => (rfl; done)))
  | with_reducible refine' DL.Y.tup ?_
  | with_reducible refine' DL.Y.lst ?_
  | ((with_reducible refine' DL.Y.len_ ?n ?l ?_); (case' n => exact rfl); (case' l => try walk_at "size2"))
  | with_reducible refine' DL.Y.ix ?_
  | ((with_reducible refine' DL.Y.ixT ?e ?_); (case' e => ((first | rfl | assumption); done)))
  | ((with_reducible refine' DL.Y.ixL ?e ?_); (case' e => (rfl; done)))
  | ((with_reducible refine' DL.Y.ixR ?g ?e ?_); (case' g => with_reducible assumption); (case' e => (rfl; done)))
  | with_reducible refine' DL.Y.cal ?_
  | with_reducible refine' DL.Y.lenT ?_
  | with_reducible refine' DL.Y.lenL ?_
  | ((with_reducible refine' DL.Y.lenR ?g ?_); (case' g => with_reducible assumption))
  | with_reducible refine' DL.Y.absI ?_
  | with_reducible refine' DL.Y.max2 ?_
  | with_reducible refine' DL.Y.strJoin ?_
  | with_reducible refine' DL.Y.neM ?_
  | with_reducible refine' DL.Y.popAt ?_
  | with_reducible refine' DL.Y.lstRg1 ?_
  | with_reducible refine' DL.Y.lstRg2 ?_
  | with_reducible refine' DL.Y.lstRgM ?_
  | with_reducible refine' DL.Y.intI ?_
  | with_reducible refine' DL.Y.intB ?_
  | with_reducible refine' DL.Y.tupT ?_
  | with_reducible refine' DL.Y.tupL ?_
  | ((with_reducible refine' DL.Y.tupR ?g ?_); (case' g => with_reducible assumption))
  | with_reducible refine' DL.Y.lstT ?_
  | with_reducible refine' DL.Y.lstL ?_
  | with_reducible refine' DL.Y.allL ?_
  | with_reducible refine' DL.Y.anyL ?_
  | ((with_reducible refine' DL.Y.oaddL ?z ?_); (case' z => try walk_at "size2"))
  | ((with_reducible refine' DL.Y.oaddT ?z ?_); (case' z => try walk_at "size2"))
  | with_reducible refine' DL.Y.oisB ?_
  | with_reducible refine' DL.Y.onotB ?_
  | with_reducible refine' DL.Y.neg ?_
  | with_reducible refine' DL.Y.notT ?_
  | with_reducible refine' DL.Y.andT ?_
  | with_reducible refine' DL.Y.orT ?_
  | with_reducible refine' DL.Y.yes ?_
  | with_reducible refine' DL.Y.ifT ?_
  | with_reducible refine' DL.Y.andV ?_
  | with_reducible refine' DL.Y.orV ?_
  | with_reducible refine' DL.Y.notV ?_
  | with_reducible refine' DL.Y.isN ?_
  | with_reducible refine' DL.Y.notN ?_
  | ((with_reducible refine' DL.Y.isi_ ?e ?_); (case' e => (rfl; done)))
  | with_reducible refine' DL.Y.isiT ?_
  | with_reducible refine' DL.Y.chain ?_
  | with_reducible refine' DL.Y.sl ?_
  | with_reducible refine' DL.Y.noP ?_
  | with_reducible refine' DL.Y.part ?_
  | ((with_reducible refine' DL.Y.slLl ?n ?e ?_); (case' n => (rfl; done)); (case' e => walk_at "cut"))
  | ((with_reducible refine' DL.Y.slTl ?n ?m ?e ?_); (case' n => (rfl; done)); (case' m => (simp [HT.sIx]; done)); (case' e => walk_at "cut"))
  | with_reducible refine' DL.Y.slL ?_
  | with_reducible refine' DL.Y.call ?_
  | with_reducible refine' DL.Y.callK ?_
  | with_reducible refine' DL.Y.callD ?_
  | with_reducible refine' DL.Y.fld ?_
  | ((with_reducible refine' DL.Y.fld_ ?f ?e ?_); (case' f => (first | rfl | assumption); done); (case' e => (rfl; done)))
  | with_reducible refine' DL.Y.isW_ ?_
  | with_reducible refine' DL.Y.inK ?_
  | with_reducible refine' DL.Y.iSeq ?_
  | with_reducible refine' DL.Y.iSeqL ?_
  | with_reducible refine' DL.Y.iSeqT ?_
  | with_reducible refine' DL.Y.iRng1 ?_
  | with_reducible refine' DL.Y.iZip ?_
  | with_reducible refine' DL.Y.iZipT ?_
  | with_reducible refine' DL.Y.iZipL ?_
  | with_reducible refine' DL.Y.iZipR ?_
  | with_reducible refine' DL.Y.iZipM ?_
  | with_reducible refine' DL.Y.iEnum ?_
  | with_reducible refine' DL.Y.iEnumT ?_
  | with_reducible refine' DL.Y.iEnumL ?_
  | with_reducible refine' DL.Y.for_ ?_
  | with_reducible refine' DL.Y.cmp ?_
  | with_reducible refine' DL.Y.cmpM ?_
  | with_reducible refine' DL.Y.cmpQ ?_
  | with_reducible refine' DL.Y.isO ?_
  | ((with_reducible refine' DL.Y.isO_ (isO_exc ?c) ?_); (case' c => (decide +kernel; done)))
  | ((with_reducible refine' DL.Y.isO_ ?e ?_); (case' e => (rfl; done)))
  | ((with_reducible refine' DL.Y.isW1 ?e ?_); (case' e => (first | assumption | (rfl; done))))
  | with_reducible refine' DL.Y.xf ?_
  | ((with_reducible refine' DL.Y.xf_ ?c ?e ?_); (case' c => (decide +kernel; done)); (case' e => (first | assumption | (rfl; done))))
  | with_reducible refine' DL.Y.mk ?_
  | with_reducible refine' DL.Y.dctM ?_
  | with_reducible refine' DL.Y.dct0 ?_
  | with_reducible refine' DL.Y.lstM ?_
  | with_reducible refine' DL.Y.rev ?_
  | with_reducible refine' DL.Y.revL ?_
  | with_reducible refine' DL.Y.dget ?_
  | with_reducible refine' DL.Y.dput ?_
  | with_reducible refine' DL.Y.app ?_
  | with_reducible refine' DL.Y.gc ?_
  | with_reducible refine' DL.Y.boolB ?_
  | with_reducible refine' DL.Y.disp ?_
  | with_reducible refine' DL.Y.valsC ?_
  | with_reducible refine' DL.Y.valsN ?_
  | with_reducible refine' DL.Y.ownEq ?_
  | with_reducible refine' DL.Y.cmp2 ?_
  | with_reducible refine' DL.Y.star ?_
  | with_reducible refine' DL.Y.meth ?_
  | with_reducible refine' DL.Y.index ?_
  | with_reducible refine' DL.Y.backT ?_
  | with_reducible refine' DL.Y.iRngV ?_
  | with_reducible refine' DL.Y.rng1_ ?_
  | with_reducible refine' DL.Y.rng2_ ?_
  | with_reducible refine' DL.Y.rngV_ ?_
  | ((with_reducible refine' DL.Y.fld_ ?f ?e ?_); (case' f => ((first | rfl | assumption | decide +kernel); done)); (case' e => (rfl; done)))
  | with_reducible refine' DL.Y.chLe ?_
  | with_reducible refine' DL.Y.chLt ?_
  | with_reducible refine' DL.Y.setF ?_
  | with_reducible refine' DL.Y.lenSet ?_
  | with_reducible refine' DL.Y.inL ?_
  | with_reducible refine' DL.Y.inTp ?_
  | with_reducible refine' DL.Y.slTA ?_
  | with_reducible refine' DL.Y.sortS ?_
  | with_reducible refine' DL.Y.iRng2 ?_
  | ((with_reducible refine' DL.Y.iRng2_ ?z ?_); (case' z => (omega; done)))
  | with_reducible refine' DL.Y.inD ?_
  | with_reducible refine' DL.Y.inD_ ?_
  | with_reducible refine' DL.Y.ixD ?_
  | ((with_reducible refine' DL.Y.mulS ?h ?_); (case' h => (exact ⟨by omega, by omega, by decide⟩)))
  | ((with_reducible refine' DL.Y.mulL ?h ?_); (case' h => (exact ⟨by simp only [List.length_cons, List.length_nil]; omega, by omega, by omega⟩)))
  | walk_at "xu"
  | walk_at "norm")
local macro_rules | `(tactic| walk_at "norm") => `(tactic| (dsimp only [List.set]))
local macro_rules | `(tactic| walk_at "x") => `(tactic| first | walk_at "x0" | with_reducible refine' DL.Y.ifE ?_)
local macro_rules | `(tactic| walk_at "xs") => `(tactic| repeat walk_at "x0")
local macro_rules | `(tactic| walk_at "xx") => `(tactic| repeat walk_at "x")
local macro_rules | `(tactic| walk_at "start") => `(tactic| dsimp only [List.map, List.length_cons, List.length_nil, List.cons_append, List.nil_append, Nat.zero_add, Nat.reduceAdd, Nat.reduceSub, List.reduceReplicate])
namespace DL
open PySem PySem.Spec PyProof.Rows L2 Evl Sup
variable [TabC]
end DL
namespace DL
open PySem PySem.Spec PyProof.Rows L2 Evl Sup
variable [TabC]
end DL
namespace DL
open PySem PySem.Spec PyProof.Rows L2 Evl Sup
variable [TabC]
end DL
namespace DL
open PySem PySem.Spec PyProof.Rows L2 Evl Sup
variable [TabC]
theorem Y.neL {xs : List D} {Q : D → Prop} (hc : Cmp (.lst xs)) (h : Q (.bl false)) : ∃ z, fNe (.lst xs) (.lst xs) z ∧ Q z := ⟨_, fne_cmp hc hc (fun _ e => by cases e) (fun _ e => by cases e) (fun _ e => by cases e), by rw [eqv_self hc.lay]; exact h⟩
end DL
namespace DL
open PySem PySem.Spec PyProof.Rows L2 Evl Sup
variable [TabC]
end DL
namespace DL
open PySem PySem.Spec PyProof.Rows L2 Evl Sup
variable [TabC]
end DL
namespace DL
open PySem PySem.Spec PyProof.Rows L2 Evl Sup
variable [TabC]
end DL
namespace DL
open PySem PySem.Spec PyProof.Rows L2 Evl Sup
variable [TabC]
end DL
namespace DL
open PySem PySem.Spec PyProof.Rows L2 Evl Sup
variable [TabC]
end DL
namespace DL
open PySem PySem.Spec PyProof.Rows L2 Evl Sup
variable [TabC]
variable {G G' : Gm} {a q : Addr} {m : Mt} {as : List Addr} {Ls : List (List D)} {es : List D}
end DL
namespace DL
open PySem PySem.Spec PyProof.Rows L2 Evl Sup
variable [TabC]
end DL
namespace DL
open PySem PySem.Spec PyProof.Rows L2 Evl Sup
variable [TabC]
end DL
namespace DL
open PySem PySem.Spec PyProof.Rows L2 Evl Sup
variable [TabC]
end DL
namespace DL
open PySem PySem.Spec PyProof.Rows L2 Evl Sup
variable [TabC]
end DL
end
namespace DL
open PySem PySem.Spec PyProof.Rows L2 Evl Sup PySem.W HandSHeadRun PySem.Calls
section
variable [TabC]
end
end DL
section
open PySem PySem.Spec PyProof.Rows L2 Evl DL
local macro_rules | `(tactic| walk_at "side") => `(tactic| first | exact mul_left (by decide) | exact mul_right (by decide) | exact mul_bd | exact div_bd (by first | assumption | decide | omega) | exact pow_bd (by first | decide | omega) (by first | decide | omega) | assumption | (show (0 : Int) < _; first | decide | omega))
local macro_rules | `(tactic| walk_at "eva") => `(tactic| first | exact DL.EvA.nil | (refine' DL.EvA.cons ?e ?r; (case' e => walk_at "ev"); (case' r => walk_at "eva")))
local macro_rules | `(tactic| walk_at "seq") => `(tactic| first | exact seq_tup | exact seq_lst | exact seq_ref (by assumption))
local macro_rules | `(tactic| walk_at "size") => `(tactic| first | (show _ ≤ sizeLine; simp only [List.length_cons, List.length_nil]; decide) | (rw [sizeLine_eq]; omega))
local macro_rules | `(tactic| walk_at "ev") => `(tactic| first
  | exact DL.Ev.c
  | exact DL.Ev.var rfl
  | (refine' DL.Ev.int ?a ?b; (case' a => walk_at "ev"); (case' b => walk_at "ev"))
  | (refine' DL.Ev.intC ?a ?b ?s; (case' a => walk_at "ev"); (case' b => walk_at "ev"); (case' s => try walk_at "side"))
  | (refine' DL.Ev.add ?a ?b; (case' a => walk_at "ev"); (case' b => walk_at "ev"))
  | (refine' DL.Ev.neg ?a; (case' a => walk_at "ev"))
  | (refine' DL.Ev.intOf ?a; (case' a => walk_at "ev"))
  | (refine' DL.Ev.intB ?a; (case' a => walk_at "ev"))
  | (refine' DL.Ev.absN ?a; (case' a => walk_at "ev"))
  | (refine' DL.Ev.eqI ?a ?b; (case' a => walk_at "ev"); (case' b => walk_at "ev"))
  | (refine' DL.Ev.neI ?a ?b; (case' a => walk_at "ev"); (case' b => walk_at "ev"))
  | (refine' DL.Ev.at ?a ?b ?s ?k; (case' a => walk_at "ev"); (case' b => walk_at "ev"); (case' s => walk_at "seq"); (case' k => try rfl))
  | (refine' DL.Ev.len ?a ?s; (case' a => walk_at "ev"); (case' s => walk_at "seq"))
  | (refine' DL.Ev.tupOf ?a ?s; (case' a => walk_at "ev"); (case' s => walk_at "seq"))
  | (refine' DL.Ev.tup ?a ?z; (case' a => walk_at "eva"); (case' z => try walk_at "size"))
  | (refine' DL.Ev.lst ?a ?z; (case' a => walk_at "eva"); (case' z => try walk_at "size"))
  | (refine' DL.Ev.notV ?a; (case' a => walk_at "ev"))
  | (refine' DL.Ev.isN ?a; (case' a => walk_at "ev"))
  | exact fun R r => r
  | assumption)
local macro_rules | `(tactic| walk_at "set") => `(tactic| (refine' ds_set ?e ?_; (case' e => walk_at "ev")))
local macro_rules | `(tactic| walk_at "ret") => `(tactic| (refine' ds_ret ?e ?_; (case' e => walk_at "ev")))
local macro_rules | `(tactic| walk_at "par") => `(tactic| (refine' ds_par ?e ?f ?_; (case' e => walk_at "ev"); (case' f => walk_at "ev")))
local macro_rules | `(tactic| walk_at "cut") => `(tactic| (simp only [DL.cutD, HT.sIx, List.length_cons, List.length_nil, Nat.zero_add, Nat.reduceAdd, Nat.min_def, Nat.reduceLeDiff, ↓reduceIte, List.drop_zero, List.drop_succ_cons, List.take_zero, List.take_succ_cons, List.take_nil, List.drop_nil, List.cons_append, List.nil_append, Int.reduceLT, Int.reduceToNat, Nat.reduceSub, Nat.sub_zero, Int.reduceNeg, Int.cast_ofNat_Int, Int.reduceAdd]; exact rfl))
local macro_rules | `(tactic| walk_at "xu") => `(tactic| first
  | with_reducible refine' DL.Y.ixS0 ?_
  | with_reducible refine' DL.Y.ixS1 ?_
  | with_reducible refine' DL.Y.ixS2 ?_
  | with_reducible refine' DL.Y.ixP0 ?_
  | with_reducible refine' DL.Y.ixP1 ?_
  | with_reducible refine' DL.Y.lstS ?_
  | with_reducible refine' DL.Y.lstP ?_)
local macro_rules | `(tactic| walk_at "dec") => `(tactic| first | rfl | assumption | exact decide_eq_true (by omega) | exact decide_eq_false (by omega) | exact DL.Y.ndT (by omega) | exact DL.Y.ndF (by omega) | decide +kernel)
local macro_rules | `(tactic| walk_at "size2") => `(tactic| first | exact Nat.le_of_ble_eq_true rfl | omega)
local macro_rules | `(tactic| walk_at "x0") => `(tactic| first
  | with_reducible refine' DL.Y.cons ?_
  | ((with_reducible refine' DL.Y.var ?e ?_); (case' e => (first | exact rfl | assumption)))
  | with_reducible refine' DL.Y.c ?_
  | with_reducible refine' DL.Y.nil ?_
  | with_reducible refine' DL.Y.op ?_
  | with_reducible refine' DL.Y.oint ?_
  | ((with_reducible refine' DL.Y.ointC ?s ?_); (case' s => try walk_at "side"))
  | with_reducible refine' DL.Y.oadd ?_
  | with_reducible refine' DL.Y.oeqI ?_
  | with_reducible refine' DL.Y.oneI ?_
  | with_reducible refine' DL.Y.oeqS ?_
  | with_reducible refine' DL.Y.neS ?_
  | with_reducible refine' DL.Y.oneS ?_
  | with_reducible refine' DL.Y.oeqB ?_
  | with_reducible refine' DL.Y.tst ?_
  | with_reducible refine' DL.Y.bl_ ?_
  | ((with_reducible refine' DL.Y.iRng1_ ?z ?_); (case' z => (omega; done)))
  | with_reducible refine' DL.Y.int_ ?_
  | with_reducible refine' DL.Y.str_ ?_
  | with_reducible refine' DL.Y.ref_ ?_
  | ((with_reducible refine' DL.Y.iteT ?h ?_); (case' h => (walk_at "dec"; done)))
  | ((with_reducible refine' DL.Y.iteF ?h ?_); (case' h => (walk_at "dec"; done)))
  | with_reducible refine' DL.Y.seq ?_
  | with_reducible refine' DL.Y.set ?_
  | with_reducible refine' DL.Y.ifS ?_
  | with_reducible refine' DL.Y.ret ?_
  | with_reducible refine' DL.Y.nx ?_
  | with_reducible refine' DL.Y.drop ?_
  | with_reducible refine' DL.Y.asg ?_
  | with_reducible refine' DL.Y.par ?_
  | with_reducible refine' DL.Y.par_ ?_
  | with_reducible refine' DL.Y.par3 ?_
  | with_reducible refine' DL.Y.par3_ ?_
  | with_reducible refine' DL.Y.bk ?_
  | with_reducible refine' DL.Y.ct ?_
  | with_reducible refine' DL.Y.retN ?_
  | with_reducible refine' DL.Y.gn ?_
  | with_reducible refine' DL.Y.gnil ?_
  | with_reducible refine' DL.Y.gcons ?_
  | ((with_reducible refine' DL.Y.gseqT ?e ?_); (case' e => (rfl; done)))
  | ((with_reducible refine' DL.Y.gseqL ?e ?_); (case' e => (rfl; done)))
  | with_reducible refine' DL.Y.tup ?_
  | with_reducible refine' DL.Y.lst ?_
  | ((with_reducible refine' DL.Y.len_ ?n ?l ?_); (case' n => exact rfl); (case' l => try walk_at "size2"))
  | with_reducible refine' DL.Y.ix ?_
  | ((with_reducible refine' DL.Y.ixT ?e ?_); (case' e => ((first | rfl | assumption); done)))
  | ((with_reducible refine' DL.Y.ixL ?e ?_); (case' e => (rfl; done)))
  | ((with_reducible refine' DL.Y.ixR ?g ?e ?_); (case' g => with_reducible assumption); (case' e => (rfl; done)))
  | with_reducible refine' DL.Y.cal ?_
  | with_reducible refine' DL.Y.lenT ?_
  | with_reducible refine' DL.Y.lenL ?_
  | ((with_reducible refine' DL.Y.lenR ?g ?_); (case' g => with_reducible assumption))
  | with_reducible refine' DL.Y.absI ?_
  | with_reducible refine' DL.Y.max2 ?_
  | with_reducible refine' DL.Y.strJoin ?_
  | with_reducible refine' DL.Y.neM ?_
  | with_reducible refine' DL.Y.popAt ?_
  | with_reducible refine' DL.Y.lstRg1 ?_
  | with_reducible refine' DL.Y.lstRg2 ?_
  | with_reducible refine' DL.Y.lstRgM ?_
  | with_reducible refine' DL.Y.intI ?_
  | with_reducible refine' DL.Y.intB ?_
  | with_reducible refine' DL.Y.tupT ?_
  | with_reducible refine' DL.Y.tupL ?_
  | ((with_reducible refine' DL.Y.tupR ?g ?_); (case' g => with_reducible assumption))
  | with_reducible refine' DL.Y.lstT ?_
  | with_reducible refine' DL.Y.lstL ?_
  | with_reducible refine' DL.Y.allL ?_
  | with_reducible refine' DL.Y.anyL ?_
  | ((with_reducible refine' DL.Y.oaddL ?z ?_); (case' z => try walk_at "size2"))
  | ((with_reducible refine' DL.Y.oaddT ?z ?_); (case' z => try walk_at "size2"))
  | with_reducible refine' DL.Y.oisB ?_
  | with_reducible refine' DL.Y.onotB ?_
  | with_reducible refine' DL.Y.neg ?_
  | with_reducible refine' DL.Y.notT ?_
  | with_reducible refine' DL.Y.andT ?_
  | with_reducible refine' DL.Y.orT ?_
  | with_reducible refine' DL.Y.yes ?_
  | with_reducible refine' DL.Y.ifT ?_
  | with_reducible refine' DL.Y.andV ?_
  | with_reducible refine' DL.Y.orV ?_
  | with_reducible refine' DL.Y.notV ?_
  | with_reducible refine' DL.Y.isN ?_
  | with_reducible refine' DL.Y.notN ?_
  | ((with_reducible refine' DL.Y.isi_ ?e ?_); (case' e => (rfl; done)))
  | with_reducible refine' DL.Y.isiT ?_
  | with_reducible refine' DL.Y.chain ?_
  | with_reducible refine' DL.Y.sl ?_
  | with_reducible refine' DL.Y.noP ?_
  | with_reducible refine' DL.Y.part ?_
  | ((with_reducible refine' DL.Y.slLl ?n ?e ?_); (case' n => (rfl; done)); (case' e => walk_at "cut"))
  | ((with_reducible refine' DL.Y.slTl ?n ?m ?e ?_); (case' n => (rfl; done)); (case' m => (simp [HT.sIx]; done)); (case' e => walk_at "cut"))
  | with_reducible refine' DL.Y.slL ?_
  | with_reducible refine' DL.Y.call ?_
  | with_reducible refine' DL.Y.callK ?_
  | with_reducible refine' DL.Y.callD ?_
  | with_reducible refine' DL.Y.fld ?_
  | ((with_reducible refine' DL.Y.fld_ ?f ?e ?_); (case' f => (first | rfl | assumption); done); (case' e => (rfl; done)))
  | with_reducible refine' DL.Y.isW_ ?_
  | with_reducible refine' DL.Y.inK ?_
  | with_reducible refine' DL.Y.iSeq ?_
  | with_reducible refine' DL.Y.iSeqL ?_
  | with_reducible refine' DL.Y.iSeqT ?_
  | with_reducible refine' DL.Y.iRng1 ?_
  | with_reducible refine' DL.Y.iZip ?_
  | with_reducible refine' DL.Y.iZipT ?_
  | with_reducible refine' DL.Y.iZipL ?_
  | with_reducible refine' DL.Y.iZipR ?_
  | with_reducible refine' DL.Y.iZipM ?_
  | with_reducible refine' DL.Y.iEnum ?_
  | with_reducible refine' DL.Y.iEnumT ?_
  | with_reducible refine' DL.Y.iEnumL ?_
  | with_reducible refine' DL.Y.for_ ?_
  | with_reducible refine' DL.Y.cmp ?_
  | with_reducible refine' DL.Y.cmpM ?_
  | with_reducible refine' DL.Y.cmpQ ?_
  | with_reducible refine' DL.Y.isO ?_
  | ((with_reducible refine' DL.Y.isO_ (isO_exc ?c) ?_); (case' c => (decide +kernel; done)))
  | ((with_reducible refine' DL.Y.isO_ ?e ?_); (case' e => (rfl; done)))
  | ((with_reducible refine' DL.Y.isW1 ?e ?_); (case' e => (first | assumption | (rfl; done))))
  | with_reducible refine' DL.Y.xf ?_
  | ((with_reducible refine' DL.Y.xf_ ?c ?e ?_); (case' c => (decide +kernel; done)); (case' e => (first | assumption | (rfl; done))))
  | with_reducible refine' DL.Y.mk ?_
  | with_reducible refine' DL.Y.dctM ?_
  | with_reducible refine' DL.Y.dct0 ?_
  | with_reducible refine' DL.Y.lstM ?_
  | with_reducible refine' DL.Y.rev ?_
  | with_reducible refine' DL.Y.revL ?_
  | with_reducible refine' DL.Y.dget ?_
  | with_reducible refine' DL.Y.dput ?_
  | with_reducible refine' DL.Y.app ?_
  | with_reducible refine' DL.Y.gc ?_
  | with_reducible refine' DL.Y.boolB ?_
  | with_reducible refine' DL.Y.disp ?_
  | with_reducible refine' DL.Y.valsC ?_
  | with_reducible refine' DL.Y.valsN ?_
  | with_reducible refine' DL.Y.ownEq ?_
  | with_reducible refine' DL.Y.cmp2 ?_
  | with_reducible refine' DL.Y.star ?_
  | with_reducible refine' DL.Y.meth ?_
  | with_reducible refine' DL.Y.index ?_
  | with_reducible refine' DL.Y.backT ?_
  | with_reducible refine' DL.Y.iRngV ?_
  | with_reducible refine' DL.Y.rng1_ ?_
  | with_reducible refine' DL.Y.rng2_ ?_
  | with_reducible refine' DL.Y.rngV_ ?_
  | ((with_reducible refine' DL.Y.fld_ ?f ?e ?_); (case' f => ((first | rfl | assumption | decide +kernel); done)); (case' e => (rfl; done)))
  | with_reducible refine' DL.Y.chLe ?_
  | with_reducible refine' DL.Y.chLt ?_
  | with_reducible refine' DL.Y.setF ?_
  | with_reducible refine' DL.Y.lenSet ?_
  | with_reducible refine' DL.Y.inL ?_
  | with_reducible refine' DL.Y.inTp ?_
  | with_reducible refine' DL.Y.slTA ?_
  | with_reducible refine' DL.Y.sortS ?_
  | with_reducible refine' DL.Y.iRng2 ?_
  | ((with_reducible refine' DL.Y.iRng2_ ?z ?_); (case' z => (omega; done)))
  | with_reducible refine' DL.Y.inD ?_
  | with_reducible refine' DL.Y.inD_ ?_
  | with_reducible refine' DL.Y.ixD ?_
  | ((with_reducible refine' DL.Y.mulS ?h ?_); (case' h => (exact ⟨by omega, by omega, by decide⟩)))
  | ((with_reducible refine' DL.Y.mulL ?h ?_); (case' h => (exact ⟨by simp only [List.length_cons, List.length_nil]; omega, by omega, by omega⟩)))
  | with_reducible refine' DL.Y.iStr ?_
  | with_reducible refine' DL.Y.iStr_ ?_
  | with_reducible refine' DL.Y.slS ?_
  | ((with_reducible refine' DL.Y.slS_ ?z ?_); (case' z => assumption))
  | with_reducible refine' DL.Y.split ?_
  | ((with_reducible refine' DL.Y.andZ ?z ?_); (case' z => assumption))
  | ((with_reducible refine' DL.Y.lenStr ?z ?_); (case' z => assumption))
  | walk_at "xu"
  | walk_at "norm")
local macro_rules | `(tactic| walk_at "norm") => `(tactic| (dsimp only [List.set]))
local macro_rules | `(tactic| walk_at "x") => `(tactic| first | walk_at "x0" | with_reducible refine' DL.Y.ifE ?_)
local macro_rules | `(tactic| walk_at "xs") => `(tactic| repeat walk_at "x0")
local macro_rules | `(tactic| walk_at "xx") => `(tactic| repeat walk_at "x")
local macro_rules | `(tactic| walk_at "start") => `(tactic| dsimp only [List.map, List.length_cons, List.length_nil, List.cons_append, List.nil_append, Nat.zero_add, Nat.reduceAdd, Nat.reduceSub, List.reduceReplicate])
namespace DL
open PySem PySem.Spec PyProof.Rows L2 Evl Sup
variable [TabC]
abbrev chD (c : Nat) : D := .str ⟨#[c]⟩
theorem walks_str {K : PySem.W.Frag} {Hd : Hp} {x : Str} : Walks K Hd (Its x) (x.cps.toList.map chD) := fun F i H2 Hd2 G2 e s => by
  refine ⟨fun d hd => ?_, fun hl => by
    show x.cps.size ≤ i
    simpa using hl⟩
  rw [List.getElem?_map] at hd
  cases hc : x.cps[i]? with
  | none => rw [Array.getElem?_toList, hc] at hd; cases hd
  | some c =>
    rw [Array.getElem?_toList, hc] at hd
    cases hd
    refine ⟨(Array.getElem?_eq_some_iff.mp hc).1, fun w H3 ⟨eH, c', hc', hw⟩ => ?_⟩
    rw [hc] at hc'
    cases hc'
    subst eH hw
    exact ⟨Hd2, Ex.refl _, s, .str _⟩
def dIStr (de : DE) : DI := fun ρ G S => de ρ G fun x G1 => ∃ t : Str, x = .str t ∧ S (t.cps.toList.map chD) G1
section
variable {X : Cx} {B : Bs} {apos pos : Pos} {a b o e : Expr} {da db dobj de : DE} {tg : Expr}
theorem pid_str (he : PE X e (upE X.K B de)) : PI X tg e (upI X.K B (dIStr de)) := pi_imp (pi_str he) fun σ H R ⟨ρ, Hd, G, S, at_, h, k⟩ =>
  ⟨ρ, Hd, G, _, at_, h, fun v H1 Hd1 x G1 e1 s1 r1 ⟨t, hx, h1⟩ => by
    subst hx
    cases r1
    exact ⟨t, rfl, k _ H1 Hd1 _ G1 e1 s1 walks_str h1⟩⟩
def fInC (neg : Bool) (x y z : D) : Prop := ∃ (c : Nat) (t : Str), x = chD c ∧ y = .str t ∧ z = .bl (neg != decide (c ∈ t.cps.toList))
theorem od_inC {K : PySem.W.Frag} : OpD K (fun x y H Q => ∃ (c : Nat) (z : Str), x = .str ⟨#[c]⟩ ∧ y = .str z ∧ Q (.bl (decide (c ∈ z.cps.toList))) H) (fInC false) := fun F Hd H G v u x y z Q s rv ru ⟨c, t, ex, ey, ez⟩ k => by
  subst ex ey ez
  cases rv
  cases ru
  exact ⟨c, t, rfl, rfl, k _ H Hd (Ex.refl _) s (by rw [show (false != decide (c ∈ t.cps.toList)) = decide (c ∈ t.cps.toList) from Bool.false_bne _]; exact .bl _)⟩
theorem od_notInC {K : PySem.W.Frag} : OpD K (fun x y H Q => ∃ (c : Nat) (z : Str), x = .str ⟨#[c]⟩ ∧ y = .str z ∧ Q (.bl (!decide (c ∈ z.cps.toList))) H) (fInC true) := fun F Hd H G v u x y z Q s rv ru ⟨c, t, ex, ey, ez⟩ k => by
  subst ex ey ez
  cases rv
  cases ru
  exact ⟨c, t, rfl, rfl, k _ H Hd (Ex.refl _) s (by rw [show (true != decide (c ∈ t.cps.toList)) = !decide (c ∈ t.cps.toList) from Bool.true_bne _]; exact .bl _)⟩
def fIntT (_ : Gm) (xs : List D) (z : D) : Prop := ∃ a n, xs = [.str a] ∧ PySem.intText? a = some n ∧ a.length ≤ 640 ∧ z = .int n
theorem cd_intT {K : PySem.W.Frag} : CalD K (fun xs H Q => ∃ a n, xs = [.str a] ∧ PySem.intText? a = some n ∧ a.length ≤ 640 ∧ Q (.int n) H) fIntT := fun F Hd H G vs xs z Q s r ⟨a, n, ex, hn, hl, ez⟩ k => by
  subst ex ez
  obtain ⟨v, rfl, rv⟩ := rpl1 r
  cases rv
  exact ⟨a, n, rfl, hn, hl, k _ H Hd (Ex.refl _) s (.int _)⟩
def dSlS (da : DE) (l h : DO) : DE := fun ρ G R => da ρ G fun x G1 => l ρ G1 fun lo G2 => h ρ G2 fun hi G3 => ∃ t, x = .str t ∧ t.length ≤ sizeLine ∧ R (.str (L2.cutS t lo hi)) G3
theorem pd_sliceS {lo hi : Option Expr} {l h : DO} {p2 : Pos} (he : PE X e (upE X.K B da)) (hl : PO X lo (upO X.K B l)) (hh : PO X hi (upO X.K B h)) : PE X (.Subscript e (.Slice lo hi none p2) pos) (upE X.K B (dSlS da l h)) :=
  pe_imp (pe_slice sl_str he hl hh) fun σ H Q ⟨ρ, Hd, G, R, at_, h, k⟩ =>
    ⟨ρ, Hd, G, _, at_, h, fun v H1 Hd1 x G1 e1 s1 r1 h1 => ⟨ρ, Hd1, G1, _, at_.step e1 s1, h1, fun lo H2 Hd2 G2 e2 s2 h2 => ⟨ρ, Hd2, G2, _, (at_.step e1 s1).step e2 s2, h2, fun hi H3 Hd3 G3 e3 s3 ⟨t, hz, hl, h3⟩ => by
      subst hz
      cases r1
      exact ⟨t, rfl, hl, k _ H3 Hd3 _ G3 ((e1.trans e2).trans e3) s3 (.str _) h3⟩⟩⟩⟩
def dSplit (dobj de : DE) : DE := fun ρ G R => dobj ρ G fun x G1 => ∃ a, x = .str a ∧ de ρ G1 fun y G2 => ∃ b, y = .str b ∧ (b.length == 0) = false ∧ a.length + 2 ≤ sizeLine ∧ R (.lst ((Txt.split a b).map D.str)) G2
theorem rpl_strs {K : PySem.W.Frag} {H : Hp} : ∀ ys : List Str, RpL K H (ys.map V.str) (ys.map D.str)
  | [] => .nil
  | _ :: ys => .cons (.str _) (rpl_strs ys)
theorem pd_split (ho : PE X o (upE X.K B dobj)) (he : PE X e (upE X.K B de)) (hs : starEach [e] X.env = [(false, eval e X.env)] := by rfl) (hbase : attributeBase o "split" X.env (eval o X.env) = eval o X.env := by rfl) (hline : (apos.endLine == pos.line) = true := by rfl) :
    PE X (.Call (.Attribute o "split" apos) [e] [] pos) (upE X.K B (dSplit dobj de)) :=
  pe_imp (pe_split ho he hs hbase hline) fun σ H Q ⟨ρ, Hd, G, R, at_, h, k⟩ => ⟨ρ, Hd, G, _, at_, h, fun v H1 Hd1 x G1 e1 s1 r1 ⟨a, ex, h1⟩ => by
    subst ex
    cases r1
    refine ⟨⟨a, rfl⟩, ρ, Hd1, G1, _, at_.step e1 s1, h1, fun u H2 Hd2 y G2 e2 s2 r2 ⟨b, ey, hb, hl, hR⟩ => ?_⟩
    subst ey
    cases r2
    exact ⟨a, b, rfl, rfl, hb, hl, fun p hp => k _ _ _ _ G2 ((e1.trans e2).trans (s2.exn hp)) (s2.new hp) (.lst sq_new (rpl_strs _)) hR⟩⟩
end
variable {ρ : En} {G : Gm} {R : KD} {da db : DE}
theorem Y.iStr {S : List D → Gm → Prop} (h : da ρ G fun x G1 => ∃ t : Str, x = .str t ∧ S (t.cps.toList.map chD) G1) : dIStr da ρ G S := h
theorem Y.inC {n : Bool} {c : Nat} {t : Str} {Q : D → Prop} (h : Q (.bl (n != decide (c ∈ t.cps.toList)))) : ∃ z, fInC n (chD c) (.str t) z ∧ Q z := ⟨_, ⟨c, t, rfl, rfl, rfl⟩, h⟩
theorem Y.slS {l h : DO} (hh : da ρ G fun x G1 => l ρ G1 fun lo G2 => h ρ G2 fun hi G3 => ∃ t, x = .str t ∧ t.length ≤ sizeLine ∧ R (.str (L2.cutS t lo hi)) G3) : dSlS da l h ρ G R := hh
theorem Y.lenStr {t : Str} {Q : D → Prop} (hz : t.length ≤ sizeLine) (h : Q (.int t.length)) : ∃ z, fLen G [.str t] z ∧ Q z := ⟨_, ⟨_, rfl, .inr ⟨t, rfl, hz, rfl⟩⟩, h⟩
theorem Y.ixStr {t : Str} {i : Int} {c : Nat} {Q : D → Prop} (hz : t.length ≤ sizeLine) (e : atI t.cps.toList i = some c) (h : Q (chD c)) : ∃ z, fIx G (.str t) (.int i) z ∧ Q z := ⟨_, .inr ⟨t, i, c, rfl, rfl, hz, e, rfl⟩, h⟩
theorem Y.intT {a : Str} {n : Int} {Q : D → Prop} (e : PySem.intText? a = some n) (hl : a.length ≤ 640) (h : Q (.int n)) : ∃ z, fIntT G [.str a] z ∧ Q z := ⟨_, ⟨a, n, rfl, e, hl, rfl⟩, h⟩
theorem Y.oaddS {a b : Str} {Q : D → Prop} (hz : a.length + b.length ≤ sizeLine) (h : Q (.str (a ++ b))) : ∃ z, fAdd (.str a) (.str b) z ∧ Q z := ⟨_, .inr ⟨a, b, rfl, rfl, hz, rfl⟩, h⟩
theorem Y.andZ {n : Nat} {P : Prop} (hz : n ≤ sizeLine) (h : P) : n ≤ sizeLine ∧ P := ⟨hz, h⟩
theorem Y.split (h : da ρ G fun x G1 => ∃ a, x = .str a ∧ db ρ G1 fun y G2 => ∃ b, y = .str b ∧ (b.length == 0) = false ∧ a.length + 2 ≤ sizeLine ∧ R (.lst ((Txt.split a b).map D.str)) G2) : dSplit da db ρ G R := h
end DL
namespace Hear
open PySem PySem.Spec PyProof.Rows L2 DL Held
def wFst (K : PySem.W.Frag) (c : Value) (i : Nat) (ts : Addr → Value → Option Addr → TS) (D : Ends) : WX := fun cls d σ H =>
  PySem.W.exmOne K cls c = some true ∧ ∀ a, H a = none → ts a cls d { nx := fun σ' H' => D.nx (σ'.set i none) H', rt := D.rt, bk := fun σ' H' => D.bk (σ'.set i none) H', ct := fun σ' H' => D.ct (σ'.set i none) H' } (σ.set i (some (.ref a))) H
section
variable {X : Cx} {x n : Str} {c : Value} {i : Nat} {body suite : List Stmt} {b₀ : Stmt} {np pos pos' : Pos} {tb : WX → TS} {ts : Addr → Value → Option Addr → TS} {hds : List ExceptHandler}
theorem ps_try_fst (hs : X.stack = X.env :: X.outer) (hf : X.env.frame = some X.env.locals) (hN : X.N.Nodup) (hi : X.N[i]? = some n) (hln : X.env.kindOf n = some .local) (hc : Names X x c)
    (hb : ∀ (W : WX) (pn : List (Addr × Obj)) (xe : Value → Shared → Prop), Takes (X.tr pn xe) W → PassesOwn (model X.prog X.w) X.A X.env xe → PSs (X.tr pn xe) body (tb W))
    (hsu : ∀ (a : Addr) (oe : Obj) (cls : Value) (d : Option Addr) (pn : List (Addr × Obj)), Zc cls d oe → (∃ vs, oe.data = .fields vs) → PSs (X.suite a ((a, oe) :: pn)) (b₀ :: suite) (ts a cls d)) :
    PS X (.Try body (.ExceptHandler (some (.Name x np)) (some n) (b₀ :: suite) pos' :: hds) [] [] pos) (fun D σ H => tb (wFst X.K c i ts D) D σ H) := by
  refine ⟨fun pins s σ H D I h => ?_⟩
  have ok := I.ok
  have hfr : X.A.frames = some (X.env :: X.outer) := by rw [ok.frames, hs]
  have hloc : Loc X.env.scope n := .inl hln
  refine wpAny_Try_except ?_
  refine wpAny_mono ((hb (wFst X.K c i ts D) (X.pn ++ pins) (fun e s₁ => wpAny (model X.prog X.w) X.A (noteFrame e X.env) (fun _ s₂ => wpAny (model X.prog X.w) X.A (setFlight e none) (fun _ s₃ =>
    wpAny (model X.prog X.w) X.A (handleBy e X.env (.ExceptHandler (some (.Name x np)) (some n) (b₀ :: suite) pos' :: hds)) (SP X pins D) X.xe s₃) X.xe s₂) X.xe s₁) (fun u s' xx => ?_) PassesOwn.looking).run [] s σ H D (I.toTry _) h) (fun f s1 hsp => ?_) (fun e s1 he => he)
  · obtain ⟨a, B, sI, pins', σ', H', cls, d, rfl, J', nb, up, sky, na, os, ag, hb1, hyes⟩ := xx
    have J : Inv X pins σ' H' sI := J'.ofTry ok
    have sky' : Sky B (X.env :: X.outer) a (Zc cls d) X.env.locals s'.heap := by rw [← hs]; exact sky
    show wpAny (model X.prog X.w) X.A (noteFrame (.ref a) X.env) _ _ _
    refine Sky.land Zc.steady hfr hf sky' fun h3 fl3 up3 => ?_
    have J3 : Inv X pins σ' H' { s' with heap := h3 } := J.landed nb fl3.1 (up.trans up3) os ag
    obtain ⟨oe3, vs3, he3, hz3, hd3⟩ := fl3.there
    have notFr : ∀ {h : Heap} {o : Obj} {vs : Array Value}, h.FunFrames B (X.env :: X.outer) → h.get? a = some o → o.data = .fields vs → a ∉ frs (X.env :: X.outer) := fun {h o vs} ff e dd hm => by
      obtain ⟨_, o', e', hnf⟩ := ff.mem hm
      rw [e] at e'; cases e'
      exact hnf _ dd
    have nfr := notFr fl3.2.2.1 he3 hd3
    have nL : a ≠ X.env.locals := fun z => nfr (List.mem_filterMap.mpr ⟨X.env, List.mem_cons_self, by rw [hf, z]⟩)
    have nF : a ∉ X.fs := fun hm => by
      obtain ⟨e, he, q⟩ := List.mem_filterMap.mp hm
      exact nfr (List.mem_filterMap.mpr ⟨e, List.mem_cons_of_mem _ he, q⟩)
    have S3 := J3.suite he3 hd3 na nL nF
    refine wpAny_handleBy_cons (codeAny_handlers_test ?_) (by intro q; cases q)
    have LT : PySem.W.Looks (model X.prog X.w) h3 (typeOf (.ref a)) cls := fun A Q E s k q => wpAny_typeOf_ref (k _ _ he3) (by rw [hz3.1]; exact q)
    have LM := PySem.W.exm_one (M := model X.prog X.w) (J3.kIn) LT hb1
    have test : ∀ {Q : Value → Shared → Prop} {E : Value → Shared → Prop}, Q c { s' with heap := h3 } → wpAny (model X.prog X.w) (X.A.mark (some (.ref a))) (eval (.Name x np) X.env) Q E { s' with heap := h3 } := fun {Q E} q => by
      obtain ⟨hg, hdbg, hm | ⟨hm, hv, hnn⟩⟩ := hc
      · exact ld_glob (X := X.suite a ((a, oe3) :: (X.pn ++ pins))) S3 hg hm q hdbg
      · exact ld_blt (X := X.suite a ((a, oe3) :: (X.pn ++ pins))) S3 hg hm hv q hnn hdbg
    refine test (LM.here ?_)
    refine codeAny_handlers_suite_as ?_
    refine HandSPX.lands_againZ fl3 fun h4 fl4 up4 => ?_
    have J4 : Inv X pins σ' H' { s' with heap := h4 } := J.landed nb fl4.1 ((up.trans up3).trans up4) os ag
    obtain ⟨oe4, vs4, he4, hz4, hd4⟩ := fl4.there
    have S4 := J4.suite he4 hd4 na nL nF
    refine store_ok (X := X.suite a ((a, oe4) :: (X.pn ++ pins))) (v := .ref a) S4 hN hi hloc rfl (fun s5 S5 => ?_) (.inr hln)
    refine wpAny_mono ((hsu a oe4 cls d (X.pn ++ pins) hz4 ⟨_, hd4⟩).run [] s5 _ H' _ S5 (hyes a na)) (fun f s6 hsp => ?_) (fun _ _ z => False.elim z)
    have end_ : ∀ {σ6 : L2.St} {H6 : Hp} {Q : Shared → Prop}, Inv (X.suite a ((a, oe4) :: (X.pn ++ pins))) [] σ6 H6 s6 → (∀ s7, Inv X pins (σ6.set i none) H6 s7 → Q s7) →
        wpAny (model X.prog X.w) X.A (do bindName X.env n .none; unbindBehindTheSuite X.env n pos') (fun _ s7 => Q s7) X.xe s6 := fun {σ6 H6 Q} S6 hq => gone_ok (S6.unsuite ok) hN hi hln hq
    cases f with
    | next =>
      obtain ⟨σ6, H6, S6, q6⟩ := hsp
      exact end_ S6 fun s7 J7 => ⟨_, _, J7, q6⟩
    | brk =>
      obtain ⟨σ6, H6, S6, q6⟩ := hsp
      exact end_ S6 fun s7 J7 => ⟨_, _, J7, q6⟩
    | cont =>
      obtain ⟨σ6, H6, S6, q6⟩ := hsp
      exact end_ S6 fun s7 J7 => ⟨_, _, J7, q6⟩
    | ret u =>
      obtain ⟨v6, σ6, H6, S6, r6, q6⟩ := hsp
      exact end_ S6 fun s7 J7 => ⟨_, _, _, J7, r6, q6⟩
  · cases f with
    | next =>
      obtain ⟨σ', H', J', q⟩ := hsp
      exact wpAny_execs_nil ⟨σ', H', J'.ofTry ok, q⟩
    | brk =>
      obtain ⟨σ', H', J', q⟩ := hsp
      exact ⟨σ', H', J'.ofTry ok, q⟩
    | cont =>
      obtain ⟨σ', H', J', q⟩ := hsp
      exact ⟨σ', H', J'.ofTry ok, q⟩
    | ret u =>
      obtain ⟨v, σ', H', J', r, q⟩ := hsp
      exact ⟨v, σ', H', J'.ofTry ok, r, q⟩
end
end Hear
namespace DL
open PySem PySem.Spec PyProof.Rows L2 Evl Held Hear
variable [TabC]
structure Fnd2 (K : PySem.W.Frag) (f g : Str) (cls : Value) (d : Option Addr) where
  B : Bs
  C : Addr
  dd : Addr
  fs : List (Str × V)
  v : V
  z : D
  v2 : V
  z2 : D
  hcls : cls = .ref C
  hd : d = some dd
  xf : XfC K C
  no : PySem.W.findIn K (.ref C) f = some none
  no2 : PySem.W.findIn K (.ref C) g = some none
  told : B.b dd = some (.xd fs)
  look : fs.lookup f = some v
  look2 : fs.lookup g = some v2
  rep : Rp K B.b v z
  rep2 : Rp K B.b v2 z2
def Fnd2.one {K : PySem.W.Frag} {f g : Str} {cls : Value} {d : Option Addr} (F : Fnd2 K f g cls d) : Fnd K f cls d := ⟨F.B, F.C, F.dd, F.fs, F.v, F.z, F.hcls, F.hd, F.xf, F.no, F.told, F.look, F.rep⟩
def Fnd2.two {K : PySem.W.Frag} {f g : Str} {cls : Value} {d : Option Addr} (F : Fnd2 K f g cls d) : Fnd K g cls d := ⟨F.B, F.C, F.dd, F.fs, F.v2, F.z2, F.hcls, F.hd, F.xf, F.no2, F.told, F.look2, F.rep2⟩
def dTryR (i : Nat) (cs : List Str) (sub : Str → Str → Bool) (x f g : Str) (dX : XD → DE) : DS := fun E ρ G => i < ρ.length ∧ dX (fun C ns xs G' => C ∈ cs ∧ sub C x = true ∧ ∃ y z, (ns.zip xs).lookup f = some y ∧ (ns.zip xs).lookup g = some z ∧ E.rt (.lst [y, z]) G') ρ G fun x G' => E.rt x G'
section
variable {X : Cx} {B : Bs} {n : Str} {x f g : Str} {e : Expr} {b₀ : Stmt} {suite : List Stmt} {np pe ps pos pos' : Pos} {i : Nat} {dX : XD → DE} {cs : List Str} {sub : Str → Str → Bool} {hds : List ExceptHandler}
theorem psd_tryR (hx : ∀ C ∈ cs, XfC X.K (He.ga X.K C)) (hno : ∀ C ∈ cs, PySem.W.findIn X.K (.ref (He.ga X.K C)) f = some none) (hno2 : ∀ C ∈ cs, PySem.W.findIn X.K (.ref (He.ga X.K C)) g = some none) (hm : ∀ C ∈ cs, PySem.W.exmOne X.K (.ref (He.ga X.K C)) (.ref (He.ga X.K x)) = some (sub C x))
    (hst : X.stack = X.env :: X.outer) (hfr : X.env.frame = some X.env.locals) (nd : X.N.Nodup) (hi : X.N[i]? = some n) (kn : X.env.kindOf n = some .local) (hc : Names X x (.ref (He.ga X.K x)))
    (hsu : ∀ (a : Addr) (o : Obj) (cls : Value) (d : Option Addr) (pins : List (Addr × Obj)), Zc cls d o → (∃ vs, o.data = .fields vs) → ∀ F : Fnd2 X.K f g cls d, PS (X.suite a ((a, o) :: pins)) b₀ (upS X.K F.B (dRet (dLst (dCons (dXs i a F.z) (dCons (dXs i a F.z2) dNil))))))
    (hb : ∀ (W : WX) (pins : List (Addr × Obj)) (xe : Value → Shared → Prop), Takes (X.tr pins xe) W → PE (X.tr pins xe) e (upEX X.K B dX W)) :
    PS X (.Try [.Return (some e) ps] (.ExceptHandler (some (.Name x np)) (some n) [b₀] pos' :: hds) [] [] pos) (upS X.K B (dTryR i cs sub x f g dX)) :=
  ps_imp (ps_try_fst (tb := fun W => tRet (upEX X.K B dX W)) (ts := fun a cls d D σ H => ∃ F : Fnd2 X.K f g cls d, upS X.K F.B (dRet (dLst (dCons (dXs i a F.z) (dCons (dXs i a F.z2) dNil)))) D σ H) hst hfr nd hi kn hc
    (fun W pins xe tk _ => pss_one (ps_ret (X := X.tr pins xe) (hb W pins xe tk)))
    (fun a o cls d pins hz hf => pss_one (ps_ex fun F => hsu a o cls d pins hz hf F))) fun De σ H ⟨ρ, Hd, G, E, at_, ⟨hlr, h⟩, k⟩ => by
    refine ⟨ρ, Hd, G, (fun x G' => E.rt x G'), _, at_, h, fun v H' Hd' y G' ee s' r q => k.rt v H' Hd' y G' ee s' r q, fun C d H' Hd' ns vs xs G' ee s' hd hlen rl q => ?_⟩
    obtain ⟨hC, hsb, y, z, hy, hz, q⟩ := q
    refine ⟨by rw [hm C hC, hsb], fun a na => ?_⟩
    obtain ⟨s2, e2⟩ := s'.fields hd
    have li : i < σ.length := by rw [at_.e.1]; exact hlr
    have re2 : RpE X.K (upd Hd' d (.xd (ns.zip vs))) (σ.set i (some (.ref a))) (ρ.set i (some (.ref a))) := ((at_.e.mono ee).mono e2).set i (.ref a)
    have hr : (ρ.set i (some (D.ref a)))[i]? = some (some (.ref a)) := List.getElem?_set_self hlr
    obtain ⟨v1, hv1, rv1⟩ := rpl_lookup rl hy
    obtain ⟨v2, hv2, rv2⟩ := rpl_lookup rl hz
    have ks : KS X.K B.f (upd Hd' d (.xd (ns.zip vs))) { nx := fun _ _ => False, rt := fun x' G'' => x' = .lst [y, z] ∧ G'' = G' } { nx := fun σ' H' => De.nx (σ'.set i none) H', rt := De.rt, bk := fun σ' H' => De.bk (σ'.set i none) H', ct := fun σ' H' => De.ct (σ'.set i none) H' } :=
      ⟨fun _ _ _ _ _ _ _ _ z => z.elim, fun v3 H3 Hd3 x3 G3 e3 s3 r3 hq => (by
        obtain ⟨h1, h2⟩ := hq
        subst h1 h2
        exact k.rt v3 H3 Hd3 _ _ ((ee.trans e2).trans e3) s3 r3 q), fun _ _ _ _ _ _ _ _ z => z.elim, fun _ _ _ _ _ _ _ _ z => z.elim⟩
    exact ⟨⟨⟨upd Hd' d (.xd (ns.zip vs)), B.f⟩, He.ga X.K C, d, ns.zip vs, v1, y, v2, z, rfl, rfl, hx C hC, hno C hC, hno2 C hC, upd_same, hv1, hv2, rv1.mono e2, rv2.mono e2⟩, _, _, G', { nx := fun _ _ => False, rt := fun x' G'' => x' = .lst [y, z] ∧ G'' = G' }, ⟨Ex.refl _, re2, s2⟩, ds_ret (Ev.lst (.cons (fun R r => ⟨hr, r⟩) (.one (fun R r => ⟨hr, r⟩))) (show 2 ≤ sizeLine by decide)) ⟨rfl, rfl⟩, ks⟩
end
section
variable {X : Cx} {B : Bs} {p pos : Pos} {kws : List Keyword} {dA : DA}
theorem pex_callK {k : Nat} {x : Str} {st : Stmt} {ps ks : List Str} {q : DSp} {W : WX} (o : Ord) (h : Kn X.prog X.w X.K X.mg X.base k x st ps q) (hr : Room k X.A) (hgd : X.A.guards = some []) (hg : Gl X x) (tk : Takes X W)
    (hb : ∀ (kV doc pm : Value) (an : Option Addr) (cdv ct : Value) (us : List Value), us.length = ps.length → bindArgs (PySem.W.fnOf x x (defArgs st) (defBody st) (defScope st) .none kV doc pm an cdv ct) ⟨[], ks.zip us⟩ = pure (ps.zip (o.go us)))
    (hn : ks.length = ps.length) (ho : ∀ {α : Type} (l : List α), (o.go l).length = ps.length → l.length = ps.length)
    (hkw : PK X kws (upA X.K B dA)) (hall : (backToKw pos (keywordEach kws X.env)).all (·.1.isSome) = true := by rfl) (hks : (backToKw pos (keywordEach kws X.env)).filterMap (·.1) = ks := by rfl)
    (hdb : (x == ("__debug__" : Str)) = false := by decide) (hpl : ((backTo pos (starEach [] X.env)).any (·.1) || (backToKw pos (keywordEach kws X.env)).any (·.1.isNone)) = false := by rfl) :
    PE X (.Call (.Name x p) [] kws pos) (upEX X.K B (fun RX => dCallK q o RX dA) W) := ⟨fun pins s σ H Q I ⟨ρ, Hd, G, R, RX, at_, h', ke, kx⟩ => by
  obtain ⟨fd, F, FG⟩ := h.fn
  refine wpAny_Call_Name_kw (ld_glob I hg h.g (PySem.W.callWith_KW0 (h₀ := X.base) I.ok.mod.kin F.kp hall (thn (hkw.run pos pins s σ H (fun vs H1 => spU X.K q (o.go vs) H1 Q (WE W σ)) I ?_) fun us s1 hh => ?_) hpl) hdb)
  · exact ⟨ρ, Hd, G, _, at_, h', fun vs H1 Hd1 xs G1 e1 s1 r1 h1 => ⟨o.go xs, B.f, Hd1, G1, R, RX, paired_rpl (o.rel _ _ _ (rpl_paired r1)), s1, h1, ke.mono e1, kx.mono e1⟩⟩
  · obtain ⟨vs, H1, I1, r, q1⟩ := hh
    have r2 : Vals (o.go vs) (o.go us) := o.rel _ _ _ r
    have hl : (o.go us).length = ps.length := by rw [← r2.length]; exact FG.len _ _ _ _ q1
    have hus := ho us hl
    refine ⟨I1.kIn, ?_⟩
    rw [hks, List.append_nil]
    have hb1 : BindsTo s1 fd ⟨[], ks.zip us⟩ (ps.zip (o.go us)) := by
      obtain ⟨oc, od, dV, kV, doc, pm, an, cdv, ct, osl, rfl, lk, hcd, hD, hK⟩ := F.ex
      rcases hD with ⟨_, rfl⟩ | ⟨z, _⟩
      · exact .of_eq (hb kV doc pm an cdv ct us hus)
      · exact absurd rfl z
    refine wpAny_call (codeAny_mono (FG.run X.A X.stack s1 H1 ⟨[], ks.zip us⟩ (o.go us) (o.go vs) Q (WE W σ) hr hgd I1.env0 hb1 r2 q1) fun r s2 hq => ?_)
    cases r with
    | error e => exact passAt tk σ pins H1 s1 e s2 I1 hq
    | ok fl =>
      cases fl with
      | ret u => exact I1.after hq
      | next => exact False.elim hq
      | brk => exact False.elim hq
      | cont => exact False.elim hq⟩
end
end DL
end
section
open PySem PySem.Spec PyProof.Rows L2 Evl DL
local macro_rules | `(tactic| walk_at "side") => `(tactic| first | exact mul_left (by decide) | exact mul_right (by decide) | exact mul_bd | exact div_bd (by first | assumption | decide | omega) | exact pow_bd (by first | decide | omega) (by first | decide | omega) | assumption | (show (0 : Int) < _; first | decide | omega))
local macro_rules | `(tactic| walk_at "eva") => `(tactic| first | exact DL.EvA.nil | (refine' DL.EvA.cons ?e ?r; (case' e => walk_at "ev"); (case' r => walk_at "eva")))
local macro_rules | `(tactic| walk_at "seq") => `(tactic| first | exact seq_tup | exact seq_lst | exact seq_ref (by assumption))
local macro_rules | `(tactic| walk_at "size") => `(tactic| first | (show _ ≤ sizeLine; simp only [List.length_cons, List.length_nil]; decide) | (rw [sizeLine_eq]; omega))
local macro_rules | `(tactic| walk_at "ev") => `(tactic| first
  | exact DL.Ev.c
  | exact DL.Ev.var rfl
  | (refine' DL.Ev.int ?a ?b; (case' a => walk_at "ev"); (case' b => walk_at "ev"))
  | (refine' DL.Ev.intC ?a ?b ?s; (case' a => walk_at "ev"); (case' b => walk_at "ev"); (case' s => try walk_at "side"))
  | (refine' DL.Ev.add ?a ?b; (case' a => walk_at "ev"); (case' b => walk_at "ev"))
  | (refine' DL.Ev.neg ?a; (case' a => walk_at "ev"))
  | (refine' DL.Ev.intOf ?a; (case' a => walk_at "ev"))
  | (refine' DL.Ev.intB ?a; (case' a => walk_at "ev"))
  | (refine' DL.Ev.absN ?a; (case' a => walk_at "ev"))
  | (refine' DL.Ev.eqI ?a ?b; (case' a => walk_at "ev"); (case' b => walk_at "ev"))
  | (refine' DL.Ev.neI ?a ?b; (case' a => walk_at "ev"); (case' b => walk_at "ev"))
  | (refine' DL.Ev.at ?a ?b ?s ?k; (case' a => walk_at "ev"); (case' b => walk_at "ev"); (case' s => walk_at "seq"); (case' k => try rfl))
  | (refine' DL.Ev.len ?a ?s; (case' a => walk_at "ev"); (case' s => walk_at "seq"))
  | (refine' DL.Ev.tupOf ?a ?s; (case' a => walk_at "ev"); (case' s => walk_at "seq"))
  | (refine' DL.Ev.tup ?a ?z; (case' a => walk_at "eva"); (case' z => try walk_at "size"))
  | (refine' DL.Ev.lst ?a ?z; (case' a => walk_at "eva"); (case' z => try walk_at "size"))
  | (refine' DL.Ev.notV ?a; (case' a => walk_at "ev"))
  | (refine' DL.Ev.isN ?a; (case' a => walk_at "ev"))
  | exact fun R r => r
  | assumption)
local macro_rules | `(tactic| walk_at "set") => `(tactic| (refine' ds_set ?e ?_; (case' e => walk_at "ev")))
local macro_rules | `(tactic| walk_at "ret") => `(tactic| (refine' ds_ret ?e ?_; (case' e => walk_at "ev")))
local macro_rules | `(tactic| walk_at "par") => `(tactic| (refine' ds_par ?e ?f ?_; (case' e => walk_at "ev"); (case' f => walk_at "ev")))
local macro_rules | `(tactic| walk_at "cut") => `(tactic| (simp only [DL.cutD, HT.sIx, List.length_cons, List.length_nil, Nat.zero_add, Nat.reduceAdd, Nat.min_def, Nat.reduceLeDiff, ↓reduceIte, List.drop_zero, List.drop_succ_cons, List.take_zero, List.take_succ_cons, List.take_nil, List.drop_nil, List.cons_append, List.nil_append, Int.reduceLT, Int.reduceToNat, Nat.reduceSub, Nat.sub_zero, Int.reduceNeg, Int.cast_ofNat_Int, Int.reduceAdd]; exact rfl))
local macro_rules | `(tactic| walk_at "xu") => `(tactic| first
  | with_reducible refine' DL.Y.ixS0 ?_
  | with_reducible refine' DL.Y.ixS1 ?_
  | with_reducible refine' DL.Y.ixS2 ?_
  | with_reducible refine' DL.Y.ixP0 ?_
  | with_reducible refine' DL.Y.ixP1 ?_
  | with_reducible refine' DL.Y.lstS ?_
  | with_reducible refine' DL.Y.lstP ?_)
local macro_rules | `(tactic| walk_at "dec") => `(tactic| first | rfl | assumption | exact decide_eq_true (by omega) | exact decide_eq_false (by omega) | exact DL.Y.ndT (by omega) | exact DL.Y.ndF (by omega) | decide +kernel)
local macro_rules | `(tactic| walk_at "size2") => `(tactic| first | exact Nat.le_of_ble_eq_true rfl | omega)
local macro_rules | `(tactic| walk_at "x0") => `(tactic| first
  | with_reducible refine' DL.Y.cons ?_
  | ((with_reducible refine' DL.Y.var ?e ?_); (case' e => (first | exact rfl | assumption)))
  | with_reducible refine' DL.Y.c ?_
  | with_reducible refine' DL.Y.nil ?_
  | with_reducible refine' DL.Y.op ?_
  | with_reducible refine' DL.Y.oint ?_
  | ((with_reducible refine' DL.Y.ointC ?s ?_); (case' s => try walk_at "side"))
  | with_reducible refine' DL.Y.oadd ?_
  | with_reducible refine' DL.Y.oeqI ?_
  | with_reducible refine' DL.Y.oneI ?_
  | with_reducible refine' DL.Y.oeqS ?_
  | with_reducible refine' DL.Y.neS ?_
  | with_reducible refine' DL.Y.oneS ?_
  | with_reducible refine' DL.Y.oeqB ?_
  | with_reducible refine' DL.Y.tst ?_
  | with_reducible refine' DL.Y.bl_ ?_
  | ((with_reducible refine' DL.Y.iRng1_ ?z ?_); (case' z => (omega; done)))
  | with_reducible refine' DL.Y.int_ ?_
  | with_reducible refine' DL.Y.str_ ?_
  | with_reducible refine' DL.Y.ref_ ?_
  | ((with_reducible refine' DL.Y.iteT ?h ?_); (case' h => (walk_at "dec"; done)))
  | ((with_reducible refine' DL.Y.iteF ?h ?_); (case' h => (walk_at "dec"; done)))
  | with_reducible refine' DL.Y.seq ?_
  | with_reducible refine' DL.Y.set ?_
  | with_reducible refine' DL.Y.ifS ?_
  | with_reducible refine' DL.Y.ret ?_
  | with_reducible refine' DL.Y.nx ?_
  | with_reducible refine' DL.Y.drop ?_
  | with_reducible refine' DL.Y.asg ?_
  | with_reducible refine' DL.Y.par ?_
  | with_reducible refine' DL.Y.par_ ?_
  | with_reducible refine' DL.Y.par3 ?_
  | with_reducible refine' DL.Y.par3_ ?_
  | with_reducible refine' DL.Y.bk ?_
  | with_reducible refine' DL.Y.ct ?_
  | with_reducible refine' DL.Y.retN ?_
  | with_reducible refine' DL.Y.gn ?_
  | with_reducible refine' DL.Y.gnil ?_
  | with_reducible refine' DL.Y.gcons ?_
  | ((with_reducible refine' DL.Y.gseqT ?e ?_); (case' e => (rfl; done)))
  | ((with_reducible refine' DL.Y.gseqL ?e ?_); (case' e => (rfl; done)))
  | with_reducible refine' DL.Y.tup ?_
  | with_reducible refine' DL.Y.lst ?_
  | ((with_reducible refine' DL.Y.len_ ?n ?l ?_); (case' n => exact rfl); (case' l => try walk_at "size2"))
  | with_reducible refine' DL.Y.ix ?_
  | ((with_reducible refine' DL.Y.ixT ?e ?_); (case' e => ((first | rfl | assumption); done)))
  | ((with_reducible refine' DL.Y.ixL ?e ?_); (case' e => (rfl; done)))
  | ((with_reducible refine' DL.Y.ixR ?g ?e ?_); (case' g => with_reducible assumption); (case' e => (rfl; done)))
  | with_reducible refine' DL.Y.cal ?_
  | with_reducible refine' DL.Y.lenT ?_
  | with_reducible refine' DL.Y.lenL ?_
  | ((with_reducible refine' DL.Y.lenR ?g ?_); (case' g => with_reducible assumption))
  | with_reducible refine' DL.Y.absI ?_
  | with_reducible refine' DL.Y.max2 ?_
  | with_reducible refine' DL.Y.strJoin ?_
  | with_reducible refine' DL.Y.neM ?_
  | with_reducible refine' DL.Y.popAt ?_
  | with_reducible refine' DL.Y.lstRg1 ?_
  | with_reducible refine' DL.Y.lstRg2 ?_
  | with_reducible refine' DL.Y.lstRgM ?_
  | with_reducible refine' DL.Y.intI ?_
  | with_reducible refine' DL.Y.intB ?_
  | with_reducible refine' DL.Y.tupT ?_
  | with_reducible refine' DL.Y.tupL ?_
  | ((with_reducible refine' DL.Y.tupR ?g ?_); (case' g => with_reducible assumption))
  | with_reducible refine' DL.Y.lstT ?_
  | with_reducible refine' DL.Y.lstL ?_
  | with_reducible refine' DL.Y.allL ?_
  | with_reducible refine' DL.Y.anyL ?_
  | ((with_reducible refine' DL.Y.oaddL ?z ?_); (case' z => try walk_at "size2"))
  | ((with_reducible refine' DL.Y.oaddT ?z ?_); (case' z => try walk_at "size2"))
  | with_reducible refine' DL.Y.oisB ?_
  | with_reducible refine' DL.Y.onotB ?_
  | with_reducible refine' DL.Y.neg ?_
  | with_reducible refine' DL.Y.notT ?_
  | with_reducible refine' DL.Y.andT ?_
  | with_reducible refine' DL.Y.orT ?_
  | with_reducible refine' DL.Y.yes ?_
  | with_reducible refine' DL.Y.ifT ?_
  | with_reducible refine' DL.Y.andV ?_
  | with_reducible refine' DL.Y.orV ?_
  | with_reducible refine' DL.Y.notV ?_
  | with_reducible refine' DL.Y.isN ?_
  | with_reducible refine' DL.Y.notN ?_
  | ((with_reducible refine' DL.Y.isi_ ?e ?_); (case' e => (rfl; done)))
  | with_reducible refine' DL.Y.isiT ?_
  | with_reducible refine' DL.Y.chain ?_
  | with_reducible refine' DL.Y.sl ?_
  | with_reducible refine' DL.Y.noP ?_
  | with_reducible refine' DL.Y.part ?_
  | ((with_reducible refine' DL.Y.slLl ?n ?e ?_); (case' n => (rfl; done)); (case' e => walk_at "cut"))
  | ((with_reducible refine' DL.Y.slTl ?n ?m ?e ?_); (case' n => (rfl; done)); (case' m => (simp [HT.sIx]; done)); (case' e => walk_at "cut"))
  | with_reducible refine' DL.Y.slL ?_
  | with_reducible refine' DL.Y.call ?_
  | with_reducible refine' DL.Y.callK ?_
  | with_reducible refine' DL.Y.callD ?_
  | with_reducible refine' DL.Y.fld ?_
  | ((with_reducible refine' DL.Y.fld_ ?f ?e ?_); (case' f => (first | rfl | assumption); done); (case' e => (rfl; done)))
  | with_reducible refine' DL.Y.isW_ ?_
  | with_reducible refine' DL.Y.inK ?_
  | with_reducible refine' DL.Y.iSeq ?_
  | with_reducible refine' DL.Y.iSeqL ?_
  | with_reducible refine' DL.Y.iSeqT ?_
  | with_reducible refine' DL.Y.iRng1 ?_
  | with_reducible refine' DL.Y.iZip ?_
  | with_reducible refine' DL.Y.iZipT ?_
  | with_reducible refine' DL.Y.iZipL ?_
  | with_reducible refine' DL.Y.iZipR ?_
  | with_reducible refine' DL.Y.iZipM ?_
  | with_reducible refine' DL.Y.iEnum ?_
  | with_reducible refine' DL.Y.iEnumT ?_
  | with_reducible refine' DL.Y.iEnumL ?_
  | with_reducible refine' DL.Y.for_ ?_
  | with_reducible refine' DL.Y.cmp ?_
  | with_reducible refine' DL.Y.cmpM ?_
  | with_reducible refine' DL.Y.cmpQ ?_
  | with_reducible refine' DL.Y.isO ?_
  | ((with_reducible refine' DL.Y.isO_ (isO_exc ?c) ?_); (case' c => (decide +kernel; done)))
  | ((with_reducible refine' DL.Y.isO_ ?e ?_); (case' e => (rfl; done)))
  | ((with_reducible refine' DL.Y.isW1 ?e ?_); (case' e => (first | assumption | (rfl; done))))
  | with_reducible refine' DL.Y.xf ?_
  | ((with_reducible refine' DL.Y.xf_ ?c ?e ?_); (case' c => (decide +kernel; done)); (case' e => (first | assumption | (rfl; done))))
  | with_reducible refine' DL.Y.mk ?_
  | with_reducible refine' DL.Y.dctM ?_
  | with_reducible refine' DL.Y.dct0 ?_
  | with_reducible refine' DL.Y.lstM ?_
  | with_reducible refine' DL.Y.rev ?_
  | with_reducible refine' DL.Y.revL ?_
  | with_reducible refine' DL.Y.dget ?_
  | with_reducible refine' DL.Y.dput ?_
  | with_reducible refine' DL.Y.app ?_
  | with_reducible refine' DL.Y.gc ?_
  | with_reducible refine' DL.Y.boolB ?_
  | with_reducible refine' DL.Y.disp ?_
  | with_reducible refine' DL.Y.valsC ?_
  | with_reducible refine' DL.Y.valsN ?_
  | with_reducible refine' DL.Y.ownEq ?_
  | with_reducible refine' DL.Y.cmp2 ?_
  | with_reducible refine' DL.Y.star ?_
  | with_reducible refine' DL.Y.meth ?_
  | with_reducible refine' DL.Y.index ?_
  | with_reducible refine' DL.Y.backT ?_
  | with_reducible refine' DL.Y.iRngV ?_
  | with_reducible refine' DL.Y.rng1_ ?_
  | with_reducible refine' DL.Y.rng2_ ?_
  | with_reducible refine' DL.Y.rngV_ ?_
  | ((with_reducible refine' DL.Y.fld_ ?f ?e ?_); (case' f => ((first | rfl | assumption | decide +kernel); done)); (case' e => (rfl; done)))
  | with_reducible refine' DL.Y.chLe ?_
  | with_reducible refine' DL.Y.chLt ?_
  | with_reducible refine' DL.Y.setF ?_
  | with_reducible refine' DL.Y.lenSet ?_
  | with_reducible refine' DL.Y.inL ?_
  | with_reducible refine' DL.Y.inTp ?_
  | with_reducible refine' DL.Y.slTA ?_
  | with_reducible refine' DL.Y.sortS ?_
  | with_reducible refine' DL.Y.iRng2 ?_
  | ((with_reducible refine' DL.Y.iRng2_ ?z ?_); (case' z => (omega; done)))
  | with_reducible refine' DL.Y.inD ?_
  | with_reducible refine' DL.Y.inD_ ?_
  | with_reducible refine' DL.Y.ixD ?_
  | ((with_reducible refine' DL.Y.mulS ?h ?_); (case' h => (exact ⟨by omega, by omega, by decide⟩)))
  | ((with_reducible refine' DL.Y.mulL ?h ?_); (case' h => (exact ⟨by simp only [List.length_cons, List.length_nil]; omega, by omega, by omega⟩)))
  | with_reducible refine' DL.Y.iStr ?_
  | with_reducible refine' DL.Y.iStr_ ?_
  | with_reducible refine' DL.Y.slS ?_
  | ((with_reducible refine' DL.Y.slS_ ?z ?_); (case' z => assumption))
  | with_reducible refine' DL.Y.split ?_
  | ((with_reducible refine' DL.Y.andZ ?z ?_); (case' z => assumption))
  | ((with_reducible refine' DL.Y.lenStr ?z ?_); (case' z => assumption))
  | walk_at "xu"
  | walk_at "norm")
local macro_rules | `(tactic| walk_at "norm") => `(tactic| (dsimp only [List.set]))
local macro_rules | `(tactic| walk_at "x") => `(tactic| first | walk_at "x0" | with_reducible refine' DL.Y.ifE ?_)
local macro_rules | `(tactic| walk_at "xs") => `(tactic| repeat walk_at "x0")
local macro_rules | `(tactic| walk_at "xx") => `(tactic| repeat walk_at "x")
local macro_rules | `(tactic| walk_at "start") => `(tactic| dsimp only [List.map, List.length_cons, List.length_nil, List.cons_append, List.nil_append, Nat.zero_add, Nat.reduceAdd, Nat.reduceSub, List.reduceReplicate])
namespace DL
open PySem PySem.Spec PyProof.Rows L2 Evl Sup
variable [TabC]
theorem cut_from (t : Str) (k : Nat) : (L2.cutS t (some (k : Int)) none).cps.toList = t.cps.toList.drop k := by
  have hl : t.length = t.cps.toList.length := TL.len_tl t
  show ((t.cps.toList.drop (HT.sIx t.length 0 (some (k : Int)))).take (t.length - HT.sIx t.length 0 (some (k : Int)))) = _
  rw [HT.sIx_nat, List.take_of_length_le (by rw [List.length_drop, ← hl]; exact Nat.le_refl _)]
  by_cases h : k ≤ t.length
  · rw [Nat.min_eq_left h]
  · rw [List.drop_of_length_le (by omega), List.drop_of_length_le (by omega)]
theorem cut_to (t : Str) (k : Nat) : (L2.cutS t none (some (k : Int))).cps.toList = t.cps.toList.take k := by
  have hl : t.length = t.cps.toList.length := TL.len_tl t
  show ((t.cps.toList.drop 0).take (HT.sIx t.length t.length (some (k : Int)) - 0)) = _
  rw [HT.sIx_nat, List.drop_zero, Nat.sub_zero]
  by_cases h : k ≤ t.length
  · rw [Nat.min_eq_left h]
  · rw [List.take_of_length_le (by omega), List.take_of_length_le (by omega)]
def figs (t : Str) : Str := if L2.cutS t none (some 1) = "-" then L2.cutS t (some 1) none else t
def digB (t : Str) : Bool := t.cps.toList.all fun c => decide (c ∈ ("0123456789" : Str).cps.toList)
def badT (t : Str) : Bool := decide (figs t = "") || (decide (140 < (figs t).length) || !digB (figs t))
def leadT (t : Str) : Bool := (figs t).cps.toList.head? == some 48 && !decide (t = "0")
def wholeO (t : Str) : Option Int := if badT t = true then none else if leadT t = true then none else intText? t
def woD : Option Int → D
  | none => .non
  | some n => .int n
theorem minus_iff (t : Str) : L2.cutS t none (some 1) = "-" ↔ ∃ r, t.cps.toList = 45 :: r := by
  have e := cut_to t 1
  constructor
  · intro h
    rw [show ((1 : Nat) : Int) = 1 from rfl, h] at e
    have e2 : ("-" : Str).cps.toList = [45] := by decide +kernel
    rw [e2] at e
    cases hl : t.cps.toList with
    | nil => rw [hl] at e; cases e
    | cons c r =>
      rw [hl] at e
      injection e with e3 _
      exact ⟨r, by rw [e3]⟩
  · rintro ⟨r, h⟩
    refine TL.ext_tl ?_
    have e2 : ("-" : Str).cps.toList = [45] := by decide +kernel
    show (L2.cutS t none (some ((1 : Nat) : Int))).cps.toList = _
    rw [e, h]
    exact e2.symm
theorem figs_minus {t : Str} {r : List Nat} (h : t.cps.toList = 45 :: r) : (figs t).cps.toList = r := by
  unfold figs
  rw [if_pos ((minus_iff t).mpr ⟨r, h⟩)]
  show (L2.cutS t (some ((1 : Nat) : Int)) none).cps.toList = _
  rw [cut_from, h]
  rfl
theorem figs_plain {t : Str} (h : ∀ r, t.cps.toList ≠ 45 :: r) : figs t = t := by
  unfold figs
  rw [if_neg fun z => by
    obtain ⟨r, e⟩ := (minus_iff t).mp z
    exact h r e]
theorem figs_len (t : Str) : (figs t).length ≤ t.length := by
  unfold figs
  split
  · exact L2.cutS_length _ _ _
  · exact Nat.le_refl _
theorem dig_all {t : Str} (h : digB t = true) : NumText.AllDigits t.cps.toList := fun c hc => by
  have := of_decide_eq_true (List.all_eq_true.mp h c hc)
  have e : ("0123456789" : Str).cps.toList = [48, 49, 50, 51, 52, 53, 54, 55, 56, 57] := by decide +kernel
  rw [e] at this
  simp only [List.mem_cons, List.mem_nil_iff, or_false] at this
  omega
theorem all_dig {t : Str} (h : NumText.AllDigits t.cps.toList) : digB t = true := List.all_eq_true.mpr fun c hc => decide_eq_true (by
  have := h c hc
  have e : ("0123456789" : Str).cps.toList = [48, 49, 50, 51, 52, 53, 54, 55, 56, 57] := by decide +kernel
  rw [e]
  simp only [List.mem_cons, List.mem_nil_iff, or_false]
  omega)
theorem fold_lt : ∀ (l : List Nat) (a : Nat), NumText.AllDigits l → l.foldl (fun acc c => acc * 10 + (c - 48)) a < (a + 1) * 10 ^ l.length
  | [], a, _ => by
    rw [List.length_nil, Nat.pow_zero, Nat.mul_one]
    exact Nat.lt_succ_self a
  | c :: r, a, h => by
    have hc := h.head
    have := fold_lt r (a * 10 + (c - 48)) h.tail
    rw [List.foldl_cons, List.length_cons, Nat.pow_succ]
    refine Nat.lt_of_lt_of_le this ?_
    rw [show (a + 1) * (10 ^ r.length * 10) = ((a + 1) * 10) * 10 ^ r.length by rw [Nat.mul_comm (10 ^ r.length) 10, Nat.mul_assoc]]
    exact Nat.mul_le_mul_right _ (by omega)
theorem val_lt {l : List Nat} (h : NumText.AllDigits l) : NumText.digitsVal l < 10 ^ l.length := by
  have := fold_lt l 0 h
  rw [Nat.zero_add, Nat.one_mul] at this
  exact this
theorem nil_of {t : Str} (h : t.cps.toList = []) : t = "" := TL.ext_tl (by rw [show TL.tl t = [] from h]; decide +kernel)
theorem whole_ok {t : Str} (h : badT t = false) : ∃ n, intText? t = some n ∧ n.natAbs < 10 ^ 140 ∧ t.length ≤ 141 := by
  unfold badT at h
  rw [Bool.or_eq_false_iff, Bool.or_eq_false_iff] at h
  obtain ⟨h1, h2, h3⟩ := h
  have hne : figs t ≠ "" := of_decide_eq_false h1
  have hl : (figs t).length ≤ 140 := by have := of_decide_eq_false h2; omega
  have hd : digB (figs t) = true := by cases e : digB (figs t) with
    | true => rfl
    | false => rw [e] at h3; cases h3
  have ad := dig_all hd
  have hn0 : (figs t).cps.toList ≠ [] := fun z => hne (nil_of z)
  by_cases hm : ∃ r, t.cps.toList = 45 :: r
  · obtain ⟨r, er⟩ := hm
    have ef := figs_minus er
    rw [ef] at ad hn0
    have lr : r.length ≤ 140 := by
      have := TL.len_tl (figs t)
      rw [show TL.tl (figs t) = r from ef] at this
      omega
    have lt : t.length = r.length + 1 := by
      have := TL.len_tl t
      rw [show TL.tl t = 45 :: r from er] at this
      exact this
    refine ⟨_, PySem.intText_neg er ad hn0 (by omega), ?_, by omega⟩
    rw [Int.natAbs_neg, Int.natAbs_natCast]
    exact Nat.lt_of_lt_of_le (val_lt ad) (Nat.pow_le_pow_right (by decide) lr)
  · have ef := figs_plain fun r er => hm ⟨r, er⟩
    rw [ef] at ad hn0 hl
    refine ⟨_, PySem.intText_digits ad hn0 (by omega), ?_, by omega⟩
    rw [Int.natAbs_natCast]
    have := TL.len_tl t
    exact Nat.lt_of_lt_of_le (val_lt ad) (Nat.pow_le_pow_right (by decide) (by rw [← this]; exact hl))
theorem wO_lt {t : Str} {n : Int} (h : wholeO t = some n) : n.natAbs < 10 ^ 140 := by
  unfold wholeO at h
  split at h
  · cases h
  · split at h
    · cases h
    · next hb _ =>
      obtain ⟨m, e, hm, _⟩ := whole_ok (Bool.eq_false_iff.mpr hb)
      rw [e] at h
      cases h
      exact hm
theorem head_num : ∀ n : Nat, 0 < n → (TL.numL n).head? ≠ some 48 := by
  intro n
  induction n using Nat.strongRecOn with
  | _ n ih =>
    intro h
    by_cases h10 : n < 10
    · rw [TL.numL_lt h10]
      intro z
      injection z with z
      omega
    · rw [TL.numL_step (by omega), List.head?_append]
      have := ih (n / 10) (by omega) (by omega)
      cases hh : (TL.numL (n / 10)).head? with
      | none => exact absurd (List.head?_eq_none_iff.mp hh) (TL.numL_ne _)
      | some c =>
        rw [hh] at this
        exact this
def nT (i : Int) : Str := Str.ofString (toString i)
theorem tl_int (i : Int) : (nT i).cps.toList = if i < 0 then 45 :: TL.numL i.natAbs else TL.numL i.natAbs := by
  cases i with
  | ofNat n =>
    rw [if_neg (by exact Int.not_lt.mpr (Int.natCast_nonneg n))]
    exact TL.tl_num n
  | negSucc n =>
    rw [if_pos (Int.negSucc_lt_zero n)]
    have e : toString (Int.negSucc n) = "-" ++ toString (((n + 1 : Nat)) : Int) := rfl
    show TL.tl (Str.ofString (toString (Int.negSucc n))) = _
    rw [e, TL.tl_ofString, String.toList_append, List.map_append]
    have := TL.tl_num (n + 1)
    rw [TL.tl_ofString] at this
    rw [this]
    rfl
theorem num_free (i : Int) : 47 ∉ TL.tl (nT i) := by
  show 47 ∉ (nT i).cps.toList
  rw [tl_int]
  have := TL.numL_free (n := i.natAbs) (s := 47) (.inl (by decide))
  split
  · intro z
    rcases List.mem_cons.mp z with z | z
    · cases z
    · exact this z
  · exact this
theorem num_len {i : Int} (h : i.natAbs < 10 ^ 140) : (nT i).length ≤ 141 := by
  rw [TL.len_tl]
  show (nT i).cps.toList.length ≤ _
  rw [tl_int]
  have := TL.numL_len (k := 140) (by decide) h
  split
  · rw [List.length_cons]; omega
  · omega
theorem num_figs (i : Int) : (figs (nT i)).cps.toList = TL.numL i.natAbs := by
  have e := tl_int i
  by_cases h : i < 0
  · rw [if_pos h] at e
    exact figs_minus e
  · rw [if_neg h] at e
    rw [figs_plain fun r er => ?_, e]
    rw [e] at er
    have := TL.numL_digits i.natAbs
    rw [er] at this
    have := this.head
    omega
theorem wO_num {i : Int} (h : i.natAbs < 10 ^ 140) : wholeO (nT i) = some i := by
  have ef := num_figs i
  have ll : (figs (nT i)).length ≤ 140 := by
    rw [TL.len_tl, show TL.tl (figs (nT i)) = TL.numL i.natAbs from ef]
    exact TL.numL_len (k := 140) (by decide) h
  have ad : NumText.AllDigits (figs (nT i)).cps.toList := by rw [ef]; exact TL.numL_digits _
  have hne : figs (nT i) ≠ "" := fun z => by
    rw [z] at ef
    have e0 : ("" : Str).cps.toList = [] := by decide +kernel
    rw [e0] at ef
    exact TL.numL_ne _ ef.symm
  have hb : badT (nT i) = false := by
    unfold badT
    rw [decide_eq_false hne, decide_eq_false (by omega), all_dig ad]
    rfl
  have hd : leadT (nT i) = false := by
    unfold leadT
    rw [ef]
    by_cases h0 : i = 0
    · subst h0
      rw [decide_eq_true (show nT 0 = "0" by decide +kernel)]
      exact Bool.and_false _
    · have := head_num i.natAbs (by omega)
      rw [show ((TL.numL i.natAbs).head? == some 48) = false from beq_eq_false_iff_ne.mpr this]
      rfl
  unfold wholeO
  rw [if_neg (by rw [hb]; decide), if_neg (by rw [hd]; decide)]
  have e := tl_int i
  by_cases hn : i < 0
  · rw [if_pos hn] at e
    rw [PySem.intText_neg e (TL.numL_digits _) (TL.numL_ne _) (by have := num_len h; omega), TL.numL_val]
    congr 1
    omega
  · rw [if_neg hn] at e
    rw [PySem.intText_digits (by rw [e]; exact TL.numL_digits _) (by rw [e]; exact TL.numL_ne _) (by have := num_len h; omega), e, TL.numL_val]
    congr 1
    omega
theorem bar_tl : TL.tl ("/" : Str) = [47] := by decide +kernel
theorem bar_one : ("/" : Str) = ⟨#[47]⟩ := by decide +kernel
def fracP (p q : Str) : D := match wholeO p, wholeO q with
  | some a, some u => if u < 2 then .non else if Int.gcd a u = 1 then .tup [.int a, .int u] else .non
  | _, _ => .non
def fracO (t : Str) : D := match Txt.split t "/" with
  | [] => .non
  | [_] => woD (wholeO t)
  | [p, q] => fracP p q
  | _ :: _ :: _ :: _ => .non
theorem split_join_bar {parts : List Str} (hne : parts ≠ []) (hp : ∀ p ∈ parts, 47 ∉ TL.tl p) : Txt.split (Txt.join "/" parts) "/" = parts := TL.split_join (s := 47) (S := []) bar_tl (by decide +kernel) hne hp
def numTx (q : Qr) : Str := if q.den = 1 then nT q.num else nT q.num ++ "/" ++ nT q.den
theorem join_two (a b : Str) : Txt.join "/" [a, b] = a ++ "/" ++ b := by
  rw [TL.join_eq]
  rfl
theorem join_one (a : Str) : Txt.join "/" [a] = a := by
  rw [TL.join_eq]
  rfl
theorem frac_num {q : Qr} (h1 : q.num.natAbs < 10 ^ 140) (h2 : q.den < 10 ^ 140) : fracO (numTx q) = ofQ q := by
  unfold fracO numTx
  by_cases hd : q.den = 1
  · rw [if_pos hd]
    have e : Txt.split (nT q.num) "/" = [nT q.num] := by
      have := split_join_bar (parts := [nT q.num]) (by simp) (fun p hp => by rw [List.mem_singleton.mp hp]; exact num_free _)
      rw [join_one] at this
      exact this
    rw [e]
    show woD (wholeO (nT q.num)) = _
    rw [wO_num h1]
    show D.int q.num = _
    unfold ofQ pairZ
    rw [if_pos (by rw [hd]; rfl)]
  · rw [if_neg hd]
    have e : Txt.split (nT q.num ++ "/" ++ nT q.den) "/" = [nT q.num, nT q.den] := by
      have := split_join_bar (parts := [nT q.num, nT q.den]) (by simp) (fun p hp => by
        simp only [List.mem_cons, List.mem_nil_iff, or_false] at hp
        rcases hp with rfl | rfl <;> exact num_free _)
      rw [join_two] at this
      exact this
    rw [e]
    show fracP _ _ = _
    unfold fracP
    rw [wO_num h1, wO_num (i := (q.den : Int)) (by rw [Int.natAbs_natCast]; exact h2)]
    have d0 := q.den_nz
    have eo : ofQ q = .tup [.int q.num, .int q.den] := by
      unfold ofQ pairZ
      rw [if_neg (by omega)]
    show (if (q.den : Int) < 2 then D.non else if Int.gcd q.num q.den = 1 then D.tup [.int q.num, .int q.den] else .non) = ofQ q
    rw [if_neg (by omega), if_pos (show Int.gcd q.num q.den = 1 from q.reduced), eo]
theorem low_tup {a u : Int} (h : 2 ≤ u) : Int.gcd a u = 1 ↔ ofQ (Rat.divInt a u) = .tup [.int a, .int u] := by
  have hu' : u ≠ 0 := by omega
  obtain ⟨n, d, s0, sl, ea, eu, d0, g1, l1⟩ := lowZ_facts (a := a) hu'
  rw [← low_ofQ hu', l1]
  rw [show sgZ a u = (Int.gcd a u : Int) from if_pos (by omega)] at s0 ea eu
  unfold pairZ
  constructor
  · intro h1
    rw [h1] at ea eu
    have e1 : n = a := by omega
    have e2 : d = u := by omega
    rw [e1, e2, if_neg (by omega)]
  · intro h1
    split at h1
    · cases h1
    · injection h1 with h1
      injection h1 with h2 h3
      injection h3 with h3
      injection h2 with h2
      injection h3 with h3
      rw [h3] at eu
      have : u * ((Int.gcd a u : Int) - 1) = 0 := by rw [Int.mul_sub, Int.mul_one, Int.mul_comm, ← eu]; omega
      rcases Int.mul_eq_zero.mp this with q | q
      · omega
      · omega
theorem frac_shape (t : Str) : fracO t = .non ∨ (∃ n : Int, fracO t = .int n ∧ n.natAbs < 10 ^ 140) ∨ ∃ a u : Int, fracO t = .tup [.int a, .int u] ∧ a.natAbs < 10 ^ 140 ∧ u.natAbs < 10 ^ 140 := by
  unfold fracO
  split
  · exact .inl rfl
  · cases h : wholeO t with
    | none => exact .inl rfl
    | some n => exact .inr (.inl ⟨n, rfl, wO_lt h⟩)
  · next p q _ =>
    unfold fracP
    split
    · next a u h1 h2 =>
      split
      · exact .inl rfl
      · split
        · exact .inr (.inr ⟨a, u, rfl, wO_lt h1, wO_lt h2⟩)
        · exact .inl rfl
    · exact .inl rfl
  · exact .inl rfl
end DL
namespace DL
open PySem PySem.Spec PyProof.Rows L2 Evl Sup
variable [TabC]
theorem zero_ch (c : Nat) : decide ((⟨#[c]⟩ : Str) = "0") = (c == 48) := by
  have e : ("0" : Str) = ⟨#[48]⟩ := by decide +kernel
  rw [e]
  by_cases h : c = 48
  · subst h
    rfl
  · rw [beq_eq_false_iff_ne.mpr h]
    exact decide_eq_false fun z => h (by injection z with z; simpa using z)
theorem fig_char {t : Str} (h : badT t = false) : ∃ c, atI (figs t).cps.toList 0 = some c ∧ leadT t = ((c == 48) && !decide (t = "0")) := by
  unfold badT at h
  rw [Bool.or_eq_false_iff] at h
  have hne : figs t ≠ "" := of_decide_eq_false h.1
  cases e : (figs t).cps.toList with
  | nil => exact absurd (nil_of e) hne
  | cons c r =>
    refine ⟨c, L2.atI_nat (xs := c :: r) (j := 0) (v := c) rfl, ?_⟩
    unfold leadT
    rw [e]
    rfl
def sp_wr : DSp := fun xs G R _ => ∃ t : Str, xs = [.str t] ∧ t.length ≤ 100000 ∧ PyData.strOk t = true ∧ R (woD (wholeO t)) G
def writtenR : DS := (dSeq (dSet 1 (dIf (dTst (dOp fEq (dSlS (dVar 0) dNoP (dPart (dC (.int 1)))) (dC (.str "-")))) (dSlS (dVar 0) (dPart (dC (.int 1))) dNoP) (dVar 0))) (dSeq (dIfS (dOr (dTst (dOp fEq (dVar 1) (dC (.str "")))) (dOr (dTst (dOp (fInt gGt) (dCal fLen (dCons (dVar 1) dNil)) (dC (.int 140)))) (dNot (dTst (dCal fAll (dCons (dCmp (dIStr (dVar 1)) (gN 2) dYes (dOp (fInC false) (dVar 2) (dC (.str "0123456789"))) [2]) dNil)))))) (dRet (dC .non)) dNext) (dSeq (dIfS (dAnd (dTst (dOp fEq (dIx (dVar 1) (dC (.int 0))) (dC (.str "0")))) (dTst (dOp fNe (dVar 0) (dC (.str "0"))))) (dRet (dC .non)) dNext) (dRet (dCal fIntT (dCons (dVar 0) dNil))))))
theorem written_ok (xs : List D) (G : Gm) (R : KD) (RX : XD) (h : sp_wr xs G R RX) : writtenR { nx := fun _ G => R .non G, rt := R } (xs.map some ++ List.replicate (3 - xs.length) none) G := by
  obtain ⟨t, rfl, hl, hok, h⟩ := h
  have hz : t.length ≤ sizeLine := by rw [sizeLine_eq]; omega
  have hf : (figs t).length ≤ sizeLine := Nat.le_trans (figs_len t) hz
  have hf2 := figs_len t
  unfold writtenR
  walk_at "start"
  walk_at "xs"
  refine DL.Y.bind (P := fun x G2 => x = .str (figs t) ∧ G2 = G) (fun R0 hR => ?_) ?_
  · refine DL.Y.ifE ?_
    walk_at "xx"
    cases hm : decide (L2.cutS t none (some 1) = "-") with
    | true =>
      walk_at "xx"
      exact hR _ _ ⟨by unfold figs; rw [if_pos (of_decide_eq_true hm)], rfl⟩
    | false =>
      walk_at "xx"
      exact hR _ _ ⟨by unfold figs; rw [if_neg (of_decide_eq_false hm)], rfl⟩
  rintro x G2 ⟨rfl, rfl⟩
  unfold wholeO at h
  cases h1 : decide (figs t = "") with
  | true =>
    rw [if_pos (show badT t = true by unfold badT; rw [h1]; rfl)] at h
    walk_at "xx"
    exact h
  | false =>
    walk_at "xx"
    cases h2 : decide (140 < (figs t).length) with
    | true =>
      rw [if_pos (show badT t = true by unfold badT; rw [h2]; exact Bool.or_true _)] at h
      have h2' := of_decide_eq_true h2
      walk_at "xx"
      exact h
    | false =>
      have h2' := of_decide_eq_false h2
      walk_at "xx"
      refine DL.Y.cmpB (figs t).cps.toList chD (fun c => D.bl (decide (c ∈ ("0123456789" : Str).cps.toList))) rfl (by have := TL.len_tl (figs t); show (TL.tl (figs t)).length ≤ _; omega) (fun c hc S1 k1 => ?_) (fun x N N' hh => DL.Y.gn_mono x _ N N' hh) ?_
      · walk_at "xx"
        refine DL.Y.inC ?_
        rw [Bool.false_bne]
        exact k1
      rw [show (figs t).cps.toList.map (fun c => D.bl (decide (c ∈ ("0123456789" : Str).cps.toList))) = ((figs t).cps.toList.map fun c => decide (c ∈ ("0123456789" : Str).cps.toList)).map D.bl by rw [List.map_map]; rfl]
      walk_at "xx"
      have ed : ((figs t).cps.toList.map fun c => decide (c ∈ ("0123456789" : Str).cps.toList)).all id = digB (figs t) := by
        rw [List.all_map]; rfl
      rw [ed]
      cases h3 : digB (figs t) with
      | false =>
        rw [if_pos (show badT t = true by unfold badT; rw [h1, h2, h3]; rfl)] at h
        walk_at "xx"
        exact h
      | true =>
        have hb : badT t = false := by unfold badT; rw [h1, h2, h3]; rfl
        rw [if_neg (by rw [hb]; decide)] at h
        obtain ⟨c, ec, el⟩ := fig_char hb
        obtain ⟨n, en, -, l141⟩ := whole_ok hb
        walk_at "xx"
        refine DL.Y.ixStr hf ec ?_
        walk_at "xx"
        rw [zero_ch]
        cases h4 : (c == 48) with
        | false =>
          rw [if_neg (by rw [el, h4]; exact Bool.false_ne_true), en] at h
          walk_at "xx"
          refine DL.Y.intT en (by omega) ?_
          exact h
        | true =>
          walk_at "xx"
          cases h5 : decide (t = "0") with
          | true =>
            rw [if_neg (by rw [el, h4, h5]; decide), en] at h
            walk_at "xx"
            refine DL.Y.intT en (by omega) ?_
            exact h
          | false =>
            rw [if_pos (by rw [el, h4, h5]; rfl)] at h
            walk_at "xx"
            exact h
theorem chs_all : ∀ l : List Nat, (∀ c ∈ l, c < 0x110000) → D.layL (l.map chD) = true ∧ D.plnL (l.map chD) = true ∧ D.dpL (l.map chD) ≤ 0
  | [], _ => ⟨rfl, rfl, Nat.le_refl _⟩
  | c :: l, h => by
    obtain ⟨h1, h2, h3⟩ := chs_all l fun d hd => h d (List.mem_cons_of_mem _ hd)
    refine ⟨?_, ?_, ?_⟩
    · show (PyData.strOk ⟨#[c]⟩ && D.layL (l.map chD)) = true
      rw [h1, show PyData.strOk ⟨#[c]⟩ = true from by
        unfold PyData.strOk
        rw [Array.all_eq_true']
        intro d hd
        have : d = c := by simpa using hd
        rw [this]
        exact decide_eq_true (h c List.mem_cons_self)]
      rfl
    · show (true && D.plnL (l.map chD)) = true
      rw [h2]; rfl
    · show max 0 (D.dpL (l.map chD)) ≤ 0
      omega
theorem ok_mem {t : Str} (h : PyData.strOk t = true) : ∀ c ∈ t.cps.toList, c < 0x110000 := fun c hc => by
  unfold PyData.strOk at h
  rw [Array.all_eq_true'] at h
  exact of_decide_eq_true (h c (Array.mem_toList_iff.mp hc))
theorem mem_ok {t : Str} (h : ∀ c ∈ t.cps.toList, c < 0x110000) : PyData.strOk t = true := by
  unfold PyData.strOk
  rw [Array.all_eq_true']
  exact fun c hc => decide_eq_true (h c (Array.mem_toList_iff.mpr hc))
theorem figs_mem {t : Str} {c : Nat} (h : c ∈ (figs t).cps.toList) : c ∈ t.cps.toList := by
  unfold figs at h
  split at h
  · have := cut_from t 1
    rw [show (L2.cutS t (some 1) none).cps.toList = t.cps.toList.drop 1 from this] at h
    exact List.mem_of_mem_drop h
  · exact h
theorem Y.neChs {l : List Nat} {Q : D → Prop} (ho : ∀ c ∈ l, c < 0x110000) (h : Q (.bl (!l.isEmpty))) : ∃ z, fNe (.lst (l.map chD)) (.lst []) z ∧ Q z := by
  obtain ⟨h1, h2, h3⟩ := chs_all l ho
  have hc : Cmp (.lst (l.map chD)) := ⟨h1, by show D.dpL (l.map chD) + 1 ≤ 60; omega⟩
  refine ⟨_, fne_cmp hc fn_nil.cmp (fun _ e => by cases e) (fun _ e => by cases e) (fun _ e => by cases e), ?_⟩
  cases e : D.eqv (.lst (l.map chD)) (.lst []) with
  | true =>
    have := (eqv_iff (x := .lst (l.map chD)) h2 fn_nil.pln).mp e
    injection this with this
    rw [List.map_eq_nil_iff] at this
    subst this
    exact h
  | false =>
    cases l with
    | nil => rw [show ([] : List Nat).map chD = [] from rfl, (eqv_iff fn_nil.pln fn_nil.pln).mpr rfl] at e; cases e
    | cons x xs => exact h
def lwholeR : DS := (dSeq (dSet 1 (dIf (dTst (dOp fEq (dSlS (dVar 0) dNoP (dPart (dC (.int 1)))) (dC (.str "-")))) (dSlS (dVar 0) (dPart (dC (.int 1))) dNoP) (dVar 0))) (dSeq (dIfS (dOr (dTst (dOp fEq (dVar 1) (dC (.str "")))) (dOr (dTst (dOp (fInt gGt) (dCal fLen (dCons (dVar 1) dNil)) (dC (.int 140)))) (dTst (dOp fNe (dCmp (dIStr (dVar 1)) (gN 2) (dTst (dOp (fInC true) (dVar 2) (dC (.str "0123456789")))) (dVar 2) [2]) (dLst dNil))))) (dRet (dC .non)) dNext) (dRet (dIf (dOr (dTst (dOp fNe (dIx (dVar 1) (dC (.int 0))) (dC (.str "0")))) (dTst (dOp fEq (dVar 0) (dC (.str "0"))))) (dCal fIntT (dCons (dVar 0) dNil)) (dC .non)))))
theorem lwhole_ok (xs : List D) (G : Gm) (R : KD) (RX : XD) (h : sp_wr xs G R RX) : lwholeR { nx := fun _ G => R .non G, rt := R } (xs.map some ++ List.replicate (3 - xs.length) none) G := by
  obtain ⟨t, rfl, hl, hok, h⟩ := h
  have hz : t.length ≤ sizeLine := by rw [sizeLine_eq]; omega
  have hf : (figs t).length ≤ sizeLine := Nat.le_trans (figs_len t) hz
  have hf2 := figs_len t
  unfold lwholeR
  walk_at "start"
  walk_at "xs"
  refine DL.Y.bind (P := fun x G2 => x = .str (figs t) ∧ G2 = G) (fun R0 hR => ?_) ?_
  · refine DL.Y.ifE ?_
    walk_at "xx"
    cases hm : decide (L2.cutS t none (some 1) = "-") with
    | true =>
      walk_at "xx"
      exact hR _ _ ⟨by unfold figs; rw [if_pos (of_decide_eq_true hm)], rfl⟩
    | false =>
      walk_at "xx"
      exact hR _ _ ⟨by unfold figs; rw [if_neg (of_decide_eq_false hm)], rfl⟩
  rintro x G2 ⟨rfl, rfl⟩
  unfold wholeO at h
  cases h1 : decide (figs t = "") with
  | true =>
    rw [if_pos (show badT t = true by unfold badT; rw [h1]; rfl)] at h
    walk_at "xx"
    exact h
  | false =>
    walk_at "xx"
    cases h2 : decide (140 < (figs t).length) with
    | true =>
      rw [if_pos (show badT t = true by unfold badT; rw [h2]; exact Bool.or_true _)] at h
      have h2' := of_decide_eq_true h2
      walk_at "xx"
      exact h
    | false =>
      have h2' := of_decide_eq_false h2
      walk_at "xx"
      refine DL.Y.cmpA (figs t).cps.toList chD (fun c => !decide (c ∈ ("0123456789" : Str).cps.toList)) chD rfl (by have := TL.len_tl (figs t); show (TL.tl (figs t)).length ≤ _; omega) (fun c hc S1 T1 k1 k2 => ?_) ?_
      · walk_at "xx"
        refine DL.Y.inC ?_
        rw [Bool.true_bne]
        walk_at "xx"
        cases hc : decide (c ∈ ("0123456789" : Str).cps.toList) with
        | true =>
          walk_at "xx"
          exact k2 (by rw [hc]; rfl)
        | false =>
          walk_at "xx"
          exact k1 (by rw [hc]; rfl)
      have ee : ((figs t).cps.toList.filter fun c => !decide (c ∈ ("0123456789" : Str).cps.toList)).isEmpty = digB (figs t) := by
        rw [Bool.eq_iff_iff, List.isEmpty_iff, List.filter_eq_nil_iff]
        unfold digB
        rw [List.all_eq_true]
        constructor
        · intro hh c hc
          have := hh c hc
          cases hd : decide (c ∈ ("0123456789" : Str).cps.toList) with
          | true => rfl
          | false => rw [hd] at this; exact absurd rfl this
        · intro hh c hc
          rw [hh c hc]
          decide
      walk_at "xx"
      refine DL.Y.neChs (fun c hc => ok_mem hok c (figs_mem (List.mem_filter.mp hc).1)) ?_
      rw [ee]
      cases h3 : digB (figs t) with
      | false =>
        rw [if_pos (show badT t = true by unfold badT; rw [h1, h2, h3]; rfl)] at h
        walk_at "xx"
        exact h
      | true =>
        have hb : badT t = false := by unfold badT; rw [h1, h2, h3]; rfl
        rw [if_neg (by rw [hb]; decide)] at h
        obtain ⟨c, ec, el⟩ := fig_char hb
        obtain ⟨n, en, -, l141⟩ := whole_ok hb
        walk_at "xx"
        refine DL.Y.ixStr hf ec ?_
        walk_at "xx"
        rw [zero_ch]
        cases h4 : (c == 48) with
        | false =>
          rw [if_neg (by rw [el, h4]; exact Bool.false_ne_true), en] at h
          walk_at "xx"
          refine DL.Y.intT en (by omega) ?_
          exact h
        | true =>
          walk_at "xx"
          cases h5 : decide (t = "0") with
          | true =>
            rw [if_neg (by rw [el, h4, h5]; decide), en] at h
            walk_at "xx"
            refine DL.Y.intT en (by omega) ?_
            exact h
          | false =>
            rw [if_pos (by rw [el, h4, h5]; rfl)] at h
            walk_at "xx"
            exact h
def sp_lowK : DSp := fun xs G R _ => ∃ (a : Int) (u : Nat), xs = [.int a, .int (u : Nat)] ∧ 0 < u ∧ u < 2 ^ 8000 ∧ R (ofQ (Rat.divInt a u)) G
def lowKR : DS := (dSeq (dPar 2 3 (dCons (dCal fAbs (dCons (dVar 0) dNil)) (dCons (dVar 1) dNil))) (dSeq (dWhile (dTst (dOp (fInt gGt) (dVar 3) (dC (.int 0)))) (dPar 2 3 (dCons (dVar 3) (dCons (dOp (fIntC (fun _ j => 0 < j) fun i j => .int (i % j)) (dCal fIntOf (dCons (dVar 2) dNil)) (dVar 3)) dNil)))) (dRet (dIf (dTst (dOp fEq (dOp (fIntC CDivZ fun i j => .int (Int.fdiv i j)) (dVar 1) (dVar 2)) (dC (.int 1)))) (dOp (fIntC CDivZ fun i j => .int (Int.fdiv i j)) (dVar 0) (dVar 2)) (dTup (dCons (dOp (fIntC CDivZ fun i j => .int (Int.fdiv i j)) (dVar 0) (dVar 2)) (dCons (dOp (fIntC CDivZ fun i j => .int (Int.fdiv i j)) (dVar 1) (dVar 2)) dNil)))))))
theorem lowK_ok (xs : List D) (G : Gm) (R : KD) (RX : XD) (h : sp_lowK xs G R RX) : lowKR { nx := fun _ G => R .non G, rt := R } (xs.map some ++ List.replicate (4 - xs.length) none) G := by
  obtain ⟨a, u, rfl, hu, hu2, h⟩ := h
  have hu' : (u : Int) ≠ 0 := by omega
  obtain ⟨n, d, s0, sl, ea, eu, d0, g1, l1⟩ := lowZ_facts (a := a) hu'
  rw [← low_ofQ hu', l1] at h
  have sg : sgZ a (u : Int) = (Int.gcd a u : Int) := if_pos (by omega)
  rw [sg] at s0 sl ea eu
  have cz : ∀ i, CDivZ i (Int.gcd a u : Int) := fun i => divZ_ok s0 (Nat.lt_of_le_of_lt sl (by rw [Int.natAbs_natCast]; exact hu2))
  unfold lowKR
  refine ds_par (.absN (.var rfl)) (.var rfl) ?_
  refine while_gcd2 (p := a.natAbs) (q := u) (by decide) (fun ρ G p h => .intOf (.var h)) rfl rfl fun ρ' r2 ho => ?_
  have r0 : ρ'[0]? = some (some (.int a)) := ho 0 (by decide) (by decide)
  have r1 : ρ'[1]? = some (some (.int (u : Int))) := ho 1 (by decide) (by decide)
  have eg' : ((Nat.gcd a.natAbs u : Nat) : Int) = (Int.gcd a u : Int) := rfl
  rw [eg'] at r2
  generalize (Int.gcd a u : Int) = g at *
  unfold pairZ at h
  by_cases hd : d = 1
  · rw [if_pos hd] at h
    exact ds_ret (.ifT ((EvT.tst (.eqI (.divZ (.var r1) (.var r2) (cz _) eu) .c)).cast (decide_eq_true hd)) (.divZ (.var r0) (.var r2) (cz _) ea)) h
  · rw [if_neg hd] at h
    exact ds_ret (.ifF ((EvT.tst (.eqI (.divZ (.var r1) (.var r2) (cz _) eu) .c)).cast (decide_eq_false hd)) (.tup (.cons (.divZ (.var r0) (.var r2) (cz _) ea) (.cons (.divZ (.var r1) (.var r2) (cz _) eu) .nil)) (by rw [sizeLine_eq]; exact Nat.le_of_ble_eq_true rfl))) h
def sp_frT : DSp := fun xs G R _ => ∃ t : Str, xs = [.str t] ∧ t.length ≤ 10000 ∧ PyData.strOk t = true ∧ R (fracO t) G
theorem spl1 : ∀ (l acc : List Nat), 47 ∉ acc → TL.spl [47] 0 acc l ≠ [] ∧ TL.joinL [47] (TL.spl [47] 0 acc l) = acc ++ l ∧ (∀ p ∈ TL.spl [47] 0 acc l, 47 ∉ p ∧ p.length ≤ acc.length + l.length) ∧ (TL.spl [47] 0 acc l).length ≤ l.length + 1
  | [], acc, ha => by
    have e : TL.spl [47] 0 acc [] = [acc] := rfl
    rw [e]
    exact ⟨by simp, by simp [TL.joinL], fun p hp => by rw [List.mem_singleton.mp hp]; exact ⟨ha, Nat.le_refl _⟩, Nat.le_refl _⟩
  | c :: r, acc, ha => by
    by_cases hc : c = 47
    · subst hc
      have e : TL.spl [47] 0 acc (47 :: r) = acc :: TL.spl [47] 0 [] r := rfl
      obtain ⟨h1, h2, h3, h4⟩ := spl1 r [] (by simp)
      rw [e]
      refine ⟨by simp, ?_, fun p hp => ?_, by rw [List.length_cons, List.length_cons]; omega⟩
      · cases hh : TL.spl [47] 0 [] r with
        | nil => exact absurd hh h1
        | cons q qs =>
          rw [hh] at h2
          show acc ++ ([47] ++ TL.joinL [47] (q :: qs)) = _
          rw [h2]
          rfl
      · rcases List.mem_cons.mp hp with rfl | hp
        · exact ⟨ha, Nat.le_add_right _ _⟩
        · obtain ⟨a1, a2⟩ := h3 p hp
          exact ⟨a1, by rw [List.length_nil] at a2; rw [List.length_cons]; omega⟩
    · have e : TL.spl [47] 0 acc (c :: r) = TL.spl [47] 0 (acc ++ [c]) r := by
        show (if TL.pre [47] (c :: r) = true then _ else _) = _
        rw [if_neg]
        intro z
        have : [c] = [47] := eq_of_beq z
        injection this with this
        exact hc this
      obtain ⟨h1, h2, h3, h4⟩ := spl1 r (acc ++ [c]) (by
        intro z
        rcases List.mem_append.mp z with z | z
        · exact ha z
        · exact hc (List.mem_singleton.mp z).symm)
      rw [e]
      refine ⟨h1, by rw [h2, List.append_assoc]; rfl, fun p hp => ?_, by rw [List.length_cons]; omega⟩
      obtain ⟨a1, a2⟩ := h3 p hp
      exact ⟨a1, by rw [List.length_append, List.length_singleton] at a2; rw [List.length_cons]; omega⟩
theorem split_map (t : Str) : (Txt.split t "/").map TL.tl = TL.spl [47] 0 [] (TL.tl t) := by
  have := TL.split_spl t "/" (by rw [bar_tl]; simp) (TL.kind_ok (by decide +kernel))
  rw [bar_tl] at this
  exact this
theorem split_ne (t : Str) : Txt.split t "/" ≠ [] := fun z => by
  have := split_map t
  rw [z] at this
  exact (spl1 (TL.tl t) [] (by simp)).1 this.symm
theorem split_back (t : Str) : Txt.join "/" (Txt.split t "/") = t := TL.ext_tl (by
  rw [TL.join_eq, TL.tl_join, bar_tl, split_map, (spl1 (TL.tl t) [] (by simp)).2.1]
  rfl)
theorem split_free (t : Str) : ∀ p ∈ Txt.split t "/", 47 ∉ TL.tl p := fun p hp => ((spl1 (TL.tl t) [] (by simp)).2.2.1 (TL.tl p) (by rw [← split_map]; exact List.mem_map_of_mem hp)).1
theorem split_lens (t : Str) : ∀ p ∈ Txt.split t "/", p.length ≤ t.length := fun p hp => by
  have := ((spl1 (TL.tl t) [] (by simp)).2.2.1 (TL.tl p) (by rw [← split_map]; exact List.mem_map_of_mem hp)).2
  rw [List.length_nil, Nat.zero_add] at this
  rw [TL.len_tl, TL.len_tl]
  exact this
theorem split_many (t : Str) : (Txt.split t "/").length ≤ t.length + 1 := by
  have := (spl1 (TL.tl t) [] (by simp)).2.2.2
  rw [← split_map, List.length_map] at this
  rw [TL.len_tl t]
  exact this
theorem spl2 : ∀ (l acc : List Nat), ∀ p ∈ TL.spl [47] 0 acc l, ∀ c ∈ p, c ∈ acc ∨ c ∈ l
  | [], acc, p, hp, c, hc => by
    have e : TL.spl [47] 0 acc [] = [acc] := rfl
    rw [e] at hp
    rw [List.mem_singleton.mp hp] at hc
    exact .inl hc
  | d :: r, acc, p, hp, c, hc => by
    have e : TL.spl [47] 0 acc (d :: r) = if TL.pre [47] (d :: r) = true then acc :: TL.spl [47] 0 [] r else TL.spl [47] 0 (acc ++ [d]) r := rfl
    rw [e] at hp
    split at hp
    · rcases List.mem_cons.mp hp with rfl | hp
      · exact .inl hc
      · rcases spl2 r [] p hp c hc with z | z
        · cases z
        · exact .inr (List.mem_cons_of_mem _ z)
    · rcases spl2 r (acc ++ [d]) p hp c hc with z | z
      · rcases List.mem_append.mp z with z | z
        · exact .inl z
        · exact .inr (List.mem_singleton.mp z ▸ List.mem_cons_self)
      · exact .inr (List.mem_cons_of_mem _ z)
theorem split_ok {t : Str} (h : PyData.strOk t = true) : ∀ p ∈ Txt.split t "/", PyData.strOk p = true := fun p hp => mem_ok fun c hc => by
  rcases spl2 (TL.tl t) [] (TL.tl p) (by rw [← split_map]; exact List.mem_map_of_mem hp) c hc with z | z
  · cases z
  · exact ok_mem h c z
theorem split_no {t : Str} (h : 47 ∉ t.cps.toList) : Txt.split t "/" = [t] := by
  have := split_join_bar (parts := [t]) (by simp) (fun p hp => by rw [List.mem_singleton.mp hp]; exact h)
  rw [join_one] at this
  exact this
theorem p140 : (10 : Nat) ^ 140 < 2 ^ 470 := by decide +kernel
theorem Y.eqLow {a u : Int} {Q : D → Prop} (ha : a.natAbs < 10 ^ 140) (hu : u.natAbs < 10 ^ 140) (h2 : 2 ≤ u) (h : Q (.bl (decide (Int.gcd a u = 1)))) : ∃ z, fEq (ofQ (Rat.divInt a u)) (.tup [.int a, .int u]) z ∧ Q z := by
  have l := low_le (a := a) (u := u) (by omega)
  have q : Qb 470 (Rat.divInt a u) := ⟨Nat.lt_of_le_of_lt l.1 (Nat.lt_trans ha p140), Nat.lt_of_le_of_lt l.2 (Nat.lt_trans hu p140)⟩
  have big : (10 : Nat) ^ 140 ≤ 10 ^ 560 := Nat.pow_le_pow_right (by decide) (by decide)
  have ft := (fn_seq (d := 0) (s := 1) (n := 2) (xs := [.int a, .int u]) (fun x hx => by
    simp only [List.mem_cons, List.mem_nil_iff, or_false] at hx
    rcases hx with rfl | rfl
    · exact fn_int (Nat.lt_of_lt_of_le ha big)
    · exact fn_int (Nat.lt_of_lt_of_le hu big)) (Nat.le_refl _)).1
  exact DL.Y.eqF (G := fun _ => none) (fn_q q) ft (by rw [decide_eq_true_iff]; exact low_tup h2) h
theorem Y.inBar {n : Bool} {t : Str} {Q : D → Prop} (h : Q (.bl (n != decide (47 ∈ t.cps.toList)))) : ∃ z, fInC n (.str "/") (.str t) z ∧ Q z := ⟨_, ⟨47, t, by rw [bar_one], rfl, rfl⟩, h⟩
theorem cut_two {a b : D} {r : List D} : cutD (a :: b :: r) none (some 2) = [a, b] := by
  unfold cutD
  have e : HT.sIx (a :: b :: r).length (a :: b :: r).length (some 2) = 2 := by
    rw [show ((2 : Int)) = ((2 : Nat) : Int) from rfl, HT.sIx_nat, List.length_cons, List.length_cons]
    omega
  rw [e]
  rfl
def lreadR : DS := (dSeq (dSet 1 (dSplit (dVar 0) (dC (.str "/")))) (dSeq (dIfS (dTst (dOp fEq (dCal fLen (dCons (dVar 1) dNil)) (dC (.int 1)))) (dRet (dCall sp_wr X0 (dCons (dVar 0) dNil))) dNext) (dSeq (dPar 2 3 (dCons (dCall sp_wr X0 (dCons (dIx (dVar 1) (dC (.int 0))) dNil)) (dCons (dCall sp_wr X0 (dCons (dIx (dVar 1) (dC (.int 1))) dNil)) dNil))) (dSeq (dIfS (dOr (dTst (dOp (fInt gGt) (dCal fLen (dCons (dVar 1) dNil)) (dC (.int 2)))) (dOr (dTst (dIsN (dVar 2))) (dOr (dTst (dIsN (dVar 3))) (dTst (dOp (fInt gLt) (dVar 3) (dC (.int 2))))))) (dRet (dC .non)) dNext) (dRet (dIf (dTst (dOp fEq (dCall sp_lowK X0 (dCons (dVar 2) (dCons (dVar 3) dNil))) (dTup (dCons (dVar 2) (dCons (dVar 3) dNil))))) (dTup (dCons (dVar 2) (dCons (dVar 3) dNil))) (dC .non)))))))
theorem lread_ok (xs : List D) (G : Gm) (R : KD) (RX : XD) (h : sp_frT xs G R RX) : lreadR { nx := fun _ G => R .non G, rt := R } (xs.map some ++ List.replicate (4 - xs.length) none) G := by
  obtain ⟨t, rfl, hl, hok, h⟩ := h
  have hz : t.length + 2 ≤ sizeLine := by rw [sizeLine_eq]; omega
  have hb : (("/" : Str).length == 0) = false := by decide +kernel
  have sl := split_lens t
  have so := split_ok hok
  have sn := split_ne t
  have sm := split_many t
  unfold lreadR
  walk_at "start"
  walk_at "xx"
  refine ⟨hb, hz, ?_⟩
  unfold fracO at h
  generalize Txt.split t "/" = ps at h sl so sn sm ⊢
  match ps, h, sl, so, sn, sm with
  | [], h, sl, so, sn, sm => exact absurd rfl sn
  | [p], h, sl, so, sn, sm =>
    walk_at "xx"
    exact ⟨t, rfl, by omega, hok, h⟩
  | [p, q], h, sl, so, sn, sm =>
    have lp := sl p (by simp)
    have lq := sl q (by simp)
    walk_at "xx"
    refine ⟨p, rfl, by omega, so p (by simp), ?_⟩
    walk_at "xx"
    refine ⟨q, rfl, by omega, so q (by simp), ?_⟩
    have h : R (fracP p q) G := h
    unfold fracP at h
    cases wp : wholeO p with
    | none =>
      rw [wp] at h
      dsimp only [woD]
      walk_at "xx"
      exact h
    | some a =>
      cases wq : wholeO q with
      | none =>
        rw [wp, wq] at h
        dsimp only [woD]
        walk_at "xx"
        exact h
      | some u =>
        have ba := wO_lt wp
        have bu := wO_lt wq
        rw [wp, wq] at h
        dsimp only [woD] at h ⊢
        by_cases u2 : u < 2
        · rw [if_pos u2] at h
          walk_at "xx"
          exact h
        · rw [if_neg u2] at h
          walk_at "xx"
          refine ⟨a, u.toNat, by rw [show ((u.toNat : Nat) : Int) = u by omega], by omega, Nat.lt_of_lt_of_le (show u.toNat < 10 ^ 140 by omega) (Nat.le_trans (Nat.le_of_lt p140) (Nat.pow_le_pow_right (by decide) (by decide))), ?_⟩
          rw [show ((u.toNat : Nat) : Int) = u by omega]
          walk_at "xx"
          refine DL.Y.eqLow ba bu (by omega) ?_
          by_cases hg : Int.gcd a u = 1
          · rw [if_pos hg] at h
            walk_at "xx"
            exact h
          · rw [if_neg hg] at h
            walk_at "xx"
            exact h
  | p :: q :: r :: rs, h, sl, so, sn, sm =>
    have lp := sl p (by simp)
    have lq := sl q (by simp)
    have em : List.map D.str (p :: q :: r :: rs) = D.str p :: D.str q :: D.str r :: rs.map D.str := rfl
    rw [em]
    rw [List.length_cons, List.length_cons, List.length_cons] at sm
    walk_at "xx"
    refine DL.Y.ixL (z := .str p) (show atI (D.str p :: D.str q :: D.str r :: rs.map D.str) ((0 : Nat) : Int) = some (.str p) from L2.atI_nat rfl) ?_
    walk_at "xx"
    refine ⟨p, rfl, by omega, so p (by simp), ?_⟩
    walk_at "xx"
    refine DL.Y.ixL (z := .str q) (show atI (D.str p :: D.str q :: D.str r :: rs.map D.str) ((1 : Nat) : Int) = some (.str q) from L2.atI_nat rfl) ?_
    walk_at "xx"
    refine ⟨q, rfl, by omega, so q (by simp), ?_⟩
    walk_at "xx"
    rw [show decide ((2 : Int) < ((D.str p :: D.str q :: D.str r :: List.map D.str rs).length : Nat)) = true from decide_eq_true (by simp only [List.length_cons]; omega)]
    walk_at "xx"
    exact h
def wfracR : DS := (dSeq (dIfS (dTst (dOp (fInC true) (dC (.str "/")) (dVar 0))) (dRet (dCall sp_wr X0 (dCons (dVar 0) dNil))) dNext) (dSeq (dAsg (dSl (dSplit (dVar 0) (dC (.str "/"))) dNoP (dPart (dC (.int 2)))) (gSeq 2 (gCons (gN 1) (gCons (gN 2) gNil)))) (dSeq (dPar 3 4 (dCons (dCall sp_wr X0 (dCons (dVar 1) dNil)) (dCons (dCall sp_wr X0 (dCons (dVar 2) dNil)) dNil))) (dSeq (dIfS (dOr (dTst (dIsN (dVar 3))) (dOr (dTst (dIsN (dVar 4))) (dOr (dTst (dOp (fInt gLt) (dVar 4) (dC (.int 2)))) (dTst (dOp fNe (dVar 0) (dOp fAdd (dOp fAdd (dVar 1) (dC (.str "/"))) (dVar 2))))))) (dRet (dC .non)) dNext) (dRet (dIf (dTst (dOp fEq (dCall sp_qlow X0 (dCons (dVar 3) (dCons (dVar 4) dNil))) (dTup (dCons (dVar 3) (dCons (dVar 4) dNil))))) (dTup (dCons (dVar 3) (dCons (dVar 4) dNil))) (dC .non)))))))
theorem wfrac_ok (xs : List D) (G : Gm) (R : KD) (RX : XD) (h : sp_frT xs G R RX) : wfracR { nx := fun _ G => R .non G, rt := R } (xs.map some ++ List.replicate (5 - xs.length) none) G := by
  obtain ⟨t, rfl, hl, hok, h⟩ := h
  have hz : t.length + 2 ≤ sizeLine := by rw [sizeLine_eq]; omega
  have hb : (("/" : Str).length == 0) = false := by decide +kernel
  have lb : ("/" : Str).length = 1 := by decide +kernel
  have sl := split_lens t
  have so := split_ok hok
  have sn := split_ne t
  have sb := split_back t
  have sf := split_free t
  have sz := sizeLine_eq
  unfold wfracR
  walk_at "start"
  walk_at "xx"
  refine DL.Y.inBar ?_
  walk_at "xx"
  cases hm : decide (47 ∈ t.cps.toList) with
  | false =>
    unfold fracO at h
    rw [split_no (of_decide_eq_false hm)] at h
    walk_at "xx"
    exact ⟨t, rfl, by omega, hok, h⟩
  | true =>
    walk_at "xx"
    refine ⟨hb, hz, ?_⟩
    unfold fracO at h
    generalize Txt.split t "/" = ps at h sl so sn sb sf ⊢
    match ps, h, sl, so, sn, sb, sf with
    | [], h, sl, so, sn, sb, sf => exact absurd rfl sn
    | [p], h, sl, so, sn, sb, sf =>
      rw [join_one] at sb
      exact absurd (of_decide_eq_true hm) (by rw [← sb]; exact sf p (by simp))
    | p :: q :: rs, h, sl, so, sn, sb, sf =>
      have lp := sl p (by simp)
      have lq := sl q (by simp)
      have hne : decide (t = p ++ "/" ++ q) = rs.isEmpty := by
        cases rs with
        | nil =>
          rw [join_two] at sb
          rw [sb]
          exact decide_eq_true rfl
        | cons r rs =>
          refine decide_eq_false fun z => ?_
          have e1 : Txt.join "/" (p :: q :: r :: rs) = p ++ "/" ++ q ++ "/" ++ Txt.join "/" (r :: rs) := by
            rw [TL.join_eq, TL.join_eq]
            refine TL.ext_tl ?_
            rw [TL.tl_join, TL.tl_append, TL.tl_append, TL.tl_append, TL.tl_append, TL.tl_join, bar_tl]
            simp [TL.joinL]
          rw [e1] at sb
          have := congrArg Str.length (sb.trans z)
          rw [len_app, len_app] at this
          omega
      walk_at "xx"
      rw [show List.map D.str (p :: q :: rs) = D.str p :: D.str q :: List.map D.str rs from rfl, cut_two]
      walk_at "xx"
      refine ⟨p, rfl, by omega, so p (by simp), ?_⟩
      walk_at "xx"
      refine ⟨q, rfl, by omega, so q (by simp), ?_⟩
      have hP : rs.isEmpty = true → R (fracP p q) G := fun e => by
        rw [List.isEmpty_iff] at e
        subst e
        exact h
      have hN : rs.isEmpty = false → R .non G := fun e => by
        cases rs with
        | nil => cases e
        | cons r rs => exact h
      clear h
      unfold fracP at hP
      cases wp : wholeO p with
      | none =>
        rw [wp] at hP
        dsimp only [woD]
        walk_at "xx"
        cases e : rs.isEmpty with
        | true => exact hP e
        | false => exact hN e
      | some a =>
        cases wq : wholeO q with
        | none =>
          rw [wp, wq] at hP
          dsimp only [woD]
          walk_at "xx"
          cases e : rs.isEmpty with
          | true => exact hP e
          | false => exact hN e
        | some u =>
          have ba := wO_lt wp
          have bu := wO_lt wq
          rw [wp, wq] at hP
          dsimp only [woD] at hP ⊢
          by_cases u2 : u < 2
          · rw [if_pos u2] at hP
            walk_at "xx"
            cases e : rs.isEmpty with
            | true => exact hP e
            | false => exact hN e
          · rw [if_neg u2] at hP
            walk_at "xx"
            refine DL.Y.oaddS (by rw [lb]; omega) ?_
            walk_at "xx"
            refine DL.Y.oaddS (by rw [len_app, lb]; omega) ?_
            walk_at "xx"
            rw [hne]
            cases e : rs.isEmpty with
            | false =>
              walk_at "xx"
              exact hN e
            | true =>
              have h := hP e
              walk_at "xx"
              refine ⟨a, u, rfl, by omega, Nat.lt_of_lt_of_le (Nat.lt_trans bu p140) (Nat.pow_le_pow_right (by decide) (by decide)), ?_⟩
              walk_at "xx"
              refine DL.Y.eqLow ba bu (by omega) ?_
              by_cases hg : Int.gcd a u = 1
              · rw [if_pos hg] at h
                walk_at "xx"
                exact h
              · rw [if_neg hg] at h
                walk_at "xx"
                exact h
end DL
namespace DL
open PySem PySem.Spec PyProof.Rows L2 Evl Sup
variable [TabC]
section
variable {ρ : En} {G : Gm} {R : KD} {d : DE} {ds : List DE} {acc : Str} {Q : Str → Gm → Prop}
theorem Y.fst0 (h : dJs ds Str.empty ρ G fun out G1 => R (.str out) G1) : dFst ds ρ G R := h
theorem Y.jsN (h : Q acc G) : dJs [] acc ρ G Q := h
theorem Y.jsC (h : d ρ G fun x G1 => ∃ y : Str, x = .str y ∧ (acc ++ y).length ≤ sizeLine ∧ dJs ds (acc ++ y) ρ G1 Q) : dJs (d :: ds) acc ρ G Q := h
theorem Y.fmt (h : d ρ G fun x G1 => (∃ y : Str, x = .str y ∧ y.length ≤ sizeLine ∧ R (.str y) G1) ∨ ∃ i : Int, x = .int i ∧ i.natAbs.log2 < 1920 ∧ R (.str (toString i)) G1) : dFmt d ρ G R := h
end
theorem log_lt {n k : Nat} (h : n < 2 ^ k) (hk : 0 < k) : n.log2 < k := by
  by_cases h0 : n = 0
  · subst h0
    exact hk
  · exact (Nat.log2_lt h0).mpr h
theorem nT_len {i : Int} (h : i.natAbs < 2 ^ 1400) : (nT i).length ≤ 1000 := by
  rw [TL.len_tl]
  show (nT i).cps.toList.length ≤ _
  rw [tl_int]
  have := TL.numL_len (n := i.natAbs) (k := 422) (by decide) (Nat.lt_trans h (by decide +kernel))
  split
  · rw [List.length_cons]; omega
  · omega
theorem ofQ_one {q : Qr} (h : q.den = 1) : ofQ q = .int q.num := by
  unfold ofQ pairZ
  rw [if_pos (by omega)]
theorem ofQ_two {q : Qr} (h : q.den ≠ 1) : ofQ q = .tup [.int q.num, .int (q.den : Nat)] := by
  unfold ofQ pairZ
  rw [if_neg (by omega)]
def sp_txIn : DSp := fun xs G R _ => ∃ q : Qr, xs = [ofQ q] ∧ Qb 1400 q ∧ R (.str (numTx q)) G
def txInR : DS := (dRet (dIf (dTst (dCall sp_is_integer X0 (dCons (dVar 0) dNil))) (dCal fStrOf (dCons (dVar 0) dNil)) (dFst [(dFmt (dIx (dVar 0) (dC (.int 0)))), (dC (.str "/")), (dFmt (dIx (dVar 0) (dC (.int 1))))])))
theorem txIn_ok (xs : List D) (G : Gm) (R : KD) (RX : XD) (h : sp_txIn xs G R RX) : txInR { nx := fun _ G => R .non G, rt := R } (xs.map some ++ List.replicate (1 - xs.length) none) G := by
  obtain ⟨q, rfl, hq, h⟩ := h
  have lb : ("/" : Str).length = 1 := by decide +kernel
  have sz := sizeLine_eq
  have b1 : q.num.natAbs.log2 < 1920 := Nat.lt_of_lt_of_le (log_lt hq.1 (by decide)) (by decide)
  have b2 : ((q.den : Int)).natAbs.log2 < 1920 := by rw [Int.natAbs_natCast]; exact Nat.lt_of_lt_of_le (log_lt hq.2 (by decide)) (by decide)
  have n1 := nT_len hq.1
  have n2 := nT_len (i := (q.den : Int)) (by rw [Int.natAbs_natCast]; exact hq.2)
  unfold txInR
  walk_at "start"
  by_cases hd : q.den = 1
  · rw [ofQ_one hd]
    unfold numTx at h
    rw [if_pos hd] at h
    walk_at "xx"
    refine ⟨_, rfl, rfl, ?_⟩
    rw [show isIntD (.int q.num) = true from rfl]
    walk_at "xx"
    refine DL.Y.strI b1 ?_
    exact h
  · rw [ofQ_two hd]
    unfold numTx at h
    rw [if_neg hd] at h
    walk_at "xx"
    refine ⟨_, rfl, rfl, ?_⟩
    rw [show isIntD (.tup [.int q.num, .int (q.den : Nat)]) = false from rfl]
    walk_at "xx"
    refine DL.Y.fst0 (DL.Y.jsC (DL.Y.fmt ?_))
    walk_at "xx"
    refine .inr ⟨q.num, rfl, b1, ⟨_, rfl, ?_, DL.Y.jsC ⟨_, rfl, ?_, DL.Y.jsC (DL.Y.fmt ?_)⟩⟩⟩
    · show (Str.empty ++ nT q.num).length ≤ _
      rw [len_app]
      show 0 + _ ≤ _
      omega
    · show (Str.empty ++ nT q.num ++ "/").length ≤ _
      rw [len_app, len_app, lb]
      show 0 + _ + _ ≤ _
      omega
    walk_at "xx"
    refine .inr ⟨(q.den : Int), rfl, b2, ⟨_, rfl, ?_, DL.Y.jsN ?_⟩⟩
    · show (Str.empty ++ nT q.num ++ "/" ++ nT q.den).length ≤ _
      rw [len_app, len_app, len_app, lb]
      show 0 + _ + _ + _ ≤ _
      omega
    rw [show Str.empty ++ Str.ofString (toString q.num) = nT q.num from TL.ext_tl (by rw [TL.tl_append]; rfl)]
    exact h
theorem num_len6 : ("number" : Str).length ≤ 10000 := by decide
def sp_nbText : DSp := fun xs G R RX => ∃ x : D, xs = [x] ∧ x.kn = true ∧ ((∃ q : Qr, numD x = true ∧ keptD x = ofQ q ∧ Qb 1400 q ∧ R (.str (numTx q)) G) ∨ (numD x = false ∧ RX "BadFraction" ["part"] [.str "number"] G))
def nbTextR (RX : XD) : DS := (dRet (dCall sp_txIn X0 (dCons (dCall sp_fracX RX (dCons (dVar 0) (dCons (dC (.str "number")) dNil))) dNil)))
theorem nbText_ok (xs : List D) (G : Gm) (R : KD) (RX : XD) (h : sp_nbText xs G R RX) : nbTextR RX { nx := fun _ G => R .non G, rt := R } (xs.map some ++ List.replicate (1 - xs.length) none) G := by
  obtain ⟨x, rfl, hk, h⟩ := h
  unfold nbTextR
  walk_at "start"
  walk_at "xx"
  refine ⟨x, _, rfl, hk, num_len6, fun hn => ?_, fun hn => ?_⟩
  · rcases h with ⟨q, _, e, hq, r⟩ | ⟨z, _⟩
    · rw [e]
      walk_at "xx"
      exact ⟨q, rfl, hq, r⟩
    · rw [z] at hn
      cases hn
  · rcases h with ⟨q, z, _⟩ | ⟨_, r⟩
    · rw [z] at hn
      cases hn
    · exact r
theorem raise2i {C f g : Str} {RX : XD} {E : DEnds} {ρ : En} {G : Gm} (h : RX C [g, f] [.int 0, .int 0] G) : dRaise C [f, g] [true, true] RX (dCons (dC (.int 0)) (dCons (dC (.int 0)) dNil)) E ρ G := ⟨rfl, fun p hp _ => by
  have h0 : fmtD (.int 0) := Nat.pow_pos (by decide)
  simp only [List.zip_cons_cons, List.zip_nil_right, List.mem_cons, List.mem_nil_iff, or_false] at hp
  rcases hp with rfl | rfl <;> exact h0, h⟩
def NoStr (x : D) : Prop := ∃ ty : String, x.tyn = some ty ∧ isK ty "str" = false
def sp_nbOf : DSp := fun xs G R RX => ∃ x : D, xs = [x] ∧ ((∃ t : Str, x = .str t ∧ t.length ≤ 10000 ∧ PyData.strOk t = true ∧ (fracO t = .non → RX "BadText" ["item", "line"] [.int 0, .int 0] G) ∧ (fracO t ≠ .non → R (fracO t) G)) ∨ (NoStr x ∧ RX "BadText" ["item", "line"] [.int 0, .int 0] G))
def nbOfR (RX : XD) : DS := (dSeq (dSet 1 (dIf (dTst (dCal (fIsi "str") (dCons (dVar 0) (dCons (dC (.ty "str")) dNil)))) (dCall sp_frT X0 (dCons (dVar 0) dNil)) (dC .non))) (dSeq (dIfS (dTst (dIsN (dVar 1))) (dRaise "BadText" ["line", "item"] [true, true] RX (dCons (dC (.int 0)) (dCons (dC (.int 0)) dNil))) dNext) (dRet (dVar 1))))
theorem nbOf_ok (xs : List D) (G : Gm) (R : KD) (RX : XD) (h : sp_nbOf xs G R RX) : nbOfR RX { nx := fun _ G => R .non G, rt := R } (xs.map some ++ List.replicate (2 - xs.length) none) G := by
  obtain ⟨x, rfl, h⟩ := h
  unfold nbOfR
  walk_at "start"
  rcases h with ⟨t, rfl, hl, hok, hn, hy⟩ | ⟨⟨ty, e1, e2⟩, r⟩
  · walk_at "xx"
    refine ⟨t, rfl, hl, hok, ?_⟩
    rcases frac_shape t with e | ⟨n, e, _⟩ | ⟨a, u, e, _⟩
    · have := hn e
      rw [e]
      walk_at "xx"
      exact raise2i this
    · have := hy (by rw [e]; intro z; cases z)
      rw [e] at this ⊢
      walk_at "xx"
      exact this
    · have := hy (by rw [e]; intro z; cases z)
      rw [e] at this ⊢
      walk_at "xx"
      exact this
  · walk_at "xx"
    refine DL.Y.isi_ e1 ?_
    rw [e2]
    walk_at "xx"
    exact raise2i r
theorem ok_app {a b : Str} (ha : PyData.strOk a = true) (hb : PyData.strOk b = true) : PyData.strOk (a ++ b) = true := mem_ok fun c hc => by
  rw [show (a ++ b).cps.toList = a.cps.toList ++ b.cps.toList from TL.tl_append a b] at hc
  rcases List.mem_append.mp hc with z | z
  · exact ok_mem ha c z
  · exact ok_mem hb c z
theorem ok_cut {t : Str} {lo hi : Option Int} (h : PyData.strOk t = true) : PyData.strOk (L2.cutS t lo hi) = true := mem_ok fun c hc => ok_mem h c (List.mem_of_mem_drop (List.mem_of_mem_take hc))
def sp_bentT : DSp := fun xs G R _ => ∃ (a : Addr) (t : Str) (T : Nat), xs = [.ref a, .str t] ∧ t.length ≤ 1000 ∧ PyData.strOk t = true ∧ GauAt G a T ∧ T + 10 ≤ 1000000000 ∧ ∀ (t' : Str) m, t'.length ≤ 2 * t.length + 1 → PyData.strOk t' = true → Gau m (T + 10) → R (.str t') (gup G a m)
def bentTR : DS := (dSeq (dPar 2 3 (dCons (dCall spDial X0 (dCons (dVar 0) (dCons (dOp fAdd (dCal fLen (dCons (dVar 1) dNil)) (dC (.int 1))) dNil))) (dCons (dCall spDial X0 (dCons (dVar 0) (dCons (dC (.int 5)) dNil))) dNil))) (dSeq (dSet 4 (dCall spPick X0 (dCons (dVar 0) (dCons (dLst (dCons (dC (.str "0")) (dCons (dC (.str "1")) (dCons (dC (.str "-")) (dCons (dC (.str "/")) (dCons (dC (.str " ")) (dCons (dC (.str "+")) (dCons (dC (.str "_")) (dCons (dC (.str "2")) (dCons (dC (.str ".")) (dCons (dC (.str "x")) (dCons (dC (.str "")) (dCons (dC (.str "a")) dNil))))))))))))) dNil)))) (dSeq (dIfS (dTst (dOp fEq (dVar 3) (dC (.int 0)))) (dRet (dOp fAdd (dSlS (dVar 1) dNoP (dPart (dVar 2))) (dSlS (dVar 1) (dPart (dOp fAdd (dVar 2) (dC (.int 1)))) dNoP))) dNext) (dSeq (dIfS (dTst (dOp fEq (dVar 3) (dC (.int 1)))) (dRet (dOp fAdd (dOp fAdd (dSlS (dVar 1) dNoP (dPart (dVar 2))) (dVar 4)) (dSlS (dVar 1) (dPart (dOp fAdd (dVar 2) (dC (.int 1)))) dNoP))) dNext) (dRet (dIf (dTst (dOp (fInt gLt) (dVar 3) (dC (.int 4)))) (dOp fAdd (dOp fAdd (dSlS (dVar 1) dNoP (dPart (dVar 2))) (dVar 4)) (dSlS (dVar 1) (dPart (dVar 2)) dNoP)) (dOp fAdd (dVar 1) (dSlS (dVar 1) (dPart (dVar 2)) dNoP))))))))
theorem bentT_ok (xs : List D) (G : Gm) (R : KD) (RX : XD) (h : sp_bentT xs G R RX) : bentTR { nx := fun _ G => R .non G, rt := R } (xs.map some ++ List.replicate (5 - xs.length) none) G := by
  obtain ⟨a, t, T, rfl, hl, hok, ⟨m, eg, hm⟩, hT, h⟩ := h
  have sz := sizeLine_eq
  have hz : t.length ≤ sizeLine := by omega
  unfold bentTR
  walk_at "start"
  rw [← gup_id eg]
  walk_at "xx"
  refine DL.Y.dialN (gau_gup hm) (by omega) (by omega) (by omega) fun i m1 hi hm1 => ?_
  rw [gup_gup]
  walk_at "xx"
  refine DL.Y.dialN (gau_gup hm1) (by omega) (by decide) (by decide) fun w m2 hw hm2 => ?_
  rw [gup_gup]
  walk_at "xx"
  refine DL.Y.pickL (gau_gup hm2) (by omega) (by simp) (Nat.le_of_ble_eq_true rfl) fun y m3 hy hm3 => ?_
  rw [gup_gup]
  obtain ⟨s, rfl, ls, os⟩ : ∃ s : Str, y = .str s ∧ s.length ≤ 1 ∧ PyData.strOk s = true := by
    simp only [List.mem_cons, List.mem_nil_iff, or_false] at hy
    rcases hy with rfl | rfl | rfl | rfl | rfl | rfl | rfl | rfl | rfl | rfl | rfl | rfl <;> exact ⟨_, rfl, by decide +kernel, by decide +kernel⟩
  clear hy
  have c1 := L2.cutS_length t none (some (i : Int))
  have c2 := L2.cutS_length t (some ((i : Int) + 1)) none
  have c3 := L2.cutS_length t (some (i : Int)) none
  have c13 : (L2.cutS t none (some (i : Int))).length + (L2.cutS t (some (i : Int)) none).length = t.length := by
    rw [TL.len_tl, TL.len_tl, TL.len_tl t]
    show (L2.cutS t none (some (i : Int))).cps.toList.length + (L2.cutS t (some (i : Int)) none).cps.toList.length = _
    rw [cut_to, cut_from, ← List.length_append, List.take_append_drop]
  have fin := fun (t' : Str) (h1 : t'.length ≤ 2 * t.length + 1) (h2 : PyData.strOk t' = true) => h t' m3 h1 h2 (hm3.mono (by omega))
  clear h
  by_cases w0 : (w : Int) = 0
  · walk_at "xx"
    refine DL.Y.oaddS (by omega) ?_
    exact fin _ (by rw [len_app]; omega) (ok_app (ok_cut hok) (ok_cut hok))
  · walk_at "xx"
    by_cases w1 : (w : Int) = 1
    · walk_at "xx"
      refine DL.Y.oaddS (by omega) ?_
      walk_at "xx"
      refine DL.Y.oaddS (by rw [len_app]; omega) ?_
      exact fin _ (by rw [len_app, len_app]; omega) (ok_app (ok_app (ok_cut hok) os) (ok_cut hok))
    · walk_at "xx"
      by_cases w4 : (w : Int) < 4
      · walk_at "xx"
        refine DL.Y.oaddS (by omega) ?_
        walk_at "xx"
        refine DL.Y.oaddS (by rw [len_app]; omega) ?_
        exact fin _ (by rw [len_app, len_app]; omega) (ok_app (ok_app (ok_cut hok) os) (ok_cut hok))
      · walk_at "xx"
        refine DL.Y.oaddS (by omega) ?_
        exact fin _ (by rw [len_app]; omega) (ok_app hok (ok_cut hok))
def toldZ : D → D
  | .non => .lst [.int 0, .int 0]
  | x => x
theorem toldZ_ne {x : D} (h : x ≠ .non) : toldZ x = x := by
  cases x <;> first | rfl | exact absurd rfl h
def sp_lTold : DSp := fun xs G R _ => ∃ x : D, xs = [x] ∧ ((∃ t : Str, x = .str t ∧ t.length ≤ 10000 ∧ PyData.strOk t = true ∧ R (toldZ (fracO t)) G) ∨ (NoStr x ∧ R (.lst [.int 0, .int 0]) G))
section
variable {E : DEnds} {ρ : En} {G : Gm} {dX : XD → DE} {i j : Nat} {cs : List Str}
theorem Y.tryH (h : dX (fun C ns xs G' => C ∈ cs ∧ E.nx (((ρ.set i (some (.exc C ns xs))).set j (some (.exc C ns xs))).set i none) G') ρ G fun _ G' => E.nx ρ G') : dTryH i j cs dX E ρ G := h
theorem Y.tryR {sub : Str → Str → Bool} {x f g : Str} (hi : i < ρ.length) (h : dX (fun C ns xs G' => C ∈ cs ∧ sub C x = true ∧ ∃ y z, (ns.zip xs).lookup f = some y ∧ (ns.zip xs).lookup g = some z ∧ E.rt (.lst [y, z]) G') ρ G fun x G' => E.rt x G') : dTryR i cs sub x f g dX E ρ G := ⟨hi, h⟩
end
theorem toldT_ok {cs : List Str} {sub : Str → Str → Bool} (hc : ("BadText" : Str) ∈ cs) (hs : sub "BadText" "BadText" = true) {xs : List D} {G : Gm} {R : KD} {RX : XD} (h : sp_lTold xs G R RX) : dTryR 1 cs sub "BadText" "line" "item" (fun RX => dCallK sp_nbOf (ordOf [0]) RX (dCons (dVar 0) dNil)) { nx := fun _ G => R .non G, rt := R } (xs.map some ++ List.replicate (2 - xs.length) none) G := by
  obtain ⟨x, rfl, h⟩ := h
  walk_at "start"
  refine DL.Y.tryR (Nat.le_of_ble_eq_true rfl) ?_
  try dsimp only
  walk_at "xx"
  rcases h with ⟨t, rfl, hl, hok, h⟩ | ⟨hn, h⟩
  · refine ⟨_, rfl, .inl ⟨t, rfl, hl, hok, fun e => ⟨hc, hs, _, _, rfl, rfl, ?_⟩, fun e => ?_⟩⟩
    · rw [e] at h
      exact h
    · rw [toldZ_ne e] at h
      exact h
  · exact ⟨_, rfl, .inr ⟨hn, hc, hs, _, _, rfl, rfl, h⟩⟩
theorem cmp_two {t : Str} (h : PyData.strOk t = true) : Cmp (.lst [.str t, .str t]) := by
  refine ⟨?_, Nat.le_of_ble_eq_true rfl⟩
  show (PyData.strOk t && (PyData.strOk t && true)) = true
  rw [h]
  rfl
theorem ok_num (i : Int) : PyData.strOk (nT i) = true := mem_ok fun c hc => by
  rw [tl_int] at hc
  have := TL.numL_digits i.natAbs
  split at hc
  · rcases List.mem_cons.mp hc with rfl | hc
    · decide
    · have := this c hc; omega
  · have := this c hc; omega
theorem ok_tx (q : Qr) : PyData.strOk (numTx q) = true := by
  unfold numTx
  split
  · exact ok_num _
  · exact ok_app (ok_app (ok_num _) (by decide +kernel)) (ok_num _)
theorem tx_len {q : Qr} (h1 : q.num.natAbs < 10 ^ 140) (h2 : q.den < 10 ^ 140) : (numTx q).length ≤ 283 := by
  have lb : ("/" : Str).length = 1 := by decide +kernel
  have a := num_len h1
  have b := num_len (i := (q.den : Int)) (by rw [Int.natAbs_natCast]; exact h2)
  unfold numTx
  split
  · omega
  · rw [len_app, len_app, lb]
    omega
theorem rep_toldZ (t : Str) : RepOk (toldZ (fracO t)) ∧ ((∃ n : Int, toldZ (fracO t) = .int n) ∨ ∃ xs, toldZ (fracO t) = .tup xs ∨ toldZ (fracO t) = .lst xs) := by
  have big : (10 : Nat) ^ 140 ≤ 10 ^ 560 := Nat.pow_le_pow_right (by decide) (by decide)
  rcases frac_shape t with e | ⟨n, e, hn⟩ | ⟨a, u, e, ha, hu⟩
  · rw [e]
    refine ⟨?_, .inr ⟨_, .inr rfl⟩⟩
    have f : Fn 1 3 (.lst [.int 0, .int 0]) := ⟨by decide, by decide, by decide +kernel, by decide, by decide, by decide, by decide⟩
    exact f.rep
  · rw [e]
    exact ⟨(fn_int (Nat.lt_of_lt_of_le hn big)).rep, .inl ⟨n, rfl⟩⟩
  · rw [e]
    refine ⟨?_, .inr ⟨_, .inl rfl⟩⟩
    have ft := (fn_seq (d := 0) (s := 1) (n := 2) (xs := [.int a, .int u]) (fun x hx => by
      simp only [List.mem_cons, List.mem_nil_iff, or_false] at hx
      rcases hx with rfl | rfl
      · exact fn_int (Nat.lt_of_lt_of_le ha big)
      · exact fn_int (Nat.lt_of_lt_of_le hu big)) (Nat.le_refl _)).1
    exact ft.rep
theorem keptQ (q : Qr) : keptD (ofQ q) = ofQ q := by
  by_cases h : q.den = 1
  · rw [ofQ_one h]; rfl
  · rw [ofQ_two h]; rfl
theorem ofQ_non (q : Qr) : ofQ q ≠ .non := by
  by_cases h : q.den = 1
  · rw [ofQ_one h]; intro z; cases z
  · rw [ofQ_two h]; intro z; cases z
end DL
namespace Lw
open PySem PySem.Spec PyProof.Rows L2 Evl DL
abbrev st_is_integer : Stmt := top 5
abbrev st_is_within : Stmt := top 6
abbrev st_is_list : Stmt := top 7
abbrev st_common : Stmt := top 10
abbrev st_lowest_in : Stmt := top 11
abbrev st_text_in : Stmt := top 12
abbrev st_is_number : Stmt := top 13
abbrev st_kept_number : Stmt := top 14
abbrev st_need_fraction : Stmt := top 15
abbrev st_written : Stmt := top 20
abbrev st_written_fraction : Stmt := top 21
abbrev st_number_text : Stmt := top 23
abbrev st_number_of : Stmt := top 24
abbrev st__law_scribe : Stmt := top 26
abbrev st__law_quill_by : Stmt := top 27
abbrev st__law_pick : Stmt := top 28
abbrev st__law_low : Stmt := top 29
abbrev st__law_whole : Stmt := top 30
abbrev st__law_read : Stmt := top 31
abbrev st__law_told : Stmt := top 32
abbrev st__law_bent : Stmt := top 33
abbrev st_law : Stmt := top 34
structure Tx (mg : Str → Option Value) : Prop where
  f_abs : mg "abs" = none
  f_all : mg "all" = none
  f_bool : mg "bool" = none
  f_int : mg "int" = none
  f_isinstance : mg "isinstance" = none
  f_len : mg "len" = none
  f_list : mg "list" = none
  f_range : mg "range" = none
  f_repr : mg "repr" = none
  f_str : mg "str" = none
  f_tuple : mg "tuple" = none
  c_LEAST_UNDER : ∃ t, mg "LEAST_UNDER" = some (.int 2 t)
  c_BAR : ∃ t, mg "BAR" = some (.str "/" t)
  c_FIGURES : ∃ t, mg "FIGURES" = some (.str "0123456789" t)
  c_MOST_FIGURES : ∃ t, mg "MOST_FIGURES" = some (.int 140 t)
theorem sub_TileError : ∀ C ∈ errs, subE C "TileError" = true := by decide +kernel
abbrev si_BadFraction : Stmt := initOf (top 2)
set_option maxHeartbeats 4000000 in
theorem x_BadFraction {P : Program} {w : World} {K : PySem.W.Frag} {mg : Str → Option Value} {base : Heap} (x : Xc P K mg "BadFraction" ["part"] (("BadFraction" : Str) ++ ".__init__") (defArgs si_BadFraction) (defBody si_BadFraction) (defScope si_BadFraction)) : KnX P w K mg base "BadFraction" ["self", "part"] ["part"] [true] := by
  obtain ⟨g, ox, ⟨cda, cc, T⟩, ini, ti, no, xf, xd⟩ := x
  have S : Sup.ScopeS ["self", "part"] ["self", "part"] (defScope si_BadFraction) := ⟨rfl, rfl, rfl, by decide +kernel, rfl, by decide +kernel, by decide +kernel, by decide +kernel, rfl, rfl⟩
  obtain ⟨oc, od, osl, dV, kV, doc, pm, an, ct, lk, rfl⟩ := T.fn
  refine ⟨g, ox, ini, ti, no, xf, xd, _, Sup.fnok_sup (k := 0) S T lk spI_len (fun A outer s H vs Q E room hsp => ⟨_, Sup.psS_sup (pl := pure false) S T rfl rfl rfl (pa_cons (pe_joined (PJ.cons pe_str (PJ.cons (pe_fmt (pe_var (i := 1) rfl (.inl rfl))) PJ.nil))) pa_nil) (pss_one (ps_ost (pe_var (i := 0) rfl (.inl rfl)) (pe_var (i := 1) rfl (.inl rfl)))), init1 rfl ?_ hsp⟩), ?_⟩
  · intro a w H Q hx hq
    refine jts_ok [JP.k "is none: ", JP.v 1] Str.empty (fun i hi => ?_) (fun x hx => ?_) (by show _ ≤ sizeLine; rw [sizeLine_eq]; decide) (fun out => hq _ (by show 1 ≤ 1000; decide))
    · simp only [List.mem_cons, List.mem_nil_iff, or_false, false_or, reduceCtorEq, JP.v.injEq] at hi
      subst hi
      exact ⟨w, rfl, hx (true, w) (by simp) rfl⟩
    · simp only [List.mem_cons, List.mem_nil_iff, or_false, false_or, reduceCtorEq, JP.k.injEq] at hx
      first | (subst hx; decide) | (rcases hx with rfl | rfl <;> decide) | (rcases hx with rfl | rfl | rfl <;> decide) | cases hx
  · intro s us _ hl
    match us, hl with | [_, _], _ => exact .of_eq rfl
abbrev si_BadText : Stmt := initOf (top 3)
set_option maxHeartbeats 4000000 in
theorem x_BadText {P : Program} {w : World} {K : PySem.W.Frag} {mg : Str → Option Value} {base : Heap} (x : Xc P K mg "BadText" ["line", "item"] (("BadText" : Str) ++ ".__init__") (defArgs si_BadText) (defBody si_BadText) (defScope si_BadText)) : KnX P w K mg base "BadText" ["self", "line", "item"] ["line", "item"] [true, true] := by
  obtain ⟨g, ox, ⟨cda, cc, T⟩, ini, ti, no, xf, xd⟩ := x
  have S : Sup.ScopeS ["self", "line", "item"] ["self", "line", "item"] (defScope si_BadText) := ⟨rfl, rfl, rfl, by decide +kernel, rfl, by decide +kernel, by decide +kernel, by decide +kernel, rfl, rfl⟩
  obtain ⟨oc, od, osl, dV, kV, doc, pm, an, ct, lk, rfl⟩ := T.fn
  refine ⟨g, ox, ini, ti, no, xf, xd, _, Sup.fnok_sup (k := 0) S T lk spI_len (fun A outer s H vs Q E room hsp => ⟨_, Sup.psS_sup (pl := pure false) S T rfl rfl rfl (pa_cons (pe_joined (PJ.cons pe_str (PJ.cons (pe_fmt (pe_var (i := 1) rfl (.inl rfl))) (PJ.cons pe_str (PJ.cons (pe_fmt (pe_var (i := 2) rfl (.inl rfl))) PJ.nil))))) pa_nil) (pss_cons (ps_ost (pe_var (i := 0) rfl (.inl rfl)) (pe_var (i := 1) rfl (.inl rfl))) (pss_one (ps_ost (pe_var (i := 0) rfl (.inl rfl)) (pe_var (i := 2) rfl (.inl rfl))))), init2 rfl ?_ hsp⟩), ?_⟩
  · intro a w u H Q hx hq
    refine jts_ok [JP.k "line ", JP.v 1, JP.k ", item ", JP.v 2] Str.empty (fun i hi => ?_) (fun x hx => ?_) (by show _ ≤ sizeLine; rw [sizeLine_eq]; decide) (fun out => hq _ (by show 1 ≤ 1000; decide))
    · simp only [List.mem_cons, List.mem_nil_iff, or_false, false_or, reduceCtorEq, JP.v.injEq] at hi
      rcases hi with rfl | rfl
      · exact ⟨w, rfl, hx (true, w) (by simp) rfl⟩
      · exact ⟨u, rfl, hx (true, u) (by simp) rfl⟩
    · simp only [List.mem_cons, List.mem_nil_iff, or_false, false_or, reduceCtorEq, JP.k.injEq] at hx
      first | (subst hx; decide) | (rcases hx with rfl | rfl <;> decide) | (rcases hx with rfl | rfl | rfl <;> decide) | cases hx
  · intro s us _ hl
    match us, hl with | [_, _, _], _ => exact .of_eq rfl
abbrev sp_is_integer : DSp := DL.sp_is_integer
def r_is_integer : DS := (dRet (dAndV (dCal (fIsi "int") (dCons (dVar 0) (dCons (dC (.ty "int")) dNil))) (dNotV (dCal (fIsi "bool") (dCons (dVar 0) (dCons (dC (.ty "bool")) dNil))))))
theorem sc_is_integer : FnScope ["value"] ["value"] (defScope st_is_integer) := ⟨rfl, rfl, rfl, by decide +kernel, rfl, by decide +kernel, by decide +kernel⟩
theorem v_is_integer (xs : List D) (G : Gm) (R : KD) (RX : XD) (h : sp_is_integer xs G R RX) : r_is_integer { nx := fun _ G => R .non G, rt := R } (xs.map some ++ List.replicate (1 - xs.length) none) G := by
  exact is_integer_ok xs G R RX h
theorem l_is_integer (xs : List D) (G : Gm) (R : KD) (RX : XD) (h : sp_is_integer xs G R RX) : xs.length = 1 := by
  obtain ⟨_, rfl, _⟩ := h
  rfl
set_option maxHeartbeats 4000000 in
theorem k_is_integer {P : Program} {w : World} {K : PySem.W.Frag} {mg : Str → Option Value} {base : Heap} (T : Tx mg) (F : Df K mg "is_integer" st_is_integer) :
    Kn P w K mg base 1 "is_integer" st_is_integer ["value"] sp_is_integer :=
  kn_of F.g F.f sc_is_integer l_is_integer fun cdv hcv A outer s H E B RX hr hg kx => ⟨r_is_integer, (psd_one (psd_ret (pd_and (pd_isi rfl (by decide) rfl T.f_isinstance (pd_var 0) (pd_bty rfl T.f_int (by decide +kernel))) (pd_one (pd_not (pd_isi rfl (by decide) rfl T.f_isinstance (pd_var 0) (pd_bty rfl T.f_bool (by decide +kernel)))))))), fun xs G R h => v_is_integer xs G R RX h⟩
abbrev sp_is_within : DSp := DL.sp_is_within
def r_is_within : DS := (dSeq (dIfS (dNot (dTst (dCall sp_is_integer X0 (dCons (dVar 0) dNil)))) (dRet (dC (.bl false))) dNext) (dRet (dAndV (dOrV (dIsN (dVar 1)) (dOp (fInt gLe) (dVar 1) (dVar 0))) (dOrV (dIsN (dVar 2)) (dOp (fInt gLe) (dVar 0) (dVar 2))))))
theorem sc_is_within : FnScope ["value", "least", "most"] ["value", "least", "most"] (defScope st_is_within) := ⟨rfl, rfl, rfl, by decide +kernel, rfl, by decide +kernel, by decide +kernel⟩
theorem v_is_within (xs : List D) (G : Gm) (R : KD) (RX : XD) (h : sp_is_within xs G R RX) : r_is_within { nx := fun _ G => R .non G, rt := R } (xs.map some ++ List.replicate (3 - xs.length) none) G := by
  exact is_within_ok xs G R RX h
theorem l_is_within (xs : List D) (G : Gm) (R : KD) (RX : XD) (h : sp_is_within xs G R RX) : xs.length = 3 := by
  obtain ⟨_, _, _, _, _, rfl, _⟩ := h
  rfl
set_option maxHeartbeats 4000000 in
theorem k_is_within {P : Program} {w : World} {K : PySem.W.Frag} {mg : Str → Option Value} {base : Heap} (T : Tx mg) (F : Df K mg "is_within" st_is_within) (k_is_integer : Kn P w K mg base 1 "is_integer" st_is_integer ["value"] sp_is_integer) :
    Kn P w K mg base 2 "is_within" st_is_within ["value", "least", "most"] sp_is_within :=
  kn_of F.g F.f sc_is_within l_is_within fun cdv hcv A outer s H E B RX hr hg kx => ⟨r_is_within, (psd_cons (psd_if (ptd_not (ptd_val (pd_call k_is_integer (hr.mono (by decide)) hg rfl pass0 kx0 (fun _ _ _ _ _ _ us hl => match us, hl with | [_], _ => rfl) (pda_cons (pd_var 0) pda_nil)))) (psd_one (psd_ret pd_bl)) psd_nil) (psd_one (psd_ret (pd_and (pd_or (pd_isN (pd_var 1)) (pd_one (pd_cmp op_le od_bl (pd_var 1) (pd_var 0) (nomark _)))) (pd_one (pd_or (pd_isN (pd_var 2)) (pd_one (pd_cmp op_le od_bl (pd_var 0) (pd_var 2) (nomark _))))))))), fun xs G R h => v_is_within xs G R RX h⟩
abbrev sp_is_list : DSp := DL.sp_is_list
def r_is_list : DS := (dRet (dIsiT ["list", "tuple"] (dVar 0)))
theorem sc_is_list : FnScope ["value"] ["value"] (defScope st_is_list) := ⟨rfl, rfl, rfl, by decide +kernel, rfl, by decide +kernel, by decide +kernel⟩
theorem v_is_list (xs : List D) (G : Gm) (R : KD) (RX : XD) (h : sp_is_list xs G R RX) : r_is_list { nx := fun _ G => R .non G, rt := R } (xs.map some ++ List.replicate (1 - xs.length) none) G := by
  exact is_list_ok xs G R RX h
theorem l_is_list (xs : List D) (G : Gm) (R : KD) (RX : XD) (h : sp_is_list xs G R RX) : xs.length = 1 := by
  obtain ⟨_, rfl, _⟩ := h
  rfl
set_option maxHeartbeats 4000000 in
theorem k_is_list {P : Program} {w : World} {K : PySem.W.Frag} {mg : Str → Option Value} {base : Heap} (T : Tx mg) (F : Df K mg "is_list" st_is_list) :
    Kn P w K mg base 1 "is_list" st_is_list ["value"] sp_is_list :=
  kn_of F.g F.f sc_is_list l_is_list fun cdv hcv A outer s H E B RX hr hg kx => ⟨r_is_list, (psd_one (psd_ret (pd_isiT rfl (by decide) (by decide) rfl T.f_isinstance (pd_var 0) (pty_cons (pe_ty rfl T.f_list (by decide +kernel)) (pty_cons (pe_ty rfl T.f_tuple (by decide +kernel)) pty_nil))))), fun xs G R h => v_is_list xs G R RX h⟩
abbrev sp_common : DSp := DL.sp_common
def r_common : DS := (dSeq (dPar 0 1 (dCons (dCal fAbs (dCons (dVar 0) dNil)) (dCons (dCal fAbs (dCons (dVar 1) dNil)) dNil))) (dSeq (dWhile (dTst (dOp (fInt gGt) (dVar 1) (dC (.int 0)))) (dPar 0 1 (dCons (dVar 1) (dCons (dOp (fIntC (fun _ j => 0 < j) fun i j => .int (i % j)) (dVar 0) (dVar 1)) dNil)))) (dRet (dVar 0))))
theorem sc_common : FnScope ["one", "other"] ["one", "other"] (defScope st_common) := ⟨rfl, rfl, rfl, by decide +kernel, rfl, by decide +kernel, by decide +kernel⟩
theorem v_common (xs : List D) (G : Gm) (R : KD) (RX : XD) (h : sp_common xs G R RX) : r_common { nx := fun _ G => R .non G, rt := R } (xs.map some ++ List.replicate (2 - xs.length) none) G := by
  exact common_ok xs G R RX h
theorem l_common (xs : List D) (G : Gm) (R : KD) (RX : XD) (h : sp_common xs G R RX) : xs.length = 2 := by
  obtain ⟨_, _, rfl, _⟩ := h
  rfl
set_option maxHeartbeats 4000000 in
theorem k_common {P : Program} {w : World} {K : PySem.W.Frag} {mg : Str → Option Value} {base : Heap} (T : Tx mg) (F : Df K mg "common" st_common) :
    Kn P w K mg base 1 "common" st_common ["one", "other"] sp_common :=
  kn_of F.g F.f sc_common l_common fun cdv hcv A outer s H E B RX hr hg kx => ⟨r_common, (psd_cons (psd_par (i := 0) (j := 1) rfl sc_common.nd rfl rfl (by decide) rfl rfl (pda_cons (pd_callB call_abs cd_abs rfl T.f_abs (by decide +kernel) (pda_cons (pd_var 0) pda_nil)) (pda_cons (pd_callB call_abs cd_abs rfl T.f_abs (by decide +kernel) (pda_cons (pd_var 1) pda_nil)) pda_nil)) rfl) (psd_cons (psd_while (passes_of rfl) (ptd_cmp op_gt od_bl (pd_var 1) pd_int (nomark _)) (psd_one (psd_par (i := 0) (j := 1) rfl sc_common.nd rfl rfl (by decide) rfl rfl (pda_cons (pd_var 1) (pda_cons (pd_mod (pd_var 0) (pd_var 1)) pda_nil)) rfl))) (psd_one (psd_ret (pd_var 0))))), fun xs G R h => v_common xs G R RX h⟩
abbrev sp_lowest_in : DSp := DL.sp_qlow
def r_lowest_in : DS := (dSeq (dSet 2 (dIf (dTst (dOp (fInt gGt) (dVar 1) (dC (.int 0)))) (dCall sp_common X0 (dCons (dVar 0) (dCons (dVar 1) dNil))) (dNeg (dCall sp_common X0 (dCons (dVar 0) (dCons (dVar 1) dNil)))))) (dRet (dIf (dTst (dOp fEq (dOp (fIntC CDivZ fun i j => .int (Int.fdiv i j)) (dVar 1) (dVar 2)) (dC (.int 1)))) (dOp (fIntC CDivZ fun i j => .int (Int.fdiv i j)) (dVar 0) (dVar 2)) (dTup (dCons (dOp (fIntC CDivZ fun i j => .int (Int.fdiv i j)) (dVar 0) (dVar 2)) (dCons (dOp (fIntC CDivZ fun i j => .int (Int.fdiv i j)) (dVar 1) (dVar 2)) dNil))))))
theorem sc_lowest_in : FnScope ["above", "under", "by"] ["above", "under"] (defScope st_lowest_in) := ⟨rfl, rfl, rfl, by decide +kernel, rfl, by decide +kernel, by decide +kernel⟩
theorem v_lowest_in (xs : List D) (G : Gm) (R : KD) (RX : XD) (h : sp_lowest_in xs G R RX) : r_lowest_in { nx := fun _ G => R .non G, rt := R } (xs.map some ++ List.replicate (3 - xs.length) none) G := by
  exact lowZ_ok xs G R RX (qlow_to h)
theorem l_lowest_in (xs : List D) (G : Gm) (R : KD) (RX : XD) (h : sp_lowest_in xs G R RX) : xs.length = 2 := by
  obtain ⟨_, _, rfl, _⟩ := h
  rfl
set_option maxHeartbeats 4000000 in
theorem k_lowest_in {P : Program} {w : World} {K : PySem.W.Frag} {mg : Str → Option Value} {base : Heap} (T : Tx mg) (F : Df K mg "lowest_in" st_lowest_in) (k_common : Kn P w K mg base 1 "common" st_common ["one", "other"] sp_common) :
    Kn P w K mg base 2 "lowest_in" st_lowest_in ["above", "under"] sp_lowest_in :=
  kn_of F.g F.f sc_lowest_in l_lowest_in fun cdv hcv A outer s H E B RX hr hg kx => ⟨r_lowest_in, (psd_cons (psd_set (i := 2) sc_lowest_in.nd rfl (by first | exact Or.inl rfl | exact Or.inr rfl) (pd_if (ptd_cmp op_gt od_bl (pd_var 1) pd_int (nomark _)) (pd_call k_common (hr.mono (by decide)) hg rfl pass0 kx0 (fun _ _ _ _ _ _ us hl => match us, hl with | [_, _], _ => rfl) (pda_cons (pd_var 0) (pda_cons (pd_var 1) pda_nil))) (pd_neg (pd_call k_common (hr.mono (by decide)) hg rfl pass0 kx0 (fun _ _ _ _ _ _ us hl => match us, hl with | [_, _], _ => rfl) (pda_cons (pd_var 0) (pda_cons (pd_var 1) pda_nil)))))) (psd_one (psd_ret (pd_if (ptd_cmp (op_eq2 hr.units) od_eq (pd_fdivZ (pd_var 1) (pd_var 2)) pd_int (nomark _)) (pd_fdivZ (pd_var 0) (pd_var 2)) (pd_tup (pda_cons (pd_fdivZ (pd_var 0) (pd_var 2)) (pda_cons (pd_fdivZ (pd_var 1) (pd_var 2)) pda_nil))))))), fun xs G R h => v_lowest_in xs G R RX h⟩
abbrev sp_text_in : DSp := DL.sp_txIn
def r_text_in : DS := (dRet (dIf (dTst (dCall sp_is_integer X0 (dCons (dVar 0) dNil))) (dCal fStrOf (dCons (dVar 0) dNil)) (dFst [(dFmt (dIx (dVar 0) (dC (.int 0)))), (dC (.str "/")), (dFmt (dIx (dVar 0) (dC (.int 1))))])))
theorem sc_text_in : FnScope ["number"] ["number"] (defScope st_text_in) := ⟨rfl, rfl, rfl, by decide +kernel, rfl, by decide +kernel, by decide +kernel⟩
theorem v_text_in (xs : List D) (G : Gm) (R : KD) (RX : XD) (h : sp_text_in xs G R RX) : r_text_in { nx := fun _ G => R .non G, rt := R } (xs.map some ++ List.replicate (1 - xs.length) none) G := by
  exact txIn_ok xs G R RX h
theorem l_text_in (xs : List D) (G : Gm) (R : KD) (RX : XD) (h : sp_text_in xs G R RX) : xs.length = 1 := by
  obtain ⟨_, rfl, _⟩ := h
  rfl
set_option maxHeartbeats 4000000 in
theorem k_text_in {P : Program} {w : World} {K : PySem.W.Frag} {mg : Str → Option Value} {base : Heap} (T : Tx mg) (F : Df K mg "text_in" st_text_in) (k_is_integer : Kn P w K mg base 1 "is_integer" st_is_integer ["value"] sp_is_integer) :
    Kn P w K mg base 2 "text_in" st_text_in ["number"] sp_text_in :=
  kn_of F.g F.f sc_text_in l_text_in fun cdv hcv A outer s H E B RX hr hg kx => ⟨r_text_in, (psd_one (psd_ret (pd_if (ptd_val (pd_call k_is_integer (hr.mono (by decide)) hg rfl pass0 kx0 (fun _ _ _ _ _ _ us hl => match us, hl with | [_], _ => rfl) (pda_cons (pd_var 0) pda_nil))) (pd_callTy call_strIS cd_str rfl T.f_str (by decide +kernel) (pda_cons (pd_var 0) pda_nil)) (pd_fst (.cons (pd_fmt (pd_ix (pd_var 0) pd_int (fun _ _ => rfl))) (.cons pd_str (.cons (pd_fmt (pd_ix (pd_var 0) pd_int (fun _ _ => rfl))) .nil))))))), fun xs G R h => v_text_in xs G R RX h⟩
abbrev sp_is_number : DSp := DL.sp_is_number
def r_is_number : DS := (dSeq (dIfS (dNot (dTst (dCall sp_is_list X0 (dCons (dVar 0) dNil)))) (dRet (dCall sp_is_integer X0 (dCons (dVar 0) dNil))) dNext) (dSeq (dIfS (dOr (dTst (dOp fNe (dCal fLen (dCons (dVar 0) dNil)) (dC (.int 2)))) (dOr (dNot (dTst (dCall sp_is_integer X0 (dCons (dIx (dVar 0) (dC (.int 0))) dNil)))) (dNot (dTst (dCall sp_is_within X0 (dCons (dIx (dVar 0) (dC (.int 1))) (dCons (dC (.int 2)) (dCons (dC .non) dNil)))))))) (dRet (dC (.bl false))) dNext) (dRet (dOp fEq (dCall sp_common X0 (dCons (dIx (dVar 0) (dC (.int 0))) (dCons (dIx (dVar 0) (dC (.int 1))) dNil))) (dC (.int 1))))))
theorem sc_is_number : FnScope ["value"] ["value"] (defScope st_is_number) := ⟨rfl, rfl, rfl, by decide +kernel, rfl, by decide +kernel, by decide +kernel⟩
theorem v_is_number (xs : List D) (G : Gm) (R : KD) (RX : XD) (h : sp_is_number xs G R RX) : r_is_number { nx := fun _ G => R .non G, rt := R } (xs.map some ++ List.replicate (1 - xs.length) none) G := by
  exact is_number_ok xs G R RX h
theorem l_is_number (xs : List D) (G : Gm) (R : KD) (RX : XD) (h : sp_is_number xs G R RX) : xs.length = 1 := by
  obtain ⟨_, rfl, _⟩ := h
  rfl
set_option maxHeartbeats 4000000 in
theorem k_is_number {P : Program} {w : World} {K : PySem.W.Frag} {mg : Str → Option Value} {base : Heap} (T : Tx mg) (F : Df K mg "is_number" st_is_number) (k_is_integer : Kn P w K mg base 1 "is_integer" st_is_integer ["value"] sp_is_integer) (k_is_within : Kn P w K mg base 2 "is_within" st_is_within ["value", "least", "most"] sp_is_within) (k_is_list : Kn P w K mg base 1 "is_list" st_is_list ["value"] sp_is_list) (k_common : Kn P w K mg base 1 "common" st_common ["one", "other"] sp_common) :
    Kn P w K mg base 3 "is_number" st_is_number ["value"] sp_is_number :=
  kn_of F.g F.f sc_is_number l_is_number fun cdv hcv A outer s H E B RX hr hg kx => ⟨r_is_number, (psd_cons (psd_if (ptd_not (ptd_val (pd_call k_is_list (hr.mono (by decide)) hg rfl pass0 kx0 (fun _ _ _ _ _ _ us hl => match us, hl with | [_], _ => rfl) (pda_cons (pd_var 0) pda_nil)))) (psd_one (psd_ret (pd_call k_is_integer (hr.mono (by decide)) hg rfl pass0 kx0 (fun _ _ _ _ _ _ us hl => match us, hl with | [_], _ => rfl) (pda_cons (pd_var 0) pda_nil)))) psd_nil) (psd_cons (psd_if (PW.pt (pwd_or (ptd_cmp (op_ne2 hr.units) od_ne (pd_len rfl rfl T.f_len (pd_var 0)) pd_int (nomark _)) (pwd_or (ptd_not (ptd_val (pd_call k_is_integer (hr.mono (by decide)) hg rfl pass0 kx0 (fun _ _ _ _ _ _ us hl => match us, hl with | [_], _ => rfl) (pda_cons (pd_ix (pd_var 0) pd_int (fun _ _ => rfl)) pda_nil)))) (pwd_or1 (ptd_not (ptd_val (pd_call k_is_within (hr.mono (by decide)) hg rfl pass0 kx0 (fun _ _ _ _ _ _ us hl => match us, hl with | [_, _, _], _ => rfl) (pda_cons (pd_ix (pd_var 0) pd_int (fun _ _ => rfl)) (pda_cons (pd_gint rfl T.c_LEAST_UNDER) (pda_cons pd_non pda_nil)))))))))) (psd_one (psd_ret pd_bl)) psd_nil) (psd_one (psd_ret (pd_cmp (op_eq2 hr.units) od_eq (pd_call k_common (hr.mono (by decide)) hg rfl pass0 kx0 (fun _ _ _ _ _ _ us hl => match us, hl with | [_, _], _ => rfl) (pda_cons (pd_ix (pd_var 0) pd_int (fun _ _ => rfl)) (pda_cons (pd_ix (pd_var 0) pd_int (fun _ _ => rfl)) pda_nil))) pd_int (nomark _)))))), fun xs G R h => v_is_number xs G R RX h⟩
abbrev sp_kept_number : DSp := DL.sp_kept_number
def r_kept_number : DS := (dRet (dIf (dTst (dCall sp_is_list X0 (dCons (dVar 0) dNil))) (dCal fTupOf (dCons (dVar 0) dNil)) (dVar 0)))
theorem sc_kept_number : FnScope ["value"] ["value"] (defScope st_kept_number) := ⟨rfl, rfl, rfl, by decide +kernel, rfl, by decide +kernel, by decide +kernel⟩
theorem v_kept_number (xs : List D) (G : Gm) (R : KD) (RX : XD) (h : sp_kept_number xs G R RX) : r_kept_number { nx := fun _ G => R .non G, rt := R } (xs.map some ++ List.replicate (1 - xs.length) none) G := by
  exact kept_number_ok xs G R RX h
theorem l_kept_number (xs : List D) (G : Gm) (R : KD) (RX : XD) (h : sp_kept_number xs G R RX) : xs.length = 1 := by
  obtain ⟨_, rfl, _⟩ := h
  rfl
set_option maxHeartbeats 4000000 in
theorem k_kept_number {P : Program} {w : World} {K : PySem.W.Frag} {mg : Str → Option Value} {base : Heap} (T : Tx mg) (F : Df K mg "kept_number" st_kept_number) (k_is_list : Kn P w K mg base 1 "is_list" st_is_list ["value"] sp_is_list) :
    Kn P w K mg base 2 "kept_number" st_kept_number ["value"] sp_kept_number :=
  kn_of F.g F.f sc_kept_number l_kept_number fun cdv hcv A outer s H E B RX hr hg kx => ⟨r_kept_number, (psd_one (psd_ret (pd_if (ptd_val (pd_call k_is_list (hr.mono (by decide)) hg rfl pass0 kx0 (fun _ _ _ _ _ _ us hl => match us, hl with | [_], _ => rfl) (pda_cons (pd_var 0) pda_nil))) (pd_callTy call_tuple_of cd_tuple rfl T.f_tuple (by decide +kernel) (pda_cons (pd_var 0) pda_nil)) (pd_var 0)))), fun xs G R h => v_kept_number xs G R RX h⟩
abbrev sp_need_fraction : DSp := sp_fracX
def r_need_fraction (RX : XD) : DS := (dSeq (dIfS (dNot (dTst (dCall sp_is_number X0 (dCons (dVar 0) dNil)))) (dRaise "BadFraction" ["part"] [true] RX (dCons (dVar 1) dNil)) dNext) (dRet (dCall sp_kept_number X0 (dCons (dVar 0) dNil))))
theorem sc_need_fraction : FnScope ["value", "part"] ["value", "part"] (defScope st_need_fraction) := ⟨rfl, rfl, rfl, by decide +kernel, rfl, by decide +kernel, by decide +kernel⟩
theorem v_need_fraction (xs : List D) (G : Gm) (R : KD) (RX : XD) (h : sp_need_fraction xs G R RX) : r_need_fraction RX { nx := fun _ G => R .non G, rt := R } (xs.map some ++ List.replicate (2 - xs.length) none) G := by
  exact fracX_ok xs G R RX h
theorem l_need_fraction (xs : List D) (G : Gm) (R : KD) (RX : XD) (h : sp_need_fraction xs G R RX) : xs.length = 2 := by
  obtain ⟨_, _, rfl, _⟩ := h
  rfl
set_option maxHeartbeats 4000000 in
theorem k_need_fraction {P : Program} {w : World} {K : PySem.W.Frag} {mg : Str → Option Value} {base : Heap} (T : Tx mg) (F : Df K mg "need_fraction" st_need_fraction) (x_BadFraction : KnX P w K mg base "BadFraction" ["self", "part"] ["part"] [true]) (k_is_number : Kn P w K mg base 3 "is_number" st_is_number ["value"] sp_is_number) (k_kept_number : Kn P w K mg base 2 "kept_number" st_kept_number ["value"] sp_kept_number) :
    Kn P w K mg base 4 "need_fraction" st_need_fraction ["value", "part"] sp_need_fraction :=
  kn_of F.g F.f sc_need_fraction l_need_fraction fun cdv hcv A outer s H E B RX hr hg kx => ⟨r_need_fraction RX, (psd_cons (psd_if (ptd_not (ptd_val (pd_call k_is_number (hr.mono (by decide)) hg rfl pass0 kx0 (fun _ _ _ _ _ _ us hl => match us, hl with | [_], _ => rfl) (pda_cons (pd_var 0) pda_nil)))) (psd_one (psd_raise x_BadFraction (by decide) rfl (hr.mono (by decide)) rfl (takes_of rfl rfl rfl rfl) (fun _ e => kx.mono e) pass0 (pda_cons (pd_var 1) pda_nil))) psd_nil) (psd_one (psd_ret (pd_call k_kept_number (hr.mono (by decide)) hg rfl pass0 kx0 (fun _ _ _ _ _ _ us hl => match us, hl with | [_], _ => rfl) (pda_cons (pd_var 0) pda_nil))))), fun xs G R h => v_need_fraction xs G R RX h⟩
abbrev sp_written : DSp := DL.sp_wr
def r_written : DS := (dSeq (dSet 1 (dIf (dTst (dOp fEq (dSlS (dVar 0) dNoP (dPart (dC (.int 1)))) (dC (.str "-")))) (dSlS (dVar 0) (dPart (dC (.int 1))) dNoP) (dVar 0))) (dSeq (dIfS (dOr (dTst (dOp fEq (dVar 1) (dC (.str "")))) (dOr (dTst (dOp (fInt gGt) (dCal fLen (dCons (dVar 1) dNil)) (dC (.int 140)))) (dNot (dTst (dCal fAll (dCons (dCmp (dIStr (dVar 1)) (gN 2) dYes (dOp (fInC false) (dVar 2) (dC (.str "0123456789"))) [2]) dNil)))))) (dRet (dC .non)) dNext) (dSeq (dIfS (dAnd (dTst (dOp fEq (dIx (dVar 1) (dC (.int 0))) (dC (.str "0")))) (dTst (dOp fNe (dVar 0) (dC (.str "0"))))) (dRet (dC .non)) dNext) (dRet (dCal fIntT (dCons (dVar 0) dNil))))))
theorem sc_written : FnScope ["item", "figures", "sign"] ["item"] (defScope st_written) := ⟨rfl, rfl, rfl, by decide +kernel, rfl, by decide +kernel, by decide +kernel⟩
theorem v_written (xs : List D) (G : Gm) (R : KD) (RX : XD) (h : sp_written xs G R RX) : r_written { nx := fun _ G => R .non G, rt := R } (xs.map some ++ List.replicate (3 - xs.length) none) G := by
  exact written_ok xs G R RX h
theorem l_written (xs : List D) (G : Gm) (R : KD) (RX : XD) (h : sp_written xs G R RX) : xs.length = 1 := by
  obtain ⟨_, rfl, _⟩ := h
  rfl
set_option maxHeartbeats 4000000 in
theorem k_written {P : Program} {w : World} {K : PySem.W.Frag} {mg : Str → Option Value} {base : Heap} (T : Tx mg) (F : Df K mg "written" st_written) :
    Kn P w K mg base 1 "written" st_written ["item"] sp_written :=
  kn_of F.g F.f sc_written l_written fun cdv hcv A outer s H E B RX hr hg kx => ⟨r_written, (psd_cons (psd_set (i := 1) sc_written.nd rfl (by first | exact Or.inl rfl | exact Or.inr rfl) (pd_if (ptd_cmp (op_eq2 hr.units) od_eq (pd_sliceS (pd_var 0) pod_none (pod_some pd_int)) pd_str (nomark _)) (pd_sliceS (pd_var 0) (pod_some pd_int) pod_none) (pd_var 0))) (psd_cons (psd_if (PW.pt (pwd_or (ptd_cmp (op_eq2 hr.units) od_eq (pd_var 1) pd_str (nomark _)) (pwd_or (ptd_cmp op_gt od_bl (pd_len rfl rfl T.f_len (pd_var 1)) (pd_gint rfl T.c_MOST_FIGURES) (nomark _)) (pwd_or1 (ptd_not (ptd_val (pd_callB (cr_all rfl) cd_all rfl T.f_all (by decide +kernel) (pda_cons (pd_lc (own := [("sign", 2)]) rfl sc_written.nd (pid_str (pd_var 1)) (blkOk_by (N := ["item", "figures", "sign"]) (sc := defScope st_written) (by decide +kernel)) (by decide) (fun _ _ _ _ _ _ => (pgd_name (i := 2) sc_written.nd rfl (by first | exact Or.inl rfl | exact Or.inr rfl))) (fun _ _ _ _ _ _ => ptsd_nil) (fun _ _ _ _ _ _ => (pd_cmp op_in_sign od_inC (pd_var 2) (pd_gstr rfl T.c_FIGURES) (by first | rfl | decide +kernel)))) pda_nil)))))))) (psd_one (psd_ret pd_non)) psd_nil) (psd_cons (psd_if (PW.pt (pwd_and (ptd_cmp (op_eq2 hr.units) od_eq (pd_ix (pd_var 1) pd_int (fun _ _ => rfl)) pd_str (nomark _)) (pwd_and1 (ptd_cmp (op_ne2 hr.units) od_ne (pd_var 0) pd_str (nomark _))))) (psd_one (psd_ret pd_non)) psd_nil) (psd_one (psd_ret (pd_callTy call_int_str cd_intT rfl T.f_int (by decide +kernel) (pda_cons (pd_var 0) pda_nil))))))), fun xs G R h => v_written xs G R RX h⟩
abbrev sp_written_fraction : DSp := DL.sp_frT
def r_written_fraction : DS := (dSeq (dIfS (dTst (dOp (fInC true) (dC (.str "/")) (dVar 0))) (dRet (dCall sp_written X0 (dCons (dVar 0) dNil))) dNext) (dSeq (dAsg (dSl (dSplit (dVar 0) (dC (.str "/"))) dNoP (dPart (dC (.int 2)))) (gSeq 2 (gCons (gN 1) (gCons (gN 2) gNil)))) (dSeq (dPar 3 4 (dCons (dCall sp_written X0 (dCons (dVar 1) dNil)) (dCons (dCall sp_written X0 (dCons (dVar 2) dNil)) dNil))) (dSeq (dIfS (dOr (dTst (dIsN (dVar 3))) (dOr (dTst (dIsN (dVar 4))) (dOr (dTst (dOp (fInt gLt) (dVar 4) (dC (.int 2)))) (dTst (dOp fNe (dVar 0) (dOp fAdd (dOp fAdd (dVar 1) (dC (.str "/"))) (dVar 2))))))) (dRet (dC .non)) dNext) (dRet (dIf (dTst (dOp fEq (dCall sp_lowest_in X0 (dCons (dVar 3) (dCons (dVar 4) dNil))) (dTup (dCons (dVar 3) (dCons (dVar 4) dNil))))) (dTup (dCons (dVar 3) (dCons (dVar 4) dNil))) (dC .non)))))))
theorem sc_written_fraction : FnScope ["item", "first", "second", "above", "under"] ["item"] (defScope st_written_fraction) := ⟨rfl, rfl, rfl, by decide +kernel, rfl, by decide +kernel, by decide +kernel⟩
theorem v_written_fraction (xs : List D) (G : Gm) (R : KD) (RX : XD) (h : sp_written_fraction xs G R RX) : r_written_fraction { nx := fun _ G => R .non G, rt := R } (xs.map some ++ List.replicate (5 - xs.length) none) G := by
  exact wfrac_ok xs G R RX h
theorem l_written_fraction (xs : List D) (G : Gm) (R : KD) (RX : XD) (h : sp_written_fraction xs G R RX) : xs.length = 1 := by
  obtain ⟨_, rfl, _⟩ := h
  rfl
set_option maxHeartbeats 4000000 in
theorem k_written_fraction {P : Program} {w : World} {K : PySem.W.Frag} {mg : Str → Option Value} {base : Heap} (T : Tx mg) (F : Df K mg "written_fraction" st_written_fraction) (k_lowest_in : Kn P w K mg base 2 "lowest_in" st_lowest_in ["above", "under"] sp_lowest_in) (k_written : Kn P w K mg base 1 "written" st_written ["item"] sp_written) :
    Kn P w K mg base 3 "written_fraction" st_written_fraction ["item"] sp_written_fraction :=
  kn_of F.g F.f sc_written_fraction l_written_fraction fun cdv hcv A outer s H E B RX hr hg kx => ⟨r_written_fraction, (psd_cons (psd_if (ptd_cmp op_notIn_sign od_notInC (pd_gstr rfl T.c_BAR) (pd_var 0) (by first | rfl | decide +kernel)) (psd_one (psd_ret (pd_call k_written (hr.mono (by decide)) hg rfl pass0 kx0 (fun _ _ _ _ _ _ us hl => match us, hl with | [_], _ => rfl) (pda_cons (pd_var 0) pda_nil)))) psd_nil) (psd_cons (psd_asg (pd_slice (pd_split (pd_var 0) (pd_gstr rfl T.c_BAR)) pod_none (pod_some pd_int)) (pgd_seq rfl (pgsd_cons (pgd_name (i := 1) sc_written_fraction.nd rfl (by first | exact Or.inl rfl | exact Or.inr rfl)) (pgsd_cons (pgd_name (i := 2) sc_written_fraction.nd rfl (by first | exact Or.inl rfl | exact Or.inr rfl)) pgsd_nil)))) (psd_cons (psd_par (i := 3) (j := 4) rfl sc_written_fraction.nd rfl rfl (by decide) rfl rfl (pda_cons (pd_call k_written (hr.mono (by decide)) hg rfl pass0 kx0 (fun _ _ _ _ _ _ us hl => match us, hl with | [_], _ => rfl) (pda_cons (pd_var 1) pda_nil)) (pda_cons (pd_call k_written (hr.mono (by decide)) hg rfl pass0 kx0 (fun _ _ _ _ _ _ us hl => match us, hl with | [_], _ => rfl) (pda_cons (pd_var 2) pda_nil)) pda_nil)) rfl) (psd_cons (psd_if (PW.pt (pwd_or (ptd_isN (pd_var 3)) (pwd_or (ptd_isN (pd_var 4)) (pwd_or (ptd_cmp op_lt od_bl (pd_var 4) pd_int (nomark _)) (pwd_or1 (ptd_cmp (op_ne2 hr.units) od_ne (pd_var 0) (pd_add (pd_add (pd_var 1) (pd_gstr rfl T.c_BAR)) (pd_var 2)) (nomark _))))))) (psd_one (psd_ret pd_non)) psd_nil) (psd_one (psd_ret (pd_if (ptd_cmp (op_eq2 hr.units) od_eq (pd_call k_lowest_in (hr.mono (by decide)) hg rfl pass0 kx0 (fun _ _ _ _ _ _ us hl => match us, hl with | [_, _], _ => rfl) (pda_cons (pd_var 3) (pda_cons (pd_var 4) pda_nil))) (pd_tup (pda_cons (pd_var 3) (pda_cons (pd_var 4) pda_nil))) (nomark _)) (pd_tup (pda_cons (pd_var 3) (pda_cons (pd_var 4) pda_nil))) pd_non))))))), fun xs G R h => v_written_fraction xs G R RX h⟩
abbrev sp_number_text : DSp := DL.sp_nbText
def r_number_text (RX : XD) : DS := (dRet (dCall sp_text_in X0 (dCons (dCall sp_need_fraction RX (dCons (dVar 0) (dCons (dC (.str "number")) dNil))) dNil)))
theorem sc_number_text : FnScope ["number"] ["number"] (defScope st_number_text) := ⟨rfl, rfl, rfl, by decide +kernel, rfl, by decide +kernel, by decide +kernel⟩
theorem v_number_text (xs : List D) (G : Gm) (R : KD) (RX : XD) (h : sp_number_text xs G R RX) : r_number_text RX { nx := fun _ G => R .non G, rt := R } (xs.map some ++ List.replicate (1 - xs.length) none) G := by
  exact nbText_ok xs G R RX h
theorem l_number_text (xs : List D) (G : Gm) (R : KD) (RX : XD) (h : sp_number_text xs G R RX) : xs.length = 1 := by
  obtain ⟨_, rfl, _⟩ := h
  rfl
set_option maxHeartbeats 4000000 in
theorem k_number_text {P : Program} {w : World} {K : PySem.W.Frag} {mg : Str → Option Value} {base : Heap} (T : Tx mg) (F : Df K mg "number_text" st_number_text) (k_text_in : Kn P w K mg base 2 "text_in" st_text_in ["number"] sp_text_in) (k_need_fraction : Kn P w K mg base 4 "need_fraction" st_need_fraction ["value", "part"] sp_need_fraction) :
    Kn P w K mg base 5 "number_text" st_number_text ["number"] sp_number_text :=
  kn_of F.g F.f sc_number_text l_number_text fun cdv hcv A outer s H E B RX hr hg kx => ⟨r_number_text RX, (psd_one (psd_ret (pd_call k_text_in (hr.mono (by decide)) hg rfl pass0 kx0 (fun _ _ _ _ _ _ us hl => match us, hl with | [_], _ => rfl) (pda_cons (pd_call k_need_fraction (hr.mono (by decide)) hg rfl (passes_call (takes_of rfl rfl rfl rfl) fun _ _ _ _ h => h) (fun _ e => kx.mono e) (fun _ _ _ _ _ _ us hl => match us, hl with | [_, _], _ => rfl) (pda_cons (pd_var 0) (pda_cons pd_str pda_nil))) pda_nil)))), fun xs G R h => v_number_text xs G R RX h⟩
abbrev sp_number_of : DSp := DL.sp_nbOf
def r_number_of (RX : XD) : DS := (dSeq (dSet 1 (dIf (dTst (dCal (fIsi "str") (dCons (dVar 0) (dCons (dC (.ty "str")) dNil)))) (dCall sp_written_fraction X0 (dCons (dVar 0) dNil)) (dC .non))) (dSeq (dIfS (dTst (dIsN (dVar 1))) (dRaise "BadText" ["line", "item"] [true, true] RX (dCons (dC (.int 0)) (dCons (dC (.int 0)) dNil))) dNext) (dRet (dVar 1))))
theorem sc_number_of : FnScope ["text", "found"] ["text"] (defScope st_number_of) := ⟨rfl, rfl, rfl, by decide +kernel, rfl, by decide +kernel, by decide +kernel⟩
theorem v_number_of (xs : List D) (G : Gm) (R : KD) (RX : XD) (h : sp_number_of xs G R RX) : r_number_of RX { nx := fun _ G => R .non G, rt := R } (xs.map some ++ List.replicate (2 - xs.length) none) G := by
  exact nbOf_ok xs G R RX h
theorem l_number_of (xs : List D) (G : Gm) (R : KD) (RX : XD) (h : sp_number_of xs G R RX) : xs.length = 1 := by
  obtain ⟨_, rfl, _⟩ := h
  rfl
set_option maxHeartbeats 4000000 in
theorem k_number_of {P : Program} {w : World} {K : PySem.W.Frag} {mg : Str → Option Value} {base : Heap} (T : Tx mg) (F : Df K mg "number_of" st_number_of) (x_BadText : KnX P w K mg base "BadText" ["self", "line", "item"] ["line", "item"] [true, true]) (k_written_fraction : Kn P w K mg base 3 "written_fraction" st_written_fraction ["item"] sp_written_fraction) :
    Kn P w K mg base 4 "number_of" st_number_of ["text"] sp_number_of :=
  kn_of F.g F.f sc_number_of l_number_of fun cdv hcv A outer s H E B RX hr hg kx => ⟨r_number_of RX, (psd_cons (psd_set (i := 1) sc_number_of.nd rfl (by first | exact Or.inl rfl | exact Or.inr rfl) (pd_if (ptd_val (pd_isi rfl (by decide) rfl T.f_isinstance (pd_var 0) (pd_bty rfl T.f_str (by decide +kernel)))) (pd_call k_written_fraction (hr.mono (by decide)) hg rfl pass0 kx0 (fun _ _ _ _ _ _ us hl => match us, hl with | [_], _ => rfl) (pda_cons (pd_var 0) pda_nil)) pd_non)) (psd_cons (psd_if (ptd_isN (pd_var 1)) (psd_one (psd_raise x_BadText (by decide) rfl (hr.mono (by decide)) rfl (takes_of rfl rfl rfl rfl) (fun _ e => kx.mono e) pass0 (pda_cons pd_int (pda_cons pd_int pda_nil)))) psd_nil) (psd_one (psd_ret (pd_var 1))))), fun xs G R h => v_number_of xs G R RX h⟩
abbrev sp__law_scribe : DSp := spGauge
def r__law_scribe : DS := (dRet (dLstM (dCons (dCmp (dISeq (dSl (dVar 0) dNoP (dPart (dC (.int 63))))) (gN 1) dYes (dCal fIntOf (dCons (dVar 1) dNil)) [1]) (dCons (dC (.int 0)) (dCons (dC (.int 0)) dNil)))))
theorem sc__law_scribe : FnScope ["_law_script", "_law_cell"] ["_law_script"] (defScope st__law_scribe) := ⟨rfl, rfl, rfl, by decide +kernel, rfl, by decide +kernel, by decide +kernel⟩
theorem v__law_scribe (xs : List D) (G : Gm) (R : KD) (RX : XD) (h : sp__law_scribe xs G R RX) : r__law_scribe { nx := fun _ G => R .non G, rt := R } (xs.map some ++ List.replicate (2 - xs.length) none) G := by
  exact gauge_ok (c := 63) xs G R RX h
theorem l__law_scribe (xs : List D) (G : Gm) (R : KD) (RX : XD) (h : sp__law_scribe xs G R RX) : xs.length = 1 := by
  obtain ⟨_, rfl, _⟩ := h
  rfl
set_option maxHeartbeats 4000000 in
theorem k__law_scribe {P : Program} {w : World} {K : PySem.W.Frag} {mg : Str → Option Value} {base : Heap} (T : Tx mg) (F : Df K mg "_law_scribe" st__law_scribe) :
    Kn P w K mg base 1 "_law_scribe" st__law_scribe ["_law_script"] sp__law_scribe :=
  kn_of F.g F.f sc__law_scribe l__law_scribe fun cdv hcv A outer s H E B RX hr hg kx => ⟨r__law_scribe, (psd_one (psd_ret (pd_lstM (pda_cons (pd_lc (own := [("_law_cell", 1)]) rfl sc__law_scribe.nd (pid_seq (pd_slice (pd_var 0) pod_none (pod_some pd_int))) (blkOk_by (N := ["_law_script", "_law_cell"]) (sc := defScope st__law_scribe) (by decide +kernel)) (by decide) (fun _ _ _ _ _ _ => (pgd_name (i := 1) sc__law_scribe.nd rfl (by first | exact Or.inl rfl | exact Or.inr rfl))) (fun _ _ _ _ _ _ => ptsd_nil) (fun _ _ _ _ _ _ => (pd_callTy call_int1 cd_int rfl T.f_int (by decide +kernel) (pda_cons (pd_var 1) pda_nil)))) (pda_cons pd_int (pda_cons pd_int pda_nil)))))), fun xs G R h => v__law_scribe xs G R RX h⟩
abbrev sp__law_quill_by : DSp := spDial
def r__law_quill_by : DS := (dSeq (dIfS (dTst (dOp (fInt gGt) (dIx (dVar 0) (dC (.int 2))) (dC (.int 0)))) (dSeq (dSet 2 (dCal fIntOf (dCons (dIx (dVar 0) (dC (.int 2))) dNil))) (dSeq (dSetIx (dOp (fIntC CDivW fun i j => .int (i / j)) (dVar 2) (dVar 1)) (dVar 0) (dC (.int 2))) (dRet (dOp (fIntC (fun _ j => 0 < j) fun i j => .int (i % j)) (dCal fIntOf (dCons (dVar 2) dNil)) (dVar 1))))) dNext) (dSeq (dSet 3 (dIx (dVar 0) (dC (.int 1)))) (dSeq (dSetIx (dOp fAdd (dVar 3) (dC (.int 1))) (dVar 0) (dC (.int 1))) (dSeq (dIfS (dTst (dOp fEq (dIx (dVar 0) (dC (.int 0))) (dLst dNil))) (dRet (dC (.int 0))) dNext) (dSeq (dSet 4 (dIx (dIx (dVar 0) (dC (.int 0))) (dOp (fIntC (fun _ j => 0 < j) fun i j => .int (i % j)) (dCal fIntOf (dCons (dVar 3) dNil)) (dCal fLen (dCons (dIx (dVar 0) (dC (.int 0))) dNil))))) (dSeq (dIfS (dAnd (dTst (dOp (fInt gLt) (dVar 3) (dCal fLen (dCons (dIx (dVar 0) (dC (.int 0))) dNil)))) (dTst (dOp (fInt gGe) (dCal fAbs (dCons (dVar 4) dNil)) (dOp (fIntC CPw fun i j => .int (i ^ j.toNat)) (dC (.int 10)) (dC (.int 18)))))) (dSeq (dSet 2 (dOp fAdd (dOp (fIntC IntMulOk fun i j => .int (i * j)) (dC (.int 2)) (dOp (fInt fun i j => .int (i - j)) (dCal fAbs (dCons (dCal fIntOf (dCons (dVar 4) dNil)) dNil)) (dOp (fIntC CPw fun i j => .int (i ^ j.toNat)) (dC (.int 10)) (dC (.int 18))))) (dCal fIntOf (dCons (dOp (fInt gLt) (dVar 4) (dC (.int 0))) dNil)))) (dSeq (dSetIx (dOp (fIntC CDivW fun i j => .int (i / j)) (dVar 2) (dVar 1)) (dVar 0) (dC (.int 2))) (dRet (dOp (fIntC (fun _ j => 0 < j) fun i j => .int (i % j)) (dCal fIntOf (dCons (dVar 2) dNil)) (dVar 1))))) dNext) (dSeq (dSet 5 (dOp (fIntC (fun _ j => 0 < j) fun i j => .int (i % j)) (dCal fIntOf (dCons (dOp (fIntC CPw fun i j => .int (i ^ j.toNat)) (dOp fAdd (dOp fAdd (dOp (fIntC (fun _ j => 0 < j) fun i j => .int (i % j)) (dCal fIntOf (dCons (dVar 4) dNil)) (dC (.int 2147483477))) (dOp (fIntC IntMulOk fun i j => .int (i * j)) (dC (.int 45007)) (dVar 3))) (dC (.int 10007))) (dC (.int 5))) dNil)) (dC (.int 2147483423)))) (dSeq (dSet 5 (dOp (fIntC (fun _ j => 0 < j) fun i j => .int (i % j)) (dCal fIntOf (dCons (dOp (fIntC CPw fun i j => .int (i ^ j.toNat)) (dOp fAdd (dOp fAdd (dOp (fIntC IntMulOk fun i j => .int (i * j)) (dVar 5) (dOp fAdd (dOp (fIntC IntMulOk fun i j => .int (i * j)) (dC (.int 2)) (dVar 3)) (dC (.int 10009)))) (dOp (fIntC IntMulOk fun i j => .int (i * j)) (dOp (fIntC IntMulOk fun i j => .int (i * j)) (dC (.int 59009)) (dVar 3)) (dVar 3))) (dC (.int 45013))) (dC (.int 3))) dNil)) (dC (.int 2147483399)))) (dRet (dOp (fIntC (fun _ j => 0 < j) fun i j => .int (i % j)) (dCal fIntOf (dCons (dOp (fIntC CDivW fun i j => .int (i / j)) (dVar 5) (dC (.int 64))) dNil)) (dVar 1)))))))))))
theorem sc__law_quill_by : FnScope ["_law_scribe_here", "_law_many", "_law_rest", "_law_turn", "_law_cell", "_law_mixed"] ["_law_scribe_here", "_law_many"] (defScope st__law_quill_by) := ⟨rfl, rfl, rfl, by decide +kernel, rfl, by decide +kernel, by decide +kernel⟩
theorem v__law_quill_by (xs : List D) (G : Gm) (R : KD) (RX : XD) (h : sp__law_quill_by xs G R RX) : r__law_quill_by { nx := fun _ G => R .non G, rt := R } (xs.map some ++ List.replicate (6 - xs.length) none) G := by
  exact dialA_ok (c0 := 2147483477) (c1 := 45007) (c2 := 10007) (c3 := 2147483423) (c4 := 10009) (c5 := 59009) (c6 := 45013) (c7 := 2147483399) ⟨by decide, by decide⟩ ⟨by decide, by decide⟩ ⟨by decide, by decide⟩ ⟨by decide, by decide⟩ ⟨by decide, by decide⟩ ⟨by decide, by decide⟩ ⟨by decide, by decide⟩ ⟨by decide, by decide⟩ xs G R RX h
theorem l__law_quill_by (xs : List D) (G : Gm) (R : KD) (RX : XD) (h : sp__law_quill_by xs G R RX) : xs.length = 2 := by
  obtain ⟨_, _, _, rfl, _⟩ := h
  rfl
set_option maxHeartbeats 4000000 in
theorem k__law_quill_by {P : Program} {w : World} {K : PySem.W.Frag} {mg : Str → Option Value} {base : Heap} (T : Tx mg) (F : Df K mg "_law_quill_by" st__law_quill_by) :
    Kn P w K mg base 1 "_law_quill_by" st__law_quill_by ["_law_scribe_here", "_law_many"] sp__law_quill_by :=
  kn_of F.g F.f sc__law_quill_by l__law_quill_by fun cdv hcv A outer s H E B RX hr hg kx => ⟨r__law_quill_by, (psd_cons (psd_if (ptd_cmp op_gt od_bl (pd_ix (pd_var 0) pd_int (fun _ _ => rfl)) pd_int (nomark _)) (psd_cons (psd_set (i := 2) sc__law_quill_by.nd rfl (by first | exact Or.inl rfl | exact Or.inr rfl) (pd_callTy call_int1 cd_int rfl T.f_int (by decide +kernel) (pda_cons (pd_ix (pd_var 0) pd_int (fun _ _ => rfl)) pda_nil))) (psd_cons (psd_setIx (pd_fdiv (pd_var 2) (pd_var 1)) (pd_var 0) pd_int) (psd_one (psd_ret (pd_mod (pd_callTy call_int1 cd_int rfl T.f_int (by decide +kernel) (pda_cons (pd_var 2) pda_nil)) (pd_var 1)))))) psd_nil) (psd_cons (psd_set (i := 3) sc__law_quill_by.nd rfl (by first | exact Or.inl rfl | exact Or.inr rfl) (pd_ix (pd_var 0) pd_int (fun _ _ => rfl))) (psd_cons (psd_setIx (pd_add (pd_var 3) pd_int) (pd_var 0) pd_int) (psd_cons (psd_if (ptd_cmp (op_eq2 hr.units) od_eq (pd_ix (pd_var 0) pd_int (fun _ _ => rfl)) (pd_lst pda_nil) (nomark _)) (psd_one (psd_ret pd_int)) psd_nil) (psd_cons (psd_set (i := 4) sc__law_quill_by.nd rfl (by first | exact Or.inl rfl | exact Or.inr rfl) (pd_ix (pd_ix (pd_var 0) pd_int (fun _ _ => rfl)) (pd_mod (pd_callTy call_int1 cd_int rfl T.f_int (by decide +kernel) (pda_cons (pd_var 3) pda_nil)) (pd_len rfl rfl T.f_len (pd_ix (pd_var 0) pd_int (fun _ _ => rfl)))) (fun _ _ => rfl))) (psd_cons (psd_if (PW.pt (pwd_and (ptd_cmp op_lt od_bl (pd_var 3) (pd_len rfl rfl T.f_len (pd_ix (pd_var 0) pd_int (fun _ _ => rfl))) (nomark _)) (pwd_and1 (ptd_cmp op_ge od_bl (pd_callB call_abs cd_abs rfl T.f_abs (by decide +kernel) (pda_cons (pd_var 4) pda_nil)) (pd_pow pd_int pd_int) (nomark _))))) (psd_cons (psd_set (i := 2) sc__law_quill_by.nd rfl (by first | exact Or.inl rfl | exact Or.inr rfl) (pd_add (pd_mul pd_int (pd_sub (pd_callB call_abs cd_abs rfl T.f_abs (by decide +kernel) (pda_cons (pd_callTy call_int1 cd_int rfl T.f_int (by decide +kernel) (pda_cons (pd_var 4) pda_nil)) pda_nil)) (pd_pow pd_int pd_int))) (pd_callTy call_int1 cd_int rfl T.f_int (by decide +kernel) (pda_cons (pd_cmp op_lt od_bl (pd_var 4) pd_int (nomark _)) pda_nil)))) (psd_cons (psd_setIx (pd_fdiv (pd_var 2) (pd_var 1)) (pd_var 0) pd_int) (psd_one (psd_ret (pd_mod (pd_callTy call_int1 cd_int rfl T.f_int (by decide +kernel) (pda_cons (pd_var 2) pda_nil)) (pd_var 1)))))) psd_nil) (psd_cons (psd_set (i := 5) sc__law_quill_by.nd rfl (by first | exact Or.inl rfl | exact Or.inr rfl) (pd_mod (pd_callTy call_int1 cd_int rfl T.f_int (by decide +kernel) (pda_cons (pd_pow (pd_add (pd_add (pd_mod (pd_callTy call_int1 cd_int rfl T.f_int (by decide +kernel) (pda_cons (pd_var 4) pda_nil)) pd_int) (pd_mul pd_int (pd_var 3))) pd_int) pd_int) pda_nil)) pd_int)) (psd_cons (psd_set (i := 5) sc__law_quill_by.nd rfl (by first | exact Or.inl rfl | exact Or.inr rfl) (pd_mod (pd_callTy call_int1 cd_int rfl T.f_int (by decide +kernel) (pda_cons (pd_pow (pd_add (pd_add (pd_mul (pd_var 5) (pd_add (pd_mul pd_int (pd_var 3)) pd_int)) (pd_mul (pd_mul pd_int (pd_var 3)) (pd_var 3))) pd_int) pd_int) pda_nil)) pd_int)) (psd_one (psd_ret (pd_mod (pd_callTy call_int1 cd_int rfl T.f_int (by decide +kernel) (pda_cons (pd_fdiv (pd_var 5) pd_int) pda_nil)) (pd_var 1)))))))))))), fun xs G R h => v__law_quill_by xs G R RX h⟩
abbrev sp__law_pick : DSp := spPick
def r__law_pick : DS := (dRet (dIx (dVar 1) (dCall sp__law_quill_by X0 (dCons (dVar 0) (dCons (dCal fLen (dCons (dVar 1) dNil)) dNil)))))
theorem sc__law_pick : FnScope ["_law_scribe_here", "_law_some"] ["_law_scribe_here", "_law_some"] (defScope st__law_pick) := ⟨rfl, rfl, rfl, by decide +kernel, rfl, by decide +kernel, by decide +kernel⟩
theorem v__law_pick (xs : List D) (G : Gm) (R : KD) (RX : XD) (h : sp__law_pick xs G R RX) : r__law_pick { nx := fun _ G => R .non G, rt := R } (xs.map some ++ List.replicate (2 - xs.length) none) G := by
  exact pick_ok xs G R RX h
theorem l__law_pick (xs : List D) (G : Gm) (R : KD) (RX : XD) (h : sp__law_pick xs G R RX) : xs.length = 2 := by
  obtain ⟨_, _, _, _, rfl, _⟩ := h
  rfl
set_option maxHeartbeats 4000000 in
theorem k__law_pick {P : Program} {w : World} {K : PySem.W.Frag} {mg : Str → Option Value} {base : Heap} (T : Tx mg) (F : Df K mg "_law_pick" st__law_pick) (k__law_quill_by : Kn P w K mg base 1 "_law_quill_by" st__law_quill_by ["_law_scribe_here", "_law_many"] sp__law_quill_by) :
    Kn P w K mg base 2 "_law_pick" st__law_pick ["_law_scribe_here", "_law_some"] sp__law_pick :=
  kn_of F.g F.f sc__law_pick l__law_pick fun cdv hcv A outer s H E B RX hr hg kx => ⟨r__law_pick, (psd_one (psd_ret (pd_ix (pd_var 1) (pd_call k__law_quill_by (hr.mono (by decide)) hg rfl pass0 kx0 (fun _ _ _ _ _ _ us hl => match us, hl with | [_, _], _ => rfl) (pda_cons (pd_var 0) (pda_cons (pd_len rfl rfl T.f_len (pd_var 1)) pda_nil))) (fun _ _ => rfl)))), fun xs G R h => v__law_pick xs G R RX h⟩
abbrev sp__law_low : DSp := DL.sp_lowK
def r__law_low : DS := (dSeq (dPar 2 3 (dCons (dCal fAbs (dCons (dVar 0) dNil)) (dCons (dVar 1) dNil))) (dSeq (dWhile (dTst (dOp (fInt gGt) (dVar 3) (dC (.int 0)))) (dPar 2 3 (dCons (dVar 3) (dCons (dOp (fIntC (fun _ j => 0 < j) fun i j => .int (i % j)) (dCal fIntOf (dCons (dVar 2) dNil)) (dVar 3)) dNil)))) (dRet (dIf (dTst (dOp fEq (dOp (fIntC CDivZ fun i j => .int (Int.fdiv i j)) (dVar 1) (dVar 2)) (dC (.int 1)))) (dOp (fIntC CDivZ fun i j => .int (Int.fdiv i j)) (dVar 0) (dVar 2)) (dTup (dCons (dOp (fIntC CDivZ fun i j => .int (Int.fdiv i j)) (dVar 0) (dVar 2)) (dCons (dOp (fIntC CDivZ fun i j => .int (Int.fdiv i j)) (dVar 1) (dVar 2)) dNil)))))))
theorem sc__law_low : FnScope ["_law_above", "_law_under", "_law_one", "_law_other"] ["_law_above", "_law_under"] (defScope st__law_low) := ⟨rfl, rfl, rfl, by decide +kernel, rfl, by decide +kernel, by decide +kernel⟩
theorem v__law_low (xs : List D) (G : Gm) (R : KD) (RX : XD) (h : sp__law_low xs G R RX) : r__law_low { nx := fun _ G => R .non G, rt := R } (xs.map some ++ List.replicate (4 - xs.length) none) G := by
  exact lowK_ok xs G R RX h
theorem l__law_low (xs : List D) (G : Gm) (R : KD) (RX : XD) (h : sp__law_low xs G R RX) : xs.length = 2 := by
  obtain ⟨_, _, rfl, _⟩ := h
  rfl
set_option maxHeartbeats 4000000 in
theorem k__law_low {P : Program} {w : World} {K : PySem.W.Frag} {mg : Str → Option Value} {base : Heap} (T : Tx mg) (F : Df K mg "_law_low" st__law_low) :
    Kn P w K mg base 1 "_law_low" st__law_low ["_law_above", "_law_under"] sp__law_low :=
  kn_of F.g F.f sc__law_low l__law_low fun cdv hcv A outer s H E B RX hr hg kx => ⟨r__law_low, (psd_cons (psd_par (i := 2) (j := 3) rfl sc__law_low.nd rfl rfl (by decide) rfl rfl (pda_cons (pd_callB call_abs cd_abs rfl T.f_abs (by decide +kernel) (pda_cons (pd_var 0) pda_nil)) (pda_cons (pd_var 1) pda_nil)) rfl) (psd_cons (psd_while (passes_of rfl) (ptd_cmp op_gt od_bl (pd_var 3) pd_int (nomark _)) (psd_one (psd_par (i := 2) (j := 3) rfl sc__law_low.nd rfl rfl (by decide) rfl rfl (pda_cons (pd_var 3) (pda_cons (pd_mod (pd_callTy call_int1 cd_int rfl T.f_int (by decide +kernel) (pda_cons (pd_var 2) pda_nil)) (pd_var 3)) pda_nil)) rfl))) (psd_one (psd_ret (pd_if (ptd_cmp (op_eq2 hr.units) od_eq (pd_fdivZ (pd_var 1) (pd_var 2)) pd_int (nomark _)) (pd_fdivZ (pd_var 0) (pd_var 2)) (pd_tup (pda_cons (pd_fdivZ (pd_var 0) (pd_var 2)) (pda_cons (pd_fdivZ (pd_var 1) (pd_var 2)) pda_nil)))))))), fun xs G R h => v__law_low xs G R RX h⟩
abbrev sp__law_whole : DSp := DL.sp_wr
def r__law_whole : DS := (dSeq (dSet 1 (dIf (dTst (dOp fEq (dSlS (dVar 0) dNoP (dPart (dC (.int 1)))) (dC (.str "-")))) (dSlS (dVar 0) (dPart (dC (.int 1))) dNoP) (dVar 0))) (dSeq (dIfS (dOr (dTst (dOp fEq (dVar 1) (dC (.str "")))) (dOr (dTst (dOp (fInt gGt) (dCal fLen (dCons (dVar 1) dNil)) (dC (.int 140)))) (dTst (dOp fNe (dCmp (dIStr (dVar 1)) (gN 2) (dTst (dOp (fInC true) (dVar 2) (dC (.str "0123456789")))) (dVar 2) [2]) (dLst dNil))))) (dRet (dC .non)) dNext) (dRet (dIf (dOr (dTst (dOp fNe (dIx (dVar 1) (dC (.int 0))) (dC (.str "0")))) (dTst (dOp fEq (dVar 0) (dC (.str "0"))))) (dCal fIntT (dCons (dVar 0) dNil)) (dC .non)))))
theorem sc__law_whole : FnScope ["_law_text", "_law_digits", "_law_sign"] ["_law_text"] (defScope st__law_whole) := ⟨rfl, rfl, rfl, by decide +kernel, rfl, by decide +kernel, by decide +kernel⟩
theorem v__law_whole (xs : List D) (G : Gm) (R : KD) (RX : XD) (h : sp__law_whole xs G R RX) : r__law_whole { nx := fun _ G => R .non G, rt := R } (xs.map some ++ List.replicate (3 - xs.length) none) G := by
  exact lwhole_ok xs G R RX h
theorem l__law_whole (xs : List D) (G : Gm) (R : KD) (RX : XD) (h : sp__law_whole xs G R RX) : xs.length = 1 := by
  obtain ⟨_, rfl, _⟩ := h
  rfl
set_option maxHeartbeats 4000000 in
theorem k__law_whole {P : Program} {w : World} {K : PySem.W.Frag} {mg : Str → Option Value} {base : Heap} (T : Tx mg) (F : Df K mg "_law_whole" st__law_whole) :
    Kn P w K mg base 1 "_law_whole" st__law_whole ["_law_text"] sp__law_whole :=
  kn_of F.g F.f sc__law_whole l__law_whole fun cdv hcv A outer s H E B RX hr hg kx => ⟨r__law_whole, (psd_cons (psd_set (i := 1) sc__law_whole.nd rfl (by first | exact Or.inl rfl | exact Or.inr rfl) (pd_if (ptd_cmp (op_eq2 hr.units) od_eq (pd_sliceS (pd_var 0) pod_none (pod_some pd_int)) pd_str (nomark _)) (pd_sliceS (pd_var 0) (pod_some pd_int) pod_none) (pd_var 0))) (psd_cons (psd_if (PW.pt (pwd_or (ptd_cmp (op_eq2 hr.units) od_eq (pd_var 1) pd_str (nomark _)) (pwd_or (ptd_cmp op_gt od_bl (pd_len rfl rfl T.f_len (pd_var 1)) pd_int (nomark _)) (pwd_or1 (ptd_cmp (op_ne2 hr.units) od_ne (pd_lc (own := [("_law_sign", 2)]) rfl sc__law_whole.nd (pid_str (pd_var 1)) (blkOk_by (N := ["_law_text", "_law_digits", "_law_sign"]) (sc := defScope st__law_whole) (by decide +kernel)) (by decide) (fun _ _ _ _ _ _ => (pgd_name (i := 2) sc__law_whole.nd rfl (by first | exact Or.inl rfl | exact Or.inr rfl))) (fun _ _ _ _ _ _ => ptsd_one (ptd_cmp op_notIn_sign od_notInC (pd_var 2) pd_str (by first | rfl | decide +kernel))) (fun _ _ _ _ _ _ => (pd_var 2))) (pd_lst pda_nil) (nomark _)))))) (psd_one (psd_ret pd_non)) psd_nil) (psd_one (psd_ret (pd_if (PW.pt (pwd_or (ptd_cmp (op_ne2 hr.units) od_ne (pd_ix (pd_var 1) pd_int (fun _ _ => rfl)) pd_str (nomark _)) (pwd_or1 (ptd_cmp (op_eq2 hr.units) od_eq (pd_var 0) pd_str (nomark _))))) (pd_callTy call_int_str cd_intT rfl T.f_int (by decide +kernel) (pda_cons (pd_var 0) pda_nil)) pd_non))))), fun xs G R h => v__law_whole xs G R RX h⟩
abbrev sp__law_read : DSp := DL.sp_frT
def r__law_read : DS := (dSeq (dSet 1 (dSplit (dVar 0) (dC (.str "/")))) (dSeq (dIfS (dTst (dOp fEq (dCal fLen (dCons (dVar 1) dNil)) (dC (.int 1)))) (dRet (dCall sp__law_whole X0 (dCons (dVar 0) dNil))) dNext) (dSeq (dPar 2 3 (dCons (dCall sp__law_whole X0 (dCons (dIx (dVar 1) (dC (.int 0))) dNil)) (dCons (dCall sp__law_whole X0 (dCons (dIx (dVar 1) (dC (.int 1))) dNil)) dNil))) (dSeq (dIfS (dOr (dTst (dOp (fInt gGt) (dCal fLen (dCons (dVar 1) dNil)) (dC (.int 2)))) (dOr (dTst (dIsN (dVar 2))) (dOr (dTst (dIsN (dVar 3))) (dTst (dOp (fInt gLt) (dVar 3) (dC (.int 2))))))) (dRet (dC .non)) dNext) (dRet (dIf (dTst (dOp fEq (dCall sp__law_low X0 (dCons (dVar 2) (dCons (dVar 3) dNil))) (dTup (dCons (dVar 2) (dCons (dVar 3) dNil))))) (dTup (dCons (dVar 2) (dCons (dVar 3) dNil))) (dC .non)))))))
theorem sc__law_read : FnScope ["_law_text", "_law_parts", "_law_above", "_law_under"] ["_law_text"] (defScope st__law_read) := ⟨rfl, rfl, rfl, by decide +kernel, rfl, by decide +kernel, by decide +kernel⟩
theorem v__law_read (xs : List D) (G : Gm) (R : KD) (RX : XD) (h : sp__law_read xs G R RX) : r__law_read { nx := fun _ G => R .non G, rt := R } (xs.map some ++ List.replicate (4 - xs.length) none) G := by
  exact lread_ok xs G R RX h
theorem l__law_read (xs : List D) (G : Gm) (R : KD) (RX : XD) (h : sp__law_read xs G R RX) : xs.length = 1 := by
  obtain ⟨_, rfl, _⟩ := h
  rfl
set_option maxHeartbeats 4000000 in
theorem k__law_read {P : Program} {w : World} {K : PySem.W.Frag} {mg : Str → Option Value} {base : Heap} (T : Tx mg) (F : Df K mg "_law_read" st__law_read) (k__law_low : Kn P w K mg base 1 "_law_low" st__law_low ["_law_above", "_law_under"] sp__law_low) (k__law_whole : Kn P w K mg base 1 "_law_whole" st__law_whole ["_law_text"] sp__law_whole) :
    Kn P w K mg base 2 "_law_read" st__law_read ["_law_text"] sp__law_read :=
  kn_of F.g F.f sc__law_read l__law_read fun cdv hcv A outer s H E B RX hr hg kx => ⟨r__law_read, (psd_cons (psd_set (i := 1) sc__law_read.nd rfl (by first | exact Or.inl rfl | exact Or.inr rfl) (pd_split (pd_var 0) pd_str)) (psd_cons (psd_if (ptd_cmp (op_eq2 hr.units) od_eq (pd_len rfl rfl T.f_len (pd_var 1)) pd_int (nomark _)) (psd_one (psd_ret (pd_call k__law_whole (hr.mono (by decide)) hg rfl pass0 kx0 (fun _ _ _ _ _ _ us hl => match us, hl with | [_], _ => rfl) (pda_cons (pd_var 0) pda_nil)))) psd_nil) (psd_cons (psd_par (i := 2) (j := 3) rfl sc__law_read.nd rfl rfl (by decide) rfl rfl (pda_cons (pd_call k__law_whole (hr.mono (by decide)) hg rfl pass0 kx0 (fun _ _ _ _ _ _ us hl => match us, hl with | [_], _ => rfl) (pda_cons (pd_ix (pd_var 1) pd_int (fun _ _ => rfl)) pda_nil)) (pda_cons (pd_call k__law_whole (hr.mono (by decide)) hg rfl pass0 kx0 (fun _ _ _ _ _ _ us hl => match us, hl with | [_], _ => rfl) (pda_cons (pd_ix (pd_var 1) pd_int (fun _ _ => rfl)) pda_nil)) pda_nil)) rfl) (psd_cons (psd_if (PW.pt (pwd_or (ptd_cmp op_gt od_bl (pd_len rfl rfl T.f_len (pd_var 1)) pd_int (nomark _)) (pwd_or (ptd_isN (pd_var 2)) (pwd_or (ptd_isN (pd_var 3)) (pwd_or1 (ptd_cmp op_lt od_bl (pd_var 3) pd_int (nomark _))))))) (psd_one (psd_ret pd_non)) psd_nil) (psd_one (psd_ret (pd_if (ptd_cmp (op_eq2 hr.units) od_eq (pd_call k__law_low (hr.mono (by decide)) hg rfl pass0 kx0 (fun _ _ _ _ _ _ us hl => match us, hl with | [_, _], _ => rfl) (pda_cons (pd_var 2) (pda_cons (pd_var 3) pda_nil))) (pd_tup (pda_cons (pd_var 2) (pda_cons (pd_var 3) pda_nil))) (nomark _)) (pd_tup (pda_cons (pd_var 2) (pda_cons (pd_var 3) pda_nil))) pd_non))))))), fun xs G R h => v__law_read xs G R RX h⟩
abbrev sp__law_told : DSp := DL.sp_lTold
def r__law_told : DS := (dTryR 1 errs subE "BadText" "line" "item" (fun RX => dCallK sp_number_of (ordOf [0]) RX (dCons (dVar 0) dNil)))
theorem sc__law_told : FnScope ["_law_text", "error"] ["_law_text"] (defScope st__law_told) := ⟨rfl, rfl, rfl, by decide +kernel, rfl, by decide +kernel, by decide +kernel⟩
theorem v__law_told (xs : List D) (G : Gm) (R : KD) (RX : XD) (h : sp__law_told xs G R RX) : r__law_told { nx := fun _ G => R .non G, rt := R } (xs.map some ++ List.replicate (2 - xs.length) none) G := by
  exact toldT_ok (by decide +kernel) (by decide +kernel) (RX := RX) h
theorem l__law_told (xs : List D) (G : Gm) (R : KD) (RX : XD) (h : sp__law_told xs G R RX) : xs.length = 1 := by
  obtain ⟨_, rfl, _⟩ := h
  rfl
set_option maxHeartbeats 4000000 in
theorem k__law_told {P : Program} {w : World} {K : PySem.W.Frag} {mg : Str → Option Value} {base : Heap} (T : Tx mg) (F : Df K mg "_law_told" st__law_told) (I : IsC K mg errs subE errF) (k_number_of : Kn P w K mg base 4 "number_of" st_number_of ["text"] sp_number_of) :
    Kn P w K mg base 5 "_law_told" st__law_told ["_law_text"] sp__law_told :=
  kn_of F.g F.f sc__law_told l__law_told fun cdv hcv A outer s H E B RX hr hg kx => ⟨r__law_told, (psd_one (psd_tryR (i := 1) (cs := errs) (sub := subE) (x := "BadText") (f := "line") (g := "item") (fun C hC => I.f C hC) (fun C hC => I.n C hC _ (by decide +kernel)) (fun C hC => I.n C hC _ (by decide +kernel)) (fun C hC => I.m C hC "BadText" (by decide +kernel)) rfl rfl sc__law_told.nd rfl rfl ⟨rfl, by decide, .inl (I.g _ (by decide +kernel))⟩ (fun a o cls d pins hz hf F => (psd_ret (pd_lst (pda_cons (pd_xs F.one hz hf rfl rfl) (pda_cons (pd_xs F.two hz hf rfl rfl) pda_nil))))) (fun W pins xe tk => (pex_callK (ks := ["text"]) (ordOf [0]) k_number_of (hr.mono (by decide)) hg rfl tk (fun _ _ _ _ _ _ us hl => match us, hl with | [_], _ => rfl) rfl (ordOf_len rfl) (pkd_cons (pd_var 0) pkd_nil (fun h => pk_cons (pd_var 0) h)))))), fun xs G R h => v__law_told xs G R RX h⟩
abbrev sp__law_bent : DSp := DL.sp_bentT
def r__law_bent : DS := (dSeq (dPar 2 3 (dCons (dCall sp__law_quill_by X0 (dCons (dVar 0) (dCons (dOp fAdd (dCal fLen (dCons (dVar 1) dNil)) (dC (.int 1))) dNil))) (dCons (dCall sp__law_quill_by X0 (dCons (dVar 0) (dCons (dC (.int 5)) dNil))) dNil))) (dSeq (dSet 4 (dCall sp__law_pick X0 (dCons (dVar 0) (dCons (dLst (dCons (dC (.str "0")) (dCons (dC (.str "1")) (dCons (dC (.str "-")) (dCons (dC (.str "/")) (dCons (dC (.str " ")) (dCons (dC (.str "+")) (dCons (dC (.str "_")) (dCons (dC (.str "2")) (dCons (dC (.str ".")) (dCons (dC (.str "x")) (dCons (dC (.str "")) (dCons (dC (.str "a")) dNil))))))))))))) dNil)))) (dSeq (dIfS (dTst (dOp fEq (dVar 3) (dC (.int 0)))) (dRet (dOp fAdd (dSlS (dVar 1) dNoP (dPart (dVar 2))) (dSlS (dVar 1) (dPart (dOp fAdd (dVar 2) (dC (.int 1)))) dNoP))) dNext) (dSeq (dIfS (dTst (dOp fEq (dVar 3) (dC (.int 1)))) (dRet (dOp fAdd (dOp fAdd (dSlS (dVar 1) dNoP (dPart (dVar 2))) (dVar 4)) (dSlS (dVar 1) (dPart (dOp fAdd (dVar 2) (dC (.int 1)))) dNoP))) dNext) (dRet (dIf (dTst (dOp (fInt gLt) (dVar 3) (dC (.int 4)))) (dOp fAdd (dOp fAdd (dSlS (dVar 1) dNoP (dPart (dVar 2))) (dVar 4)) (dSlS (dVar 1) (dPart (dVar 2)) dNoP)) (dOp fAdd (dVar 1) (dSlS (dVar 1) (dPart (dVar 2)) dNoP))))))))
theorem sc__law_bent : FnScope ["_law_scribe_here", "_law_text", "_law_at", "_law_way", "_law_sign"] ["_law_scribe_here", "_law_text"] (defScope st__law_bent) := ⟨rfl, rfl, rfl, by decide +kernel, rfl, by decide +kernel, by decide +kernel⟩
theorem v__law_bent (xs : List D) (G : Gm) (R : KD) (RX : XD) (h : sp__law_bent xs G R RX) : r__law_bent { nx := fun _ G => R .non G, rt := R } (xs.map some ++ List.replicate (5 - xs.length) none) G := by
  exact bentT_ok xs G R RX h
theorem l__law_bent (xs : List D) (G : Gm) (R : KD) (RX : XD) (h : sp__law_bent xs G R RX) : xs.length = 2 := by
  obtain ⟨_, _, _, rfl, _⟩ := h
  rfl
set_option maxHeartbeats 4000000 in
theorem k__law_bent {P : Program} {w : World} {K : PySem.W.Frag} {mg : Str → Option Value} {base : Heap} (T : Tx mg) (F : Df K mg "_law_bent" st__law_bent) (k__law_quill_by : Kn P w K mg base 1 "_law_quill_by" st__law_quill_by ["_law_scribe_here", "_law_many"] sp__law_quill_by) (k__law_pick : Kn P w K mg base 2 "_law_pick" st__law_pick ["_law_scribe_here", "_law_some"] sp__law_pick) :
    Kn P w K mg base 3 "_law_bent" st__law_bent ["_law_scribe_here", "_law_text"] sp__law_bent :=
  kn_of F.g F.f sc__law_bent l__law_bent fun cdv hcv A outer s H E B RX hr hg kx => ⟨r__law_bent, (psd_cons (psd_par (i := 2) (j := 3) rfl sc__law_bent.nd rfl rfl (by decide) rfl rfl (pda_cons (pd_call k__law_quill_by (hr.mono (by decide)) hg rfl pass0 kx0 (fun _ _ _ _ _ _ us hl => match us, hl with | [_, _], _ => rfl) (pda_cons (pd_var 0) (pda_cons (pd_add (pd_len rfl rfl T.f_len (pd_var 1)) pd_int) pda_nil))) (pda_cons (pd_call k__law_quill_by (hr.mono (by decide)) hg rfl pass0 kx0 (fun _ _ _ _ _ _ us hl => match us, hl with | [_, _], _ => rfl) (pda_cons (pd_var 0) (pda_cons pd_int pda_nil))) pda_nil)) rfl) (psd_cons (psd_set (i := 4) sc__law_bent.nd rfl (by first | exact Or.inl rfl | exact Or.inr rfl) (pd_call k__law_pick (hr.mono (by decide)) hg rfl pass0 kx0 (fun _ _ _ _ _ _ us hl => match us, hl with | [_, _], _ => rfl) (pda_cons (pd_var 0) (pda_cons (pd_lst (pda_cons pd_str (pda_cons pd_str (pda_cons pd_str (pda_cons pd_str (pda_cons pd_str (pda_cons pd_str (pda_cons pd_str (pda_cons pd_str (pda_cons pd_str (pda_cons pd_str (pda_cons pd_str (pda_cons pd_str pda_nil))))))))))))) pda_nil)))) (psd_cons (psd_if (ptd_cmp (op_eq2 hr.units) od_eq (pd_var 3) pd_int (nomark _)) (psd_one (psd_ret (pd_add (pd_sliceS (pd_var 1) pod_none (pod_some (pd_var 2))) (pd_sliceS (pd_var 1) (pod_some (pd_add (pd_var 2) pd_int)) pod_none)))) psd_nil) (psd_cons (psd_if (ptd_cmp (op_eq2 hr.units) od_eq (pd_var 3) pd_int (nomark _)) (psd_one (psd_ret (pd_add (pd_add (pd_sliceS (pd_var 1) pod_none (pod_some (pd_var 2))) (pd_var 4)) (pd_sliceS (pd_var 1) (pod_some (pd_add (pd_var 2) pd_int)) pod_none)))) psd_nil) (psd_one (psd_ret (pd_if (ptd_cmp op_lt od_bl (pd_var 3) pd_int (nomark _)) (pd_add (pd_add (pd_sliceS (pd_var 1) pod_none (pod_some (pd_var 2))) (pd_var 4)) (pd_sliceS (pd_var 1) (pod_some (pd_var 2)) pod_none)) (pd_add (pd_var 1) (pd_sliceS (pd_var 1) (pod_some (pd_var 2)) pod_none))))))))), fun xs G R h => v__law_bent xs G R RX h⟩
abbrev sp_law : DSp := lawSp
def r_law : DS := (dSeq (dSet 1 (dCall sp__law_scribe X0 (dCons (dVar 0) dNil))) (dSeq (dFor (dIRng1 (dC (.int 6))) (gN 2) (dSeq (dSet 3 (dCall sp__law_pick X0 (dCons (dVar 1) (dCons (dLst (dCons (dC (.int 9)) (dCons (dC (.int 40)) (dCons (dC (.int 2)) (dCons (dOp (fIntC CPw fun i j => .int (i ^ j.toNat)) (dC (.int 10)) (dC (.int 12))) (dCons (dOp (fIntC IntMulOk fun i j => .int (i * j)) (dOp (fIntC CPw fun i j => .int (i ^ j.toNat)) (dC (.int 10)) (dC (.int 60))) (dOp (fIntC CPw fun i j => .int (i ^ j.toNat)) (dC (.int 10)) (dC (.int 60)))) dNil)))))) dNil)))) (dSeq (dSet 4 (dCall sp__law_low X0 (dCons (dOp (fInt fun i j => .int (i - j)) (dCall sp__law_quill_by X0 (dCons (dVar 1) (dCons (dOp fAdd (dOp (fIntC IntMulOk fun i j => .int (i * j)) (dC (.int 2)) (dVar 3)) (dC (.int 1))) dNil))) (dVar 3)) (dCons (dOp fAdd (dC (.int 1)) (dCall sp__law_quill_by X0 (dCons (dVar 1) (dCons (dCall sp__law_pick X0 (dCons (dVar 1) (dCons (dLst (dCons (dC (.int 4)) (dCons (dVar 3) (dCons (dC (.int 12)) dNil)))) dNil))) dNil)))) dNil)))) (dSeq (dSet 5 (dIf (dTst (dCal (fIsi "int") (dCons (dVar 4) (dCons (dC (.ty "int")) dNil)))) (dCal fStrOf (dCons (dVar 4) dNil)) (dOp fAdd (dOp fAdd (dCal fStrOf (dCons (dIx (dVar 4) (dC (.int 0))) dNil)) (dC (.str "/"))) (dCal fStrOf (dCons (dIx (dVar 4) (dC (.int 1))) dNil))))) (dSeq (dSet 6 (dIf (dAnd (dTst (dCal (fIsi "tuple") (dCons (dVar 4) (dCons (dC (.ty "tuple")) dNil)))) (dTst (dOp fEq (dCall sp__law_quill_by X0 (dCons (dVar 1) (dCons (dC (.int 2)) dNil))) (dC (.int 0))))) (dCal fLstOf (dCons (dVar 4) dNil)) (dVar 4))) (dSeq (dIfS (dOr (dTst (dOp fNe (dLst (dCons (dCall sp_number_text X0 (dCons (dVar 6) dNil)) (dCons (dCallK sp_number_text (ordOf [0]) X0 (dCons (dVar 4) dNil)) dNil))) (dLst (dCons (dVar 5) (dCons (dVar 5) dNil))))) (dTst (dOp fNe (dCal fRepr (dCons (dCall sp_number_of X0 (dCons (dVar 5) dNil)) dNil)) (dCal fRepr (dCons (dVar 4) dNil))))) (dRet (dC (.bl false))) dNext) (dFor (dIRng1 (dC (.int 4))) (gN 7) (dSeq (dSet 8 (dCall sp__law_bent X0 (dCons (dVar 1) (dCons (dIf (dTst (dOp (fInt gLt) (dVar 7) (dC (.int 3)))) (dVar 5) (dCall sp__law_bent X0 (dCons (dVar 1) (dCons (dVar 5) dNil)))) dNil)))) (dSeq (dSet 9 (dCall sp__law_read X0 (dCons (dVar 8) dNil))) (dIfS (dTst (dOp fNe (dCal fRepr (dCons (dCall sp__law_told X0 (dCons (dVar 8) dNil)) dNil)) (dCal fRepr (dCons (dIf (dTst (dIsN (dVar 9))) (dLst (dCons (dC (.int 0)) (dCons (dC (.int 0)) dNil))) (dVar 9)) dNil)))) (dRet (dC (.bl false))) dNext)))))))))) (dSeq (dSet 10 (dCall sp__law_pick X0 (dCons (dVar 1) (dCons (dLst (dCons (dOp fMulS (dC (.str "9")) (dC (.int 140))) (dCons (dOp fMulS (dC (.str "9")) (dC (.int 141))) (dCons (dOp fAdd (dC (.str "-")) (dOp fMulS (dC (.str "9")) (dC (.int 140)))) (dCons (dOp fAdd (dC (.str "1/")) (dOp fMulS (dC (.str "7")) (dC (.int 140)))) (dCons (dOp fAdd (dC (.str "1/")) (dOp fMulS (dC (.str "7")) (dC (.int 141)))) (dCons (dOp fAdd (dOp fMulS (dC (.str "1")) (dC (.int 141))) (dC (.str "/2"))) dNil))))))) dNil)))) (dSeq (dSet 9 (dCall sp__law_read X0 (dCons (dVar 10) dNil))) (dSeq (dIfS (dTst (dOp fNe (dCal fRepr (dCons (dCall sp__law_told X0 (dCons (dVar 10) dNil)) dNil)) (dCal fRepr (dCons (dIf (dTst (dIsN (dVar 9))) (dLst (dCons (dC (.int 0)) (dCons (dC (.int 0)) dNil))) (dVar 9)) dNil)))) (dRet (dC (.bl false))) dNext) (dSeq (dSet 11 (dCall sp__law_pick X0 (dCons (dVar 1) (dCons (dLst (dCons (dC .non) (dCons (dC (.int 5)) (dCons (dLst (dCons (dC (.str "1")) dNil)) (dCons (dTup (dCons (dC (.int 1)) (dCons (dC (.int 2)) dNil))) (dCons (dC (.bl true)) (dCons dDct0 (dCons (dLst (dCons (dC (.int 1)) dNil)) dNil)))))))) dNil)))) (dSeq (dSet 12 (dC .non)) (dSeq (dTryH 13 12 errs (fun RX => dCall sp_number_text RX (dCons (dCall sp__law_pick X0 (dCons (dVar 1) (dCons (dLst (dCons (dC .non) (dCons (dC (.bl true)) (dCons (dC (.str "1")) (dCons (dTup (dCons (dC (.int 2)) (dCons (dC (.int 4)) dNil))) (dCons (dTup (dCons (dC (.int 1)) (dCons (dC (.int 1)) dNil))) (dCons (dLst (dCons (dC (.int 1)) dNil)) (dCons (dTup (dCons (dC (.int 0)) (dCons (dC (.int 3)) dNil))) dNil)))))))) dNil))) dNil))) (dRet (dAndV (dOp fEq (dCall sp__law_told X0 (dCons (dVar 11) dNil)) (dLst (dCons (dC (.int 0)) (dCons (dC (.int 0)) dNil)))) (dAndV (dIsO errs subE ["BadFraction"] (dVar 12)) (dOp fEq (dXf errs "part" (dVar 12)) (dC (.str "number"))))))))))))))
theorem sc_law : FnScope ["_law_script", "_law_scribe_here", "_law_turn", "_law_most", "_law_number", "_law_text", "_law_told_here", "_law_lap", "_law_bent_here", "_law_due", "_law_edge", "_law_odd", "_law_caught", "error"] ["_law_script"] (defScope st_law) := ⟨rfl, rfl, rfl, by decide +kernel, rfl, by decide +kernel, by decide +kernel⟩
theorem v_law (xs : List D) (G : Gm) (R : KD) (RX : XD) (h : sp_law xs G R RX) : r_law { nx := fun _ G => R .non G, rt := R } (xs.map some ++ List.replicate (14 - xs.length) none) G := by
  obtain ⟨ns, rfl, hl, _, h⟩ := h
  have t12 : CPw 10 12 := pow_ok (n := 4) (by decide) (by decide) (by decide)
  have t60 : CPw 10 60 := pow_ok (n := 4) (by decide) (by decide) (by decide)
  have m60 : IntMulOk (10 ^ Int.toNat 60) (10 ^ Int.toNat 60) := mul_both (a := 240) (b := 240) (by decide) (by decide) (by decide)
  have lt8 : ∀ z : Int, z ≤ 3 * 10 ^ 120 → z < 2 ^ 8000 := fun z hz => Int.lt_of_le_of_lt hz (by decide +kernel)
  unfold r_law
  walk_at "start"
  walk_at "xx"
  refine ⟨ns, rfl, hl, fun p m hp hm0 => ?_⟩
  walk_at "xx"
  refine forL_at (fun rest ρ G => rest.length ≤ 6 ∧ (∃ o2 o3 o4 o5 o6 o7 o8 o9 o10 o11 o12 o13, ρ = [some (.lst (ns.map D.int)), some (.ref p), o2, o3, o4, o5, o6, o7, o8, o9, o10, o11, o12, o13]) ∧ GauAt G p (200 * (6 - rest.length))) ?_ ?_ ?_
  · rintro x rest N ρ G hsuf hN ⟨hlen, ⟨o2, o3, o4, o5, o6, o7, o8, o9, o10, o11, o12, o13, rfl⟩, ⟨m, eg, hm⟩⟩
    rw [List.length_cons] at hlen hm
    rw [← gup_id eg]
    walk_at "xx"
    refine DL.Y.pickL (gau_gup hm) (by omega) (by simp) (Nat.le_of_ble_eq_true rfl) fun y m1 hy hm1 => ?_
    rw [gup_gup]
    obtain ⟨s, rfl, s1, s2⟩ : ∃ s : Int, y = .int s ∧ 2 ≤ s ∧ s ≤ 10 ^ 120 := by
      simp only [List.mem_cons, List.mem_nil_iff, or_false] at hy
      rcases hy with rfl | rfl | rfl | rfl | rfl
      · exact ⟨_, rfl, by decide, by decide +kernel⟩
      · exact ⟨_, rfl, by decide, by decide +kernel⟩
      · exact ⟨_, rfl, by decide, by decide +kernel⟩
      · exact ⟨_, rfl, by decide +kernel, by decide +kernel⟩
      · exact ⟨_, rfl, by decide +kernel, by decide +kernel⟩
    clear hy
    walk_at "xx"
    refine ⟨p, 2 * s + 1, _, rfl, gau_gup hm1, by omega, by omega, lt8 _ (by omega), fun v m2 v0 v1 hm2 => ?_⟩
    rw [gup_gup]
    walk_at "xx"
    refine DL.Y.pickL (gau_gup hm2) (by omega) (by simp) (Nat.le_of_ble_eq_true rfl) fun y m3 hy hm3 => ?_
    rw [gup_gup]
    obtain ⟨s', rfl, z1, z2⟩ : ∃ s' : Int, y = .int s' ∧ 2 ≤ s' ∧ s' ≤ 10 ^ 120 := by
      simp only [List.mem_cons, List.mem_nil_iff, or_false] at hy
      rcases hy with rfl | rfl | rfl
      · exact ⟨_, rfl, by decide, by decide +kernel⟩
      · exact ⟨_, rfl, s1, s2⟩
      · exact ⟨_, rfl, by decide, by decide +kernel⟩
    clear hy
    walk_at "xx"
    refine ⟨p, s', _, rfl, gau_gup hm3, by omega, by omega, lt8 _ (by omega), fun w m4 w0 w1 hm4 => ?_⟩
    rw [gup_gup]
    walk_at "xx"
    have eu : (((1 + w).toNat : Nat) : Int) = 1 + w := by omega
    have c140 : (10 : Int) ^ 120 + 2 < 10 ^ 140 := by decide +kernel
    have n140 : ((10 ^ 140 : Nat) : Int) = (10 : Int) ^ 140 := by decide +kernel
    have b140 : (10 : Nat) ^ 140 < 2 ^ 470 := p140
    refine ⟨v - s, (1 + w).toNat, by rw [eu], by omega, Nat.lt_of_lt_of_le (show (1 + w).toNat < 10 ^ 140 by omega) (Nat.le_trans (Nat.le_of_lt b140) (Nat.pow_le_pow_right (by decide) (by decide))), ?_⟩
    have l := low_le (a := v - s) (u := (((1 + w).toNat : Nat) : Int)) (by omega)
    have q1 : (Rat.divInt (v - s) (((1 + w).toNat : Nat) : Int)).num.natAbs < 10 ^ 140 := by omega
    have q2 : (Rat.divInt (v - s) (((1 + w).toNat : Nat) : Int)).den < 10 ^ 140 := by omega
    clear l eu
    generalize Rat.divInt (v - s) (((1 + w).toNat : Nat) : Int) = q at q1 q2 ⊢
    have qb : Qb 470 q := ⟨Nat.lt_trans q1 b140, Nat.lt_trans q2 b140⟩
    have tl_ := tx_len q1 q2
    have tok := ok_tx q
    have efr := frac_num q1 q2
    have l1 : q.num.natAbs.log2 < 1920 := Nat.lt_of_lt_of_le (log_lt qb.1 (by decide)) (by decide)
    have l2 : ((q.den : Int)).natAbs.log2 < 1920 := by rw [Int.natAbs_natCast]; exact Nat.lt_of_lt_of_le (log_lt qb.2 (by decide)) (by decide)
    have lb : ("/" : Str).length = 1 := by decide +kernel
    have sz := sizeLine_eq
    walk_at "xs"
    refine DL.Y.bind (P := fun x G2 => x = .str (numTx q) ∧ G2 = gup G p m4) (fun R0 hR => ?_) ?_
    · refine DL.Y.ifE ?_
      by_cases hd : q.den = 1
      · rw [ofQ_one hd]
        walk_at "xx"
        refine DL.Y.strI l1 ?_
        exact hR _ _ ⟨by unfold numTx; rw [if_pos hd]; rfl, rfl⟩
      · rw [ofQ_two hd]
        walk_at "xx"
        refine DL.Y.strI l1 ?_
        walk_at "xx"
        have a1 := num_len q1
        have a2 := num_len (i := (q.den : Int)) (by rw [Int.natAbs_natCast]; exact q2)
        refine DL.Y.oaddS (by show (nT q.num).length + _ ≤ _; rw [lb]; omega) ?_
        walk_at "xx"
        refine DL.Y.strI l2 ?_
        walk_at "xx"
        refine DL.Y.oaddS (by show (nT q.num ++ "/").length + (nT q.den).length ≤ _; rw [len_app, lb]; omega) ?_
        exact hR _ _ ⟨by unfold numTx; rw [if_neg hd]; rfl, rfl⟩
    rintro x2 G2 ⟨rfl, rfl⟩
    walk_at "xs"
    refine DL.Y.bind (P := fun x G2 => x.kn = true ∧ numD x = true ∧ keptD x = ofQ q ∧ ∃ m5, Gau m5 (200 * (6 - (rest.length + 1)) + 5) ∧ G2 = gup G p m5) (fun R0 hR => ?_) ?_
    · refine DL.Y.ifE ?_
      by_cases hd : q.den = 1
      · rw [ofQ_one hd]
        walk_at "xx"
        exact hR _ _ ⟨rfl, rfl, (ofQ_one hd).symm, m4, hm4.mono (by omega), rfl⟩
      · have nd := numD_ofQ q
        rw [ofQ_two hd] at nd
        rw [ofQ_two hd]
        walk_at "xx"
        refine DL.Y.dialN (gau_gup hm4) (by omega) (by decide) (by decide) fun k m5 hk hm5 => ?_
        rw [gup_gup]
        by_cases k0 : (k : Int) = 0
        · walk_at "xx"
          exact hR _ _ ⟨rfl, nd, (ofQ_two hd).symm, m5, hm5.mono (by omega), rfl⟩
        · walk_at "xx"
          exact hR _ _ ⟨rfl, nd, (ofQ_two hd).symm, m5, hm5.mono (by omega), rfl⟩
    rintro x6 G2 ⟨k6, n6, e6, m5, hm5, rfl⟩
    walk_at "xx"
    refine ⟨x6, rfl, k6, .inl ⟨q, n6, e6, qb.mono, ?_⟩⟩
    walk_at "xx"
    refine ⟨ofQ q, rfl, kn_ofQ q, .inl ⟨q, numD_ofQ q, keptQ q, qb.mono, ?_⟩⟩
    walk_at "xx"
    refine DL.Y.neL (cmp_two tok) ?_
    walk_at "xx"
    refine ⟨_, rfl, .inl ⟨numTx q, rfl, by omega, tok, fun e => absurd (efr.symm.trans e) (ofQ_non q), fun _ => ?_⟩⟩
    rw [efr]
    walk_at "xx"
    refine DL.Y.repr_ (fn_q qb).rep ?_
    walk_at "xx"
    refine DL.Y.repr_ (fn_q qb).rep ?_
    walk_at "xx"
    refine forL_at (fun rst ρ G' => rst.length ≤ 4 ∧ (∃ a7 a8 a9, ρ = [some (.lst (ns.map D.int)), some (.ref p), some x, some (.int s), some (ofQ q), some (.str (numTx q)), some x6, a7, a8, a9, o10, o11, o12, o13]) ∧ ∃ m, G' = gup G p m ∧ Gau m (200 * (6 - (rest.length + 1)) + 5 + 20 * (4 - rst.length))) ?_ ?_ ?_
    · rintro x7 rst N2 ρ G2 hs2 hN2 ⟨hr, ⟨a7, a8, a9, rfl⟩, m6, rfl, hm6⟩
      rw [List.length_cons] at hr hm6
      obtain ⟨i7, rfl⟩ : ∃ i : Int, x7 = .int i := by
        have := hs2.subset (List.mem_cons_self)
        unfold rngD at this
        obtain ⟨i, _, e⟩ := List.mem_map.mp this
        exact ⟨_, e.symm⟩
      walk_at "xs"
      refine DL.Y.bind (P := fun x G2 => ∃ (t : Str) (m7 : Mt), x = .str t ∧ t.length ≤ 567 ∧ PyData.strOk t = true ∧ G2 = gup G p m7 ∧ Gau m7 (200 * (6 - (rest.length + 1)) + 5 + 20 * (4 - (rst.length + 1)) + 10)) (fun R0 hR => ?_) ?_
      · refine DL.Y.ifE ?_
        walk_at "xx"
        by_cases i3 : i7 < 3
        · walk_at "xx"
          exact hR _ _ ⟨numTx q, m6, rfl, by omega, tok, rfl, hm6.mono (by omega)⟩
        · walk_at "xx"
          refine ⟨p, numTx q, _, rfl, by omega, tok, gau_gup hm6, by omega, fun t' m7 l7 o7 hm7 => ?_⟩
          rw [gup_gup]
          exact hR _ _ ⟨t', m7, rfl, by omega, o7, rfl, hm7.mono (by omega)⟩
      rintro x8 G3 ⟨t, m7, rfl, lt, ot, rfl, hm7⟩
      walk_at "xx"
      refine ⟨p, t, _, rfl, by omega, ot, gau_gup hm7, by omega, fun t2 m8 l8 o8 hm8 => ?_⟩
      rw [gup_gup]
      walk_at "xx"
      refine ⟨t2, rfl, by omega, o8, ?_⟩
      walk_at "xx"
      refine ⟨_, rfl, .inl ⟨t2, rfl, by omega, o8, ?_⟩⟩
      have rp := (rep_toldZ t2).1
      walk_at "xx"
      refine DL.Y.repr_ rp ?_
      rcases frac_shape t2 with e | ⟨n, e, _⟩ | ⟨a, u, e, _⟩
      all_goals rw [e] at rp ⊢
      all_goals walk_at "xx"
      all_goals refine DL.Y.repr_ rp ?_
      all_goals walk_at "xx"
      all_goals exact hN2 _ _ ⟨by omega, ⟨_, _, _, rfl⟩, m8, rfl, hm8.mono (by omega)⟩
    · rintro ρ G2 ⟨_, ⟨a7, a8, a9, rfl⟩, m6, rfl, hm6⟩
      exact hN _ _ ⟨by omega, ⟨_, _, _, _, _, _, _, _, _, _, _, _, rfl⟩, gau_gup (hm6.mono (by rw [List.length_nil]; omega))⟩
    · exact ⟨Nat.le_of_ble_eq_true rfl, ⟨_, _, _, rfl⟩, m5, rfl, hm5.mono (by omega)⟩
  · rintro ρ G1 ⟨_, ⟨o2, o3, o4, o5, o6, o7, o8, o9, o10, o11, o12, o13, rfl⟩, ⟨m, eg, hm⟩⟩
    rw [← gup_id eg]
    walk_at "xx"
    have f9 : ∀ {a b : Str} {Q : D → Prop}, a.length ≤ 1000 → b.length ≤ 1000 → Q (.str (a ++ b)) → ∃ z, fAdd (.str a) (.str b) z ∧ Q z := fun h1 h2 k => DL.Y.oaddS (by rw [sizeLine_eq]; omega) k
    refine f9 (by decide +kernel) (by decide +kernel) ?_
    walk_at "xx"
    refine f9 (by decide +kernel) (by decide +kernel) ?_
    walk_at "xx"
    refine f9 (by decide +kernel) (by decide +kernel) ?_
    walk_at "xx"
    refine f9 (by decide +kernel) (by decide +kernel) ?_
    walk_at "xx"
    refine DL.Y.pickL (gau_gup hm) (by show _ ≤ 1000000000; decide) (by simp) (Nat.le_of_ble_eq_true rfl) fun y m1 hy hm1 => ?_
    rw [gup_gup]
    obtain ⟨t, rfl, lt, ot⟩ : ∃ t : Str, y = .str t ∧ t.length ≤ 1000 ∧ PyData.strOk t = true := by
      simp only [List.mem_cons, List.mem_nil_iff, or_false] at hy
      rcases hy with rfl | rfl | rfl | rfl | rfl | rfl <;> exact ⟨_, rfl, by decide +kernel, by decide +kernel⟩
    clear hy
    walk_at "xx"
    refine ⟨t, rfl, by omega, ot, ?_⟩
    walk_at "xx"
    refine ⟨_, rfl, .inl ⟨t, rfl, by omega, ot, ?_⟩⟩
    have rp := (rep_toldZ t).1
    walk_at "xx"
    refine DL.Y.repr_ rp ?_
    rcases frac_shape t with e | ⟨n, e, _⟩ | ⟨a, u, e, _⟩
    all_goals rw [e] at rp ⊢
    all_goals walk_at "xx"
    all_goals refine DL.Y.repr_ rp ?_
    all_goals walk_at "xx"
    all_goals refine DL.Y.pickL (gau_gup hm1) (by show _ ≤ 1000000000; decide) (by simp) (Nat.le_of_ble_eq_true rfl) fun odd m2 hy hm2 => ?_
    all_goals rw [gup_gup]
    all_goals
      have hno : NoStr odd := by
        simp only [List.mem_cons, List.mem_nil_iff, or_false] at hy
        rcases hy with rfl | rfl | rfl | rfl | rfl | rfl | rfl <;> exact ⟨_, rfl, by decide +kernel⟩
    all_goals clear hy
    all_goals walk_at "xx"
    all_goals refine DL.Y.tryH ?_
    all_goals try dsimp only
    all_goals walk_at "xx"
    all_goals refine DL.Y.pickL (gau_gup hm2) (by show _ ≤ 1000000000; decide) (by simp) (Nat.le_of_ble_eq_true rfl) fun z m3 hy hm3 => ?_
    all_goals rw [gup_gup]
    all_goals
      obtain ⟨kz, nz⟩ : z.kn = true ∧ numD z = false := by
        simp only [List.mem_cons, List.mem_nil_iff, or_false] at hy
        rcases hy with rfl | rfl | rfl | rfl | rfl | rfl | rfl <;> exact ⟨by decide +kernel, by decide +kernel⟩
    all_goals clear hy
    all_goals walk_at "xx"
    all_goals refine ⟨z, rfl, kz, .inr ⟨nz, by decide +kernel, ?_⟩⟩
    all_goals walk_at "xx"
    all_goals refine ⟨_, rfl, .inr ⟨hno, ?_⟩⟩
    all_goals walk_at "xx"
    all_goals refine DL.Y.eqL ⟨by decide +kernel, by decide +kernel⟩ ?_
    all_goals walk_at "xx"
    all_goals exact h _
  · exact ⟨Nat.le_of_ble_eq_true rfl, ⟨_, _, _, _, _, _, _, _, _, _, _, _, rfl⟩, gau_gup hm0⟩
theorem l_law (xs : List D) (G : Gm) (R : KD) (RX : XD) (h : sp_law xs G R RX) : xs.length = 1 := by
  obtain ⟨_, rfl, _⟩ := h
  rfl
set_option maxHeartbeats 4000000 in
theorem k_law {P : Program} {w : World} {K : PySem.W.Frag} {mg : Str → Option Value} {base : Heap} (T : Tx mg) (F : Df K mg "law" st_law) (I : IsC K mg errs subE errF) (k_number_text : Kn P w K mg base 5 "number_text" st_number_text ["number"] sp_number_text) (k_number_of : Kn P w K mg base 4 "number_of" st_number_of ["text"] sp_number_of) (k__law_scribe : Kn P w K mg base 1 "_law_scribe" st__law_scribe ["_law_script"] sp__law_scribe) (k__law_quill_by : Kn P w K mg base 1 "_law_quill_by" st__law_quill_by ["_law_scribe_here", "_law_many"] sp__law_quill_by) (k__law_pick : Kn P w K mg base 2 "_law_pick" st__law_pick ["_law_scribe_here", "_law_some"] sp__law_pick) (k__law_low : Kn P w K mg base 1 "_law_low" st__law_low ["_law_above", "_law_under"] sp__law_low) (k__law_read : Kn P w K mg base 2 "_law_read" st__law_read ["_law_text"] sp__law_read) (k__law_told : Kn P w K mg base 5 "_law_told" st__law_told ["_law_text"] sp__law_told) (k__law_bent : Kn P w K mg base 3 "_law_bent" st__law_bent ["_law_scribe_here", "_law_text"] sp__law_bent) :
    Kn P w K mg base 6 "law" st_law ["_law_script"] sp_law :=
  kn_of F.g F.f sc_law l_law fun cdv hcv A outer s H E B RX hr hg kx => ⟨r_law, (psd_cons (psd_set (i := 1) sc_law.nd rfl (by first | exact Or.inl rfl | exact Or.inr rfl) (pd_call k__law_scribe (hr.mono (by decide)) hg rfl pass0 kx0 (fun _ _ _ _ _ _ us hl => match us, hl with | [_], _ => rfl) (pda_cons (pd_var 0) pda_nil))) (psd_cons (psd_for (passes_of rfl) rfl (pid_rng1 rfl T.f_range pd_int) (pgd_name (i := 2) sc_law.nd rfl (by first | exact Or.inl rfl | exact Or.inr rfl)) (psd_cons (psd_set (i := 3) sc_law.nd rfl (by first | exact Or.inl rfl | exact Or.inr rfl) (pd_call k__law_pick (hr.mono (by decide)) hg rfl pass0 kx0 (fun _ _ _ _ _ _ us hl => match us, hl with | [_, _], _ => rfl) (pda_cons (pd_var 1) (pda_cons (pd_lst (pda_cons pd_int (pda_cons pd_int (pda_cons pd_int (pda_cons (pd_pow pd_int pd_int) (pda_cons (pd_mul (pd_pow pd_int pd_int) (pd_pow pd_int pd_int)) pda_nil)))))) pda_nil)))) (psd_cons (psd_set (i := 4) sc_law.nd rfl (by first | exact Or.inl rfl | exact Or.inr rfl) (pd_call k__law_low (hr.mono (by decide)) hg rfl pass0 kx0 (fun _ _ _ _ _ _ us hl => match us, hl with | [_, _], _ => rfl) (pda_cons (pd_sub (pd_call k__law_quill_by (hr.mono (by decide)) hg rfl pass0 kx0 (fun _ _ _ _ _ _ us hl => match us, hl with | [_, _], _ => rfl) (pda_cons (pd_var 1) (pda_cons (pd_add (pd_mul pd_int (pd_var 3)) pd_int) pda_nil))) (pd_var 3)) (pda_cons (pd_add pd_int (pd_call k__law_quill_by (hr.mono (by decide)) hg rfl pass0 kx0 (fun _ _ _ _ _ _ us hl => match us, hl with | [_, _], _ => rfl) (pda_cons (pd_var 1) (pda_cons (pd_call k__law_pick (hr.mono (by decide)) hg rfl pass0 kx0 (fun _ _ _ _ _ _ us hl => match us, hl with | [_, _], _ => rfl) (pda_cons (pd_var 1) (pda_cons (pd_lst (pda_cons pd_int (pda_cons (pd_var 3) (pda_cons pd_int pda_nil)))) pda_nil))) pda_nil)))) pda_nil)))) (psd_cons (psd_set (i := 5) sc_law.nd rfl (by first | exact Or.inl rfl | exact Or.inr rfl) (pd_if (ptd_val (pd_isi rfl (by decide) rfl T.f_isinstance (pd_var 4) (pd_bty rfl T.f_int (by decide +kernel)))) (pd_callTy call_strIS cd_str rfl T.f_str (by decide +kernel) (pda_cons (pd_var 4) pda_nil)) (pd_add (pd_add (pd_callTy call_strIS cd_str rfl T.f_str (by decide +kernel) (pda_cons (pd_ix (pd_var 4) pd_int (fun _ _ => rfl)) pda_nil)) pd_str) (pd_callTy call_strIS cd_str rfl T.f_str (by decide +kernel) (pda_cons (pd_ix (pd_var 4) pd_int (fun _ _ => rfl)) pda_nil))))) (psd_cons (psd_set (i := 6) sc_law.nd rfl (by first | exact Or.inl rfl | exact Or.inr rfl) (pd_if (PW.pt (pwd_and (ptd_val (pd_isi rfl (by decide) rfl T.f_isinstance (pd_var 4) (pd_bty rfl T.f_tuple (by decide +kernel)))) (pwd_and1 (ptd_cmp (op_eq2 hr.units) od_eq (pd_call k__law_quill_by (hr.mono (by decide)) hg rfl pass0 kx0 (fun _ _ _ _ _ _ us hl => match us, hl with | [_, _], _ => rfl) (pda_cons (pd_var 1) (pda_cons pd_int pda_nil))) pd_int (nomark _))))) (pd_callTy call_list_of cd_list rfl T.f_list (by decide +kernel) (pda_cons (pd_var 4) pda_nil)) (pd_var 4))) (psd_cons (psd_if (PW.pt (pwd_or (ptd_cmp (op_ne2 hr.units) od_ne (pd_lst (pda_cons (pd_call k_number_text (hr.mono (by decide)) hg rfl pass0 kx0 (fun _ _ _ _ _ _ us hl => match us, hl with | [_], _ => rfl) (pda_cons (pd_var 6) pda_nil)) (pda_cons (pd_callK (ks := ["number"]) (ordOf [0]) k_number_text (hr.mono (by decide)) hg rfl pass0 kx0 (fun _ _ _ _ _ _ us hl => match us, hl with | [_], _ => rfl) rfl (ordOf_len rfl) (pkd_cons (pd_var 4) pkd_nil (fun h => pk_cons (pd_var 4) h))) pda_nil))) (pd_lst (pda_cons (pd_var 5) (pda_cons (pd_var 5) pda_nil))) (nomark _)) (pwd_or1 (ptd_cmp (op_ne2 hr.units) od_ne (pd_repr rfl hg hr.units rfl T.f_repr (pd_call k_number_of (hr.mono (by decide)) hg rfl pass0 kx0 (fun _ _ _ _ _ _ us hl => match us, hl with | [_], _ => rfl) (pda_cons (pd_var 5) pda_nil))) (pd_repr rfl hg hr.units rfl T.f_repr (pd_var 4)) (nomark _))))) (psd_one (psd_ret pd_bl)) psd_nil) (psd_one (psd_for (passes_of rfl) rfl (pid_rng1 rfl T.f_range pd_int) (pgd_name (i := 7) sc_law.nd rfl (by first | exact Or.inl rfl | exact Or.inr rfl)) (psd_cons (psd_set (i := 8) sc_law.nd rfl (by first | exact Or.inl rfl | exact Or.inr rfl) (pd_call k__law_bent (hr.mono (by decide)) hg rfl pass0 kx0 (fun _ _ _ _ _ _ us hl => match us, hl with | [_, _], _ => rfl) (pda_cons (pd_var 1) (pda_cons (pd_if (ptd_cmp op_lt od_bl (pd_var 7) pd_int (nomark _)) (pd_var 5) (pd_call k__law_bent (hr.mono (by decide)) hg rfl pass0 kx0 (fun _ _ _ _ _ _ us hl => match us, hl with | [_, _], _ => rfl) (pda_cons (pd_var 1) (pda_cons (pd_var 5) pda_nil)))) pda_nil)))) (psd_cons (psd_set (i := 9) sc_law.nd rfl (by first | exact Or.inl rfl | exact Or.inr rfl) (pd_call k__law_read (hr.mono (by decide)) hg rfl pass0 kx0 (fun _ _ _ _ _ _ us hl => match us, hl with | [_], _ => rfl) (pda_cons (pd_var 8) pda_nil))) (psd_one (psd_if (ptd_cmp (op_ne2 hr.units) od_ne (pd_repr rfl hg hr.units rfl T.f_repr (pd_call k__law_told (hr.mono (by decide)) hg rfl pass0 kx0 (fun _ _ _ _ _ _ us hl => match us, hl with | [_], _ => rfl) (pda_cons (pd_var 8) pda_nil))) (pd_repr rfl hg hr.units rfl T.f_repr (pd_if (ptd_isN (pd_var 9)) (pd_lst (pda_cons pd_int (pda_cons pd_int pda_nil))) (pd_var 9))) (nomark _)) (psd_one (psd_ret pd_bl)) psd_nil)))))))))))) (psd_cons (psd_set (i := 10) sc_law.nd rfl (by first | exact Or.inl rfl | exact Or.inr rfl) (pd_call k__law_pick (hr.mono (by decide)) hg rfl pass0 kx0 (fun _ _ _ _ _ _ us hl => match us, hl with | [_, _], _ => rfl) (pda_cons (pd_var 1) (pda_cons (pd_lst (pda_cons (pd_mulS pd_str pd_int) (pda_cons (pd_mulS pd_str pd_int) (pda_cons (pd_add pd_str (pd_mulS pd_str pd_int)) (pda_cons (pd_add pd_str (pd_mulS pd_str pd_int)) (pda_cons (pd_add pd_str (pd_mulS pd_str pd_int)) (pda_cons (pd_add (pd_mulS pd_str pd_int) pd_str) pda_nil))))))) pda_nil)))) (psd_cons (psd_set (i := 9) sc_law.nd rfl (by first | exact Or.inl rfl | exact Or.inr rfl) (pd_call k__law_read (hr.mono (by decide)) hg rfl pass0 kx0 (fun _ _ _ _ _ _ us hl => match us, hl with | [_], _ => rfl) (pda_cons (pd_var 10) pda_nil))) (psd_cons (psd_if (ptd_cmp (op_ne2 hr.units) od_ne (pd_repr rfl hg hr.units rfl T.f_repr (pd_call k__law_told (hr.mono (by decide)) hg rfl pass0 kx0 (fun _ _ _ _ _ _ us hl => match us, hl with | [_], _ => rfl) (pda_cons (pd_var 10) pda_nil))) (pd_repr rfl hg hr.units rfl T.f_repr (pd_if (ptd_isN (pd_var 9)) (pd_lst (pda_cons pd_int (pda_cons pd_int pda_nil))) (pd_var 9))) (nomark _)) (psd_one (psd_ret pd_bl)) psd_nil) (psd_cons (psd_set (i := 11) sc_law.nd rfl (by first | exact Or.inl rfl | exact Or.inr rfl) (pd_call k__law_pick (hr.mono (by decide)) hg rfl pass0 kx0 (fun _ _ _ _ _ _ us hl => match us, hl with | [_, _], _ => rfl) (pda_cons (pd_var 1) (pda_cons (pd_lst (pda_cons pd_non (pda_cons pd_int (pda_cons (pd_lst (pda_cons pd_str pda_nil)) (pda_cons (pd_tup (pda_cons pd_int (pda_cons pd_int pda_nil))) (pda_cons pd_bl (pda_cons pd_dct0 (pda_cons (pd_lst (pda_cons pd_int pda_nil)) pda_nil)))))))) pda_nil)))) (psd_cons (psd_set (i := 12) sc_law.nd rfl (by first | exact Or.inl rfl | exact Or.inr rfl) pd_non) (psd_cons (psd_tryH (i := 13) (j := 12) (cs := errs) (fun C hC => (I.m C hC "TileError" (by decide +kernel)).trans (congrArg some (sub_TileError C hC))) rfl rfl sc_law.nd rfl rfl rfl rfl (by decide) ⟨rfl, by decide, .inl (I.g _ (by decide +kernel))⟩ (fun W pins xe tk => (pex_call k_number_text (hr.mono (by decide)) hg rfl tk (fun _ _ _ _ _ _ us hl => match us, hl with | [_], _ => rfl) (pda_cons (pd_call k__law_pick (hr.mono (by decide)) hg rfl pass0 kx0 (fun _ _ _ _ _ _ us hl => match us, hl with | [_, _], _ => rfl) (pda_cons (pd_var 1) (pda_cons (pd_lst (pda_cons pd_non (pda_cons pd_bl (pda_cons pd_str (pda_cons (pd_tup (pda_cons pd_int (pda_cons pd_int pda_nil))) (pda_cons (pd_tup (pda_cons pd_int (pda_cons pd_int pda_nil))) (pda_cons (pd_lst (pda_cons pd_int pda_nil)) (pda_cons (pd_tup (pda_cons pd_int (pda_cons pd_int pda_nil))) pda_nil)))))))) pda_nil))) pda_nil)))) (psd_one (psd_ret (pd_and (pd_cmp (op_eq2 hr.units) od_eq (pd_call k__law_told (hr.mono (by decide)) hg rfl pass0 kx0 (fun _ _ _ _ _ _ us hl => match us, hl with | [_], _ => rfl) (pda_cons (pd_var 11) pda_nil)) (pd_lst (pda_cons pd_int (pda_cons pd_int pda_nil))) (nomark _)) (pd_and (pd_isO I (by decide +kernel) rfl rfl T.f_isinstance rfl (pd_var 12)) (pd_one (pd_cmp (op_eq2 hr.units) od_eq (pd_xf I (by decide +kernel) (pd_var 12)) pd_str (nomark _))))))))))))))), fun xs G R h => v_law xs G R RX h⟩
def de (x : Str) (i : Nat) (vs : List He.Dv) : He.DefD := ⟨(x, none), x, x, defArgs (top i), defBody (top i), defScope (top i), vs, []⟩
section
variable {K : PySem.W.Frag} {h : Heap} {mg : Str → Option Value}
theorem tx (X : K.In h) (G : h.Ns mainGlobals mg) (c : He.SaysD fa fn K) : Tx mg := ⟨He.free_ok X G (c.fact 22 (f := .free "abs") rfl), He.free_ok X G (c.fact 23 (f := .free "all") rfl), He.free_ok X G (c.fact 24 (f := .free "bool") rfl), He.free_ok X G (c.fact 25 (f := .free "int") rfl), He.free_ok X G (c.fact 26 (f := .free "isinstance") rfl), He.free_ok X G (c.fact 27 (f := .free "len") rfl), He.free_ok X G (c.fact 28 (f := .free "list") rfl), He.free_ok X G (c.fact 29 (f := .free "range") rfl), He.free_ok X G (c.fact 30 (f := .free "repr") rfl), He.free_ok X G (c.fact 31 (f := .free "str") rfl), He.free_ok X G (c.fact 32 (f := .free "tuple") rfl), He.int_ok X G (c.fact 33 (f := .int "LEAST_UNDER" 2) rfl), He.str_ok X G (c.fact 34 (f := .str "BAR" "/") rfl), He.str_ok X G (c.fact 35 (f := .str "FIGURES" "0123456789") rfl), He.int_ok X G (c.fact 36 (f := .int "MOST_FIGURES" 140) rfl)⟩
theorem df_is_integer (X : K.In h) (G : h.Ns mainGlobals mg) (c : He.SaysD fa fn K) : Df K mg "is_integer" st_is_integer := ⟨He.glo_ok X G (c.fact 0 (f := .glo "is_integer") rfl), c.def_ 0 (d := dd "is_integer" 5) rfl⟩
theorem df_is_within (X : K.In h) (G : h.Ns mainGlobals mg) (c : He.SaysD fa fn K) : Df K mg "is_within" st_is_within := ⟨He.glo_ok X G (c.fact 1 (f := .glo "is_within") rfl), c.def_ 1 (d := dd "is_within" 6) rfl⟩
theorem df_is_list (X : K.In h) (G : h.Ns mainGlobals mg) (c : He.SaysD fa fn K) : Df K mg "is_list" st_is_list := ⟨He.glo_ok X G (c.fact 2 (f := .glo "is_list") rfl), c.def_ 2 (d := dd "is_list" 7) rfl⟩
theorem df_common (X : K.In h) (G : h.Ns mainGlobals mg) (c : He.SaysD fa fn K) : Df K mg "common" st_common := ⟨He.glo_ok X G (c.fact 3 (f := .glo "common") rfl), c.def_ 3 (d := dd "common" 10) rfl⟩
theorem df_lowest_in (X : K.In h) (G : h.Ns mainGlobals mg) (c : He.SaysD fa fn K) : Df K mg "lowest_in" st_lowest_in := ⟨He.glo_ok X G (c.fact 4 (f := .glo "lowest_in") rfl), c.def_ 4 (d := dd "lowest_in" 11) rfl⟩
theorem df_text_in (X : K.In h) (G : h.Ns mainGlobals mg) (c : He.SaysD fa fn K) : Df K mg "text_in" st_text_in := ⟨He.glo_ok X G (c.fact 5 (f := .glo "text_in") rfl), c.def_ 5 (d := dd "text_in" 12) rfl⟩
theorem df_is_number (X : K.In h) (G : h.Ns mainGlobals mg) (c : He.SaysD fa fn K) : Df K mg "is_number" st_is_number := ⟨He.glo_ok X G (c.fact 6 (f := .glo "is_number") rfl), c.def_ 6 (d := dd "is_number" 13) rfl⟩
theorem df_kept_number (X : K.In h) (G : h.Ns mainGlobals mg) (c : He.SaysD fa fn K) : Df K mg "kept_number" st_kept_number := ⟨He.glo_ok X G (c.fact 7 (f := .glo "kept_number") rfl), c.def_ 7 (d := dd "kept_number" 14) rfl⟩
theorem df_need_fraction (X : K.In h) (G : h.Ns mainGlobals mg) (c : He.SaysD fa fn K) : Df K mg "need_fraction" st_need_fraction := ⟨He.glo_ok X G (c.fact 8 (f := .glo "need_fraction") rfl), c.def_ 8 (d := dd "need_fraction" 15) rfl⟩
theorem df_written (X : K.In h) (G : h.Ns mainGlobals mg) (c : He.SaysD fa fn K) : Df K mg "written" st_written := ⟨He.glo_ok X G (c.fact 9 (f := .glo "written") rfl), c.def_ 9 (d := dd "written" 20) rfl⟩
theorem df_written_fraction (X : K.In h) (G : h.Ns mainGlobals mg) (c : He.SaysD fa fn K) : Df K mg "written_fraction" st_written_fraction := ⟨He.glo_ok X G (c.fact 10 (f := .glo "written_fraction") rfl), c.def_ 10 (d := dd "written_fraction" 21) rfl⟩
theorem df_number_text (X : K.In h) (G : h.Ns mainGlobals mg) (c : He.SaysD fa fn K) : Df K mg "number_text" st_number_text := ⟨He.glo_ok X G (c.fact 11 (f := .glo "number_text") rfl), c.def_ 11 (d := dd "number_text" 23) rfl⟩
theorem df_number_of (X : K.In h) (G : h.Ns mainGlobals mg) (c : He.SaysD fa fn K) : Df K mg "number_of" st_number_of := ⟨He.glo_ok X G (c.fact 12 (f := .glo "number_of") rfl), c.def_ 12 (d := dd "number_of" 24) rfl⟩
theorem df__law_scribe (X : K.In h) (G : h.Ns mainGlobals mg) (c : He.SaysD fa fn K) : Df K mg "_law_scribe" st__law_scribe := ⟨He.glo_ok X G (c.fact 13 (f := .glo "_law_scribe") rfl), c.def_ 13 (d := dd "_law_scribe" 26) rfl⟩
theorem df__law_quill_by (X : K.In h) (G : h.Ns mainGlobals mg) (c : He.SaysD fa fn K) : Df K mg "_law_quill_by" st__law_quill_by := ⟨He.glo_ok X G (c.fact 14 (f := .glo "_law_quill_by") rfl), c.def_ 14 (d := dd "_law_quill_by" 27) rfl⟩
theorem df__law_pick (X : K.In h) (G : h.Ns mainGlobals mg) (c : He.SaysD fa fn K) : Df K mg "_law_pick" st__law_pick := ⟨He.glo_ok X G (c.fact 15 (f := .glo "_law_pick") rfl), c.def_ 15 (d := dd "_law_pick" 28) rfl⟩
theorem df__law_low (X : K.In h) (G : h.Ns mainGlobals mg) (c : He.SaysD fa fn K) : Df K mg "_law_low" st__law_low := ⟨He.glo_ok X G (c.fact 16 (f := .glo "_law_low") rfl), c.def_ 16 (d := dd "_law_low" 29) rfl⟩
theorem df__law_whole (X : K.In h) (G : h.Ns mainGlobals mg) (c : He.SaysD fa fn K) : Df K mg "_law_whole" st__law_whole := ⟨He.glo_ok X G (c.fact 17 (f := .glo "_law_whole") rfl), c.def_ 17 (d := dd "_law_whole" 30) rfl⟩
theorem df__law_read (X : K.In h) (G : h.Ns mainGlobals mg) (c : He.SaysD fa fn K) : Df K mg "_law_read" st__law_read := ⟨He.glo_ok X G (c.fact 18 (f := .glo "_law_read") rfl), c.def_ 18 (d := dd "_law_read" 31) rfl⟩
theorem df__law_told (X : K.In h) (G : h.Ns mainGlobals mg) (c : He.SaysD fa fn K) : Df K mg "_law_told" st__law_told := ⟨He.glo_ok X G (c.fact 19 (f := .glo "_law_told") rfl), c.def_ 19 (d := dd "_law_told" 32) rfl⟩
theorem df__law_bent (X : K.In h) (G : h.Ns mainGlobals mg) (c : He.SaysD fa fn K) : Df K mg "_law_bent" st__law_bent := ⟨He.glo_ok X G (c.fact 20 (f := .glo "_law_bent") rfl), c.def_ 20 (d := dd "_law_bent" 33) rfl⟩
theorem df_law (X : K.In h) (G : h.Ns mainGlobals mg) (c : He.SaysD fa fn K) : Df K mg "law" st_law := ⟨He.glo_ok X G (c.fact 21 (f := .glo "law") rfl), c.def_ 21 (d := dd "law" 34) rfl⟩
set_option maxHeartbeats 4000000 in
theorem law_kn {w : World} {base : Heap} (X : K.In h) (G : h.Ns mainGlobals mg) (c : SaysE ask w h K) (tb : TabsB K base mg) : Kn (PySem.Challenge.rw_timesfloor_k04_numbers_written_and_read).prog w K mg base 6 "law" st_law ["_law_script"] lawSp := by
  obtain ⟨_, bz⟩ := He.ba (show ex K = true from c.x.more)
  obtain ⟨bi, bz⟩ := He.ba bz
  have I : IsC K mg errs subE errF := isB_ok X G bi
  obtain ⟨bx, bz⟩ := He.ba bz
  have x_BadFraction := Lw.x_BadFraction (base := base) (w := w) (xc_of (P := (PySem.Challenge.rw_timesfloor_k04_numbers_written_and_read).prog) X G bx (c.cls 0 (d := defC "BadFraction" (top 2)) rfl) (by kernel_rfl))
  obtain ⟨bx, bz⟩ := He.ba bz
  have x_BadText := Lw.x_BadText (base := base) (w := w) (xc_of (P := (PySem.Challenge.rw_timesfloor_k04_numbers_written_and_read).prog) X G bx (c.cls 1 (d := defC "BadText" (top 3)) rfl) (by kernel_rfl))
  have k_is_integer := Lw.k_is_integer (P := (PySem.Challenge.rw_timesfloor_k04_numbers_written_and_read).prog) (w := w) (base := base) (tx X G c.d) (df_is_integer X G c.d)
  have k_text_in := Lw.k_text_in (P := (PySem.Challenge.rw_timesfloor_k04_numbers_written_and_read).prog) (w := w) (base := base) (tx X G c.d) (df_text_in X G c.d) k_is_integer
  have k_is_within := Lw.k_is_within (P := (PySem.Challenge.rw_timesfloor_k04_numbers_written_and_read).prog) (w := w) (base := base) (tx X G c.d) (df_is_within X G c.d) k_is_integer
  have k_is_list := Lw.k_is_list (P := (PySem.Challenge.rw_timesfloor_k04_numbers_written_and_read).prog) (w := w) (base := base) (tx X G c.d) (df_is_list X G c.d)
  have k_common := Lw.k_common (P := (PySem.Challenge.rw_timesfloor_k04_numbers_written_and_read).prog) (w := w) (base := base) (tx X G c.d) (df_common X G c.d)
  have k_is_number := Lw.k_is_number (P := (PySem.Challenge.rw_timesfloor_k04_numbers_written_and_read).prog) (w := w) (base := base) (tx X G c.d) (df_is_number X G c.d) k_is_integer k_is_within k_is_list k_common
  have k_kept_number := Lw.k_kept_number (P := (PySem.Challenge.rw_timesfloor_k04_numbers_written_and_read).prog) (w := w) (base := base) (tx X G c.d) (df_kept_number X G c.d) k_is_list
  have k_need_fraction := Lw.k_need_fraction (P := (PySem.Challenge.rw_timesfloor_k04_numbers_written_and_read).prog) (w := w) (base := base) (tx X G c.d) (df_need_fraction X G c.d) x_BadFraction k_is_number k_kept_number
  have k_number_text := Lw.k_number_text (P := (PySem.Challenge.rw_timesfloor_k04_numbers_written_and_read).prog) (w := w) (base := base) (tx X G c.d) (df_number_text X G c.d) k_text_in k_need_fraction
  have k_lowest_in := Lw.k_lowest_in (P := (PySem.Challenge.rw_timesfloor_k04_numbers_written_and_read).prog) (w := w) (base := base) (tx X G c.d) (df_lowest_in X G c.d) k_common
  have k_written := Lw.k_written (P := (PySem.Challenge.rw_timesfloor_k04_numbers_written_and_read).prog) (w := w) (base := base) (tx X G c.d) (df_written X G c.d)
  have k_written_fraction := Lw.k_written_fraction (P := (PySem.Challenge.rw_timesfloor_k04_numbers_written_and_read).prog) (w := w) (base := base) (tx X G c.d) (df_written_fraction X G c.d) k_lowest_in k_written
  have k_number_of := Lw.k_number_of (P := (PySem.Challenge.rw_timesfloor_k04_numbers_written_and_read).prog) (w := w) (base := base) (tx X G c.d) (df_number_of X G c.d) x_BadText k_written_fraction
  have k__law_scribe := Lw.k__law_scribe (P := (PySem.Challenge.rw_timesfloor_k04_numbers_written_and_read).prog) (w := w) (base := base) (tx X G c.d) (df__law_scribe X G c.d)
  have k__law_quill_by := Lw.k__law_quill_by (P := (PySem.Challenge.rw_timesfloor_k04_numbers_written_and_read).prog) (w := w) (base := base) (tx X G c.d) (df__law_quill_by X G c.d)
  have k__law_pick := Lw.k__law_pick (P := (PySem.Challenge.rw_timesfloor_k04_numbers_written_and_read).prog) (w := w) (base := base) (tx X G c.d) (df__law_pick X G c.d) k__law_quill_by
  have k__law_low := Lw.k__law_low (P := (PySem.Challenge.rw_timesfloor_k04_numbers_written_and_read).prog) (w := w) (base := base) (tx X G c.d) (df__law_low X G c.d)
  have k__law_whole := Lw.k__law_whole (P := (PySem.Challenge.rw_timesfloor_k04_numbers_written_and_read).prog) (w := w) (base := base) (tx X G c.d) (df__law_whole X G c.d)
  have k__law_read := Lw.k__law_read (P := (PySem.Challenge.rw_timesfloor_k04_numbers_written_and_read).prog) (w := w) (base := base) (tx X G c.d) (df__law_read X G c.d) k__law_low k__law_whole
  have k__law_told := Lw.k__law_told (P := (PySem.Challenge.rw_timesfloor_k04_numbers_written_and_read).prog) (w := w) (base := base) (tx X G c.d) (df__law_told X G c.d) I k_number_of
  have k__law_bent := Lw.k__law_bent (P := (PySem.Challenge.rw_timesfloor_k04_numbers_written_and_read).prog) (w := w) (base := base) (tx X G c.d) (df__law_bent X G c.d) k__law_quill_by k__law_pick
  have k_law := Lw.k_law (P := (PySem.Challenge.rw_timesfloor_k04_numbers_written_and_read).prog) (w := w) (base := base) (tx X G c.d) (df_law X G c.d) I k_number_text k_number_of k__law_scribe k__law_quill_by k__law_pick k__law_low k__law_read k__law_told k__law_bent
  exact k_law
end
end Lw
open PySem PySem.W PySem.Calls PyProof.Rows
set_option maxHeartbeats 0 in
theorem PySem.Challenge.cw_timesfloor_k04_numbers_written_and_read_holds : PySem.Challenge.rw_timesfloor_k04_numbers_written_and_read.Holds := by
  refine Lw.topLaw fun said => ?_
  refine Lw.topHd ?hw ?hc
  case hw => w_witness2
  case hc =>
    refine DL.walk_lawT (l := PySem.Challenge.rw_timesfloor_k04_numbers_written_and_read) (n := 63) (k := 6) (x := "_law_script") rfl (by decide) (by kernel_rfl) ⟨rfl, by decide, by decide⟩ ?F
    intro w mg fa h Y G hmg0
    obtain ⟨K, KX, c⟩ := Y
    have hmg : mg ("law" : PySem.Str) = some (.ref fa) := by
      have e : (HandSHeadRun.topDef (OpenLaw.row PySem.Challenge.rw_timesfloor_k04_numbers_written_and_read).prog 34).name = ("law" : PySem.Str) := by kernel_rfl
      rw [← e]
      exact hmg0
    have tf := c.tabF KX rfl (He.ba (show Lw.ex K = true from c.x.more)).1
    obtain ⟨fd, sp, ct, q1, q2, q3, q4, q5, q6⟩ := DL.law_of (P := (PySem.Challenge.rw_timesfloor_k04_numbers_written_and_read).prog) (w := w) hmg (Lw.df_law KX G c.d) tf (fun _ _ _ _ _ _ us hl => match us, hl with | [_], _ => rfl) fun base tb => Lw.law_kn KX G c tb
    exact ⟨K, fd, sp, ct, KX, q1, q2, q3, q4, q5, q6⟩
end
