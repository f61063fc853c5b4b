import PyProof.Rows.All
import Wide.All
import OpenK.AllK
import Wide.FinOn
import HandS.Exc
import HandS.Head0
import HandS.Head1
import HandS.Head2
import HandS.HeadHook1
import HandS.HeadHook2
import HandS.Words
import HandS.ExcField
import HandS.ExcInit
import HandS.ClsMeth
import KE.KNest
import PySem.Challenge.RW_stiffwebs_k83_classes_made_by_hand
import KE.KStateDown
import HandS.ForMost
import HandS.IsInst
import HandS.ExcOwn
import HandS.CallSlots
import HandS.Nested
import HandS.TupAny
import HandS.Conv
import HandS.Gcd
import PyProof.NoPylong
import PyProof.Fits
import PyProof.EqLayable
import PyProof.ReprRoads
import HandS.Flow
import HandS.OwnEq
import PyProof.InstEq
import PyProof.Rows.PlainEq
import HandS.Style
import HandS.Deep
import HandS.Walk
import HandS.NoneIn
import HandS.Zip
import HandS.Defaults
import HandS.MakeKw
import HandS.Ends
import HandS.HeadEnd
import HandS.EndBits
import PyProof.ReprLen
set_option Elab.async false
set_option linter.all false
set_option maxRecDepth 100000
set_option autoImplicit false
set_option maxHeartbeats 0
/-! # DL: what the head looks at (Bools alone; ahead of all else, for the kernel's memory) -/
namespace DL
open PySem PySem.Spec PyProof.Rows L2
/-- a class's statements -/
def clsBd : Stmt → List Stmt
  | .ClassDef (body := b) .. => b
  | _ => []
/-! ### a Hook with any test of the part of the heap that the defs hang on -/
abbrev AlX : Type := Bool × List He.FnW
def obsX (test : PySem.W.Frag → Bool) (fn : List He.DefD) (K : PySem.W.Frag) : AlX := (test K && fn.all fun d => d.ok K, fn.map fun d => He.fnW K d.at_)
def valX (fn : List He.DefD) : AlX := (true, fn.map He.DefD.val)
def obsXG (as : List Addr) (test : PySem.W.Frag → Bool) (fn : List He.DefD) (g : Addr → Option Obj) : AlX := obsX test fn (He.frG g as)
def hookX (as : List Addr) (test : PySem.W.Frag → Bool) (fn : List He.DefD) : PySem.W.Hook where
  α := AlX
  obs := fun s => obsXG as test fn s.heap.get?
  val := fun _ => valX fn
  says := fun _ h => ∃ K : PySem.W.Frag, K.In h ∧ obsX test fn K = valX fn
  of := fun _ _ e => ⟨_, He.frG_in, e⟩
  keeps := fun _ _ _ ⟨K, hK, c⟩ k => ⟨K, PySem.W.Frag.In.keeps hK k, c⟩
theorem obsXG_eq {as : List Addr} {test : PySem.W.Frag → Bool} {fn : List He.DefD} {g : Addr → Option Obj} {s : Shared} (h : ∀ a, g a = s.heap.get? a) : obsXG as test fn g = (hookX as test fn).obs s := by
  have e : g = s.heap.get? := funext h
  rw [e] <;> rfl
/-- sys.modules is no list -/
def tSys (K : PySem.W.Frag) : Bool := match K.lookup sysModules with
  | some o => decide (o.cls ≠ .type "list")
  | none => false
/-- what ClsF asks of the class x -/
def tCls (K : PySem.W.Frag) (x : Str) : Bool :=
  (He.Fa.cls x).ok K && (He.eqO (PySem.W.findIn K (.ref (He.ga K x)) "__class__") (some (some (.builtin "object.__class__"))) && (He.eqO (PySem.W.specialIn K (.builtin "object.__class__") "__get__") (some (some (.builtin "getset_descriptor.__get__"))) &&
    (decide (PySem.W.takesIn K (.builtin "object.__class__") = some true) && (decide (PySem.W.mroIn K (He.ga K x) (.type "object") = some true) &&
      (["int", "bool", "str", "tuple", "list", "dict"] : List String).all fun T => decide (PySem.W.kitOne K (.ref (He.ga K x)) (.type T) = some false)))))
/-- isinstance(value, x) for a value of a built-in class -/
def tIsB (K : PySem.W.Frag) (x : Str) : Bool := (["NoneType", "bool", "int", "str", "tuple", "list", "dict"] : List String).all fun t => decide (PySem.W.kitOne K (.type t) (.ref (He.ga K x)) = some false)
/-- no == of its own -/
def tNoEqC (K : PySem.W.Frag) (C : Addr) : Bool := match K.lookup C with
  | some ⟨.type "type", _, .cls cd, sl⟩ => (match cd.mro, sl.toList with
    | [.ref C', .type "object"], [_, _, _, _, some (.builtin _), _] => C' == C && (!cd.hasDel && (match K.lookup cd.ns with
      | some ⟨_, _, .dict es _, _⟩ => es.toList.all (fun e => match e.key with | .str _ _ => true | _ => false) && ((nsFind es "__eq__").isNone && (nsFind es "__ne__").isNone)
      | _ => false))
    | _, _ => false)
  | _ => false
def tNoEq (K : PySem.W.Frag) (x : Str) : Bool := tNoEqC K (He.ga K x)
/-- an own exception's class -/
def tOexC (K : PySem.W.Frag) (C : Addr) : Bool := match K.lookup C with
  | some ⟨.type "type", _, .cls cd, sl⟩ => (match cd.mro, sl.toList with
    | .ref C' :: bm, [_, _, _, _, some (.builtin n), _] => C' == C && (n == "ValueError.__new__" && (cd.hasDict && (!cd.hasDel && (PySem.HandSPX.refsVE bm && (He.eqO (PySem.W.findIn K (.ref C) "__setattr__") (some (some (.builtin "object.__setattr__"))) &&
        (decide (PySem.W.subIn K (.ref C) (.type "BaseException") = some true) && (decide (PySem.W.typeIn K (.ref C) = some (.type "type")) && PySem.W.keepIn K (.ref C))))))))
    | _, _ => false)
  | _ => false
def tOex (K : PySem.W.Frag) (x : Str) : Bool := (He.Fa.glo x).ok K && (tOexC K (He.ga K x) && (xfB K (He.ga K x) && (He.eqO (PySem.W.findIn K (.ref (He.ga K x)) "__init__") (some (some (.ref (He.ma K (He.ga K x) "__init__")))) && decide (PySem.W.typeIn K (.ref (He.ma K (He.ga K x) "__init__")) = some (.type "function")))))
/-- the base of the own exceptions: no __init__ of its own -/
def tBase (K : PySem.W.Frag) (x : Str) : Bool := (He.Fa.glo x).ok K && (PySem.W.readsIn K (He.ga K x) (.type "type") && (He.eqO (PySem.W.specialIn K (.ref (He.ga K x)) "__getattribute__") (some (some (.builtin "type.__getattribute__"))) &&
  (match PySem.W.findCls K (.ref (He.ga K x)) (.type "type") "__init__" with
    | some (.val (.builtin "ValueError.__init__")) => true
    | _ => false)))
/-- a module's name holds a built-in function -/
def tBlt (K : PySem.W.Frag) (x : Str) (id : String) : Bool := He.eqO (PySem.W.nsIn K mainGlobals x) (some (some (.builtin id)))
/-- a class's own comparison m -/
def tOwnC (K : PySem.W.Frag) (C m : Str) (L : List Str) : Bool := (He.Fa.meth C m).ok K && ((["NoneType", "bool", "int", "str", "tuple", "list", "dict"] : List String).all (fun t => decide (PySem.W.subIn K (.type t) (.ref (He.ga K C)) = some false)) && L.all fun z => (He.Fa.glo z).ok K && decide (PySem.W.subIn K (.ref (He.ga K z)) (.ref (He.ga K C)) = some false))
/-! ### a module's dict of ints -/
def intE (e : DictEntry) : Option (Int × Int) := match e.key, e.val with
  | .int k _, .int v _ => if e.hash = hashInt k then some (k, v) else none
  | _, _ => none
def gdI (K : PySem.W.Frag) (a : Addr) (tbl : List (Int × Int)) : Bool := match K.lookup a with
  | some ⟨.type "dict", none, .dict es _, sl⟩ => sl.toList.isEmpty && decide (es.toList.map intE = tbl.map some)
  | _ => false
/-! ### the code objects of the defs that make lambdas -/
/-- the code object of the def x, its table -/
def codeP (K : PySem.W.Frag) (x : Str) : Option (Addr × Addr) := match K.lookup (He.fAd K (x, none)) with
  | some ⟨_, _, .func fd, _⟩ => (match fd.code with
    | .ref c => (match K.lookup c with
      | some ⟨.type "code", _, .fields vs, _⟩ => (match (vs[11]? : Option Value), vs.getD 18 .none, vs.getD 7 .none, vs.getD 9 .none, vs.getD 10 .none with
        | some (.ref P), .str _ _, .int _ _, .bool _, .int _ _ => if c = P then none else some (c, P)
        | _, _, _, _, _ => none)
      | _ => none)
    | _ => none)
  | _ => none
def isNoTab : Option Obj → Bool
  | some ⟨.none, none, .fields vs, sl⟩ => vs.size == 0 && sl.size == 0
  | _ => false
/-- its table is empty, and out of K -/
def tTab (g : Addr → Option Obj) (K : PySem.W.Frag) (x : Str) : Bool := match codeP K x with
  | some p => (K.lookup p.2).isNone && isNoTab (g p.2)
  | none => false
def obsT (test : PySem.W.Frag → Bool) (fn : List He.DefD) (tabs : List Str) (as : List Addr) (g : Addr → Option Obj) : AlX :=
  (tabs.all (tTab g (He.frG g as)) && (obsX test fn (He.frG g as)).1, (obsX test fn (He.frG g as)).2)
/-- .. with the tables of some defs -/
def hookT (as : List Addr) (test : PySem.W.Frag → Bool) (fn : List He.DefD) (tabs : List Str) : PySem.W.Hook where
  α := AlX
  obs := fun s => obsT test fn tabs as s.heap.get?
  val := fun _ => valX fn
  says := fun _ h => ∃ (K : PySem.W.Frag), K.In h ∧ obsX test fn K = valX fn ∧ ∀ x ∈ tabs, ∃ p, codeP K x = some p ∧ K.lookup p.2 = none ∧ h.get? p.2 = some { cls := .none, data := .fields #[] }
  of := fun _ s e => by
    have e1 : (obsT test fn tabs as s.heap.get?).1 = true := congrArg (fun z : AlX => z.1) e
    have e2 : (obsT test fn tabs as s.heap.get?).2 = fn.map He.DefD.val := congrArg (fun z : AlX => z.2) e
    obtain ⟨a, b⟩ := Bool.and_eq_true_iff.mp e1
    refine ⟨He.frG s.heap.get? as, He.frG_in, Prod.ext b e2, fun x hx => ?_⟩
    have z := List.all_eq_true.mp a x hx
    unfold tTab at z
    split at z
    · rename_i p hp
      obtain ⟨z1, z2⟩ := Bool.and_eq_true_iff.mp z
      refine ⟨p, hp, Option.isNone_iff_eq_none.mp z1, ?_⟩
      unfold isNoTab at z2
      split at z2
      · rename_i vs sl ho
        obtain ⟨y1, y2⟩ := Bool.and_eq_true_iff.mp z2
        have v0 : vs = #[] := Array.size_eq_zero_iff.mp (beq_iff_eq.mp y1)
        have s0 : sl = #[] := Array.size_eq_zero_iff.mp (beq_iff_eq.mp y2)
        subst v0; subst s0
        exact ho
      · cases z2
    · cases z
  keeps := fun _ _ _ ⟨K, hK, c, t⟩ k => ⟨K, PySem.W.Frag.In.keeps hK k, c, fun x hx => let ⟨p, a, b, d⟩ := t x hx; ⟨p, a, b, k _ _ d⟩⟩
theorem obsT_eq {as : List Addr} {test : PySem.W.Frag → Bool} {fn : List He.DefD} {tabs : List Str} {g : Addr → Option Obj} {s : Shared} (h : ∀ a, g a = s.heap.get? a) : obsT test fn tabs as g = (hookT as test fn tabs).obs s := by
  have e : g = s.heap.get? := funext h
  subst e
  rfl
/-- three looks at one run's end, put together -/
theorem join3 {α β γ : Type} (o : Option α) {f1 : α → Bool} {f2 : α → β} {t : α → Bool} {u : α → Bool × γ} {b : β} {c : γ} (h1 : o.map (fun s => (f1 s, f2 s)) = some (true, b)) (h2 : o.map t = some true) (h3 : o.map u = some (true, c)) :
    o.map (fun s => (f1 s, f2 s, (t s && (u s).1, (u s).2))) = some (true, b, (true, c)) := by
  cases o with
  | none => cases h1
  | some s =>
    simp only [Option.map_some, Option.some.injEq, Prod.mk.injEq] at h1 h2 h3 ⊢
    refine ⟨h1.1, h1.2, ?_, ?_⟩
    · rw [h2, h3]; rfl
    · rw [h3]
end DL

namespace K83
open PySem PySem.Spec PyProof.Rows L2 DL
def top (i : Nat) : Stmt := PySem.Challenge.pw_stiffwebs_k83_classes_made_by_hand.main.body.getD i (.Pass ⟨0, 0, 0, 0⟩)
def CLs : List Str := [("Found" : Str), ("Barred" : Str), ("Best" : Str), ("Falls" : Str), ("Never" : Str), ("Answer" : Str), ("Against" : Str), ("Stiff" : Str), ("Loose" : Str), ("Free" : Str), ("Crowded" : Str), ("Grown" : Str), ("Covered" : Str), ("Opens" : Str), ("Shuts" : Str), ("Forests" : Str), ("Thicket" : Str), ("Trees" : Str), ("Split" : Str), ("Fit" : Str), ("Set" : Str), ("Slips" : Str), ("Placed" : Str), ("Braced" : Str), ("Shears" : Str), ("Pulls" : Str), ("Yields" : Str), ("Hung" : Str), ("Adrift" : Str), ("Weights" : Str), ("Slack" : Str), ("Bent" : Str), ("Level" : Str), ("Lift" : Str), ("Warped" : Str), ("Firm" : Str), ("Gives" : Str), ("Parts" : Str), ("Carries" : Str), ("Drops" : Str), ("OneShape" : Str), ("Lacking" : Str), ("Parting" : Str), ("LetsGo" : Str), ("Ears" : Str), ("HeldPlaces" : Str), ("Cheapest" : Str), ("TwoTrees" : Str), ("Thick" : Str), ("Light" : Str), ("Sinks" : Str), ("Uses" : Str), ("Sizes" : Str), ("Fails" : Str)]
def eqL : List Str := [("Found" : Str), ("Barred" : Str), ("Best" : Str), ("Falls" : Str), ("Never" : Str), ("Answer" : Str), ("Against" : Str), ("Stiff" : Str), ("Loose" : Str), ("Free" : Str), ("Crowded" : Str), ("Grown" : Str), ("Covered" : Str), ("Opens" : Str), ("Shuts" : Str), ("Forests" : Str), ("Thicket" : Str), ("Trees" : Str), ("Split" : Str), ("Fit" : Str), ("Set" : Str), ("Slips" : Str), ("Placed" : Str), ("Braced" : Str), ("Shears" : Str), ("Pulls" : Str), ("Yields" : Str), ("Hung" : Str), ("Adrift" : Str), ("Weights" : Str), ("Slack" : Str), ("Bent" : Str), ("Level" : Str), ("Lift" : Str), ("Warped" : Str), ("Firm" : Str), ("Gives" : Str), ("Parts" : Str), ("Carries" : Str), ("Drops" : Str), ("OneShape" : Str), ("Lacking" : Str), ("Parting" : Str), ("LetsGo" : Str), ("Ears" : Str), ("HeldPlaces" : Str), ("Cheapest" : Str), ("TwoTrees" : Str), ("Thick" : Str), ("Light" : Str), ("Sinks" : Str), ("Uses" : Str), ("Sizes" : Str), ("Fails" : Str)]
def NAs : List (Str × Str) := [(("Adrift" : Str), ("lot" : Str)), (("Against" : Str), ("move" : Str)), (("Answer" : Str), ("row" : Str)), (("Barred" : Str), ("weights" : Str)), (("Bent" : Str), ("stress" : Str)), (("Best" : Str), ("row" : Str)), (("Best" : Str), ("weights" : Str)), (("Braced" : Str), ("back" : Str)), (("Braced" : Str), ("there" : Str)), (("Carries" : Str), ("row" : Str)), (("Cheapest" : Str), ("fields" : Str)), (("Covered" : Str), ("lots" : Str)), (("Crowded" : Str), ("joints" : Str)), (("Drops" : Str), ("move" : Str)), (("Ears" : Str), ("rows" : Str)), (("Fails" : Str), ("move" : Str)), (("Fails" : Str), ("number" : Str)), (("Falls" : Str), ("row" : Str)), (("Falls" : Str), ("way" : Str)), (("Firm" : Str), ("answers" : Str)), (("Firm" : Str), ("stress" : Str)), (("Fit" : Str), ("aims" : Str)), (("Fit" : Str), ("points" : Str)), (("Forests" : Str), ("rows" : Str)), (("Found" : Str), ("row" : Str)), (("Free" : Str), ("points" : Str)), (("Gives" : Str), ("move" : Str)), (("Grown" : Str), ("steps" : Str)), (("HeldPlaces" : Str), ("points" : Str)), (("HeldPlaces" : Str), ("stress" : Str)), (("Hung" : Str), ("points" : Str)), (("Lacking" : Str), ("one" : Str)), (("Lacking" : Str), ("other" : Str)), (("LetsGo" : Str), ("lots" : Str)), (("LetsGo" : Str), ("tie" : Str)), (("Level" : Str), ("move" : Str)), (("Level" : Str), ("tie" : Str)), (("Lift" : Str), ("roof" : Str)), (("Light" : Str), ("move" : Str)), (("Light" : Str), ("row" : Str)), (("Loose" : Str), ("move" : Str)), (("Never" : Str), ("weights" : Str)), (("OneShape" : Str), ("joints" : Str)), (("OneShape" : Str), ("steps" : Str)), (("Opens" : Str), ("points" : Str)), (("Parting" : Str), ("joints" : Str)), (("Parting" : Str), ("lots" : Str)), (("Parts" : Str), ("move" : Str)), (("Parts" : Str), ("stress" : Str)), (("Placed" : Str), ("bars" : Str)), (("Pulls" : Str), ("row" : Str)), (("Set" : Str), ("answers" : Str)), (("Shears" : Str), ("shear" : Str)), (("Shuts" : Str), ("tie" : Str)), (("Shuts" : Str), ("weights" : Str)), (("Sinks" : Str), ("move" : Str)), (("Sizes" : Str), ("moves" : Str)), (("Sizes" : Str), ("rows" : Str)), (("Sizes" : Str), ("sizes" : Str)), (("Slack" : Str), ("move" : Str)), (("Slips" : Str), ("screws" : Str)), (("Split" : Str), ("lots" : Str)), (("Stiff" : Str), ("answers" : Str)), (("Thick" : Str), ("joints" : Str)), (("Thicket" : Str), ("joints" : Str)), (("Trees" : Str), ("rows" : Str)), (("TwoTrees" : Str), ("one" : Str)), (("TwoTrees" : Str), ("other" : Str)), (("Uses" : Str), ("move" : Str)), (("Uses" : Str), ("row" : Str)), (("Warped" : Str), ("face" : Str)), (("Warped" : Str), ("joints" : Str)), (("Weights" : Str), ("row" : Str)), (("Yields" : Str), ("shear" : Str))]
def FRs : List Str := [("len" : Str), ("tuple" : Str), ("list" : Str), ("int" : Str), ("abs" : Str), ("repr" : Str), ("isinstance" : Str), ("range" : Str), ("bool" : Str), ("str" : Str), ("dict" : Str)]
def GLs : List Str := [("copied" : Str), ("_law_pen" : Str), ("_law_draw" : Str), ("_law_pick" : Str), ("_law_made_a" : Str), ("_law_made_b" : Str), ("_law_made_c" : Str), ("_law_made_d" : Str), ("_law_made_e" : Str), ("_law_value" : Str), ("_law_copy" : Str), ("law" : Str)]
abbrev s_copied : Stmt := top 1
abbrev s_Found : Stmt := (DL.clsBd (top 3)).getD 0 (.Pass ⟨0, 0, 0, 0⟩)
abbrev s_Barred : Stmt := (DL.clsBd (top 4)).getD 0 (.Pass ⟨0, 0, 0, 0⟩)
abbrev s_Best : Stmt := (DL.clsBd (top 5)).getD 0 (.Pass ⟨0, 0, 0, 0⟩)
abbrev s_Falls : Stmt := (DL.clsBd (top 6)).getD 0 (.Pass ⟨0, 0, 0, 0⟩)
abbrev s_Never : Stmt := (DL.clsBd (top 7)).getD 0 (.Pass ⟨0, 0, 0, 0⟩)
abbrev s_Answer : Stmt := (DL.clsBd (top 9)).getD 0 (.Pass ⟨0, 0, 0, 0⟩)
abbrev s_Against : Stmt := (DL.clsBd (top 10)).getD 0 (.Pass ⟨0, 0, 0, 0⟩)
abbrev s_Stiff : Stmt := (DL.clsBd (top 11)).getD 0 (.Pass ⟨0, 0, 0, 0⟩)
abbrev s_Loose : Stmt := (DL.clsBd (top 12)).getD 0 (.Pass ⟨0, 0, 0, 0⟩)
abbrev s_Free : Stmt := (DL.clsBd (top 14)).getD 0 (.Pass ⟨0, 0, 0, 0⟩)
abbrev s_Crowded : Stmt := (DL.clsBd (top 15)).getD 0 (.Pass ⟨0, 0, 0, 0⟩)
abbrev s_Grown : Stmt := (DL.clsBd (top 16)).getD 0 (.Pass ⟨0, 0, 0, 0⟩)
abbrev s_Covered : Stmt := (DL.clsBd (top 17)).getD 0 (.Pass ⟨0, 0, 0, 0⟩)
abbrev s_Opens : Stmt := (DL.clsBd (top 19)).getD 0 (.Pass ⟨0, 0, 0, 0⟩)
abbrev s_Shuts : Stmt := (DL.clsBd (top 20)).getD 0 (.Pass ⟨0, 0, 0, 0⟩)
abbrev s_Forests : Stmt := (DL.clsBd (top 22)).getD 0 (.Pass ⟨0, 0, 0, 0⟩)
abbrev s_Thicket : Stmt := (DL.clsBd (top 23)).getD 0 (.Pass ⟨0, 0, 0, 0⟩)
abbrev s_Trees : Stmt := (DL.clsBd (top 24)).getD 0 (.Pass ⟨0, 0, 0, 0⟩)
abbrev s_Split : Stmt := (DL.clsBd (top 25)).getD 0 (.Pass ⟨0, 0, 0, 0⟩)
abbrev s_Fit : Stmt := (DL.clsBd (top 27)).getD 0 (.Pass ⟨0, 0, 0, 0⟩)
abbrev s_Set : Stmt := (DL.clsBd (top 29)).getD 0 (.Pass ⟨0, 0, 0, 0⟩)
abbrev s_Slips : Stmt := (DL.clsBd (top 30)).getD 0 (.Pass ⟨0, 0, 0, 0⟩)
abbrev s_Placed : Stmt := (DL.clsBd (top 31)).getD 0 (.Pass ⟨0, 0, 0, 0⟩)
abbrev s_Braced : Stmt := (DL.clsBd (top 33)).getD 0 (.Pass ⟨0, 0, 0, 0⟩)
abbrev s_Shears : Stmt := (DL.clsBd (top 34)).getD 0 (.Pass ⟨0, 0, 0, 0⟩)
abbrev s_Pulls : Stmt := (DL.clsBd (top 35)).getD 0 (.Pass ⟨0, 0, 0, 0⟩)
abbrev s_Yields : Stmt := (DL.clsBd (top 36)).getD 0 (.Pass ⟨0, 0, 0, 0⟩)
abbrev s_Hung : Stmt := (DL.clsBd (top 38)).getD 0 (.Pass ⟨0, 0, 0, 0⟩)
abbrev s_Adrift : Stmt := (DL.clsBd (top 39)).getD 0 (.Pass ⟨0, 0, 0, 0⟩)
abbrev s_Weights : Stmt := (DL.clsBd (top 40)).getD 0 (.Pass ⟨0, 0, 0, 0⟩)
abbrev s_Slack : Stmt := (DL.clsBd (top 41)).getD 0 (.Pass ⟨0, 0, 0, 0⟩)
abbrev s_Bent : Stmt := (DL.clsBd (top 43)).getD 0 (.Pass ⟨0, 0, 0, 0⟩)
abbrev s_Level : Stmt := (DL.clsBd (top 44)).getD 0 (.Pass ⟨0, 0, 0, 0⟩)
abbrev s_Lift : Stmt := (DL.clsBd (top 45)).getD 0 (.Pass ⟨0, 0, 0, 0⟩)
abbrev s_Warped : Stmt := (DL.clsBd (top 46)).getD 0 (.Pass ⟨0, 0, 0, 0⟩)
abbrev s_Firm : Stmt := (DL.clsBd (top 48)).getD 0 (.Pass ⟨0, 0, 0, 0⟩)
abbrev s_Gives : Stmt := (DL.clsBd (top 49)).getD 0 (.Pass ⟨0, 0, 0, 0⟩)
abbrev s_Parts : Stmt := (DL.clsBd (top 50)).getD 0 (.Pass ⟨0, 0, 0, 0⟩)
abbrev s_Carries : Stmt := (DL.clsBd (top 51)).getD 0 (.Pass ⟨0, 0, 0, 0⟩)
abbrev s_Drops : Stmt := (DL.clsBd (top 52)).getD 0 (.Pass ⟨0, 0, 0, 0⟩)
abbrev s_OneShape : Stmt := (DL.clsBd (top 54)).getD 0 (.Pass ⟨0, 0, 0, 0⟩)
abbrev s_Lacking : Stmt := (DL.clsBd (top 55)).getD 0 (.Pass ⟨0, 0, 0, 0⟩)
abbrev s_Parting : Stmt := (DL.clsBd (top 56)).getD 0 (.Pass ⟨0, 0, 0, 0⟩)
abbrev s_LetsGo : Stmt := (DL.clsBd (top 57)).getD 0 (.Pass ⟨0, 0, 0, 0⟩)
abbrev s_Ears : Stmt := (DL.clsBd (top 58)).getD 0 (.Pass ⟨0, 0, 0, 0⟩)
abbrev s_HeldPlaces : Stmt := (DL.clsBd (top 59)).getD 0 (.Pass ⟨0, 0, 0, 0⟩)
abbrev s_Cheapest : Stmt := (DL.clsBd (top 61)).getD 0 (.Pass ⟨0, 0, 0, 0⟩)
abbrev s_TwoTrees : Stmt := (DL.clsBd (top 63)).getD 0 (.Pass ⟨0, 0, 0, 0⟩)
abbrev s_Thick : Stmt := (DL.clsBd (top 64)).getD 0 (.Pass ⟨0, 0, 0, 0⟩)
abbrev s_Light : Stmt := (DL.clsBd (top 66)).getD 0 (.Pass ⟨0, 0, 0, 0⟩)
abbrev s_Sinks : Stmt := (DL.clsBd (top 67)).getD 0 (.Pass ⟨0, 0, 0, 0⟩)
abbrev s_Uses : Stmt := (DL.clsBd (top 68)).getD 0 (.Pass ⟨0, 0, 0, 0⟩)
abbrev s_Sizes : Stmt := (DL.clsBd (top 69)).getD 0 (.Pass ⟨0, 0, 0, 0⟩)
abbrev s_Fails : Stmt := (DL.clsBd (top 70)).getD 0 (.Pass ⟨0, 0, 0, 0⟩)
abbrev s_ulaw_pen : Stmt := top 72
abbrev s_ulaw_draw : Stmt := top 73
abbrev s_ulaw_pick : Stmt := top 74
abbrev s_ulaw_made_a : Stmt := top 75
abbrev s_ulaw_made_b : Stmt := top 76
abbrev s_ulaw_made_c : Stmt := top 77
abbrev s_ulaw_made_d : Stmt := top 78
abbrev s_ulaw_made_e : Stmt := top 79
abbrev s_ulaw_value : Stmt := top 80
abbrev s_ulaw_copy : Stmt := top 81
abbrev s_law : Stmt := top 82
def d_copied : He.DefD := ⟨("copied", none), "copied", "copied", L2.defArgs s_copied, L2.defBody s_copied, L2.defScope s_copied, [], []⟩
def d_Found : He.DefD := ⟨("Found", some "__init__"), "__init__", "Found.__init__", L2.defArgs s_Found, L2.defBody s_Found, L2.defScope s_Found, [], []⟩
def d_Barred : He.DefD := ⟨("Barred", some "__init__"), "__init__", "Barred.__init__", L2.defArgs s_Barred, L2.defBody s_Barred, L2.defScope s_Barred, [], []⟩
def d_Best : He.DefD := ⟨("Best", some "__init__"), "__init__", "Best.__init__", L2.defArgs s_Best, L2.defBody s_Best, L2.defScope s_Best, [], []⟩
def d_Falls : He.DefD := ⟨("Falls", some "__init__"), "__init__", "Falls.__init__", L2.defArgs s_Falls, L2.defBody s_Falls, L2.defScope s_Falls, [], []⟩
def d_Never : He.DefD := ⟨("Never", some "__init__"), "__init__", "Never.__init__", L2.defArgs s_Never, L2.defBody s_Never, L2.defScope s_Never, [], []⟩
def d_Answer : He.DefD := ⟨("Answer", some "__init__"), "__init__", "Answer.__init__", L2.defArgs s_Answer, L2.defBody s_Answer, L2.defScope s_Answer, [], []⟩
def d_Against : He.DefD := ⟨("Against", some "__init__"), "__init__", "Against.__init__", L2.defArgs s_Against, L2.defBody s_Against, L2.defScope s_Against, [], []⟩
def d_Stiff : He.DefD := ⟨("Stiff", some "__init__"), "__init__", "Stiff.__init__", L2.defArgs s_Stiff, L2.defBody s_Stiff, L2.defScope s_Stiff, [], []⟩
def d_Loose : He.DefD := ⟨("Loose", some "__init__"), "__init__", "Loose.__init__", L2.defArgs s_Loose, L2.defBody s_Loose, L2.defScope s_Loose, [], []⟩
def d_Free : He.DefD := ⟨("Free", some "__init__"), "__init__", "Free.__init__", L2.defArgs s_Free, L2.defBody s_Free, L2.defScope s_Free, [], []⟩
def d_Crowded : He.DefD := ⟨("Crowded", some "__init__"), "__init__", "Crowded.__init__", L2.defArgs s_Crowded, L2.defBody s_Crowded, L2.defScope s_Crowded, [], []⟩
def d_Grown : He.DefD := ⟨("Grown", some "__init__"), "__init__", "Grown.__init__", L2.defArgs s_Grown, L2.defBody s_Grown, L2.defScope s_Grown, [], []⟩
def d_Covered : He.DefD := ⟨("Covered", some "__init__"), "__init__", "Covered.__init__", L2.defArgs s_Covered, L2.defBody s_Covered, L2.defScope s_Covered, [], []⟩
def d_Opens : He.DefD := ⟨("Opens", some "__init__"), "__init__", "Opens.__init__", L2.defArgs s_Opens, L2.defBody s_Opens, L2.defScope s_Opens, [], []⟩
def d_Shuts : He.DefD := ⟨("Shuts", some "__init__"), "__init__", "Shuts.__init__", L2.defArgs s_Shuts, L2.defBody s_Shuts, L2.defScope s_Shuts, [], []⟩
def d_Forests : He.DefD := ⟨("Forests", some "__init__"), "__init__", "Forests.__init__", L2.defArgs s_Forests, L2.defBody s_Forests, L2.defScope s_Forests, [], []⟩
def d_Thicket : He.DefD := ⟨("Thicket", some "__init__"), "__init__", "Thicket.__init__", L2.defArgs s_Thicket, L2.defBody s_Thicket, L2.defScope s_Thicket, [], []⟩
def d_Trees : He.DefD := ⟨("Trees", some "__init__"), "__init__", "Trees.__init__", L2.defArgs s_Trees, L2.defBody s_Trees, L2.defScope s_Trees, [], []⟩
def d_Split : He.DefD := ⟨("Split", some "__init__"), "__init__", "Split.__init__", L2.defArgs s_Split, L2.defBody s_Split, L2.defScope s_Split, [], []⟩
def d_Fit : He.DefD := ⟨("Fit", some "__init__"), "__init__", "Fit.__init__", L2.defArgs s_Fit, L2.defBody s_Fit, L2.defScope s_Fit, [], []⟩
def d_Set : He.DefD := ⟨("Set", some "__init__"), "__init__", "Set.__init__", L2.defArgs s_Set, L2.defBody s_Set, L2.defScope s_Set, [], []⟩
def d_Slips : He.DefD := ⟨("Slips", some "__init__"), "__init__", "Slips.__init__", L2.defArgs s_Slips, L2.defBody s_Slips, L2.defScope s_Slips, [], []⟩
def d_Placed : He.DefD := ⟨("Placed", some "__init__"), "__init__", "Placed.__init__", L2.defArgs s_Placed, L2.defBody s_Placed, L2.defScope s_Placed, [], []⟩
def d_Braced : He.DefD := ⟨("Braced", some "__init__"), "__init__", "Braced.__init__", L2.defArgs s_Braced, L2.defBody s_Braced, L2.defScope s_Braced, [], []⟩
def d_Shears : He.DefD := ⟨("Shears", some "__init__"), "__init__", "Shears.__init__", L2.defArgs s_Shears, L2.defBody s_Shears, L2.defScope s_Shears, [], []⟩
def d_Pulls : He.DefD := ⟨("Pulls", some "__init__"), "__init__", "Pulls.__init__", L2.defArgs s_Pulls, L2.defBody s_Pulls, L2.defScope s_Pulls, [], []⟩
def d_Yields : He.DefD := ⟨("Yields", some "__init__"), "__init__", "Yields.__init__", L2.defArgs s_Yields, L2.defBody s_Yields, L2.defScope s_Yields, [], []⟩
def d_Hung : He.DefD := ⟨("Hung", some "__init__"), "__init__", "Hung.__init__", L2.defArgs s_Hung, L2.defBody s_Hung, L2.defScope s_Hung, [], []⟩
def d_Adrift : He.DefD := ⟨("Adrift", some "__init__"), "__init__", "Adrift.__init__", L2.defArgs s_Adrift, L2.defBody s_Adrift, L2.defScope s_Adrift, [], []⟩
def d_Weights : He.DefD := ⟨("Weights", some "__init__"), "__init__", "Weights.__init__", L2.defArgs s_Weights, L2.defBody s_Weights, L2.defScope s_Weights, [], []⟩
def d_Slack : He.DefD := ⟨("Slack", some "__init__"), "__init__", "Slack.__init__", L2.defArgs s_Slack, L2.defBody s_Slack, L2.defScope s_Slack, [], []⟩
def d_Bent : He.DefD := ⟨("Bent", some "__init__"), "__init__", "Bent.__init__", L2.defArgs s_Bent, L2.defBody s_Bent, L2.defScope s_Bent, [], []⟩
def d_Level : He.DefD := ⟨("Level", some "__init__"), "__init__", "Level.__init__", L2.defArgs s_Level, L2.defBody s_Level, L2.defScope s_Level, [], []⟩
def d_Lift : He.DefD := ⟨("Lift", some "__init__"), "__init__", "Lift.__init__", L2.defArgs s_Lift, L2.defBody s_Lift, L2.defScope s_Lift, [], []⟩
def d_Warped : He.DefD := ⟨("Warped", some "__init__"), "__init__", "Warped.__init__", L2.defArgs s_Warped, L2.defBody s_Warped, L2.defScope s_Warped, [], []⟩
def d_Firm : He.DefD := ⟨("Firm", some "__init__"), "__init__", "Firm.__init__", L2.defArgs s_Firm, L2.defBody s_Firm, L2.defScope s_Firm, [], []⟩
def d_Gives : He.DefD := ⟨("Gives", some "__init__"), "__init__", "Gives.__init__", L2.defArgs s_Gives, L2.defBody s_Gives, L2.defScope s_Gives, [], []⟩
def d_Parts : He.DefD := ⟨("Parts", some "__init__"), "__init__", "Parts.__init__", L2.defArgs s_Parts, L2.defBody s_Parts, L2.defScope s_Parts, [], []⟩
def d_Carries : He.DefD := ⟨("Carries", some "__init__"), "__init__", "Carries.__init__", L2.defArgs s_Carries, L2.defBody s_Carries, L2.defScope s_Carries, [], []⟩
def d_Drops : He.DefD := ⟨("Drops", some "__init__"), "__init__", "Drops.__init__", L2.defArgs s_Drops, L2.defBody s_Drops, L2.defScope s_Drops, [], []⟩
def d_OneShape : He.DefD := ⟨("OneShape", some "__init__"), "__init__", "OneShape.__init__", L2.defArgs s_OneShape, L2.defBody s_OneShape, L2.defScope s_OneShape, [], []⟩
def d_Lacking : He.DefD := ⟨("Lacking", some "__init__"), "__init__", "Lacking.__init__", L2.defArgs s_Lacking, L2.defBody s_Lacking, L2.defScope s_Lacking, [], []⟩
def d_Parting : He.DefD := ⟨("Parting", some "__init__"), "__init__", "Parting.__init__", L2.defArgs s_Parting, L2.defBody s_Parting, L2.defScope s_Parting, [], []⟩
def d_LetsGo : He.DefD := ⟨("LetsGo", some "__init__"), "__init__", "LetsGo.__init__", L2.defArgs s_LetsGo, L2.defBody s_LetsGo, L2.defScope s_LetsGo, [], []⟩
def d_Ears : He.DefD := ⟨("Ears", some "__init__"), "__init__", "Ears.__init__", L2.defArgs s_Ears, L2.defBody s_Ears, L2.defScope s_Ears, [], []⟩
def d_HeldPlaces : He.DefD := ⟨("HeldPlaces", some "__init__"), "__init__", "HeldPlaces.__init__", L2.defArgs s_HeldPlaces, L2.defBody s_HeldPlaces, L2.defScope s_HeldPlaces, [], []⟩
def d_Cheapest : He.DefD := ⟨("Cheapest", some "__init__"), "__init__", "Cheapest.__init__", L2.defArgs s_Cheapest, L2.defBody s_Cheapest, L2.defScope s_Cheapest, [], []⟩
def d_TwoTrees : He.DefD := ⟨("TwoTrees", some "__init__"), "__init__", "TwoTrees.__init__", L2.defArgs s_TwoTrees, L2.defBody s_TwoTrees, L2.defScope s_TwoTrees, [], []⟩
def d_Thick : He.DefD := ⟨("Thick", some "__init__"), "__init__", "Thick.__init__", L2.defArgs s_Thick, L2.defBody s_Thick, L2.defScope s_Thick, [], []⟩
def d_Light : He.DefD := ⟨("Light", some "__init__"), "__init__", "Light.__init__", L2.defArgs s_Light, L2.defBody s_Light, L2.defScope s_Light, [], []⟩
def d_Sinks : He.DefD := ⟨("Sinks", some "__init__"), "__init__", "Sinks.__init__", L2.defArgs s_Sinks, L2.defBody s_Sinks, L2.defScope s_Sinks, [], []⟩
def d_Uses : He.DefD := ⟨("Uses", some "__init__"), "__init__", "Uses.__init__", L2.defArgs s_Uses, L2.defBody s_Uses, L2.defScope s_Uses, [], []⟩
def d_Sizes : He.DefD := ⟨("Sizes", some "__init__"), "__init__", "Sizes.__init__", L2.defArgs s_Sizes, L2.defBody s_Sizes, L2.defScope s_Sizes, [], []⟩
def d_Fails : He.DefD := ⟨("Fails", some "__init__"), "__init__", "Fails.__init__", L2.defArgs s_Fails, L2.defBody s_Fails, L2.defScope s_Fails, [], []⟩
def d_ulaw_pen : He.DefD := ⟨("_law_pen", none), "_law_pen", "_law_pen", L2.defArgs s_ulaw_pen, L2.defBody s_ulaw_pen, L2.defScope s_ulaw_pen, [], []⟩
def d_ulaw_draw : He.DefD := ⟨("_law_draw", none), "_law_draw", "_law_draw", L2.defArgs s_ulaw_draw, L2.defBody s_ulaw_draw, L2.defScope s_ulaw_draw, [], []⟩
def d_ulaw_pick : He.DefD := ⟨("_law_pick", none), "_law_pick", "_law_pick", L2.defArgs s_ulaw_pick, L2.defBody s_ulaw_pick, L2.defScope s_ulaw_pick, [], []⟩
def d_ulaw_made_a : He.DefD := ⟨("_law_made_a", none), "_law_made_a", "_law_made_a", L2.defArgs s_ulaw_made_a, L2.defBody s_ulaw_made_a, L2.defScope s_ulaw_made_a, [], []⟩
def d_ulaw_made_b : He.DefD := ⟨("_law_made_b", none), "_law_made_b", "_law_made_b", L2.defArgs s_ulaw_made_b, L2.defBody s_ulaw_made_b, L2.defScope s_ulaw_made_b, [], []⟩
def d_ulaw_made_c : He.DefD := ⟨("_law_made_c", none), "_law_made_c", "_law_made_c", L2.defArgs s_ulaw_made_c, L2.defBody s_ulaw_made_c, L2.defScope s_ulaw_made_c, [], []⟩
def d_ulaw_made_d : He.DefD := ⟨("_law_made_d", none), "_law_made_d", "_law_made_d", L2.defArgs s_ulaw_made_d, L2.defBody s_ulaw_made_d, L2.defScope s_ulaw_made_d, [], []⟩
def d_ulaw_made_e : He.DefD := ⟨("_law_made_e", none), "_law_made_e", "_law_made_e", L2.defArgs s_ulaw_made_e, L2.defBody s_ulaw_made_e, L2.defScope s_ulaw_made_e, [], []⟩
def d_ulaw_value : He.DefD := ⟨("_law_value", none), "_law_value", "_law_value", L2.defArgs s_ulaw_value, L2.defBody s_ulaw_value, L2.defScope s_ulaw_value, [], []⟩
def d_ulaw_copy : He.DefD := ⟨("_law_copy", none), "_law_copy", "_law_copy", L2.defArgs s_ulaw_copy, L2.defBody s_ulaw_copy, L2.defScope s_ulaw_copy, [], []⟩
def d_law : He.DefD := ⟨("law", none), "law", "law", L2.defArgs s_law, L2.defBody s_law, L2.defScope s_law, [], []⟩
def fn : List He.DefD := [d_copied, d_Found, d_Barred, d_Best, d_Falls, d_Never, d_Answer, d_Against, d_Stiff, d_Loose, d_Free, d_Crowded, d_Grown, d_Covered, d_Opens, d_Shuts, d_Forests, d_Thicket, d_Trees, d_Split, d_Fit, d_Set, d_Slips, d_Placed, d_Braced, d_Shears, d_Pulls, d_Yields, d_Hung, d_Adrift, d_Weights, d_Slack, d_Bent, d_Level, d_Lift, d_Warped, d_Firm, d_Gives, d_Parts, d_Carries, d_Drops, d_OneShape, d_Lacking, d_Parting, d_LetsGo, d_Ears, d_HeldPlaces, d_Cheapest, d_TwoTrees, d_Thick, d_Light, d_Sinks, d_Uses, d_Sizes, d_Fails, d_ulaw_pen, d_ulaw_draw, d_ulaw_pick, d_ulaw_made_a, d_ulaw_made_b, d_ulaw_made_c, d_ulaw_made_d, d_ulaw_made_e, d_ulaw_value, d_ulaw_copy, d_law]
def tst (K : PySem.W.Frag) : Bool := tSys K && (FRs.all (fun x => (He.Fa.free x).ok K) && (CLs.all (fun x => (He.Fa.glo x).ok K && (tCls K x && ((He.Fa.mkr x).ok K && tIsB K x))) && (NAs.all (fun p => (He.Fa.noat p.1 p.2).ok K && (He.Fa.glo p.1).ok K) && (eqL.all (fun x => tNoEq K x && (He.Fa.glo x).ok K) && GLs.all fun x => (He.Fa.glo x).ok K))))
end K83

namespace K83
open PySem PySem.W PySem.Calls PyProof.Rows HandSHeadRun DL
abbrev R : OpenRow := OpenLaw.row PySem.Challenge.rw_stiffwebs_k83_classes_made_by_hand
abbrev qv : Program := view R.prog [82]
def names : List PySem.Str := (R.prog.main.scope.names.map (·.1)).filter fun n => n != ("law" : PySem.Str) && n != ("__name__" : PySem.Str)
/-- where the module's names, classes, defs lie behind the top -/
def AS : List Addr := [3, 1, 38, 59, 80, 101, 122, 143, 164, 185, 206, 227, 248, 269, 290, 311, 332, 353, 374, 395, 416, 437, 458, 479, 500, 521, 542, 563, 584, 605, 626, 647, 668, 689, 710, 731, 752, 773, 794, 815, 836, 857, 878, 899, 920, 941, 962, 983, 1004, 1025, 1046, 1067, 1088, 1109, 1130, 1151, 37, 58, 79, 100, 121, 142, 163, 184, 205, 226, 247, 268, 289, 310, 331, 352, 373, 394, 415, 436, 457, 478, 499, 520, 541, 562, 583, 604, 625, 646, 667, 688, 709, 730, 751, 772, 793, 814, 835, 856, 877, 898, 919, 940, 961, 982, 1003, 1024, 1045, 1066, 1087, 1108, 1129, 1150, 35, 56, 77, 98, 119, 140, 161, 182, 203, 224, 245, 266, 287, 308, 329, 350, 371, 392, 413, 434, 455, 476, 497, 518, 539, 560, 581, 602, 623, 644, 665, 686, 707, 728, 749, 770, 791, 812, 833, 854, 875, 896, 917, 938, 959, 980, 1001, 1022, 1043, 1064, 1085, 1106, 1127, 1148, 21, 1162, 1169, 1176, 1183, 1190, 1197, 1204, 1211, 1216, 1223, 1228, 20, 1161, 1168, 1175, 1182, 1189, 1196, 1203, 1210, 1215, 1222, 1227, 34, 55, 76, 97, 118, 139, 160, 181, 202, 223, 244, 265, 286, 307, 328, 349, 370, 391, 412, 433, 454, 475, 496, 517, 538, 559, 580, 601, 622, 643, 664, 685, 706, 727, 748, 769, 790, 811, 832, 853, 874, 895, 916, 937, 958, 979, 1000, 1021, 1042, 1063, 1084, 1105, 1126, 1147]
abbrev hk : Hook := hookX AS tst fn
def ob (s : SharedT) : AlX := obsXG AS tst fn (HandSHeadRun.getT s)
def KS (s : SharedT) : Frag := He.frG (HandSHeadRun.getT s) AS
theorem ob_eq (s : SharedT) : ob s = hk.obs s.abs := obsXG_eq (HandSHeadRun.getT_eq s)
theorem hrun1 (w : World) (os : OsState) : (endF (stepQ (denQ tabQ) R.prog w) 30000 R.prog w os).map (fun s => (looksF R.prog (boot_heap w.params) s.abs, seenQ qv names (importedModules R.prog.main.body) (fun s => xlAt qv [] s && recOk R.toRowW.records s) s.abs)) = some (true, openGood qv names) := by kernel_rfl
theorem hrun2 (w : World) (os : OsState) : (endF (stepQ (denQ tabQ) R.prog w) 30000 R.prog w os).map (fun s => tst (KS s)) = some true := by kernel_rfl
theorem hrun3 (w : World) (os : OsState) : (endF (stepQ (denQ tabQ) R.prog w) 30000 R.prog w os).map (fun s => (fn.all fun d => d.ok (KS s), fn.map fun d => He.fnW (KS s) d.at_)) = some (true, fn.map He.DefD.val) := by kernel_rfl
theorem run (w : World) : HandSHeadRun.RunEq R qv hk ob 30000 names w := by
  intro os
  have h := join3 _ (hrun1 w os) (hrun2 w os) (hrun3 w os)
  exact h
end K83

/-! # DL: values without addresses, what the heap says of them, the mirror monad -/
namespace DL
open PySem PySem.Spec PyProof.Rows L2 LamX

/-- a lambda's words -/
structure LamW where
  id : Nat
  qual : Str
  params : Arguments
  body : Expr
  scope : Scope
  free : List Str
/-- a value as the law thinks of it; lam: a lambda that stands in its maker's frame, with the cells that it took; clo: the same with what the cells hold; exo: the exception at a with the dict at d that an except clause names; tab: the table at P, of code objects that bear the name q; frl: a list from outside (the script); obj i: the i-th thing of the store (things that change) -/
inductive D where
  | non | bl (b : Bool) | int (i : Int) | str (x : Str)
  | tup (ds : List D) | lst (ds : List D) | frl (ds : List D) | dct (es : List (Key × D))
  | ins (C : Str) (fs : List (Str × D)) | obj (i : Nat) | ptr (a : Addr) | lam (W : LamW) (κ : List (Str × Addr)) | clo (W : LamW) (cs : List D) | tab (P : Addr) (q : Str) | exo (a d : Addr) (C : Str) (fs : List (Str × D))

/-- what is known of the heap besides: the part that never changes, the addresses of the store's things -/
structure Gh where
  fz : Hp
  io : List Addr

/-- what is known of a class whose instances are met -/
structure ClsF (K : PySem.W.Frag) (A : Addr) : Prop where
  cls : Cls K A
  cc : PySem.W.findIn K (.ref A) "__class__" = some (some (.builtin "object.__class__"))
  cg : PySem.W.specialIn K (.builtin "object.__class__") "__get__" = some (some (.builtin "getset_descriptor.__get__"))
  ct : PySem.W.takesIn K (.builtin "object.__class__") = some true
  mo : PySem.W.mroIn K A (.type "object") = some true
  nb : ∀ T ∈ (["int", "bool", "str", "tuple", "list", "dict"] : List String), PySem.W.kitOne K (.ref A) (.type T) = some false
/-- the class x at A, its instances having the fields ns -/
structure InsF (K : PySem.W.Frag) (mg : Str → Option Value) (x : Str) (A : Addr) (ns : List Str) : Prop where
  mg : mg x = some (.ref A)
  cf : ClsF K A
  na : ∀ f ∈ ns, NoAttr K A f
/-- a made lambda -/
def LamO (f : Addr) (W : LamW) (κ : List (Str × Addr)) (c : Addr) : HO := .ext fun h => ∃ pm ctv : Value, h.get? f = some (PySem.W.kla_obj "<lambda>" W.qual W.params W.body W.scope κ pm c ctv)
/-- the object o, as it is -/
def CellX (c : Addr) (o : Obj) : HO := .frz o (.own c)
/-- the cells κ hold vs -/
structure ClosAt (g : Gh) (κ : List (Str × Addr)) (vs : List V) : Prop where
  len : κ.length = vs.length
  inj : ∀ x y c, κ.lookup x = some c → κ.lookup y = some c → x = y
  at_ : ∀ (i : Nat) (y : Str) (c : Addr), κ[i]? = some (y, c) → κ.lookup y = some c ∧ ∃ v o u, vs[i]? = some v ∧ g.fz c = some (CellX c o) ∧ o.data = .cell (some u) ∧ L2.RelV v u
mutual
inductive Rep (K : PySem.W.Frag) (mg : Str → Option Value) (g : Gh) : V → D → Prop
  | non : Rep K mg g .non .non
  | bl (b : Bool) : Rep K mg g (.bl b) (.bl b)
  | int (i : Int) : Rep K mg g (.int i) (.int i)
  | str (x : Str) : Rep K mg g (.str x) (.str x)
  | tup {a : Addr} {vs : List V} {ds : List D} : SqT K g.fz a vs → Reps K mg g vs ds → Rep K mg g (.ref a) (.tup ds)
  | lst {a : Addr} {vs : List V} {ds : List D} : g.fz a = some (.lst vs) → Reps K mg g vs ds → Rep K mg g (.ref a) (.lst ds)
  | frl {a : Addr} {vs : List V} {ds : List D} : SqL K g.fz a vs → Reps K mg g vs ds → Rep K mg g (.ref a) (.frl ds)
  | dct {a : Addr} {kvs : List (Key × V)} {es : List (Key × D)} : Rd g.fz a (.dK kvs) → kvs.map (·.1) = es.map (·.1) → Reps K mg g (kvs.map (·.2)) (es.map (·.2)) → Rep K mg g (.ref a) (.dct es)
  | ins {a A dx : Addr} {x : Str} {vfs : List (Str × V)} {fs : List (Str × D)} : g.fz a = some (.ins A dx vfs) → InsF K mg x A (fs.map (·.1)) → vfs.map (·.1) = fs.map (·.1) →
      Reps K mg g (vfs.map (·.2)) (fs.map (·.2)) → Rep K mg g (.ref a) (.ins x fs)
  | obj {i : Nat} {a : Addr} : g.io[i]? = some a → Rep K mg g (.ref a) (.obj i)
  | ptr (a : Addr) : Rep K mg g (.ref a) (.ptr a)
  | lam {f c : Addr} {W : LamW} {κ : List (Str × Addr)} : g.fz f = some (LamO f W κ c) → g.fz c = some (CodeO c W.qual) → Rep K mg g (.ref f) (.lam W κ)
  | clo {f c : Addr} {W : LamW} {κ : List (Str × Addr)} {vs : List V} {ds : List D} : g.fz f = some (LamO f W κ c) → g.fz c = some (CodeO c W.qual) → κ.map (·.1) = W.free → ClosAt g κ vs → Reps K mg g vs ds → Rep K mg g (.ref f) (.clo W ds)
  | exo {a d : Addr} {C : Str} {vfs : List (Str × V)} {fs : List (Str × D)} : g.fz d = some (.xd vfs) → vfs.map (·.1) = fs.map (·.1) → Reps K mg g (vfs.map (·.2)) (fs.map (·.2)) → Rep K mg g (.ref a) (.exo a d C fs)
  | tab {a P : Addr} {ps : Array Value} {q : Str} : g.fz a = some (.tbl ps) → TriplesOk ps.toList → (∀ (pos : Pos) (cv : Value), codeAmong pos ps.toList = some cv → ∃ c, cv = .ref c ∧ g.fz c = some (CodeO c q)) → Rep K mg g (.ref a) (.tab P q)
inductive Reps (K : PySem.W.Frag) (mg : Str → Option Value) (g : Gh) : List V → List D → Prop
  | nil : Reps K mg g [] []
  | cons {v : V} {vs : List V} {d : D} {ds : List D} : Rep K mg g v d → Reps K mg g vs ds → Reps K mg g (v :: vs) (d :: ds)
end

/-- g' knows all that g knows -/
structure Gh.Le (g g' : Gh) : Prop where
  fz : ∀ a o, g.fz a = some o → g'.fz a = some o
  io : ∀ (i : Nat) (a : Addr), g.io[i]? = some a → g'.io[i]? = some a
theorem Gh.Le.refl (g : Gh) : g.Le g := ⟨fun _ _ h => h, fun _ _ h => h⟩
theorem Gh.Le.trans {g g1 g2 : Gh} (a : g.Le g1) (b : g1.Le g2) : g.Le g2 := ⟨fun c o h => b.fz c o (a.fz c o h), fun i c h => b.io i c (a.io i c h)⟩
theorem Gh.Le.mem {g g' : Gh} (h : g.Le g') {a : Addr} (m : a ∈ g.io) : a ∈ g'.io := by
  obtain ⟨i, hi⟩ := List.mem_iff_getElem?.mp m
  exact List.mem_of_getElem? (h.io i a hi)
theorem Rd.le {G G' : Hp} {a : Addr} {u : HO} (h : ∀ a o, G a = some o → G' a = some o) (r : Rd G a u) : Rd G' a u := by
  rcases r with r | ⟨o, r⟩
  · exact .inl (h _ _ r)
  · exact .inr ⟨o, h _ _ r⟩
theorem sqT_le {K : PySem.W.Frag} {G G' : Hp} {a : Addr} {xs : List V} (h : ∀ a o, G a = some o → G' a = some o) (r : SqT K G a xs) : SqT K G' a xs := by
  rcases r with r | r
  · exact .inl (Rd.le h r)
  · exact .inr r
theorem sqL_le {K : PySem.W.Frag} {G G' : Hp} {a : Addr} {xs : List V} (h : ∀ a o, G a = some o → G' a = some o) (r : SqL K G a xs) : SqL K G' a xs := by
  rcases r with r | r
  · exact .inl (Rd.le h r)
  · exact .inr r

section
variable {K : PySem.W.Frag} {mg : Str → Option Value} {g g' : Gh}
mutual
theorem Rep.le (h : g.Le g') : ∀ {v : V} {d : D}, Rep K mg g v d → Rep K mg g' v d
  | _, _, .non => .non
  | _, _, .bl b => .bl b
  | _, _, .int i => .int i
  | _, _, .str x => .str x
  | _, _, .tup s r => .tup (sqT_le h.fz s) (Reps.le h r)
  | _, _, .lst s r => .lst (h.fz _ _ s) (Reps.le h r)
  | _, _, .frl s r => .frl (sqL_le h.fz s) (Reps.le h r)
  | _, _, .dct s e r => .dct (Rd.le h.fz s) e (Reps.le h r)
  | _, _, .ins s m e r => .ins (h.fz _ _ s) m e (Reps.le h r)
  | _, _, .obj e => .obj (h.io _ _ e)
  | _, _, .ptr a => .ptr a
  | _, _, .exo a b r => .exo (h.fz _ _ a) b (Reps.le h r)
  | _, _, .tab a b c => .tab (h.fz _ _ a) b fun p cv e => let ⟨x, e1, e2⟩ := c p cv e; ⟨x, e1, h.fz _ _ e2⟩
  | _, _, .lam a b => .lam (h.fz _ _ a) (h.fz _ _ b)
  | _, _, .clo a b n c r => .clo (h.fz _ _ a) (h.fz _ _ b) n ⟨c.len, c.inj, fun i y z e => let ⟨e1, v, o, u, e2, e3, e4⟩ := c.at_ i y z e; ⟨e1, v, o, u, e2, h.fz _ _ e3, e4⟩⟩ (Reps.le h r)
theorem Reps.le (h : g.Le g') : ∀ {vs : List V} {ds : List D}, Reps K mg g vs ds → Reps K mg g' vs ds
  | _, _, .nil => .nil
  | _, _, .cons r t => .cons (Rep.le h r) (Reps.le h t)
end
theorem Reps.length : ∀ {vs : List V} {ds : List D}, Reps K mg g vs ds → vs.length = ds.length
  | _, _, .nil => rfl
  | _, _, .cons _ t => by rw [List.length_cons, List.length_cons, Reps.length t]
theorem Reps.get : ∀ {vs : List V} {ds : List D} {i : Nat} {d : D}, Reps K mg g vs ds → ds[i]? = some d → ∃ v, vs[i]? = some v ∧ Rep K mg g v d
  | _, _, _, _, .nil, e => by simp at e
  | _, _, 0, _, .cons r _, e => by simp at e; subst e; exact ⟨_, rfl, r⟩
  | _, _, i + 1, _, .cons _ t, e => by
    obtain ⟨v, h1, h2⟩ := Reps.get (i := i) t (by simpa using e)
    exact ⟨v, by simpa using h1, h2⟩
theorem Reps.getV : ∀ {vs : List V} {ds : List D} {i : Nat} {v : V}, Reps K mg g vs ds → vs[i]? = some v → ∃ d, ds[i]? = some d ∧ Rep K mg g v d
  | _, _, _, _, .nil, e => by simp at e
  | _, _, 0, _, .cons r _, e => by simp at e; subst e; exact ⟨_, rfl, r⟩
  | _, _, i + 1, _, .cons _ t, e => by
    obtain ⟨v, h1, h2⟩ := Reps.getV (i := i) t (by simpa using e)
    exact ⟨v, by simpa using h1, h2⟩
theorem Reps.append : ∀ {vs ws : List V} {ds es : List D}, Reps K mg g vs ds → Reps K mg g ws es → Reps K mg g (vs ++ ws) (ds ++ es)
  | _, _, _, _, .nil, r => r
  | _, _, _, _, .cons r t, s => .cons r (Reps.append t s)
theorem Reps.take (n : Nat) : ∀ {vs : List V} {ds : List D}, Reps K mg g vs ds → Reps K mg g (vs.take n) (ds.take n) := by
  induction n with
  | zero => intro vs ds _; exact .nil
  | succ n ih =>
    intro vs ds r
    cases r with
    | nil => exact .nil
    | cons r t => exact .cons r (ih t)
theorem Reps.drop (n : Nat) : ∀ {vs : List V} {ds : List D}, Reps K mg g vs ds → Reps K mg g (vs.drop n) (ds.drop n) := by
  induction n with
  | zero => intro vs ds r; exact r
  | succ n ih =>
    intro vs ds r
    cases r with
    | nil => exact .nil
    | cons r t => exact ih t
theorem Reps.set {v : V} {d : D} (r : Rep K mg g v d) : ∀ {vs : List V} {ds : List D} (i : Nat), Reps K mg g vs ds → Reps K mg g (vs.set i v) (ds.set i d)
  | _, _, _, .nil => .nil
  | _, _, 0, .cons _ t => .cons r t
  | _, _, i + 1, .cons q t => .cons q (Reps.set r i t)
theorem Reps.reverse {vs : List V} {ds : List D} (r : Reps K mg g vs ds) : Reps K mg g vs.reverse ds.reverse := by
  induction vs generalizing ds with
  | nil => cases r; exact .nil
  | cons v vs ih =>
    cases r with
    | cons r t => rw [List.reverse_cons, List.reverse_cons]; exact (ih t).append (.cons r .nil)
theorem Reps.one {v : V} {d : D} (r : Rep K mg g v d) : Reps K mg g [v] [d] := .cons r .nil
end

/-- what the object ho holds, as a content d -/
def RepH (K : PySem.W.Frag) (mg : Str → Option Value) (g : Gh) : HO → D → Prop
  | .lst vs, .lst ds => Reps K mg g vs ds
  | .dK kvs, .dct es => kvs.map (·.1) = es.map (·.1) ∧ Reps K mg g (kvs.map (·.2)) (es.map (·.2))
  | .ins A _ vfs, .ins x fs => InsF K mg x A (fs.map (·.1)) ∧ vfs.map (·.1) = fs.map (·.1) ∧ Reps K mg g (vfs.map (·.2)) (fs.map (·.2))
  | .tbl ps, .tab _ q => TriplesOk ps.toList ∧ ∀ (pos : Pos) (cv : Value), codeAmong pos ps.toList = some cv → ∃ c, cv = .ref c ∧ g.fz c = some (CodeO c q)
  | _, _ => False
theorem RepH.le {K : PySem.W.Frag} {mg : Str → Option Value} {g g' : Gh} (h : g.Le g') {ho : HO} {d : D} (r : RepH K mg g ho d) : RepH K mg g' ho d := by
  cases ho <;> cases d <;> first | exact r.elim | skip
  · exact Reps.le h r
  · exact ⟨r.1, Reps.le h r.2⟩
  · exact ⟨r.1, r.2.1, Reps.le h r.2.2⟩
  · exact ⟨r.1, fun p cv e => let ⟨c, e1, e2⟩ := r.2 p cv e; ⟨c, e1, h.fz _ _ e2⟩⟩

/-- the store: what changes -/
abbrev Sto := List D
/-- the world: the unchanging part stands in the heap; each thing of the store stands at its own address -/
structure World (K : PySem.W.Frag) (mg : Str → Option Value) (g : Gh) (s : Sto) (H : Hp) : Prop where
  sub : ∀ a o, g.fz a = some o → H a = some o
  len : g.io.length = s.length
  inj : ∀ (i j : Nat) (a : Addr), g.io[i]? = some a → g.io[j]? = some a → i = j
  at_ : ∀ (i : Nat) (a : Addr) (d : D), g.io[i]? = some a → s[i]? = some d → g.fz a = none ∧ ∃ ho, H a = some ho ∧ RepH K mg g ho d
  tabs : ∀ (i : Nat) (P : Addr) (q : Str), s[i]? = some (.tab P q) → g.io[i]? = some P
theorem World.tracked {K : PySem.W.Frag} {mg : Str → Option Value} {g : Gh} {s : Sto} {H : Hp} (w : World K mg g s H) {a : Addr} (m : a ∈ g.io) : g.fz a = none ∧ ∃ ho, H a = some ho := by
  obtain ⟨i, hi⟩ := List.mem_iff_getElem?.mp m
  have hl : i < s.length := by rw [← w.len]; exact (List.getElem?_eq_some_iff.mp hi).1
  obtain ⟨h1, ho, h2, _⟩ := w.at_ i a s[i] hi (List.getElem?_eq_getElem hl)
  exact ⟨h1, ho, h2⟩

/-- from (g, H) to (g', H'): what was known is known, what is newly known is new, what stood stands but for the store's things -/
structure Ext (g : Gh) (H : Hp) (g' : Gh) (H' : Hp) : Prop where
  le : g.Le g'
  fz : ∀ a o, g'.fz a = some o → g.fz a = some o ∨ H a = none
  io : ∀ a, a ∈ g'.io → a ∈ g.io ∨ H a = none
  keep : ∀ a o, H a = some o → a ∉ g.io → H' a = some o
theorem Ext.refl (g : Gh) (H : Hp) : Ext g H g H := ⟨.refl g, fun _ _ h => .inl h, fun _ h => .inl h, fun _ _ h _ => h⟩
section
variable {K : PySem.W.Frag} {mg : Str → Option Value} {g0 g g' : Gh} {s : Sto} {P H H' : Hp}
theorem Ext.trans (a : Ext g0 P g H) (w : World K mg g s H) (b : Ext g H g' H') : Ext g0 P g' H' := by
  have free : ∀ c, c ∉ g0.io → H c = none → P c = none := fun c hc h => by
    cases q : P c with
    | none => rfl
    | some o =>
      have := a.keep c o q hc
      rw [h] at this; cases this
  have nio : ∀ c, H c = none → c ∉ g.io := fun c h m => by
    obtain ⟨_, ho, e⟩ := w.tracked m
    rw [h] at e; cases e
  refine ⟨a.le.trans b.le, fun c o h => ?_, fun c h => ?_, fun c o h hn => ?_⟩
  · rcases b.fz c o h with q | q
    · exact a.fz c o q
    · exact .inr (free c (fun m => nio c q (a.le.mem m)) q)
  · rcases b.io c h with q | q
    · exact a.io c q
    · exact .inr (free c (fun m => nio c q (a.le.mem m)) q)
  · refine b.keep c o (a.keep c o h hn) fun m => ?_
    rcases a.io c m with q | q
    · exact hn q
    · rw [h] at q; cases q
/-- nothing of the store changed, a new object at p -/
theorem Ext.new {p : Addr} {o : HO} (w : World K mg g s H) (hp : H p = none) : Ext g H g (upd H p o) :=
  ⟨.refl g, fun _ _ h => .inl h, fun _ h => .inl h, fun a o' h _ => by rw [upd_ne (ne_of_none h hp)]; exact h⟩
theorem World.new {p : Addr} {o : HO} (w : World K mg g s H) (hp : H p = none) : World K mg g s (upd H p o) :=
  ⟨fun a o' h => by have h' := w.sub a o' h; rw [upd_ne (ne_of_none h' hp)]; exact h', w.len, w.inj, fun i a d h1 h2 => by
    obtain ⟨n, ho, e, r⟩ := w.at_ i a d h1 h2
    exact ⟨n, ho, by rw [upd_ne (ne_of_none e hp)]; exact e, r⟩, w.tabs⟩
end
/-- an object known from now on -/
def Gh.add (g : Gh) (p : Addr) (o : HO) : Gh := { g with fz := upd g.fz p o }
section
variable {K : PySem.W.Frag} {mg : Str → Option Value} {g : Gh} {s : Sto} {H : Hp} {p : Addr} {o : HO}
theorem Gh.le_add (hp : g.fz p = none) : g.Le (g.add p o) := ⟨fun a o' h => by show upd g.fz p o a = _; rw [upd_ne (ne_of_none h hp)]; exact h, fun _ _ h => h⟩
theorem Gh.add_at : (g.add p o).fz p = some o := upd_same
/-- an object that stands is known from now on (it is none of the store's) -/
theorem World.freeze (w : World K mg g s H) (h : H p = some o) (hf : g.fz p = none) (hi : p ∉ g.io) : World K mg (g.add p o) s H := by
  refine ⟨fun a o' e => ?_, w.len, w.inj, fun i a d h1 h2 => ?_, w.tabs⟩
  · have e : upd g.fz p o a = some o' := e
    by_cases ha : a = p
    · subst ha; rw [upd_same] at e; cases e; exact h
    · rw [upd_ne ha] at e; exact w.sub a o' e
  · obtain ⟨n, ho, e, r⟩ := w.at_ i a d h1 h2
    have ne : a ≠ p := fun z => hi (z ▸ List.mem_of_getElem? h1)
    exact ⟨by show upd g.fz p o a = none; rw [upd_ne ne]; exact n, ho, e, r.le (Gh.le_add hf)⟩
theorem World.fz_none (w : World K mg g s H) (hp : H p = none) : g.fz p = none := by
  cases q : g.fz p with
  | none => rfl
  | some o => have := w.sub p o q; rw [hp] at this; cases this
theorem World.io_none (w : World K mg g s H) (hp : H p = none) : p ∉ g.io := fun m => by
  obtain ⟨_, ho, e⟩ := w.tracked m
  rw [hp] at e; cases e
/-- a new object, known from now on -/
theorem World.newFz (w : World K mg g s H) (hp : H p = none) : World K mg (g.add p o) s (upd H p o) := (w.new hp).freeze upd_same (w.fz_none hp) (w.io_none hp)
theorem Ext.newFz (w : World K mg g s H) (hp : H p = none) : Ext g H (g.add p o) (upd H p o) :=
  ⟨Gh.le_add (w.fz_none hp), fun a o' e => by
    have e : upd g.fz p o a = some o' := e
    by_cases ha : a = p
    · subst ha; exact .inr hp
    · rw [upd_ne ha] at e; exact .inl e, fun _ h => .inl h, fun a o' h _ => by rw [upd_ne (ne_of_none h hp)]; exact h⟩
end

/-! ### the mirror monad -/
structure Exn where
  cls : Str
  fs : List (Str × D)
inductive Res (α : Type) where
  | ok (a : α) (s : Sto)
  | ex (x : Exn) (s : Sto)
  | bad
abbrev M (α : Type) := Sto → Res α
@[reducible, inline] def M.ret {α : Type} (a : α) : M α := fun s => .ok a s
def M.bnd {α β : Type} (m : M α) (f : α → M β) : M β := fun s => match m s with
  | .ok a s' => f a s'
  | .ex x s' => .ex x s'
  | .bad => .bad
instance : Monad M where
  pure := M.ret
  bind := M.bnd
@[simp] theorem pure_app {α : Type} (a : α) (s : Sto) : (pure a : M α) s = .ok a s := rfl
def bad {α : Type} : M α := fun _ => .bad
def exn {α : Type} (x : Exn) : M α := fun s => .ex x s
@[simp] theorem pure_bind' {α β : Type} (a : α) (f : α → M β) : (pure a >>= f) = f a := rfl
@[simp] theorem bad_bind {α β : Type} (f : α → M β) : (bad >>= f) = bad := rfl
@[simp] theorem exn_bind {α β : Type} (x : Exn) (f : α → M β) : (exn x >>= f) = exn x := rfl
theorem bind_ok {α β : Type} {m : M α} {f : α → M β} {s s' : Sto} {a : α} (h : m s = .ok a s') : (m >>= f) s = f a s' := by
  show M.bnd m f s = _
  unfold M.bnd; rw [h]
theorem bind_ex {α β : Type} {m : M α} {f : α → M β} {s s' : Sto} {x : Exn} (h : m s = .ex x s') : (m >>= f) s = .ex x s' := by
  show M.bnd m f s = _
  unfold M.bnd; rw [h]
theorem bind_bad {α β : Type} {m : M α} {f : α → M β} {s : Sto} (h : m s = .bad) : (m >>= f) s = .bad := by
  show M.bnd m f s = _
  unfold M.bnd; rw [h]
theorem bind_assoc' {α β γ : Type} (m : M α) (f : α → M β) (k : β → M γ) : ((m >>= f) >>= k) = (m >>= fun a => f a >>= k) := by
  funext s
  show M.bnd (M.bnd m f) k s = M.bnd m (fun a => M.bnd (f a) k) s
  unfold M.bnd
  cases m s <;> rfl
@[simp] theorem bad_app {α : Type} (s : Sto) : (bad : M α) s = .bad := rfl
@[simp] theorem exn_app {α : Type} (x : Exn) (s : Sto) : (exn x : M α) s = .ex x s := rfl
abbrev Env := List (Option D)
def getV (ρ : Env) (i : Nat) : M D := match ρ[i]? with
  | some (some d) => pure d
  | _ => bad
end DL

/-! # DL: the judgements over HandS -/
namespace DL
open PySem PySem.Spec PyProof.Rows L2

/-- a thing of the frame's own: it may still change -/
def Own (K : PySem.W.Frag) (mg : Str → Option Value) (g : Gh) (H : Hp) (v : V) (d : D) : Prop :=
  ∃ a ho, v = .ref a ∧ g.fz a = none ∧ a ∉ g.io ∧ H a = some ho ∧ RepH K mg g ho d
/-- a slot has a value -/
def Has (ρ : Env) (i : Nat) : Prop := ∃ d, ρ[i]? = some (some d)
/-- the frame's slots: those of O own what they hold -/
structure EnvRel (K : PySem.W.Frag) (mg : Str → Option Value) (g : Gh) (O : List Nat) (ρ : Env) (σ : L2.St) (H : Hp) : Prop where
  len : ρ.length = σ.length
  fr : ∀ (i : Nat) (d : D), i ∉ O → ρ[i]? = some (some d) → ∃ v, σ[i]? = some (some v) ∧ Rep K mg g v d
  ow : ∀ (i : Nat) (d : D), i ∈ O → ρ[i]? = some (some d) → ∃ v, σ[i]? = some (some v) ∧ Own K mg g H v d
  sep : ∀ (i j : Nat) (a : Addr), i ∈ O → j ∈ O → Has ρ i → Has ρ j → σ[i]? = some (some (.ref a)) → σ[j]? = some (some (.ref a)) → i = j
section
variable {K : PySem.W.Frag} {mg : Str → Option Value} {g0 g g' : Gh} {s s' : Sto} {P H H' : Hp} {O : List Nat} {ρ : Env} {σ : L2.St}
theorem Ext.fzN (e : Ext g H g' H') {a : Addr} {o : HO} (h1 : H a = some o) (h2 : g.fz a = none) : g'.fz a = none := by
  cases q : g'.fz a with
  | none => rfl
  | some u =>
    rcases e.fz a u q with z | z
    · rw [h2] at z; cases z
    · rw [h1] at z; cases z
theorem Ext.ioN (e : Ext g H g' H') {a : Addr} {o : HO} (h1 : H a = some o) (h2 : a ∉ g.io) : a ∉ g'.io := fun m => by
  rcases e.io a m with z | z
  · exact h2 z
  · rw [h1] at z; cases z
theorem Own.ext {v : V} {d : D} (o : Own K mg g H v d) (e : Ext g H g' H') : Own K mg g' H' v d := by
  obtain ⟨a, ho, rfl, h1, h2, h3, h4⟩ := o
  exact ⟨a, ho, rfl, e.fzN h3 h1, e.ioN h3 h2, e.keep a ho h3 h2, h4.le e.le⟩
theorem EnvRel.ext (r : EnvRel K mg g O ρ σ H) (e : Ext g H g' H') : EnvRel K mg g' O ρ σ H' := by
  refine ⟨r.len, fun i d hi h => ?_, fun i d hi h => ?_, r.sep⟩
  · obtain ⟨v, h1, h2⟩ := r.fr i d hi h
    exact ⟨v, h1, h2.le e.le⟩
  · obtain ⟨v, h1, h2⟩ := r.ow i d hi h
    exact ⟨v, h1, h2.ext e⟩
end

/-- an exception in the air: its class, its own dict -/
def RepX (K : PySem.W.Frag) (mg : Str → Option Value) (g : Gh) (H : Hp) (cls : Value) (dd : Option Addr) (x : Exn) : Prop :=
  ∃ (A d : Addr) (vfs : List (Str × V)), cls = .ref A ∧ mg x.cls = some (.ref A) ∧ dd = some d ∧ g.fz d = some (.xd vfs) ∧ vfs.map (·.1) = x.fs.map (·.1) ∧ Reps K mg g (vfs.map (·.2)) (x.fs.map (·.2))

/-- how a value of the machine stands for one of the mirror: from the heap at the start, behind it -/
abbrev RR (β α : Type) := Hp → Gh → Hp → β → α → Prop
/-- what may be said of an earlier start -/
def RR.Back {β α : Type} (R : RR β α) : Prop := ∀ (H H1 : Hp) (g' : Gh) (H' : Hp) (b : β) (a : α), (∀ c, H1 c = none → H c = none) → R H1 g' H' b a → R H g' H' b a
section
variable {α β : Type}
/-- what is wanted behind an expression, by what the mirror gives -/
def aft (K : PySem.W.Frag) (mg : Str → Option Value) (R : RR β α) (W : WX) (g : Gh) (H : Hp) (σ : L2.St) (Q : β → Hp → Prop) : Res α → Prop
  | .ok a s' => ∀ b g' H', World K mg g' s' H' → Ext g H g' H' → R H g' H' b a → Q b H'
  | .ex x s' => ∀ cls dd g' H', World K mg g' s' H' → Ext g H g' H' → RepX K mg g' H' cls dd x → W cls dd σ H'
  | .bad => False
/-- the reading of an expression that the mirror f mirrors -/
def tG (K : PySem.W.Frag) (mg : Str → Option Value) (R : RR β α) (W : WX) (O : List Nat) (f : Env → M α) : L2.St → Hp → (β → Hp → Prop) → Prop := fun σ H Q =>
  ∃ g s ρ, World K mg g s H ∧ EnvRel K mg g O ρ σ H ∧ aft K mg R W g H σ Q (f ρ s)
end
section
variable {K : PySem.W.Frag} {mg : Str → Option Value} {g g1 g' : Gh} {s s1 : Sto} {H H1 : Hp} {σ : L2.St} {W : WX} {α β α1 β1 : Type}
theorem Ext.fresh (w1 : World K mg g1 s1 H1) (e : Ext g H g1 H1) : ∀ c, H1 c = Option.none → H c = Option.none := fun c h => by
  cases q : H c with
  | none => rfl
  | some o =>
    by_cases m : c ∈ g.io
    · obtain ⟨_, ho, z⟩ := w1.tracked (e.le.mem m)
      rw [h] at z; cases z
    · rw [e.keep c o q m] at h; cases h
/-- the same wish of a later start -/
theorem aft.later {R : RR β α} (hR : R.Back) {Q : β → Hp → Prop} {r : Res α} (w : World K mg g s H) (w1 : World K mg g1 s1 H1) (e : Ext g H g1 H1) (h : aft K mg R W g H σ Q r) : aft K mg R W g1 H1 σ Q r := by
  cases r with
  | ok a s' => exact fun b g' H' w' e' r' => h b g' H' w' (e.trans w1 e') (hR H H1 g' H' b a (e.fresh w1) r')
  | ex x s' => exact fun cls dd g' H' w' e' r' => h cls dd g' H' w' (e.trans w1 e') r'
  | bad => exact h
theorem aft.imp {R : RR β α} {Q Q' : β → Hp → Prop} {r : Res α} (h : aft K mg R W g H σ Q r) (hq : ∀ b H', Q b H' → Q' b H') : aft K mg R W g H σ Q' r := by
  cases r with
  | ok a s' => exact fun b g' H' w' e' r' => hq _ _ (h b g' H' w' e' r')
  | ex x s' => exact h
  | bad => exact h
/-- an expression's part, then the rest -/
theorem aft_step {R1 : RR β1 α1} {R : RR β α} (hR : R.Back) {Q : β → Hp → Prop} {Q1 : β1 → Hp → Prop} {m : M α1} {k : α1 → M α} (w : World K mg g s H) (h : aft K mg R W g H σ Q ((m >>= k) s))
    (hk : ∀ a s1 b g1 H1, World K mg g1 s1 H1 → Ext g H g1 H1 → R1 H g1 H1 b a → aft K mg R W g1 H1 σ Q (k a s1) → Q1 b H1) : aft K mg R1 W g H σ Q1 (m s) := by
  cases e : m s with
  | ok a s' =>
    rw [bind_ok e] at h
    exact fun b g' H' w' e' r' => hk a s' b g' H' w' e' r' (h.later hR w w' e')
  | ex x s' => rw [bind_ex e] at h; exact h
  | bad => rw [bind_bad e] at h; exact h
/-- a value is there at once -/
theorem aft_ret {R : RR β α} {Q : β → Hp → Prop} {a : α} (w : World K mg g s H) (h : aft K mg R W g H σ Q (.ok a s)) {b : β} (r : R H g H b a) : Q b H := h b g H w (.refl g H) r
end

/-! ### the kinds of answers -/
section
variable (K : PySem.W.Frag) (mg : Str → Option Value)
def RE : RR V D := fun _ g _ v d => Rep K mg g v d
def RA (n : Nat) : RR (List V) (List D) := fun _ g _ vs ds => Reps K mg g vs ds ∧ vs.length = n
def RT : RR Bool Bool := fun _ _ _ b c => b = c
/-- a new list -/
def RF : RR V (List D) := fun H g' H' v ds => ∃ a vs, v = .ref a ∧ H a = none ∧ g'.fz a = none ∧ a ∉ g'.io ∧ H' a = some (.lst vs) ∧ Reps K mg g' vs ds
/-- a value that is looked at: known, or a thing of the frame's own -/
def View (g : Gh) (H : Hp) (v : V) (d : D) : Prop := Rep K mg g v d ∨ Own K mg g H v d
def RV : RR V D := fun _ g' H' v d => View K mg g' H' v d
end
theorem RE.back {K : PySem.W.Frag} {mg : Str → Option Value} : (RE K mg).Back := fun _ _ _ _ _ _ _ h => h
theorem RA.back {K : PySem.W.Frag} {mg : Str → Option Value} {n : Nat} : (RA K mg n).Back := fun _ _ _ _ _ _ _ h => h
theorem RT.back : RT.Back := fun _ _ _ _ _ _ _ h => h
theorem RV.back {K : PySem.W.Frag} {mg : Str → Option Value} : (RV K mg).Back := fun _ _ _ _ _ _ _ h => h
theorem RF.back {K : PySem.W.Frag} {mg : Str → Option Value} : (RF K mg).Back := fun _ _ _ _ _ _ hc ⟨a, vs, h1, h2, h3⟩ => ⟨a, vs, h1, hc a h2, h3⟩

/-! ### the judgements -/
abbrev DE (X : Cx) (W : WX) (O : List Nat) (e : Expr) (f : Env → M D) : Prop := PE X e (tG X.K X.mg (RE X.K X.mg) W O f)
abbrev DV (X : Cx) (W : WX) (O : List Nat) (e : Expr) (f : Env → M D) : Prop := PE X e (tG X.K X.mg (RV X.K X.mg) W O f)
abbrev DF (X : Cx) (W : WX) (O : List Nat) (e : Expr) (f : Env → M (List D)) : Prop := PE X e (tG X.K X.mg (RF X.K X.mg) W O f)
abbrev DA (X : Cx) (W : WX) (O : List Nat) (es : List Expr) (f : Env → M (List D)) : Prop := PA X es (tG X.K X.mg (RA X.K X.mg es.length) W O f)
abbrev DT (X : Cx) (W : WX) (O : List Nat) (e : Expr) (f : Env → M Bool) : Prop := PT X e (tG X.K X.mg RT W O f)
abbrev DW (X : Cx) (W : WX) (O : List Nat) (e : Expr) (f : Env → M Bool) : Prop := PW X e (tG X.K X.mg RT W O f)
theorem peI {X : Cx} {e : Expr} {t t' : TE} (h : PE X e t) (hi : ∀ σ H Q, t' σ H Q → t σ H Q) : PE X e t' := ⟨fun pins s σ H Q I hw => h.run pins s σ H Q I (hi σ H Q hw)⟩
theorem ptI {X : Cx} {e : Expr} {t t' : TT} (h : PT X e t) (hi : ∀ σ H Q, t' σ H Q → t σ H Q) : PT X e t' := ⟨fun pins s σ H Q I hw => h.run pins s σ H Q I (hi σ H Q hw)⟩
theorem pwI {X : Cx} {e : Expr} {t t' : TT} (h : PW X e t) (hi : ∀ σ H Q, t' σ H Q → t σ H Q) : PW X e t' := ⟨fun wh pins s σ H Q I hw => h.run wh pins s σ H Q I (hi σ H Q hw)⟩
theorem paI {X : Cx} {es : List Expr} {t t' : TA} (h : PA X es t) (hi : ∀ σ H Q, t' σ H Q → t σ H Q) : PA X es t' := ⟨fun pos pins s σ H Q I hw => h.run pos pins s σ H Q I (hi σ H Q hw)⟩
theorem psI {X : Cx} {e : Stmt} {t t' : TS} (h : PS X e t) (hi : ∀ D σ H, t' D σ H → t D σ H) : PS X e t' := ⟨fun pins s σ H D I hw => h.run pins s σ H D I (hi D σ H hw)⟩
theorem pssI {X : Cx} {e : List Stmt} {t t' : TS} (h : PSs X e t) (hi : ∀ D σ H, t' D σ H → t D σ H) : PSs X e t' := ⟨fun pins s σ H D I hw => h.run pins s σ H D I (hi D σ H hw)⟩

section
variable {X : Cx} {W : WX} {O : List Nat} {e a b c : Expr} {es : List Expr} {f fa fb fc : Env → M D} {ff : Env → M (List D)} {ft fu : Env → M Bool} {pos : Pos}

/-! ### names, constants -/
theorem getV_some {ρ : Env} {i : Nat} {s : Sto} (h : getV ρ i s ≠ .bad) : ∃ d, ρ[i]? = some (some d) ∧ getV ρ i s = .ok d s := by
  cases e : ρ[i]? with
  | none => exact absurd (by unfold getV; rw [e] <;> rfl) h
  | some o =>
    cases o with
    | none => exact absurd (by unfold getV; rw [e] <;> rfl) h
    | some d => exact ⟨d, rfl, by unfold getV; rw [e] <;> rfl⟩
theorem aft_not_bad {K : PySem.W.Frag} {mg : Str → Option Value} {α β : Type} {R : RR β α} {g : Gh} {H : Hp} {σ : L2.St} {Q : β → Hp → Prop} {r : Res α} (h : aft K mg R W g H σ Q r) : r ≠ .bad := fun e => by
  rw [e] at h; exact h
theorem de_var {x : Str} (i : Nat) (hO : (i ∉ O) := by decide) (hN : X.N[i]? = some x := by rfl) (hv : Vis X.env.scope x := by first | exact Or.inl rfl | exact Or.inr (Or.inl rfl) | exact Or.inr (Or.inr rfl)) (hd : (x == ("__debug__" : Str)) = false := by decide)
    (hcd : (x == ("__classdict__" : Str)) = false := by decide) : DE X W O (.Name x pos) (fun ρ => getV ρ i) :=
  peI (pe_var hN hv hd hcd) fun σ H Q ⟨g, s, ρ, w, er, h⟩ => by
    obtain ⟨d, e1, e2⟩ := getV_some (aft_not_bad h)
    dsimp only at h
    rw [e2] at h
    obtain ⟨v, h1, h2⟩ := er.fr i d hO e1
    exact ⟨v, h1, aft_ret w h h2⟩
/-- a thing of the frame's own, looked at -/
theorem dv_own {x : Str} (i : Nat) (hO : (i ∈ O) := by decide) (hN : X.N[i]? = some x := by rfl) (hv : Vis X.env.scope x := by first | exact Or.inl rfl | exact Or.inr (Or.inl rfl) | exact Or.inr (Or.inr rfl)) (hd : (x == ("__debug__" : Str)) = false := by decide)
    (hcd : (x == ("__classdict__" : Str)) = false := by decide) : DV X W O (.Name x pos) (fun ρ => getV ρ i) :=
  peI (pe_var hN hv hd hcd) fun σ H Q ⟨g, s, ρ, w, er, h⟩ => by
    obtain ⟨d, e1, e2⟩ := getV_some (aft_not_bad h)
    dsimp only at h
    rw [e2] at h
    obtain ⟨v, h1, h2⟩ := er.ow i d hO e1
    exact ⟨v, h1, aft_ret w h (.inr h2)⟩
theorem aft.weak {K : PySem.W.Frag} {mg : Str → Option Value} {α β : Type} {R R' : RR β α} {g : Gh} {H : Hp} {σ : L2.St} {Q : β → Hp → Prop} {r : Res α} (h : aft K mg R' W g H σ Q r) (hr : ∀ g' H' b a, R H g' H' b a → R' H g' H' b a) : aft K mg R W g H σ Q r := by
  cases r with
  | ok a s' => exact fun b g' H' w' e' r' => h b g' H' w' e' (hr _ _ _ _ r')
  | ex x s' => exact h
  | bad => exact h
theorem dv_of (h : DE X W O e f) : DV X W O e f := peI h fun σ H Q ⟨g, s, ρ, w, er, h⟩ => ⟨g, s, ρ, w, er, h.weak fun _ _ _ _ r => .inl r⟩
theorem de_int {i : Int} {j : Nat} : DE X W O (.Constant (.int i) j pos) (fun _ => pure (.int i)) := peI pe_int fun σ H Q ⟨g, s, ρ, w, er, h⟩ => aft_ret w h (.int i)
theorem de_bl {i : Bool} {j : Nat} : DE X W O (.Constant (.bool i) j pos) (fun _ => pure (.bl i)) := peI pe_bl fun σ H Q ⟨g, s, ρ, w, er, h⟩ => aft_ret w h (.bl i)
theorem de_non {j : Nat} : DE X W O (.Constant .none j pos) (fun _ => pure .non) := peI pe_non fun σ H Q ⟨g, s, ρ, w, er, h⟩ => aft_ret w h .non
theorem de_str {i : Str} {j : Nat} : DE X W O (.Constant (.str i) j pos) (fun _ => pure (.str i)) := peI pe_str fun σ H Q ⟨g, s, ρ, w, er, h⟩ => aft_ret w h (.str i)
/-- a module's constant: an int, a text -/
theorem de_globI {x : Str} {i : Int} {t : Tok} (hm : X.mg x = some (.int i t)) (hg : Gl X x := by rfl) (hd : (x == ("__debug__" : Str)) = false := by decide) : DE X W O (.Name x pos) (fun _ => pure (.int i)) := peI (pe_glob (v := .int i) hg hm ⟨t, rfl⟩ hd) fun σ H Q ⟨g, s, ρ, w, er, h⟩ => aft_ret w h (.int i)

/-! ### two parts, then an operation -/
/-- operands are looked at -/
theorem de_bin {op : Operator} {r : R2} {k : D → D → M D} (ho : OpR X (binaryOp op) r)
    (hr : ∀ (g : Gh) (s : Sto) (H : Hp) (σ : L2.St) (x y : V) (d e : D) (Q : VK), World X.K X.mg g s H → View X.K X.mg g H x d → View X.K X.mg g H y e → aft X.K X.mg (RE X.K X.mg) W g H σ Q (k d e s) → r x y H Q)
    (ha : DV X W O a fa) (hb : DV X W O b fb) : DE X W O (.BinOp a op b pos) (fun ρ => fa ρ >>= fun d => fb ρ >>= fun e => k d e) :=
  peI (pe_op ho ha hb) fun σ H Q ⟨g, s, ρ, w, er, h⟩ => ⟨g, s, ρ, w, er, aft_step RE.back w h fun d s1 x g1 H1 w1 e1 r1 h1 => ⟨g1, s1, ρ, w1, er.ext e1, aft_step RE.back w1 h1 fun e s2 y g2 H2 w2 e2 r2 h2 =>
    hr g2 s2 H2 σ x y d e Q w2 (r1.imp (fun z => z.le e2.le) fun z => z.ext e2) r2 h2⟩⟩
end
end DL

/-! # DL: operations of the mirror, and their rules -/
namespace DL
open PySem PySem.Spec PyProof.Rows L2

/-! ### what a value is seen to be -/
def Sees (K : PySem.W.Frag) (mg : Str → Option Value) (g : Gh) (H : Hp) (v : V) (d : D) : Prop :=
  Rep K mg g v d ∨ ∃ a ho, v = .ref a ∧ H a = some ho ∧ RepH K mg g ho d
/-- the content of a thing of the store, any other value itself -/
def con : D → M D
  | .obj i => fun s => match s[i]? with
    | some c => .ok c s
    | none => .bad
  | d => pure d
section
variable {K : PySem.W.Frag} {mg : Str → Option Value} {g g' : Gh} {s s' : Sto} {H H' : Hp} {v : V} {d c : D}
theorem View.ext (x : View K mg g H v d) (e : Ext g H g' H') : View K mg g' H' v d := x.imp (fun z => z.le e.le) fun z => z.ext e
theorem View.sees (x : View K mg g H v d) : Sees K mg g H v d := x.imp id fun ⟨a, ho, h1, _, _, h2, h3⟩ => ⟨a, ho, h1, h2, h3⟩
/-- what it holds -/
theorem View.con (x : View K mg g H v d) (w : World K mg g s H) (h : DL.con d s ≠ .bad) : ∃ c, DL.con d s = .ok c s ∧ Sees K mg g H v c := by
  cases d with
  | obj i =>
    rcases x with x | ⟨_, ho, _, _, _, _, r⟩
    · cases x with
      | @obj i a e =>
        cases q : s[i]? with
        | none => exact absurd (by show (match s[i]? with | some c => Res.ok c s | none => .bad) = .bad; rw [q]) h
        | some c =>
          obtain ⟨_, ho, h1, h2⟩ := w.at_ i a c e q
          exact ⟨c, by show (match s[i]? with | some c => Res.ok c s | none => .bad) = _; rw [q], .inr ⟨a, ho, rfl, h1, h2⟩⟩
    · cases ho <;> exact r.elim
  | _ => exact ⟨_, rfl, x.sees⟩
theorem Sees.int {i : Int} (x : Sees K mg g H v (.int i)) : v = .int i := by
  rcases x with x | ⟨_, ho, _, _, r⟩
  · cases x; rfl
  · cases ho <;> exact r.elim
theorem Sees.bl {i : Bool} (x : Sees K mg g H v (.bl i)) : v = .bl i := by
  rcases x with x | ⟨_, ho, _, _, r⟩
  · cases x; rfl
  · cases ho <;> exact r.elim
theorem Sees.str {i : Str} (x : Sees K mg g H v (.str i)) : v = .str i := by
  rcases x with x | ⟨_, ho, _, _, r⟩
  · cases x; rfl
  · cases ho <;> exact r.elim
theorem Sees.non (x : Sees K mg g H v .non) : v = .non := by
  rcases x with x | ⟨_, ho, _, _, r⟩
  · cases x; rfl
  · cases ho <;> exact r.elim
theorem sqL_of (w : World K mg g s H) {a : Addr} {vs : List V} (h : SqL K g.fz a vs) : SqL K H a vs := sqL_le w.sub h
theorem sqT_of (w : World K mg g s H) {a : Addr} {vs : List V} (h : SqT K g.fz a vs) : SqT K H a vs := sqT_le w.sub h
theorem Sees.lst {ds : List D} (x : Sees K mg g H v (.lst ds)) (w : World K mg g s H) : ∃ a vs, v = .ref a ∧ H a = some (.lst vs) ∧ Reps K mg g vs ds := by
  rcases x with x | ⟨a, ho, rfl, h, r⟩
  · cases x with
    | @lst a vs _ s r => exact ⟨a, vs, rfl, w.sub _ _ s, r⟩
  · cases ho with
    | lst vs => exact ⟨a, vs, rfl, h, r⟩
    | _ => exact r.elim
theorem Sees.frl {ds : List D} (x : Sees K mg g H v (.frl ds)) (w : World K mg g s H) : ∃ a vs, v = .ref a ∧ SqL K H a vs ∧ Reps K mg g vs ds := by
  rcases x with x | ⟨a, ho, rfl, h, r⟩
  · cases x with
    | @frl a vs _ s r => exact ⟨a, vs, rfl, sqL_of w s, r⟩
  · cases ho <;> exact r.elim
theorem Sees.tup {ds : List D} (x : Sees K mg g H v (.tup ds)) (w : World K mg g s H) : ∃ a vs, v = .ref a ∧ SqT K H a vs ∧ Reps K mg g vs ds := by
  rcases x with x | ⟨a, ho, rfl, h, r⟩
  · cases x with
    | @tup a vs _ s r => exact ⟨a, vs, rfl, sqT_of w s, r⟩
  · cases ho <;> exact r.elim
theorem Sees.ins {x : Str} {fs : List (Str × D)} (y : Sees K mg g H v (.ins x fs)) (w : World K mg g s H) : ∃ a A dx vfs, v = .ref a ∧ H a = some (.ins A dx vfs) ∧ InsF K mg x A (fs.map (·.1)) ∧
    vfs.map (·.1) = fs.map (·.1) ∧ Reps K mg g (vfs.map (·.2)) (fs.map (·.2)) := by
  rcases y with y | ⟨a, ho, rfl, h, r⟩
  · cases y with
    | ins e m k r => exact ⟨_, _, _, _, rfl, w.sub _ _ e, m, k, r⟩
  · cases ho with
    | ins A dx vfs => exact ⟨a, A, dx, vfs, rfl, h, r.1, r.2.1, r.2.2⟩
    | _ => exact r.elim
theorem Sees.dct {es : List (Key × D)} (y : Sees K mg g H v (.dct es)) (w : World K mg g s H) : ∃ a kvs, v = .ref a ∧ Rd H a (.dK kvs) ∧ kvs.map (·.1) = es.map (·.1) ∧ Reps K mg g (kvs.map (·.2)) (es.map (·.2)) := by
  rcases y with y | ⟨a, ho, rfl, h, r⟩
  · cases y with
    | dct e k r => exact ⟨_, _, rfl, Rd.le w.sub e, k, r⟩
  · cases ho with
    | dK kvs => exact ⟨a, kvs, rfl, .inl h, r.1, r.2⟩
    | _ => exact r.elim
end

/-! ### ints -/
def asInt : D → M Int
  | .int i => pure i
  | _ => bad
def bigOk (i j : Int) : Bool := decide (i.natAbs.log2 + j.natAbs.log2 < 100000000)
theorem bigOk_ok {i j : Int} (h : bigOk i j = true) : IntMulOk i j := by
  have h3 : i.natAbs.log2 + j.natAbs.log2 < 100000000 := of_decide_eq_true h
  have b : ∀ x : Int, Builtin.Int.intBits x ≤ x.natAbs.log2 + 1 := fun x => by
    unfold Builtin.Int.intBits
    split <;> omega
  have h1 := b i
  have h2 := b j
  have e : bitsLine = 134217728 := by decide
  unfold IntMulOk
  intro z
  rw [Bool.and_eq_true] at z
  have z2 := z.2
  unfold Builtin.Int.intTooBig at z2
  have z3 := of_decide_eq_true z2
  rw [e] at z3
  omega
def szMax : Nat := 16777216
def addD : D → D → M D
  | .int i, .int j => pure (.int (i + j))
  | .str x, .str y => if x.length + y.length ≤ szMax then pure (.str (x ++ y)) else bad
  | .tup a, .tup b => if a.length + b.length ≤ szMax then pure (.tup (a ++ b)) else bad
  | _, _ => bad
def subD : D → D → M D
  | .int i, .int j => pure (.int (i - j))
  | _, _ => bad
def mulD : D → D → M D
  | .int i, .int j => if bigOk i j then pure (.int (i * j)) else bad
  | _, _ => bad
def fdivD : D → D → M D
  | .int i, .int j => if j ≠ 0 ∧ j.natAbs.log2 < 9000 then pure (.int (i.fdiv j)) else bad
  | _, _ => bad
def modD : D → D → M D
  | .int i, .int j => if j = 0 then bad else pure (.int (i.fmod j))
  | _, _ => bad
def powD : D → D → M D
  | .int i, .int j => if 0 ≤ j ∧ j ≤ 1000 ∧ i.natAbs < 2 ^ 64 then pure (.int (i ^ j.toNat)) else bad
  | _, _ => bad
def negD : D → M D
  | .int i => pure (.int (-i))
  | _ => bad
section
variable {X : Cx} {W : WX} {O : List Nat} {e a b c : Expr} {es : List Expr} {f fa fb fc : Env → M D} {ff : Env → M (List D)} {ft fu : Env → M Bool} {pos : Pos}
theorem ite_ne_bad {α : Type} {c : Prop} [Decidable c] {m : M α} {s : Sto} (h : (if c then m else bad) s ≠ .bad) : c ∧ (if c then m else bad) s = m s := by
  by_cases hc : c
  · exact ⟨hc, by rw [if_pos hc]⟩
  · rw [if_neg hc] at h; exact absurd rfl h
theorem ite_ne_bad' {α : Type} {c : Prop} [Decidable c] {m : M α} {s : Sto} (h : (if c then bad else m) s ≠ .bad) : ¬ c ∧ (if c then bad else m) s = m s := by
  by_cases hc : c
  · rw [if_pos hc] at h; exact absurd rfl h
  · exact ⟨hc, by rw [if_neg hc]⟩

/-- two ints -/
theorem de_binI {op : Operator} {C : Int → Int → Prop} {gI : Int → Int → Int} {k : D → D → M D} (ho : OpR X (binaryOp op) (rI C fun i j => .int (gI i j)))
    (hk : ∀ d e s, k d e s ≠ .bad → ∃ i j, d = .int i ∧ e = .int j ∧ C i j ∧ k d e s = .ok (.int (gI i j)) s) (ha : DV X W O a fa) (hb : DV X W O b fb) : DE X W O (.BinOp a op b pos) (fun ρ => fa ρ >>= fun d => fb ρ >>= fun e => k d e) :=
  de_bin ho (fun g s H σ x y d e Q w vx vy h => by
    obtain ⟨i, j, rfl, rfl, hc, ek⟩ := hk d e s (aft_not_bad h)
    rw [ek] at h
    exact ⟨i, j, vx.sees.int, vy.sees.int, hc, aft_ret w h (.int _)⟩) ha hb
theorem de_sub (ha : DV X W O a fa) (hb : DV X W O b fb) : DE X W O (.BinOp a .Sub b pos) (fun ρ => fa ρ >>= fun d => fb ρ >>= fun e => subD d e) :=
  de_binI (C := fun _ _ => True) (gI := fun i j => i - j) (opI fun _ _ _ _ _ _ _ _ q => sub_int q) (fun d e s h => by
    cases d <;> first | exact absurd rfl h | skip
    cases e <;> first | exact absurd rfl h | exact ⟨_, _, rfl, rfl, trivial, rfl⟩) ha hb
theorem op_mulB : OpR X (binaryOp .Mult) (rI (fun i j => bigOk i j = true) fun i j => .int (i * j)) := opI fun _ _ _ _ _ _ _ hc q => mul_int q (bigOk_ok hc)
theorem de_mul (ha : DV X W O a fa) (hb : DV X W O b fb) : DE X W O (.BinOp a .Mult b pos) (fun ρ => fa ρ >>= fun d => fb ρ >>= fun e => mulD d e) :=
  de_binI (C := fun i j => bigOk i j = true) (gI := fun i j => i * j) op_mulB (fun d e s h => by
    cases d <;> first | exact absurd rfl h | skip
    cases e <;> first | exact absurd rfl h | skip
    obtain ⟨h1, h2⟩ := ite_ne_bad h
    exact ⟨_, _, rfl, rfl, h1, h2⟩) ha hb
theorem de_mod (ha : DV X W O a fa) (hb : DV X W O b fb) : DE X W O (.BinOp a .Mod b pos) (fun ρ => fa ρ >>= fun d => fb ρ >>= fun e => modD d e) :=
  de_binI (C := fun _ j => j ≠ 0) (gI := fun i j => i.fmod j) op_modN (fun d e s h => by
    cases d <;> first | exact absurd rfl h | skip
    cases e <;> first | exact absurd rfl h | skip
    obtain ⟨h1, h2⟩ := ite_ne_bad' h
    exact ⟨_, _, rfl, rfl, h1, h2⟩) ha hb
theorem de_pow (ha : DV X W O a fa) (hb : DV X W O b fb) : DE X W O (.BinOp a .Pow b pos) (fun ρ => fa ρ >>= fun d => fb ρ >>= fun e => powD d e) :=
  de_binI (C := CPow) (gI := fun i j => i ^ j.toNat) op_pow (fun d e s h => by
    cases d <;> first | exact absurd rfl h | skip
    cases e <;> first | exact absurd rfl h | skip
    obtain ⟨h1, h2⟩ := ite_ne_bad h
    exact ⟨_, _, rfl, rfl, ⟨h1.1, by omega, h1.2.2⟩, h2⟩) ha hb
/-- // by any number but 0, of fewer than 9000 bits -/
theorem op_fdivA : OpR X (binaryOp .FloorDiv) (rI (fun _ j => j ≠ 0 ∧ j.natAbs.log2 < 9000) fun i j => .int (i.fdiv j)) := opI fun _ _ _ _ _ _ _ hc q => floordiv_int hc.1 q (.inl (PyProof.noPylong_of_log2 hc.2))
theorem de_fdiv (ha : DV X W O a fa) (hb : DV X W O b fb) : DE X W O (.BinOp a .FloorDiv b pos) (fun ρ => fa ρ >>= fun d => fb ρ >>= fun e => fdivD d e) :=
  de_binI (C := fun _ j => j ≠ 0 ∧ j.natAbs.log2 < 9000) (gI := fun i j => i.fdiv j) op_fdivA (fun d e s h => by
    cases d <;> first | exact absurd rfl h | skip
    cases e <;> first | exact absurd rfl h | skip
    obtain ⟨h1, h2⟩ := ite_ne_bad h
    exact ⟨_, _, rfl, rfl, h1, h2⟩) ha hb
end
end DL

/-! # DL: rules for expressions -/
namespace DL
open PySem PySem.Spec PyProof.Rows L2

/-! ### argument lists -/
inductive Vws (K : PySem.W.Frag) (mg : Str → Option Value) (g : Gh) (H : Hp) : List V → List D → Prop
  | nil : Vws K mg g H [] []
  | cons {v : V} {vs : List V} {d : D} {ds : List D} : View K mg g H v d → Vws K mg g H vs ds → Vws K mg g H (v :: vs) (d :: ds)
def RVA (K : PySem.W.Frag) (mg : Str → Option Value) : RR (List V) (List D) := fun _ g' H' vs ds => Vws K mg g' H' vs ds
theorem RVA.back {K : PySem.W.Frag} {mg : Str → Option Value} : (RVA K mg).Back := fun _ _ _ _ _ _ _ h => h
abbrev DVA (X : Cx) (W : WX) (O : List Nat) (es : List Expr) (f : Env → M (List D)) : Prop := PA X es (tG X.K X.mg (RVA X.K X.mg) W O f)
theorem Vws.ext {K : PySem.W.Frag} {mg : Str → Option Value} {g g' : Gh} {H H' : Hp} {vs : List V} {ds : List D} (x : Vws K mg g H vs ds) (e : Ext g H g' H') : Vws K mg g' H' vs ds := by
  induction x with
  | nil => exact .nil
  | cons r _ ih => exact .cons (r.ext e) ih
section
variable {X : Cx} {W : WX} {O : List Nat} {e a b c : Expr} {es : List Expr} {f fa fb fc : Env → M D} {ff fl : Env → M (List D)} {ft fu : Env → M Bool} {pos : Pos}
theorem da_nil : DA X W O [] (fun _ => pure []) := paI pa_nil fun σ H Q ⟨g, s, ρ, w, er, h⟩ => aft_ret w h ⟨.nil, rfl⟩
theorem da_cons (he : DE X W O e f) (hr : DA X W O es fl) (hs : starEach (e :: es) X.env = (false, eval e X.env) :: starEach es X.env := by rfl) :
    DA X W O (e :: es) (fun ρ => f ρ >>= fun d => fl ρ >>= fun ds => pure (d :: ds)) :=
  paI (pa_cons he hr hs) fun σ H Q ⟨g, s, ρ, w, er, h⟩ => ⟨g, s, ρ, w, er, aft_step RA.back w h fun d s1 x g1 H1 w1 e1 r1 h1 => ⟨g1, s1, ρ, w1, er.ext e1, aft_step RA.back w1 h1 fun ds s2 xs g2 H2 w2 e2 r2 h2 =>
    aft_ret w2 h2 ⟨.cons (r1.le e2.le) r2.1, by rw [List.length_cons, List.length_cons, r2.2]⟩⟩⟩
theorem dva_nil : DVA X W O [] (fun _ => pure []) := paI pa_nil fun σ H Q ⟨g, s, ρ, w, er, h⟩ => aft_ret w h .nil
theorem dva_cons (he : DV X W O e f) (hr : DVA X W O es fl) (hs : starEach (e :: es) X.env = (false, eval e X.env) :: starEach es X.env := by rfl) :
    DVA X W O (e :: es) (fun ρ => f ρ >>= fun d => fl ρ >>= fun ds => pure (d :: ds)) :=
  paI (pa_cons he hr hs) fun σ H Q ⟨g, s, ρ, w, er, h⟩ => ⟨g, s, ρ, w, er, aft_step RVA.back w h fun d s1 x g1 H1 w1 e1 r1 h1 => ⟨g1, s1, ρ, w1, er.ext e1, aft_step RVA.back w1 h1 fun ds s2 xs g2 H2 w2 e2 r2 h2 =>
    aft_ret w2 h2 (.cons (r1.ext e2) r2)⟩⟩

/-! ### displays -/
/-- a new list is known from now on -/
theorem aft_freeze {K : PySem.W.Frag} {mg : Str → Option Value} {g : Gh} {s : Sto} {H : Hp} {σ : L2.St} {Q : VK} {p : Addr} {vs : List V} {ds : List D} (w : World K mg g s H) (hp : H p = none) (r : Reps K mg g vs ds)
    (h : aft K mg (RE K mg) W g H σ Q (.ok (.lst ds) s)) : Q (.ref p) (upd H p (.lst vs)) :=
  h _ _ _ (w.newFz hp) (Ext.newFz w hp) (.lst Gh.add_at (r.le (Gh.le_add (w.fz_none hp))))
theorem aft_tup {K : PySem.W.Frag} {mg : Str → Option Value} {g : Gh} {s : Sto} {H : Hp} {σ : L2.St} {Q : VK} {p : Addr} {vs : List V} {ds : List D} (w : World K mg g s H) (hp : H p = none) (r : Reps K mg g vs ds)
    (h : aft K mg (RE K mg) W g H σ Q (.ok (.tup ds) s)) : Q (.ref p) (upd H p (.tup vs)) :=
  h _ _ _ (w.newFz hp) (Ext.newFz w hp) (.tup (.of Gh.add_at) (r.le (Gh.le_add (w.fz_none hp))))
theorem aft_new {K : PySem.W.Frag} {mg : Str → Option Value} {g : Gh} {s : Sto} {H : Hp} {σ : L2.St} {Q : VK} {p : Addr} {vs : List V} {ds : List D} (w : World K mg g s H) (hp : H p = none) (r : Reps K mg g vs ds)
    (h : aft K mg (RF K mg) W g H σ Q (.ok ds s)) : Q (.ref p) (upd H p (.lst vs)) :=
  h _ _ _ (w.new hp) (Ext.new w hp) ⟨p, vs, rfl, hp, w.fz_none hp, w.io_none hp, upd_same, r⟩
theorem szline {n : Nat} (h : n ≤ 1000) : n ≤ sizeLine := Nat.le_trans h (by decide)
theorem de_tup {k : Nat} (h : DA X W O es fl) (hz : es.length ≤ 1000 := by decide) : DE X W O (.Tuple es k pos) (fun ρ => fl ρ >>= fun ds => pure (.tup ds)) :=
  peI (pe_tup h) fun σ H Q ⟨g, s, ρ, w, er, h⟩ => ⟨g, s, ρ, w, er, aft_step RE.back w h fun ds s1 xs g1 H1 w1 e1 r1 h1 =>
    ⟨by rw [r1.2]; exact szline hz, fun p hp => aft_tup w1 hp r1.1 h1⟩⟩
theorem df_lst (h : DA X W O es fl) (hz : es.length ≤ 1000 := by decide) : DF X W O (.List es pos) fl :=
  peI (pe_lst h) fun σ H Q ⟨g, s, ρ, w, er, h⟩ => ⟨g, s, ρ, w, er, by
    have h' : aft X.K X.mg (RF X.K X.mg) W g H σ Q ((fl ρ >>= pure) s) := by
      show aft _ _ _ _ _ _ _ _ (M.bnd (fl ρ) M.ret s)
      unfold M.bnd
      cases e : fl ρ s <;> rw [e] at h <;> exact h
    exact aft_step RF.back w h' fun ds s1 xs g1 H1 w1 e1 r1 h1 => ⟨by rw [r1.2]; exact szline hz, fun p hp => aft_new w1 hp r1.1 h1⟩⟩
theorem Ext.addNew {g g1 : Gh} {H H1 : Hp} {p : Addr} {o : HO} (e : Ext g H g1 H1) (hn : H p = none) (hf : g1.fz p = none) : Ext g H (g1.add p o) H1 :=
  ⟨e.le.trans (Gh.le_add hf), fun a u k => by
    have k : upd g1.fz p o a = some u := k
    by_cases ha : a = p
    · subst ha; exact .inr hn
    · rw [upd_ne ha] at k; exact e.fz a u k, e.io, e.keep⟩
/-- a new list, not to change any more -/
theorem de_of (h : DF X W O e fl) : DE X W O e (fun ρ => fl ρ >>= fun ds => pure (.lst ds)) :=
  peI h fun σ H Q ⟨g, s, ρ, w, er, h⟩ => ⟨g, s, ρ, w, er, by
    dsimp only at h
    cases k : fl ρ s with
    | ok ds s1 =>
      rw [bind_ok k] at h
      intro v g1 H1 w1 e1 ⟨p, vs, ex, hn, hf, hi, hp, r1⟩
      subst ex
      exact h _ (g1.add p (.lst vs)) H1 (w1.freeze hp hf hi) (e1.addNew hn hf) (.lst Gh.add_at (r1.le (Gh.le_add hf)))
    | ex x s1 => rw [bind_ex k] at h; exact h
    | bad => rw [bind_bad k] at h; exact h⟩
/-- a new list as a thing of the store -/
theorem World.alloc {K : PySem.W.Frag} {mg : Str → Option Value} {g : Gh} {s : Sto} {H : Hp} {p : Addr} {ho : HO} {c : D} (w : World K mg g s H) (hp : H p = some ho) (hf : g.fz p = none) (hi : p ∉ g.io) (r : RepH K mg g ho c) (nt : ∀ P q, c ≠ .tab P q := by exact fun _ _ z => nomatch z) :
    World K mg { g with io := g.io ++ [p] } (s ++ [c]) H := by
  have le : g.Le { g with io := g.io ++ [p] } := ⟨fun _ _ h => h, fun i a h => by
    have hl := (List.getElem?_eq_some_iff.mp h).1
    show (g.io ++ [p])[i]? = some a
    rw [List.getElem?_append_left hl]; exact h⟩
  have cases_ : ∀ (i : Nat) (a : Addr), (g.io ++ [p])[i]? = some a → g.io[i]? = some a ∨ (i = g.io.length ∧ a = p) := fun i a h => by
    by_cases hl : i < g.io.length
    · rw [List.getElem?_append_left hl] at h; exact .inl h
    · rw [List.getElem?_append_right (Nat.le_of_not_lt hl)] at h
      cases q : i - g.io.length with
      | zero => rw [q] at h; simp at h; exact .inr ⟨by omega, h.symm⟩
      | succ n => rw [q] at h; simp at h
  refine ⟨w.sub, by show (g.io ++ [p]).length = _; simp [w.len], fun i j a h1 h2 => ?_, fun i a d h1 h2 => ?_, fun i P q z => ?_⟩
  · rcases cases_ i a h1 with k1 | ⟨k1, k1'⟩ <;> rcases cases_ j a h2 with k2 | ⟨k2, k2'⟩
    · exact w.inj i j a k1 k2
    · exact absurd (k2' ▸ List.mem_of_getElem? k1) hi
    · exact absurd (k1' ▸ List.mem_of_getElem? k2) hi
    · rw [k1, k2]
  · rcases cases_ i a h1 with k | ⟨k, k'⟩
    · have hl := (List.getElem?_eq_some_iff.mp k).1
      rw [List.getElem?_append_left (by rw [← w.len]; exact hl)] at h2
      obtain ⟨n, ho', e, r'⟩ := w.at_ i a d k h2
      exact ⟨n, ho', e, r'.le le⟩
    · subst k'
      rw [List.getElem?_append_right (by rw [← w.len]; omega), ← w.len, k, Nat.sub_self] at h2
      simp at h2
      subst h2
      exact ⟨hf, ho, hp, r.le le⟩
  · by_cases hl : i < s.length
    · rw [List.getElem?_append_left hl] at z
      exact le.io _ _ (w.tabs i P q z)
    · rw [List.getElem?_append_right (Nat.le_of_not_lt hl)] at z
      cases k : i - s.length with
      | zero => rw [k] at z; simp at z; exact absurd z (nt P q)
      | succ n => rw [k] at z; simp at z
theorem Ext.alloc {g g1 : Gh} {H H1 : Hp} {p : Addr} (e : Ext g H g1 H1) (hn : H p = none) : Ext g H { g1 with io := g1.io ++ [p] } H1 := by
  refine ⟨⟨e.le.fz, fun i a h => ?_⟩, e.fz, fun a m => ?_, e.keep⟩
  · have k := e.le.io i a h
    have hl := (List.getElem?_eq_some_iff.mp k).1
    show (g1.io ++ [p])[i]? = some a
    rw [List.getElem?_append_left hl]; exact k
  · rcases List.mem_append.mp m with m | m
    · exact e.io a m
    · exact .inr (by rw [List.mem_singleton.mp m]; exact hn)
def newO (c : D) : M D := fun s => .ok (.obj s.length) (s ++ [c])
theorem de_ofS (h : DF X W O e fl) : DE X W O e (fun ρ => fl ρ >>= fun ds => newO (.lst ds)) :=
  peI h fun σ H Q ⟨g, s, ρ, w, er, h⟩ => ⟨g, s, ρ, w, er, by
    dsimp only at h
    cases k : fl ρ s with
    | ok ds s1 =>
      rw [bind_ok k] at h
      intro v g1 H1 w1 e1 ⟨p, vs, ex, hn, hf, hi, hp, r1⟩
      subst ex
      refine h _ _ H1 (w1.alloc (ho := .lst vs) (c := .lst ds) hp hf hi r1) (e1.alloc hn) (.obj ?_)
      show (g1.io ++ [p])[s1.length]? = some p
      rw [← w1.len]; simp
    | ex x s1 => rw [bind_ex k] at h; exact h
    | bad => rw [bind_bad k] at h; exact h⟩
end
end DL

/-! # DL: subscripts, fields, built-ins -/
namespace DL
open PySem PySem.Spec PyProof.Rows L2

/-! ### places -/
theorem atI_reps {K : PySem.W.Frag} {mg : Str → Option Value} {g : Gh} {vs : List V} {ds : List D} {i : Int} {d : D} (r : Reps K mg g vs ds) (h : atI ds i = some d) : ∃ v, atI vs i = some v ∧ Rep K mg g v d := by
  unfold atI at h ⊢
  rw [r.length]
  cases q : ixN ds.length i with
  | none => rw [q] at h; cases h
  | some j =>
    rw [q] at h
    have h : ds[j]? = some d := h
    obtain ⟨v, h1, h2⟩ := r.get h
    exact ⟨v, h1, h2⟩
def lookK (es : List (Key × D)) (k : Key) : Option D := (es.find? fun e => decide (e.1 = k)).map (·.2)
theorem lookK_reps {K : PySem.W.Frag} {mg : Str → Option Value} {g : Gh} {k : Key} : ∀ {kvs : List (Key × V)} {es : List (Key × D)}, kvs.map (·.1) = es.map (·.1) → Reps K mg g (kvs.map (·.2)) (es.map (·.2)) →
    (lookK es k = none → valV kvs k = none) ∧ ∀ d, lookK es k = some d → ∃ v, valV kvs k = some v ∧ Rep K mg g v d
  | [], [], _, _ => ⟨fun _ => rfl, fun d h => by cases h⟩
  | [], _ :: _, h, _ => by cases h
  | _ :: _, [], h, _ => by cases h
  | p :: kvs, e :: es, h, r => by
    rw [List.map_cons, List.map_cons] at h
    injection h with h1 h2
    cases r with
    | cons r t =>
      obtain ⟨i1, i2⟩ := lookK_reps (k := k) h2 t
      by_cases q : e.1 = k
      · have q' : p.1 = k := h1.trans q
        have l : lookK (e :: es) k = some e.2 := by simp [lookK, List.find?_cons, q]
        refine ⟨fun z => ?_, fun d z => ?_⟩
        · rw [l] at z; cases z
        · rw [l] at z; cases z
          exact ⟨p.2, valV_pos q', r⟩
      · have q' : ¬ p.1 = k := fun z => q (h1.symm.trans z)
        have l : lookK (e :: es) k = lookK es k := by simp [lookK, List.find?_cons, q]
        rw [l, valV_neg q']
        exact ⟨i1, i2⟩
def keyOf : D → Option Key
  | .int i => some (.inl i)
  | .str x => some (.inr x)
  | _ => none
theorem keyOf_sees {K : PySem.W.Frag} {mg : Str → Option Value} {g : Gh} {H : Hp} {v : V} {d : D} {k : Key} (x : Sees K mg g H v d) (h : keyOf d = some k) : v = kV k := by
  cases d with
  | int i => cases h; exact x.int
  | str i => cases h; exact x.str
  | _ => cases h
def liftO {α : Type} : Option α → M α
  | some a => pure a
  | none => bad
theorem liftO_ne {α : Type} {o : Option α} {s : Sto} (h : liftO o s ≠ .bad) : ∃ a, o = some a := by
  cases o with
  | none => exact absurd rfl h
  | some a => exact ⟨a, rfl⟩
/-- c[e] of a content c -/
def idxC (c e : D) : M D := match c with
  | .tup ds => match e with
    | .int i => liftO (atI ds i)
    | _ => bad
  | .lst ds => match e with
    | .int i => liftO (atI ds i)
    | _ => bad
  | .frl ds => match e with
    | .int i => liftO (atI ds i)
    | _ => bad
  | .dct es => match keyOf e with
    | some k => liftO (lookK es k)
    | none => bad
  | _ => bad
def idxD (d e : D) : M D := con d >>= fun c => idxC c e
section
variable {X : Cx} {W : WX} {O : List Nat} {e a b c : Expr} {es : List Expr} {f fa fb fc : Env → M D} {ff fl : Env → M (List D)} {ft fu : Env → M Bool} {pos : Pos}
theorem bind_ne {α β : Type} {m : M α} {k : α → M β} {s : Sto} (h : (m >>= k) s ≠ .bad) : m s ≠ .bad := fun e => h (bind_bad e)
theorem ix_dict (hu : X.A.units + 1 < cLine) : IxR X (fun x y H Q => ∃ a v, x = .ref a ∧ DGet H a y (some v) ∧ Q v H) := by
  intro value slice pins s σ H x y v u Q I rx ry h hs
  obtain ⟨a, z, rfl, gt, q⟩ := h
  cases rx
  exact tail_any (dict_typeIs I gt) PySem.F.slot_dict_getitem.lookup (d_getItem hu I gt ry fun w' s3 I3 rw' => ⟨z, H, I3, rw', q⟩) hs
theorem de_ix (hu : X.A.units + 1 < cLine) (ha : DV X W O a fa) (hb : DV X W O b fb) (hs : PlainIx b := by intro _ _; rfl) : DE X W O (.Subscript a b pos) (fun ρ => fa ρ >>= fun d => fb ρ >>= fun e => idxD d e) :=
  peI (pe_ix (ix_list.or (ix_tup.or (ix_dict hu))) ha hb hs) fun σ H Q ⟨g, s, ρ, w, er, h⟩ => ⟨g, s, ρ, w, er, aft_step RE.back w h fun d s1 x g1 H1 w1 e1 r1 h1 => ⟨g1, s1, ρ, w1, er.ext e1, aft_step RE.back w1 h1 fun e s2 y g2 H2 w2 e2 r2 h2 => by
    have hn := aft_not_bad h2
    obtain ⟨c, hc, sc⟩ := (r1.ext e2 : View _ _ _ _ _ _).con w2 (bind_ne hn)
    have h3 : idxD d e s2 = idxC c e s2 := bind_ok hc
    rw [h3] at h2 hn
    cases c with
    | tup ds =>
      cases e with
      | int i =>
        obtain ⟨d', hd⟩ := liftO_ne (o := atI ds i) hn
        obtain ⟨p, vs, rfl, hq, rs⟩ := sc.tup w2
        obtain ⟨v', hv, rv⟩ := atI_reps rs hd
        have h4 : idxC (.tup ds) (.int i) s2 = .ok d' s2 := by show liftO (atI ds i) s2 = _; rw [hd]; rfl
        rw [h4] at h2
        exact .inr (.inl ⟨p, vs, i, v', rfl, r2.sees.int, hq, hv, aft_ret w2 h2 rv⟩)
      | _ => exact absurd rfl hn
    | lst ds =>
      cases e with
      | int i =>
        obtain ⟨d', hd⟩ := liftO_ne (o := atI ds i) hn
        obtain ⟨p, vs, rfl, hq, rs⟩ := sc.lst w2
        obtain ⟨v', hv, rv⟩ := atI_reps rs hd
        have h4 : idxC (.lst ds) (.int i) s2 = .ok d' s2 := by show liftO (atI ds i) s2 = _; rw [hd]; rfl
        rw [h4] at h2
        exact .inl ⟨p, vs, i, v', rfl, r2.sees.int, .of hq, hv, aft_ret w2 h2 rv⟩
      | _ => exact absurd rfl hn
    | frl ds =>
      cases e with
      | int i =>
        obtain ⟨d', hd⟩ := liftO_ne (o := atI ds i) hn
        obtain ⟨p, vs, rfl, hq, rs⟩ := sc.frl w2
        obtain ⟨v', hv, rv⟩ := atI_reps rs hd
        have h4 : idxC (.frl ds) (.int i) s2 = .ok d' s2 := by show liftO (atI ds i) s2 = _; rw [hd]; rfl
        rw [h4] at h2
        exact .inl ⟨p, vs, i, v', rfl, r2.sees.int, hq, hv, aft_ret w2 h2 rv⟩
      | _ => exact absurd rfl hn
    | dct es =>
      cases hk : keyOf e with
      | none => exact absurd (by show idxC (.dct es) e s2 = .bad; unfold idxC; simp only [hk]; rfl) hn
      | some k =>
        have h5 : idxC (.dct es) e s2 = liftO (lookK es k) s2 := by unfold idxC; simp only [hk]
        rw [h5] at h2 hn
        obtain ⟨d', hd⟩ := liftO_ne (o := lookK es k) hn
        obtain ⟨p, kvs, rfl, hq, ke, rs⟩ := sc.dct w2
        obtain ⟨v', hv, rv⟩ := (lookK_reps (k := k) ke rs).2 d' hd
        have h4 : liftO (lookK es k) s2 = .ok d' s2 := by rw [hd]; rfl
        rw [h4] at h2
        have ey := keyOf_sees r2.sees hk
        subst ey
        exact .inr (.inr ⟨p, v', rfl, .inl ⟨kvs, k, hq, rfl, hv.symm⟩, aft_ret w2 h2 rv⟩)
    | _ => exact absurd rfl hn⟩⟩

/-! ### slices -/
def cutD (ds : List D) (lo hi : Option Int) : List D := (ds.drop (HT.sIx ds.length 0 lo)).take (HT.sIx ds.length ds.length hi - HT.sIx ds.length 0 lo)
theorem cut_reps {K : PySem.W.Frag} {mg : Str → Option Value} {g : Gh} {vs : List V} {ds : List D} (r : Reps K mg g vs ds) (lo hi : Option Int) : Reps K mg g (cutV vs lo hi) (cutD ds lo hi) := by
  unfold cutV cutD
  rw [r.length]
  exact (r.drop _).take _

/-! ### fields -/
def lookF (fs : List (Str × D)) (f : Str) : Option D := (fs.find? fun e => decide (e.1 = f)).map (·.2)
theorem lookF_reps {K : PySem.W.Frag} {mg : Str → Option Value} {g : Gh} {f : Str} {d : D} : ∀ {vfs : List (Str × V)} {fs : List (Str × D)}, vfs.map (·.1) = fs.map (·.1) → Reps K mg g (vfs.map (·.2)) (fs.map (·.2)) → lookF fs f = some d →
    ∃ v, vfs.lookup f = some v ∧ Rep K mg g v d
  | [], [], _, _, h => by cases h
  | [], _ :: _, h, _, _ => by cases h
  | _ :: _, [], h, _, _ => by cases h
  | p :: vfs, e :: fs, h, r, hl => by
    rw [List.map_cons, List.map_cons] at h
    injection h with h1 h2
    cases r with
    | cons r t =>
      obtain ⟨pf, pv⟩ := p
      obtain ⟨ef, ed⟩ := e
      have h1 : pf = ef := h1
      subst h1
      by_cases q : pf = f
      · subst q
        have l : lookF ((pf, ed) :: fs) pf = some ed := by simp [lookF, List.find?_cons]
        rw [l] at hl; cases hl
        exact ⟨pv, by simp [List.lookup], r⟩
      · have l : lookF ((pf, ed) :: fs) f = lookF fs f := by simp [lookF, List.find?_cons, q]
        rw [l] at hl
        obtain ⟨v, h3, h4⟩ := lookF_reps h2 t hl
        have qb : (f == pf) = false := beq_eq_false_iff_ne.mpr fun z => q z.symm
        exact ⟨v, by simp [List.lookup, qb, h3], h4⟩
/-- c.f of a content c -/
def fldC (f : Str) : D → M D
  | .ins _ fs => liftO (lookF fs f)
  | _ => bad
def fldD (f : Str) (d : D) : M D := con d >>= fldC f
theorem de_fld {n : Str} (ha : DV X W O a fa) (hb : attributeBase a n X.env (eval a X.env) = eval a X.env := by rfl) : DE X W O (.Attribute a n pos) (fun ρ => fa ρ >>= fun d => fldD n d) :=
  peI (pe_fld ha hb) fun σ H Q ⟨g, s, ρ, w, er, h⟩ => ⟨g, s, ρ, w, er, aft_step RE.back w h fun d s1 x g1 H1 w1 e1 r1 h1 => by
    have hn := aft_not_bad h1
    obtain ⟨c, hc, sc⟩ := (r1 : View _ _ _ _ _ _).con w1 (bind_ne hn)
    have h3 : fldD n d s1 = fldC n c s1 := bind_ok hc
    rw [h3] at h1 hn
    cases c with
    | ins y fs =>
      have hn : liftO (lookF fs n) s1 ≠ .bad := hn
      obtain ⟨d', hd⟩ := liftO_ne hn
      obtain ⟨p, A, dx, vfs, rfl, hq, hi, ke, rs⟩ := sc.ins w1
      obtain ⟨v', hv, rv⟩ := lookF_reps ke rs hd
      have h4 : fldC n (.ins y fs) s1 = .ok d' s1 := by show liftO (lookF fs n) s1 = _; rw [hd]; rfl
      rw [h4] at h1
      have hm : n ∈ fs.map (·.1) := by
        unfold lookF at hd
        cases q : fs.find? (fun e => decide (e.1 = n)) with
        | none => rw [q] at hd; cases hd
        | some e => exact List.mem_map.mpr ⟨e, List.mem_of_find?_eq_some q, by have := List.find?_some q; simpa using this⟩
      exact ⟨p, A, dx, vfs, v', rfl, hq, hi.cf.cls, hi.na n hm, hv, aft_ret w1 h1 rv⟩
    | _ => exact absurd rfl hn⟩
end
end DL

/-! # DL: +, slices, built-in functions -/
namespace DL
open PySem PySem.Spec PyProof.Rows L2
theorem szMax_eq : szMax = sizeLine := by rw [sizeLine_eq]; rfl
/-- + also of lists: a new one -/
def addL : D → D → M D
  | .lst a, .lst b => if a.length + b.length ≤ szMax then pure (.lst (a ++ b)) else bad
  | d, e => addD d e
section
variable {X : Cx} {W : WX} {O : List Nat} {e a b c : Expr} {es : List Expr} {f fa fb fc : Env → M D} {ff fl : Env → M (List D)} {ft fu : Env → M Bool} {pos : Pos}
variable {K : PySem.W.Frag} {mg : Str → Option Value}
theorem Reps.nil_iff {g : Gh} {vs : List V} {ds : List D} (r : Reps K mg g vs ds) : vs = [] ↔ ds = [] := by
  cases r with
  | nil => simp
  | cons _ _ => simp
theorem de_add (ha : DV X W O a fa) (hb : DV X W O b fb) : DE X W O (.BinOp a .Add b pos) (fun ρ => fa ρ >>= fun d => fb ρ >>= fun e => addL d e) :=
  de_bin (op_add.or (op_add_str.or (op_catA.or op_cat))) (fun g s H σ x y d e Q w vx vy h => by
    have hn := aft_not_bad h
    cases d with
    | int i =>
      cases e with
      | int j => exact .inl ⟨i, j, vx.sees.int, vy.sees.int, aft_ret w h (.int _)⟩
      | _ => exact absurd rfl hn
    | str i =>
      cases e with
      | str j =>
        obtain ⟨h1, h2⟩ := ite_ne_bad (c := i.length + j.length ≤ szMax) hn
        have h : aft X.K X.mg (RE X.K X.mg) W g H σ Q ((if i.length + j.length ≤ szMax then (pure (.str (i ++ j)) : M D) else bad) s) := h
        rw [h2] at h
        exact .inr (.inl ⟨i, j, vx.sees.str, vy.sees.str, by rw [← szMax_eq]; exact h1, aft_ret w h (.str _)⟩)
      | _ => exact absurd rfl hn
    | tup ds =>
      cases e with
      | tup es =>
        obtain ⟨h1, h2⟩ := ite_ne_bad (c := ds.length + es.length ≤ szMax) hn
        have h : aft X.K X.mg (RE X.K X.mg) W g H σ Q ((if ds.length + es.length ≤ szMax then (pure (.tup (ds ++ es)) : M D) else bad) s) := h
        rw [h2] at h
        obtain ⟨p, vs, rfl, hq, rs⟩ := vx.sees.tup w
        obtain ⟨p2, vs2, rfl, hq2, rs2⟩ := vy.sees.tup w
        refine .inr (.inr (.inl ⟨p, p2, vs, vs2, rfl, rfl, hq, hq2, by rw [rs.length, rs2.length, ← szMax_eq]; exact h1, fun z => ?_, fun _ z => ?_, fun _ _ q hq' => aft_tup w hq' (rs.append rs2) h⟩))
        · have e : ds = [] := (rs.nil_iff).mp z
          subst e
          rcases vy with r | ⟨_, ho, _, _, _, _, r⟩
          · exact aft_ret w h r
          · cases ho <;> exact r.elim
        · have e : es = [] := (rs2.nil_iff).mp z
          subst e
          rw [List.append_nil] at h
          rcases vx with r | ⟨_, ho, _, _, _, _, r⟩
          · exact aft_ret w h r
          · cases ho <;> exact r.elim
      | _ => exact absurd rfl hn
    | lst ds =>
      cases e with
      | lst es =>
        obtain ⟨h1, h2⟩ := ite_ne_bad (c := ds.length + es.length ≤ szMax) hn
        have h : aft X.K X.mg (RE X.K X.mg) W g H σ Q ((if ds.length + es.length ≤ szMax then (pure (.lst (ds ++ es)) : M D) else bad) s) := h
        rw [h2] at h
        obtain ⟨p, vs, rfl, hq, rs⟩ := vx.sees.lst w
        obtain ⟨p2, vs2, rfl, hq2, rs2⟩ := vy.sees.lst w
        exact .inr (.inr (.inr ⟨p, p2, vs, vs2, rfl, rfl, hq, hq2, by rw [rs.length, rs2.length, ← szMax_eq]; exact h1, fun q hq' => aft_freeze w hq' (rs.append rs2) h⟩))
      | _ => exact absurd rfl hn
    | _ => exact absurd rfl hn) ha hb
theorem de_neg (ha : DV X W O a fa) : DE X W O (.UnaryOp .USub a pos) (fun ρ => fa ρ >>= fun d => negD d) :=
  peI (pe_un un_neg ha) fun σ H Q ⟨g, s, ρ, w, er, h⟩ => ⟨g, s, ρ, w, er, aft_step RE.back w h fun d s1 x g1 H1 w1 e1 r1 h1 => by
    cases d with
    | int i => exact ⟨i, (r1 : View _ _ _ _ _ _).sees.int, aft_ret w1 h1 (.int _)⟩
    | _ => exact absurd rfl (aft_not_bad h1)⟩

/-! ### slices -/
def optI : Option D → M (Option Int)
  | none => pure none
  | some (.int i) => pure (some i)
  | some _ => bad
def sliceC (c : D) (lo hi : Option Int) : M D := match c with
  | .tup ds => pure (.tup (cutD ds lo hi))
  | .lst ds => pure (.lst (cutD ds lo hi))
  | _ => bad
/-- a slice's part -/
def DO (X : Cx) (W : WX) (O : List Nat) (e : Option Expr) (f : Env → M (Option Int)) : Prop := PO X e (tG X.K X.mg (fun _ _ _ b c => b = c) W O f)
theorem do_none : DO X W O none (fun _ => pure none) := ⟨fun pins s σ H Q I ⟨g, s', ρ, w, er, h⟩ => po_none.run pins s σ H Q I (aft_ret w h rfl)⟩
theorem do_some (h : DV X W O e f) : DO X W O (some e) (fun ρ => f ρ >>= fun d => asInt d >>= fun i => pure (some i)) :=
  ⟨fun pins s σ H Q I ⟨g, s', ρ, w, er, h'⟩ => (po_some h).run pins s σ H Q I ⟨g, s', ρ, w, er, aft_step (fun _ _ _ _ _ _ _ z => z) w h' fun d s1 x g1 H1 w1 e1 r1 h1 => by
    cases d with
    | int i => exact ⟨i, (r1 : View _ _ _ _ _ _).sees.int, aft_ret w1 h1 rfl⟩
    | _ => exact absurd rfl (aft_not_bad h1)⟩⟩
theorem sixle {n : Nat} (o : Option Int) : HT.sIx n n o ≤ n := HT.sIx_le n n (Nat.le_refl _) o
theorem cut_whole {ds : List D} {lo hi : Option Int} (h : HT.sIx ds.length 0 lo = 0 ∧ HT.sIx ds.length ds.length hi = ds.length) : cutD ds lo hi = ds := by
  unfold cutD
  rw [h.1, h.2, List.drop_zero, Nat.sub_zero, List.take_length]
theorem de_slice {lo hi : Option Expr} {p2 : Pos} {flo fhi : Env → M (Option Int)} (ha : DV X W O a fa) (hl : DO X W O lo flo) (hh : DO X W O hi fhi) :
    DE X W O (.Subscript a (.Slice lo hi none p2) pos) (fun ρ => fa ρ >>= fun d => flo ρ >>= fun l => fhi ρ >>= fun u => con d >>= fun c => sliceC c l u) :=
  peI (pe_slice (sl_list.or sl_tupA) ha hl hh) fun σ H Q ⟨g, s, ρ, w, er, h⟩ => ⟨g, s, ρ, w, er, aft_step RE.back w h fun d s1 x g1 H1 w1 e1 r1 h1 =>
    ⟨g1, s1, ρ, w1, er.ext e1, aft_step RE.back w1 h1 fun l s2 l' g2 H2 w2 e2 el h2 => ⟨g2, s2, ρ, w2, (er.ext e1).ext e2, aft_step RE.back w2 h2 fun u s3 u' g3 H3 w3 e3 eu h3 => by
      have el : l' = l := el
      have eu : u' = u := eu
      subst el eu
      have hn := aft_not_bad h3
      have vx : View X.K X.mg g3 H3 x d := ((r1 : View _ _ _ _ _ _).ext e2).ext e3
      obtain ⟨c, hc, sc⟩ := vx.con w3 (bind_ne hn)
      rw [bind_ok hc] at h3 hn
      cases c with
      | tup ds =>
        obtain ⟨p, vs, rfl, hq, rs⟩ := sc.tup w3
        refine .inr ⟨p, vs, rfl, hq, fun hw => ?_, fun _ q hp => aft_tup w3 hp (cut_reps rs _ _) h3⟩
        rw [rs.length] at hw
        have h3 : aft X.K X.mg (RE X.K X.mg) W g3 H3 σ Q (.ok (.tup (cutD ds l' u')) s3) := h3
        rw [cut_whole hw] at h3
        rcases sc with r | ⟨_, ho, _, _, r⟩
        · exact aft_ret w3 h3 r
        · cases ho <;> exact r.elim
      | lst ds =>
        obtain ⟨p, vs, rfl, hq, rs⟩ := sc.lst w3
        exact .inl ⟨p, vs, rfl, .of hq, fun q hp => aft_freeze w3 hp (cut_reps rs _ _) h3⟩
      | _ => exact absurd rfl hn⟩⟩⟩

/-! ### built-ins by their names -/
/-- a built-in function, a built-in class: k what the mirror gives -/
theorem de_callB {x : Str} {id : String} {r : List V → Hp → VK → Prop} {k : List D → M D} {p : Pos} (hc : CallR X (.builtin id) r)
    (hk : ∀ (g : Gh) (s : Sto) (H : Hp) (σ : L2.St) (vs : List V) (ds : List D) (Q : VK), World X.K X.mg g s H → Vws X.K X.mg g H vs ds → aft X.K X.mg (RE X.K X.mg) W g H σ Q (k ds s) → r vs H Q)
    (hm : X.mg x = none) (ha : DVA X W O (e :: es) fl) (hg : Gl X x := by rfl) (hv : bootBuiltins x = some (.builtin id) := by decide +kernel) (hn : x ≠ "__name__" := by decide) (hdb : (x == ("__debug__" : Str)) = false := by decide)
    (he : starEach (e :: es) X.env = (false, eval e X.env) :: starEach es X.env := by rfl) (hpl : (backTo pos (starEach es X.env)).any (·.1) = false := by rfl) :
    DE X W O (.Call (.Name x p) (e :: es) [] pos) (fun ρ => fl ρ >>= fun ds => k ds) :=
  peI (pe_callB hc hg hm hv ha hn hdb he hpl) fun σ H Q ⟨g, s, ρ, w, er, h⟩ => ⟨g, s, ρ, w, er, aft_step RE.back w h fun ds s1 vs g1 H1 w1 e1 r1 h1 => hk g1 s1 H1 σ vs ds Q w1 r1 h1⟩
theorem de_callT {x : Str} {T : String} {r : List V → Hp → VK → Prop} {k : List D → M D} {p : Pos} (hc : CallR X (.type T) r)
    (hk : ∀ (g : Gh) (s : Sto) (H : Hp) (σ : L2.St) (vs : List V) (ds : List D) (Q : VK), World X.K X.mg g s H → Vws X.K X.mg g H vs ds → aft X.K X.mg (RE X.K X.mg) W g H σ Q (k ds s) → r vs H Q)
    (hm : X.mg x = none) (ha : DVA X W O (e :: es) fl) (hg : Gl X x := by rfl) (hv : bootBuiltins x = some (.type T) := by decide +kernel) (hn : x ≠ "__name__" := by decide) (hdb : (x == ("__debug__" : Str)) = false := by decide)
    (he : starEach (e :: es) X.env = (false, eval e X.env) :: starEach es X.env := by rfl) (hpl : (backTo pos (starEach es X.env)).any (·.1) = false := by rfl) :
    DE X W O (.Call (.Name x p) (e :: es) [] pos) (fun ρ => fl ρ >>= fun ds => k ds) :=
  peI (pe_callTy hc hg hm hv ha hn hdb he hpl) fun σ H Q ⟨g, s, ρ, w, er, h⟩ => ⟨g, s, ρ, w, er, aft_step RE.back w h fun ds s1 vs g1 H1 w1 e1 r1 h1 => hk g1 s1 H1 σ vs ds Q w1 r1 h1⟩
/-- a built-in class whose answer is a new list -/
theorem df_callT {x : Str} {T : String} {r : List V → Hp → VK → Prop} {k : List D → M (List D)} {p : Pos} (hc : CallR X (.type T) r)
    (hk : ∀ (g : Gh) (s : Sto) (H : Hp) (σ : L2.St) (vs : List V) (ds : List D) (Q : VK), World X.K X.mg g s H → Vws X.K X.mg g H vs ds → aft X.K X.mg (RF X.K X.mg) W g H σ Q (k ds s) → r vs H Q)
    (hm : X.mg x = none) (ha : DVA X W O (e :: es) fl) (hg : Gl X x := by rfl) (hv : bootBuiltins x = some (.type T) := by decide +kernel) (hn : x ≠ "__name__" := by decide) (hdb : (x == ("__debug__" : Str)) = false := by decide)
    (he : starEach (e :: es) X.env = (false, eval e X.env) :: starEach es X.env := by rfl) (hpl : (backTo pos (starEach es X.env)).any (·.1) = false := by rfl) :
    DF X W O (.Call (.Name x p) (e :: es) [] pos) (fun ρ => fl ρ >>= fun ds => k ds) :=
  peI (pe_callTy hc hg hm hv ha hn hdb he hpl) fun σ H Q ⟨g, s, ρ, w, er, h⟩ => ⟨g, s, ρ, w, er, aft_step RF.back w h fun ds s1 vs g1 H1 w1 e1 r1 h1 => hk g1 s1 H1 σ vs ds Q w1 r1 h1⟩
/-- one argument, looked into -/
def on1 (k : D → M D) : List D → M D
  | [d] => con d >>= k
  | _ => bad
def on1L (k : D → M (List D)) : List D → M (List D)
  | [d] => con d >>= k
  | _ => bad
theorem on1_ok {α β : Type} {R : RR β α} (hR : R.Back) {k : D → M α} {k1 : List D → M α} (e1 : ∀ d, k1 [d] = (con d >>= k)) (e0 : k1 [] = bad) (e2 : ∀ d d' ds, k1 (d :: d' :: ds) = bad) {g : Gh} {s : Sto} {H : Hp} {σ : L2.St} {vs : List V} {ds : List D} {Q : β → Hp → Prop} (w : World K mg g s H)
    (hv : Vws K mg g H vs ds) (h : aft K mg R W g H σ Q (k1 ds s)) : ∃ v d c, vs = [v] ∧ ds = [d] ∧ con d s = .ok c s ∧ View K mg g H v d ∧ Sees K mg g H v c ∧ aft K mg R W g H σ Q (k c s) := by
  cases hv with
  | nil => rw [e0] at h; exact h.elim
  | cons r t =>
    cases t with
    | nil =>
      rw [e1] at h
      obtain ⟨c, hc, sc⟩ := r.con w (bind_ne (aft_not_bad h))
      rw [bind_ok hc] at h
      exact ⟨_, _, c, rfl, rfl, hc, r, sc, h⟩
    | cons _ _ => rw [e2] at h; exact h.elim
def lenC : D → M D
  | .lst ds => pure (.int ds.length)
  | .frl ds => pure (.int ds.length)
  | .tup ds => pure (.int ds.length)
  | _ => bad
def lenK := on1 lenC
theorem de_len {p : Pos} (hm : X.mg "len" = none) (ha : DVA X W O (e :: es) fl) (hg : Gl X "len" := by rfl) (he : starEach (e :: es) X.env = (false, eval e X.env) :: starEach es X.env := by rfl) (hpl : (backTo pos (starEach es X.env)).any (·.1) = false := by rfl) :
    DE X W O (.Call (.Name "len" p) (e :: es) [] pos) (fun ρ => fl ρ >>= fun ds => lenK ds) :=
  de_callB call_len_seq (fun g s H σ vs ds Q w hv h => by
    obtain ⟨v, d, c, rfl, rfl, hc, _, sc, h⟩ := on1_ok RE.back (k1 := lenK) (fun _ => rfl) rfl (fun _ _ _ => rfl) w hv h
    cases c with
    | lst ds =>
      obtain ⟨p, vs, rfl, hq, rs⟩ := sc.lst w
      exact ⟨p, vs, rfl, .inl (.of hq), by rw [rs.length]; exact aft_ret w h (.int _)⟩
    | frl ds =>
      obtain ⟨p, vs, rfl, hq, rs⟩ := sc.frl w
      exact ⟨p, vs, rfl, .inl hq, by rw [rs.length]; exact aft_ret w h (.int _)⟩
    | tup ds =>
      obtain ⟨p, vs, rfl, hq, rs⟩ := sc.tup w
      exact ⟨p, vs, rfl, .inr hq, by rw [rs.length]; exact aft_ret w h (.int _)⟩
    | _ => exact h.elim) hm ha hg (by decide +kernel) (by decide) (by decide) he hpl
def tupC : D → M D
  | .lst ds => pure (.tup ds)
  | .frl ds => pure (.tup ds)
  | .tup ds => pure (.tup ds)
  | _ => bad
def tupK := on1 tupC
theorem de_tupleOf {p : Pos} (hm : X.mg "tuple" = none) (ha : DVA X W O (e :: es) fl) (hg : Gl X "tuple" := by rfl) (he : starEach (e :: es) X.env = (false, eval e X.env) :: starEach es X.env := by rfl) (hpl : (backTo pos (starEach es X.env)).any (·.1) = false := by rfl) :
    DE X W O (.Call (.Name "tuple" p) (e :: es) [] pos) (fun ρ => fl ρ >>= fun ds => tupK ds) :=
  de_callT call_tuple_of (fun g s H σ vs ds Q w hv h => by
    obtain ⟨v, d, c, rfl, rfl, hc, _, sc, h⟩ := on1_ok RE.back (k1 := tupK) (fun _ => rfl) rfl (fun _ _ _ => rfl) w hv h
    cases c with
    | lst ds =>
      obtain ⟨p, vs, rfl, hq, rs⟩ := sc.lst w
      exact ⟨p, vs, rfl, .inl ⟨.of hq, fun l hl => aft_tup w hl rs h⟩⟩
    | frl ds =>
      obtain ⟨p, vs, rfl, hq, rs⟩ := sc.frl w
      exact ⟨p, vs, rfl, .inl ⟨hq, fun l hl => aft_tup w hl rs h⟩⟩
    | tup ds =>
      obtain ⟨p, vs, rfl, hq, rs⟩ := sc.tup w
      refine ⟨p, vs, rfl, .inr ⟨hq, ?_⟩⟩
      rcases sc with r | ⟨_, ho, _, _, r⟩
      · exact aft_ret w h r
      · cases ho <;> exact r.elim
    | _ => exact h.elim) hm ha hg (by decide +kernel) (by decide) (by decide) he hpl
def lstC : D → M (List D)
  | .lst ds => pure ds
  | .frl ds => pure ds
  | .tup ds => pure ds
  | _ => bad
def lstK := on1L lstC
theorem df_listOf {p : Pos} (hm : X.mg "list" = none) (ha : DVA X W O (e :: es) fl) (hg : Gl X "list" := by rfl) (he : starEach (e :: es) X.env = (false, eval e X.env) :: starEach es X.env := by rfl) (hpl : (backTo pos (starEach es X.env)).any (·.1) = false := by rfl) :
    DF X W O (.Call (.Name "list" p) (e :: es) [] pos) (fun ρ => fl ρ >>= fun ds => lstK ds) :=
  df_callT call_list_of (fun g s H σ vs ds Q w hv h => by
    obtain ⟨v, d, c, rfl, rfl, hc, _, sc, h⟩ := on1_ok RF.back (k1 := lstK) (fun _ => rfl) rfl (fun _ _ _ => rfl) w hv h
    cases c with
    | lst ds =>
      obtain ⟨p, vs, rfl, hq, rs⟩ := sc.lst w
      exact ⟨p, vs, rfl, .inl (.of hq), fun l hl => aft_new w hl rs h⟩
    | frl ds =>
      obtain ⟨p, vs, rfl, hq, rs⟩ := sc.frl w
      exact ⟨p, vs, rfl, .inl hq, fun l hl => aft_new w hl rs h⟩
    | tup ds =>
      obtain ⟨p, vs, rfl, hq, rs⟩ := sc.tup w
      exact ⟨p, vs, rfl, .inr hq, fun l hl => aft_new w hl rs h⟩
    | _ => exact h.elim) hm ha hg (by decide +kernel) (by decide) (by decide) he hpl
def intC : D → M D
  | .int i => pure (.int i)
  | .bl b => pure (.int (if b then 1 else 0))
  | _ => bad
def intK := on1 intC
theorem de_intOf {p : Pos} (hm : X.mg "int" = none) (ha : DVA X W O (e :: es) fl) (hg : Gl X "int" := by rfl) (he : starEach (e :: es) X.env = (false, eval e X.env) :: starEach es X.env := by rfl) (hpl : (backTo pos (starEach es X.env)).any (·.1) = false := by rfl) :
    DE X W O (.Call (.Name "int" p) (e :: es) [] pos) (fun ρ => fl ρ >>= fun ds => intK ds) :=
  de_callT call_int1 (fun g s H σ vs ds Q w hv h => by
    obtain ⟨v, d, c, rfl, rfl, hc, _, sc, h⟩ := on1_ok RE.back (k1 := intK) (fun _ => rfl) rfl (fun _ _ _ => rfl) w hv h
    cases c with
    | int i => exact .inl ⟨i, by rw [sc.int], aft_ret w h (.int _)⟩
    | bl b => exact .inr ⟨b, by rw [sc.bl], aft_ret w h (.int _)⟩
    | _ => exact h.elim) hm ha hg (by decide +kernel) (by decide) (by decide) he hpl
def absC : D → M D
  | .int i => pure (.int (if i < 0 then -i else i))
  | _ => bad
def absK := on1 absC
theorem de_abs {p : Pos} (hm : X.mg "abs" = none) (ha : DVA X W O (e :: es) fl) (hg : Gl X "abs" := by rfl) (he : starEach (e :: es) X.env = (false, eval e X.env) :: starEach es X.env := by rfl) (hpl : (backTo pos (starEach es X.env)).any (·.1) = false := by rfl) :
    DE X W O (.Call (.Name "abs" p) (e :: es) [] pos) (fun ρ => fl ρ >>= fun ds => absK ds) :=
  de_callB call_abs (fun g s H σ vs ds Q w hv h => by
    obtain ⟨v, d, c, rfl, rfl, hc, _, sc, h⟩ := on1_ok RE.back (k1 := absK) (fun _ => rfl) rfl (fun _ _ _ => rfl) w hv h
    cases c with
    | int i => exact ⟨i, by rw [sc.int], aft_ret w h (.int _)⟩
    | _ => exact h.elim) hm ha hg (by decide +kernel) (by decide) (by decide) he hpl
end
end DL

/-! # DL: kinds, ==, repr, tests -/
namespace DL
open PySem PySem.Spec PyProof.Rows L2

/-! ### isinstance -/
def six : List String := ["int", "bool", "str", "tuple", "list", "dict"]
/-- a content's kind, by the name of its built-in class -/
def tag : D → Option String
  | .non => some "NoneType"
  | .bl _ => some "bool"
  | .int _ => some "int"
  | .str _ => some "str"
  | .tup _ => some "tuple"
  | .lst _ => some "list"
  | .frl _ => some "list"
  | .dct _ => some "dict"
  | _ => none
def isT (n t : String) : Bool := t == n || (t == "bool" && n == "int")
theorem isT_kit : ∀ n ∈ six, ∀ t ∈ (["NoneType", "bool", "int", "str", "tuple", "list", "dict"] : List String), kitB t n = some (isT n t) := by decide +kernel
theorem tag_mem {d : D} {t : String} (h : tag d = some t) : t ∈ (["NoneType", "bool", "int", "str", "tuple", "list", "dict"] : List String) := by
  cases d <;> cases h <;> decide
section
variable {K : PySem.W.Frag} {mg : Str → Option Value} {g : Gh} {s : Sto} {H : Hp} {v : V} {c : D}
theorem rd_tyL {a : Addr} {vs : List V} (h : SqL K H a vs) : TyX K H (.ref a) (.type "list") := by
  rcases h with (h | ⟨o, h⟩) | ⟨o, its, n, h1, h2, _⟩
  · exact .base (.lst h)
  · exact .base (.frz h)
  · exact .kList h1 h2
theorem rd_tyT {a : Addr} {vs : List V} (h : SqT K H a vs) : TyX K H (.ref a) (.type "tuple") := by
  rcases h with (h | ⟨o, h⟩) | ⟨o, its, n, h1, h2, _⟩
  · exact .base (.tup h)
  · exact .fTuple h
  · exact .kTuple h1 h2
theorem Sees.ty {t : String} (x : Sees K mg g H v c) (w : World K mg g s H) (h : tag c = some t) : TyX K H v (.type t) := by
  cases c with
  | non => cases h; rw [x.non]; exact .base .non
  | bl b => cases h; rw [x.bl]; exact .base (.bl b)
  | int i => cases h; rw [x.int]; exact .base (.int i)
  | str y => cases h; rw [x.str]; exact .base (.str y)
  | tup ds => cases h; obtain ⟨p, vs, rfl, hq, _⟩ := x.tup w; exact rd_tyT hq
  | lst ds => cases h; obtain ⟨p, vs, rfl, hq, _⟩ := x.lst w; exact .base (.lst hq)
  | frl ds => cases h; obtain ⟨p, vs, rfl, hq, _⟩ := x.frl w; exact rd_tyL hq
  | dct es =>
    cases h
    obtain ⟨p, kvs, rfl, hq, _⟩ := x.dct w
    rcases hq with hq | ⟨o, hq⟩
    · exact .base (.dK hq)
    · exact .fDict hq
  | _ => cases h
theorem Sees.tyI {y : Str} {fs : List (Str × D)} (x : Sees K mg g H v (.ins y fs)) (w : World K mg g s H) : ∃ A, InsF K mg y A (fs.map (·.1)) ∧ TyX K H v (.ref A) := by
  obtain ⟨p, A, dx, vfs, rfl, hq, hi, _⟩ := x.ins w
  exact ⟨A, hi, .base (.ins hq hi.cf.cls hi.cf.cc hi.cf.cg hi.cf.ct hi.cf.mo)⟩
end
/-- isinstance(c, n), n a built-in class -/
def isiC (n : String) : D → M D
  | .ins _ _ => pure (.bl false)
  | c => match tag c with
    | some t => pure (.bl (isT n t))
    | none => bad
def isiC2 (n m : String) : D → M D
  | .ins _ _ => pure (.bl false)
  | c => match tag c with
    | some t => pure (.bl (isT n t || isT m t))
    | none => bad
/-- isinstance(c, y), y an own class; L: other own classes of which it is known -/
def isiO (y : Str) (L : List Str) : D → M D
  | .ins z _ => if z = y then pure (.bl true) else if z ∈ L then pure (.bl false) else bad
  | c => match tag c with
    | some _ => pure (.bl false)
    | none => bad
section
variable {X : Cx} {W : WX} {O : List Nat} {e a b c : Expr} {es : List Expr} {f fa fb fc : Env → M D} {ff fl : Env → M (List D)} {ft fu : Env → M Bool} {pos : Pos}
theorem kit_six {K : PySem.W.Frag} {n t : String} (hn : n ∈ six) {d : D} (h : tag d = some t) : PySem.W.kitOne K (.type t) (.type n) = some (isT n t) := kit_ty (isT_kit n hn t (tag_mem h))
theorem de_isiB {t : Str} {p pt : Pos} {T : String} (hT : T ∈ six) (hm : X.mg "isinstance" = none) (hmt : X.mg t = none) (he : DV X W O e f) (hbt : bootBuiltins t = some (.type T) := by decide +kernel) (hg : Gl X "isinstance" := by rfl) (hgt : Gl X t := by rfl)
    (hnt : t ≠ "__name__" := by decide) (hdt : (t == ("__debug__" : Str)) = false := by decide)
    (h1 : starEach [.Name t pt] X.env = (false, eval (.Name t pt) X.env) :: starEach [] X.env := by rfl) (h2 : starEach (e :: [.Name t pt]) X.env = (false, eval e X.env) :: starEach [.Name t pt] X.env := by rfl)
    (hpl : (backTo pos (starEach [.Name t pt] X.env)).any (·.1) = false := by rfl) :
    DE X W O (.Call (.Name "isinstance" p) [e, .Name t pt] [] pos) (fun ρ => f ρ >>= fun d => con d >>= isiC T) :=
  peI (pe_callB call_isi hg hm (by decide +kernel) (pa_cons he (pa_cons (pe_bltn (v := .ty T) hgt hmt hbt rfl hnt hdt) pa_nil h1) h2) (by decide) (by decide) h2 hpl) fun σ H Q ⟨g, s, ρ, w, er, h⟩ => ⟨g, s, ρ, w, er, aft_step RE.back w h fun d s1 x g1 H1 w1 e1 r1 h1 => by
    have hn := aft_not_bad h1
    obtain ⟨c, hc, sc⟩ := (r1 : View _ _ _ _ _ _).con w1 (bind_ne hn)
    rw [bind_ok hc] at h1 hn
    show rIsi X.K [x, .ty T] H1 Q
    have plain : ∀ t', tag c = some t' → isiC T c = pure (.bl (isT T t')) := fun t' ht => by cases c <;> cases ht <;> rfl
    cases ht : tag c with
    | some t' =>
      rw [plain t' ht] at h1
      exact ⟨x, .ty T, .type t', .type T, _, rfl, .ty T, sc.ty w1 ht, kit_six hT ht, aft_ret w1 h1 (.bl _)⟩
    | none =>
      cases c with
      | ins y fs =>
        obtain ⟨A, hi, ty⟩ := sc.tyI w1
        exact ⟨x, .ty T, .ref A, .type T, false, rfl, .ty T, ty, hi.cf.nb T hT, aft_ret w1 h1 (.bl _)⟩
      | _ => first | exact absurd rfl hn | cases ht⟩
/-- isinstance(e, (n, m)), two built-in classes -/
theorem de_isiB2 {t u : Str} {p pt pu ptt : Pos} {kt : Nat} {T U : String} (hT : T ∈ six) (hU : U ∈ six) (hm : X.mg "isinstance" = none) (hmt : X.mg t = none) (hmu : X.mg u = none) (he : DV X W O e f) (hbt : bootBuiltins t = some (.type T) := by decide +kernel) (hbu : bootBuiltins u = some (.type U) := by decide +kernel)
    (hg : Gl X "isinstance" := by rfl) (hgt : Gl X t := by rfl) (hgu : Gl X u := by rfl)
    (hnt : t ≠ "__name__" := by decide) (hdt : (t == ("__debug__" : Str)) = false := by decide) (hnu : u ≠ "__name__" := by decide) (hdu : (u == ("__debug__" : Str)) = false := by decide)
    (h1 : starEach [.Tuple [.Name t pt, .Name u pu] kt ptt] X.env = (false, eval (.Tuple [.Name t pt, .Name u pu] kt ptt) X.env) :: starEach [] X.env := by rfl)
    (h2 : starEach (e :: [.Tuple [.Name t pt, .Name u pu] kt ptt]) X.env = (false, eval e X.env) :: starEach [.Tuple [.Name t pt, .Name u pu] kt ptt] X.env := by rfl)
    (h3 : starEach (.Name t pt :: [.Name u pu]) X.env = (false, eval (.Name t pt) X.env) :: starEach [.Name u pu] X.env := by rfl)
    (h4 : starEach [.Name u pu] X.env = (false, eval (.Name u pu) X.env) :: starEach [] X.env := by rfl)
    (hpl : (backTo pos (starEach [.Tuple [.Name t pt, .Name u pu] kt ptt] X.env)).any (·.1) = false := by rfl) :
    DE X W O (.Call (.Name "isinstance" p) [e, .Tuple [.Name t pt, .Name u pu] kt ptt] [] pos) (fun ρ => f ρ >>= fun d => con d >>= isiC2 T U) :=
  peI (pe_callB call_isiT hg hm (by decide +kernel) (pa_cons he (pa_cons (pe_tup (pa_cons (pe_bltn (v := .ty T) hgt hmt hbt rfl hnt hdt) (pa_cons (pe_bltn (v := .ty U) hgu hmu hbu rfl hnu hdu) pa_nil h4) h3)) pa_nil h1) h2) (by decide) (by decide) h2 hpl) fun σ H Q ⟨g, s, ρ, w, er, h⟩ => ⟨g, s, ρ, w, er, aft_step RE.back w h fun d s1 x g1 H1 w1 e1 r1 h1 => by
    have hn := aft_not_bad h1
    obtain ⟨c, hc, sc⟩ := (r1 : View _ _ _ _ _ _).con w1 (bind_ne hn)
    rw [bind_ok hc] at h1 hn
    refine ⟨szline (show 2 ≤ 1000 by decide), fun q hq => ?_⟩
    show rIsiT X.K [x, .ref q] (upd H1 q (.tup [.ty T, .ty U])) Q
    have w2 := w1.new (o := .tup [.ty T, .ty U]) hq
    have e2 := Ext.new (o := .tup [.ty T, .ty U]) w1 hq
    have h1 := h1.later RE.back w1 w2 e2
    have sc2 : Sees X.K X.mg g1 (upd H1 q (.tup [.ty T, .ty U])) x c := sc.imp id fun ⟨a, ho, z1, z2, z3⟩ => ⟨a, ho, z1, by rw [upd_ne (ne_of_none z2 hq)]; exact z2, z3⟩
    have plain : ∀ t', tag c = some t' → isiC2 T U c = pure (.bl (isT T t' || isT U t')) := fun t' ht => by cases c <;> cases ht <;> rfl
    have any : ∀ (ty : Value) (b1 b2 : Bool), PySem.W.kitOne X.K ty (.type T) = some b1 → PySem.W.kitOne X.K ty (.type U) = some b2 → PySem.W.kitAny X.K ty [.type T, .type U] = some (b1 || b2) := fun ty b1 b2 k1 k2 =>
      kitAny_cons k1 (fun hb => by subst hb; exact kitAny_cons k2 (fun hb => by subst hb; exact kitAny_nil) (fun hb => by subst hb; rfl)) (fun hb => by subst hb; rfl)
    cases ht : tag c with
    | some t' =>
      rw [plain t' ht] at h1
      exact ⟨x, q, [.ty T, .ty U], .type t', [.type T, .type U], _, rfl, upd_same, .cons (.ty T) (.cons (.ty U) .nil), sc2.ty w2 ht, any _ _ _ (kit_six hT ht) (kit_six hU ht), aft_ret w2 h1 (.bl _)⟩
    | none =>
      cases c with
      | ins y fs =>
        obtain ⟨A, hi, ty⟩ := sc2.tyI w2
        exact ⟨x, q, [.ty T, .ty U], .ref A, [.type T, .type U], _, rfl, upd_same, .cons (.ty T) (.cons (.ty U) .nil), ty, any _ _ _ (hi.cf.nb T hT) (hi.cf.nb U hU), aft_ret w2 h1 (.bl _)⟩
      | _ => first | exact absurd rfl hn | cases ht⟩
end
end DL

/-! # DL: own classes asked, ==, repr -/
namespace DL
open PySem PySem.Spec PyProof.Rows L2
section
variable {X : Cx} {W : WX} {O : List Nat} {e a b c : Expr} {es : List Expr} {f fa fb fc : Env → M D} {ff fl : Env → M (List D)} {ft fu : Env → M Bool} {pos : Pos}
/-- isinstance(e, y), y an own class -/
theorem de_isiO {y : Str} {L : List Str} {p pt : Pos} {A : Addr} (hm : X.mg "isinstance" = none) (hmy : X.mg y = some (.ref A)) (hb : ∀ t ∈ (["NoneType", "bool", "int", "str", "tuple", "list", "dict"] : List String), PySem.W.kitOne X.K (.type t) (.ref A) = some false)
    (hL : ∀ z ∈ L, ∀ A', X.mg z = some (.ref A') → PySem.W.kitOne X.K (.ref A') (.ref A) = some false) (he : DV X W O e f) (hg : Gl X "isinstance" := by rfl) (hgy : Gl X y := by rfl) (hdy : (y == ("__debug__" : Str)) = false := by decide)
    (h1 : starEach [.Name y pt] X.env = (false, eval (.Name y pt) X.env) :: starEach [] X.env := by rfl) (h2 : starEach (e :: [.Name y pt]) X.env = (false, eval e X.env) :: starEach [.Name y pt] X.env := by rfl)
    (hpl : (backTo pos (starEach [.Name y pt] X.env)).any (·.1) = false := by rfl) :
    DE X W O (.Call (.Name "isinstance" p) [e, .Name y pt] [] pos) (fun ρ => f ρ >>= fun d => con d >>= isiO y L) :=
  peI (pe_callB call_isi hg hm (by decide +kernel) (pa_cons he (pa_cons (pe_glob (v := .ref A) hgy hmy rfl hdy) pa_nil h1) h2) (by decide) (by decide) h2 hpl) fun σ H Q ⟨g, s, ρ, w, er, h⟩ => ⟨g, s, ρ, w, er, aft_step RE.back w h fun d s1 x g1 H1 w1 e1 r1 h1 => by
    have hn := aft_not_bad h1
    obtain ⟨c, hc, sc⟩ := (r1 : View _ _ _ _ _ _).con w1 (bind_ne hn)
    rw [bind_ok hc] at h1 hn
    show rIsi X.K [x, .ref A] H1 Q
    have plain : ∀ t', tag c = some t' → isiO y L c = pure (.bl false) := fun t' ht => by cases c <;> cases ht <;> rfl
    cases ht : tag c with
    | some t' =>
      rw [plain t' ht] at h1
      exact ⟨x, .ref A, .type t', .ref A, _, rfl, .own A, sc.ty w1 ht, hb t' (tag_mem ht), aft_ret w1 h1 (.bl _)⟩
    | none =>
      cases c with
      | ins z fs =>
        obtain ⟨A', hi, ty⟩ := sc.tyI w1
        by_cases hz : z = y
        · have k : isiO y L (.ins z fs) = pure (.bl true) := by show (if z = y then _ else _) = _; rw [if_pos hz]
          rw [k] at h1
          have eA : A' = A := by
            have z1 := hi.mg
            rw [hz, hmy] at z1
            injection z1 with z1; injection z1 with z1; exact z1.symm
          subst eA
          exact ⟨x, .ref A', .ref A', .ref A', true, rfl, .own A', ty, by unfold PySem.W.kitOne; rw [if_pos (by simp)], aft_ret w1 h1 (.bl _)⟩
        · by_cases hl : z ∈ L
          · have k : isiO y L (.ins z fs) = pure (.bl false) := by show (if z = y then _ else _) = _; rw [if_neg hz, if_pos hl]
            rw [k] at h1
            exact ⟨x, .ref A, .ref A', .ref A, false, rfl, .own A, ty, hL z hl A' hi.mg, aft_ret w1 h1 (.bl _)⟩
          · have k : isiO y L (.ins z fs) = bad := by show (if z = y then _ else _) = _; rw [if_neg hz, if_neg hl]
            rw [k] at h1
            exact h1.elim
      | _ => first | exact absurd rfl hn | cases ht⟩
end

/-! ### plain data -/
mutual
def py : D → Option PyData
  | .non => some .none
  | .bl b => some (.bool b)
  | .int i => some (.int i)
  | .str x => some (.str x)
  | .tup ds => match pys ds with
    | some ps => some (.tuple ps)
    | none => none
  | .lst ds => match pys ds with
    | some ps => some (.list ps)
    | none => none
  | .frl ds => match pys ds with
    | some ps => some (.list ps)
    | none => none
  | .dct es => match pyk es with
    | some ps => some (.dict ps)
    | none => none
  | _ => none
def pys : List D → Option (List PyData)
  | [] => some []
  | d :: ds => match py d, pys ds with
    | some p, some ps => some (p :: ps)
    | _, _ => none
def pyk : List (Key × D) → Option (List (PyData × PyData))
  | [] => some []
  | (k, d) :: es => match py d, pyk es with
    | some p, some ps => some ((match k with | .inl i => .int i | .inr x => .str x, p) :: ps)
    | _, _ => none
end
def keyP : Key → PyData
  | .inl i => .int i
  | .inr x => .str x
theorem pys_cons {d : D} {ds : List D} {ps : List PyData} (h : pys (d :: ds) = some ps) : ∃ p r, ps = p :: r ∧ py d = some p ∧ pys ds = some r := by
  unfold pys at h
  cases h1 : py d with
  | none => rw [h1] at h; cases h
  | some p =>
    cases h2 : pys ds with
    | none => rw [h1, h2] at h; cases h
    | some r => rw [h1, h2] at h; cases h; exact ⟨p, r, rfl, rfl, rfl⟩
theorem pyk_cons {k : Key} {d : D} {es : List (Key × D)} {ps : List (PyData × PyData)} (h : pyk ((k, d) :: es) = some ps) : ∃ p r, ps = (keyP k, p) :: r ∧ py d = some p ∧ pyk es = some r := by
  unfold pyk at h
  cases h1 : py d with
  | none => rw [h1] at h; cases h
  | some p =>
    cases h2 : pyk es with
    | none => rw [h1, h2] at h; cases h
    | some r => rw [h1, h2] at h; cases h; exact ⟨p, r, by cases k <;> rfl, rfl, rfl⟩
theorem py_tup {ds : List D} {p : PyData} (h : py (.tup ds) = some p) : ∃ ps, p = .tuple ps ∧ pys ds = some ps := by
  unfold py at h
  cases h1 : pys ds with
  | none => rw [h1] at h; cases h
  | some ps => rw [h1] at h; cases h; exact ⟨ps, rfl, rfl⟩
theorem py_lst {ds : List D} {p : PyData} (h : py (.lst ds) = some p) : ∃ ps, p = .list ps ∧ pys ds = some ps := by
  unfold py at h
  cases h1 : pys ds with
  | none => rw [h1] at h; cases h
  | some ps => rw [h1] at h; cases h; exact ⟨ps, rfl, rfl⟩
theorem py_frl {ds : List D} {p : PyData} (h : py (.frl ds) = some p) : ∃ ps, p = .list ps ∧ pys ds = some ps := by
  unfold py at h
  cases h1 : pys ds with
  | none => rw [h1] at h; cases h
  | some ps => rw [h1] at h; cases h; exact ⟨ps, rfl, rfl⟩
theorem py_dct {ds : List (Key × D)} {p : PyData} (h : py (.dct ds) = some p) : ∃ ps, p = .dict ps ∧ pyk ds = some ps := by
  unfold py at h
  cases h1 : pyk ds with
  | none => rw [h1] at h; cases h
  | some ps => rw [h1] at h; cases h; exact ⟨ps, rfl, rfl⟩
section
variable {X : Cx} {pins : List (Addr × Obj)} {σ : L2.St} {H : Hp} {s : Shared} {g : Gh} {st : Sto}
theorem not_sys (I : Inv X pins σ H s) (hs : ∃ o, X.K.lookup sysModules = some o ∧ o.cls ≠ .type "list") {a : Addr} {o : HO} (h : H a = some o) : a ≠ sysModules := fun e => by
  obtain ⟨ob, h1, _⟩ := hs
  have h2 := (I.bs _ _ (I.ok.mod.kin _ _ h1)).2
  rw [← e, h] at h2; cases h2
theorem sqL_sys (I : Inv X pins σ H s) (hs : ∃ o, X.K.lookup sysModules = some o ∧ o.cls ≠ .type "list") {a : Addr} {vs : List V} (h : SqL X.K H a vs) : a ≠ sysModules := by
  rcases h with (h | ⟨o, h⟩) | ⟨o, its, n, h1, h2, _⟩
  · exact not_sys I hs h
  · exact not_sys I hs h
  · intro e
    obtain ⟨ob, k1, k2⟩ := hs
    rw [e, k1] at h1; cases h1
    exact k2 h2
theorem keyIs_reads {k : Key} {u : Value} {h : Heap} (e : keyIs k u = true) : Reads h u (keyP k) [] := by
  rcases keyIs_shape e with ⟨i, t, rfl, rfl⟩ | ⟨x, t, rfl, rfl⟩
  · exact .int i t
  · exact .str x t
theorem reads_keys {h : Heap} : ∀ {es : List DictEntry} {vs : List (Key × Value)} {kp : List (PyData × PyData)}, Pairs (mixKind X.prog X.w) es vs → kp.map (·.1) = vs.map (fun q => keyP q.1) → ReadsAll h (es.map (·.key)) (kp.map (·.1)) []
  | [], _, kp, .nil, e => by rw [e]; exact .nil
  | en :: es, _ :: vs, [], .cons _ _ _, e => by cases e
  | en :: es, q :: vs, p :: kp, .cons hk _ t, e => by
    rw [List.map_cons, List.map_cons] at e
    injection e with e1 e2
    rw [List.map_cons, List.map_cons, e1]
    have := ReadsAll.cons (keyIs_reads (h := h) hk) (reads_keys t e2)
    exact this
theorem kv_split {kvs : List (Key × V)} {vs : List (Key × Value)} (r : KV kvs vs) : kvs.map (·.1) = vs.map (·.1) ∧ Vals (kvs.map (·.2)) (vs.map (·.2)) := by
  induction r with
  | nil => exact ⟨rfl, .nil⟩
  | cons h t ih => exact ⟨by rw [List.map_cons, List.map_cons, h.1, ih.1], .cons h.2 ih.2⟩
theorem pairs_vals {es : List DictEntry} {vs : List (Key × Value)} (r : Pairs (mixKind X.prog X.w) es vs) : es.map (·.val) = vs.map (·.2) := by
  induction r with
  | nil => rfl
  | cons h1 h2 t ih => rw [List.map_cons, List.map_cons, h2, ih]
theorem pyk_keys : ∀ {es : List (Key × D)} {ps : List (PyData × PyData)}, pyk es = some ps → ps.map (·.1) = (es.map (·.1)).map keyP
  | [], _, e => by cases e; rfl
  | (k, d) :: es, _, e => by
    obtain ⟨p, q, rfl, e1, e2⟩ := pyk_cons e
    rw [List.map_cons, List.map_cons, List.map_cons, pyk_keys e2]
theorem map_comp' {vs : List (Key × Value)} : vs.map (fun q => keyP q.1) = (vs.map (·.1)).map keyP := by rw [List.map_map]; rfl
mutual
theorem rep_reads (I : Inv X pins σ H s) (w : World X.K X.mg g st H) (hs : ∃ o, X.K.lookup sysModules = some o ∧ o.cls ≠ .type "list") : ∀ (d : D) (v : V) (u : Value) (p : PyData), Rep X.K X.mg g v d → RelV v u → py d = some p → ∃ as, Reads s.heap u p as ∧ sysModules ∉ as
  | .non, _, _, _, h, r, e => by cases h; cases r; cases e; exact ⟨_, .none, by simp⟩
  | .bl b, _, _, _, h, r, e => by cases h; cases r; cases e; exact ⟨_, .bool b, by simp⟩
  | .int i, _, _, _, h, r, e => by cases h; obtain ⟨t, rfl⟩ := r; cases e; exact ⟨_, .int i t, by simp⟩
  | .str x, _, _, _, h, r, e => by cases h; obtain ⟨t, rfl⟩ := r; cases e; exact ⟨_, .str x t, by simp⟩
  | .tup ds, _, _, _, h, r, e => by
    obtain ⟨ps, rfl, e'⟩ := py_tup e
    cases h with
    | tup hq ha =>
      cases r
      obtain ⟨its, rv, ⟨o, ho, hc, n, hd⟩, _⟩ := I.tuple (sqT_of w hq)
      obtain ⟨as, hr, hn⟩ := reps_reads I w hs ds _ its ps ha rv e'
      exact ⟨_, .tuple ho hc hd hr, hn⟩
  | .lst ds, _, _, _, h, r, e => by
    obtain ⟨ps, rfl, e'⟩ := py_lst e
    cases h with
    | lst hq ha =>
      cases r
      obtain ⟨its, rv, ⟨o, n, ho, hc, _, hd⟩, _⟩ := I.list (.of (w.sub _ _ hq))
      obtain ⟨as, hr, hn⟩ := reps_reads I w hs ds _ its ps ha rv e'
      exact ⟨_, .list ho hc hd hr, by simp only [List.mem_cons, not_or]; exact ⟨fun z => not_sys I hs (w.sub _ _ hq) z.symm, hn⟩⟩
  | .frl ds, _, _, _, h, r, e => by
    obtain ⟨ps, rfl, e'⟩ := py_frl e
    cases h with
    | frl hq ha =>
      cases r
      obtain ⟨its, rv, ⟨o, n, ho, hc, _, hd⟩, _⟩ := I.list (sqL_of w hq)
      obtain ⟨as, hr, hn⟩ := reps_reads I w hs ds _ its ps ha rv e'
      exact ⟨_, .list ho hc hd hr, by simp only [List.mem_cons, not_or]; exact ⟨fun z => sqL_sys I hs (sqL_of w hq) z.symm, hn⟩⟩
  | .dct es, _, _, _, h, r, e => by
    obtain ⟨ps, rfl, e'⟩ := py_dct e
    cases h with
    | dct hq hk ha =>
      cases r
      obtain ⟨_, hS, vs, kv, o, en, ep, ho, hx, hd, _, pr, _⟩ := dk_rd I.hok (Rd.le w.sub hq)
      obtain ⟨h1, h2⟩ := kv_split kv
      have h3 := pairs_vals pr
      obtain ⟨as, hr, hn⟩ := repk_reads I w hs es _ _ ps ha h2 e'
      refine ⟨_, .dict (as := []) (bs := as) ho hx.1 hd (reads_keys pr ?_) ?_, ?_⟩
      · rw [pyk_keys e', ← hk, h1, map_comp']
      · rw [h3]; exact hr
      · simp only [List.append_nil, List.cons_append, List.nil_append, List.mem_cons, not_or]
        exact ⟨fun z => by rw [← z] at hS; simp at hS, hn⟩
  | .ins _ _, _, _, _, _, _, e => by cases e
  | .obj _, _, _, _, _, _, e => by cases e
  | .clo _ _, _, _, _, _, _, e => by cases e
  | .lam _ _, _, _, _, _, _, e => by cases e
  | .tab _ _, _, _, _, _, _, e => by cases e
  | .exo _ _ _ _, _, _, _, _, _, e => by cases e
theorem reps_reads (I : Inv X pins σ H s) (w : World X.K X.mg g st H) (hs : ∃ o, X.K.lookup sysModules = some o ∧ o.cls ≠ .type "list") : ∀ (ds : List D) (vs : List V) (us : List Value) (ps : List PyData), Reps X.K X.mg g vs ds → Vals vs us → pys ds = some ps → ∃ as, ReadsAll s.heap us ps as ∧ sysModules ∉ as
  | [], _, _, _, h, r, e => by cases h; cases r; cases e; exact ⟨_, .nil, by simp⟩
  | d :: ds, _, _, _, h, r, e => by
    obtain ⟨p, q, rfl, e1, e2⟩ := pys_cons e
    cases h with
    | cons h1 h2 =>
      cases r with
      | cons r1 r2 =>
        obtain ⟨as, q1, n1⟩ := rep_reads I w hs d _ _ p h1 r1 e1
        obtain ⟨bs, q2, n2⟩ := reps_reads I w hs ds _ _ q h2 r2 e2
        exact ⟨_, .cons q1 q2, by simp only [List.mem_append, not_or]; exact ⟨n1, n2⟩⟩
theorem repk_reads (I : Inv X pins σ H s) (w : World X.K X.mg g st H) (hs : ∃ o, X.K.lookup sysModules = some o ∧ o.cls ≠ .type "list") : ∀ (es : List (Key × D)) (vs : List V) (us : List Value) (ps : List (PyData × PyData)), Reps X.K X.mg g vs (es.map (·.2)) → Vals vs us → pyk es = some ps → ∃ as, ReadsAll s.heap us (ps.map (·.2)) as ∧ sysModules ∉ as
  | [], _, _, _, h, r, e => by cases h; cases r; cases e; exact ⟨_, .nil, by simp⟩
  | (k, d) :: es, _, _, _, h, r, e => by
    obtain ⟨p, q, rfl, e1, e2⟩ := pyk_cons e
    cases h with
    | cons h1 h2 =>
      cases r with
      | cons r1 r2 =>
        obtain ⟨as, q1, n1⟩ := rep_reads I w hs d _ _ p h1 r1 e1
        obtain ⟨bs, q2, n2⟩ := repk_reads I w hs es _ _ q h2 r2 e2
        exact ⟨_, .cons q1 q2, by simp only [List.mem_append, not_or]; exact ⟨n1, n2⟩⟩
end
end
end DL

/-! # DL: ==, repr -/
namespace DL
open PySem PySem.Spec PyProof.Rows L2
/-- instances of the class at A are equal to themselves alone -/
def NoEq (K : PySem.W.Frag) (A : Addr) : Prop :=
  ∃ (nm q : Str) (N : Addr) (bs : List Value) (hdct : Bool) (sn : List Str) (sub : List Value) (ab : Bool) (col : Option Bool) (dd : Option Addr) (k0 k1 k2 k3 k5 : Option Value) (newId : String) (o : Obj) (es : Array DictEntry) (ep : Nat),
    K.lookup A = some (excClassObj nm q A N bs [.type "object"] hdct sn sub ab col dd k0 k1 k2 k3 k5 newId) ∧ K.lookup N = some o ∧ o.data = .dict es ep ∧ (∀ e ∈ es, ∃ z t, e.key = .str z t) ∧ nsFind es "__eq__" = none ∧ nsFind es "__ne__" = none
theorem NoEq.inst {K : PySem.W.Frag} {A : Addr} {h : Heap} (n : NoEq K A) (X : K.In h) {x : Addr} {o : Obj} (hx : h.get? x = some o) (hc : o.cls = .ref A) : h.CmpInst x A [.type "object"] := by
  obtain ⟨nm, q, N, bs, hdct, sn, sub, ab, col, dd, k0, k1, k2, k3, k5, newId, on, es, ep, h1, h2, h3, h4, h5, h6⟩ := n
  exact ⟨o, nm, q, N, bs, hdct, sn, sub, ab, col, dd, k0, k1, k2, k3, k5, newId, fun y => nsFind es y, hx, hc, X _ _ h1, ⟨on, es, ep, X _ _ h2, h3, h4, fun _ => rfl⟩, h5, h6⟩
/-- ==: of things of the store that are instances of the classes L (which have no == of their own) by what they are; of plain data by it -/
def eqB (L : List Str) (d e : D) : Sto → Option Bool := fun s => match d, e with
  | .str x, .str y => some (decide (x = y))
  | .obj i, .obj j => (match s[i]?, s[j]? with
    | some (.ins x _), some (.ins y _) => if x ∈ L ∧ y ∈ L then some (i == j) else none
    | _, _ => none)
  | d, e => (match py d, py e with
    | some p, some q => if SeqAt.shaped p = true ∧ SeqAt.shaped q = true then some (PyData.eqv p q) else none
    | _, _ => none)
def neB (L : List Str) (d e : D) : Sto → Option Bool := fun s => (eqB L d e s).map (!·)
theorem eqB_cases {L : List Str} {d e : D} {st : Sto} {b : Bool} (h : eqB L d e st = some b) : (∃ x y, d = .str x ∧ e = .str y ∧ b = decide (x = y)) ∨ (∃ (i j : Nat) (x y : Str) (fs gs : List (Str × D)), d = .obj i ∧ e = .obj j ∧ st[i]? = some (.ins x fs) ∧ st[j]? = some (.ins y gs) ∧ x ∈ L ∧ y ∈ L ∧ b = (i == j)) ∨
    ∃ p q, py d = some p ∧ py e = some q ∧ SeqAt.shaped p = true ∧ SeqAt.shaped q = true ∧ b = PyData.eqv p q := by
  unfold eqB at h
  split at h
  · rename_i x y
    cases h
    exact .inl ⟨x, y, rfl, rfl, rfl⟩
  · rename_i i j
    split at h
    · rename_i x fs y gs h1 h2
      split at h
      · rename_i hl
        cases h
        exact .inr <| .inl ⟨i, j, x, y, fs, gs, rfl, rfl, h1, h2, hl.1, hl.2, rfl⟩
      · cases h
    · cases h
  · split at h
    · rename_i p q h1 h2
      split at h
      · rename_i hl
        cases h
        exact .inr <| .inr ⟨p, q, h1, h2, hl.1, hl.2, rfl⟩
      · cases h
    · cases h
/-- an answer that hangs on the values and the store alone -/
def cmpM (k : D → D → Sto → Option Bool) (d e : D) : M Bool := fun s => match k d e s with
  | some b => .ok b s
  | none => .bad
def cmpV (k : D → D → Sto → Option Bool) (d e : D) : M D := cmpM k d e >>= fun b => pure (.bl b)
theorem cmpM_ne {k : D → D → Sto → Option Bool} {d e : D} {s : Sto} (h : cmpM k d e s ≠ .bad) : ∃ b, k d e s = some b ∧ cmpM k d e s = .ok b s := by
  unfold cmpM at h ⊢
  cases q : k d e s with
  | none => rw [q] at h; exact absurd rfl h
  | some b => exact ⟨b, rfl, rfl⟩
/-- a comparison's rule -/
structure CRr (X : Cx) (op : CmpOp) (k : D → D → Sto → Option Bool) (r : R2) : Prop where
  op : OpR X (compareOp op) r
  on : ∀ (g : Gh) (s : Sto) (H : Hp) (x y : V) (d e : D) (Q : VK) (b : Bool), World X.K X.mg g s H → View X.K X.mg g H x d → View X.K X.mg g H y e → k d e s = some b → Q (.bl b) H → r x y H Q
def CR (X : Cx) (op : CmpOp) (k : D → D → Sto → Option Bool) : Prop := ∃ r, CRr X op k r
section
variable {X : Cx} {W : WX} {O : List Nat} {e a b c : Expr} {es : List Expr} {f fa fb fc : Env → M D} {ff fl : Env → M (List D)} {ft fu : Env → M Bool} {pos : Pos}
theorem de_cmp {op : CmpOp} {k : D → D → Sto → Option Bool} (C : CR X op k) (ha : DV X W O a fa) (hb : DV X W O b fb) (hm : behindInMarks op b = false := by first | exact nomark _ | with_unfolding_all rfl) :
    DE X W O (.Compare a [op] [b] pos) (fun ρ => fa ρ >>= fun d => fb ρ >>= fun e => cmpV k d e) := by
  obtain ⟨r, C⟩ := C
  exact peI (pe_cmpR C.op ha hb hm) fun σ H Q ⟨g, s, ρ, w, er, h⟩ => ⟨g, s, ρ, w, er, aft_step RE.back w h fun d s1 x g1 H1 w1 e1 r1 h1 => ⟨g1, s1, ρ, w1, er.ext e1, aft_step RE.back w1 h1 fun e s2 y g2 H2 w2 e2 r2 h2 => by
    obtain ⟨b, hb, hm⟩ := cmpM_ne (bind_ne (aft_not_bad h2))
    have h2 : aft X.K X.mg (RE X.K X.mg) W g2 H2 σ Q ((cmpM k d e >>= fun b => pure (.bl b)) s2) := h2
    rw [bind_ok hm] at h2
    exact C.on g2 s2 H2 x y d e Q b w2 ((r1 : View _ _ _ _ _ _).ext e2) r2 hb (aft_ret w2 h2 (.bl _))⟩⟩
theorem dt_cmp {op : CmpOp} {k : D → D → Sto → Option Bool} (C : CR X op k) (ha : DV X W O a fa) (hb : DV X W O b fb) (hm : behindInMarks op b = false := by first | exact nomark _ | with_unfolding_all rfl) :
    DT X W O (.Compare a [op] [b] pos) (fun ρ => fa ρ >>= fun d => fb ρ >>= fun e => cmpM k d e) := by
  obtain ⟨r, C⟩ := C
  exact ptI (pt_cmpR C.op ha hb hm) fun σ H Q ⟨g, s, ρ, w, er, h⟩ => ⟨g, s, ρ, w, er, aft_step RT.back w h fun d s1 x g1 H1 w1 e1 r1 h1 => ⟨g1, s1, ρ, w1, er.ext e1, aft_step RT.back w1 h1 fun e s2 y g2 H2 w2 e2 r2 h2 => by
    obtain ⟨b, hb, hm⟩ := cmpM_ne (aft_not_bad h2)
    rw [hm] at h2
    exact C.on g2 s2 H2 x y d e (fun x H' => ∃ k, x = .bl k ∧ Q k H') b w2 ((r1 : View _ _ _ _ _ _).ext e2) r2 hb ⟨b, rfl, aft_ret w2 h2 rfl⟩⟩⟩
/-- a op b op' c -/
theorem de_chain {op op' : CmpOp} {k k' : D → D → Sto → Option Bool} (C : CR X op k) (C' : CR X op' k') (ha : DV X W O a fa) (hb : DV X W O b fb) (hc : DV X W O c fc) (hm : lastMarks [op, op'] [b, c] = false := by with_unfolding_all rfl) :
    DE X W O (.Compare a [op, op'] [b, c] pos) (fun ρ => fa ρ >>= fun d => fb ρ >>= fun e => cmpM k d e >>= fun z => if z = true then fc ρ >>= fun f => cmpV k' e f else pure (.bl false)) := by
  obtain ⟨r, C⟩ := C
  obtain ⟨r', C'⟩ := C'
  exact peI (pe_chain C.op C'.op ha hb hc hm) fun σ H Q ⟨g, s, ρ, w, er, h⟩ => ⟨g, s, ρ, w, er, aft_step RE.back w h fun d s1 x g1 H1 w1 e1 r1 h1 => ⟨g1, s1, ρ, w1, er.ext e1, aft_step RE.back w1 h1 fun e s2 y g2 H2 w2 e2 r2 h2 => by
    obtain ⟨b, hb, hm⟩ := cmpM_ne (bind_ne (aft_not_bad h2))
    rw [bind_ok hm] at h2
    refine C.on g2 s2 H2 x y d e _ b w2 ((r1 : View _ _ _ _ _ _).ext e2) r2 hb ⟨b, rfl, ?_⟩
    cases b with
    | false => rw [if_neg Bool.false_ne_true]; exact aft_ret w2 h2 (.bl _)
    | true =>
      rw [if_pos rfl]
      exact ⟨g2, s2, ρ, w2, (er.ext e1).ext e2, aft_step RE.back w2 h2 fun f s3 z g3 H3 w3 e3 r3 h3 => by
        obtain ⟨b', hb', hm'⟩ := cmpM_ne (bind_ne (aft_not_bad h3))
        have h3 : aft X.K X.mg (RE X.K X.mg) W g3 H3 σ Q ((cmpM k' e f >>= fun b => pure (.bl b)) s3) := h3
        rw [bind_ok hm'] at h3
        exact C'.on g3 s3 H3 y z e f Q b' w3 ((r2 : View _ _ _ _ _ _).ext e3) r3 hb' (aft_ret w3 h3 (.bl _))⟩⟩⟩
theorem dt_chain {op op' : CmpOp} {k k' : D → D → Sto → Option Bool} (C : CR X op k) (C' : CR X op' k') (ha : DV X W O a fa) (hb : DV X W O b fb) (hc : DV X W O c fc) (hm : lastMarks [op, op'] [b, c] = false := by with_unfolding_all rfl) :
    DT X W O (.Compare a [op, op'] [b, c] pos) (fun ρ => fa ρ >>= fun d => fb ρ >>= fun e => cmpM k d e >>= fun z => if z = true then fc ρ >>= fun f => cmpM k' e f else pure false) := by
  obtain ⟨r, C⟩ := C
  obtain ⟨r', C'⟩ := C'
  exact ptI (pt_chain C.op C'.op ha hb hc hm) fun σ H Q ⟨g, s, ρ, w, er, h⟩ => ⟨g, s, ρ, w, er, aft_step RT.back w h fun d s1 x g1 H1 w1 e1 r1 h1 => ⟨g1, s1, ρ, w1, er.ext e1, aft_step RT.back w1 h1 fun e s2 y g2 H2 w2 e2 r2 h2 => by
    obtain ⟨b, hb, hm⟩ := cmpM_ne (bind_ne (aft_not_bad h2))
    rw [bind_ok hm] at h2
    refine C.on g2 s2 H2 x y d e _ b w2 ((r1 : View _ _ _ _ _ _).ext e2) r2 hb ⟨b, rfl, ?_⟩
    cases b with
    | false => rw [if_neg Bool.false_ne_true]; exact ⟨false, rfl, aft_ret w2 h2 rfl⟩
    | true =>
      rw [if_pos rfl]
      exact ⟨g2, s2, ρ, w2, (er.ext e1).ext e2, aft_step RT.back w2 h2 fun f s3 z g3 H3 w3 e3 r3 h3 => by
        obtain ⟨b', hb', hm'⟩ := cmpM_ne (aft_not_bad h3)
        rw [hm'] at h3
        exact C'.on g3 s3 H3 y z e f _ b' w3 ((r2 : View _ _ _ _ _ _).ext e3) r3 hb' ⟨b', rfl, aft_ret w3 h3 rfl⟩⟩⟩⟩
/-! ### which comparisons -/
def intB (p : Int → Int → Bool) (d e : D) : Sto → Option Bool := fun _ => match d, e with
  | .int i, .int j => some (p i j)
  | _, _ => none
theorem cr_int {op : CmpOp} {p : Int → Int → Bool} (ho : OpR X (compareOp op) (rI0 fun i j => .bl (p i j))) : CR X op (intB p) := ⟨_, ho, fun g s H x y d e Q b w vx vy hk q => by
  cases d with
  | int i =>
    cases e with
    | int j =>
      have hk : some (p i j) = some b := hk
      injection hk with hk
      subst hk
      exact ⟨i, j, vx.sees.int, vy.sees.int, q⟩
    | _ => cases hk
  | _ => cases hk⟩
def ltB := intB fun i j => decide (i < j)
def leB := intB fun i j => decide (i ≤ j)
def gtB := intB fun i j => decide (j < i)
def geB := intB fun i j => decide (j ≤ i)
theorem c_lt : CR X .Lt ltB := cr_int op_lt
theorem c_le : CR X .LtE leB := cr_int op_le
theorem c_gt : CR X .Gt gtB := cr_int op_gt
theorem c_ge : CR X .GtE geB := cr_int op_ge
/-- is None, is not None -/
def isNB (nt : Bool) (d e : D) : Sto → Option Bool := fun _ => match e with
  | .non => some (match d with
    | .non => !nt
    | _ => nt)
  | _ => none
theorem view_non {K : PySem.W.Frag} {mg : Str → Option Value} {g : Gh} {H : Hp} {v : V} {d : D} (x : View K mg g H v d) : decide (v = .non) = (match d with | .non => true | _ => false) := by
  rcases x with x | ⟨a, ho, rfl, _, _, _, r⟩
  · cases x <;> first | rfl | simp
  · cases d <;> first | (cases ho <;> exact r.elim) | simp
theorem c_isN : CR X .Is (isNB false) := ⟨_, op_isN, fun g s H x y d e Q b w vx vy hk q => by
  cases e with
  | non =>
    refine ⟨vy.sees.non, ?_⟩
    rw [view_non vx]
    cases d <;> (cases hk; exact q)
  | _ => cases hk⟩
theorem c_isnotN : CR X .IsNot (isNB true) := ⟨_, op_notN, fun g s H x y d e Q b w vx vy hk q => by
  cases e with
  | non =>
    refine ⟨vy.sees.non, ?_⟩
    rw [view_non vx]
    cases d <;> (cases hk; exact q)
  | _ => cases hk⟩
theorem view_reads {pins : List (Addr × Obj)} {σ : L2.St} {H : Hp} {s : Shared} {g : Gh} {st : Sto} (I : Inv X pins σ H s) (w : World X.K X.mg g st H) (hs : ∃ o, X.K.lookup sysModules = some o ∧ o.cls ≠ .type "list") {d : D} {v : V} {u : Value} {p : PyData}
    (x : View X.K X.mg g H v d) (r : RelV v u) (h : py d = some p) : ∃ as, Reads s.heap u p as ∧ sysModules ∉ as := by
  rcases x with x | ⟨a, ho, rfl, hf, hi, k, rh⟩
  · exact rep_reads I w hs d v u p x r h
  · -- frozen for a while
    have w' := w.freeze k hf hi
    cases ho with
    | lst vs =>
      cases d with
      | lst ds => exact rep_reads I w' hs _ _ u p (.lst Gh.add_at (Reps.le (Gh.le_add hf) rh)) r h
      | _ => exact rh.elim
    | dK kvs =>
      cases d with
      | dct es => exact rep_reads I w' hs _ _ u p (.dct (.of Gh.add_at) rh.1 (Reps.le (Gh.le_add hf) rh.2)) r h
      | _ => exact rh.elim
    | ins A dx vfs =>
      cases d with
      | ins y fs => cases h
      | _ => exact rh.elim
    | tbl ps =>
      cases d with
      | tab P q => cases h
      | _ => exact rh.elim
    | _ => exact rh.elim
/-- what is asked of two values for == -/
def rEqX (X : Cx) (L : List Str) (nt : Bool) : R2 := fun x y H Q => ∃ g st d e b, World X.K X.mg g st H ∧ View X.K X.mg g H x d ∧ View X.K X.mg g H y e ∧ eqB L d e st = some b ∧ Q (.bl (if nt then !b else b)) H
theorem op_eqX {L : List Str} {nt : Bool} {op : CmpOp} (hop : (op = .Eq ∧ nt = false) ∨ (op = .NotEq ∧ nt = true)) (hs : ∃ o, X.K.lookup sysModules = some o ∧ o.cls ≠ .type "list") (hu : X.A.units + 64 < cLine) (hL : ∀ x ∈ L, ∀ A, X.mg x = some (.ref A) → NoEq X.K A) :
    OpR X (compareOp op) (rEqX X L nt) := by
  intro pins s σ H x y v u Q I rx ry h
  obtain ⟨g, st, d, e, b, w, hd, he, hb, q⟩ := h
  rcases eqB_cases hb with ⟨x', y', rfl, rfl, rfl⟩ | ⟨i, j, x', y', fs, gs, rfl, rfl, h1, h2, l1, l2, rfl⟩ | ⟨p, p', h1, h2, s1, s2, rfl⟩
  · have ex := hd.sees.str
    have ey := he.sees.str
    subst ex ey
    have dd : decide (V.str x' = V.str y') = decide (x' = y') := by
      by_cases z : x' = y'
      · subst z; simp
      · have : ¬ V.str x' = V.str y' := fun k => z (by injection k)
        simp [z]
    rcases hop with ⟨rfl, rfl⟩ | ⟨rfl, rfl⟩
    · exact op_eq pins s σ H _ _ v u Q I rx ry ⟨rfl, by rw [dd]; simpa using q⟩
    · exact op_ne pins s σ H _ _ v u Q I rx ry ⟨rfl, by rw [dd]; simpa using q⟩
  · have hd : Rep X.K X.mg g x (.obj i) := by
      rcases hd with hd | ⟨_, ho, _, _, _, _, r⟩
      · exact hd
      · cases ho <;> exact r.elim
    have he : Rep X.K X.mg g y (.obj j) := by
      rcases he with he | ⟨_, ho, _, _, _, _, r⟩
      · exact he
      · cases ho <;> exact r.elim
    cases hd with
    | @obj _ ai hi =>
      cases he with
      | @obj _ aj hj =>
        cases rx
        cases ry
        obtain ⟨_, ho1, k1, k2⟩ := w.at_ i ai _ hi h1
        obtain ⟨_, ho2, k3, k4⟩ := w.at_ j aj _ hj h2
        cases ho1 with
        | ins A dx vfs =>
          cases ho2 with
          | ins A2 dx2 vfs2 =>
            obtain ⟨_, M1, _⟩ := ins_get I.hok k1
            obtain ⟨_, M2, _⟩ := ins_get I.hok k3
            have N1 := (hL x' l1 A k2.1.mg).inst I.kIn M1.obj rfl
            have N2 := (hL y' l2 A2 k4.1.mg).inst I.kIn M2.obj rfl
            obtain ⟨hp, gg, dr, tk, os⟩ := s
            by_cases hij : i = j
            · subst hij
              have ea : ai = aj := by rw [hi] at hj; exact Option.some.inj hj
              subst ea
              rcases hop with ⟨rfl, rfl⟩ | ⟨rfl, rfl⟩
              · exact compareOp_eq_same F.cmp_object N1 (by omega) ⟨.bl true, H, I, rfl, by simpa using q⟩
              · exact compareOp_ne_same F.cmp_object N1 (by omega) ⟨.bl false, H, I, rfl, by simpa using q⟩
            · have ne : ai ≠ aj := fun z => hij (w.inj i j ai hi (z ▸ hj))
              have hb : (i == j) = false := beq_eq_false_iff_ne.mpr hij
              rcases hop with ⟨rfl, rfl⟩ | ⟨rfl, rfl⟩
              · exact compareOp_eq_other F.cmp_object F.cmp_object N1 N2 ne (by omega) ⟨.bl false, H, I, rfl, by simpa [hb] using q⟩
              · exact compareOp_ne_other F.cmp_object F.cmp_object N1 N2 ne (by omega) ⟨.bl true, H, I, rfl, by simpa [hb] using q⟩
          | _ => exact k4.elim
        | _ => exact k2.elim
  · obtain ⟨as, r1, _⟩ := view_reads I w hs hd rx h1
    obtain ⟨bs, r2, _⟩ := view_reads I w hs he ry h2
    rcases hop with ⟨rfl, rfl⟩ | ⟨rfl, rfl⟩
    · exact SeqAt.compareEq_shaped r1 r2 s1 s2 hu ⟨.bl _, H, I, rfl, by simpa using q⟩
    · exact SeqAt.compareNe_shaped r1 r2 s1 s2 hu ⟨.bl _, H, I, rfl, by simpa using q⟩
theorem c_eq {L : List Str} (hs : ∃ o, X.K.lookup sysModules = some o ∧ o.cls ≠ .type "list") (hu : X.A.units + 64 < cLine) (hL : ∀ x ∈ L, ∀ A, X.mg x = some (.ref A) → NoEq X.K A) : CR X .Eq (eqB L) :=
  ⟨_, op_eqX (.inl ⟨rfl, rfl⟩) hs hu hL, fun g s H x y d e Q b w vx vy hk q => ⟨g, s, d, e, b, w, vx, vy, hk, q⟩⟩
theorem c_ne {L : List Str} (hs : ∃ o, X.K.lookup sysModules = some o ∧ o.cls ≠ .type "list") (hu : X.A.units + 64 < cLine) (hL : ∀ x ∈ L, ∀ A, X.mg x = some (.ref A) → NoEq X.K A) : CR X .NotEq (neB L) :=
  ⟨_, op_eqX (.inr ⟨rfl, rfl⟩) hs hu hL, fun g s H x y d e Q b w vx vy hk q => by
    unfold neB at hk
    cases k : eqB L d e s with
    | none => rw [k] at hk; cases hk
    | some b' =>
      rw [k] at hk
      have hk : some (!b') = some b := hk
      injection hk with hk
      subst hk
      exact ⟨g, s, d, e, b', w, vx, vy, k, q⟩⟩

/-! ### repr -/
def reprOk (p : PyData) : Prop := p.showable = true ∧ p.depth ≤ 60 ∧ p.shown.length ≤ szMax
instance (p : PyData) : Decidable (reprOk p) := by unfold reprOk; infer_instance
def reprC (d : D) : M D := fun s => match py d with
  | some p => if reprOk p then .ok (.str p.shown) s else .bad
  | none => .bad
def reprK : List D → M D
  | [d] => reprC d
  | _ => bad
theorem call_repr_rep (hs : ∃ o, X.K.lookup sysModules = some o ∧ o.cls ≠ .type "list") (hg : X.A.guards = some []) (hu : X.A.units + 64 < cLine) :
    CallR X (.builtin "repr") (fun xs H Q => ∃ v g st d p, xs = [v] ∧ World X.K X.mg g st H ∧ Rep X.K X.mg g v d ∧ py d = some p ∧ reprOk p ∧ Q (.str p.shown) H) := by
  intro pins s σ H xs us Q I r h
  obtain ⟨v, g, st, d, p, rfl, w, hd, hp, ⟨k1, k2, k3⟩, q⟩ := h
  obtain ⟨u, rfl, r1⟩ := vals1 r
  obtain ⟨as, hr, hn⟩ := rep_reads I w hs d v u p hd r1 hp
  cases hr with
  | none => exact PySem.P.repr_of_none ⟨.str _, H, I.tok _, ⟨_, rfl⟩, q⟩
  | bool b => exact PySem.P.repr_of_bool ⟨.str _, H, I.tok _, ⟨_, rfl⟩, q⟩
  | int i t => exact PySem.P.repr_of_int (of_decide_eq_true k1) ⟨.str _, H, I.tok _, ⟨_, rfl⟩, q⟩
  | str x t => exact PySem.P.repr_of_str ⟨.str _, H, I.tok _, ⟨_, rfl⟩, q⟩ (by rw [szMax_eq] at k3; exact k3)
  | list h1 h2 h3 h4 => exact repr_of_reads' (.list h1 h2 h3 h4) k1 (fun _ => hn) hg (by omega) (fun _ _ e => e) (fun h' u' tk hk => ⟨.str _, H, I.kept hk, ⟨_, rfl⟩, q⟩) (by rw [szMax_eq] at k3; exact k3)
  | tuple h1 h2 h3 h4 => exact repr_of_reads' (.tuple h1 h2 h3 h4) k1 (fun _ => hn) hg (by omega) (fun _ _ e => e) (fun h' u' tk hk => ⟨.str _, H, I.kept hk, ⟨_, rfl⟩, q⟩) (by rw [szMax_eq] at k3; exact k3)
  | dict h1 h2 h3 h4 h5 => exact repr_of_reads' (.dict h1 h2 h3 h4 h5) k1 (fun _ => hn) hg (by omega) (fun _ _ e => e) (fun h' u' tk hk => ⟨.str _, H, I.kept hk, ⟨_, rfl⟩, q⟩) (by rw [szMax_eq] at k3; exact k3)
/-- a built-in whose arguments are known values -/
theorem de_callA {x : Str} {id : String} {r : List V → Hp → VK → Prop} {k : List D → M D} {p : Pos} (hc : CallR X (.builtin id) r)
    (hk : ∀ (g : Gh) (s : Sto) (H : Hp) (σ : L2.St) (vs : List V) (ds : List D) (Q : VK), World X.K X.mg g s H → Reps X.K X.mg g vs ds → aft X.K X.mg (RE X.K X.mg) W g H σ Q (k ds s) → r vs H Q)
    (hm : X.mg x = none) (ha : DA X W O (e :: es) fl) (hg : Gl X x := by rfl) (hv : bootBuiltins x = some (.builtin id) := by decide +kernel) (hn : x ≠ "__name__" := by decide) (hdb : (x == ("__debug__" : Str)) = false := by decide)
    (he : starEach (e :: es) X.env = (false, eval e X.env) :: starEach es X.env := by rfl) (hpl : (backTo pos (starEach es X.env)).any (·.1) = false := by rfl) :
    DE X W O (.Call (.Name x p) (e :: es) [] pos) (fun ρ => fl ρ >>= fun ds => k ds) :=
  peI (pe_callB hc hg hm hv ha hn hdb he hpl) fun σ H Q ⟨g, s, ρ, w, er, h⟩ => ⟨g, s, ρ, w, er, aft_step RE.back w h fun ds s1 vs g1 H1 w1 e1 r1 h1 => hk g1 s1 H1 σ vs ds Q w1 r1.1 h1⟩
theorem de_repr {p : Pos} (hs : ∃ o, X.K.lookup sysModules = some o ∧ o.cls ≠ .type "list") (hgd : X.A.guards = some []) (hu : X.A.units + 64 < cLine) (hm : X.mg "repr" = none) (ha : DA X W O (e :: es) fl) (hg : Gl X "repr" := by rfl)
    (he : starEach (e :: es) X.env = (false, eval e X.env) :: starEach es X.env := by rfl) (hpl : (backTo pos (starEach es X.env)).any (·.1) = false := by rfl) :
    DE X W O (.Call (.Name "repr" p) (e :: es) [] pos) (fun ρ => fl ρ >>= fun ds => reprK ds) :=
  de_callA (call_repr_rep hs hgd hu) (fun g s H σ vs ds Q w hv h => by
    cases hv with
    | nil => exact h.elim
    | cons r t =>
      cases t with
      | nil =>
        rename_i v d
        have h : aft X.K X.mg (RE X.K X.mg) W g H σ Q (reprC d s) := h
        unfold reprC at h
        split at h
        · rename_i p hp
          by_cases hk : reprOk p
          · rw [if_pos hk] at h
            exact ⟨_, g, s, d, p, rfl, w, r, hp, hk, aft_ret w h (.str _)⟩
          · rw [if_neg hk] at h; exact h.elim
        · exact h.elim
      | cons _ _ => exact h.elim) hm ha hg (by decide +kernel) (by decide) (by decide) he hpl
end
end DL

/-! # DL: tests -/
namespace DL
open PySem PySem.Spec PyProof.Rows L2
def truC : D → M Bool
  | .non => pure false
  | .bl b => pure b
  | .int i => pure (i != 0)
  | .lst ds => pure (!ds.isEmpty)
  | .tup ds => pure (!ds.isEmpty)
  | _ => bad
section
variable {X : Cx} {W : WX} {O : List Nat} {e a b c : Expr} {es : List Expr} {f fa fb fc : Env → M D} {ff fl : Env → M (List D)} {ft fu fv : Env → M Bool} {pos : Pos}
theorem Reps.isEmpty {K : PySem.W.Frag} {mg : Str → Option Value} {g : Gh} {vs : List V} {ds : List D} (r : Reps K mg g vs ds) : vs.isEmpty = ds.isEmpty := by
  cases r <;> rfl
/-- a value's truth (he: by fun _ => rfl: names, calls, subscripts, fields) -/
theorem dt_of (h : DV X W O e f) (he : ∀ whole, isTrue e X.env whole = (do let v ← whole; standAt e.pos; holding [v] (truthy v)) := by intro _; rfl) : DT X W O e (fun ρ => f ρ >>= fun d => con d >>= truC) :=
  ptI (pt_truth h he) fun σ H Q ⟨g, s, ρ, w, er, h⟩ => ⟨g, s, ρ, w, er, aft_step RT.back w h fun d s1 x g1 H1 w1 e1 r1 h1 => by
    obtain ⟨c, hc, sc⟩ := (r1 : View _ _ _ _ _ _).con w1 (bind_ne (aft_not_bad h1))
    rw [bind_ok hc] at h1
    cases c with
    | non => rw [sc.non]; exact ⟨false, rfl, aft_ret w1 h1 rfl⟩
    | bl b => rw [sc.bl]; exact ⟨b, rfl, aft_ret w1 h1 rfl⟩
    | int i => rw [sc.int]; exact ⟨_, rfl, aft_ret w1 h1 rfl⟩
    | lst ds =>
      obtain ⟨p, vs, rfl, hq, rs⟩ := sc.lst w1
      exact ⟨_, .inl ⟨vs, .of hq, rfl⟩, aft_ret w1 h1 (by rw [rs.isEmpty]; rfl)⟩
    | tup ds =>
      obtain ⟨p, vs, rfl, hq, rs⟩ := sc.tup w1
      exact ⟨_, .inr (.inl ⟨vs, hq, rfl⟩), aft_ret w1 h1 (by rw [rs.isEmpty]; rfl)⟩
    | _ => exact h1.elim⟩
theorem dt_not (h : DT X W O a ft) : DT X W O (.UnaryOp .Not a pos) (fun ρ => ft ρ >>= fun b => pure (!b)) :=
  ptI (pt_not h) fun σ H Q ⟨g, s, ρ, w, er, h⟩ => ⟨g, s, ρ, w, er, aft_step RT.back w h fun d s1 x g1 H1 w1 e1 r1 h1 => by
    have r1 : x = d := r1
    subst r1
    exact aft_ret w1 h1 rfl⟩
theorem dt_w (h : DW X W O e ft) : DT X W O e ft := h.pt
theorem dw_and1 (h : DT X W O a ft) : DW X W O (.BoolOp .And [a] pos) ft := pw_and1 h
theorem dw_or1 (h : DT X W O a ft) : DW X W O (.BoolOp .Or [a] pos) ft := pw_or1 h
theorem dw_and {rest : List Expr} (h : DT X W O a ft) (h2 : DW X W O (.BoolOp .And (b :: rest) pos) fu) : DW X W O (.BoolOp .And (a :: b :: rest) pos) (fun ρ => ft ρ >>= fun b => if b = true then fu ρ else pure false) :=
  pwI (pw_and h h2) fun σ H Q ⟨g, s, ρ, w, er, h⟩ => ⟨g, s, ρ, w, er, aft_step RT.back w h fun d s1 x g1 H1 w1 e1 r1 h1 => by
    have r1 : x = d := r1
    subst r1
    cases x with
    | true => rw [if_pos rfl]; exact ⟨g1, s1, ρ, w1, er.ext e1, h1⟩
    | false => rw [if_neg Bool.false_ne_true]; exact aft_ret w1 h1 rfl⟩
theorem dw_or {rest : List Expr} (h : DT X W O a ft) (h2 : DW X W O (.BoolOp .Or (b :: rest) pos) fu) : DW X W O (.BoolOp .Or (a :: b :: rest) pos) (fun ρ => ft ρ >>= fun b => if b = true then pure true else fu ρ) :=
  pwI (pw_or h h2) fun σ H Q ⟨g, s, ρ, w, er, h⟩ => ⟨g, s, ρ, w, er, aft_step RT.back w h fun d s1 x g1 H1 w1 e1 r1 h1 => by
    have r1 : x = d := r1
    subst r1
    cases x with
    | true => rw [if_pos rfl]; exact aft_ret w1 h1 rfl
    | false => rw [if_neg Bool.false_ne_true]; exact ⟨g1, s1, ρ, w1, er.ext e1, h1⟩⟩
/-- an expression chosen by a test -/
theorem de_if (hc : DT X W O c ft) (ha : DE X W O a fa) (hb : DE X W O b fb) : DE X W O (.IfExp c a b pos) (fun ρ => ft ρ >>= fun b => if b = true then fa ρ else fb ρ) :=
  peI (pe_ifExp hc ha hb) fun σ H Q ⟨g, s, ρ, w, er, h⟩ => ⟨g, s, ρ, w, er, aft_step RE.back w h fun d s1 x g1 H1 w1 e1 r1 h1 => by
    have r1 : x = d := r1
    subst r1
    cases x with
    | true => rw [if_pos rfl]; exact ⟨g1, s1, ρ, w1, er.ext e1, h1⟩
    | false => rw [if_neg Bool.false_ne_true]; exact ⟨g1, s1, ρ, w1, er.ext e1, h1⟩⟩
/-- and, or, not as values (of bools) -/
def asBl : D → M Bool
  | .bl b => pure b
  | _ => bad
theorem de_one {op} (h : DE X W O a fa) : DE X W O (.BoolOp op [a] pos) fa := pe_one h
theorem de_and {rest : List Expr} (ha : DE X W O a fa) (hb : DE X W O (.BoolOp .And (b :: rest) pos) fb) : DE X W O (.BoolOp .And (a :: b :: rest) pos) (fun ρ => fa ρ >>= fun d => asBl d >>= fun b => if b = true then fb ρ else pure (.bl false)) :=
  peI (pe_and ha hb) fun σ H Q ⟨g, s, ρ, w, er, h⟩ => ⟨g, s, ρ, w, er, aft_step RE.back w h fun d s1 x g1 H1 w1 e1 r1 h1 => by
    cases d with
    | bl b =>
      refine ⟨b, Sees.bl (K := X.K) (mg := X.mg) (g := g1) (H := H1) (.inl r1), ?_⟩
      cases b with
      | true => rw [if_pos rfl]; exact ⟨g1, s1, ρ, w1, er.ext e1, h1⟩
      | false => rw [if_neg Bool.false_ne_true]; exact aft_ret w1 h1 (.bl _)
    | _ => exact h1.elim⟩
theorem de_or {rest : List Expr} (ha : DE X W O a fa) (hb : DE X W O (.BoolOp .Or (b :: rest) pos) fb) : DE X W O (.BoolOp .Or (a :: b :: rest) pos) (fun ρ => fa ρ >>= fun d => asBl d >>= fun b => if b = true then pure (.bl true) else fb ρ) :=
  peI (pe_or ha hb) fun σ H Q ⟨g, s, ρ, w, er, h⟩ => ⟨g, s, ρ, w, er, aft_step RE.back w h fun d s1 x g1 H1 w1 e1 r1 h1 => by
    cases d with
    | bl b =>
      refine ⟨b, Sees.bl (K := X.K) (mg := X.mg) (g := g1) (H := H1) (.inl r1), ?_⟩
      cases b with
      | true => rw [if_pos rfl]; exact aft_ret w1 h1 (.bl _)
      | false => rw [if_neg Bool.false_ne_true]; exact ⟨g1, s1, ρ, w1, er.ext e1, h1⟩
    | _ => exact h1.elim⟩
theorem de_not (ha : DE X W O a fa) : DE X W O (.UnaryOp .Not a pos) (fun ρ => fa ρ >>= fun d => asBl d >>= fun b => pure (.bl (!b))) :=
  peI (pe_not ha) fun σ H Q ⟨g, s, ρ, w, er, h⟩ => ⟨g, s, ρ, w, er, aft_step RE.back w h fun d s1 x g1 H1 w1 e1 r1 h1 => by
    cases d with
    | bl b => exact ⟨b, Sees.bl (K := X.K) (mg := X.mg) (g := g1) (H := H1) (.inl r1), aft_ret w1 h1 (.bl _)⟩
    | _ => exact h1.elim⟩
/-- is True, is not True (of bools) -/
def isBB (nt : Bool) (d e : D) : Sto → Option Bool := fun _ => match d, e with
  | .bl a, .bl b => some (if nt then !decide (a = b) else decide (a = b))
  | _, _ => none
theorem c_isB : CR X .Is (isBB false) := ⟨_, op_isBl, fun g s H x y d e Q b w vx vy hk q => by
  cases d with
  | bl p =>
    cases e with
    | bl q' => cases hk; exact ⟨p, q', vx.sees.bl, vy.sees.bl, q⟩
    | _ => cases hk
  | _ => cases hk⟩
theorem c_isnotB : CR X .IsNot (isBB true) := ⟨_, op_notBl, fun g s H x y d e Q b w vx vy hk q => by
  cases d with
  | bl p =>
    cases e with
    | bl q' => cases hk; exact ⟨p, q', vx.sees.bl, vy.sees.bl, q⟩
    | _ => cases hk
  | _ => cases hk⟩
end
end DL

/-! # DL: statements -/
namespace DL
open PySem PySem.Spec PyProof.Rows L2
inductive SR where
  | nx (ρ : Env) (s : Sto)
  | rt (d : D) (s : Sto)
  | bk (ρ : Env) (s : Sto)
  | ct (ρ : Env) (s : Sto)
  | ex (x : Exn) (s : Sto)
  | bad
abbrev Sm := Env → Sto → SR
/-- what the frame owns is younger than its entry -/
def OwnNew (P : Hp) (O : List Nat) (ρ : Env) (σ : L2.St) : Prop := ∀ (i : Nat) (a : Addr), i ∈ O → Has ρ i → σ[i]? = some (some (.ref a)) → P a = none
def aftS (K : PySem.W.Frag) (mg : Str → Option Value) (W : WX) (Ob O' : List Nat) (g0 : Gh) (P : Hp) (D : Ends) : SR → Prop
  | .nx ρ s => ∀ σ g H, World K mg g s H → EnvRel K mg g O' ρ σ H → OwnNew P O' ρ σ → Ext g0 P g H → D.nx σ H
  | .rt d s => ∀ v g H, World K mg g s H → Ext g0 P g H → Rep K mg g v d → D.rt v H
  | .bk ρ s => ∀ σ g H, World K mg g s H → EnvRel K mg g Ob ρ σ H → OwnNew P Ob ρ σ → Ext g0 P g H → D.bk σ H
  | .ct ρ s => ∀ σ g H, World K mg g s H → EnvRel K mg g Ob ρ σ H → OwnNew P Ob ρ σ → Ext g0 P g H → D.ct σ H
  | .ex x s => ∀ cls dd σ g H, World K mg g s H → Ext g0 P g H → RepX K mg g H cls dd x → W cls dd σ H
  | .bad => False
/-- the reading of a statement that f mirrors; O, O': what is owned ahead and behind; Ob: where a loop is left or begun anew -/
def tS (K : PySem.W.Frag) (mg : Str → Option Value) (W : WX) (Ob O O' : List Nat) (f : Sm) : TS := fun D σ H =>
  ∃ g0 P g s ρ, World K mg g s H ∧ EnvRel K mg g O ρ σ H ∧ OwnNew P O ρ σ ∧ Ext g0 P g H ∧ aftS K mg W Ob O' g0 P D (f ρ s)
abbrev DS (X : Cx) (W : WX) (Ob O : List Nat) (st : Stmt) (f : Sm) (O' : List Nat) : Prop := PS X st (tS X.K X.mg W Ob O O' f)
abbrev DSs (X : Cx) (W : WX) (Ob O : List Nat) (sts : List Stmt) (f : Sm) (O' : List Nat) : Prop := PSs X sts (tS X.K X.mg W Ob O O' f)

section
variable {K : PySem.W.Frag} {mg : Str → Option Value} {g0 g g' : Gh} {s s' : Sto} {P H H' : Hp} {O : List Nat} {ρ : Env} {σ : L2.St} {i : Nat} {v : V} {d : D}
theorem getσ {σ : L2.St} {i j : Nat} {v : V} (h : i ≠ j) : (σ.set i (some v))[j]? = σ[j]? := List.getElem?_set_ne h
theorem getρ {ρ : Env} {i j : Nat} {d : Option D} (h : i ≠ j) : (ρ.set i d)[j]? = ρ[j]? := List.getElem?_set_ne h
theorem Has.of_set {j : Nat} {o : Option D} (h : Has (ρ.set i o) j) (hij : i ≠ j) : Has ρ j := by
  obtain ⟨e, h⟩ := h
  rw [getρ hij] at h
  exact ⟨e, h⟩
theorem set_at {α : Type} {l : List (Option α)} {i : Nat} {x y : α} (h : (l.set i (some x))[i]? = some (some y)) : y = x ∧ i < l.length := by
  by_cases hl : i < l.length
  · rw [List.getElem?_set_self hl] at h
    injection h with h; injection h with h
    exact ⟨h.symm, hl⟩
  · rw [List.getElem?_eq_none (by simpa using Nat.le_of_not_lt hl)] at h; cases h
/-- a known value is stored -/
theorem EnvRel.setF (r : EnvRel K mg g O ρ σ H) (hi : i ∉ O) (rv : Rep K mg g v d) : EnvRel K mg g O (ρ.set i (some d)) (σ.set i (some v)) H := by
  refine ⟨by simp [r.len], fun j e hj h => ?_, fun j e hj h => ?_, fun j k a hj hk h1 h2 e1 e2 => ?_⟩
  · by_cases q : i = j
    · subst q
      obtain ⟨rfl, hl⟩ := set_at h
      exact ⟨v, List.getElem?_set_self (by rw [← r.len]; exact hl), rv⟩
    · rw [getρ q] at h
      obtain ⟨w, k1, k2⟩ := r.fr j e hj h
      exact ⟨w, by rw [getσ q]; exact k1, k2⟩
  · have q : i ≠ j := fun z => hi (z ▸ hj)
    rw [getρ q] at h
    obtain ⟨w, k1, k2⟩ := r.ow j e hj h
    exact ⟨w, by rw [getσ q]; exact k1, k2⟩
  · have q : i ≠ j := fun z => hi (z ▸ hj)
    have q' : i ≠ k := fun z => hi (z ▸ hk)
    rw [getσ q] at e1
    rw [getσ q'] at e2
    exact r.sep j k a hj hk (h1.of_set q) (h2.of_set q') e1 e2
theorem OwnNew.setF (h : OwnNew P O ρ σ) (hi : i ∉ O) : OwnNew P O (ρ.set i (some d)) (σ.set i (some v)) := fun j a hj hh e => by
  have q : i ≠ j := fun z => hi (z ▸ hj)
  rw [getσ q] at e
  exact h j a hj (hh.of_set q) e
/-- a thing that is new at (g, H) is stored as the frame's own -/
theorem EnvRel.setO {O' : List Nat} {p : Addr} (r : EnvRel K mg g O ρ σ H) (e : Ext g H g' H') (hO : ∀ j, j ∈ O' ↔ j = i ∨ j ∈ O) (hn : H p = none) (o : Own K mg g' H' (.ref p) d) : EnvRel K mg g' O' (ρ.set i (some d)) (σ.set i (some (.ref p))) H' := by
  have r' := r.ext e
  have other : ∀ j a, j ∈ O → i ≠ j → Has (ρ.set i (some d)) j → (σ.set i (some (.ref p)))[j]? = some (some (.ref a)) → a ≠ p := fun j a hj q hh h z => by
    rw [getσ q] at h
    obtain ⟨d', hd⟩ := hh.of_set q
    obtain ⟨w, k1, a', ho, k2, _, _, k3, _⟩ := r.ow j d' hj hd
    rw [k1] at h
    injection h with h; injection h with h
    rw [h] at k2; injection k2 with k2
    rw [← k2, z, hn] at k3; cases k3
  refine ⟨by simp [r.len], fun j c hj h => ?_, fun j c hj h => ?_, fun j k a hj hk h1 h2 e1 e2 => ?_⟩
  · have q : i ≠ j := fun z => hj ((hO j).mpr (.inl z.symm))
    rw [getρ q] at h
    obtain ⟨w, k1, k2⟩ := r'.fr j c (fun z => hj ((hO j).mpr (.inr z))) h
    exact ⟨w, by rw [getσ q]; exact k1, k2⟩
  · by_cases q : i = j
    · subst q
      obtain ⟨rfl, hl⟩ := set_at h
      exact ⟨_, List.getElem?_set_self (by rw [← r.len]; exact hl), o⟩
    · rw [getρ q] at h
      have hj' : j ∈ O := ((hO j).mp hj).resolve_left fun z => q z.symm
      obtain ⟨w, k1, k2⟩ := r'.ow j c hj' h
      exact ⟨w, by rw [getσ q]; exact k1, k2⟩
  · by_cases q : i = j
    · by_cases q' : i = k
      · rw [← q, ← q']
      · have hk' : k ∈ O := ((hO k).mp hk).resolve_left fun z => q' z.symm
        subst q
        obtain ⟨_, hl⟩ := h1
        obtain ⟨_, hl⟩ := set_at hl
        rw [List.getElem?_set_self (by rw [← r.len]; exact hl)] at e1
        injection e1 with e1; injection e1 with e1; injection e1 with e1
        exact absurd e1.symm (other k a hk' q' h2 e2)
    · have hj' : j ∈ O := ((hO j).mp hj).resolve_left fun z => q z.symm
      by_cases q' : i = k
      · subst q'
        obtain ⟨_, hl⟩ := h2
        obtain ⟨_, hl⟩ := set_at hl
        rw [List.getElem?_set_self (by rw [← r.len]; exact hl)] at e2
        injection e2 with e2; injection e2 with e2; injection e2 with e2
        exact absurd e2.symm (other j a hj' q h1 e1)
      · have hk' : k ∈ O := ((hO k).mp hk).resolve_left fun z => q' z.symm
        rw [getσ q] at e1
        rw [getσ q'] at e2
        exact r.sep j k a hj' hk' (h1.of_set q) (h2.of_set q') e1 e2
theorem OwnNew.setO {O' : List Nat} {p : Addr} (h : OwnNew P O ρ σ) (hO : ∀ j, j ∈ O' ↔ j = i ∨ j ∈ O) (hp : P p = none) : OwnNew P O' (ρ.set i (some d)) (σ.set i (some (.ref p))) := fun j a hj hh e => by
  by_cases q : i = j
  · subst q
    obtain ⟨_, hl⟩ := hh
    by_cases hl2 : i < σ.length
    · rw [List.getElem?_set_self hl2] at e
      injection e with e; injection e with e; injection e with e
      rw [← e]; exact hp
    · rw [List.getElem?_eq_none (by simpa using Nat.le_of_not_lt hl2)] at e; cases e
  · rw [getσ q] at e
    exact h j a (((hO j).mp hj).resolve_left fun z => q z.symm) (hh.of_set q) e
/-- P has nothing where nothing stands -/
theorem Ext.pnone (w : World K mg g s H) (e : Ext g0 P g H) {p : Addr} (h : H p = none) : P p = none := by
  cases q : P p with
  | none => rfl
  | some o =>
    by_cases m : p ∈ g0.io
    · obtain ⟨_, ho, z⟩ := w.tracked (e.le.mem m)
      rw [h] at z; cases z
    · rw [e.keep p o q m] at h; cases h
/-- the frame's own thing in slot i is changed -/
theorem own_upd {a : Addr} {ho ho' : HO} {d' : D} (w : World K mg g s H) (r : EnvRel K mg g O ρ σ H) (n : OwnNew P O ρ σ) (e : Ext g0 P g H) (hi : i ∈ O) (hd : ρ[i]? = some (some d)) (hσ : σ[i]? = some (some (.ref a))) (hf : g.fz a = none) (hio : a ∉ g.io) (hH : H a = some ho) (rh : RepH K mg g ho' d') :
    World K mg g s (upd H a ho') ∧ EnvRel K mg g O (ρ.set i (some d')) σ (upd H a ho') ∧ OwnNew P O (ρ.set i (some d')) σ ∧ Ext g0 P g (upd H a ho') := by
  have hl : i < ρ.length := (List.getElem?_eq_some_iff.mp hd).1
  have nf : ∀ b o, g.fz b = some o → b ≠ a := fun b o k z => by rw [z, hf] at k; cases k
  have has : ∀ j, Has (ρ.set i (some d')) j → Has ρ j := fun j ⟨c, h⟩ => by
    by_cases q : i = j
    · subst q; exact ⟨d, hd⟩
    · rw [getρ q] at h; exact ⟨c, h⟩
  refine ⟨⟨fun b o k => by rw [upd_ne (nf b o k)]; exact w.sub b o k, w.len, w.inj, fun j b c h1 h2 => ?_, w.tabs⟩, ⟨by simp [r.len], fun j c hj h => ?_, fun j c hj h => ?_, fun j k b hj hk h1 h2 => r.sep j k b hj hk (has j h1) (has k h2)⟩, fun j b hj hh => n j b hj (has j hh), ⟨e.le, e.fz, e.io, fun b o k m => ?_⟩⟩
  · obtain ⟨k1, ho1, k2, k3⟩ := w.at_ j b c h1 h2
    have ne : b ≠ a := fun z => by
      subst z
      exact hio (List.mem_of_getElem? h1)
    exact ⟨k1, ho1, by rw [upd_ne ne]; exact k2, k3⟩
  · have q : i ≠ j := fun z => hj (z ▸ hi)
    rw [getρ q] at h
    exact r.fr j c hj h
  · by_cases q : i = j
    · subst q
      rw [List.getElem?_set_self hl] at h
      injection h with h; injection h with h
      subst h
      exact ⟨.ref a, hσ, a, ho', rfl, hf, hio, upd_same, rh⟩
    · rw [getρ q] at h
      obtain ⟨v, k1, b, hb, rfl, k2, k3, k4, k5⟩ := r.ow j c hj h
      have ne : b ≠ a := fun z => q (r.sep i j a hi hj ⟨d, hd⟩ ⟨c, h⟩ hσ (z ▸ k1))
      exact ⟨_, k1, b, hb, rfl, k2, k3, by rw [upd_ne ne]; exact k4, k5⟩
  · have ne : b ≠ a := fun z => by
      have := n i a hi ⟨d, hd⟩ hσ
      rw [z, this] at k; cases k
    rw [upd_ne ne]; exact e.keep b o k m
/-- a thing of the store is changed -/
theorem io_upd {a : Addr} {ho' : HO} {c' : D} (w : World K mg g s H) (e : Ext g0 P g H) (hi : g.io[i]? = some a) (rh : RepH K mg g ho' c') (nt : ∀ P q, c' ≠ .tab P q := by exact fun _ _ z => nomatch z) :
    World K mg g (s.set i c') (upd H a ho') ∧ Ext g0 P g (upd H a ho') ∧ (EnvRel K mg g O ρ σ H → EnvRel K mg g O ρ σ (upd H a ho')) := by
  have m : a ∈ g.io := List.mem_of_getElem? hi
  obtain ⟨hf, ho, hH⟩ := w.tracked m
  have hl : i < s.length := by rw [← w.len]; exact (List.getElem?_eq_some_iff.mp hi).1
  have nf : ∀ b o, g.fz b = some o → b ≠ a := fun b o k z => by rw [z, hf] at k; cases k
  refine ⟨⟨fun b o k => by rw [upd_ne (nf b o k)]; exact w.sub b o k, by rw [List.length_set]; exact w.len, w.inj, fun j b c h1 h2 => ?_, fun j P q z => ?_⟩, ⟨e.le, e.fz, e.io, fun b o k n => ?_⟩, fun r => ⟨r.len, r.fr, fun j c hj h => ?_, r.sep⟩⟩
  · by_cases q : i = j
    · subst q
      rw [List.getElem?_set_self hl] at h2
      injection h2 with h2
      subst h2
      have : b = a := by rw [hi] at h1; injection h1 with h1; exact h1.symm
      subst this
      exact ⟨hf, ho', upd_same, rh⟩
    · rw [List.getElem?_set_ne q] at h2
      obtain ⟨k1, ho1, k2, k3⟩ := w.at_ j b c h1 h2
      have ne : b ≠ a := fun z => q (w.inj i j a hi (z ▸ h1))
      exact ⟨k1, ho1, by rw [upd_ne ne]; exact k2, k3⟩
  · by_cases h : i = j
    · subst h
      rw [List.getElem?_set_self hl] at z
      exact absurd (Option.some.inj z) (nt _ _)
    · rw [List.getElem?_set_ne h] at z
      exact w.tabs _ _ _ z
  · have ne : b ≠ a := fun z => by
      subst z
      rcases e.io b m with q | q
      · exact n q
      · rw [q] at k; cases k
    rw [upd_ne ne]; exact e.keep b o k n
  · obtain ⟨v, k1, b, hb, rfl, k2, k3, k4, k5⟩ := r.ow j c hj h
    have ne : b ≠ a := fun z => k3 (z ▸ m)
    exact ⟨_, k1, b, hb, rfl, k2, k3, by rw [upd_ne ne]; exact k4, k5⟩
/-- the frame's own thing is known from now on -/
theorem EnvRel.freeze (w : World K mg g s H) (r : EnvRel K mg g O ρ σ H) (n : OwnNew P O ρ σ) (e : Ext g0 P g H) (i : Nat) : ∃ g', World K mg g' s H ∧ EnvRel K mg g' (O.filter fun j => j ≠ i) ρ σ H ∧ OwnNew P (O.filter fun j => j ≠ i) ρ σ ∧ Ext g0 P g' H := by
  have mem : ∀ j, j ∈ O.filter (fun j => j ≠ i) ↔ j ∈ O ∧ j ≠ i := fun j => by simp
  by_cases hi : i ∈ O
  · by_cases hh : Has ρ i
    · obtain ⟨d, hd⟩ := hh
      obtain ⟨v, k1, a, ho, rfl, k2, k3, k4, k5⟩ := r.ow i d hi hd
      have le := Gh.le_add (o := ho) k2
      have kn : Rep K mg (g.add a ho) (.ref a) d := by
        cases ho with
        | lst vs =>
          cases d with
          | lst ds => exact .lst Gh.add_at (Reps.le le k5)
          | _ => exact k5.elim
        | dK kvs =>
          cases d with
          | dct es => exact .dct (.of Gh.add_at) k5.1 (Reps.le le k5.2)
          | _ => exact k5.elim
        | ins A dx vfs =>
          cases d with
          | ins y fs => exact .ins Gh.add_at k5.1 k5.2.1 (Reps.le le k5.2.2)
          | _ => exact k5.elim
        | tbl ps =>
          cases d with
          | tab P q => exact .tab Gh.add_at k5.1 fun p cv e => let ⟨x, e1, e2⟩ := k5.2 p cv e; ⟨x, e1, le.fz _ _ e2⟩
          | _ => exact k5.elim
        | _ => exact k5.elim
      refine ⟨g.add a ho, w.freeze k4 k2 k3, ⟨r.len, fun j c hj h => ?_, fun j c hj h => ?_, fun j k b hj hk => r.sep j k b ((mem j).mp hj).1 ((mem k).mp hk).1⟩, fun j b hj => n j b ((mem j).mp hj).1, ⟨e.le.trans le, fun b o k => ?_, e.io, e.keep⟩⟩
      · by_cases q : i = j
        · subst q
          rw [hd] at h
          injection h with h; injection h with h
          subst h
          exact ⟨_, k1, kn⟩
        · obtain ⟨w', q1, q2⟩ := r.fr j c (fun z => hj ((mem j).mpr ⟨z, fun z => q z.symm⟩)) h
          exact ⟨w', q1, q2.le le⟩
      · obtain ⟨h1, h2⟩ := (mem j).mp hj
        obtain ⟨v, q1, b, hb, rfl, q2, q3, q4, q5⟩ := r.ow j c h1 h
        have ne : b ≠ a := fun z => h2 (r.sep j i a h1 hi ⟨c, h⟩ ⟨d, hd⟩ (z ▸ q1) k1)
        exact ⟨_, q1, b, hb, rfl, by show upd g.fz a ho b = none; rw [upd_ne ne]; exact q2, q3, q4, q5.le le⟩
      · have k : upd g.fz a ho b = some o := k
        by_cases hb : b = a
        · subst hb; exact .inr (n i b hi ⟨d, hd⟩ k1)
        · rw [upd_ne hb] at k; exact e.fz b o k
    · refine ⟨g, w, ⟨r.len, fun j c hj h => ?_, fun j c hj h => r.ow j c ((mem j).mp hj).1 h, fun j k b hj hk => r.sep j k b ((mem j).mp hj).1 ((mem k).mp hk).1⟩, fun j b hj => n j b ((mem j).mp hj).1, e⟩
      by_cases q : i = j
      · subst q; exact absurd ⟨c, h⟩ hh
      · exact r.fr j c (fun z => hj ((mem j).mpr ⟨z, fun z => q z.symm⟩)) h
  · have eO : O.filter (fun j => j ≠ i) = O := List.filter_eq_self.mpr fun j hj => by
      have q : j ≠ i := fun z => by
        subst z
        exact hi hj
      simpa using q
    rw [eO]
    exact ⟨g, w, r, n, e⟩
end
end DL

/-! # DL: rules for statements -/
namespace DL
open PySem PySem.Spec PyProof.Rows L2
/-- an expression, then a statement's rest -/
def thenS {α : Type} (m : M α) (k : α → Sto → SR) : Sto → SR := fun s => match m s with
  | .ok a s' => k a s'
  | .ex x s' => .ex x s'
  | .bad => .bad
def seqS (f h : Sm) : Sm := fun ρ s => match f ρ s with
  | .nx ρ' s' => h ρ' s'
  | r => r
def setS (i : Nat) (f : Env → M D) : Sm := fun ρ => thenS (f ρ) fun d s => .nx (ρ.set i (some d)) s
def dropS (f : Env → M D) : Sm := fun ρ => thenS (f ρ) fun _ s => .nx ρ s
def retS (f : Env → M D) : Sm := fun ρ => thenS (f ρ) fun d s => .rt d s
def ifS (f : Env → M Bool) (h k : Sm) : Sm := fun ρ => thenS (f ρ) fun b s => if b = true then h ρ s else k ρ s
section
variable {K : PySem.W.Frag} {mg : Str → Option Value} {W : WX} {Ob O O' : List Nat} {g0 g g' : Gh} {s s' : Sto} {P H H' : Hp} {ρ : Env} {σ : L2.St} {D : Ends}
/-- an expression within a statement -/
theorem aft_thenS {α β : Type} {R : RR β α} {Q : β → Hp → Prop} {m : M α} {k : α → Sto → SR} (w : World K mg g s H) (r : EnvRel K mg g O ρ σ H) (n : OwnNew P O ρ σ) (e : Ext g0 P g H) (h : aftS K mg W Ob O' g0 P D (thenS m k s))
    (hk : ∀ a s1 b g1 H1, World K mg g1 s1 H1 → Ext g H g1 H1 → EnvRel K mg g1 O ρ σ H1 → Ext g0 P g1 H1 → R H g1 H1 b a → aftS K mg W Ob O' g0 P D (k a s1) → Q b H1) : aft K mg R W g H σ Q (m s) := by
  unfold thenS at h
  cases q : m s with
  | ok a s1 => rw [q] at h; exact fun b g1 H1 w1 e1 r1 => hk a s1 b g1 H1 w1 e1 (r.ext e1) (e.trans w e1) r1 h
  | ex x s1 => rw [q] at h; exact fun cls dd g1 H1 w1 e1 rx => h cls dd σ g1 H1 w1 (e.trans w e1) rx
  | bad => rw [q] at h; exact h
end
section
variable {X : Cx} {W : WX} {Ob O O1 O' : List Nat} {st : Stmt} {sts a b : List Stmt} {e c : Expr} {es : List Expr} {f f2 : Sm} {fe fk : Env → M D} {fl ff : Env → M (List D)} {ft : Env → M Bool} {pos pos' : Pos}
theorem dss_nil : DSs X W Ob O [] (fun ρ s => .nx ρ s) O := pssI pss_nil fun D σ H ⟨g0, P, g, s, ρ, w, r, n, e, h⟩ => h σ g H w r n e
theorem dss_cons (h1 : DS X W Ob O st f O1) (h2 : DSs X W Ob O1 sts f2 O') : DSs X W Ob O (st :: sts) (seqS f f2) O' :=
  pssI (pss_cons h1 h2) fun D σ H ⟨g0, P, g, s, ρ, w, r, n, e, h⟩ => ⟨g0, P, g, s, ρ, w, r, n, e, by
    unfold seqS at h
    cases q : f ρ s with
    | nx ρ' s' =>
      rw [q] at h
      exact fun σ' g' H' w' r' n' e' => ⟨g0, P, g', s', ρ', w', r', n', e', h⟩
    | rt d s' => rw [q] at h; exact h
    | bk ρ' s' => rw [q] at h; exact h
    | ct ρ' s' => rw [q] at h; exact h
    | ex x s' => rw [q] at h; exact h
    | bad => rw [q] at h; exact h⟩
theorem dss_one (h1 : DS X W Ob O st f O') : DSs X W Ob O [st] f O' := pss_one h1
/-- what slot i owns is known from here on -/
theorem dss_frz (i : Nat) (h : DSs X W Ob (O.filter fun j => j ≠ i) sts f O') : DSs X W Ob O sts f O' :=
  pssI h fun D σ H ⟨g0, P, g, s, ρ, w, r, n, e, hh⟩ => by
    obtain ⟨g', w', r', n', e'⟩ := r.freeze w n e i
    exact ⟨g0, P, g', s, ρ, w', r', n', e', hh⟩
theorem ds_pass : DS X W Ob O (.Pass pos) (fun ρ s => .nx ρ s) O := psI ps_pass fun D σ H ⟨g0, P, g, s, ρ, w, r, n, e, h⟩ => h σ g H w r n e
theorem ds_brk : DS X W O O (.Break pos) (fun ρ s => .bk ρ s) O' := psI ps_break fun D σ H ⟨g0, P, g, s, ρ, w, r, n, e, h⟩ => h σ g H w r n e
theorem ds_cnt : DS X W O O (.Continue pos) (fun ρ s => .ct ρ s) O' := psI ps_continue fun D σ H ⟨g0, P, g, s, ρ, w, r, n, e, h⟩ => h σ g H w r n e
/-- name = a known value -/
theorem ds_set {x : Str} (i : Nat) (he : DE X W O e fe) (hO : i ∉ O := by decide) (hN : X.N.Nodup := by assumption) (hi : X.N[i]? = some x := by rfl) (hx : Loc X.env.scope x := by first | exact Or.inl rfl | exact Or.inr rfl) (hs : swapsWith e (some (.Name x pos')) pos.line X.env = pure false := by rfl)
    (hf : X.fn x = true ∨ X.env.scope.names.lookup x = some .local := by first | exact .inl rfl | exact .inr rfl) : DS X W Ob O (.Assign [.Name x pos'] e pos) (setS i fe) O :=
  psI (ps_set hN hi hx he hs hf) fun D σ H ⟨g0, P, g, s, ρ, w, r, n, e, h⟩ => ⟨g, s, ρ, w, r, aft_thenS w r n e h fun d s1 v g1 H1 w1 e1 r1 e1' rv h1 =>
    h1 _ g1 H1 w1 (r1.setF hO rv) (n.setF hO) e1'⟩
/-- name = a new list, the frame's own -/
theorem ds_own {x : Str} (i : Nat) (he : DF X W O e ff) {O2 : List Nat} (hO : O2 = i :: O.filter (fun j => j ≠ i) := by rfl) (hN : X.N.Nodup := by assumption) (hi : X.N[i]? = some x := by rfl) (hx : Loc X.env.scope x := by first | exact Or.inl rfl | exact Or.inr rfl)
    (hs : swapsWith e (some (.Name x pos')) pos.line X.env = pure false := by rfl)
    (hf : X.fn x = true ∨ X.env.scope.names.lookup x = some .local := by first | exact .inl rfl | exact .inr rfl) : DS X W Ob O (.Assign [.Name x pos'] e pos) (setS i fun ρ => ff ρ >>= fun ds => pure (.lst ds)) O2 :=
  psI (ps_set hN hi hx he hs hf) fun D σ H ⟨g0, P, g, s, ρ, w, r, n, e, h⟩ => ⟨g, s, ρ, w, r, by
    have hm : ∀ j, j ∈ O2 ↔ j = i ∨ j ∈ O := fun j => by
      subst hO
      simp only [List.mem_cons, List.mem_filter]
      by_cases q : j = i
      · simp [q]
      · simp [q]
    have h' : aftS X.K X.mg W Ob O2 g0 P D (thenS (ff ρ) (fun ds s' => .nx (ρ.set i (some (.lst ds))) s') s) := by
      have k : setS i (fun ρ => ff ρ >>= fun ds => pure (.lst ds)) ρ s = thenS (ff ρ) (fun ds s' => .nx (ρ.set i (some (.lst ds))) s') s := by
        unfold setS thenS
        dsimp only
        cases q : ff ρ s with
        | ok a s1 => rw [bind_ok q]; rfl
        | ex x s1 => rw [bind_ex q]
        | bad => rw [bind_bad q]
      rw [← k]; exact h
    exact aft_thenS w r n e h' fun ds s1 v g1 H1 w1 e1 r1 e1' ⟨p, vs, ev, hn, hf', hi', hp, rs⟩ h1 => by
      subst ev
      exact h1 _ g1 H1 w1 (r.setO e1 hm hn ⟨p, .lst vs, rfl, hf', hi', hp, rs⟩) (n.setO hm (e.pnone w hn)) e1'⟩
theorem ds_expr (he : DE X W O e fe) (hs : swapsWith e none pos.line X.env = pure false := by rfl) : DS X W Ob O (.Expr e pos) (dropS fe) O :=
  psI (ps_expr he hs) fun D σ H ⟨g0, P, g, s, ρ, w, r, n, e, h⟩ => ⟨g, s, ρ, w, r, aft_thenS w r n e h fun d s1 v g1 H1 w1 e1 r1 e1' rv h1 => h1 σ g1 H1 w1 r1 n e1'⟩
theorem ds_ret (he : DE X W O e fe) : DS X W Ob O (.Return (some e) pos) (retS fe) O' :=
  psI (ps_ret he) fun D σ H ⟨g0, P, g, s, ρ, w, r, n, e, h⟩ => ⟨g, s, ρ, w, r, aft_thenS w r n e h fun d s1 v g1 H1 w1 e1 r1 e1' rv h1 => h1 v g1 H1 w1 e1' rv⟩
theorem ds_retN : DS X W Ob O (.Return none pos) (fun _ s => .rt .non s) O' := psI ps_retN fun D σ H ⟨g0, P, g, s, ρ, w, r, n, e, h⟩ => h .non g H w e .non
theorem ds_if (hc : DT X W O c ft) (ha : DSs X W Ob O a f O') (hb : DSs X W Ob O b f2 O') : DS X W Ob O (.If c a b pos) (ifS ft f f2) O' :=
  psI (ps_if hc ha hb) fun D σ H ⟨g0, P, g, s, ρ, w, r, n, e, h⟩ => ⟨g, s, ρ, w, r, aft_thenS w r n e h fun d s1 v g1 H1 w1 e1 r1 e1' rv h1 => by
    have rv : v = d := rv
    subst rv
    cases v with
    | true => rw [if_pos rfl]; exact ⟨g0, P, g1, s1, ρ, w1, r1, n, e1', h1⟩
    | false => rw [if_neg Bool.false_ne_true]; exact ⟨g0, P, g1, s1, ρ, w1, r1, n, e1', h1⟩⟩
end
end DL

/-! # DL: what changes -/
namespace DL
open PySem PySem.Spec PyProof.Rows L2
section
variable {K : PySem.W.Frag} {mg : Str → Option Value} {g g' : Gh} {s s' : Sto} {H H' : Hp} {O : List Nat} {ρ : Env} {σ : L2.St}
theorem Own.lst {v : V} {ds : List D} (o : Own K mg g H v (.lst ds)) : ∃ a vs, v = .ref a ∧ g.fz a = none ∧ a ∉ g.io ∧ H a = some (.lst vs) ∧ Reps K mg g vs ds := by
  obtain ⟨a, ho, rfl, h1, h2, h3, h4⟩ := o
  cases ho with
  | lst vs => exact ⟨a, vs, rfl, h1, h2, h3, h4⟩
  | _ => exact h4.elim
theorem EnvRel.ownL {i : Nat} {ds : List D} (r : EnvRel K mg g O ρ σ H) (hi : i ∈ O) (h : ρ[i]? = some (some (.lst ds))) : ∃ a vs, σ[i]? = some (some (.ref a)) ∧ g.fz a = none ∧ a ∉ g.io ∧ H a = some (.lst vs) ∧ Reps K mg g vs ds := by
  obtain ⟨v, h1, h2⟩ := r.ow i _ hi h
  obtain ⟨a, vs, rfl, h3⟩ := h2.lst
  exact ⟨a, vs, h1, h3⟩
/-- a thing of the store -/
theorem World.obj {i : Nat} {a : Addr} {d : D} (w : World K mg g s H) (h : g.io[i]? = some a) (hs : s[i]? = some d) : ∃ ho, H a = some ho ∧ RepH K mg g ho d := (w.at_ i a d h hs).2
theorem World.objL {i : Nat} {a : Addr} {ds : List D} (w : World K mg g s H) (h : g.io[i]? = some a) (hs : s[i]? = some (.lst ds)) : ∃ vs, H a = some (.lst vs) ∧ Reps K mg g vs ds := by
  obtain ⟨ho, h1, h2⟩ := w.obj h hs
  cases ho with
  | lst vs => exact ⟨vs, h1, h2⟩
  | _ => exact h2.elim
theorem World.objD {i : Nat} {a : Addr} {es : List (Key × D)} (w : World K mg g s H) (h : g.io[i]? = some a) (hs : s[i]? = some (.dct es)) : ∃ kvs, H a = some (.dK kvs) ∧ kvs.map (·.1) = es.map (·.1) ∧ Reps K mg g (kvs.map (·.2)) (es.map (·.2)) := by
  obtain ⟨ho, h1, h2⟩ := w.obj h hs
  cases ho with
  | dK kvs => exact ⟨kvs, h1, h2⟩
  | _ => exact h2.elim
theorem World.objI {i : Nat} {a : Addr} {x : Str} {fs : List (Str × D)} (w : World K mg g s H) (h : g.io[i]? = some a) (hs : s[i]? = some (.ins x fs)) : ∃ A dx vfs, H a = some (.ins A dx vfs) ∧ InsF K mg x A (fs.map (·.1)) ∧ vfs.map (·.1) = fs.map (·.1) ∧ Reps K mg g (vfs.map (·.2)) (fs.map (·.2)) := by
  obtain ⟨ho, h1, h2⟩ := w.obj h hs
  cases ho with
  | ins A dx vfs => exact ⟨A, dx, vfs, h1, h2⟩
  | _ => exact h2.elim
theorem Reps.eraseIdx : ∀ {vs : List V} {ds : List D} (i : Nat), Reps K mg g vs ds → Reps K mg g (vs.eraseIdx i) (ds.eraseIdx i)
  | _, _, _, .nil => .nil
  | _, _, 0, .cons _ t => t
  | _, _, i + 1, .cons q t => .cons q (Reps.eraseIdx i t)
end
theorem szMaxE : szMax = sizeLine := by decide
/-- the own list in slot i -/
def withL (i : Nat) (ρ : Env) (k : List D → SR) : SR := match ρ[i]? with
  | some (some (.lst ds)) => k ds
  | _ => .bad
def withS (s : Sto) (i : Nat) (k : D → SR) : SR := match s[i]? with
  | some d => k d
  | none => .bad
def ofObj (d : D) (k : Nat → SR) : SR := match d with
  | .obj i => k i
  | _ => .bad
def ofLst (d : D) (k : List D → SR) : SR := match d with
  | .lst ds => k ds
  | _ => .bad
def ofDct (d : D) (k : List (Key × D) → SR) : SR := match d with
  | .dct ds => k ds
  | _ => .bad
def ofInt (d : D) (k : Int → SR) : SR := match d with
  | .int ds => k ds
  | _ => .bad
def ofKey (d : D) (k : Key → SR) : SR := match d with
  | .int i => k (.inl i)
  | .str x => k (.inr x)
  | _ => .bad
def ofOpt {α : Type} (d : Option α) (k : α → SR) : SR := match d with
  | some a => k a
  | none => .bad
section
variable {K : PySem.W.Frag} {mg : Str → Option Value} {W : WX} {Ob O' : List Nat} {g0 : Gh} {P : Hp} {D' : Ends}
theorem withL_of {i : Nat} {ρ : Env} {k : List D → SR} (h : aftS K mg W Ob O' g0 P D' (withL i ρ k)) : ∃ ds, ρ[i]? = some (some (.lst ds)) ∧ aftS K mg W Ob O' g0 P D' (k ds) := by
  unfold withL at h
  split at h
  · rename_i ds e; exact ⟨ds, e, h⟩
  · exact h.elim
theorem withS_of {i : Nat} {s : Sto} {k : D → SR} (h : aftS K mg W Ob O' g0 P D' (withS s i k)) : ∃ d, s[i]? = some d ∧ aftS K mg W Ob O' g0 P D' (k d) := by
  unfold withS at h
  split at h
  · rename_i ds e; exact ⟨ds, e, h⟩
  · exact h.elim
theorem ofObj_of {d : D} {k : Nat → SR} (h : aftS K mg W Ob O' g0 P D' (ofObj d k)) : ∃ i, d = .obj i ∧ aftS K mg W Ob O' g0 P D' (k i) := by
  cases d <;> first | exact h.elim | exact ⟨_, rfl, h⟩
theorem ofLst_of {d : D} {k : List D → SR} (h : aftS K mg W Ob O' g0 P D' (ofLst d k)) : ∃ i, d = .lst i ∧ aftS K mg W Ob O' g0 P D' (k i) := by
  cases d <;> first | exact h.elim | exact ⟨_, rfl, h⟩
theorem ofDct_of {d : D} {k : List (Key × D) → SR} (h : aftS K mg W Ob O' g0 P D' (ofDct d k)) : ∃ i, d = .dct i ∧ aftS K mg W Ob O' g0 P D' (k i) := by
  cases d <;> first | exact h.elim | exact ⟨_, rfl, h⟩
theorem ofInt_of {d : D} {k : Int → SR} (h : aftS K mg W Ob O' g0 P D' (ofInt d k)) : ∃ i, d = .int i ∧ aftS K mg W Ob O' g0 P D' (k i) := by
  cases d <;> first | exact h.elim | exact ⟨_, rfl, h⟩
theorem ofOpt_of {α : Type} {d : Option α} {k : α → SR} (h : aftS K mg W Ob O' g0 P D' (ofOpt d k)) : ∃ i, d = some i ∧ aftS K mg W Ob O' g0 P D' (k i) := by
  cases d <;> first | exact h.elim | exact ⟨_, rfl, h⟩
def keyD : Key → D
  | .inl i => .int i
  | .inr x => .str x
theorem ofKey_of {d : D} {k : Key → SR} (h : aftS K mg W Ob O' g0 P D' (ofKey d k)) : ∃ i, d = keyD i ∧ aftS K mg W Ob O' g0 P D' (k i) := by
  cases d <;> first | exact h.elim | exact ⟨.inl _, rfl, h⟩ | exact ⟨.inr _, rfl, h⟩
theorem ite_of {c : Prop} [Decidable c] {r : SR} (h : aftS K mg W Ob O' g0 P D' (if c then r else .bad)) : c ∧ aftS K mg W Ob O' g0 P D' r := by
  by_cases hc : c
  · rw [if_pos hc] at h; exact ⟨hc, h⟩
  · rw [if_neg hc] at h; exact h.elim
theorem rep_key {g : Gh} {k : Key} {v : V} (r : Rep K mg g v (keyD k)) : v = kV k := by
  cases k <;> cases r <;> rfl
end
/-- in its place, or at the end -/
def putD (es : List (Key × D)) (k : Key) (v : D) : List (Key × D) :=
  if (es.any fun kv => decide (kv.1 = k)) = true then es.map (fun kv => if kv.1 = k then (kv.1, v) else kv) else es ++ [(k, v)]
theorem any_keys {α β : Type} {xs : List (Key × α)} {ys : List (Key × β)} (h : xs.map (·.1) = ys.map (·.1)) (k : Key) : (xs.any fun kv => decide (kv.1 = k)) = ys.any fun kv => decide (kv.1 = k) := by
  induction xs generalizing ys with
  | nil => cases ys with
    | nil => rfl
    | cons _ _ => cases h
  | cons x xs ih => cases ys with
    | nil => cases h
    | cons y ys =>
      rw [List.map_cons, List.map_cons] at h
      injection h with h1 h2
      rw [List.any_cons, List.any_cons, ih h2, h1]
theorem put_rep {K : PySem.W.Frag} {mg : Str → Option Value} {g : Gh} {kvs : List (Key × V)} {es : List (Key × D)} {k : Key} {v : V} {d : D} (h : kvs.map (·.1) = es.map (·.1)) (r : Reps K mg g (kvs.map (·.2)) (es.map (·.2))) (rv : Rep K mg g v d) :
    (putK kvs k v).map (·.1) = (putD es k d).map (·.1) ∧ Reps K mg g ((putK kvs k v).map (·.2)) ((putD es k d).map (·.2)) := by
  unfold putK putD
  rw [any_keys h k]
  split
  · rename_i hk
    clear hk
    induction kvs generalizing es with
    | nil => cases es with
      | nil => exact ⟨rfl, .nil⟩
      | cons _ _ => cases h
    | cons x xs ih => cases es with
      | nil => cases h
      | cons y ys =>
        simp only [List.map_cons] at h r ⊢
        injection h with h1 h2
        cases r with
        | cons r1 r2 =>
          obtain ⟨i1, i2⟩ := ih h2 r2
          rw [h1]
          by_cases q : y.1 = k
          · simp only [if_pos q]
            exact ⟨by rw [i1], .cons rv i2⟩
          · simp only [if_neg q]
            exact ⟨by rw [h1, i1], .cons r1 i2⟩
  · rw [List.map_append, List.map_append, List.map_append, List.map_append, h]
    exact ⟨rfl, r.append (.one rv)⟩
/-- x.append(e), x the frame's own -/
def appS (i : Nat) (fe : Env → M D) : Sm := fun ρ s => withL i ρ fun ds => thenS (fe ρ) (fun d s => if ds.length < szMax then .nx (ρ.set i (some (.lst (ds ++ [d])))) s else .bad) s
/-- o.append(e), o a thing of the store -/
def appO (fo fe : Env → M D) : Sm := fun ρ => thenS (fo ρ) fun o s => ofObj o fun i => withS s i fun c => ofLst c fun _ => thenS (fe ρ) (fun d s => withS s i fun c => ofLst c fun ds => if ds.length < szMax then .nx ρ (s.set i (.lst (ds ++ [d]))) else .bad) s
/-- x[e] = v, x the frame's own -/
def setLS (i : Nat) (fk fv : Env → M D) : Sm := fun ρ => thenS (fv ρ) fun v s => withL i ρ fun ds => thenS (fk ρ) (fun k s => ofInt k fun j => ofOpt (ixN ds.length j) fun n => .nx (ρ.set i (some (.lst (ds.set n v)))) s) s
/-- o[e] = v, o a list of the store -/
def setLO (fo fk fv : Env → M D) : Sm := fun ρ => thenS (fv ρ) fun v => thenS (fo ρ) fun o => thenS (fk ρ) fun k s => ofObj o fun i => withS s i fun c => ofLst c fun ds => ofInt k fun j => ofOpt (ixN ds.length j) fun n => .nx ρ (s.set i (.lst (ds.set n v)))
/-- y = x.pop(e), x the frame's own -/
def popS (i y : Nat) (fk : Env → M D) : Sm := fun ρ s => withL i ρ fun ds => thenS (fk ρ) (fun k s => ofInt k fun j => if -(2 ^ 63) ≤ j ∧ j < 2 ^ 63 then ofOpt (seqIndex? j ds.length) fun n => ofOpt ds[n]? fun d => .nx ((ρ.set i (some (.lst (ds.eraseIdx n)))).set y (some d)) s else .bad) s
/-- o[k] = v, o a dict of the store -/
def putO (fo fk fv : Env → M D) : Sm := fun ρ => thenS (fv ρ) fun v => thenS (fo ρ) fun o => thenS (fk ρ) fun k s => ofObj o fun i => withS s i fun c => ofDct c fun es => ofKey k fun k => if es.length < szMax then .nx ρ (s.set i (.dct (putD es k v))) else .bad
section
variable {X : Cx} {W : WX} {Ob O O1 O' : List Nat} {st : Stmt} {sts a b : List Stmt} {o e c : Expr} {es : List Expr} {f f2 : Sm} {fo fe fk fv : Env → M D} {fl ff : Env → M (List D)} {ft : Env → M Bool} {pos pos' : Pos}
theorem ds_append {x : Str} {px pa : Pos} (i : Nat) (he : DE X W O e fe) (hO : i ∈ O := by decide) (hN : X.N[i]? = some x := by rfl) (hv : Vis X.env.scope x := by first | exact Or.inl rfl | exact Or.inr (Or.inl rfl) | exact Or.inr (Or.inr rfl)) (hd : (x == ("__debug__" : Str)) = false := by decide)
    (hcd : (x == ("__classdict__" : Str)) = false := by decide) (hs : swapsWith (.Call (.Attribute (.Name x px) "append" pa) [e] [] pos') none pos.line X.env = pure false := by rfl)
    (hbase : attributeBase (.Name x px) "append" X.env (eval (.Name x px) X.env) = eval (.Name x px) X.env := by rfl)
    (hfew : ((backTo pos' (starEach [e] X.env)).all (fun x => !x.1) && (backToKw pos' (keywordEach [] X.env)).all (fun x => x.1.isSome) && decide ([e].length + ([] : List Keyword).length + (if ([] : List Keyword).isEmpty then 0 else 1) < 30)) = true := by rfl)
    (hline : (pa.endLine == pos'.line) = true := by rfl) (hst : starEach [e] X.env = (false, eval e X.env) :: starEach [] X.env := by rfl) (hplain : (backTo pos' (starEach [] X.env)).any (·.1) = false := by rfl) :
    DS X W Ob O (.Expr (.Call (.Attribute (.Name x px) "append" pa) [e] [] pos') pos) (appS i fe) O :=
  psI (ps_expr (pe_bm (X := X) PySem.F.plainAttrs_list PySem.F.slot_list_append PySem.F.type_list_append mt_append (pe_var hN hv hd hcd) (pa_cons he pa_nil hst) hbase hfew hline hst hplain) hs) fun D' σ H ⟨g0, P, g, s, ρ, w, r, n, e, h⟩ => by
    obtain ⟨ds, hρ, h⟩ := withL_of h
    obtain ⟨a, vs, h1, h2, h3, h4, h5⟩ := r.ownL hO hρ
    refine ⟨.ref a, h1, .inl ⟨rfl, vs, .of h4⟩, g, s, ρ, w, r, aft_thenS w r n e h fun d s1 v g1 H1 w1 e1 r1 e1' rv h6 => ?_⟩
    obtain ⟨hl, h6⟩ := ite_of h6
    have k4 := e1.keep a _ h4 h3
    have k2 := e1.fzN h4 h2
    have k3 := e1.ioN h4 h3
    obtain ⟨w2, r2, n2, e2⟩ := own_upd (ho' := .lst (vs ++ [v])) (d' := .lst (ds ++ [d])) w1 r1 n e1' hO hρ h1 k2 k3 k4 (Reps.append (h5.le e1.le) (.one rv))
    exact ⟨a, vs, v, rfl, rfl, k4, by rw [h5.length, ← szMaxE]; exact hl, h6 σ g1 _ w2 r2 n2 e2⟩
theorem ds_appendO {pa : Pos} (ho : DE X W O o fo) (he : DE X W O e fe) (hs : swapsWith (.Call (.Attribute o "append" pa) [e] [] pos') none pos.line X.env = pure false := by rfl)
    (hbase : attributeBase o "append" X.env (eval o X.env) = eval o X.env := by rfl)
    (hfew : ((backTo pos' (starEach [e] X.env)).all (fun x => !x.1) && (backToKw pos' (keywordEach [] X.env)).all (fun x => x.1.isSome) && decide ([e].length + ([] : List Keyword).length + (if ([] : List Keyword).isEmpty then 0 else 1) < 30)) = true := by rfl)
    (hline : (pa.endLine == pos'.line) = true := by rfl) (hst : starEach [e] X.env = (false, eval e X.env) :: starEach [] X.env := by rfl) (hplain : (backTo pos' (starEach [] X.env)).any (·.1) = false := by rfl) :
    DS X W Ob O (.Expr (.Call (.Attribute o "append" pa) [e] [] pos') pos) (appO fo fe) O :=
  psI (ps_expr (pe_bm (X := X) PySem.F.plainAttrs_list PySem.F.slot_list_append PySem.F.type_list_append mt_append ho (pa_cons he pa_nil hst) hbase hfew hline hst hplain) hs) fun D' σ H ⟨g0, P, g, s, ρ, w, r, n, e, h⟩ =>
    ⟨g, s, ρ, w, r, aft_thenS w r n e h fun d s1 v g1 H1 w1 e1 r1 e1' rv h1 => by
      obtain ⟨i, rfl, h1⟩ := ofObj_of h1
      obtain ⟨c, hc, h1⟩ := withS_of h1
      obtain ⟨cs, rfl, h1⟩ := ofLst_of h1
      cases (show Rep X.K X.mg g1 v (.obj i) from rv) with
      | obj hi =>
        rename_i a
        obtain ⟨vs, hvs, _⟩ := w1.objL hi hc
        refine ⟨.inl ⟨rfl, vs, .of hvs⟩, g1, s1, ρ, w1, r1, aft_thenS w1 r1 n e1' h1 fun d s2 v2 g2 H2 w2 e2 r2 e2' rv2 h2 => ?_⟩
        obtain ⟨c, hc, h2⟩ := withS_of h2
        obtain ⟨ds, rfl, h2⟩ := ofLst_of h2
        obtain ⟨hl, h2⟩ := ite_of h2
        have hi2 := e2.le.io _ _ hi
        obtain ⟨vs, hvs, rvs⟩ := w2.objL hi2 hc
        obtain ⟨w3, e3, r3⟩ := io_upd (O := O) (ρ := ρ) (σ := σ) (ho' := .lst (vs ++ [v2])) (c' := .lst (ds ++ [d])) w2 e2' hi2 (Reps.append rvs (.one rv2))
        exact ⟨a, vs, v2, rfl, rfl, hvs, by rw [rvs.length, ← szMaxE]; exact hl, h2 σ g2 _ w3 (r3 r2) n e3⟩⟩
theorem ds_setL {x : Str} {px : Pos} {kp : Expr} (i : Nat) (hk : DE X W O kp fk) (hv : DE X W O e fv) (hO : i ∈ O := by decide) (hN : X.N[i]? = some x := by rfl) (hvi : Vis X.env.scope x := by first | exact Or.inl rfl | exact Or.inr (Or.inl rfl) | exact Or.inr (Or.inr rfl)) (hd : (x == ("__debug__" : Str)) = false := by decide)
    (hcd : (x == ("__classdict__" : Str)) = false := by decide)
    (ha : ∀ v, assign (.Subscript (.Name x px) kp pos') X.env v = (do
      let ov ← holding [v] (eval (.Name x px) X.env)
      let iv ← holding [v, ov] (eval kp X.env)
      standAt pos'
      holding [v, ov, iv] (setItem ov iv v)
      release [v, ov, iv] []) := by intro _; rfl) (hs : swapsWithSole [.Subscript (.Name x px) kp pos'] e pos.line X.env = pure false := by rfl) (hw : swappedStores [.Subscript (.Name x px) kp pos'] e X.env = pure none := by rfl)
    (h1 : (assignEach [.Subscript (.Name x px) kp pos'] X.env).map (·.2) = [assign (.Subscript (.Name x px) kp pos') X.env] := by rfl) : DS X W Ob O (.Assign [.Subscript (.Name x px) kp pos'] e pos) (setLS i fk fv) O :=
  psI (ps_asg hv (pg_sub (pe_var hN hvi hd hcd) hk set_list ha) hs hw h1) fun D' σ H ⟨g0, P, g, s, ρ, w, r, n, e, h⟩ =>
    ⟨g, s, ρ, w, r, aft_thenS w r n e h fun d s1 v g1 H1 w1 e1 r1 e1' rv h1 => by
      obtain ⟨ds, hρ, h1⟩ := withL_of h1
      obtain ⟨a, vs, k1, k2, k3, k4, k5⟩ := r1.ownL hO hρ
      refine ⟨.ref a, k1, g1, s1, ρ, w1, r1, aft_thenS w1 r1 n e1' h1 fun k s2 v2 g2 H2 w2 e2 r2 e2' rv2 h2 => ?_⟩
      obtain ⟨j, rfl, h2⟩ := ofInt_of h2
      obtain ⟨m, hm, h2⟩ := ofOpt_of h2
      have k4' := e2.keep a _ k4 k3
      have k2' := e2.fzN k4 k2
      have k3' := e2.ioN k4 k3
      obtain ⟨w3, r3, n3, e3⟩ := own_upd (ho' := .lst (vs.set m v)) (d' := .lst (ds.set m d)) w2 r2 n e2' hO hρ k1 k2' k3' k4' (Reps.set (rv.le e2.le) m (k5.le e2.le))
      cases (show Rep X.K X.mg g2 v2 (.int j) from rv2)
      exact ⟨a, vs, j, m, rfl, rfl, k4', by rw [k5.length]; exact hm, h2 σ g2 _ w3 r3 n3 e3⟩⟩
theorem ds_pop {x y : Str} {px pa py : Pos} {kp : Expr} (i j : Nat) (hk : DE X W O kp fk) (hO : i ∈ O := by decide) (hj : j ∉ O := by decide) (hNd : X.N.Nodup := by assumption) (hN : X.N[i]? = some x := by rfl) (hNy : X.N[j]? = some y := by rfl) (hvi : Vis X.env.scope x := by first | exact Or.inl rfl | exact Or.inr (Or.inl rfl) | exact Or.inr (Or.inr rfl)) (hd : (x == ("__debug__" : Str)) = false := by decide)
    (hcd : (x == ("__classdict__" : Str)) = false := by decide) (hx : Loc X.env.scope y := by first | exact Or.inl rfl | exact Or.inr rfl)
    (hf : X.fn y = true ∨ X.env.scope.names.lookup y = some .local := by first | exact .inl rfl | exact .inr rfl)
    (hs : swapsWith (.Call (.Attribute (.Name x px) "pop" pa) [kp] [] pos') (some (.Name y py)) pos.line X.env = pure false := by rfl)
    (hbase : attributeBase (.Name x px) "pop" X.env (eval (.Name x px) X.env) = eval (.Name x px) X.env := by rfl)
    (hfew : ((backTo pos' (starEach [kp] X.env)).all (fun x => !x.1) && (backToKw pos' (keywordEach [] X.env)).all (fun x => x.1.isSome) && decide ([kp].length + ([] : List Keyword).length + (if ([] : List Keyword).isEmpty then 0 else 1) < 30)) = true := by rfl)
    (hline : (pa.endLine == pos'.line) = true := by rfl) (hst : starEach [kp] X.env = (false, eval kp X.env) :: starEach [] X.env := by rfl) (hplain : (backTo pos' (starEach [] X.env)).any (·.1) = false := by rfl) :
    DS X W Ob O (.Assign [.Name y py] (.Call (.Attribute (.Name x px) "pop" pa) [kp] [] pos') pos) (popS i j fk) O :=
  psI (ps_set hNd hNy hx (pe_bm (X := X) PySem.F.plainAttrs_list PySem.F.slot_list_pop PySem.F.type_list_pop mt_popAt (pe_var hN hvi hd hcd) (pa_cons hk pa_nil hst) hbase hfew hline hst hplain) hs hf) fun D' σ H ⟨g0, P, g, s, ρ, w, r, n, e, h⟩ => by
    obtain ⟨ds, hρ, h⟩ := withL_of h
    obtain ⟨a, vs, h1, h2, h3, h4, h5⟩ := r.ownL hO hρ
    refine ⟨.ref a, h1, .inl ⟨rfl, vs, .of h4⟩, g, s, ρ, w, r, aft_thenS w r n e h fun d s1 v g1 H1 w1 e1 r1 e1' rv h6 => ?_⟩
    obtain ⟨l, rfl, h6⟩ := ofInt_of h6
    obtain ⟨hb, h6⟩ := ite_of h6
    obtain ⟨m, hm, h6⟩ := ofOpt_of h6
    obtain ⟨c, hc, h6⟩ := ofOpt_of h6
    have k4 := e1.keep a _ h4 h3
    have k2 := e1.fzN h4 h2
    have k3 := e1.ioN h4 h3
    have rvs := h5.le e1.le
    obtain ⟨u, hu, ru⟩ := rvs.get hc
    obtain ⟨w2, r2, n2, e2⟩ := own_upd (ho' := .lst (vs.eraseIdx m)) (d' := .lst (ds.eraseIdx m)) w1 r1 n e1' hO hρ h1 k2 k3 k4 (Reps.eraseIdx m rvs)
    cases (show Rep X.K X.mg g1 v (.int l) from rv)
    exact ⟨a, vs, l, m, u, rfl, rfl, k4, hb.1, hb.2, by rw [h5.length]; exact hm, hu, h6 _ g1 _ w2 (r2.setF hj ru) (n2.setF hj) e2⟩
theorem ds_putO {kp : Expr} {pk : Pos} (hu : X.A.units + 1 < cLine) (ho : DE X W O o fo) (hk : DE X W O kp fk) (hv : DE X W O e fv) (hs : swapsWith e (some (.Subscript o kp pk)) pos.line X.env = pure false := by rfl) :
    DS X W Ob O (.Assign [.Subscript o kp pk] e pos) (putO fo fk fv) O :=
  psI (ps_dput hu ho hk hv hs) fun D' σ H ⟨g0, P, g, s, ρ, w, r, n, e, h⟩ =>
    ⟨g, s, ρ, w, r, aft_thenS w r n e h fun d s1 v g1 H1 w1 e1 r1 e1' rv h1 => ⟨g1, s1, ρ, w1, r1, aft_thenS w1 r1 n e1' h1 fun oo s2 v2 g2 H2 w2 e2 r2 e2' rv2 h2 => ⟨g2, s2, ρ, w2, r2, aft_thenS w2 r2 n e2' h2 fun kk s3 v3 g3 H3 w3 e3 r3 e3' rv3 h3 => by
      obtain ⟨i, rfl, h3⟩ := ofObj_of h3
      obtain ⟨c, hc, h3⟩ := withS_of h3
      obtain ⟨es', rfl, h4⟩ := ofDct_of h3
      obtain ⟨k, rfl, h5⟩ := ofKey_of h4
      obtain ⟨hl, h6⟩ := ite_of h5
      cases (show Rep X.K X.mg g2 v2 (.obj i) from rv2) with
      | obj hi =>
        rename_i a
        have hi3 := e3.le.io _ _ hi
        obtain ⟨kvs, hk1, hk2, hk3⟩ := w3.objD hi3 hc
        have ek := rep_key (show Rep X.K X.mg g3 v3 (keyD k) from rv3)
        subst ek
        have lk : kvs.length = es'.length := by have := congrArg List.length hk2; simpa using this
        have rp := put_rep (k := k) hk2 hk3 ((rv : Rep _ _ _ _ _).le (e2.le.trans e3.le))
        obtain ⟨w4, e4, r4⟩ := io_upd (O := O) (ρ := ρ) (σ := σ) (ho' := .dK (putK kvs k v)) (c' := .dct (putD es' k d)) w3 e3' hi3 rp
        exact ⟨a, _, rfl, DPut.k hk1 (by rw [lk, ← szMaxE]; exact hl), h6 σ g3 _ w4 (r4 r3) n e4⟩⟩⟩⟩
end
end DL

/-! # DL: targets, sources, loops -/
namespace DL
open PySem PySem.Spec PyProof.Rows L2
/-! ### targets: names, tuples of names -/
abbrev Tgt := D → Env → Option Env
abbrev Tgts := List D → Env → Option Env
section
variable (K : PySem.W.Frag) (mg : Str → Option Value) (O : List Nat) (vs : List Nat)
def tEnd (g : Gh) (ρ ρ' : Env) (σ : L2.St) (H : Hp) (Q : L2.St → Hp → Prop) : Prop := ∀ σ', EnvRel K mg g O ρ' σ' H → wipe σ' vs = wipe σ vs → (∀ P, OwnNew P O ρ σ → OwnNew P O ρ' σ') → Q σ' H
def tGt (h : Tgt) : TG := fun v σ H Q => ∃ g s d ρ ρ', World K mg g s H ∧ EnvRel K mg g O ρ σ H ∧ Rep K mg g v d ∧ h d ρ = some ρ' ∧ tEnd K mg O vs g ρ ρ' σ H Q
def tGts (h : Tgts) : TGs := fun vv σ H Q => ∃ g s ds ρ ρ', World K mg g s H ∧ EnvRel K mg g O ρ σ H ∧ Reps K mg g vv ds ∧ h ds ρ = some ρ' ∧ tEnd K mg O vs g ρ ρ' σ H Q
end
abbrev DG (X : Cx) (O vs : List Nat) (tg : Expr) (h : Tgt) : Prop := PG X tg (tGt X.K X.mg O vs h)
abbrev DGs (X : Cx) (O vs : List Nat) (tg : List Expr) (h : Tgts) : Prop := PGs X tg (tGts X.K X.mg O vs h)
theorem pgI {X : Cx} {e : Expr} {t t' : TG} (h : PG X e t) (hi : ∀ v σ H Q, t' v σ H Q → t v σ H Q) : PG X e t' := ⟨fun pins s σ H v u Q I r hw => h.run pins s σ H v u Q I r (hi v σ H Q hw)⟩
theorem pgsI {X : Cx} {e : List Expr} {t t' : TGs} (h : PGs X e t) (hi : ∀ v σ H Q, t' v σ H Q → t v σ H Q) : PGs X e t' := ⟨fun pins s σ H v u Q I r hw => h.run pins s σ H v u Q I r (hi v σ H Q hw)⟩
theorem wipe_set {i : Nat} {x : Option V} : ∀ {vs : List Nat} {σ : L2.St}, i ∈ vs → wipe (σ.set i x) vs = wipe σ vs
  | [], _, h => by simp at h
  | v :: vs, σ, h => by
    show (wipe (σ.set i x) vs).set v none = (wipe σ vs).set v none
    by_cases q : i ∈ vs
    · rw [wipe_set q]
    · have e : i = v := (List.mem_cons.mp h).resolve_right q
      subst e
      clear h
      have comm : ∀ ws : List Nat, i ∉ ws → wipe (σ.set i x) ws = (wipe σ ws).set i x := fun ws => by
        induction ws with
        | nil => exact fun _ => rfl
        | cons w ws ih =>
          intro hw
          have h1 : i ≠ w := fun z => hw (z ▸ List.mem_cons_self)
          have h2 : i ∉ ws := fun z => hw (List.mem_cons_of_mem _ z)
          show (wipe (σ.set i x) ws).set w none = ((wipe σ ws).set w none).set i x
          rw [ih h2, List.set_comm _ _ h1]
      rw [comm vs q, List.set_set]
def tgV (i : Nat) : Tgt := fun d ρ => some (ρ.set i (some d))
def tgNil : Tgts := fun ds ρ => match ds with
  | [] => some ρ
  | _ => none
def tgCons (h : Tgt) (hs : Tgts) : Tgts := fun ds ρ => match ds with
  | d :: r => (h d ρ).bind (hs r)
  | [] => none
def tgT (n : Nat) (hs : Tgts) : Tgt := fun d ρ => match d with
  | .tup ds => if ds.length = n then hs ds ρ else none
  | _ => none
def tgL (n : Nat) (hs : Tgts) : Tgt := fun d ρ => match d with
  | .lst ds => if ds.length = n then hs ds ρ else none
  | .frl ds => if ds.length = n then hs ds ρ else none
  | _ => none
section
variable {X : Cx} {O vs : List Nat} {tg : Expr} {tgs : List Expr} {h : Tgt} {hs : Tgts} {pos : Pos}
theorem dg_name {x : Str} (i : Nat) (hv : i ∈ vs := by decide) (hO : i ∉ O := by decide) (hN : X.N.Nodup := by assumption) (hi : X.N[i]? = some x := by rfl) (hx : Loc X.env.scope x := by first | exact Or.inl rfl | exact Or.inr rfl)
    (hf : X.fn x = true ∨ X.env.scope.names.lookup x = some .local := by first | exact .inl rfl | exact .inr rfl) : DG X O vs (.Name x pos) (tgV i) :=
  pgI (pg_name hN hi hx hf) fun v σ H Q ⟨g, s, d, ρ, ρ', w, r, rv, e, q⟩ => by
    cases e
    exact q _ (r.setF hO rv) (wipe_set hv) fun P n => n.setF hO
theorem dgs_nil : DGs X O vs [] tgNil := pgsI pgs_nil fun v σ H Q ⟨g, s, ds, ρ, ρ', w, r, rv, e, q⟩ => by
  cases rv with
  | nil => cases e; exact ⟨rfl, q σ r rfl fun _ n => n⟩
  | cons _ _ => cases e
theorem dgs_cons (h1 : DG X O vs tg h) (h2 : DGs X O vs tgs hs) (ha : (assignEach (tg :: tgs) X.env).map (·.2) = assign tg X.env :: (assignEach tgs X.env).map (·.2) := by rfl) : DGs X O vs (tg :: tgs) (tgCons h hs) :=
  pgsI (pgs_cons h1 h2 ha) fun v σ H Q ⟨g, s, ds, ρ, ρ', w, r, rv, e, q⟩ => by
    cases rv with
    | nil => cases e
    | @cons v1 vr d1 dr r1 rr =>
      have e : (h d1 ρ).bind (hs dr) = some ρ' := e
      cases e1 : h d1 ρ with
      | none => rw [e1] at e; cases e
      | some ρ1 =>
        rw [e1] at e
        exact ⟨v1, vr, rfl, g, s, d1, ρ, ρ1, w, r, r1, e1, fun σ1 er1 hw1 hn1 => ⟨g, s, dr, ρ1, ρ', w, er1, rr, e, fun σ2 er2 hw2 hn2 => q σ2 er2 (hw2.trans hw1) fun P n => hn2 P (hn1 P n)⟩⟩
theorem dg_tup {k n : Nat} (hc : X.calm = true) (h : DGs X O vs tgs hs) (hn : (assignEach tgs X.env).length = n := by rfl) (hst : (assignEach tgs X.env).findIdx? (·.1) = none := by rfl) : DG X O vs (.Tuple tgs k pos) (tgT n hs) :=
  pgI (pg_tup hc h hn hst) fun v σ H Q ⟨g, s, d, ρ, ρ', w, r, rv, e, q⟩ => by
    cases d with
    | tup ds =>
      cases rv with
      | @tup a vs' _ sq rs =>
        have e : (if ds.length = n then hs ds ρ else none) = some ρ' := e
        by_cases hl : ds.length = n
        · rw [if_pos hl] at e
          exact ⟨a, vs', rfl, sqT_of w sq, rs.length.trans hl, g, s, ds, ρ, ρ', w, r, rs, e, q⟩
        · rw [if_neg hl] at e; cases e
    | _ => cases e
theorem dg_unl {k n : Nat} (hc : X.calm = true) (h : DGs X O vs tgs hs) (hn : (assignEach tgs X.env).length = n := by rfl) (hst : (assignEach tgs X.env).findIdx? (·.1) = none := by rfl) : DG X O vs (.Tuple tgs k pos) (tgL n hs) :=
  pgI (pg_unl hc h hn hst) fun v σ H Q ⟨g, s, d, ρ, ρ', w, r, rv, e, q⟩ => by
    cases d with
    | lst ds =>
      cases rv with
      | @lst a vs' _ sq rs =>
        have e : (if ds.length = n then hs ds ρ else none) = some ρ' := e
        by_cases hl : ds.length = n
        · rw [if_pos hl] at e
          exact ⟨a, vs', rfl, .of (w.sub _ _ sq), rs.length.trans hl, g, s, ds, ρ, ρ', w, r, rs, e, q⟩
        · rw [if_neg hl] at e; cases e
    | frl ds =>
      cases rv with
      | @frl a vs' _ sq rs =>
        have e : (if ds.length = n then hs ds ρ else none) = some ρ' := e
        by_cases hl : ds.length = n
        · rw [if_pos hl] at e
          exact ⟨a, vs', rfl, sqL_of w sq, rs.length.trans hl, g, s, ds, ρ, ρ', w, r, rs, e, q⟩
        · rw [if_neg hl] at e; cases e
    | _ => cases e
end

/-! ### sources -/
structure RIo (K : PySem.W.Frag) (mg : Str → Option Value) (Ok : Gh → Hp → Prop) (J : It) (ds : List D) : Prop where
  go : ∀ g s H i, Ok g H → World K mg g s H → i < ds.length → J.go i H
  stop : ∀ g s H, Ok g H → World K mg g s H → J.stop ds.length H
  yld : ∀ g s H i x H', Ok g H → World K mg g s H → i < ds.length → J.yld i H x H' → ∃ g' d, World K mg g' s H' ∧ Ext g H g' H' ∧ ds[i]? = some d ∧ Rep K mg g' x d
theorem RIo.mono {K : PySem.W.Frag} {mg : Str → Option Value} {Ok Ok' : Gh → Hp → Prop} {J : It} {ds : List D} (r : RIo K mg Ok J ds) (h : ∀ g H, Ok' g H → Ok g H) : RIo K mg Ok' J ds :=
  ⟨fun g s H i o => r.go g s H i (h g H o), fun g s H o => r.stop g s H (h g H o), fun g s H i x H' o => r.yld g s H i x H' (h g H o)⟩
/-- a source that stays whatever the loop does; a source that stays while nothing but expressions is met -/
def RI (K : PySem.W.Frag) (mg : Str → Option Value) : RR It (List D) := fun _ g' _ J ds => ds.length ≤ szMax ∧ RIo K mg (fun g _ => g'.Le g) J ds
def RIX (K : PySem.W.Frag) (mg : Str → Option Value) : RR It (List D) := fun _ g' H' J ds => ds.length ≤ szMax ∧ RIo K mg (fun g H => Ext g' H' g H) J ds
theorem RI.back {K : PySem.W.Frag} {mg : Str → Option Value} : (RI K mg).Back := fun _ _ _ _ _ _ _ h => h
theorem RIX.back {K : PySem.W.Frag} {mg : Str → Option Value} : (RIX K mg).Back := fun _ _ _ _ _ _ _ h => h
abbrev DI (X : Cx) (W : WX) (O : List Nat) (tg e : Expr) (f : Env → M (List D)) : Prop := PI X tg e (tG X.K X.mg (RI X.K X.mg) W O f)
abbrev DIX (X : Cx) (W : WX) (O : List Nat) (tg e : Expr) (f : Env → M (List D)) : Prop := PI X tg e (tG X.K X.mg (RIX X.K X.mg) W O f)
theorem piI {X : Cx} {tg e : Expr} {t t' : TI} (h : PI X tg e t) (hi : ∀ σ H R, t' σ H R → t σ H R) : PI X tg e t' := ⟨fun pins s σ H R I hw => h.run pins s σ H R I (hi σ H R hw)⟩
theorem dix_of {X : Cx} {W : WX} {O : List Nat} {tg e : Expr} {f : Env → M (List D)} (h : DI X W O tg e f) : DIX X W O tg e f := piI h fun σ H Q ⟨g, s, ρ, w, er, h⟩ => ⟨g, s, ρ, w, er, h.weak fun _ _ _ _ r => ⟨r.1, r.2.mono fun _ _ e => e.le⟩⟩
def iSeq (K : PySem.W.Frag) (tl : TE) : TI := fun σ H R => tl σ H fun x H1 => ∃ a, x = .ref a ∧ ((∃ xs, SqL K H1 a xs ∧ (xs.length ≤ sizeLine → R (Itl K a) H1)) ∨ (∃ xs, SqT K H1 a xs ∧ (xs.length ≤ sizeLine → R (Itt K a) H1)))
theorem pi_seq {X : Cx} {tg l : Expr} {tl : TE} (hl : PE X l tl) : PI X tg l (iSeq X.K tl) := by
  refine ⟨fun pins s σ H R I h => ?_⟩
  refine thn (hl.run pins s σ H _ I h) fun v s1 ⟨x, H1, I1, r1, q1⟩ => ?_
  obtain ⟨a, e, q⟩ := q1
  subst e
  cases r1
  rcases q with ⟨xs, hq, q⟩ | ⟨xs, hq, q⟩
  · obtain ⟨its, rv, p, hz⟩ := I1.list hq
    refine wpAny_pyIter_list p.isList ?_
    refine ⟨s1.heap.objs.size, [s1.heap.objs.size], _, _, H1, rfl, I1.kept (t' := s1.toks) fun b o e => Heap.get?_push_of_some _ e, turn_list a _, ⟨_, Heap.get?_push_size _ rfl, rfl, rfl⟩, fun b hb => ?_, q hz⟩
    have e : b = s1.heap.objs.size := by simpa using hb
    subst e
    exact I1.fpOk (Nat.le_refl _) (I1.hok.fresh (Nat.le_refl _))
  · obtain ⟨its, rv, p, hz⟩ := I1.tuple hq
    refine wpAny_pyIter_tuple (show s1.heap.IsTuple a its.toArray from p) ?_
    refine ⟨s1.heap.objs.size, [s1.heap.objs.size], _, _, H1, rfl, I1.kept (t' := s1.toks) fun b o e => Heap.get?_push_of_some _ e, turn_tuple a _, ⟨_, Heap.get?_push_size _ rfl, rfl, rfl⟩, fun b hb => ?_, q hz⟩
    have e : b = s1.heap.objs.size := by simpa using hb
    subst e
    exact I1.fpOk (Nat.le_refl _) (I1.hok.fresh (Nat.le_refl _))
def seqI : D → M (List D)
  | .lst ds => pure ds
  | .frl ds => pure ds
  | .tup ds => pure ds
  | _ => bad
section
variable {K : PySem.W.Frag} {mg : Str → Option Value} {g : Gh}
theorem rio_L {Ok : Gh → Hp → Prop} {a : Addr} {vs : List V} {ds : List D} {g0 : Gh} (h : ∀ g s H, Ok g H → World K mg g s H → SqL K H a vs ∧ g0.Le g) (r : Reps K mg g0 vs ds) : RIo K mg Ok (Itl K a) ds :=
  ⟨fun g s H i o w hi => walk_list.goes i H (by rw [r.length]; exact hi) (h g s H o w).1, fun g s H o w => by rw [← r.length]; exact walk_list.stops H (h g s H o w).1, fun g s H i x H' o w hi y => by
    obtain ⟨rfl, hx⟩ := (walk_list (xs := vs)).yields i H x H' (by rw [r.length]; exact hi) (h g s H o w).1 y
    obtain ⟨d, hd, rd⟩ := r.getV hx
    exact ⟨g, d, w, .refl g _, hd, rd.le (h g s _ o w).2⟩⟩
theorem rio_T {Ok : Gh → Hp → Prop} {a : Addr} {vs : List V} {ds : List D} {g0 : Gh} (h : ∀ g s H, Ok g H → World K mg g s H → SqT K H a vs ∧ g0.Le g) (r : Reps K mg g0 vs ds) : RIo K mg Ok (Itt K a) ds :=
  ⟨fun g s H i o w hi => walk_tup.goes i H (by rw [r.length]; exact hi) (h g s H o w).1, fun g s H o w => by rw [← r.length]; exact walk_tup.stops H (h g s H o w).1, fun g s H i x H' o w hi y => by
    obtain ⟨rfl, hx⟩ := (walk_tup (xs := vs)).yields i H x H' (by rw [r.length]; exact hi) (h g s H o w).1 y
    obtain ⟨d, hd, rd⟩ := r.getV hx
    exact ⟨g, d, w, .refl g _, hd, rd.le (h g s _ o w).2⟩⟩
end
def rngL (lo hi : Int) : M (List D) := if -(2 ^ 62) ≤ lo ∧ lo < 2 ^ 62 ∧ -(2 ^ 62) ≤ hi ∧ hi < 2 ^ 62 ∧ hi - lo ≤ szMax then pure ((List.range (hi - lo).toNat).map fun i => .int (lo + (i : Nat))) else bad
def rng1 : List D → M (List D)
  | [d] => asInt d >>= fun j => rngL 0 j
  | _ => bad
def rng2 : List D → M (List D)
  | [d, e] => asInt d >>= fun i => asInt e >>= fun j => rngL i j
  | _ => bad
theorem asInt_of {α : Type} {d : D} {k : Int → M α} {s : Sto} (h : (asInt d >>= k) s ≠ .bad) : ∃ i, d = .int i := by
  cases d <;> first | exact ⟨_, rfl⟩ | exact absurd rfl h
section
variable {X : Cx} {W : WX} {Ob O O1 O' vs : List Nat} {tg it e : Expr} {es : List Expr} {f : Env → M D} {fl fi : Env → M (List D)} {h : Tgt} {fb : Sm} {pos : Pos}
theorem di_seq (he : DE X W O e f) : DI X W O tg e (fun ρ => f ρ >>= seqI) :=
  piI (pi_seq he) fun σ H Q ⟨g, s, ρ, w, er, h⟩ => ⟨g, s, ρ, w, er, aft_step RI.back w h fun d s1 x g1 H1 w1 e1 r1 h1 => by
    cases d with
    | lst ds =>
      cases r1 with
      | @lst a vs _ sq rs => exact ⟨a, rfl, .inl ⟨vs, .of (w1.sub _ _ sq), fun hz => aft_ret w1 h1 ⟨by rw [← rs.length, szMaxE]; exact hz, rio_L (fun g s H o w => ⟨sqL_of w (.of (o.fz _ _ sq)), o⟩) rs⟩⟩⟩
    | frl ds =>
      cases r1 with
      | @frl a vs _ sq rs => exact ⟨a, rfl, .inl ⟨vs, sqL_of w1 sq, fun hz => aft_ret w1 h1 ⟨by rw [← rs.length, szMaxE]; exact hz, rio_L (fun g s H o w => ⟨sqL_of w (sqL_le o.fz sq), o⟩) rs⟩⟩⟩
    | tup ds =>
      cases r1 with
      | @tup a vs _ sq rs => exact ⟨a, rfl, .inr ⟨vs, sqT_of w1 sq, fun hz => aft_ret w1 h1 ⟨by rw [← rs.length, szMaxE]; exact hz, rio_T (fun g s H o w => ⟨sqT_of w (sqT_le o.fz sq), o⟩) rs⟩⟩⟩
    | _ => exact absurd rfl (aft_not_bad h1)⟩
/-- a list of the frame's own, within a comprehension -/
theorem dix_seq (he : DV X W O e f) : DIX X W O tg e (fun ρ => f ρ >>= seqI) :=
  piI (pi_seq he) fun σ H Q ⟨g, s, ρ, w, er, h⟩ => ⟨g, s, ρ, w, er, aft_step RIX.back w h fun d s1 x g1 H1 w1 e1 r1 h1 => by
    rcases (show View X.K X.mg g1 H1 x d from r1) with r1 | ⟨a, ho, rfl, k1, k2, k3, k4⟩
    · cases d with
      | lst ds =>
        cases r1 with
        | @lst a vs _ sq rs => exact ⟨a, rfl, .inl ⟨vs, .of (w1.sub _ _ sq), fun hz => aft_ret w1 h1 ⟨by rw [← rs.length, szMaxE]; exact hz, rio_L (fun g s H o w => ⟨sqL_of w (.of (o.le.fz _ _ sq)), o.le⟩) rs⟩⟩⟩
      | frl ds =>
        cases r1 with
        | @frl a vs _ sq rs => exact ⟨a, rfl, .inl ⟨vs, sqL_of w1 sq, fun hz => aft_ret w1 h1 ⟨by rw [← rs.length, szMaxE]; exact hz, rio_L (fun g s H o w => ⟨sqL_of w (sqL_le o.le.fz sq), o.le⟩) rs⟩⟩⟩
      | tup ds =>
        cases r1 with
        | @tup a vs _ sq rs => exact ⟨a, rfl, .inr ⟨vs, sqT_of w1 sq, fun hz => aft_ret w1 h1 ⟨by rw [← rs.length, szMaxE]; exact hz, rio_T (fun g s H o w => ⟨sqT_of w (sqT_le o.le.fz sq), o.le⟩) rs⟩⟩⟩
      | _ => exact absurd rfl (aft_not_bad h1)
    · cases d with
      | lst ds =>
        cases ho with
        | lst vs => exact ⟨a, rfl, .inl ⟨vs, .of k3, fun hz => aft_ret w1 h1 ⟨by rw [← Reps.length k4, szMaxE]; exact hz, rio_L (fun g s H o w => ⟨.of (o.keep _ _ k3 k2), o.le⟩) k4⟩⟩⟩
        | _ => exact k4.elim
      | _ => first | (cases ho <;> exact k4.elim) | exact absurd rfl (aft_not_bad h1)⟩
theorem rio_rng {K : PySem.W.Frag} {mg : Str → Option Value} {Ok : Gh → Hp → Prop} {lo : Int} {n : Nat} : RIo K mg Ok (Itr lo n) ((List.range n).map fun i => .int (lo + (i : Nat))) :=
  ⟨fun g s H i o w hi => (by simpa using hi : i < n), fun g s H o w => (by simp : n ≤ ((List.range n).map fun i => D.int (lo + (i : Nat))).length), fun g s H i x H' o w hi y => by
    obtain ⟨rfl, rfl⟩ := y
    have hi : i < n := by simpa using hi
    exact ⟨g, .int (lo + i), w, .refl g _, by simp [hi], .int _⟩⟩
theorem rngL_of {lo hi : Int} {s : Sto} (h : rngL lo hi s ≠ .bad) : (-(2 ^ 62) ≤ lo ∧ lo < 2 ^ 62 ∧ -(2 ^ 62) ≤ hi ∧ hi < 2 ^ 62 ∧ hi - lo ≤ szMax) ∧ rngL lo hi s = .ok ((List.range (hi - lo).toNat).map fun i => .int (lo + (i : Nat))) s := by
  obtain ⟨h1, h2⟩ := ite_ne_bad h
  exact ⟨h1, h2⟩
theorem di_range1 {a : Expr} {p : Pos} (hm : X.mg "range" = none) (ha : DA X W O [a] fl) (hg : Gl X "range" := by rfl) (hs : starEach [a] X.env = [(false, eval a X.env)] := by rfl) : DI X W O tg (.Call (.Name "range" p) [a] [] pos) (fun ρ => fl ρ >>= rng1) :=
  piI (pi_range1 hg hm ha hs) fun σ H Q ⟨g, s, ρ, w, er, h⟩ => ⟨g, s, ρ, w, er, aft_step RI.back w h fun ds s1 xs g1 H1 w1 e1 r1 h1 => by
    obtain ⟨r1, hl⟩ := r1
    match ds, r1, hl, h1 with
    | [d], .cons rd .nil, _, h1 =>
      obtain ⟨j, rfl⟩ := asInt_of (aft_not_bad h1)
      cases rd
      have h1 : aft X.K X.mg (RI X.K X.mg) W g1 H1 σ Q (rngL 0 j s1) := h1
      obtain ⟨hb, e⟩ := rngL_of (aft_not_bad h1)
      rw [e] at h1
      refine ⟨j, rfl, hb.2.2.1, hb.2.2.2.1, aft_ret w1 h1 ⟨?_, ?_⟩⟩
      · rw [List.length_map, List.length_range]; omega
      · rw [Int.sub_zero]; exact rio_rng
    | [], _, _, h1 => exact absurd rfl (aft_not_bad h1)
    | _ :: _ :: _, .cons _ (.cons _ _), hl, _ => exact absurd hl (by simp)⟩
theorem di_range2 {a b : Expr} {p : Pos} (hm : X.mg "range" = none) (ha : DA X W O [a, b] fl) (hg : Gl X "range" := by rfl) (hs : starEach [a, b] X.env = [(false, eval a X.env), (false, eval b X.env)] := by rfl) (hs2 : starEach [b] X.env = [(false, eval b X.env)] := by rfl) :
    DI X W O tg (.Call (.Name "range" p) [a, b] [] pos) (fun ρ => fl ρ >>= rng2) :=
  piI (pi_range2 hg hm ha hs hs2) fun σ H Q ⟨g, s, ρ, w, er, h⟩ => ⟨g, s, ρ, w, er, aft_step RI.back w h fun ds s1 xs g1 H1 w1 e1 r1 h1 => by
    obtain ⟨r1, hl⟩ := r1
    match ds, r1, hl, h1 with
    | [d, e], .cons rd (.cons re .nil), _, h1 =>
      obtain ⟨i, rfl⟩ := asInt_of (aft_not_bad h1)
      have h1 : aft X.K X.mg (RI X.K X.mg) W g1 H1 σ Q ((asInt e >>= fun j => rngL i j) s1) := h1
      obtain ⟨j, rfl⟩ := asInt_of (aft_not_bad h1)
      have h1 : aft X.K X.mg (RI X.K X.mg) W g1 H1 σ Q (rngL i j s1) := h1
      cases rd; cases re
      obtain ⟨hb, e⟩ := rngL_of (aft_not_bad h1)
      rw [e] at h1
      refine ⟨i, j, rfl, ⟨hb.1, hb.2.1, hb.2.2.1, hb.2.2.2.1⟩, aft_ret w1 h1 ⟨?_, rio_rng⟩⟩
      rw [List.length_map, List.length_range]; omega
    | [], _, _, h1 => exact absurd rfl (aft_not_bad h1)
    | [_], .cons _ .nil, hl, _ => exact absurd hl (by simp)
    | _ :: _ :: _ :: _, .cons _ (.cons _ (.cons _ _)), hl, _ => exact absurd hl (by simp)⟩
end
end DL

/-! # DL: for, while, comprehensions -/
namespace DL
open PySem PySem.Spec PyProof.Rows L2
def loopS (h : Tgt) (fb : Sm) : List D → Sm
  | [], ρ, s => .nx ρ s
  | d :: ds, ρ, s => match h d ρ with
    | none => .bad
    | some ρ1 => match fb ρ1 s with
      | .nx ρ2 s2 => loopS h fb ds ρ2 s2
      | .ct ρ2 s2 => loopS h fb ds ρ2 s2
      | .bk ρ2 s2 => .nx ρ2 s2
      | .rt d s2 => .rt d s2
      | .ex x s2 => .ex x s2
      | .bad => .bad
def forS (fi : Env → M (List D)) (h : Tgt) (fb : Sm) : Sm := fun ρ => thenS (fi ρ) fun ds s => loopS h fb ds ρ s
def whileS (n : Nat) (ft : Env → M Bool) (fb : Sm) : Sm := match n with
  | 0 => fun _ _ => .bad
  | n + 1 => fun ρ => thenS (ft ρ) fun b s => if b = true then (match fb ρ s with
      | .nx ρ2 s2 => whileS n ft fb ρ2 s2
      | .ct ρ2 s2 => whileS n ft fb ρ2 s2
      | .bk ρ2 s2 => .nx ρ2 s2
      | .rt d s2 => .rt d s2
      | .ex x s2 => .ex x s2
      | .bad => .bad) else .nx ρ s
section
variable {K : PySem.W.Frag} {mg : Str → Option Value} {W : WX} {Ob O O' : List Nat} {g0 g1 g' : Gh} {s s' : Sto} {P H H1 H' : Hp} {D' : Ends}
/-- an end, told from a later ghost -/
theorem Ext.mid (a : Ext g0 P g1 H1) (b : Ext g1 P g' H') : Ext g0 P g' H' :=
  ⟨a.le.trans b.le, fun c o h => (b.fz c o h).elim (a.fz c o) .inr, fun c h => (b.io c h).elim (a.io c) .inr, fun c o h hn => b.keep c o h fun m => by
    rcases a.io c m with q | q
    · exact hn q
    · rw [h] at q; cases q⟩
theorem Ext.up (a : Ext g0 P g' H') (l : g0.Le g1) (l' : g1.Le g') : Ext g1 P g' H' :=
  ⟨l', fun c o h => (a.fz c o h).imp (l.fz c o) id, fun c h => (a.io c h).imp (fun z => l.mem z) id, fun c o h hn => a.keep c o h fun m => hn (l.mem m)⟩
theorem aftS.up {r : SR} (e : Ext g0 P g1 H1) (h : aftS K mg W Ob O' g0 P D' r) : aftS K mg W Ob O' g1 P D' r := by
  cases r with
  | nx ρ s => exact fun σ g H w r n e' => h σ g H w r n (e.mid e')
  | rt d s => exact fun v g H w e' r => h v g H w (e.mid e') r
  | bk ρ s => exact fun σ g H w r n e' => h σ g H w r n (e.mid e')
  | ct ρ s => exact fun σ g H w r n e' => h σ g H w r n (e.mid e')
  | ex x s => exact fun cls dd σ g H w e' r => h cls dd σ g H w (e.mid e') r
  | bad => exact h
end
section
variable {X : Cx} {W : WX} {Ob O O1 O' vs : List Nat} {tg it e c : Expr} {es : List Expr} {body : List Stmt} {f fe : Env → M D} {fl fi : Env → M (List D)} {ft : Env → M Bool} {h : Tgt} {fb : Sm} {pos : Pos}
theorem ds_for (hp : PassesOwn (model X.prog X.w) X.A X.env X.xe) (hc : X.calm = true) (hi : DI X W O tg it fi) (hg : DG X O vs tg h) (hb : DSs X W O O body fb O) (hs : ∀ x, foldedSetIterable it X.env x = pure x := by intro _; rfl) :
    DS X W Ob O (.For tg it body [] pos) (forS fi h fb) O :=
  psI (ps_for hp hc hi hg hb hs) fun D' σ H ⟨g0, P, g, s, ρ, w, r, n, e, hh⟩ => ⟨g, s, ρ, w, r, aft_thenS w r n e hh fun ds s1 J g1 H1 w1 e1 r1 e1' ri h1 => by
    obtain ⟨hl, ri⟩ := ri
    let Pv : Nat → L2.St → Hp → Prop := fun i σ H => ∃ g s ρ, World X.K X.mg g s H ∧ EnvRel X.K X.mg g O ρ σ H ∧ OwnNew P O ρ σ ∧ Ext g1 P g H ∧ aftS X.K X.mg W Ob O g1 P D' (loopS h fb (ds.drop i) ρ s)
    refine ⟨fun i m σ H => m = ds.length - i ∧ i ≤ ds.length ∧ Pv i σ H, ⟨_, rfl, Nat.zero_le _, g1, s1, ρ, w1, r1, n, e1'.up e1'.le (.refl _), h1.up e1'⟩, ?_⟩
    rintro i m σ H ⟨rfl, hi, g2, s2, ρ2, w2, r2, n2, e2, q⟩
    by_cases hlt : i < ds.length
    · refine .inr ⟨ri.go g2 s2 H i e2.le w2 hlt, Pv (i + 1), fun σ' H' p' => ⟨ds.length - (i + 1), by omega, rfl, hlt, p'⟩, fun x H' y => ?_⟩
      obtain ⟨g3, d, w3, e3, hd, rd⟩ := ri.yld g2 s2 H i x H' e2.le w2 hlt y
      rw [List.drop_eq_getElem_cons hlt] at q
      have hd' : ds[i] = d := by rw [List.getElem?_eq_getElem hlt] at hd; exact Option.some.inj hd
      rw [hd'] at q
      unfold loopS at q
      cases hq : h d ρ2 with
      | none => rw [hq] at q; exact q.elim
      | some ρ3 =>
        rw [hq] at q
        refine ⟨g3, s2, d, ρ2, ρ3, w3, r2.ext e3, rd, hq, fun σ' er' _ hn => ⟨g1, P, g3, s2, ρ3, w3, er', hn P n2, e2.trans w2 e3, ?_⟩⟩
        cases hb' : fb ρ3 s2 with
        | nx ρ4 s4 =>
          simp only [hb'] at q
          exact fun σ4 g4 H4 w4 r4 n4 e4 => ⟨g4, s4, ρ4, w4, r4, n4, e4, q⟩
        | ct ρ4 s4 =>
          simp only [hb'] at q
          exact fun σ4 g4 H4 w4 r4 n4 e4 => ⟨g4, s4, ρ4, w4, r4, n4, e4, q⟩
        | bk ρ4 s4 => simp only [hb'] at q; exact q
        | rt d4 s4 => simp only [hb'] at q; exact q
        | ex x s4 => simp only [hb'] at q; exact q
        | bad => simp only [hb'] at q; exact q
    · have e' : i = ds.length := by omega
      subst e'
      rw [List.drop_length] at q
      exact .inl ⟨ri.stop g2 s2 H e2.le w2, q σ g2 H w2 r2 n2 e2⟩⟩
theorem ds_while (n : Nat) (hp : PassesOwn (model X.prog X.w) X.A X.env X.xe) (hc : DT X W O c ft) (hb : DSs X W O O body fb O) : DS X W Ob O (.While c body [] pos) (whileS n ft fb) O :=
  psI (ps_while hp hc hb) fun D' σ H ⟨g0, P, g, s, ρ, w, r, nn, e, hh⟩ => by
    refine ⟨fun m σ H => ∃ g s ρ, World X.K X.mg g s H ∧ EnvRel X.K X.mg g O ρ σ H ∧ OwnNew P O ρ σ ∧ Ext g0 P g H ∧ aftS X.K X.mg W Ob O g0 P D' (whileS m ft fb ρ s), ⟨n, g, s, ρ, w, r, nn, e, hh⟩, ?_⟩
    rintro m σ H ⟨g, s, ρ, w, r, nn, e, hh⟩
    cases m with
    | zero => exact hh.elim
    | succ m =>
      unfold whileS at hh
      refine ⟨g, s, ρ, w, r, aft_thenS w r nn e hh fun b s1 b' g1 H1 w1 e1 r1 e1' rb h1 => ?_⟩
      have rb : b' = b := rb
      subst rb
      cases b' with
      | false => simp only [Bool.false_eq_true, if_false] at h1 ⊢; exact h1 σ g1 H1 w1 r1 nn e1'
      | true =>
        simp only [if_true] at h1 ⊢
        refine ⟨fun σ H => ∃ g s ρ, World X.K X.mg g s H ∧ EnvRel X.K X.mg g O ρ σ H ∧ OwnNew P O ρ σ ∧ Ext g0 P g H ∧ aftS X.K X.mg W Ob O g0 P D' (whileS m ft fb ρ s), fun σ' H' q => ⟨m, Nat.lt_succ_self _, q⟩, g0, P, g1, s1, ρ, w1, r1, nn, e1', ?_⟩
        cases hb' : fb ρ s1 with
        | nx ρ4 s4 => simp only [hb'] at h1; exact fun σ4 g4 H4 w4 r4 n4 e4 => ⟨g4, s4, ρ4, w4, r4, n4, e4, h1⟩
        | ct ρ4 s4 => simp only [hb'] at h1; exact fun σ4 g4 H4 w4 r4 n4 e4 => ⟨g4, s4, ρ4, w4, r4, n4, e4, h1⟩
        | bk ρ4 s4 => simp only [hb'] at h1; exact h1
        | rt d4 s4 => simp only [hb'] at h1; exact h1
        | ex x s4 => simp only [hb'] at h1; exact h1
        | bad => simp only [hb'] at h1; exact h1
end

/-! ### comprehensions -/
def wipeE (ρ : Env) : List Nat → Env
  | [] => ρ
  | v :: vs => (wipeE ρ vs).set v none
def noX {α : Type} (m : M α) : M α := fun s => match m s with
  | .ok a s' => .ok a s'
  | _ => .bad
def compL (h : Tgt) (ft : Env → M Bool) (fe : Env → M D) (ρ : Env) : List D → M (List D)
  | [] => pure []
  | d :: ds => match h d ρ with
    | none => bad
    | some ρ1 => noX (ft ρ1) >>= fun b => if b = true then noX (fe ρ1) >>= fun y => compL h ft fe ρ ds >>= fun ys => pure (y :: ys) else compL h ft fe ρ ds
def compF (vs : List Nat) (fi : Env → M (List D)) (h : Tgt) (ft : Env → M Bool) (fe : Env → M D) : Env → M (List D) := fun ρ => fi ρ >>= fun ds => compL h ft fe (wipeE ρ vs) ds
abbrev W0 : WX := fun _ _ _ _ => False
theorem wipeE_some {ρ : Env} {i : Nat} {d : D} : ∀ {vs : List Nat}, (wipeE ρ vs)[i]? = some (some d) → ρ[i]? = some (some d) ∧ i ∉ vs
  | [], h => ⟨h, by simp⟩
  | v :: vs, h => by
    unfold wipeE at h
    by_cases q : v = i
    · subst q
      rw [List.getElem?_set] at h
      split at h
      · split at h <;> cases h
      · rename_i z; exact absurd rfl z
    · rw [List.getElem?_set_ne q] at h
      obtain ⟨h1, h2⟩ := wipeE_some h
      exact ⟨h1, fun m => (List.mem_cons.mp m).elim (fun z => q z.symm) h2⟩
theorem wipe_keep {σ : L2.St} {i : Nat} {x : Option V} : ∀ {vs : List Nat}, i ∉ vs → σ[i]? = some x → (wipe σ vs)[i]? = some x
  | [], _, h => h
  | v :: vs, hn, h => by
    unfold wipe
    have ne : v ≠ i := fun z => by subst z; exact hn List.mem_cons_self
    rw [List.getElem?_set_ne ne]
    exact wipe_keep (fun m => hn (List.mem_cons_of_mem _ m)) h
theorem wipeE_length (ρ : Env) : ∀ vs : List Nat, (wipeE ρ vs).length = ρ.length
  | [] => rfl
  | v :: vs => by unfold wipeE; rw [List.length_set, wipeE_length ρ vs]
section
variable {K : PySem.W.Frag} {mg : Str → Option Value} {W : WX} {O : List Nat} {g0 g g1 g' : Gh} {s s' : Sto} {P H H1 H' : Hp} {ρ : Env} {σ : L2.St} {p : Addr} {o : HO}
theorem EnvRel.wiped (r : EnvRel K mg g O ρ σ H) (vs : List Nat) : EnvRel K mg g O (wipeE ρ vs) (wipe σ vs) H := by
  refine ⟨by rw [wipeE_length, wipe_length]; exact r.len, fun i d hi h => ?_, fun i d hi h => ?_, fun i j a hi hj h1 h2 e1 e2 => ?_⟩
  · obtain ⟨h1, h2⟩ := wipeE_some h
    obtain ⟨v, k1, k2⟩ := r.fr i d hi h1
    exact ⟨v, wipe_keep h2 k1, k2⟩
  · obtain ⟨h1, h2⟩ := wipeE_some h
    obtain ⟨v, k1, k2⟩ := r.ow i d hi h1
    exact ⟨v, wipe_keep h2 k1, k2⟩
  · obtain ⟨d1, h1⟩ := h1
    obtain ⟨d2, h2⟩ := h2
    exact r.sep i j a hi hj ⟨d1, (wipeE_some h1).1⟩ ⟨d2, (wipeE_some h2).1⟩ (wipe_some e1).1 (wipe_some e2).1
theorem World.updOwn (w : World K mg g s H) (hf : g.fz p = none) (hi : p ∉ g.io) : World K mg g s (upd H p o) :=
  ⟨fun a o' h => by rw [upd_ne (fun z => by rw [z, hf] at h; cases h)]; exact w.sub a o' h, w.len, w.inj, fun i a d h1 h2 => by
    obtain ⟨k, ho, e, r⟩ := w.at_ i a d h1 h2
    have ne : a ≠ p := fun z => by subst z; exact hi (List.mem_of_getElem? h1)
    exact ⟨k, ho, by rw [upd_ne ne]; exact e, r⟩, w.tabs⟩
theorem Ext.updOwn (e : Ext g0 P g H) (hp : P p = none) : Ext g0 P g (upd H p o) :=
  ⟨e.le, e.fz, e.io, fun a o' h hn => by rw [upd_ne (ne_of_none h hp)]; exact e.keep a o' h hn⟩
theorem noX_ok {α : Type} {m : M α} {s s' : Sto} {a : α} (h : noX m s = .ok a s') : m s = .ok a s' := by
  unfold noX at h
  split at h
  · rename_i e; rw [e]; exact h
  · cases h
theorem noX_not {α : Type} {m : M α} {s : Sto} (h : ∀ a s', m s ≠ .ok a s') : noX m s = .bad := by
  unfold noX
  split
  · rename_i a s' e; exact absurd e (h a s')
  · rfl
end
section
variable {X : Cx} {W : WX} {Ob O O1 O' vs : List Nat} {tg it elt c : Expr} {ifs : List Expr} {es : List Expr} {body : List Stmt} {f fe : Env → M D} {fl fi : Env → M (List D)} {ft : Env → M Bool} {h : Tgt} {fb : Sm} {pos : Pos}
/-- no exception leaves a comprehension -/
theorem compL_noex {ρ : Env} {x : Exn} {s' : Sto} (ds : List D) : ∀ s, compL h ft fe ρ ds s ≠ .ex x s' := by
  induction ds with
  | nil => intro s q; cases q
  | cons d ds ih =>
    intro s q
    unfold compL at q
    cases hq : h d ρ with
    | none => rw [hq] at q; cases q
    | some ρ1 =>
      rw [hq] at q
      dsimp only at q
      cases q1 : noX (ft ρ1) s with
      | ok b s2 =>
        rw [bind_ok q1] at q
        cases b with
        | true =>
          rw [if_pos rfl] at q
          cases q2 : noX (fe ρ1) s2 with
          | ok y s3 =>
            rw [bind_ok q2] at q
            cases q3 : compL h ft fe ρ ds s3 with
            | ok ys s4 => rw [bind_ok q3] at q; cases q
            | ex x' s4 => rw [bind_ex q3] at q; cases q; exact ih s3 q3
            | bad => rw [bind_bad q3] at q; cases q
          | ex _ _ => unfold noX at q2; split at q2 <;> cases q2
          | bad => rw [bind_bad q2] at q; cases q
        | false => rw [if_neg Bool.false_ne_true] at q; exact ih s2 q
      | ex _ _ => unfold noX at q1; split at q1 <;> cases q1
      | bad => rw [bind_bad q1] at q; cases q
/-- the reading of a comprehension -/
theorem comp_tG {K : PySem.W.Frag} {mg : Str → Option Value} {σ : L2.St} {H : Hp} {Q : VK} (hh : tG K mg (RF K mg) W O (compF vs fi h ft fe) σ H Q) :
    tLc (tG K mg (RIX K mg) W O fi) (tGt K mg O vs h) (tG K mg RT W0 O ft) (tG K mg (RE K mg) W0 O fe) vs σ H Q := by
  obtain ⟨g, s, ρ, w, r, hh⟩ := hh
  refine ⟨g, s, ρ, w, r, aft_step RF.back w hh fun ds s1 J g1 H1 w1 e1 ri h1 => ?_⟩
  obtain ⟨hl, ri⟩ := ri
  intro L hL
  have rw1 := (r.ext e1).wiped vs
  -- the whole's wish, from what is gathered
  let Wh : List D → Res (List D) → Prop := fun acc res => match res with
    | .ok ys s' => ∀ b g' H', World K mg g' s' H' → Ext g1 H1 g' H' → RF K mg H1 g' H' b (acc ++ ys) → Q b H'
    | _ => False
  have start : Wh [] (compL h ft fe (wipeE ρ vs) ds s1) := by
    cases q : compL h ft fe (wipeE ρ vs) ds s1 with
    | ok ys s' => rw [q] at h1; exact fun b g' H' w' e' r' => h1 b g' H' w' e' r'
    | ex x s' =>
      exact absurd q (compL_noex ds s1)
    | bad => rw [q] at h1; exact h1
  let Pv : Nat → Hp → Prop := fun i H => ∃ g s acc accD, World K mg g s H ∧ Ext g1 H1 g H ∧ g.fz L = none ∧ L ∉ g.io ∧ H L = some (.lst acc) ∧ Reps K mg g acc accD ∧ acc.length ≤ i ∧ Wh accD (compL h ft fe (wipeE ρ vs) (ds.drop i) s)
  refine ⟨fun i m H => m = ds.length - i ∧ i ≤ ds.length ∧ Pv i H, ⟨_, rfl, Nat.zero_le _, g1, s1, [], [], w1.new hL, Ext.new w1 hL, w1.fz_none hL, w1.io_none hL, upd_same, .nil, Nat.le_refl _, start⟩, ?_⟩
  rintro i m H ⟨rfl, hi, g2, s2, acc, accD, w2, e2, f2, i2, a2, ra, la, q⟩
  by_cases hlt : i < ds.length
  · refine .inr ⟨ri.go g2 s2 H i e2 w2 hlt, Pv (i + 1), fun H' p' => ⟨ds.length - (i + 1), by omega, rfl, hlt, p'⟩, fun x H' y => ?_⟩
    obtain ⟨g3, d, w3, e3, hd, rd⟩ := ri.yld g2 s2 H i x H' e2 w2 hlt y
    rw [List.drop_eq_getElem_cons hlt] at q
    have hd' : ds[i] = d := by rw [List.getElem?_eq_getElem hlt] at hd; exact Option.some.inj hd
    rw [hd'] at q
    unfold compL at q
    cases hq : h d (wipeE ρ vs) with
    | none => rw [hq] at q; exact q.elim
    | some ρ3 =>
      rw [hq] at q
      have e23 := e2.trans w2 e3
      refine ⟨g3, s2, d, wipeE ρ vs, ρ3, w3, rw1.ext e23, rd, hq, fun σ' er' hw _ => ⟨?_, g3, s2, ρ3, w3, er', ?_⟩⟩
      · have ww : ∀ (ws : List Nat) (τ : L2.St), (∀ v ∈ ws, v ∈ vs) → wipe (wipe τ vs) ws = wipe τ vs := by
          intro ws
          induction ws with
          | nil => intro τ _; rfl
          | cons u ws ih =>
            intro τ hm
            show (wipe (wipe τ vs) ws).set u none = _
            rw [ih τ fun v hv => hm v (List.mem_cons_of_mem _ hv)]
            have hu := hm u List.mem_cons_self
            apply List.ext_getElem?
            intro k
            rw [List.getElem?_set]
            split
            · rename_i e; subst e
              split
              · rename_i hlen
                cases z : (wipe τ vs)[u]? with
                | none => rw [List.getElem?_eq_none_iff] at z; omega
                | some o =>
                  cases o with
                  | none => rfl
                  | some xx => exact absurd hu (wipe_some z).2
              · rename_i hlen
                exact (List.getElem?_eq_none (by omega)).symm
            · rfl
        rw [hw, ww vs σ fun _ h => h]
      have own3 : g3.fz L = none ∧ L ∉ g3.io ∧ H' L = some (.lst acc) := ⟨e3.fzN a2 f2, e3.ioN a2 i2, e3.keep _ _ a2 i2⟩
      have ra3 := ra.le e3.le
      cases q1 : ft ρ3 s2 with
      | bad =>
        have z : noX (ft ρ3) s2 = .bad := by unfold noX; rw [q1]
        dsimp only at q
        rw [bind_bad z] at q; exact q.elim
      | ex xx s' =>
        have z : noX (ft ρ3) s2 = .bad := by unfold noX; rw [q1]
        dsimp only at q
        rw [bind_bad z] at q; exact q.elim
      | ok b s4 =>
        have z : noX (ft ρ3) s2 = .ok b s4 := by unfold noX; rw [q1]
        dsimp only at q
        rw [bind_ok z] at q
        intro b' g4 H4 w4 e4 rb
        have rb : b' = b := rb
        subst rb
        have e24 := e23.trans w3 e4
        have own4 : g4.fz L = none ∧ L ∉ g4.io ∧ H4 L = some (.lst acc) := ⟨e4.fzN own3.2.2 own3.1, e4.ioN own3.2.2 own3.2.1, e4.keep _ _ own3.2.2 own3.2.1⟩
        have ra4 := ra3.le e4.le
        cases b' with
        | false =>
          simp only [Bool.false_eq_true, if_false] at q ⊢
          exact ⟨g4, s4, acc, accD, w4, e24, own4.1, own4.2.1, own4.2.2, ra4, Nat.le_succ_of_le la, q⟩
        | true =>
          simp only [if_true] at q ⊢
          refine ⟨g4, s4, ρ3, w4, er'.ext e4, ?_⟩
          cases q2 : fe ρ3 s4 with
          | bad =>
            have z : noX (fe ρ3) s4 = .bad := by unfold noX; rw [q2]
            rw [bind_bad z] at q; exact q.elim
          | ex xx s' =>
            have z : noX (fe ρ3) s4 = .bad := by unfold noX; rw [q2]
            rw [bind_bad z] at q; exact q.elim
          | ok yd s5 =>
            have z : noX (fe ρ3) s4 = .ok yd s5 := by unfold noX; rw [q2]
            rw [bind_ok z] at q
            intro yv g5 H5 w5 e5 ry
            have e25 := e24.trans w4 e5
            have own5 : g5.fz L = none ∧ L ∉ g5.io ∧ H5 L = some (.lst acc) := ⟨e5.fzN own4.2.2 own4.1, e5.ioN own4.2.2 own4.2.1, e5.keep _ _ own4.2.2 own4.2.1⟩
            have ra5 := ra4.le e5.le
            refine ⟨acc, own5.2.2, by rw [← szMaxE]; omega, g5, s5, acc ++ [yv], accD ++ [yd], w5.updOwn own5.1 own5.2.1, e25.updOwn hL, own5.1, own5.2.1, upd_same, ra5.append (.one ry), by rw [List.length_append, List.length_singleton]; omega, ?_⟩
            cases q3 : compL h ft fe (wipeE ρ vs) (ds.drop (i + 1)) s5 with
            | ok ys s6 =>
              rw [bind_ok q3] at q
              have q : ∀ b g' H', World K mg g' s6 H' → Ext g1 H1 g' H' → RF K mg H1 g' H' b (accD ++ (yd :: ys)) → Q b H' := q
              intro b g' H' w' e' r'
              exact q b g' H' w' e' (by rw [List.append_assoc] at r'; exact r')
            | ex _ _ => rw [bind_ex q3] at q; exact q.elim
            | bad => rw [bind_bad q3] at q; exact q.elim
  · have e' : i = ds.length := by omega
    subst e'
    rw [List.drop_length] at q
    refine .inl ⟨ri.stop g2 s2 H e2 w2, ?_⟩
    have q : ∀ b g' H', World K mg g' s2 H' → Ext g1 H1 g' H' → RF K mg H1 g' H' b (accD ++ []) → Q b H' := q
    exact q _ g2 H w2 e2 ⟨L, acc, rfl, hL, f2, i2, a2, by rw [List.append_nil]; exact ra⟩
end
end DL

/-! # DL: comprehensions, assignments to targets -/
namespace DL
open PySem PySem.Spec PyProof.Rows L2
theorem takesB {X : Cx} : Takes X W0 := fun _ _ ⟨_, _, _, _, _, _, _, _, _, _, _, _, _, _, _, _, w⟩ => w.elim
section
variable {X : Cx} {W : WX} {Ob O O1 O' vs : List Nat} {tg it elt c e : Expr} {ifs : List Expr} {es : List Expr} {body : List Stmt} {f fe : Env → M D} {fl fi ff : Env → M (List D)} {ft : Env → M Bool} {h : Tgt} {fb : Sm} {pos spos : Pos}
theorem dts_nil : PTs X [] (tG X.K X.mg RT W O (fun _ => pure true)) := ⟨fun pins s σ H Q I ⟨g, s', ρ, w, er, h⟩ => pts_nil.run pins s σ H Q I (show Q true H from aft_ret w h rfl)⟩
theorem dts_one (hc : DT X W O c ft) : PTs X [c] (tG X.K X.mg RT W O ft) := pts_one hc
theorem df_comp (own : List (Str × Nat)) {scope : Scope} (hc : X.calm = true) (hN : X.N.Nodup) (hi : DIX X W O tg it fi)
    (hg : ∀ (s : Shared) (H : Hp) (C : Addr) (cl : List (Str × Addr)) (fp : List Addr), DG (X.blk s H scope (compEnvC scope cl C X.env) fp) O (own.map (·.2)) tg h)
    (ht : ∀ (s : Shared) (H : Hp) (C : Addr) (cl : List (Str × Addr)) (fp : List Addr), PTs (X.blk s H scope (compEnvC scope cl C X.env) fp) ifs (tG X.K X.mg RT W0 O ft))
    (he : ∀ (s : Shared) (H : Hp) (C : Addr) (cl : List (Str × Addr)) (fp : List Addr), DE (X.blk s H scope (compEnvC scope cl C X.env) fp) W0 O elt fe)
    (ok : BlkOk X.N X.env.scope scope own := by exact blkOk_by (by first | rfl | kernel_rfl)) (hs : ∀ x, foldedSetIterable it X.env x = pure x := by intro _; rfl) :
    DF X W O (.ListComp elt [⟨tg, it, ifs, 0⟩] scope pos) (compF (own.map (·.2)) fi h ft fe) :=
  peI (pe_lc hc hN hi ok hg ht he hs) fun σ H Q hh => comp_tG hh
/-! ### assignments, by readings -/
theorem asg_set {K : PySem.W.Frag} {mg : Str → Option Value} {i : Nat} (hO : i ∉ O) {D' : Ends} {σ : L2.St} {H : Hp} (h : tS K mg W Ob O O (setS i f) D' σ H) : tAsg (tG K mg (RE K mg) W O f) (gName i) D' σ H := by
  obtain ⟨g0, P, g, s, ρ, w, r, n, e, h⟩ := h
  exact ⟨g, s, ρ, w, r, aft_thenS w r n e h fun d s1 v g1 H1 w1 e1 r1 e1' rv h1 => h1 _ g1 H1 w1 (r1.setF hO rv) (n.setF hO) e1'⟩
theorem asg_own {K : PySem.W.Frag} {mg : Str → Option Value} {i : Nat} {O2 : List Nat} (hO : O2 = i :: O.filter fun j => j ≠ i) {D' : Ends} {σ : L2.St} {H : Hp} (h : tS K mg W Ob O O2 (setS i fun ρ => ff ρ >>= fun ds => pure (.lst ds)) D' σ H) :
    tAsg (tG K mg (RF K mg) W O ff) (gName i) D' σ H := by
  obtain ⟨g0, P, g, s, ρ, w, r, n, e, h⟩ := h
  refine ⟨g, s, ρ, w, r, ?_⟩
  have hm : ∀ j, j ∈ O2 ↔ j = i ∨ j ∈ O := fun j => by
    subst hO
    simp only [List.mem_cons, List.mem_filter]
    by_cases q : j = i
    · simp [q]
    · simp [q]
  have h' : aftS K mg W Ob O2 g0 P D' (thenS (ff ρ) (fun ds s' => .nx (ρ.set i (some (.lst ds))) s') s) := by
    have k : setS i (fun ρ => ff ρ >>= fun ds => pure (.lst ds)) ρ s = thenS (ff ρ) (fun ds s' => .nx (ρ.set i (some (.lst ds))) s') s := by
      unfold setS thenS
      dsimp only
      cases q : ff ρ s with
      | ok a s1 => rw [bind_ok q]; rfl
      | ex x s1 => rw [bind_ex q]
      | bad => rw [bind_bad q]
    rw [← k]; exact h
  exact aft_thenS w r n e h' fun ds s1 v g1 H1 w1 e1 r1 e1' ⟨p, vs, ev, hn, hf', hi', hp, rs⟩ h1 => by
    subst ev
    exact h1 _ g1 H1 w1 (r.setO e1 hm hn ⟨p, .lst vs, rfl, hf', hi', hp, rs⟩) (n.setO hm (e.pnone w hn)) e1'
theorem tG_frz {K : PySem.W.Frag} {mg : Str → Option Value} {σ : L2.St} {H : Hp} {Q : VK} (h : tG K mg (RE K mg) W O (fun ρ => ff ρ >>= fun ds => pure (.lst ds)) σ H Q) : tG K mg (RF K mg) W O ff σ H Q := by
  obtain ⟨g, s, ρ, w, er, h⟩ := h
  refine ⟨g, s, ρ, w, er, ?_⟩
  dsimp only at h
  cases k : ff ρ s with
  | ok ds s1 =>
    rw [bind_ok k] at h
    intro v g1 H1 w1 e1 ⟨p, vs, ex, hn, hf, hi, hp, r1⟩
    subst ex
    exact h _ (g1.add p (.lst vs)) H1 (w1.freeze hp hf hi) (e1.addNew hn hf) (.lst Gh.add_at (r1.le (Gh.le_add hf)))
  | ex x s1 => rw [bind_ex k] at h; exact h
  | bad => rw [bind_bad k] at h; exact h
/-- name = [.. for ..] on one line -/
theorem ds_setLc {y : Str} {py : Pos} (i : Nat) (own : List (Str × Nat)) {scope : Scope} (hc : X.calm = true) (hN : X.N.Nodup) (hi : DIX X W O tg it fi)
    (hg : ∀ (s : Shared) (H : Hp) (C : Addr) (cl : List (Str × Addr)) (fp : List Addr), DG (X.blk s H scope (compEnvC scope cl C X.env) fp) O (own.map (·.2)) tg h)
    (ht : ∀ (s : Shared) (H : Hp) (C : Addr) (cl : List (Str × Addr)) (fp : List Addr), PTs (X.blk s H scope (compEnvC scope cl C X.env) fp) ifs (tG X.K X.mg RT W0 O ft))
    (he : ∀ (s : Shared) (H : Hp) (C : Addr) (cl : List (Str × Addr)) (fp : List Addr), DE (X.blk s H scope (compEnvC scope cl C X.env) fp) W0 O elt fe)
    (hO : i ∉ O := by decide) (hy : X.N[i]? = some y := by rfl) (hyl : X.env.scope.names.lookup y = some .local := by rfl)
    (hsw : swapsWith (.ListComp elt [⟨tg, it, ifs, 0⟩] scope pos) (some (.Name y py)) spos.line X.env = pure true := by rfl)
    (ok : BlkOk X.N X.env.scope scope own := by exact blkOk_by (by first | rfl | kernel_rfl)) (hs : ∀ x, foldedSetIterable it X.env x = pure x := by intro _; rfl) :
    DS X W Ob O (.Assign [.Name y py] (.ListComp elt [⟨tg, it, ifs, 0⟩] scope pos) spos) (setS i fun ρ => compF (own.map (·.2)) fi h ft fe ρ >>= fun ds => pure (.lst ds)) O :=
  psI (ps_setLc hc hN hy hyl hsw hi ok hg ht he hs) fun D' σ H hh => by
    have k := asg_set (f := fun ρ => compF (own.map (·.2)) fi h ft fe ρ >>= fun ds => pure (.lst ds)) hO hh
    exact comp_tG (tG_frz k)
theorem ds_ownLc {y : Str} {py : Pos} (i : Nat) (own : List (Str × Nat)) {scope : Scope} (hc : X.calm = true) (hN : X.N.Nodup) (hi : DIX X W O tg it fi)
    (hg : ∀ (s : Shared) (H : Hp) (C : Addr) (cl : List (Str × Addr)) (fp : List Addr), DG (X.blk s H scope (compEnvC scope cl C X.env) fp) O (own.map (·.2)) tg h)
    (ht : ∀ (s : Shared) (H : Hp) (C : Addr) (cl : List (Str × Addr)) (fp : List Addr), PTs (X.blk s H scope (compEnvC scope cl C X.env) fp) ifs (tG X.K X.mg RT W0 O ft))
    (he : ∀ (s : Shared) (H : Hp) (C : Addr) (cl : List (Str × Addr)) (fp : List Addr), DE (X.blk s H scope (compEnvC scope cl C X.env) fp) W0 O elt fe)
    {O2 : List Nat} (hO : O2 = i :: O.filter (fun j => j ≠ i) := by rfl) (hy : X.N[i]? = some y := by rfl) (hyl : X.env.scope.names.lookup y = some .local := by rfl)
    (hsw : swapsWith (.ListComp elt [⟨tg, it, ifs, 0⟩] scope pos) (some (.Name y py)) spos.line X.env = pure true := by rfl)
    (ok : BlkOk X.N X.env.scope scope own := by exact blkOk_by (by first | rfl | kernel_rfl)) (hs : ∀ x, foldedSetIterable it X.env x = pure x := by intro _; rfl) :
    DS X W Ob O (.Assign [.Name y py] (.ListComp elt [⟨tg, it, ifs, 0⟩] scope pos) spos) (setS i fun ρ => compF (own.map (·.2)) fi h ft fe ρ >>= fun ds => pure (.lst ds)) O2 :=
  psI (ps_setLc hc hN hy hyl hsw hi ok hg ht he hs) fun D' σ H hh => comp_tG (asg_own hO hh)
/-! ### a, b = .. -/
def tgtS (f : Env → M D) (h : Tgt) : Sm := fun ρ => thenS (f ρ) fun d s => match h d ρ with
  | some ρ' => .nx ρ' s
  | none => .bad
theorem asg_tgt {K : PySem.W.Frag} {mg : Str → Option Value} {D' : Ends} {σ : L2.St} {H : Hp} (hh : tS K mg W Ob O O (tgtS f h) D' σ H) : tAsg (tG K mg (RE K mg) W O f) (tGt K mg O vs h) D' σ H := by
  obtain ⟨g0, P, g, s, ρ, w, r, n, e, hh⟩ := hh
  exact ⟨g, s, ρ, w, r, aft_thenS w r n e hh fun d s1 v g1 H1 w1 e1 r1 e1' rv h1 => by
    cases q : h d ρ with
    | none => rw [q] at h1; exact h1.elim
    | some ρ' =>
      rw [q] at h1
      exact ⟨g1, s1, d, ρ, ρ', w1, r1, rv, q, fun σ' er' _ hn => h1 σ' g1 H1 w1 er' (hn P n) e1'⟩⟩
theorem ds_tgt (he : DE X W O e f) (hg : DG X O vs tg h) (hs : swapsWithSole [tg] e spos.line X.env = pure false := by rfl) (hw : swappedStores [tg] e X.env = pure none := by rfl)
    (h1 : (assignEach [tg] X.env).map (·.2) = [assign tg X.env] := by rfl) : DS X W Ob O (.Assign [tg] e spos) (tgtS f h) O :=
  psI (ps_asg he hg hs hw h1) fun D' σ H hh => asg_tgt hh
/-- a, b = x, y: two plain local names -/
def parS (i j : Nat) (fl : Env → M (List D)) : Sm := fun ρ => thenS (fl ρ) fun ds s => match ds with
  | [d, e] => .nx ((ρ.set i (some d)).set j (some e)) s
  | _ => .bad
theorem ds_par {x y : Str} {a b : Expr} {px py pt : Pos} {kt k2 : Nat} {pt2 : Pos} (i j : Nat) (hc : X.calm = true) (hN : X.N.Nodup) (ha : DA X W O [a, b] fl) (hiO : i ∉ O := by decide) (hjO : j ∉ O := by decide) (hij : i ≠ j := by decide) (hi : X.N[i]? = some x := by rfl) (hj : X.N[j]? = some y := by rfl)
    (hx : X.env.scope.names.lookup x = some .local := by rfl) (hy : X.env.scope.names.lookup y = some .local := by rfl)
    (hw : swappedStores [.Tuple [.Name x px, .Name y py] kt pt] (.Tuple [a, b] k2 pt2) X.env = pure (some [x, y]) := by rfl)
    (hs : swapsWithSole [.Tuple [.Name x px, .Name y py] kt pt] (.Tuple [a, b] k2 pt2) pos.line X.env = pure false := by rfl) :
    DS X W Ob O (.Assign [.Tuple [.Name x px, .Name y py] kt pt] (.Tuple [a, b] k2 pt2) pos) (parS i j fl) O :=
  psI (ps_par hc hN hi hj hij hx hy ha hw hs) fun D' σ H ⟨g0, P, g, s, ρ, w, r, n, e, hh⟩ => ⟨g, s, ρ, w, r, aft_thenS w r n e hh fun ds s1 xs g1 H1 w1 e1 r1 e1' rv h1 => by
    obtain ⟨rv, hl⟩ := rv
    match ds, rv, hl, h1 with
    | [d, e], .cons rd (.cons re .nil), _, h1 => exact ⟨_, _, rfl, h1 _ g1 H1 w1 ((r1.setF hiO rd).setF hjO re) ((n.setF hiO).setF hjO) e1'⟩
    | [], _, _, h1 => exact h1.elim
    | [_], .cons _ .nil, hl, _ => exact absurd hl (by simp)
    | _ :: _ :: _ :: _, .cons _ (.cons _ (.cons _ _)), hl, _ => exact absurd hl (by simp)⟩
end
end DL

/-! # DL: defs where no repr runs around (so repr may be called within) -/
namespace DL
open PySem PySem.Spec PyProof.Rows L2
/-- room, and no repr that runs around -/
structure RoomG (k : Nat) (A : Around) : Prop where
  rm : Room k A
  gd : A.guards = some []
namespace RoomG
variable {k : Nat} {A : Around}
theorem mono {j k : Nat} {A : Around} (r : RoomG k A) (h : j ≤ k) : RoomG j A where
  rm := r.rm.mono h
  gd := r.gd
theorem deeper (r : RoomG (k + 1) A) (env : PySem.Env) : RoomG k (A.deeper env) where
  rm := r.rm.deeper env
  gd := r.gd
theorem u64 (r : RoomG k A) : A.units + 64 < cLine := r.rm.units
theorem u1 (r : RoomG k A) : A.units + 1 < cLine := Nat.lt_of_le_of_lt (Nat.add_le_add_left (by decide) _) r.u64
/-- within the making of an instance -/
theorem make (r : RoomG (k + 1) A) (C : Addr) (us : List Value) (kw : List (Str × Value)) : RoomG k (A.under (.builtin "type.__call__" ⟨.ref C :: us, kw⟩)) where
  rm := r.rm.make C us kw
  gd := by
    have e : (A.under (.builtin "type.__call__" ⟨.ref C :: us, kw⟩)).guards = A.guards := by
      show pushGuards (Code.builtin "type.__call__" ⟨.ref C :: us, kw⟩).guards A.guards = A.guards
      first | rfl | (cases A.guards <;> rfl)
    rw [e]; exact r.gd
end RoomG
/-- what a def with parameters ps promises, where there is such room -/
structure FnG (P : Program) (w : PySem.World) (K : PySem.W.Frag) (mg : Str → Option Value) (base : Heap) (XT : CXT) (k : Nat) (f : Addr) (fd : FuncData) (ps : List Str) (sp : Sp) : Prop where
  len : ∀ {vs H Q E}, sp vs H Q E → vs.length = ps.length
  go : ∀ {A : Around} {outer : List PySem.Env} {s : Shared} {H : Hp} {args : Args} {us : List Value} {vs : List V} {Q : VK} {E : XK}, RoomG k A → Env0 P w K mg base A outer s H → BindsTo s fd args (ps.zip us) → Vals vs us → sp vs H Q E →
    codeAny (model P w) A (.call (.ref f) args) (L2.CR XT outer P w H s Q E) s
/-- the end of a body is the end of its call -/
theorem cr_body {X : Cx} {XT : CXT} {P : Program} {w : PySem.World} {outer : List PySem.Env} {s s' : Shared} {H : Hp} {Q : VK} {E : XK} (hP : X.prog = P) (hw : X.w = w) (h0 : X.s_0 = s) (hH : X.H_0 = H) (ho : X.outer = outer) (he : X.ex = []) {fl : Flow}
    (h : SP X [] { nx := fun _ H' => Q .non H', rt := Q } fl s') : CE outer P w H s Q (match fl with | .ret u => u | _ => .none) s' := by
  subst hP; subst hw; subst h0; subst hH; subst ho
  have out : ∀ {σ : L2.St} {H' : Hp} {v : V} {u : Value}, Inv X [] σ H' s' → RelV v u → Q v H' → CE X.outer X.prog X.w X.H_0 X.s_0 Q u s' := fun {_ H' v _} J r q => by
    have b := J.base
    rw [he] at b
    exact ⟨v, H', J.os, J.bare, b, J.hok, r, q⟩
  match fl, h with
  | .ret _, ⟨_, _, _, J, r, q⟩ => exact out J r q
  | .next, ⟨_, _, J, q⟩ => exact out (v := .non) J rfl q
  | .brk, ⟨_, _, _, q⟩ => exact q.elim
  | .cont, ⟨_, _, _, q⟩ => exact q.elim
section
variable {P : Program} {w : PySem.World} {K : PySem.W.Frag} {mg : Str → Option Value} {base : Heap} {x qual : Str} {params : Arguments} {body : List Stmt} {scope : Scope} {dvs : List V} {kws : List (Str × V)} {f : Addr} {fd : FuncData}
/-- a def by its body; its code object is told (cdv) -/
theorem fnG_of {XT : CXT} {N ps : List Str} {k : Nat} {sp : Sp} (F : FunD K x qual params body scope dvs kws f fd) (S : FnScope N ps scope) (len : ∀ {vs H Q E}, sp vs H Q E → vs.length = ps.length)
    (hbody : ∀ (cdv : Value) (A : Around) (outer : List PySem.Env) (s : Shared) (H : Hp) (vs : List V) (Q : VK) (E : XK), fd.code = cdv → RoomG k (A.deeper (envOfC qual scope s.heap.objs.size f cdv)) → sp vs H Q E →
      ∃ t, PSs (cxOf XT P w K mg base N qual scope f cdv A outer s H E) body t ∧ t { nx := fun _ H' => Q .non H', rt := Q } (L2.start N vs) H) : FnG P w K mg base XT (k + 1) f fd ps sp where
  len := len
  go {A outer s H args us vs Q E} room e0 bd rv want := by
    obtain ⟨oc, od, dV, kV, doc, pm, an, cdv, ct, osl, e, look, code, _, _⟩ := F.ex
    have up : ∀ b o, base.get? b = some o → s.heap.get? b = some o := fun b o q => (e0.bs b o q).1
    have inK : K.In s.heap := e0.mod.kin.keeps up
    have here := inK _ _ look
    subst e
    obtain ⟨t, run, start⟩ := hbody cdv A outer s H vs Q E rfl (room.deeper _) want
    have pl : ∀ y ∈ ps.zip us, y.1 ∈ ps := fun y hy => (List.of_mem_zip (a := y.1) (b := y.2) hy).1
    apply codeAny_call_function room.rm.depth here rfl S.co S.gen rfl (PySem.W.codeRec_of inK code)
    apply bd
    apply wpAny_newFunctionEnv_cells S.kind (fun y hy => (S.par _ (pl y hy)).imp_right fun q => ⟨q, PySem.W.cellsFrom_some _ _ _ (.inl q)⟩)
    intro env he s1 ic
    subst he
    have I := inv_start (CX := XT) (N := N) (E := E) S room.rm.hd e0 (len want) rv ic
    refine ⟨(e0.mod.nolimit.keeps up).keeps ic.toInCall.keep, codeAny_func (wpAny_mono (run.run [] s1 _ H _ I start) (fun fl s' q => ?_) fun _ _ q => q)⟩
    have z := cr_body (XT := XT) (E := E) (outer := outer) (s := s) (H := H) rfl rfl rfl rfl rfl rfl q
    cases fl <;> exact z
end
section
variable {X : Cx} {XT : CXT} {k : Nat} {f C : Addr} {fd : FuncData} {ps ks : List Str} {sp : Sp} {dvs : List V} {ds : List Value} {E : L2.St → XK}
/-- a callee's run within a body -/
theorem run_fnG {pins : List (Addr × Obj)} {σ : L2.St} {H : Hp} {s : Shared} {Q : VK} {us : List Value} {vs : List V} (F : FnG X.prog X.w X.K X.mg X.base XT k f fd ps sp) (hr : RoomG k X.A) (hb : Binds X.K fd ps ds) (hd : Vals dvs ds) (hx : PassesAt XT X σ (E σ))
    (I : Inv X pins σ H s) (r : Vals vs us) (h : sp (vs ++ dvs) H Q (E σ)) : wpAny (model X.prog X.w) X.A (call (.ref f) us) (EP X pins σ Q) X.xe s := by
  have all := Vals.append r hd
  apply wpAny_call
  refine codeAny_mono (F.go hr I.env0 (hb s us I.kIn (all.length ▸ F.len h)) all h) ?_
  intro r s' q
  match r, q with
  | .error e, q => exact hx pins H s e s' I q
  | .ok (.ret u), q => exact I.after q
theorem pe_callG {x : Str} {e : Expr} {es : List Expr} {t : TA} {p pos : Pos} (F : FnG X.prog X.w X.K X.mg X.base XT k f fd ps sp) (hr : RoomG k X.A) (hg : Gl X x) (hm : X.mg x = some (.ref f)) (hk : PySem.W.keepIn X.K (.ref f) = true) (hb : Binds X.K fd ps ds) (hd : Vals dvs ds) (hx : ∀ σ, PassesAt XT X σ (E σ))
    (ha : PA X (e :: es) t) (hdb : (x == ("__debug__" : Str)) = false := by decide) (he : starEach (e :: es) X.env = (false, eval e X.env) :: starEach es X.env := by rfl) (hpl : (backTo pos (starEach es X.env)).any (·.1) = false := by rfl) :
    PE X (.Call (.Name x p) (e :: es) [] pos) (tCallSD sp dvs E t) where
  run pins s σ H Q I h := by
    apply wpAny_Call_Name_kw
    refine ld_glob I hg hm ?_ hdb
    have args := ha.run pos pins s σ H _ I h
    exact PySem.W.callWith_K (h₀ := X.base) I.ok.mod.kin hk (thn args fun us s1 ⟨vs, H1, I1, r, q⟩ => ⟨I1.kIn, run_fnG F hr hb hd (hx σ) I1 r q⟩) he hpl
end
end DL

/-! # DL: the law's call; tables of code objects may grow -/
namespace DL
open PySem PySem.Spec PyProof.Rows L2 LamX
/-- an empty table -/
abbrev noTab : Obj := { cls := .none, data := .fields #[] }
/-- the script's object -/
abbrev scrO (vs : List Value) : Obj := { cls := .type "list", data := .seq vs.toArray }
/-- what is tracked at the law's call: the tables, the script if o says so -/
def startH (T : List Addr) (o : Option (Addr × HO)) : Hp := fun b => if b ∈ T then some (.tbl #[]) else match o with
  | some p => if b = p.1 then some p.2 else none
  | none => none
structure StartT (h : Heap) (T : List Addr) (a : Addr) (vs : List Value) (ns : List Int) (o : Option (Addr × HO)) : Prop where
  tab : ∀ b ∈ T, h.get? b = some noTab
  scr : h.get? a = some (scrO vs)
  its : Vals (ns.map V.int) vs
  size : ns.length ≤ sizeLine
  told : ∀ p, o = some p → p = (a, .frz (scrO vs) (.lst (ns.map V.int)))
namespace StartT
variable {h : Heap} {T : List Addr} {a : Addr} {vs : List Value} {ns : List Int} {o : Option (Addr × HO)}
theorem notin (S : StartT h T a vs ns o) : a ∉ T := fun z => by
  have e := (S.tab a z).symm.trans S.scr
  cases congrArg Obj.data (Option.some.inj e)
/-- a tracked thing is a table or the script -/
theorem cases (S : StartT h T a vs ns o) {b : Addr} {u : HO} (e : startH T o b = some u) : (b ∈ T ∧ u = .tbl #[]) ∨ (b = a ∧ o = some (a, u) ∧ u = .frz (scrO vs) (.lst (ns.map V.int))) := by
  unfold startH at e
  by_cases m : b ∈ T
  · rw [if_pos m] at e
    exact .inl ⟨m, (Option.some.inj e).symm⟩
  · rw [if_neg m] at e
    cases o with
    | none => cases e
    | some p =>
      have q := S.told p rfl
      subst q
      by_cases hb : b = a
      · have e : (if b = a then some _ else _) = some u := e
        rw [if_pos hb] at e
        cases e
        exact .inr ⟨hb, rfl, rfl⟩
      · have e : (if b = a then some _ else none) = some u := e
        rw [if_neg hb] at e
        cases e
/-- what has other data is not tracked -/
theorem plain (S : StartT h T a vs ns o) {b : Addr} {ob : Obj} (e : h.get? b = some ob) (h1 : ∀ xs n, ob.data ≠ .seq xs n) (h2 : ob.data ≠ .fields #[]) : startH T o b = none := by
  cases q : startH T o b with
  | none => rfl
  | some u =>
    rcases S.cases q with ⟨m, _⟩ | ⟨m, _⟩
    · rw [S.tab b m] at e
      cases e; exact absurd rfl h2
    · subst m
      rw [S.scr] at e
      cases e; exact absurd rfl (h1 _ _)
theorem tbl (S : StartT h T a vs ns o) {b : Addr} (m : b ∈ T) : startH T o b = some (.tbl #[]) := if_pos m
theorem ok (S : StartT h T a vs ns o) (P : Program) (w : PySem.World) : HOk P w (startH T o) h := fun b u e => by
  rcases S.cases e with ⟨m, rfl⟩ | ⟨rfl, _, rfl⟩
  · exact S.tab b m
  · exact ⟨S.scr, by rw [List.length_map]; exact S.size, vs, _, S.its, S.scr⟩
end StartT
/-- a part of a heap hidden: what is there still -/
theorem ns_hid {h : Heap} {H : Hp} {b : Addr} {m : Str → Option Value} (n : ∀ ob es ep, h.get? b = some ob → ob.data = .dict es ep → H b = none) (x : h.Ns b m) : (hidT h H).Ns b m := by
  obtain ⟨ob, es, ep, e, d, r⟩ := x
  exact ⟨ob, es, ep, hidT_get e (n _ _ _ e d), d, r⟩
section
variable {P : Program} {w : PySem.World} {K : PySem.W.Frag} {mg mb : Str → Option Value} {XT : CXT} {k : Nat} {fa a : Addr} {fd : FuncData} {x : Str} {sp : Sp} {s₁ : Shared} {vs : List Value} {ns : List Int} {cs : List (Addr × Addr)}
/-- what is known ahead of the law's call: cs the code objects that make code objects, with their tables -/
structure LawTop (K : PySem.W.Frag) (mg mb : Str → Option Value) (cs : List (Addr × Addr)) (h : Heap) : Prop where
  kin : K.In h
  g : h.Ns mainGlobals mg
  b : h.Ns builtinsNs mb
  bb : ∀ y : Str, y ≠ "__name__" → mb y = bootBuiltins y
  lim : h.NoLimit
  tab : ∀ p ∈ cs, h.get? p.2 = some noTab
  nok : ∀ p ∈ cs, K.lookup p.2 = none
  code : ∀ p ∈ cs, PySem.W.CodeHd h p.1 p.2
  bm : ∃ (bm : Addr) (ob : Obj), mg "__builtins__" = some (.ref bm) ∧ bm ≠ builtinsNs ∧ h.get? bm = some ob ∧ ob.cls = .type "module" ∧ ob.dict = some builtinsNs ∧ ob.data = .plain
theorem LawTop.run (t : LawTop K mg mb cs s₁.heap) (hg : s₁.gens = #[]) (hr : RoomG k callerA) {o : Option (Addr × HO)} (S : StartT s₁.heap (cs.map (·.2)) a vs ns o) (hk : o ≠ none → K.lookup a = none)
    (F : ∀ base : Heap, K.In base → base.Ns mainGlobals mg → (∀ p ∈ cs, TabB base mg p.1 p.2) → FnG P w K mg base XT k fa fd [x] sp) (hbind : ∀ (s : Shared) (u : Value), BindsTo s fd ⟨[u], []⟩ [(x, u)])
    (hsp : sp [.ref a] (startH (cs.map (·.2)) o) (fun v _ => v = .bl true) fun _ _ _ => False) (hCX : ∀ H e s', XT [] H s₁ (fun _ _ _ => False) e s' → False) :
    codeAny (model P w) callerA (.call (.ref fa) ⟨[.ref a], []⟩) (fun r s' => r = .ok (.ret (.bool true)) ∧ OldK s₁.heap s'.heap ∧ s'.os = s₁.os ∧ AllBare s'.gens) s₁ := by
  have mem : ∀ p ∈ cs, p.2 ∈ cs.map (·.2) := fun p hp => List.mem_map_of_mem hp
  have dict : ∀ (b : Addr) (ob : Obj) es ep, s₁.heap.get? b = some ob → ob.data = .dict es ep → startH (cs.map (·.2)) o b = none := fun b ob es ep e d => S.plain e (fun _ _ z => nomatch (d.symm.trans z)) fun z => nomatch (d.symm.trans z)
  have still : ∀ {b : Addr} {ob : Obj}, s₁.heap.get? b = some ob → (∀ xs n, ob.data ≠ .seq xs n) → ob.data ≠ .fields #[] → (hidT s₁.heap (startH (cs.map (·.2)) o)).get? b = some ob := fun e h1 h2 => hidT_get e (S.plain e h1 h2)
  have inK : K.In (hidT s₁.heap (startH (cs.map (·.2)) o)) := fun b ob e => hidT_get (t.kin b ob e) (by
    cases q : startH (cs.map (·.2)) o b with
    | none => rfl
    | some u =>
      rcases S.cases q with ⟨m, _⟩ | ⟨m, z, _⟩
      · obtain ⟨p, hp, rfl⟩ := List.mem_map.mp m
        exact nomatch (t.nok p hp).symm.trans e
      · subst m
        exact nomatch (hk (by rw [z]; simp)).symm.trans e)
  have gns := ns_hid (dict _) t.g
  have nog : ∀ {b : Addr} {ob : Obj}, s₁.heap.get? b = some ob → (∀ es ep, ob.data ≠ .dict es ep) → b ≠ mainGlobals := fun e d z => by
    obtain ⟨o', es, ep, e', d', _⟩ := t.g
    subst z
    exact d es ep ((congrArg Obj.data (Option.some.inj (e.symm.trans e'))).trans d')
  have tabs : ∀ p ∈ cs, TabB (hidT s₁.heap (startH (cs.map (·.2)) o)) mg p.1 p.2 := fun p hp => by
    obtain ⟨oc, us, file, tf, flags, tg, inF, text, tt, e1, r1, r2, r3, r4⟩ := t.code p hp
    obtain ⟨bm, ob, b1, b2, b3, b4, b5, b6⟩ := t.bm
    have hT := t.tab p hp
    refine { code := ⟨oc, us, file, tf, flags, tg, inF, text, tt, still e1 (fun _ _ z => nomatch (r2.symm.trans z)) (fun z => ?_), r1, r2, r3, r4⟩, bm := ⟨bm, ob, b1, b2, nog b3 (fun _ _ z => nomatch (b6.symm.trans z)), fun z => ?_, still b3 (fun _ _ z => nomatch (b6.symm.trans z)) (fun z => nomatch (b6.symm.trans z)), b4, b5, b6⟩, gP := fun z => nog hT (fun _ _ q => nomatch q) z.symm }
    · cases r2.symm.trans z
      exact nomatch r3
    · subst z
      cases b3.symm.trans hT
      cases b6
  have e0 : Env0 P w K mg (hidT s₁.heap (startH (cs.map (·.2)) o)) callerA [] s₁ (startH (cs.map (·.2)) o) :=
    { frames := rfl, mod := ⟨inK, gns, ⟨mb, ns_hid (dict _) t.b, t.bb⟩, let ⟨mc, h1, h2⟩ := t.lim; ⟨mc, ns_hid (dict _) h1, h2⟩⟩, bs := fun _ _ e => of_hidT e, bsz := Nat.le_of_eq (hidT_size _ _), funs := trivial, frf := fun _ hb => (nomatch hb), hok := S.ok P w, bare := .of_eq hg }
  refine codeAny_mono ((F _ inK gns tabs).go (us := [.ref a]) (vs := [.ref a]) hr e0 (hbind s₁ (.ref a)) (.cons rfl .nil) hsp) fun r s' q => ?_
  match r, q with
  | .error e, q => exact (hCX _ e s' q).elim
  | .ok (.ret u), ⟨v, H', os, bare, un, ok', rv, q⟩ =>
    obtain rfl : v = .bl true := q
    obtain rfl : u = Value.bool true := rv
    have kept : ∀ b ob, b ∉ cs.map (·.2) → s₁.heap.get? b = some ob → s'.heap.get? b = some ob := fun b ob nb e => by
      cases q : startH (cs.map (·.2)) o b with
      | none => exact un.keep b ob e q (fun z => nomatch z) (fun z => nomatch z)
      | some u =>
        rcases S.cases q with ⟨m, _⟩ | ⟨m, _, rfl⟩
        · exact absurd m nb
        · subst m
          have z := (ok' _ _ (un.frzs _ _ _ q)).1
          rw [S.scr] at e
          rw [z, ← e]
    have more : ∀ b ∈ cs.map (·.2), ∃ ps : Array Value, s'.heap.get? b = some { cls := .none, data := .fields ps } := fun b hb => by
      obtain ⟨ps, z⟩ := un.tbls b #[] (S.tbl hb)
      exact ⟨_, ok' b _ z⟩
    refine ⟨rfl, { old := fun b ob e => ?_, there := fun b ob e => ?_ }, os, bare⟩
    · by_cases hb : b ∈ cs.map (·.2)
      · obtain ⟨ps, hm⟩ := more b hb
        obtain ⟨p, hp, rfl⟩ := List.mem_map.mp hb
        cases (t.tab p hp).symm.trans e
        exact .inr (.inl ⟨((t.code p hp).tab (t.tab p hp)).isCodeTable, rfl, #[], ps, rfl, by rw [Array.empty_append]; exact hm⟩)
      · exact .inl (kept b ob hb e)
    · by_cases hb : b ∈ cs.map (·.2)
      · obtain ⟨ps, hm⟩ := more b hb
        exact ⟨_, hm⟩
      · exact ⟨ob, kept b ob hb e⟩
/-- the law's call, its promise told with the room that repr wants -/
theorem LawTop.law (t : LawTop K mg mb cs s₁.heap) (hg : s₁.gens = #[]) (ha : s₁.heap.get? a = some (scrO vs)) (hi : IntsAre vs ns) (hl : ns.length ≤ sizeLine) (hr : RoomG k callerA)
    (F : ∀ base : Heap, K.In base → base.Ns mainGlobals mg → (∀ p ∈ cs, TabB base mg p.1 p.2) → FnG P w K mg base XT k fa fd [x] sp) (hbind : ∀ (s : Shared) (u : Value), BindsTo s fd ⟨[u], []⟩ [(x, u)])
    (hsp : ∀ H : Hp, (∀ p ∈ cs, H p.2 = some (.tbl #[])) → SqL K H a (ns.map V.int) → sp [.ref a] H (fun v _ => v = .bl true) fun _ _ _ => False)
    (hCX : ∀ H e s', XT [] H s₁ (fun _ _ _ => False) e s' → False) :
    codeAny (model P w) callerA (.call (.ref fa) ⟨[.ref a], []⟩) (fun r s' => r = .ok (.ret (.bool true)) ∧ OldK s₁.heap s'.heap ∧ s'.os = s₁.os ∧ AllBare s'.gens) s₁ := by
  have rv := vals_ints hi
  have tabT : ∀ b ∈ cs.map (·.2), s₁.heap.get? b = some noTab := fun b hb => by
    obtain ⟨p, hp, rfl⟩ := List.mem_map.mp hb
    exact t.tab p hp
  have inT : ∀ {o : Option (Addr × HO)}, ∀ p ∈ cs, startH (cs.map (·.2)) o p.2 = some (.tbl #[]) := fun p hp => if_pos (List.mem_map_of_mem hp)
  cases hk : K.lookup a with
  | some ob =>
    have e := (t.kin a ob hk).symm.trans ha
    cases e
    exact t.run hg hr (o := none) ⟨tabT, ha, rv, hl, fun _ z => nomatch z⟩ (fun z => absurd rfl z) F hbind (hsp _ inT (.inr ⟨_, vs.toArray, _, hk, rfl, rfl, rfl, by rw [List.size_toArray, hi.length]; exact hl, by simpa using rv⟩)) hCX
  | none =>
    have S : StartT s₁.heap (cs.map (·.2)) a vs ns (some (a, .frz (scrO vs) (.lst (ns.map V.int)))) := ⟨tabT, ha, rv, hl, fun _ z => (Option.some.inj z).symm⟩
    exact t.run hg hr S (fun _ => hk) F hbind (hsp _ inT (.inl (.inr ⟨_, (if_neg S.notin).trans (if_pos rfl)⟩))) hCX
/-- the walk of a law -/
theorem walkT {l : PySem.W.OpenLaw} {n k : Nat} {q : Program} {loose : List Str} {XP : (Str → Option Value) → Heap → Prop} {YP : PySem.World → Heap → Prop} {d : DefRec} {XT : PySem.World → CXT} {x : Str}
    (hn : l.most = some n) (hn2 : n ≤ sizeLine) (hdf : d.params.defaults = []) (hr : Room k callerA)
    (F : ∀ (w : PySem.World) (mg : Str → Option Value) (fa : Addr) (h : Heap), YP w h → h.Ns mainGlobals mg → mg d.name = some (.ref fa) →
      ∃ (K : PySem.W.Frag) (cs : List (Addr × Addr)) (fd : FuncData) (sp : Sp), K.In h ∧ (∀ p ∈ cs, h.get? p.2 = some noTab) ∧ (∀ p ∈ cs, K.lookup p.2 = none) ∧ (∀ p ∈ cs, PySem.W.CodeHd h p.1 p.2) ∧ (∀ (s : Shared) (u : Value), BindsTo s fd ⟨[u], []⟩ [(x, u)]) ∧
        (∀ (H : Hp) (a : Addr) (ns : List Int), ns.length ≤ n → (∀ k ∈ ns, Builtin.Int.intBits k ≤ 1048576) → (∀ p ∈ cs, H p.2 = some (.tbl #[])) → SqL K H a (ns.map V.int) → sp [.ref a] H (fun v _ => v = .bl true) fun _ _ _ => False) ∧
        ∀ base : Heap, K.In base → base.Ns mainGlobals mg → (∀ p ∈ cs, TabB base mg p.1 p.2) → FnG l.prog w K mg base (XT w) k fa fd [x] sp)
    (hCX : ∀ (w : PySem.World) (H : Hp) (s : Shared) (e : Value) (s' : Shared), XT w [] H s (fun _ _ _ => False) e s' → False) :
    PySem.W.WalkO q loose XP YP l.row.toRowW d [] (fun f vs => PySem.call f vs) := by
  refine Att.attach_callB hn hdf ?_
  intro w s₀ s₁ mg mb fa o pm cd doc a vs ns G Y ho hd hcd hmg hobj hints hlen hbits hg
  obtain ⟨K, cs, fd, sp, kx, h1, h2, h3, hb, hsp, hF⟩ := F w mg fa _ Y G.T.g hmg
  have t : LawTop K mg mb cs s₁.heap := ⟨kx, G.T.g, G.T.b, G.T.builtins, G.T.nolimit, h1, h2, h3, G.T.bmain⟩
  exact t.law hg hobj hints (Nat.le_trans hlen hn2) ⟨hr, rfl⟩ hF hb (fun H hT hS => hsp H a ns hlen hbits hT hS) fun H e s' => hCX w H s₁ e s'
end
end DL

/-! # DL: defs, their calls; classes made -/
namespace DL
open PySem PySem.Spec PyProof.Rows L2
/-- what a def promises whose mirror is m -/
def aftP (K : PySem.W.Frag) (mg : Str → Option Value) (g : Gh) (H : Hp) (Q : VK) (E : XK) : Res D → Prop
  | .ok d s' => ∀ v g' H', World K mg g' s' H' → Ext g H g' H' → Rep K mg g' v d → Q v H'
  | .ex x s' => ∀ cls dd g' H', World K mg g' s' H' → Ext g H g' H' → RepX K mg g' H' cls dd x → E cls dd H'
  | .bad => False
def Pm (K : PySem.W.Frag) (mg : Str → Option Value) (n : Nat) (m : List D → M D) : Sp := fun vs H Q E => vs.length = n ∧ ∃ g s ds, World K mg g s H ∧ Reps K mg g vs ds ∧ aftP K mg g H Q E (m ds s)
structure DCal (P : Program) (w : PySem.World) (K : PySem.W.Frag) (mg : Str → Option Value) (base : Heap) (k : Nat) (x : Str) (n : Nat) (m : List D → M D) (dds : List D) : Prop where
  ex : ∃ (f : Addr) (fd : FuncData) (ps : List Str) (ds : List Value) (dvs : List V), FnG P w K mg base (L2.CX P w) k f fd ps (Pm K mg n m) ∧ mg x = some (.ref f) ∧ PySem.W.keepIn K (.ref f) = true ∧ Binds K fd ps ds ∧ Vals dvs ds ∧ ∀ g, Reps K mg g dvs dds
theorem aftP_of {K : PySem.W.Frag} {mg : Str → Option Value} {W : WX} {g : Gh} {H : Hp} {σ : L2.St} {Q : VK} {r : Res D} (h : aft K mg (RE K mg) W g H σ Q r) : aftP K mg g H Q (WE W σ) r := by
  cases r with
  | ok d s => exact fun v g' H' w e r => h v g' H' w e r
  | ex x s => exact fun cls dd g' H' w e r => h cls dd g' H' w e r
  | bad => exact h
section
variable {X : Cx} {W : WX} {O : List Nat} {e : Expr} {es : List Expr} {fl : Env → M (List D)} {pos p : Pos} {x : Str} {k j n : Nat} {m : List D → M D} {dds : List D}
theorem de_call (c : DCal X.prog X.w X.K X.mg X.base k x n m dds) (hr : RoomG j X.A) (tk : Takes X W) (ha : DA X W O (e :: es) fl) (hn : (e :: es).length + dds.length = n := by rfl) (hk : k ≤ j := by decide) (hg : Gl X x := by rfl)
    (hdb : (x == ("__debug__" : Str)) = false := by decide) (he : starEach (e :: es) X.env = (false, eval e X.env) :: starEach es X.env := by rfl) (hpl : (backTo pos (starEach es X.env)).any (·.1) = false := by rfl) :
    DE X W O (.Call (.Name x p) (e :: es) [] pos) (fun ρ => fl ρ >>= fun ds => m (ds ++ dds)) := by
  obtain ⟨f, fd, ps, ds, dvs, F, hm, kp, b, d, dr⟩ := c.ex
  exact peI (pe_callG F (hr.mono hk) hg hm kp b d (passAt tk) ha hdb he hpl) fun σ H Q ⟨g, s, ρ, w, er, h⟩ => ⟨g, s, ρ, w, er, aft_step RE.back w h fun ds s1 vs g1 H1 w1 e1 r1 h1 => by
    refine ⟨?_, g1, s1, ds ++ dds, w1, r1.1.append (dr g1), aftP_of h1⟩
    rw [List.length_append, r1.2, (dr g1).length]; exact hn⟩
theorem de_call0 (c : DCal X.prog X.w X.K X.mg X.base k x n m dds) (hr : RoomG j X.A) (tk : Takes X W) (hn : dds.length = n := by rfl) (hk : k ≤ j := by decide) (hg : Gl X x := by rfl)
    (hdb : (x == ("__debug__" : Str)) = false := by decide) : DE X W O (.Call (.Name x p) [] [] pos) (fun _ => m dds) := by
  obtain ⟨f, fd, ps, ds, dvs, F, hm, kp, b, d, dr⟩ := c.ex
  refine ⟨fun pins s σ H Q I ⟨g, st, ρ, w, er, h⟩ => ?_⟩
  refine wpAny_Call_Name_kw (ld_glob I hg hm ?_ hdb)
  exact PySem.W.callWith_K0 I.kIn kp (run_fnG (us := []) (vs := []) F (hr.mono hk) b d (passAt tk σ) I .nil ⟨by rw [List.nil_append, (dr g).length]; exact hn, g, st, dds, w, dr g, aftP_of h⟩)
end
/-! ### a def by its body -/
def startE (n : Nat) (ds : List D) : Env := ds.map some ++ List.replicate (n - ds.length) none
def endS : SR → Res D
  | .nx _ s => .ok .non s
  | .rt d s => .ok d s
  | .ex x s => .ex x s
  | _ => .bad
def runS (n : Nat) (fb : Sm) : List D → M D := fun ds s => endS (fb (startE n ds) s)
theorem start_rel {K : PySem.W.Frag} {mg : Str → Option Value} {g : Gh} {H : Hp} {N : List Str} {vs : List V} {ds : List D} (r : Reps K mg g vs ds) : EnvRel K mg g [] (startE N.length ds) (L2.start N vs) H := by
  have hl := r.length
  refine ⟨by unfold startE L2.start; rw [List.length_append, List.length_append, List.length_map, List.length_map, List.length_replicate, List.length_replicate, hl], fun i d _ h => ?_, fun i d hi => absurd hi (by simp), fun i j a hi => absurd hi (by simp)⟩
  unfold startE at h
  by_cases hi : i < ds.length
  · rw [List.getElem?_append_left (by simpa using hi), List.getElem?_map] at h
    cases q : ds[i]? with
    | none => rw [q] at h; cases h
    | some d' =>
      rw [q] at h
      cases h
      obtain ⟨v, h1, h2⟩ := r.get q
      refine ⟨v, ?_, h2⟩
      unfold L2.start
      rw [List.getElem?_append_left (by rw [List.length_map, hl]; exact hi), List.getElem?_map, h1] <;> rfl
  · rw [List.getElem?_append_right (by simpa using hi), List.getElem?_replicate] at h
    split at h <;> cases h
section
variable {P : Program} {w : PySem.World} {K : PySem.W.Frag} {mg : Str → Option Value} {base : Heap} {x qual : Str} {params : Arguments} {body : List Stmt} {scope : Scope} {dvs : List V} {kws : List (Str × V)} {f : Addr} {fd : FuncData} {N ps : List Str} {k : Nat} {fb : Sm} {O' : List Nat}
abbrev bodyCx (P : Program) (w : PySem.World) (K : PySem.W.Frag) (mg : Str → Option Value) (base : Heap) (N : List Str) (qual : Str) (scope : Scope) (f : Addr) (cdv : Value) (A : Around) (outer : List PySem.Env) (s : Shared) (H : Hp) (E : XK) : Cx := cxOf (L2.CX P w) P w K mg base N qual scope f cdv A outer s H E
abbrev bodyW (E : XK) : WX := fun cls d _ H => E cls d H
theorem bodyTk {cdv : Value} {A : Around} {outer : List PySem.Env} {s : Shared} {H : Hp} {E : XK} : Takes (bodyCx P w K mg base N qual scope f cdv A outer s H E) (bodyW E) := takes_of rfl rfl rfl rfl
theorem bodyPo {cdv : Value} {A : Around} {outer : List PySem.Env} {s : Shared} {H : Hp} {E : XK} : PassesOwn (model P w) (A.deeper (envOfC qual scope s.heap.objs.size f cdv)) (envOfC qual scope s.heap.objs.size f cdv) (bodyCx P w K mg base N qual scope f cdv A outer s H E).xe := passes_of (X := bodyCx P w K mg base N qual scope f cdv A outer s H E) rfl
theorem fn_dl (F : FunD K x qual params body scope dvs kws f fd) (S : FnScope N ps scope)
    (hb : ∀ (cdv : Value) (A : Around) (outer : List PySem.Env) (s : Shared) (H : Hp) (E : XK), RoomG k (A.deeper (envOfC qual scope s.heap.objs.size f cdv)) → DSs (bodyCx P w K mg base N qual scope f cdv A outer s H E) (bodyW E) [] [] body fb O') :
    FnG P w K mg base (L2.CX P w) (k + 1) f fd ps (Pm K mg ps.length (runS N.length fb)) :=
  fnG_of F S (fun h => h.1) fun cdv A outer s H vs Q E _ hr h => by
    obtain ⟨_, g, st, ds, w', r, h⟩ := h
    refine ⟨_, hb cdv A outer s H E hr, g, H, g, st, startE N.length ds, w', start_rel r, fun i a hi => absurd hi (by simp), .refl g H, ?_⟩
    have h : aftP K mg g H Q E (endS (fb (startE N.length ds) st)) := h
    cases q : fb (startE N.length ds) st with
    | nx ρ s' => rw [q] at h; exact fun σ g' H' w1 _ _ e1 => h .non g' H' w1 e1 .non
    | rt d s' => rw [q] at h; exact fun v g' H' w1 e1 r1 => h v g' H' w1 e1 r1
    | ex x s' => rw [q] at h; exact fun cls dd σ g' H' w1 e1 r1 => h cls dd g' H' w1 e1 r1
    | bk _ _ => rw [q] at h; exact h.elim
    | ct _ _ => rw [q] at h; exact h.elim
    | bad => rw [q] at h; exact h.elim
theorem dcal_of {dd : List D} {ds : List Value} {dv : List V} (F : FunD K x qual params body scope dvs kws f fd) (hm : mg x = some (.ref f)) (b : Binds K fd ps ds) (d : Vals dv ds) (dr : ∀ g, Reps K mg g dv dd) (S : FnScope N ps scope)
    (hb : ∀ (cdv : Value) (A : Around) (outer : List PySem.Env) (s : Shared) (H : Hp) (E : XK), RoomG k (A.deeper (envOfC qual scope s.heap.objs.size f cdv)) → DSs (bodyCx P w K mg base N qual scope f cdv A outer s H E) (bodyW E) [] [] body fb O') :
    DCal P w K mg base (k + 1) x ps.length (runS N.length fb) dd := ⟨f, fd, ps, ds, dv, fn_dl F S hb, hm, F.kp, b, d, dr⟩
end
end DL

/-! # DL: __init__ by its body; instances made -/
namespace DL
open PySem PySem.Spec PyProof.Rows L2
abbrev Fs := List (Str × D)
abbrev InitM := Fs → Env → M Fs
/-- in its place, or at the end -/
def putFD (f : Str) (d : D) : Fs → Fs
  | [] => [(f, d)]
  | (g, y) :: r => if g = f then (g, d) :: r else (g, y) :: putFD f d r
def iNil : InitM := fun fs _ => pure fs
def iSelf (f : Str) (fe : Env → M D) (k : InitM) : InitM := fun fs ρ => fe ρ >>= fun d => if fs.length < 1000 then k (putFD f d fs) ρ else bad
def iSet (i : Nat) (fe : Env → M D) (k : InitM) : InitM := fun fs ρ => fe ρ >>= fun d => k fs (ρ.set i (some d))
def iDrop (fe : Env → M D) (k : InitM) : InitM := fun fs ρ => fe ρ >>= fun _ => k fs ρ
def iIf (ft : Env → M Bool) (fb : Sm) (k : InitM) : InitM := fun fs ρ => ft ρ >>= fun b => if b = true then (fun s => match fb ρ s with
  | .ex x s' => .ex x s'
  | _ => .bad) else k fs ρ
section
variable (K : PySem.W.Frag) (mg : Str → Option Value)
/-- an instance at x with these fields -/
structure InsAt (g : Gh) (H : Hp) (C : Str) (A x dx : Addr) (fs : Fs) : Prop where
  fz : g.fz x = none
  io : x ∉ g.io
  at_ : ∃ vfs, H x = some (.ins A dx vfs) ∧ RepH K mg g (.ins A dx vfs) (.ins C fs)
def aftI (W : Value → Option Addr → Hp → Prop) (C : Str) (A x dx : Addr) (g0 : Gh) (P : Hp) (Q : Hp → Prop) : Res Fs → Prop
  | .ok fs s' => ∀ g' H', World K mg g' s' H' → Ext g0 P g' H' → InsAt K mg g' H' C A x dx fs → Q H'
  | .ex xx s' => ∀ cls dd g' H', World K mg g' s' H' → Ext g0 P g' H' → RepX K mg g' H' cls dd xx → W cls dd H'
  | .bad => False
def tSI (W : WX) (C : Str) (k : InitM) : TS := fun D' σ H => ∃ g0 P g s ρ fs A x dx, World K mg g s H ∧ EnvRel K mg g [] ρ σ H ∧ Ext g0 P g H ∧ P x = none ∧ σ[0]? = some (some (.ref x)) ∧ InsAt K mg g H C A x dx fs ∧
  aftI K mg (fun cls dd H => ∀ σ, W cls dd σ H) C A x dx g0 P (fun H => ∀ σ, D'.nx σ H) (k fs ρ s)
end
abbrev DSI (X : Cx) (W : WX) (C : Str) (sts : List Stmt) (k : InitM) : Prop := PSs X sts (tSI X.K X.mg W C k)
section
variable {K : PySem.W.Frag} {mg : Str → Option Value} {W : WX} {C : Str} {O : List Nat} {g0 g g' : Gh} {P H H' : Hp} {A x dx : Addr} {fs : Fs} {s : Sto} {ρ : Env} {σ : L2.St} {D' : Ends}
theorem InsAt.ext (i : InsAt K mg g H C A x dx fs) (e : Ext g H g' H') : InsAt K mg g' H' C A x dx fs := by
  obtain ⟨h1, h2, vfs, h3, h4⟩ := i
  exact ⟨e.fzN h3 h1, e.ioN h3 h2, vfs, e.keep _ _ h3 h2, h4.le e.le⟩
/-- a part of the tail, then the rest -/
theorem aftI_step {β α : Type} {R : RR β α} {Q : β → Hp → Prop} {m : M α} {k : α → M Fs} (w : World K mg g s H) (e : Ext g0 P g H) (h : aftI K mg (fun cls dd H => ∀ σ, W cls dd σ H) C A x dx g0 P (fun H => ∀ σ, D'.nx σ H) ((m >>= k) s))
    (hk : ∀ a s1 b g1 H1, World K mg g1 s1 H1 → Ext g H g1 H1 → Ext g0 P g1 H1 → R H g1 H1 b a → aftI K mg (fun cls dd H => ∀ σ, W cls dd σ H) C A x dx g0 P (fun H => ∀ σ, D'.nx σ H) (k a s1) → Q b H1) : aft K mg R W g H σ Q (m s) := by
  cases q : m s with
  | ok a s1 => rw [bind_ok q] at h; exact fun b g1 H1 w1 e1 r1 => hk a s1 b g1 H1 w1 e1 (e.trans w e1) r1 h
  | ex xx s1 => rw [bind_ex q] at h; exact fun cls dd g1 H1 w1 e1 rx => h cls dd g1 H1 w1 (e.trans w e1) rx σ
  | bad => rw [bind_bad q] at h; exact h
theorem putF_rep {f : Str} {v : V} {d : D} (rv : Rep K mg g v d) : ∀ {vfs : List (Str × V)} {fs : Fs}, vfs.map (·.1) = fs.map (·.1) → Reps K mg g (vfs.map (·.2)) (fs.map (·.2)) →
    (putF f v vfs).map (·.1) = (putFD f d fs).map (·.1) ∧ Reps K mg g ((putF f v vfs).map (·.2)) ((putFD f d fs).map (·.2))
  | [], [], _, _ => ⟨rfl, .one rv⟩
  | [], _ :: _, h, _ => nomatch h
  | _ :: _, [], h, _ => nomatch h
  | (a, y) :: xs, (b, z) :: ys, h, r => by
    simp only [List.map_cons] at h r
    injection h with h1 h2
    cases r with
    | cons r1 r2 =>
      subst h1
      obtain ⟨i1, i2⟩ := putF_rep (f := f) rv h2 r2
      unfold putF putFD
      by_cases q : a = f
      · rw [if_pos q, if_pos q]; exact ⟨by simp only [List.map_cons]; rw [h2], .cons rv r2⟩
      · rw [if_neg q, if_neg q]; exact ⟨by simp only [List.map_cons]; rw [i1], .cons r1 i2⟩
theorem putFD_keys {f : Str} {d : D} : ∀ {fs : Fs} {n : Str}, n ∈ (putFD f d fs).map (·.1) → n = f ∨ n ∈ fs.map (·.1)
  | [], n, h => by simp [putFD] at h; exact .inl h
  | (a, y) :: xs, n, h => by
    unfold putFD at h
    by_cases q : a = f
    · rw [if_pos q] at h
      rcases List.mem_cons.mp h with h | h
      · exact .inl (h.trans q)
      · exact .inr (List.mem_cons_of_mem _ h)
    · rw [if_neg q] at h
      rcases List.mem_cons.mp h with h | h
      · exact .inr (by rw [h]; exact List.mem_cons_self)
      · rcases putFD_keys h with h | h
        · exact .inl h
        · exact .inr (List.mem_cons_of_mem _ h)
end
section
variable {X : Cx} {W : WX} {C : Str} {Ob O O1 : List Nat} {st : Stmt} {sts body : List Stmt} {e c : Expr} {fe : Env → M D} {ft : Env → M Bool} {fb : Sm} {k : InitM} {pos pos' px : Pos}
theorem nilN {P : Hp} {ρ : Env} {σ : L2.St} : OwnNew P [] ρ σ := fun i a hi => absurd hi (by simp)
theorem nilE {K : PySem.W.Frag} {mg : Str → Option Value} {g g' : Gh} {ρ : Env} {σ : L2.St} {H H' : Hp} (r : EnvRel K mg g [] ρ σ H) (h : g.Le g') : EnvRel K mg g' [] ρ σ H' :=
  ⟨r.len, fun i d hi h' => by
    obtain ⟨v, h1, h2⟩ := r.fr i d hi h'
    exact ⟨v, h1, h2.le h⟩, fun i d hi => absurd hi (by simp), fun i j a hi => absurd hi (by simp)⟩
theorem dsi_nil : DSI X W C [] iNil := pssI pss_nil fun D' σ H ⟨g0, P, g, s, ρ, fs, A, x, dx, w, r, e, hp, hσ, hi, h⟩ => h g H w e hi σ
/-- self.f = e -/
theorem dsi_self {sf f : Str} (na : ∀ A, X.mg C = some (.ref A) → NoAttr X.K A f) (he : DE X W [] e fe) (hr : DSI X W C sts k) (hN : X.N[0]? = some sf := by rfl)
    (hv : Vis X.env.scope sf := by first | exact Or.inl rfl | exact Or.inr (Or.inl rfl) | exact Or.inr (Or.inr rfl)) (hd : (sf == ("__debug__" : Str)) = false := by decide) (hcd : (sf == ("__classdict__" : Str)) = false := by decide)
    (hs : swapsWith e (some (.Attribute (.Name sf px) f pos')) pos.line X.env = pure false := by rfl) : DSI X W C (.Assign [.Attribute (.Name sf px) f pos'] e pos :: sts) (iSelf f fe k) :=
  pssI (pss_cons (ps_fld (pe_var hN hv hd hcd) he hs) hr) fun D' σ H ⟨g0, P, g, s, ρ, fs, A, x, dx, w, r, e, hp, hσ, hi, h⟩ =>
    ⟨g, s, ρ, w, r, aftI_step w e h fun d s1 v g1 H1 w1 e1 e1' rv h1 => by
      obtain ⟨k1, k2, vfs, k3, kf, kk, kr⟩ := hi.ext e1
      by_cases hl : fs.length < 1000
      · rw [if_pos hl] at h1
        have lv : vfs.length = fs.length := by have := congrArg List.length kk; simpa using this
        refine ⟨.ref x, hσ, x, A, dx, vfs, rfl, k3, kf.cf.cls, na A kf.mg, by rw [lv]; exact hl, ?_⟩
        have rp := putF_rep (f := f) (rv : Rep _ _ _ _ _) kk kr
        refine ⟨g0, P, g1, s1, ρ, putFD f d fs, A, x, dx, w1.updOwn k1 k2, nilE r e1.le, e1'.updOwn hp, hp, hσ, ⟨k1, k2, _, upd_same, ⟨kf.mg, kf.cf, fun y hy => ?_⟩, rp⟩, h1⟩
        rcases putFD_keys hy with hy | hy
        · rw [hy]; exact na A kf.mg
        · exact kf.na y hy
      · rw [if_neg hl] at h1; exact h1.elim⟩
/-- name = e -/
theorem dsi_asg {te : TE} {i : Nat} (h1 : PS X st (tAsg te (gName i))) (ht : ∀ σ H Q, tG X.K X.mg (RE X.K X.mg) W [] fe σ H Q → te σ H Q) (hr : DSI X W C sts k) (hi0 : i ≠ 0 := by decide) : DSI X W C (st :: sts) (iSet i fe k) :=
  pssI (pss_cons h1 hr) fun D' σ H ⟨g0, P, g, s, ρ, fs, A, x, dx, w, r, e, hp, hσ, hi, h⟩ =>
    ht _ _ _ ⟨g, s, ρ, w, r, aftI_step w e h fun d s1 v g1 H1 w1 e1 e1' rv h1 =>
      ⟨g0, P, g1, s1, ρ.set i (some d), fs, A, x, dx, w1, (r.ext e1).setF (by simp) rv, e1', hp, by rw [List.getElem?_set_ne hi0]; exact hσ, hi.ext e1, h1⟩⟩
theorem dsi_set {x : Str} (i : Nat) (he : DE X W [] e fe) (hr : DSI X W C sts k) (hi0 : i ≠ 0 := by decide) (hN : X.N.Nodup := by assumption) (hi : X.N[i]? = some x := by rfl) (hx : Loc X.env.scope x := by first | exact Or.inl rfl | exact Or.inr rfl) (hs : swapsWith e (some (.Name x pos')) pos.line X.env = pure false := by rfl)
    (hf : X.fn x = true ∨ X.env.scope.names.lookup x = some .local := by first | exact .inl rfl | exact .inr rfl) : DSI X W C (.Assign [.Name x pos'] e pos :: sts) (iSet i fe k) :=
  dsi_asg (ps_set hN hi hx he hs hf) (fun _ _ _ h => h) hr hi0
theorem dsi_drop (he : DE X W [] e fe) (hr : DSI X W C sts k) (hs : swapsWith e none pos.line X.env = pure false := by rfl) : DSI X W C (.Expr e pos :: sts) (iDrop fe k) :=
  pssI (pss_cons (ps_expr he hs) hr) fun D' σ H ⟨g0, P, g, s, ρ, fs, A, x, dx, w, r, e, hp, hσ, hi, h⟩ =>
    ⟨g, s, ρ, w, r, aftI_step w e h fun d s1 v g1 H1 w1 e1 e1' rv h1 => ⟨g0, P, g1, s1, ρ, fs, A, x, dx, w1, r.ext e1, e1', hp, hσ, hi.ext e1, h1⟩⟩
/-- if c: what never falls through -/
theorem dsi_if (hc : DT X W [] c ft) (hb : DSs X W Ob [] body fb O1) (hr : DSI X W C sts k) : DSI X W C (.If c body [] pos :: sts) (iIf ft fb k) :=
  pssI (pss_cons (ps_if hc hb pss_nil) hr) fun D' σ H ⟨g0, P, g, s, ρ, fs, A, x, dx, w, r, e, hp, hσ, hi, h⟩ =>
    ⟨g, s, ρ, w, r, aftI_step w e h fun b s1 b' g1 H1 w1 e1 e1' rb h1 => by
      have rb : b' = b := rb
      subst rb
      cases b' with
      | false =>
        simp only [Bool.false_eq_true, if_false] at h1 ⊢
        exact ⟨g0, P, g1, s1, ρ, fs, A, x, dx, w1, r.ext e1, e1', hp, hσ, hi.ext e1, h1⟩
      | true =>
        simp only [if_true] at h1 ⊢
        refine ⟨g0, P, g1, s1, ρ, w1, r.ext e1, nilN, e1', ?_⟩
        cases q : fb ρ s1 with
        | ex xx s2 => simp only [q] at h1; exact fun cls dd σ g2 H2 w2 e2 rx => h1 cls dd g2 H2 w2 e2 rx σ
        | _ => simp only [q] at h1; exact h1.elim⟩
end
/-! ### __init__ as a def; the class made -/
def PmI (K : PySem.W.Frag) (mg : Str → Option Value) (n : Nat) (C : Str) (m : List D → M Fs) : Sp := fun vs H Q E => vs.length = n + 1 ∧ ∃ g0 P g s x A dx ws ds, vs = .ref x :: ws ∧ World K mg g s H ∧ Ext g0 P g H ∧ P x = none ∧ InsAt K mg g H C A x dx [] ∧ Reps K mg g ws ds ∧
  aftI K mg E C A x dx g0 P (Q .non) (m ds s)
structure DMak (P : Program) (w : PySem.World) (K : PySem.W.Frag) (mg : Str → Option Value) (base : Heap) (k : Nat) (C : Str) (n : Nat) (m : List D → M Fs) (ks : List Str) : Prop where
  ex : ∃ (A f : Addr) (fd : FuncData) (ps : List Str), FnG P w K mg base (L2.CX P w) k f fd ps (PmI K mg n C m) ∧ Mk K A f ∧ mg C = some (.ref A) ∧ ClsF K A ∧ Binds K fd ps [] ∧ ps.length = n + 1 ∧ KBinds K fd ps ks (fun us ws => us ++ ws) (fun us ws => us ++ ws)
end DL

/-! # DL: instances made -/
namespace DL
open PySem PySem.Spec PyProof.Rows L2
def permD {α : Type} (pm : List Nat) (zs : List α) : List α := pm.filterMap fun i => zs[i]?
theorem perm_rep {K : PySem.W.Frag} {mg : Str → Option Value} {g : Gh} {vs : List V} {ds : List D} (r : Reps K mg g vs ds) : ∀ pm : List Nat, Reps K mg g (permD pm vs) (permD pm ds)
  | [] => .nil
  | i :: pm => by
    have ih := perm_rep r pm
    unfold permD at ih ⊢
    rw [List.filterMap_cons, List.filterMap_cons]
    cases q : ds[i]? with
    | none =>
      have : vs[i]? = none := by rw [List.getElem?_eq_none_iff, r.length]; exact List.getElem?_eq_none_iff.mp q
      rw [this]; exact ih
    | some d =>
      obtain ⟨v, h1, h2⟩ := r.get q
      rw [h1]; exact .cons h2 ih
/-- a class that may be made: by place; by keywords (written in the order ks, pm puts them in the parameters' order) -/
structure DMk (P : Program) (w : PySem.World) (K : PySem.W.Frag) (mg : Str → Option Value) (base : Heap) (k : Nat) (C : Str) (n : Nat) (m : List D → M Fs) : Prop where
  ex : ∃ (A f : Addr) (fd : FuncData) (ps : List Str), FnG P w K mg base (L2.CX P w) k f fd ps (PmI K mg n C m) ∧ Mk K A f ∧ mg C = some (.ref A) ∧ ClsF K A ∧ Binds K fd ps []
structure DMkK (P : Program) (w : PySem.World) (K : PySem.W.Frag) (mg : Str → Option Value) (base : Heap) (k : Nat) (C : Str) (ks : List Str) (pm : List Nat) (m : List D → M Fs) : Prop where
  ex : ∃ (A f : Addr) (fd : FuncData) (ps : List Str), FnG P w K mg base (L2.CX P w) k f fd ps (PmI K mg ks.length C m) ∧ Mk K A f ∧ mg C = some (.ref A) ∧ ClsF K A ∧ KBn K fd ps 1 ks (fun us ws => us ++ permD pm ws) (fun us ws => us ++ permD pm ws)
def mkF (C : Str) (m : List D → M Fs) : List D → M D := fun ds => m ds >>= fun fs => pure (.ins C fs)
def mkS (C : Str) (m : List D → M Fs) : List D → M D := fun ds => m ds >>= fun fs => newO (.ins C fs)
section
variable {K : PySem.W.Frag} {mg : Str → Option Value} {W : WX} {C : Str} {g : Gh} {H : Hp} {s : Sto} {σ : L2.St} {Q : VK} {n : Nat} {m : List D → M Fs}
/-- the promise of __init__ at a new instance, its value known from then on -/
theorem make_F {A x dx : Addr} {vs : List V} {ds : List D} (w : World K mg g s H) (r : Reps K mg g vs ds) (hl : vs.length = n) (hm : mg C = some (.ref A)) (cf : ClsF K A) (h : aft K mg (RE K mg) W g H σ Q (mkF C m ds s)) (hx : H x = none) (hd : H dx = none) (hn : dx ≠ x) :
    PmI K mg n C m (.ref x :: vs) (upd (upd H dx (.own x)) x (.ins A dx [])) (fun v H2 => v = .non ∧ Q (.ref x) H2) (WE W σ) := by
  have w1 := w.new (o := .own x) hd
  have e1 := Ext.new (o := .own x) w hd
  have hx1 : (upd H dx (.own x)) x = none := by rw [upd_ne (Ne.symm hn)]; exact hx
  have w2 := w1.new (o := .ins A dx []) hx1
  have e2 := e1.trans w1 (Ext.new (o := .ins A dx []) w1 hx1)
  refine ⟨by rw [List.length_cons, hl], g, H, g, s, x, A, dx, vs, ds, rfl, w2, e2, hx, ⟨w.fz_none hx, w.io_none hx, [], upd_same, ⟨hm, cf, fun f hf => absurd hf (by simp)⟩, rfl, .nil⟩, r, ?_⟩
  unfold mkF at h
  cases q : m ds s with
  | bad => rw [bind_bad q] at h; exact h.elim
  | ex xx s' => rw [bind_ex q] at h; exact fun cls dd g' H' w' e' rx => h cls dd g' H' w' e' rx
  | ok fs s' =>
    rw [bind_ok q] at h
    intro g' H' w' e' ⟨k1, k2, vfs, k3, kf, kk, kr⟩
    have le := Gh.le_add (o := .ins A dx vfs) k1
    exact ⟨rfl, h (.ref x) (g'.add x (.ins A dx vfs)) H' (w'.freeze k3 k1 k2) (e'.addNew hx k1) (.ins Gh.add_at kf kk (kr.le le))⟩
theorem make_S {A x dx : Addr} {vs : List V} {ds : List D} (w : World K mg g s H) (r : Reps K mg g vs ds) (hl : vs.length = n) (hm : mg C = some (.ref A)) (cf : ClsF K A) (h : aft K mg (RE K mg) W g H σ Q (mkS C m ds s)) (hx : H x = none) (hd : H dx = none) (hn : dx ≠ x) :
    PmI K mg n C m (.ref x :: vs) (upd (upd H dx (.own x)) x (.ins A dx [])) (fun v H2 => v = .non ∧ Q (.ref x) H2) (WE W σ) := by
  have w1 := w.new (o := .own x) hd
  have e1 := Ext.new (o := .own x) w hd
  have hx1 : (upd H dx (.own x)) x = none := by rw [upd_ne (Ne.symm hn)]; exact hx
  have w2 := w1.new (o := .ins A dx []) hx1
  have e2 := e1.trans w1 (Ext.new (o := .ins A dx []) w1 hx1)
  refine ⟨by rw [List.length_cons, hl], g, H, g, s, x, A, dx, vs, ds, rfl, w2, e2, hx, ⟨w.fz_none hx, w.io_none hx, [], upd_same, ⟨hm, cf, fun f hf => absurd hf (by simp)⟩, rfl, .nil⟩, r, ?_⟩
  unfold mkS at h
  cases q : m ds s with
  | bad => rw [bind_bad q] at h; exact h.elim
  | ex xx s' => rw [bind_ex q] at h; exact fun cls dd g' H' w' e' rx => h cls dd g' H' w' e' rx
  | ok fs s' =>
    rw [bind_ok q] at h
    intro g' H' w' e' ⟨k1, k2, vfs, k3, kf, kk, kr⟩
    refine ⟨rfl, h (.ref x) _ H' (w'.alloc (ho := .ins A dx vfs) (c := .ins C fs) k3 k1 k2 ⟨kf, kk, kr⟩) (e'.alloc hx) (.obj ?_)⟩
    show (g'.io ++ [x])[s'.length]? = some x
    rw [← w'.len]; simp
end
/-- keywords' values -/
abbrev DKW (X : Cx) (W : WX) (O : List Nat) (kws : List Keyword) (f : Env → M (List D)) : Prop := PK X kws (tG X.K X.mg (RA X.K X.mg kws.length) W O f)
theorem pkI {X : Cx} {kws : List Keyword} {t t' : TA} (h : PK X kws t) (hi : ∀ σ H Q, t' σ H Q → t σ H Q) : PK X kws t' := ⟨fun pos pins s σ H Q I hw => h.run pos pins s σ H Q I (hi σ H Q hw)⟩
section
variable {X : Cx} {W : WX} {O : List Nat} {e : Expr} {es : List Expr} {kws : List Keyword} {fe : Env → M D} {fl : Env → M (List D)} {pos p kpos : Pos} {C : Str} {k j n : Nat} {m : List D → M Fs} {nm : Option Str} {ks : List Str} {pm : List Nat}
theorem dk_nil : DKW X W O [] (fun _ => pure []) := pkI pk_nil fun σ H Q ⟨g, s, ρ, w, er, h⟩ => aft_ret w h ⟨.nil, rfl⟩
theorem dk_cons (he : DE X W O e fe) (hr : DKW X W O kws fl) : DKW X W O (⟨nm, e, kpos⟩ :: kws) (fun ρ => fe ρ >>= fun d => fl ρ >>= fun ds => pure (d :: ds)) :=
  pkI (pk_cons he hr) fun σ H Q ⟨g, s, ρ, w, er, h⟩ => ⟨g, s, ρ, w, er, aft_step RA.back w h fun d s1 x g1 H1 w1 e1 r1 h1 => ⟨g1, s1, ρ, w1, er.ext e1, aft_step RA.back w1 h1 fun ds s2 xs g2 H2 w2 e2 r2 h2 =>
    aft_ret w2 h2 ⟨.cons (r1.le e2.le) r2.1, by rw [List.length_cons, List.length_cons, r2.2]⟩⟩⟩
/-- a new instance at the heap's end, its __init__ run: all are the values of __init__'s parameters -/
theorem run_new {CX : CXT} {A f : Addr} {fd : FuncData} {ps : List Str} {sp : Sp} {E : L2.St → XK} {pins : List (Addr × Obj)} {σ : L2.St} {H : Hp} {s : Shared} {Q : VK} {pos all : List Value} {kw : List (Str × Value)} {vall : List V} (M : Mk X.K A f) (F : FnG X.prog X.w X.K X.mg X.base CX k f fd ps sp) (hr : RoomG (k + 1) X.A)
    (hx : PassesAt CX X σ (E σ)) (I : Inv X pins σ H s) (hb : ∀ s', X.K.In s'.heap → BindsTo s' fd ⟨Value.ref (s.heap.objs.size + 1) :: pos, kw⟩ (ps.zip all)) (r : Vals vall all)
    (h : sp vall (upd (upd H s.heap.objs.size (.own (s.heap.objs.size + 1))) (s.heap.objs.size + 1) (.ins A s.heap.objs.size [])) (fun v H2 => v = .non ∧ Q (.ref (s.heap.objs.size + 1)) H2) (E σ)) :
    wpAny (model X.prog X.w) X.A (call (.ref A) pos kw) (EP X pins σ Q) X.xe s := by
  have J := Inv.made (C := A) I
  have run := F.go (hr.make A pos kw) (J.env0.make A pos kw) (hb _ J.kIn) r h
  apply wpAny_call
  apply make_map (f := f) I.kIn M.makes M.init (beq_iff_eq.mp M.fn)
  refine codeAny_mono run fun r s' q => ?_
  match r, q with
  | .error e, q => exact hx pins _ _ e s' J q
  | .ok (.ret u), q =>
    obtain ⟨_, H', I3, rv, rfl, q3⟩ := J.after q
    exact ⟨rv, .ref (s.heap.objs.size + 1), H', I3, rfl, q3⟩
/-- the two new addresses -/
theorem new_two {pins : List (Addr × Obj)} {σ : L2.St} {H : Hp} {s : Shared} (I : Inv X pins σ H s) {R : Addr → Addr → Prop} (h : ∀ x dx, H x = none → H dx = none → dx ≠ x → R x dx) : R (s.heap.objs.size + 1) s.heap.objs.size :=
  h _ _ (I.hok.fresh (Nat.le_succ _)) (I.hok.fresh (Nat.le_refl _)) (Nat.ne_of_lt (Nat.lt_succ_self _))
theorem run_makeSD {CX : CXT} {A f : Addr} {fd : FuncData} {ps : List Str} {sp : Sp} {E : L2.St → XK} {pins : List (Addr × Obj)} {σ : L2.St} {H : Hp} {s : Shared} {Q : VK} {us : List Value} {vs : List V} (M : Mk X.K A f) (F : FnG X.prog X.w X.K X.mg X.base CX k f fd ps sp) (hr : RoomG (k + 1) X.A) (hb : Binds X.K fd ps [])
    (hx : PassesAt CX X σ (E σ)) (I : Inv X pins σ H s) (r : Vals vs us)
    (h : ∀ x dx, H x = none → H dx = none → dx ≠ x → sp (.ref x :: vs) (upd (upd H dx (.own x)) x (.ins A dx [])) (fun v H2 => v = .non ∧ Q (.ref x) H2) (E σ)) :
    wpAny (model X.prog X.w) X.A (call (.ref A) us) (EP X pins σ Q) X.xe s := by
  have want := new_two I (R := fun x dx => sp (.ref x :: vs) (upd (upd H dx (.own x)) x (.ins A dx [])) (fun v H2 => v = .non ∧ Q (.ref x) H2) (E σ)) h
  have all : Vals (V.ref (s.heap.objs.size + 1) :: vs) (Value.ref (s.heap.objs.size + 1) :: us) := .cons rfl r
  refine run_new M F hr hx I (fun s' kin => ?_) all want
  have z := hb s' (Value.ref (s.heap.objs.size + 1) :: us) kin (by rw [List.append_nil, ← all.length]; exact F.len want)
  rwa [List.append_nil] at z
theorem run_makeKD {CX : CXT} {A f : Addr} {fd : FuncData} {ps : List Str} {sp : Sp} {E : L2.St → XK} {g : List Value → List Value → List Value} {gV : List V → List V → List V} {pins : List (Addr × Obj)} {σ : L2.St} {H : Hp} {s : Shared} {Q : VK} {ws : List Value} {zs : List V} (M : Mk X.K A f) (F : FnG X.prog X.w X.K X.mg X.base CX k f fd ps sp) (hr : RoomG (k + 1) X.A) (hb : KBn X.K fd ps 1 ks g gV)
    (hx : PassesAt CX X σ (E σ)) (I : Inv X pins σ H s) (rz : Vals zs ws) (l2 : zs.length = ks.length)
    (h : ∀ x dx, H x = none → H dx = none → dx ≠ x → sp (gV [.ref x] zs) (upd (upd H dx (.own x)) x (.ins A dx [])) (fun v H2 => v = .non ∧ Q (.ref x) H2) (E σ)) :
    wpAny (model X.prog X.w) X.A (call (.ref A) [] (ks.zip ws)) (EP X pins σ Q) X.xe s :=
  run_new M F hr hx I (fun s' kin => hb.to s' [Value.ref (s.heap.objs.size + 1)] ws kin rfl (rz.length.symm.trans l2)) (hb.rel (show Vals [V.ref (s.heap.objs.size + 1)] [Value.ref (s.heap.objs.size + 1)] from .cons rfl .nil) rz)
    (new_two I (R := fun x dx => sp (gV [.ref x] zs) (upd (upd H dx (.own x)) x (.ins A dx [])) (fun v H2 => v = .non ∧ Q (.ref x) H2) (E σ)) h)
theorem de_makeF (c : DMk X.prog X.w X.K X.mg X.base k C n m) (hr : RoomG j X.A) (tk : Takes X W) (ha : DA X W O (e :: es) fl) (hn : (e :: es).length = n := by rfl) (hk : k + 1 ≤ j := by decide) (hg : Gl X C := by rfl) (hdb : (C == ("__debug__" : Str)) = false := by decide)
    (he : starEach (e :: es) X.env = (false, eval e X.env) :: starEach es X.env := by rfl) (hpl : (backTo pos (starEach es X.env)).any (·.1) = false := by rfl) : DE X W O (.Call (.Name C p) (e :: es) [] pos) (fun ρ => fl ρ >>= fun ds => mkF C m ds) := by
  obtain ⟨A, f, fd, ps, F, M, hm, cf, b⟩ := c.ex
  refine ⟨fun pins s σ H Q I ⟨g, st, ρ, w, er, h⟩ => ?_⟩
  refine wpAny_Call_Name_kw (ld_glob I hg hm ?_ hdb)
  have ht : tG X.K X.mg (RA X.K X.mg (e :: es).length) W O fl σ H (fun vs H1 => ∀ x dx, H1 x = none → H1 dx = none → dx ≠ x → PmI X.K X.mg n C m (.ref x :: vs) (upd (upd H1 dx (.own x)) x (.ins A dx [])) (fun v H2 => v = .non ∧ Q (.ref x) H2) (WE W σ)) :=
    ⟨g, st, ρ, w, er, aft_step RE.back w h fun ds s1 vs g1 H1 w1 e1 r1 h1 x dx hx hd hne => make_F w1 r1.1 (r1.2.trans hn) hm cf h1 hx hd hne⟩
  refine PySem.W.callWith_K (h₀ := X.base) I.ok.mod.kin M.kp (thn (ha.run pos pins s σ H _ I ht) fun us s1 ⟨vs, H1, I1, r, q⟩ => ⟨I1.kIn, ?_⟩) he hpl
  exact run_makeSD M F (hr.mono hk) b (passAt tk σ) I1 r q
theorem de_makeS (c : DMk X.prog X.w X.K X.mg X.base k C n m) (hr : RoomG j X.A) (tk : Takes X W) (ha : DA X W O (e :: es) fl) (hn : (e :: es).length = n := by rfl) (hk : k + 1 ≤ j := by decide) (hg : Gl X C := by rfl) (hdb : (C == ("__debug__" : Str)) = false := by decide)
    (he : starEach (e :: es) X.env = (false, eval e X.env) :: starEach es X.env := by rfl) (hpl : (backTo pos (starEach es X.env)).any (·.1) = false := by rfl) : DE X W O (.Call (.Name C p) (e :: es) [] pos) (fun ρ => fl ρ >>= fun ds => mkS C m ds) := by
  obtain ⟨A, f, fd, ps, F, M, hm, cf, b⟩ := c.ex
  refine ⟨fun pins s σ H Q I ⟨g, st, ρ, w, er, h⟩ => ?_⟩
  refine wpAny_Call_Name_kw (ld_glob I hg hm ?_ hdb)
  have ht : tG X.K X.mg (RA X.K X.mg (e :: es).length) W O fl σ H (fun vs H1 => ∀ x dx, H1 x = none → H1 dx = none → dx ≠ x → PmI X.K X.mg n C m (.ref x :: vs) (upd (upd H1 dx (.own x)) x (.ins A dx [])) (fun v H2 => v = .non ∧ Q (.ref x) H2) (WE W σ)) :=
    ⟨g, st, ρ, w, er, aft_step RE.back w h fun ds s1 vs g1 H1 w1 e1 r1 h1 x dx hx hd hne => make_S w1 r1.1 (r1.2.trans hn) hm cf h1 hx hd hne⟩
  refine PySem.W.callWith_K (h₀ := X.base) I.ok.mod.kin M.kp (thn (ha.run pos pins s σ H _ I ht) fun us s1 ⟨vs, H1, I1, r, q⟩ => ⟨I1.kIn, ?_⟩) he hpl
  exact run_makeSD M F (hr.mono hk) b (passAt tk σ) I1 r q
/-- C(k = v, ..) -/
theorem de_makeKS (c : DMkK X.prog X.w X.K X.mg X.base k C ks pm m) (hr : RoomG j X.A) (tk : Takes X W) (hkw : DKW X W O kws fl) (hn : kws.length = ks.length := by rfl) (hpm : ∀ zs : List V, zs.length = ks.length → (permD pm zs).length = ks.length) (hk : k + 1 ≤ j := by decide) (hg : Gl X C := by rfl) (hdb : (C == ("__debug__" : Str)) = false := by decide)
    (hall : (backToKw pos (keywordEach kws X.env)).all (·.1.isSome) = true := by rfl) (hks : (backToKw pos (keywordEach kws X.env)).filterMap (·.1) = ks := by rfl)
    (hpl : ((backTo pos (starEach [] X.env)).any (·.1) || (backToKw pos (keywordEach kws X.env)).any (·.1.isNone)) = false := by rfl) : DE X W O (.Call (.Name C p) [] kws pos) (fun ρ => fl ρ >>= fun ds => mkS C m (permD pm ds)) := by
  obtain ⟨A, f, fd, ps, F, M, hm, cf, b⟩ := c.ex
  refine ⟨fun pins s σ H Q I ⟨g, st, ρ, w, er, h⟩ => ?_⟩
  refine wpAny_Call_Name_kw (ld_glob I hg hm ?_ hdb)
  have ht : tG X.K X.mg (RA X.K X.mg kws.length) W O fl σ H (fun zs H1 => zs.length = ks.length ∧ ∀ x dx, H1 x = none → H1 dx = none → dx ≠ x → PmI X.K X.mg ks.length C m ([.ref x] ++ permD pm zs) (upd (upd H1 dx (.own x)) x (.ins A dx [])) (fun v H2 => v = .non ∧ Q (.ref x) H2) (WE W σ)) :=
    ⟨g, st, ρ, w, er, aft_step RE.back w h fun ds s1 vs g1 H1 w1 e1 r1 h1 => ⟨r1.2.trans hn, fun x dx hx hd hne => make_S w1 (perm_rep r1.1 pm) (hpm vs (r1.2.trans hn)) hm cf h1 hx hd hne⟩⟩
  refine PySem.W.callWith_KW0 (h₀ := X.base) I.ok.mod.kin M.kp hall (thn (hkw.run pos pins s σ H _ I ht) fun ws s1 ⟨zs, H1, I1, r, l2, q⟩ => ⟨I1.kIn, ?_⟩) hpl
  rw [hks]
  exact run_makeKD M F (hr.mono hk) b (passAt tk σ) I1 r l2 q
end
end DL

/-! # DL: __init__ -/
namespace DL
open PySem PySem.Spec PyProof.Rows L2
def startI (n : Nat) (ds : List D) : Env := (startE n (.non :: ds)).set 0 none
def initR (n : Nat) (im : InitM) : List D → M Fs := fun ds => im [] (startI n ds)
theorem EnvRel.unset {K : PySem.W.Frag} {mg : Str → Option Value} {g : Gh} {ρ : Env} {σ : L2.St} {H : Hp} (r : EnvRel K mg g [] ρ σ H) (i : Nat) : EnvRel K mg g [] (ρ.set i none) σ H :=
  ⟨by rw [List.length_set]; exact r.len, fun j d hj h => by
    by_cases q : i = j
    · subst q
      rw [List.getElem?_set] at h
      split at h
      · split at h <;> cases h
      · rename_i z; exact absurd rfl z
    · rw [List.getElem?_set_ne q] at h; exact r.fr j d hj h, fun i d hi => absurd hi (by simp), fun i j a hi => absurd hi (by simp)⟩
section
variable {P : Program} {w : PySem.World} {K : PySem.W.Frag} {mg : Str → Option Value} {base : Heap} {x qual C : Str} {params : Arguments} {body : List Stmt} {scope : Scope} {dvs : List V} {kws : List (Str × V)} {f A : Addr} {fd : FuncData} {N ps : List Str} {k n : Nat} {im : InitM}
theorem init_dl (F : FunD K x qual params body scope dvs kws f fd) (S : FnScope N ps scope) (hp : ps.length = n + 1)
    (hb : ∀ (cdv : Value) (A : Around) (outer : List PySem.Env) (s : Shared) (H : Hp) (E : XK), RoomG k (A.deeper (envOfC qual scope s.heap.objs.size f cdv)) → DSI (bodyCx P w K mg base N qual scope f cdv A outer s H E) (bodyW E) C body im) :
    FnG P w K mg base (L2.CX P w) (k + 1) f fd ps (PmI K mg n C (initR N.length im)) :=
  fnG_of F S (fun h => h.1.trans hp.symm) fun cdv A outer s H vs Q E _ hr h => by
    obtain ⟨hl, g0, P', g, st, x', A', dx, ws, ds, rfl, w', e, hx, hi, r, h⟩ := h
    refine ⟨_, hb cdv A outer s H E hr, g0, P', g, st, startI N.length ds, [], A', x', dx, w', ?_, e, hx, rfl, hi, ?_⟩
    · exact (start_rel (N := N) (.cons (.ptr x') r)).unset 0
    · show aftI K mg (fun cls dd H => ∀ _ : L2.St, E cls dd H) C A' x' dx g0 P' (fun H => ∀ _ : L2.St, Q .non H) (initR N.length im ds st)
      cases q : initR N.length im ds st with
      | ok fs s' => rw [q] at h; exact fun g' H' w e i _ => h g' H' w e i
      | ex xx s' => rw [q] at h; exact fun cls dd g' H' w e rx _ => h cls dd g' H' w e rx
      | bad => rw [q] at h; exact h
theorem dmk_of (F : FunD K x qual params body scope [] kws f fd) (S : FnScope N ps scope) (hp : ps.length = n + 1) (M : Mk K A f) (hm : mg C = some (.ref A)) (cf : ClsF K A) (b : Binds K fd ps [])
    (hb : ∀ (cdv : Value) (A : Around) (outer : List PySem.Env) (s : Shared) (H : Hp) (E : XK), RoomG k (A.deeper (envOfC qual scope s.heap.objs.size f cdv)) → DSI (bodyCx P w K mg base N qual scope f cdv A outer s H E) (bodyW E) C body im) :
    DMk P w K mg base (k + 1) C n (initR N.length im) := ⟨A, f, fd, ps, init_dl F S hp hb, M, hm, cf, b⟩
theorem kbn_of (F : FunD K x qual params body scope [] kws f fd) {ks : List Str} {pm : List Nat} (nn : Nat)
    (h : ∀ (kV doc pm' : Value) (an : Option Addr) (cdv ct : Value) (us ws : List Value), us.length = nn → ws.length = ks.length → bindArgs (PySem.W.fnOf x qual params body scope .none kV doc pm' an cdv ct) ⟨us, ks.zip ws⟩ = pure (ps.zip (us ++ permD pm ws))) :
    KBn K fd ps nn ks (fun us ws => us ++ permD pm ws) (fun us ws => us ++ permD pm ws) := by
  obtain ⟨oc, od, dV, kV, doc, pm', an, cdv, ct, osl, rfl, lk, hcd, hD, hK⟩ := F.ex
  rcases hD with ⟨_, rfl⟩ | ⟨e, _⟩
  · refine ⟨fun s us ws X l1 l2 => .of_eq (h kV doc pm' an cdv ct us ws l1 l2), fun r1 r2 => r1.append ?_⟩
    rename_i vs us zs ws
    have : ∀ pm : List Nat, Vals (permD pm zs) (permD pm ws) := fun pm => by
      induction pm with
      | nil => exact .nil
      | cons i pm ih =>
        unfold permD at ih ⊢
        rw [List.filterMap_cons, List.filterMap_cons]
        cases q : zs[i]? with
        | none =>
          have : ws[i]? = none := by rw [List.getElem?_eq_none_iff, ← r2.length]; exact List.getElem?_eq_none_iff.mp q
          rw [this]; exact ih
        | some d =>
          obtain ⟨v, h1, h2⟩ := r2.get q
          rw [h1]; exact .cons h2 ih
    exact this pm
  · exact absurd rfl e
theorem dmkK_of (F : FunD K x qual params body scope [] kws f fd) (S : FnScope N ps scope) {ks : List Str} {pm : List Nat} (hp : ps.length = ks.length + 1) (M : Mk K A f) (hm : mg C = some (.ref A)) (cf : ClsF K A)
    (b : ∀ (kV doc pm' : Value) (an : Option Addr) (cdv ct : Value) (us ws : List Value), us.length = 1 → ws.length = ks.length → bindArgs (PySem.W.fnOf x qual params body scope .none kV doc pm' an cdv ct) ⟨us, ks.zip ws⟩ = pure (ps.zip (us ++ permD pm ws)))
    (hb : ∀ (cdv : Value) (A : Around) (outer : List PySem.Env) (s : Shared) (H : Hp) (E : XK), RoomG k (A.deeper (envOfC qual scope s.heap.objs.size f cdv)) → DSI (bodyCx P w K mg base N qual scope f cdv A outer s H E) (bodyW E) C body im) :
    DMkK P w K mg base (k + 1) C ks pm (initR N.length im) := ⟨A, f, fd, ps, init_dl F S hp hb, M, hm, cf, kbn_of F 1 b⟩
end
end DL

/-! # DL: dicts written out -/
namespace DL
open PySem PySem.Spec PyProof.Rows L2
section
variable (K : PySem.W.Frag) (mg : Str → Option Value)
def RP : RR (List (V × V)) (List (Key × D)) := fun _ g _ ps es => ∃ kvs : List (Key × V), ps = kvs.map (fun kv => (kV kv.1, kv.2)) ∧ kvs.map (·.1) = es.map (·.1) ∧ Reps K mg g (kvs.map (·.2)) (es.map (·.2))
/-- a new dict -/
def RFd : RR V (List (Key × D)) := fun H g' H' v es => ∃ a kvs, v = .ref a ∧ H a = none ∧ g'.fz a = none ∧ a ∉ g'.io ∧ H' a = some (.dK kvs) ∧ kvs.map (·.1) = es.map (·.1) ∧ Reps K mg g' (kvs.map (·.2)) (es.map (·.2))
end
theorem RP.back {K : PySem.W.Frag} {mg : Str → Option Value} : (RP K mg).Back := fun _ _ _ _ _ _ _ h => h
theorem RFd.back {K : PySem.W.Frag} {mg : Str → Option Value} : (RFd K mg).Back := fun _ _ _ _ _ _ hc ⟨a, vs, h1, h2, h3⟩ => ⟨a, vs, h1, hc a h2, h3⟩
structure DPs (X : Cx) (W : WX) (O : List Nat) (pos : Pos) (keys : List (Option Expr)) (values : List Expr) (f : Env → M (List (Key × D))) : Prop where
  ex : ∃ trs, PPs X pos keys values trs ∧ ∀ σ H Q, tG X.K X.mg (RP X.K X.mg) W O f σ H Q → tPairs trs σ H Q
def keyM : D → M Key
  | .int i => pure (.inl i)
  | .str x => pure (.inr x)
  | _ => bad
def mergeD (es more : List (Key × D)) : List (Key × D) := more.foldl (fun acc kv => putD acc kv.1 kv.2) es
theorem merge_rep {K : PySem.W.Frag} {mg : Str → Option Value} {g : Gh} : ∀ {mv : List (Key × V)} {me : List (Key × D)} {kvs : List (Key × V)} {es : List (Key × D)}, mv.map (·.1) = me.map (·.1) → Reps K mg g (mv.map (·.2)) (me.map (·.2)) → kvs.map (·.1) = es.map (·.1) → Reps K mg g (kvs.map (·.2)) (es.map (·.2)) →
    (mergeK kvs mv).map (·.1) = (mergeD es me).map (·.1) ∧ Reps K mg g ((mergeK kvs mv).map (·.2)) ((mergeD es me).map (·.2))
  | [], [], _, _, _, _, h, r => ⟨h, r⟩
  | [], _ :: _, _, _, h, _, _, _ => nomatch h
  | _ :: _, [], _, _, h, _, _, _ => nomatch h
  | (k, v) :: mv, (k', d) :: me, kvs, es, hm, rm, h, r => by
    simp only [List.map_cons] at hm rm
    injection hm with h1 h2
    cases rm with
    | cons r1 r2 =>
      subst h1
      obtain ⟨p1, p2⟩ := put_rep (k := k) h r r1
      exact merge_rep (mv := mv) (me := me) h2 r2 p1 p2
section
variable {X : Cx} {W : WX} {O : List Nat} {pos : Pos} {e v : Expr} {keys : List (Option Expr)} {values : List Expr} {fk fv : Env → M D} {fp : Env → M (List (Key × D))}
theorem dps_nil : DPs X W O pos [] [] (fun _ => pure []) := ⟨[], pps_nil, fun σ H Q ⟨g, s, ρ, w, er, h⟩ => show Q [] H from aft_ret w h ⟨[], rfl, rfl, .nil⟩⟩
theorem dps_cons (hk : DE X W O e fk) (hv : DE X W O v fv) (hr : DPs X W O pos keys values fp) : DPs X W O pos (some e :: keys) (v :: values) (fun ρ => fk ρ >>= fun k => keyM k >>= fun k => fv ρ >>= fun d => fp ρ >>= fun es => pure ((k, d) :: es)) := by
  obtain ⟨trs, h1, h2⟩ := hr.ex
  refine ⟨_, pps_cons hk hv h1, fun σ H Q ⟨g, s, ρ, w, er, h⟩ => ?_⟩
  refine ⟨g, s, ρ, w, er, aft_step RP.back w h fun d s1 x g1 H1 w1 e1 r1 h1 => ?_⟩
  have nb := aft_not_bad h1
  have hkey : ∃ key, d = keyD key := by cases d <;> first | exact absurd rfl nb | exact ⟨.inl _, rfl⟩ | exact ⟨.inr _, rfl⟩
  obtain ⟨key, rfl⟩ := hkey
  have h1 : aft X.K X.mg (RP X.K X.mg) W g1 H1 σ Q ((fv ρ >>= fun d => fp ρ >>= fun es => pure ((key, d) :: es)) s1) := by cases key <;> exact h1
  have ek := rep_key (show Rep X.K X.mg g1 x (keyD key) from r1)
  subst ek
  refine ⟨g1, s1, ρ, w1, er.ext e1, aft_step RP.back w1 h1 fun d s2 y g2 H2 w2 e2 r2 hh2 => h2 σ H2 _ ⟨g2, s2, ρ, w2, (er.ext e1).ext e2, aft_step RP.back w2 hh2 fun es s3 ps g3 H3 w3 e3 r3 h3 => ?_⟩⟩
  obtain ⟨kvs, rfl, k1, k2⟩ := r3
  exact aft_ret w3 h3 ⟨(key, y) :: kvs, rfl, by simp only [List.map_cons]; rw [k1], .cons (Rep.le e3.le r2) k2⟩
theorem dd_disp (h : DPs X W O pos keys values fp) (hall : keys.all (·.isSome) = true := by rfl) (hl : keys.length = values.length := by rfl) (h0 : keys ≠ [] := by exact List.cons_ne_nil _ _) (h15 : keys.length ≤ 15 := by decide) :
    PE X (.Dict keys values pos) (tG X.K X.mg (RFd X.K X.mg) W O (fun ρ => fp ρ >>= fun es => if es.length ≤ 15 then pure (mergeD [] es) else bad)) := by
  obtain ⟨trs, h1, h2⟩ := h.ex
  refine peI (pe_disp h1 hall hl h0 h15) fun σ H Q ⟨g, s, ρ, w, er, h⟩ p hp => ?_
  have w1 := w.new (o := .dK []) hp
  have e1 := Ext.new (o := .dK []) w hp
  -- the wish, from the heap with the empty dict
  refine h2 σ _ _ ⟨g, s, ρ, w1, er.ext e1, ?_⟩
  dsimp only at h
  cases q : fp ρ s with
  | bad => rw [bind_bad q] at h; exact h.elim
  | ex x s' => rw [bind_ex q] at h; exact fun cls dd g' H' w' e' rx => h cls dd g' H' w' (e1.trans w1 e') rx
  | ok es s' =>
    rw [bind_ok q] at h
    rintro ps g2 H2 w2 e2 ⟨kvs, rfl, k1, k2⟩
    by_cases hle : es.length ≤ 15
    · rw [if_pos hle] at h
      have f0 : g2.fz p = none := e2.fzN upd_same (w.fz_none hp)
      have i0 : p ∉ g2.io := e2.ioN upd_same (w.io_none hp)
      have a0 : H2 p = some (.dK []) := e2.keep _ _ upd_same (w.io_none hp)
      have lk : kvs.length = es.length := by have := congrArg List.length k1; simpa using this
      obtain ⟨m1, m2⟩ := merge_rep (kvs := []) (es := []) k1 k2 rfl .nil
      exact ⟨a0, kvs, rfl, by rw [lk]; exact hle, h _ g2 _ (w2.updOwn f0 i0) ((e1.trans w1 e2).updOwn hp) ⟨p, _, rfl, hp, f0, i0, upd_same, m1, m2⟩⟩
    · rw [if_neg hle] at h; exact h.elim
theorem de_dict {fd : Env → M (List (Key × D))} (h : PE X e (tG X.K X.mg (RFd X.K X.mg) W O fd)) : DE X W O e (fun ρ => fd ρ >>= fun es => pure (.dct es)) :=
  peI h fun σ H Q ⟨g, s, ρ, w, er, h⟩ => ⟨g, s, ρ, w, er, by
    dsimp only at h
    cases k : fd ρ s with
    | ok ds s1 =>
      rw [bind_ok k] at h
      intro v g1 H1 w1 e1 ⟨p, kvs, ex, hn, hf, hi, hp, r1, r2⟩
      subst ex
      exact h _ (g1.add p (.dK kvs)) H1 (w1.freeze hp hf hi) (e1.addNew hn hf) (.dct (.of Gh.add_at) r1 (r2.le (Gh.le_add hf)))
    | ex x s1 => rw [bind_ex k] at h; exact h
    | bad => rw [bind_bad k] at h; exact h⟩
theorem de_dictS {fd : Env → M (List (Key × D))} (h : PE X e (tG X.K X.mg (RFd X.K X.mg) W O fd)) : DE X W O e (fun ρ => fd ρ >>= fun es => newO (.dct es)) :=
  peI h fun σ H Q ⟨g, s, ρ, w, er, h⟩ => ⟨g, s, ρ, w, er, by
    dsimp only at h
    cases k : fd ρ s with
    | ok ds s1 =>
      rw [bind_ok k] at h
      intro v g1 H1 w1 e1 ⟨p, kvs, ex, hn, hf, hi, hp, r1⟩
      subst ex
      refine h _ _ H1 (w1.alloc (ho := .dK kvs) (c := .dct ds) hp hf hi r1) (e1.alloc hn) (.obj ?_)
      show (g1.io ++ [p])[s1.length]? = some p
      rw [← w1.len]; simp
    | ex x s1 => rw [bind_ex k] at h; exact h
    | bad => rw [bind_bad k] at h; exact h⟩
end
end DL

/-! # DL: the law's end, the head's facts -/
namespace DL
open PySem PySem.Spec PyProof.Rows L2 LamX
/-- the script as a value -/
def scr (ns : List Int) : D := .frl (ns.map .int)
theorem reps_ints {K : PySem.W.Frag} {mg : Str → Option Value} {g : Gh} : ∀ ns : List Int, Reps K mg g (ns.map V.int) (ns.map D.int)
  | [] => .nil
  | i :: ns => .cons (.int i) (reps_ints ns)
/-- the store at the law's call: a table for each def that makes lambdas -/
def tab0 (qs : List (Addr × Str)) : Sto := qs.map fun p => .tab p.1 p.2
/-- what the law promises at its call: qs the tables, the names that their code objects bear -/
theorem law_sp0 {K : PySem.W.Frag} {mg : Str → Option Value} {H : Hp} {a : Addr} {ns : List Int} {qs : List (Addr × Str)} (hS : SqL K H a (ns.map V.int)) (nd : (qs.map (·.1)).Nodup) (hT : ∀ p ∈ qs.map (·.1), H p = some (.tbl #[])) : ∃ g, World K mg g (tab0 qs) H ∧ Reps K mg g [.ref a] [scr ns] := by
  have hS' : SqL K (fun b => if b ∈ qs.map (·.1) then none else H b) a (ns.map V.int) := by
    have keep : ∀ u, (∀ ps, u ≠ .tbl ps) → H a = some u → (if a ∈ qs.map (·.1) then none else H a) = some u := fun u n e => by
      rw [if_neg fun z => n _ (Option.some.inj (e.symm.trans (hT a z)))]; exact e
    rcases hS with (r | ⟨o, r⟩) | r
    · exact .inl (.inl (keep _ (fun _ z => nomatch z) r))
    · exact .inl (.inr ⟨o, keep _ (fun _ z => nomatch z) r⟩)
    · exact .inr r
  refine ⟨⟨fun b => if b ∈ qs.map (·.1) then none else H b, qs.map (·.1)⟩, ⟨fun b o e => ?_, ?_, fun i j b h1 h2 => ?_, fun i b d h1 h2 => ?_, fun i P q z => ?_⟩, .cons (.frl hS' (reps_ints ns)) .nil⟩
  · have e : (if b ∈ qs.map (·.1) then none else H b) = some o := e
    by_cases hb : b ∈ qs.map (·.1)
    · rw [if_pos hb] at e; cases e
    · rw [if_neg hb] at e; exact e
  · show (qs.map (·.1)).length = (tab0 qs).length
    unfold tab0
    rw [List.length_map, List.length_map]
  · obtain ⟨l1, e1⟩ := List.getElem?_eq_some_iff.mp h1
    obtain ⟨l2, e2⟩ := List.getElem?_eq_some_iff.mp h2
    exact (List.getElem_inj nd).mp (e1.trans e2.symm)
  · have hb : b ∈ qs.map (·.1) := List.mem_of_getElem? h1
    refine ⟨if_pos hb, .tbl #[], hT b hb, ?_⟩
    have h2 : (tab0 qs)[i]? = some d := h2
    unfold tab0 at h2
    rw [List.getElem?_map] at h2
    cases q : qs[i]? with
    | none => rw [q] at h2; cases h2
    | some x =>
      rw [q] at h2
      cases h2
      exact ⟨trivial, fun pos cv z => nomatch (show codeAmong pos [] = some cv from z)⟩
  · have z : (tab0 qs)[i]? = some (.tab P q) := z
    show (qs.map (·.1))[i]? = some P
    unfold tab0 at z
    rw [List.getElem?_map] at z ⊢
    cases e : qs[i]? with
    | none => rw [e] at z; cases z
    | some x => rw [e] at z; cases z; rfl
theorem law_sp {K : PySem.W.Frag} {mg : Str → Option Value} {m : List D → M D} {H : Hp} {a : Addr} {ns : List Int} {qs : List (Addr × Str)} (hS : SqL K H a (ns.map V.int)) (nd : (qs.map (·.1)).Nodup) (hT : ∀ p ∈ qs.map (·.1), H p = some (.tbl #[]))
    (h : ∃ s', m [scr ns] (tab0 qs) = .ok (.bl true) s') : Pm K mg 1 m [.ref a] H (fun v _ => v = .bl true) fun _ _ _ => False := by
  obtain ⟨s', h⟩ := h
  obtain ⟨g, w, r⟩ := law_sp0 (K := K) (mg := mg) hS nd hT
  refine ⟨rfl, g, tab0 qs, [scr ns], w, r, ?_⟩
  rw [h]
  intro v g' H' _ _ r
  cases r; rfl
theorem law_cx (w : PySem.World) (P : Program) (H : Hp) (s : Shared) (e : Value) (s' : Shared) : L2.CX P w [] H s (fun _ _ _ => False) e s' → False := fun ⟨_, _, _, _, _, _, _, _, _, _, _, _, z⟩ => z
section
variable {test : PySem.W.Frag → Bool} {fn : List He.DefD} {K : PySem.W.Frag}
theorem x_test (c : obsX test fn K = valX fn) : test K = true := (He.ba (congrArg (fun z : AlX => z.1) c)).1
theorem x_def (c : obsX test fn K = valX fn) (i : Nat) {d : He.DefD} (h : fn[i]? = some d := by rfl) : ∃ fd, FunD K d.name d.qual d.params d.body d.scope (d.dvs K) (d.kws K) (He.fAd K d.at_) fd := by
  have c2 := (He.ba (congrArg (fun z : AlX => z.1) c)).2
  have e : fn.map (fun d => He.fnW K d.at_) = fn.map He.DefD.val := congrArg (fun z : AlX => z.2) c
  have e2 : (fn.map fun d => He.fnW K d.at_)[i]? = (fn.map He.DefD.val)[i]? := by rw [e]
  rw [List.getElem?_map, List.getElem?_map, h] at e2
  exact He.DefD.funD (Option.some.inj e2) (List.all_eq_true.mp c2 d (List.mem_of_getElem? h))
end
/-! ### tests -/
theorem tSys_ok {K : PySem.W.Frag} (h : tSys K = true) : ∃ o, K.lookup sysModules = some o ∧ o.cls ≠ .type "list" := by
  unfold tSys at h
  split at h
  · rename_i o e; exact ⟨o, e, of_decide_eq_true h⟩
  · cases h
theorem tCls_ok {K : PySem.W.Frag} {x : Str} (h : tCls K x = true) : ClsF K (He.ga K x) := by
  obtain ⟨h1, h⟩ := He.ba h
  obtain ⟨h2, h⟩ := He.ba h
  obtain ⟨h3, h⟩ := He.ba h
  obtain ⟨h4, h⟩ := He.ba h
  obtain ⟨h5, h6⟩ := He.ba h
  exact ⟨He.cls_ok h1, He.eqO_ok h2, He.eqO_ok h3, of_decide_eq_true h4, of_decide_eq_true h5, fun T hT => of_decide_eq_true (List.all_eq_true.mp h6 T hT)⟩
theorem tIsB_ok {K : PySem.W.Frag} {x : Str} (h : tIsB K x = true) : ∀ t ∈ (["NoneType", "bool", "int", "str", "tuple", "list", "dict"] : List String), PySem.W.kitOne K (.type t) (.ref (He.ga K x)) = some false := fun t ht => of_decide_eq_true (List.all_eq_true.mp h t ht)
theorem tNoEqC_ok {K : PySem.W.Frag} {C : Addr} (q : tNoEqC K C = true) : NoEq K C := by
  unfold tNoEqC at q
  split at q
  · rename_i dd cd sl ho
    split at q
    · rename_i C' k0 k1 k2 k3 n k5 hm hs
      obtain ⟨q1, q⟩ := He.ba q
      obtain ⟨q2, q⟩ := He.ba q
      rw [Bool.not_eq_true'] at q2
      have q1 := beq_iff_eq.mp q1
      subst q1
      obtain ⟨nm, bs, mro, ns, qn, hd, sn, sub, ab, col, del⟩ := cd
      dsimp only at hm q2 q
      subst hm q2
      have hsl : sl = #[k0, k1, k2, k3, some (.builtin n), k5] := by
        obtain ⟨l⟩ := sl
        simp only at hs
        rw [hs]
      subst hsl
      split at q
      · rename_i cl od es ep osl hn
        obtain ⟨h1, q⟩ := He.ba q
        obtain ⟨h2, h3⟩ := He.ba q
        refine ⟨nm, qn, ns, bs, hd, sn, sub, ab, col, dd, k0, k1, k2, k3, k5, n, _, es, ep, ho, hn, rfl, fun e he => ?_, Option.isNone_iff_eq_none.mp h2, Option.isNone_iff_eq_none.mp h3⟩
        have z := List.all_eq_true.mp h1 e (Array.mem_toList_iff.mpr he)
        split at z
        · rename_i x t ek; exact ⟨x, t, ek⟩
        · cases z
      · cases q
    · cases q
  · cases q
theorem tNoEq_ok {K : PySem.W.Frag} {x : Str} (q : tNoEq K x = true) : NoEq K (He.ga K x) := tNoEqC_ok q
end DL

/-! # DL: a mirror evaluated, step by step -/
namespace DL
open PySem PySem.Spec PyProof.Rows L2
theorem bind_app {α β : Type} (m : M α) (f : α → M β) (s : Sto) : (m >>= f) s = (match m s with | .ok a s' => f a s' | .ex x s' => .ex x s' | .bad => .bad) := rfl
theorem getV0 (d : D) (ρ : DL.Env) : getV (some d :: ρ) 0 = pure d := rfl
theorem getVs (o : Option D) (ρ : DL.Env) (i : Nat) : getV (o :: ρ) (i + 1) = getV ρ i := rfl
theorem ite_app {α : Type} (c : Prop) [Decidable c] (m n : M α) (s : Sto) : (if c then m else n) s = if c then m s else n s := by split <;> rfl
theorem iteS_app (c : Prop) [Decidable c] (m n : Sm) (ρ : DL.Env) (s : Sto) : (if c then m else n) ρ s = if c then m ρ s else n ρ s := by split <;> rfl
section
variable (f h k : Sm) (ft : DL.Env → M Bool) (fe fo fk fv : DL.Env → M D) (fl : DL.Env → M (List D)) (ρ : DL.Env) (s : Sto) (i j : Nat)
theorem thenS_app {α : Type} (m : M α) (c : α → Sto → SR) : thenS m c s = (match m s with | .ok a s' => c a s' | .ex x s' => .ex x s' | .bad => .bad) := rfl
theorem seqS_app : seqS f h ρ s = (match f ρ s with | .nx ρ' s' => h ρ' s' | r => r) := rfl
theorem seqS_nx {ρ' : DL.Env} {s' : Sto} (e : f ρ s = .nx ρ' s') : seqS f h ρ s = h ρ' s' := by rw [seqS_app, e]
theorem seqS_rt {d : D} {s' : Sto} (e : f ρ s = .rt d s') : seqS f h ρ s = .rt d s' := by rw [seqS_app, e]
theorem seqS_ex {x : Exn} {s' : Sto} (e : f ρ s = .ex x s') : seqS f h ρ s = .ex x s' := by rw [seqS_app, e]
theorem setS_app : setS i fe ρ s = thenS (fe ρ) (fun d s => .nx (ρ.set i (some d)) s) s := rfl
theorem dropS_app : dropS fe ρ s = thenS (fe ρ) (fun _ s => .nx ρ s) s := rfl
theorem retS_app : retS fe ρ s = thenS (fe ρ) (fun d s => .rt d s) s := rfl
theorem ifS_app : ifS ft h k ρ s = thenS (ft ρ) (fun b s => if b = true then h ρ s else k ρ s) s := rfl
theorem putO_app : putO fo fk fv ρ s = thenS (fv ρ) (fun v => thenS (fo ρ) fun o => thenS (fk ρ) fun k s => ofObj o fun i => withS s i fun c => ofDct c fun es => ofKey k fun k => if es.length < szMax then .nx ρ (s.set i (.dct (putD es k v))) else .bad) s := rfl
theorem appS_app : appS i fe ρ s = withL i ρ fun ds => thenS (fe ρ) (fun d s => if ds.length < szMax then .nx (ρ.set i (some (.lst (ds ++ [d])))) s else .bad) s := rfl
theorem parS_app : parS i j fl ρ s = thenS (fl ρ) (fun ds s => match ds with | [d, e] => .nx ((ρ.set i (some d)).set j (some e)) s | _ => .bad) s := rfl
theorem forS_app (fi : DL.Env → M (List D)) (t : Tgt) : forS fi t f ρ s = thenS (fi ρ) (fun ds s => loopS t f ds ρ s) s := rfl
theorem tgtS_app (t : Tgt) : tgtS fe t ρ s = thenS (fe ρ) (fun d s => match t d ρ with | some ρ' => .nx ρ' s | none => .bad) s := rfl
theorem ofObj_app (c : Nat → SR) : ofObj (.obj i) c = c i := rfl
theorem ofDct_app (es : List (L2.Key × D)) (c : List (L2.Key × D) → SR) : ofDct (.dct es) c = c es := rfl
theorem ofLst_app (es : List D) (c : List D → SR) : ofLst (.lst es) c = c es := rfl
theorem ofKey_str (x : Str) (c : L2.Key → SR) : ofKey (.str x) c = c (.inr x) := rfl
theorem withS_app (c : D → SR) : withS s i c = (match s[i]? with | some d => c d | none => .bad) := rfl
end
section
variable (s : Sto) (i : Nat) (d e : D) (es : List (L2.Key × D)) (ds : List D) (x : Str)
theorem con_obj : con (.obj i) s = (match s[i]? with | some c => .ok c s | none => .bad) := rfl
theorem idx_obj : idxD (.obj i) e s = (match s[i]? with | some c => idxC c e s | none => .bad) := by
  show M.bnd (con (.obj i)) (fun c => idxC c e) s = _
  unfold M.bnd
  rw [con_obj]
  cases s[i]? <;> rfl
theorem idx_dctS : idxC (.dct es) (.str x) s = liftO (lookK es (.inr x)) s := rfl
theorem idx_lst (j : Int) : idxD (.lst ds) (.int j) s = liftO (atI ds j) s := rfl
theorem idx_frl (j : Int) : idxD (.frl ds) (.int j) s = liftO (atI ds j) s := rfl
theorem idx_tup (j : Int) : idxD (.tup ds) (.int j) s = liftO (atI ds j) s := rfl
theorem lift_some {α : Type} (a : α) : liftO (some a) s = .ok a s := rfl
theorem fld_obj : fldD x (.obj i) s = (match s[i]? with | some c => fldC x c s | none => .bad) := by
  show M.bnd (con (.obj i)) (fldC x) s = _
  unfold M.bnd
  rw [con_obj]
  cases s[i]? <;> rfl
theorem fld_ins (C : Str) (fs : Fs) : fldC x (.ins C fs) s = liftO (lookF fs x) s := rfl
theorem cmpM_app (k : D → D → Sto → Option Bool) : cmpM k d e s = (match k d e s with | some b => .ok b s | none => .bad) := rfl
theorem cmpV_app (k : D → D → Sto → Option Bool) : cmpV k d e s = (match k d e s with | some b => .ok (.bl b) s | none => .bad) := by
  show M.bnd (cmpM k d e) _ s = _
  unfold M.bnd
  rw [cmpM_app]
  cases k d e s <;> rfl
theorem len_lst : lenK [.lst ds] s = .ok (.int ds.length) s := rfl
theorem len_frl : lenK [.frl ds] s = .ok (.int ds.length) s := rfl
theorem len_tup : lenK [.tup ds] s = .ok (.int ds.length) s := rfl
theorem intI (j : Int) : intK [.int j] s = .ok (.int j) s := rfl
theorem asBl_bl (b : Bool) : asBl (.bl b) s = .ok b s := rfl
theorem addI (i j : Int) : addL (.int i) (.int j) s = .ok (.int (i + j)) s := rfl
theorem subI (i j : Int) : subD (.int i) (.int j) s = .ok (.int (i - j)) s := rfl
theorem ltI (i j : Int) : ltB (.int i) (.int j) s = some (decide (i < j)) := rfl
theorem leI (i j : Int) : leB (.int i) (.int j) s = some (decide (i ≤ j)) := rfl
theorem gtI (i j : Int) : gtB (.int i) (.int j) s = some (decide (i > j)) := rfl
theorem geI (i j : Int) : geB (.int i) (.int j) s = some (decide (i ≥ j)) := rfl
theorem eqI (L : List Str) (i j : Int) : eqB L (.int i) (.int j) s = some (decide (i = j)) := by
  by_cases h : i = j
  · subst h; simp [eqB, py, SeqAt.shaped, PyData.canLay0, PyData.depth, PyData.eqv]
  · simp [eqB, py, SeqAt.shaped, PyData.canLay0, PyData.depth, PyData.eqv, h]
theorem eqS (L : List Str) (x y : Str) : eqB L (.str x) (.str y) s = some (decide (x = y)) := rfl
theorem ne_any (L : List Str) (d e : D) : neB L d e s = (eqB L d e s).map (!·) := rfl
end
theorem big_ok {i j : Int} (hi : i.natAbs < 2 ^ 64) (hj : j.natAbs < 2 ^ 64) : bigOk i j = true := by
  have l : ∀ n : Nat, n < 2 ^ 64 → n.log2 ≤ 64 := fun n h => by
    by_cases h0 : n = 0
    · subst h0; decide
    · exact Nat.le_of_lt ((Nat.log2_lt h0).mpr h)
  have h1 := l _ hi
  have h2 := l _ hj
  unfold bigOk
  exact decide_eq_true (by omega)
theorem mul_ok {i j : Int} (hi : i.natAbs < 2 ^ 64) (hj : j.natAbs < 2 ^ 64) (s : Sto) : mulD (.int i) (.int j) s = .ok (.int (i * j)) s := by
  show (if bigOk i j then (pure (.int (i * j)) : M D) else bad) s = _
  rw [if_pos (big_ok hi hj)]; rfl
theorem mod_ok {i j : Int} (hj : j ≠ 0) (s : Sto) : modD (.int i) (.int j) s = .ok (.int (i.fmod j)) s := by
  show (if j = 0 then (bad : M D) else pure (.int (i.fmod j))) s = _
  rw [if_neg hj]; rfl
theorem fdiv_ok {i j : Int} (hj : j ≠ 0) (hb : j.natAbs < 2 ^ 64) (s : Sto) : fdivD (.int i) (.int j) s = .ok (.int (i.fdiv j)) s := by
  show (if j ≠ 0 ∧ j.natAbs.log2 < 9000 then (pure (.int (i.fdiv j)) : M D) else bad) s = _
  rw [if_pos]
  · rfl
  · refine ⟨hj, ?_⟩
    by_cases h0 : j.natAbs = 0
    · rw [h0]; decide
    · exact Nat.lt_trans ((Nat.log2_lt h0).mpr hb) (by decide)
theorem pow_ok {i : Int} {n : Nat} (h0 : i.natAbs < 2 ^ 64) (hn : n ≤ 1000) (s : Sto) : powD (.int i) (.int n) s = .ok (.int (i ^ n)) s := by
  show (if 0 ≤ (n : Int) ∧ (n : Int) ≤ 1000 ∧ i.natAbs < 2 ^ 64 then (pure (.int (i ^ (n : Int).toNat)) : M D) else bad) s = _
  rw [if_pos ⟨by omega, by omega, h0⟩]
  rfl
theorem ten18 (s : Sto) : powD (.int 10) (.int 18) s = .ok (.int 1000000000000000000) s := by
  simp [powD]
theorem fmod_lt {i j : Int} (h : 0 < j) : 0 ≤ i.fmod j ∧ i.fmod j < j := by
  rw [Int.fmod_eq_emod_of_nonneg _ (by omega)]
  exact ⟨Int.emod_nonneg _ (by omega), Int.emod_lt_of_pos _ h⟩
theorem noX_app {α : Type} {m : M α} {s s' : Sto} {a : α} (h : m s = .ok a s') : noX m s = .ok a s' := by unfold noX; rw [h]
section
variable {h : Tgt} {ft : DL.Env → M Bool} {fe : DL.Env → M D} {ρ ρ1 : DL.Env} {d y : D} {ds ys : List D} {s s1 s2 s3 : Sto}
theorem compL_nil : compL h ft fe ρ [] s = .ok [] s := rfl
theorem compL_cons (hd : h d ρ = some ρ1) (ht : ft ρ1 s = .ok true s1) (he : fe ρ1 s1 = .ok y s2) (hr : compL h ft fe ρ ds s2 = .ok ys s3) : compL h ft fe ρ (d :: ds) s = .ok (y :: ys) s3 := by
  unfold compL
  rw [hd]
  dsimp only
  rw [bind_ok (noX_app ht), if_pos rfl, bind_ok (noX_app he), bind_ok hr]
  rfl
theorem compL_skip (hd : h d ρ = some ρ1) (ht : ft ρ1 s = .ok false s1) (hr : compL h ft fe ρ ds s1 = .ok ys s3) : compL h ft fe ρ (d :: ds) s = .ok ys s3 := by
  conv => lhs; unfold compL
  rw [hd]
  dsimp only
  rw [bind_ok (noX_app ht), if_neg Bool.false_ne_true]
  exact hr
theorem compF_app {vs : List Nat} {fi : DL.Env → M (List D)} (hi : fi ρ s = .ok ds s1) (hr : compL h ft fe (wipeE ρ vs) ds s1 = .ok ys s2) : compF vs fi h ft fe ρ s = .ok ys s2 := by
  unfold compF
  rw [bind_ok hi]; exact hr
end
theorem szMaxV : szMax = 16777216 := by unfold szMax; rfl
theorem rng_a (n : Nat) (hn : n ≤ 1000000) : (n : Int) < 2 ^ 62 := by omega
theorem rng_b : -(2 ^ 62) ≤ (0:Int) := by omega
theorem rng_c (n : Nat) (hn : n ≤ 1000000) : -(2 ^ 62) ≤ (n:Int) := by omega
theorem rng_d (n : Nat) (hn : n ≤ 1000000) : (n:Int) - 0 ≤ (szMax : Nat) := by rw [szMaxV]; omega
theorem rngL_app (n : Nat) (hn : n ≤ 1000000) (s : Sto) : rngL 0 n s = .ok ((List.range n).map fun i => .int (i : Nat)) s := by
  unfold rngL
  rw [if_pos ⟨rng_b, by omega, rng_c n hn, rng_a n hn, rng_d n hn⟩]
  simp [pure_app]
theorem asInt_app (i : Int) (s : Sto) : asInt (.int i) s = .ok i s := rfl
theorem rng1_eq (d : D) : rng1 [d] = (asInt d >>= fun j => rngL 0 j) := by unfold rng1; rfl
theorem rng1_app (n : Nat) (hn : n ≤ 1000000) (s : Sto) : rng1 [.int n] s = .ok ((List.range n).map fun i => .int (i : Nat)) s := by
  rw [rng1_eq, bind_ok (asInt_app _ _), rngL_app n hn]
end DL

namespace K83
open PySem PySem.Spec PyProof.Rows L2 DL
def b_copied : Sm := (retS (fun ρ => ((((getV ρ 0) >>= fun d => con d >>= isiC "list") >>= fun d => con d >>= truC) >>= fun b => if b = true then (((getV ρ 0) >>= fun d => (pure []) >>= fun ds => pure (d :: ds)) >>= fun ds => tupK ds) else (getV ρ 0))))
def m_copied : List D → M D := runS 1 b_copied
def i_Found : List D → M Fs := initR 2 (iSelf "row" (fun ρ => (((getV ρ 1) >>= fun d => (pure []) >>= fun ds => pure (d :: ds)) >>= fun ds => m_copied (ds ++ []))) iNil)
def i_Barred : List D → M Fs := initR 2 (iSelf "weights" (fun ρ => (((getV ρ 1) >>= fun d => (pure []) >>= fun ds => pure (d :: ds)) >>= fun ds => m_copied (ds ++ []))) iNil)
def i_Best : List D → M Fs := initR 3 (iSelf "row" (fun ρ => (((getV ρ 1) >>= fun d => (pure []) >>= fun ds => pure (d :: ds)) >>= fun ds => m_copied (ds ++ []))) (iSelf "weights" (fun ρ => (((getV ρ 2) >>= fun d => (pure []) >>= fun ds => pure (d :: ds)) >>= fun ds => m_copied (ds ++ []))) iNil))
def i_Falls : List D → M Fs := initR 3 (iSelf "row" (fun ρ => (((getV ρ 1) >>= fun d => (pure []) >>= fun ds => pure (d :: ds)) >>= fun ds => m_copied (ds ++ []))) (iSelf "way" (fun ρ => (((getV ρ 2) >>= fun d => (pure []) >>= fun ds => pure (d :: ds)) >>= fun ds => m_copied (ds ++ []))) iNil))
def i_Never : List D → M Fs := initR 2 (iSelf "weights" (fun ρ => (((getV ρ 1) >>= fun d => (pure []) >>= fun ds => pure (d :: ds)) >>= fun ds => m_copied (ds ++ []))) iNil)
def i_Answer : List D → M Fs := initR 2 (iSelf "row" (fun ρ => (((getV ρ 1) >>= fun d => (pure []) >>= fun ds => pure (d :: ds)) >>= fun ds => m_copied (ds ++ []))) iNil)
def i_Against : List D → M Fs := initR 2 (iSelf "move" (fun ρ => (((getV ρ 1) >>= fun d => (pure []) >>= fun ds => pure (d :: ds)) >>= fun ds => m_copied (ds ++ []))) iNil)
def i_Stiff : List D → M Fs := initR 2 (iSelf "answers" (fun ρ => (((getV ρ 1) >>= fun d => (pure []) >>= fun ds => pure (d :: ds)) >>= fun ds => m_copied (ds ++ []))) iNil)
def i_Loose : List D → M Fs := initR 2 (iSelf "move" (fun ρ => (((getV ρ 1) >>= fun d => (pure []) >>= fun ds => pure (d :: ds)) >>= fun ds => m_copied (ds ++ []))) iNil)
def i_Free : List D → M Fs := initR 2 (iSelf "points" (fun ρ => (((getV ρ 1) >>= fun d => (pure []) >>= fun ds => pure (d :: ds)) >>= fun ds => m_copied (ds ++ []))) iNil)
def i_Crowded : List D → M Fs := initR 2 (iSelf "joints" (fun ρ => (((getV ρ 1) >>= fun d => (pure []) >>= fun ds => pure (d :: ds)) >>= fun ds => m_copied (ds ++ []))) iNil)
def i_Grown : List D → M Fs := initR 2 (iSelf "steps" (fun ρ => (((getV ρ 1) >>= fun d => (pure []) >>= fun ds => pure (d :: ds)) >>= fun ds => m_copied (ds ++ []))) iNil)
def i_Covered : List D → M Fs := initR 2 (iSelf "lots" (fun ρ => (((getV ρ 1) >>= fun d => (pure []) >>= fun ds => pure (d :: ds)) >>= fun ds => m_copied (ds ++ []))) iNil)
def i_Opens : List D → M Fs := initR 2 (iSelf "points" (fun ρ => (((getV ρ 1) >>= fun d => (pure []) >>= fun ds => pure (d :: ds)) >>= fun ds => m_copied (ds ++ []))) iNil)
def i_Shuts : List D → M Fs := initR 3 (iSelf "tie" (fun ρ => (((getV ρ 1) >>= fun d => (pure []) >>= fun ds => pure (d :: ds)) >>= fun ds => m_copied (ds ++ []))) (iSelf "weights" (fun ρ => (((getV ρ 2) >>= fun d => (pure []) >>= fun ds => pure (d :: ds)) >>= fun ds => m_copied (ds ++ []))) iNil))
def i_Forests : List D → M Fs := initR 2 (iSelf "rows" (fun ρ => (((getV ρ 1) >>= fun d => (pure []) >>= fun ds => pure (d :: ds)) >>= fun ds => m_copied (ds ++ []))) iNil)
def i_Thicket : List D → M Fs := initR 2 (iSelf "joints" (fun ρ => (((getV ρ 1) >>= fun d => (pure []) >>= fun ds => pure (d :: ds)) >>= fun ds => m_copied (ds ++ []))) iNil)
def i_Trees : List D → M Fs := initR 2 (iSelf "rows" (fun ρ => (((getV ρ 1) >>= fun d => (pure []) >>= fun ds => pure (d :: ds)) >>= fun ds => m_copied (ds ++ []))) iNil)
def i_Split : List D → M Fs := initR 2 (iSelf "lots" (fun ρ => (((getV ρ 1) >>= fun d => (pure []) >>= fun ds => pure (d :: ds)) >>= fun ds => m_copied (ds ++ []))) iNil)
def i_Fit : List D → M Fs := initR 3 (iSelf "aims" (fun ρ => (((getV ρ 1) >>= fun d => (pure []) >>= fun ds => pure (d :: ds)) >>= fun ds => m_copied (ds ++ []))) (iSelf "points" (fun ρ => (((getV ρ 2) >>= fun d => (pure []) >>= fun ds => pure (d :: ds)) >>= fun ds => m_copied (ds ++ []))) iNil))
def i_Set : List D → M Fs := initR 2 (iSelf "answers" (fun ρ => (((getV ρ 1) >>= fun d => (pure []) >>= fun ds => pure (d :: ds)) >>= fun ds => m_copied (ds ++ []))) iNil)
def i_Slips : List D → M Fs := initR 2 (iSelf "screws" (fun ρ => (((getV ρ 1) >>= fun d => (pure []) >>= fun ds => pure (d :: ds)) >>= fun ds => m_copied (ds ++ []))) iNil)
def i_Placed : List D → M Fs := initR 2 (iSelf "bars" (fun ρ => (((getV ρ 1) >>= fun d => (pure []) >>= fun ds => pure (d :: ds)) >>= fun ds => m_copied (ds ++ []))) iNil)
def i_Braced : List D → M Fs := initR 3 (iSelf "there" (fun ρ => (((getV ρ 1) >>= fun d => (pure []) >>= fun ds => pure (d :: ds)) >>= fun ds => m_copied (ds ++ []))) (iSelf "back" (fun ρ => (((getV ρ 2) >>= fun d => (pure []) >>= fun ds => pure (d :: ds)) >>= fun ds => m_copied (ds ++ []))) iNil))
def i_Shears : List D → M Fs := initR 2 (iSelf "shear" (fun ρ => (((getV ρ 1) >>= fun d => (pure []) >>= fun ds => pure (d :: ds)) >>= fun ds => m_copied (ds ++ []))) iNil)
def i_Pulls : List D → M Fs := initR 2 (iSelf "row" (fun ρ => (((getV ρ 1) >>= fun d => (pure []) >>= fun ds => pure (d :: ds)) >>= fun ds => m_copied (ds ++ []))) iNil)
def i_Yields : List D → M Fs := initR 2 (iSelf "shear" (fun ρ => (((getV ρ 1) >>= fun d => (pure []) >>= fun ds => pure (d :: ds)) >>= fun ds => m_copied (ds ++ []))) iNil)
def i_Hung : List D → M Fs := initR 2 (iSelf "points" (fun ρ => (((getV ρ 1) >>= fun d => (pure []) >>= fun ds => pure (d :: ds)) >>= fun ds => m_copied (ds ++ []))) iNil)
def i_Adrift : List D → M Fs := initR 2 (iSelf "lot" (fun ρ => (((getV ρ 1) >>= fun d => (pure []) >>= fun ds => pure (d :: ds)) >>= fun ds => m_copied (ds ++ []))) iNil)
def i_Weights : List D → M Fs := initR 2 (iSelf "row" (fun ρ => (((getV ρ 1) >>= fun d => (pure []) >>= fun ds => pure (d :: ds)) >>= fun ds => m_copied (ds ++ []))) iNil)
def i_Slack : List D → M Fs := initR 2 (iSelf "move" (fun ρ => (((getV ρ 1) >>= fun d => (pure []) >>= fun ds => pure (d :: ds)) >>= fun ds => m_copied (ds ++ []))) iNil)
def i_Bent : List D → M Fs := initR 2 (iSelf "stress" (fun ρ => (((getV ρ 1) >>= fun d => (pure []) >>= fun ds => pure (d :: ds)) >>= fun ds => m_copied (ds ++ []))) iNil)
def i_Level : List D → M Fs := initR 3 (iSelf "tie" (fun ρ => (((getV ρ 1) >>= fun d => (pure []) >>= fun ds => pure (d :: ds)) >>= fun ds => m_copied (ds ++ []))) (iSelf "move" (fun ρ => (((getV ρ 2) >>= fun d => (pure []) >>= fun ds => pure (d :: ds)) >>= fun ds => m_copied (ds ++ []))) iNil))
def i_Lift : List D → M Fs := initR 2 (iSelf "roof" (fun ρ => (((getV ρ 1) >>= fun d => (pure []) >>= fun ds => pure (d :: ds)) >>= fun ds => m_copied (ds ++ []))) iNil)
def i_Warped : List D → M Fs := initR 3 (iSelf "face" (fun ρ => (((getV ρ 1) >>= fun d => (pure []) >>= fun ds => pure (d :: ds)) >>= fun ds => m_copied (ds ++ []))) (iSelf "joints" (fun ρ => (((getV ρ 2) >>= fun d => (pure []) >>= fun ds => pure (d :: ds)) >>= fun ds => m_copied (ds ++ []))) iNil))
def i_Firm : List D → M Fs := initR 3 (iSelf "answers" (fun ρ => (((getV ρ 1) >>= fun d => (pure []) >>= fun ds => pure (d :: ds)) >>= fun ds => m_copied (ds ++ []))) (iSelf "stress" (fun ρ => (((getV ρ 2) >>= fun d => (pure []) >>= fun ds => pure (d :: ds)) >>= fun ds => m_copied (ds ++ []))) iNil))
def i_Gives : List D → M Fs := initR 2 (iSelf "move" (fun ρ => (((getV ρ 1) >>= fun d => (pure []) >>= fun ds => pure (d :: ds)) >>= fun ds => m_copied (ds ++ []))) iNil)
def i_Parts : List D → M Fs := initR 3 (iSelf "stress" (fun ρ => (((getV ρ 1) >>= fun d => (pure []) >>= fun ds => pure (d :: ds)) >>= fun ds => m_copied (ds ++ []))) (iSelf "move" (fun ρ => (((getV ρ 2) >>= fun d => (pure []) >>= fun ds => pure (d :: ds)) >>= fun ds => m_copied (ds ++ []))) iNil))
def i_Carries : List D → M Fs := initR 2 (iSelf "row" (fun ρ => (((getV ρ 1) >>= fun d => (pure []) >>= fun ds => pure (d :: ds)) >>= fun ds => m_copied (ds ++ []))) iNil)
def i_Drops : List D → M Fs := initR 2 (iSelf "move" (fun ρ => (((getV ρ 1) >>= fun d => (pure []) >>= fun ds => pure (d :: ds)) >>= fun ds => m_copied (ds ++ []))) iNil)
def i_OneShape : List D → M Fs := initR 3 (iSelf "joints" (fun ρ => (((getV ρ 1) >>= fun d => (pure []) >>= fun ds => pure (d :: ds)) >>= fun ds => m_copied (ds ++ []))) (iSelf "steps" (fun ρ => (((getV ρ 2) >>= fun d => (pure []) >>= fun ds => pure (d :: ds)) >>= fun ds => m_copied (ds ++ []))) iNil))
def i_Lacking : List D → M Fs := initR 3 (iSelf "one" (fun ρ => (((getV ρ 1) >>= fun d => (pure []) >>= fun ds => pure (d :: ds)) >>= fun ds => m_copied (ds ++ []))) (iSelf "other" (fun ρ => (((getV ρ 2) >>= fun d => (pure []) >>= fun ds => pure (d :: ds)) >>= fun ds => m_copied (ds ++ []))) iNil))
def i_Parting : List D → M Fs := initR 3 (iSelf "joints" (fun ρ => (((getV ρ 1) >>= fun d => (pure []) >>= fun ds => pure (d :: ds)) >>= fun ds => m_copied (ds ++ []))) (iSelf "lots" (fun ρ => (((getV ρ 2) >>= fun d => (pure []) >>= fun ds => pure (d :: ds)) >>= fun ds => m_copied (ds ++ []))) iNil))
def i_LetsGo : List D → M Fs := initR 3 (iSelf "tie" (fun ρ => (((getV ρ 1) >>= fun d => (pure []) >>= fun ds => pure (d :: ds)) >>= fun ds => m_copied (ds ++ []))) (iSelf "lots" (fun ρ => (((getV ρ 2) >>= fun d => (pure []) >>= fun ds => pure (d :: ds)) >>= fun ds => m_copied (ds ++ []))) iNil))
def i_Ears : List D → M Fs := initR 2 (iSelf "rows" (fun ρ => (((getV ρ 1) >>= fun d => (pure []) >>= fun ds => pure (d :: ds)) >>= fun ds => m_copied (ds ++ []))) iNil)
def i_HeldPlaces : List D → M Fs := initR 3 (iSelf "points" (fun ρ => (((getV ρ 1) >>= fun d => (pure []) >>= fun ds => pure (d :: ds)) >>= fun ds => m_copied (ds ++ []))) (iSelf "stress" (fun ρ => (((getV ρ 2) >>= fun d => (pure []) >>= fun ds => pure (d :: ds)) >>= fun ds => m_copied (ds ++ []))) iNil))
def i_Cheapest : List D → M Fs := initR 2 (iSelf "fields" (fun ρ => (((getV ρ 1) >>= fun d => (pure []) >>= fun ds => pure (d :: ds)) >>= fun ds => m_copied (ds ++ []))) iNil)
def i_TwoTrees : List D → M Fs := initR 3 (iSelf "one" (fun ρ => (((getV ρ 1) >>= fun d => (pure []) >>= fun ds => pure (d :: ds)) >>= fun ds => m_copied (ds ++ []))) (iSelf "other" (fun ρ => (((getV ρ 2) >>= fun d => (pure []) >>= fun ds => pure (d :: ds)) >>= fun ds => m_copied (ds ++ []))) iNil))
def i_Thick : List D → M Fs := initR 2 (iSelf "joints" (fun ρ => (((getV ρ 1) >>= fun d => (pure []) >>= fun ds => pure (d :: ds)) >>= fun ds => m_copied (ds ++ []))) iNil)
def i_Light : List D → M Fs := initR 3 (iSelf "row" (fun ρ => (((getV ρ 1) >>= fun d => (pure []) >>= fun ds => pure (d :: ds)) >>= fun ds => m_copied (ds ++ []))) (iSelf "move" (fun ρ => (((getV ρ 2) >>= fun d => (pure []) >>= fun ds => pure (d :: ds)) >>= fun ds => m_copied (ds ++ []))) iNil))
def i_Sinks : List D → M Fs := initR 2 (iSelf "move" (fun ρ => (((getV ρ 1) >>= fun d => (pure []) >>= fun ds => pure (d :: ds)) >>= fun ds => m_copied (ds ++ []))) iNil)
def i_Uses : List D → M Fs := initR 3 (iSelf "row" (fun ρ => (((getV ρ 1) >>= fun d => (pure []) >>= fun ds => pure (d :: ds)) >>= fun ds => m_copied (ds ++ []))) (iSelf "move" (fun ρ => (((getV ρ 2) >>= fun d => (pure []) >>= fun ds => pure (d :: ds)) >>= fun ds => m_copied (ds ++ []))) iNil))
def i_Sizes : List D → M Fs := initR 4 (iSelf "sizes" (fun ρ => (((getV ρ 1) >>= fun d => (pure []) >>= fun ds => pure (d :: ds)) >>= fun ds => m_copied (ds ++ []))) (iSelf "rows" (fun ρ => (((getV ρ 2) >>= fun d => (pure []) >>= fun ds => pure (d :: ds)) >>= fun ds => m_copied (ds ++ []))) (iSelf "moves" (fun ρ => (((getV ρ 3) >>= fun d => (pure []) >>= fun ds => pure (d :: ds)) >>= fun ds => m_copied (ds ++ []))) iNil)))
def i_Fails : List D → M Fs := initR 3 (iSelf "number" (fun ρ => (((getV ρ 1) >>= fun d => (pure []) >>= fun ds => pure (d :: ds)) >>= fun ds => m_copied (ds ++ []))) (iSelf "move" (fun ρ => (((getV ρ 2) >>= fun d => (pure []) >>= fun ds => pure (d :: ds)) >>= fun ds => m_copied (ds ++ []))) iNil))
def b_ulaw_pen : Sm := (seqS (setS 1 (fun ρ => (pure (.int 0)))) (seqS (forS (fun ρ => ((getV ρ 0) >>= seqI)) (tgV 2) (seqS (setS 1 (fun ρ => ((((((getV ρ 1) >>= fun d => (pure (.int 71)) >>= fun e => mulD d e) >>= fun d => (getV ρ 2) >>= fun e => addL d e) >>= fun d => (pure []) >>= fun ds => pure (d :: ds)) >>= fun ds => intK ds) >>= fun d => (pure (.int 999999893)) >>= fun e => modD d e))) (fun ρ s => .nx ρ s))) (retS (fun ρ => ((((pure (.str "cells")) >>= fun k => keyM k >>= fun k => ((((getV ρ 0) >>= fun d => (pure []) >>= fun ds => pure (d :: ds)) >>= fun ds => lstK ds) >>= fun ds => pure (.lst ds)) >>= fun d => ((pure (.str "at")) >>= fun k => keyM k >>= fun k => (pure (.int 0)) >>= fun d => ((pure (.str "digits")) >>= fun k => keyM k >>= fun k => (pure (.int 0)) >>= fun d => ((pure (.str "count")) >>= fun k => keyM k >>= fun k => (pure (.int 0)) >>= fun d => ((pure (.str "fold")) >>= fun k => keyM k >>= fun k => (getV ρ 1) >>= fun d => (pure []) >>= fun es => pure ((k, d) :: es)) >>= fun es => pure ((k, d) :: es)) >>= fun es => pure ((k, d) :: es)) >>= fun es => pure ((k, d) :: es)) >>= fun es => pure ((k, d) :: es)) >>= fun es => if es.length ≤ 15 then pure (mergeD [] es) else bad) >>= fun es => newO (.dct es))))))
def m_ulaw_pen : List D → M D := runS 3 b_ulaw_pen
def b_ulaw_draw : Sm := (seqS (putO (fun ρ => (getV ρ 0)) (fun ρ => (pure (.str "count"))) (fun ρ => (((getV ρ 0) >>= fun d => (pure (.str "count")) >>= fun e => idxD d e) >>= fun d => (pure (.int 1)) >>= fun e => addL d e))) (seqS (ifS (fun ρ => ((((getV ρ 0) >>= fun d => (pure (.str "digits")) >>= fun e => idxD d e) >>= fun d => (pure (.int 0)) >>= fun e => cmpM (eqB eqL) d e) >>= fun b => if b = true then (((getV ρ 0) >>= fun d => (pure (.str "at")) >>= fun e => idxD d e) >>= fun d => ((((getV ρ 0) >>= fun d => (pure (.str "cells")) >>= fun e => idxD d e) >>= fun d => (pure []) >>= fun ds => pure (d :: ds)) >>= fun ds => lenK ds) >>= fun e => cmpM ltB d e) else pure false)) (seqS (setS 2 (fun ρ => (((getV ρ 0) >>= fun d => (pure (.str "cells")) >>= fun e => idxD d e) >>= fun d => ((getV ρ 0) >>= fun d => (pure (.str "at")) >>= fun e => idxD d e) >>= fun e => idxD d e))) (seqS (putO (fun ρ => (getV ρ 0)) (fun ρ => (pure (.str "at"))) (fun ρ => (((getV ρ 0) >>= fun d => (pure (.str "at")) >>= fun e => idxD d e) >>= fun d => (pure (.int 1)) >>= fun e => addL d e))) (seqS (ifS (fun ρ => ((getV ρ 2) >>= fun d => ((pure (.int 10)) >>= fun d => (pure (.int 18)) >>= fun e => powD d e) >>= fun e => cmpM geB d e)) (seqS (putO (fun ρ => (getV ρ 0)) (fun ρ => (pure (.str "digits"))) (fun ρ => ((getV ρ 2) >>= fun d => ((pure (.int 10)) >>= fun d => (pure (.int 18)) >>= fun e => powD d e) >>= fun e => subD d e))) (fun ρ s => .nx ρ s)) (seqS (putO (fun ρ => (getV ρ 0)) (fun ρ => (pure (.str "fold"))) (fun ρ => (((((((getV ρ 0) >>= fun d => (pure (.str "fold")) >>= fun e => idxD d e) >>= fun d => (pure (.int 45991)) >>= fun e => mulD d e) >>= fun d => (getV ρ 2) >>= fun e => addL d e) >>= fun d => (pure []) >>= fun ds => pure (d :: ds)) >>= fun ds => intK ds) >>= fun d => (pure (.int 2147483579)) >>= fun e => modD d e))) (fun ρ s => .nx ρ s))) (fun ρ s => .nx ρ s)))) (fun ρ s => .nx ρ s)) (seqS (ifS (fun ρ => (((getV ρ 0) >>= fun d => (pure (.str "digits")) >>= fun e => idxD d e) >>= fun d => (pure (.int 0)) >>= fun e => cmpM gtB d e)) (seqS (setS 3 (fun ρ => (((((getV ρ 0) >>= fun d => (pure (.str "digits")) >>= fun e => idxD d e) >>= fun d => (pure []) >>= fun ds => pure (d :: ds)) >>= fun ds => intK ds) >>= fun d => (getV ρ 1) >>= fun e => modD d e))) (seqS (putO (fun ρ => (getV ρ 0)) (fun ρ => (pure (.str "digits"))) (fun ρ => (((getV ρ 0) >>= fun d => (pure (.str "digits")) >>= fun e => idxD d e) >>= fun d => (getV ρ 1) >>= fun e => fdivD d e))) (retS (fun ρ => (getV ρ 3))))) (fun ρ s => .nx ρ s)) (seqS (setS 4 (fun ρ => ((((getV ρ 0) >>= fun d => (pure (.str "fold")) >>= fun e => idxD d e) >>= fun d => (((getV ρ 0) >>= fun d => (pure (.str "count")) >>= fun e => idxD d e) >>= fun d => (pure (.int 8219)) >>= fun e => mulD d e) >>= fun e => addL d e) >>= fun d => (pure (.int 29)) >>= fun e => addL d e))) (retS (fun ρ => (((((((getV ρ 4) >>= fun d => (pure (.int 21)) >>= fun e => powD d e) >>= fun d => (pure (.int 2305843009213693951)) >>= fun e => modD d e) >>= fun d => (pure []) >>= fun ds => pure (d :: ds)) >>= fun ds => intK ds) >>= fun d => (pure (.int 2048)) >>= fun e => fdivD d e) >>= fun d => (getV ρ 1) >>= fun e => modD d e)))))))
def m_ulaw_draw : List D → M D := runS 5 b_ulaw_draw
def b_ulaw_pick : Sm := (retS (fun ρ => ((getV ρ 1) >>= fun d => (((getV ρ 0) >>= fun d => ((((getV ρ 1) >>= fun d => (pure []) >>= fun ds => pure (d :: ds)) >>= fun ds => lenK ds) >>= fun d => (pure []) >>= fun ds => pure (d :: ds)) >>= fun ds => pure (d :: ds)) >>= fun ds => m_ulaw_draw (ds ++ [])) >>= fun e => idxD d e)))
def m_ulaw_pick : List D → M D := runS 2 b_ulaw_pick
def b_ulaw_made_a : Sm := (seqS (setS 3 (fun ρ => (pure []) >>= fun ds => pure (.lst ds))) (seqS (parS 4 5 (fun ρ => ((((getV ρ 0) >>= fun d => (pure []) >>= fun ds => pure (d :: ds)) >>= fun ds => mkS "Set" i_Set ds) >>= fun d => ((((getV ρ 0) >>= fun d => (pure []) >>= fun ds => pure (d :: ds)) >>= fun ds => mkS "Set" i_Set (permD [0] ds)) >>= fun d => (pure []) >>= fun ds => pure (d :: ds)) >>= fun ds => pure (d :: ds)))) (seqS (parS 6 7 (fun ρ => ((((getV ρ 4) >>= fun d => con d >>= isiO "Set" []) >>= fun d => asBl d >>= fun b => if b = true then ((getV ρ 5) >>= fun d => con d >>= isiO "Set" []) else pure (.bl false)) >>= fun d => (((((getV ρ 4) >>= fun d => fldD "answers" d) >>= fun d => (pure []) >>= fun ds => pure (d :: ds)) >>= fun ds => pure (.lst ds)) >>= fun d => (pure []) >>= fun ds => pure (d :: ds)) >>= fun ds => pure (d :: ds)))) (seqS (appS 3 (fun ρ => (((getV ρ 4) >>= fun d => ((getV ρ 5) >>= fun d => ((getV ρ 6) >>= fun d => ((getV ρ 7) >>= fun d => (((((getV ρ 5) >>= fun d => fldD "answers" d) >>= fun d => (pure []) >>= fun ds => pure (d :: ds)) >>= fun ds => pure (.lst ds)) >>= fun d => ((((getV ρ 0) >>= fun d => (pure []) >>= fun ds => pure (d :: ds)) >>= fun ds => pure (.lst ds)) >>= fun d => (pure []) >>= fun ds => pure (d :: ds)) >>= fun ds => pure (d :: ds)) >>= fun ds => pure (d :: ds)) >>= fun ds => pure (d :: ds)) >>= fun ds => pure (d :: ds)) >>= fun ds => pure (d :: ds)) >>= fun ds => pure (.tup ds)))) (seqS (parS 4 5 (fun ρ => ((((getV ρ 0) >>= fun d => (pure []) >>= fun ds => pure (d :: ds)) >>= fun ds => mkS "Slips" i_Slips ds) >>= fun d => ((((getV ρ 0) >>= fun d => (pure []) >>= fun ds => pure (d :: ds)) >>= fun ds => mkS "Slips" i_Slips (permD [0] ds)) >>= fun d => (pure []) >>= fun ds => pure (d :: ds)) >>= fun ds => pure (d :: ds)))) (seqS (parS 6 7 (fun ρ => ((((getV ρ 4) >>= fun d => con d >>= isiO "Slips" []) >>= fun d => asBl d >>= fun b => if b = true then ((getV ρ 5) >>= fun d => con d >>= isiO "Slips" []) else pure (.bl false)) >>= fun d => (((((getV ρ 4) >>= fun d => fldD "screws" d) >>= fun d => (pure []) >>= fun ds => pure (d :: ds)) >>= fun ds => pure (.lst ds)) >>= fun d => (pure []) >>= fun ds => pure (d :: ds)) >>= fun ds => pure (d :: ds)))) (seqS (appS 3 (fun ρ => (((getV ρ 4) >>= fun d => ((getV ρ 5) >>= fun d => ((getV ρ 6) >>= fun d => ((getV ρ 7) >>= fun d => (((((getV ρ 5) >>= fun d => fldD "screws" d) >>= fun d => (pure []) >>= fun ds => pure (d :: ds)) >>= fun ds => pure (.lst ds)) >>= fun d => ((((getV ρ 0) >>= fun d => (pure []) >>= fun ds => pure (d :: ds)) >>= fun ds => pure (.lst ds)) >>= fun d => (pure []) >>= fun ds => pure (d :: ds)) >>= fun ds => pure (d :: ds)) >>= fun ds => pure (d :: ds)) >>= fun ds => pure (d :: ds)) >>= fun ds => pure (d :: ds)) >>= fun ds => pure (d :: ds)) >>= fun ds => pure (.tup ds)))) (seqS (parS 4 5 (fun ρ => ((((getV ρ 0) >>= fun d => (pure []) >>= fun ds => pure (d :: ds)) >>= fun ds => mkS "Placed" i_Placed ds) >>= fun d => ((((getV ρ 0) >>= fun d => (pure []) >>= fun ds => pure (d :: ds)) >>= fun ds => mkS "Placed" i_Placed (permD [0] ds)) >>= fun d => (pure []) >>= fun ds => pure (d :: ds)) >>= fun ds => pure (d :: ds)))) (seqS (parS 6 7 (fun ρ => ((((getV ρ 4) >>= fun d => con d >>= isiO "Placed" []) >>= fun d => asBl d >>= fun b => if b = true then ((getV ρ 5) >>= fun d => con d >>= isiO "Placed" []) else pure (.bl false)) >>= fun d => (((((getV ρ 4) >>= fun d => fldD "bars" d) >>= fun d => (pure []) >>= fun ds => pure (d :: ds)) >>= fun ds => pure (.lst ds)) >>= fun d => (pure []) >>= fun ds => pure (d :: ds)) >>= fun ds => pure (d :: ds)))) (seqS (appS 3 (fun ρ => (((getV ρ 4) >>= fun d => ((getV ρ 5) >>= fun d => ((getV ρ 6) >>= fun d => ((getV ρ 7) >>= fun d => (((((getV ρ 5) >>= fun d => fldD "bars" d) >>= fun d => (pure []) >>= fun ds => pure (d :: ds)) >>= fun ds => pure (.lst ds)) >>= fun d => ((((getV ρ 0) >>= fun d => (pure []) >>= fun ds => pure (d :: ds)) >>= fun ds => pure (.lst ds)) >>= fun d => (pure []) >>= fun ds => pure (d :: ds)) >>= fun ds => pure (d :: ds)) >>= fun ds => pure (d :: ds)) >>= fun ds => pure (d :: ds)) >>= fun ds => pure (d :: ds)) >>= fun ds => pure (d :: ds)) >>= fun ds => pure (.tup ds)))) (seqS (parS 4 5 (fun ρ => ((((getV ρ 0) >>= fun d => (pure []) >>= fun ds => pure (d :: ds)) >>= fun ds => mkS "Free" i_Free ds) >>= fun d => ((((getV ρ 0) >>= fun d => (pure []) >>= fun ds => pure (d :: ds)) >>= fun ds => mkS "Free" i_Free (permD [0] ds)) >>= fun d => (pure []) >>= fun ds => pure (d :: ds)) >>= fun ds => pure (d :: ds)))) (seqS (parS 6 7 (fun ρ => ((((getV ρ 4) >>= fun d => con d >>= isiO "Free" []) >>= fun d => asBl d >>= fun b => if b = true then ((getV ρ 5) >>= fun d => con d >>= isiO "Free" []) else pure (.bl false)) >>= fun d => (((((getV ρ 4) >>= fun d => fldD "points" d) >>= fun d => (pure []) >>= fun ds => pure (d :: ds)) >>= fun ds => pure (.lst ds)) >>= fun d => (pure []) >>= fun ds => pure (d :: ds)) >>= fun ds => pure (d :: ds)))) (seqS (appS 3 (fun ρ => (((getV ρ 4) >>= fun d => ((getV ρ 5) >>= fun d => ((getV ρ 6) >>= fun d => ((getV ρ 7) >>= fun d => (((((getV ρ 5) >>= fun d => fldD "points" d) >>= fun d => (pure []) >>= fun ds => pure (d :: ds)) >>= fun ds => pure (.lst ds)) >>= fun d => ((((getV ρ 0) >>= fun d => (pure []) >>= fun ds => pure (d :: ds)) >>= fun ds => pure (.lst ds)) >>= fun d => (pure []) >>= fun ds => pure (d :: ds)) >>= fun ds => pure (d :: ds)) >>= fun ds => pure (d :: ds)) >>= fun ds => pure (d :: ds)) >>= fun ds => pure (d :: ds)) >>= fun ds => pure (d :: ds)) >>= fun ds => pure (.tup ds)))) (seqS (parS 4 5 (fun ρ => ((((getV ρ 0) >>= fun d => (pure []) >>= fun ds => pure (d :: ds)) >>= fun ds => mkS "Crowded" i_Crowded ds) >>= fun d => ((((getV ρ 0) >>= fun d => (pure []) >>= fun ds => pure (d :: ds)) >>= fun ds => mkS "Crowded" i_Crowded (permD [0] ds)) >>= fun d => (pure []) >>= fun ds => pure (d :: ds)) >>= fun ds => pure (d :: ds)))) (seqS (parS 6 7 (fun ρ => ((((getV ρ 4) >>= fun d => con d >>= isiO "Crowded" []) >>= fun d => asBl d >>= fun b => if b = true then ((getV ρ 5) >>= fun d => con d >>= isiO "Crowded" []) else pure (.bl false)) >>= fun d => (((((getV ρ 4) >>= fun d => fldD "joints" d) >>= fun d => (pure []) >>= fun ds => pure (d :: ds)) >>= fun ds => pure (.lst ds)) >>= fun d => (pure []) >>= fun ds => pure (d :: ds)) >>= fun ds => pure (d :: ds)))) (seqS (appS 3 (fun ρ => (((getV ρ 4) >>= fun d => ((getV ρ 5) >>= fun d => ((getV ρ 6) >>= fun d => ((getV ρ 7) >>= fun d => (((((getV ρ 5) >>= fun d => fldD "joints" d) >>= fun d => (pure []) >>= fun ds => pure (d :: ds)) >>= fun ds => pure (.lst ds)) >>= fun d => ((((getV ρ 0) >>= fun d => (pure []) >>= fun ds => pure (d :: ds)) >>= fun ds => pure (.lst ds)) >>= fun d => (pure []) >>= fun ds => pure (d :: ds)) >>= fun ds => pure (d :: ds)) >>= fun ds => pure (d :: ds)) >>= fun ds => pure (d :: ds)) >>= fun ds => pure (d :: ds)) >>= fun ds => pure (d :: ds)) >>= fun ds => pure (.tup ds)))) (seqS (parS 4 5 (fun ρ => ((((getV ρ 0) >>= fun d => (pure []) >>= fun ds => pure (d :: ds)) >>= fun ds => mkS "Grown" i_Grown ds) >>= fun d => ((((getV ρ 0) >>= fun d => (pure []) >>= fun ds => pure (d :: ds)) >>= fun ds => mkS "Grown" i_Grown (permD [0] ds)) >>= fun d => (pure []) >>= fun ds => pure (d :: ds)) >>= fun ds => pure (d :: ds)))) (seqS (parS 6 7 (fun ρ => ((((getV ρ 4) >>= fun d => con d >>= isiO "Grown" []) >>= fun d => asBl d >>= fun b => if b = true then ((getV ρ 5) >>= fun d => con d >>= isiO "Grown" []) else pure (.bl false)) >>= fun d => (((((getV ρ 4) >>= fun d => fldD "steps" d) >>= fun d => (pure []) >>= fun ds => pure (d :: ds)) >>= fun ds => pure (.lst ds)) >>= fun d => (pure []) >>= fun ds => pure (d :: ds)) >>= fun ds => pure (d :: ds)))) (seqS (appS 3 (fun ρ => (((getV ρ 4) >>= fun d => ((getV ρ 5) >>= fun d => ((getV ρ 6) >>= fun d => ((getV ρ 7) >>= fun d => (((((getV ρ 5) >>= fun d => fldD "steps" d) >>= fun d => (pure []) >>= fun ds => pure (d :: ds)) >>= fun ds => pure (.lst ds)) >>= fun d => ((((getV ρ 0) >>= fun d => (pure []) >>= fun ds => pure (d :: ds)) >>= fun ds => pure (.lst ds)) >>= fun d => (pure []) >>= fun ds => pure (d :: ds)) >>= fun ds => pure (d :: ds)) >>= fun ds => pure (d :: ds)) >>= fun ds => pure (d :: ds)) >>= fun ds => pure (d :: ds)) >>= fun ds => pure (d :: ds)) >>= fun ds => pure (.tup ds)))) (seqS (parS 4 5 (fun ρ => ((((getV ρ 0) >>= fun d => (pure []) >>= fun ds => pure (d :: ds)) >>= fun ds => mkS "Covered" i_Covered ds) >>= fun d => ((((getV ρ 0) >>= fun d => (pure []) >>= fun ds => pure (d :: ds)) >>= fun ds => mkS "Covered" i_Covered (permD [0] ds)) >>= fun d => (pure []) >>= fun ds => pure (d :: ds)) >>= fun ds => pure (d :: ds)))) (seqS (parS 6 7 (fun ρ => ((((getV ρ 4) >>= fun d => con d >>= isiO "Covered" []) >>= fun d => asBl d >>= fun b => if b = true then ((getV ρ 5) >>= fun d => con d >>= isiO "Covered" []) else pure (.bl false)) >>= fun d => (((((getV ρ 4) >>= fun d => fldD "lots" d) >>= fun d => (pure []) >>= fun ds => pure (d :: ds)) >>= fun ds => pure (.lst ds)) >>= fun d => (pure []) >>= fun ds => pure (d :: ds)) >>= fun ds => pure (d :: ds)))) (seqS (appS 3 (fun ρ => (((getV ρ 4) >>= fun d => ((getV ρ 5) >>= fun d => ((getV ρ 6) >>= fun d => ((getV ρ 7) >>= fun d => (((((getV ρ 5) >>= fun d => fldD "lots" d) >>= fun d => (pure []) >>= fun ds => pure (d :: ds)) >>= fun ds => pure (.lst ds)) >>= fun d => ((((getV ρ 0) >>= fun d => (pure []) >>= fun ds => pure (d :: ds)) >>= fun ds => pure (.lst ds)) >>= fun d => (pure []) >>= fun ds => pure (d :: ds)) >>= fun ds => pure (d :: ds)) >>= fun ds => pure (d :: ds)) >>= fun ds => pure (d :: ds)) >>= fun ds => pure (d :: ds)) >>= fun ds => pure (d :: ds)) >>= fun ds => pure (.tup ds)))) (seqS (parS 4 5 (fun ρ => ((((getV ρ 0) >>= fun d => (pure []) >>= fun ds => pure (d :: ds)) >>= fun ds => mkS "Opens" i_Opens ds) >>= fun d => ((((getV ρ 0) >>= fun d => (pure []) >>= fun ds => pure (d :: ds)) >>= fun ds => mkS "Opens" i_Opens (permD [0] ds)) >>= fun d => (pure []) >>= fun ds => pure (d :: ds)) >>= fun ds => pure (d :: ds)))) (seqS (parS 6 7 (fun ρ => ((((getV ρ 4) >>= fun d => con d >>= isiO "Opens" []) >>= fun d => asBl d >>= fun b => if b = true then ((getV ρ 5) >>= fun d => con d >>= isiO "Opens" []) else pure (.bl false)) >>= fun d => (((((getV ρ 4) >>= fun d => fldD "points" d) >>= fun d => (pure []) >>= fun ds => pure (d :: ds)) >>= fun ds => pure (.lst ds)) >>= fun d => (pure []) >>= fun ds => pure (d :: ds)) >>= fun ds => pure (d :: ds)))) (seqS (appS 3 (fun ρ => (((getV ρ 4) >>= fun d => ((getV ρ 5) >>= fun d => ((getV ρ 6) >>= fun d => ((getV ρ 7) >>= fun d => (((((getV ρ 5) >>= fun d => fldD "points" d) >>= fun d => (pure []) >>= fun ds => pure (d :: ds)) >>= fun ds => pure (.lst ds)) >>= fun d => ((((getV ρ 0) >>= fun d => (pure []) >>= fun ds => pure (d :: ds)) >>= fun ds => pure (.lst ds)) >>= fun d => (pure []) >>= fun ds => pure (d :: ds)) >>= fun ds => pure (d :: ds)) >>= fun ds => pure (d :: ds)) >>= fun ds => pure (d :: ds)) >>= fun ds => pure (d :: ds)) >>= fun ds => pure (d :: ds)) >>= fun ds => pure (.tup ds)))) (seqS (parS 4 5 (fun ρ => ((((getV ρ 0) >>= fun d => ((getV ρ 1) >>= fun d => (pure []) >>= fun ds => pure (d :: ds)) >>= fun ds => pure (d :: ds)) >>= fun ds => mkS "Shuts" i_Shuts ds) >>= fun d => ((((getV ρ 1) >>= fun d => ((getV ρ 0) >>= fun d => (pure []) >>= fun ds => pure (d :: ds)) >>= fun ds => pure (d :: ds)) >>= fun ds => mkS "Shuts" i_Shuts (permD [1, 0] ds)) >>= fun d => (pure []) >>= fun ds => pure (d :: ds)) >>= fun ds => pure (d :: ds)))) (seqS (parS 6 7 (fun ρ => ((((getV ρ 4) >>= fun d => con d >>= isiO "Shuts" []) >>= fun d => asBl d >>= fun b => if b = true then ((getV ρ 5) >>= fun d => con d >>= isiO "Shuts" []) else pure (.bl false)) >>= fun d => (((((getV ρ 4) >>= fun d => fldD "tie" d) >>= fun d => (((getV ρ 4) >>= fun d => fldD "weights" d) >>= fun d => (pure []) >>= fun ds => pure (d :: ds)) >>= fun ds => pure (d :: ds)) >>= fun ds => pure (.lst ds)) >>= fun d => (pure []) >>= fun ds => pure (d :: ds)) >>= fun ds => pure (d :: ds)))) (seqS (appS 3 (fun ρ => (((getV ρ 4) >>= fun d => ((getV ρ 5) >>= fun d => ((getV ρ 6) >>= fun d => ((getV ρ 7) >>= fun d => (((((getV ρ 5) >>= fun d => fldD "tie" d) >>= fun d => (((getV ρ 5) >>= fun d => fldD "weights" d) >>= fun d => (pure []) >>= fun ds => pure (d :: ds)) >>= fun ds => pure (d :: ds)) >>= fun ds => pure (.lst ds)) >>= fun d => ((((getV ρ 0) >>= fun d => ((getV ρ 1) >>= fun d => (pure []) >>= fun ds => pure (d :: ds)) >>= fun ds => pure (d :: ds)) >>= fun ds => pure (.lst ds)) >>= fun d => (pure []) >>= fun ds => pure (d :: ds)) >>= fun ds => pure (d :: ds)) >>= fun ds => pure (d :: ds)) >>= fun ds => pure (d :: ds)) >>= fun ds => pure (d :: ds)) >>= fun ds => pure (d :: ds)) >>= fun ds => pure (.tup ds)))) (seqS (parS 4 5 (fun ρ => ((((getV ρ 0) >>= fun d => (pure []) >>= fun ds => pure (d :: ds)) >>= fun ds => mkS "Forests" i_Forests ds) >>= fun d => ((((getV ρ 0) >>= fun d => (pure []) >>= fun ds => pure (d :: ds)) >>= fun ds => mkS "Forests" i_Forests (permD [0] ds)) >>= fun d => (pure []) >>= fun ds => pure (d :: ds)) >>= fun ds => pure (d :: ds)))) (seqS (parS 6 7 (fun ρ => ((((getV ρ 4) >>= fun d => con d >>= isiO "Forests" []) >>= fun d => asBl d >>= fun b => if b = true then ((getV ρ 5) >>= fun d => con d >>= isiO "Forests" []) else pure (.bl false)) >>= fun d => (((((getV ρ 4) >>= fun d => fldD "rows" d) >>= fun d => (pure []) >>= fun ds => pure (d :: ds)) >>= fun ds => pure (.lst ds)) >>= fun d => (pure []) >>= fun ds => pure (d :: ds)) >>= fun ds => pure (d :: ds)))) (seqS (appS 3 (fun ρ => (((getV ρ 4) >>= fun d => ((getV ρ 5) >>= fun d => ((getV ρ 6) >>= fun d => ((getV ρ 7) >>= fun d => (((((getV ρ 5) >>= fun d => fldD "rows" d) >>= fun d => (pure []) >>= fun ds => pure (d :: ds)) >>= fun ds => pure (.lst ds)) >>= fun d => ((((getV ρ 0) >>= fun d => (pure []) >>= fun ds => pure (d :: ds)) >>= fun ds => pure (.lst ds)) >>= fun d => (pure []) >>= fun ds => pure (d :: ds)) >>= fun ds => pure (d :: ds)) >>= fun ds => pure (d :: ds)) >>= fun ds => pure (d :: ds)) >>= fun ds => pure (d :: ds)) >>= fun ds => pure (d :: ds)) >>= fun ds => pure (.tup ds)))) (seqS (parS 4 5 (fun ρ => ((((getV ρ 0) >>= fun d => (pure []) >>= fun ds => pure (d :: ds)) >>= fun ds => mkS "Thicket" i_Thicket ds) >>= fun d => ((((getV ρ 0) >>= fun d => (pure []) >>= fun ds => pure (d :: ds)) >>= fun ds => mkS "Thicket" i_Thicket (permD [0] ds)) >>= fun d => (pure []) >>= fun ds => pure (d :: ds)) >>= fun ds => pure (d :: ds)))) (seqS (parS 6 7 (fun ρ => ((((getV ρ 4) >>= fun d => con d >>= isiO "Thicket" []) >>= fun d => asBl d >>= fun b => if b = true then ((getV ρ 5) >>= fun d => con d >>= isiO "Thicket" []) else pure (.bl false)) >>= fun d => (((((getV ρ 4) >>= fun d => fldD "joints" d) >>= fun d => (pure []) >>= fun ds => pure (d :: ds)) >>= fun ds => pure (.lst ds)) >>= fun d => (pure []) >>= fun ds => pure (d :: ds)) >>= fun ds => pure (d :: ds)))) (seqS (appS 3 (fun ρ => (((getV ρ 4) >>= fun d => ((getV ρ 5) >>= fun d => ((getV ρ 6) >>= fun d => ((getV ρ 7) >>= fun d => (((((getV ρ 5) >>= fun d => fldD "joints" d) >>= fun d => (pure []) >>= fun ds => pure (d :: ds)) >>= fun ds => pure (.lst ds)) >>= fun d => ((((getV ρ 0) >>= fun d => (pure []) >>= fun ds => pure (d :: ds)) >>= fun ds => pure (.lst ds)) >>= fun d => (pure []) >>= fun ds => pure (d :: ds)) >>= fun ds => pure (d :: ds)) >>= fun ds => pure (d :: ds)) >>= fun ds => pure (d :: ds)) >>= fun ds => pure (d :: ds)) >>= fun ds => pure (d :: ds)) >>= fun ds => pure (.tup ds)))) (retS (fun ρ => (getV ρ 3)))))))))))))))))))))))))))))))))))))
def m_ulaw_made_a : List D → M D := runS 8 b_ulaw_made_a
def b_ulaw_made_b : Sm := (seqS (setS 3 (fun ρ => (pure []) >>= fun ds => pure (.lst ds))) (seqS (parS 4 5 (fun ρ => ((((getV ρ 0) >>= fun d => (pure []) >>= fun ds => pure (d :: ds)) >>= fun ds => mkS "Trees" i_Trees ds) >>= fun d => ((((getV ρ 0) >>= fun d => (pure []) >>= fun ds => pure (d :: ds)) >>= fun ds => mkS "Trees" i_Trees (permD [0] ds)) >>= fun d => (pure []) >>= fun ds => pure (d :: ds)) >>= fun ds => pure (d :: ds)))) (seqS (parS 6 7 (fun ρ => ((((getV ρ 4) >>= fun d => con d >>= isiO "Trees" []) >>= fun d => asBl d >>= fun b => if b = true then ((getV ρ 5) >>= fun d => con d >>= isiO "Trees" []) else pure (.bl false)) >>= fun d => (((((getV ρ 4) >>= fun d => fldD "rows" d) >>= fun d => (pure []) >>= fun ds => pure (d :: ds)) >>= fun ds => pure (.lst ds)) >>= fun d => (pure []) >>= fun ds => pure (d :: ds)) >>= fun ds => pure (d :: ds)))) (seqS (appS 3 (fun ρ => (((getV ρ 4) >>= fun d => ((getV ρ 5) >>= fun d => ((getV ρ 6) >>= fun d => ((getV ρ 7) >>= fun d => (((((getV ρ 5) >>= fun d => fldD "rows" d) >>= fun d => (pure []) >>= fun ds => pure (d :: ds)) >>= fun ds => pure (.lst ds)) >>= fun d => ((((getV ρ 0) >>= fun d => (pure []) >>= fun ds => pure (d :: ds)) >>= fun ds => pure (.lst ds)) >>= fun d => (pure []) >>= fun ds => pure (d :: ds)) >>= fun ds => pure (d :: ds)) >>= fun ds => pure (d :: ds)) >>= fun ds => pure (d :: ds)) >>= fun ds => pure (d :: ds)) >>= fun ds => pure (d :: ds)) >>= fun ds => pure (.tup ds)))) (seqS (parS 4 5 (fun ρ => ((((getV ρ 0) >>= fun d => (pure []) >>= fun ds => pure (d :: ds)) >>= fun ds => mkS "Split" i_Split ds) >>= fun d => ((((getV ρ 0) >>= fun d => (pure []) >>= fun ds => pure (d :: ds)) >>= fun ds => mkS "Split" i_Split (permD [0] ds)) >>= fun d => (pure []) >>= fun ds => pure (d :: ds)) >>= fun ds => pure (d :: ds)))) (seqS (parS 6 7 (fun ρ => ((((getV ρ 4) >>= fun d => con d >>= isiO "Split" []) >>= fun d => asBl d >>= fun b => if b = true then ((getV ρ 5) >>= fun d => con d >>= isiO "Split" []) else pure (.bl false)) >>= fun d => (((((getV ρ 4) >>= fun d => fldD "lots" d) >>= fun d => (pure []) >>= fun ds => pure (d :: ds)) >>= fun ds => pure (.lst ds)) >>= fun d => (pure []) >>= fun ds => pure (d :: ds)) >>= fun ds => pure (d :: ds)))) (seqS (appS 3 (fun ρ => (((getV ρ 4) >>= fun d => ((getV ρ 5) >>= fun d => ((getV ρ 6) >>= fun d => ((getV ρ 7) >>= fun d => (((((getV ρ 5) >>= fun d => fldD "lots" d) >>= fun d => (pure []) >>= fun ds => pure (d :: ds)) >>= fun ds => pure (.lst ds)) >>= fun d => ((((getV ρ 0) >>= fun d => (pure []) >>= fun ds => pure (d :: ds)) >>= fun ds => pure (.lst ds)) >>= fun d => (pure []) >>= fun ds => pure (d :: ds)) >>= fun ds => pure (d :: ds)) >>= fun ds => pure (d :: ds)) >>= fun ds => pure (d :: ds)) >>= fun ds => pure (d :: ds)) >>= fun ds => pure (d :: ds)) >>= fun ds => pure (.tup ds)))) (seqS (parS 4 5 (fun ρ => ((((getV ρ 0) >>= fun d => (pure []) >>= fun ds => pure (d :: ds)) >>= fun ds => mkS "Answer" i_Answer ds) >>= fun d => ((((getV ρ 0) >>= fun d => (pure []) >>= fun ds => pure (d :: ds)) >>= fun ds => mkS "Answer" i_Answer (permD [0] ds)) >>= fun d => (pure []) >>= fun ds => pure (d :: ds)) >>= fun ds => pure (d :: ds)))) (seqS (parS 6 7 (fun ρ => ((((getV ρ 4) >>= fun d => con d >>= isiO "Answer" []) >>= fun d => asBl d >>= fun b => if b = true then ((getV ρ 5) >>= fun d => con d >>= isiO "Answer" []) else pure (.bl false)) >>= fun d => (((((getV ρ 4) >>= fun d => fldD "row" d) >>= fun d => (pure []) >>= fun ds => pure (d :: ds)) >>= fun ds => pure (.lst ds)) >>= fun d => (pure []) >>= fun ds => pure (d :: ds)) >>= fun ds => pure (d :: ds)))) (seqS (appS 3 (fun ρ => (((getV ρ 4) >>= fun d => ((getV ρ 5) >>= fun d => ((getV ρ 6) >>= fun d => ((getV ρ 7) >>= fun d => (((((getV ρ 5) >>= fun d => fldD "row" d) >>= fun d => (pure []) >>= fun ds => pure (d :: ds)) >>= fun ds => pure (.lst ds)) >>= fun d => ((((getV ρ 0) >>= fun d => (pure []) >>= fun ds => pure (d :: ds)) >>= fun ds => pure (.lst ds)) >>= fun d => (pure []) >>= fun ds => pure (d :: ds)) >>= fun ds => pure (d :: ds)) >>= fun ds => pure (d :: ds)) >>= fun ds => pure (d :: ds)) >>= fun ds => pure (d :: ds)) >>= fun ds => pure (d :: ds)) >>= fun ds => pure (.tup ds)))) (seqS (parS 4 5 (fun ρ => ((((getV ρ 0) >>= fun d => (pure []) >>= fun ds => pure (d :: ds)) >>= fun ds => mkS "Against" i_Against ds) >>= fun d => ((((getV ρ 0) >>= fun d => (pure []) >>= fun ds => pure (d :: ds)) >>= fun ds => mkS "Against" i_Against (permD [0] ds)) >>= fun d => (pure []) >>= fun ds => pure (d :: ds)) >>= fun ds => pure (d :: ds)))) (seqS (parS 6 7 (fun ρ => ((((getV ρ 4) >>= fun d => con d >>= isiO "Against" []) >>= fun d => asBl d >>= fun b => if b = true then ((getV ρ 5) >>= fun d => con d >>= isiO "Against" []) else pure (.bl false)) >>= fun d => (((((getV ρ 4) >>= fun d => fldD "move" d) >>= fun d => (pure []) >>= fun ds => pure (d :: ds)) >>= fun ds => pure (.lst ds)) >>= fun d => (pure []) >>= fun ds => pure (d :: ds)) >>= fun ds => pure (d :: ds)))) (seqS (appS 3 (fun ρ => (((getV ρ 4) >>= fun d => ((getV ρ 5) >>= fun d => ((getV ρ 6) >>= fun d => ((getV ρ 7) >>= fun d => (((((getV ρ 5) >>= fun d => fldD "move" d) >>= fun d => (pure []) >>= fun ds => pure (d :: ds)) >>= fun ds => pure (.lst ds)) >>= fun d => ((((getV ρ 0) >>= fun d => (pure []) >>= fun ds => pure (d :: ds)) >>= fun ds => pure (.lst ds)) >>= fun d => (pure []) >>= fun ds => pure (d :: ds)) >>= fun ds => pure (d :: ds)) >>= fun ds => pure (d :: ds)) >>= fun ds => pure (d :: ds)) >>= fun ds => pure (d :: ds)) >>= fun ds => pure (d :: ds)) >>= fun ds => pure (.tup ds)))) (seqS (parS 4 5 (fun ρ => ((((getV ρ 0) >>= fun d => (pure []) >>= fun ds => pure (d :: ds)) >>= fun ds => mkS "Stiff" i_Stiff ds) >>= fun d => ((((getV ρ 0) >>= fun d => (pure []) >>= fun ds => pure (d :: ds)) >>= fun ds => mkS "Stiff" i_Stiff (permD [0] ds)) >>= fun d => (pure []) >>= fun ds => pure (d :: ds)) >>= fun ds => pure (d :: ds)))) (seqS (parS 6 7 (fun ρ => ((((getV ρ 4) >>= fun d => con d >>= isiO "Stiff" []) >>= fun d => asBl d >>= fun b => if b = true then ((getV ρ 5) >>= fun d => con d >>= isiO "Stiff" []) else pure (.bl false)) >>= fun d => (((((getV ρ 4) >>= fun d => fldD "answers" d) >>= fun d => (pure []) >>= fun ds => pure (d :: ds)) >>= fun ds => pure (.lst ds)) >>= fun d => (pure []) >>= fun ds => pure (d :: ds)) >>= fun ds => pure (d :: ds)))) (seqS (appS 3 (fun ρ => (((getV ρ 4) >>= fun d => ((getV ρ 5) >>= fun d => ((getV ρ 6) >>= fun d => ((getV ρ 7) >>= fun d => (((((getV ρ 5) >>= fun d => fldD "answers" d) >>= fun d => (pure []) >>= fun ds => pure (d :: ds)) >>= fun ds => pure (.lst ds)) >>= fun d => ((((getV ρ 0) >>= fun d => (pure []) >>= fun ds => pure (d :: ds)) >>= fun ds => pure (.lst ds)) >>= fun d => (pure []) >>= fun ds => pure (d :: ds)) >>= fun ds => pure (d :: ds)) >>= fun ds => pure (d :: ds)) >>= fun ds => pure (d :: ds)) >>= fun ds => pure (d :: ds)) >>= fun ds => pure (d :: ds)) >>= fun ds => pure (.tup ds)))) (seqS (parS 4 5 (fun ρ => ((((getV ρ 0) >>= fun d => (pure []) >>= fun ds => pure (d :: ds)) >>= fun ds => mkS "Loose" i_Loose ds) >>= fun d => ((((getV ρ 0) >>= fun d => (pure []) >>= fun ds => pure (d :: ds)) >>= fun ds => mkS "Loose" i_Loose (permD [0] ds)) >>= fun d => (pure []) >>= fun ds => pure (d :: ds)) >>= fun ds => pure (d :: ds)))) (seqS (parS 6 7 (fun ρ => ((((getV ρ 4) >>= fun d => con d >>= isiO "Loose" []) >>= fun d => asBl d >>= fun b => if b = true then ((getV ρ 5) >>= fun d => con d >>= isiO "Loose" []) else pure (.bl false)) >>= fun d => (((((getV ρ 4) >>= fun d => fldD "move" d) >>= fun d => (pure []) >>= fun ds => pure (d :: ds)) >>= fun ds => pure (.lst ds)) >>= fun d => (pure []) >>= fun ds => pure (d :: ds)) >>= fun ds => pure (d :: ds)))) (seqS (appS 3 (fun ρ => (((getV ρ 4) >>= fun d => ((getV ρ 5) >>= fun d => ((getV ρ 6) >>= fun d => ((getV ρ 7) >>= fun d => (((((getV ρ 5) >>= fun d => fldD "move" d) >>= fun d => (pure []) >>= fun ds => pure (d :: ds)) >>= fun ds => pure (.lst ds)) >>= fun d => ((((getV ρ 0) >>= fun d => (pure []) >>= fun ds => pure (d :: ds)) >>= fun ds => pure (.lst ds)) >>= fun d => (pure []) >>= fun ds => pure (d :: ds)) >>= fun ds => pure (d :: ds)) >>= fun ds => pure (d :: ds)) >>= fun ds => pure (d :: ds)) >>= fun ds => pure (d :: ds)) >>= fun ds => pure (d :: ds)) >>= fun ds => pure (.tup ds)))) (seqS (parS 4 5 (fun ρ => ((((getV ρ 0) >>= fun d => ((getV ρ 1) >>= fun d => (pure []) >>= fun ds => pure (d :: ds)) >>= fun ds => pure (d :: ds)) >>= fun ds => mkS "Braced" i_Braced ds) >>= fun d => ((((getV ρ 1) >>= fun d => ((getV ρ 0) >>= fun d => (pure []) >>= fun ds => pure (d :: ds)) >>= fun ds => pure (d :: ds)) >>= fun ds => mkS "Braced" i_Braced (permD [1, 0] ds)) >>= fun d => (pure []) >>= fun ds => pure (d :: ds)) >>= fun ds => pure (d :: ds)))) (seqS (parS 6 7 (fun ρ => ((((getV ρ 4) >>= fun d => con d >>= isiO "Braced" []) >>= fun d => asBl d >>= fun b => if b = true then ((getV ρ 5) >>= fun d => con d >>= isiO "Braced" []) else pure (.bl false)) >>= fun d => (((((getV ρ 4) >>= fun d => fldD "there" d) >>= fun d => (((getV ρ 4) >>= fun d => fldD "back" d) >>= fun d => (pure []) >>= fun ds => pure (d :: ds)) >>= fun ds => pure (d :: ds)) >>= fun ds => pure (.lst ds)) >>= fun d => (pure []) >>= fun ds => pure (d :: ds)) >>= fun ds => pure (d :: ds)))) (seqS (appS 3 (fun ρ => (((getV ρ 4) >>= fun d => ((getV ρ 5) >>= fun d => ((getV ρ 6) >>= fun d => ((getV ρ 7) >>= fun d => (((((getV ρ 5) >>= fun d => fldD "there" d) >>= fun d => (((getV ρ 5) >>= fun d => fldD "back" d) >>= fun d => (pure []) >>= fun ds => pure (d :: ds)) >>= fun ds => pure (d :: ds)) >>= fun ds => pure (.lst ds)) >>= fun d => ((((getV ρ 0) >>= fun d => ((getV ρ 1) >>= fun d => (pure []) >>= fun ds => pure (d :: ds)) >>= fun ds => pure (d :: ds)) >>= fun ds => pure (.lst ds)) >>= fun d => (pure []) >>= fun ds => pure (d :: ds)) >>= fun ds => pure (d :: ds)) >>= fun ds => pure (d :: ds)) >>= fun ds => pure (d :: ds)) >>= fun ds => pure (d :: ds)) >>= fun ds => pure (d :: ds)) >>= fun ds => pure (.tup ds)))) (seqS (parS 4 5 (fun ρ => ((((getV ρ 0) >>= fun d => (pure []) >>= fun ds => pure (d :: ds)) >>= fun ds => mkS "Shears" i_Shears ds) >>= fun d => ((((getV ρ 0) >>= fun d => (pure []) >>= fun ds => pure (d :: ds)) >>= fun ds => mkS "Shears" i_Shears (permD [0] ds)) >>= fun d => (pure []) >>= fun ds => pure (d :: ds)) >>= fun ds => pure (d :: ds)))) (seqS (parS 6 7 (fun ρ => ((((getV ρ 4) >>= fun d => con d >>= isiO "Shears" []) >>= fun d => asBl d >>= fun b => if b = true then ((getV ρ 5) >>= fun d => con d >>= isiO "Shears" []) else pure (.bl false)) >>= fun d => (((((getV ρ 4) >>= fun d => fldD "shear" d) >>= fun d => (pure []) >>= fun ds => pure (d :: ds)) >>= fun ds => pure (.lst ds)) >>= fun d => (pure []) >>= fun ds => pure (d :: ds)) >>= fun ds => pure (d :: ds)))) (seqS (appS 3 (fun ρ => (((getV ρ 4) >>= fun d => ((getV ρ 5) >>= fun d => ((getV ρ 6) >>= fun d => ((getV ρ 7) >>= fun d => (((((getV ρ 5) >>= fun d => fldD "shear" d) >>= fun d => (pure []) >>= fun ds => pure (d :: ds)) >>= fun ds => pure (.lst ds)) >>= fun d => ((((getV ρ 0) >>= fun d => (pure []) >>= fun ds => pure (d :: ds)) >>= fun ds => pure (.lst ds)) >>= fun d => (pure []) >>= fun ds => pure (d :: ds)) >>= fun ds => pure (d :: ds)) >>= fun ds => pure (d :: ds)) >>= fun ds => pure (d :: ds)) >>= fun ds => pure (d :: ds)) >>= fun ds => pure (d :: ds)) >>= fun ds => pure (.tup ds)))) (seqS (parS 4 5 (fun ρ => ((((getV ρ 0) >>= fun d => (pure []) >>= fun ds => pure (d :: ds)) >>= fun ds => mkS "Pulls" i_Pulls ds) >>= fun d => ((((getV ρ 0) >>= fun d => (pure []) >>= fun ds => pure (d :: ds)) >>= fun ds => mkS "Pulls" i_Pulls (permD [0] ds)) >>= fun d => (pure []) >>= fun ds => pure (d :: ds)) >>= fun ds => pure (d :: ds)))) (seqS (parS 6 7 (fun ρ => ((((getV ρ 4) >>= fun d => con d >>= isiO "Pulls" []) >>= fun d => asBl d >>= fun b => if b = true then ((getV ρ 5) >>= fun d => con d >>= isiO "Pulls" []) else pure (.bl false)) >>= fun d => (((((getV ρ 4) >>= fun d => fldD "row" d) >>= fun d => (pure []) >>= fun ds => pure (d :: ds)) >>= fun ds => pure (.lst ds)) >>= fun d => (pure []) >>= fun ds => pure (d :: ds)) >>= fun ds => pure (d :: ds)))) (seqS (appS 3 (fun ρ => (((getV ρ 4) >>= fun d => ((getV ρ 5) >>= fun d => ((getV ρ 6) >>= fun d => ((getV ρ 7) >>= fun d => (((((getV ρ 5) >>= fun d => fldD "row" d) >>= fun d => (pure []) >>= fun ds => pure (d :: ds)) >>= fun ds => pure (.lst ds)) >>= fun d => ((((getV ρ 0) >>= fun d => (pure []) >>= fun ds => pure (d :: ds)) >>= fun ds => pure (.lst ds)) >>= fun d => (pure []) >>= fun ds => pure (d :: ds)) >>= fun ds => pure (d :: ds)) >>= fun ds => pure (d :: ds)) >>= fun ds => pure (d :: ds)) >>= fun ds => pure (d :: ds)) >>= fun ds => pure (d :: ds)) >>= fun ds => pure (.tup ds)))) (seqS (parS 4 5 (fun ρ => ((((getV ρ 0) >>= fun d => (pure []) >>= fun ds => pure (d :: ds)) >>= fun ds => mkS "Yields" i_Yields ds) >>= fun d => ((((getV ρ 0) >>= fun d => (pure []) >>= fun ds => pure (d :: ds)) >>= fun ds => mkS "Yields" i_Yields (permD [0] ds)) >>= fun d => (pure []) >>= fun ds => pure (d :: ds)) >>= fun ds => pure (d :: ds)))) (seqS (parS 6 7 (fun ρ => ((((getV ρ 4) >>= fun d => con d >>= isiO "Yields" []) >>= fun d => asBl d >>= fun b => if b = true then ((getV ρ 5) >>= fun d => con d >>= isiO "Yields" []) else pure (.bl false)) >>= fun d => (((((getV ρ 4) >>= fun d => fldD "shear" d) >>= fun d => (pure []) >>= fun ds => pure (d :: ds)) >>= fun ds => pure (.lst ds)) >>= fun d => (pure []) >>= fun ds => pure (d :: ds)) >>= fun ds => pure (d :: ds)))) (seqS (appS 3 (fun ρ => (((getV ρ 4) >>= fun d => ((getV ρ 5) >>= fun d => ((getV ρ 6) >>= fun d => ((getV ρ 7) >>= fun d => (((((getV ρ 5) >>= fun d => fldD "shear" d) >>= fun d => (pure []) >>= fun ds => pure (d :: ds)) >>= fun ds => pure (.lst ds)) >>= fun d => ((((getV ρ 0) >>= fun d => (pure []) >>= fun ds => pure (d :: ds)) >>= fun ds => pure (.lst ds)) >>= fun d => (pure []) >>= fun ds => pure (d :: ds)) >>= fun ds => pure (d :: ds)) >>= fun ds => pure (d :: ds)) >>= fun ds => pure (d :: ds)) >>= fun ds => pure (d :: ds)) >>= fun ds => pure (d :: ds)) >>= fun ds => pure (.tup ds)))) (seqS (parS 4 5 (fun ρ => ((((getV ρ 0) >>= fun d => (pure []) >>= fun ds => pure (d :: ds)) >>= fun ds => mkS "Hung" i_Hung ds) >>= fun d => ((((getV ρ 0) >>= fun d => (pure []) >>= fun ds => pure (d :: ds)) >>= fun ds => mkS "Hung" i_Hung (permD [0] ds)) >>= fun d => (pure []) >>= fun ds => pure (d :: ds)) >>= fun ds => pure (d :: ds)))) (seqS (parS 6 7 (fun ρ => ((((getV ρ 4) >>= fun d => con d >>= isiO "Hung" []) >>= fun d => asBl d >>= fun b => if b = true then ((getV ρ 5) >>= fun d => con d >>= isiO "Hung" []) else pure (.bl false)) >>= fun d => (((((getV ρ 4) >>= fun d => fldD "points" d) >>= fun d => (pure []) >>= fun ds => pure (d :: ds)) >>= fun ds => pure (.lst ds)) >>= fun d => (pure []) >>= fun ds => pure (d :: ds)) >>= fun ds => pure (d :: ds)))) (seqS (appS 3 (fun ρ => (((getV ρ 4) >>= fun d => ((getV ρ 5) >>= fun d => ((getV ρ 6) >>= fun d => ((getV ρ 7) >>= fun d => (((((getV ρ 5) >>= fun d => fldD "points" d) >>= fun d => (pure []) >>= fun ds => pure (d :: ds)) >>= fun ds => pure (.lst ds)) >>= fun d => ((((getV ρ 0) >>= fun d => (pure []) >>= fun ds => pure (d :: ds)) >>= fun ds => pure (.lst ds)) >>= fun d => (pure []) >>= fun ds => pure (d :: ds)) >>= fun ds => pure (d :: ds)) >>= fun ds => pure (d :: ds)) >>= fun ds => pure (d :: ds)) >>= fun ds => pure (d :: ds)) >>= fun ds => pure (d :: ds)) >>= fun ds => pure (.tup ds)))) (retS (fun ρ => (getV ρ 3)))))))))))))))))))))))))))))))))))))
def m_ulaw_made_b : List D → M D := runS 8 b_ulaw_made_b
def b_ulaw_made_c : Sm := (seqS (setS 3 (fun ρ => (pure []) >>= fun ds => pure (.lst ds))) (seqS (parS 4 5 (fun ρ => ((((getV ρ 0) >>= fun d => (pure []) >>= fun ds => pure (d :: ds)) >>= fun ds => mkS "Adrift" i_Adrift ds) >>= fun d => ((((getV ρ 0) >>= fun d => (pure []) >>= fun ds => pure (d :: ds)) >>= fun ds => mkS "Adrift" i_Adrift (permD [0] ds)) >>= fun d => (pure []) >>= fun ds => pure (d :: ds)) >>= fun ds => pure (d :: ds)))) (seqS (parS 6 7 (fun ρ => ((((getV ρ 4) >>= fun d => con d >>= isiO "Adrift" []) >>= fun d => asBl d >>= fun b => if b = true then ((getV ρ 5) >>= fun d => con d >>= isiO "Adrift" []) else pure (.bl false)) >>= fun d => (((((getV ρ 4) >>= fun d => fldD "lot" d) >>= fun d => (pure []) >>= fun ds => pure (d :: ds)) >>= fun ds => pure (.lst ds)) >>= fun d => (pure []) >>= fun ds => pure (d :: ds)) >>= fun ds => pure (d :: ds)))) (seqS (appS 3 (fun ρ => (((getV ρ 4) >>= fun d => ((getV ρ 5) >>= fun d => ((getV ρ 6) >>= fun d => ((getV ρ 7) >>= fun d => (((((getV ρ 5) >>= fun d => fldD "lot" d) >>= fun d => (pure []) >>= fun ds => pure (d :: ds)) >>= fun ds => pure (.lst ds)) >>= fun d => ((((getV ρ 0) >>= fun d => (pure []) >>= fun ds => pure (d :: ds)) >>= fun ds => pure (.lst ds)) >>= fun d => (pure []) >>= fun ds => pure (d :: ds)) >>= fun ds => pure (d :: ds)) >>= fun ds => pure (d :: ds)) >>= fun ds => pure (d :: ds)) >>= fun ds => pure (d :: ds)) >>= fun ds => pure (d :: ds)) >>= fun ds => pure (.tup ds)))) (seqS (parS 4 5 (fun ρ => ((((getV ρ 0) >>= fun d => (pure []) >>= fun ds => pure (d :: ds)) >>= fun ds => mkS "Weights" i_Weights ds) >>= fun d => ((((getV ρ 0) >>= fun d => (pure []) >>= fun ds => pure (d :: ds)) >>= fun ds => mkS "Weights" i_Weights (permD [0] ds)) >>= fun d => (pure []) >>= fun ds => pure (d :: ds)) >>= fun ds => pure (d :: ds)))) (seqS (parS 6 7 (fun ρ => ((((getV ρ 4) >>= fun d => con d >>= isiO "Weights" []) >>= fun d => asBl d >>= fun b => if b = true then ((getV ρ 5) >>= fun d => con d >>= isiO "Weights" []) else pure (.bl false)) >>= fun d => (((((getV ρ 4) >>= fun d => fldD "row" d) >>= fun d => (pure []) >>= fun ds => pure (d :: ds)) >>= fun ds => pure (.lst ds)) >>= fun d => (pure []) >>= fun ds => pure (d :: ds)) >>= fun ds => pure (d :: ds)))) (seqS (appS 3 (fun ρ => (((getV ρ 4) >>= fun d => ((getV ρ 5) >>= fun d => ((getV ρ 6) >>= fun d => ((getV ρ 7) >>= fun d => (((((getV ρ 5) >>= fun d => fldD "row" d) >>= fun d => (pure []) >>= fun ds => pure (d :: ds)) >>= fun ds => pure (.lst ds)) >>= fun d => ((((getV ρ 0) >>= fun d => (pure []) >>= fun ds => pure (d :: ds)) >>= fun ds => pure (.lst ds)) >>= fun d => (pure []) >>= fun ds => pure (d :: ds)) >>= fun ds => pure (d :: ds)) >>= fun ds => pure (d :: ds)) >>= fun ds => pure (d :: ds)) >>= fun ds => pure (d :: ds)) >>= fun ds => pure (d :: ds)) >>= fun ds => pure (.tup ds)))) (seqS (parS 4 5 (fun ρ => ((((getV ρ 0) >>= fun d => (pure []) >>= fun ds => pure (d :: ds)) >>= fun ds => mkS "Slack" i_Slack ds) >>= fun d => ((((getV ρ 0) >>= fun d => (pure []) >>= fun ds => pure (d :: ds)) >>= fun ds => mkS "Slack" i_Slack (permD [0] ds)) >>= fun d => (pure []) >>= fun ds => pure (d :: ds)) >>= fun ds => pure (d :: ds)))) (seqS (parS 6 7 (fun ρ => ((((getV ρ 4) >>= fun d => con d >>= isiO "Slack" []) >>= fun d => asBl d >>= fun b => if b = true then ((getV ρ 5) >>= fun d => con d >>= isiO "Slack" []) else pure (.bl false)) >>= fun d => (((((getV ρ 4) >>= fun d => fldD "move" d) >>= fun d => (pure []) >>= fun ds => pure (d :: ds)) >>= fun ds => pure (.lst ds)) >>= fun d => (pure []) >>= fun ds => pure (d :: ds)) >>= fun ds => pure (d :: ds)))) (seqS (appS 3 (fun ρ => (((getV ρ 4) >>= fun d => ((getV ρ 5) >>= fun d => ((getV ρ 6) >>= fun d => ((getV ρ 7) >>= fun d => (((((getV ρ 5) >>= fun d => fldD "move" d) >>= fun d => (pure []) >>= fun ds => pure (d :: ds)) >>= fun ds => pure (.lst ds)) >>= fun d => ((((getV ρ 0) >>= fun d => (pure []) >>= fun ds => pure (d :: ds)) >>= fun ds => pure (.lst ds)) >>= fun d => (pure []) >>= fun ds => pure (d :: ds)) >>= fun ds => pure (d :: ds)) >>= fun ds => pure (d :: ds)) >>= fun ds => pure (d :: ds)) >>= fun ds => pure (d :: ds)) >>= fun ds => pure (d :: ds)) >>= fun ds => pure (.tup ds)))) (seqS (parS 4 5 (fun ρ => ((((getV ρ 0) >>= fun d => (pure []) >>= fun ds => pure (d :: ds)) >>= fun ds => mkS "Bent" i_Bent ds) >>= fun d => ((((getV ρ 0) >>= fun d => (pure []) >>= fun ds => pure (d :: ds)) >>= fun ds => mkS "Bent" i_Bent (permD [0] ds)) >>= fun d => (pure []) >>= fun ds => pure (d :: ds)) >>= fun ds => pure (d :: ds)))) (seqS (parS 6 7 (fun ρ => ((((getV ρ 4) >>= fun d => con d >>= isiO "Bent" []) >>= fun d => asBl d >>= fun b => if b = true then ((getV ρ 5) >>= fun d => con d >>= isiO "Bent" []) else pure (.bl false)) >>= fun d => (((((getV ρ 4) >>= fun d => fldD "stress" d) >>= fun d => (pure []) >>= fun ds => pure (d :: ds)) >>= fun ds => pure (.lst ds)) >>= fun d => (pure []) >>= fun ds => pure (d :: ds)) >>= fun ds => pure (d :: ds)))) (seqS (appS 3 (fun ρ => (((getV ρ 4) >>= fun d => ((getV ρ 5) >>= fun d => ((getV ρ 6) >>= fun d => ((getV ρ 7) >>= fun d => (((((getV ρ 5) >>= fun d => fldD "stress" d) >>= fun d => (pure []) >>= fun ds => pure (d :: ds)) >>= fun ds => pure (.lst ds)) >>= fun d => ((((getV ρ 0) >>= fun d => (pure []) >>= fun ds => pure (d :: ds)) >>= fun ds => pure (.lst ds)) >>= fun d => (pure []) >>= fun ds => pure (d :: ds)) >>= fun ds => pure (d :: ds)) >>= fun ds => pure (d :: ds)) >>= fun ds => pure (d :: ds)) >>= fun ds => pure (d :: ds)) >>= fun ds => pure (d :: ds)) >>= fun ds => pure (.tup ds)))) (seqS (parS 4 5 (fun ρ => ((((getV ρ 0) >>= fun d => ((getV ρ 1) >>= fun d => (pure []) >>= fun ds => pure (d :: ds)) >>= fun ds => pure (d :: ds)) >>= fun ds => mkS "Level" i_Level ds) >>= fun d => ((((getV ρ 1) >>= fun d => ((getV ρ 0) >>= fun d => (pure []) >>= fun ds => pure (d :: ds)) >>= fun ds => pure (d :: ds)) >>= fun ds => mkS "Level" i_Level (permD [1, 0] ds)) >>= fun d => (pure []) >>= fun ds => pure (d :: ds)) >>= fun ds => pure (d :: ds)))) (seqS (parS 6 7 (fun ρ => ((((getV ρ 4) >>= fun d => con d >>= isiO "Level" []) >>= fun d => asBl d >>= fun b => if b = true then ((getV ρ 5) >>= fun d => con d >>= isiO "Level" []) else pure (.bl false)) >>= fun d => (((((getV ρ 4) >>= fun d => fldD "tie" d) >>= fun d => (((getV ρ 4) >>= fun d => fldD "move" d) >>= fun d => (pure []) >>= fun ds => pure (d :: ds)) >>= fun ds => pure (d :: ds)) >>= fun ds => pure (.lst ds)) >>= fun d => (pure []) >>= fun ds => pure (d :: ds)) >>= fun ds => pure (d :: ds)))) (seqS (appS 3 (fun ρ => (((getV ρ 4) >>= fun d => ((getV ρ 5) >>= fun d => ((getV ρ 6) >>= fun d => ((getV ρ 7) >>= fun d => (((((getV ρ 5) >>= fun d => fldD "tie" d) >>= fun d => (((getV ρ 5) >>= fun d => fldD "move" d) >>= fun d => (pure []) >>= fun ds => pure (d :: ds)) >>= fun ds => pure (d :: ds)) >>= fun ds => pure (.lst ds)) >>= fun d => ((((getV ρ 0) >>= fun d => ((getV ρ 1) >>= fun d => (pure []) >>= fun ds => pure (d :: ds)) >>= fun ds => pure (d :: ds)) >>= fun ds => pure (.lst ds)) >>= fun d => (pure []) >>= fun ds => pure (d :: ds)) >>= fun ds => pure (d :: ds)) >>= fun ds => pure (d :: ds)) >>= fun ds => pure (d :: ds)) >>= fun ds => pure (d :: ds)) >>= fun ds => pure (d :: ds)) >>= fun ds => pure (.tup ds)))) (seqS (parS 4 5 (fun ρ => ((((getV ρ 0) >>= fun d => (pure []) >>= fun ds => pure (d :: ds)) >>= fun ds => mkS "Lift" i_Lift ds) >>= fun d => ((((getV ρ 0) >>= fun d => (pure []) >>= fun ds => pure (d :: ds)) >>= fun ds => mkS "Lift" i_Lift (permD [0] ds)) >>= fun d => (pure []) >>= fun ds => pure (d :: ds)) >>= fun ds => pure (d :: ds)))) (seqS (parS 6 7 (fun ρ => ((((getV ρ 4) >>= fun d => con d >>= isiO "Lift" []) >>= fun d => asBl d >>= fun b => if b = true then ((getV ρ 5) >>= fun d => con d >>= isiO "Lift" []) else pure (.bl false)) >>= fun d => (((((getV ρ 4) >>= fun d => fldD "roof" d) >>= fun d => (pure []) >>= fun ds => pure (d :: ds)) >>= fun ds => pure (.lst ds)) >>= fun d => (pure []) >>= fun ds => pure (d :: ds)) >>= fun ds => pure (d :: ds)))) (seqS (appS 3 (fun ρ => (((getV ρ 4) >>= fun d => ((getV ρ 5) >>= fun d => ((getV ρ 6) >>= fun d => ((getV ρ 7) >>= fun d => (((((getV ρ 5) >>= fun d => fldD "roof" d) >>= fun d => (pure []) >>= fun ds => pure (d :: ds)) >>= fun ds => pure (.lst ds)) >>= fun d => ((((getV ρ 0) >>= fun d => (pure []) >>= fun ds => pure (d :: ds)) >>= fun ds => pure (.lst ds)) >>= fun d => (pure []) >>= fun ds => pure (d :: ds)) >>= fun ds => pure (d :: ds)) >>= fun ds => pure (d :: ds)) >>= fun ds => pure (d :: ds)) >>= fun ds => pure (d :: ds)) >>= fun ds => pure (d :: ds)) >>= fun ds => pure (.tup ds)))) (seqS (parS 4 5 (fun ρ => ((((getV ρ 0) >>= fun d => ((getV ρ 1) >>= fun d => (pure []) >>= fun ds => pure (d :: ds)) >>= fun ds => pure (d :: ds)) >>= fun ds => mkS "Warped" i_Warped ds) >>= fun d => ((((getV ρ 1) >>= fun d => ((getV ρ 0) >>= fun d => (pure []) >>= fun ds => pure (d :: ds)) >>= fun ds => pure (d :: ds)) >>= fun ds => mkS "Warped" i_Warped (permD [1, 0] ds)) >>= fun d => (pure []) >>= fun ds => pure (d :: ds)) >>= fun ds => pure (d :: ds)))) (seqS (parS 6 7 (fun ρ => ((((getV ρ 4) >>= fun d => con d >>= isiO "Warped" []) >>= fun d => asBl d >>= fun b => if b = true then ((getV ρ 5) >>= fun d => con d >>= isiO "Warped" []) else pure (.bl false)) >>= fun d => (((((getV ρ 4) >>= fun d => fldD "face" d) >>= fun d => (((getV ρ 4) >>= fun d => fldD "joints" d) >>= fun d => (pure []) >>= fun ds => pure (d :: ds)) >>= fun ds => pure (d :: ds)) >>= fun ds => pure (.lst ds)) >>= fun d => (pure []) >>= fun ds => pure (d :: ds)) >>= fun ds => pure (d :: ds)))) (seqS (appS 3 (fun ρ => (((getV ρ 4) >>= fun d => ((getV ρ 5) >>= fun d => ((getV ρ 6) >>= fun d => ((getV ρ 7) >>= fun d => (((((getV ρ 5) >>= fun d => fldD "face" d) >>= fun d => (((getV ρ 5) >>= fun d => fldD "joints" d) >>= fun d => (pure []) >>= fun ds => pure (d :: ds)) >>= fun ds => pure (d :: ds)) >>= fun ds => pure (.lst ds)) >>= fun d => ((((getV ρ 0) >>= fun d => ((getV ρ 1) >>= fun d => (pure []) >>= fun ds => pure (d :: ds)) >>= fun ds => pure (d :: ds)) >>= fun ds => pure (.lst ds)) >>= fun d => (pure []) >>= fun ds => pure (d :: ds)) >>= fun ds => pure (d :: ds)) >>= fun ds => pure (d :: ds)) >>= fun ds => pure (d :: ds)) >>= fun ds => pure (d :: ds)) >>= fun ds => pure (d :: ds)) >>= fun ds => pure (.tup ds)))) (seqS (parS 4 5 (fun ρ => ((((getV ρ 0) >>= fun d => ((getV ρ 1) >>= fun d => (pure []) >>= fun ds => pure (d :: ds)) >>= fun ds => pure (d :: ds)) >>= fun ds => mkS "Firm" i_Firm ds) >>= fun d => ((((getV ρ 1) >>= fun d => ((getV ρ 0) >>= fun d => (pure []) >>= fun ds => pure (d :: ds)) >>= fun ds => pure (d :: ds)) >>= fun ds => mkS "Firm" i_Firm (permD [1, 0] ds)) >>= fun d => (pure []) >>= fun ds => pure (d :: ds)) >>= fun ds => pure (d :: ds)))) (seqS (parS 6 7 (fun ρ => ((((getV ρ 4) >>= fun d => con d >>= isiO "Firm" []) >>= fun d => asBl d >>= fun b => if b = true then ((getV ρ 5) >>= fun d => con d >>= isiO "Firm" []) else pure (.bl false)) >>= fun d => (((((getV ρ 4) >>= fun d => fldD "answers" d) >>= fun d => (((getV ρ 4) >>= fun d => fldD "stress" d) >>= fun d => (pure []) >>= fun ds => pure (d :: ds)) >>= fun ds => pure (d :: ds)) >>= fun ds => pure (.lst ds)) >>= fun d => (pure []) >>= fun ds => pure (d :: ds)) >>= fun ds => pure (d :: ds)))) (seqS (appS 3 (fun ρ => (((getV ρ 4) >>= fun d => ((getV ρ 5) >>= fun d => ((getV ρ 6) >>= fun d => ((getV ρ 7) >>= fun d => (((((getV ρ 5) >>= fun d => fldD "answers" d) >>= fun d => (((getV ρ 5) >>= fun d => fldD "stress" d) >>= fun d => (pure []) >>= fun ds => pure (d :: ds)) >>= fun ds => pure (d :: ds)) >>= fun ds => pure (.lst ds)) >>= fun d => ((((getV ρ 0) >>= fun d => ((getV ρ 1) >>= fun d => (pure []) >>= fun ds => pure (d :: ds)) >>= fun ds => pure (d :: ds)) >>= fun ds => pure (.lst ds)) >>= fun d => (pure []) >>= fun ds => pure (d :: ds)) >>= fun ds => pure (d :: ds)) >>= fun ds => pure (d :: ds)) >>= fun ds => pure (d :: ds)) >>= fun ds => pure (d :: ds)) >>= fun ds => pure (d :: ds)) >>= fun ds => pure (.tup ds)))) (seqS (parS 4 5 (fun ρ => ((((getV ρ 0) >>= fun d => (pure []) >>= fun ds => pure (d :: ds)) >>= fun ds => mkS "Gives" i_Gives ds) >>= fun d => ((((getV ρ 0) >>= fun d => (pure []) >>= fun ds => pure (d :: ds)) >>= fun ds => mkS "Gives" i_Gives (permD [0] ds)) >>= fun d => (pure []) >>= fun ds => pure (d :: ds)) >>= fun ds => pure (d :: ds)))) (seqS (parS 6 7 (fun ρ => ((((getV ρ 4) >>= fun d => con d >>= isiO "Gives" []) >>= fun d => asBl d >>= fun b => if b = true then ((getV ρ 5) >>= fun d => con d >>= isiO "Gives" []) else pure (.bl false)) >>= fun d => (((((getV ρ 4) >>= fun d => fldD "move" d) >>= fun d => (pure []) >>= fun ds => pure (d :: ds)) >>= fun ds => pure (.lst ds)) >>= fun d => (pure []) >>= fun ds => pure (d :: ds)) >>= fun ds => pure (d :: ds)))) (seqS (appS 3 (fun ρ => (((getV ρ 4) >>= fun d => ((getV ρ 5) >>= fun d => ((getV ρ 6) >>= fun d => ((getV ρ 7) >>= fun d => (((((getV ρ 5) >>= fun d => fldD "move" d) >>= fun d => (pure []) >>= fun ds => pure (d :: ds)) >>= fun ds => pure (.lst ds)) >>= fun d => ((((getV ρ 0) >>= fun d => (pure []) >>= fun ds => pure (d :: ds)) >>= fun ds => pure (.lst ds)) >>= fun d => (pure []) >>= fun ds => pure (d :: ds)) >>= fun ds => pure (d :: ds)) >>= fun ds => pure (d :: ds)) >>= fun ds => pure (d :: ds)) >>= fun ds => pure (d :: ds)) >>= fun ds => pure (d :: ds)) >>= fun ds => pure (.tup ds)))) (seqS (parS 4 5 (fun ρ => ((((getV ρ 0) >>= fun d => ((getV ρ 1) >>= fun d => (pure []) >>= fun ds => pure (d :: ds)) >>= fun ds => pure (d :: ds)) >>= fun ds => mkS "Parts" i_Parts ds) >>= fun d => ((((getV ρ 1) >>= fun d => ((getV ρ 0) >>= fun d => (pure []) >>= fun ds => pure (d :: ds)) >>= fun ds => pure (d :: ds)) >>= fun ds => mkS "Parts" i_Parts (permD [1, 0] ds)) >>= fun d => (pure []) >>= fun ds => pure (d :: ds)) >>= fun ds => pure (d :: ds)))) (seqS (parS 6 7 (fun ρ => ((((getV ρ 4) >>= fun d => con d >>= isiO "Parts" []) >>= fun d => asBl d >>= fun b => if b = true then ((getV ρ 5) >>= fun d => con d >>= isiO "Parts" []) else pure (.bl false)) >>= fun d => (((((getV ρ 4) >>= fun d => fldD "stress" d) >>= fun d => (((getV ρ 4) >>= fun d => fldD "move" d) >>= fun d => (pure []) >>= fun ds => pure (d :: ds)) >>= fun ds => pure (d :: ds)) >>= fun ds => pure (.lst ds)) >>= fun d => (pure []) >>= fun ds => pure (d :: ds)) >>= fun ds => pure (d :: ds)))) (seqS (appS 3 (fun ρ => (((getV ρ 4) >>= fun d => ((getV ρ 5) >>= fun d => ((getV ρ 6) >>= fun d => ((getV ρ 7) >>= fun d => (((((getV ρ 5) >>= fun d => fldD "stress" d) >>= fun d => (((getV ρ 5) >>= fun d => fldD "move" d) >>= fun d => (pure []) >>= fun ds => pure (d :: ds)) >>= fun ds => pure (d :: ds)) >>= fun ds => pure (.lst ds)) >>= fun d => ((((getV ρ 0) >>= fun d => ((getV ρ 1) >>= fun d => (pure []) >>= fun ds => pure (d :: ds)) >>= fun ds => pure (d :: ds)) >>= fun ds => pure (.lst ds)) >>= fun d => (pure []) >>= fun ds => pure (d :: ds)) >>= fun ds => pure (d :: ds)) >>= fun ds => pure (d :: ds)) >>= fun ds => pure (d :: ds)) >>= fun ds => pure (d :: ds)) >>= fun ds => pure (d :: ds)) >>= fun ds => pure (.tup ds)))) (seqS (parS 4 5 (fun ρ => ((((getV ρ 0) >>= fun d => (pure []) >>= fun ds => pure (d :: ds)) >>= fun ds => mkS "Carries" i_Carries ds) >>= fun d => ((((getV ρ 0) >>= fun d => (pure []) >>= fun ds => pure (d :: ds)) >>= fun ds => mkS "Carries" i_Carries (permD [0] ds)) >>= fun d => (pure []) >>= fun ds => pure (d :: ds)) >>= fun ds => pure (d :: ds)))) (seqS (parS 6 7 (fun ρ => ((((getV ρ 4) >>= fun d => con d >>= isiO "Carries" []) >>= fun d => asBl d >>= fun b => if b = true then ((getV ρ 5) >>= fun d => con d >>= isiO "Carries" []) else pure (.bl false)) >>= fun d => (((((getV ρ 4) >>= fun d => fldD "row" d) >>= fun d => (pure []) >>= fun ds => pure (d :: ds)) >>= fun ds => pure (.lst ds)) >>= fun d => (pure []) >>= fun ds => pure (d :: ds)) >>= fun ds => pure (d :: ds)))) (seqS (appS 3 (fun ρ => (((getV ρ 4) >>= fun d => ((getV ρ 5) >>= fun d => ((getV ρ 6) >>= fun d => ((getV ρ 7) >>= fun d => (((((getV ρ 5) >>= fun d => fldD "row" d) >>= fun d => (pure []) >>= fun ds => pure (d :: ds)) >>= fun ds => pure (.lst ds)) >>= fun d => ((((getV ρ 0) >>= fun d => (pure []) >>= fun ds => pure (d :: ds)) >>= fun ds => pure (.lst ds)) >>= fun d => (pure []) >>= fun ds => pure (d :: ds)) >>= fun ds => pure (d :: ds)) >>= fun ds => pure (d :: ds)) >>= fun ds => pure (d :: ds)) >>= fun ds => pure (d :: ds)) >>= fun ds => pure (d :: ds)) >>= fun ds => pure (.tup ds)))) (retS (fun ρ => (getV ρ 3)))))))))))))))))))))))))))))))))))))
def m_ulaw_made_c : List D → M D := runS 8 b_ulaw_made_c
def b_ulaw_made_d : Sm := (seqS (setS 3 (fun ρ => (pure []) >>= fun ds => pure (.lst ds))) (seqS (parS 4 5 (fun ρ => ((((getV ρ 0) >>= fun d => (pure []) >>= fun ds => pure (d :: ds)) >>= fun ds => mkS "Drops" i_Drops ds) >>= fun d => ((((getV ρ 0) >>= fun d => (pure []) >>= fun ds => pure (d :: ds)) >>= fun ds => mkS "Drops" i_Drops (permD [0] ds)) >>= fun d => (pure []) >>= fun ds => pure (d :: ds)) >>= fun ds => pure (d :: ds)))) (seqS (parS 6 7 (fun ρ => ((((getV ρ 4) >>= fun d => con d >>= isiO "Drops" []) >>= fun d => asBl d >>= fun b => if b = true then ((getV ρ 5) >>= fun d => con d >>= isiO "Drops" []) else pure (.bl false)) >>= fun d => (((((getV ρ 4) >>= fun d => fldD "move" d) >>= fun d => (pure []) >>= fun ds => pure (d :: ds)) >>= fun ds => pure (.lst ds)) >>= fun d => (pure []) >>= fun ds => pure (d :: ds)) >>= fun ds => pure (d :: ds)))) (seqS (appS 3 (fun ρ => (((getV ρ 4) >>= fun d => ((getV ρ 5) >>= fun d => ((getV ρ 6) >>= fun d => ((getV ρ 7) >>= fun d => (((((getV ρ 5) >>= fun d => fldD "move" d) >>= fun d => (pure []) >>= fun ds => pure (d :: ds)) >>= fun ds => pure (.lst ds)) >>= fun d => ((((getV ρ 0) >>= fun d => (pure []) >>= fun ds => pure (d :: ds)) >>= fun ds => pure (.lst ds)) >>= fun d => (pure []) >>= fun ds => pure (d :: ds)) >>= fun ds => pure (d :: ds)) >>= fun ds => pure (d :: ds)) >>= fun ds => pure (d :: ds)) >>= fun ds => pure (d :: ds)) >>= fun ds => pure (d :: ds)) >>= fun ds => pure (.tup ds)))) (seqS (parS 4 5 (fun ρ => ((((getV ρ 0) >>= fun d => (pure []) >>= fun ds => pure (d :: ds)) >>= fun ds => mkS "Found" i_Found ds) >>= fun d => ((((getV ρ 0) >>= fun d => (pure []) >>= fun ds => pure (d :: ds)) >>= fun ds => mkS "Found" i_Found (permD [0] ds)) >>= fun d => (pure []) >>= fun ds => pure (d :: ds)) >>= fun ds => pure (d :: ds)))) (seqS (parS 6 7 (fun ρ => ((((getV ρ 4) >>= fun d => con d >>= isiO "Found" []) >>= fun d => asBl d >>= fun b => if b = true then ((getV ρ 5) >>= fun d => con d >>= isiO "Found" []) else pure (.bl false)) >>= fun d => (((((getV ρ 4) >>= fun d => fldD "row" d) >>= fun d => (pure []) >>= fun ds => pure (d :: ds)) >>= fun ds => pure (.lst ds)) >>= fun d => (pure []) >>= fun ds => pure (d :: ds)) >>= fun ds => pure (d :: ds)))) (seqS (appS 3 (fun ρ => (((getV ρ 4) >>= fun d => ((getV ρ 5) >>= fun d => ((getV ρ 6) >>= fun d => ((getV ρ 7) >>= fun d => (((((getV ρ 5) >>= fun d => fldD "row" d) >>= fun d => (pure []) >>= fun ds => pure (d :: ds)) >>= fun ds => pure (.lst ds)) >>= fun d => ((((getV ρ 0) >>= fun d => (pure []) >>= fun ds => pure (d :: ds)) >>= fun ds => pure (.lst ds)) >>= fun d => (pure []) >>= fun ds => pure (d :: ds)) >>= fun ds => pure (d :: ds)) >>= fun ds => pure (d :: ds)) >>= fun ds => pure (d :: ds)) >>= fun ds => pure (d :: ds)) >>= fun ds => pure (d :: ds)) >>= fun ds => pure (.tup ds)))) (seqS (parS 4 5 (fun ρ => ((((getV ρ 0) >>= fun d => (pure []) >>= fun ds => pure (d :: ds)) >>= fun ds => mkS "Barred" i_Barred ds) >>= fun d => ((((getV ρ 0) >>= fun d => (pure []) >>= fun ds => pure (d :: ds)) >>= fun ds => mkS "Barred" i_Barred (permD [0] ds)) >>= fun d => (pure []) >>= fun ds => pure (d :: ds)) >>= fun ds => pure (d :: ds)))) (seqS (parS 6 7 (fun ρ => ((((getV ρ 4) >>= fun d => con d >>= isiO "Barred" []) >>= fun d => asBl d >>= fun b => if b = true then ((getV ρ 5) >>= fun d => con d >>= isiO "Barred" []) else pure (.bl false)) >>= fun d => (((((getV ρ 4) >>= fun d => fldD "weights" d) >>= fun d => (pure []) >>= fun ds => pure (d :: ds)) >>= fun ds => pure (.lst ds)) >>= fun d => (pure []) >>= fun ds => pure (d :: ds)) >>= fun ds => pure (d :: ds)))) (seqS (appS 3 (fun ρ => (((getV ρ 4) >>= fun d => ((getV ρ 5) >>= fun d => ((getV ρ 6) >>= fun d => ((getV ρ 7) >>= fun d => (((((getV ρ 5) >>= fun d => fldD "weights" d) >>= fun d => (pure []) >>= fun ds => pure (d :: ds)) >>= fun ds => pure (.lst ds)) >>= fun d => ((((getV ρ 0) >>= fun d => (pure []) >>= fun ds => pure (d :: ds)) >>= fun ds => pure (.lst ds)) >>= fun d => (pure []) >>= fun ds => pure (d :: ds)) >>= fun ds => pure (d :: ds)) >>= fun ds => pure (d :: ds)) >>= fun ds => pure (d :: ds)) >>= fun ds => pure (d :: ds)) >>= fun ds => pure (d :: ds)) >>= fun ds => pure (.tup ds)))) (seqS (parS 4 5 (fun ρ => ((((getV ρ 0) >>= fun d => ((getV ρ 1) >>= fun d => (pure []) >>= fun ds => pure (d :: ds)) >>= fun ds => pure (d :: ds)) >>= fun ds => mkS "Best" i_Best ds) >>= fun d => ((((getV ρ 1) >>= fun d => ((getV ρ 0) >>= fun d => (pure []) >>= fun ds => pure (d :: ds)) >>= fun ds => pure (d :: ds)) >>= fun ds => mkS "Best" i_Best (permD [1, 0] ds)) >>= fun d => (pure []) >>= fun ds => pure (d :: ds)) >>= fun ds => pure (d :: ds)))) (seqS (parS 6 7 (fun ρ => ((((getV ρ 4) >>= fun d => con d >>= isiO "Best" []) >>= fun d => asBl d >>= fun b => if b = true then ((getV ρ 5) >>= fun d => con d >>= isiO "Best" []) else pure (.bl false)) >>= fun d => (((((getV ρ 4) >>= fun d => fldD "row" d) >>= fun d => (((getV ρ 4) >>= fun d => fldD "weights" d) >>= fun d => (pure []) >>= fun ds => pure (d :: ds)) >>= fun ds => pure (d :: ds)) >>= fun ds => pure (.lst ds)) >>= fun d => (pure []) >>= fun ds => pure (d :: ds)) >>= fun ds => pure (d :: ds)))) (seqS (appS 3 (fun ρ => (((getV ρ 4) >>= fun d => ((getV ρ 5) >>= fun d => ((getV ρ 6) >>= fun d => ((getV ρ 7) >>= fun d => (((((getV ρ 5) >>= fun d => fldD "row" d) >>= fun d => (((getV ρ 5) >>= fun d => fldD "weights" d) >>= fun d => (pure []) >>= fun ds => pure (d :: ds)) >>= fun ds => pure (d :: ds)) >>= fun ds => pure (.lst ds)) >>= fun d => ((((getV ρ 0) >>= fun d => ((getV ρ 1) >>= fun d => (pure []) >>= fun ds => pure (d :: ds)) >>= fun ds => pure (d :: ds)) >>= fun ds => pure (.lst ds)) >>= fun d => (pure []) >>= fun ds => pure (d :: ds)) >>= fun ds => pure (d :: ds)) >>= fun ds => pure (d :: ds)) >>= fun ds => pure (d :: ds)) >>= fun ds => pure (d :: ds)) >>= fun ds => pure (d :: ds)) >>= fun ds => pure (.tup ds)))) (seqS (parS 4 5 (fun ρ => ((((getV ρ 0) >>= fun d => ((getV ρ 1) >>= fun d => (pure []) >>= fun ds => pure (d :: ds)) >>= fun ds => pure (d :: ds)) >>= fun ds => mkS "Falls" i_Falls ds) >>= fun d => ((((getV ρ 1) >>= fun d => ((getV ρ 0) >>= fun d => (pure []) >>= fun ds => pure (d :: ds)) >>= fun ds => pure (d :: ds)) >>= fun ds => mkS "Falls" i_Falls (permD [1, 0] ds)) >>= fun d => (pure []) >>= fun ds => pure (d :: ds)) >>= fun ds => pure (d :: ds)))) (seqS (parS 6 7 (fun ρ => ((((getV ρ 4) >>= fun d => con d >>= isiO "Falls" []) >>= fun d => asBl d >>= fun b => if b = true then ((getV ρ 5) >>= fun d => con d >>= isiO "Falls" []) else pure (.bl false)) >>= fun d => (((((getV ρ 4) >>= fun d => fldD "row" d) >>= fun d => (((getV ρ 4) >>= fun d => fldD "way" d) >>= fun d => (pure []) >>= fun ds => pure (d :: ds)) >>= fun ds => pure (d :: ds)) >>= fun ds => pure (.lst ds)) >>= fun d => (pure []) >>= fun ds => pure (d :: ds)) >>= fun ds => pure (d :: ds)))) (seqS (appS 3 (fun ρ => (((getV ρ 4) >>= fun d => ((getV ρ 5) >>= fun d => ((getV ρ 6) >>= fun d => ((getV ρ 7) >>= fun d => (((((getV ρ 5) >>= fun d => fldD "row" d) >>= fun d => (((getV ρ 5) >>= fun d => fldD "way" d) >>= fun d => (pure []) >>= fun ds => pure (d :: ds)) >>= fun ds => pure (d :: ds)) >>= fun ds => pure (.lst ds)) >>= fun d => ((((getV ρ 0) >>= fun d => ((getV ρ 1) >>= fun d => (pure []) >>= fun ds => pure (d :: ds)) >>= fun ds => pure (d :: ds)) >>= fun ds => pure (.lst ds)) >>= fun d => (pure []) >>= fun ds => pure (d :: ds)) >>= fun ds => pure (d :: ds)) >>= fun ds => pure (d :: ds)) >>= fun ds => pure (d :: ds)) >>= fun ds => pure (d :: ds)) >>= fun ds => pure (d :: ds)) >>= fun ds => pure (.tup ds)))) (seqS (parS 4 5 (fun ρ => ((((getV ρ 0) >>= fun d => (pure []) >>= fun ds => pure (d :: ds)) >>= fun ds => mkS "Never" i_Never ds) >>= fun d => ((((getV ρ 0) >>= fun d => (pure []) >>= fun ds => pure (d :: ds)) >>= fun ds => mkS "Never" i_Never (permD [0] ds)) >>= fun d => (pure []) >>= fun ds => pure (d :: ds)) >>= fun ds => pure (d :: ds)))) (seqS (parS 6 7 (fun ρ => ((((getV ρ 4) >>= fun d => con d >>= isiO "Never" []) >>= fun d => asBl d >>= fun b => if b = true then ((getV ρ 5) >>= fun d => con d >>= isiO "Never" []) else pure (.bl false)) >>= fun d => (((((getV ρ 4) >>= fun d => fldD "weights" d) >>= fun d => (pure []) >>= fun ds => pure (d :: ds)) >>= fun ds => pure (.lst ds)) >>= fun d => (pure []) >>= fun ds => pure (d :: ds)) >>= fun ds => pure (d :: ds)))) (seqS (appS 3 (fun ρ => (((getV ρ 4) >>= fun d => ((getV ρ 5) >>= fun d => ((getV ρ 6) >>= fun d => ((getV ρ 7) >>= fun d => (((((getV ρ 5) >>= fun d => fldD "weights" d) >>= fun d => (pure []) >>= fun ds => pure (d :: ds)) >>= fun ds => pure (.lst ds)) >>= fun d => ((((getV ρ 0) >>= fun d => (pure []) >>= fun ds => pure (d :: ds)) >>= fun ds => pure (.lst ds)) >>= fun d => (pure []) >>= fun ds => pure (d :: ds)) >>= fun ds => pure (d :: ds)) >>= fun ds => pure (d :: ds)) >>= fun ds => pure (d :: ds)) >>= fun ds => pure (d :: ds)) >>= fun ds => pure (d :: ds)) >>= fun ds => pure (.tup ds)))) (seqS (parS 4 5 (fun ρ => ((((getV ρ 0) >>= fun d => ((getV ρ 1) >>= fun d => (pure []) >>= fun ds => pure (d :: ds)) >>= fun ds => pure (d :: ds)) >>= fun ds => mkS "OneShape" i_OneShape ds) >>= fun d => ((((getV ρ 1) >>= fun d => ((getV ρ 0) >>= fun d => (pure []) >>= fun ds => pure (d :: ds)) >>= fun ds => pure (d :: ds)) >>= fun ds => mkS "OneShape" i_OneShape (permD [1, 0] ds)) >>= fun d => (pure []) >>= fun ds => pure (d :: ds)) >>= fun ds => pure (d :: ds)))) (seqS (parS 6 7 (fun ρ => ((((getV ρ 4) >>= fun d => con d >>= isiO "OneShape" []) >>= fun d => asBl d >>= fun b => if b = true then ((getV ρ 5) >>= fun d => con d >>= isiO "OneShape" []) else pure (.bl false)) >>= fun d => (((((getV ρ 4) >>= fun d => fldD "joints" d) >>= fun d => (((getV ρ 4) >>= fun d => fldD "steps" d) >>= fun d => (pure []) >>= fun ds => pure (d :: ds)) >>= fun ds => pure (d :: ds)) >>= fun ds => pure (.lst ds)) >>= fun d => (pure []) >>= fun ds => pure (d :: ds)) >>= fun ds => pure (d :: ds)))) (seqS (appS 3 (fun ρ => (((getV ρ 4) >>= fun d => ((getV ρ 5) >>= fun d => ((getV ρ 6) >>= fun d => ((getV ρ 7) >>= fun d => (((((getV ρ 5) >>= fun d => fldD "joints" d) >>= fun d => (((getV ρ 5) >>= fun d => fldD "steps" d) >>= fun d => (pure []) >>= fun ds => pure (d :: ds)) >>= fun ds => pure (d :: ds)) >>= fun ds => pure (.lst ds)) >>= fun d => ((((getV ρ 0) >>= fun d => ((getV ρ 1) >>= fun d => (pure []) >>= fun ds => pure (d :: ds)) >>= fun ds => pure (d :: ds)) >>= fun ds => pure (.lst ds)) >>= fun d => (pure []) >>= fun ds => pure (d :: ds)) >>= fun ds => pure (d :: ds)) >>= fun ds => pure (d :: ds)) >>= fun ds => pure (d :: ds)) >>= fun ds => pure (d :: ds)) >>= fun ds => pure (d :: ds)) >>= fun ds => pure (.tup ds)))) (seqS (parS 4 5 (fun ρ => ((((getV ρ 0) >>= fun d => ((getV ρ 1) >>= fun d => (pure []) >>= fun ds => pure (d :: ds)) >>= fun ds => pure (d :: ds)) >>= fun ds => mkS "Lacking" i_Lacking ds) >>= fun d => ((((getV ρ 1) >>= fun d => ((getV ρ 0) >>= fun d => (pure []) >>= fun ds => pure (d :: ds)) >>= fun ds => pure (d :: ds)) >>= fun ds => mkS "Lacking" i_Lacking (permD [1, 0] ds)) >>= fun d => (pure []) >>= fun ds => pure (d :: ds)) >>= fun ds => pure (d :: ds)))) (seqS (parS 6 7 (fun ρ => ((((getV ρ 4) >>= fun d => con d >>= isiO "Lacking" []) >>= fun d => asBl d >>= fun b => if b = true then ((getV ρ 5) >>= fun d => con d >>= isiO "Lacking" []) else pure (.bl false)) >>= fun d => (((((getV ρ 4) >>= fun d => fldD "one" d) >>= fun d => (((getV ρ 4) >>= fun d => fldD "other" d) >>= fun d => (pure []) >>= fun ds => pure (d :: ds)) >>= fun ds => pure (d :: ds)) >>= fun ds => pure (.lst ds)) >>= fun d => (pure []) >>= fun ds => pure (d :: ds)) >>= fun ds => pure (d :: ds)))) (seqS (appS 3 (fun ρ => (((getV ρ 4) >>= fun d => ((getV ρ 5) >>= fun d => ((getV ρ 6) >>= fun d => ((getV ρ 7) >>= fun d => (((((getV ρ 5) >>= fun d => fldD "one" d) >>= fun d => (((getV ρ 5) >>= fun d => fldD "other" d) >>= fun d => (pure []) >>= fun ds => pure (d :: ds)) >>= fun ds => pure (d :: ds)) >>= fun ds => pure (.lst ds)) >>= fun d => ((((getV ρ 0) >>= fun d => ((getV ρ 1) >>= fun d => (pure []) >>= fun ds => pure (d :: ds)) >>= fun ds => pure (d :: ds)) >>= fun ds => pure (.lst ds)) >>= fun d => (pure []) >>= fun ds => pure (d :: ds)) >>= fun ds => pure (d :: ds)) >>= fun ds => pure (d :: ds)) >>= fun ds => pure (d :: ds)) >>= fun ds => pure (d :: ds)) >>= fun ds => pure (d :: ds)) >>= fun ds => pure (.tup ds)))) (seqS (parS 4 5 (fun ρ => ((((getV ρ 0) >>= fun d => ((getV ρ 1) >>= fun d => (pure []) >>= fun ds => pure (d :: ds)) >>= fun ds => pure (d :: ds)) >>= fun ds => mkS "Parting" i_Parting ds) >>= fun d => ((((getV ρ 1) >>= fun d => ((getV ρ 0) >>= fun d => (pure []) >>= fun ds => pure (d :: ds)) >>= fun ds => pure (d :: ds)) >>= fun ds => mkS "Parting" i_Parting (permD [1, 0] ds)) >>= fun d => (pure []) >>= fun ds => pure (d :: ds)) >>= fun ds => pure (d :: ds)))) (seqS (parS 6 7 (fun ρ => ((((getV ρ 4) >>= fun d => con d >>= isiO "Parting" []) >>= fun d => asBl d >>= fun b => if b = true then ((getV ρ 5) >>= fun d => con d >>= isiO "Parting" []) else pure (.bl false)) >>= fun d => (((((getV ρ 4) >>= fun d => fldD "joints" d) >>= fun d => (((getV ρ 4) >>= fun d => fldD "lots" d) >>= fun d => (pure []) >>= fun ds => pure (d :: ds)) >>= fun ds => pure (d :: ds)) >>= fun ds => pure (.lst ds)) >>= fun d => (pure []) >>= fun ds => pure (d :: ds)) >>= fun ds => pure (d :: ds)))) (seqS (appS 3 (fun ρ => (((getV ρ 4) >>= fun d => ((getV ρ 5) >>= fun d => ((getV ρ 6) >>= fun d => ((getV ρ 7) >>= fun d => (((((getV ρ 5) >>= fun d => fldD "joints" d) >>= fun d => (((getV ρ 5) >>= fun d => fldD "lots" d) >>= fun d => (pure []) >>= fun ds => pure (d :: ds)) >>= fun ds => pure (d :: ds)) >>= fun ds => pure (.lst ds)) >>= fun d => ((((getV ρ 0) >>= fun d => ((getV ρ 1) >>= fun d => (pure []) >>= fun ds => pure (d :: ds)) >>= fun ds => pure (d :: ds)) >>= fun ds => pure (.lst ds)) >>= fun d => (pure []) >>= fun ds => pure (d :: ds)) >>= fun ds => pure (d :: ds)) >>= fun ds => pure (d :: ds)) >>= fun ds => pure (d :: ds)) >>= fun ds => pure (d :: ds)) >>= fun ds => pure (d :: ds)) >>= fun ds => pure (.tup ds)))) (seqS (parS 4 5 (fun ρ => ((((getV ρ 0) >>= fun d => ((getV ρ 1) >>= fun d => (pure []) >>= fun ds => pure (d :: ds)) >>= fun ds => pure (d :: ds)) >>= fun ds => mkS "LetsGo" i_LetsGo ds) >>= fun d => ((((getV ρ 1) >>= fun d => ((getV ρ 0) >>= fun d => (pure []) >>= fun ds => pure (d :: ds)) >>= fun ds => pure (d :: ds)) >>= fun ds => mkS "LetsGo" i_LetsGo (permD [1, 0] ds)) >>= fun d => (pure []) >>= fun ds => pure (d :: ds)) >>= fun ds => pure (d :: ds)))) (seqS (parS 6 7 (fun ρ => ((((getV ρ 4) >>= fun d => con d >>= isiO "LetsGo" []) >>= fun d => asBl d >>= fun b => if b = true then ((getV ρ 5) >>= fun d => con d >>= isiO "LetsGo" []) else pure (.bl false)) >>= fun d => (((((getV ρ 4) >>= fun d => fldD "tie" d) >>= fun d => (((getV ρ 4) >>= fun d => fldD "lots" d) >>= fun d => (pure []) >>= fun ds => pure (d :: ds)) >>= fun ds => pure (d :: ds)) >>= fun ds => pure (.lst ds)) >>= fun d => (pure []) >>= fun ds => pure (d :: ds)) >>= fun ds => pure (d :: ds)))) (seqS (appS 3 (fun ρ => (((getV ρ 4) >>= fun d => ((getV ρ 5) >>= fun d => ((getV ρ 6) >>= fun d => ((getV ρ 7) >>= fun d => (((((getV ρ 5) >>= fun d => fldD "tie" d) >>= fun d => (((getV ρ 5) >>= fun d => fldD "lots" d) >>= fun d => (pure []) >>= fun ds => pure (d :: ds)) >>= fun ds => pure (d :: ds)) >>= fun ds => pure (.lst ds)) >>= fun d => ((((getV ρ 0) >>= fun d => ((getV ρ 1) >>= fun d => (pure []) >>= fun ds => pure (d :: ds)) >>= fun ds => pure (d :: ds)) >>= fun ds => pure (.lst ds)) >>= fun d => (pure []) >>= fun ds => pure (d :: ds)) >>= fun ds => pure (d :: ds)) >>= fun ds => pure (d :: ds)) >>= fun ds => pure (d :: ds)) >>= fun ds => pure (d :: ds)) >>= fun ds => pure (d :: ds)) >>= fun ds => pure (.tup ds)))) (seqS (parS 4 5 (fun ρ => ((((getV ρ 0) >>= fun d => (pure []) >>= fun ds => pure (d :: ds)) >>= fun ds => mkS "Ears" i_Ears ds) >>= fun d => ((((getV ρ 0) >>= fun d => (pure []) >>= fun ds => pure (d :: ds)) >>= fun ds => mkS "Ears" i_Ears (permD [0] ds)) >>= fun d => (pure []) >>= fun ds => pure (d :: ds)) >>= fun ds => pure (d :: ds)))) (seqS (parS 6 7 (fun ρ => ((((getV ρ 4) >>= fun d => con d >>= isiO "Ears" []) >>= fun d => asBl d >>= fun b => if b = true then ((getV ρ 5) >>= fun d => con d >>= isiO "Ears" []) else pure (.bl false)) >>= fun d => (((((getV ρ 4) >>= fun d => fldD "rows" d) >>= fun d => (pure []) >>= fun ds => pure (d :: ds)) >>= fun ds => pure (.lst ds)) >>= fun d => (pure []) >>= fun ds => pure (d :: ds)) >>= fun ds => pure (d :: ds)))) (seqS (appS 3 (fun ρ => (((getV ρ 4) >>= fun d => ((getV ρ 5) >>= fun d => ((getV ρ 6) >>= fun d => ((getV ρ 7) >>= fun d => (((((getV ρ 5) >>= fun d => fldD "rows" d) >>= fun d => (pure []) >>= fun ds => pure (d :: ds)) >>= fun ds => pure (.lst ds)) >>= fun d => ((((getV ρ 0) >>= fun d => (pure []) >>= fun ds => pure (d :: ds)) >>= fun ds => pure (.lst ds)) >>= fun d => (pure []) >>= fun ds => pure (d :: ds)) >>= fun ds => pure (d :: ds)) >>= fun ds => pure (d :: ds)) >>= fun ds => pure (d :: ds)) >>= fun ds => pure (d :: ds)) >>= fun ds => pure (d :: ds)) >>= fun ds => pure (.tup ds)))) (retS (fun ρ => (getV ρ 3)))))))))))))))))))))))))))))))))))))
def m_ulaw_made_d : List D → M D := runS 8 b_ulaw_made_d
def b_ulaw_made_e : Sm := (seqS (setS 3 (fun ρ => (pure []) >>= fun ds => pure (.lst ds))) (seqS (parS 4 5 (fun ρ => ((((getV ρ 0) >>= fun d => ((getV ρ 1) >>= fun d => (pure []) >>= fun ds => pure (d :: ds)) >>= fun ds => pure (d :: ds)) >>= fun ds => mkS "HeldPlaces" i_HeldPlaces ds) >>= fun d => ((((getV ρ 1) >>= fun d => ((getV ρ 0) >>= fun d => (pure []) >>= fun ds => pure (d :: ds)) >>= fun ds => pure (d :: ds)) >>= fun ds => mkS "HeldPlaces" i_HeldPlaces (permD [1, 0] ds)) >>= fun d => (pure []) >>= fun ds => pure (d :: ds)) >>= fun ds => pure (d :: ds)))) (seqS (parS 6 7 (fun ρ => ((((getV ρ 4) >>= fun d => con d >>= isiO "HeldPlaces" []) >>= fun d => asBl d >>= fun b => if b = true then ((getV ρ 5) >>= fun d => con d >>= isiO "HeldPlaces" []) else pure (.bl false)) >>= fun d => (((((getV ρ 4) >>= fun d => fldD "points" d) >>= fun d => (((getV ρ 4) >>= fun d => fldD "stress" d) >>= fun d => (pure []) >>= fun ds => pure (d :: ds)) >>= fun ds => pure (d :: ds)) >>= fun ds => pure (.lst ds)) >>= fun d => (pure []) >>= fun ds => pure (d :: ds)) >>= fun ds => pure (d :: ds)))) (seqS (appS 3 (fun ρ => (((getV ρ 4) >>= fun d => ((getV ρ 5) >>= fun d => ((getV ρ 6) >>= fun d => ((getV ρ 7) >>= fun d => (((((getV ρ 5) >>= fun d => fldD "points" d) >>= fun d => (((getV ρ 5) >>= fun d => fldD "stress" d) >>= fun d => (pure []) >>= fun ds => pure (d :: ds)) >>= fun ds => pure (d :: ds)) >>= fun ds => pure (.lst ds)) >>= fun d => ((((getV ρ 0) >>= fun d => ((getV ρ 1) >>= fun d => (pure []) >>= fun ds => pure (d :: ds)) >>= fun ds => pure (d :: ds)) >>= fun ds => pure (.lst ds)) >>= fun d => (pure []) >>= fun ds => pure (d :: ds)) >>= fun ds => pure (d :: ds)) >>= fun ds => pure (d :: ds)) >>= fun ds => pure (d :: ds)) >>= fun ds => pure (d :: ds)) >>= fun ds => pure (d :: ds)) >>= fun ds => pure (.tup ds)))) (seqS (parS 4 5 (fun ρ => ((((getV ρ 0) >>= fun d => (pure []) >>= fun ds => pure (d :: ds)) >>= fun ds => mkS "Cheapest" i_Cheapest ds) >>= fun d => ((((getV ρ 0) >>= fun d => (pure []) >>= fun ds => pure (d :: ds)) >>= fun ds => mkS "Cheapest" i_Cheapest (permD [0] ds)) >>= fun d => (pure []) >>= fun ds => pure (d :: ds)) >>= fun ds => pure (d :: ds)))) (seqS (parS 6 7 (fun ρ => ((((getV ρ 4) >>= fun d => con d >>= isiO "Cheapest" []) >>= fun d => asBl d >>= fun b => if b = true then ((getV ρ 5) >>= fun d => con d >>= isiO "Cheapest" []) else pure (.bl false)) >>= fun d => (((((getV ρ 4) >>= fun d => fldD "fields" d) >>= fun d => (pure []) >>= fun ds => pure (d :: ds)) >>= fun ds => pure (.lst ds)) >>= fun d => (pure []) >>= fun ds => pure (d :: ds)) >>= fun ds => pure (d :: ds)))) (seqS (appS 3 (fun ρ => (((getV ρ 4) >>= fun d => ((getV ρ 5) >>= fun d => ((getV ρ 6) >>= fun d => ((getV ρ 7) >>= fun d => (((((getV ρ 5) >>= fun d => fldD "fields" d) >>= fun d => (pure []) >>= fun ds => pure (d :: ds)) >>= fun ds => pure (.lst ds)) >>= fun d => ((((getV ρ 0) >>= fun d => (pure []) >>= fun ds => pure (d :: ds)) >>= fun ds => pure (.lst ds)) >>= fun d => (pure []) >>= fun ds => pure (d :: ds)) >>= fun ds => pure (d :: ds)) >>= fun ds => pure (d :: ds)) >>= fun ds => pure (d :: ds)) >>= fun ds => pure (d :: ds)) >>= fun ds => pure (d :: ds)) >>= fun ds => pure (.tup ds)))) (seqS (parS 4 5 (fun ρ => ((((getV ρ 0) >>= fun d => ((getV ρ 1) >>= fun d => (pure []) >>= fun ds => pure (d :: ds)) >>= fun ds => pure (d :: ds)) >>= fun ds => mkS "TwoTrees" i_TwoTrees ds) >>= fun d => ((((getV ρ 1) >>= fun d => ((getV ρ 0) >>= fun d => (pure []) >>= fun ds => pure (d :: ds)) >>= fun ds => pure (d :: ds)) >>= fun ds => mkS "TwoTrees" i_TwoTrees (permD [1, 0] ds)) >>= fun d => (pure []) >>= fun ds => pure (d :: ds)) >>= fun ds => pure (d :: ds)))) (seqS (parS 6 7 (fun ρ => ((((getV ρ 4) >>= fun d => con d >>= isiO "TwoTrees" []) >>= fun d => asBl d >>= fun b => if b = true then ((getV ρ 5) >>= fun d => con d >>= isiO "TwoTrees" []) else pure (.bl false)) >>= fun d => (((((getV ρ 4) >>= fun d => fldD "one" d) >>= fun d => (((getV ρ 4) >>= fun d => fldD "other" d) >>= fun d => (pure []) >>= fun ds => pure (d :: ds)) >>= fun ds => pure (d :: ds)) >>= fun ds => pure (.lst ds)) >>= fun d => (pure []) >>= fun ds => pure (d :: ds)) >>= fun ds => pure (d :: ds)))) (seqS (appS 3 (fun ρ => (((getV ρ 4) >>= fun d => ((getV ρ 5) >>= fun d => ((getV ρ 6) >>= fun d => ((getV ρ 7) >>= fun d => (((((getV ρ 5) >>= fun d => fldD "one" d) >>= fun d => (((getV ρ 5) >>= fun d => fldD "other" d) >>= fun d => (pure []) >>= fun ds => pure (d :: ds)) >>= fun ds => pure (d :: ds)) >>= fun ds => pure (.lst ds)) >>= fun d => ((((getV ρ 0) >>= fun d => ((getV ρ 1) >>= fun d => (pure []) >>= fun ds => pure (d :: ds)) >>= fun ds => pure (d :: ds)) >>= fun ds => pure (.lst ds)) >>= fun d => (pure []) >>= fun ds => pure (d :: ds)) >>= fun ds => pure (d :: ds)) >>= fun ds => pure (d :: ds)) >>= fun ds => pure (d :: ds)) >>= fun ds => pure (d :: ds)) >>= fun ds => pure (d :: ds)) >>= fun ds => pure (.tup ds)))) (seqS (parS 4 5 (fun ρ => ((((getV ρ 0) >>= fun d => (pure []) >>= fun ds => pure (d :: ds)) >>= fun ds => mkS "Thick" i_Thick ds) >>= fun d => ((((getV ρ 0) >>= fun d => (pure []) >>= fun ds => pure (d :: ds)) >>= fun ds => mkS "Thick" i_Thick (permD [0] ds)) >>= fun d => (pure []) >>= fun ds => pure (d :: ds)) >>= fun ds => pure (d :: ds)))) (seqS (parS 6 7 (fun ρ => ((((getV ρ 4) >>= fun d => con d >>= isiO "Thick" []) >>= fun d => asBl d >>= fun b => if b = true then ((getV ρ 5) >>= fun d => con d >>= isiO "Thick" []) else pure (.bl false)) >>= fun d => (((((getV ρ 4) >>= fun d => fldD "joints" d) >>= fun d => (pure []) >>= fun ds => pure (d :: ds)) >>= fun ds => pure (.lst ds)) >>= fun d => (pure []) >>= fun ds => pure (d :: ds)) >>= fun ds => pure (d :: ds)))) (seqS (appS 3 (fun ρ => (((getV ρ 4) >>= fun d => ((getV ρ 5) >>= fun d => ((getV ρ 6) >>= fun d => ((getV ρ 7) >>= fun d => (((((getV ρ 5) >>= fun d => fldD "joints" d) >>= fun d => (pure []) >>= fun ds => pure (d :: ds)) >>= fun ds => pure (.lst ds)) >>= fun d => ((((getV ρ 0) >>= fun d => (pure []) >>= fun ds => pure (d :: ds)) >>= fun ds => pure (.lst ds)) >>= fun d => (pure []) >>= fun ds => pure (d :: ds)) >>= fun ds => pure (d :: ds)) >>= fun ds => pure (d :: ds)) >>= fun ds => pure (d :: ds)) >>= fun ds => pure (d :: ds)) >>= fun ds => pure (d :: ds)) >>= fun ds => pure (.tup ds)))) (seqS (parS 4 5 (fun ρ => ((((getV ρ 0) >>= fun d => ((getV ρ 1) >>= fun d => (pure []) >>= fun ds => pure (d :: ds)) >>= fun ds => pure (d :: ds)) >>= fun ds => mkS "Light" i_Light ds) >>= fun d => ((((getV ρ 1) >>= fun d => ((getV ρ 0) >>= fun d => (pure []) >>= fun ds => pure (d :: ds)) >>= fun ds => pure (d :: ds)) >>= fun ds => mkS "Light" i_Light (permD [1, 0] ds)) >>= fun d => (pure []) >>= fun ds => pure (d :: ds)) >>= fun ds => pure (d :: ds)))) (seqS (parS 6 7 (fun ρ => ((((getV ρ 4) >>= fun d => con d >>= isiO "Light" []) >>= fun d => asBl d >>= fun b => if b = true then ((getV ρ 5) >>= fun d => con d >>= isiO "Light" []) else pure (.bl false)) >>= fun d => (((((getV ρ 4) >>= fun d => fldD "row" d) >>= fun d => (((getV ρ 4) >>= fun d => fldD "move" d) >>= fun d => (pure []) >>= fun ds => pure (d :: ds)) >>= fun ds => pure (d :: ds)) >>= fun ds => pure (.lst ds)) >>= fun d => (pure []) >>= fun ds => pure (d :: ds)) >>= fun ds => pure (d :: ds)))) (seqS (appS 3 (fun ρ => (((getV ρ 4) >>= fun d => ((getV ρ 5) >>= fun d => ((getV ρ 6) >>= fun d => ((getV ρ 7) >>= fun d => (((((getV ρ 5) >>= fun d => fldD "row" d) >>= fun d => (((getV ρ 5) >>= fun d => fldD "move" d) >>= fun d => (pure []) >>= fun ds => pure (d :: ds)) >>= fun ds => pure (d :: ds)) >>= fun ds => pure (.lst ds)) >>= fun d => ((((getV ρ 0) >>= fun d => ((getV ρ 1) >>= fun d => (pure []) >>= fun ds => pure (d :: ds)) >>= fun ds => pure (d :: ds)) >>= fun ds => pure (.lst ds)) >>= fun d => (pure []) >>= fun ds => pure (d :: ds)) >>= fun ds => pure (d :: ds)) >>= fun ds => pure (d :: ds)) >>= fun ds => pure (d :: ds)) >>= fun ds => pure (d :: ds)) >>= fun ds => pure (d :: ds)) >>= fun ds => pure (.tup ds)))) (seqS (parS 4 5 (fun ρ => ((((getV ρ 0) >>= fun d => (pure []) >>= fun ds => pure (d :: ds)) >>= fun ds => mkS "Sinks" i_Sinks ds) >>= fun d => ((((getV ρ 0) >>= fun d => (pure []) >>= fun ds => pure (d :: ds)) >>= fun ds => mkS "Sinks" i_Sinks (permD [0] ds)) >>= fun d => (pure []) >>= fun ds => pure (d :: ds)) >>= fun ds => pure (d :: ds)))) (seqS (parS 6 7 (fun ρ => ((((getV ρ 4) >>= fun d => con d >>= isiO "Sinks" []) >>= fun d => asBl d >>= fun b => if b = true then ((getV ρ 5) >>= fun d => con d >>= isiO "Sinks" []) else pure (.bl false)) >>= fun d => (((((getV ρ 4) >>= fun d => fldD "move" d) >>= fun d => (pure []) >>= fun ds => pure (d :: ds)) >>= fun ds => pure (.lst ds)) >>= fun d => (pure []) >>= fun ds => pure (d :: ds)) >>= fun ds => pure (d :: ds)))) (seqS (appS 3 (fun ρ => (((getV ρ 4) >>= fun d => ((getV ρ 5) >>= fun d => ((getV ρ 6) >>= fun d => ((getV ρ 7) >>= fun d => (((((getV ρ 5) >>= fun d => fldD "move" d) >>= fun d => (pure []) >>= fun ds => pure (d :: ds)) >>= fun ds => pure (.lst ds)) >>= fun d => ((((getV ρ 0) >>= fun d => (pure []) >>= fun ds => pure (d :: ds)) >>= fun ds => pure (.lst ds)) >>= fun d => (pure []) >>= fun ds => pure (d :: ds)) >>= fun ds => pure (d :: ds)) >>= fun ds => pure (d :: ds)) >>= fun ds => pure (d :: ds)) >>= fun ds => pure (d :: ds)) >>= fun ds => pure (d :: ds)) >>= fun ds => pure (.tup ds)))) (seqS (parS 4 5 (fun ρ => ((((getV ρ 0) >>= fun d => ((getV ρ 1) >>= fun d => (pure []) >>= fun ds => pure (d :: ds)) >>= fun ds => pure (d :: ds)) >>= fun ds => mkS "Uses" i_Uses ds) >>= fun d => ((((getV ρ 1) >>= fun d => ((getV ρ 0) >>= fun d => (pure []) >>= fun ds => pure (d :: ds)) >>= fun ds => pure (d :: ds)) >>= fun ds => mkS "Uses" i_Uses (permD [1, 0] ds)) >>= fun d => (pure []) >>= fun ds => pure (d :: ds)) >>= fun ds => pure (d :: ds)))) (seqS (parS 6 7 (fun ρ => ((((getV ρ 4) >>= fun d => con d >>= isiO "Uses" []) >>= fun d => asBl d >>= fun b => if b = true then ((getV ρ 5) >>= fun d => con d >>= isiO "Uses" []) else pure (.bl false)) >>= fun d => (((((getV ρ 4) >>= fun d => fldD "row" d) >>= fun d => (((getV ρ 4) >>= fun d => fldD "move" d) >>= fun d => (pure []) >>= fun ds => pure (d :: ds)) >>= fun ds => pure (d :: ds)) >>= fun ds => pure (.lst ds)) >>= fun d => (pure []) >>= fun ds => pure (d :: ds)) >>= fun ds => pure (d :: ds)))) (seqS (appS 3 (fun ρ => (((getV ρ 4) >>= fun d => ((getV ρ 5) >>= fun d => ((getV ρ 6) >>= fun d => ((getV ρ 7) >>= fun d => (((((getV ρ 5) >>= fun d => fldD "row" d) >>= fun d => (((getV ρ 5) >>= fun d => fldD "move" d) >>= fun d => (pure []) >>= fun ds => pure (d :: ds)) >>= fun ds => pure (d :: ds)) >>= fun ds => pure (.lst ds)) >>= fun d => ((((getV ρ 0) >>= fun d => ((getV ρ 1) >>= fun d => (pure []) >>= fun ds => pure (d :: ds)) >>= fun ds => pure (d :: ds)) >>= fun ds => pure (.lst ds)) >>= fun d => (pure []) >>= fun ds => pure (d :: ds)) >>= fun ds => pure (d :: ds)) >>= fun ds => pure (d :: ds)) >>= fun ds => pure (d :: ds)) >>= fun ds => pure (d :: ds)) >>= fun ds => pure (d :: ds)) >>= fun ds => pure (.tup ds)))) (seqS (parS 4 5 (fun ρ => ((((getV ρ 0) >>= fun d => ((getV ρ 1) >>= fun d => ((getV ρ 2) >>= fun d => (pure []) >>= fun ds => pure (d :: ds)) >>= fun ds => pure (d :: ds)) >>= fun ds => pure (d :: ds)) >>= fun ds => mkS "Sizes" i_Sizes ds) >>= fun d => ((((getV ρ 2) >>= fun d => ((getV ρ 1) >>= fun d => ((getV ρ 0) >>= fun d => (pure []) >>= fun ds => pure (d :: ds)) >>= fun ds => pure (d :: ds)) >>= fun ds => pure (d :: ds)) >>= fun ds => mkS "Sizes" i_Sizes (permD [2, 1, 0] ds)) >>= fun d => (pure []) >>= fun ds => pure (d :: ds)) >>= fun ds => pure (d :: ds)))) (seqS (parS 6 7 (fun ρ => ((((getV ρ 4) >>= fun d => con d >>= isiO "Sizes" []) >>= fun d => asBl d >>= fun b => if b = true then ((getV ρ 5) >>= fun d => con d >>= isiO "Sizes" []) else pure (.bl false)) >>= fun d => (((((getV ρ 4) >>= fun d => fldD "sizes" d) >>= fun d => (((getV ρ 4) >>= fun d => fldD "rows" d) >>= fun d => (((getV ρ 4) >>= fun d => fldD "moves" d) >>= fun d => (pure []) >>= fun ds => pure (d :: ds)) >>= fun ds => pure (d :: ds)) >>= fun ds => pure (d :: ds)) >>= fun ds => pure (.lst ds)) >>= fun d => (pure []) >>= fun ds => pure (d :: ds)) >>= fun ds => pure (d :: ds)))) (seqS (appS 3 (fun ρ => (((getV ρ 4) >>= fun d => ((getV ρ 5) >>= fun d => ((getV ρ 6) >>= fun d => ((getV ρ 7) >>= fun d => (((((getV ρ 5) >>= fun d => fldD "sizes" d) >>= fun d => (((getV ρ 5) >>= fun d => fldD "rows" d) >>= fun d => (((getV ρ 5) >>= fun d => fldD "moves" d) >>= fun d => (pure []) >>= fun ds => pure (d :: ds)) >>= fun ds => pure (d :: ds)) >>= fun ds => pure (d :: ds)) >>= fun ds => pure (.lst ds)) >>= fun d => ((((getV ρ 0) >>= fun d => ((getV ρ 1) >>= fun d => ((getV ρ 2) >>= fun d => (pure []) >>= fun ds => pure (d :: ds)) >>= fun ds => pure (d :: ds)) >>= fun ds => pure (d :: ds)) >>= fun ds => pure (.lst ds)) >>= fun d => (pure []) >>= fun ds => pure (d :: ds)) >>= fun ds => pure (d :: ds)) >>= fun ds => pure (d :: ds)) >>= fun ds => pure (d :: ds)) >>= fun ds => pure (d :: ds)) >>= fun ds => pure (d :: ds)) >>= fun ds => pure (.tup ds)))) (seqS (parS 4 5 (fun ρ => ((((getV ρ 0) >>= fun d => ((getV ρ 1) >>= fun d => (pure []) >>= fun ds => pure (d :: ds)) >>= fun ds => pure (d :: ds)) >>= fun ds => mkS "Fails" i_Fails ds) >>= fun d => ((((getV ρ 1) >>= fun d => ((getV ρ 0) >>= fun d => (pure []) >>= fun ds => pure (d :: ds)) >>= fun ds => pure (d :: ds)) >>= fun ds => mkS "Fails" i_Fails (permD [1, 0] ds)) >>= fun d => (pure []) >>= fun ds => pure (d :: ds)) >>= fun ds => pure (d :: ds)))) (seqS (parS 6 7 (fun ρ => ((((getV ρ 4) >>= fun d => con d >>= isiO "Fails" []) >>= fun d => asBl d >>= fun b => if b = true then ((getV ρ 5) >>= fun d => con d >>= isiO "Fails" []) else pure (.bl false)) >>= fun d => (((((getV ρ 4) >>= fun d => fldD "number" d) >>= fun d => (((getV ρ 4) >>= fun d => fldD "move" d) >>= fun d => (pure []) >>= fun ds => pure (d :: ds)) >>= fun ds => pure (d :: ds)) >>= fun ds => pure (.lst ds)) >>= fun d => (pure []) >>= fun ds => pure (d :: ds)) >>= fun ds => pure (d :: ds)))) (seqS (appS 3 (fun ρ => (((getV ρ 4) >>= fun d => ((getV ρ 5) >>= fun d => ((getV ρ 6) >>= fun d => ((getV ρ 7) >>= fun d => (((((getV ρ 5) >>= fun d => fldD "number" d) >>= fun d => (((getV ρ 5) >>= fun d => fldD "move" d) >>= fun d => (pure []) >>= fun ds => pure (d :: ds)) >>= fun ds => pure (d :: ds)) >>= fun ds => pure (.lst ds)) >>= fun d => ((((getV ρ 0) >>= fun d => ((getV ρ 1) >>= fun d => (pure []) >>= fun ds => pure (d :: ds)) >>= fun ds => pure (d :: ds)) >>= fun ds => pure (.lst ds)) >>= fun d => (pure []) >>= fun ds => pure (d :: ds)) >>= fun ds => pure (d :: ds)) >>= fun ds => pure (d :: ds)) >>= fun ds => pure (d :: ds)) >>= fun ds => pure (d :: ds)) >>= fun ds => pure (d :: ds)) >>= fun ds => pure (.tup ds)))) (seqS (parS 4 5 (fun ρ => ((((getV ρ 0) >>= fun d => ((getV ρ 1) >>= fun d => (pure []) >>= fun ds => pure (d :: ds)) >>= fun ds => pure (d :: ds)) >>= fun ds => mkS "Fit" i_Fit ds) >>= fun d => ((((getV ρ 1) >>= fun d => ((getV ρ 0) >>= fun d => (pure []) >>= fun ds => pure (d :: ds)) >>= fun ds => pure (d :: ds)) >>= fun ds => mkS "Fit" i_Fit (permD [1, 0] ds)) >>= fun d => (pure []) >>= fun ds => pure (d :: ds)) >>= fun ds => pure (d :: ds)))) (seqS (parS 6 7 (fun ρ => ((((getV ρ 4) >>= fun d => con d >>= isiO "Fit" []) >>= fun d => asBl d >>= fun b => if b = true then ((getV ρ 5) >>= fun d => con d >>= isiO "Fit" []) else pure (.bl false)) >>= fun d => (((((getV ρ 4) >>= fun d => fldD "aims" d) >>= fun d => (((getV ρ 4) >>= fun d => fldD "points" d) >>= fun d => (pure []) >>= fun ds => pure (d :: ds)) >>= fun ds => pure (d :: ds)) >>= fun ds => pure (.lst ds)) >>= fun d => (pure []) >>= fun ds => pure (d :: ds)) >>= fun ds => pure (d :: ds)))) (seqS (appS 3 (fun ρ => (((getV ρ 4) >>= fun d => ((getV ρ 5) >>= fun d => ((getV ρ 6) >>= fun d => ((getV ρ 7) >>= fun d => (((((getV ρ 5) >>= fun d => fldD "aims" d) >>= fun d => (((getV ρ 5) >>= fun d => fldD "points" d) >>= fun d => (pure []) >>= fun ds => pure (d :: ds)) >>= fun ds => pure (d :: ds)) >>= fun ds => pure (.lst ds)) >>= fun d => ((((getV ρ 0) >>= fun d => ((getV ρ 1) >>= fun d => (pure []) >>= fun ds => pure (d :: ds)) >>= fun ds => pure (d :: ds)) >>= fun ds => pure (.lst ds)) >>= fun d => (pure []) >>= fun ds => pure (d :: ds)) >>= fun ds => pure (d :: ds)) >>= fun ds => pure (d :: ds)) >>= fun ds => pure (d :: ds)) >>= fun ds => pure (d :: ds)) >>= fun ds => pure (d :: ds)) >>= fun ds => pure (.tup ds)))) (retS (fun ρ => (getV ρ 3))))))))))))))))))))))))))))))))))
def m_ulaw_made_e : List D → M D := runS 8 b_ulaw_made_e
def b_ulaw_value : Sm := (seqS (setS 1 (fun ρ => (((((pure (.int 1)) >>= fun d => ((pure (.int 2)) >>= fun d => (pure []) >>= fun ds => pure (d :: ds)) >>= fun ds => pure (d :: ds)) >>= fun ds => pure (.tup ds)) >>= fun d => ((((pure (.int 1)) >>= fun d => ((((pure (.int 2)) >>= fun d => (pure []) >>= fun ds => pure (d :: ds)) >>= fun ds => pure (.lst ds)) >>= fun d => (pure []) >>= fun ds => pure (d :: ds)) >>= fun ds => pure (d :: ds)) >>= fun ds => newO (.lst ds)) >>= fun d => (((pure []) >>= fun ds => newO (.lst ds)) >>= fun d => (((pure []) >>= fun ds => pure (.tup ds)) >>= fun d => ((pure (.str "web")) >>= fun d => ((pure (.int 5)) >>= fun d => ((pure .non) >>= fun d => ((pure (.bl true)) >>= fun d => ((((((pure (.int 0)) >>= fun d => ((pure (.int 1)) >>= fun d => (pure []) >>= fun ds => pure (d :: ds)) >>= fun ds => pure (d :: ds)) >>= fun ds => pure (.tup ds)) >>= fun d => (pure []) >>= fun ds => pure (d :: ds)) >>= fun ds => pure (.tup ds)) >>= fun d => ((((((pure (.int 0)) >>= fun d => (pure []) >>= fun ds => pure (d :: ds)) >>= fun ds => pure (.lst ds)) >>= fun d => ((((pure (.int 1)) >>= fun d => (pure []) >>= fun ds => pure (d :: ds)) >>= fun ds => pure (.lst ds)) >>= fun d => (pure []) >>= fun ds => pure (d :: ds)) >>= fun ds => pure (d :: ds)) >>= fun ds => newO (.lst ds)) >>= fun d => (((((pure (.str "a")) >>= fun k => keyM k >>= fun k => (pure (.int 1)) >>= fun d => (pure []) >>= fun es => pure ((k, d) :: es)) >>= fun es => if es.length ≤ 15 then pure (mergeD [] es) else bad) >>= fun es => pure (.dct es)) >>= fun d => (((pure (.int 3)) >>= fun d => negD d) >>= fun d => ((pure (.str "")) >>= fun d => ((((pure .non) >>= fun d => (pure []) >>= fun ds => pure (d :: ds)) >>= fun ds => newO (.lst ds)) >>= fun d => (pure []) >>= fun ds => pure (d :: ds)) >>= fun ds => pure (d :: ds)) >>= fun ds => pure (d :: ds)) >>= fun ds => pure (d :: ds)) >>= fun ds => pure (d :: ds)) >>= fun ds => pure (d :: ds)) >>= fun ds => pure (d :: ds)) >>= fun ds => pure (d :: ds)) >>= fun ds => pure (d :: ds)) >>= fun ds => pure (d :: ds)) >>= fun ds => pure (d :: ds)) >>= fun ds => pure (d :: ds)) >>= fun ds => pure (d :: ds)) >>= fun ds => pure (d :: ds)) >>= fun ds => pure (.lst ds)))) (retS (fun ρ => (((getV ρ 0) >>= fun d => (((getV ρ 1) >>= fun d => ((((compF [2] (fun ρ => (((pure (.int 3)) >>= fun d => (pure []) >>= fun ds => pure (d :: ds)) >>= rng1)) (tgV 2) (fun _ => pure true) (fun ρ => (((getV ρ 0) >>= fun d => ((pure (.int 9)) >>= fun d => (pure []) >>= fun ds => pure (d :: ds)) >>= fun ds => pure (d :: ds)) >>= fun ds => m_ulaw_draw (ds ++ []))) ρ) >>= fun ds => newO (.lst ds)) >>= fun d => (pure []) >>= fun ds => pure (d :: ds)) >>= fun ds => pure (.lst ds)) >>= fun e => addL d e) >>= fun d => (pure []) >>= fun ds => pure (d :: ds)) >>= fun ds => pure (d :: ds)) >>= fun ds => m_ulaw_pick (ds ++ [])))))
def m_ulaw_value : List D → M D := runS 3 b_ulaw_value
def b_ulaw_copy : Sm := (retS (fun ρ => ((((getV ρ 0) >>= fun d => con d >>= isiC "list") >>= fun d => con d >>= truC) >>= fun b => if b = true then (((getV ρ 0) >>= fun d => (pure []) >>= fun ds => pure (d :: ds)) >>= fun ds => tupK ds) else (getV ρ 0))))
def m_ulaw_copy : List D → M D := runS 1 b_ulaw_copy
def b_law : Sm := (seqS (setS 1 (fun ρ => (((getV ρ 0) >>= fun d => (pure []) >>= fun ds => pure (d :: ds)) >>= fun ds => m_ulaw_pen (ds ++ [])))) (seqS (setS 2 (fun ρ => (compF [15] (fun ρ => (((pure (.int 3)) >>= fun d => (pure []) >>= fun ds => pure (d :: ds)) >>= rng1)) (tgV 15) (fun _ => pure true) (fun ρ => (((getV ρ 1) >>= fun d => (pure []) >>= fun ds => pure (d :: ds)) >>= fun ds => m_ulaw_value (ds ++ []))) ρ) >>= fun ds => pure (.lst ds))) (seqS (tgtS (fun ρ => ((compF [19] (fun ρ => ((getV ρ 2) >>= seqI)) (tgV 19) (fun _ => pure true) (fun ρ => ((((getV ρ 19) >>= fun d => con d >>= isiC "list") >>= fun d => con d >>= truC) >>= fun b => if b = true then ((((getV ρ 19) >>= fun d => (pure []) >>= fun ds => pure (d :: ds)) >>= fun ds => lstK ds) >>= fun ds => pure (.lst ds)) else (getV ρ 19))) ρ) >>= fun ds => pure (.lst ds))) (tgL 3 (tgCons (tgV 3) (tgCons (tgV 4) (tgCons (tgV 5) tgNil))))) (seqS (setS 6 (fun ρ => ((pure []) >>= fun ds => pure (.lst ds)))) (seqS (forS (fun ρ => ((((((getV ρ 3) >>= fun d => ((getV ρ 4) >>= fun d => ((getV ρ 5) >>= fun d => (pure []) >>= fun ds => pure (d :: ds)) >>= fun ds => pure (d :: ds)) >>= fun ds => pure (d :: ds)) >>= fun ds => m_ulaw_made_a (ds ++ [])) >>= fun d => ((((getV ρ 3) >>= fun d => ((getV ρ 4) >>= fun d => ((getV ρ 5) >>= fun d => (pure []) >>= fun ds => pure (d :: ds)) >>= fun ds => pure (d :: ds)) >>= fun ds => pure (d :: ds)) >>= fun ds => m_ulaw_made_b (ds ++ [])) >>= fun d => ((((getV ρ 3) >>= fun d => ((getV ρ 4) >>= fun d => ((getV ρ 5) >>= fun d => (pure []) >>= fun ds => pure (d :: ds)) >>= fun ds => pure (d :: ds)) >>= fun ds => pure (d :: ds)) >>= fun ds => m_ulaw_made_c (ds ++ [])) >>= fun d => ((((getV ρ 3) >>= fun d => ((getV ρ 4) >>= fun d => ((getV ρ 5) >>= fun d => (pure []) >>= fun ds => pure (d :: ds)) >>= fun ds => pure (d :: ds)) >>= fun ds => pure (d :: ds)) >>= fun ds => m_ulaw_made_d (ds ++ [])) >>= fun d => ((((getV ρ 3) >>= fun d => ((getV ρ 4) >>= fun d => ((getV ρ 5) >>= fun d => (pure []) >>= fun ds => pure (d :: ds)) >>= fun ds => pure (d :: ds)) >>= fun ds => pure (d :: ds)) >>= fun ds => m_ulaw_made_e (ds ++ [])) >>= fun d => (pure []) >>= fun ds => pure (d :: ds)) >>= fun ds => pure (d :: ds)) >>= fun ds => pure (d :: ds)) >>= fun ds => pure (d :: ds)) >>= fun ds => pure (d :: ds)) >>= fun ds => pure (.lst ds)) >>= seqI)) (tgV 7) (seqS (setS 6 (fun ρ => ((getV ρ 6) >>= fun d => (getV ρ 7) >>= fun e => addL d e))) (fun ρ s => .nx ρ s))) (seqS (forS (fun ρ => ((getV ρ 6) >>= seqI)) (tgT 6 (tgCons (tgV 8) (tgCons (tgV 9) (tgCons (tgV 10) (tgCons (tgV 11) (tgCons (tgV 12) (tgCons (tgV 13) tgNil))))))) (seqS (setS 14 (fun ρ => ((((compF [19] (fun ρ => ((getV ρ 13) >>= seqI)) (tgV 19) (fun _ => pure true) (fun ρ => (((getV ρ 19) >>= fun d => (pure []) >>= fun ds => pure (d :: ds)) >>= fun ds => m_ulaw_copy (ds ++ []))) ρ) >>= fun ds => pure (.lst ds)) >>= fun d => (pure []) >>= fun ds => pure (d :: ds)) >>= fun ds => reprK ds))) (seqS (ifS (fun ρ => (((getV ρ 10) >>= fun d => (pure (.bl true)) >>= fun e => cmpM (isBB true) d e) >>= fun b => if b = true then pure true else (((((getV ρ 11) >>= fun d => (pure []) >>= fun ds => pure (d :: ds)) >>= fun ds => reprK ds) >>= fun d => (getV ρ 14) >>= fun e => cmpM (neB eqL) d e) >>= fun b => if b = true then pure true else (((((getV ρ 12) >>= fun d => (pure []) >>= fun ds => pure (d :: ds)) >>= fun ds => reprK ds) >>= fun d => (getV ρ 14) >>= fun e => cmpM (neB eqL) d e) >>= fun b => if b = true then pure true else ((((getV ρ 8) >>= fun d => (getV ρ 8) >>= fun e => cmpM (eqB eqL) d e) >>= fun b => pure (!b)) >>= fun b => if b = true then pure true else ((getV ρ 8) >>= fun d => (getV ρ 9) >>= fun e => cmpM (eqB eqL) d e)))))) (retS (fun ρ => (pure (.bl false)))) (fun ρ s => .nx ρ s)) (fun ρ s => .nx ρ s)))) (seqS (forS (fun ρ => (((((getV ρ 6) >>= fun d => (pure []) >>= fun ds => pure (d :: ds)) >>= fun ds => lenK ds) >>= fun d => (pure []) >>= fun ds => pure (d :: ds)) >>= rng1)) (tgV 15) (seqS (setS 16 (fun ρ => (((getV ρ 6) >>= fun d => ((((((getV ρ 15) >>= fun d => (pure (.int 1)) >>= fun e => addL d e) >>= fun d => (((getV ρ 1) >>= fun d => (((((getV ρ 6) >>= fun d => (pure []) >>= fun ds => pure (d :: ds)) >>= fun ds => lenK ds) >>= fun d => (pure (.int 1)) >>= fun e => subD d e) >>= fun d => (pure []) >>= fun ds => pure (d :: ds)) >>= fun ds => pure (d :: ds)) >>= fun ds => m_ulaw_draw (ds ++ [])) >>= fun e => addL d e) >>= fun d => (pure []) >>= fun ds => pure (d :: ds)) >>= fun ds => intK ds) >>= fun d => (((getV ρ 6) >>= fun d => (pure []) >>= fun ds => pure (d :: ds)) >>= fun ds => lenK ds) >>= fun e => modD d e) >>= fun e => idxD d e) >>= fun d => (pure (.int 0)) >>= fun e => idxD d e))) (seqS (ifS (fun ρ => (((((getV ρ 6) >>= fun d => (getV ρ 15) >>= fun e => idxD d e) >>= fun d => (pure (.int 0)) >>= fun e => idxD d e) >>= fun d => (getV ρ 16) >>= fun e => cmpM (eqB eqL) d e) >>= fun b => if b = true then pure true else (((getV ρ 16) >>= fun d => (((getV ρ 6) >>= fun d => (getV ρ 15) >>= fun e => idxD d e) >>= fun d => (pure (.int 0)) >>= fun e => idxD d e) >>= fun e => cmpM (eqB eqL) d e) >>= fun b => if b = true then pure true else (((((getV ρ 6) >>= fun d => (getV ρ 15) >>= fun e => idxD d e) >>= fun d => (pure (.int 0)) >>= fun e => idxD d e) >>= fun d => (getV ρ 16) >>= fun e => cmpM (neB eqL) d e) >>= fun b => pure (!b))))) (retS (fun ρ => (pure (.bl false)))) (fun ρ s => .nx ρ s)) (fun ρ s => .nx ρ s)))) (seqS (setS 17 (fun ρ => ((((getV ρ 2) >>= fun d => (pure (.int 0)) >>= fun e => idxD d e) >>= fun d => (pure []) >>= fun ds => pure (d :: ds)) >>= fun ds => mkS "Found" i_Found ds))) (seqS (setS 18 (fun ρ => ((((getV ρ 17) >>= fun d => fldD "row" d) >>= fun d => (pure []) >>= fun ds => pure (d :: ds)) >>= fun ds => reprK ds))) (seqS (ifS (fun ρ => ((((getV ρ 2) >>= fun d => (pure (.int 0)) >>= fun e => idxD d e) >>= fun d => con d >>= isiC "list") >>= fun d => con d >>= truC)) (seqS (appO (fun ρ => ((getV ρ 2) >>= fun d => (pure (.int 0)) >>= fun e => idxD d e)) (fun ρ => (pure (.int 7)))) (fun ρ s => .nx ρ s)) (fun ρ s => .nx ρ s)) (retS (fun ρ => ((((((getV ρ 17) >>= fun d => fldD "row" d) >>= fun d => (pure []) >>= fun ds => pure (d :: ds)) >>= fun ds => reprK ds) >>= fun d => (getV ρ 18) >>= fun e => cmpV (eqB eqL) d e) >>= fun d => asBl d >>= fun b => if b = true then ((((getV ρ 6) >>= fun d => (pure []) >>= fun ds => pure (d :: ds)) >>= fun ds => lenK ds) >>= fun d => (pure (.int 54)) >>= fun e => cmpV (eqB eqL) d e) else pure (.bl false))))))))))))))
def m_law : List D → M D := runS 20 b_law
end K83

namespace K83
open PySem PySem.Spec PyProof.Rows L2 DL
/-! ### evaluating a mirror -/
theorem get_a (s : Sto) (A B : D) : ((s ++ [A]) ++ [B])[s.length]? = some A := by simp
theorem get_b (s : Sto) (A B : D) : ((s ++ [A]) ++ [B])[s.length + 1]? = some B := by simp
theorem len_a (s : Sto) (A : D) : (s ++ [A]).length = s.length + 1 := by simp
def blk1 (C f : Str) (iC : List D → M Fs) (rest : Sm) : Sm := (seqS (parS 4 5 (fun ρ => ((((getV ρ 0) >>= fun d => (pure []) >>= fun ds => pure (d :: ds)) >>= fun ds => mkS C iC ds) >>= fun d => ((((getV ρ 0) >>= fun d => (pure []) >>= fun ds => pure (d :: ds)) >>= fun ds => mkS C iC (permD [0] ds)) >>= fun d => (pure []) >>= fun ds => pure (d :: ds)) >>= fun ds => pure (d :: ds)))) (seqS (parS 6 7 (fun ρ => ((((getV ρ 4) >>= fun d => con d >>= isiO C []) >>= fun d => asBl d >>= fun b => if b = true then ((getV ρ 5) >>= fun d => con d >>= isiO C []) else pure (.bl false)) >>= fun d => (((((getV ρ 4) >>= fun d => fldD f d) >>= fun d => (pure []) >>= fun ds => pure (d :: ds)) >>= fun ds => pure (.lst ds)) >>= fun d => (pure []) >>= fun ds => pure (d :: ds)) >>= fun ds => pure (d :: ds)))) (seqS (appS 3 (fun ρ => (((getV ρ 4) >>= fun d => ((getV ρ 5) >>= fun d => ((getV ρ 6) >>= fun d => ((getV ρ 7) >>= fun d => (((((getV ρ 5) >>= fun d => fldD f d) >>= fun d => (pure []) >>= fun ds => pure (d :: ds)) >>= fun ds => pure (.lst ds)) >>= fun d => ((((getV ρ 0) >>= fun d => (pure []) >>= fun ds => pure (d :: ds)) >>= fun ds => pure (.lst ds)) >>= fun d => (pure []) >>= fun ds => pure (d :: ds)) >>= fun ds => pure (d :: ds)) >>= fun ds => pure (d :: ds)) >>= fun ds => pure (d :: ds)) >>= fun ds => pure (d :: ds)) >>= fun ds => pure (d :: ds)) >>= fun ds => pure (.tup ds)))) rest)))
theorem blk1_ok {C f : Str} {iC : List D → M Fs} {rest : Sm} {a x : D} (hi : ∀ s, iC [a] s = .ok [(f, x)] s) (ob oc o1 o2 o3 o4 : Option D) (rs : List D) (hl : rs.length < szMax) (s : Sto) :
    blk1 C f iC rest [some a, ob, oc, some (.lst rs), o1, o2, o3, o4] s =
      rest [some a, ob, oc, some (.lst (rs ++ [.tup [.obj s.length, .obj (s.length + 1), .bl true, .lst [x], .lst [x], .lst [a]]])), some (.obj s.length), some (.obj (s.length + 1)), some (.bl true), some (.lst [x])] ((s ++ [.ins C [(f, x)]]) ++ [.ins C [(f, x)]]) := by
  simp [blk1, seqS, parS, thenS, bind_app, getV0, getVs, mkS, hi, newO, permD, con, isiO, asBl, fldD, fldC, get_a, get_b, appS, withL, hl, liftO, lookF]
end K83

namespace K83
open PySem PySem.Spec PyProof.Rows L2 DL
def penE (cells : List D) (at_ dg ct fo : Int) : List (L2.Key × D) := [(.inr "cells", .lst cells), (.inr "at", .int at_), (.inr "digits", .int dg), (.inr "count", .int ct), (.inr "fold", .int fo)]
section
variable (cells : List D) (at_ dg ct fo x : Int)
theorem pk1 : lookK (penE cells at_ dg ct fo) (.inr "cells") = some (.lst cells) := by rfl
theorem pk2 : lookK (penE cells at_ dg ct fo) (.inr "at") = some (.int at_) := by rfl
theorem pk3 : lookK (penE cells at_ dg ct fo) (.inr "digits") = some (.int dg) := by rfl
theorem pk4 : lookK (penE cells at_ dg ct fo) (.inr "count") = some (.int ct) := by rfl
theorem pk5 : lookK (penE cells at_ dg ct fo) (.inr "fold") = some (.int fo) := by rfl
theorem pp2 : putD (penE cells at_ dg ct fo) (.inr "at") (.int x) = penE cells x dg ct fo := by rfl
theorem pp3 : putD (penE cells at_ dg ct fo) (.inr "digits") (.int x) = penE cells at_ x ct fo := by rfl
theorem pp4 : putD (penE cells at_ dg ct fo) (.inr "count") (.int x) = penE cells at_ dg x fo := by rfl
theorem pp5 : putD (penE cells at_ dg ct fo) (.inr "fold") (.int x) = penE cells at_ dg ct x := by rfl
theorem plen : (penE cells at_ dg ct fo).length < szMax := by show 5 < szMax; decide
end
/-- what a draw needs of the pen -/
structure PenAt (s : Sto) (p : Nat) (c : Nat) : Prop where
  ex : ∃ (cells : List Int) (a : Nat) (dg ct fo : Int), s[p]? = some (.dct (penE (cells.map .int) a dg ct fo)) ∧ 0 ≤ dg ∧ 0 ≤ ct ∧ ct ≤ c ∧ 0 ≤ fo ∧ fo < 2147483579
/-- a draw: a number below many, the pen goes on, all else stands -/
theorem draw_ok {s : Sto} {p c : Nat} (h : PenAt s p c) (hc : c < 1000000) {m : Int} (hm : 0 < m) (hm2 : m < 1000000) : ∃ (r : Int) (d : D), m_ulaw_draw [.obj p, .int m] s = .ok (.int r) (s.set p d) ∧ 0 ≤ r ∧ r < m ∧ PenAt (s.set p d) p (c + 1) := by
  obtain ⟨cells, a, dg, ct, fo, hp, h1, h2, h3, h4, h5⟩ := h.ex
  have hl : p < s.length := (List.getElem?_eq_some_iff.mp hp).1
  have set1 : ∀ (x : D), (s.set p x)[p]? = some x := fun x => List.getElem?_set_self hl
  have set2 : ∀ (x y : D), (s.set p x).set p y = s.set p y := fun x y => List.set_set ..
  have nb : ((ct + 1) * 8219 + 29 + fo).natAbs < 2 ^ 64 := by omega
  have nm : m ≠ 0 := by omega
  show ∃ r d, endS (b_ulaw_draw [some (.obj p), some (.int m), none, none, none] s) = _ ∧ _
  -- the answer of a pen from which a digit is drawn
  have rng : ∀ x : Int, 0 ≤ x.fmod m ∧ x.fmod m < m := fun x => fmod_lt hm
  have pen' : ∀ (a' : Nat) (dg' fo' : Int), 0 ≤ dg' → 0 ≤ fo' → fo' < 2147483579 → PenAt (s.set p (.dct (penE (cells.map .int) a' dg' (ct + 1) fo'))) p (c + 1) := fun a' dg' fo' k1 k2 k3 => ⟨⟨cells, a', dg', ct + 1, fo', set1 _, k1, by omega, by omega, k2, k3⟩⟩
  have fd : ∀ x : Int, 0 ≤ x → 0 ≤ x.fdiv m := fun x hx => by rw [Int.fdiv_eq_ediv_of_nonneg _ (by omega)]; exact Int.ediv_nonneg hx (by omega)
  have mm : m.natAbs < 2 ^ 64 := by omega
  have blend : ∀ fo' : Int, 0 ≤ fo' → fo' < 2147483579 → (fo' + (ct + 1) * 8219 + 29).natAbs < 2 ^ 64 := fun fo' _ _ => by omega
  have ctb : (ct + 1).natAbs < 2 ^ 64 := by omega
  have pw : ∀ fo' : Int, 0 ≤ fo' → fo' < 2147483579 → ∀ s, powD (.int (fo' + (ct + 1) * 8219 + 29)) (.int 21) s = .ok (.int ((fo' + (ct + 1) * 8219 + 29) ^ 21)) s := fun fo' k1 k2 s => pow_ok (n := 21) (blend fo' k1 k2) (by omega) s
  have mul1 : ∀ s, mulD (.int (ct + 1)) (.int 8219) s = .ok (.int ((ct + 1) * 8219)) s := fun s => mul_ok ctb (by decide) s
  unfold b_ulaw_draw
  simp only [seqS_app, putO_app, thenS_app, bind_app, getV0, getVs, pure_app, idx_obj, hp, idx_dctS, pk1, pk2, pk3, pk4, pk5, lift_some, addI, ofObj_app, withS_app, ofDct_app, ofKey_str, plen, if_true, pp2, pp3, pp4, pp5, set1, set2, ifS_app, ite_app, cmpM_app, eqI, len_lst, ltI]
  by_cases hd : dg = 0
  · subst hd
    by_cases ha : (a : Int) < ((cells.map D.int).length : Int)
    · have hlt : a < cells.length := by simpa using ha
      have hat : atI (cells.map D.int) (a : Int) = some (.int cells[a]) := by
        unfold atI ixN
        rw [if_pos (by omega), if_pos (by simpa using ha)]
        simp [hlt]
      have mul2 : ∀ s, mulD (.int fo) (.int 45991) s = .ok (.int (fo * 45991)) s := fun s => mul_ok (by omega) (by decide) s
      simp only [ha, decide_true, if_true, setS_app, thenS_app, bind_app, getV0, getVs, pure_app, idx_obj, set1, idx_dctS, pk1, pk2, pk3, pk4, pk5, lift_some, idx_lst, hat, List.set_cons_succ, List.set_cons_zero, putO_app, addI, ofObj_app, withS_app, ofDct_app, ofKey_str, plen, pp2, set2, seqS_app, ifS_app, ten18, cmpM_app, geI]
      by_cases hc : cells[a] ≥ 1000000000000000000
      · simp only [hc, decide_true, if_true, thenS_app, bind_app, getV0, getVs, pure_app, idx_obj, set1, idx_dctS, pk1, pk2, pk3, pk4, pk5, lift_some, ten18, subI, putO_app, ofObj_app, withS_app, ofDct_app, ofKey_str, plen, pp3, set2, seqS_app, gtI, cmpM_app]
        by_cases hz : cells[a] - 1000000000000000000 > 0
        · simp only [hz, decide_true, if_true, setS_app, thenS_app, bind_app, getV0, getVs, pure_app, idx_obj, set1, idx_dctS, pk1, pk2, pk3, pk4, pk5, lift_some, intI, mod_ok nm, List.set_cons_succ, List.set_cons_zero, putO_app, fdiv_ok nm mm, ofObj_app, withS_app, ofDct_app, ofKey_str, plen, pp3, set2, retS_app, seqS_app, endS]
          exact ⟨_, _, rfl, (rng _).1, (rng _).2, pen' (a + 1) _ fo (fd _ (by omega)) h4 h5⟩
        · simp only [hz, decide_false, Bool.false_eq_true, if_false, setS_app, thenS_app, bind_app, getV0, getVs, pure_app, idx_obj, set1, idx_dctS, pk1, pk2, pk3, pk4, pk5, lift_some, mul1, addI, pw fo h4 h5, List.set_cons_succ, List.set_cons_zero, retS_app, mod_ok (i := (fo + (ct + 1) * 8219 + 29) ^ 21) (j := 2305843009213693951) (by decide), intI, fdiv_ok (j := 2048) (by decide) (by decide), mod_ok nm, endS]
          exact ⟨_, _, rfl, (rng _).1, (rng _).2, pen' (a + 1) _ fo (by omega) h4 h5⟩
      · simp only [hc, decide_false, Bool.false_eq_true, if_false, thenS_app, bind_app, getV0, getVs, pure_app, idx_obj, set1, idx_dctS, pk1, pk2, pk3, pk4, pk5, lift_some, mul2, addI, intI, mod_ok (i := fo * 45991 + cells[a]) (j := 2147483579) (by decide), putO_app, ofObj_app, withS_app, ofDct_app, ofKey_str, plen, pp5, set2, seqS_app, gtI, cmpM_app, if_true, setS_app, mul1, Int.lt_irrefl, gt_iff_lt, decide_false, Bool.false_eq_true]
        have k1 := (fmod_lt (i := fo * 45991 + cells[a]) (j := 2147483579) (by decide)).1
        have k2 := (fmod_lt (i := fo * 45991 + cells[a]) (j := 2147483579) (by decide)).2
        generalize (fo * 45991 + cells[a]).fmod 2147483579 = fo' at k1 k2
        simp only [pw fo' k1 k2, List.set_cons_succ, List.set_cons_zero, retS_app, thenS_app, bind_app, getV0, getVs, pure_app, mod_ok (i := (fo' + (ct + 1) * 8219 + 29) ^ 21) (j := 2305843009213693951) (by decide), intI, fdiv_ok (j := 2048) (by decide) (by decide), mod_ok nm, endS]
        exact ⟨_, _, rfl, (rng _).1, (rng _).2, pen' (a + 1) _ fo' (by omega) k1 k2⟩
    · simp only [ha, decide_true, if_true, decide_false, Bool.false_eq_true, if_false, setS_app, thenS_app, bind_app, getV0, getVs, pure_app, idx_obj, set1, idx_dctS, pk1, pk2, pk3, pk4, pk5, lift_some, mul1, addI, pw fo h4 h5, List.set_cons_succ, List.set_cons_zero, retS_app, mod_ok (i := (fo + (ct + 1) * 8219 + 29) ^ 21) (j := 2305843009213693951) (by decide), intI, fdiv_ok (j := 2048) (by decide) (by decide), mod_ok nm, endS, gtI, Int.lt_irrefl, gt_iff_lt]
      exact ⟨_, _, rfl, (rng _).1, (rng _).2, pen' a _ fo (by omega) h4 h5⟩
  · have hd' : dg > 0 := by omega
    simp only [hd, decide_false, Bool.false_eq_true, if_false, gtI, hd', decide_true, if_true, setS_app, thenS_app, bind_app, getV0, getVs, pure_app, idx_obj, set1, idx_dctS, pk1, pk2, pk3, pk4, pk5, lift_some, intI, mod_ok nm, List.set_cons_succ, List.set_cons_zero, putO_app, fdiv_ok nm mm, ofObj_app, withS_app, ofDct_app, ofKey_str, plen, pp3, set2, retS_app, seqS_app, endS]
    exact ⟨_, _, rfl, (rng _).1, (rng _).2, pen' a _ fo (fd _ h1) h4 h5⟩
end K83

namespace K83
open PySem PySem.Spec PyProof.Rows L2 DL
/-! ### the pen -/
theorem set_len (s : Sto) (p : Nat) (d : D) : (s.set p d).length = s.length := by simp
theorem pen_loop (sc : D) (s : Sto) : ∀ (ns : List Int) (f : Int) (o : Option D), 0 ≤ f → f < 999999893 → ∃ (f' : Int) (o' : Option D), 0 ≤ f' ∧ f' < 999999893 ∧
    loopS (tgV 2) (seqS (setS 1 (fun ρ => ((((((getV ρ 1) >>= fun d => (pure (.int 71)) >>= fun e => mulD d e) >>= fun d => (getV ρ 2) >>= fun e => addL d e) >>= fun d => (pure []) >>= fun ds => pure (d :: ds)) >>= fun ds => intK ds) >>= fun d => (pure (.int 999999893)) >>= fun e => modD d e))) (fun ρ s => .nx ρ s)) (ns.map .int) [some sc, some (.int f), o] s = .nx [some sc, some (.int f'), o'] s
  | [], f, o, h1, h2 => ⟨f, o, h1, h2, rfl⟩
  | n :: ns, f, o, h1, h2 => by
    have mul1 : ∀ s, mulD (.int f) (.int 71) s = .ok (.int (f * 71)) s := fun s => mul_ok (by omega) (by decide) s
    obtain ⟨f', o', k1, k2, k3⟩ := pen_loop sc s ns ((f * 71 + n).fmod 999999893) (some (.int n)) (fmod_lt (by decide)).1 (fmod_lt (by decide)).2
    refine ⟨f', o', k1, k2, ?_⟩
    rw [List.map_cons]
    unfold loopS
    simp only [tgV, List.set_cons_succ, List.set_cons_zero, seqS_app, setS_app, thenS_app, bind_app, getV0, getVs, pure_app, mul1, addI, intI, mod_ok (i := f * 71 + n) (j := 999999893) (by decide)]
    exact k3
theorem merge5 (a b c d e : D) : mergeD [] [(.inr "cells", a), (.inr "at", b), (.inr "digits", c), (.inr "count", d), (.inr "fold", e)] = [(.inr "cells", a), (.inr "at", b), (.inr "digits", c), (.inr "count", d), (.inr "fold", e)] := by rfl
theorem keyM_str (x : Str) (s : Sto) : keyM (.str x) s = .ok (.inr x) s := rfl
theorem lst_frl (ds : List D) (s : Sto) : lstK [.frl ds] s = .ok ds s := rfl
theorem newO_app (c : D) (s : Sto) : newO c s = .ok (.obj s.length) (s ++ [c]) := rfl
theorem pen_ok (ns : List Int) (s : Sto) : ∃ fo : Int, 0 ≤ fo ∧ fo < 999999893 ∧ m_ulaw_pen [scr ns] s = .ok (.obj s.length) (s ++ [.dct (penE (ns.map .int) 0 0 0 fo)]) := by
  obtain ⟨f', o', k1, k2, k3⟩ := pen_loop (scr ns) s ns 0 none (by decide) (by decide)
  refine ⟨f', k1, k2, ?_⟩
  show endS (b_ulaw_pen [some (scr ns), none, none] s) = _
  unfold b_ulaw_pen
  have sq : ∀ s, seqI (scr ns) s = .ok (ns.map .int) s := fun _ => rfl
  simp only [seqS_app, setS_app, thenS_app, pure_app, List.set_cons_succ, List.set_cons_zero, forS_app, bind_app, getV0, getVs, sq, k3, retS_app, keyM_str, endS]
  have l1 : ∀ s, lstK [scr ns] s = .ok (ns.map .int) s := fun _ => rfl
  simp only [l1, List.length_cons, List.length_nil, ite_app, pure_app, merge5, newO_app]
  rfl
/-! ### good values -/
def goodB (d : D) : Bool := match py d with
  | some q => q.showable && (decide (q.depth ≤ 10) && decide (q.shown.length ≤ 100))
  | none => false
structure Good (d : D) : Prop where
  ex : ∃ q, py d = some q ∧ q.showable = true ∧ q.depth ≤ 10 ∧ q.shown.length ≤ 100
theorem good_of {d : D} (h : goodB d = true) : Good d := by
  unfold goodB at h
  split at h
  · rename_i q e
    simp only [Bool.and_eq_true, decide_eq_true_eq] at h
    exact ⟨q, e, h.1, h.2.1, h.2.2⟩
  · cases h
theorem good3 : ∀ a b c : Fin 9, goodB (.tup [.int (a.val : Int), .int (b.val : Int), .int (c.val : Int)]) = true := by decide +kernel
theorem good3' {a b c : Int} (ha : 0 ≤ a ∧ a < 9) (hb : 0 ≤ b ∧ b < 9) (hc : 0 ≤ c ∧ c < 9) : Good (.tup [.int a, .int b, .int c]) := by
  have h := good3 ⟨a.toNat, by omega⟩ ⟨b.toNat, by omega⟩ ⟨c.toNat, by omega⟩
  simp only [Int.toNat_of_nonneg ha.1, Int.toNat_of_nonneg hb.1, Int.toNat_of_nonneg hc.1] at h
  exact good_of h
/-- a value as it is drawn: no list, or a list of the store -/
inductive ValOk (p : Nat) (s : Sto) : D → Prop
  | plain {d : D} (hc : ∀ s, con d s = .ok d s) (hl : ∀ s, isiC "list" d s = .ok (.bl false) s) (hg : Good d) : ValOk p s d
  | list {j : Nat} {ds : List D} (hj : j ≠ p) (hs : s[j]? = some (.lst ds)) (hg : Good (.tup ds)) (hn : ds.length ≤ 1000) : ValOk p s (.obj j)
/-- from s to s': the pen alone changed, things were added -/
structure Keep (p : Nat) (s s' : Sto) : Prop where
  len : s.length ≤ s'.length
  at_ : ∀ (i : Nat) (d : D), i ≠ p → s[i]? = some d → s'[i]? = some d
theorem Keep.refl (p : Nat) (s : Sto) : Keep p s s := ⟨Nat.le_refl _, fun _ _ _ h => h⟩
theorem Keep.trans {p : Nat} {s s1 s2 : Sto} (a : Keep p s s1) (b : Keep p s1 s2) : Keep p s s2 := ⟨Nat.le_trans a.len b.len, fun i d hi h => b.at_ i d hi (a.at_ i d hi h)⟩
theorem Keep.set (p : Nat) (s : Sto) (d : D) : Keep p s (s.set p d) := ⟨by simp, fun i e hi h => by rw [List.getElem?_set_ne (Ne.symm hi)]; exact h⟩
theorem Keep.app (p : Nat) (s t : Sto) : Keep p s (s ++ t) := ⟨by simp, fun i e hi h => by
  rw [List.getElem?_append_left (List.getElem?_eq_some_iff.mp h).1]; exact h⟩
theorem ValOk.keep {p : Nat} {s s' : Sto} {d : D} (v : ValOk p s d) (k : Keep p s s') : ValOk p s' d := by
  cases v with
  | plain a b c => exact .plain a b c
  | list a b c d => exact .list a (k.at_ _ _ a b) c d
theorem PenAt.app {s t : Sto} {p c : Nat} (h : PenAt s p c) : PenAt (s ++ t) p c := by
  obtain ⟨cells, a, dg, ct, fo, hp, h1⟩ := h.ex
  exact ⟨⟨cells, a, dg, ct, fo, by rw [List.getElem?_append_left (List.getElem?_eq_some_iff.mp hp).1]; exact hp, h1⟩⟩
theorem PenAt.mono {s : Sto} {p c c' : Nat} (h : PenAt s p c) (hc : c ≤ c') : PenAt s p c' := by
  obtain ⟨cells, a, dg, ct, fo, hp, h1, h2, h3, h4⟩ := h.ex
  exact ⟨⟨cells, a, dg, ct, fo, hp, h1, h2, by omega, h4⟩⟩
theorem draw_keep {s : Sto} {p c : Nat} (h : PenAt s p c) (hc : c < 1000000) {m : Int} (hm : 0 < m) (hm2 : m < 1000000) : ∃ (r : Int) (s' : Sto), m_ulaw_draw [.obj p, .int m] s = .ok (.int r) s' ∧ 0 ≤ r ∧ r < m ∧ PenAt s' p (c + 1) ∧ Keep p s s' ∧ s'.length = s.length := by
  obtain ⟨r, d, h1, h2, h3, h4⟩ := draw_ok h hc hm hm2
  exact ⟨r, _, h1, h2, h3, h4, .set p s d, by simp⟩
theorem pick_ok {s : Sto} {p c : Nat} (h : PenAt s p c) (hc : c < 1000000) {ds : List D} (hl : 0 < ds.length) (hl2 : ds.length < 1000000) : ∃ (v : D) (s' : Sto), m_ulaw_pick [.obj p, .lst ds] s = .ok v s' ∧ v ∈ ds ∧ PenAt s' p (c + 1) ∧ Keep p s s' := by
  obtain ⟨r, s', h1, h2, h3, h4, h5, h6⟩ := draw_keep h hc (m := (ds.length : Int)) (by omega) (by omega)
  have hr : r.toNat < ds.length := by omega
  refine ⟨ds[r.toNat], s', ?_, List.getElem_mem _, h4, h5⟩
  show endS (b_ulaw_pick [some (.obj p), some (.lst ds)] s) = _
  unfold b_ulaw_pick
  have hat : atI ds r = some ds[r.toNat] := by
    unfold atI ixN
    rw [if_pos h2, if_pos h3]
    simp [hr]
  simp only [retS_app, thenS_app, bind_app, getV0, getVs, pure_app, len_lst, List.append_nil, h1, idx_lst, hat, lift_some, endS]
end K83

namespace K83
open PySem PySem.Spec PyProof.Rows L2 DL
theorem draws3 {s : Sto} {p c : Nat} (h : PenAt s p c) (hc : c + 3 < 1000000) (ρ : DL.Env) (hρ : ∀ d : D, ∃ r, tgV 2 d ρ = some (some (.obj p) :: r)) : ∃ (a b e : Int) (s' : Sto), (0 ≤ a ∧ a < 9) ∧ (0 ≤ b ∧ b < 9) ∧ (0 ≤ e ∧ e < 9) ∧ PenAt s' p (c + 3) ∧ Keep p s s' ∧ s'.length = s.length ∧
    compL (tgV 2) (fun _ => pure true) (fun ρ => (((getV ρ 0) >>= fun d => ((pure (.int 9)) >>= fun d => (pure []) >>= fun ds => pure (d :: ds)) >>= fun ds => pure (d :: ds)) >>= fun ds => m_ulaw_draw (ds ++ []))) ρ [.int ((0 : Nat) : Int), .int ((1 : Nat) : Int), .int ((2 : Nat) : Int)] s = .ok [.int a, .int b, .int e] s' := by
  obtain ⟨a, s1, a1, a2, a3, a4, a5, a6⟩ := draw_keep h (by omega) (m := 9) (by decide) (by decide)
  obtain ⟨b, s2, b1, b2, b3, b4, b5, b6⟩ := draw_keep a4 (by omega) (m := 9) (by decide) (by decide)
  obtain ⟨e, s3, e1, e2, e3, e4, e5, e6⟩ := draw_keep b4 (by omega) (m := 9) (by decide) (by decide)
  obtain ⟨r0, h0⟩ := hρ (.int ((0 : Nat) : Int))
  obtain ⟨r1, h1⟩ := hρ (.int ((1 : Nat) : Int))
  obtain ⟨r2, h2⟩ := hρ (.int ((2 : Nat) : Int))
  refine ⟨a, b, e, s3, ⟨a2, a3⟩, ⟨b2, b3⟩, ⟨e2, e3⟩, e4, (a5.trans b5).trans e5, by omega, ?_⟩
  refine compL_cons (s2 := s1) h0 rfl ?_ (compL_cons (s2 := s2) h1 rfl ?_ (compL_cons (s2 := s3) h2 rfl ?_ compL_nil))
  · simp only [bind_app, getV0, pure_app, List.append_nil, a1]
  · simp only [bind_app, getV0, pure_app, List.append_nil, b1]
  · simp only [bind_app, getV0, pure_app, List.append_nil, e1]
def V14 (n : Nat) : List D := [.tup [.int 1, .int 2], .obj n, .obj (n + 1), .tup [], .str "web", .int 5, .non, .bl true, .tup [.tup [.int 0, .int 1]], .obj (n + 2), .dct [(.inr "a", .int 1)], .int (-3), .str "", .obj (n + 3)]
theorem merge1 (a : D) : mergeD [] [(.inr "a", a)] = [(.inr "a", a)] := by rfl
theorem add_lst (a b : List D) (h : a.length + b.length ≤ szMax) (s : Sto) : addL (.lst a) (.lst b) s = .ok (.lst (a ++ b)) s := by
  show (if a.length + b.length ≤ szMax then (pure (.lst (a ++ b)) : M D) else bad) s = _
  rw [if_pos h]; rfl
theorem value_ok {s : Sto} {p c : Nat} (h : PenAt s p c) (hc : c + 4 < 1000000) : ∃ (v : D) (s' : Sto), m_ulaw_value [.obj p] s = .ok v s' ∧ PenAt s' p (c + 4) ∧ Keep p s s' ∧ ValOk p s' v := by
  obtain ⟨_, _, _, _, _, hp, _⟩ := h.ex
  have hpl : p < s.length := (List.getElem?_eq_some_iff.mp hp).1
  have neg3 : ∀ s, negD (.int 3) s = .ok (.int (-3)) s := fun _ => rfl
  -- the lists written
  let t : List D := [.lst [.int 1, .lst [.int 2]], .lst [], .lst [.lst [.int 0], .lst [.int 1]], .lst [.non]]
  have h1 := h.app (t := t)
  obtain ⟨a, b, e, s2, ha, hb, he, h2, k2, l2, hd⟩ := draws3 h1 (by omega) [some (.obj p), some (.lst (V14 s.length)), none] (fun d => ⟨_, rfl⟩)
  have h3 := h2.app (t := [.lst [.int a, .int b, .int e]])
  obtain ⟨v, s', hv, mv, h4, k4⟩ := pick_ok (ds := V14 s.length ++ [.obj s2.length]) h3 (by omega) (by simp [V14]) (by simp [V14])
  have kk : Keep p (s ++ t) s' := (k2.trans (Keep.app p s2 _)).trans k4
  refine ⟨v, s', ?_, h4.mono (by omega), (Keep.app p s t).trans kk, ?_⟩
  · show endS (b_ulaw_value [some (.obj p), none, none] s) = _
    have hrng : ∀ s, rng1 [.int 3] s = .ok [.int ((0 : Nat) : Int), .int ((1 : Nat) : Int), .int ((2 : Nat) : Int)] s := fun s => rng1_app 3 (by decide) s
    have hcomp : compF [2] (fun ρ => (((pure (.int 3)) >>= fun d => (pure []) >>= fun ds => pure (d :: ds)) >>= rng1)) (tgV 2) (fun _ => pure true) (fun ρ => (((getV ρ 0) >>= fun d => ((pure (.int 9)) >>= fun d => (pure []) >>= fun ds => pure (d :: ds)) >>= fun ds => pure (d :: ds)) >>= fun ds => m_ulaw_draw (ds ++ []))) [some (.obj p), some (.lst (V14 s.length)), none] (s ++ t) = .ok [.int a, .int b, .int e] s2 :=
      compF_app (ds := [.int ((0 : Nat) : Int), .int ((1 : Nat) : Int), .int ((2 : Nat) : Int)]) (by simp only [bind_app, pure_app, hrng]) hd
    have e1 : s ++ [D.lst [.int 1, .lst [.int 2]]] ++ [D.lst []] ++ [D.lst [.lst [.int 0], .lst [.int 1]]] ++ [D.lst [.non]] = s ++ t := by simp [t]
    have i1 : (s ++ [D.lst [.int 1, .lst [.int 2]]]).length = s.length + 1 := by simp
    have i2 : (s ++ [D.lst [.int 1, .lst [.int 2]]] ++ [D.lst []]).length = s.length + 2 := by simp
    have i3 : (s ++ [D.lst [.int 1, .lst [.int 2]]] ++ [D.lst []] ++ [D.lst [.lst [.int 0], .lst [.int 1]]]).length = s.length + 3 := by simp
    simp only [V14] at hcomp hv
    unfold b_ulaw_value
    simp only [seqS_app, setS_app, thenS_app, pure_app, bind_app, newO_app, keyM_str, List.length_cons, List.length_nil, ite_app, merge1, neg3, i1, i2, i3, e1, List.set_cons_succ, List.set_cons_zero, retS_app, getV0, getVs, Nat.reduceLeDiff, Nat.reduceAdd, if_true]
    have al : ∀ s', addL (.lst [D.tup [.int 1, .int 2], .obj s.length, .obj (s.length + 1), .tup [], .str "web", .int 5, .non, .bl true, .tup [.tup [.int 0, .int 1]], .obj (s.length + 2), .dct [(.inr "a", .int 1)], .int (-3), .str "", .obj (s.length + 3)]) (.lst [.obj s2.length]) s' = .ok (.lst ([D.tup [.int 1, .int 2], .obj s.length, .obj (s.length + 1), .tup [], .str "web", .int 5, .non, .bl true, .tup [.tup [.int 0, .int 1]], .obj (s.length + 2), .dct [(.inr "a", .int 1)], .int (-3), .str "", .obj (s.length + 3)] ++ [.obj s2.length])) s' := fun s' => add_lst _ _ (by simp [szMax]) s'
    rw [hcomp]
    simp only [newO_app, al, List.append_nil, hv, endS]
  · have g2 : ∀ i, i < s.length + 4 → s.length ≤ i → ∀ d, t[i - s.length]? = some d → s'[i]? = some d := fun i hi hi2 d hd => kk.at_ i d (by omega) (by rw [List.getElem?_append_right hi2]; exact hd)
    rcases List.mem_append.mp mv with mv | mv
    · simp only [V14, List.mem_cons, List.not_mem_nil, or_false] at mv
      rcases mv with rfl | rfl | rfl | rfl | rfl | rfl | rfl | rfl | rfl | rfl | rfl | rfl | rfl | rfl
      · exact .plain (fun _ => rfl) (fun _ => rfl) (good_of (by decide +kernel))
      · exact .list (by omega) (g2 _ (by omega) (by omega) _ (by rw [Nat.sub_self]; rfl)) (good_of (by decide +kernel)) (by simp)
      · exact .list (by omega) (g2 _ (by omega) (by omega) _ (by rw [Nat.add_sub_cancel_left]; rfl)) (good_of (by decide +kernel)) (by simp)
      · exact .plain (fun _ => rfl) (fun _ => rfl) (good_of (by decide +kernel))
      · exact .plain (fun _ => rfl) (fun _ => rfl) (good_of (by decide +kernel))
      · exact .plain (fun _ => rfl) (fun _ => rfl) (good_of (by decide +kernel))
      · exact .plain (fun _ => rfl) (fun _ => rfl) (good_of (by decide +kernel))
      · exact .plain (fun _ => rfl) (fun _ => rfl) (good_of (by decide +kernel))
      · exact .plain (fun _ => rfl) (fun _ => rfl) (good_of (by decide +kernel))
      · exact .list (by omega) (g2 _ (by omega) (by omega) _ (by rw [Nat.add_sub_cancel_left]; rfl)) (good_of (by decide +kernel)) (by simp)
      · exact .plain (fun _ => rfl) (fun _ => rfl) (good_of (by decide +kernel))
      · exact .plain (fun _ => rfl) (fun _ => rfl) (good_of (by decide +kernel))
      · exact .plain (fun _ => rfl) (fun _ => rfl) (good_of (by decide +kernel))
      · exact .list (by omega) (g2 _ (by omega) (by omega) _ (by rw [Nat.add_sub_cancel_left]; rfl)) (good_of (by decide +kernel)) (by simp)
    · have ev := List.mem_singleton.mp mv
      subst ev
      have hlen : s.length + 4 ≤ s2.length := by rw [l2]; simp [t]
      exact .list (by omega) (k4.at_ _ _ (by omega) (by rw [List.getElem?_append_right (Nat.le_refl _), Nat.sub_self]; rfl)) (good3' ha hb he) (by simp)
end K83

namespace K83
open PySem PySem.Spec PyProof.Rows L2 DL
/-- what copied makes of a value -/
def CP (a x : D) : Prop := ∀ s, m_copied [a] s = .ok x s
def rowOf (n : Nat) (hs xs : List D) : D := .tup [.obj n, .obj (n + 1), .bl true, .lst xs, .lst xs, .lst hs]
structure Sp1 where
  C : Str
  fs : List Str
  hs : List D
  xs : List D
def rowsOf : Nat → List Sp1 → List D
  | _, [] => []
  | n, p :: r => rowOf n p.hs p.xs :: rowsOf (n + 2) r
def objsOf : List Sp1 → List D
  | [] => []
  | p :: r => .ins p.C (p.fs.zip p.xs) :: .ins p.C (p.fs.zip p.xs) :: objsOf r
def Run (rest : Sm) (a b c : D) (rs : List D) (s : Sto) (out : SR) : Prop := ∀ o1 o2 o3 o4 : Option D, rest [some a, some b, some c, some (.lst rs), o1, o2, o3, o4] s = out
theorem run_end {a b c : D} {rs : List D} {s : Sto} : Run (retS (fun ρ => (getV ρ 3))) a b c rs s (.rt (.lst rs) s) := fun _ _ _ _ => rfl
theorem init1 {f : Str} {a x : D} (h0 : CP a x)  (s : Sto) : initR 2 (iSelf f (fun ρ => (((getV ρ 1) >>= fun d => (pure []) >>= fun ds => pure (d :: ds)) >>= fun ds => m_copied (ds ++ []))) iNil) [a] s = .ok [(f, x)] s := by
  have e : startI 2 [a] = [none, some a] := rfl
  unfold initR
  rw [e]
  simp only [iSelf, iNil, bind_app, getV0, getVs, pure_app, List.append_nil, h0 _, putFD, List.length_nil, List.length_cons, ite_app]
  simp [putFD]
def blk11 (C f : Str) (iC : List D → M Fs) (rest : Sm) : Sm := (seqS (parS 4 5 (fun ρ => ((((getV ρ 0) >>= fun d => (pure []) >>= fun ds => pure (d :: ds)) >>= fun ds => mkS C iC ds) >>= fun d => ((((getV ρ 0) >>= fun d => (pure []) >>= fun ds => pure (d :: ds)) >>= fun ds => mkS C iC (permD [0] ds)) >>= fun d => (pure []) >>= fun ds => pure (d :: ds)) >>= fun ds => pure (d :: ds)))) (seqS (parS 6 7 (fun ρ => ((((getV ρ 4) >>= fun d => con d >>= isiO C []) >>= fun d => asBl d >>= fun b => if b = true then ((getV ρ 5) >>= fun d => con d >>= isiO C []) else pure (.bl false)) >>= fun d => (((((getV ρ 4) >>= fun d => fldD f d) >>= fun d => (pure []) >>= fun ds => pure (d :: ds)) >>= fun ds => pure (.lst ds)) >>= fun d => (pure []) >>= fun ds => pure (d :: ds)) >>= fun ds => pure (d :: ds)))) (seqS (appS 3 (fun ρ => (((getV ρ 4) >>= fun d => ((getV ρ 5) >>= fun d => ((getV ρ 6) >>= fun d => ((getV ρ 7) >>= fun d => (((((getV ρ 5) >>= fun d => fldD f d) >>= fun d => (pure []) >>= fun ds => pure (d :: ds)) >>= fun ds => pure (.lst ds)) >>= fun d => ((((getV ρ 0) >>= fun d => (pure []) >>= fun ds => pure (d :: ds)) >>= fun ds => pure (.lst ds)) >>= fun d => (pure []) >>= fun ds => pure (d :: ds)) >>= fun ds => pure (d :: ds)) >>= fun ds => pure (d :: ds)) >>= fun ds => pure (d :: ds)) >>= fun ds => pure (d :: ds)) >>= fun ds => pure (d :: ds)) >>= fun ds => pure (.tup ds)))) rest)))
theorem init2 {f g : Str} {a b x y : D} (h0 : CP a x) (h1 : CP b y) (nfg : f ≠ g) (s : Sto) : initR 3 (iSelf f (fun ρ => (((getV ρ 1) >>= fun d => (pure []) >>= fun ds => pure (d :: ds)) >>= fun ds => m_copied (ds ++ []))) (iSelf g (fun ρ => (((getV ρ 2) >>= fun d => (pure []) >>= fun ds => pure (d :: ds)) >>= fun ds => m_copied (ds ++ []))) iNil)) [a, b] s = .ok [(f, x), (g, y)] s := by
  have e : startI 3 [a, b] = [none, some a, some b] := rfl
  unfold initR
  rw [e]
  simp only [iSelf, iNil, bind_app, getV0, getVs, pure_app, List.append_nil, h0 _, h1 _, putFD, List.length_nil, List.length_cons, ite_app, nfg]
  simp [putFD, nfg]
def blk12 (C f g : Str) (iC : List D → M Fs) (rest : Sm) : Sm := (seqS (parS 4 5 (fun ρ => ((((getV ρ 0) >>= fun d => ((getV ρ 1) >>= fun d => (pure []) >>= fun ds => pure (d :: ds)) >>= fun ds => pure (d :: ds)) >>= fun ds => mkS C iC ds) >>= fun d => ((((getV ρ 1) >>= fun d => ((getV ρ 0) >>= fun d => (pure []) >>= fun ds => pure (d :: ds)) >>= fun ds => pure (d :: ds)) >>= fun ds => mkS C iC (permD [1, 0] ds)) >>= fun d => (pure []) >>= fun ds => pure (d :: ds)) >>= fun ds => pure (d :: ds)))) (seqS (parS 6 7 (fun ρ => ((((getV ρ 4) >>= fun d => con d >>= isiO C []) >>= fun d => asBl d >>= fun b => if b = true then ((getV ρ 5) >>= fun d => con d >>= isiO C []) else pure (.bl false)) >>= fun d => (((((getV ρ 4) >>= fun d => fldD f d) >>= fun d => (((getV ρ 4) >>= fun d => fldD g d) >>= fun d => (pure []) >>= fun ds => pure (d :: ds)) >>= fun ds => pure (d :: ds)) >>= fun ds => pure (.lst ds)) >>= fun d => (pure []) >>= fun ds => pure (d :: ds)) >>= fun ds => pure (d :: ds)))) (seqS (appS 3 (fun ρ => (((getV ρ 4) >>= fun d => ((getV ρ 5) >>= fun d => ((getV ρ 6) >>= fun d => ((getV ρ 7) >>= fun d => (((((getV ρ 5) >>= fun d => fldD f d) >>= fun d => (((getV ρ 5) >>= fun d => fldD g d) >>= fun d => (pure []) >>= fun ds => pure (d :: ds)) >>= fun ds => pure (d :: ds)) >>= fun ds => pure (.lst ds)) >>= fun d => ((((getV ρ 0) >>= fun d => ((getV ρ 1) >>= fun d => (pure []) >>= fun ds => pure (d :: ds)) >>= fun ds => pure (d :: ds)) >>= fun ds => pure (.lst ds)) >>= fun d => (pure []) >>= fun ds => pure (d :: ds)) >>= fun ds => pure (d :: ds)) >>= fun ds => pure (d :: ds)) >>= fun ds => pure (d :: ds)) >>= fun ds => pure (d :: ds)) >>= fun ds => pure (d :: ds)) >>= fun ds => pure (.tup ds)))) rest)))
theorem init3 {f g h : Str} {a b c x y z : D} (h0 : CP a x) (h1 : CP b y) (h2 : CP c z) (nfg : f ≠ g) (nfh : f ≠ h) (ngh : g ≠ h) (s : Sto) : initR 4 (iSelf f (fun ρ => (((getV ρ 1) >>= fun d => (pure []) >>= fun ds => pure (d :: ds)) >>= fun ds => m_copied (ds ++ []))) (iSelf g (fun ρ => (((getV ρ 2) >>= fun d => (pure []) >>= fun ds => pure (d :: ds)) >>= fun ds => m_copied (ds ++ []))) (iSelf h (fun ρ => (((getV ρ 3) >>= fun d => (pure []) >>= fun ds => pure (d :: ds)) >>= fun ds => m_copied (ds ++ []))) iNil))) [a, b, c] s = .ok [(f, x), (g, y), (h, z)] s := by
  have e : startI 4 [a, b, c] = [none, some a, some b, some c] := rfl
  unfold initR
  rw [e]
  simp only [iSelf, iNil, bind_app, getV0, getVs, pure_app, List.append_nil, h0 _, h1 _, h2 _, putFD, List.length_nil, List.length_cons, ite_app, nfg, nfh, ngh]
  simp [putFD, nfg, nfh, ngh]
def blk13 (C f g h : Str) (iC : List D → M Fs) (rest : Sm) : Sm := (seqS (parS 4 5 (fun ρ => ((((getV ρ 0) >>= fun d => ((getV ρ 1) >>= fun d => ((getV ρ 2) >>= fun d => (pure []) >>= fun ds => pure (d :: ds)) >>= fun ds => pure (d :: ds)) >>= fun ds => pure (d :: ds)) >>= fun ds => mkS C iC ds) >>= fun d => ((((getV ρ 2) >>= fun d => ((getV ρ 1) >>= fun d => ((getV ρ 0) >>= fun d => (pure []) >>= fun ds => pure (d :: ds)) >>= fun ds => pure (d :: ds)) >>= fun ds => pure (d :: ds)) >>= fun ds => mkS C iC (permD [2, 1, 0] ds)) >>= fun d => (pure []) >>= fun ds => pure (d :: ds)) >>= fun ds => pure (d :: ds)))) (seqS (parS 6 7 (fun ρ => ((((getV ρ 4) >>= fun d => con d >>= isiO C []) >>= fun d => asBl d >>= fun b => if b = true then ((getV ρ 5) >>= fun d => con d >>= isiO C []) else pure (.bl false)) >>= fun d => (((((getV ρ 4) >>= fun d => fldD f d) >>= fun d => (((getV ρ 4) >>= fun d => fldD g d) >>= fun d => (((getV ρ 4) >>= fun d => fldD h d) >>= fun d => (pure []) >>= fun ds => pure (d :: ds)) >>= fun ds => pure (d :: ds)) >>= fun ds => pure (d :: ds)) >>= fun ds => pure (.lst ds)) >>= fun d => (pure []) >>= fun ds => pure (d :: ds)) >>= fun ds => pure (d :: ds)))) (seqS (appS 3 (fun ρ => (((getV ρ 4) >>= fun d => ((getV ρ 5) >>= fun d => ((getV ρ 6) >>= fun d => ((getV ρ 7) >>= fun d => (((((getV ρ 5) >>= fun d => fldD f d) >>= fun d => (((getV ρ 5) >>= fun d => fldD g d) >>= fun d => (((getV ρ 5) >>= fun d => fldD h d) >>= fun d => (pure []) >>= fun ds => pure (d :: ds)) >>= fun ds => pure (d :: ds)) >>= fun ds => pure (d :: ds)) >>= fun ds => pure (.lst ds)) >>= fun d => ((((getV ρ 0) >>= fun d => ((getV ρ 1) >>= fun d => ((getV ρ 2) >>= fun d => (pure []) >>= fun ds => pure (d :: ds)) >>= fun ds => pure (d :: ds)) >>= fun ds => pure (d :: ds)) >>= fun ds => pure (.lst ds)) >>= fun d => (pure []) >>= fun ds => pure (d :: ds)) >>= fun ds => pure (d :: ds)) >>= fun ds => pure (d :: ds)) >>= fun ds => pure (d :: ds)) >>= fun ds => pure (d :: ds)) >>= fun ds => pure (d :: ds)) >>= fun ds => pure (.tup ds)))) rest)))
theorem run1 {C f : Str} {iC : List D → M Fs} {rest : Sm} {a b c x : D} {rs : List D} {s : Sto} {out : SR} (hi : ∀ s, iC [a] s = .ok [(f, x)] s)  (hl : rs.length < szMax)
    (hr : Run rest a b c (rs ++ [rowOf s.length [a] [x]]) (s ++ [.ins C [(f, x)], .ins C [(f, x)]]) out) : Run (blk11 C f iC rest) a b c rs s out := fun o1 o2 o3 o4 => by
  have hr := hr (some (.obj s.length)) (some (.obj (s.length + 1))) (some (.bl true)) (some (.lst [x]))
  rw [← hr]
  simp [blk11, seqS, parS, thenS, bind_app, getV0, getVs, mkS, hi, newO, permD, con, isiO, asBl, fldD, fldC, get_a, get_b, appS, withL, hl, liftO, lookF, rowOf, List.find?_cons]
theorem run2 {C f g : Str} {iC : List D → M Fs} {rest : Sm} {a b c x y : D} {rs : List D} {s : Sto} {out : SR} (hi : ∀ s, iC [a, b] s = .ok [(f, x), (g, y)] s) (nfg : f ≠ g) (hl : rs.length < szMax)
    (hr : Run rest a b c (rs ++ [rowOf s.length [a, b] [x, y]]) (s ++ [.ins C [(f, x), (g, y)], .ins C [(f, x), (g, y)]]) out) : Run (blk12 C f g iC rest) a b c rs s out := fun o1 o2 o3 o4 => by
  have hr := hr (some (.obj s.length)) (some (.obj (s.length + 1))) (some (.bl true)) (some (.lst [x, y]))
  rw [← hr]
  simp [blk12, seqS, parS, thenS, bind_app, getV0, getVs, mkS, hi, newO, permD, con, isiO, asBl, fldD, fldC, get_a, get_b, appS, withL, hl, liftO, lookF, rowOf, List.find?_cons, nfg, Ne.symm nfg]
theorem run3 {C f g h : Str} {iC : List D → M Fs} {rest : Sm} {a b c x y z : D} {rs : List D} {s : Sto} {out : SR} (hi : ∀ s, iC [a, b, c] s = .ok [(f, x), (g, y), (h, z)] s) (nfg : f ≠ g) (nfh : f ≠ h) (ngh : g ≠ h) (hl : rs.length < szMax)
    (hr : Run rest a b c (rs ++ [rowOf s.length [a, b, c] [x, y, z]]) (s ++ [.ins C [(f, x), (g, y), (h, z)], .ins C [(f, x), (g, y), (h, z)]]) out) : Run (blk13 C f g h iC rest) a b c rs s out := fun o1 o2 o3 o4 => by
  have hr := hr (some (.obj s.length)) (some (.obj (s.length + 1))) (some (.bl true)) (some (.lst [x, y, z]))
  rw [← hr]
  simp [blk13, seqS, parS, thenS, bind_app, getV0, getVs, mkS, hi, newO, permD, con, isiO, asBl, fldD, fldC, get_a, get_b, appS, withL, hl, liftO, lookF, rowOf, List.find?_cons, nfg, nfh, ngh, Ne.symm nfg, Ne.symm nfh, Ne.symm ngh]
theorem made_a_eq : b_ulaw_made_a = seqS (setS 3 (fun ρ => (pure []) >>= fun ds => pure (.lst ds))) (blk11 "Set" "answers" i_Set (blk11 "Slips" "screws" i_Slips (blk11 "Placed" "bars" i_Placed (blk11 "Free" "points" i_Free (blk11 "Crowded" "joints" i_Crowded (blk11 "Grown" "steps" i_Grown (blk11 "Covered" "lots" i_Covered (blk11 "Opens" "points" i_Opens (blk12 "Shuts" "tie" "weights" i_Shuts (blk11 "Forests" "rows" i_Forests (blk11 "Thicket" "joints" i_Thicket (retS (fun ρ => (getV ρ 3)))))))))))))) := rfl
def SPa (a b c x y z : D) : List Sp1 := [⟨"Set", ["answers"], [a], [x]⟩, ⟨"Slips", ["screws"], [a], [x]⟩, ⟨"Placed", ["bars"], [a], [x]⟩, ⟨"Free", ["points"], [a], [x]⟩, ⟨"Crowded", ["joints"], [a], [x]⟩, ⟨"Grown", ["steps"], [a], [x]⟩, ⟨"Covered", ["lots"], [a], [x]⟩, ⟨"Opens", ["points"], [a], [x]⟩, ⟨"Shuts", ["tie", "weights"], [a, b], [x, y]⟩, ⟨"Forests", ["rows"], [a], [x]⟩, ⟨"Thicket", ["joints"], [a], [x]⟩]
theorem made_a_ok {a b c x y z : D} (ha : CP a x) (hb : CP b y) (hc : CP c z) (s : Sto) : m_ulaw_made_a [a, b, c] s = .ok (.lst (rowsOf s.length (SPa a b c x y z))) (s ++ objsOf (SPa a b c x y z)) := by
  show endS (b_ulaw_made_a [some a, some b, some c, none, none, none, none, none] s) = _
  rw [made_a_eq]
  have h := ((run1 (C := "Set") (f := "answers") (iC := i_Set) (fun s => init1 (f := "answers") ha  s)  (by simp [szMaxV]) (run1 (C := "Slips") (f := "screws") (iC := i_Slips) (fun s => init1 (f := "screws") ha  s)  (by simp [szMaxV]) (run1 (C := "Placed") (f := "bars") (iC := i_Placed) (fun s => init1 (f := "bars") ha  s)  (by simp [szMaxV]) (run1 (C := "Free") (f := "points") (iC := i_Free) (fun s => init1 (f := "points") ha  s)  (by simp [szMaxV]) (run1 (C := "Crowded") (f := "joints") (iC := i_Crowded) (fun s => init1 (f := "joints") ha  s)  (by simp [szMaxV]) (run1 (C := "Grown") (f := "steps") (iC := i_Grown) (fun s => init1 (f := "steps") ha  s)  (by simp [szMaxV]) (run1 (C := "Covered") (f := "lots") (iC := i_Covered) (fun s => init1 (f := "lots") ha  s)  (by simp [szMaxV]) (run1 (C := "Opens") (f := "points") (iC := i_Opens) (fun s => init1 (f := "points") ha  s)  (by simp [szMaxV]) (run2 (C := "Shuts") (f := "tie") (g := "weights") (iC := i_Shuts) (fun s => init2 (f := "tie") (g := "weights") ha hb (by decide) s) (by decide) (by simp [szMaxV]) (run1 (C := "Forests") (f := "rows") (iC := i_Forests) (fun s => init1 (f := "rows") ha  s)  (by simp [szMaxV]) (run1 (C := "Thicket") (f := "joints") (iC := i_Thicket) (fun s => init1 (f := "joints") ha  s)  (by simp [szMaxV]) run_end))))))))))) : Run _ a b c [] s _) none none none none
  have e : (setS 3 (fun ρ => (pure []) >>= fun ds => pure (.lst ds))) [some a, some b, some c, none, none, none, none, none] s = .nx [some a, some b, some c, some (.lst []), none, none, none, none] s := rfl
  rw [seqS_nx _ _ _ _ e, h]
  simp [endS, SPa, rowsOf, objsOf, List.append_assoc, Nat.add_assoc]
theorem made_b_eq : b_ulaw_made_b = seqS (setS 3 (fun ρ => (pure []) >>= fun ds => pure (.lst ds))) (blk11 "Trees" "rows" i_Trees (blk11 "Split" "lots" i_Split (blk11 "Answer" "row" i_Answer (blk11 "Against" "move" i_Against (blk11 "Stiff" "answers" i_Stiff (blk11 "Loose" "move" i_Loose (blk12 "Braced" "there" "back" i_Braced (blk11 "Shears" "shear" i_Shears (blk11 "Pulls" "row" i_Pulls (blk11 "Yields" "shear" i_Yields (blk11 "Hung" "points" i_Hung (retS (fun ρ => (getV ρ 3)))))))))))))) := rfl
def SPb (a b c x y z : D) : List Sp1 := [⟨"Trees", ["rows"], [a], [x]⟩, ⟨"Split", ["lots"], [a], [x]⟩, ⟨"Answer", ["row"], [a], [x]⟩, ⟨"Against", ["move"], [a], [x]⟩, ⟨"Stiff", ["answers"], [a], [x]⟩, ⟨"Loose", ["move"], [a], [x]⟩, ⟨"Braced", ["there", "back"], [a, b], [x, y]⟩, ⟨"Shears", ["shear"], [a], [x]⟩, ⟨"Pulls", ["row"], [a], [x]⟩, ⟨"Yields", ["shear"], [a], [x]⟩, ⟨"Hung", ["points"], [a], [x]⟩]
theorem made_b_ok {a b c x y z : D} (ha : CP a x) (hb : CP b y) (hc : CP c z) (s : Sto) : m_ulaw_made_b [a, b, c] s = .ok (.lst (rowsOf s.length (SPb a b c x y z))) (s ++ objsOf (SPb a b c x y z)) := by
  show endS (b_ulaw_made_b [some a, some b, some c, none, none, none, none, none] s) = _
  rw [made_b_eq]
  have h := ((run1 (C := "Trees") (f := "rows") (iC := i_Trees) (fun s => init1 (f := "rows") ha  s)  (by simp [szMaxV]) (run1 (C := "Split") (f := "lots") (iC := i_Split) (fun s => init1 (f := "lots") ha  s)  (by simp [szMaxV]) (run1 (C := "Answer") (f := "row") (iC := i_Answer) (fun s => init1 (f := "row") ha  s)  (by simp [szMaxV]) (run1 (C := "Against") (f := "move") (iC := i_Against) (fun s => init1 (f := "move") ha  s)  (by simp [szMaxV]) (run1 (C := "Stiff") (f := "answers") (iC := i_Stiff) (fun s => init1 (f := "answers") ha  s)  (by simp [szMaxV]) (run1 (C := "Loose") (f := "move") (iC := i_Loose) (fun s => init1 (f := "move") ha  s)  (by simp [szMaxV]) (run2 (C := "Braced") (f := "there") (g := "back") (iC := i_Braced) (fun s => init2 (f := "there") (g := "back") ha hb (by decide) s) (by decide) (by simp [szMaxV]) (run1 (C := "Shears") (f := "shear") (iC := i_Shears) (fun s => init1 (f := "shear") ha  s)  (by simp [szMaxV]) (run1 (C := "Pulls") (f := "row") (iC := i_Pulls) (fun s => init1 (f := "row") ha  s)  (by simp [szMaxV]) (run1 (C := "Yields") (f := "shear") (iC := i_Yields) (fun s => init1 (f := "shear") ha  s)  (by simp [szMaxV]) (run1 (C := "Hung") (f := "points") (iC := i_Hung) (fun s => init1 (f := "points") ha  s)  (by simp [szMaxV]) run_end))))))))))) : Run _ a b c [] s _) none none none none
  have e : (setS 3 (fun ρ => (pure []) >>= fun ds => pure (.lst ds))) [some a, some b, some c, none, none, none, none, none] s = .nx [some a, some b, some c, some (.lst []), none, none, none, none] s := rfl
  rw [seqS_nx _ _ _ _ e, h]
  simp [endS, SPb, rowsOf, objsOf, List.append_assoc, Nat.add_assoc]
theorem made_c_eq : b_ulaw_made_c = seqS (setS 3 (fun ρ => (pure []) >>= fun ds => pure (.lst ds))) (blk11 "Adrift" "lot" i_Adrift (blk11 "Weights" "row" i_Weights (blk11 "Slack" "move" i_Slack (blk11 "Bent" "stress" i_Bent (blk12 "Level" "tie" "move" i_Level (blk11 "Lift" "roof" i_Lift (blk12 "Warped" "face" "joints" i_Warped (blk12 "Firm" "answers" "stress" i_Firm (blk11 "Gives" "move" i_Gives (blk12 "Parts" "stress" "move" i_Parts (blk11 "Carries" "row" i_Carries (retS (fun ρ => (getV ρ 3)))))))))))))) := rfl
def SPc (a b c x y z : D) : List Sp1 := [⟨"Adrift", ["lot"], [a], [x]⟩, ⟨"Weights", ["row"], [a], [x]⟩, ⟨"Slack", ["move"], [a], [x]⟩, ⟨"Bent", ["stress"], [a], [x]⟩, ⟨"Level", ["tie", "move"], [a, b], [x, y]⟩, ⟨"Lift", ["roof"], [a], [x]⟩, ⟨"Warped", ["face", "joints"], [a, b], [x, y]⟩, ⟨"Firm", ["answers", "stress"], [a, b], [x, y]⟩, ⟨"Gives", ["move"], [a], [x]⟩, ⟨"Parts", ["stress", "move"], [a, b], [x, y]⟩, ⟨"Carries", ["row"], [a], [x]⟩]
theorem made_c_ok {a b c x y z : D} (ha : CP a x) (hb : CP b y) (hc : CP c z) (s : Sto) : m_ulaw_made_c [a, b, c] s = .ok (.lst (rowsOf s.length (SPc a b c x y z))) (s ++ objsOf (SPc a b c x y z)) := by
  show endS (b_ulaw_made_c [some a, some b, some c, none, none, none, none, none] s) = _
  rw [made_c_eq]
  have h := ((run1 (C := "Adrift") (f := "lot") (iC := i_Adrift) (fun s => init1 (f := "lot") ha  s)  (by simp [szMaxV]) (run1 (C := "Weights") (f := "row") (iC := i_Weights) (fun s => init1 (f := "row") ha  s)  (by simp [szMaxV]) (run1 (C := "Slack") (f := "move") (iC := i_Slack) (fun s => init1 (f := "move") ha  s)  (by simp [szMaxV]) (run1 (C := "Bent") (f := "stress") (iC := i_Bent) (fun s => init1 (f := "stress") ha  s)  (by simp [szMaxV]) (run2 (C := "Level") (f := "tie") (g := "move") (iC := i_Level) (fun s => init2 (f := "tie") (g := "move") ha hb (by decide) s) (by decide) (by simp [szMaxV]) (run1 (C := "Lift") (f := "roof") (iC := i_Lift) (fun s => init1 (f := "roof") ha  s)  (by simp [szMaxV]) (run2 (C := "Warped") (f := "face") (g := "joints") (iC := i_Warped) (fun s => init2 (f := "face") (g := "joints") ha hb (by decide) s) (by decide) (by simp [szMaxV]) (run2 (C := "Firm") (f := "answers") (g := "stress") (iC := i_Firm) (fun s => init2 (f := "answers") (g := "stress") ha hb (by decide) s) (by decide) (by simp [szMaxV]) (run1 (C := "Gives") (f := "move") (iC := i_Gives) (fun s => init1 (f := "move") ha  s)  (by simp [szMaxV]) (run2 (C := "Parts") (f := "stress") (g := "move") (iC := i_Parts) (fun s => init2 (f := "stress") (g := "move") ha hb (by decide) s) (by decide) (by simp [szMaxV]) (run1 (C := "Carries") (f := "row") (iC := i_Carries) (fun s => init1 (f := "row") ha  s)  (by simp [szMaxV]) run_end))))))))))) : Run _ a b c [] s _) none none none none
  have e : (setS 3 (fun ρ => (pure []) >>= fun ds => pure (.lst ds))) [some a, some b, some c, none, none, none, none, none] s = .nx [some a, some b, some c, some (.lst []), none, none, none, none] s := rfl
  rw [seqS_nx _ _ _ _ e, h]
  simp [endS, SPc, rowsOf, objsOf, List.append_assoc, Nat.add_assoc]
theorem made_d_eq : b_ulaw_made_d = seqS (setS 3 (fun ρ => (pure []) >>= fun ds => pure (.lst ds))) (blk11 "Drops" "move" i_Drops (blk11 "Found" "row" i_Found (blk11 "Barred" "weights" i_Barred (blk12 "Best" "row" "weights" i_Best (blk12 "Falls" "row" "way" i_Falls (blk11 "Never" "weights" i_Never (blk12 "OneShape" "joints" "steps" i_OneShape (blk12 "Lacking" "one" "other" i_Lacking (blk12 "Parting" "joints" "lots" i_Parting (blk12 "LetsGo" "tie" "lots" i_LetsGo (blk11 "Ears" "rows" i_Ears (retS (fun ρ => (getV ρ 3)))))))))))))) := rfl
def SPd (a b c x y z : D) : List Sp1 := [⟨"Drops", ["move"], [a], [x]⟩, ⟨"Found", ["row"], [a], [x]⟩, ⟨"Barred", ["weights"], [a], [x]⟩, ⟨"Best", ["row", "weights"], [a, b], [x, y]⟩, ⟨"Falls", ["row", "way"], [a, b], [x, y]⟩, ⟨"Never", ["weights"], [a], [x]⟩, ⟨"OneShape", ["joints", "steps"], [a, b], [x, y]⟩, ⟨"Lacking", ["one", "other"], [a, b], [x, y]⟩, ⟨"Parting", ["joints", "lots"], [a, b], [x, y]⟩, ⟨"LetsGo", ["tie", "lots"], [a, b], [x, y]⟩, ⟨"Ears", ["rows"], [a], [x]⟩]
theorem made_d_ok {a b c x y z : D} (ha : CP a x) (hb : CP b y) (hc : CP c z) (s : Sto) : m_ulaw_made_d [a, b, c] s = .ok (.lst (rowsOf s.length (SPd a b c x y z))) (s ++ objsOf (SPd a b c x y z)) := by
  show endS (b_ulaw_made_d [some a, some b, some c, none, none, none, none, none] s) = _
  rw [made_d_eq]
  have h := ((run1 (C := "Drops") (f := "move") (iC := i_Drops) (fun s => init1 (f := "move") ha  s)  (by simp [szMaxV]) (run1 (C := "Found") (f := "row") (iC := i_Found) (fun s => init1 (f := "row") ha  s)  (by simp [szMaxV]) (run1 (C := "Barred") (f := "weights") (iC := i_Barred) (fun s => init1 (f := "weights") ha  s)  (by simp [szMaxV]) (run2 (C := "Best") (f := "row") (g := "weights") (iC := i_Best) (fun s => init2 (f := "row") (g := "weights") ha hb (by decide) s) (by decide) (by simp [szMaxV]) (run2 (C := "Falls") (f := "row") (g := "way") (iC := i_Falls) (fun s => init2 (f := "row") (g := "way") ha hb (by decide) s) (by decide) (by simp [szMaxV]) (run1 (C := "Never") (f := "weights") (iC := i_Never) (fun s => init1 (f := "weights") ha  s)  (by simp [szMaxV]) (run2 (C := "OneShape") (f := "joints") (g := "steps") (iC := i_OneShape) (fun s => init2 (f := "joints") (g := "steps") ha hb (by decide) s) (by decide) (by simp [szMaxV]) (run2 (C := "Lacking") (f := "one") (g := "other") (iC := i_Lacking) (fun s => init2 (f := "one") (g := "other") ha hb (by decide) s) (by decide) (by simp [szMaxV]) (run2 (C := "Parting") (f := "joints") (g := "lots") (iC := i_Parting) (fun s => init2 (f := "joints") (g := "lots") ha hb (by decide) s) (by decide) (by simp [szMaxV]) (run2 (C := "LetsGo") (f := "tie") (g := "lots") (iC := i_LetsGo) (fun s => init2 (f := "tie") (g := "lots") ha hb (by decide) s) (by decide) (by simp [szMaxV]) (run1 (C := "Ears") (f := "rows") (iC := i_Ears) (fun s => init1 (f := "rows") ha  s)  (by simp [szMaxV]) run_end))))))))))) : Run _ a b c [] s _) none none none none
  have e : (setS 3 (fun ρ => (pure []) >>= fun ds => pure (.lst ds))) [some a, some b, some c, none, none, none, none, none] s = .nx [some a, some b, some c, some (.lst []), none, none, none, none] s := rfl
  rw [seqS_nx _ _ _ _ e, h]
  simp [endS, SPd, rowsOf, objsOf, List.append_assoc, Nat.add_assoc]
theorem made_e_eq : b_ulaw_made_e = seqS (setS 3 (fun ρ => (pure []) >>= fun ds => pure (.lst ds))) (blk12 "HeldPlaces" "points" "stress" i_HeldPlaces (blk11 "Cheapest" "fields" i_Cheapest (blk12 "TwoTrees" "one" "other" i_TwoTrees (blk11 "Thick" "joints" i_Thick (blk12 "Light" "row" "move" i_Light (blk11 "Sinks" "move" i_Sinks (blk12 "Uses" "row" "move" i_Uses (blk13 "Sizes" "sizes" "rows" "moves" i_Sizes (blk12 "Fails" "number" "move" i_Fails (blk12 "Fit" "aims" "points" i_Fit (retS (fun ρ => (getV ρ 3))))))))))))) := rfl
def SPe (a b c x y z : D) : List Sp1 := [⟨"HeldPlaces", ["points", "stress"], [a, b], [x, y]⟩, ⟨"Cheapest", ["fields"], [a], [x]⟩, ⟨"TwoTrees", ["one", "other"], [a, b], [x, y]⟩, ⟨"Thick", ["joints"], [a], [x]⟩, ⟨"Light", ["row", "move"], [a, b], [x, y]⟩, ⟨"Sinks", ["move"], [a], [x]⟩, ⟨"Uses", ["row", "move"], [a, b], [x, y]⟩, ⟨"Sizes", ["sizes", "rows", "moves"], [a, b, c], [x, y, z]⟩, ⟨"Fails", ["number", "move"], [a, b], [x, y]⟩, ⟨"Fit", ["aims", "points"], [a, b], [x, y]⟩]
theorem made_e_ok {a b c x y z : D} (ha : CP a x) (hb : CP b y) (hc : CP c z) (s : Sto) : m_ulaw_made_e [a, b, c] s = .ok (.lst (rowsOf s.length (SPe a b c x y z))) (s ++ objsOf (SPe a b c x y z)) := by
  show endS (b_ulaw_made_e [some a, some b, some c, none, none, none, none, none] s) = _
  rw [made_e_eq]
  have h := ((run2 (C := "HeldPlaces") (f := "points") (g := "stress") (iC := i_HeldPlaces) (fun s => init2 (f := "points") (g := "stress") ha hb (by decide) s) (by decide) (by simp [szMaxV]) (run1 (C := "Cheapest") (f := "fields") (iC := i_Cheapest) (fun s => init1 (f := "fields") ha  s)  (by simp [szMaxV]) (run2 (C := "TwoTrees") (f := "one") (g := "other") (iC := i_TwoTrees) (fun s => init2 (f := "one") (g := "other") ha hb (by decide) s) (by decide) (by simp [szMaxV]) (run1 (C := "Thick") (f := "joints") (iC := i_Thick) (fun s => init1 (f := "joints") ha  s)  (by simp [szMaxV]) (run2 (C := "Light") (f := "row") (g := "move") (iC := i_Light) (fun s => init2 (f := "row") (g := "move") ha hb (by decide) s) (by decide) (by simp [szMaxV]) (run1 (C := "Sinks") (f := "move") (iC := i_Sinks) (fun s => init1 (f := "move") ha  s)  (by simp [szMaxV]) (run2 (C := "Uses") (f := "row") (g := "move") (iC := i_Uses) (fun s => init2 (f := "row") (g := "move") ha hb (by decide) s) (by decide) (by simp [szMaxV]) (run3 (C := "Sizes") (f := "sizes") (g := "rows") (h := "moves") (iC := i_Sizes) (fun s => init3 (f := "sizes") (g := "rows") (h := "moves") ha hb hc (by decide) (by decide) (by decide) s) (by decide) (by decide) (by decide) (by simp [szMaxV]) (run2 (C := "Fails") (f := "number") (g := "move") (iC := i_Fails) (fun s => init2 (f := "number") (g := "move") ha hb (by decide) s) (by decide) (by simp [szMaxV]) (run2 (C := "Fit") (f := "aims") (g := "points") (iC := i_Fit) (fun s => init2 (f := "aims") (g := "points") ha hb (by decide) s) (by decide) (by simp [szMaxV]) run_end)))))))))) : Run _ a b c [] s _) none none none none
  have e : (setS 3 (fun ρ => (pure []) >>= fun ds => pure (.lst ds))) [some a, some b, some c, none, none, none, none, none] s = .nx [some a, some b, some c, some (.lst []), none, none, none, none] s := rfl
  rw [seqS_nx _ _ _ _ e, h]
  simp [endS, SPe, rowsOf, objsOf, List.append_assoc, Nat.add_assoc]
end K83

namespace K83
open PySem PySem.Spec PyProof.Rows L2 DL
def law1 : Sm := (setS 1 (fun ρ => (((getV ρ 0) >>= fun d => (pure []) >>= fun ds => pure (d :: ds)) >>= fun ds => m_ulaw_pen (ds ++ []))))
def law2 : Sm := (setS 2 (fun ρ => (compF [15] (fun ρ => (((pure (.int 3)) >>= fun d => (pure []) >>= fun ds => pure (d :: ds)) >>= rng1)) (tgV 15) (fun _ => pure true) (fun ρ => (((getV ρ 1) >>= fun d => (pure []) >>= fun ds => pure (d :: ds)) >>= fun ds => m_ulaw_value (ds ++ []))) ρ) >>= fun ds => pure (.lst ds)))
def law3 : Sm := (tgtS (fun ρ => ((compF [19] (fun ρ => ((getV ρ 2) >>= seqI)) (tgV 19) (fun _ => pure true) (fun ρ => ((((getV ρ 19) >>= fun d => con d >>= isiC "list") >>= fun d => con d >>= truC) >>= fun b => if b = true then ((((getV ρ 19) >>= fun d => (pure []) >>= fun ds => pure (d :: ds)) >>= fun ds => lstK ds) >>= fun ds => pure (.lst ds)) else (getV ρ 19))) ρ) >>= fun ds => pure (.lst ds))) (tgL 3 (tgCons (tgV 3) (tgCons (tgV 4) (tgCons (tgV 5) tgNil)))))
def law4 : Sm := (setS 6 (fun ρ => ((pure []) >>= fun ds => pure (.lst ds))))
def law5 : Sm := (forS (fun ρ => ((((((getV ρ 3) >>= fun d => ((getV ρ 4) >>= fun d => ((getV ρ 5) >>= fun d => (pure []) >>= fun ds => pure (d :: ds)) >>= fun ds => pure (d :: ds)) >>= fun ds => pure (d :: ds)) >>= fun ds => m_ulaw_made_a (ds ++ [])) >>= fun d => ((((getV ρ 3) >>= fun d => ((getV ρ 4) >>= fun d => ((getV ρ 5) >>= fun d => (pure []) >>= fun ds => pure (d :: ds)) >>= fun ds => pure (d :: ds)) >>= fun ds => pure (d :: ds)) >>= fun ds => m_ulaw_made_b (ds ++ [])) >>= fun d => ((((getV ρ 3) >>= fun d => ((getV ρ 4) >>= fun d => ((getV ρ 5) >>= fun d => (pure []) >>= fun ds => pure (d :: ds)) >>= fun ds => pure (d :: ds)) >>= fun ds => pure (d :: ds)) >>= fun ds => m_ulaw_made_c (ds ++ [])) >>= fun d => ((((getV ρ 3) >>= fun d => ((getV ρ 4) >>= fun d => ((getV ρ 5) >>= fun d => (pure []) >>= fun ds => pure (d :: ds)) >>= fun ds => pure (d :: ds)) >>= fun ds => pure (d :: ds)) >>= fun ds => m_ulaw_made_d (ds ++ [])) >>= fun d => ((((getV ρ 3) >>= fun d => ((getV ρ 4) >>= fun d => ((getV ρ 5) >>= fun d => (pure []) >>= fun ds => pure (d :: ds)) >>= fun ds => pure (d :: ds)) >>= fun ds => pure (d :: ds)) >>= fun ds => m_ulaw_made_e (ds ++ [])) >>= fun d => (pure []) >>= fun ds => pure (d :: ds)) >>= fun ds => pure (d :: ds)) >>= fun ds => pure (d :: ds)) >>= fun ds => pure (d :: ds)) >>= fun ds => pure (d :: ds)) >>= fun ds => pure (.lst ds)) >>= seqI)) (tgV 7) (seqS (setS 6 (fun ρ => ((getV ρ 6) >>= fun d => (getV ρ 7) >>= fun e => addL d e))) (fun ρ s => .nx ρ s)))
def law6 : Sm := (forS (fun ρ => ((getV ρ 6) >>= seqI)) (tgT 6 (tgCons (tgV 8) (tgCons (tgV 9) (tgCons (tgV 10) (tgCons (tgV 11) (tgCons (tgV 12) (tgCons (tgV 13) tgNil))))))) (seqS (setS 14 (fun ρ => ((((compF [19] (fun ρ => ((getV ρ 13) >>= seqI)) (tgV 19) (fun _ => pure true) (fun ρ => (((getV ρ 19) >>= fun d => (pure []) >>= fun ds => pure (d :: ds)) >>= fun ds => m_ulaw_copy (ds ++ []))) ρ) >>= fun ds => pure (.lst ds)) >>= fun d => (pure []) >>= fun ds => pure (d :: ds)) >>= fun ds => reprK ds))) (seqS (ifS (fun ρ => (((getV ρ 10) >>= fun d => (pure (.bl true)) >>= fun e => cmpM (isBB true) d e) >>= fun b => if b = true then pure true else (((((getV ρ 11) >>= fun d => (pure []) >>= fun ds => pure (d :: ds)) >>= fun ds => reprK ds) >>= fun d => (getV ρ 14) >>= fun e => cmpM (neB eqL) d e) >>= fun b => if b = true then pure true else (((((getV ρ 12) >>= fun d => (pure []) >>= fun ds => pure (d :: ds)) >>= fun ds => reprK ds) >>= fun d => (getV ρ 14) >>= fun e => cmpM (neB eqL) d e) >>= fun b => if b = true then pure true else ((((getV ρ 8) >>= fun d => (getV ρ 8) >>= fun e => cmpM (eqB eqL) d e) >>= fun b => pure (!b)) >>= fun b => if b = true then pure true else ((getV ρ 8) >>= fun d => (getV ρ 9) >>= fun e => cmpM (eqB eqL) d e)))))) (retS (fun ρ => (pure (.bl false)))) (fun ρ s => .nx ρ s)) (fun ρ s => .nx ρ s))))
def law7 : Sm := (forS (fun ρ => (((((getV ρ 6) >>= fun d => (pure []) >>= fun ds => pure (d :: ds)) >>= fun ds => lenK ds) >>= fun d => (pure []) >>= fun ds => pure (d :: ds)) >>= rng1)) (tgV 15) (seqS (setS 16 (fun ρ => (((getV ρ 6) >>= fun d => ((((((getV ρ 15) >>= fun d => (pure (.int 1)) >>= fun e => addL d e) >>= fun d => (((getV ρ 1) >>= fun d => (((((getV ρ 6) >>= fun d => (pure []) >>= fun ds => pure (d :: ds)) >>= fun ds => lenK ds) >>= fun d => (pure (.int 1)) >>= fun e => subD d e) >>= fun d => (pure []) >>= fun ds => pure (d :: ds)) >>= fun ds => pure (d :: ds)) >>= fun ds => m_ulaw_draw (ds ++ [])) >>= fun e => addL d e) >>= fun d => (pure []) >>= fun ds => pure (d :: ds)) >>= fun ds => intK ds) >>= fun d => (((getV ρ 6) >>= fun d => (pure []) >>= fun ds => pure (d :: ds)) >>= fun ds => lenK ds) >>= fun e => modD d e) >>= fun e => idxD d e) >>= fun d => (pure (.int 0)) >>= fun e => idxD d e))) (seqS (ifS (fun ρ => (((((getV ρ 6) >>= fun d => (getV ρ 15) >>= fun e => idxD d e) >>= fun d => (pure (.int 0)) >>= fun e => idxD d e) >>= fun d => (getV ρ 16) >>= fun e => cmpM (eqB eqL) d e) >>= fun b => if b = true then pure true else (((getV ρ 16) >>= fun d => (((getV ρ 6) >>= fun d => (getV ρ 15) >>= fun e => idxD d e) >>= fun d => (pure (.int 0)) >>= fun e => idxD d e) >>= fun e => cmpM (eqB eqL) d e) >>= fun b => if b = true then pure true else (((((getV ρ 6) >>= fun d => (getV ρ 15) >>= fun e => idxD d e) >>= fun d => (pure (.int 0)) >>= fun e => idxD d e) >>= fun d => (getV ρ 16) >>= fun e => cmpM (neB eqL) d e) >>= fun b => pure (!b))))) (retS (fun ρ => (pure (.bl false)))) (fun ρ s => .nx ρ s)) (fun ρ s => .nx ρ s))))
def law8 : Sm := (setS 17 (fun ρ => ((((getV ρ 2) >>= fun d => (pure (.int 0)) >>= fun e => idxD d e) >>= fun d => (pure []) >>= fun ds => pure (d :: ds)) >>= fun ds => mkS "Found" i_Found ds)))
def law9 : Sm := (setS 18 (fun ρ => ((((getV ρ 17) >>= fun d => fldD "row" d) >>= fun d => (pure []) >>= fun ds => pure (d :: ds)) >>= fun ds => reprK ds)))
def law10 : Sm := (ifS (fun ρ => ((((getV ρ 2) >>= fun d => (pure (.int 0)) >>= fun e => idxD d e) >>= fun d => con d >>= isiC "list") >>= fun d => con d >>= truC)) (seqS (appO (fun ρ => ((getV ρ 2) >>= fun d => (pure (.int 0)) >>= fun e => idxD d e)) (fun ρ => (pure (.int 7)))) (fun ρ s => .nx ρ s)) (fun ρ s => .nx ρ s))
def law11 : Sm := (retS (fun ρ => ((((((getV ρ 17) >>= fun d => fldD "row" d) >>= fun d => (pure []) >>= fun ds => pure (d :: ds)) >>= fun ds => reprK ds) >>= fun d => (getV ρ 18) >>= fun e => cmpV (eqB eqL) d e) >>= fun d => asBl d >>= fun b => if b = true then ((((getV ρ 6) >>= fun d => (pure []) >>= fun ds => pure (d :: ds)) >>= fun ds => lenK ds) >>= fun d => (pure (.int 54)) >>= fun e => cmpV (eqB eqL) d e) else pure (.bl false))))
theorem law_eq : b_law = (seqS law1 (seqS law2 (seqS law3 (seqS law4 (seqS law5 (seqS law6 (seqS law7 (seqS law8 (seqS law9 (seqS law10 law11)))))))))) := rfl
def fi5 : DL.Env → M (List D) := (fun ρ => ((((((getV ρ 3) >>= fun d => ((getV ρ 4) >>= fun d => ((getV ρ 5) >>= fun d => (pure []) >>= fun ds => pure (d :: ds)) >>= fun ds => pure (d :: ds)) >>= fun ds => pure (d :: ds)) >>= fun ds => m_ulaw_made_a (ds ++ [])) >>= fun d => ((((getV ρ 3) >>= fun d => ((getV ρ 4) >>= fun d => ((getV ρ 5) >>= fun d => (pure []) >>= fun ds => pure (d :: ds)) >>= fun ds => pure (d :: ds)) >>= fun ds => pure (d :: ds)) >>= fun ds => m_ulaw_made_b (ds ++ [])) >>= fun d => ((((getV ρ 3) >>= fun d => ((getV ρ 4) >>= fun d => ((getV ρ 5) >>= fun d => (pure []) >>= fun ds => pure (d :: ds)) >>= fun ds => pure (d :: ds)) >>= fun ds => pure (d :: ds)) >>= fun ds => m_ulaw_made_c (ds ++ [])) >>= fun d => ((((getV ρ 3) >>= fun d => ((getV ρ 4) >>= fun d => ((getV ρ 5) >>= fun d => (pure []) >>= fun ds => pure (d :: ds)) >>= fun ds => pure (d :: ds)) >>= fun ds => pure (d :: ds)) >>= fun ds => m_ulaw_made_d (ds ++ [])) >>= fun d => ((((getV ρ 3) >>= fun d => ((getV ρ 4) >>= fun d => ((getV ρ 5) >>= fun d => (pure []) >>= fun ds => pure (d :: ds)) >>= fun ds => pure (d :: ds)) >>= fun ds => pure (d :: ds)) >>= fun ds => m_ulaw_made_e (ds ++ [])) >>= fun d => (pure []) >>= fun ds => pure (d :: ds)) >>= fun ds => pure (d :: ds)) >>= fun ds => pure (d :: ds)) >>= fun ds => pure (d :: ds)) >>= fun ds => pure (d :: ds)) >>= fun ds => pure (.lst ds)) >>= seqI))
def bd5 : Sm := (seqS (setS 6 (fun ρ => ((getV ρ 6) >>= fun d => (getV ρ 7) >>= fun e => addL d e))) (fun ρ s => .nx ρ s))
theorem law5_eq : law5 = forS fi5 (tgV 7) bd5 := rfl
def fi6 : DL.Env → M (List D) := (fun ρ => ((getV ρ 6) >>= seqI))
def bd6 : Sm := (seqS (setS 14 (fun ρ => ((((compF [19] (fun ρ => ((getV ρ 13) >>= seqI)) (tgV 19) (fun _ => pure true) (fun ρ => (((getV ρ 19) >>= fun d => (pure []) >>= fun ds => pure (d :: ds)) >>= fun ds => m_ulaw_copy (ds ++ []))) ρ) >>= fun ds => pure (.lst ds)) >>= fun d => (pure []) >>= fun ds => pure (d :: ds)) >>= fun ds => reprK ds))) (seqS (ifS (fun ρ => (((getV ρ 10) >>= fun d => (pure (.bl true)) >>= fun e => cmpM (isBB true) d e) >>= fun b => if b = true then pure true else (((((getV ρ 11) >>= fun d => (pure []) >>= fun ds => pure (d :: ds)) >>= fun ds => reprK ds) >>= fun d => (getV ρ 14) >>= fun e => cmpM (neB eqL) d e) >>= fun b => if b = true then pure true else (((((getV ρ 12) >>= fun d => (pure []) >>= fun ds => pure (d :: ds)) >>= fun ds => reprK ds) >>= fun d => (getV ρ 14) >>= fun e => cmpM (neB eqL) d e) >>= fun b => if b = true then pure true else ((((getV ρ 8) >>= fun d => (getV ρ 8) >>= fun e => cmpM (eqB eqL) d e) >>= fun b => pure (!b)) >>= fun b => if b = true then pure true else ((getV ρ 8) >>= fun d => (getV ρ 9) >>= fun e => cmpM (eqB eqL) d e)))))) (retS (fun ρ => (pure (.bl false)))) (fun ρ s => .nx ρ s)) (fun ρ s => .nx ρ s)))
theorem law6_eq : law6 = forS fi6 (tgT 6 (tgCons (tgV 8) (tgCons (tgV 9) (tgCons (tgV 10) (tgCons (tgV 11) (tgCons (tgV 12) (tgCons (tgV 13) tgNil))))))) bd6 := rfl
def fi7 : DL.Env → M (List D) := (fun ρ => (((((getV ρ 6) >>= fun d => (pure []) >>= fun ds => pure (d :: ds)) >>= fun ds => lenK ds) >>= fun d => (pure []) >>= fun ds => pure (d :: ds)) >>= rng1))
def bd7 : Sm := (seqS (setS 16 (fun ρ => (((getV ρ 6) >>= fun d => ((((((getV ρ 15) >>= fun d => (pure (.int 1)) >>= fun e => addL d e) >>= fun d => (((getV ρ 1) >>= fun d => (((((getV ρ 6) >>= fun d => (pure []) >>= fun ds => pure (d :: ds)) >>= fun ds => lenK ds) >>= fun d => (pure (.int 1)) >>= fun e => subD d e) >>= fun d => (pure []) >>= fun ds => pure (d :: ds)) >>= fun ds => pure (d :: ds)) >>= fun ds => m_ulaw_draw (ds ++ [])) >>= fun e => addL d e) >>= fun d => (pure []) >>= fun ds => pure (d :: ds)) >>= fun ds => intK ds) >>= fun d => (((getV ρ 6) >>= fun d => (pure []) >>= fun ds => pure (d :: ds)) >>= fun ds => lenK ds) >>= fun e => modD d e) >>= fun e => idxD d e) >>= fun d => (pure (.int 0)) >>= fun e => idxD d e))) (seqS (ifS (fun ρ => (((((getV ρ 6) >>= fun d => (getV ρ 15) >>= fun e => idxD d e) >>= fun d => (pure (.int 0)) >>= fun e => idxD d e) >>= fun d => (getV ρ 16) >>= fun e => cmpM (eqB eqL) d e) >>= fun b => if b = true then pure true else (((getV ρ 16) >>= fun d => (((getV ρ 6) >>= fun d => (getV ρ 15) >>= fun e => idxD d e) >>= fun d => (pure (.int 0)) >>= fun e => idxD d e) >>= fun e => cmpM (eqB eqL) d e) >>= fun b => if b = true then pure true else (((((getV ρ 6) >>= fun d => (getV ρ 15) >>= fun e => idxD d e) >>= fun d => (pure (.int 0)) >>= fun e => idxD d e) >>= fun d => (getV ρ 16) >>= fun e => cmpM (neB eqL) d e) >>= fun b => pure (!b))))) (retS (fun ρ => (pure (.bl false)))) (fun ρ s => .nx ρ s)) (fun ρ s => .nx ρ s)))
theorem law7_eq : law7 = forS fi7 (tgV 15) bd7 := rfl
/-! ### values, kept -/
theorem copied_list (ds : List D) (s : Sto) : m_copied [.lst ds] s = .ok (.tup ds) s := rfl
theorem copied_obj {j : Nat} {ds : List D} {s : Sto} (h : s[j]? = some (.lst ds)) : m_copied [.obj j] s = .ok (.tup ds) s := by
  show endS (b_copied [some (.obj j)] s) = _
  unfold b_copied
  have l : isiC "list" (.lst ds) s = .ok (.bl true) s := rfl
  have c : ∀ b, con (.bl b) s = .ok (.bl b) s := fun _ => rfl
  have t : truC (.bl true) s = .ok true s := rfl
  have k : tupK [.obj j] s = .ok (.tup ds) s := by
    show M.bnd (con (.obj j)) tupC s = _
    unfold M.bnd
    rw [con_obj, h]
    rfl
  simp only [retS_app, thenS_app, bind_app, getV0, pure_app, con_obj, h, l, c, t, if_true, k, endS]
theorem copied_plain {d : D} (hc : ∀ s, con d s = .ok d s) (hl : ∀ s, isiC "list" d s = .ok (.bl false) s) (s : Sto) : m_copied [d] s = .ok d s := by
  show endS (b_copied [some d] s) = _
  unfold b_copied
  have c : ∀ b, con (.bl b) s = .ok (.bl b) s := fun _ => rfl
  have t : truC (.bl false) s = .ok false s := rfl
  simp only [retS_app, thenS_app, bind_app, getV0, pure_app, hc, hl, c, t, Bool.false_eq_true, if_false, endS]
theorem copy_eq : m_ulaw_copy = m_copied := rfl
def el3 : DL.Env → M D := fun ρ => ((((getV ρ 19) >>= fun d => con d >>= isiC "list") >>= fun d => con d >>= truC) >>= fun b => if b = true then ((((getV ρ 19) >>= fun d => (pure []) >>= fun ds => pure (d :: ds)) >>= fun ds => lstK ds) >>= fun ds => pure (.lst ds)) else (getV ρ 19))
/-- v as it is drawn, a its copy, x what is kept of both -/
theorem kept_of {p : Nat} {s : Sto} {v : D} (h : ValOk p s v) : ∃ a x, CP a x ∧ Good x ∧ (∀ s', Keep p s s' → m_copied [v] s' = .ok x s') ∧ ∀ s' ρ, Keep p s s' → getV ρ 19 = pure v → el3 ρ s' = .ok a s' := by
  cases h with
  | plain hc hl hg =>
    refine ⟨v, v, fun s => copied_plain hc hl s, hg, fun s' _ => copied_plain hc hl s', fun s' ρ _ hv => ?_⟩
    have c : ∀ b, con (.bl b) s' = .ok (.bl b) s' := fun _ => rfl
    have t : truC (.bl false) s' = .ok false s' := rfl
    unfold el3
    rw [hv]
    simp only [bind_app, pure_app, hc, hl, c, t, Bool.false_eq_true, if_false]
  | @list j ds hj hs hg hn =>
    refine ⟨.lst ds, .tup ds, fun s => copied_list ds s, hg, fun s' k => copied_obj (k.at_ _ _ hj hs), fun s' ρ k hv => ?_⟩
    have hs' := k.at_ _ _ hj hs
    have l : isiC "list" (.lst ds) s' = .ok (.bl true) s' := rfl
    have c : ∀ b, con (.bl b) s' = .ok (.bl b) s' := fun _ => rfl
    have t : truC (.bl true) s' = .ok true s' := rfl
    have kk : lstK [.obj j] s' = .ok ds s' := by
      show M.bnd (con (.obj j)) lstC s' = _
      unfold M.bnd
      rw [con_obj, hs']
      rfl
    unfold el3
    rw [hv]
    simp only [bind_app, pure_app, con_obj, hs', l, c, t, if_true, kk]
/-! ### rows -/
theorem rowsOf_cons (n : Nat) (x : Sp1) (p : List Sp1) : rowsOf n (x :: p) = rowOf n x.hs x.xs :: rowsOf (n + 2) p := rfl
theorem objsOf_cons (x : Sp1) (p : List Sp1) : objsOf (x :: p) = .ins x.C (x.fs.zip x.xs) :: .ins x.C (x.fs.zip x.xs) :: objsOf p := rfl
theorem rowsOf_append : ∀ (n : Nat) (p q : List Sp1), rowsOf n (p ++ q) = rowsOf n p ++ rowsOf (n + 2 * p.length) q
  | n, [], q => by simp [rowsOf]
  | n, x :: p, q => by
    rw [List.cons_append, rowsOf_cons, rowsOf_cons, rowsOf_append (n + 2) p q, List.cons_append, List.length_cons, show n + 2 + 2 * p.length = n + 2 * (p.length + 1) by omega]
theorem objsOf_append : ∀ (p q : List Sp1), objsOf (p ++ q) = objsOf p ++ objsOf q
  | [], q => rfl
  | x :: p, q => by rw [List.cons_append, objsOf_cons, objsOf_cons, objsOf_append p q]; rfl
theorem objsOf_length : ∀ p : List Sp1, (objsOf p).length = 2 * p.length
  | [] => rfl
  | x :: p => by unfold objsOf; rw [List.length_cons, List.length_cons, objsOf_length p, List.length_cons]; omega
theorem rowsOf_length : ∀ (n : Nat) (p : List Sp1), (rowsOf n p).length = p.length
  | n, [] => rfl
  | n, x :: p => by unfold rowsOf; rw [List.length_cons, rowsOf_length (n + 2) p, List.length_cons]
theorem rows_get : ∀ (n j : Nat) (p : List Sp1) (q : Sp1), p[j]? = some q → (rowsOf n p)[j]? = some (rowOf (n + 2 * j) q.hs q.xs)
  | n, 0, [], q, h => by simp at h
  | n, j + 1, [], q, h => by simp at h
  | n, 0, x :: p, q, h => by simp at h; subst h; unfold rowsOf; rfl
  | n, j + 1, x :: p, q, h => by
    unfold rowsOf
    rw [List.getElem?_cons_succ]
    rw [rows_get (n + 2) j p q (by simpa using h), show n + 2 + 2 * j = n + 2 * (j + 1) by omega]
theorem objs_get : ∀ (j : Nat) (p : List Sp1) (q : Sp1), p[j]? = some q → (objsOf p)[2 * j]? = some (.ins q.C (q.fs.zip q.xs)) ∧ (objsOf p)[2 * j + 1]? = some (.ins q.C (q.fs.zip q.xs))
  | 0, [], q, h => by simp at h
  | j + 1, [], q, h => by simp at h
  | 0, x :: p, q, h => by simp at h; subst h; unfold objsOf; exact ⟨rfl, rfl⟩
  | j + 1, x :: p, q, h => by
    obtain ⟨h1, h2⟩ := objs_get j p q (by simpa using h)
    unfold objsOf
    rw [show 2 * (j + 1) = 2 * j + 1 + 1 by omega]
    exact ⟨by rw [List.getElem?_cons_succ, List.getElem?_cons_succ]; exact h1, by rw [List.getElem?_cons_succ, List.getElem?_cons_succ]; exact h2⟩
def SPall (a b c x y z : D) : List Sp1 := SPa a b c x y z ++ (SPb a b c x y z ++ (SPc a b c x y z ++ (SPd a b c x y z ++ SPe a b c x y z)))
theorem SPall_C (a b c x y z : D) : ∀ q ∈ SPall a b c x y z, q.C ∈ eqL := by
  have h : ∀ C ∈ (SPall a b c x y z).map (·.C), C ∈ eqL := by
    have e : (SPall a b c x y z).map (·.C) = (SPall .non .non .non .non .non .non).map (·.C) := rfl
    rw [e]
    decide +kernel
  exact fun q hq => h q.C (List.mem_map_of_mem hq)
theorem SPall_len (a b c x y z : D) : (SPall a b c x y z).length = 54 := rfl
theorem SPall_hx (a b c x y z : D) : ∀ q ∈ SPall a b c x y z, (q.hs = [a] ∧ q.xs = [x]) ∨ (q.hs = [a, b] ∧ q.xs = [x, y]) ∨ (q.hs = [a, b, c] ∧ q.xs = [x, y, z]) := by
  intro q hq
  simp only [SPall, SPa, SPb, SPc, SPd, SPe, List.cons_append, List.nil_append, List.mem_cons, List.not_mem_nil, or_false] at hq
  rcases hq with rfl | hq
  · simp
  repeat (first | (rcases hq with rfl | hq; · simp) | (subst hq; simp))
end K83

namespace K83
open PySem PySem.Spec PyProof.Rows L2 DL
theorem reprs {xs : List D} {qs : List PyData} (h : pys xs = some qs) (hs : PyData.showableAll qs = true) (hd : PyData.depthAll qs ≤ 10) (hl : ((PyData.shownAll qs).map (·.length)).sum ≤ 1000) (hn : (PyData.shownAll qs).length ≤ 3) : ∃ t, ∀ s, reprK [.lst xs] s = .ok (.str t) s := by
  refine ⟨(PyData.list qs).shown, fun s => ?_⟩
  have e : py (.lst xs) = some (.list qs) := by unfold py; rw [h]
  have ok : reprOk (.list qs) := by
    refine ⟨by simpa [PyData.showable] using hs, by simp only [PyData.depth]; omega, ?_⟩
    have z := listText_len_le (PyData.shownAll qs)
    have e2 : (PyData.list qs).shown = listText (PyData.shownAll qs) := by simp only [PyData.shown]
    rw [e2, szMaxV]
    omega
  show reprC (.lst xs) s = _
  unfold reprC
  rw [e]
  dsimp only
  rw [if_pos ok]
theorem repr1 {x : D} (hx : Good x) : ∃ t, ∀ s, reprK [.lst [x]] s = .ok (.str t) s := by
  obtain ⟨q, h1, h2, h3, h4⟩ := hx.ex
  exact reprs (qs := [q]) (by simp [pys, h1]) (by simp [PyData.showableAll, h2]) (by simp [PyData.depthAll]; omega) (by simp [PyData.shownAll]; omega) (by simp [PyData.shownAll])
theorem repr2 {x y : D} (hx : Good x) (hy : Good y) : ∃ t, ∀ s, reprK [.lst [x, y]] s = .ok (.str t) s := by
  obtain ⟨q, h1, h2, h3, h4⟩ := hx.ex
  obtain ⟨r, k1, k2, k3, k4⟩ := hy.ex
  exact reprs (qs := [q, r]) (by simp [pys, h1, k1]) (by simp [PyData.showableAll, h2, k2]) (by simp [PyData.depthAll]; omega) (by simp [PyData.shownAll]; omega) (by simp [PyData.shownAll])
theorem repr3 {x y z : D} (hx : Good x) (hy : Good y) (hz : Good z) : ∃ t, ∀ s, reprK [.lst [x, y, z]] s = .ok (.str t) s := by
  obtain ⟨q, h1, h2, h3, h4⟩ := hx.ex
  obtain ⟨r, k1, k2, k3, k4⟩ := hy.ex
  obtain ⟨u, l1, l2, l3, l4⟩ := hz.ex
  exact reprs (qs := [q, r, u]) (by simp [pys, h1, k1, l1]) (by simp [PyData.showableAll, h2, k2, l2]) (by simp [PyData.depthAll]; omega) (by simp [PyData.shownAll]; omega) (by simp [PyData.shownAll])
theorem reprX {x : D} (hx : Good x) : ∃ t, ∀ s, reprK [x] s = .ok (.str t) s := by
  obtain ⟨q, h1, h2, h3, h4⟩ := hx.ex
  refine ⟨q.shown, fun s => ?_⟩
  show reprC x s = _
  unfold reprC
  rw [h1]
  dsimp only
  rw [if_pos ⟨h2, by omega, by rw [szMaxV]; omega⟩]
/-! ### each row is looked at -/
def cpE : DL.Env → M D := fun ρ => (((getV ρ 19) >>= fun d => (pure []) >>= fun ds => pure (d :: ds)) >>= fun ds => m_ulaw_copy (ds ++ []))
/-- handed things and what is kept of them -/
inductive CPs : List D → List D → Prop
  | nil : CPs [] []
  | cons {a x : D} {hs xs : List D} : CP a x → CPs hs xs → CPs (a :: hs) (x :: xs)
theorem cps_comp {hs xs : List D} (h : CPs hs xs) (s : Sto) (e0 e1 e2 e3 e4 e5 e6 e7 e8 e9 e10 e11 e12 e13 e14 e15 e16 e17 e18 e19 : Option D) :
    compL (tgV 19) (fun _ => pure true) cpE [e0, e1, e2, e3, e4, e5, e6, e7, e8, e9, e10, e11, e12, e13, e14, e15, e16, e17, e18, e19] hs s = .ok xs s := by
  induction h with
  | nil => exact compL_nil
  | @cons a x hs xs hc _ ih =>
    refine compL_cons (s1 := s) (s2 := s) (by unfold tgV; rfl) rfl ?_ ih
    have e : ∀ ρ : DL.Env, getV ρ 19 = pure a → cpE ρ s = .ok x s := fun ρ hρ => by
      unfold cpE
      rw [hρ]
      simp only [bind_app, pure_app, List.append_nil]
      rw [copy_eq]; exact hc s
    exact e _ rfl
structure RowGood (s : Sto) (r : D) : Prop where
  ex : ∃ (n : Nat) (hs xs : List D) (C C' : Str) (f f' : Fs) (t : Str), r = rowOf n hs xs ∧ CPs hs xs ∧ s[n]? = some (.ins C f) ∧ s[n + 1]? = some (.ins C' f') ∧ C ∈ eqL ∧ C' ∈ eqL ∧ ∀ s, reprK [.lst xs] s = .ok (.str t) s
theorem eq_objs {s : Sto} {i j : Nat} {C C' : Str} {f f' : Fs} (h1 : s[i]? = some (.ins C f)) (h2 : s[j]? = some (.ins C' f')) (c1 : C ∈ eqL) (c2 : C' ∈ eqL) : eqB eqL (.obj i) (.obj j) s = some (i == j) := by
  unfold eqB
  simp only [h1, h2, c1, c2, and_self, if_true]
theorem bd6_ok {s : Sto} {r : D} (h : RowGood s r) (e0 e1 e2 e3 e4 e5 e6 e7 e8 e9 e10 e11 e12 e13 e14 e15 e16 e17 e18 e19 : Option D) :
    ∃ (d8 d9 d10 d11 d12 d13 d14 : Option D), tgT 6 (tgCons (tgV 8) (tgCons (tgV 9) (tgCons (tgV 10) (tgCons (tgV 11) (tgCons (tgV 12) (tgCons (tgV 13) tgNil)))))) r [e0, e1, e2, e3, e4, e5, e6, e7, e8, e9, e10, e11, e12, e13, e14, e15, e16, e17, e18, e19] = some [e0, e1, e2, e3, e4, e5, e6, e7, d8, d9, d10, d11, d12, d13, e14, e15, e16, e17, e18, e19] ∧
      bd6 [e0, e1, e2, e3, e4, e5, e6, e7, d8, d9, d10, d11, d12, d13, e14, e15, e16, e17, e18, e19] s = .nx [e0, e1, e2, e3, e4, e5, e6, e7, d8, d9, d10, d11, d12, d13, d14, e15, e16, e17, e18, e19] s := by
  obtain ⟨n, hs, xs, C, C', f, f', t, rfl, hcp, h1, h2, c1, c2, ht⟩ := h.ex
  refine ⟨some (.obj n), some (.obj (n + 1)), some (.bl true), some (.lst xs), some (.lst xs), some (.lst hs), some (.str t), rfl, ?_⟩
  have hc := cps_comp hcp s e0 e1 e2 e3 e4 e5 e6 e7 (some (.obj n)) (some (.obj (n + 1))) (some (.bl true)) (some (.lst xs)) (some (.lst xs)) (some (.lst hs)) e14 e15 e16 e17 e18 none
  have hF : compF [19] (fun ρ => ((getV ρ 13) >>= seqI)) (tgV 19) (fun _ => pure true) cpE [e0, e1, e2, e3, e4, e5, e6, e7, some (.obj n), some (.obj (n + 1)), some (.bl true), some (.lst xs), some (.lst xs), some (.lst hs), e14, e15, e16, e17, e18, e19] s = .ok xs s := compF_app (ds := hs) (s1 := s) rfl hc
  have s14 : setS 14 (fun ρ => ((((compF [19] (fun ρ => ((getV ρ 13) >>= seqI)) (tgV 19) (fun _ => pure true) cpE ρ) >>= fun ds => pure (.lst ds)) >>= fun d => (pure []) >>= fun ds => pure (d :: ds)) >>= fun ds => reprK ds)) [e0, e1, e2, e3, e4, e5, e6, e7, some (.obj n), some (.obj (n + 1)), some (.bl true), some (.lst xs), some (.lst xs), some (.lst hs), e14, e15, e16, e17, e18, e19] s =
      .nx [e0, e1, e2, e3, e4, e5, e6, e7, some (.obj n), some (.obj (n + 1)), some (.bl true), some (.lst xs), some (.lst xs), some (.lst hs), some (.str t), e15, e16, e17, e18, e19] s := by
    simp only [setS_app, thenS_app, bind_app, hF, pure_app, ht, List.set_cons_succ, List.set_cons_zero]
  have isb : ∀ s, isBB true (.bl true) (.bl true) s = some false := fun _ => rfl
  have e11' : (n == n + 1) = false := by simp
  unfold bd6
  refine (seqS_nx _ _ _ _ s14).trans ?_
  simp only [seqS_app, ifS_app, thenS_app, bind_app, getV0, getVs, pure_app, cmpM_app, isb, Bool.false_eq_true, if_false, ite_app, ht, ne_any, eqS, decide_true, Option.map_some, Bool.not_true, eq_objs h1 h1 c1 c1, eq_objs h1 h2 c1 c2, beq_self_eq_true, e11']
theorem loop6 {s : Sto} : ∀ (rows : List D), (∀ r ∈ rows, RowGood s r) → ∀ (e0 e1 e2 e3 e4 e5 e6 e7 e8 e9 e10 e11 e12 e13 e14 e15 e16 e17 e18 e19 : Option D), ∃ (d8 d9 d10 d11 d12 d13 d14 : Option D),
    loopS (tgT 6 (tgCons (tgV 8) (tgCons (tgV 9) (tgCons (tgV 10) (tgCons (tgV 11) (tgCons (tgV 12) (tgCons (tgV 13) tgNil))))))) bd6 rows [e0, e1, e2, e3, e4, e5, e6, e7, e8, e9, e10, e11, e12, e13, e14, e15, e16, e17, e18, e19] s = .nx [e0, e1, e2, e3, e4, e5, e6, e7, d8, d9, d10, d11, d12, d13, d14, e15, e16, e17, e18, e19] s
  | [], _, e0, e1, e2, e3, e4, e5, e6, e7, e8, e9, e10, e11, e12, e13, e14, e15, e16, e17, e18, e19 => ⟨e8, e9, e10, e11, e12, e13, e14, rfl⟩
  | r :: rows, h, e0, e1, e2, e3, e4, e5, e6, e7, e8, e9, e10, e11, e12, e13, e14, e15, e16, e17, e18, e19 => by
    obtain ⟨d8, d9, d10, d11, d12, d13, d14, h1, h2⟩ := bd6_ok (h r List.mem_cons_self) e0 e1 e2 e3 e4 e5 e6 e7 e8 e9 e10 e11 e12 e13 e14 e15 e16 e17 e18 e19
    obtain ⟨c8, c9, c10, c11, c12, c13, c14, h3⟩ := loop6 rows (fun r' hr => h r' (List.mem_cons_of_mem _ hr)) e0 e1 e2 e3 e4 e5 e6 e7 d8 d9 d10 d11 d12 d13 d14 e15 e16 e17 e18 e19
    refine ⟨c8, c9, c10, c11, c12, c13, c14, ?_⟩
    unfold loopS
    simp only [h1, h2]
    exact h3
end K83

namespace K83
open PySem PySem.Spec PyProof.Rows L2 DL
/-- the rows stand: their firsts are instances of the store -/
structure RowsAt (p n : Nat) (R : List D) (s : Sto) : Prop where
  len : R.length = 54
  lt : p < n
  at_ : ∀ j, j < 54 → ∃ hs xs C f, R[j]? = some (rowOf (n + 2 * j) hs xs) ∧ s[n + 2 * j]? = some (.ins C f) ∧ C ∈ eqL
theorem RowsAt.keep {p n : Nat} {R : List D} {s s' : Sto} (h : RowsAt p n R s) (k : Keep p s s') : RowsAt p n R s' := ⟨h.len, h.lt, fun j hj => by
  obtain ⟨hs, xs, C, f, h1, h2, h3⟩ := h.at_ j hj
  have := h.lt
  exact ⟨hs, xs, C, f, h1, k.at_ _ _ (by omega) h2, h3⟩⟩
theorem atI_nat {ds : List D} {j : Nat} {d : D} (h : ds[j]? = some d) : atI ds (j : Int) = some d := by
  have hl : j < ds.length := (List.getElem?_eq_some_iff.mp h).1
  unfold atI ixN
  rw [if_pos (by omega), if_pos (by omega)]
  simpa using h
theorem row0 (n : Nat) (hs xs : List D) (s : Sto) : idxD (rowOf n hs xs) (.int 0) s = .ok (.obj n) s := rfl
theorem bd7_ok {p n c : Nat} {R : List D} {s : Sto} (h : RowsAt p n R s) (hp : PenAt s p c) (hc : c < 100000) (k : Nat) (hk : k < 54) (e0 e2 e3 e4 e5 e7 e8 e9 e10 e11 e12 e13 e14 e16 e17 e18 e19 : Option D) :
    ∃ (d16 : Option D) (s' : Sto), bd7 [e0, some (.obj p), e2, e3, e4, e5, some (.lst R), e7, e8, e9, e10, e11, e12, e13, e14, some (.int k), e16, e17, e18, e19] s = .nx [e0, some (.obj p), e2, e3, e4, e5, some (.lst R), e7, e8, e9, e10, e11, e12, e13, e14, some (.int k), d16, e17, e18, e19] s' ∧ PenAt s' p (c + 1) ∧ Keep p s s' := by
  obtain ⟨r, s', hr, r1, r2, hp', kp, _⟩ := draw_keep hp (by omega) (m := 53) (by decide) (by decide)
  have h' := h.keep kp
  -- the other row's place
  obtain ⟨j, hj, ej, hne⟩ : ∃ j : Nat, j < 54 ∧ ((k : Int) + 1 + r).fmod 54 = j ∧ j ≠ k := by
    rw [Int.fmod_eq_emod_of_nonneg _ (by decide)]
    have a1 := Int.emod_nonneg ((k : Int) + 1 + r) (show (54 : Int) ≠ 0 by decide)
    have a2 := Int.emod_lt_of_pos ((k : Int) + 1 + r) (show (0 : Int) < 54 by decide)
    exact ⟨(((k : Int) + 1 + r) % 54).toNat, by omega, by omega, by omega⟩
  obtain ⟨hs, xs, C, f, g1, g2, g3⟩ := h'.at_ k hk
  obtain ⟨hs2, xs2, C2, f2, g4, g5, g6⟩ := h'.at_ j hj
  have hl : lenK [.lst R] = fun s => .ok (.int 54) s := by
    funext s
    rw [len_lst, h.len]
    rfl
  have q1 : ((n + 2 * k) == (n + 2 * j)) = false := by simp; omega
  have q2 : ((n + 2 * j) == (n + 2 * k)) = false := by simp; omega
  have hr' : ∀ z : Int, z = 53 → m_ulaw_draw [.obj p, .int z] s = .ok (.int r) s' := fun z hz => by rw [hz]; exact hr
  have m54 : ∀ x : Int, ∀ s, modD (.int x) (.int 54) s = .ok (.int (x.fmod 54)) s := fun x s => mod_ok (by decide) s
  refine ⟨some (.obj (n + 2 * j)), s', ?_, hp', kp⟩
  unfold bd7
  simp only [seqS_app, setS_app, thenS_app, bind_app, getV0, getVs, pure_app, addI, hl, subI, List.append_nil, hr' (54 - 1) (by decide), intI, m54, ej, idx_lst, atI_nat g4, lift_some, row0, List.set_cons_succ, List.set_cons_zero, ifS_app, cmpM_app, atI_nat g1, eq_objs g2 g5 g3 g6, eq_objs g5 g2 g6 g3, q1, q2, ite_app, Bool.false_eq_true, if_false, ne_any, Option.map_some, Bool.not_false, Bool.not_true]
theorem loop7 {p n : Nat} {R : List D} : ∀ (ks : List Nat) (c : Nat) (s : Sto), (∀ k ∈ ks, k < 54) → RowsAt p n R s → PenAt s p c → c + ks.length < 100000 → ∀ (e0 e2 e3 e4 e5 e7 e8 e9 e10 e11 e12 e13 e14 e15 e16 e17 e18 e19 : Option D),
    ∃ (d15 d16 : Option D) (s' : Sto), loopS (tgV 15) bd7 (ks.map fun i => .int (i : Nat)) [e0, some (.obj p), e2, e3, e4, e5, some (.lst R), e7, e8, e9, e10, e11, e12, e13, e14, e15, e16, e17, e18, e19] s = .nx [e0, some (.obj p), e2, e3, e4, e5, some (.lst R), e7, e8, e9, e10, e11, e12, e13, e14, d15, d16, e17, e18, e19] s' ∧ Keep p s s'
  | [], c, s, _, _, _, _, e0, e2, e3, e4, e5, e7, e8, e9, e10, e11, e12, e13, e14, e15, e16, e17, e18, e19 => ⟨e15, e16, s, rfl, .refl p s⟩
  | k :: ks, c, s, hk, h, hp, hc, e0, e2, e3, e4, e5, e7, e8, e9, e10, e11, e12, e13, e14, e15, e16, e17, e18, e19 => by
    rw [List.length_cons] at hc
    obtain ⟨d16, s1, h1, h2, h3⟩ := bd7_ok h hp (by omega) k (hk k List.mem_cons_self) e0 e2 e3 e4 e5 e7 e8 e9 e10 e11 e12 e13 e14 e16 e17 e18 e19
    obtain ⟨c15, c16, s2, h4, h5⟩ := loop7 ks (c + 1) s1 (fun k' hk' => hk k' (List.mem_cons_of_mem _ hk')) (h.keep h3) h2 (by omega) e0 e2 e3 e4 e5 e7 e8 e9 e10 e11 e12 e13 e14 (some (.int k)) d16 e17 e18 e19
    refine ⟨c15, c16, s2, ?_, h3.trans h5⟩
    rw [List.map_cons]
    unfold loopS
    simp only [tgV, List.set_cons_succ, List.set_cons_zero, h1]
    exact h4
end K83

namespace K83
open PySem PySem.Spec PyProof.Rows L2 DL
theorem law2_ok {s : Sto} {p c : Nat} (h : PenAt s p c) (hc : c + 12 < 1000000) (e0 : Option D) : ∃ (v1 v2 v3 : D) (s' : Sto), law2 [e0, some (.obj p), none, none, none, none, none, none, none, none, none, none, none, none, none, none, none, none, none, none] s =
    .nx [e0, some (.obj p), some (.lst [v1, v2, v3]), none, none, none, none, none, none, none, none, none, none, none, none, none, none, none, none, none] s' ∧ PenAt s' p (c + 12) ∧ Keep p s s' ∧ ValOk p s' v1 ∧ ValOk p s' v2 ∧ ValOk p s' v3 := by
  obtain ⟨v1, s1, a1, a2, a3, a4⟩ := value_ok h (by omega)
  obtain ⟨v2, s2, b1, b2, b3, b4⟩ := value_ok a2 (by omega)
  obtain ⟨v3, s3, c1, c2, c3, c4⟩ := value_ok b2 (by omega)
  refine ⟨v1, v2, v3, s3, ?_, c2, (a3.trans b3).trans c3, a4.keep (b3.trans c3), b4.keep c3, c4⟩
  have e : ∀ (ρ : DL.Env) (s : Sto) (r : Res D), getV ρ 1 = pure (.obj p) → m_ulaw_value [.obj p] s = r → (((getV ρ 1) >>= fun d => (pure []) >>= fun ds => pure (d :: ds)) >>= fun ds => m_ulaw_value (ds ++ [])) s = r := fun ρ s r hρ hv => by
    rw [hρ]
    simp only [bind_app, pure_app, List.append_nil, hv]
  have hrng : ∀ s, rng1 [.int 3] s = .ok [.int ((0 : Nat) : Int), .int ((1 : Nat) : Int), .int ((2 : Nat) : Int)] s := fun s => rng1_app 3 (by decide) s
  have hF : compF [15] (fun ρ => (((pure (.int 3)) >>= fun d => (pure []) >>= fun ds => pure (d :: ds)) >>= rng1)) (tgV 15) (fun _ => pure true) (fun ρ => (((getV ρ 1) >>= fun d => (pure []) >>= fun ds => pure (d :: ds)) >>= fun ds => m_ulaw_value (ds ++ []))) [e0, some (.obj p), none, none, none, none, none, none, none, none, none, none, none, none, none, none, none, none, none, none] s = .ok [v1, v2, v3] s3 := by
    refine compF_app (ds := [.int ((0 : Nat) : Int), .int ((1 : Nat) : Int), .int ((2 : Nat) : Int)]) (s1 := s) (by simp only [bind_app, pure_app, hrng]) ?_
    refine compL_cons (s2 := s1) (by unfold tgV; rfl) rfl (e _ _ _ rfl a1) (compL_cons (s2 := s2) (by unfold tgV; rfl) rfl (e _ _ _ rfl b1) (compL_cons (s2 := s3) (by unfold tgV; rfl) rfl (e _ _ _ rfl c1) compL_nil))
  unfold law2
  rw [setS_app, thenS_app, bind_app, hF]
  rfl
theorem law3_ok {s : Sto} {v1 v2 v3 a b c : D} (e0 e1 : Option D) (h1 : ∀ ρ, getV ρ 19 = pure v1 → el3 ρ s = .ok a s) (h2 : ∀ ρ, getV ρ 19 = pure v2 → el3 ρ s = .ok b s) (h3 : ∀ ρ, getV ρ 19 = pure v3 → el3 ρ s = .ok c s) :
    law3 [e0, e1, some (.lst [v1, v2, v3]), none, none, none, none, none, none, none, none, none, none, none, none, none, none, none, none, none] s =
    .nx [e0, e1, some (.lst [v1, v2, v3]), some a, some b, some c, none, none, none, none, none, none, none, none, none, none, none, none, none, none] s := by
  have hF : compF [19] (fun ρ => ((getV ρ 2) >>= seqI)) (tgV 19) (fun _ => pure true) el3 [e0, e1, some (.lst [v1, v2, v3]), none, none, none, none, none, none, none, none, none, none, none, none, none, none, none, none, none] s = .ok [a, b, c] s := by
    refine compF_app (ds := [v1, v2, v3]) (s1 := s) rfl ?_
    exact compL_cons (s2 := s) (by unfold tgV; rfl) rfl (h1 _ rfl) (compL_cons (s2 := s) (by unfold tgV; rfl) rfl (h2 _ rfl) (compL_cons (s2 := s) (by unfold tgV; rfl) rfl (h3 _ rfl) compL_nil))
  have e : law3 = (tgtS (fun ρ => ((compF [19] (fun ρ => ((getV ρ 2) >>= seqI)) (tgV 19) (fun _ => pure true) el3 ρ) >>= fun ds => pure (.lst ds))) (tgL 3 (tgCons (tgV 3) (tgCons (tgV 4) (tgCons (tgV 5) tgNil))))) := rfl
  rw [e, tgtS_app, thenS_app, bind_app, hF]
  rfl
theorem bd5_ok (R Mo : List D) (hl : R.length + Mo.length ≤ 1000) (s : Sto) (e0 e1 e2 e3 e4 e5 e7 e8 e9 e10 e11 e12 e13 e14 e15 e16 e17 e18 e19 : Option D) :
    ∃ ρ1, tgV 7 (.lst Mo) [e0, e1, e2, e3, e4, e5, some (.lst R), e7, e8, e9, e10, e11, e12, e13, e14, e15, e16, e17, e18, e19] = some ρ1 ∧ bd5 ρ1 s = .nx [e0, e1, e2, e3, e4, e5, some (.lst (R ++ Mo)), some (.lst Mo), e8, e9, e10, e11, e12, e13, e14, e15, e16, e17, e18, e19] s := by
  refine ⟨_, rfl, ?_⟩
  have al : ∀ s, addL (.lst R) (.lst Mo) s = .ok (.lst (R ++ Mo)) s := fun s => add_lst _ _ (by rw [szMaxV]; omega) s
  unfold bd5
  simp only [List.set_cons_succ, List.set_cons_zero, seqS_app, setS_app, thenS_app, bind_app, getV0, getVs, pure_app, al]
theorem loop5 (s : Sto) (e0 e1 e2 e3 e4 e5 e8 e9 e10 e11 e12 e13 e14 e15 e16 e17 e18 e19 : Option D) : ∀ (Ms : List (List D)) (R : List D) (e7 : Option D), R.length + (Ms.map (·.length)).sum ≤ 1000 → ∃ d7, loopS (tgV 7) bd5 (Ms.map .lst) [e0, e1, e2, e3, e4, e5, some (.lst R), e7, e8, e9, e10, e11, e12, e13, e14, e15, e16, e17, e18, e19] s =
    .nx [e0, e1, e2, e3, e4, e5, some (.lst (R ++ Ms.flatten)), d7, e8, e9, e10, e11, e12, e13, e14, e15, e16, e17, e18, e19] s
  | [], R, e7, _ => ⟨e7, by rw [List.flatten_nil, List.append_nil]; rfl⟩
  | Mo :: Ms, R, e7, h => by
    simp only [List.map_cons, List.sum_cons] at h
    obtain ⟨ρ1, h1, h2⟩ := bd5_ok R Mo (by omega) s e0 e1 e2 e3 e4 e5 e7 e8 e9 e10 e11 e12 e13 e14 e15 e16 e17 e18 e19
    obtain ⟨d7, h3⟩ := loop5 s e0 e1 e2 e3 e4 e5 e8 e9 e10 e11 e12 e13 e14 e15 e16 e17 e18 e19 Ms (R ++ Mo) (some (.lst Mo)) (by rw [List.length_append]; omega)
    refine ⟨d7, ?_⟩
    rw [List.map_cons, List.flatten_cons, ← List.append_assoc, ← h3]
    conv => lhs; unfold loopS
    simp only [h1, h2]
theorem law5_ok {s : Sto} {a b c x y z : D} (ha : CP a x) (hb : CP b y) (hc : CP c z) (e0 e1 e2 : Option D) : ∃ d7, law5 [e0, e1, e2, some a, some b, some c, some (.lst []), none, none, none, none, none, none, none, none, none, none, none, none, none] s =
    .nx [e0, e1, e2, some a, some b, some c, some (.lst (rowsOf s.length (SPall a b c x y z))), d7, none, none, none, none, none, none, none, none, none, none, none, none] (s ++ objsOf (SPall a b c x y z)) := by
  let A := SPa a b c x y z
  let B := SPb a b c x y z
  let C := SPc a b c x y z
  let E := SPd a b c x y z
  let F := SPe a b c x y z
  have la : A.length = 11 := rfl
  have lb : B.length = 11 := rfl
  have lc : C.length = 11 := rfl
  have ld : E.length = 11 := rfl
  have le : F.length = 10 := rfl
  have k1 := made_a_ok ha hb hc s
  have k2 := made_b_ok ha hb hc (s ++ objsOf A)
  have k3 := made_c_ok ha hb hc (s ++ objsOf A ++ objsOf B)
  have k4 := made_d_ok ha hb hc (s ++ objsOf A ++ objsOf B ++ objsOf C)
  have k5 := made_e_ok ha hb hc (s ++ objsOf A ++ objsOf B ++ objsOf C ++ objsOf E)
  have n2 : (s ++ objsOf A).length = s.length + 22 := by rw [List.length_append, objsOf_length, la]
  have n3 : (s ++ objsOf A ++ objsOf B).length = s.length + 44 := by rw [List.length_append, n2, objsOf_length, lb]
  have n4 : (s ++ objsOf A ++ objsOf B ++ objsOf C).length = s.length + 66 := by rw [List.length_append, n3, objsOf_length, lc]
  have n5 : (s ++ objsOf A ++ objsOf B ++ objsOf C ++ objsOf E).length = s.length + 88 := by rw [List.length_append, n4, objsOf_length, ld]
  rw [n2] at k2
  rw [n3] at k3
  rw [n4] at k4
  rw [n5] at k5
  have hs : s ++ objsOf (SPall a b c x y z) = s ++ objsOf A ++ objsOf B ++ objsOf C ++ objsOf E ++ objsOf F := by
    show s ++ objsOf (A ++ (B ++ (C ++ (E ++ F)))) = _
    rw [objsOf_append, objsOf_append, objsOf_append, objsOf_append]
    simp only [List.append_assoc]
  have hr : rowsOf s.length (SPall a b c x y z) = [] ++ [rowsOf s.length A, rowsOf (s.length + 22) B, rowsOf (s.length + 44) C, rowsOf (s.length + 66) E, rowsOf (s.length + 88) F].flatten := by
    show rowsOf s.length (A ++ (B ++ (C ++ (E ++ F)))) = _
    rw [rowsOf_append, rowsOf_append, rowsOf_append, rowsOf_append, la, lb, lc, ld]
    simp only [List.flatten_cons, List.flatten_nil, List.append_nil, List.nil_append, List.append_assoc, Nat.add_assoc, Nat.reduceAdd, Nat.reduceMul]
  obtain ⟨d7, h5⟩ := loop5 (s ++ objsOf (SPall a b c x y z)) e0 e1 e2 (some a) (some b) (some c) none none none none none none none none none none none none [rowsOf s.length A, rowsOf (s.length + 22) B, rowsOf (s.length + 44) C, rowsOf (s.length + 66) E, rowsOf (s.length + 88) F] [] none (by
    simp only [List.map_cons, List.map_nil, List.sum_cons, List.sum_nil, rowsOf_length, la, lb, lc, ld, le, List.length_nil]
    omega)
  refine ⟨d7, ?_⟩
  rw [law5_eq, forS_app, thenS_app]
  have hfi : fi5 [e0, e1, e2, some a, some b, some c, some (.lst []), none, none, none, none, none, none, none, none, none, none, none, none, none] s = .ok ([rowsOf s.length A, rowsOf (s.length + 22) B, rowsOf (s.length + 44) C, rowsOf (s.length + 66) E, rowsOf (s.length + 88) F].map .lst) (s ++ objsOf (SPall a b c x y z)) := by
    have sq : ∀ (ds : List D) s, seqI (.lst ds) s = .ok ds s := fun _ _ => rfl
    unfold fi5
    simp only [bind_app, getV0, getVs, pure_app, List.append_nil]
    rw [k1]
    dsimp only
    rw [k2]
    dsimp only
    rw [k3]
    dsimp only
    rw [k4]
    dsimp only
    rw [k5]
    dsimp only
    rw [sq, hs]
    rfl
  rw [hfi]
  dsimp only
  rw [h5, hr]
end K83

namespace K83
open PySem PySem.Spec PyProof.Rows L2 DL
theorem rows_good {s : Sto} {a b c x y z : D} (ha : CP a x) (hb : CP b y) (hc : CP c z) (gx : Good x) (gy : Good y) (gz : Good z) : (∀ r ∈ rowsOf s.length (SPall a b c x y z), RowGood (s ++ objsOf (SPall a b c x y z)) r) ∧
    ∀ p, p < s.length → RowsAt p s.length (rowsOf s.length (SPall a b c x y z)) (s ++ objsOf (SPall a b c x y z)) := by
  have get : ∀ j, j < 54 → ∃ q, (SPall a b c x y z)[j]? = some q ∧ q ∈ SPall a b c x y z := fun j hj => by
    have hl : j < (SPall a b c x y z).length := by rw [SPall_len]; exact hj
    exact ⟨_, List.getElem?_eq_getElem hl, List.getElem_mem hl⟩
  have obj : ∀ j, ∀ q, (SPall a b c x y z)[j]? = some q → (s ++ objsOf (SPall a b c x y z))[s.length + 2 * j]? = some (.ins q.C (q.fs.zip q.xs)) ∧ (s ++ objsOf (SPall a b c x y z))[s.length + 2 * j + 1]? = some (.ins q.C (q.fs.zip q.xs)) := fun j q h => by
    obtain ⟨h1, h2⟩ := objs_get j _ q h
    refine ⟨by rw [List.getElem?_append_right (by omega), Nat.add_sub_cancel_left]; exact h1, ?_⟩
    rw [List.getElem?_append_right (by omega), show s.length + 2 * j + 1 - s.length = 2 * j + 1 by omega]
    exact h2
  refine ⟨fun r hr => ?_, fun p hp => ⟨by rw [rowsOf_length, SPall_len], hp, fun j hj => ?_⟩⟩
  · obtain ⟨j, hj⟩ := List.mem_iff_getElem?.mp hr
    have hl : j < 54 := by
      have := (List.getElem?_eq_some_iff.mp hj).1
      rwa [rowsOf_length, SPall_len] at this
    obtain ⟨q, hq, hm⟩ := get j hl
    rw [rows_get _ j _ q hq] at hj
    obtain ⟨o1, o2⟩ := obj j q hq
    have hC := SPall_C a b c x y z q hm
    have er : r = rowOf (s.length + 2 * j) q.hs q.xs := (Option.some.inj hj).symm
    rcases SPall_hx a b c x y z q hm with ⟨e1, e2⟩ | ⟨e1, e2⟩ | ⟨e1, e2⟩
    · obtain ⟨t, ht⟩ := repr1 gx
      exact ⟨⟨_, q.hs, q.xs, _, _, _, _, t, er, by rw [e1, e2]; exact .cons ha .nil, o1, o2, hC, hC, by rw [e2]; exact ht⟩⟩
    · obtain ⟨t, ht⟩ := repr2 gx gy
      exact ⟨⟨_, q.hs, q.xs, _, _, _, _, t, er, by rw [e1, e2]; exact .cons ha (.cons hb .nil), o1, o2, hC, hC, by rw [e2]; exact ht⟩⟩
    · obtain ⟨t, ht⟩ := repr3 gx gy gz
      exact ⟨⟨_, q.hs, q.xs, _, _, _, _, t, er, by rw [e1, e2]; exact .cons ha (.cons hb (.cons hc .nil)), o1, o2, hC, hC, by rw [e2]; exact ht⟩⟩
  · obtain ⟨q, hq, hm⟩ := get j hj
    exact ⟨q.hs, q.xs, q.C, _, rows_get _ j _ q hq, (obj j q hq).1, SPall_C a b c x y z q hm⟩
theorem found_ok {v x : D} {s : Sto} (h : m_copied [v] s = .ok x s) : i_Found [v] s = .ok [("row", x)] s := by
  show initR 2 (iSelf "row" (fun ρ => (((getV ρ 1) >>= fun d => (pure []) >>= fun ds => pure (d :: ds)) >>= fun ds => m_copied (ds ++ []))) iNil) [v] s = _
  have e : startI 2 [v] = [none, some v] := rfl
  unfold initR
  rw [e]
  simp only [iSelf, iNil, bind_app, getV0, getVs, pure_app, List.append_nil, h, putFD, List.length_nil, ite_app]
  simp
/-- the law's end: a thing made, the list behind it changed -/
theorem end_ok {p : Nat} {s0 s : Sto} {v1 v2 v3 x : D} (k : Keep p s0 s) (hv : ValOk p s0 v1) (hx : Good x) (hcp : ∀ s', Keep p s0 s' → m_copied [v1] s' = .ok x s') {R : List D} (hR : R.length = 54) (e0 e1 e3 e4 e5 e7 e8 e9 e10 e11 e12 e13 e14 e15 e16 e17 e18 e19 : Option D) :
    ∃ s', endS ((seqS law8 (seqS law9 (seqS law10 law11))) [e0, e1, some (.lst [v1, v2, v3]), e3, e4, e5, some (.lst R), e7, e8, e9, e10, e11, e12, e13, e14, e15, e16, e17, e18, e19] s) = .ok (.bl true) s' := by
  have hf := found_ok (hcp s k)
  obtain ⟨t, ht⟩ := reprX hx
  let s1 : Sto := s ++ [.ins "Found" [("row", x)]]
  have g1 : s1[s.length]? = some (.ins "Found" [("row", x)]) := by simp [s1]
  have fld : ∀ s2 : Sto, s2[s.length]? = some (.ins "Found" [("row", x)]) → fldD "row" (.obj s.length) s2 = .ok x s2 := fun s2 h => by
    rw [fld_obj, h]
    dsimp only
    rw [fld_ins]
    rfl
  have i0 : ∀ s, idxD (.lst [v1, v2, v3]) (.int 0) s = .ok v1 s := fun _ => rfl
  have l8 : law8 [e0, e1, some (.lst [v1, v2, v3]), e3, e4, e5, some (.lst R), e7, e8, e9, e10, e11, e12, e13, e14, e15, e16, e17, e18, e19] s = .nx [e0, e1, some (.lst [v1, v2, v3]), e3, e4, e5, some (.lst R), e7, e8, e9, e10, e11, e12, e13, e14, e15, e16, some (.obj s.length), e18, e19] s1 := by
    unfold law8
    simp only [setS_app, thenS_app, bind_app, getV0, getVs, pure_app, i0, mkS, hf, newO_app, List.set_cons_succ, List.set_cons_zero, s1]
  have l9 : law9 [e0, e1, some (.lst [v1, v2, v3]), e3, e4, e5, some (.lst R), e7, e8, e9, e10, e11, e12, e13, e14, e15, e16, some (.obj s.length), e18, e19] s1 = .nx [e0, e1, some (.lst [v1, v2, v3]), e3, e4, e5, some (.lst R), e7, e8, e9, e10, e11, e12, e13, e14, e15, e16, some (.obj s.length), some (.str t), e19] s1 := by
    unfold law9
    simp only [setS_app, thenS_app, bind_app, getV0, getVs, pure_app, fld s1 g1, ht, List.set_cons_succ, List.set_cons_zero]
  have l10 : ∃ s2 : Sto, s2[s.length]? = some (.ins "Found" [("row", x)]) ∧ law10 [e0, e1, some (.lst [v1, v2, v3]), e3, e4, e5, some (.lst R), e7, e8, e9, e10, e11, e12, e13, e14, e15, e16, some (.obj s.length), some (.str t), e19] s1 = .nx [e0, e1, some (.lst [v1, v2, v3]), e3, e4, e5, some (.lst R), e7, e8, e9, e10, e11, e12, e13, e14, e15, e16, some (.obj s.length), some (.str t), e19] s2 := by
    have cb : ∀ (b : Bool) s, con (.bl b) s = .ok (.bl b) s := fun _ _ => rfl
    have tt : ∀ s, truC (.bl true) s = .ok true s := fun _ => rfl
    have tf : ∀ s, truC (.bl false) s = .ok false s := fun _ => rfl
    have kk : Keep p s0 s1 := k.trans (Keep.app p s _)
    cases hv with
    | plain hc hl hg =>
      refine ⟨s1, g1, ?_⟩
      unfold law10
      simp only [ifS_app, thenS_app, bind_app, getV0, getVs, pure_app, i0, hc, hl, cb, tf, Bool.false_eq_true, if_false]
    | @list j ds hj hs hg hn =>
      have hjs := k.at_ _ _ hj hs
      have hjl : j < s.length := (List.getElem?_eq_some_iff.mp hjs).1
      have h1 : s1[j]? = some (.lst ds) := kk.at_ _ _ hj hs
      have il : ∀ s, isiC "list" (.lst ds) s = .ok (.bl true) s := fun _ => rfl
      refine ⟨s1.set j (.lst (ds ++ [.int 7])), by rw [List.getElem?_set_ne (by omega)]; exact g1, ?_⟩
      have ap : ∀ (ρ : DL.Env), getV ρ 2 = pure (.lst [.obj j, v2, v3]) → appO (fun ρ => ((getV ρ 2) >>= fun d => (pure (.int 0)) >>= fun e => idxD d e)) (fun ρ => (pure (.int 7))) ρ s1 = .nx ρ (s1.set j (.lst (ds ++ [.int 7]))) := fun ρ hρ => by
        have i0' : idxD (.lst [.obj j, v2, v3]) (.int 0) s1 = .ok (.obj j) s1 := rfl
        have hz : ds.length < szMax := by rw [szMaxV]; omega
        unfold appO
        simp only [thenS_app, bind_app, hρ, pure_app, i0', ofObj_app, withS_app, h1, ofLst_app, hz, if_true]
      unfold law10
      simp only [ifS_app, thenS_app, bind_app, getV0, getVs, pure_app, i0, con_obj, h1, il, cb, tt, if_true, seqS_app]
      rw [ap _ rfl]
  obtain ⟨s2, g2, l10⟩ := l10
  refine ⟨s2, ?_⟩
  rw [seqS_nx _ _ _ _ l8, seqS_nx _ _ _ _ l9, seqS_nx _ _ _ _ l10]
  unfold law11
  have hl : lenK [.lst R] s2 = .ok (.int 54) s2 := by rw [len_lst, hR]; rfl
  simp only [retS_app, thenS_app, bind_app, getV0, getVs, pure_app, fld s2 g2, ht, cmpV_app, eqS, decide_true, asBl_bl, if_true, hl, eqI, endS]
theorem told (ns : List Int) : ∃ s', m_law [scr ns] [] = .ok (.bl true) s' := by
  obtain ⟨fo, f1, f2, hpen⟩ := pen_ok ns []
  let s1 : Sto := [.dct (penE (ns.map .int) 0 0 0 fo)]
  have hp1 : PenAt s1 0 0 := ⟨⟨ns, 0, 0, 0, fo, rfl, by omega, by omega, by omega, f1, by omega⟩⟩
  have l1 : law1 [some (scr ns), none, none, none, none, none, none, none, none, none, none, none, none, none, none, none, none, none, none, none] [] = .nx [some (scr ns), some (.obj 0), none, none, none, none, none, none, none, none, none, none, none, none, none, none, none, none, none, none] s1 := by
    unfold law1
    simp only [setS_app, thenS_app, bind_app, getV0, pure_app, List.append_nil, hpen, List.set_cons_succ, List.set_cons_zero]
    rfl
  obtain ⟨v1, v2, v3, s2, l2, hp2, k2, w1, w2, w3⟩ := law2_ok hp1 (by omega) (some (scr ns))
  obtain ⟨a, x, ha, gx, cx, ea⟩ := kept_of w1
  obtain ⟨b, y, hb, gy, _, eb⟩ := kept_of w2
  obtain ⟨c, z, hc, gz, _, ec⟩ := kept_of w3
  have l3 := law3_ok (s := s2) (v1 := v1) (v2 := v2) (v3 := v3) (some (scr ns)) (some (.obj 0)) (fun ρ h => ea s2 ρ (.refl 0 s2) h) (fun ρ h => eb s2 ρ (.refl 0 s2) h) (fun ρ h => ec s2 ρ (.refl 0 s2) h)
  have l4 : law4 [some (scr ns), some (.obj 0), some (.lst [v1, v2, v3]), some a, some b, some c, none, none, none, none, none, none, none, none, none, none, none, none, none, none] s2 = .nx [some (scr ns), some (.obj 0), some (.lst [v1, v2, v3]), some a, some b, some c, some (.lst []), none, none, none, none, none, none, none, none, none, none, none, none, none] s2 := rfl
  obtain ⟨d7, l5⟩ := law5_ok (s := s2) ha hb hc (some (scr ns)) (some (.obj 0)) (some (.lst [v1, v2, v3]))
  obtain ⟨good, rat⟩ := rows_good (s := s2) ha hb hc gx gy gz
  have hlen2 : 0 < s2.length := Nat.lt_of_lt_of_le (by simp [s1] : 0 < s1.length) k2.len
  have rat0 := rat 0 hlen2
  let s3 : Sto := s2 ++ objsOf (SPall a b c x y z)
  have hp3 : PenAt s3 0 12 := hp2.app
  obtain ⟨d8, d9, d10, d11, d12, d13, d14, l6⟩ := loop6 (rowsOf s2.length (SPall a b c x y z)) good (some (scr ns)) (some (.obj 0)) (some (.lst [v1, v2, v3])) (some a) (some b) (some c) (some (.lst (rowsOf s2.length (SPall a b c x y z)))) d7 none none none none none none none none none none none none
  obtain ⟨d15, d16, s4, l7, k4⟩ := loop7 (List.range 54) 12 s3 (fun k hk => List.mem_range.mp hk) rat0 hp3 (by simp) (some (scr ns)) (some (.lst [v1, v2, v3])) (some a) (some b) (some c) d7 d8 d9 d10 d11 d12 d13 d14 none none none none none
  have l6' : law6 [some (scr ns), some (.obj 0), some (.lst [v1, v2, v3]), some a, some b, some c, some (.lst (rowsOf s2.length (SPall a b c x y z))), d7, none, none, none, none, none, none, none, none, none, none, none, none] s3 = .nx [some (scr ns), some (.obj 0), some (.lst [v1, v2, v3]), some a, some b, some c, some (.lst (rowsOf s2.length (SPall a b c x y z))), d7, d8, d9, d10, d11, d12, d13, d14, none, none, none, none, none] s3 := by
    rw [law6_eq, forS_app, thenS_app]
    exact l6
  have l7' : law7 [some (scr ns), some (.obj 0), some (.lst [v1, v2, v3]), some a, some b, some c, some (.lst (rowsOf s2.length (SPall a b c x y z))), d7, d8, d9, d10, d11, d12, d13, d14, none, none, none, none, none] s3 = .nx [some (scr ns), some (.obj 0), some (.lst [v1, v2, v3]), some a, some b, some c, some (.lst (rowsOf s2.length (SPall a b c x y z))), d7, d8, d9, d10, d11, d12, d13, d14, d15, d16, none, none, none] s4 := by
    rw [law7_eq, forS_app, thenS_app]
    have hfi : fi7 [some (scr ns), some (.obj 0), some (.lst [v1, v2, v3]), some a, some b, some c, some (.lst (rowsOf s2.length (SPall a b c x y z))), d7, d8, d9, d10, d11, d12, d13, d14, none, none, none, none, none] s3 = .ok ((List.range 54).map fun i => .int (i : Nat)) s3 := by
      unfold fi7
      simp only [bind_app, getV0, getVs, pure_app, len_lst, rowsOf_length, SPall_len]
      exact rng1_app 54 (by decide) s3
    rw [hfi]
    exact l7
  obtain ⟨s5, hend⟩ := end_ok (p := 0) (s0 := s2) (s := s4) (v1 := v1) (v2 := v2) (v3 := v3) ((Keep.app 0 s2 _).trans k4) w1 gx cx rat0.len (some (scr ns)) (some (.obj 0)) (some a) (some b) (some c) d7 d8 d9 d10 d11 d12 d13 d14 d15 d16 none none none
  refine ⟨s5, ?_⟩
  show endS (b_law [some (scr ns), none, none, none, none, none, none, none, none, none, none, none, none, none, none, none, none, none, none, none] []) = _
  rw [law_eq, seqS_nx _ _ _ _ l1, seqS_nx _ _ _ _ l2, seqS_nx _ _ _ _ l3, seqS_nx _ _ _ _ l4, seqS_nx _ _ _ _ l5, seqS_nx _ _ _ _ l6', seqS_nx _ _ _ _ l7']
  exact hend
end K83

namespace K83
open PySem PySem.Spec PyProof.Rows L2 DL
structure Facts (K : PySem.W.Frag) (mg : Str → Option Value) : Prop where
  sys : ∃ o, K.lookup sysModules = some o ∧ o.cls ≠ .type "list"
  fr : ∀ (i : Nat) (x : Str), FRs[i]? = some x → mg x = none
  g : ∀ (i : Nat) (x : Str), CLs[i]? = some x → mg x = some (.ref (He.ga K x))
  cf : ∀ (i : Nat) (x : Str), CLs[i]? = some x → ClsF K (He.ga K x)
  mkr : ∀ (i : Nat) (x : Str), CLs[i]? = some x → Mk K (He.ga K x) (He.ma K (He.ga K x) "__init__")
  s : ∀ (i : Nat) (x : Str), CLs[i]? = some x → ∀ t ∈ (["NoneType", "bool", "int", "str", "tuple", "list", "dict"] : List String), PySem.W.kitOne K (.type t) (.ref (He.ga K x)) = some false
  na : ∀ (i : Nat) (x f : Str), NAs[i]? = some (x, f) → ∀ A, mg x = some (.ref A) → NoAttr K A f
  neq : ∀ x ∈ eqL, ∀ A, mg x = some (.ref A) → NoEq K A
  gl : ∀ (i : Nat) (x : Str), GLs[i]? = some x → mg x = some (.ref (He.ga K x))
theorem Facts.len {K : PySem.W.Frag} {mg : Str → Option Value} (G : Facts K mg) : mg "len" = none := G.fr 0 "len" rfl
theorem Facts.tuple {K : PySem.W.Frag} {mg : Str → Option Value} (G : Facts K mg) : mg "tuple" = none := G.fr 1 "tuple" rfl
theorem Facts.list {K : PySem.W.Frag} {mg : Str → Option Value} (G : Facts K mg) : mg "list" = none := G.fr 2 "list" rfl
theorem Facts.int {K : PySem.W.Frag} {mg : Str → Option Value} (G : Facts K mg) : mg "int" = none := G.fr 3 "int" rfl
theorem Facts.abs {K : PySem.W.Frag} {mg : Str → Option Value} (G : Facts K mg) : mg "abs" = none := G.fr 4 "abs" rfl
theorem Facts.repr {K : PySem.W.Frag} {mg : Str → Option Value} (G : Facts K mg) : mg "repr" = none := G.fr 5 "repr" rfl
theorem Facts.isinstance {K : PySem.W.Frag} {mg : Str → Option Value} (G : Facts K mg) : mg "isinstance" = none := G.fr 6 "isinstance" rfl
theorem Facts.range {K : PySem.W.Frag} {mg : Str → Option Value} (G : Facts K mg) : mg "range" = none := G.fr 7 "range" rfl
theorem Facts.bool {K : PySem.W.Frag} {mg : Str → Option Value} (G : Facts K mg) : mg "bool" = none := G.fr 8 "bool" rfl
theorem Facts.str {K : PySem.W.Frag} {mg : Str → Option Value} (G : Facts K mg) : mg "str" = none := G.fr 9 "str" rfl
theorem Facts.dict {K : PySem.W.Frag} {mg : Str → Option Value} (G : Facts K mg) : mg "dict" = none := G.fr 10 "dict" rfl
theorem Facts.g_Adrift {K : PySem.W.Frag} {mg : Str → Option Value} (G : Facts K mg) : mg "Adrift" = some (.ref (He.ga K "Adrift")) := G.g 28 "Adrift" rfl
theorem Facts.s_Adrift {K : PySem.W.Frag} {mg : Str → Option Value} (G : Facts K mg) : ∀ t ∈ (["NoneType", "bool", "int", "str", "tuple", "list", "dict"] : List String), PySem.W.kitOne K (.type t) (.ref (He.ga K "Adrift")) = some false := G.s 28 "Adrift" rfl
theorem Facts.g_Against {K : PySem.W.Frag} {mg : Str → Option Value} (G : Facts K mg) : mg "Against" = some (.ref (He.ga K "Against")) := G.g 6 "Against" rfl
theorem Facts.s_Against {K : PySem.W.Frag} {mg : Str → Option Value} (G : Facts K mg) : ∀ t ∈ (["NoneType", "bool", "int", "str", "tuple", "list", "dict"] : List String), PySem.W.kitOne K (.type t) (.ref (He.ga K "Against")) = some false := G.s 6 "Against" rfl
theorem Facts.g_Answer {K : PySem.W.Frag} {mg : Str → Option Value} (G : Facts K mg) : mg "Answer" = some (.ref (He.ga K "Answer")) := G.g 5 "Answer" rfl
theorem Facts.s_Answer {K : PySem.W.Frag} {mg : Str → Option Value} (G : Facts K mg) : ∀ t ∈ (["NoneType", "bool", "int", "str", "tuple", "list", "dict"] : List String), PySem.W.kitOne K (.type t) (.ref (He.ga K "Answer")) = some false := G.s 5 "Answer" rfl
theorem Facts.g_Barred {K : PySem.W.Frag} {mg : Str → Option Value} (G : Facts K mg) : mg "Barred" = some (.ref (He.ga K "Barred")) := G.g 1 "Barred" rfl
theorem Facts.s_Barred {K : PySem.W.Frag} {mg : Str → Option Value} (G : Facts K mg) : ∀ t ∈ (["NoneType", "bool", "int", "str", "tuple", "list", "dict"] : List String), PySem.W.kitOne K (.type t) (.ref (He.ga K "Barred")) = some false := G.s 1 "Barred" rfl
theorem Facts.g_Bent {K : PySem.W.Frag} {mg : Str → Option Value} (G : Facts K mg) : mg "Bent" = some (.ref (He.ga K "Bent")) := G.g 31 "Bent" rfl
theorem Facts.s_Bent {K : PySem.W.Frag} {mg : Str → Option Value} (G : Facts K mg) : ∀ t ∈ (["NoneType", "bool", "int", "str", "tuple", "list", "dict"] : List String), PySem.W.kitOne K (.type t) (.ref (He.ga K "Bent")) = some false := G.s 31 "Bent" rfl
theorem Facts.g_Best {K : PySem.W.Frag} {mg : Str → Option Value} (G : Facts K mg) : mg "Best" = some (.ref (He.ga K "Best")) := G.g 2 "Best" rfl
theorem Facts.s_Best {K : PySem.W.Frag} {mg : Str → Option Value} (G : Facts K mg) : ∀ t ∈ (["NoneType", "bool", "int", "str", "tuple", "list", "dict"] : List String), PySem.W.kitOne K (.type t) (.ref (He.ga K "Best")) = some false := G.s 2 "Best" rfl
theorem Facts.g_Braced {K : PySem.W.Frag} {mg : Str → Option Value} (G : Facts K mg) : mg "Braced" = some (.ref (He.ga K "Braced")) := G.g 23 "Braced" rfl
theorem Facts.s_Braced {K : PySem.W.Frag} {mg : Str → Option Value} (G : Facts K mg) : ∀ t ∈ (["NoneType", "bool", "int", "str", "tuple", "list", "dict"] : List String), PySem.W.kitOne K (.type t) (.ref (He.ga K "Braced")) = some false := G.s 23 "Braced" rfl
theorem Facts.g_Carries {K : PySem.W.Frag} {mg : Str → Option Value} (G : Facts K mg) : mg "Carries" = some (.ref (He.ga K "Carries")) := G.g 38 "Carries" rfl
theorem Facts.s_Carries {K : PySem.W.Frag} {mg : Str → Option Value} (G : Facts K mg) : ∀ t ∈ (["NoneType", "bool", "int", "str", "tuple", "list", "dict"] : List String), PySem.W.kitOne K (.type t) (.ref (He.ga K "Carries")) = some false := G.s 38 "Carries" rfl
theorem Facts.g_Cheapest {K : PySem.W.Frag} {mg : Str → Option Value} (G : Facts K mg) : mg "Cheapest" = some (.ref (He.ga K "Cheapest")) := G.g 46 "Cheapest" rfl
theorem Facts.s_Cheapest {K : PySem.W.Frag} {mg : Str → Option Value} (G : Facts K mg) : ∀ t ∈ (["NoneType", "bool", "int", "str", "tuple", "list", "dict"] : List String), PySem.W.kitOne K (.type t) (.ref (He.ga K "Cheapest")) = some false := G.s 46 "Cheapest" rfl
theorem Facts.g_Covered {K : PySem.W.Frag} {mg : Str → Option Value} (G : Facts K mg) : mg "Covered" = some (.ref (He.ga K "Covered")) := G.g 12 "Covered" rfl
theorem Facts.s_Covered {K : PySem.W.Frag} {mg : Str → Option Value} (G : Facts K mg) : ∀ t ∈ (["NoneType", "bool", "int", "str", "tuple", "list", "dict"] : List String), PySem.W.kitOne K (.type t) (.ref (He.ga K "Covered")) = some false := G.s 12 "Covered" rfl
theorem Facts.g_Crowded {K : PySem.W.Frag} {mg : Str → Option Value} (G : Facts K mg) : mg "Crowded" = some (.ref (He.ga K "Crowded")) := G.g 10 "Crowded" rfl
theorem Facts.s_Crowded {K : PySem.W.Frag} {mg : Str → Option Value} (G : Facts K mg) : ∀ t ∈ (["NoneType", "bool", "int", "str", "tuple", "list", "dict"] : List String), PySem.W.kitOne K (.type t) (.ref (He.ga K "Crowded")) = some false := G.s 10 "Crowded" rfl
theorem Facts.g_Drops {K : PySem.W.Frag} {mg : Str → Option Value} (G : Facts K mg) : mg "Drops" = some (.ref (He.ga K "Drops")) := G.g 39 "Drops" rfl
theorem Facts.s_Drops {K : PySem.W.Frag} {mg : Str → Option Value} (G : Facts K mg) : ∀ t ∈ (["NoneType", "bool", "int", "str", "tuple", "list", "dict"] : List String), PySem.W.kitOne K (.type t) (.ref (He.ga K "Drops")) = some false := G.s 39 "Drops" rfl
theorem Facts.g_Ears {K : PySem.W.Frag} {mg : Str → Option Value} (G : Facts K mg) : mg "Ears" = some (.ref (He.ga K "Ears")) := G.g 44 "Ears" rfl
theorem Facts.s_Ears {K : PySem.W.Frag} {mg : Str → Option Value} (G : Facts K mg) : ∀ t ∈ (["NoneType", "bool", "int", "str", "tuple", "list", "dict"] : List String), PySem.W.kitOne K (.type t) (.ref (He.ga K "Ears")) = some false := G.s 44 "Ears" rfl
theorem Facts.g_Fails {K : PySem.W.Frag} {mg : Str → Option Value} (G : Facts K mg) : mg "Fails" = some (.ref (He.ga K "Fails")) := G.g 53 "Fails" rfl
theorem Facts.s_Fails {K : PySem.W.Frag} {mg : Str → Option Value} (G : Facts K mg) : ∀ t ∈ (["NoneType", "bool", "int", "str", "tuple", "list", "dict"] : List String), PySem.W.kitOne K (.type t) (.ref (He.ga K "Fails")) = some false := G.s 53 "Fails" rfl
theorem Facts.g_Falls {K : PySem.W.Frag} {mg : Str → Option Value} (G : Facts K mg) : mg "Falls" = some (.ref (He.ga K "Falls")) := G.g 3 "Falls" rfl
theorem Facts.s_Falls {K : PySem.W.Frag} {mg : Str → Option Value} (G : Facts K mg) : ∀ t ∈ (["NoneType", "bool", "int", "str", "tuple", "list", "dict"] : List String), PySem.W.kitOne K (.type t) (.ref (He.ga K "Falls")) = some false := G.s 3 "Falls" rfl
theorem Facts.g_Firm {K : PySem.W.Frag} {mg : Str → Option Value} (G : Facts K mg) : mg "Firm" = some (.ref (He.ga K "Firm")) := G.g 35 "Firm" rfl
theorem Facts.s_Firm {K : PySem.W.Frag} {mg : Str → Option Value} (G : Facts K mg) : ∀ t ∈ (["NoneType", "bool", "int", "str", "tuple", "list", "dict"] : List String), PySem.W.kitOne K (.type t) (.ref (He.ga K "Firm")) = some false := G.s 35 "Firm" rfl
theorem Facts.g_Fit {K : PySem.W.Frag} {mg : Str → Option Value} (G : Facts K mg) : mg "Fit" = some (.ref (He.ga K "Fit")) := G.g 19 "Fit" rfl
theorem Facts.s_Fit {K : PySem.W.Frag} {mg : Str → Option Value} (G : Facts K mg) : ∀ t ∈ (["NoneType", "bool", "int", "str", "tuple", "list", "dict"] : List String), PySem.W.kitOne K (.type t) (.ref (He.ga K "Fit")) = some false := G.s 19 "Fit" rfl
theorem Facts.g_Forests {K : PySem.W.Frag} {mg : Str → Option Value} (G : Facts K mg) : mg "Forests" = some (.ref (He.ga K "Forests")) := G.g 15 "Forests" rfl
theorem Facts.s_Forests {K : PySem.W.Frag} {mg : Str → Option Value} (G : Facts K mg) : ∀ t ∈ (["NoneType", "bool", "int", "str", "tuple", "list", "dict"] : List String), PySem.W.kitOne K (.type t) (.ref (He.ga K "Forests")) = some false := G.s 15 "Forests" rfl
theorem Facts.g_Found {K : PySem.W.Frag} {mg : Str → Option Value} (G : Facts K mg) : mg "Found" = some (.ref (He.ga K "Found")) := G.g 0 "Found" rfl
theorem Facts.s_Found {K : PySem.W.Frag} {mg : Str → Option Value} (G : Facts K mg) : ∀ t ∈ (["NoneType", "bool", "int", "str", "tuple", "list", "dict"] : List String), PySem.W.kitOne K (.type t) (.ref (He.ga K "Found")) = some false := G.s 0 "Found" rfl
theorem Facts.g_Free {K : PySem.W.Frag} {mg : Str → Option Value} (G : Facts K mg) : mg "Free" = some (.ref (He.ga K "Free")) := G.g 9 "Free" rfl
theorem Facts.s_Free {K : PySem.W.Frag} {mg : Str → Option Value} (G : Facts K mg) : ∀ t ∈ (["NoneType", "bool", "int", "str", "tuple", "list", "dict"] : List String), PySem.W.kitOne K (.type t) (.ref (He.ga K "Free")) = some false := G.s 9 "Free" rfl
theorem Facts.g_Gives {K : PySem.W.Frag} {mg : Str → Option Value} (G : Facts K mg) : mg "Gives" = some (.ref (He.ga K "Gives")) := G.g 36 "Gives" rfl
theorem Facts.s_Gives {K : PySem.W.Frag} {mg : Str → Option Value} (G : Facts K mg) : ∀ t ∈ (["NoneType", "bool", "int", "str", "tuple", "list", "dict"] : List String), PySem.W.kitOne K (.type t) (.ref (He.ga K "Gives")) = some false := G.s 36 "Gives" rfl
theorem Facts.g_Grown {K : PySem.W.Frag} {mg : Str → Option Value} (G : Facts K mg) : mg "Grown" = some (.ref (He.ga K "Grown")) := G.g 11 "Grown" rfl
theorem Facts.s_Grown {K : PySem.W.Frag} {mg : Str → Option Value} (G : Facts K mg) : ∀ t ∈ (["NoneType", "bool", "int", "str", "tuple", "list", "dict"] : List String), PySem.W.kitOne K (.type t) (.ref (He.ga K "Grown")) = some false := G.s 11 "Grown" rfl
theorem Facts.g_HeldPlaces {K : PySem.W.Frag} {mg : Str → Option Value} (G : Facts K mg) : mg "HeldPlaces" = some (.ref (He.ga K "HeldPlaces")) := G.g 45 "HeldPlaces" rfl
theorem Facts.s_HeldPlaces {K : PySem.W.Frag} {mg : Str → Option Value} (G : Facts K mg) : ∀ t ∈ (["NoneType", "bool", "int", "str", "tuple", "list", "dict"] : List String), PySem.W.kitOne K (.type t) (.ref (He.ga K "HeldPlaces")) = some false := G.s 45 "HeldPlaces" rfl
theorem Facts.g_Hung {K : PySem.W.Frag} {mg : Str → Option Value} (G : Facts K mg) : mg "Hung" = some (.ref (He.ga K "Hung")) := G.g 27 "Hung" rfl
theorem Facts.s_Hung {K : PySem.W.Frag} {mg : Str → Option Value} (G : Facts K mg) : ∀ t ∈ (["NoneType", "bool", "int", "str", "tuple", "list", "dict"] : List String), PySem.W.kitOne K (.type t) (.ref (He.ga K "Hung")) = some false := G.s 27 "Hung" rfl
theorem Facts.g_Lacking {K : PySem.W.Frag} {mg : Str → Option Value} (G : Facts K mg) : mg "Lacking" = some (.ref (He.ga K "Lacking")) := G.g 41 "Lacking" rfl
theorem Facts.s_Lacking {K : PySem.W.Frag} {mg : Str → Option Value} (G : Facts K mg) : ∀ t ∈ (["NoneType", "bool", "int", "str", "tuple", "list", "dict"] : List String), PySem.W.kitOne K (.type t) (.ref (He.ga K "Lacking")) = some false := G.s 41 "Lacking" rfl
theorem Facts.g_LetsGo {K : PySem.W.Frag} {mg : Str → Option Value} (G : Facts K mg) : mg "LetsGo" = some (.ref (He.ga K "LetsGo")) := G.g 43 "LetsGo" rfl
theorem Facts.s_LetsGo {K : PySem.W.Frag} {mg : Str → Option Value} (G : Facts K mg) : ∀ t ∈ (["NoneType", "bool", "int", "str", "tuple", "list", "dict"] : List String), PySem.W.kitOne K (.type t) (.ref (He.ga K "LetsGo")) = some false := G.s 43 "LetsGo" rfl
theorem Facts.g_Level {K : PySem.W.Frag} {mg : Str → Option Value} (G : Facts K mg) : mg "Level" = some (.ref (He.ga K "Level")) := G.g 32 "Level" rfl
theorem Facts.s_Level {K : PySem.W.Frag} {mg : Str → Option Value} (G : Facts K mg) : ∀ t ∈ (["NoneType", "bool", "int", "str", "tuple", "list", "dict"] : List String), PySem.W.kitOne K (.type t) (.ref (He.ga K "Level")) = some false := G.s 32 "Level" rfl
theorem Facts.g_Lift {K : PySem.W.Frag} {mg : Str → Option Value} (G : Facts K mg) : mg "Lift" = some (.ref (He.ga K "Lift")) := G.g 33 "Lift" rfl
theorem Facts.s_Lift {K : PySem.W.Frag} {mg : Str → Option Value} (G : Facts K mg) : ∀ t ∈ (["NoneType", "bool", "int", "str", "tuple", "list", "dict"] : List String), PySem.W.kitOne K (.type t) (.ref (He.ga K "Lift")) = some false := G.s 33 "Lift" rfl
theorem Facts.g_Light {K : PySem.W.Frag} {mg : Str → Option Value} (G : Facts K mg) : mg "Light" = some (.ref (He.ga K "Light")) := G.g 49 "Light" rfl
theorem Facts.s_Light {K : PySem.W.Frag} {mg : Str → Option Value} (G : Facts K mg) : ∀ t ∈ (["NoneType", "bool", "int", "str", "tuple", "list", "dict"] : List String), PySem.W.kitOne K (.type t) (.ref (He.ga K "Light")) = some false := G.s 49 "Light" rfl
theorem Facts.g_Loose {K : PySem.W.Frag} {mg : Str → Option Value} (G : Facts K mg) : mg "Loose" = some (.ref (He.ga K "Loose")) := G.g 8 "Loose" rfl
theorem Facts.s_Loose {K : PySem.W.Frag} {mg : Str → Option Value} (G : Facts K mg) : ∀ t ∈ (["NoneType", "bool", "int", "str", "tuple", "list", "dict"] : List String), PySem.W.kitOne K (.type t) (.ref (He.ga K "Loose")) = some false := G.s 8 "Loose" rfl
theorem Facts.g_Never {K : PySem.W.Frag} {mg : Str → Option Value} (G : Facts K mg) : mg "Never" = some (.ref (He.ga K "Never")) := G.g 4 "Never" rfl
theorem Facts.s_Never {K : PySem.W.Frag} {mg : Str → Option Value} (G : Facts K mg) : ∀ t ∈ (["NoneType", "bool", "int", "str", "tuple", "list", "dict"] : List String), PySem.W.kitOne K (.type t) (.ref (He.ga K "Never")) = some false := G.s 4 "Never" rfl
theorem Facts.g_OneShape {K : PySem.W.Frag} {mg : Str → Option Value} (G : Facts K mg) : mg "OneShape" = some (.ref (He.ga K "OneShape")) := G.g 40 "OneShape" rfl
theorem Facts.s_OneShape {K : PySem.W.Frag} {mg : Str → Option Value} (G : Facts K mg) : ∀ t ∈ (["NoneType", "bool", "int", "str", "tuple", "list", "dict"] : List String), PySem.W.kitOne K (.type t) (.ref (He.ga K "OneShape")) = some false := G.s 40 "OneShape" rfl
theorem Facts.g_Opens {K : PySem.W.Frag} {mg : Str → Option Value} (G : Facts K mg) : mg "Opens" = some (.ref (He.ga K "Opens")) := G.g 13 "Opens" rfl
theorem Facts.s_Opens {K : PySem.W.Frag} {mg : Str → Option Value} (G : Facts K mg) : ∀ t ∈ (["NoneType", "bool", "int", "str", "tuple", "list", "dict"] : List String), PySem.W.kitOne K (.type t) (.ref (He.ga K "Opens")) = some false := G.s 13 "Opens" rfl
theorem Facts.g_Parting {K : PySem.W.Frag} {mg : Str → Option Value} (G : Facts K mg) : mg "Parting" = some (.ref (He.ga K "Parting")) := G.g 42 "Parting" rfl
theorem Facts.s_Parting {K : PySem.W.Frag} {mg : Str → Option Value} (G : Facts K mg) : ∀ t ∈ (["NoneType", "bool", "int", "str", "tuple", "list", "dict"] : List String), PySem.W.kitOne K (.type t) (.ref (He.ga K "Parting")) = some false := G.s 42 "Parting" rfl
theorem Facts.g_Parts {K : PySem.W.Frag} {mg : Str → Option Value} (G : Facts K mg) : mg "Parts" = some (.ref (He.ga K "Parts")) := G.g 37 "Parts" rfl
theorem Facts.s_Parts {K : PySem.W.Frag} {mg : Str → Option Value} (G : Facts K mg) : ∀ t ∈ (["NoneType", "bool", "int", "str", "tuple", "list", "dict"] : List String), PySem.W.kitOne K (.type t) (.ref (He.ga K "Parts")) = some false := G.s 37 "Parts" rfl
theorem Facts.g_Placed {K : PySem.W.Frag} {mg : Str → Option Value} (G : Facts K mg) : mg "Placed" = some (.ref (He.ga K "Placed")) := G.g 22 "Placed" rfl
theorem Facts.s_Placed {K : PySem.W.Frag} {mg : Str → Option Value} (G : Facts K mg) : ∀ t ∈ (["NoneType", "bool", "int", "str", "tuple", "list", "dict"] : List String), PySem.W.kitOne K (.type t) (.ref (He.ga K "Placed")) = some false := G.s 22 "Placed" rfl
theorem Facts.g_Pulls {K : PySem.W.Frag} {mg : Str → Option Value} (G : Facts K mg) : mg "Pulls" = some (.ref (He.ga K "Pulls")) := G.g 25 "Pulls" rfl
theorem Facts.s_Pulls {K : PySem.W.Frag} {mg : Str → Option Value} (G : Facts K mg) : ∀ t ∈ (["NoneType", "bool", "int", "str", "tuple", "list", "dict"] : List String), PySem.W.kitOne K (.type t) (.ref (He.ga K "Pulls")) = some false := G.s 25 "Pulls" rfl
theorem Facts.g_Set {K : PySem.W.Frag} {mg : Str → Option Value} (G : Facts K mg) : mg "Set" = some (.ref (He.ga K "Set")) := G.g 20 "Set" rfl
theorem Facts.s_Set {K : PySem.W.Frag} {mg : Str → Option Value} (G : Facts K mg) : ∀ t ∈ (["NoneType", "bool", "int", "str", "tuple", "list", "dict"] : List String), PySem.W.kitOne K (.type t) (.ref (He.ga K "Set")) = some false := G.s 20 "Set" rfl
theorem Facts.g_Shears {K : PySem.W.Frag} {mg : Str → Option Value} (G : Facts K mg) : mg "Shears" = some (.ref (He.ga K "Shears")) := G.g 24 "Shears" rfl
theorem Facts.s_Shears {K : PySem.W.Frag} {mg : Str → Option Value} (G : Facts K mg) : ∀ t ∈ (["NoneType", "bool", "int", "str", "tuple", "list", "dict"] : List String), PySem.W.kitOne K (.type t) (.ref (He.ga K "Shears")) = some false := G.s 24 "Shears" rfl
theorem Facts.g_Shuts {K : PySem.W.Frag} {mg : Str → Option Value} (G : Facts K mg) : mg "Shuts" = some (.ref (He.ga K "Shuts")) := G.g 14 "Shuts" rfl
theorem Facts.s_Shuts {K : PySem.W.Frag} {mg : Str → Option Value} (G : Facts K mg) : ∀ t ∈ (["NoneType", "bool", "int", "str", "tuple", "list", "dict"] : List String), PySem.W.kitOne K (.type t) (.ref (He.ga K "Shuts")) = some false := G.s 14 "Shuts" rfl
theorem Facts.g_Sinks {K : PySem.W.Frag} {mg : Str → Option Value} (G : Facts K mg) : mg "Sinks" = some (.ref (He.ga K "Sinks")) := G.g 50 "Sinks" rfl
theorem Facts.s_Sinks {K : PySem.W.Frag} {mg : Str → Option Value} (G : Facts K mg) : ∀ t ∈ (["NoneType", "bool", "int", "str", "tuple", "list", "dict"] : List String), PySem.W.kitOne K (.type t) (.ref (He.ga K "Sinks")) = some false := G.s 50 "Sinks" rfl
theorem Facts.g_Sizes {K : PySem.W.Frag} {mg : Str → Option Value} (G : Facts K mg) : mg "Sizes" = some (.ref (He.ga K "Sizes")) := G.g 52 "Sizes" rfl
theorem Facts.s_Sizes {K : PySem.W.Frag} {mg : Str → Option Value} (G : Facts K mg) : ∀ t ∈ (["NoneType", "bool", "int", "str", "tuple", "list", "dict"] : List String), PySem.W.kitOne K (.type t) (.ref (He.ga K "Sizes")) = some false := G.s 52 "Sizes" rfl
theorem Facts.g_Slack {K : PySem.W.Frag} {mg : Str → Option Value} (G : Facts K mg) : mg "Slack" = some (.ref (He.ga K "Slack")) := G.g 30 "Slack" rfl
theorem Facts.s_Slack {K : PySem.W.Frag} {mg : Str → Option Value} (G : Facts K mg) : ∀ t ∈ (["NoneType", "bool", "int", "str", "tuple", "list", "dict"] : List String), PySem.W.kitOne K (.type t) (.ref (He.ga K "Slack")) = some false := G.s 30 "Slack" rfl
theorem Facts.g_Slips {K : PySem.W.Frag} {mg : Str → Option Value} (G : Facts K mg) : mg "Slips" = some (.ref (He.ga K "Slips")) := G.g 21 "Slips" rfl
theorem Facts.s_Slips {K : PySem.W.Frag} {mg : Str → Option Value} (G : Facts K mg) : ∀ t ∈ (["NoneType", "bool", "int", "str", "tuple", "list", "dict"] : List String), PySem.W.kitOne K (.type t) (.ref (He.ga K "Slips")) = some false := G.s 21 "Slips" rfl
theorem Facts.g_Split {K : PySem.W.Frag} {mg : Str → Option Value} (G : Facts K mg) : mg "Split" = some (.ref (He.ga K "Split")) := G.g 18 "Split" rfl
theorem Facts.s_Split {K : PySem.W.Frag} {mg : Str → Option Value} (G : Facts K mg) : ∀ t ∈ (["NoneType", "bool", "int", "str", "tuple", "list", "dict"] : List String), PySem.W.kitOne K (.type t) (.ref (He.ga K "Split")) = some false := G.s 18 "Split" rfl
theorem Facts.g_Stiff {K : PySem.W.Frag} {mg : Str → Option Value} (G : Facts K mg) : mg "Stiff" = some (.ref (He.ga K "Stiff")) := G.g 7 "Stiff" rfl
theorem Facts.s_Stiff {K : PySem.W.Frag} {mg : Str → Option Value} (G : Facts K mg) : ∀ t ∈ (["NoneType", "bool", "int", "str", "tuple", "list", "dict"] : List String), PySem.W.kitOne K (.type t) (.ref (He.ga K "Stiff")) = some false := G.s 7 "Stiff" rfl
theorem Facts.g_Thick {K : PySem.W.Frag} {mg : Str → Option Value} (G : Facts K mg) : mg "Thick" = some (.ref (He.ga K "Thick")) := G.g 48 "Thick" rfl
theorem Facts.s_Thick {K : PySem.W.Frag} {mg : Str → Option Value} (G : Facts K mg) : ∀ t ∈ (["NoneType", "bool", "int", "str", "tuple", "list", "dict"] : List String), PySem.W.kitOne K (.type t) (.ref (He.ga K "Thick")) = some false := G.s 48 "Thick" rfl
theorem Facts.g_Thicket {K : PySem.W.Frag} {mg : Str → Option Value} (G : Facts K mg) : mg "Thicket" = some (.ref (He.ga K "Thicket")) := G.g 16 "Thicket" rfl
theorem Facts.s_Thicket {K : PySem.W.Frag} {mg : Str → Option Value} (G : Facts K mg) : ∀ t ∈ (["NoneType", "bool", "int", "str", "tuple", "list", "dict"] : List String), PySem.W.kitOne K (.type t) (.ref (He.ga K "Thicket")) = some false := G.s 16 "Thicket" rfl
theorem Facts.g_Trees {K : PySem.W.Frag} {mg : Str → Option Value} (G : Facts K mg) : mg "Trees" = some (.ref (He.ga K "Trees")) := G.g 17 "Trees" rfl
theorem Facts.s_Trees {K : PySem.W.Frag} {mg : Str → Option Value} (G : Facts K mg) : ∀ t ∈ (["NoneType", "bool", "int", "str", "tuple", "list", "dict"] : List String), PySem.W.kitOne K (.type t) (.ref (He.ga K "Trees")) = some false := G.s 17 "Trees" rfl
theorem Facts.g_TwoTrees {K : PySem.W.Frag} {mg : Str → Option Value} (G : Facts K mg) : mg "TwoTrees" = some (.ref (He.ga K "TwoTrees")) := G.g 47 "TwoTrees" rfl
theorem Facts.s_TwoTrees {K : PySem.W.Frag} {mg : Str → Option Value} (G : Facts K mg) : ∀ t ∈ (["NoneType", "bool", "int", "str", "tuple", "list", "dict"] : List String), PySem.W.kitOne K (.type t) (.ref (He.ga K "TwoTrees")) = some false := G.s 47 "TwoTrees" rfl
theorem Facts.g_Uses {K : PySem.W.Frag} {mg : Str → Option Value} (G : Facts K mg) : mg "Uses" = some (.ref (He.ga K "Uses")) := G.g 51 "Uses" rfl
theorem Facts.s_Uses {K : PySem.W.Frag} {mg : Str → Option Value} (G : Facts K mg) : ∀ t ∈ (["NoneType", "bool", "int", "str", "tuple", "list", "dict"] : List String), PySem.W.kitOne K (.type t) (.ref (He.ga K "Uses")) = some false := G.s 51 "Uses" rfl
theorem Facts.g_Warped {K : PySem.W.Frag} {mg : Str → Option Value} (G : Facts K mg) : mg "Warped" = some (.ref (He.ga K "Warped")) := G.g 34 "Warped" rfl
theorem Facts.s_Warped {K : PySem.W.Frag} {mg : Str → Option Value} (G : Facts K mg) : ∀ t ∈ (["NoneType", "bool", "int", "str", "tuple", "list", "dict"] : List String), PySem.W.kitOne K (.type t) (.ref (He.ga K "Warped")) = some false := G.s 34 "Warped" rfl
theorem Facts.g_Weights {K : PySem.W.Frag} {mg : Str → Option Value} (G : Facts K mg) : mg "Weights" = some (.ref (He.ga K "Weights")) := G.g 29 "Weights" rfl
theorem Facts.s_Weights {K : PySem.W.Frag} {mg : Str → Option Value} (G : Facts K mg) : ∀ t ∈ (["NoneType", "bool", "int", "str", "tuple", "list", "dict"] : List String), PySem.W.kitOne K (.type t) (.ref (He.ga K "Weights")) = some false := G.s 29 "Weights" rfl
theorem Facts.g_Yields {K : PySem.W.Frag} {mg : Str → Option Value} (G : Facts K mg) : mg "Yields" = some (.ref (He.ga K "Yields")) := G.g 26 "Yields" rfl
theorem Facts.s_Yields {K : PySem.W.Frag} {mg : Str → Option Value} (G : Facts K mg) : ∀ t ∈ (["NoneType", "bool", "int", "str", "tuple", "list", "dict"] : List String), PySem.W.kitOne K (.type t) (.ref (He.ga K "Yields")) = some false := G.s 26 "Yields" rfl
theorem Facts.na_Adrift_lot {K : PySem.W.Frag} {mg : Str → Option Value} (G : Facts K mg) {A : Addr} (h : mg "Adrift" = some (.ref A)) : NoAttr K A "lot" := G.na 0 "Adrift" "lot" rfl A h
theorem Facts.na_Against_move {K : PySem.W.Frag} {mg : Str → Option Value} (G : Facts K mg) {A : Addr} (h : mg "Against" = some (.ref A)) : NoAttr K A "move" := G.na 1 "Against" "move" rfl A h
theorem Facts.na_Answer_row {K : PySem.W.Frag} {mg : Str → Option Value} (G : Facts K mg) {A : Addr} (h : mg "Answer" = some (.ref A)) : NoAttr K A "row" := G.na 2 "Answer" "row" rfl A h
theorem Facts.na_Barred_weights {K : PySem.W.Frag} {mg : Str → Option Value} (G : Facts K mg) {A : Addr} (h : mg "Barred" = some (.ref A)) : NoAttr K A "weights" := G.na 3 "Barred" "weights" rfl A h
theorem Facts.na_Bent_stress {K : PySem.W.Frag} {mg : Str → Option Value} (G : Facts K mg) {A : Addr} (h : mg "Bent" = some (.ref A)) : NoAttr K A "stress" := G.na 4 "Bent" "stress" rfl A h
theorem Facts.na_Best_row {K : PySem.W.Frag} {mg : Str → Option Value} (G : Facts K mg) {A : Addr} (h : mg "Best" = some (.ref A)) : NoAttr K A "row" := G.na 5 "Best" "row" rfl A h
theorem Facts.na_Best_weights {K : PySem.W.Frag} {mg : Str → Option Value} (G : Facts K mg) {A : Addr} (h : mg "Best" = some (.ref A)) : NoAttr K A "weights" := G.na 6 "Best" "weights" rfl A h
theorem Facts.na_Braced_back {K : PySem.W.Frag} {mg : Str → Option Value} (G : Facts K mg) {A : Addr} (h : mg "Braced" = some (.ref A)) : NoAttr K A "back" := G.na 7 "Braced" "back" rfl A h
theorem Facts.na_Braced_there {K : PySem.W.Frag} {mg : Str → Option Value} (G : Facts K mg) {A : Addr} (h : mg "Braced" = some (.ref A)) : NoAttr K A "there" := G.na 8 "Braced" "there" rfl A h
theorem Facts.na_Carries_row {K : PySem.W.Frag} {mg : Str → Option Value} (G : Facts K mg) {A : Addr} (h : mg "Carries" = some (.ref A)) : NoAttr K A "row" := G.na 9 "Carries" "row" rfl A h
theorem Facts.na_Cheapest_fields {K : PySem.W.Frag} {mg : Str → Option Value} (G : Facts K mg) {A : Addr} (h : mg "Cheapest" = some (.ref A)) : NoAttr K A "fields" := G.na 10 "Cheapest" "fields" rfl A h
theorem Facts.na_Covered_lots {K : PySem.W.Frag} {mg : Str → Option Value} (G : Facts K mg) {A : Addr} (h : mg "Covered" = some (.ref A)) : NoAttr K A "lots" := G.na 11 "Covered" "lots" rfl A h
theorem Facts.na_Crowded_joints {K : PySem.W.Frag} {mg : Str → Option Value} (G : Facts K mg) {A : Addr} (h : mg "Crowded" = some (.ref A)) : NoAttr K A "joints" := G.na 12 "Crowded" "joints" rfl A h
theorem Facts.na_Drops_move {K : PySem.W.Frag} {mg : Str → Option Value} (G : Facts K mg) {A : Addr} (h : mg "Drops" = some (.ref A)) : NoAttr K A "move" := G.na 13 "Drops" "move" rfl A h
theorem Facts.na_Ears_rows {K : PySem.W.Frag} {mg : Str → Option Value} (G : Facts K mg) {A : Addr} (h : mg "Ears" = some (.ref A)) : NoAttr K A "rows" := G.na 14 "Ears" "rows" rfl A h
theorem Facts.na_Fails_move {K : PySem.W.Frag} {mg : Str → Option Value} (G : Facts K mg) {A : Addr} (h : mg "Fails" = some (.ref A)) : NoAttr K A "move" := G.na 15 "Fails" "move" rfl A h
theorem Facts.na_Fails_number {K : PySem.W.Frag} {mg : Str → Option Value} (G : Facts K mg) {A : Addr} (h : mg "Fails" = some (.ref A)) : NoAttr K A "number" := G.na 16 "Fails" "number" rfl A h
theorem Facts.na_Falls_row {K : PySem.W.Frag} {mg : Str → Option Value} (G : Facts K mg) {A : Addr} (h : mg "Falls" = some (.ref A)) : NoAttr K A "row" := G.na 17 "Falls" "row" rfl A h
theorem Facts.na_Falls_way {K : PySem.W.Frag} {mg : Str → Option Value} (G : Facts K mg) {A : Addr} (h : mg "Falls" = some (.ref A)) : NoAttr K A "way" := G.na 18 "Falls" "way" rfl A h
theorem Facts.na_Firm_answers {K : PySem.W.Frag} {mg : Str → Option Value} (G : Facts K mg) {A : Addr} (h : mg "Firm" = some (.ref A)) : NoAttr K A "answers" := G.na 19 "Firm" "answers" rfl A h
theorem Facts.na_Firm_stress {K : PySem.W.Frag} {mg : Str → Option Value} (G : Facts K mg) {A : Addr} (h : mg "Firm" = some (.ref A)) : NoAttr K A "stress" := G.na 20 "Firm" "stress" rfl A h
theorem Facts.na_Fit_aims {K : PySem.W.Frag} {mg : Str → Option Value} (G : Facts K mg) {A : Addr} (h : mg "Fit" = some (.ref A)) : NoAttr K A "aims" := G.na 21 "Fit" "aims" rfl A h
theorem Facts.na_Fit_points {K : PySem.W.Frag} {mg : Str → Option Value} (G : Facts K mg) {A : Addr} (h : mg "Fit" = some (.ref A)) : NoAttr K A "points" := G.na 22 "Fit" "points" rfl A h
theorem Facts.na_Forests_rows {K : PySem.W.Frag} {mg : Str → Option Value} (G : Facts K mg) {A : Addr} (h : mg "Forests" = some (.ref A)) : NoAttr K A "rows" := G.na 23 "Forests" "rows" rfl A h
theorem Facts.na_Found_row {K : PySem.W.Frag} {mg : Str → Option Value} (G : Facts K mg) {A : Addr} (h : mg "Found" = some (.ref A)) : NoAttr K A "row" := G.na 24 "Found" "row" rfl A h
theorem Facts.na_Free_points {K : PySem.W.Frag} {mg : Str → Option Value} (G : Facts K mg) {A : Addr} (h : mg "Free" = some (.ref A)) : NoAttr K A "points" := G.na 25 "Free" "points" rfl A h
theorem Facts.na_Gives_move {K : PySem.W.Frag} {mg : Str → Option Value} (G : Facts K mg) {A : Addr} (h : mg "Gives" = some (.ref A)) : NoAttr K A "move" := G.na 26 "Gives" "move" rfl A h
theorem Facts.na_Grown_steps {K : PySem.W.Frag} {mg : Str → Option Value} (G : Facts K mg) {A : Addr} (h : mg "Grown" = some (.ref A)) : NoAttr K A "steps" := G.na 27 "Grown" "steps" rfl A h
theorem Facts.na_HeldPlaces_points {K : PySem.W.Frag} {mg : Str → Option Value} (G : Facts K mg) {A : Addr} (h : mg "HeldPlaces" = some (.ref A)) : NoAttr K A "points" := G.na 28 "HeldPlaces" "points" rfl A h
theorem Facts.na_HeldPlaces_stress {K : PySem.W.Frag} {mg : Str → Option Value} (G : Facts K mg) {A : Addr} (h : mg "HeldPlaces" = some (.ref A)) : NoAttr K A "stress" := G.na 29 "HeldPlaces" "stress" rfl A h
theorem Facts.na_Hung_points {K : PySem.W.Frag} {mg : Str → Option Value} (G : Facts K mg) {A : Addr} (h : mg "Hung" = some (.ref A)) : NoAttr K A "points" := G.na 30 "Hung" "points" rfl A h
theorem Facts.na_Lacking_one {K : PySem.W.Frag} {mg : Str → Option Value} (G : Facts K mg) {A : Addr} (h : mg "Lacking" = some (.ref A)) : NoAttr K A "one" := G.na 31 "Lacking" "one" rfl A h
theorem Facts.na_Lacking_other {K : PySem.W.Frag} {mg : Str → Option Value} (G : Facts K mg) {A : Addr} (h : mg "Lacking" = some (.ref A)) : NoAttr K A "other" := G.na 32 "Lacking" "other" rfl A h
theorem Facts.na_LetsGo_lots {K : PySem.W.Frag} {mg : Str → Option Value} (G : Facts K mg) {A : Addr} (h : mg "LetsGo" = some (.ref A)) : NoAttr K A "lots" := G.na 33 "LetsGo" "lots" rfl A h
theorem Facts.na_LetsGo_tie {K : PySem.W.Frag} {mg : Str → Option Value} (G : Facts K mg) {A : Addr} (h : mg "LetsGo" = some (.ref A)) : NoAttr K A "tie" := G.na 34 "LetsGo" "tie" rfl A h
theorem Facts.na_Level_move {K : PySem.W.Frag} {mg : Str → Option Value} (G : Facts K mg) {A : Addr} (h : mg "Level" = some (.ref A)) : NoAttr K A "move" := G.na 35 "Level" "move" rfl A h
theorem Facts.na_Level_tie {K : PySem.W.Frag} {mg : Str → Option Value} (G : Facts K mg) {A : Addr} (h : mg "Level" = some (.ref A)) : NoAttr K A "tie" := G.na 36 "Level" "tie" rfl A h
theorem Facts.na_Lift_roof {K : PySem.W.Frag} {mg : Str → Option Value} (G : Facts K mg) {A : Addr} (h : mg "Lift" = some (.ref A)) : NoAttr K A "roof" := G.na 37 "Lift" "roof" rfl A h
theorem Facts.na_Light_move {K : PySem.W.Frag} {mg : Str → Option Value} (G : Facts K mg) {A : Addr} (h : mg "Light" = some (.ref A)) : NoAttr K A "move" := G.na 38 "Light" "move" rfl A h
theorem Facts.na_Light_row {K : PySem.W.Frag} {mg : Str → Option Value} (G : Facts K mg) {A : Addr} (h : mg "Light" = some (.ref A)) : NoAttr K A "row" := G.na 39 "Light" "row" rfl A h
theorem Facts.na_Loose_move {K : PySem.W.Frag} {mg : Str → Option Value} (G : Facts K mg) {A : Addr} (h : mg "Loose" = some (.ref A)) : NoAttr K A "move" := G.na 40 "Loose" "move" rfl A h
theorem Facts.na_Never_weights {K : PySem.W.Frag} {mg : Str → Option Value} (G : Facts K mg) {A : Addr} (h : mg "Never" = some (.ref A)) : NoAttr K A "weights" := G.na 41 "Never" "weights" rfl A h
theorem Facts.na_OneShape_joints {K : PySem.W.Frag} {mg : Str → Option Value} (G : Facts K mg) {A : Addr} (h : mg "OneShape" = some (.ref A)) : NoAttr K A "joints" := G.na 42 "OneShape" "joints" rfl A h
theorem Facts.na_OneShape_steps {K : PySem.W.Frag} {mg : Str → Option Value} (G : Facts K mg) {A : Addr} (h : mg "OneShape" = some (.ref A)) : NoAttr K A "steps" := G.na 43 "OneShape" "steps" rfl A h
theorem Facts.na_Opens_points {K : PySem.W.Frag} {mg : Str → Option Value} (G : Facts K mg) {A : Addr} (h : mg "Opens" = some (.ref A)) : NoAttr K A "points" := G.na 44 "Opens" "points" rfl A h
theorem Facts.na_Parting_joints {K : PySem.W.Frag} {mg : Str → Option Value} (G : Facts K mg) {A : Addr} (h : mg "Parting" = some (.ref A)) : NoAttr K A "joints" := G.na 45 "Parting" "joints" rfl A h
theorem Facts.na_Parting_lots {K : PySem.W.Frag} {mg : Str → Option Value} (G : Facts K mg) {A : Addr} (h : mg "Parting" = some (.ref A)) : NoAttr K A "lots" := G.na 46 "Parting" "lots" rfl A h
theorem Facts.na_Parts_move {K : PySem.W.Frag} {mg : Str → Option Value} (G : Facts K mg) {A : Addr} (h : mg "Parts" = some (.ref A)) : NoAttr K A "move" := G.na 47 "Parts" "move" rfl A h
theorem Facts.na_Parts_stress {K : PySem.W.Frag} {mg : Str → Option Value} (G : Facts K mg) {A : Addr} (h : mg "Parts" = some (.ref A)) : NoAttr K A "stress" := G.na 48 "Parts" "stress" rfl A h
theorem Facts.na_Placed_bars {K : PySem.W.Frag} {mg : Str → Option Value} (G : Facts K mg) {A : Addr} (h : mg "Placed" = some (.ref A)) : NoAttr K A "bars" := G.na 49 "Placed" "bars" rfl A h
theorem Facts.na_Pulls_row {K : PySem.W.Frag} {mg : Str → Option Value} (G : Facts K mg) {A : Addr} (h : mg "Pulls" = some (.ref A)) : NoAttr K A "row" := G.na 50 "Pulls" "row" rfl A h
theorem Facts.na_Set_answers {K : PySem.W.Frag} {mg : Str → Option Value} (G : Facts K mg) {A : Addr} (h : mg "Set" = some (.ref A)) : NoAttr K A "answers" := G.na 51 "Set" "answers" rfl A h
theorem Facts.na_Shears_shear {K : PySem.W.Frag} {mg : Str → Option Value} (G : Facts K mg) {A : Addr} (h : mg "Shears" = some (.ref A)) : NoAttr K A "shear" := G.na 52 "Shears" "shear" rfl A h
theorem Facts.na_Shuts_tie {K : PySem.W.Frag} {mg : Str → Option Value} (G : Facts K mg) {A : Addr} (h : mg "Shuts" = some (.ref A)) : NoAttr K A "tie" := G.na 53 "Shuts" "tie" rfl A h
theorem Facts.na_Shuts_weights {K : PySem.W.Frag} {mg : Str → Option Value} (G : Facts K mg) {A : Addr} (h : mg "Shuts" = some (.ref A)) : NoAttr K A "weights" := G.na 54 "Shuts" "weights" rfl A h
theorem Facts.na_Sinks_move {K : PySem.W.Frag} {mg : Str → Option Value} (G : Facts K mg) {A : Addr} (h : mg "Sinks" = some (.ref A)) : NoAttr K A "move" := G.na 55 "Sinks" "move" rfl A h
theorem Facts.na_Sizes_moves {K : PySem.W.Frag} {mg : Str → Option Value} (G : Facts K mg) {A : Addr} (h : mg "Sizes" = some (.ref A)) : NoAttr K A "moves" := G.na 56 "Sizes" "moves" rfl A h
theorem Facts.na_Sizes_rows {K : PySem.W.Frag} {mg : Str → Option Value} (G : Facts K mg) {A : Addr} (h : mg "Sizes" = some (.ref A)) : NoAttr K A "rows" := G.na 57 "Sizes" "rows" rfl A h
theorem Facts.na_Sizes_sizes {K : PySem.W.Frag} {mg : Str → Option Value} (G : Facts K mg) {A : Addr} (h : mg "Sizes" = some (.ref A)) : NoAttr K A "sizes" := G.na 58 "Sizes" "sizes" rfl A h
theorem Facts.na_Slack_move {K : PySem.W.Frag} {mg : Str → Option Value} (G : Facts K mg) {A : Addr} (h : mg "Slack" = some (.ref A)) : NoAttr K A "move" := G.na 59 "Slack" "move" rfl A h
theorem Facts.na_Slips_screws {K : PySem.W.Frag} {mg : Str → Option Value} (G : Facts K mg) {A : Addr} (h : mg "Slips" = some (.ref A)) : NoAttr K A "screws" := G.na 60 "Slips" "screws" rfl A h
theorem Facts.na_Split_lots {K : PySem.W.Frag} {mg : Str → Option Value} (G : Facts K mg) {A : Addr} (h : mg "Split" = some (.ref A)) : NoAttr K A "lots" := G.na 61 "Split" "lots" rfl A h
theorem Facts.na_Stiff_answers {K : PySem.W.Frag} {mg : Str → Option Value} (G : Facts K mg) {A : Addr} (h : mg "Stiff" = some (.ref A)) : NoAttr K A "answers" := G.na 62 "Stiff" "answers" rfl A h
theorem Facts.na_Thick_joints {K : PySem.W.Frag} {mg : Str → Option Value} (G : Facts K mg) {A : Addr} (h : mg "Thick" = some (.ref A)) : NoAttr K A "joints" := G.na 63 "Thick" "joints" rfl A h
theorem Facts.na_Thicket_joints {K : PySem.W.Frag} {mg : Str → Option Value} (G : Facts K mg) {A : Addr} (h : mg "Thicket" = some (.ref A)) : NoAttr K A "joints" := G.na 64 "Thicket" "joints" rfl A h
theorem Facts.na_Trees_rows {K : PySem.W.Frag} {mg : Str → Option Value} (G : Facts K mg) {A : Addr} (h : mg "Trees" = some (.ref A)) : NoAttr K A "rows" := G.na 65 "Trees" "rows" rfl A h
theorem Facts.na_TwoTrees_one {K : PySem.W.Frag} {mg : Str → Option Value} (G : Facts K mg) {A : Addr} (h : mg "TwoTrees" = some (.ref A)) : NoAttr K A "one" := G.na 66 "TwoTrees" "one" rfl A h
theorem Facts.na_TwoTrees_other {K : PySem.W.Frag} {mg : Str → Option Value} (G : Facts K mg) {A : Addr} (h : mg "TwoTrees" = some (.ref A)) : NoAttr K A "other" := G.na 67 "TwoTrees" "other" rfl A h
theorem Facts.na_Uses_move {K : PySem.W.Frag} {mg : Str → Option Value} (G : Facts K mg) {A : Addr} (h : mg "Uses" = some (.ref A)) : NoAttr K A "move" := G.na 68 "Uses" "move" rfl A h
theorem Facts.na_Uses_row {K : PySem.W.Frag} {mg : Str → Option Value} (G : Facts K mg) {A : Addr} (h : mg "Uses" = some (.ref A)) : NoAttr K A "row" := G.na 69 "Uses" "row" rfl A h
theorem Facts.na_Warped_face {K : PySem.W.Frag} {mg : Str → Option Value} (G : Facts K mg) {A : Addr} (h : mg "Warped" = some (.ref A)) : NoAttr K A "face" := G.na 70 "Warped" "face" rfl A h
theorem Facts.na_Warped_joints {K : PySem.W.Frag} {mg : Str → Option Value} (G : Facts K mg) {A : Addr} (h : mg "Warped" = some (.ref A)) : NoAttr K A "joints" := G.na 71 "Warped" "joints" rfl A h
theorem Facts.na_Weights_row {K : PySem.W.Frag} {mg : Str → Option Value} (G : Facts K mg) {A : Addr} (h : mg "Weights" = some (.ref A)) : NoAttr K A "row" := G.na 72 "Weights" "row" rfl A h
theorem Facts.na_Yields_shear {K : PySem.W.Frag} {mg : Str → Option Value} (G : Facts K mg) {A : Addr} (h : mg "Yields" = some (.ref A)) : NoAttr K A "shear" := G.na 73 "Yields" "shear" rfl A h
abbrev N_copied : List Str := [("value" : Str)]
abbrev N_Found : List Str := [("self" : Str), ("row" : Str)]
abbrev N_Barred : List Str := [("self" : Str), ("weights" : Str)]
abbrev N_Best : List Str := [("self" : Str), ("row" : Str), ("weights" : Str)]
abbrev N_Falls : List Str := [("self" : Str), ("row" : Str), ("way" : Str)]
abbrev N_Never : List Str := [("self" : Str), ("weights" : Str)]
abbrev N_Answer : List Str := [("self" : Str), ("row" : Str)]
abbrev N_Against : List Str := [("self" : Str), ("move" : Str)]
abbrev N_Stiff : List Str := [("self" : Str), ("answers" : Str)]
abbrev N_Loose : List Str := [("self" : Str), ("move" : Str)]
abbrev N_Free : List Str := [("self" : Str), ("points" : Str)]
abbrev N_Crowded : List Str := [("self" : Str), ("joints" : Str)]
abbrev N_Grown : List Str := [("self" : Str), ("steps" : Str)]
abbrev N_Covered : List Str := [("self" : Str), ("lots" : Str)]
abbrev N_Opens : List Str := [("self" : Str), ("points" : Str)]
abbrev N_Shuts : List Str := [("self" : Str), ("tie" : Str), ("weights" : Str)]
abbrev N_Forests : List Str := [("self" : Str), ("rows" : Str)]
abbrev N_Thicket : List Str := [("self" : Str), ("joints" : Str)]
abbrev N_Trees : List Str := [("self" : Str), ("rows" : Str)]
abbrev N_Split : List Str := [("self" : Str), ("lots" : Str)]
abbrev N_Fit : List Str := [("self" : Str), ("aims" : Str), ("points" : Str)]
abbrev N_Set : List Str := [("self" : Str), ("answers" : Str)]
abbrev N_Slips : List Str := [("self" : Str), ("screws" : Str)]
abbrev N_Placed : List Str := [("self" : Str), ("bars" : Str)]
abbrev N_Braced : List Str := [("self" : Str), ("there" : Str), ("back" : Str)]
abbrev N_Shears : List Str := [("self" : Str), ("shear" : Str)]
abbrev N_Pulls : List Str := [("self" : Str), ("row" : Str)]
abbrev N_Yields : List Str := [("self" : Str), ("shear" : Str)]
abbrev N_Hung : List Str := [("self" : Str), ("points" : Str)]
abbrev N_Adrift : List Str := [("self" : Str), ("lot" : Str)]
abbrev N_Weights : List Str := [("self" : Str), ("row" : Str)]
abbrev N_Slack : List Str := [("self" : Str), ("move" : Str)]
abbrev N_Bent : List Str := [("self" : Str), ("stress" : Str)]
abbrev N_Level : List Str := [("self" : Str), ("tie" : Str), ("move" : Str)]
abbrev N_Lift : List Str := [("self" : Str), ("roof" : Str)]
abbrev N_Warped : List Str := [("self" : Str), ("face" : Str), ("joints" : Str)]
abbrev N_Firm : List Str := [("self" : Str), ("answers" : Str), ("stress" : Str)]
abbrev N_Gives : List Str := [("self" : Str), ("move" : Str)]
abbrev N_Parts : List Str := [("self" : Str), ("stress" : Str), ("move" : Str)]
abbrev N_Carries : List Str := [("self" : Str), ("row" : Str)]
abbrev N_Drops : List Str := [("self" : Str), ("move" : Str)]
abbrev N_OneShape : List Str := [("self" : Str), ("joints" : Str), ("steps" : Str)]
abbrev N_Lacking : List Str := [("self" : Str), ("one" : Str), ("other" : Str)]
abbrev N_Parting : List Str := [("self" : Str), ("joints" : Str), ("lots" : Str)]
abbrev N_LetsGo : List Str := [("self" : Str), ("tie" : Str), ("lots" : Str)]
abbrev N_Ears : List Str := [("self" : Str), ("rows" : Str)]
abbrev N_HeldPlaces : List Str := [("self" : Str), ("points" : Str), ("stress" : Str)]
abbrev N_Cheapest : List Str := [("self" : Str), ("fields" : Str)]
abbrev N_TwoTrees : List Str := [("self" : Str), ("one" : Str), ("other" : Str)]
abbrev N_Thick : List Str := [("self" : Str), ("joints" : Str)]
abbrev N_Light : List Str := [("self" : Str), ("row" : Str), ("move" : Str)]
abbrev N_Sinks : List Str := [("self" : Str), ("move" : Str)]
abbrev N_Uses : List Str := [("self" : Str), ("row" : Str), ("move" : Str)]
abbrev N_Sizes : List Str := [("self" : Str), ("sizes" : Str), ("rows" : Str), ("moves" : Str)]
abbrev N_Fails : List Str := [("self" : Str), ("number" : Str), ("move" : Str)]
abbrev N_ulaw_pen : List Str := [("script" : Str), ("fold" : Str), ("cell" : Str)]
abbrev N_ulaw_draw : List Str := [("pen" : Str), ("many" : Str), ("cell" : Str), ("digit" : Str), ("blend" : Str)]
abbrev N_ulaw_pick : List Str := [("pen" : Str), ("some" : Str)]
abbrev N_ulaw_made_a : List Str := [("a" : Str), ("b" : Str), ("c" : Str), ("rows" : Str), ("one" : Str), ("two" : Str), ("kind" : Str), ("first" : Str)]
abbrev N_ulaw_made_b : List Str := [("a" : Str), ("b" : Str), ("c" : Str), ("rows" : Str), ("one" : Str), ("two" : Str), ("kind" : Str), ("first" : Str)]
abbrev N_ulaw_made_c : List Str := [("a" : Str), ("b" : Str), ("c" : Str), ("rows" : Str), ("one" : Str), ("two" : Str), ("kind" : Str), ("first" : Str)]
abbrev N_ulaw_made_d : List Str := [("a" : Str), ("b" : Str), ("c" : Str), ("rows" : Str), ("one" : Str), ("two" : Str), ("kind" : Str), ("first" : Str)]
abbrev N_ulaw_made_e : List Str := [("a" : Str), ("b" : Str), ("c" : Str), ("rows" : Str), ("one" : Str), ("two" : Str), ("kind" : Str), ("first" : Str)]
abbrev N_ulaw_value : List Str := [("pen" : Str), ("some" : Str), ("k" : Str)]
abbrev N_ulaw_copy : List Str := [("value" : Str)]
abbrev N_law : List Str := [("script" : Str), ("pen" : Str), ("values" : Str), ("a" : Str), ("b" : Str), ("c" : Str), ("rows" : Str), ("more" : Str), ("one" : Str), ("two" : Str), ("kind" : Str), ("first" : Str), ("second" : Str), ("handed" : Str), ("due" : Str), ("k" : Str), ("other" : Str), ("kept" : Str), ("before" : Str), ("value" : Str)]
section
variable {P : Program} {w : PySem.World} {K : PySem.W.Frag} {mg : Str → Option Value} {base : Heap} {f : Addr} {fd : FuncData}
theorem w_copied (G : Facts K mg) (cdv : Value) (A : Around) (outer : List PySem.Env) (s : Shared) (H : Hp) (E : XK) (hr : RoomG 0 (A.deeper (envOfC "copied" (L2.defScope s_copied) s.heap.objs.size f cdv))) : DSs (bodyCx P w K mg base N_copied "copied" (L2.defScope s_copied) f cdv A outer s H E) (bodyW E) [] [] (L2.defBody s_copied) b_copied [] := by
  have hN : N_copied.Nodup := by decide +kernel
  exact (dss_one (ds_ret (de_if (dt_of (dv_of (de_isiB (T := "list") (by decide) G.isinstance G.list (dv_of (de_var 0))))) (de_tupleOf G.tuple (dva_cons (dv_of (de_var 0)) dva_nil)) (de_var 0))))
theorem sc_copied : FnScope N_copied [("value" : Str)] (L2.defScope s_copied) := ⟨rfl, rfl, rfl, by decide +kernel, rfl, by decide +kernel, by decide +kernel⟩
theorem c_copied (G : Facts K mg) (F : FunD K "copied" "copied" (L2.defArgs s_copied) (L2.defBody s_copied) (L2.defScope s_copied) [] [] (He.fAd K ("copied", none)) fd) : DCal P w K mg base 1 "copied" 1 m_copied [] :=
  dcal_of F (G.gl 0 "copied" rfl) (FunD.bindsN (ps := [("value" : Str)]) F fun _ _ _ _ _ _ us hl => match us, hl with | [_], _ => rfl) .nil (fun _ => .nil) sc_copied (w_copied G)
theorem w_Found (G : Facts K mg) (G_copied : DCal P w K mg base 1 "copied" 1 m_copied []) (cdv : Value) (A : Around) (outer : List PySem.Env) (s : Shared) (H : Hp) (E : XK) (hr : RoomG 1 (A.deeper (envOfC "Found.__init__" (L2.defScope s_Found) s.heap.objs.size f cdv))) : DSI (bodyCx P w K mg base N_Found "Found.__init__" (L2.defScope s_Found) f cdv A outer s H E) (bodyW E) "Found" (L2.defBody s_Found) ((iSelf "row" (fun ρ => (((getV ρ 1) >>= fun d => (pure []) >>= fun ds => pure (d :: ds)) >>= fun ds => m_copied (ds ++ []))) iNil)) := by
  have hN : N_Found.Nodup := by decide +kernel
  exact (dsi_self (fun _ h => G.na_Found_row h) (de_call G_copied hr bodyTk (da_cons (de_var 1) da_nil)) dsi_nil)
theorem sc_Found : FnScope N_Found [("self" : Str), ("row" : Str)] (L2.defScope s_Found) := ⟨rfl, rfl, rfl, by decide +kernel, rfl, by decide +kernel, by decide +kernel⟩
theorem c_Found (G : Facts K mg) (G_copied : DCal P w K mg base 1 "copied" 1 m_copied []) (F : FunD K "__init__" "Found.__init__" (L2.defArgs s_Found) (L2.defBody s_Found) (L2.defScope s_Found) [] [] (He.fAd K ("Found", some "__init__")) fd) : DMk P w K mg base 2 "Found" 1 i_Found :=
  dmk_of F sc_Found rfl (G.mkr 0 "Found" rfl) (G.g 0 "Found" rfl) (G.cf 0 "Found" rfl) (FunD.bindsN (ps := [("self" : Str), ("row" : Str)]) F fun _ _ _ _ _ _ us hl => match us, hl with | [_, _], _ => rfl) (w_Found G G_copied)
theorem c_Found_K (G : Facts K mg) (G_copied : DCal P w K mg base 1 "copied" 1 m_copied []) (F : FunD K "__init__" "Found.__init__" (L2.defArgs s_Found) (L2.defBody s_Found) (L2.defScope s_Found) [] [] (He.fAd K ("Found", some "__init__")) fd) : DMkK P w K mg base 2 "Found" [("row" : Str)] [0] i_Found :=
  dmkK_of F sc_Found (ps := [("self" : Str), ("row" : Str)]) rfl (G.mkr 0 "Found" rfl) (G.g 0 "Found" rfl) (G.cf 0 "Found" rfl) (fun _ _ _ _ _ _ us ws h1 h2 => match us, ws, h1, h2 with | [_], [_], _, _ => rfl) (w_Found G G_copied)
theorem w_Barred (G : Facts K mg) (G_copied : DCal P w K mg base 1 "copied" 1 m_copied []) (cdv : Value) (A : Around) (outer : List PySem.Env) (s : Shared) (H : Hp) (E : XK) (hr : RoomG 1 (A.deeper (envOfC "Barred.__init__" (L2.defScope s_Barred) s.heap.objs.size f cdv))) : DSI (bodyCx P w K mg base N_Barred "Barred.__init__" (L2.defScope s_Barred) f cdv A outer s H E) (bodyW E) "Barred" (L2.defBody s_Barred) ((iSelf "weights" (fun ρ => (((getV ρ 1) >>= fun d => (pure []) >>= fun ds => pure (d :: ds)) >>= fun ds => m_copied (ds ++ []))) iNil)) := by
  have hN : N_Barred.Nodup := by decide +kernel
  exact (dsi_self (fun _ h => G.na_Barred_weights h) (de_call G_copied hr bodyTk (da_cons (de_var 1) da_nil)) dsi_nil)
theorem sc_Barred : FnScope N_Barred [("self" : Str), ("weights" : Str)] (L2.defScope s_Barred) := ⟨rfl, rfl, rfl, by decide +kernel, rfl, by decide +kernel, by decide +kernel⟩
theorem c_Barred (G : Facts K mg) (G_copied : DCal P w K mg base 1 "copied" 1 m_copied []) (F : FunD K "__init__" "Barred.__init__" (L2.defArgs s_Barred) (L2.defBody s_Barred) (L2.defScope s_Barred) [] [] (He.fAd K ("Barred", some "__init__")) fd) : DMk P w K mg base 2 "Barred" 1 i_Barred :=
  dmk_of F sc_Barred rfl (G.mkr 1 "Barred" rfl) (G.g 1 "Barred" rfl) (G.cf 1 "Barred" rfl) (FunD.bindsN (ps := [("self" : Str), ("weights" : Str)]) F fun _ _ _ _ _ _ us hl => match us, hl with | [_, _], _ => rfl) (w_Barred G G_copied)
theorem c_Barred_K (G : Facts K mg) (G_copied : DCal P w K mg base 1 "copied" 1 m_copied []) (F : FunD K "__init__" "Barred.__init__" (L2.defArgs s_Barred) (L2.defBody s_Barred) (L2.defScope s_Barred) [] [] (He.fAd K ("Barred", some "__init__")) fd) : DMkK P w K mg base 2 "Barred" [("weights" : Str)] [0] i_Barred :=
  dmkK_of F sc_Barred (ps := [("self" : Str), ("weights" : Str)]) rfl (G.mkr 1 "Barred" rfl) (G.g 1 "Barred" rfl) (G.cf 1 "Barred" rfl) (fun _ _ _ _ _ _ us ws h1 h2 => match us, ws, h1, h2 with | [_], [_], _, _ => rfl) (w_Barred G G_copied)
theorem w_Best (G : Facts K mg) (G_copied : DCal P w K mg base 1 "copied" 1 m_copied []) (cdv : Value) (A : Around) (outer : List PySem.Env) (s : Shared) (H : Hp) (E : XK) (hr : RoomG 1 (A.deeper (envOfC "Best.__init__" (L2.defScope s_Best) s.heap.objs.size f cdv))) : DSI (bodyCx P w K mg base N_Best "Best.__init__" (L2.defScope s_Best) f cdv A outer s H E) (bodyW E) "Best" (L2.defBody s_Best) ((iSelf "row" (fun ρ => (((getV ρ 1) >>= fun d => (pure []) >>= fun ds => pure (d :: ds)) >>= fun ds => m_copied (ds ++ []))) (iSelf "weights" (fun ρ => (((getV ρ 2) >>= fun d => (pure []) >>= fun ds => pure (d :: ds)) >>= fun ds => m_copied (ds ++ []))) iNil))) := by
  have hN : N_Best.Nodup := by decide +kernel
  exact (dsi_self (fun _ h => G.na_Best_row h) (de_call G_copied hr bodyTk (da_cons (de_var 1) da_nil)) (dsi_self (fun _ h => G.na_Best_weights h) (de_call G_copied hr bodyTk (da_cons (de_var 2) da_nil)) dsi_nil))
theorem sc_Best : FnScope N_Best [("self" : Str), ("row" : Str), ("weights" : Str)] (L2.defScope s_Best) := ⟨rfl, rfl, rfl, by decide +kernel, rfl, by decide +kernel, by decide +kernel⟩
theorem c_Best (G : Facts K mg) (G_copied : DCal P w K mg base 1 "copied" 1 m_copied []) (F : FunD K "__init__" "Best.__init__" (L2.defArgs s_Best) (L2.defBody s_Best) (L2.defScope s_Best) [] [] (He.fAd K ("Best", some "__init__")) fd) : DMk P w K mg base 2 "Best" 2 i_Best :=
  dmk_of F sc_Best rfl (G.mkr 2 "Best" rfl) (G.g 2 "Best" rfl) (G.cf 2 "Best" rfl) (FunD.bindsN (ps := [("self" : Str), ("row" : Str), ("weights" : Str)]) F fun _ _ _ _ _ _ us hl => match us, hl with | [_, _, _], _ => rfl) (w_Best G G_copied)
theorem c_Best_K (G : Facts K mg) (G_copied : DCal P w K mg base 1 "copied" 1 m_copied []) (F : FunD K "__init__" "Best.__init__" (L2.defArgs s_Best) (L2.defBody s_Best) (L2.defScope s_Best) [] [] (He.fAd K ("Best", some "__init__")) fd) : DMkK P w K mg base 2 "Best" [("weights" : Str), ("row" : Str)] [1, 0] i_Best :=
  dmkK_of F sc_Best (ps := [("self" : Str), ("row" : Str), ("weights" : Str)]) rfl (G.mkr 2 "Best" rfl) (G.g 2 "Best" rfl) (G.cf 2 "Best" rfl) (fun _ _ _ _ _ _ us ws h1 h2 => match us, ws, h1, h2 with | [_], [_, _], _, _ => rfl) (w_Best G G_copied)
theorem w_Falls (G : Facts K mg) (G_copied : DCal P w K mg base 1 "copied" 1 m_copied []) (cdv : Value) (A : Around) (outer : List PySem.Env) (s : Shared) (H : Hp) (E : XK) (hr : RoomG 1 (A.deeper (envOfC "Falls.__init__" (L2.defScope s_Falls) s.heap.objs.size f cdv))) : DSI (bodyCx P w K mg base N_Falls "Falls.__init__" (L2.defScope s_Falls) f cdv A outer s H E) (bodyW E) "Falls" (L2.defBody s_Falls) ((iSelf "row" (fun ρ => (((getV ρ 1) >>= fun d => (pure []) >>= fun ds => pure (d :: ds)) >>= fun ds => m_copied (ds ++ []))) (iSelf "way" (fun ρ => (((getV ρ 2) >>= fun d => (pure []) >>= fun ds => pure (d :: ds)) >>= fun ds => m_copied (ds ++ []))) iNil))) := by
  have hN : N_Falls.Nodup := by decide +kernel
  exact (dsi_self (fun _ h => G.na_Falls_row h) (de_call G_copied hr bodyTk (da_cons (de_var 1) da_nil)) (dsi_self (fun _ h => G.na_Falls_way h) (de_call G_copied hr bodyTk (da_cons (de_var 2) da_nil)) dsi_nil))
theorem sc_Falls : FnScope N_Falls [("self" : Str), ("row" : Str), ("way" : Str)] (L2.defScope s_Falls) := ⟨rfl, rfl, rfl, by decide +kernel, rfl, by decide +kernel, by decide +kernel⟩
theorem c_Falls (G : Facts K mg) (G_copied : DCal P w K mg base 1 "copied" 1 m_copied []) (F : FunD K "__init__" "Falls.__init__" (L2.defArgs s_Falls) (L2.defBody s_Falls) (L2.defScope s_Falls) [] [] (He.fAd K ("Falls", some "__init__")) fd) : DMk P w K mg base 2 "Falls" 2 i_Falls :=
  dmk_of F sc_Falls rfl (G.mkr 3 "Falls" rfl) (G.g 3 "Falls" rfl) (G.cf 3 "Falls" rfl) (FunD.bindsN (ps := [("self" : Str), ("row" : Str), ("way" : Str)]) F fun _ _ _ _ _ _ us hl => match us, hl with | [_, _, _], _ => rfl) (w_Falls G G_copied)
theorem c_Falls_K (G : Facts K mg) (G_copied : DCal P w K mg base 1 "copied" 1 m_copied []) (F : FunD K "__init__" "Falls.__init__" (L2.defArgs s_Falls) (L2.defBody s_Falls) (L2.defScope s_Falls) [] [] (He.fAd K ("Falls", some "__init__")) fd) : DMkK P w K mg base 2 "Falls" [("way" : Str), ("row" : Str)] [1, 0] i_Falls :=
  dmkK_of F sc_Falls (ps := [("self" : Str), ("row" : Str), ("way" : Str)]) rfl (G.mkr 3 "Falls" rfl) (G.g 3 "Falls" rfl) (G.cf 3 "Falls" rfl) (fun _ _ _ _ _ _ us ws h1 h2 => match us, ws, h1, h2 with | [_], [_, _], _, _ => rfl) (w_Falls G G_copied)
theorem w_Never (G : Facts K mg) (G_copied : DCal P w K mg base 1 "copied" 1 m_copied []) (cdv : Value) (A : Around) (outer : List PySem.Env) (s : Shared) (H : Hp) (E : XK) (hr : RoomG 1 (A.deeper (envOfC "Never.__init__" (L2.defScope s_Never) s.heap.objs.size f cdv))) : DSI (bodyCx P w K mg base N_Never "Never.__init__" (L2.defScope s_Never) f cdv A outer s H E) (bodyW E) "Never" (L2.defBody s_Never) ((iSelf "weights" (fun ρ => (((getV ρ 1) >>= fun d => (pure []) >>= fun ds => pure (d :: ds)) >>= fun ds => m_copied (ds ++ []))) iNil)) := by
  have hN : N_Never.Nodup := by decide +kernel
  exact (dsi_self (fun _ h => G.na_Never_weights h) (de_call G_copied hr bodyTk (da_cons (de_var 1) da_nil)) dsi_nil)
theorem sc_Never : FnScope N_Never [("self" : Str), ("weights" : Str)] (L2.defScope s_Never) := ⟨rfl, rfl, rfl, by decide +kernel, rfl, by decide +kernel, by decide +kernel⟩
theorem c_Never (G : Facts K mg) (G_copied : DCal P w K mg base 1 "copied" 1 m_copied []) (F : FunD K "__init__" "Never.__init__" (L2.defArgs s_Never) (L2.defBody s_Never) (L2.defScope s_Never) [] [] (He.fAd K ("Never", some "__init__")) fd) : DMk P w K mg base 2 "Never" 1 i_Never :=
  dmk_of F sc_Never rfl (G.mkr 4 "Never" rfl) (G.g 4 "Never" rfl) (G.cf 4 "Never" rfl) (FunD.bindsN (ps := [("self" : Str), ("weights" : Str)]) F fun _ _ _ _ _ _ us hl => match us, hl with | [_, _], _ => rfl) (w_Never G G_copied)
theorem c_Never_K (G : Facts K mg) (G_copied : DCal P w K mg base 1 "copied" 1 m_copied []) (F : FunD K "__init__" "Never.__init__" (L2.defArgs s_Never) (L2.defBody s_Never) (L2.defScope s_Never) [] [] (He.fAd K ("Never", some "__init__")) fd) : DMkK P w K mg base 2 "Never" [("weights" : Str)] [0] i_Never :=
  dmkK_of F sc_Never (ps := [("self" : Str), ("weights" : Str)]) rfl (G.mkr 4 "Never" rfl) (G.g 4 "Never" rfl) (G.cf 4 "Never" rfl) (fun _ _ _ _ _ _ us ws h1 h2 => match us, ws, h1, h2 with | [_], [_], _, _ => rfl) (w_Never G G_copied)
theorem w_Answer (G : Facts K mg) (G_copied : DCal P w K mg base 1 "copied" 1 m_copied []) (cdv : Value) (A : Around) (outer : List PySem.Env) (s : Shared) (H : Hp) (E : XK) (hr : RoomG 1 (A.deeper (envOfC "Answer.__init__" (L2.defScope s_Answer) s.heap.objs.size f cdv))) : DSI (bodyCx P w K mg base N_Answer "Answer.__init__" (L2.defScope s_Answer) f cdv A outer s H E) (bodyW E) "Answer" (L2.defBody s_Answer) ((iSelf "row" (fun ρ => (((getV ρ 1) >>= fun d => (pure []) >>= fun ds => pure (d :: ds)) >>= fun ds => m_copied (ds ++ []))) iNil)) := by
  have hN : N_Answer.Nodup := by decide +kernel
  exact (dsi_self (fun _ h => G.na_Answer_row h) (de_call G_copied hr bodyTk (da_cons (de_var 1) da_nil)) dsi_nil)
theorem sc_Answer : FnScope N_Answer [("self" : Str), ("row" : Str)] (L2.defScope s_Answer) := ⟨rfl, rfl, rfl, by decide +kernel, rfl, by decide +kernel, by decide +kernel⟩
theorem c_Answer (G : Facts K mg) (G_copied : DCal P w K mg base 1 "copied" 1 m_copied []) (F : FunD K "__init__" "Answer.__init__" (L2.defArgs s_Answer) (L2.defBody s_Answer) (L2.defScope s_Answer) [] [] (He.fAd K ("Answer", some "__init__")) fd) : DMk P w K mg base 2 "Answer" 1 i_Answer :=
  dmk_of F sc_Answer rfl (G.mkr 5 "Answer" rfl) (G.g 5 "Answer" rfl) (G.cf 5 "Answer" rfl) (FunD.bindsN (ps := [("self" : Str), ("row" : Str)]) F fun _ _ _ _ _ _ us hl => match us, hl with | [_, _], _ => rfl) (w_Answer G G_copied)
theorem c_Answer_K (G : Facts K mg) (G_copied : DCal P w K mg base 1 "copied" 1 m_copied []) (F : FunD K "__init__" "Answer.__init__" (L2.defArgs s_Answer) (L2.defBody s_Answer) (L2.defScope s_Answer) [] [] (He.fAd K ("Answer", some "__init__")) fd) : DMkK P w K mg base 2 "Answer" [("row" : Str)] [0] i_Answer :=
  dmkK_of F sc_Answer (ps := [("self" : Str), ("row" : Str)]) rfl (G.mkr 5 "Answer" rfl) (G.g 5 "Answer" rfl) (G.cf 5 "Answer" rfl) (fun _ _ _ _ _ _ us ws h1 h2 => match us, ws, h1, h2 with | [_], [_], _, _ => rfl) (w_Answer G G_copied)
theorem w_Against (G : Facts K mg) (G_copied : DCal P w K mg base 1 "copied" 1 m_copied []) (cdv : Value) (A : Around) (outer : List PySem.Env) (s : Shared) (H : Hp) (E : XK) (hr : RoomG 1 (A.deeper (envOfC "Against.__init__" (L2.defScope s_Against) s.heap.objs.size f cdv))) : DSI (bodyCx P w K mg base N_Against "Against.__init__" (L2.defScope s_Against) f cdv A outer s H E) (bodyW E) "Against" (L2.defBody s_Against) ((iSelf "move" (fun ρ => (((getV ρ 1) >>= fun d => (pure []) >>= fun ds => pure (d :: ds)) >>= fun ds => m_copied (ds ++ []))) iNil)) := by
  have hN : N_Against.Nodup := by decide +kernel
  exact (dsi_self (fun _ h => G.na_Against_move h) (de_call G_copied hr bodyTk (da_cons (de_var 1) da_nil)) dsi_nil)
theorem sc_Against : FnScope N_Against [("self" : Str), ("move" : Str)] (L2.defScope s_Against) := ⟨rfl, rfl, rfl, by decide +kernel, rfl, by decide +kernel, by decide +kernel⟩
theorem c_Against (G : Facts K mg) (G_copied : DCal P w K mg base 1 "copied" 1 m_copied []) (F : FunD K "__init__" "Against.__init__" (L2.defArgs s_Against) (L2.defBody s_Against) (L2.defScope s_Against) [] [] (He.fAd K ("Against", some "__init__")) fd) : DMk P w K mg base 2 "Against" 1 i_Against :=
  dmk_of F sc_Against rfl (G.mkr 6 "Against" rfl) (G.g 6 "Against" rfl) (G.cf 6 "Against" rfl) (FunD.bindsN (ps := [("self" : Str), ("move" : Str)]) F fun _ _ _ _ _ _ us hl => match us, hl with | [_, _], _ => rfl) (w_Against G G_copied)
theorem c_Against_K (G : Facts K mg) (G_copied : DCal P w K mg base 1 "copied" 1 m_copied []) (F : FunD K "__init__" "Against.__init__" (L2.defArgs s_Against) (L2.defBody s_Against) (L2.defScope s_Against) [] [] (He.fAd K ("Against", some "__init__")) fd) : DMkK P w K mg base 2 "Against" [("move" : Str)] [0] i_Against :=
  dmkK_of F sc_Against (ps := [("self" : Str), ("move" : Str)]) rfl (G.mkr 6 "Against" rfl) (G.g 6 "Against" rfl) (G.cf 6 "Against" rfl) (fun _ _ _ _ _ _ us ws h1 h2 => match us, ws, h1, h2 with | [_], [_], _, _ => rfl) (w_Against G G_copied)
theorem w_Stiff (G : Facts K mg) (G_copied : DCal P w K mg base 1 "copied" 1 m_copied []) (cdv : Value) (A : Around) (outer : List PySem.Env) (s : Shared) (H : Hp) (E : XK) (hr : RoomG 1 (A.deeper (envOfC "Stiff.__init__" (L2.defScope s_Stiff) s.heap.objs.size f cdv))) : DSI (bodyCx P w K mg base N_Stiff "Stiff.__init__" (L2.defScope s_Stiff) f cdv A outer s H E) (bodyW E) "Stiff" (L2.defBody s_Stiff) ((iSelf "answers" (fun ρ => (((getV ρ 1) >>= fun d => (pure []) >>= fun ds => pure (d :: ds)) >>= fun ds => m_copied (ds ++ []))) iNil)) := by
  have hN : N_Stiff.Nodup := by decide +kernel
  exact (dsi_self (fun _ h => G.na_Stiff_answers h) (de_call G_copied hr bodyTk (da_cons (de_var 1) da_nil)) dsi_nil)
theorem sc_Stiff : FnScope N_Stiff [("self" : Str), ("answers" : Str)] (L2.defScope s_Stiff) := ⟨rfl, rfl, rfl, by decide +kernel, rfl, by decide +kernel, by decide +kernel⟩
theorem c_Stiff (G : Facts K mg) (G_copied : DCal P w K mg base 1 "copied" 1 m_copied []) (F : FunD K "__init__" "Stiff.__init__" (L2.defArgs s_Stiff) (L2.defBody s_Stiff) (L2.defScope s_Stiff) [] [] (He.fAd K ("Stiff", some "__init__")) fd) : DMk P w K mg base 2 "Stiff" 1 i_Stiff :=
  dmk_of F sc_Stiff rfl (G.mkr 7 "Stiff" rfl) (G.g 7 "Stiff" rfl) (G.cf 7 "Stiff" rfl) (FunD.bindsN (ps := [("self" : Str), ("answers" : Str)]) F fun _ _ _ _ _ _ us hl => match us, hl with | [_, _], _ => rfl) (w_Stiff G G_copied)
theorem c_Stiff_K (G : Facts K mg) (G_copied : DCal P w K mg base 1 "copied" 1 m_copied []) (F : FunD K "__init__" "Stiff.__init__" (L2.defArgs s_Stiff) (L2.defBody s_Stiff) (L2.defScope s_Stiff) [] [] (He.fAd K ("Stiff", some "__init__")) fd) : DMkK P w K mg base 2 "Stiff" [("answers" : Str)] [0] i_Stiff :=
  dmkK_of F sc_Stiff (ps := [("self" : Str), ("answers" : Str)]) rfl (G.mkr 7 "Stiff" rfl) (G.g 7 "Stiff" rfl) (G.cf 7 "Stiff" rfl) (fun _ _ _ _ _ _ us ws h1 h2 => match us, ws, h1, h2 with | [_], [_], _, _ => rfl) (w_Stiff G G_copied)
theorem w_Loose (G : Facts K mg) (G_copied : DCal P w K mg base 1 "copied" 1 m_copied []) (cdv : Value) (A : Around) (outer : List PySem.Env) (s : Shared) (H : Hp) (E : XK) (hr : RoomG 1 (A.deeper (envOfC "Loose.__init__" (L2.defScope s_Loose) s.heap.objs.size f cdv))) : DSI (bodyCx P w K mg base N_Loose "Loose.__init__" (L2.defScope s_Loose) f cdv A outer s H E) (bodyW E) "Loose" (L2.defBody s_Loose) ((iSelf "move" (fun ρ => (((getV ρ 1) >>= fun d => (pure []) >>= fun ds => pure (d :: ds)) >>= fun ds => m_copied (ds ++ []))) iNil)) := by
  have hN : N_Loose.Nodup := by decide +kernel
  exact (dsi_self (fun _ h => G.na_Loose_move h) (de_call G_copied hr bodyTk (da_cons (de_var 1) da_nil)) dsi_nil)
theorem sc_Loose : FnScope N_Loose [("self" : Str), ("move" : Str)] (L2.defScope s_Loose) := ⟨rfl, rfl, rfl, by decide +kernel, rfl, by decide +kernel, by decide +kernel⟩
theorem c_Loose (G : Facts K mg) (G_copied : DCal P w K mg base 1 "copied" 1 m_copied []) (F : FunD K "__init__" "Loose.__init__" (L2.defArgs s_Loose) (L2.defBody s_Loose) (L2.defScope s_Loose) [] [] (He.fAd K ("Loose", some "__init__")) fd) : DMk P w K mg base 2 "Loose" 1 i_Loose :=
  dmk_of F sc_Loose rfl (G.mkr 8 "Loose" rfl) (G.g 8 "Loose" rfl) (G.cf 8 "Loose" rfl) (FunD.bindsN (ps := [("self" : Str), ("move" : Str)]) F fun _ _ _ _ _ _ us hl => match us, hl with | [_, _], _ => rfl) (w_Loose G G_copied)
theorem c_Loose_K (G : Facts K mg) (G_copied : DCal P w K mg base 1 "copied" 1 m_copied []) (F : FunD K "__init__" "Loose.__init__" (L2.defArgs s_Loose) (L2.defBody s_Loose) (L2.defScope s_Loose) [] [] (He.fAd K ("Loose", some "__init__")) fd) : DMkK P w K mg base 2 "Loose" [("move" : Str)] [0] i_Loose :=
  dmkK_of F sc_Loose (ps := [("self" : Str), ("move" : Str)]) rfl (G.mkr 8 "Loose" rfl) (G.g 8 "Loose" rfl) (G.cf 8 "Loose" rfl) (fun _ _ _ _ _ _ us ws h1 h2 => match us, ws, h1, h2 with | [_], [_], _, _ => rfl) (w_Loose G G_copied)
theorem w_Free (G : Facts K mg) (G_copied : DCal P w K mg base 1 "copied" 1 m_copied []) (cdv : Value) (A : Around) (outer : List PySem.Env) (s : Shared) (H : Hp) (E : XK) (hr : RoomG 1 (A.deeper (envOfC "Free.__init__" (L2.defScope s_Free) s.heap.objs.size f cdv))) : DSI (bodyCx P w K mg base N_Free "Free.__init__" (L2.defScope s_Free) f cdv A outer s H E) (bodyW E) "Free" (L2.defBody s_Free) ((iSelf "points" (fun ρ => (((getV ρ 1) >>= fun d => (pure []) >>= fun ds => pure (d :: ds)) >>= fun ds => m_copied (ds ++ []))) iNil)) := by
  have hN : N_Free.Nodup := by decide +kernel
  exact (dsi_self (fun _ h => G.na_Free_points h) (de_call G_copied hr bodyTk (da_cons (de_var 1) da_nil)) dsi_nil)
theorem sc_Free : FnScope N_Free [("self" : Str), ("points" : Str)] (L2.defScope s_Free) := ⟨rfl, rfl, rfl, by decide +kernel, rfl, by decide +kernel, by decide +kernel⟩
theorem c_Free (G : Facts K mg) (G_copied : DCal P w K mg base 1 "copied" 1 m_copied []) (F : FunD K "__init__" "Free.__init__" (L2.defArgs s_Free) (L2.defBody s_Free) (L2.defScope s_Free) [] [] (He.fAd K ("Free", some "__init__")) fd) : DMk P w K mg base 2 "Free" 1 i_Free :=
  dmk_of F sc_Free rfl (G.mkr 9 "Free" rfl) (G.g 9 "Free" rfl) (G.cf 9 "Free" rfl) (FunD.bindsN (ps := [("self" : Str), ("points" : Str)]) F fun _ _ _ _ _ _ us hl => match us, hl with | [_, _], _ => rfl) (w_Free G G_copied)
theorem c_Free_K (G : Facts K mg) (G_copied : DCal P w K mg base 1 "copied" 1 m_copied []) (F : FunD K "__init__" "Free.__init__" (L2.defArgs s_Free) (L2.defBody s_Free) (L2.defScope s_Free) [] [] (He.fAd K ("Free", some "__init__")) fd) : DMkK P w K mg base 2 "Free" [("points" : Str)] [0] i_Free :=
  dmkK_of F sc_Free (ps := [("self" : Str), ("points" : Str)]) rfl (G.mkr 9 "Free" rfl) (G.g 9 "Free" rfl) (G.cf 9 "Free" rfl) (fun _ _ _ _ _ _ us ws h1 h2 => match us, ws, h1, h2 with | [_], [_], _, _ => rfl) (w_Free G G_copied)
theorem w_Crowded (G : Facts K mg) (G_copied : DCal P w K mg base 1 "copied" 1 m_copied []) (cdv : Value) (A : Around) (outer : List PySem.Env) (s : Shared) (H : Hp) (E : XK) (hr : RoomG 1 (A.deeper (envOfC "Crowded.__init__" (L2.defScope s_Crowded) s.heap.objs.size f cdv))) : DSI (bodyCx P w K mg base N_Crowded "Crowded.__init__" (L2.defScope s_Crowded) f cdv A outer s H E) (bodyW E) "Crowded" (L2.defBody s_Crowded) ((iSelf "joints" (fun ρ => (((getV ρ 1) >>= fun d => (pure []) >>= fun ds => pure (d :: ds)) >>= fun ds => m_copied (ds ++ []))) iNil)) := by
  have hN : N_Crowded.Nodup := by decide +kernel
  exact (dsi_self (fun _ h => G.na_Crowded_joints h) (de_call G_copied hr bodyTk (da_cons (de_var 1) da_nil)) dsi_nil)
theorem sc_Crowded : FnScope N_Crowded [("self" : Str), ("joints" : Str)] (L2.defScope s_Crowded) := ⟨rfl, rfl, rfl, by decide +kernel, rfl, by decide +kernel, by decide +kernel⟩
theorem c_Crowded (G : Facts K mg) (G_copied : DCal P w K mg base 1 "copied" 1 m_copied []) (F : FunD K "__init__" "Crowded.__init__" (L2.defArgs s_Crowded) (L2.defBody s_Crowded) (L2.defScope s_Crowded) [] [] (He.fAd K ("Crowded", some "__init__")) fd) : DMk P w K mg base 2 "Crowded" 1 i_Crowded :=
  dmk_of F sc_Crowded rfl (G.mkr 10 "Crowded" rfl) (G.g 10 "Crowded" rfl) (G.cf 10 "Crowded" rfl) (FunD.bindsN (ps := [("self" : Str), ("joints" : Str)]) F fun _ _ _ _ _ _ us hl => match us, hl with | [_, _], _ => rfl) (w_Crowded G G_copied)
theorem c_Crowded_K (G : Facts K mg) (G_copied : DCal P w K mg base 1 "copied" 1 m_copied []) (F : FunD K "__init__" "Crowded.__init__" (L2.defArgs s_Crowded) (L2.defBody s_Crowded) (L2.defScope s_Crowded) [] [] (He.fAd K ("Crowded", some "__init__")) fd) : DMkK P w K mg base 2 "Crowded" [("joints" : Str)] [0] i_Crowded :=
  dmkK_of F sc_Crowded (ps := [("self" : Str), ("joints" : Str)]) rfl (G.mkr 10 "Crowded" rfl) (G.g 10 "Crowded" rfl) (G.cf 10 "Crowded" rfl) (fun _ _ _ _ _ _ us ws h1 h2 => match us, ws, h1, h2 with | [_], [_], _, _ => rfl) (w_Crowded G G_copied)
theorem w_Grown (G : Facts K mg) (G_copied : DCal P w K mg base 1 "copied" 1 m_copied []) (cdv : Value) (A : Around) (outer : List PySem.Env) (s : Shared) (H : Hp) (E : XK) (hr : RoomG 1 (A.deeper (envOfC "Grown.__init__" (L2.defScope s_Grown) s.heap.objs.size f cdv))) : DSI (bodyCx P w K mg base N_Grown "Grown.__init__" (L2.defScope s_Grown) f cdv A outer s H E) (bodyW E) "Grown" (L2.defBody s_Grown) ((iSelf "steps" (fun ρ => (((getV ρ 1) >>= fun d => (pure []) >>= fun ds => pure (d :: ds)) >>= fun ds => m_copied (ds ++ []))) iNil)) := by
  have hN : N_Grown.Nodup := by decide +kernel
  exact (dsi_self (fun _ h => G.na_Grown_steps h) (de_call G_copied hr bodyTk (da_cons (de_var 1) da_nil)) dsi_nil)
theorem sc_Grown : FnScope N_Grown [("self" : Str), ("steps" : Str)] (L2.defScope s_Grown) := ⟨rfl, rfl, rfl, by decide +kernel, rfl, by decide +kernel, by decide +kernel⟩
theorem c_Grown (G : Facts K mg) (G_copied : DCal P w K mg base 1 "copied" 1 m_copied []) (F : FunD K "__init__" "Grown.__init__" (L2.defArgs s_Grown) (L2.defBody s_Grown) (L2.defScope s_Grown) [] [] (He.fAd K ("Grown", some "__init__")) fd) : DMk P w K mg base 2 "Grown" 1 i_Grown :=
  dmk_of F sc_Grown rfl (G.mkr 11 "Grown" rfl) (G.g 11 "Grown" rfl) (G.cf 11 "Grown" rfl) (FunD.bindsN (ps := [("self" : Str), ("steps" : Str)]) F fun _ _ _ _ _ _ us hl => match us, hl with | [_, _], _ => rfl) (w_Grown G G_copied)
theorem c_Grown_K (G : Facts K mg) (G_copied : DCal P w K mg base 1 "copied" 1 m_copied []) (F : FunD K "__init__" "Grown.__init__" (L2.defArgs s_Grown) (L2.defBody s_Grown) (L2.defScope s_Grown) [] [] (He.fAd K ("Grown", some "__init__")) fd) : DMkK P w K mg base 2 "Grown" [("steps" : Str)] [0] i_Grown :=
  dmkK_of F sc_Grown (ps := [("self" : Str), ("steps" : Str)]) rfl (G.mkr 11 "Grown" rfl) (G.g 11 "Grown" rfl) (G.cf 11 "Grown" rfl) (fun _ _ _ _ _ _ us ws h1 h2 => match us, ws, h1, h2 with | [_], [_], _, _ => rfl) (w_Grown G G_copied)
theorem w_Covered (G : Facts K mg) (G_copied : DCal P w K mg base 1 "copied" 1 m_copied []) (cdv : Value) (A : Around) (outer : List PySem.Env) (s : Shared) (H : Hp) (E : XK) (hr : RoomG 1 (A.deeper (envOfC "Covered.__init__" (L2.defScope s_Covered) s.heap.objs.size f cdv))) : DSI (bodyCx P w K mg base N_Covered "Covered.__init__" (L2.defScope s_Covered) f cdv A outer s H E) (bodyW E) "Covered" (L2.defBody s_Covered) ((iSelf "lots" (fun ρ => (((getV ρ 1) >>= fun d => (pure []) >>= fun ds => pure (d :: ds)) >>= fun ds => m_copied (ds ++ []))) iNil)) := by
  have hN : N_Covered.Nodup := by decide +kernel
  exact (dsi_self (fun _ h => G.na_Covered_lots h) (de_call G_copied hr bodyTk (da_cons (de_var 1) da_nil)) dsi_nil)
theorem sc_Covered : FnScope N_Covered [("self" : Str), ("lots" : Str)] (L2.defScope s_Covered) := ⟨rfl, rfl, rfl, by decide +kernel, rfl, by decide +kernel, by decide +kernel⟩
theorem c_Covered (G : Facts K mg) (G_copied : DCal P w K mg base 1 "copied" 1 m_copied []) (F : FunD K "__init__" "Covered.__init__" (L2.defArgs s_Covered) (L2.defBody s_Covered) (L2.defScope s_Covered) [] [] (He.fAd K ("Covered", some "__init__")) fd) : DMk P w K mg base 2 "Covered" 1 i_Covered :=
  dmk_of F sc_Covered rfl (G.mkr 12 "Covered" rfl) (G.g 12 "Covered" rfl) (G.cf 12 "Covered" rfl) (FunD.bindsN (ps := [("self" : Str), ("lots" : Str)]) F fun _ _ _ _ _ _ us hl => match us, hl with | [_, _], _ => rfl) (w_Covered G G_copied)
theorem c_Covered_K (G : Facts K mg) (G_copied : DCal P w K mg base 1 "copied" 1 m_copied []) (F : FunD K "__init__" "Covered.__init__" (L2.defArgs s_Covered) (L2.defBody s_Covered) (L2.defScope s_Covered) [] [] (He.fAd K ("Covered", some "__init__")) fd) : DMkK P w K mg base 2 "Covered" [("lots" : Str)] [0] i_Covered :=
  dmkK_of F sc_Covered (ps := [("self" : Str), ("lots" : Str)]) rfl (G.mkr 12 "Covered" rfl) (G.g 12 "Covered" rfl) (G.cf 12 "Covered" rfl) (fun _ _ _ _ _ _ us ws h1 h2 => match us, ws, h1, h2 with | [_], [_], _, _ => rfl) (w_Covered G G_copied)
theorem w_Opens (G : Facts K mg) (G_copied : DCal P w K mg base 1 "copied" 1 m_copied []) (cdv : Value) (A : Around) (outer : List PySem.Env) (s : Shared) (H : Hp) (E : XK) (hr : RoomG 1 (A.deeper (envOfC "Opens.__init__" (L2.defScope s_Opens) s.heap.objs.size f cdv))) : DSI (bodyCx P w K mg base N_Opens "Opens.__init__" (L2.defScope s_Opens) f cdv A outer s H E) (bodyW E) "Opens" (L2.defBody s_Opens) ((iSelf "points" (fun ρ => (((getV ρ 1) >>= fun d => (pure []) >>= fun ds => pure (d :: ds)) >>= fun ds => m_copied (ds ++ []))) iNil)) := by
  have hN : N_Opens.Nodup := by decide +kernel
  exact (dsi_self (fun _ h => G.na_Opens_points h) (de_call G_copied hr bodyTk (da_cons (de_var 1) da_nil)) dsi_nil)
theorem sc_Opens : FnScope N_Opens [("self" : Str), ("points" : Str)] (L2.defScope s_Opens) := ⟨rfl, rfl, rfl, by decide +kernel, rfl, by decide +kernel, by decide +kernel⟩
theorem c_Opens (G : Facts K mg) (G_copied : DCal P w K mg base 1 "copied" 1 m_copied []) (F : FunD K "__init__" "Opens.__init__" (L2.defArgs s_Opens) (L2.defBody s_Opens) (L2.defScope s_Opens) [] [] (He.fAd K ("Opens", some "__init__")) fd) : DMk P w K mg base 2 "Opens" 1 i_Opens :=
  dmk_of F sc_Opens rfl (G.mkr 13 "Opens" rfl) (G.g 13 "Opens" rfl) (G.cf 13 "Opens" rfl) (FunD.bindsN (ps := [("self" : Str), ("points" : Str)]) F fun _ _ _ _ _ _ us hl => match us, hl with | [_, _], _ => rfl) (w_Opens G G_copied)
theorem c_Opens_K (G : Facts K mg) (G_copied : DCal P w K mg base 1 "copied" 1 m_copied []) (F : FunD K "__init__" "Opens.__init__" (L2.defArgs s_Opens) (L2.defBody s_Opens) (L2.defScope s_Opens) [] [] (He.fAd K ("Opens", some "__init__")) fd) : DMkK P w K mg base 2 "Opens" [("points" : Str)] [0] i_Opens :=
  dmkK_of F sc_Opens (ps := [("self" : Str), ("points" : Str)]) rfl (G.mkr 13 "Opens" rfl) (G.g 13 "Opens" rfl) (G.cf 13 "Opens" rfl) (fun _ _ _ _ _ _ us ws h1 h2 => match us, ws, h1, h2 with | [_], [_], _, _ => rfl) (w_Opens G G_copied)
theorem w_Shuts (G : Facts K mg) (G_copied : DCal P w K mg base 1 "copied" 1 m_copied []) (cdv : Value) (A : Around) (outer : List PySem.Env) (s : Shared) (H : Hp) (E : XK) (hr : RoomG 1 (A.deeper (envOfC "Shuts.__init__" (L2.defScope s_Shuts) s.heap.objs.size f cdv))) : DSI (bodyCx P w K mg base N_Shuts "Shuts.__init__" (L2.defScope s_Shuts) f cdv A outer s H E) (bodyW E) "Shuts" (L2.defBody s_Shuts) ((iSelf "tie" (fun ρ => (((getV ρ 1) >>= fun d => (pure []) >>= fun ds => pure (d :: ds)) >>= fun ds => m_copied (ds ++ []))) (iSelf "weights" (fun ρ => (((getV ρ 2) >>= fun d => (pure []) >>= fun ds => pure (d :: ds)) >>= fun ds => m_copied (ds ++ []))) iNil))) := by
  have hN : N_Shuts.Nodup := by decide +kernel
  exact (dsi_self (fun _ h => G.na_Shuts_tie h) (de_call G_copied hr bodyTk (da_cons (de_var 1) da_nil)) (dsi_self (fun _ h => G.na_Shuts_weights h) (de_call G_copied hr bodyTk (da_cons (de_var 2) da_nil)) dsi_nil))
theorem sc_Shuts : FnScope N_Shuts [("self" : Str), ("tie" : Str), ("weights" : Str)] (L2.defScope s_Shuts) := ⟨rfl, rfl, rfl, by decide +kernel, rfl, by decide +kernel, by decide +kernel⟩
theorem c_Shuts (G : Facts K mg) (G_copied : DCal P w K mg base 1 "copied" 1 m_copied []) (F : FunD K "__init__" "Shuts.__init__" (L2.defArgs s_Shuts) (L2.defBody s_Shuts) (L2.defScope s_Shuts) [] [] (He.fAd K ("Shuts", some "__init__")) fd) : DMk P w K mg base 2 "Shuts" 2 i_Shuts :=
  dmk_of F sc_Shuts rfl (G.mkr 14 "Shuts" rfl) (G.g 14 "Shuts" rfl) (G.cf 14 "Shuts" rfl) (FunD.bindsN (ps := [("self" : Str), ("tie" : Str), ("weights" : Str)]) F fun _ _ _ _ _ _ us hl => match us, hl with | [_, _, _], _ => rfl) (w_Shuts G G_copied)
theorem c_Shuts_K (G : Facts K mg) (G_copied : DCal P w K mg base 1 "copied" 1 m_copied []) (F : FunD K "__init__" "Shuts.__init__" (L2.defArgs s_Shuts) (L2.defBody s_Shuts) (L2.defScope s_Shuts) [] [] (He.fAd K ("Shuts", some "__init__")) fd) : DMkK P w K mg base 2 "Shuts" [("weights" : Str), ("tie" : Str)] [1, 0] i_Shuts :=
  dmkK_of F sc_Shuts (ps := [("self" : Str), ("tie" : Str), ("weights" : Str)]) rfl (G.mkr 14 "Shuts" rfl) (G.g 14 "Shuts" rfl) (G.cf 14 "Shuts" rfl) (fun _ _ _ _ _ _ us ws h1 h2 => match us, ws, h1, h2 with | [_], [_, _], _, _ => rfl) (w_Shuts G G_copied)
theorem w_Forests (G : Facts K mg) (G_copied : DCal P w K mg base 1 "copied" 1 m_copied []) (cdv : Value) (A : Around) (outer : List PySem.Env) (s : Shared) (H : Hp) (E : XK) (hr : RoomG 1 (A.deeper (envOfC "Forests.__init__" (L2.defScope s_Forests) s.heap.objs.size f cdv))) : DSI (bodyCx P w K mg base N_Forests "Forests.__init__" (L2.defScope s_Forests) f cdv A outer s H E) (bodyW E) "Forests" (L2.defBody s_Forests) ((iSelf "rows" (fun ρ => (((getV ρ 1) >>= fun d => (pure []) >>= fun ds => pure (d :: ds)) >>= fun ds => m_copied (ds ++ []))) iNil)) := by
  have hN : N_Forests.Nodup := by decide +kernel
  exact (dsi_self (fun _ h => G.na_Forests_rows h) (de_call G_copied hr bodyTk (da_cons (de_var 1) da_nil)) dsi_nil)
theorem sc_Forests : FnScope N_Forests [("self" : Str), ("rows" : Str)] (L2.defScope s_Forests) := ⟨rfl, rfl, rfl, by decide +kernel, rfl, by decide +kernel, by decide +kernel⟩
theorem c_Forests (G : Facts K mg) (G_copied : DCal P w K mg base 1 "copied" 1 m_copied []) (F : FunD K "__init__" "Forests.__init__" (L2.defArgs s_Forests) (L2.defBody s_Forests) (L2.defScope s_Forests) [] [] (He.fAd K ("Forests", some "__init__")) fd) : DMk P w K mg base 2 "Forests" 1 i_Forests :=
  dmk_of F sc_Forests rfl (G.mkr 15 "Forests" rfl) (G.g 15 "Forests" rfl) (G.cf 15 "Forests" rfl) (FunD.bindsN (ps := [("self" : Str), ("rows" : Str)]) F fun _ _ _ _ _ _ us hl => match us, hl with | [_, _], _ => rfl) (w_Forests G G_copied)
theorem c_Forests_K (G : Facts K mg) (G_copied : DCal P w K mg base 1 "copied" 1 m_copied []) (F : FunD K "__init__" "Forests.__init__" (L2.defArgs s_Forests) (L2.defBody s_Forests) (L2.defScope s_Forests) [] [] (He.fAd K ("Forests", some "__init__")) fd) : DMkK P w K mg base 2 "Forests" [("rows" : Str)] [0] i_Forests :=
  dmkK_of F sc_Forests (ps := [("self" : Str), ("rows" : Str)]) rfl (G.mkr 15 "Forests" rfl) (G.g 15 "Forests" rfl) (G.cf 15 "Forests" rfl) (fun _ _ _ _ _ _ us ws h1 h2 => match us, ws, h1, h2 with | [_], [_], _, _ => rfl) (w_Forests G G_copied)
theorem w_Thicket (G : Facts K mg) (G_copied : DCal P w K mg base 1 "copied" 1 m_copied []) (cdv : Value) (A : Around) (outer : List PySem.Env) (s : Shared) (H : Hp) (E : XK) (hr : RoomG 1 (A.deeper (envOfC "Thicket.__init__" (L2.defScope s_Thicket) s.heap.objs.size f cdv))) : DSI (bodyCx P w K mg base N_Thicket "Thicket.__init__" (L2.defScope s_Thicket) f cdv A outer s H E) (bodyW E) "Thicket" (L2.defBody s_Thicket) ((iSelf "joints" (fun ρ => (((getV ρ 1) >>= fun d => (pure []) >>= fun ds => pure (d :: ds)) >>= fun ds => m_copied (ds ++ []))) iNil)) := by
  have hN : N_Thicket.Nodup := by decide +kernel
  exact (dsi_self (fun _ h => G.na_Thicket_joints h) (de_call G_copied hr bodyTk (da_cons (de_var 1) da_nil)) dsi_nil)
theorem sc_Thicket : FnScope N_Thicket [("self" : Str), ("joints" : Str)] (L2.defScope s_Thicket) := ⟨rfl, rfl, rfl, by decide +kernel, rfl, by decide +kernel, by decide +kernel⟩
theorem c_Thicket (G : Facts K mg) (G_copied : DCal P w K mg base 1 "copied" 1 m_copied []) (F : FunD K "__init__" "Thicket.__init__" (L2.defArgs s_Thicket) (L2.defBody s_Thicket) (L2.defScope s_Thicket) [] [] (He.fAd K ("Thicket", some "__init__")) fd) : DMk P w K mg base 2 "Thicket" 1 i_Thicket :=
  dmk_of F sc_Thicket rfl (G.mkr 16 "Thicket" rfl) (G.g 16 "Thicket" rfl) (G.cf 16 "Thicket" rfl) (FunD.bindsN (ps := [("self" : Str), ("joints" : Str)]) F fun _ _ _ _ _ _ us hl => match us, hl with | [_, _], _ => rfl) (w_Thicket G G_copied)
theorem c_Thicket_K (G : Facts K mg) (G_copied : DCal P w K mg base 1 "copied" 1 m_copied []) (F : FunD K "__init__" "Thicket.__init__" (L2.defArgs s_Thicket) (L2.defBody s_Thicket) (L2.defScope s_Thicket) [] [] (He.fAd K ("Thicket", some "__init__")) fd) : DMkK P w K mg base 2 "Thicket" [("joints" : Str)] [0] i_Thicket :=
  dmkK_of F sc_Thicket (ps := [("self" : Str), ("joints" : Str)]) rfl (G.mkr 16 "Thicket" rfl) (G.g 16 "Thicket" rfl) (G.cf 16 "Thicket" rfl) (fun _ _ _ _ _ _ us ws h1 h2 => match us, ws, h1, h2 with | [_], [_], _, _ => rfl) (w_Thicket G G_copied)
theorem w_Trees (G : Facts K mg) (G_copied : DCal P w K mg base 1 "copied" 1 m_copied []) (cdv : Value) (A : Around) (outer : List PySem.Env) (s : Shared) (H : Hp) (E : XK) (hr : RoomG 1 (A.deeper (envOfC "Trees.__init__" (L2.defScope s_Trees) s.heap.objs.size f cdv))) : DSI (bodyCx P w K mg base N_Trees "Trees.__init__" (L2.defScope s_Trees) f cdv A outer s H E) (bodyW E) "Trees" (L2.defBody s_Trees) ((iSelf "rows" (fun ρ => (((getV ρ 1) >>= fun d => (pure []) >>= fun ds => pure (d :: ds)) >>= fun ds => m_copied (ds ++ []))) iNil)) := by
  have hN : N_Trees.Nodup := by decide +kernel
  exact (dsi_self (fun _ h => G.na_Trees_rows h) (de_call G_copied hr bodyTk (da_cons (de_var 1) da_nil)) dsi_nil)
theorem sc_Trees : FnScope N_Trees [("self" : Str), ("rows" : Str)] (L2.defScope s_Trees) := ⟨rfl, rfl, rfl, by decide +kernel, rfl, by decide +kernel, by decide +kernel⟩
theorem c_Trees (G : Facts K mg) (G_copied : DCal P w K mg base 1 "copied" 1 m_copied []) (F : FunD K "__init__" "Trees.__init__" (L2.defArgs s_Trees) (L2.defBody s_Trees) (L2.defScope s_Trees) [] [] (He.fAd K ("Trees", some "__init__")) fd) : DMk P w K mg base 2 "Trees" 1 i_Trees :=
  dmk_of F sc_Trees rfl (G.mkr 17 "Trees" rfl) (G.g 17 "Trees" rfl) (G.cf 17 "Trees" rfl) (FunD.bindsN (ps := [("self" : Str), ("rows" : Str)]) F fun _ _ _ _ _ _ us hl => match us, hl with | [_, _], _ => rfl) (w_Trees G G_copied)
theorem c_Trees_K (G : Facts K mg) (G_copied : DCal P w K mg base 1 "copied" 1 m_copied []) (F : FunD K "__init__" "Trees.__init__" (L2.defArgs s_Trees) (L2.defBody s_Trees) (L2.defScope s_Trees) [] [] (He.fAd K ("Trees", some "__init__")) fd) : DMkK P w K mg base 2 "Trees" [("rows" : Str)] [0] i_Trees :=
  dmkK_of F sc_Trees (ps := [("self" : Str), ("rows" : Str)]) rfl (G.mkr 17 "Trees" rfl) (G.g 17 "Trees" rfl) (G.cf 17 "Trees" rfl) (fun _ _ _ _ _ _ us ws h1 h2 => match us, ws, h1, h2 with | [_], [_], _, _ => rfl) (w_Trees G G_copied)
theorem w_Split (G : Facts K mg) (G_copied : DCal P w K mg base 1 "copied" 1 m_copied []) (cdv : Value) (A : Around) (outer : List PySem.Env) (s : Shared) (H : Hp) (E : XK) (hr : RoomG 1 (A.deeper (envOfC "Split.__init__" (L2.defScope s_Split) s.heap.objs.size f cdv))) : DSI (bodyCx P w K mg base N_Split "Split.__init__" (L2.defScope s_Split) f cdv A outer s H E) (bodyW E) "Split" (L2.defBody s_Split) ((iSelf "lots" (fun ρ => (((getV ρ 1) >>= fun d => (pure []) >>= fun ds => pure (d :: ds)) >>= fun ds => m_copied (ds ++ []))) iNil)) := by
  have hN : N_Split.Nodup := by decide +kernel
  exact (dsi_self (fun _ h => G.na_Split_lots h) (de_call G_copied hr bodyTk (da_cons (de_var 1) da_nil)) dsi_nil)
theorem sc_Split : FnScope N_Split [("self" : Str), ("lots" : Str)] (L2.defScope s_Split) := ⟨rfl, rfl, rfl, by decide +kernel, rfl, by decide +kernel, by decide +kernel⟩
theorem c_Split (G : Facts K mg) (G_copied : DCal P w K mg base 1 "copied" 1 m_copied []) (F : FunD K "__init__" "Split.__init__" (L2.defArgs s_Split) (L2.defBody s_Split) (L2.defScope s_Split) [] [] (He.fAd K ("Split", some "__init__")) fd) : DMk P w K mg base 2 "Split" 1 i_Split :=
  dmk_of F sc_Split rfl (G.mkr 18 "Split" rfl) (G.g 18 "Split" rfl) (G.cf 18 "Split" rfl) (FunD.bindsN (ps := [("self" : Str), ("lots" : Str)]) F fun _ _ _ _ _ _ us hl => match us, hl with | [_, _], _ => rfl) (w_Split G G_copied)
theorem c_Split_K (G : Facts K mg) (G_copied : DCal P w K mg base 1 "copied" 1 m_copied []) (F : FunD K "__init__" "Split.__init__" (L2.defArgs s_Split) (L2.defBody s_Split) (L2.defScope s_Split) [] [] (He.fAd K ("Split", some "__init__")) fd) : DMkK P w K mg base 2 "Split" [("lots" : Str)] [0] i_Split :=
  dmkK_of F sc_Split (ps := [("self" : Str), ("lots" : Str)]) rfl (G.mkr 18 "Split" rfl) (G.g 18 "Split" rfl) (G.cf 18 "Split" rfl) (fun _ _ _ _ _ _ us ws h1 h2 => match us, ws, h1, h2 with | [_], [_], _, _ => rfl) (w_Split G G_copied)
theorem w_Fit (G : Facts K mg) (G_copied : DCal P w K mg base 1 "copied" 1 m_copied []) (cdv : Value) (A : Around) (outer : List PySem.Env) (s : Shared) (H : Hp) (E : XK) (hr : RoomG 1 (A.deeper (envOfC "Fit.__init__" (L2.defScope s_Fit) s.heap.objs.size f cdv))) : DSI (bodyCx P w K mg base N_Fit "Fit.__init__" (L2.defScope s_Fit) f cdv A outer s H E) (bodyW E) "Fit" (L2.defBody s_Fit) ((iSelf "aims" (fun ρ => (((getV ρ 1) >>= fun d => (pure []) >>= fun ds => pure (d :: ds)) >>= fun ds => m_copied (ds ++ []))) (iSelf "points" (fun ρ => (((getV ρ 2) >>= fun d => (pure []) >>= fun ds => pure (d :: ds)) >>= fun ds => m_copied (ds ++ []))) iNil))) := by
  have hN : N_Fit.Nodup := by decide +kernel
  exact (dsi_self (fun _ h => G.na_Fit_aims h) (de_call G_copied hr bodyTk (da_cons (de_var 1) da_nil)) (dsi_self (fun _ h => G.na_Fit_points h) (de_call G_copied hr bodyTk (da_cons (de_var 2) da_nil)) dsi_nil))
theorem sc_Fit : FnScope N_Fit [("self" : Str), ("aims" : Str), ("points" : Str)] (L2.defScope s_Fit) := ⟨rfl, rfl, rfl, by decide +kernel, rfl, by decide +kernel, by decide +kernel⟩
theorem c_Fit (G : Facts K mg) (G_copied : DCal P w K mg base 1 "copied" 1 m_copied []) (F : FunD K "__init__" "Fit.__init__" (L2.defArgs s_Fit) (L2.defBody s_Fit) (L2.defScope s_Fit) [] [] (He.fAd K ("Fit", some "__init__")) fd) : DMk P w K mg base 2 "Fit" 2 i_Fit :=
  dmk_of F sc_Fit rfl (G.mkr 19 "Fit" rfl) (G.g 19 "Fit" rfl) (G.cf 19 "Fit" rfl) (FunD.bindsN (ps := [("self" : Str), ("aims" : Str), ("points" : Str)]) F fun _ _ _ _ _ _ us hl => match us, hl with | [_, _, _], _ => rfl) (w_Fit G G_copied)
theorem c_Fit_K (G : Facts K mg) (G_copied : DCal P w K mg base 1 "copied" 1 m_copied []) (F : FunD K "__init__" "Fit.__init__" (L2.defArgs s_Fit) (L2.defBody s_Fit) (L2.defScope s_Fit) [] [] (He.fAd K ("Fit", some "__init__")) fd) : DMkK P w K mg base 2 "Fit" [("points" : Str), ("aims" : Str)] [1, 0] i_Fit :=
  dmkK_of F sc_Fit (ps := [("self" : Str), ("aims" : Str), ("points" : Str)]) rfl (G.mkr 19 "Fit" rfl) (G.g 19 "Fit" rfl) (G.cf 19 "Fit" rfl) (fun _ _ _ _ _ _ us ws h1 h2 => match us, ws, h1, h2 with | [_], [_, _], _, _ => rfl) (w_Fit G G_copied)
theorem w_Set (G : Facts K mg) (G_copied : DCal P w K mg base 1 "copied" 1 m_copied []) (cdv : Value) (A : Around) (outer : List PySem.Env) (s : Shared) (H : Hp) (E : XK) (hr : RoomG 1 (A.deeper (envOfC "Set.__init__" (L2.defScope s_Set) s.heap.objs.size f cdv))) : DSI (bodyCx P w K mg base N_Set "Set.__init__" (L2.defScope s_Set) f cdv A outer s H E) (bodyW E) "Set" (L2.defBody s_Set) ((iSelf "answers" (fun ρ => (((getV ρ 1) >>= fun d => (pure []) >>= fun ds => pure (d :: ds)) >>= fun ds => m_copied (ds ++ []))) iNil)) := by
  have hN : N_Set.Nodup := by decide +kernel
  exact (dsi_self (fun _ h => G.na_Set_answers h) (de_call G_copied hr bodyTk (da_cons (de_var 1) da_nil)) dsi_nil)
theorem sc_Set : FnScope N_Set [("self" : Str), ("answers" : Str)] (L2.defScope s_Set) := ⟨rfl, rfl, rfl, by decide +kernel, rfl, by decide +kernel, by decide +kernel⟩
theorem c_Set (G : Facts K mg) (G_copied : DCal P w K mg base 1 "copied" 1 m_copied []) (F : FunD K "__init__" "Set.__init__" (L2.defArgs s_Set) (L2.defBody s_Set) (L2.defScope s_Set) [] [] (He.fAd K ("Set", some "__init__")) fd) : DMk P w K mg base 2 "Set" 1 i_Set :=
  dmk_of F sc_Set rfl (G.mkr 20 "Set" rfl) (G.g 20 "Set" rfl) (G.cf 20 "Set" rfl) (FunD.bindsN (ps := [("self" : Str), ("answers" : Str)]) F fun _ _ _ _ _ _ us hl => match us, hl with | [_, _], _ => rfl) (w_Set G G_copied)
theorem c_Set_K (G : Facts K mg) (G_copied : DCal P w K mg base 1 "copied" 1 m_copied []) (F : FunD K "__init__" "Set.__init__" (L2.defArgs s_Set) (L2.defBody s_Set) (L2.defScope s_Set) [] [] (He.fAd K ("Set", some "__init__")) fd) : DMkK P w K mg base 2 "Set" [("answers" : Str)] [0] i_Set :=
  dmkK_of F sc_Set (ps := [("self" : Str), ("answers" : Str)]) rfl (G.mkr 20 "Set" rfl) (G.g 20 "Set" rfl) (G.cf 20 "Set" rfl) (fun _ _ _ _ _ _ us ws h1 h2 => match us, ws, h1, h2 with | [_], [_], _, _ => rfl) (w_Set G G_copied)
theorem w_Slips (G : Facts K mg) (G_copied : DCal P w K mg base 1 "copied" 1 m_copied []) (cdv : Value) (A : Around) (outer : List PySem.Env) (s : Shared) (H : Hp) (E : XK) (hr : RoomG 1 (A.deeper (envOfC "Slips.__init__" (L2.defScope s_Slips) s.heap.objs.size f cdv))) : DSI (bodyCx P w K mg base N_Slips "Slips.__init__" (L2.defScope s_Slips) f cdv A outer s H E) (bodyW E) "Slips" (L2.defBody s_Slips) ((iSelf "screws" (fun ρ => (((getV ρ 1) >>= fun d => (pure []) >>= fun ds => pure (d :: ds)) >>= fun ds => m_copied (ds ++ []))) iNil)) := by
  have hN : N_Slips.Nodup := by decide +kernel
  exact (dsi_self (fun _ h => G.na_Slips_screws h) (de_call G_copied hr bodyTk (da_cons (de_var 1) da_nil)) dsi_nil)
theorem sc_Slips : FnScope N_Slips [("self" : Str), ("screws" : Str)] (L2.defScope s_Slips) := ⟨rfl, rfl, rfl, by decide +kernel, rfl, by decide +kernel, by decide +kernel⟩
theorem c_Slips (G : Facts K mg) (G_copied : DCal P w K mg base 1 "copied" 1 m_copied []) (F : FunD K "__init__" "Slips.__init__" (L2.defArgs s_Slips) (L2.defBody s_Slips) (L2.defScope s_Slips) [] [] (He.fAd K ("Slips", some "__init__")) fd) : DMk P w K mg base 2 "Slips" 1 i_Slips :=
  dmk_of F sc_Slips rfl (G.mkr 21 "Slips" rfl) (G.g 21 "Slips" rfl) (G.cf 21 "Slips" rfl) (FunD.bindsN (ps := [("self" : Str), ("screws" : Str)]) F fun _ _ _ _ _ _ us hl => match us, hl with | [_, _], _ => rfl) (w_Slips G G_copied)
theorem c_Slips_K (G : Facts K mg) (G_copied : DCal P w K mg base 1 "copied" 1 m_copied []) (F : FunD K "__init__" "Slips.__init__" (L2.defArgs s_Slips) (L2.defBody s_Slips) (L2.defScope s_Slips) [] [] (He.fAd K ("Slips", some "__init__")) fd) : DMkK P w K mg base 2 "Slips" [("screws" : Str)] [0] i_Slips :=
  dmkK_of F sc_Slips (ps := [("self" : Str), ("screws" : Str)]) rfl (G.mkr 21 "Slips" rfl) (G.g 21 "Slips" rfl) (G.cf 21 "Slips" rfl) (fun _ _ _ _ _ _ us ws h1 h2 => match us, ws, h1, h2 with | [_], [_], _, _ => rfl) (w_Slips G G_copied)
theorem w_Placed (G : Facts K mg) (G_copied : DCal P w K mg base 1 "copied" 1 m_copied []) (cdv : Value) (A : Around) (outer : List PySem.Env) (s : Shared) (H : Hp) (E : XK) (hr : RoomG 1 (A.deeper (envOfC "Placed.__init__" (L2.defScope s_Placed) s.heap.objs.size f cdv))) : DSI (bodyCx P w K mg base N_Placed "Placed.__init__" (L2.defScope s_Placed) f cdv A outer s H E) (bodyW E) "Placed" (L2.defBody s_Placed) ((iSelf "bars" (fun ρ => (((getV ρ 1) >>= fun d => (pure []) >>= fun ds => pure (d :: ds)) >>= fun ds => m_copied (ds ++ []))) iNil)) := by
  have hN : N_Placed.Nodup := by decide +kernel
  exact (dsi_self (fun _ h => G.na_Placed_bars h) (de_call G_copied hr bodyTk (da_cons (de_var 1) da_nil)) dsi_nil)
theorem sc_Placed : FnScope N_Placed [("self" : Str), ("bars" : Str)] (L2.defScope s_Placed) := ⟨rfl, rfl, rfl, by decide +kernel, rfl, by decide +kernel, by decide +kernel⟩
theorem c_Placed (G : Facts K mg) (G_copied : DCal P w K mg base 1 "copied" 1 m_copied []) (F : FunD K "__init__" "Placed.__init__" (L2.defArgs s_Placed) (L2.defBody s_Placed) (L2.defScope s_Placed) [] [] (He.fAd K ("Placed", some "__init__")) fd) : DMk P w K mg base 2 "Placed" 1 i_Placed :=
  dmk_of F sc_Placed rfl (G.mkr 22 "Placed" rfl) (G.g 22 "Placed" rfl) (G.cf 22 "Placed" rfl) (FunD.bindsN (ps := [("self" : Str), ("bars" : Str)]) F fun _ _ _ _ _ _ us hl => match us, hl with | [_, _], _ => rfl) (w_Placed G G_copied)
theorem c_Placed_K (G : Facts K mg) (G_copied : DCal P w K mg base 1 "copied" 1 m_copied []) (F : FunD K "__init__" "Placed.__init__" (L2.defArgs s_Placed) (L2.defBody s_Placed) (L2.defScope s_Placed) [] [] (He.fAd K ("Placed", some "__init__")) fd) : DMkK P w K mg base 2 "Placed" [("bars" : Str)] [0] i_Placed :=
  dmkK_of F sc_Placed (ps := [("self" : Str), ("bars" : Str)]) rfl (G.mkr 22 "Placed" rfl) (G.g 22 "Placed" rfl) (G.cf 22 "Placed" rfl) (fun _ _ _ _ _ _ us ws h1 h2 => match us, ws, h1, h2 with | [_], [_], _, _ => rfl) (w_Placed G G_copied)
theorem w_Braced (G : Facts K mg) (G_copied : DCal P w K mg base 1 "copied" 1 m_copied []) (cdv : Value) (A : Around) (outer : List PySem.Env) (s : Shared) (H : Hp) (E : XK) (hr : RoomG 1 (A.deeper (envOfC "Braced.__init__" (L2.defScope s_Braced) s.heap.objs.size f cdv))) : DSI (bodyCx P w K mg base N_Braced "Braced.__init__" (L2.defScope s_Braced) f cdv A outer s H E) (bodyW E) "Braced" (L2.defBody s_Braced) ((iSelf "there" (fun ρ => (((getV ρ 1) >>= fun d => (pure []) >>= fun ds => pure (d :: ds)) >>= fun ds => m_copied (ds ++ []))) (iSelf "back" (fun ρ => (((getV ρ 2) >>= fun d => (pure []) >>= fun ds => pure (d :: ds)) >>= fun ds => m_copied (ds ++ []))) iNil))) := by
  have hN : N_Braced.Nodup := by decide +kernel
  exact (dsi_self (fun _ h => G.na_Braced_there h) (de_call G_copied hr bodyTk (da_cons (de_var 1) da_nil)) (dsi_self (fun _ h => G.na_Braced_back h) (de_call G_copied hr bodyTk (da_cons (de_var 2) da_nil)) dsi_nil))
theorem sc_Braced : FnScope N_Braced [("self" : Str), ("there" : Str), ("back" : Str)] (L2.defScope s_Braced) := ⟨rfl, rfl, rfl, by decide +kernel, rfl, by decide +kernel, by decide +kernel⟩
theorem c_Braced (G : Facts K mg) (G_copied : DCal P w K mg base 1 "copied" 1 m_copied []) (F : FunD K "__init__" "Braced.__init__" (L2.defArgs s_Braced) (L2.defBody s_Braced) (L2.defScope s_Braced) [] [] (He.fAd K ("Braced", some "__init__")) fd) : DMk P w K mg base 2 "Braced" 2 i_Braced :=
  dmk_of F sc_Braced rfl (G.mkr 23 "Braced" rfl) (G.g 23 "Braced" rfl) (G.cf 23 "Braced" rfl) (FunD.bindsN (ps := [("self" : Str), ("there" : Str), ("back" : Str)]) F fun _ _ _ _ _ _ us hl => match us, hl with | [_, _, _], _ => rfl) (w_Braced G G_copied)
theorem c_Braced_K (G : Facts K mg) (G_copied : DCal P w K mg base 1 "copied" 1 m_copied []) (F : FunD K "__init__" "Braced.__init__" (L2.defArgs s_Braced) (L2.defBody s_Braced) (L2.defScope s_Braced) [] [] (He.fAd K ("Braced", some "__init__")) fd) : DMkK P w K mg base 2 "Braced" [("back" : Str), ("there" : Str)] [1, 0] i_Braced :=
  dmkK_of F sc_Braced (ps := [("self" : Str), ("there" : Str), ("back" : Str)]) rfl (G.mkr 23 "Braced" rfl) (G.g 23 "Braced" rfl) (G.cf 23 "Braced" rfl) (fun _ _ _ _ _ _ us ws h1 h2 => match us, ws, h1, h2 with | [_], [_, _], _, _ => rfl) (w_Braced G G_copied)
theorem w_Shears (G : Facts K mg) (G_copied : DCal P w K mg base 1 "copied" 1 m_copied []) (cdv : Value) (A : Around) (outer : List PySem.Env) (s : Shared) (H : Hp) (E : XK) (hr : RoomG 1 (A.deeper (envOfC "Shears.__init__" (L2.defScope s_Shears) s.heap.objs.size f cdv))) : DSI (bodyCx P w K mg base N_Shears "Shears.__init__" (L2.defScope s_Shears) f cdv A outer s H E) (bodyW E) "Shears" (L2.defBody s_Shears) ((iSelf "shear" (fun ρ => (((getV ρ 1) >>= fun d => (pure []) >>= fun ds => pure (d :: ds)) >>= fun ds => m_copied (ds ++ []))) iNil)) := by
  have hN : N_Shears.Nodup := by decide +kernel
  exact (dsi_self (fun _ h => G.na_Shears_shear h) (de_call G_copied hr bodyTk (da_cons (de_var 1) da_nil)) dsi_nil)
theorem sc_Shears : FnScope N_Shears [("self" : Str), ("shear" : Str)] (L2.defScope s_Shears) := ⟨rfl, rfl, rfl, by decide +kernel, rfl, by decide +kernel, by decide +kernel⟩
theorem c_Shears (G : Facts K mg) (G_copied : DCal P w K mg base 1 "copied" 1 m_copied []) (F : FunD K "__init__" "Shears.__init__" (L2.defArgs s_Shears) (L2.defBody s_Shears) (L2.defScope s_Shears) [] [] (He.fAd K ("Shears", some "__init__")) fd) : DMk P w K mg base 2 "Shears" 1 i_Shears :=
  dmk_of F sc_Shears rfl (G.mkr 24 "Shears" rfl) (G.g 24 "Shears" rfl) (G.cf 24 "Shears" rfl) (FunD.bindsN (ps := [("self" : Str), ("shear" : Str)]) F fun _ _ _ _ _ _ us hl => match us, hl with | [_, _], _ => rfl) (w_Shears G G_copied)
theorem c_Shears_K (G : Facts K mg) (G_copied : DCal P w K mg base 1 "copied" 1 m_copied []) (F : FunD K "__init__" "Shears.__init__" (L2.defArgs s_Shears) (L2.defBody s_Shears) (L2.defScope s_Shears) [] [] (He.fAd K ("Shears", some "__init__")) fd) : DMkK P w K mg base 2 "Shears" [("shear" : Str)] [0] i_Shears :=
  dmkK_of F sc_Shears (ps := [("self" : Str), ("shear" : Str)]) rfl (G.mkr 24 "Shears" rfl) (G.g 24 "Shears" rfl) (G.cf 24 "Shears" rfl) (fun _ _ _ _ _ _ us ws h1 h2 => match us, ws, h1, h2 with | [_], [_], _, _ => rfl) (w_Shears G G_copied)
theorem w_Pulls (G : Facts K mg) (G_copied : DCal P w K mg base 1 "copied" 1 m_copied []) (cdv : Value) (A : Around) (outer : List PySem.Env) (s : Shared) (H : Hp) (E : XK) (hr : RoomG 1 (A.deeper (envOfC "Pulls.__init__" (L2.defScope s_Pulls) s.heap.objs.size f cdv))) : DSI (bodyCx P w K mg base N_Pulls "Pulls.__init__" (L2.defScope s_Pulls) f cdv A outer s H E) (bodyW E) "Pulls" (L2.defBody s_Pulls) ((iSelf "row" (fun ρ => (((getV ρ 1) >>= fun d => (pure []) >>= fun ds => pure (d :: ds)) >>= fun ds => m_copied (ds ++ []))) iNil)) := by
  have hN : N_Pulls.Nodup := by decide +kernel
  exact (dsi_self (fun _ h => G.na_Pulls_row h) (de_call G_copied hr bodyTk (da_cons (de_var 1) da_nil)) dsi_nil)
theorem sc_Pulls : FnScope N_Pulls [("self" : Str), ("row" : Str)] (L2.defScope s_Pulls) := ⟨rfl, rfl, rfl, by decide +kernel, rfl, by decide +kernel, by decide +kernel⟩
theorem c_Pulls (G : Facts K mg) (G_copied : DCal P w K mg base 1 "copied" 1 m_copied []) (F : FunD K "__init__" "Pulls.__init__" (L2.defArgs s_Pulls) (L2.defBody s_Pulls) (L2.defScope s_Pulls) [] [] (He.fAd K ("Pulls", some "__init__")) fd) : DMk P w K mg base 2 "Pulls" 1 i_Pulls :=
  dmk_of F sc_Pulls rfl (G.mkr 25 "Pulls" rfl) (G.g 25 "Pulls" rfl) (G.cf 25 "Pulls" rfl) (FunD.bindsN (ps := [("self" : Str), ("row" : Str)]) F fun _ _ _ _ _ _ us hl => match us, hl with | [_, _], _ => rfl) (w_Pulls G G_copied)
theorem c_Pulls_K (G : Facts K mg) (G_copied : DCal P w K mg base 1 "copied" 1 m_copied []) (F : FunD K "__init__" "Pulls.__init__" (L2.defArgs s_Pulls) (L2.defBody s_Pulls) (L2.defScope s_Pulls) [] [] (He.fAd K ("Pulls", some "__init__")) fd) : DMkK P w K mg base 2 "Pulls" [("row" : Str)] [0] i_Pulls :=
  dmkK_of F sc_Pulls (ps := [("self" : Str), ("row" : Str)]) rfl (G.mkr 25 "Pulls" rfl) (G.g 25 "Pulls" rfl) (G.cf 25 "Pulls" rfl) (fun _ _ _ _ _ _ us ws h1 h2 => match us, ws, h1, h2 with | [_], [_], _, _ => rfl) (w_Pulls G G_copied)
theorem w_Yields (G : Facts K mg) (G_copied : DCal P w K mg base 1 "copied" 1 m_copied []) (cdv : Value) (A : Around) (outer : List PySem.Env) (s : Shared) (H : Hp) (E : XK) (hr : RoomG 1 (A.deeper (envOfC "Yields.__init__" (L2.defScope s_Yields) s.heap.objs.size f cdv))) : DSI (bodyCx P w K mg base N_Yields "Yields.__init__" (L2.defScope s_Yields) f cdv A outer s H E) (bodyW E) "Yields" (L2.defBody s_Yields) ((iSelf "shear" (fun ρ => (((getV ρ 1) >>= fun d => (pure []) >>= fun ds => pure (d :: ds)) >>= fun ds => m_copied (ds ++ []))) iNil)) := by
  have hN : N_Yields.Nodup := by decide +kernel
  exact (dsi_self (fun _ h => G.na_Yields_shear h) (de_call G_copied hr bodyTk (da_cons (de_var 1) da_nil)) dsi_nil)
theorem sc_Yields : FnScope N_Yields [("self" : Str), ("shear" : Str)] (L2.defScope s_Yields) := ⟨rfl, rfl, rfl, by decide +kernel, rfl, by decide +kernel, by decide +kernel⟩
theorem c_Yields (G : Facts K mg) (G_copied : DCal P w K mg base 1 "copied" 1 m_copied []) (F : FunD K "__init__" "Yields.__init__" (L2.defArgs s_Yields) (L2.defBody s_Yields) (L2.defScope s_Yields) [] [] (He.fAd K ("Yields", some "__init__")) fd) : DMk P w K mg base 2 "Yields" 1 i_Yields :=
  dmk_of F sc_Yields rfl (G.mkr 26 "Yields" rfl) (G.g 26 "Yields" rfl) (G.cf 26 "Yields" rfl) (FunD.bindsN (ps := [("self" : Str), ("shear" : Str)]) F fun _ _ _ _ _ _ us hl => match us, hl with | [_, _], _ => rfl) (w_Yields G G_copied)
theorem c_Yields_K (G : Facts K mg) (G_copied : DCal P w K mg base 1 "copied" 1 m_copied []) (F : FunD K "__init__" "Yields.__init__" (L2.defArgs s_Yields) (L2.defBody s_Yields) (L2.defScope s_Yields) [] [] (He.fAd K ("Yields", some "__init__")) fd) : DMkK P w K mg base 2 "Yields" [("shear" : Str)] [0] i_Yields :=
  dmkK_of F sc_Yields (ps := [("self" : Str), ("shear" : Str)]) rfl (G.mkr 26 "Yields" rfl) (G.g 26 "Yields" rfl) (G.cf 26 "Yields" rfl) (fun _ _ _ _ _ _ us ws h1 h2 => match us, ws, h1, h2 with | [_], [_], _, _ => rfl) (w_Yields G G_copied)
theorem w_Hung (G : Facts K mg) (G_copied : DCal P w K mg base 1 "copied" 1 m_copied []) (cdv : Value) (A : Around) (outer : List PySem.Env) (s : Shared) (H : Hp) (E : XK) (hr : RoomG 1 (A.deeper (envOfC "Hung.__init__" (L2.defScope s_Hung) s.heap.objs.size f cdv))) : DSI (bodyCx P w K mg base N_Hung "Hung.__init__" (L2.defScope s_Hung) f cdv A outer s H E) (bodyW E) "Hung" (L2.defBody s_Hung) ((iSelf "points" (fun ρ => (((getV ρ 1) >>= fun d => (pure []) >>= fun ds => pure (d :: ds)) >>= fun ds => m_copied (ds ++ []))) iNil)) := by
  have hN : N_Hung.Nodup := by decide +kernel
  exact (dsi_self (fun _ h => G.na_Hung_points h) (de_call G_copied hr bodyTk (da_cons (de_var 1) da_nil)) dsi_nil)
theorem sc_Hung : FnScope N_Hung [("self" : Str), ("points" : Str)] (L2.defScope s_Hung) := ⟨rfl, rfl, rfl, by decide +kernel, rfl, by decide +kernel, by decide +kernel⟩
theorem c_Hung (G : Facts K mg) (G_copied : DCal P w K mg base 1 "copied" 1 m_copied []) (F : FunD K "__init__" "Hung.__init__" (L2.defArgs s_Hung) (L2.defBody s_Hung) (L2.defScope s_Hung) [] [] (He.fAd K ("Hung", some "__init__")) fd) : DMk P w K mg base 2 "Hung" 1 i_Hung :=
  dmk_of F sc_Hung rfl (G.mkr 27 "Hung" rfl) (G.g 27 "Hung" rfl) (G.cf 27 "Hung" rfl) (FunD.bindsN (ps := [("self" : Str), ("points" : Str)]) F fun _ _ _ _ _ _ us hl => match us, hl with | [_, _], _ => rfl) (w_Hung G G_copied)
theorem c_Hung_K (G : Facts K mg) (G_copied : DCal P w K mg base 1 "copied" 1 m_copied []) (F : FunD K "__init__" "Hung.__init__" (L2.defArgs s_Hung) (L2.defBody s_Hung) (L2.defScope s_Hung) [] [] (He.fAd K ("Hung", some "__init__")) fd) : DMkK P w K mg base 2 "Hung" [("points" : Str)] [0] i_Hung :=
  dmkK_of F sc_Hung (ps := [("self" : Str), ("points" : Str)]) rfl (G.mkr 27 "Hung" rfl) (G.g 27 "Hung" rfl) (G.cf 27 "Hung" rfl) (fun _ _ _ _ _ _ us ws h1 h2 => match us, ws, h1, h2 with | [_], [_], _, _ => rfl) (w_Hung G G_copied)
theorem w_Adrift (G : Facts K mg) (G_copied : DCal P w K mg base 1 "copied" 1 m_copied []) (cdv : Value) (A : Around) (outer : List PySem.Env) (s : Shared) (H : Hp) (E : XK) (hr : RoomG 1 (A.deeper (envOfC "Adrift.__init__" (L2.defScope s_Adrift) s.heap.objs.size f cdv))) : DSI (bodyCx P w K mg base N_Adrift "Adrift.__init__" (L2.defScope s_Adrift) f cdv A outer s H E) (bodyW E) "Adrift" (L2.defBody s_Adrift) ((iSelf "lot" (fun ρ => (((getV ρ 1) >>= fun d => (pure []) >>= fun ds => pure (d :: ds)) >>= fun ds => m_copied (ds ++ []))) iNil)) := by
  have hN : N_Adrift.Nodup := by decide +kernel
  exact (dsi_self (fun _ h => G.na_Adrift_lot h) (de_call G_copied hr bodyTk (da_cons (de_var 1) da_nil)) dsi_nil)
theorem sc_Adrift : FnScope N_Adrift [("self" : Str), ("lot" : Str)] (L2.defScope s_Adrift) := ⟨rfl, rfl, rfl, by decide +kernel, rfl, by decide +kernel, by decide +kernel⟩
theorem c_Adrift (G : Facts K mg) (G_copied : DCal P w K mg base 1 "copied" 1 m_copied []) (F : FunD K "__init__" "Adrift.__init__" (L2.defArgs s_Adrift) (L2.defBody s_Adrift) (L2.defScope s_Adrift) [] [] (He.fAd K ("Adrift", some "__init__")) fd) : DMk P w K mg base 2 "Adrift" 1 i_Adrift :=
  dmk_of F sc_Adrift rfl (G.mkr 28 "Adrift" rfl) (G.g 28 "Adrift" rfl) (G.cf 28 "Adrift" rfl) (FunD.bindsN (ps := [("self" : Str), ("lot" : Str)]) F fun _ _ _ _ _ _ us hl => match us, hl with | [_, _], _ => rfl) (w_Adrift G G_copied)
theorem c_Adrift_K (G : Facts K mg) (G_copied : DCal P w K mg base 1 "copied" 1 m_copied []) (F : FunD K "__init__" "Adrift.__init__" (L2.defArgs s_Adrift) (L2.defBody s_Adrift) (L2.defScope s_Adrift) [] [] (He.fAd K ("Adrift", some "__init__")) fd) : DMkK P w K mg base 2 "Adrift" [("lot" : Str)] [0] i_Adrift :=
  dmkK_of F sc_Adrift (ps := [("self" : Str), ("lot" : Str)]) rfl (G.mkr 28 "Adrift" rfl) (G.g 28 "Adrift" rfl) (G.cf 28 "Adrift" rfl) (fun _ _ _ _ _ _ us ws h1 h2 => match us, ws, h1, h2 with | [_], [_], _, _ => rfl) (w_Adrift G G_copied)
theorem w_Weights (G : Facts K mg) (G_copied : DCal P w K mg base 1 "copied" 1 m_copied []) (cdv : Value) (A : Around) (outer : List PySem.Env) (s : Shared) (H : Hp) (E : XK) (hr : RoomG 1 (A.deeper (envOfC "Weights.__init__" (L2.defScope s_Weights) s.heap.objs.size f cdv))) : DSI (bodyCx P w K mg base N_Weights "Weights.__init__" (L2.defScope s_Weights) f cdv A outer s H E) (bodyW E) "Weights" (L2.defBody s_Weights) ((iSelf "row" (fun ρ => (((getV ρ 1) >>= fun d => (pure []) >>= fun ds => pure (d :: ds)) >>= fun ds => m_copied (ds ++ []))) iNil)) := by
  have hN : N_Weights.Nodup := by decide +kernel
  exact (dsi_self (fun _ h => G.na_Weights_row h) (de_call G_copied hr bodyTk (da_cons (de_var 1) da_nil)) dsi_nil)
theorem sc_Weights : FnScope N_Weights [("self" : Str), ("row" : Str)] (L2.defScope s_Weights) := ⟨rfl, rfl, rfl, by decide +kernel, rfl, by decide +kernel, by decide +kernel⟩
theorem c_Weights (G : Facts K mg) (G_copied : DCal P w K mg base 1 "copied" 1 m_copied []) (F : FunD K "__init__" "Weights.__init__" (L2.defArgs s_Weights) (L2.defBody s_Weights) (L2.defScope s_Weights) [] [] (He.fAd K ("Weights", some "__init__")) fd) : DMk P w K mg base 2 "Weights" 1 i_Weights :=
  dmk_of F sc_Weights rfl (G.mkr 29 "Weights" rfl) (G.g 29 "Weights" rfl) (G.cf 29 "Weights" rfl) (FunD.bindsN (ps := [("self" : Str), ("row" : Str)]) F fun _ _ _ _ _ _ us hl => match us, hl with | [_, _], _ => rfl) (w_Weights G G_copied)
theorem c_Weights_K (G : Facts K mg) (G_copied : DCal P w K mg base 1 "copied" 1 m_copied []) (F : FunD K "__init__" "Weights.__init__" (L2.defArgs s_Weights) (L2.defBody s_Weights) (L2.defScope s_Weights) [] [] (He.fAd K ("Weights", some "__init__")) fd) : DMkK P w K mg base 2 "Weights" [("row" : Str)] [0] i_Weights :=
  dmkK_of F sc_Weights (ps := [("self" : Str), ("row" : Str)]) rfl (G.mkr 29 "Weights" rfl) (G.g 29 "Weights" rfl) (G.cf 29 "Weights" rfl) (fun _ _ _ _ _ _ us ws h1 h2 => match us, ws, h1, h2 with | [_], [_], _, _ => rfl) (w_Weights G G_copied)
theorem w_Slack (G : Facts K mg) (G_copied : DCal P w K mg base 1 "copied" 1 m_copied []) (cdv : Value) (A : Around) (outer : List PySem.Env) (s : Shared) (H : Hp) (E : XK) (hr : RoomG 1 (A.deeper (envOfC "Slack.__init__" (L2.defScope s_Slack) s.heap.objs.size f cdv))) : DSI (bodyCx P w K mg base N_Slack "Slack.__init__" (L2.defScope s_Slack) f cdv A outer s H E) (bodyW E) "Slack" (L2.defBody s_Slack) ((iSelf "move" (fun ρ => (((getV ρ 1) >>= fun d => (pure []) >>= fun ds => pure (d :: ds)) >>= fun ds => m_copied (ds ++ []))) iNil)) := by
  have hN : N_Slack.Nodup := by decide +kernel
  exact (dsi_self (fun _ h => G.na_Slack_move h) (de_call G_copied hr bodyTk (da_cons (de_var 1) da_nil)) dsi_nil)
theorem sc_Slack : FnScope N_Slack [("self" : Str), ("move" : Str)] (L2.defScope s_Slack) := ⟨rfl, rfl, rfl, by decide +kernel, rfl, by decide +kernel, by decide +kernel⟩
theorem c_Slack (G : Facts K mg) (G_copied : DCal P w K mg base 1 "copied" 1 m_copied []) (F : FunD K "__init__" "Slack.__init__" (L2.defArgs s_Slack) (L2.defBody s_Slack) (L2.defScope s_Slack) [] [] (He.fAd K ("Slack", some "__init__")) fd) : DMk P w K mg base 2 "Slack" 1 i_Slack :=
  dmk_of F sc_Slack rfl (G.mkr 30 "Slack" rfl) (G.g 30 "Slack" rfl) (G.cf 30 "Slack" rfl) (FunD.bindsN (ps := [("self" : Str), ("move" : Str)]) F fun _ _ _ _ _ _ us hl => match us, hl with | [_, _], _ => rfl) (w_Slack G G_copied)
theorem c_Slack_K (G : Facts K mg) (G_copied : DCal P w K mg base 1 "copied" 1 m_copied []) (F : FunD K "__init__" "Slack.__init__" (L2.defArgs s_Slack) (L2.defBody s_Slack) (L2.defScope s_Slack) [] [] (He.fAd K ("Slack", some "__init__")) fd) : DMkK P w K mg base 2 "Slack" [("move" : Str)] [0] i_Slack :=
  dmkK_of F sc_Slack (ps := [("self" : Str), ("move" : Str)]) rfl (G.mkr 30 "Slack" rfl) (G.g 30 "Slack" rfl) (G.cf 30 "Slack" rfl) (fun _ _ _ _ _ _ us ws h1 h2 => match us, ws, h1, h2 with | [_], [_], _, _ => rfl) (w_Slack G G_copied)
theorem w_Bent (G : Facts K mg) (G_copied : DCal P w K mg base 1 "copied" 1 m_copied []) (cdv : Value) (A : Around) (outer : List PySem.Env) (s : Shared) (H : Hp) (E : XK) (hr : RoomG 1 (A.deeper (envOfC "Bent.__init__" (L2.defScope s_Bent) s.heap.objs.size f cdv))) : DSI (bodyCx P w K mg base N_Bent "Bent.__init__" (L2.defScope s_Bent) f cdv A outer s H E) (bodyW E) "Bent" (L2.defBody s_Bent) ((iSelf "stress" (fun ρ => (((getV ρ 1) >>= fun d => (pure []) >>= fun ds => pure (d :: ds)) >>= fun ds => m_copied (ds ++ []))) iNil)) := by
  have hN : N_Bent.Nodup := by decide +kernel
  exact (dsi_self (fun _ h => G.na_Bent_stress h) (de_call G_copied hr bodyTk (da_cons (de_var 1) da_nil)) dsi_nil)
theorem sc_Bent : FnScope N_Bent [("self" : Str), ("stress" : Str)] (L2.defScope s_Bent) := ⟨rfl, rfl, rfl, by decide +kernel, rfl, by decide +kernel, by decide +kernel⟩
theorem c_Bent (G : Facts K mg) (G_copied : DCal P w K mg base 1 "copied" 1 m_copied []) (F : FunD K "__init__" "Bent.__init__" (L2.defArgs s_Bent) (L2.defBody s_Bent) (L2.defScope s_Bent) [] [] (He.fAd K ("Bent", some "__init__")) fd) : DMk P w K mg base 2 "Bent" 1 i_Bent :=
  dmk_of F sc_Bent rfl (G.mkr 31 "Bent" rfl) (G.g 31 "Bent" rfl) (G.cf 31 "Bent" rfl) (FunD.bindsN (ps := [("self" : Str), ("stress" : Str)]) F fun _ _ _ _ _ _ us hl => match us, hl with | [_, _], _ => rfl) (w_Bent G G_copied)
theorem c_Bent_K (G : Facts K mg) (G_copied : DCal P w K mg base 1 "copied" 1 m_copied []) (F : FunD K "__init__" "Bent.__init__" (L2.defArgs s_Bent) (L2.defBody s_Bent) (L2.defScope s_Bent) [] [] (He.fAd K ("Bent", some "__init__")) fd) : DMkK P w K mg base 2 "Bent" [("stress" : Str)] [0] i_Bent :=
  dmkK_of F sc_Bent (ps := [("self" : Str), ("stress" : Str)]) rfl (G.mkr 31 "Bent" rfl) (G.g 31 "Bent" rfl) (G.cf 31 "Bent" rfl) (fun _ _ _ _ _ _ us ws h1 h2 => match us, ws, h1, h2 with | [_], [_], _, _ => rfl) (w_Bent G G_copied)
theorem w_Level (G : Facts K mg) (G_copied : DCal P w K mg base 1 "copied" 1 m_copied []) (cdv : Value) (A : Around) (outer : List PySem.Env) (s : Shared) (H : Hp) (E : XK) (hr : RoomG 1 (A.deeper (envOfC "Level.__init__" (L2.defScope s_Level) s.heap.objs.size f cdv))) : DSI (bodyCx P w K mg base N_Level "Level.__init__" (L2.defScope s_Level) f cdv A outer s H E) (bodyW E) "Level" (L2.defBody s_Level) ((iSelf "tie" (fun ρ => (((getV ρ 1) >>= fun d => (pure []) >>= fun ds => pure (d :: ds)) >>= fun ds => m_copied (ds ++ []))) (iSelf "move" (fun ρ => (((getV ρ 2) >>= fun d => (pure []) >>= fun ds => pure (d :: ds)) >>= fun ds => m_copied (ds ++ []))) iNil))) := by
  have hN : N_Level.Nodup := by decide +kernel
  exact (dsi_self (fun _ h => G.na_Level_tie h) (de_call G_copied hr bodyTk (da_cons (de_var 1) da_nil)) (dsi_self (fun _ h => G.na_Level_move h) (de_call G_copied hr bodyTk (da_cons (de_var 2) da_nil)) dsi_nil))
theorem sc_Level : FnScope N_Level [("self" : Str), ("tie" : Str), ("move" : Str)] (L2.defScope s_Level) := ⟨rfl, rfl, rfl, by decide +kernel, rfl, by decide +kernel, by decide +kernel⟩
theorem c_Level (G : Facts K mg) (G_copied : DCal P w K mg base 1 "copied" 1 m_copied []) (F : FunD K "__init__" "Level.__init__" (L2.defArgs s_Level) (L2.defBody s_Level) (L2.defScope s_Level) [] [] (He.fAd K ("Level", some "__init__")) fd) : DMk P w K mg base 2 "Level" 2 i_Level :=
  dmk_of F sc_Level rfl (G.mkr 32 "Level" rfl) (G.g 32 "Level" rfl) (G.cf 32 "Level" rfl) (FunD.bindsN (ps := [("self" : Str), ("tie" : Str), ("move" : Str)]) F fun _ _ _ _ _ _ us hl => match us, hl with | [_, _, _], _ => rfl) (w_Level G G_copied)
theorem c_Level_K (G : Facts K mg) (G_copied : DCal P w K mg base 1 "copied" 1 m_copied []) (F : FunD K "__init__" "Level.__init__" (L2.defArgs s_Level) (L2.defBody s_Level) (L2.defScope s_Level) [] [] (He.fAd K ("Level", some "__init__")) fd) : DMkK P w K mg base 2 "Level" [("move" : Str), ("tie" : Str)] [1, 0] i_Level :=
  dmkK_of F sc_Level (ps := [("self" : Str), ("tie" : Str), ("move" : Str)]) rfl (G.mkr 32 "Level" rfl) (G.g 32 "Level" rfl) (G.cf 32 "Level" rfl) (fun _ _ _ _ _ _ us ws h1 h2 => match us, ws, h1, h2 with | [_], [_, _], _, _ => rfl) (w_Level G G_copied)
theorem w_Lift (G : Facts K mg) (G_copied : DCal P w K mg base 1 "copied" 1 m_copied []) (cdv : Value) (A : Around) (outer : List PySem.Env) (s : Shared) (H : Hp) (E : XK) (hr : RoomG 1 (A.deeper (envOfC "Lift.__init__" (L2.defScope s_Lift) s.heap.objs.size f cdv))) : DSI (bodyCx P w K mg base N_Lift "Lift.__init__" (L2.defScope s_Lift) f cdv A outer s H E) (bodyW E) "Lift" (L2.defBody s_Lift) ((iSelf "roof" (fun ρ => (((getV ρ 1) >>= fun d => (pure []) >>= fun ds => pure (d :: ds)) >>= fun ds => m_copied (ds ++ []))) iNil)) := by
  have hN : N_Lift.Nodup := by decide +kernel
  exact (dsi_self (fun _ h => G.na_Lift_roof h) (de_call G_copied hr bodyTk (da_cons (de_var 1) da_nil)) dsi_nil)
theorem sc_Lift : FnScope N_Lift [("self" : Str), ("roof" : Str)] (L2.defScope s_Lift) := ⟨rfl, rfl, rfl, by decide +kernel, rfl, by decide +kernel, by decide +kernel⟩
theorem c_Lift (G : Facts K mg) (G_copied : DCal P w K mg base 1 "copied" 1 m_copied []) (F : FunD K "__init__" "Lift.__init__" (L2.defArgs s_Lift) (L2.defBody s_Lift) (L2.defScope s_Lift) [] [] (He.fAd K ("Lift", some "__init__")) fd) : DMk P w K mg base 2 "Lift" 1 i_Lift :=
  dmk_of F sc_Lift rfl (G.mkr 33 "Lift" rfl) (G.g 33 "Lift" rfl) (G.cf 33 "Lift" rfl) (FunD.bindsN (ps := [("self" : Str), ("roof" : Str)]) F fun _ _ _ _ _ _ us hl => match us, hl with | [_, _], _ => rfl) (w_Lift G G_copied)
theorem c_Lift_K (G : Facts K mg) (G_copied : DCal P w K mg base 1 "copied" 1 m_copied []) (F : FunD K "__init__" "Lift.__init__" (L2.defArgs s_Lift) (L2.defBody s_Lift) (L2.defScope s_Lift) [] [] (He.fAd K ("Lift", some "__init__")) fd) : DMkK P w K mg base 2 "Lift" [("roof" : Str)] [0] i_Lift :=
  dmkK_of F sc_Lift (ps := [("self" : Str), ("roof" : Str)]) rfl (G.mkr 33 "Lift" rfl) (G.g 33 "Lift" rfl) (G.cf 33 "Lift" rfl) (fun _ _ _ _ _ _ us ws h1 h2 => match us, ws, h1, h2 with | [_], [_], _, _ => rfl) (w_Lift G G_copied)
theorem w_Warped (G : Facts K mg) (G_copied : DCal P w K mg base 1 "copied" 1 m_copied []) (cdv : Value) (A : Around) (outer : List PySem.Env) (s : Shared) (H : Hp) (E : XK) (hr : RoomG 1 (A.deeper (envOfC "Warped.__init__" (L2.defScope s_Warped) s.heap.objs.size f cdv))) : DSI (bodyCx P w K mg base N_Warped "Warped.__init__" (L2.defScope s_Warped) f cdv A outer s H E) (bodyW E) "Warped" (L2.defBody s_Warped) ((iSelf "face" (fun ρ => (((getV ρ 1) >>= fun d => (pure []) >>= fun ds => pure (d :: ds)) >>= fun ds => m_copied (ds ++ []))) (iSelf "joints" (fun ρ => (((getV ρ 2) >>= fun d => (pure []) >>= fun ds => pure (d :: ds)) >>= fun ds => m_copied (ds ++ []))) iNil))) := by
  have hN : N_Warped.Nodup := by decide +kernel
  exact (dsi_self (fun _ h => G.na_Warped_face h) (de_call G_copied hr bodyTk (da_cons (de_var 1) da_nil)) (dsi_self (fun _ h => G.na_Warped_joints h) (de_call G_copied hr bodyTk (da_cons (de_var 2) da_nil)) dsi_nil))
theorem sc_Warped : FnScope N_Warped [("self" : Str), ("face" : Str), ("joints" : Str)] (L2.defScope s_Warped) := ⟨rfl, rfl, rfl, by decide +kernel, rfl, by decide +kernel, by decide +kernel⟩
theorem c_Warped (G : Facts K mg) (G_copied : DCal P w K mg base 1 "copied" 1 m_copied []) (F : FunD K "__init__" "Warped.__init__" (L2.defArgs s_Warped) (L2.defBody s_Warped) (L2.defScope s_Warped) [] [] (He.fAd K ("Warped", some "__init__")) fd) : DMk P w K mg base 2 "Warped" 2 i_Warped :=
  dmk_of F sc_Warped rfl (G.mkr 34 "Warped" rfl) (G.g 34 "Warped" rfl) (G.cf 34 "Warped" rfl) (FunD.bindsN (ps := [("self" : Str), ("face" : Str), ("joints" : Str)]) F fun _ _ _ _ _ _ us hl => match us, hl with | [_, _, _], _ => rfl) (w_Warped G G_copied)
theorem c_Warped_K (G : Facts K mg) (G_copied : DCal P w K mg base 1 "copied" 1 m_copied []) (F : FunD K "__init__" "Warped.__init__" (L2.defArgs s_Warped) (L2.defBody s_Warped) (L2.defScope s_Warped) [] [] (He.fAd K ("Warped", some "__init__")) fd) : DMkK P w K mg base 2 "Warped" [("joints" : Str), ("face" : Str)] [1, 0] i_Warped :=
  dmkK_of F sc_Warped (ps := [("self" : Str), ("face" : Str), ("joints" : Str)]) rfl (G.mkr 34 "Warped" rfl) (G.g 34 "Warped" rfl) (G.cf 34 "Warped" rfl) (fun _ _ _ _ _ _ us ws h1 h2 => match us, ws, h1, h2 with | [_], [_, _], _, _ => rfl) (w_Warped G G_copied)
theorem w_Firm (G : Facts K mg) (G_copied : DCal P w K mg base 1 "copied" 1 m_copied []) (cdv : Value) (A : Around) (outer : List PySem.Env) (s : Shared) (H : Hp) (E : XK) (hr : RoomG 1 (A.deeper (envOfC "Firm.__init__" (L2.defScope s_Firm) s.heap.objs.size f cdv))) : DSI (bodyCx P w K mg base N_Firm "Firm.__init__" (L2.defScope s_Firm) f cdv A outer s H E) (bodyW E) "Firm" (L2.defBody s_Firm) ((iSelf "answers" (fun ρ => (((getV ρ 1) >>= fun d => (pure []) >>= fun ds => pure (d :: ds)) >>= fun ds => m_copied (ds ++ []))) (iSelf "stress" (fun ρ => (((getV ρ 2) >>= fun d => (pure []) >>= fun ds => pure (d :: ds)) >>= fun ds => m_copied (ds ++ []))) iNil))) := by
  have hN : N_Firm.Nodup := by decide +kernel
  exact (dsi_self (fun _ h => G.na_Firm_answers h) (de_call G_copied hr bodyTk (da_cons (de_var 1) da_nil)) (dsi_self (fun _ h => G.na_Firm_stress h) (de_call G_copied hr bodyTk (da_cons (de_var 2) da_nil)) dsi_nil))
theorem sc_Firm : FnScope N_Firm [("self" : Str), ("answers" : Str), ("stress" : Str)] (L2.defScope s_Firm) := ⟨rfl, rfl, rfl, by decide +kernel, rfl, by decide +kernel, by decide +kernel⟩
theorem c_Firm (G : Facts K mg) (G_copied : DCal P w K mg base 1 "copied" 1 m_copied []) (F : FunD K "__init__" "Firm.__init__" (L2.defArgs s_Firm) (L2.defBody s_Firm) (L2.defScope s_Firm) [] [] (He.fAd K ("Firm", some "__init__")) fd) : DMk P w K mg base 2 "Firm" 2 i_Firm :=
  dmk_of F sc_Firm rfl (G.mkr 35 "Firm" rfl) (G.g 35 "Firm" rfl) (G.cf 35 "Firm" rfl) (FunD.bindsN (ps := [("self" : Str), ("answers" : Str), ("stress" : Str)]) F fun _ _ _ _ _ _ us hl => match us, hl with | [_, _, _], _ => rfl) (w_Firm G G_copied)
theorem c_Firm_K (G : Facts K mg) (G_copied : DCal P w K mg base 1 "copied" 1 m_copied []) (F : FunD K "__init__" "Firm.__init__" (L2.defArgs s_Firm) (L2.defBody s_Firm) (L2.defScope s_Firm) [] [] (He.fAd K ("Firm", some "__init__")) fd) : DMkK P w K mg base 2 "Firm" [("stress" : Str), ("answers" : Str)] [1, 0] i_Firm :=
  dmkK_of F sc_Firm (ps := [("self" : Str), ("answers" : Str), ("stress" : Str)]) rfl (G.mkr 35 "Firm" rfl) (G.g 35 "Firm" rfl) (G.cf 35 "Firm" rfl) (fun _ _ _ _ _ _ us ws h1 h2 => match us, ws, h1, h2 with | [_], [_, _], _, _ => rfl) (w_Firm G G_copied)
theorem w_Gives (G : Facts K mg) (G_copied : DCal P w K mg base 1 "copied" 1 m_copied []) (cdv : Value) (A : Around) (outer : List PySem.Env) (s : Shared) (H : Hp) (E : XK) (hr : RoomG 1 (A.deeper (envOfC "Gives.__init__" (L2.defScope s_Gives) s.heap.objs.size f cdv))) : DSI (bodyCx P w K mg base N_Gives "Gives.__init__" (L2.defScope s_Gives) f cdv A outer s H E) (bodyW E) "Gives" (L2.defBody s_Gives) ((iSelf "move" (fun ρ => (((getV ρ 1) >>= fun d => (pure []) >>= fun ds => pure (d :: ds)) >>= fun ds => m_copied (ds ++ []))) iNil)) := by
  have hN : N_Gives.Nodup := by decide +kernel
  exact (dsi_self (fun _ h => G.na_Gives_move h) (de_call G_copied hr bodyTk (da_cons (de_var 1) da_nil)) dsi_nil)
theorem sc_Gives : FnScope N_Gives [("self" : Str), ("move" : Str)] (L2.defScope s_Gives) := ⟨rfl, rfl, rfl, by decide +kernel, rfl, by decide +kernel, by decide +kernel⟩
theorem c_Gives (G : Facts K mg) (G_copied : DCal P w K mg base 1 "copied" 1 m_copied []) (F : FunD K "__init__" "Gives.__init__" (L2.defArgs s_Gives) (L2.defBody s_Gives) (L2.defScope s_Gives) [] [] (He.fAd K ("Gives", some "__init__")) fd) : DMk P w K mg base 2 "Gives" 1 i_Gives :=
  dmk_of F sc_Gives rfl (G.mkr 36 "Gives" rfl) (G.g 36 "Gives" rfl) (G.cf 36 "Gives" rfl) (FunD.bindsN (ps := [("self" : Str), ("move" : Str)]) F fun _ _ _ _ _ _ us hl => match us, hl with | [_, _], _ => rfl) (w_Gives G G_copied)
theorem c_Gives_K (G : Facts K mg) (G_copied : DCal P w K mg base 1 "copied" 1 m_copied []) (F : FunD K "__init__" "Gives.__init__" (L2.defArgs s_Gives) (L2.defBody s_Gives) (L2.defScope s_Gives) [] [] (He.fAd K ("Gives", some "__init__")) fd) : DMkK P w K mg base 2 "Gives" [("move" : Str)] [0] i_Gives :=
  dmkK_of F sc_Gives (ps := [("self" : Str), ("move" : Str)]) rfl (G.mkr 36 "Gives" rfl) (G.g 36 "Gives" rfl) (G.cf 36 "Gives" rfl) (fun _ _ _ _ _ _ us ws h1 h2 => match us, ws, h1, h2 with | [_], [_], _, _ => rfl) (w_Gives G G_copied)
theorem w_Parts (G : Facts K mg) (G_copied : DCal P w K mg base 1 "copied" 1 m_copied []) (cdv : Value) (A : Around) (outer : List PySem.Env) (s : Shared) (H : Hp) (E : XK) (hr : RoomG 1 (A.deeper (envOfC "Parts.__init__" (L2.defScope s_Parts) s.heap.objs.size f cdv))) : DSI (bodyCx P w K mg base N_Parts "Parts.__init__" (L2.defScope s_Parts) f cdv A outer s H E) (bodyW E) "Parts" (L2.defBody s_Parts) ((iSelf "stress" (fun ρ => (((getV ρ 1) >>= fun d => (pure []) >>= fun ds => pure (d :: ds)) >>= fun ds => m_copied (ds ++ []))) (iSelf "move" (fun ρ => (((getV ρ 2) >>= fun d => (pure []) >>= fun ds => pure (d :: ds)) >>= fun ds => m_copied (ds ++ []))) iNil))) := by
  have hN : N_Parts.Nodup := by decide +kernel
  exact (dsi_self (fun _ h => G.na_Parts_stress h) (de_call G_copied hr bodyTk (da_cons (de_var 1) da_nil)) (dsi_self (fun _ h => G.na_Parts_move h) (de_call G_copied hr bodyTk (da_cons (de_var 2) da_nil)) dsi_nil))
theorem sc_Parts : FnScope N_Parts [("self" : Str), ("stress" : Str), ("move" : Str)] (L2.defScope s_Parts) := ⟨rfl, rfl, rfl, by decide +kernel, rfl, by decide +kernel, by decide +kernel⟩
theorem c_Parts (G : Facts K mg) (G_copied : DCal P w K mg base 1 "copied" 1 m_copied []) (F : FunD K "__init__" "Parts.__init__" (L2.defArgs s_Parts) (L2.defBody s_Parts) (L2.defScope s_Parts) [] [] (He.fAd K ("Parts", some "__init__")) fd) : DMk P w K mg base 2 "Parts" 2 i_Parts :=
  dmk_of F sc_Parts rfl (G.mkr 37 "Parts" rfl) (G.g 37 "Parts" rfl) (G.cf 37 "Parts" rfl) (FunD.bindsN (ps := [("self" : Str), ("stress" : Str), ("move" : Str)]) F fun _ _ _ _ _ _ us hl => match us, hl with | [_, _, _], _ => rfl) (w_Parts G G_copied)
theorem c_Parts_K (G : Facts K mg) (G_copied : DCal P w K mg base 1 "copied" 1 m_copied []) (F : FunD K "__init__" "Parts.__init__" (L2.defArgs s_Parts) (L2.defBody s_Parts) (L2.defScope s_Parts) [] [] (He.fAd K ("Parts", some "__init__")) fd) : DMkK P w K mg base 2 "Parts" [("move" : Str), ("stress" : Str)] [1, 0] i_Parts :=
  dmkK_of F sc_Parts (ps := [("self" : Str), ("stress" : Str), ("move" : Str)]) rfl (G.mkr 37 "Parts" rfl) (G.g 37 "Parts" rfl) (G.cf 37 "Parts" rfl) (fun _ _ _ _ _ _ us ws h1 h2 => match us, ws, h1, h2 with | [_], [_, _], _, _ => rfl) (w_Parts G G_copied)
theorem w_Carries (G : Facts K mg) (G_copied : DCal P w K mg base 1 "copied" 1 m_copied []) (cdv : Value) (A : Around) (outer : List PySem.Env) (s : Shared) (H : Hp) (E : XK) (hr : RoomG 1 (A.deeper (envOfC "Carries.__init__" (L2.defScope s_Carries) s.heap.objs.size f cdv))) : DSI (bodyCx P w K mg base N_Carries "Carries.__init__" (L2.defScope s_Carries) f cdv A outer s H E) (bodyW E) "Carries" (L2.defBody s_Carries) ((iSelf "row" (fun ρ => (((getV ρ 1) >>= fun d => (pure []) >>= fun ds => pure (d :: ds)) >>= fun ds => m_copied (ds ++ []))) iNil)) := by
  have hN : N_Carries.Nodup := by decide +kernel
  exact (dsi_self (fun _ h => G.na_Carries_row h) (de_call G_copied hr bodyTk (da_cons (de_var 1) da_nil)) dsi_nil)
theorem sc_Carries : FnScope N_Carries [("self" : Str), ("row" : Str)] (L2.defScope s_Carries) := ⟨rfl, rfl, rfl, by decide +kernel, rfl, by decide +kernel, by decide +kernel⟩
theorem c_Carries (G : Facts K mg) (G_copied : DCal P w K mg base 1 "copied" 1 m_copied []) (F : FunD K "__init__" "Carries.__init__" (L2.defArgs s_Carries) (L2.defBody s_Carries) (L2.defScope s_Carries) [] [] (He.fAd K ("Carries", some "__init__")) fd) : DMk P w K mg base 2 "Carries" 1 i_Carries :=
  dmk_of F sc_Carries rfl (G.mkr 38 "Carries" rfl) (G.g 38 "Carries" rfl) (G.cf 38 "Carries" rfl) (FunD.bindsN (ps := [("self" : Str), ("row" : Str)]) F fun _ _ _ _ _ _ us hl => match us, hl with | [_, _], _ => rfl) (w_Carries G G_copied)
theorem c_Carries_K (G : Facts K mg) (G_copied : DCal P w K mg base 1 "copied" 1 m_copied []) (F : FunD K "__init__" "Carries.__init__" (L2.defArgs s_Carries) (L2.defBody s_Carries) (L2.defScope s_Carries) [] [] (He.fAd K ("Carries", some "__init__")) fd) : DMkK P w K mg base 2 "Carries" [("row" : Str)] [0] i_Carries :=
  dmkK_of F sc_Carries (ps := [("self" : Str), ("row" : Str)]) rfl (G.mkr 38 "Carries" rfl) (G.g 38 "Carries" rfl) (G.cf 38 "Carries" rfl) (fun _ _ _ _ _ _ us ws h1 h2 => match us, ws, h1, h2 with | [_], [_], _, _ => rfl) (w_Carries G G_copied)
theorem w_Drops (G : Facts K mg) (G_copied : DCal P w K mg base 1 "copied" 1 m_copied []) (cdv : Value) (A : Around) (outer : List PySem.Env) (s : Shared) (H : Hp) (E : XK) (hr : RoomG 1 (A.deeper (envOfC "Drops.__init__" (L2.defScope s_Drops) s.heap.objs.size f cdv))) : DSI (bodyCx P w K mg base N_Drops "Drops.__init__" (L2.defScope s_Drops) f cdv A outer s H E) (bodyW E) "Drops" (L2.defBody s_Drops) ((iSelf "move" (fun ρ => (((getV ρ 1) >>= fun d => (pure []) >>= fun ds => pure (d :: ds)) >>= fun ds => m_copied (ds ++ []))) iNil)) := by
  have hN : N_Drops.Nodup := by decide +kernel
  exact (dsi_self (fun _ h => G.na_Drops_move h) (de_call G_copied hr bodyTk (da_cons (de_var 1) da_nil)) dsi_nil)
theorem sc_Drops : FnScope N_Drops [("self" : Str), ("move" : Str)] (L2.defScope s_Drops) := ⟨rfl, rfl, rfl, by decide +kernel, rfl, by decide +kernel, by decide +kernel⟩
theorem c_Drops (G : Facts K mg) (G_copied : DCal P w K mg base 1 "copied" 1 m_copied []) (F : FunD K "__init__" "Drops.__init__" (L2.defArgs s_Drops) (L2.defBody s_Drops) (L2.defScope s_Drops) [] [] (He.fAd K ("Drops", some "__init__")) fd) : DMk P w K mg base 2 "Drops" 1 i_Drops :=
  dmk_of F sc_Drops rfl (G.mkr 39 "Drops" rfl) (G.g 39 "Drops" rfl) (G.cf 39 "Drops" rfl) (FunD.bindsN (ps := [("self" : Str), ("move" : Str)]) F fun _ _ _ _ _ _ us hl => match us, hl with | [_, _], _ => rfl) (w_Drops G G_copied)
theorem c_Drops_K (G : Facts K mg) (G_copied : DCal P w K mg base 1 "copied" 1 m_copied []) (F : FunD K "__init__" "Drops.__init__" (L2.defArgs s_Drops) (L2.defBody s_Drops) (L2.defScope s_Drops) [] [] (He.fAd K ("Drops", some "__init__")) fd) : DMkK P w K mg base 2 "Drops" [("move" : Str)] [0] i_Drops :=
  dmkK_of F sc_Drops (ps := [("self" : Str), ("move" : Str)]) rfl (G.mkr 39 "Drops" rfl) (G.g 39 "Drops" rfl) (G.cf 39 "Drops" rfl) (fun _ _ _ _ _ _ us ws h1 h2 => match us, ws, h1, h2 with | [_], [_], _, _ => rfl) (w_Drops G G_copied)
theorem w_OneShape (G : Facts K mg) (G_copied : DCal P w K mg base 1 "copied" 1 m_copied []) (cdv : Value) (A : Around) (outer : List PySem.Env) (s : Shared) (H : Hp) (E : XK) (hr : RoomG 1 (A.deeper (envOfC "OneShape.__init__" (L2.defScope s_OneShape) s.heap.objs.size f cdv))) : DSI (bodyCx P w K mg base N_OneShape "OneShape.__init__" (L2.defScope s_OneShape) f cdv A outer s H E) (bodyW E) "OneShape" (L2.defBody s_OneShape) ((iSelf "joints" (fun ρ => (((getV ρ 1) >>= fun d => (pure []) >>= fun ds => pure (d :: ds)) >>= fun ds => m_copied (ds ++ []))) (iSelf "steps" (fun ρ => (((getV ρ 2) >>= fun d => (pure []) >>= fun ds => pure (d :: ds)) >>= fun ds => m_copied (ds ++ []))) iNil))) := by
  have hN : N_OneShape.Nodup := by decide +kernel
  exact (dsi_self (fun _ h => G.na_OneShape_joints h) (de_call G_copied hr bodyTk (da_cons (de_var 1) da_nil)) (dsi_self (fun _ h => G.na_OneShape_steps h) (de_call G_copied hr bodyTk (da_cons (de_var 2) da_nil)) dsi_nil))
theorem sc_OneShape : FnScope N_OneShape [("self" : Str), ("joints" : Str), ("steps" : Str)] (L2.defScope s_OneShape) := ⟨rfl, rfl, rfl, by decide +kernel, rfl, by decide +kernel, by decide +kernel⟩
theorem c_OneShape (G : Facts K mg) (G_copied : DCal P w K mg base 1 "copied" 1 m_copied []) (F : FunD K "__init__" "OneShape.__init__" (L2.defArgs s_OneShape) (L2.defBody s_OneShape) (L2.defScope s_OneShape) [] [] (He.fAd K ("OneShape", some "__init__")) fd) : DMk P w K mg base 2 "OneShape" 2 i_OneShape :=
  dmk_of F sc_OneShape rfl (G.mkr 40 "OneShape" rfl) (G.g 40 "OneShape" rfl) (G.cf 40 "OneShape" rfl) (FunD.bindsN (ps := [("self" : Str), ("joints" : Str), ("steps" : Str)]) F fun _ _ _ _ _ _ us hl => match us, hl with | [_, _, _], _ => rfl) (w_OneShape G G_copied)
theorem c_OneShape_K (G : Facts K mg) (G_copied : DCal P w K mg base 1 "copied" 1 m_copied []) (F : FunD K "__init__" "OneShape.__init__" (L2.defArgs s_OneShape) (L2.defBody s_OneShape) (L2.defScope s_OneShape) [] [] (He.fAd K ("OneShape", some "__init__")) fd) : DMkK P w K mg base 2 "OneShape" [("steps" : Str), ("joints" : Str)] [1, 0] i_OneShape :=
  dmkK_of F sc_OneShape (ps := [("self" : Str), ("joints" : Str), ("steps" : Str)]) rfl (G.mkr 40 "OneShape" rfl) (G.g 40 "OneShape" rfl) (G.cf 40 "OneShape" rfl) (fun _ _ _ _ _ _ us ws h1 h2 => match us, ws, h1, h2 with | [_], [_, _], _, _ => rfl) (w_OneShape G G_copied)
theorem w_Lacking (G : Facts K mg) (G_copied : DCal P w K mg base 1 "copied" 1 m_copied []) (cdv : Value) (A : Around) (outer : List PySem.Env) (s : Shared) (H : Hp) (E : XK) (hr : RoomG 1 (A.deeper (envOfC "Lacking.__init__" (L2.defScope s_Lacking) s.heap.objs.size f cdv))) : DSI (bodyCx P w K mg base N_Lacking "Lacking.__init__" (L2.defScope s_Lacking) f cdv A outer s H E) (bodyW E) "Lacking" (L2.defBody s_Lacking) ((iSelf "one" (fun ρ => (((getV ρ 1) >>= fun d => (pure []) >>= fun ds => pure (d :: ds)) >>= fun ds => m_copied (ds ++ []))) (iSelf "other" (fun ρ => (((getV ρ 2) >>= fun d => (pure []) >>= fun ds => pure (d :: ds)) >>= fun ds => m_copied (ds ++ []))) iNil))) := by
  have hN : N_Lacking.Nodup := by decide +kernel
  exact (dsi_self (fun _ h => G.na_Lacking_one h) (de_call G_copied hr bodyTk (da_cons (de_var 1) da_nil)) (dsi_self (fun _ h => G.na_Lacking_other h) (de_call G_copied hr bodyTk (da_cons (de_var 2) da_nil)) dsi_nil))
theorem sc_Lacking : FnScope N_Lacking [("self" : Str), ("one" : Str), ("other" : Str)] (L2.defScope s_Lacking) := ⟨rfl, rfl, rfl, by decide +kernel, rfl, by decide +kernel, by decide +kernel⟩
theorem c_Lacking (G : Facts K mg) (G_copied : DCal P w K mg base 1 "copied" 1 m_copied []) (F : FunD K "__init__" "Lacking.__init__" (L2.defArgs s_Lacking) (L2.defBody s_Lacking) (L2.defScope s_Lacking) [] [] (He.fAd K ("Lacking", some "__init__")) fd) : DMk P w K mg base 2 "Lacking" 2 i_Lacking :=
  dmk_of F sc_Lacking rfl (G.mkr 41 "Lacking" rfl) (G.g 41 "Lacking" rfl) (G.cf 41 "Lacking" rfl) (FunD.bindsN (ps := [("self" : Str), ("one" : Str), ("other" : Str)]) F fun _ _ _ _ _ _ us hl => match us, hl with | [_, _, _], _ => rfl) (w_Lacking G G_copied)
theorem c_Lacking_K (G : Facts K mg) (G_copied : DCal P w K mg base 1 "copied" 1 m_copied []) (F : FunD K "__init__" "Lacking.__init__" (L2.defArgs s_Lacking) (L2.defBody s_Lacking) (L2.defScope s_Lacking) [] [] (He.fAd K ("Lacking", some "__init__")) fd) : DMkK P w K mg base 2 "Lacking" [("other" : Str), ("one" : Str)] [1, 0] i_Lacking :=
  dmkK_of F sc_Lacking (ps := [("self" : Str), ("one" : Str), ("other" : Str)]) rfl (G.mkr 41 "Lacking" rfl) (G.g 41 "Lacking" rfl) (G.cf 41 "Lacking" rfl) (fun _ _ _ _ _ _ us ws h1 h2 => match us, ws, h1, h2 with | [_], [_, _], _, _ => rfl) (w_Lacking G G_copied)
theorem w_Parting (G : Facts K mg) (G_copied : DCal P w K mg base 1 "copied" 1 m_copied []) (cdv : Value) (A : Around) (outer : List PySem.Env) (s : Shared) (H : Hp) (E : XK) (hr : RoomG 1 (A.deeper (envOfC "Parting.__init__" (L2.defScope s_Parting) s.heap.objs.size f cdv))) : DSI (bodyCx P w K mg base N_Parting "Parting.__init__" (L2.defScope s_Parting) f cdv A outer s H E) (bodyW E) "Parting" (L2.defBody s_Parting) ((iSelf "joints" (fun ρ => (((getV ρ 1) >>= fun d => (pure []) >>= fun ds => pure (d :: ds)) >>= fun ds => m_copied (ds ++ []))) (iSelf "lots" (fun ρ => (((getV ρ 2) >>= fun d => (pure []) >>= fun ds => pure (d :: ds)) >>= fun ds => m_copied (ds ++ []))) iNil))) := by
  have hN : N_Parting.Nodup := by decide +kernel
  exact (dsi_self (fun _ h => G.na_Parting_joints h) (de_call G_copied hr bodyTk (da_cons (de_var 1) da_nil)) (dsi_self (fun _ h => G.na_Parting_lots h) (de_call G_copied hr bodyTk (da_cons (de_var 2) da_nil)) dsi_nil))
theorem sc_Parting : FnScope N_Parting [("self" : Str), ("joints" : Str), ("lots" : Str)] (L2.defScope s_Parting) := ⟨rfl, rfl, rfl, by decide +kernel, rfl, by decide +kernel, by decide +kernel⟩
theorem c_Parting (G : Facts K mg) (G_copied : DCal P w K mg base 1 "copied" 1 m_copied []) (F : FunD K "__init__" "Parting.__init__" (L2.defArgs s_Parting) (L2.defBody s_Parting) (L2.defScope s_Parting) [] [] (He.fAd K ("Parting", some "__init__")) fd) : DMk P w K mg base 2 "Parting" 2 i_Parting :=
  dmk_of F sc_Parting rfl (G.mkr 42 "Parting" rfl) (G.g 42 "Parting" rfl) (G.cf 42 "Parting" rfl) (FunD.bindsN (ps := [("self" : Str), ("joints" : Str), ("lots" : Str)]) F fun _ _ _ _ _ _ us hl => match us, hl with | [_, _, _], _ => rfl) (w_Parting G G_copied)
theorem c_Parting_K (G : Facts K mg) (G_copied : DCal P w K mg base 1 "copied" 1 m_copied []) (F : FunD K "__init__" "Parting.__init__" (L2.defArgs s_Parting) (L2.defBody s_Parting) (L2.defScope s_Parting) [] [] (He.fAd K ("Parting", some "__init__")) fd) : DMkK P w K mg base 2 "Parting" [("lots" : Str), ("joints" : Str)] [1, 0] i_Parting :=
  dmkK_of F sc_Parting (ps := [("self" : Str), ("joints" : Str), ("lots" : Str)]) rfl (G.mkr 42 "Parting" rfl) (G.g 42 "Parting" rfl) (G.cf 42 "Parting" rfl) (fun _ _ _ _ _ _ us ws h1 h2 => match us, ws, h1, h2 with | [_], [_, _], _, _ => rfl) (w_Parting G G_copied)
theorem w_LetsGo (G : Facts K mg) (G_copied : DCal P w K mg base 1 "copied" 1 m_copied []) (cdv : Value) (A : Around) (outer : List PySem.Env) (s : Shared) (H : Hp) (E : XK) (hr : RoomG 1 (A.deeper (envOfC "LetsGo.__init__" (L2.defScope s_LetsGo) s.heap.objs.size f cdv))) : DSI (bodyCx P w K mg base N_LetsGo "LetsGo.__init__" (L2.defScope s_LetsGo) f cdv A outer s H E) (bodyW E) "LetsGo" (L2.defBody s_LetsGo) ((iSelf "tie" (fun ρ => (((getV ρ 1) >>= fun d => (pure []) >>= fun ds => pure (d :: ds)) >>= fun ds => m_copied (ds ++ []))) (iSelf "lots" (fun ρ => (((getV ρ 2) >>= fun d => (pure []) >>= fun ds => pure (d :: ds)) >>= fun ds => m_copied (ds ++ []))) iNil))) := by
  have hN : N_LetsGo.Nodup := by decide +kernel
  exact (dsi_self (fun _ h => G.na_LetsGo_tie h) (de_call G_copied hr bodyTk (da_cons (de_var 1) da_nil)) (dsi_self (fun _ h => G.na_LetsGo_lots h) (de_call G_copied hr bodyTk (da_cons (de_var 2) da_nil)) dsi_nil))
theorem sc_LetsGo : FnScope N_LetsGo [("self" : Str), ("tie" : Str), ("lots" : Str)] (L2.defScope s_LetsGo) := ⟨rfl, rfl, rfl, by decide +kernel, rfl, by decide +kernel, by decide +kernel⟩
theorem c_LetsGo (G : Facts K mg) (G_copied : DCal P w K mg base 1 "copied" 1 m_copied []) (F : FunD K "__init__" "LetsGo.__init__" (L2.defArgs s_LetsGo) (L2.defBody s_LetsGo) (L2.defScope s_LetsGo) [] [] (He.fAd K ("LetsGo", some "__init__")) fd) : DMk P w K mg base 2 "LetsGo" 2 i_LetsGo :=
  dmk_of F sc_LetsGo rfl (G.mkr 43 "LetsGo" rfl) (G.g 43 "LetsGo" rfl) (G.cf 43 "LetsGo" rfl) (FunD.bindsN (ps := [("self" : Str), ("tie" : Str), ("lots" : Str)]) F fun _ _ _ _ _ _ us hl => match us, hl with | [_, _, _], _ => rfl) (w_LetsGo G G_copied)
theorem c_LetsGo_K (G : Facts K mg) (G_copied : DCal P w K mg base 1 "copied" 1 m_copied []) (F : FunD K "__init__" "LetsGo.__init__" (L2.defArgs s_LetsGo) (L2.defBody s_LetsGo) (L2.defScope s_LetsGo) [] [] (He.fAd K ("LetsGo", some "__init__")) fd) : DMkK P w K mg base 2 "LetsGo" [("lots" : Str), ("tie" : Str)] [1, 0] i_LetsGo :=
  dmkK_of F sc_LetsGo (ps := [("self" : Str), ("tie" : Str), ("lots" : Str)]) rfl (G.mkr 43 "LetsGo" rfl) (G.g 43 "LetsGo" rfl) (G.cf 43 "LetsGo" rfl) (fun _ _ _ _ _ _ us ws h1 h2 => match us, ws, h1, h2 with | [_], [_, _], _, _ => rfl) (w_LetsGo G G_copied)
theorem w_Ears (G : Facts K mg) (G_copied : DCal P w K mg base 1 "copied" 1 m_copied []) (cdv : Value) (A : Around) (outer : List PySem.Env) (s : Shared) (H : Hp) (E : XK) (hr : RoomG 1 (A.deeper (envOfC "Ears.__init__" (L2.defScope s_Ears) s.heap.objs.size f cdv))) : DSI (bodyCx P w K mg base N_Ears "Ears.__init__" (L2.defScope s_Ears) f cdv A outer s H E) (bodyW E) "Ears" (L2.defBody s_Ears) ((iSelf "rows" (fun ρ => (((getV ρ 1) >>= fun d => (pure []) >>= fun ds => pure (d :: ds)) >>= fun ds => m_copied (ds ++ []))) iNil)) := by
  have hN : N_Ears.Nodup := by decide +kernel
  exact (dsi_self (fun _ h => G.na_Ears_rows h) (de_call G_copied hr bodyTk (da_cons (de_var 1) da_nil)) dsi_nil)
theorem sc_Ears : FnScope N_Ears [("self" : Str), ("rows" : Str)] (L2.defScope s_Ears) := ⟨rfl, rfl, rfl, by decide +kernel, rfl, by decide +kernel, by decide +kernel⟩
theorem c_Ears (G : Facts K mg) (G_copied : DCal P w K mg base 1 "copied" 1 m_copied []) (F : FunD K "__init__" "Ears.__init__" (L2.defArgs s_Ears) (L2.defBody s_Ears) (L2.defScope s_Ears) [] [] (He.fAd K ("Ears", some "__init__")) fd) : DMk P w K mg base 2 "Ears" 1 i_Ears :=
  dmk_of F sc_Ears rfl (G.mkr 44 "Ears" rfl) (G.g 44 "Ears" rfl) (G.cf 44 "Ears" rfl) (FunD.bindsN (ps := [("self" : Str), ("rows" : Str)]) F fun _ _ _ _ _ _ us hl => match us, hl with | [_, _], _ => rfl) (w_Ears G G_copied)
theorem c_Ears_K (G : Facts K mg) (G_copied : DCal P w K mg base 1 "copied" 1 m_copied []) (F : FunD K "__init__" "Ears.__init__" (L2.defArgs s_Ears) (L2.defBody s_Ears) (L2.defScope s_Ears) [] [] (He.fAd K ("Ears", some "__init__")) fd) : DMkK P w K mg base 2 "Ears" [("rows" : Str)] [0] i_Ears :=
  dmkK_of F sc_Ears (ps := [("self" : Str), ("rows" : Str)]) rfl (G.mkr 44 "Ears" rfl) (G.g 44 "Ears" rfl) (G.cf 44 "Ears" rfl) (fun _ _ _ _ _ _ us ws h1 h2 => match us, ws, h1, h2 with | [_], [_], _, _ => rfl) (w_Ears G G_copied)
theorem w_HeldPlaces (G : Facts K mg) (G_copied : DCal P w K mg base 1 "copied" 1 m_copied []) (cdv : Value) (A : Around) (outer : List PySem.Env) (s : Shared) (H : Hp) (E : XK) (hr : RoomG 1 (A.deeper (envOfC "HeldPlaces.__init__" (L2.defScope s_HeldPlaces) s.heap.objs.size f cdv))) : DSI (bodyCx P w K mg base N_HeldPlaces "HeldPlaces.__init__" (L2.defScope s_HeldPlaces) f cdv A outer s H E) (bodyW E) "HeldPlaces" (L2.defBody s_HeldPlaces) ((iSelf "points" (fun ρ => (((getV ρ 1) >>= fun d => (pure []) >>= fun ds => pure (d :: ds)) >>= fun ds => m_copied (ds ++ []))) (iSelf "stress" (fun ρ => (((getV ρ 2) >>= fun d => (pure []) >>= fun ds => pure (d :: ds)) >>= fun ds => m_copied (ds ++ []))) iNil))) := by
  have hN : N_HeldPlaces.Nodup := by decide +kernel
  exact (dsi_self (fun _ h => G.na_HeldPlaces_points h) (de_call G_copied hr bodyTk (da_cons (de_var 1) da_nil)) (dsi_self (fun _ h => G.na_HeldPlaces_stress h) (de_call G_copied hr bodyTk (da_cons (de_var 2) da_nil)) dsi_nil))
theorem sc_HeldPlaces : FnScope N_HeldPlaces [("self" : Str), ("points" : Str), ("stress" : Str)] (L2.defScope s_HeldPlaces) := ⟨rfl, rfl, rfl, by decide +kernel, rfl, by decide +kernel, by decide +kernel⟩
theorem c_HeldPlaces (G : Facts K mg) (G_copied : DCal P w K mg base 1 "copied" 1 m_copied []) (F : FunD K "__init__" "HeldPlaces.__init__" (L2.defArgs s_HeldPlaces) (L2.defBody s_HeldPlaces) (L2.defScope s_HeldPlaces) [] [] (He.fAd K ("HeldPlaces", some "__init__")) fd) : DMk P w K mg base 2 "HeldPlaces" 2 i_HeldPlaces :=
  dmk_of F sc_HeldPlaces rfl (G.mkr 45 "HeldPlaces" rfl) (G.g 45 "HeldPlaces" rfl) (G.cf 45 "HeldPlaces" rfl) (FunD.bindsN (ps := [("self" : Str), ("points" : Str), ("stress" : Str)]) F fun _ _ _ _ _ _ us hl => match us, hl with | [_, _, _], _ => rfl) (w_HeldPlaces G G_copied)
theorem c_HeldPlaces_K (G : Facts K mg) (G_copied : DCal P w K mg base 1 "copied" 1 m_copied []) (F : FunD K "__init__" "HeldPlaces.__init__" (L2.defArgs s_HeldPlaces) (L2.defBody s_HeldPlaces) (L2.defScope s_HeldPlaces) [] [] (He.fAd K ("HeldPlaces", some "__init__")) fd) : DMkK P w K mg base 2 "HeldPlaces" [("stress" : Str), ("points" : Str)] [1, 0] i_HeldPlaces :=
  dmkK_of F sc_HeldPlaces (ps := [("self" : Str), ("points" : Str), ("stress" : Str)]) rfl (G.mkr 45 "HeldPlaces" rfl) (G.g 45 "HeldPlaces" rfl) (G.cf 45 "HeldPlaces" rfl) (fun _ _ _ _ _ _ us ws h1 h2 => match us, ws, h1, h2 with | [_], [_, _], _, _ => rfl) (w_HeldPlaces G G_copied)
theorem w_Cheapest (G : Facts K mg) (G_copied : DCal P w K mg base 1 "copied" 1 m_copied []) (cdv : Value) (A : Around) (outer : List PySem.Env) (s : Shared) (H : Hp) (E : XK) (hr : RoomG 1 (A.deeper (envOfC "Cheapest.__init__" (L2.defScope s_Cheapest) s.heap.objs.size f cdv))) : DSI (bodyCx P w K mg base N_Cheapest "Cheapest.__init__" (L2.defScope s_Cheapest) f cdv A outer s H E) (bodyW E) "Cheapest" (L2.defBody s_Cheapest) ((iSelf "fields" (fun ρ => (((getV ρ 1) >>= fun d => (pure []) >>= fun ds => pure (d :: ds)) >>= fun ds => m_copied (ds ++ []))) iNil)) := by
  have hN : N_Cheapest.Nodup := by decide +kernel
  exact (dsi_self (fun _ h => G.na_Cheapest_fields h) (de_call G_copied hr bodyTk (da_cons (de_var 1) da_nil)) dsi_nil)
theorem sc_Cheapest : FnScope N_Cheapest [("self" : Str), ("fields" : Str)] (L2.defScope s_Cheapest) := ⟨rfl, rfl, rfl, by decide +kernel, rfl, by decide +kernel, by decide +kernel⟩
theorem c_Cheapest (G : Facts K mg) (G_copied : DCal P w K mg base 1 "copied" 1 m_copied []) (F : FunD K "__init__" "Cheapest.__init__" (L2.defArgs s_Cheapest) (L2.defBody s_Cheapest) (L2.defScope s_Cheapest) [] [] (He.fAd K ("Cheapest", some "__init__")) fd) : DMk P w K mg base 2 "Cheapest" 1 i_Cheapest :=
  dmk_of F sc_Cheapest rfl (G.mkr 46 "Cheapest" rfl) (G.g 46 "Cheapest" rfl) (G.cf 46 "Cheapest" rfl) (FunD.bindsN (ps := [("self" : Str), ("fields" : Str)]) F fun _ _ _ _ _ _ us hl => match us, hl with | [_, _], _ => rfl) (w_Cheapest G G_copied)
theorem c_Cheapest_K (G : Facts K mg) (G_copied : DCal P w K mg base 1 "copied" 1 m_copied []) (F : FunD K "__init__" "Cheapest.__init__" (L2.defArgs s_Cheapest) (L2.defBody s_Cheapest) (L2.defScope s_Cheapest) [] [] (He.fAd K ("Cheapest", some "__init__")) fd) : DMkK P w K mg base 2 "Cheapest" [("fields" : Str)] [0] i_Cheapest :=
  dmkK_of F sc_Cheapest (ps := [("self" : Str), ("fields" : Str)]) rfl (G.mkr 46 "Cheapest" rfl) (G.g 46 "Cheapest" rfl) (G.cf 46 "Cheapest" rfl) (fun _ _ _ _ _ _ us ws h1 h2 => match us, ws, h1, h2 with | [_], [_], _, _ => rfl) (w_Cheapest G G_copied)
theorem w_TwoTrees (G : Facts K mg) (G_copied : DCal P w K mg base 1 "copied" 1 m_copied []) (cdv : Value) (A : Around) (outer : List PySem.Env) (s : Shared) (H : Hp) (E : XK) (hr : RoomG 1 (A.deeper (envOfC "TwoTrees.__init__" (L2.defScope s_TwoTrees) s.heap.objs.size f cdv))) : DSI (bodyCx P w K mg base N_TwoTrees "TwoTrees.__init__" (L2.defScope s_TwoTrees) f cdv A outer s H E) (bodyW E) "TwoTrees" (L2.defBody s_TwoTrees) ((iSelf "one" (fun ρ => (((getV ρ 1) >>= fun d => (pure []) >>= fun ds => pure (d :: ds)) >>= fun ds => m_copied (ds ++ []))) (iSelf "other" (fun ρ => (((getV ρ 2) >>= fun d => (pure []) >>= fun ds => pure (d :: ds)) >>= fun ds => m_copied (ds ++ []))) iNil))) := by
  have hN : N_TwoTrees.Nodup := by decide +kernel
  exact (dsi_self (fun _ h => G.na_TwoTrees_one h) (de_call G_copied hr bodyTk (da_cons (de_var 1) da_nil)) (dsi_self (fun _ h => G.na_TwoTrees_other h) (de_call G_copied hr bodyTk (da_cons (de_var 2) da_nil)) dsi_nil))
theorem sc_TwoTrees : FnScope N_TwoTrees [("self" : Str), ("one" : Str), ("other" : Str)] (L2.defScope s_TwoTrees) := ⟨rfl, rfl, rfl, by decide +kernel, rfl, by decide +kernel, by decide +kernel⟩
theorem c_TwoTrees (G : Facts K mg) (G_copied : DCal P w K mg base 1 "copied" 1 m_copied []) (F : FunD K "__init__" "TwoTrees.__init__" (L2.defArgs s_TwoTrees) (L2.defBody s_TwoTrees) (L2.defScope s_TwoTrees) [] [] (He.fAd K ("TwoTrees", some "__init__")) fd) : DMk P w K mg base 2 "TwoTrees" 2 i_TwoTrees :=
  dmk_of F sc_TwoTrees rfl (G.mkr 47 "TwoTrees" rfl) (G.g 47 "TwoTrees" rfl) (G.cf 47 "TwoTrees" rfl) (FunD.bindsN (ps := [("self" : Str), ("one" : Str), ("other" : Str)]) F fun _ _ _ _ _ _ us hl => match us, hl with | [_, _, _], _ => rfl) (w_TwoTrees G G_copied)
theorem c_TwoTrees_K (G : Facts K mg) (G_copied : DCal P w K mg base 1 "copied" 1 m_copied []) (F : FunD K "__init__" "TwoTrees.__init__" (L2.defArgs s_TwoTrees) (L2.defBody s_TwoTrees) (L2.defScope s_TwoTrees) [] [] (He.fAd K ("TwoTrees", some "__init__")) fd) : DMkK P w K mg base 2 "TwoTrees" [("other" : Str), ("one" : Str)] [1, 0] i_TwoTrees :=
  dmkK_of F sc_TwoTrees (ps := [("self" : Str), ("one" : Str), ("other" : Str)]) rfl (G.mkr 47 "TwoTrees" rfl) (G.g 47 "TwoTrees" rfl) (G.cf 47 "TwoTrees" rfl) (fun _ _ _ _ _ _ us ws h1 h2 => match us, ws, h1, h2 with | [_], [_, _], _, _ => rfl) (w_TwoTrees G G_copied)
theorem w_Thick (G : Facts K mg) (G_copied : DCal P w K mg base 1 "copied" 1 m_copied []) (cdv : Value) (A : Around) (outer : List PySem.Env) (s : Shared) (H : Hp) (E : XK) (hr : RoomG 1 (A.deeper (envOfC "Thick.__init__" (L2.defScope s_Thick) s.heap.objs.size f cdv))) : DSI (bodyCx P w K mg base N_Thick "Thick.__init__" (L2.defScope s_Thick) f cdv A outer s H E) (bodyW E) "Thick" (L2.defBody s_Thick) ((iSelf "joints" (fun ρ => (((getV ρ 1) >>= fun d => (pure []) >>= fun ds => pure (d :: ds)) >>= fun ds => m_copied (ds ++ []))) iNil)) := by
  have hN : N_Thick.Nodup := by decide +kernel
  exact (dsi_self (fun _ h => G.na_Thick_joints h) (de_call G_copied hr bodyTk (da_cons (de_var 1) da_nil)) dsi_nil)
theorem sc_Thick : FnScope N_Thick [("self" : Str), ("joints" : Str)] (L2.defScope s_Thick) := ⟨rfl, rfl, rfl, by decide +kernel, rfl, by decide +kernel, by decide +kernel⟩
theorem c_Thick (G : Facts K mg) (G_copied : DCal P w K mg base 1 "copied" 1 m_copied []) (F : FunD K "__init__" "Thick.__init__" (L2.defArgs s_Thick) (L2.defBody s_Thick) (L2.defScope s_Thick) [] [] (He.fAd K ("Thick", some "__init__")) fd) : DMk P w K mg base 2 "Thick" 1 i_Thick :=
  dmk_of F sc_Thick rfl (G.mkr 48 "Thick" rfl) (G.g 48 "Thick" rfl) (G.cf 48 "Thick" rfl) (FunD.bindsN (ps := [("self" : Str), ("joints" : Str)]) F fun _ _ _ _ _ _ us hl => match us, hl with | [_, _], _ => rfl) (w_Thick G G_copied)
theorem c_Thick_K (G : Facts K mg) (G_copied : DCal P w K mg base 1 "copied" 1 m_copied []) (F : FunD K "__init__" "Thick.__init__" (L2.defArgs s_Thick) (L2.defBody s_Thick) (L2.defScope s_Thick) [] [] (He.fAd K ("Thick", some "__init__")) fd) : DMkK P w K mg base 2 "Thick" [("joints" : Str)] [0] i_Thick :=
  dmkK_of F sc_Thick (ps := [("self" : Str), ("joints" : Str)]) rfl (G.mkr 48 "Thick" rfl) (G.g 48 "Thick" rfl) (G.cf 48 "Thick" rfl) (fun _ _ _ _ _ _ us ws h1 h2 => match us, ws, h1, h2 with | [_], [_], _, _ => rfl) (w_Thick G G_copied)
theorem w_Light (G : Facts K mg) (G_copied : DCal P w K mg base 1 "copied" 1 m_copied []) (cdv : Value) (A : Around) (outer : List PySem.Env) (s : Shared) (H : Hp) (E : XK) (hr : RoomG 1 (A.deeper (envOfC "Light.__init__" (L2.defScope s_Light) s.heap.objs.size f cdv))) : DSI (bodyCx P w K mg base N_Light "Light.__init__" (L2.defScope s_Light) f cdv A outer s H E) (bodyW E) "Light" (L2.defBody s_Light) ((iSelf "row" (fun ρ => (((getV ρ 1) >>= fun d => (pure []) >>= fun ds => pure (d :: ds)) >>= fun ds => m_copied (ds ++ []))) (iSelf "move" (fun ρ => (((getV ρ 2) >>= fun d => (pure []) >>= fun ds => pure (d :: ds)) >>= fun ds => m_copied (ds ++ []))) iNil))) := by
  have hN : N_Light.Nodup := by decide +kernel
  exact (dsi_self (fun _ h => G.na_Light_row h) (de_call G_copied hr bodyTk (da_cons (de_var 1) da_nil)) (dsi_self (fun _ h => G.na_Light_move h) (de_call G_copied hr bodyTk (da_cons (de_var 2) da_nil)) dsi_nil))
theorem sc_Light : FnScope N_Light [("self" : Str), ("row" : Str), ("move" : Str)] (L2.defScope s_Light) := ⟨rfl, rfl, rfl, by decide +kernel, rfl, by decide +kernel, by decide +kernel⟩
theorem c_Light (G : Facts K mg) (G_copied : DCal P w K mg base 1 "copied" 1 m_copied []) (F : FunD K "__init__" "Light.__init__" (L2.defArgs s_Light) (L2.defBody s_Light) (L2.defScope s_Light) [] [] (He.fAd K ("Light", some "__init__")) fd) : DMk P w K mg base 2 "Light" 2 i_Light :=
  dmk_of F sc_Light rfl (G.mkr 49 "Light" rfl) (G.g 49 "Light" rfl) (G.cf 49 "Light" rfl) (FunD.bindsN (ps := [("self" : Str), ("row" : Str), ("move" : Str)]) F fun _ _ _ _ _ _ us hl => match us, hl with | [_, _, _], _ => rfl) (w_Light G G_copied)
theorem c_Light_K (G : Facts K mg) (G_copied : DCal P w K mg base 1 "copied" 1 m_copied []) (F : FunD K "__init__" "Light.__init__" (L2.defArgs s_Light) (L2.defBody s_Light) (L2.defScope s_Light) [] [] (He.fAd K ("Light", some "__init__")) fd) : DMkK P w K mg base 2 "Light" [("move" : Str), ("row" : Str)] [1, 0] i_Light :=
  dmkK_of F sc_Light (ps := [("self" : Str), ("row" : Str), ("move" : Str)]) rfl (G.mkr 49 "Light" rfl) (G.g 49 "Light" rfl) (G.cf 49 "Light" rfl) (fun _ _ _ _ _ _ us ws h1 h2 => match us, ws, h1, h2 with | [_], [_, _], _, _ => rfl) (w_Light G G_copied)
theorem w_Sinks (G : Facts K mg) (G_copied : DCal P w K mg base 1 "copied" 1 m_copied []) (cdv : Value) (A : Around) (outer : List PySem.Env) (s : Shared) (H : Hp) (E : XK) (hr : RoomG 1 (A.deeper (envOfC "Sinks.__init__" (L2.defScope s_Sinks) s.heap.objs.size f cdv))) : DSI (bodyCx P w K mg base N_Sinks "Sinks.__init__" (L2.defScope s_Sinks) f cdv A outer s H E) (bodyW E) "Sinks" (L2.defBody s_Sinks) ((iSelf "move" (fun ρ => (((getV ρ 1) >>= fun d => (pure []) >>= fun ds => pure (d :: ds)) >>= fun ds => m_copied (ds ++ []))) iNil)) := by
  have hN : N_Sinks.Nodup := by decide +kernel
  exact (dsi_self (fun _ h => G.na_Sinks_move h) (de_call G_copied hr bodyTk (da_cons (de_var 1) da_nil)) dsi_nil)
theorem sc_Sinks : FnScope N_Sinks [("self" : Str), ("move" : Str)] (L2.defScope s_Sinks) := ⟨rfl, rfl, rfl, by decide +kernel, rfl, by decide +kernel, by decide +kernel⟩
theorem c_Sinks (G : Facts K mg) (G_copied : DCal P w K mg base 1 "copied" 1 m_copied []) (F : FunD K "__init__" "Sinks.__init__" (L2.defArgs s_Sinks) (L2.defBody s_Sinks) (L2.defScope s_Sinks) [] [] (He.fAd K ("Sinks", some "__init__")) fd) : DMk P w K mg base 2 "Sinks" 1 i_Sinks :=
  dmk_of F sc_Sinks rfl (G.mkr 50 "Sinks" rfl) (G.g 50 "Sinks" rfl) (G.cf 50 "Sinks" rfl) (FunD.bindsN (ps := [("self" : Str), ("move" : Str)]) F fun _ _ _ _ _ _ us hl => match us, hl with | [_, _], _ => rfl) (w_Sinks G G_copied)
theorem c_Sinks_K (G : Facts K mg) (G_copied : DCal P w K mg base 1 "copied" 1 m_copied []) (F : FunD K "__init__" "Sinks.__init__" (L2.defArgs s_Sinks) (L2.defBody s_Sinks) (L2.defScope s_Sinks) [] [] (He.fAd K ("Sinks", some "__init__")) fd) : DMkK P w K mg base 2 "Sinks" [("move" : Str)] [0] i_Sinks :=
  dmkK_of F sc_Sinks (ps := [("self" : Str), ("move" : Str)]) rfl (G.mkr 50 "Sinks" rfl) (G.g 50 "Sinks" rfl) (G.cf 50 "Sinks" rfl) (fun _ _ _ _ _ _ us ws h1 h2 => match us, ws, h1, h2 with | [_], [_], _, _ => rfl) (w_Sinks G G_copied)
theorem w_Uses (G : Facts K mg) (G_copied : DCal P w K mg base 1 "copied" 1 m_copied []) (cdv : Value) (A : Around) (outer : List PySem.Env) (s : Shared) (H : Hp) (E : XK) (hr : RoomG 1 (A.deeper (envOfC "Uses.__init__" (L2.defScope s_Uses) s.heap.objs.size f cdv))) : DSI (bodyCx P w K mg base N_Uses "Uses.__init__" (L2.defScope s_Uses) f cdv A outer s H E) (bodyW E) "Uses" (L2.defBody s_Uses) ((iSelf "row" (fun ρ => (((getV ρ 1) >>= fun d => (pure []) >>= fun ds => pure (d :: ds)) >>= fun ds => m_copied (ds ++ []))) (iSelf "move" (fun ρ => (((getV ρ 2) >>= fun d => (pure []) >>= fun ds => pure (d :: ds)) >>= fun ds => m_copied (ds ++ []))) iNil))) := by
  have hN : N_Uses.Nodup := by decide +kernel
  exact (dsi_self (fun _ h => G.na_Uses_row h) (de_call G_copied hr bodyTk (da_cons (de_var 1) da_nil)) (dsi_self (fun _ h => G.na_Uses_move h) (de_call G_copied hr bodyTk (da_cons (de_var 2) da_nil)) dsi_nil))
theorem sc_Uses : FnScope N_Uses [("self" : Str), ("row" : Str), ("move" : Str)] (L2.defScope s_Uses) := ⟨rfl, rfl, rfl, by decide +kernel, rfl, by decide +kernel, by decide +kernel⟩
theorem c_Uses (G : Facts K mg) (G_copied : DCal P w K mg base 1 "copied" 1 m_copied []) (F : FunD K "__init__" "Uses.__init__" (L2.defArgs s_Uses) (L2.defBody s_Uses) (L2.defScope s_Uses) [] [] (He.fAd K ("Uses", some "__init__")) fd) : DMk P w K mg base 2 "Uses" 2 i_Uses :=
  dmk_of F sc_Uses rfl (G.mkr 51 "Uses" rfl) (G.g 51 "Uses" rfl) (G.cf 51 "Uses" rfl) (FunD.bindsN (ps := [("self" : Str), ("row" : Str), ("move" : Str)]) F fun _ _ _ _ _ _ us hl => match us, hl with | [_, _, _], _ => rfl) (w_Uses G G_copied)
theorem c_Uses_K (G : Facts K mg) (G_copied : DCal P w K mg base 1 "copied" 1 m_copied []) (F : FunD K "__init__" "Uses.__init__" (L2.defArgs s_Uses) (L2.defBody s_Uses) (L2.defScope s_Uses) [] [] (He.fAd K ("Uses", some "__init__")) fd) : DMkK P w K mg base 2 "Uses" [("move" : Str), ("row" : Str)] [1, 0] i_Uses :=
  dmkK_of F sc_Uses (ps := [("self" : Str), ("row" : Str), ("move" : Str)]) rfl (G.mkr 51 "Uses" rfl) (G.g 51 "Uses" rfl) (G.cf 51 "Uses" rfl) (fun _ _ _ _ _ _ us ws h1 h2 => match us, ws, h1, h2 with | [_], [_, _], _, _ => rfl) (w_Uses G G_copied)
theorem w_Sizes (G : Facts K mg) (G_copied : DCal P w K mg base 1 "copied" 1 m_copied []) (cdv : Value) (A : Around) (outer : List PySem.Env) (s : Shared) (H : Hp) (E : XK) (hr : RoomG 1 (A.deeper (envOfC "Sizes.__init__" (L2.defScope s_Sizes) s.heap.objs.size f cdv))) : DSI (bodyCx P w K mg base N_Sizes "Sizes.__init__" (L2.defScope s_Sizes) f cdv A outer s H E) (bodyW E) "Sizes" (L2.defBody s_Sizes) ((iSelf "sizes" (fun ρ => (((getV ρ 1) >>= fun d => (pure []) >>= fun ds => pure (d :: ds)) >>= fun ds => m_copied (ds ++ []))) (iSelf "rows" (fun ρ => (((getV ρ 2) >>= fun d => (pure []) >>= fun ds => pure (d :: ds)) >>= fun ds => m_copied (ds ++ []))) (iSelf "moves" (fun ρ => (((getV ρ 3) >>= fun d => (pure []) >>= fun ds => pure (d :: ds)) >>= fun ds => m_copied (ds ++ []))) iNil)))) := by
  have hN : N_Sizes.Nodup := by decide +kernel
  exact (dsi_self (fun _ h => G.na_Sizes_sizes h) (de_call G_copied hr bodyTk (da_cons (de_var 1) da_nil)) (dsi_self (fun _ h => G.na_Sizes_rows h) (de_call G_copied hr bodyTk (da_cons (de_var 2) da_nil)) (dsi_self (fun _ h => G.na_Sizes_moves h) (de_call G_copied hr bodyTk (da_cons (de_var 3) da_nil)) dsi_nil)))
theorem sc_Sizes : FnScope N_Sizes [("self" : Str), ("sizes" : Str), ("rows" : Str), ("moves" : Str)] (L2.defScope s_Sizes) := ⟨rfl, rfl, rfl, by decide +kernel, rfl, by decide +kernel, by decide +kernel⟩
theorem c_Sizes (G : Facts K mg) (G_copied : DCal P w K mg base 1 "copied" 1 m_copied []) (F : FunD K "__init__" "Sizes.__init__" (L2.defArgs s_Sizes) (L2.defBody s_Sizes) (L2.defScope s_Sizes) [] [] (He.fAd K ("Sizes", some "__init__")) fd) : DMk P w K mg base 2 "Sizes" 3 i_Sizes :=
  dmk_of F sc_Sizes rfl (G.mkr 52 "Sizes" rfl) (G.g 52 "Sizes" rfl) (G.cf 52 "Sizes" rfl) (FunD.bindsN (ps := [("self" : Str), ("sizes" : Str), ("rows" : Str), ("moves" : Str)]) F fun _ _ _ _ _ _ us hl => match us, hl with | [_, _, _, _], _ => rfl) (w_Sizes G G_copied)
theorem c_Sizes_K (G : Facts K mg) (G_copied : DCal P w K mg base 1 "copied" 1 m_copied []) (F : FunD K "__init__" "Sizes.__init__" (L2.defArgs s_Sizes) (L2.defBody s_Sizes) (L2.defScope s_Sizes) [] [] (He.fAd K ("Sizes", some "__init__")) fd) : DMkK P w K mg base 2 "Sizes" [("moves" : Str), ("rows" : Str), ("sizes" : Str)] [2, 1, 0] i_Sizes :=
  dmkK_of F sc_Sizes (ps := [("self" : Str), ("sizes" : Str), ("rows" : Str), ("moves" : Str)]) rfl (G.mkr 52 "Sizes" rfl) (G.g 52 "Sizes" rfl) (G.cf 52 "Sizes" rfl) (fun _ _ _ _ _ _ us ws h1 h2 => match us, ws, h1, h2 with | [_], [_, _, _], _, _ => rfl) (w_Sizes G G_copied)
theorem w_Fails (G : Facts K mg) (G_copied : DCal P w K mg base 1 "copied" 1 m_copied []) (cdv : Value) (A : Around) (outer : List PySem.Env) (s : Shared) (H : Hp) (E : XK) (hr : RoomG 1 (A.deeper (envOfC "Fails.__init__" (L2.defScope s_Fails) s.heap.objs.size f cdv))) : DSI (bodyCx P w K mg base N_Fails "Fails.__init__" (L2.defScope s_Fails) f cdv A outer s H E) (bodyW E) "Fails" (L2.defBody s_Fails) ((iSelf "number" (fun ρ => (((getV ρ 1) >>= fun d => (pure []) >>= fun ds => pure (d :: ds)) >>= fun ds => m_copied (ds ++ []))) (iSelf "move" (fun ρ => (((getV ρ 2) >>= fun d => (pure []) >>= fun ds => pure (d :: ds)) >>= fun ds => m_copied (ds ++ []))) iNil))) := by
  have hN : N_Fails.Nodup := by decide +kernel
  exact (dsi_self (fun _ h => G.na_Fails_number h) (de_call G_copied hr bodyTk (da_cons (de_var 1) da_nil)) (dsi_self (fun _ h => G.na_Fails_move h) (de_call G_copied hr bodyTk (da_cons (de_var 2) da_nil)) dsi_nil))
theorem sc_Fails : FnScope N_Fails [("self" : Str), ("number" : Str), ("move" : Str)] (L2.defScope s_Fails) := ⟨rfl, rfl, rfl, by decide +kernel, rfl, by decide +kernel, by decide +kernel⟩
theorem c_Fails (G : Facts K mg) (G_copied : DCal P w K mg base 1 "copied" 1 m_copied []) (F : FunD K "__init__" "Fails.__init__" (L2.defArgs s_Fails) (L2.defBody s_Fails) (L2.defScope s_Fails) [] [] (He.fAd K ("Fails", some "__init__")) fd) : DMk P w K mg base 2 "Fails" 2 i_Fails :=
  dmk_of F sc_Fails rfl (G.mkr 53 "Fails" rfl) (G.g 53 "Fails" rfl) (G.cf 53 "Fails" rfl) (FunD.bindsN (ps := [("self" : Str), ("number" : Str), ("move" : Str)]) F fun _ _ _ _ _ _ us hl => match us, hl with | [_, _, _], _ => rfl) (w_Fails G G_copied)
theorem c_Fails_K (G : Facts K mg) (G_copied : DCal P w K mg base 1 "copied" 1 m_copied []) (F : FunD K "__init__" "Fails.__init__" (L2.defArgs s_Fails) (L2.defBody s_Fails) (L2.defScope s_Fails) [] [] (He.fAd K ("Fails", some "__init__")) fd) : DMkK P w K mg base 2 "Fails" [("move" : Str), ("number" : Str)] [1, 0] i_Fails :=
  dmkK_of F sc_Fails (ps := [("self" : Str), ("number" : Str), ("move" : Str)]) rfl (G.mkr 53 "Fails" rfl) (G.g 53 "Fails" rfl) (G.cf 53 "Fails" rfl) (fun _ _ _ _ _ _ us ws h1 h2 => match us, ws, h1, h2 with | [_], [_, _], _, _ => rfl) (w_Fails G G_copied)
theorem w_ulaw_pen (G : Facts K mg) (cdv : Value) (A : Around) (outer : List PySem.Env) (s : Shared) (H : Hp) (E : XK) (hr : RoomG 0 (A.deeper (envOfC "_law_pen" (L2.defScope s_ulaw_pen) s.heap.objs.size f cdv))) : DSs (bodyCx P w K mg base N_ulaw_pen "_law_pen" (L2.defScope s_ulaw_pen) f cdv A outer s H E) (bodyW E) [] [] (L2.defBody s_ulaw_pen) b_ulaw_pen [] := by
  have hN : N_ulaw_pen.Nodup := by decide +kernel
  exact (dss_cons (ds_set 1 de_int) (dss_cons (ds_for (vs := [2]) bodyPo rfl (di_seq (de_var 0)) (dg_name 2) (dss_cons (ds_set 1 (de_mod (dv_of (de_intOf G.int (dva_cons (dv_of (de_add (dv_of (de_mul (dv_of (de_var 1)) (dv_of de_int))) (dv_of (de_var 2)))) dva_nil))) (dv_of de_int))) dss_nil)) (dss_one (ds_ret (de_dictS (dd_disp (dps_cons de_str (de_of (df_listOf G.list (dva_cons (dv_of (de_var 0)) dva_nil))) (dps_cons de_str de_int (dps_cons de_str de_int (dps_cons de_str de_int (dps_cons de_str (de_var 1) dps_nil)))))))))))
theorem sc_ulaw_pen : FnScope N_ulaw_pen [("script" : Str)] (L2.defScope s_ulaw_pen) := ⟨rfl, rfl, rfl, by decide +kernel, rfl, by decide +kernel, by decide +kernel⟩
theorem c_ulaw_pen (G : Facts K mg) (F : FunD K "_law_pen" "_law_pen" (L2.defArgs s_ulaw_pen) (L2.defBody s_ulaw_pen) (L2.defScope s_ulaw_pen) [] [] (He.fAd K ("_law_pen", none)) fd) : DCal P w K mg base 1 "_law_pen" 1 m_ulaw_pen [] :=
  dcal_of F (G.gl 1 "_law_pen" rfl) (FunD.bindsN (ps := [("script" : Str)]) F fun _ _ _ _ _ _ us hl => match us, hl with | [_], _ => rfl) .nil (fun _ => .nil) sc_ulaw_pen (w_ulaw_pen G)
theorem w_ulaw_draw (G : Facts K mg) (cdv : Value) (A : Around) (outer : List PySem.Env) (s : Shared) (H : Hp) (E : XK) (hr : RoomG 0 (A.deeper (envOfC "_law_draw" (L2.defScope s_ulaw_draw) s.heap.objs.size f cdv))) : DSs (bodyCx P w K mg base N_ulaw_draw "_law_draw" (L2.defScope s_ulaw_draw) f cdv A outer s H E) (bodyW E) [] [] (L2.defBody s_ulaw_draw) b_ulaw_draw [] := by
  have hN : N_ulaw_draw.Nodup := by decide +kernel
  exact (dss_cons (ds_putO hr.u1 (de_var 0) de_str (de_add (dv_of (de_ix hr.u1 (dv_of (de_var 0)) (dv_of de_str))) (dv_of de_int))) (dss_cons (ds_if (dt_w (dw_and (dt_cmp (c_eq (L := eqL) G.sys hr.u64 G.neq) (dv_of (de_ix hr.u1 (dv_of (de_var 0)) (dv_of de_str))) (dv_of de_int)) (dw_and1 (dt_cmp c_lt (dv_of (de_ix hr.u1 (dv_of (de_var 0)) (dv_of de_str))) (dv_of (de_len G.len (dva_cons (dv_of (de_ix hr.u1 (dv_of (de_var 0)) (dv_of de_str))) dva_nil))))))) (dss_cons (ds_set 2 (de_ix hr.u1 (dv_of (de_ix hr.u1 (dv_of (de_var 0)) (dv_of de_str))) (dv_of (de_ix hr.u1 (dv_of (de_var 0)) (dv_of de_str))))) (dss_cons (ds_putO hr.u1 (de_var 0) de_str (de_add (dv_of (de_ix hr.u1 (dv_of (de_var 0)) (dv_of de_str))) (dv_of de_int))) (dss_cons (ds_if (dt_cmp c_ge (dv_of (de_var 2)) (dv_of (de_pow (dv_of de_int) (dv_of de_int)))) (dss_cons (ds_putO hr.u1 (de_var 0) de_str (de_sub (dv_of (de_var 2)) (dv_of (de_pow (dv_of de_int) (dv_of de_int))))) dss_nil) (dss_cons (ds_putO hr.u1 (de_var 0) de_str (de_mod (dv_of (de_intOf G.int (dva_cons (dv_of (de_add (dv_of (de_mul (dv_of (de_ix hr.u1 (dv_of (de_var 0)) (dv_of de_str))) (dv_of de_int))) (dv_of (de_var 2)))) dva_nil))) (dv_of de_int))) dss_nil)) dss_nil))) dss_nil) (dss_cons (ds_if (dt_cmp c_gt (dv_of (de_ix hr.u1 (dv_of (de_var 0)) (dv_of de_str))) (dv_of de_int)) (dss_cons (ds_set 3 (de_mod (dv_of (de_intOf G.int (dva_cons (dv_of (de_ix hr.u1 (dv_of (de_var 0)) (dv_of de_str))) dva_nil))) (dv_of (de_var 1)))) (dss_cons (ds_putO hr.u1 (de_var 0) de_str (de_fdiv (dv_of (de_ix hr.u1 (dv_of (de_var 0)) (dv_of de_str))) (dv_of (de_var 1)))) (dss_one (ds_ret (de_var 3))))) dss_nil) (dss_cons (ds_set 4 (de_add (dv_of (de_add (dv_of (de_ix hr.u1 (dv_of (de_var 0)) (dv_of de_str))) (dv_of (de_mul (dv_of (de_ix hr.u1 (dv_of (de_var 0)) (dv_of de_str))) (dv_of de_int))))) (dv_of de_int))) (dss_one (ds_ret (de_mod (dv_of (de_fdiv (dv_of (de_intOf G.int (dva_cons (dv_of (de_mod (dv_of (de_pow (dv_of (de_var 4)) (dv_of de_int))) (dv_of de_int))) dva_nil))) (dv_of de_int))) (dv_of (de_var 1)))))))))
theorem sc_ulaw_draw : FnScope N_ulaw_draw [("pen" : Str), ("many" : Str)] (L2.defScope s_ulaw_draw) := ⟨rfl, rfl, rfl, by decide +kernel, rfl, by decide +kernel, by decide +kernel⟩
theorem c_ulaw_draw (G : Facts K mg) (F : FunD K "_law_draw" "_law_draw" (L2.defArgs s_ulaw_draw) (L2.defBody s_ulaw_draw) (L2.defScope s_ulaw_draw) [] [] (He.fAd K ("_law_draw", none)) fd) : DCal P w K mg base 1 "_law_draw" 2 m_ulaw_draw [] :=
  dcal_of F (G.gl 2 "_law_draw" rfl) (FunD.bindsN (ps := [("pen" : Str), ("many" : Str)]) F fun _ _ _ _ _ _ us hl => match us, hl with | [_, _], _ => rfl) .nil (fun _ => .nil) sc_ulaw_draw (w_ulaw_draw G)
theorem w_ulaw_pick (G : Facts K mg) (G_ulaw_draw : DCal P w K mg base 1 "_law_draw" 2 m_ulaw_draw []) (cdv : Value) (A : Around) (outer : List PySem.Env) (s : Shared) (H : Hp) (E : XK) (hr : RoomG 1 (A.deeper (envOfC "_law_pick" (L2.defScope s_ulaw_pick) s.heap.objs.size f cdv))) : DSs (bodyCx P w K mg base N_ulaw_pick "_law_pick" (L2.defScope s_ulaw_pick) f cdv A outer s H E) (bodyW E) [] [] (L2.defBody s_ulaw_pick) b_ulaw_pick [] := by
  have hN : N_ulaw_pick.Nodup := by decide +kernel
  exact (dss_one (ds_ret (de_ix hr.u1 (dv_of (de_var 1)) (dv_of (de_call G_ulaw_draw hr bodyTk (da_cons (de_var 0) (da_cons (de_len G.len (dva_cons (dv_of (de_var 1)) dva_nil)) da_nil)))))))
theorem sc_ulaw_pick : FnScope N_ulaw_pick [("pen" : Str), ("some" : Str)] (L2.defScope s_ulaw_pick) := ⟨rfl, rfl, rfl, by decide +kernel, rfl, by decide +kernel, by decide +kernel⟩
theorem c_ulaw_pick (G : Facts K mg) (G_ulaw_draw : DCal P w K mg base 1 "_law_draw" 2 m_ulaw_draw []) (F : FunD K "_law_pick" "_law_pick" (L2.defArgs s_ulaw_pick) (L2.defBody s_ulaw_pick) (L2.defScope s_ulaw_pick) [] [] (He.fAd K ("_law_pick", none)) fd) : DCal P w K mg base 2 "_law_pick" 2 m_ulaw_pick [] :=
  dcal_of F (G.gl 3 "_law_pick" rfl) (FunD.bindsN (ps := [("pen" : Str), ("some" : Str)]) F fun _ _ _ _ _ _ us hl => match us, hl with | [_, _], _ => rfl) .nil (fun _ => .nil) sc_ulaw_pick (w_ulaw_pick G G_ulaw_draw)
theorem w_ulaw_made_a (G : Facts K mg) (G_Set : DMk P w K mg base 2 "Set" 1 i_Set) (G_Set_K : DMkK P w K mg base 2 "Set" [("answers" : Str)] [0] i_Set) (G_Slips : DMk P w K mg base 2 "Slips" 1 i_Slips) (G_Slips_K : DMkK P w K mg base 2 "Slips" [("screws" : Str)] [0] i_Slips) (G_Placed : DMk P w K mg base 2 "Placed" 1 i_Placed) (G_Placed_K : DMkK P w K mg base 2 "Placed" [("bars" : Str)] [0] i_Placed) (G_Free : DMk P w K mg base 2 "Free" 1 i_Free) (G_Free_K : DMkK P w K mg base 2 "Free" [("points" : Str)] [0] i_Free) (G_Crowded : DMk P w K mg base 2 "Crowded" 1 i_Crowded) (G_Crowded_K : DMkK P w K mg base 2 "Crowded" [("joints" : Str)] [0] i_Crowded) (G_Grown : DMk P w K mg base 2 "Grown" 1 i_Grown) (G_Grown_K : DMkK P w K mg base 2 "Grown" [("steps" : Str)] [0] i_Grown) (G_Covered : DMk P w K mg base 2 "Covered" 1 i_Covered) (G_Covered_K : DMkK P w K mg base 2 "Covered" [("lots" : Str)] [0] i_Covered) (G_Opens : DMk P w K mg base 2 "Opens" 1 i_Opens) (G_Opens_K : DMkK P w K mg base 2 "Opens" [("points" : Str)] [0] i_Opens) (G_Shuts : DMk P w K mg base 2 "Shuts" 2 i_Shuts) (G_Shuts_K : DMkK P w K mg base 2 "Shuts" [("weights" : Str), ("tie" : Str)] [1, 0] i_Shuts) (G_Forests : DMk P w K mg base 2 "Forests" 1 i_Forests) (G_Forests_K : DMkK P w K mg base 2 "Forests" [("rows" : Str)] [0] i_Forests) (G_Thicket : DMk P w K mg base 2 "Thicket" 1 i_Thicket) (G_Thicket_K : DMkK P w K mg base 2 "Thicket" [("joints" : Str)] [0] i_Thicket) (cdv : Value) (A : Around) (outer : List PySem.Env) (s : Shared) (H : Hp) (E : XK) (hr : RoomG 3 (A.deeper (envOfC "_law_made_a" (L2.defScope s_ulaw_made_a) s.heap.objs.size f cdv))) : DSs (bodyCx P w K mg base N_ulaw_made_a "_law_made_a" (L2.defScope s_ulaw_made_a) f cdv A outer s H E) (bodyW E) [] [] (L2.defBody s_ulaw_made_a) b_ulaw_made_a [] := by
  have hN : N_ulaw_made_a.Nodup := by decide +kernel
  exact (dss_cons (ds_own 3 (df_lst da_nil)) (dss_cons (ds_par 4 5 rfl hN (da_cons (de_makeS G_Set hr bodyTk (da_cons (de_var 0) da_nil)) (da_cons (de_makeKS G_Set_K hr bodyTk (dk_cons (de_var 0) dk_nil) (hpm := fun zs h => match zs, h with | [_], _ => rfl)) da_nil))) (dss_cons (ds_par 6 7 rfl hN (da_cons (de_and (de_isiO (L := []) G.isinstance G.g_Set G.s_Set (fun _ h => absurd h (by simp)) (dv_of (de_var 4))) (de_one (de_isiO (L := []) G.isinstance G.g_Set G.s_Set (fun _ h => absurd h (by simp)) (dv_of (de_var 5))))) (da_cons (de_of (df_lst (da_cons (de_fld (dv_of (de_var 4))) da_nil))) da_nil))) (dss_cons (ds_append 3 (de_tup (da_cons (de_var 4) (da_cons (de_var 5) (da_cons (de_var 6) (da_cons (de_var 7) (da_cons (de_of (df_lst (da_cons (de_fld (dv_of (de_var 5))) da_nil))) (da_cons (de_of (df_lst (da_cons (de_var 0) da_nil))) da_nil)))))))) (dss_cons (ds_par 4 5 rfl hN (da_cons (de_makeS G_Slips hr bodyTk (da_cons (de_var 0) da_nil)) (da_cons (de_makeKS G_Slips_K hr bodyTk (dk_cons (de_var 0) dk_nil) (hpm := fun zs h => match zs, h with | [_], _ => rfl)) da_nil))) (dss_cons (ds_par 6 7 rfl hN (da_cons (de_and (de_isiO (L := []) G.isinstance G.g_Slips G.s_Slips (fun _ h => absurd h (by simp)) (dv_of (de_var 4))) (de_one (de_isiO (L := []) G.isinstance G.g_Slips G.s_Slips (fun _ h => absurd h (by simp)) (dv_of (de_var 5))))) (da_cons (de_of (df_lst (da_cons (de_fld (dv_of (de_var 4))) da_nil))) da_nil))) (dss_cons (ds_append 3 (de_tup (da_cons (de_var 4) (da_cons (de_var 5) (da_cons (de_var 6) (da_cons (de_var 7) (da_cons (de_of (df_lst (da_cons (de_fld (dv_of (de_var 5))) da_nil))) (da_cons (de_of (df_lst (da_cons (de_var 0) da_nil))) da_nil)))))))) (dss_cons (ds_par 4 5 rfl hN (da_cons (de_makeS G_Placed hr bodyTk (da_cons (de_var 0) da_nil)) (da_cons (de_makeKS G_Placed_K hr bodyTk (dk_cons (de_var 0) dk_nil) (hpm := fun zs h => match zs, h with | [_], _ => rfl)) da_nil))) (dss_cons (ds_par 6 7 rfl hN (da_cons (de_and (de_isiO (L := []) G.isinstance G.g_Placed G.s_Placed (fun _ h => absurd h (by simp)) (dv_of (de_var 4))) (de_one (de_isiO (L := []) G.isinstance G.g_Placed G.s_Placed (fun _ h => absurd h (by simp)) (dv_of (de_var 5))))) (da_cons (de_of (df_lst (da_cons (de_fld (dv_of (de_var 4))) da_nil))) da_nil))) (dss_cons (ds_append 3 (de_tup (da_cons (de_var 4) (da_cons (de_var 5) (da_cons (de_var 6) (da_cons (de_var 7) (da_cons (de_of (df_lst (da_cons (de_fld (dv_of (de_var 5))) da_nil))) (da_cons (de_of (df_lst (da_cons (de_var 0) da_nil))) da_nil)))))))) (dss_cons (ds_par 4 5 rfl hN (da_cons (de_makeS G_Free hr bodyTk (da_cons (de_var 0) da_nil)) (da_cons (de_makeKS G_Free_K hr bodyTk (dk_cons (de_var 0) dk_nil) (hpm := fun zs h => match zs, h with | [_], _ => rfl)) da_nil))) (dss_cons (ds_par 6 7 rfl hN (da_cons (de_and (de_isiO (L := []) G.isinstance G.g_Free G.s_Free (fun _ h => absurd h (by simp)) (dv_of (de_var 4))) (de_one (de_isiO (L := []) G.isinstance G.g_Free G.s_Free (fun _ h => absurd h (by simp)) (dv_of (de_var 5))))) (da_cons (de_of (df_lst (da_cons (de_fld (dv_of (de_var 4))) da_nil))) da_nil))) (dss_cons (ds_append 3 (de_tup (da_cons (de_var 4) (da_cons (de_var 5) (da_cons (de_var 6) (da_cons (de_var 7) (da_cons (de_of (df_lst (da_cons (de_fld (dv_of (de_var 5))) da_nil))) (da_cons (de_of (df_lst (da_cons (de_var 0) da_nil))) da_nil)))))))) (dss_cons (ds_par 4 5 rfl hN (da_cons (de_makeS G_Crowded hr bodyTk (da_cons (de_var 0) da_nil)) (da_cons (de_makeKS G_Crowded_K hr bodyTk (dk_cons (de_var 0) dk_nil) (hpm := fun zs h => match zs, h with | [_], _ => rfl)) da_nil))) (dss_cons (ds_par 6 7 rfl hN (da_cons (de_and (de_isiO (L := []) G.isinstance G.g_Crowded G.s_Crowded (fun _ h => absurd h (by simp)) (dv_of (de_var 4))) (de_one (de_isiO (L := []) G.isinstance G.g_Crowded G.s_Crowded (fun _ h => absurd h (by simp)) (dv_of (de_var 5))))) (da_cons (de_of (df_lst (da_cons (de_fld (dv_of (de_var 4))) da_nil))) da_nil))) (dss_cons (ds_append 3 (de_tup (da_cons (de_var 4) (da_cons (de_var 5) (da_cons (de_var 6) (da_cons (de_var 7) (da_cons (de_of (df_lst (da_cons (de_fld (dv_of (de_var 5))) da_nil))) (da_cons (de_of (df_lst (da_cons (de_var 0) da_nil))) da_nil)))))))) (dss_cons (ds_par 4 5 rfl hN (da_cons (de_makeS G_Grown hr bodyTk (da_cons (de_var 0) da_nil)) (da_cons (de_makeKS G_Grown_K hr bodyTk (dk_cons (de_var 0) dk_nil) (hpm := fun zs h => match zs, h with | [_], _ => rfl)) da_nil))) (dss_cons (ds_par 6 7 rfl hN (da_cons (de_and (de_isiO (L := []) G.isinstance G.g_Grown G.s_Grown (fun _ h => absurd h (by simp)) (dv_of (de_var 4))) (de_one (de_isiO (L := []) G.isinstance G.g_Grown G.s_Grown (fun _ h => absurd h (by simp)) (dv_of (de_var 5))))) (da_cons (de_of (df_lst (da_cons (de_fld (dv_of (de_var 4))) da_nil))) da_nil))) (dss_cons (ds_append 3 (de_tup (da_cons (de_var 4) (da_cons (de_var 5) (da_cons (de_var 6) (da_cons (de_var 7) (da_cons (de_of (df_lst (da_cons (de_fld (dv_of (de_var 5))) da_nil))) (da_cons (de_of (df_lst (da_cons (de_var 0) da_nil))) da_nil)))))))) (dss_cons (ds_par 4 5 rfl hN (da_cons (de_makeS G_Covered hr bodyTk (da_cons (de_var 0) da_nil)) (da_cons (de_makeKS G_Covered_K hr bodyTk (dk_cons (de_var 0) dk_nil) (hpm := fun zs h => match zs, h with | [_], _ => rfl)) da_nil))) (dss_cons (ds_par 6 7 rfl hN (da_cons (de_and (de_isiO (L := []) G.isinstance G.g_Covered G.s_Covered (fun _ h => absurd h (by simp)) (dv_of (de_var 4))) (de_one (de_isiO (L := []) G.isinstance G.g_Covered G.s_Covered (fun _ h => absurd h (by simp)) (dv_of (de_var 5))))) (da_cons (de_of (df_lst (da_cons (de_fld (dv_of (de_var 4))) da_nil))) da_nil))) (dss_cons (ds_append 3 (de_tup (da_cons (de_var 4) (da_cons (de_var 5) (da_cons (de_var 6) (da_cons (de_var 7) (da_cons (de_of (df_lst (da_cons (de_fld (dv_of (de_var 5))) da_nil))) (da_cons (de_of (df_lst (da_cons (de_var 0) da_nil))) da_nil)))))))) (dss_cons (ds_par 4 5 rfl hN (da_cons (de_makeS G_Opens hr bodyTk (da_cons (de_var 0) da_nil)) (da_cons (de_makeKS G_Opens_K hr bodyTk (dk_cons (de_var 0) dk_nil) (hpm := fun zs h => match zs, h with | [_], _ => rfl)) da_nil))) (dss_cons (ds_par 6 7 rfl hN (da_cons (de_and (de_isiO (L := []) G.isinstance G.g_Opens G.s_Opens (fun _ h => absurd h (by simp)) (dv_of (de_var 4))) (de_one (de_isiO (L := []) G.isinstance G.g_Opens G.s_Opens (fun _ h => absurd h (by simp)) (dv_of (de_var 5))))) (da_cons (de_of (df_lst (da_cons (de_fld (dv_of (de_var 4))) da_nil))) da_nil))) (dss_cons (ds_append 3 (de_tup (da_cons (de_var 4) (da_cons (de_var 5) (da_cons (de_var 6) (da_cons (de_var 7) (da_cons (de_of (df_lst (da_cons (de_fld (dv_of (de_var 5))) da_nil))) (da_cons (de_of (df_lst (da_cons (de_var 0) da_nil))) da_nil)))))))) (dss_cons (ds_par 4 5 rfl hN (da_cons (de_makeS G_Shuts hr bodyTk (da_cons (de_var 0) (da_cons (de_var 1) da_nil))) (da_cons (de_makeKS G_Shuts_K hr bodyTk (dk_cons (de_var 1) (dk_cons (de_var 0) dk_nil)) (hpm := fun zs h => match zs, h with | [_, _], _ => rfl)) da_nil))) (dss_cons (ds_par 6 7 rfl hN (da_cons (de_and (de_isiO (L := []) G.isinstance G.g_Shuts G.s_Shuts (fun _ h => absurd h (by simp)) (dv_of (de_var 4))) (de_one (de_isiO (L := []) G.isinstance G.g_Shuts G.s_Shuts (fun _ h => absurd h (by simp)) (dv_of (de_var 5))))) (da_cons (de_of (df_lst (da_cons (de_fld (dv_of (de_var 4))) (da_cons (de_fld (dv_of (de_var 4))) da_nil)))) da_nil))) (dss_cons (ds_append 3 (de_tup (da_cons (de_var 4) (da_cons (de_var 5) (da_cons (de_var 6) (da_cons (de_var 7) (da_cons (de_of (df_lst (da_cons (de_fld (dv_of (de_var 5))) (da_cons (de_fld (dv_of (de_var 5))) da_nil)))) (da_cons (de_of (df_lst (da_cons (de_var 0) (da_cons (de_var 1) da_nil)))) da_nil)))))))) (dss_cons (ds_par 4 5 rfl hN (da_cons (de_makeS G_Forests hr bodyTk (da_cons (de_var 0) da_nil)) (da_cons (de_makeKS G_Forests_K hr bodyTk (dk_cons (de_var 0) dk_nil) (hpm := fun zs h => match zs, h with | [_], _ => rfl)) da_nil))) (dss_cons (ds_par 6 7 rfl hN (da_cons (de_and (de_isiO (L := []) G.isinstance G.g_Forests G.s_Forests (fun _ h => absurd h (by simp)) (dv_of (de_var 4))) (de_one (de_isiO (L := []) G.isinstance G.g_Forests G.s_Forests (fun _ h => absurd h (by simp)) (dv_of (de_var 5))))) (da_cons (de_of (df_lst (da_cons (de_fld (dv_of (de_var 4))) da_nil))) da_nil))) (dss_cons (ds_append 3 (de_tup (da_cons (de_var 4) (da_cons (de_var 5) (da_cons (de_var 6) (da_cons (de_var 7) (da_cons (de_of (df_lst (da_cons (de_fld (dv_of (de_var 5))) da_nil))) (da_cons (de_of (df_lst (da_cons (de_var 0) da_nil))) da_nil)))))))) (dss_cons (ds_par 4 5 rfl hN (da_cons (de_makeS G_Thicket hr bodyTk (da_cons (de_var 0) da_nil)) (da_cons (de_makeKS G_Thicket_K hr bodyTk (dk_cons (de_var 0) dk_nil) (hpm := fun zs h => match zs, h with | [_], _ => rfl)) da_nil))) (dss_cons (ds_par 6 7 rfl hN (da_cons (de_and (de_isiO (L := []) G.isinstance G.g_Thicket G.s_Thicket (fun _ h => absurd h (by simp)) (dv_of (de_var 4))) (de_one (de_isiO (L := []) G.isinstance G.g_Thicket G.s_Thicket (fun _ h => absurd h (by simp)) (dv_of (de_var 5))))) (da_cons (de_of (df_lst (da_cons (de_fld (dv_of (de_var 4))) da_nil))) da_nil))) (dss_cons (ds_append 3 (de_tup (da_cons (de_var 4) (da_cons (de_var 5) (da_cons (de_var 6) (da_cons (de_var 7) (da_cons (de_of (df_lst (da_cons (de_fld (dv_of (de_var 5))) da_nil))) (da_cons (de_of (df_lst (da_cons (de_var 0) da_nil))) da_nil)))))))) (dss_frz 3 (dss_one (ds_ret (de_var 3))))))))))))))))))))))))))))))))))))))
theorem sc_ulaw_made_a : FnScope N_ulaw_made_a [("a" : Str), ("b" : Str), ("c" : Str)] (L2.defScope s_ulaw_made_a) := ⟨rfl, rfl, rfl, by decide +kernel, rfl, by decide +kernel, by decide +kernel⟩
theorem c_ulaw_made_a (G : Facts K mg) (G_Set : DMk P w K mg base 2 "Set" 1 i_Set) (G_Set_K : DMkK P w K mg base 2 "Set" [("answers" : Str)] [0] i_Set) (G_Slips : DMk P w K mg base 2 "Slips" 1 i_Slips) (G_Slips_K : DMkK P w K mg base 2 "Slips" [("screws" : Str)] [0] i_Slips) (G_Placed : DMk P w K mg base 2 "Placed" 1 i_Placed) (G_Placed_K : DMkK P w K mg base 2 "Placed" [("bars" : Str)] [0] i_Placed) (G_Free : DMk P w K mg base 2 "Free" 1 i_Free) (G_Free_K : DMkK P w K mg base 2 "Free" [("points" : Str)] [0] i_Free) (G_Crowded : DMk P w K mg base 2 "Crowded" 1 i_Crowded) (G_Crowded_K : DMkK P w K mg base 2 "Crowded" [("joints" : Str)] [0] i_Crowded) (G_Grown : DMk P w K mg base 2 "Grown" 1 i_Grown) (G_Grown_K : DMkK P w K mg base 2 "Grown" [("steps" : Str)] [0] i_Grown) (G_Covered : DMk P w K mg base 2 "Covered" 1 i_Covered) (G_Covered_K : DMkK P w K mg base 2 "Covered" [("lots" : Str)] [0] i_Covered) (G_Opens : DMk P w K mg base 2 "Opens" 1 i_Opens) (G_Opens_K : DMkK P w K mg base 2 "Opens" [("points" : Str)] [0] i_Opens) (G_Shuts : DMk P w K mg base 2 "Shuts" 2 i_Shuts) (G_Shuts_K : DMkK P w K mg base 2 "Shuts" [("weights" : Str), ("tie" : Str)] [1, 0] i_Shuts) (G_Forests : DMk P w K mg base 2 "Forests" 1 i_Forests) (G_Forests_K : DMkK P w K mg base 2 "Forests" [("rows" : Str)] [0] i_Forests) (G_Thicket : DMk P w K mg base 2 "Thicket" 1 i_Thicket) (G_Thicket_K : DMkK P w K mg base 2 "Thicket" [("joints" : Str)] [0] i_Thicket) (F : FunD K "_law_made_a" "_law_made_a" (L2.defArgs s_ulaw_made_a) (L2.defBody s_ulaw_made_a) (L2.defScope s_ulaw_made_a) [] [] (He.fAd K ("_law_made_a", none)) fd) : DCal P w K mg base 4 "_law_made_a" 3 m_ulaw_made_a [] :=
  dcal_of F (G.gl 4 "_law_made_a" rfl) (FunD.bindsN (ps := [("a" : Str), ("b" : Str), ("c" : Str)]) F fun _ _ _ _ _ _ us hl => match us, hl with | [_, _, _], _ => rfl) .nil (fun _ => .nil) sc_ulaw_made_a (w_ulaw_made_a G G_Set G_Set_K G_Slips G_Slips_K G_Placed G_Placed_K G_Free G_Free_K G_Crowded G_Crowded_K G_Grown G_Grown_K G_Covered G_Covered_K G_Opens G_Opens_K G_Shuts G_Shuts_K G_Forests G_Forests_K G_Thicket G_Thicket_K)
theorem w_ulaw_made_b (G : Facts K mg) (G_Trees : DMk P w K mg base 2 "Trees" 1 i_Trees) (G_Trees_K : DMkK P w K mg base 2 "Trees" [("rows" : Str)] [0] i_Trees) (G_Split : DMk P w K mg base 2 "Split" 1 i_Split) (G_Split_K : DMkK P w K mg base 2 "Split" [("lots" : Str)] [0] i_Split) (G_Answer : DMk P w K mg base 2 "Answer" 1 i_Answer) (G_Answer_K : DMkK P w K mg base 2 "Answer" [("row" : Str)] [0] i_Answer) (G_Against : DMk P w K mg base 2 "Against" 1 i_Against) (G_Against_K : DMkK P w K mg base 2 "Against" [("move" : Str)] [0] i_Against) (G_Stiff : DMk P w K mg base 2 "Stiff" 1 i_Stiff) (G_Stiff_K : DMkK P w K mg base 2 "Stiff" [("answers" : Str)] [0] i_Stiff) (G_Loose : DMk P w K mg base 2 "Loose" 1 i_Loose) (G_Loose_K : DMkK P w K mg base 2 "Loose" [("move" : Str)] [0] i_Loose) (G_Braced : DMk P w K mg base 2 "Braced" 2 i_Braced) (G_Braced_K : DMkK P w K mg base 2 "Braced" [("back" : Str), ("there" : Str)] [1, 0] i_Braced) (G_Shears : DMk P w K mg base 2 "Shears" 1 i_Shears) (G_Shears_K : DMkK P w K mg base 2 "Shears" [("shear" : Str)] [0] i_Shears) (G_Pulls : DMk P w K mg base 2 "Pulls" 1 i_Pulls) (G_Pulls_K : DMkK P w K mg base 2 "Pulls" [("row" : Str)] [0] i_Pulls) (G_Yields : DMk P w K mg base 2 "Yields" 1 i_Yields) (G_Yields_K : DMkK P w K mg base 2 "Yields" [("shear" : Str)] [0] i_Yields) (G_Hung : DMk P w K mg base 2 "Hung" 1 i_Hung) (G_Hung_K : DMkK P w K mg base 2 "Hung" [("points" : Str)] [0] i_Hung) (cdv : Value) (A : Around) (outer : List PySem.Env) (s : Shared) (H : Hp) (E : XK) (hr : RoomG 3 (A.deeper (envOfC "_law_made_b" (L2.defScope s_ulaw_made_b) s.heap.objs.size f cdv))) : DSs (bodyCx P w K mg base N_ulaw_made_b "_law_made_b" (L2.defScope s_ulaw_made_b) f cdv A outer s H E) (bodyW E) [] [] (L2.defBody s_ulaw_made_b) b_ulaw_made_b [] := by
  have hN : N_ulaw_made_b.Nodup := by decide +kernel
  exact (dss_cons (ds_own 3 (df_lst da_nil)) (dss_cons (ds_par 4 5 rfl hN (da_cons (de_makeS G_Trees hr bodyTk (da_cons (de_var 0) da_nil)) (da_cons (de_makeKS G_Trees_K hr bodyTk (dk_cons (de_var 0) dk_nil) (hpm := fun zs h => match zs, h with | [_], _ => rfl)) da_nil))) (dss_cons (ds_par 6 7 rfl hN (da_cons (de_and (de_isiO (L := []) G.isinstance G.g_Trees G.s_Trees (fun _ h => absurd h (by simp)) (dv_of (de_var 4))) (de_one (de_isiO (L := []) G.isinstance G.g_Trees G.s_Trees (fun _ h => absurd h (by simp)) (dv_of (de_var 5))))) (da_cons (de_of (df_lst (da_cons (de_fld (dv_of (de_var 4))) da_nil))) da_nil))) (dss_cons (ds_append 3 (de_tup (da_cons (de_var 4) (da_cons (de_var 5) (da_cons (de_var 6) (da_cons (de_var 7) (da_cons (de_of (df_lst (da_cons (de_fld (dv_of (de_var 5))) da_nil))) (da_cons (de_of (df_lst (da_cons (de_var 0) da_nil))) da_nil)))))))) (dss_cons (ds_par 4 5 rfl hN (da_cons (de_makeS G_Split hr bodyTk (da_cons (de_var 0) da_nil)) (da_cons (de_makeKS G_Split_K hr bodyTk (dk_cons (de_var 0) dk_nil) (hpm := fun zs h => match zs, h with | [_], _ => rfl)) da_nil))) (dss_cons (ds_par 6 7 rfl hN (da_cons (de_and (de_isiO (L := []) G.isinstance G.g_Split G.s_Split (fun _ h => absurd h (by simp)) (dv_of (de_var 4))) (de_one (de_isiO (L := []) G.isinstance G.g_Split G.s_Split (fun _ h => absurd h (by simp)) (dv_of (de_var 5))))) (da_cons (de_of (df_lst (da_cons (de_fld (dv_of (de_var 4))) da_nil))) da_nil))) (dss_cons (ds_append 3 (de_tup (da_cons (de_var 4) (da_cons (de_var 5) (da_cons (de_var 6) (da_cons (de_var 7) (da_cons (de_of (df_lst (da_cons (de_fld (dv_of (de_var 5))) da_nil))) (da_cons (de_of (df_lst (da_cons (de_var 0) da_nil))) da_nil)))))))) (dss_cons (ds_par 4 5 rfl hN (da_cons (de_makeS G_Answer hr bodyTk (da_cons (de_var 0) da_nil)) (da_cons (de_makeKS G_Answer_K hr bodyTk (dk_cons (de_var 0) dk_nil) (hpm := fun zs h => match zs, h with | [_], _ => rfl)) da_nil))) (dss_cons (ds_par 6 7 rfl hN (da_cons (de_and (de_isiO (L := []) G.isinstance G.g_Answer G.s_Answer (fun _ h => absurd h (by simp)) (dv_of (de_var 4))) (de_one (de_isiO (L := []) G.isinstance G.g_Answer G.s_Answer (fun _ h => absurd h (by simp)) (dv_of (de_var 5))))) (da_cons (de_of (df_lst (da_cons (de_fld (dv_of (de_var 4))) da_nil))) da_nil))) (dss_cons (ds_append 3 (de_tup (da_cons (de_var 4) (da_cons (de_var 5) (da_cons (de_var 6) (da_cons (de_var 7) (da_cons (de_of (df_lst (da_cons (de_fld (dv_of (de_var 5))) da_nil))) (da_cons (de_of (df_lst (da_cons (de_var 0) da_nil))) da_nil)))))))) (dss_cons (ds_par 4 5 rfl hN (da_cons (de_makeS G_Against hr bodyTk (da_cons (de_var 0) da_nil)) (da_cons (de_makeKS G_Against_K hr bodyTk (dk_cons (de_var 0) dk_nil) (hpm := fun zs h => match zs, h with | [_], _ => rfl)) da_nil))) (dss_cons (ds_par 6 7 rfl hN (da_cons (de_and (de_isiO (L := []) G.isinstance G.g_Against G.s_Against (fun _ h => absurd h (by simp)) (dv_of (de_var 4))) (de_one (de_isiO (L := []) G.isinstance G.g_Against G.s_Against (fun _ h => absurd h (by simp)) (dv_of (de_var 5))))) (da_cons (de_of (df_lst (da_cons (de_fld (dv_of (de_var 4))) da_nil))) da_nil))) (dss_cons (ds_append 3 (de_tup (da_cons (de_var 4) (da_cons (de_var 5) (da_cons (de_var 6) (da_cons (de_var 7) (da_cons (de_of (df_lst (da_cons (de_fld (dv_of (de_var 5))) da_nil))) (da_cons (de_of (df_lst (da_cons (de_var 0) da_nil))) da_nil)))))))) (dss_cons (ds_par 4 5 rfl hN (da_cons (de_makeS G_Stiff hr bodyTk (da_cons (de_var 0) da_nil)) (da_cons (de_makeKS G_Stiff_K hr bodyTk (dk_cons (de_var 0) dk_nil) (hpm := fun zs h => match zs, h with | [_], _ => rfl)) da_nil))) (dss_cons (ds_par 6 7 rfl hN (da_cons (de_and (de_isiO (L := []) G.isinstance G.g_Stiff G.s_Stiff (fun _ h => absurd h (by simp)) (dv_of (de_var 4))) (de_one (de_isiO (L := []) G.isinstance G.g_Stiff G.s_Stiff (fun _ h => absurd h (by simp)) (dv_of (de_var 5))))) (da_cons (de_of (df_lst (da_cons (de_fld (dv_of (de_var 4))) da_nil))) da_nil))) (dss_cons (ds_append 3 (de_tup (da_cons (de_var 4) (da_cons (de_var 5) (da_cons (de_var 6) (da_cons (de_var 7) (da_cons (de_of (df_lst (da_cons (de_fld (dv_of (de_var 5))) da_nil))) (da_cons (de_of (df_lst (da_cons (de_var 0) da_nil))) da_nil)))))))) (dss_cons (ds_par 4 5 rfl hN (da_cons (de_makeS G_Loose hr bodyTk (da_cons (de_var 0) da_nil)) (da_cons (de_makeKS G_Loose_K hr bodyTk (dk_cons (de_var 0) dk_nil) (hpm := fun zs h => match zs, h with | [_], _ => rfl)) da_nil))) (dss_cons (ds_par 6 7 rfl hN (da_cons (de_and (de_isiO (L := []) G.isinstance G.g_Loose G.s_Loose (fun _ h => absurd h (by simp)) (dv_of (de_var 4))) (de_one (de_isiO (L := []) G.isinstance G.g_Loose G.s_Loose (fun _ h => absurd h (by simp)) (dv_of (de_var 5))))) (da_cons (de_of (df_lst (da_cons (de_fld (dv_of (de_var 4))) da_nil))) da_nil))) (dss_cons (ds_append 3 (de_tup (da_cons (de_var 4) (da_cons (de_var 5) (da_cons (de_var 6) (da_cons (de_var 7) (da_cons (de_of (df_lst (da_cons (de_fld (dv_of (de_var 5))) da_nil))) (da_cons (de_of (df_lst (da_cons (de_var 0) da_nil))) da_nil)))))))) (dss_cons (ds_par 4 5 rfl hN (da_cons (de_makeS G_Braced hr bodyTk (da_cons (de_var 0) (da_cons (de_var 1) da_nil))) (da_cons (de_makeKS G_Braced_K hr bodyTk (dk_cons (de_var 1) (dk_cons (de_var 0) dk_nil)) (hpm := fun zs h => match zs, h with | [_, _], _ => rfl)) da_nil))) (dss_cons (ds_par 6 7 rfl hN (da_cons (de_and (de_isiO (L := []) G.isinstance G.g_Braced G.s_Braced (fun _ h => absurd h (by simp)) (dv_of (de_var 4))) (de_one (de_isiO (L := []) G.isinstance G.g_Braced G.s_Braced (fun _ h => absurd h (by simp)) (dv_of (de_var 5))))) (da_cons (de_of (df_lst (da_cons (de_fld (dv_of (de_var 4))) (da_cons (de_fld (dv_of (de_var 4))) da_nil)))) da_nil))) (dss_cons (ds_append 3 (de_tup (da_cons (de_var 4) (da_cons (de_var 5) (da_cons (de_var 6) (da_cons (de_var 7) (da_cons (de_of (df_lst (da_cons (de_fld (dv_of (de_var 5))) (da_cons (de_fld (dv_of (de_var 5))) da_nil)))) (da_cons (de_of (df_lst (da_cons (de_var 0) (da_cons (de_var 1) da_nil)))) da_nil)))))))) (dss_cons (ds_par 4 5 rfl hN (da_cons (de_makeS G_Shears hr bodyTk (da_cons (de_var 0) da_nil)) (da_cons (de_makeKS G_Shears_K hr bodyTk (dk_cons (de_var 0) dk_nil) (hpm := fun zs h => match zs, h with | [_], _ => rfl)) da_nil))) (dss_cons (ds_par 6 7 rfl hN (da_cons (de_and (de_isiO (L := []) G.isinstance G.g_Shears G.s_Shears (fun _ h => absurd h (by simp)) (dv_of (de_var 4))) (de_one (de_isiO (L := []) G.isinstance G.g_Shears G.s_Shears (fun _ h => absurd h (by simp)) (dv_of (de_var 5))))) (da_cons (de_of (df_lst (da_cons (de_fld (dv_of (de_var 4))) da_nil))) da_nil))) (dss_cons (ds_append 3 (de_tup (da_cons (de_var 4) (da_cons (de_var 5) (da_cons (de_var 6) (da_cons (de_var 7) (da_cons (de_of (df_lst (da_cons (de_fld (dv_of (de_var 5))) da_nil))) (da_cons (de_of (df_lst (da_cons (de_var 0) da_nil))) da_nil)))))))) (dss_cons (ds_par 4 5 rfl hN (da_cons (de_makeS G_Pulls hr bodyTk (da_cons (de_var 0) da_nil)) (da_cons (de_makeKS G_Pulls_K hr bodyTk (dk_cons (de_var 0) dk_nil) (hpm := fun zs h => match zs, h with | [_], _ => rfl)) da_nil))) (dss_cons (ds_par 6 7 rfl hN (da_cons (de_and (de_isiO (L := []) G.isinstance G.g_Pulls G.s_Pulls (fun _ h => absurd h (by simp)) (dv_of (de_var 4))) (de_one (de_isiO (L := []) G.isinstance G.g_Pulls G.s_Pulls (fun _ h => absurd h (by simp)) (dv_of (de_var 5))))) (da_cons (de_of (df_lst (da_cons (de_fld (dv_of (de_var 4))) da_nil))) da_nil))) (dss_cons (ds_append 3 (de_tup (da_cons (de_var 4) (da_cons (de_var 5) (da_cons (de_var 6) (da_cons (de_var 7) (da_cons (de_of (df_lst (da_cons (de_fld (dv_of (de_var 5))) da_nil))) (da_cons (de_of (df_lst (da_cons (de_var 0) da_nil))) da_nil)))))))) (dss_cons (ds_par 4 5 rfl hN (da_cons (de_makeS G_Yields hr bodyTk (da_cons (de_var 0) da_nil)) (da_cons (de_makeKS G_Yields_K hr bodyTk (dk_cons (de_var 0) dk_nil) (hpm := fun zs h => match zs, h with | [_], _ => rfl)) da_nil))) (dss_cons (ds_par 6 7 rfl hN (da_cons (de_and (de_isiO (L := []) G.isinstance G.g_Yields G.s_Yields (fun _ h => absurd h (by simp)) (dv_of (de_var 4))) (de_one (de_isiO (L := []) G.isinstance G.g_Yields G.s_Yields (fun _ h => absurd h (by simp)) (dv_of (de_var 5))))) (da_cons (de_of (df_lst (da_cons (de_fld (dv_of (de_var 4))) da_nil))) da_nil))) (dss_cons (ds_append 3 (de_tup (da_cons (de_var 4) (da_cons (de_var 5) (da_cons (de_var 6) (da_cons (de_var 7) (da_cons (de_of (df_lst (da_cons (de_fld (dv_of (de_var 5))) da_nil))) (da_cons (de_of (df_lst (da_cons (de_var 0) da_nil))) da_nil)))))))) (dss_cons (ds_par 4 5 rfl hN (da_cons (de_makeS G_Hung hr bodyTk (da_cons (de_var 0) da_nil)) (da_cons (de_makeKS G_Hung_K hr bodyTk (dk_cons (de_var 0) dk_nil) (hpm := fun zs h => match zs, h with | [_], _ => rfl)) da_nil))) (dss_cons (ds_par 6 7 rfl hN (da_cons (de_and (de_isiO (L := []) G.isinstance G.g_Hung G.s_Hung (fun _ h => absurd h (by simp)) (dv_of (de_var 4))) (de_one (de_isiO (L := []) G.isinstance G.g_Hung G.s_Hung (fun _ h => absurd h (by simp)) (dv_of (de_var 5))))) (da_cons (de_of (df_lst (da_cons (de_fld (dv_of (de_var 4))) da_nil))) da_nil))) (dss_cons (ds_append 3 (de_tup (da_cons (de_var 4) (da_cons (de_var 5) (da_cons (de_var 6) (da_cons (de_var 7) (da_cons (de_of (df_lst (da_cons (de_fld (dv_of (de_var 5))) da_nil))) (da_cons (de_of (df_lst (da_cons (de_var 0) da_nil))) da_nil)))))))) (dss_frz 3 (dss_one (ds_ret (de_var 3))))))))))))))))))))))))))))))))))))))
theorem sc_ulaw_made_b : FnScope N_ulaw_made_b [("a" : Str), ("b" : Str), ("c" : Str)] (L2.defScope s_ulaw_made_b) := ⟨rfl, rfl, rfl, by decide +kernel, rfl, by decide +kernel, by decide +kernel⟩
theorem c_ulaw_made_b (G : Facts K mg) (G_Trees : DMk P w K mg base 2 "Trees" 1 i_Trees) (G_Trees_K : DMkK P w K mg base 2 "Trees" [("rows" : Str)] [0] i_Trees) (G_Split : DMk P w K mg base 2 "Split" 1 i_Split) (G_Split_K : DMkK P w K mg base 2 "Split" [("lots" : Str)] [0] i_Split) (G_Answer : DMk P w K mg base 2 "Answer" 1 i_Answer) (G_Answer_K : DMkK P w K mg base 2 "Answer" [("row" : Str)] [0] i_Answer) (G_Against : DMk P w K mg base 2 "Against" 1 i_Against) (G_Against_K : DMkK P w K mg base 2 "Against" [("move" : Str)] [0] i_Against) (G_Stiff : DMk P w K mg base 2 "Stiff" 1 i_Stiff) (G_Stiff_K : DMkK P w K mg base 2 "Stiff" [("answers" : Str)] [0] i_Stiff) (G_Loose : DMk P w K mg base 2 "Loose" 1 i_Loose) (G_Loose_K : DMkK P w K mg base 2 "Loose" [("move" : Str)] [0] i_Loose) (G_Braced : DMk P w K mg base 2 "Braced" 2 i_Braced) (G_Braced_K : DMkK P w K mg base 2 "Braced" [("back" : Str), ("there" : Str)] [1, 0] i_Braced) (G_Shears : DMk P w K mg base 2 "Shears" 1 i_Shears) (G_Shears_K : DMkK P w K mg base 2 "Shears" [("shear" : Str)] [0] i_Shears) (G_Pulls : DMk P w K mg base 2 "Pulls" 1 i_Pulls) (G_Pulls_K : DMkK P w K mg base 2 "Pulls" [("row" : Str)] [0] i_Pulls) (G_Yields : DMk P w K mg base 2 "Yields" 1 i_Yields) (G_Yields_K : DMkK P w K mg base 2 "Yields" [("shear" : Str)] [0] i_Yields) (G_Hung : DMk P w K mg base 2 "Hung" 1 i_Hung) (G_Hung_K : DMkK P w K mg base 2 "Hung" [("points" : Str)] [0] i_Hung) (F : FunD K "_law_made_b" "_law_made_b" (L2.defArgs s_ulaw_made_b) (L2.defBody s_ulaw_made_b) (L2.defScope s_ulaw_made_b) [] [] (He.fAd K ("_law_made_b", none)) fd) : DCal P w K mg base 4 "_law_made_b" 3 m_ulaw_made_b [] :=
  dcal_of F (G.gl 5 "_law_made_b" rfl) (FunD.bindsN (ps := [("a" : Str), ("b" : Str), ("c" : Str)]) F fun _ _ _ _ _ _ us hl => match us, hl with | [_, _, _], _ => rfl) .nil (fun _ => .nil) sc_ulaw_made_b (w_ulaw_made_b G G_Trees G_Trees_K G_Split G_Split_K G_Answer G_Answer_K G_Against G_Against_K G_Stiff G_Stiff_K G_Loose G_Loose_K G_Braced G_Braced_K G_Shears G_Shears_K G_Pulls G_Pulls_K G_Yields G_Yields_K G_Hung G_Hung_K)
theorem w_ulaw_made_c (G : Facts K mg) (G_Adrift : DMk P w K mg base 2 "Adrift" 1 i_Adrift) (G_Adrift_K : DMkK P w K mg base 2 "Adrift" [("lot" : Str)] [0] i_Adrift) (G_Weights : DMk P w K mg base 2 "Weights" 1 i_Weights) (G_Weights_K : DMkK P w K mg base 2 "Weights" [("row" : Str)] [0] i_Weights) (G_Slack : DMk P w K mg base 2 "Slack" 1 i_Slack) (G_Slack_K : DMkK P w K mg base 2 "Slack" [("move" : Str)] [0] i_Slack) (G_Bent : DMk P w K mg base 2 "Bent" 1 i_Bent) (G_Bent_K : DMkK P w K mg base 2 "Bent" [("stress" : Str)] [0] i_Bent) (G_Level : DMk P w K mg base 2 "Level" 2 i_Level) (G_Level_K : DMkK P w K mg base 2 "Level" [("move" : Str), ("tie" : Str)] [1, 0] i_Level) (G_Lift : DMk P w K mg base 2 "Lift" 1 i_Lift) (G_Lift_K : DMkK P w K mg base 2 "Lift" [("roof" : Str)] [0] i_Lift) (G_Warped : DMk P w K mg base 2 "Warped" 2 i_Warped) (G_Warped_K : DMkK P w K mg base 2 "Warped" [("joints" : Str), ("face" : Str)] [1, 0] i_Warped) (G_Firm : DMk P w K mg base 2 "Firm" 2 i_Firm) (G_Firm_K : DMkK P w K mg base 2 "Firm" [("stress" : Str), ("answers" : Str)] [1, 0] i_Firm) (G_Gives : DMk P w K mg base 2 "Gives" 1 i_Gives) (G_Gives_K : DMkK P w K mg base 2 "Gives" [("move" : Str)] [0] i_Gives) (G_Parts : DMk P w K mg base 2 "Parts" 2 i_Parts) (G_Parts_K : DMkK P w K mg base 2 "Parts" [("move" : Str), ("stress" : Str)] [1, 0] i_Parts) (G_Carries : DMk P w K mg base 2 "Carries" 1 i_Carries) (G_Carries_K : DMkK P w K mg base 2 "Carries" [("row" : Str)] [0] i_Carries) (cdv : Value) (A : Around) (outer : List PySem.Env) (s : Shared) (H : Hp) (E : XK) (hr : RoomG 3 (A.deeper (envOfC "_law_made_c" (L2.defScope s_ulaw_made_c) s.heap.objs.size f cdv))) : DSs (bodyCx P w K mg base N_ulaw_made_c "_law_made_c" (L2.defScope s_ulaw_made_c) f cdv A outer s H E) (bodyW E) [] [] (L2.defBody s_ulaw_made_c) b_ulaw_made_c [] := by
  have hN : N_ulaw_made_c.Nodup := by decide +kernel
  exact (dss_cons (ds_own 3 (df_lst da_nil)) (dss_cons (ds_par 4 5 rfl hN (da_cons (de_makeS G_Adrift hr bodyTk (da_cons (de_var 0) da_nil)) (da_cons (de_makeKS G_Adrift_K hr bodyTk (dk_cons (de_var 0) dk_nil) (hpm := fun zs h => match zs, h with | [_], _ => rfl)) da_nil))) (dss_cons (ds_par 6 7 rfl hN (da_cons (de_and (de_isiO (L := []) G.isinstance G.g_Adrift G.s_Adrift (fun _ h => absurd h (by simp)) (dv_of (de_var 4))) (de_one (de_isiO (L := []) G.isinstance G.g_Adrift G.s_Adrift (fun _ h => absurd h (by simp)) (dv_of (de_var 5))))) (da_cons (de_of (df_lst (da_cons (de_fld (dv_of (de_var 4))) da_nil))) da_nil))) (dss_cons (ds_append 3 (de_tup (da_cons (de_var 4) (da_cons (de_var 5) (da_cons (de_var 6) (da_cons (de_var 7) (da_cons (de_of (df_lst (da_cons (de_fld (dv_of (de_var 5))) da_nil))) (da_cons (de_of (df_lst (da_cons (de_var 0) da_nil))) da_nil)))))))) (dss_cons (ds_par 4 5 rfl hN (da_cons (de_makeS G_Weights hr bodyTk (da_cons (de_var 0) da_nil)) (da_cons (de_makeKS G_Weights_K hr bodyTk (dk_cons (de_var 0) dk_nil) (hpm := fun zs h => match zs, h with | [_], _ => rfl)) da_nil))) (dss_cons (ds_par 6 7 rfl hN (da_cons (de_and (de_isiO (L := []) G.isinstance G.g_Weights G.s_Weights (fun _ h => absurd h (by simp)) (dv_of (de_var 4))) (de_one (de_isiO (L := []) G.isinstance G.g_Weights G.s_Weights (fun _ h => absurd h (by simp)) (dv_of (de_var 5))))) (da_cons (de_of (df_lst (da_cons (de_fld (dv_of (de_var 4))) da_nil))) da_nil))) (dss_cons (ds_append 3 (de_tup (da_cons (de_var 4) (da_cons (de_var 5) (da_cons (de_var 6) (da_cons (de_var 7) (da_cons (de_of (df_lst (da_cons (de_fld (dv_of (de_var 5))) da_nil))) (da_cons (de_of (df_lst (da_cons (de_var 0) da_nil))) da_nil)))))))) (dss_cons (ds_par 4 5 rfl hN (da_cons (de_makeS G_Slack hr bodyTk (da_cons (de_var 0) da_nil)) (da_cons (de_makeKS G_Slack_K hr bodyTk (dk_cons (de_var 0) dk_nil) (hpm := fun zs h => match zs, h with | [_], _ => rfl)) da_nil))) (dss_cons (ds_par 6 7 rfl hN (da_cons (de_and (de_isiO (L := []) G.isinstance G.g_Slack G.s_Slack (fun _ h => absurd h (by simp)) (dv_of (de_var 4))) (de_one (de_isiO (L := []) G.isinstance G.g_Slack G.s_Slack (fun _ h => absurd h (by simp)) (dv_of (de_var 5))))) (da_cons (de_of (df_lst (da_cons (de_fld (dv_of (de_var 4))) da_nil))) da_nil))) (dss_cons (ds_append 3 (de_tup (da_cons (de_var 4) (da_cons (de_var 5) (da_cons (de_var 6) (da_cons (de_var 7) (da_cons (de_of (df_lst (da_cons (de_fld (dv_of (de_var 5))) da_nil))) (da_cons (de_of (df_lst (da_cons (de_var 0) da_nil))) da_nil)))))))) (dss_cons (ds_par 4 5 rfl hN (da_cons (de_makeS G_Bent hr bodyTk (da_cons (de_var 0) da_nil)) (da_cons (de_makeKS G_Bent_K hr bodyTk (dk_cons (de_var 0) dk_nil) (hpm := fun zs h => match zs, h with | [_], _ => rfl)) da_nil))) (dss_cons (ds_par 6 7 rfl hN (da_cons (de_and (de_isiO (L := []) G.isinstance G.g_Bent G.s_Bent (fun _ h => absurd h (by simp)) (dv_of (de_var 4))) (de_one (de_isiO (L := []) G.isinstance G.g_Bent G.s_Bent (fun _ h => absurd h (by simp)) (dv_of (de_var 5))))) (da_cons (de_of (df_lst (da_cons (de_fld (dv_of (de_var 4))) da_nil))) da_nil))) (dss_cons (ds_append 3 (de_tup (da_cons (de_var 4) (da_cons (de_var 5) (da_cons (de_var 6) (da_cons (de_var 7) (da_cons (de_of (df_lst (da_cons (de_fld (dv_of (de_var 5))) da_nil))) (da_cons (de_of (df_lst (da_cons (de_var 0) da_nil))) da_nil)))))))) (dss_cons (ds_par 4 5 rfl hN (da_cons (de_makeS G_Level hr bodyTk (da_cons (de_var 0) (da_cons (de_var 1) da_nil))) (da_cons (de_makeKS G_Level_K hr bodyTk (dk_cons (de_var 1) (dk_cons (de_var 0) dk_nil)) (hpm := fun zs h => match zs, h with | [_, _], _ => rfl)) da_nil))) (dss_cons (ds_par 6 7 rfl hN (da_cons (de_and (de_isiO (L := []) G.isinstance G.g_Level G.s_Level (fun _ h => absurd h (by simp)) (dv_of (de_var 4))) (de_one (de_isiO (L := []) G.isinstance G.g_Level G.s_Level (fun _ h => absurd h (by simp)) (dv_of (de_var 5))))) (da_cons (de_of (df_lst (da_cons (de_fld (dv_of (de_var 4))) (da_cons (de_fld (dv_of (de_var 4))) da_nil)))) da_nil))) (dss_cons (ds_append 3 (de_tup (da_cons (de_var 4) (da_cons (de_var 5) (da_cons (de_var 6) (da_cons (de_var 7) (da_cons (de_of (df_lst (da_cons (de_fld (dv_of (de_var 5))) (da_cons (de_fld (dv_of (de_var 5))) da_nil)))) (da_cons (de_of (df_lst (da_cons (de_var 0) (da_cons (de_var 1) da_nil)))) da_nil)))))))) (dss_cons (ds_par 4 5 rfl hN (da_cons (de_makeS G_Lift hr bodyTk (da_cons (de_var 0) da_nil)) (da_cons (de_makeKS G_Lift_K hr bodyTk (dk_cons (de_var 0) dk_nil) (hpm := fun zs h => match zs, h with | [_], _ => rfl)) da_nil))) (dss_cons (ds_par 6 7 rfl hN (da_cons (de_and (de_isiO (L := []) G.isinstance G.g_Lift G.s_Lift (fun _ h => absurd h (by simp)) (dv_of (de_var 4))) (de_one (de_isiO (L := []) G.isinstance G.g_Lift G.s_Lift (fun _ h => absurd h (by simp)) (dv_of (de_var 5))))) (da_cons (de_of (df_lst (da_cons (de_fld (dv_of (de_var 4))) da_nil))) da_nil))) (dss_cons (ds_append 3 (de_tup (da_cons (de_var 4) (da_cons (de_var 5) (da_cons (de_var 6) (da_cons (de_var 7) (da_cons (de_of (df_lst (da_cons (de_fld (dv_of (de_var 5))) da_nil))) (da_cons (de_of (df_lst (da_cons (de_var 0) da_nil))) da_nil)))))))) (dss_cons (ds_par 4 5 rfl hN (da_cons (de_makeS G_Warped hr bodyTk (da_cons (de_var 0) (da_cons (de_var 1) da_nil))) (da_cons (de_makeKS G_Warped_K hr bodyTk (dk_cons (de_var 1) (dk_cons (de_var 0) dk_nil)) (hpm := fun zs h => match zs, h with | [_, _], _ => rfl)) da_nil))) (dss_cons (ds_par 6 7 rfl hN (da_cons (de_and (de_isiO (L := []) G.isinstance G.g_Warped G.s_Warped (fun _ h => absurd h (by simp)) (dv_of (de_var 4))) (de_one (de_isiO (L := []) G.isinstance G.g_Warped G.s_Warped (fun _ h => absurd h (by simp)) (dv_of (de_var 5))))) (da_cons (de_of (df_lst (da_cons (de_fld (dv_of (de_var 4))) (da_cons (de_fld (dv_of (de_var 4))) da_nil)))) da_nil))) (dss_cons (ds_append 3 (de_tup (da_cons (de_var 4) (da_cons (de_var 5) (da_cons (de_var 6) (da_cons (de_var 7) (da_cons (de_of (df_lst (da_cons (de_fld (dv_of (de_var 5))) (da_cons (de_fld (dv_of (de_var 5))) da_nil)))) (da_cons (de_of (df_lst (da_cons (de_var 0) (da_cons (de_var 1) da_nil)))) da_nil)))))))) (dss_cons (ds_par 4 5 rfl hN (da_cons (de_makeS G_Firm hr bodyTk (da_cons (de_var 0) (da_cons (de_var 1) da_nil))) (da_cons (de_makeKS G_Firm_K hr bodyTk (dk_cons (de_var 1) (dk_cons (de_var 0) dk_nil)) (hpm := fun zs h => match zs, h with | [_, _], _ => rfl)) da_nil))) (dss_cons (ds_par 6 7 rfl hN (da_cons (de_and (de_isiO (L := []) G.isinstance G.g_Firm G.s_Firm (fun _ h => absurd h (by simp)) (dv_of (de_var 4))) (de_one (de_isiO (L := []) G.isinstance G.g_Firm G.s_Firm (fun _ h => absurd h (by simp)) (dv_of (de_var 5))))) (da_cons (de_of (df_lst (da_cons (de_fld (dv_of (de_var 4))) (da_cons (de_fld (dv_of (de_var 4))) da_nil)))) da_nil))) (dss_cons (ds_append 3 (de_tup (da_cons (de_var 4) (da_cons (de_var 5) (da_cons (de_var 6) (da_cons (de_var 7) (da_cons (de_of (df_lst (da_cons (de_fld (dv_of (de_var 5))) (da_cons (de_fld (dv_of (de_var 5))) da_nil)))) (da_cons (de_of (df_lst (da_cons (de_var 0) (da_cons (de_var 1) da_nil)))) da_nil)))))))) (dss_cons (ds_par 4 5 rfl hN (da_cons (de_makeS G_Gives hr bodyTk (da_cons (de_var 0) da_nil)) (da_cons (de_makeKS G_Gives_K hr bodyTk (dk_cons (de_var 0) dk_nil) (hpm := fun zs h => match zs, h with | [_], _ => rfl)) da_nil))) (dss_cons (ds_par 6 7 rfl hN (da_cons (de_and (de_isiO (L := []) G.isinstance G.g_Gives G.s_Gives (fun _ h => absurd h (by simp)) (dv_of (de_var 4))) (de_one (de_isiO (L := []) G.isinstance G.g_Gives G.s_Gives (fun _ h => absurd h (by simp)) (dv_of (de_var 5))))) (da_cons (de_of (df_lst (da_cons (de_fld (dv_of (de_var 4))) da_nil))) da_nil))) (dss_cons (ds_append 3 (de_tup (da_cons (de_var 4) (da_cons (de_var 5) (da_cons (de_var 6) (da_cons (de_var 7) (da_cons (de_of (df_lst (da_cons (de_fld (dv_of (de_var 5))) da_nil))) (da_cons (de_of (df_lst (da_cons (de_var 0) da_nil))) da_nil)))))))) (dss_cons (ds_par 4 5 rfl hN (da_cons (de_makeS G_Parts hr bodyTk (da_cons (de_var 0) (da_cons (de_var 1) da_nil))) (da_cons (de_makeKS G_Parts_K hr bodyTk (dk_cons (de_var 1) (dk_cons (de_var 0) dk_nil)) (hpm := fun zs h => match zs, h with | [_, _], _ => rfl)) da_nil))) (dss_cons (ds_par 6 7 rfl hN (da_cons (de_and (de_isiO (L := []) G.isinstance G.g_Parts G.s_Parts (fun _ h => absurd h (by simp)) (dv_of (de_var 4))) (de_one (de_isiO (L := []) G.isinstance G.g_Parts G.s_Parts (fun _ h => absurd h (by simp)) (dv_of (de_var 5))))) (da_cons (de_of (df_lst (da_cons (de_fld (dv_of (de_var 4))) (da_cons (de_fld (dv_of (de_var 4))) da_nil)))) da_nil))) (dss_cons (ds_append 3 (de_tup (da_cons (de_var 4) (da_cons (de_var 5) (da_cons (de_var 6) (da_cons (de_var 7) (da_cons (de_of (df_lst (da_cons (de_fld (dv_of (de_var 5))) (da_cons (de_fld (dv_of (de_var 5))) da_nil)))) (da_cons (de_of (df_lst (da_cons (de_var 0) (da_cons (de_var 1) da_nil)))) da_nil)))))))) (dss_cons (ds_par 4 5 rfl hN (da_cons (de_makeS G_Carries hr bodyTk (da_cons (de_var 0) da_nil)) (da_cons (de_makeKS G_Carries_K hr bodyTk (dk_cons (de_var 0) dk_nil) (hpm := fun zs h => match zs, h with | [_], _ => rfl)) da_nil))) (dss_cons (ds_par 6 7 rfl hN (da_cons (de_and (de_isiO (L := []) G.isinstance G.g_Carries G.s_Carries (fun _ h => absurd h (by simp)) (dv_of (de_var 4))) (de_one (de_isiO (L := []) G.isinstance G.g_Carries G.s_Carries (fun _ h => absurd h (by simp)) (dv_of (de_var 5))))) (da_cons (de_of (df_lst (da_cons (de_fld (dv_of (de_var 4))) da_nil))) da_nil))) (dss_cons (ds_append 3 (de_tup (da_cons (de_var 4) (da_cons (de_var 5) (da_cons (de_var 6) (da_cons (de_var 7) (da_cons (de_of (df_lst (da_cons (de_fld (dv_of (de_var 5))) da_nil))) (da_cons (de_of (df_lst (da_cons (de_var 0) da_nil))) da_nil)))))))) (dss_frz 3 (dss_one (ds_ret (de_var 3))))))))))))))))))))))))))))))))))))))
theorem sc_ulaw_made_c : FnScope N_ulaw_made_c [("a" : Str), ("b" : Str), ("c" : Str)] (L2.defScope s_ulaw_made_c) := ⟨rfl, rfl, rfl, by decide +kernel, rfl, by decide +kernel, by decide +kernel⟩
theorem c_ulaw_made_c (G : Facts K mg) (G_Adrift : DMk P w K mg base 2 "Adrift" 1 i_Adrift) (G_Adrift_K : DMkK P w K mg base 2 "Adrift" [("lot" : Str)] [0] i_Adrift) (G_Weights : DMk P w K mg base 2 "Weights" 1 i_Weights) (G_Weights_K : DMkK P w K mg base 2 "Weights" [("row" : Str)] [0] i_Weights) (G_Slack : DMk P w K mg base 2 "Slack" 1 i_Slack) (G_Slack_K : DMkK P w K mg base 2 "Slack" [("move" : Str)] [0] i_Slack) (G_Bent : DMk P w K mg base 2 "Bent" 1 i_Bent) (G_Bent_K : DMkK P w K mg base 2 "Bent" [("stress" : Str)] [0] i_Bent) (G_Level : DMk P w K mg base 2 "Level" 2 i_Level) (G_Level_K : DMkK P w K mg base 2 "Level" [("move" : Str), ("tie" : Str)] [1, 0] i_Level) (G_Lift : DMk P w K mg base 2 "Lift" 1 i_Lift) (G_Lift_K : DMkK P w K mg base 2 "Lift" [("roof" : Str)] [0] i_Lift) (G_Warped : DMk P w K mg base 2 "Warped" 2 i_Warped) (G_Warped_K : DMkK P w K mg base 2 "Warped" [("joints" : Str), ("face" : Str)] [1, 0] i_Warped) (G_Firm : DMk P w K mg base 2 "Firm" 2 i_Firm) (G_Firm_K : DMkK P w K mg base 2 "Firm" [("stress" : Str), ("answers" : Str)] [1, 0] i_Firm) (G_Gives : DMk P w K mg base 2 "Gives" 1 i_Gives) (G_Gives_K : DMkK P w K mg base 2 "Gives" [("move" : Str)] [0] i_Gives) (G_Parts : DMk P w K mg base 2 "Parts" 2 i_Parts) (G_Parts_K : DMkK P w K mg base 2 "Parts" [("move" : Str), ("stress" : Str)] [1, 0] i_Parts) (G_Carries : DMk P w K mg base 2 "Carries" 1 i_Carries) (G_Carries_K : DMkK P w K mg base 2 "Carries" [("row" : Str)] [0] i_Carries) (F : FunD K "_law_made_c" "_law_made_c" (L2.defArgs s_ulaw_made_c) (L2.defBody s_ulaw_made_c) (L2.defScope s_ulaw_made_c) [] [] (He.fAd K ("_law_made_c", none)) fd) : DCal P w K mg base 4 "_law_made_c" 3 m_ulaw_made_c [] :=
  dcal_of F (G.gl 6 "_law_made_c" rfl) (FunD.bindsN (ps := [("a" : Str), ("b" : Str), ("c" : Str)]) F fun _ _ _ _ _ _ us hl => match us, hl with | [_, _, _], _ => rfl) .nil (fun _ => .nil) sc_ulaw_made_c (w_ulaw_made_c G G_Adrift G_Adrift_K G_Weights G_Weights_K G_Slack G_Slack_K G_Bent G_Bent_K G_Level G_Level_K G_Lift G_Lift_K G_Warped G_Warped_K G_Firm G_Firm_K G_Gives G_Gives_K G_Parts G_Parts_K G_Carries G_Carries_K)
theorem w_ulaw_made_d (G : Facts K mg) (G_Drops : DMk P w K mg base 2 "Drops" 1 i_Drops) (G_Drops_K : DMkK P w K mg base 2 "Drops" [("move" : Str)] [0] i_Drops) (G_Found : DMk P w K mg base 2 "Found" 1 i_Found) (G_Found_K : DMkK P w K mg base 2 "Found" [("row" : Str)] [0] i_Found) (G_Barred : DMk P w K mg base 2 "Barred" 1 i_Barred) (G_Barred_K : DMkK P w K mg base 2 "Barred" [("weights" : Str)] [0] i_Barred) (G_Best : DMk P w K mg base 2 "Best" 2 i_Best) (G_Best_K : DMkK P w K mg base 2 "Best" [("weights" : Str), ("row" : Str)] [1, 0] i_Best) (G_Falls : DMk P w K mg base 2 "Falls" 2 i_Falls) (G_Falls_K : DMkK P w K mg base 2 "Falls" [("way" : Str), ("row" : Str)] [1, 0] i_Falls) (G_Never : DMk P w K mg base 2 "Never" 1 i_Never) (G_Never_K : DMkK P w K mg base 2 "Never" [("weights" : Str)] [0] i_Never) (G_OneShape : DMk P w K mg base 2 "OneShape" 2 i_OneShape) (G_OneShape_K : DMkK P w K mg base 2 "OneShape" [("steps" : Str), ("joints" : Str)] [1, 0] i_OneShape) (G_Lacking : DMk P w K mg base 2 "Lacking" 2 i_Lacking) (G_Lacking_K : DMkK P w K mg base 2 "Lacking" [("other" : Str), ("one" : Str)] [1, 0] i_Lacking) (G_Parting : DMk P w K mg base 2 "Parting" 2 i_Parting) (G_Parting_K : DMkK P w K mg base 2 "Parting" [("lots" : Str), ("joints" : Str)] [1, 0] i_Parting) (G_LetsGo : DMk P w K mg base 2 "LetsGo" 2 i_LetsGo) (G_LetsGo_K : DMkK P w K mg base 2 "LetsGo" [("lots" : Str), ("tie" : Str)] [1, 0] i_LetsGo) (G_Ears : DMk P w K mg base 2 "Ears" 1 i_Ears) (G_Ears_K : DMkK P w K mg base 2 "Ears" [("rows" : Str)] [0] i_Ears) (cdv : Value) (A : Around) (outer : List PySem.Env) (s : Shared) (H : Hp) (E : XK) (hr : RoomG 3 (A.deeper (envOfC "_law_made_d" (L2.defScope s_ulaw_made_d) s.heap.objs.size f cdv))) : DSs (bodyCx P w K mg base N_ulaw_made_d "_law_made_d" (L2.defScope s_ulaw_made_d) f cdv A outer s H E) (bodyW E) [] [] (L2.defBody s_ulaw_made_d) b_ulaw_made_d [] := by
  have hN : N_ulaw_made_d.Nodup := by decide +kernel
  exact (dss_cons (ds_own 3 (df_lst da_nil)) (dss_cons (ds_par 4 5 rfl hN (da_cons (de_makeS G_Drops hr bodyTk (da_cons (de_var 0) da_nil)) (da_cons (de_makeKS G_Drops_K hr bodyTk (dk_cons (de_var 0) dk_nil) (hpm := fun zs h => match zs, h with | [_], _ => rfl)) da_nil))) (dss_cons (ds_par 6 7 rfl hN (da_cons (de_and (de_isiO (L := []) G.isinstance G.g_Drops G.s_Drops (fun _ h => absurd h (by simp)) (dv_of (de_var 4))) (de_one (de_isiO (L := []) G.isinstance G.g_Drops G.s_Drops (fun _ h => absurd h (by simp)) (dv_of (de_var 5))))) (da_cons (de_of (df_lst (da_cons (de_fld (dv_of (de_var 4))) da_nil))) da_nil))) (dss_cons (ds_append 3 (de_tup (da_cons (de_var 4) (da_cons (de_var 5) (da_cons (de_var 6) (da_cons (de_var 7) (da_cons (de_of (df_lst (da_cons (de_fld (dv_of (de_var 5))) da_nil))) (da_cons (de_of (df_lst (da_cons (de_var 0) da_nil))) da_nil)))))))) (dss_cons (ds_par 4 5 rfl hN (da_cons (de_makeS G_Found hr bodyTk (da_cons (de_var 0) da_nil)) (da_cons (de_makeKS G_Found_K hr bodyTk (dk_cons (de_var 0) dk_nil) (hpm := fun zs h => match zs, h with | [_], _ => rfl)) da_nil))) (dss_cons (ds_par 6 7 rfl hN (da_cons (de_and (de_isiO (L := []) G.isinstance G.g_Found G.s_Found (fun _ h => absurd h (by simp)) (dv_of (de_var 4))) (de_one (de_isiO (L := []) G.isinstance G.g_Found G.s_Found (fun _ h => absurd h (by simp)) (dv_of (de_var 5))))) (da_cons (de_of (df_lst (da_cons (de_fld (dv_of (de_var 4))) da_nil))) da_nil))) (dss_cons (ds_append 3 (de_tup (da_cons (de_var 4) (da_cons (de_var 5) (da_cons (de_var 6) (da_cons (de_var 7) (da_cons (de_of (df_lst (da_cons (de_fld (dv_of (de_var 5))) da_nil))) (da_cons (de_of (df_lst (da_cons (de_var 0) da_nil))) da_nil)))))))) (dss_cons (ds_par 4 5 rfl hN (da_cons (de_makeS G_Barred hr bodyTk (da_cons (de_var 0) da_nil)) (da_cons (de_makeKS G_Barred_K hr bodyTk (dk_cons (de_var 0) dk_nil) (hpm := fun zs h => match zs, h with | [_], _ => rfl)) da_nil))) (dss_cons (ds_par 6 7 rfl hN (da_cons (de_and (de_isiO (L := []) G.isinstance G.g_Barred G.s_Barred (fun _ h => absurd h (by simp)) (dv_of (de_var 4))) (de_one (de_isiO (L := []) G.isinstance G.g_Barred G.s_Barred (fun _ h => absurd h (by simp)) (dv_of (de_var 5))))) (da_cons (de_of (df_lst (da_cons (de_fld (dv_of (de_var 4))) da_nil))) da_nil))) (dss_cons (ds_append 3 (de_tup (da_cons (de_var 4) (da_cons (de_var 5) (da_cons (de_var 6) (da_cons (de_var 7) (da_cons (de_of (df_lst (da_cons (de_fld (dv_of (de_var 5))) da_nil))) (da_cons (de_of (df_lst (da_cons (de_var 0) da_nil))) da_nil)))))))) (dss_cons (ds_par 4 5 rfl hN (da_cons (de_makeS G_Best hr bodyTk (da_cons (de_var 0) (da_cons (de_var 1) da_nil))) (da_cons (de_makeKS G_Best_K hr bodyTk (dk_cons (de_var 1) (dk_cons (de_var 0) dk_nil)) (hpm := fun zs h => match zs, h with | [_, _], _ => rfl)) da_nil))) (dss_cons (ds_par 6 7 rfl hN (da_cons (de_and (de_isiO (L := []) G.isinstance G.g_Best G.s_Best (fun _ h => absurd h (by simp)) (dv_of (de_var 4))) (de_one (de_isiO (L := []) G.isinstance G.g_Best G.s_Best (fun _ h => absurd h (by simp)) (dv_of (de_var 5))))) (da_cons (de_of (df_lst (da_cons (de_fld (dv_of (de_var 4))) (da_cons (de_fld (dv_of (de_var 4))) da_nil)))) da_nil))) (dss_cons (ds_append 3 (de_tup (da_cons (de_var 4) (da_cons (de_var 5) (da_cons (de_var 6) (da_cons (de_var 7) (da_cons (de_of (df_lst (da_cons (de_fld (dv_of (de_var 5))) (da_cons (de_fld (dv_of (de_var 5))) da_nil)))) (da_cons (de_of (df_lst (da_cons (de_var 0) (da_cons (de_var 1) da_nil)))) da_nil)))))))) (dss_cons (ds_par 4 5 rfl hN (da_cons (de_makeS G_Falls hr bodyTk (da_cons (de_var 0) (da_cons (de_var 1) da_nil))) (da_cons (de_makeKS G_Falls_K hr bodyTk (dk_cons (de_var 1) (dk_cons (de_var 0) dk_nil)) (hpm := fun zs h => match zs, h with | [_, _], _ => rfl)) da_nil))) (dss_cons (ds_par 6 7 rfl hN (da_cons (de_and (de_isiO (L := []) G.isinstance G.g_Falls G.s_Falls (fun _ h => absurd h (by simp)) (dv_of (de_var 4))) (de_one (de_isiO (L := []) G.isinstance G.g_Falls G.s_Falls (fun _ h => absurd h (by simp)) (dv_of (de_var 5))))) (da_cons (de_of (df_lst (da_cons (de_fld (dv_of (de_var 4))) (da_cons (de_fld (dv_of (de_var 4))) da_nil)))) da_nil))) (dss_cons (ds_append 3 (de_tup (da_cons (de_var 4) (da_cons (de_var 5) (da_cons (de_var 6) (da_cons (de_var 7) (da_cons (de_of (df_lst (da_cons (de_fld (dv_of (de_var 5))) (da_cons (de_fld (dv_of (de_var 5))) da_nil)))) (da_cons (de_of (df_lst (da_cons (de_var 0) (da_cons (de_var 1) da_nil)))) da_nil)))))))) (dss_cons (ds_par 4 5 rfl hN (da_cons (de_makeS G_Never hr bodyTk (da_cons (de_var 0) da_nil)) (da_cons (de_makeKS G_Never_K hr bodyTk (dk_cons (de_var 0) dk_nil) (hpm := fun zs h => match zs, h with | [_], _ => rfl)) da_nil))) (dss_cons (ds_par 6 7 rfl hN (da_cons (de_and (de_isiO (L := []) G.isinstance G.g_Never G.s_Never (fun _ h => absurd h (by simp)) (dv_of (de_var 4))) (de_one (de_isiO (L := []) G.isinstance G.g_Never G.s_Never (fun _ h => absurd h (by simp)) (dv_of (de_var 5))))) (da_cons (de_of (df_lst (da_cons (de_fld (dv_of (de_var 4))) da_nil))) da_nil))) (dss_cons (ds_append 3 (de_tup (da_cons (de_var 4) (da_cons (de_var 5) (da_cons (de_var 6) (da_cons (de_var 7) (da_cons (de_of (df_lst (da_cons (de_fld (dv_of (de_var 5))) da_nil))) (da_cons (de_of (df_lst (da_cons (de_var 0) da_nil))) da_nil)))))))) (dss_cons (ds_par 4 5 rfl hN (da_cons (de_makeS G_OneShape hr bodyTk (da_cons (de_var 0) (da_cons (de_var 1) da_nil))) (da_cons (de_makeKS G_OneShape_K hr bodyTk (dk_cons (de_var 1) (dk_cons (de_var 0) dk_nil)) (hpm := fun zs h => match zs, h with | [_, _], _ => rfl)) da_nil))) (dss_cons (ds_par 6 7 rfl hN (da_cons (de_and (de_isiO (L := []) G.isinstance G.g_OneShape G.s_OneShape (fun _ h => absurd h (by simp)) (dv_of (de_var 4))) (de_one (de_isiO (L := []) G.isinstance G.g_OneShape G.s_OneShape (fun _ h => absurd h (by simp)) (dv_of (de_var 5))))) (da_cons (de_of (df_lst (da_cons (de_fld (dv_of (de_var 4))) (da_cons (de_fld (dv_of (de_var 4))) da_nil)))) da_nil))) (dss_cons (ds_append 3 (de_tup (da_cons (de_var 4) (da_cons (de_var 5) (da_cons (de_var 6) (da_cons (de_var 7) (da_cons (de_of (df_lst (da_cons (de_fld (dv_of (de_var 5))) (da_cons (de_fld (dv_of (de_var 5))) da_nil)))) (da_cons (de_of (df_lst (da_cons (de_var 0) (da_cons (de_var 1) da_nil)))) da_nil)))))))) (dss_cons (ds_par 4 5 rfl hN (da_cons (de_makeS G_Lacking hr bodyTk (da_cons (de_var 0) (da_cons (de_var 1) da_nil))) (da_cons (de_makeKS G_Lacking_K hr bodyTk (dk_cons (de_var 1) (dk_cons (de_var 0) dk_nil)) (hpm := fun zs h => match zs, h with | [_, _], _ => rfl)) da_nil))) (dss_cons (ds_par 6 7 rfl hN (da_cons (de_and (de_isiO (L := []) G.isinstance G.g_Lacking G.s_Lacking (fun _ h => absurd h (by simp)) (dv_of (de_var 4))) (de_one (de_isiO (L := []) G.isinstance G.g_Lacking G.s_Lacking (fun _ h => absurd h (by simp)) (dv_of (de_var 5))))) (da_cons (de_of (df_lst (da_cons (de_fld (dv_of (de_var 4))) (da_cons (de_fld (dv_of (de_var 4))) da_nil)))) da_nil))) (dss_cons (ds_append 3 (de_tup (da_cons (de_var 4) (da_cons (de_var 5) (da_cons (de_var 6) (da_cons (de_var 7) (da_cons (de_of (df_lst (da_cons (de_fld (dv_of (de_var 5))) (da_cons (de_fld (dv_of (de_var 5))) da_nil)))) (da_cons (de_of (df_lst (da_cons (de_var 0) (da_cons (de_var 1) da_nil)))) da_nil)))))))) (dss_cons (ds_par 4 5 rfl hN (da_cons (de_makeS G_Parting hr bodyTk (da_cons (de_var 0) (da_cons (de_var 1) da_nil))) (da_cons (de_makeKS G_Parting_K hr bodyTk (dk_cons (de_var 1) (dk_cons (de_var 0) dk_nil)) (hpm := fun zs h => match zs, h with | [_, _], _ => rfl)) da_nil))) (dss_cons (ds_par 6 7 rfl hN (da_cons (de_and (de_isiO (L := []) G.isinstance G.g_Parting G.s_Parting (fun _ h => absurd h (by simp)) (dv_of (de_var 4))) (de_one (de_isiO (L := []) G.isinstance G.g_Parting G.s_Parting (fun _ h => absurd h (by simp)) (dv_of (de_var 5))))) (da_cons (de_of (df_lst (da_cons (de_fld (dv_of (de_var 4))) (da_cons (de_fld (dv_of (de_var 4))) da_nil)))) da_nil))) (dss_cons (ds_append 3 (de_tup (da_cons (de_var 4) (da_cons (de_var 5) (da_cons (de_var 6) (da_cons (de_var 7) (da_cons (de_of (df_lst (da_cons (de_fld (dv_of (de_var 5))) (da_cons (de_fld (dv_of (de_var 5))) da_nil)))) (da_cons (de_of (df_lst (da_cons (de_var 0) (da_cons (de_var 1) da_nil)))) da_nil)))))))) (dss_cons (ds_par 4 5 rfl hN (da_cons (de_makeS G_LetsGo hr bodyTk (da_cons (de_var 0) (da_cons (de_var 1) da_nil))) (da_cons (de_makeKS G_LetsGo_K hr bodyTk (dk_cons (de_var 1) (dk_cons (de_var 0) dk_nil)) (hpm := fun zs h => match zs, h with | [_, _], _ => rfl)) da_nil))) (dss_cons (ds_par 6 7 rfl hN (da_cons (de_and (de_isiO (L := []) G.isinstance G.g_LetsGo G.s_LetsGo (fun _ h => absurd h (by simp)) (dv_of (de_var 4))) (de_one (de_isiO (L := []) G.isinstance G.g_LetsGo G.s_LetsGo (fun _ h => absurd h (by simp)) (dv_of (de_var 5))))) (da_cons (de_of (df_lst (da_cons (de_fld (dv_of (de_var 4))) (da_cons (de_fld (dv_of (de_var 4))) da_nil)))) da_nil))) (dss_cons (ds_append 3 (de_tup (da_cons (de_var 4) (da_cons (de_var 5) (da_cons (de_var 6) (da_cons (de_var 7) (da_cons (de_of (df_lst (da_cons (de_fld (dv_of (de_var 5))) (da_cons (de_fld (dv_of (de_var 5))) da_nil)))) (da_cons (de_of (df_lst (da_cons (de_var 0) (da_cons (de_var 1) da_nil)))) da_nil)))))))) (dss_cons (ds_par 4 5 rfl hN (da_cons (de_makeS G_Ears hr bodyTk (da_cons (de_var 0) da_nil)) (da_cons (de_makeKS G_Ears_K hr bodyTk (dk_cons (de_var 0) dk_nil) (hpm := fun zs h => match zs, h with | [_], _ => rfl)) da_nil))) (dss_cons (ds_par 6 7 rfl hN (da_cons (de_and (de_isiO (L := []) G.isinstance G.g_Ears G.s_Ears (fun _ h => absurd h (by simp)) (dv_of (de_var 4))) (de_one (de_isiO (L := []) G.isinstance G.g_Ears G.s_Ears (fun _ h => absurd h (by simp)) (dv_of (de_var 5))))) (da_cons (de_of (df_lst (da_cons (de_fld (dv_of (de_var 4))) da_nil))) da_nil))) (dss_cons (ds_append 3 (de_tup (da_cons (de_var 4) (da_cons (de_var 5) (da_cons (de_var 6) (da_cons (de_var 7) (da_cons (de_of (df_lst (da_cons (de_fld (dv_of (de_var 5))) da_nil))) (da_cons (de_of (df_lst (da_cons (de_var 0) da_nil))) da_nil)))))))) (dss_frz 3 (dss_one (ds_ret (de_var 3))))))))))))))))))))))))))))))))))))))
theorem sc_ulaw_made_d : FnScope N_ulaw_made_d [("a" : Str), ("b" : Str), ("c" : Str)] (L2.defScope s_ulaw_made_d) := ⟨rfl, rfl, rfl, by decide +kernel, rfl, by decide +kernel, by decide +kernel⟩
theorem c_ulaw_made_d (G : Facts K mg) (G_Drops : DMk P w K mg base 2 "Drops" 1 i_Drops) (G_Drops_K : DMkK P w K mg base 2 "Drops" [("move" : Str)] [0] i_Drops) (G_Found : DMk P w K mg base 2 "Found" 1 i_Found) (G_Found_K : DMkK P w K mg base 2 "Found" [("row" : Str)] [0] i_Found) (G_Barred : DMk P w K mg base 2 "Barred" 1 i_Barred) (G_Barred_K : DMkK P w K mg base 2 "Barred" [("weights" : Str)] [0] i_Barred) (G_Best : DMk P w K mg base 2 "Best" 2 i_Best) (G_Best_K : DMkK P w K mg base 2 "Best" [("weights" : Str), ("row" : Str)] [1, 0] i_Best) (G_Falls : DMk P w K mg base 2 "Falls" 2 i_Falls) (G_Falls_K : DMkK P w K mg base 2 "Falls" [("way" : Str), ("row" : Str)] [1, 0] i_Falls) (G_Never : DMk P w K mg base 2 "Never" 1 i_Never) (G_Never_K : DMkK P w K mg base 2 "Never" [("weights" : Str)] [0] i_Never) (G_OneShape : DMk P w K mg base 2 "OneShape" 2 i_OneShape) (G_OneShape_K : DMkK P w K mg base 2 "OneShape" [("steps" : Str), ("joints" : Str)] [1, 0] i_OneShape) (G_Lacking : DMk P w K mg base 2 "Lacking" 2 i_Lacking) (G_Lacking_K : DMkK P w K mg base 2 "Lacking" [("other" : Str), ("one" : Str)] [1, 0] i_Lacking) (G_Parting : DMk P w K mg base 2 "Parting" 2 i_Parting) (G_Parting_K : DMkK P w K mg base 2 "Parting" [("lots" : Str), ("joints" : Str)] [1, 0] i_Parting) (G_LetsGo : DMk P w K mg base 2 "LetsGo" 2 i_LetsGo) (G_LetsGo_K : DMkK P w K mg base 2 "LetsGo" [("lots" : Str), ("tie" : Str)] [1, 0] i_LetsGo) (G_Ears : DMk P w K mg base 2 "Ears" 1 i_Ears) (G_Ears_K : DMkK P w K mg base 2 "Ears" [("rows" : Str)] [0] i_Ears) (F : FunD K "_law_made_d" "_law_made_d" (L2.defArgs s_ulaw_made_d) (L2.defBody s_ulaw_made_d) (L2.defScope s_ulaw_made_d) [] [] (He.fAd K ("_law_made_d", none)) fd) : DCal P w K mg base 4 "_law_made_d" 3 m_ulaw_made_d [] :=
  dcal_of F (G.gl 7 "_law_made_d" rfl) (FunD.bindsN (ps := [("a" : Str), ("b" : Str), ("c" : Str)]) F fun _ _ _ _ _ _ us hl => match us, hl with | [_, _, _], _ => rfl) .nil (fun _ => .nil) sc_ulaw_made_d (w_ulaw_made_d G G_Drops G_Drops_K G_Found G_Found_K G_Barred G_Barred_K G_Best G_Best_K G_Falls G_Falls_K G_Never G_Never_K G_OneShape G_OneShape_K G_Lacking G_Lacking_K G_Parting G_Parting_K G_LetsGo G_LetsGo_K G_Ears G_Ears_K)
theorem w_ulaw_made_e (G : Facts K mg) (G_HeldPlaces : DMk P w K mg base 2 "HeldPlaces" 2 i_HeldPlaces) (G_HeldPlaces_K : DMkK P w K mg base 2 "HeldPlaces" [("stress" : Str), ("points" : Str)] [1, 0] i_HeldPlaces) (G_Cheapest : DMk P w K mg base 2 "Cheapest" 1 i_Cheapest) (G_Cheapest_K : DMkK P w K mg base 2 "Cheapest" [("fields" : Str)] [0] i_Cheapest) (G_TwoTrees : DMk P w K mg base 2 "TwoTrees" 2 i_TwoTrees) (G_TwoTrees_K : DMkK P w K mg base 2 "TwoTrees" [("other" : Str), ("one" : Str)] [1, 0] i_TwoTrees) (G_Thick : DMk P w K mg base 2 "Thick" 1 i_Thick) (G_Thick_K : DMkK P w K mg base 2 "Thick" [("joints" : Str)] [0] i_Thick) (G_Light : DMk P w K mg base 2 "Light" 2 i_Light) (G_Light_K : DMkK P w K mg base 2 "Light" [("move" : Str), ("row" : Str)] [1, 0] i_Light) (G_Sinks : DMk P w K mg base 2 "Sinks" 1 i_Sinks) (G_Sinks_K : DMkK P w K mg base 2 "Sinks" [("move" : Str)] [0] i_Sinks) (G_Uses : DMk P w K mg base 2 "Uses" 2 i_Uses) (G_Uses_K : DMkK P w K mg base 2 "Uses" [("move" : Str), ("row" : Str)] [1, 0] i_Uses) (G_Sizes : DMk P w K mg base 2 "Sizes" 3 i_Sizes) (G_Sizes_K : DMkK P w K mg base 2 "Sizes" [("moves" : Str), ("rows" : Str), ("sizes" : Str)] [2, 1, 0] i_Sizes) (G_Fails : DMk P w K mg base 2 "Fails" 2 i_Fails) (G_Fails_K : DMkK P w K mg base 2 "Fails" [("move" : Str), ("number" : Str)] [1, 0] i_Fails) (G_Fit : DMk P w K mg base 2 "Fit" 2 i_Fit) (G_Fit_K : DMkK P w K mg base 2 "Fit" [("points" : Str), ("aims" : Str)] [1, 0] i_Fit) (cdv : Value) (A : Around) (outer : List PySem.Env) (s : Shared) (H : Hp) (E : XK) (hr : RoomG 3 (A.deeper (envOfC "_law_made_e" (L2.defScope s_ulaw_made_e) s.heap.objs.size f cdv))) : DSs (bodyCx P w K mg base N_ulaw_made_e "_law_made_e" (L2.defScope s_ulaw_made_e) f cdv A outer s H E) (bodyW E) [] [] (L2.defBody s_ulaw_made_e) b_ulaw_made_e [] := by
  have hN : N_ulaw_made_e.Nodup := by decide +kernel
  exact (dss_cons (ds_own 3 (df_lst da_nil)) (dss_cons (ds_par 4 5 rfl hN (da_cons (de_makeS G_HeldPlaces hr bodyTk (da_cons (de_var 0) (da_cons (de_var 1) da_nil))) (da_cons (de_makeKS G_HeldPlaces_K hr bodyTk (dk_cons (de_var 1) (dk_cons (de_var 0) dk_nil)) (hpm := fun zs h => match zs, h with | [_, _], _ => rfl)) da_nil))) (dss_cons (ds_par 6 7 rfl hN (da_cons (de_and (de_isiO (L := []) G.isinstance G.g_HeldPlaces G.s_HeldPlaces (fun _ h => absurd h (by simp)) (dv_of (de_var 4))) (de_one (de_isiO (L := []) G.isinstance G.g_HeldPlaces G.s_HeldPlaces (fun _ h => absurd h (by simp)) (dv_of (de_var 5))))) (da_cons (de_of (df_lst (da_cons (de_fld (dv_of (de_var 4))) (da_cons (de_fld (dv_of (de_var 4))) da_nil)))) da_nil))) (dss_cons (ds_append 3 (de_tup (da_cons (de_var 4) (da_cons (de_var 5) (da_cons (de_var 6) (da_cons (de_var 7) (da_cons (de_of (df_lst (da_cons (de_fld (dv_of (de_var 5))) (da_cons (de_fld (dv_of (de_var 5))) da_nil)))) (da_cons (de_of (df_lst (da_cons (de_var 0) (da_cons (de_var 1) da_nil)))) da_nil)))))))) (dss_cons (ds_par 4 5 rfl hN (da_cons (de_makeS G_Cheapest hr bodyTk (da_cons (de_var 0) da_nil)) (da_cons (de_makeKS G_Cheapest_K hr bodyTk (dk_cons (de_var 0) dk_nil) (hpm := fun zs h => match zs, h with | [_], _ => rfl)) da_nil))) (dss_cons (ds_par 6 7 rfl hN (da_cons (de_and (de_isiO (L := []) G.isinstance G.g_Cheapest G.s_Cheapest (fun _ h => absurd h (by simp)) (dv_of (de_var 4))) (de_one (de_isiO (L := []) G.isinstance G.g_Cheapest G.s_Cheapest (fun _ h => absurd h (by simp)) (dv_of (de_var 5))))) (da_cons (de_of (df_lst (da_cons (de_fld (dv_of (de_var 4))) da_nil))) da_nil))) (dss_cons (ds_append 3 (de_tup (da_cons (de_var 4) (da_cons (de_var 5) (da_cons (de_var 6) (da_cons (de_var 7) (da_cons (de_of (df_lst (da_cons (de_fld (dv_of (de_var 5))) da_nil))) (da_cons (de_of (df_lst (da_cons (de_var 0) da_nil))) da_nil)))))))) (dss_cons (ds_par 4 5 rfl hN (da_cons (de_makeS G_TwoTrees hr bodyTk (da_cons (de_var 0) (da_cons (de_var 1) da_nil))) (da_cons (de_makeKS G_TwoTrees_K hr bodyTk (dk_cons (de_var 1) (dk_cons (de_var 0) dk_nil)) (hpm := fun zs h => match zs, h with | [_, _], _ => rfl)) da_nil))) (dss_cons (ds_par 6 7 rfl hN (da_cons (de_and (de_isiO (L := []) G.isinstance G.g_TwoTrees G.s_TwoTrees (fun _ h => absurd h (by simp)) (dv_of (de_var 4))) (de_one (de_isiO (L := []) G.isinstance G.g_TwoTrees G.s_TwoTrees (fun _ h => absurd h (by simp)) (dv_of (de_var 5))))) (da_cons (de_of (df_lst (da_cons (de_fld (dv_of (de_var 4))) (da_cons (de_fld (dv_of (de_var 4))) da_nil)))) da_nil))) (dss_cons (ds_append 3 (de_tup (da_cons (de_var 4) (da_cons (de_var 5) (da_cons (de_var 6) (da_cons (de_var 7) (da_cons (de_of (df_lst (da_cons (de_fld (dv_of (de_var 5))) (da_cons (de_fld (dv_of (de_var 5))) da_nil)))) (da_cons (de_of (df_lst (da_cons (de_var 0) (da_cons (de_var 1) da_nil)))) da_nil)))))))) (dss_cons (ds_par 4 5 rfl hN (da_cons (de_makeS G_Thick hr bodyTk (da_cons (de_var 0) da_nil)) (da_cons (de_makeKS G_Thick_K hr bodyTk (dk_cons (de_var 0) dk_nil) (hpm := fun zs h => match zs, h with | [_], _ => rfl)) da_nil))) (dss_cons (ds_par 6 7 rfl hN (da_cons (de_and (de_isiO (L := []) G.isinstance G.g_Thick G.s_Thick (fun _ h => absurd h (by simp)) (dv_of (de_var 4))) (de_one (de_isiO (L := []) G.isinstance G.g_Thick G.s_Thick (fun _ h => absurd h (by simp)) (dv_of (de_var 5))))) (da_cons (de_of (df_lst (da_cons (de_fld (dv_of (de_var 4))) da_nil))) da_nil))) (dss_cons (ds_append 3 (de_tup (da_cons (de_var 4) (da_cons (de_var 5) (da_cons (de_var 6) (da_cons (de_var 7) (da_cons (de_of (df_lst (da_cons (de_fld (dv_of (de_var 5))) da_nil))) (da_cons (de_of (df_lst (da_cons (de_var 0) da_nil))) da_nil)))))))) (dss_cons (ds_par 4 5 rfl hN (da_cons (de_makeS G_Light hr bodyTk (da_cons (de_var 0) (da_cons (de_var 1) da_nil))) (da_cons (de_makeKS G_Light_K hr bodyTk (dk_cons (de_var 1) (dk_cons (de_var 0) dk_nil)) (hpm := fun zs h => match zs, h with | [_, _], _ => rfl)) da_nil))) (dss_cons (ds_par 6 7 rfl hN (da_cons (de_and (de_isiO (L := []) G.isinstance G.g_Light G.s_Light (fun _ h => absurd h (by simp)) (dv_of (de_var 4))) (de_one (de_isiO (L := []) G.isinstance G.g_Light G.s_Light (fun _ h => absurd h (by simp)) (dv_of (de_var 5))))) (da_cons (de_of (df_lst (da_cons (de_fld (dv_of (de_var 4))) (da_cons (de_fld (dv_of (de_var 4))) da_nil)))) da_nil))) (dss_cons (ds_append 3 (de_tup (da_cons (de_var 4) (da_cons (de_var 5) (da_cons (de_var 6) (da_cons (de_var 7) (da_cons (de_of (df_lst (da_cons (de_fld (dv_of (de_var 5))) (da_cons (de_fld (dv_of (de_var 5))) da_nil)))) (da_cons (de_of (df_lst (da_cons (de_var 0) (da_cons (de_var 1) da_nil)))) da_nil)))))))) (dss_cons (ds_par 4 5 rfl hN (da_cons (de_makeS G_Sinks hr bodyTk (da_cons (de_var 0) da_nil)) (da_cons (de_makeKS G_Sinks_K hr bodyTk (dk_cons (de_var 0) dk_nil) (hpm := fun zs h => match zs, h with | [_], _ => rfl)) da_nil))) (dss_cons (ds_par 6 7 rfl hN (da_cons (de_and (de_isiO (L := []) G.isinstance G.g_Sinks G.s_Sinks (fun _ h => absurd h (by simp)) (dv_of (de_var 4))) (de_one (de_isiO (L := []) G.isinstance G.g_Sinks G.s_Sinks (fun _ h => absurd h (by simp)) (dv_of (de_var 5))))) (da_cons (de_of (df_lst (da_cons (de_fld (dv_of (de_var 4))) da_nil))) da_nil))) (dss_cons (ds_append 3 (de_tup (da_cons (de_var 4) (da_cons (de_var 5) (da_cons (de_var 6) (da_cons (de_var 7) (da_cons (de_of (df_lst (da_cons (de_fld (dv_of (de_var 5))) da_nil))) (da_cons (de_of (df_lst (da_cons (de_var 0) da_nil))) da_nil)))))))) (dss_cons (ds_par 4 5 rfl hN (da_cons (de_makeS G_Uses hr bodyTk (da_cons (de_var 0) (da_cons (de_var 1) da_nil))) (da_cons (de_makeKS G_Uses_K hr bodyTk (dk_cons (de_var 1) (dk_cons (de_var 0) dk_nil)) (hpm := fun zs h => match zs, h with | [_, _], _ => rfl)) da_nil))) (dss_cons (ds_par 6 7 rfl hN (da_cons (de_and (de_isiO (L := []) G.isinstance G.g_Uses G.s_Uses (fun _ h => absurd h (by simp)) (dv_of (de_var 4))) (de_one (de_isiO (L := []) G.isinstance G.g_Uses G.s_Uses (fun _ h => absurd h (by simp)) (dv_of (de_var 5))))) (da_cons (de_of (df_lst (da_cons (de_fld (dv_of (de_var 4))) (da_cons (de_fld (dv_of (de_var 4))) da_nil)))) da_nil))) (dss_cons (ds_append 3 (de_tup (da_cons (de_var 4) (da_cons (de_var 5) (da_cons (de_var 6) (da_cons (de_var 7) (da_cons (de_of (df_lst (da_cons (de_fld (dv_of (de_var 5))) (da_cons (de_fld (dv_of (de_var 5))) da_nil)))) (da_cons (de_of (df_lst (da_cons (de_var 0) (da_cons (de_var 1) da_nil)))) da_nil)))))))) (dss_cons (ds_par 4 5 rfl hN (da_cons (de_makeS G_Sizes hr bodyTk (da_cons (de_var 0) (da_cons (de_var 1) (da_cons (de_var 2) da_nil)))) (da_cons (de_makeKS G_Sizes_K hr bodyTk (dk_cons (de_var 2) (dk_cons (de_var 1) (dk_cons (de_var 0) dk_nil))) (hpm := fun zs h => match zs, h with | [_, _, _], _ => rfl)) da_nil))) (dss_cons (ds_par 6 7 rfl hN (da_cons (de_and (de_isiO (L := []) G.isinstance G.g_Sizes G.s_Sizes (fun _ h => absurd h (by simp)) (dv_of (de_var 4))) (de_one (de_isiO (L := []) G.isinstance G.g_Sizes G.s_Sizes (fun _ h => absurd h (by simp)) (dv_of (de_var 5))))) (da_cons (de_of (df_lst (da_cons (de_fld (dv_of (de_var 4))) (da_cons (de_fld (dv_of (de_var 4))) (da_cons (de_fld (dv_of (de_var 4))) da_nil))))) da_nil))) (dss_cons (ds_append 3 (de_tup (da_cons (de_var 4) (da_cons (de_var 5) (da_cons (de_var 6) (da_cons (de_var 7) (da_cons (de_of (df_lst (da_cons (de_fld (dv_of (de_var 5))) (da_cons (de_fld (dv_of (de_var 5))) (da_cons (de_fld (dv_of (de_var 5))) da_nil))))) (da_cons (de_of (df_lst (da_cons (de_var 0) (da_cons (de_var 1) (da_cons (de_var 2) da_nil))))) da_nil)))))))) (dss_cons (ds_par 4 5 rfl hN (da_cons (de_makeS G_Fails hr bodyTk (da_cons (de_var 0) (da_cons (de_var 1) da_nil))) (da_cons (de_makeKS G_Fails_K hr bodyTk (dk_cons (de_var 1) (dk_cons (de_var 0) dk_nil)) (hpm := fun zs h => match zs, h with | [_, _], _ => rfl)) da_nil))) (dss_cons (ds_par 6 7 rfl hN (da_cons (de_and (de_isiO (L := []) G.isinstance G.g_Fails G.s_Fails (fun _ h => absurd h (by simp)) (dv_of (de_var 4))) (de_one (de_isiO (L := []) G.isinstance G.g_Fails G.s_Fails (fun _ h => absurd h (by simp)) (dv_of (de_var 5))))) (da_cons (de_of (df_lst (da_cons (de_fld (dv_of (de_var 4))) (da_cons (de_fld (dv_of (de_var 4))) da_nil)))) da_nil))) (dss_cons (ds_append 3 (de_tup (da_cons (de_var 4) (da_cons (de_var 5) (da_cons (de_var 6) (da_cons (de_var 7) (da_cons (de_of (df_lst (da_cons (de_fld (dv_of (de_var 5))) (da_cons (de_fld (dv_of (de_var 5))) da_nil)))) (da_cons (de_of (df_lst (da_cons (de_var 0) (da_cons (de_var 1) da_nil)))) da_nil)))))))) (dss_cons (ds_par 4 5 rfl hN (da_cons (de_makeS G_Fit hr bodyTk (da_cons (de_var 0) (da_cons (de_var 1) da_nil))) (da_cons (de_makeKS G_Fit_K hr bodyTk (dk_cons (de_var 1) (dk_cons (de_var 0) dk_nil)) (hpm := fun zs h => match zs, h with | [_, _], _ => rfl)) da_nil))) (dss_cons (ds_par 6 7 rfl hN (da_cons (de_and (de_isiO (L := []) G.isinstance G.g_Fit G.s_Fit (fun _ h => absurd h (by simp)) (dv_of (de_var 4))) (de_one (de_isiO (L := []) G.isinstance G.g_Fit G.s_Fit (fun _ h => absurd h (by simp)) (dv_of (de_var 5))))) (da_cons (de_of (df_lst (da_cons (de_fld (dv_of (de_var 4))) (da_cons (de_fld (dv_of (de_var 4))) da_nil)))) da_nil))) (dss_cons (ds_append 3 (de_tup (da_cons (de_var 4) (da_cons (de_var 5) (da_cons (de_var 6) (da_cons (de_var 7) (da_cons (de_of (df_lst (da_cons (de_fld (dv_of (de_var 5))) (da_cons (de_fld (dv_of (de_var 5))) da_nil)))) (da_cons (de_of (df_lst (da_cons (de_var 0) (da_cons (de_var 1) da_nil)))) da_nil)))))))) (dss_frz 3 (dss_one (ds_ret (de_var 3)))))))))))))))))))))))))))))))))))
theorem sc_ulaw_made_e : FnScope N_ulaw_made_e [("a" : Str), ("b" : Str), ("c" : Str)] (L2.defScope s_ulaw_made_e) := ⟨rfl, rfl, rfl, by decide +kernel, rfl, by decide +kernel, by decide +kernel⟩
theorem c_ulaw_made_e (G : Facts K mg) (G_HeldPlaces : DMk P w K mg base 2 "HeldPlaces" 2 i_HeldPlaces) (G_HeldPlaces_K : DMkK P w K mg base 2 "HeldPlaces" [("stress" : Str), ("points" : Str)] [1, 0] i_HeldPlaces) (G_Cheapest : DMk P w K mg base 2 "Cheapest" 1 i_Cheapest) (G_Cheapest_K : DMkK P w K mg base 2 "Cheapest" [("fields" : Str)] [0] i_Cheapest) (G_TwoTrees : DMk P w K mg base 2 "TwoTrees" 2 i_TwoTrees) (G_TwoTrees_K : DMkK P w K mg base 2 "TwoTrees" [("other" : Str), ("one" : Str)] [1, 0] i_TwoTrees) (G_Thick : DMk P w K mg base 2 "Thick" 1 i_Thick) (G_Thick_K : DMkK P w K mg base 2 "Thick" [("joints" : Str)] [0] i_Thick) (G_Light : DMk P w K mg base 2 "Light" 2 i_Light) (G_Light_K : DMkK P w K mg base 2 "Light" [("move" : Str), ("row" : Str)] [1, 0] i_Light) (G_Sinks : DMk P w K mg base 2 "Sinks" 1 i_Sinks) (G_Sinks_K : DMkK P w K mg base 2 "Sinks" [("move" : Str)] [0] i_Sinks) (G_Uses : DMk P w K mg base 2 "Uses" 2 i_Uses) (G_Uses_K : DMkK P w K mg base 2 "Uses" [("move" : Str), ("row" : Str)] [1, 0] i_Uses) (G_Sizes : DMk P w K mg base 2 "Sizes" 3 i_Sizes) (G_Sizes_K : DMkK P w K mg base 2 "Sizes" [("moves" : Str), ("rows" : Str), ("sizes" : Str)] [2, 1, 0] i_Sizes) (G_Fails : DMk P w K mg base 2 "Fails" 2 i_Fails) (G_Fails_K : DMkK P w K mg base 2 "Fails" [("move" : Str), ("number" : Str)] [1, 0] i_Fails) (G_Fit : DMk P w K mg base 2 "Fit" 2 i_Fit) (G_Fit_K : DMkK P w K mg base 2 "Fit" [("points" : Str), ("aims" : Str)] [1, 0] i_Fit) (F : FunD K "_law_made_e" "_law_made_e" (L2.defArgs s_ulaw_made_e) (L2.defBody s_ulaw_made_e) (L2.defScope s_ulaw_made_e) [] [] (He.fAd K ("_law_made_e", none)) fd) : DCal P w K mg base 4 "_law_made_e" 3 m_ulaw_made_e [] :=
  dcal_of F (G.gl 8 "_law_made_e" rfl) (FunD.bindsN (ps := [("a" : Str), ("b" : Str), ("c" : Str)]) F fun _ _ _ _ _ _ us hl => match us, hl with | [_, _, _], _ => rfl) .nil (fun _ => .nil) sc_ulaw_made_e (w_ulaw_made_e G G_HeldPlaces G_HeldPlaces_K G_Cheapest G_Cheapest_K G_TwoTrees G_TwoTrees_K G_Thick G_Thick_K G_Light G_Light_K G_Sinks G_Sinks_K G_Uses G_Uses_K G_Sizes G_Sizes_K G_Fails G_Fails_K G_Fit G_Fit_K)
theorem w_ulaw_value (G : Facts K mg) (G_ulaw_pick : DCal P w K mg base 2 "_law_pick" 2 m_ulaw_pick []) (G_ulaw_draw : DCal P w K mg base 1 "_law_draw" 2 m_ulaw_draw []) (cdv : Value) (A : Around) (outer : List PySem.Env) (s : Shared) (H : Hp) (E : XK) (hr : RoomG 2 (A.deeper (envOfC "_law_value" (L2.defScope s_ulaw_value) s.heap.objs.size f cdv))) : DSs (bodyCx P w K mg base N_ulaw_value "_law_value" (L2.defScope s_ulaw_value) f cdv A outer s H E) (bodyW E) [] [] (L2.defBody s_ulaw_value) b_ulaw_value [] := by
  have hN : N_ulaw_value.Nodup := by decide +kernel
  exact (dss_cons (ds_set 1 (de_of (df_lst (da_cons (de_tup (da_cons de_int (da_cons de_int da_nil))) (da_cons (de_ofS (df_lst (da_cons de_int (da_cons (de_of (df_lst (da_cons de_int da_nil))) da_nil)))) (da_cons (de_ofS (df_lst da_nil)) (da_cons (de_tup da_nil) (da_cons de_str (da_cons de_int (da_cons de_non (da_cons de_bl (da_cons (de_tup (da_cons (de_tup (da_cons de_int (da_cons de_int da_nil))) da_nil)) (da_cons (de_ofS (df_lst (da_cons (de_of (df_lst (da_cons de_int da_nil))) (da_cons (de_of (df_lst (da_cons de_int da_nil))) da_nil)))) (da_cons (de_dict (dd_disp (dps_cons de_str de_int dps_nil))) (da_cons (de_neg (dv_of de_int)) (da_cons de_str (da_cons (de_ofS (df_lst (da_cons de_non da_nil))) da_nil))))))))))))))))) (dss_one (ds_ret (de_call G_ulaw_pick hr bodyTk (da_cons (de_var 0) (da_cons (de_add (dv_of (de_var 1)) (dv_of (de_of (df_lst (da_cons (de_ofS (df_comp [(("k" : Str), 2)] rfl hN (dix_of (di_range1 G.range (da_cons de_int da_nil))) (fun _ _ _ _ _ => (dg_name 2)) (fun _ _ _ _ _ => dts_nil) (fun _ _ _ _ _ => (de_call G_ulaw_draw hr takesB (da_cons (de_var 0) (da_cons de_int da_nil)))))) da_nil))))) da_nil))))))
theorem sc_ulaw_value : FnScope N_ulaw_value [("pen" : Str)] (L2.defScope s_ulaw_value) := ⟨rfl, rfl, rfl, by decide +kernel, rfl, by decide +kernel, by decide +kernel⟩
theorem c_ulaw_value (G : Facts K mg) (G_ulaw_pick : DCal P w K mg base 2 "_law_pick" 2 m_ulaw_pick []) (G_ulaw_draw : DCal P w K mg base 1 "_law_draw" 2 m_ulaw_draw []) (F : FunD K "_law_value" "_law_value" (L2.defArgs s_ulaw_value) (L2.defBody s_ulaw_value) (L2.defScope s_ulaw_value) [] [] (He.fAd K ("_law_value", none)) fd) : DCal P w K mg base 3 "_law_value" 1 m_ulaw_value [] :=
  dcal_of F (G.gl 9 "_law_value" rfl) (FunD.bindsN (ps := [("pen" : Str)]) F fun _ _ _ _ _ _ us hl => match us, hl with | [_], _ => rfl) .nil (fun _ => .nil) sc_ulaw_value (w_ulaw_value G G_ulaw_pick G_ulaw_draw)
theorem w_ulaw_copy (G : Facts K mg) (cdv : Value) (A : Around) (outer : List PySem.Env) (s : Shared) (H : Hp) (E : XK) (hr : RoomG 0 (A.deeper (envOfC "_law_copy" (L2.defScope s_ulaw_copy) s.heap.objs.size f cdv))) : DSs (bodyCx P w K mg base N_ulaw_copy "_law_copy" (L2.defScope s_ulaw_copy) f cdv A outer s H E) (bodyW E) [] [] (L2.defBody s_ulaw_copy) b_ulaw_copy [] := by
  have hN : N_ulaw_copy.Nodup := by decide +kernel
  exact (dss_one (ds_ret (de_if (dt_of (dv_of (de_isiB (T := "list") (by decide) G.isinstance G.list (dv_of (de_var 0))))) (de_tupleOf G.tuple (dva_cons (dv_of (de_var 0)) dva_nil)) (de_var 0))))
theorem sc_ulaw_copy : FnScope N_ulaw_copy [("value" : Str)] (L2.defScope s_ulaw_copy) := ⟨rfl, rfl, rfl, by decide +kernel, rfl, by decide +kernel, by decide +kernel⟩
theorem c_ulaw_copy (G : Facts K mg) (F : FunD K "_law_copy" "_law_copy" (L2.defArgs s_ulaw_copy) (L2.defBody s_ulaw_copy) (L2.defScope s_ulaw_copy) [] [] (He.fAd K ("_law_copy", none)) fd) : DCal P w K mg base 1 "_law_copy" 1 m_ulaw_copy [] :=
  dcal_of F (G.gl 10 "_law_copy" rfl) (FunD.bindsN (ps := [("value" : Str)]) F fun _ _ _ _ _ _ us hl => match us, hl with | [_], _ => rfl) .nil (fun _ => .nil) sc_ulaw_copy (w_ulaw_copy G)
theorem w_law (G : Facts K mg) (G_ulaw_pen : DCal P w K mg base 1 "_law_pen" 1 m_ulaw_pen []) (G_ulaw_value : DCal P w K mg base 3 "_law_value" 1 m_ulaw_value []) (G_ulaw_made_a : DCal P w K mg base 4 "_law_made_a" 3 m_ulaw_made_a []) (G_ulaw_made_b : DCal P w K mg base 4 "_law_made_b" 3 m_ulaw_made_b []) (G_ulaw_made_c : DCal P w K mg base 4 "_law_made_c" 3 m_ulaw_made_c []) (G_ulaw_made_d : DCal P w K mg base 4 "_law_made_d" 3 m_ulaw_made_d []) (G_ulaw_made_e : DCal P w K mg base 4 "_law_made_e" 3 m_ulaw_made_e []) (G_ulaw_copy : DCal P w K mg base 1 "_law_copy" 1 m_ulaw_copy []) (G_ulaw_draw : DCal P w K mg base 1 "_law_draw" 2 m_ulaw_draw []) (G_Found : DMk P w K mg base 2 "Found" 1 i_Found) (cdv : Value) (A : Around) (outer : List PySem.Env) (s : Shared) (H : Hp) (E : XK) (hr : RoomG 4 (A.deeper (envOfC "law" (L2.defScope s_law) s.heap.objs.size f cdv))) : DSs (bodyCx P w K mg base N_law "law" (L2.defScope s_law) f cdv A outer s H E) (bodyW E) [] [] (L2.defBody s_law) b_law [] := by
  have hN : N_law.Nodup := by decide +kernel
  exact (dss_cons (ds_set 1 (de_call G_ulaw_pen hr bodyTk (da_cons (de_var 0) da_nil))) (dss_cons (ds_setLc 2 [(("k" : Str), 15)] rfl hN (dix_of (di_range1 G.range (da_cons de_int da_nil))) (fun _ _ _ _ _ => (dg_name 15)) (fun _ _ _ _ _ => dts_nil) (fun _ _ _ _ _ => (de_call G_ulaw_value hr takesB (da_cons (de_var 1) da_nil)))) (dss_cons (ds_tgt (vs := [3, 4, 5]) (de_of (df_comp [(("value" : Str), 19)] rfl hN (dix_of (di_seq (de_var 2))) (fun _ _ _ _ _ => (dg_name 19)) (fun _ _ _ _ _ => dts_nil) (fun _ _ _ _ _ => (de_if (dt_of (dv_of (de_isiB (T := "list") (by decide) G.isinstance G.list (dv_of (de_var 19))))) (de_of (df_listOf G.list (dva_cons (dv_of (de_var 19)) dva_nil))) (de_var 19))))) (dg_unl rfl (dgs_cons (dg_name 3) (dgs_cons (dg_name 4) (dgs_cons (dg_name 5) dgs_nil))))) (dss_cons (ds_set 6 (de_of (df_lst da_nil))) (dss_cons (ds_for (vs := [7]) bodyPo rfl (di_seq (de_of (df_lst (da_cons (de_call G_ulaw_made_a hr bodyTk (da_cons (de_var 3) (da_cons (de_var 4) (da_cons (de_var 5) da_nil)))) (da_cons (de_call G_ulaw_made_b hr bodyTk (da_cons (de_var 3) (da_cons (de_var 4) (da_cons (de_var 5) da_nil)))) (da_cons (de_call G_ulaw_made_c hr bodyTk (da_cons (de_var 3) (da_cons (de_var 4) (da_cons (de_var 5) da_nil)))) (da_cons (de_call G_ulaw_made_d hr bodyTk (da_cons (de_var 3) (da_cons (de_var 4) (da_cons (de_var 5) da_nil)))) (da_cons (de_call G_ulaw_made_e hr bodyTk (da_cons (de_var 3) (da_cons (de_var 4) (da_cons (de_var 5) da_nil)))) da_nil)))))))) (dg_name 7) (dss_cons (ds_set 6 (de_add (dv_of (de_var 6)) (dv_of (de_var 7)))) dss_nil)) (dss_cons (ds_for (vs := [8, 9, 10, 11, 12, 13]) bodyPo rfl (di_seq (de_var 6)) (dg_tup rfl (dgs_cons (dg_name 8) (dgs_cons (dg_name 9) (dgs_cons (dg_name 10) (dgs_cons (dg_name 11) (dgs_cons (dg_name 12) (dgs_cons (dg_name 13) dgs_nil))))))) (dss_cons (ds_set 14 (de_repr G.sys hr.gd hr.u64 G.repr (da_cons (de_of (df_comp [(("value" : Str), 19)] rfl hN (dix_of (di_seq (de_var 13))) (fun _ _ _ _ _ => (dg_name 19)) (fun _ _ _ _ _ => dts_nil) (fun _ _ _ _ _ => (de_call G_ulaw_copy hr takesB (da_cons (de_var 19) da_nil))))) da_nil))) (dss_cons (ds_if (dt_w (dw_or (dt_cmp c_isnotB (dv_of (de_var 10)) (dv_of de_bl)) (dw_or (dt_cmp (c_ne (L := eqL) G.sys hr.u64 G.neq) (dv_of (de_repr G.sys hr.gd hr.u64 G.repr (da_cons (de_var 11) da_nil))) (dv_of (de_var 14))) (dw_or (dt_cmp (c_ne (L := eqL) G.sys hr.u64 G.neq) (dv_of (de_repr G.sys hr.gd hr.u64 G.repr (da_cons (de_var 12) da_nil))) (dv_of (de_var 14))) (dw_or (dt_not (dt_cmp (c_eq (L := eqL) G.sys hr.u64 G.neq) (dv_of (de_var 8)) (dv_of (de_var 8)))) (dw_or1 (dt_cmp (c_eq (L := eqL) G.sys hr.u64 G.neq) (dv_of (de_var 8)) (dv_of (de_var 9))))))))) (dss_one (ds_ret de_bl)) dss_nil) dss_nil))) (dss_cons (ds_for (vs := [15]) bodyPo rfl (di_range1 G.range (da_cons (de_len G.len (dva_cons (dv_of (de_var 6)) dva_nil)) da_nil)) (dg_name 15) (dss_cons (ds_set 16 (de_ix hr.u1 (dv_of (de_ix hr.u1 (dv_of (de_var 6)) (dv_of (de_mod (dv_of (de_intOf G.int (dva_cons (dv_of (de_add (dv_of (de_add (dv_of (de_var 15)) (dv_of de_int))) (dv_of (de_call G_ulaw_draw hr bodyTk (da_cons (de_var 1) (da_cons (de_sub (dv_of (de_len G.len (dva_cons (dv_of (de_var 6)) dva_nil))) (dv_of de_int)) da_nil)))))) dva_nil))) (dv_of (de_len G.len (dva_cons (dv_of (de_var 6)) dva_nil))))))) (dv_of de_int))) (dss_cons (ds_if (dt_w (dw_or (dt_cmp (c_eq (L := eqL) G.sys hr.u64 G.neq) (dv_of (de_ix hr.u1 (dv_of (de_ix hr.u1 (dv_of (de_var 6)) (dv_of (de_var 15)))) (dv_of de_int))) (dv_of (de_var 16))) (dw_or (dt_cmp (c_eq (L := eqL) G.sys hr.u64 G.neq) (dv_of (de_var 16)) (dv_of (de_ix hr.u1 (dv_of (de_ix hr.u1 (dv_of (de_var 6)) (dv_of (de_var 15)))) (dv_of de_int)))) (dw_or1 (dt_not (dt_cmp (c_ne (L := eqL) G.sys hr.u64 G.neq) (dv_of (de_ix hr.u1 (dv_of (de_ix hr.u1 (dv_of (de_var 6)) (dv_of (de_var 15)))) (dv_of de_int))) (dv_of (de_var 16)))))))) (dss_one (ds_ret de_bl)) dss_nil) dss_nil))) (dss_cons (ds_set 17 (de_makeS G_Found hr bodyTk (da_cons (de_ix hr.u1 (dv_of (de_var 2)) (dv_of de_int)) da_nil))) (dss_cons (ds_set 18 (de_repr G.sys hr.gd hr.u64 G.repr (da_cons (de_fld (dv_of (de_var 17))) da_nil))) (dss_cons (ds_if (dt_of (dv_of (de_isiB (T := "list") (by decide) G.isinstance G.list (dv_of (de_ix hr.u1 (dv_of (de_var 2)) (dv_of de_int)))))) (dss_cons (ds_appendO (de_ix hr.u1 (dv_of (de_var 2)) (dv_of de_int)) de_int) dss_nil) dss_nil) (dss_one (ds_ret (de_and (de_cmp (c_eq (L := eqL) G.sys hr.u64 G.neq) (dv_of (de_repr G.sys hr.gd hr.u64 G.repr (da_cons (de_fld (dv_of (de_var 17))) da_nil))) (dv_of (de_var 18))) (de_one (de_cmp (c_eq (L := eqL) G.sys hr.u64 G.neq) (dv_of (de_len G.len (dva_cons (dv_of (de_var 6)) dva_nil))) (dv_of de_int))))))))))))))))
theorem sc_law : FnScope N_law [("script" : Str)] (L2.defScope s_law) := ⟨rfl, rfl, rfl, by decide +kernel, rfl, by decide +kernel, by decide +kernel⟩
theorem c_law (G : Facts K mg) (G_ulaw_pen : DCal P w K mg base 1 "_law_pen" 1 m_ulaw_pen []) (G_ulaw_value : DCal P w K mg base 3 "_law_value" 1 m_ulaw_value []) (G_ulaw_made_a : DCal P w K mg base 4 "_law_made_a" 3 m_ulaw_made_a []) (G_ulaw_made_b : DCal P w K mg base 4 "_law_made_b" 3 m_ulaw_made_b []) (G_ulaw_made_c : DCal P w K mg base 4 "_law_made_c" 3 m_ulaw_made_c []) (G_ulaw_made_d : DCal P w K mg base 4 "_law_made_d" 3 m_ulaw_made_d []) (G_ulaw_made_e : DCal P w K mg base 4 "_law_made_e" 3 m_ulaw_made_e []) (G_ulaw_copy : DCal P w K mg base 1 "_law_copy" 1 m_ulaw_copy []) (G_ulaw_draw : DCal P w K mg base 1 "_law_draw" 2 m_ulaw_draw []) (G_Found : DMk P w K mg base 2 "Found" 1 i_Found) (F : FunD K "law" "law" (L2.defArgs s_law) (L2.defBody s_law) (L2.defScope s_law) [] [] (He.fAd K ("law", none)) fd) : DCal P w K mg base 5 "law" 1 m_law [] :=
  dcal_of F (G.gl 11 "law" rfl) (FunD.bindsN (ps := [("script" : Str)]) F fun _ _ _ _ _ _ us hl => match us, hl with | [_], _ => rfl) .nil (fun _ => .nil) sc_law (w_law G G_ulaw_pen G_ulaw_value G_ulaw_made_a G_ulaw_made_b G_ulaw_made_c G_ulaw_made_d G_ulaw_made_e G_ulaw_copy G_ulaw_draw G_Found)
theorem f_law (G : Facts K mg) (G_ulaw_pen : DCal P w K mg base 1 "_law_pen" 1 m_ulaw_pen []) (G_ulaw_value : DCal P w K mg base 3 "_law_value" 1 m_ulaw_value []) (G_ulaw_made_a : DCal P w K mg base 4 "_law_made_a" 3 m_ulaw_made_a []) (G_ulaw_made_b : DCal P w K mg base 4 "_law_made_b" 3 m_ulaw_made_b []) (G_ulaw_made_c : DCal P w K mg base 4 "_law_made_c" 3 m_ulaw_made_c []) (G_ulaw_made_d : DCal P w K mg base 4 "_law_made_d" 3 m_ulaw_made_d []) (G_ulaw_made_e : DCal P w K mg base 4 "_law_made_e" 3 m_ulaw_made_e []) (G_ulaw_copy : DCal P w K mg base 1 "_law_copy" 1 m_ulaw_copy []) (G_ulaw_draw : DCal P w K mg base 1 "_law_draw" 2 m_ulaw_draw []) (G_Found : DMk P w K mg base 2 "Found" 1 i_Found) (F : FunD K "law" "law" (L2.defArgs s_law) (L2.defBody s_law) (L2.defScope s_law) [] [] (He.fAd K ("law", none)) fd) : FnG P w K mg base (L2.CX P w) 5 (He.fAd K ("law", none)) fd [("script" : Str)] (Pm K mg 1 m_law) := fn_dl F sc_law (w_law G G_ulaw_pen G_ulaw_value G_ulaw_made_a G_ulaw_made_b G_ulaw_made_c G_ulaw_made_d G_ulaw_made_e G_ulaw_copy G_ulaw_draw G_Found)
end
/-! ### the head -/
theorem facts {K : PySem.W.Frag} {mg : Str → Option Value} {h : Heap} (X : K.In h) (Gn : h.Ns mainGlobals mg) (t : tst K = true) : Facts K mg := by
  obtain ⟨t1, t⟩ := He.ba t
  obtain ⟨t2, t⟩ := He.ba t
  obtain ⟨t3, t⟩ := He.ba t
  obtain ⟨t4, t⟩ := He.ba t
  obtain ⟨t5, t6⟩ := He.ba t
  have cl : ∀ (i : Nat) (x : Str), CLs[i]? = some x → (He.Fa.glo x).ok K = true ∧ tCls K x = true ∧ (He.Fa.mkr x).ok K = true ∧ tIsB K x = true := fun i x e => by
    have z := List.all_eq_true.mp t3 x (List.mem_of_getElem? e)
    obtain ⟨z1, z⟩ := He.ba z
    obtain ⟨z2, z⟩ := He.ba z
    obtain ⟨z3, z4⟩ := He.ba z
    exact ⟨z1, z2, z3, z4⟩
  have inj : ∀ {x : Str} {A : Addr}, (He.Fa.glo x).ok K = true → mg x = some (.ref A) → A = He.ga K x := fun {x A} c e => by
    have z := He.glo_ok X Gn c
    rw [e] at z; cases z; rfl
  refine ⟨tSys_ok t1, fun i x e => He.free_ok X Gn (List.all_eq_true.mp t2 x (List.mem_of_getElem? e)), fun i x e => He.glo_ok X Gn (cl i x e).1, fun i x e => tCls_ok (cl i x e).2.1, fun i x e => He.mkr_ok (cl i x e).2.2.1, fun i x e => tIsB_ok (cl i x e).2.2.2, fun i x f e A hA => ?_, fun x hx A hA => ?_, fun i x e => He.glo_ok X Gn (List.all_eq_true.mp t6 x (List.mem_of_getElem? e))⟩
  · obtain ⟨z1, z2⟩ := He.ba (List.all_eq_true.mp t4 (x, f) (List.mem_of_getElem? e))
    obtain rfl := inj z2 hA
    exact He.noat_ok z1
  · obtain ⟨z1, z2⟩ := He.ba (List.all_eq_true.mp t5 x hx)
    obtain rfl := inj z2 hA
    exact tNoEq_ok z1
theorem chain {P : Program} {w : PySem.World} {K : PySem.W.Frag} {mg : Str → Option Value} {h : Heap} (X : K.In h) (Gn : h.Ns mainGlobals mg) (c : obsX tst fn K = valX fn) : ∃ fd : FuncData, (∀ (s : Shared) (v : Value), BindsTo s fd ⟨[v], []⟩ [("script", v)]) ∧ ∀ base : Heap, K.In base → base.Ns mainGlobals mg → FnG P w K mg base (L2.CX P w) 5 (He.ga K "law") fd ["script"] (Pm K mg 1 m_law) := by
  have G := facts X Gn (x_test c)
  obtain ⟨fd0, F0⟩ := x_def c 0 (d := d_copied) rfl
  obtain ⟨fd1, F1⟩ := x_def c 1 (d := d_Found) rfl
  obtain ⟨fd2, F2⟩ := x_def c 2 (d := d_Barred) rfl
  obtain ⟨fd3, F3⟩ := x_def c 3 (d := d_Best) rfl
  obtain ⟨fd4, F4⟩ := x_def c 4 (d := d_Falls) rfl
  obtain ⟨fd5, F5⟩ := x_def c 5 (d := d_Never) rfl
  obtain ⟨fd6, F6⟩ := x_def c 6 (d := d_Answer) rfl
  obtain ⟨fd7, F7⟩ := x_def c 7 (d := d_Against) rfl
  obtain ⟨fd8, F8⟩ := x_def c 8 (d := d_Stiff) rfl
  obtain ⟨fd9, F9⟩ := x_def c 9 (d := d_Loose) rfl
  obtain ⟨fd10, F10⟩ := x_def c 10 (d := d_Free) rfl
  obtain ⟨fd11, F11⟩ := x_def c 11 (d := d_Crowded) rfl
  obtain ⟨fd12, F12⟩ := x_def c 12 (d := d_Grown) rfl
  obtain ⟨fd13, F13⟩ := x_def c 13 (d := d_Covered) rfl
  obtain ⟨fd14, F14⟩ := x_def c 14 (d := d_Opens) rfl
  obtain ⟨fd15, F15⟩ := x_def c 15 (d := d_Shuts) rfl
  obtain ⟨fd16, F16⟩ := x_def c 16 (d := d_Forests) rfl
  obtain ⟨fd17, F17⟩ := x_def c 17 (d := d_Thicket) rfl
  obtain ⟨fd18, F18⟩ := x_def c 18 (d := d_Trees) rfl
  obtain ⟨fd19, F19⟩ := x_def c 19 (d := d_Split) rfl
  obtain ⟨fd20, F20⟩ := x_def c 20 (d := d_Fit) rfl
  obtain ⟨fd21, F21⟩ := x_def c 21 (d := d_Set) rfl
  obtain ⟨fd22, F22⟩ := x_def c 22 (d := d_Slips) rfl
  obtain ⟨fd23, F23⟩ := x_def c 23 (d := d_Placed) rfl
  obtain ⟨fd24, F24⟩ := x_def c 24 (d := d_Braced) rfl
  obtain ⟨fd25, F25⟩ := x_def c 25 (d := d_Shears) rfl
  obtain ⟨fd26, F26⟩ := x_def c 26 (d := d_Pulls) rfl
  obtain ⟨fd27, F27⟩ := x_def c 27 (d := d_Yields) rfl
  obtain ⟨fd28, F28⟩ := x_def c 28 (d := d_Hung) rfl
  obtain ⟨fd29, F29⟩ := x_def c 29 (d := d_Adrift) rfl
  obtain ⟨fd30, F30⟩ := x_def c 30 (d := d_Weights) rfl
  obtain ⟨fd31, F31⟩ := x_def c 31 (d := d_Slack) rfl
  obtain ⟨fd32, F32⟩ := x_def c 32 (d := d_Bent) rfl
  obtain ⟨fd33, F33⟩ := x_def c 33 (d := d_Level) rfl
  obtain ⟨fd34, F34⟩ := x_def c 34 (d := d_Lift) rfl
  obtain ⟨fd35, F35⟩ := x_def c 35 (d := d_Warped) rfl
  obtain ⟨fd36, F36⟩ := x_def c 36 (d := d_Firm) rfl
  obtain ⟨fd37, F37⟩ := x_def c 37 (d := d_Gives) rfl
  obtain ⟨fd38, F38⟩ := x_def c 38 (d := d_Parts) rfl
  obtain ⟨fd39, F39⟩ := x_def c 39 (d := d_Carries) rfl
  obtain ⟨fd40, F40⟩ := x_def c 40 (d := d_Drops) rfl
  obtain ⟨fd41, F41⟩ := x_def c 41 (d := d_OneShape) rfl
  obtain ⟨fd42, F42⟩ := x_def c 42 (d := d_Lacking) rfl
  obtain ⟨fd43, F43⟩ := x_def c 43 (d := d_Parting) rfl
  obtain ⟨fd44, F44⟩ := x_def c 44 (d := d_LetsGo) rfl
  obtain ⟨fd45, F45⟩ := x_def c 45 (d := d_Ears) rfl
  obtain ⟨fd46, F46⟩ := x_def c 46 (d := d_HeldPlaces) rfl
  obtain ⟨fd47, F47⟩ := x_def c 47 (d := d_Cheapest) rfl
  obtain ⟨fd48, F48⟩ := x_def c 48 (d := d_TwoTrees) rfl
  obtain ⟨fd49, F49⟩ := x_def c 49 (d := d_Thick) rfl
  obtain ⟨fd50, F50⟩ := x_def c 50 (d := d_Light) rfl
  obtain ⟨fd51, F51⟩ := x_def c 51 (d := d_Sinks) rfl
  obtain ⟨fd52, F52⟩ := x_def c 52 (d := d_Uses) rfl
  obtain ⟨fd53, F53⟩ := x_def c 53 (d := d_Sizes) rfl
  obtain ⟨fd54, F54⟩ := x_def c 54 (d := d_Fails) rfl
  obtain ⟨fd55, F55⟩ := x_def c 55 (d := d_ulaw_pen) rfl
  obtain ⟨fd56, F56⟩ := x_def c 56 (d := d_ulaw_draw) rfl
  obtain ⟨fd57, F57⟩ := x_def c 57 (d := d_ulaw_pick) rfl
  obtain ⟨fd58, F58⟩ := x_def c 58 (d := d_ulaw_made_a) rfl
  obtain ⟨fd59, F59⟩ := x_def c 59 (d := d_ulaw_made_b) rfl
  obtain ⟨fd60, F60⟩ := x_def c 60 (d := d_ulaw_made_c) rfl
  obtain ⟨fd61, F61⟩ := x_def c 61 (d := d_ulaw_made_d) rfl
  obtain ⟨fd62, F62⟩ := x_def c 62 (d := d_ulaw_made_e) rfl
  obtain ⟨fd63, F63⟩ := x_def c 63 (d := d_ulaw_value) rfl
  obtain ⟨fd64, F64⟩ := x_def c 64 (d := d_ulaw_copy) rfl
  obtain ⟨fd65, F65⟩ := x_def c 65 (d := d_law) rfl
  have b := FunD.bindsA (ps := ["script"]) F65 fun _ _ _ _ _ _ us hl => match us, hl with | [_], _ => rfl
  refine ⟨fd65, fun s v => b s [v] rfl, fun base _ _ => ?_⟩
  have g_copied := c_copied (P := P) (w := w) (base := base) G F0
  have g_Found := c_Found (P := P) (w := w) (base := base) G g_copied F1
  have g_Found_K := c_Found_K (P := P) (w := w) (base := base) G g_copied F1
  have g_Barred := c_Barred (P := P) (w := w) (base := base) G g_copied F2
  have g_Barred_K := c_Barred_K (P := P) (w := w) (base := base) G g_copied F2
  have g_Best := c_Best (P := P) (w := w) (base := base) G g_copied F3
  have g_Best_K := c_Best_K (P := P) (w := w) (base := base) G g_copied F3
  have g_Falls := c_Falls (P := P) (w := w) (base := base) G g_copied F4
  have g_Falls_K := c_Falls_K (P := P) (w := w) (base := base) G g_copied F4
  have g_Never := c_Never (P := P) (w := w) (base := base) G g_copied F5
  have g_Never_K := c_Never_K (P := P) (w := w) (base := base) G g_copied F5
  have g_Answer := c_Answer (P := P) (w := w) (base := base) G g_copied F6
  have g_Answer_K := c_Answer_K (P := P) (w := w) (base := base) G g_copied F6
  have g_Against := c_Against (P := P) (w := w) (base := base) G g_copied F7
  have g_Against_K := c_Against_K (P := P) (w := w) (base := base) G g_copied F7
  have g_Stiff := c_Stiff (P := P) (w := w) (base := base) G g_copied F8
  have g_Stiff_K := c_Stiff_K (P := P) (w := w) (base := base) G g_copied F8
  have g_Loose := c_Loose (P := P) (w := w) (base := base) G g_copied F9
  have g_Loose_K := c_Loose_K (P := P) (w := w) (base := base) G g_copied F9
  have g_Free := c_Free (P := P) (w := w) (base := base) G g_copied F10
  have g_Free_K := c_Free_K (P := P) (w := w) (base := base) G g_copied F10
  have g_Crowded := c_Crowded (P := P) (w := w) (base := base) G g_copied F11
  have g_Crowded_K := c_Crowded_K (P := P) (w := w) (base := base) G g_copied F11
  have g_Grown := c_Grown (P := P) (w := w) (base := base) G g_copied F12
  have g_Grown_K := c_Grown_K (P := P) (w := w) (base := base) G g_copied F12
  have g_Covered := c_Covered (P := P) (w := w) (base := base) G g_copied F13
  have g_Covered_K := c_Covered_K (P := P) (w := w) (base := base) G g_copied F13
  have g_Opens := c_Opens (P := P) (w := w) (base := base) G g_copied F14
  have g_Opens_K := c_Opens_K (P := P) (w := w) (base := base) G g_copied F14
  have g_Shuts := c_Shuts (P := P) (w := w) (base := base) G g_copied F15
  have g_Shuts_K := c_Shuts_K (P := P) (w := w) (base := base) G g_copied F15
  have g_Forests := c_Forests (P := P) (w := w) (base := base) G g_copied F16
  have g_Forests_K := c_Forests_K (P := P) (w := w) (base := base) G g_copied F16
  have g_Thicket := c_Thicket (P := P) (w := w) (base := base) G g_copied F17
  have g_Thicket_K := c_Thicket_K (P := P) (w := w) (base := base) G g_copied F17
  have g_Trees := c_Trees (P := P) (w := w) (base := base) G g_copied F18
  have g_Trees_K := c_Trees_K (P := P) (w := w) (base := base) G g_copied F18
  have g_Split := c_Split (P := P) (w := w) (base := base) G g_copied F19
  have g_Split_K := c_Split_K (P := P) (w := w) (base := base) G g_copied F19
  have g_Fit := c_Fit (P := P) (w := w) (base := base) G g_copied F20
  have g_Fit_K := c_Fit_K (P := P) (w := w) (base := base) G g_copied F20
  have g_Set := c_Set (P := P) (w := w) (base := base) G g_copied F21
  have g_Set_K := c_Set_K (P := P) (w := w) (base := base) G g_copied F21
  have g_Slips := c_Slips (P := P) (w := w) (base := base) G g_copied F22
  have g_Slips_K := c_Slips_K (P := P) (w := w) (base := base) G g_copied F22
  have g_Placed := c_Placed (P := P) (w := w) (base := base) G g_copied F23
  have g_Placed_K := c_Placed_K (P := P) (w := w) (base := base) G g_copied F23
  have g_Braced := c_Braced (P := P) (w := w) (base := base) G g_copied F24
  have g_Braced_K := c_Braced_K (P := P) (w := w) (base := base) G g_copied F24
  have g_Shears := c_Shears (P := P) (w := w) (base := base) G g_copied F25
  have g_Shears_K := c_Shears_K (P := P) (w := w) (base := base) G g_copied F25
  have g_Pulls := c_Pulls (P := P) (w := w) (base := base) G g_copied F26
  have g_Pulls_K := c_Pulls_K (P := P) (w := w) (base := base) G g_copied F26
  have g_Yields := c_Yields (P := P) (w := w) (base := base) G g_copied F27
  have g_Yields_K := c_Yields_K (P := P) (w := w) (base := base) G g_copied F27
  have g_Hung := c_Hung (P := P) (w := w) (base := base) G g_copied F28
  have g_Hung_K := c_Hung_K (P := P) (w := w) (base := base) G g_copied F28
  have g_Adrift := c_Adrift (P := P) (w := w) (base := base) G g_copied F29
  have g_Adrift_K := c_Adrift_K (P := P) (w := w) (base := base) G g_copied F29
  have g_Weights := c_Weights (P := P) (w := w) (base := base) G g_copied F30
  have g_Weights_K := c_Weights_K (P := P) (w := w) (base := base) G g_copied F30
  have g_Slack := c_Slack (P := P) (w := w) (base := base) G g_copied F31
  have g_Slack_K := c_Slack_K (P := P) (w := w) (base := base) G g_copied F31
  have g_Bent := c_Bent (P := P) (w := w) (base := base) G g_copied F32
  have g_Bent_K := c_Bent_K (P := P) (w := w) (base := base) G g_copied F32
  have g_Level := c_Level (P := P) (w := w) (base := base) G g_copied F33
  have g_Level_K := c_Level_K (P := P) (w := w) (base := base) G g_copied F33
  have g_Lift := c_Lift (P := P) (w := w) (base := base) G g_copied F34
  have g_Lift_K := c_Lift_K (P := P) (w := w) (base := base) G g_copied F34
  have g_Warped := c_Warped (P := P) (w := w) (base := base) G g_copied F35
  have g_Warped_K := c_Warped_K (P := P) (w := w) (base := base) G g_copied F35
  have g_Firm := c_Firm (P := P) (w := w) (base := base) G g_copied F36
  have g_Firm_K := c_Firm_K (P := P) (w := w) (base := base) G g_copied F36
  have g_Gives := c_Gives (P := P) (w := w) (base := base) G g_copied F37
  have g_Gives_K := c_Gives_K (P := P) (w := w) (base := base) G g_copied F37
  have g_Parts := c_Parts (P := P) (w := w) (base := base) G g_copied F38
  have g_Parts_K := c_Parts_K (P := P) (w := w) (base := base) G g_copied F38
  have g_Carries := c_Carries (P := P) (w := w) (base := base) G g_copied F39
  have g_Carries_K := c_Carries_K (P := P) (w := w) (base := base) G g_copied F39
  have g_Drops := c_Drops (P := P) (w := w) (base := base) G g_copied F40
  have g_Drops_K := c_Drops_K (P := P) (w := w) (base := base) G g_copied F40
  have g_OneShape := c_OneShape (P := P) (w := w) (base := base) G g_copied F41
  have g_OneShape_K := c_OneShape_K (P := P) (w := w) (base := base) G g_copied F41
  have g_Lacking := c_Lacking (P := P) (w := w) (base := base) G g_copied F42
  have g_Lacking_K := c_Lacking_K (P := P) (w := w) (base := base) G g_copied F42
  have g_Parting := c_Parting (P := P) (w := w) (base := base) G g_copied F43
  have g_Parting_K := c_Parting_K (P := P) (w := w) (base := base) G g_copied F43
  have g_LetsGo := c_LetsGo (P := P) (w := w) (base := base) G g_copied F44
  have g_LetsGo_K := c_LetsGo_K (P := P) (w := w) (base := base) G g_copied F44
  have g_Ears := c_Ears (P := P) (w := w) (base := base) G g_copied F45
  have g_Ears_K := c_Ears_K (P := P) (w := w) (base := base) G g_copied F45
  have g_HeldPlaces := c_HeldPlaces (P := P) (w := w) (base := base) G g_copied F46
  have g_HeldPlaces_K := c_HeldPlaces_K (P := P) (w := w) (base := base) G g_copied F46
  have g_Cheapest := c_Cheapest (P := P) (w := w) (base := base) G g_copied F47
  have g_Cheapest_K := c_Cheapest_K (P := P) (w := w) (base := base) G g_copied F47
  have g_TwoTrees := c_TwoTrees (P := P) (w := w) (base := base) G g_copied F48
  have g_TwoTrees_K := c_TwoTrees_K (P := P) (w := w) (base := base) G g_copied F48
  have g_Thick := c_Thick (P := P) (w := w) (base := base) G g_copied F49
  have g_Thick_K := c_Thick_K (P := P) (w := w) (base := base) G g_copied F49
  have g_Light := c_Light (P := P) (w := w) (base := base) G g_copied F50
  have g_Light_K := c_Light_K (P := P) (w := w) (base := base) G g_copied F50
  have g_Sinks := c_Sinks (P := P) (w := w) (base := base) G g_copied F51
  have g_Sinks_K := c_Sinks_K (P := P) (w := w) (base := base) G g_copied F51
  have g_Uses := c_Uses (P := P) (w := w) (base := base) G g_copied F52
  have g_Uses_K := c_Uses_K (P := P) (w := w) (base := base) G g_copied F52
  have g_Sizes := c_Sizes (P := P) (w := w) (base := base) G g_copied F53
  have g_Sizes_K := c_Sizes_K (P := P) (w := w) (base := base) G g_copied F53
  have g_Fails := c_Fails (P := P) (w := w) (base := base) G g_copied F54
  have g_Fails_K := c_Fails_K (P := P) (w := w) (base := base) G g_copied F54
  have g_ulaw_pen := c_ulaw_pen (P := P) (w := w) (base := base) G F55
  have g_ulaw_draw := c_ulaw_draw (P := P) (w := w) (base := base) G F56
  have g_ulaw_pick := c_ulaw_pick (P := P) (w := w) (base := base) G g_ulaw_draw F57
  have g_ulaw_made_a := c_ulaw_made_a (P := P) (w := w) (base := base) G g_Set g_Set_K g_Slips g_Slips_K g_Placed g_Placed_K g_Free g_Free_K g_Crowded g_Crowded_K g_Grown g_Grown_K g_Covered g_Covered_K g_Opens g_Opens_K g_Shuts g_Shuts_K g_Forests g_Forests_K g_Thicket g_Thicket_K F58
  have g_ulaw_made_b := c_ulaw_made_b (P := P) (w := w) (base := base) G g_Trees g_Trees_K g_Split g_Split_K g_Answer g_Answer_K g_Against g_Against_K g_Stiff g_Stiff_K g_Loose g_Loose_K g_Braced g_Braced_K g_Shears g_Shears_K g_Pulls g_Pulls_K g_Yields g_Yields_K g_Hung g_Hung_K F59
  have g_ulaw_made_c := c_ulaw_made_c (P := P) (w := w) (base := base) G g_Adrift g_Adrift_K g_Weights g_Weights_K g_Slack g_Slack_K g_Bent g_Bent_K g_Level g_Level_K g_Lift g_Lift_K g_Warped g_Warped_K g_Firm g_Firm_K g_Gives g_Gives_K g_Parts g_Parts_K g_Carries g_Carries_K F60
  have g_ulaw_made_d := c_ulaw_made_d (P := P) (w := w) (base := base) G g_Drops g_Drops_K g_Found g_Found_K g_Barred g_Barred_K g_Best g_Best_K g_Falls g_Falls_K g_Never g_Never_K g_OneShape g_OneShape_K g_Lacking g_Lacking_K g_Parting g_Parting_K g_LetsGo g_LetsGo_K g_Ears g_Ears_K F61
  have g_ulaw_made_e := c_ulaw_made_e (P := P) (w := w) (base := base) G g_HeldPlaces g_HeldPlaces_K g_Cheapest g_Cheapest_K g_TwoTrees g_TwoTrees_K g_Thick g_Thick_K g_Light g_Light_K g_Sinks g_Sinks_K g_Uses g_Uses_K g_Sizes g_Sizes_K g_Fails g_Fails_K g_Fit g_Fit_K F62
  have g_ulaw_value := c_ulaw_value (P := P) (w := w) (base := base) G g_ulaw_pick g_ulaw_draw F63
  have g_ulaw_copy := c_ulaw_copy (P := P) (w := w) (base := base) G F64
  exact f_law G g_ulaw_pen g_ulaw_value g_ulaw_made_a g_ulaw_made_b g_ulaw_made_c g_ulaw_made_d g_ulaw_made_e g_ulaw_copy g_ulaw_draw g_Found F65
end K83

namespace K83
open PySem PySem.W PySem.Calls PyProof.Rows HandSHeadRun DL
/-- the law's mirror tells True -/
def Told : Prop := ∀ ns : List Int, ns.length ≤ 63 → (∀ k ∈ ns, Builtin.Int.intBits k ≤ 1048576) → ∃ s', m_law [scr ns] [] = .ok (.bl true) s'
theorem holds (told : Told) : PySem.Challenge.rw_stiffwebs_k83_classes_made_by_hand.Holds := by
  w_on; o_law
  refine HandSHeadRun.head_any (r := OpenLaw.row PySem.Challenge.rw_stiffwebs_k83_classes_made_by_hand) (q := qv) (H := hk) (ob := ob) (M := 30000) (loose := names) (kwd := []) (d := HandSHeadRun.topDef (OpenLaw.row PySem.Challenge.rw_stiffwebs_k83_classes_made_by_hand).prog 82) ob_eq (by kernel_rfl) (fun s => by kernel_rfl) run (by rfl) (by rfl) (by rfl) (by rfl) (by first | assumption | decide +kernel) (by decide +kernel) ⟨rfl, rfl, rfl, rfl, rfl, by decide +kernel⟩ ?hw ?hc
  case hw => w_witness2
  case hc =>
    refine DL.walkT (l := PySem.Challenge.rw_stiffwebs_k83_classes_made_by_hand) (n := 63) (k := 5) (x := "script") (XT := fun w => L2.CX (PySem.Challenge.rw_stiffwebs_k83_classes_made_by_hand).prog w) rfl (by decide) (by kernel_rfl) ⟨rfl, by decide, by decide⟩ ?F (fun w H s e s' z => law_cx w _ H s e s' z)
    intro w mg fa h Y G hmg0
    obtain ⟨K, KX, c⟩ := Y
    have hmg : mg ("law" : PySem.Str) = some (.ref fa) := by
      have e : (HandSHeadRun.topDef (OpenLaw.row PySem.Challenge.rw_stiffwebs_k83_classes_made_by_hand).prog 82).name = ("law" : PySem.Str) := by kernel_rfl
      rw [← e]
      exact hmg0
    obtain ⟨fd, hb, hF⟩ := chain (P := (PySem.Challenge.rw_stiffwebs_k83_classes_made_by_hand).prog) (w := w) KX G c
    have fT := facts KX G (x_test c)
    have e : fa = He.ga K ("law" : PySem.Str) := by
      have z := fT.gl 11 ("law" : PySem.Str) rfl
      rw [hmg] at z; cases z; rfl
    subst e
    exact ⟨K, [], fd, Pm K mg 1 m_law, KX, List.forall_mem_nil _, List.forall_mem_nil _, List.forall_mem_nil _, hb, fun H a ns hl hbits _ hS => law_sp (qs := []) hS List.nodup_nil (List.forall_mem_nil _) (told ns hl hbits), fun base h1 h2 _ => hF base h1 h2⟩
end K83

theorem PySem.Challenge.cw_stiffwebs_k83_classes_made_by_hand_holds : PySem.Challenge.rw_stiffwebs_k83_classes_made_by_hand.Holds :=
  K83.holds fun ns _ _ => K83.told ns

