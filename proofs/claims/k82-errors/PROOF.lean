import PyProof.Rows.All
import Wide.All
import OpenK.AllK
import Wide.FinOn
import KE.KStateDown
import HandS.Base
import HandS.Call
import HandS.Exc
import HandS.Defaults
import HandS.ExcInit
import HandS.Head0
import HandS.Head1
import HandS.Head2
import HandS.HeadEnd
import HandS.HeadHook1
import HandS.HeadHook2
import HandS.HeadHook3
import HandS.HeadHook4
import HandS.Words
import HandS.ForMost
import HandS.ForExc
import HandS.EndBits
import HandS.Walk
import HandS.Conv
import HandS.Lambda
import HandS.EndTab
import HandS.ExcField
import HandS.ExcIs
import HandS.CallSlots
import PyProof.P3In
import HandS.IsInst
import KE.GoesEnum
import HandS.NoneIn
import HandS.More
import HandS.TryOnly
import HandS.TryMany
import HandS.ClsMeth
import HandS.SortInts
import HandS.Style
import HandS.SetFor
import HandS.Zip
import HandS.TupAny
import HandS.Text
import HandS.FStr
import PyProof.Rows.RegStrFacts
import PyProof.ReprLen
import HandS.FStrTup
import PyProof.FString2
import KE.BitLaws
import PySem.Challenge.RW_letbychecks_k82_whole_errors_side_by_sid
set_option Elab.async false
set_option linter.all false
set_option maxRecDepth 100000
set_option maxHeartbeats 4000000
/-! DenHZ: what a head's Hook looks at, for a program with many error classes. -/
namespace DL
open PySem L2 PySem.Spec PyProof.Rows
abbrev veL : List Value := [.type "ValueError", .type "Exception", .type "BaseException", .type "object"]
/-- an error class's object -/
def objB (K : PySem.W.Frag) (C : Addr) (nm : Str) (bm : List Value) : Bool := match K.lookup C with
  | some ⟨.type t, _, .cls cd, sl⟩ => decide (t = "type") && (decide (cd.name = nm) && (decide (cd.mro = .ref C :: bm) && (cd.hasDict && (!cd.hasDel && (match sl.toList with
    | [_, _, _, _, some (.builtin n), _] => decide (n = "ValueError.__new__")
    | _ => false)))))
  | _ => false
def noB (K : PySem.W.Frag) (C : Addr) (f : Str) : Bool := He.eqO (PySem.W.findIn K (.ref C) f) (some none)
/-- what is looked at of an error class: its name, its fields -/
def xB (K : PySem.W.Frag) (CE : Addr) (r : Str × List Str) : Bool :=
  He.eqO (PySem.W.nsIn K mainGlobals r.1) (some (some (.ref (He.ga K r.1)))) && (objB K (He.ga K r.1) r.1 (.ref CE :: veL) && (He.eqO (PySem.W.findIn K (.ref (He.ga K r.1)) "__setattr__") (some (some (.builtin "object.__setattr__"))) &&
  (decide (PySem.W.typeIn K (.ref (He.ga K r.1)) = some (.type "type")) && (PySem.W.keepIn K (.ref (He.ga K r.1)) && (He.eqO (PySem.W.findIn K (.ref (He.ga K r.1)) "__init__") (some (some (.ref (He.ma K (He.ga K r.1) "__init__")))) &&
  (decide (PySem.W.typeIn K (.ref (He.ma K (He.ga K r.1) "__init__")) = some (.type "function")) && (r.2.all (fun f => noB K (He.ga K r.1) f) && (He.eqO (PySem.W.findIn K (.ref (He.ga K r.1)) "__getattribute__") (some (some (.builtin "BaseException.__getattribute__"))) &&
  (noB K (He.ga K r.1) "__getattr__" && He.eqO (PySem.W.findIn K (.ref (He.ga K r.1)) "__class__") (some (some (.builtin "object.__class__"))))))))))))
/-- what is looked at of the base, of the readers -/
def ceB (K : PySem.W.Frag) (nm : Str) : Bool :=
  He.eqO (PySem.W.nsIn K mainGlobals nm) (some (some (.ref (He.ga K nm)))) && (objB K (He.ga K nm) nm veL && (decide (PySem.W.typeIn K (.ref (He.ga K nm)) = some (.type "type")) && (PySem.W.readsIn K (He.ga K nm) (.type "type") &&
  (He.eqO (PySem.W.specialIn K (.ref (He.ga K nm)) "__getattribute__") (some (some (.builtin "type.__getattribute__"))) && ((match PySem.W.findCls K (.ref (He.ga K nm)) (.type "type") "__init__" with
    | some (.val (.builtin n)) => decide (n = "ValueError.__init__")
    | _ => false) && (He.eqO (PySem.W.specialIn K (.builtin "object.__class__") "__get__") (some (some (.builtin "getset_descriptor.__get__"))) && decide (PySem.W.takesIn K (.builtin "object.__class__") = some true)))))))
def exB (nm : Str) (rs : List (Str × List Str)) (K : PySem.W.Frag) : Bool := ceB K nm && rs.all fun r => xB K (He.ga K nm) r
/-! ### the Hook: what the module's names reach, and the statics -/
def asZ (g : Addr → Option Obj) : Nat → List Addr
  | 0 => [mainGlobals, PySem.cStatics]
  | n + 1 => He.growD g (asZ g n)
def kZ (n : Nat) (g : Addr → Option Obj) : PySem.W.Frag := He.frG g (asZ g n)
abbrev AlZ : Type := He.AlD × Bool
def obsZ (n : Nat) (fa : List He.Fa) (fn : List He.DefD) (ex : PySem.W.Frag → Bool) (g : Addr → Option Obj) : AlZ := (He.obsD fa fn (kZ n g), ex (kZ n g))
def hookZ (n : Nat) (fa : List He.Fa) (fn : List He.DefD) (ex : PySem.W.Frag → Bool) : PySem.W.Hook where
  α := AlZ
  obs := fun s => obsZ n fa fn ex s.heap.get?
  val := fun _ => (He.valD fn, true)
  says := fun _ h => ∃ K : PySem.W.Frag, K.In h ∧ He.SaysD fa fn K ∧ ex K = true
  of := fun _ _ e => ⟨_, He.frG_in, congrArg (fun z : AlZ => z.1) e, congrArg (fun z : AlZ => z.2) e⟩
  keeps := fun _ _ _ ⟨K, hK, c⟩ k => ⟨K, PySem.W.Frag.In.keeps hK k, c⟩
theorem obsZ_eq {n : Nat} {fa : List He.Fa} {fn : List He.DefD} {ex : PySem.W.Frag → Bool} {g : Addr → Option Obj} {s : Shared} (h : ∀ a, g a = s.heap.get? a) : obsZ n fa fn ex g = (hookZ n fa fn ex).obs s := by
  have e : g = s.heap.get? := funext h
  rw [e] <;> rfl
/-- two looks at the same part -/
def obsZ2 (n : Nat) (fa : List He.Fa) (fn : List He.DefD) (ex : PySem.W.Frag → Bool) (fa2 : List He.Fa) (fn2 : List He.DefD) (ex2 : PySem.W.Frag → Bool) (g : Addr → Option Obj) : AlZ × AlZ := (obsZ n fa fn ex g, obsZ n fa2 fn2 ex2 g)
def hookZ2 (n : Nat) (fa : List He.Fa) (fn : List He.DefD) (ex : PySem.W.Frag → Bool) (fa2 : List He.Fa) (fn2 : List He.DefD) (ex2 : PySem.W.Frag → Bool) : PySem.W.Hook where
  α := AlZ × AlZ
  obs := fun s => obsZ2 n fa fn ex fa2 fn2 ex2 s.heap.get?
  val := fun _ => ((He.valD fn, true), (He.valD fn2, true))
  says := fun _ h => ∃ K : PySem.W.Frag, K.In h ∧ (He.SaysD fa fn K ∧ ex K = true) ∧ He.SaysD fa2 fn2 K ∧ ex2 K = true
  of := fun _ _ e => ⟨_, He.frG_in, ⟨congrArg (fun z : AlZ × AlZ => z.1.1) e, congrArg (fun z : AlZ × AlZ => z.1.2) e⟩, congrArg (fun z : AlZ × AlZ => z.2.1) e, congrArg (fun z : AlZ × AlZ => z.2.2) e⟩
  keeps := fun _ _ _ ⟨K, hK, c⟩ k => ⟨K, PySem.W.Frag.In.keeps hK k, c⟩
theorem obsZ2_eq {n : Nat} {fa : List He.Fa} {fn : List He.DefD} {ex : PySem.W.Frag → Bool} {fa2 : List He.Fa} {fn2 : List He.DefD} {ex2 : PySem.W.Frag → Bool} {g : Addr → Option Obj} {s : Shared} (h : ∀ a, g a = s.heap.get? a) : obsZ2 n fa fn ex fa2 fn2 ex2 g = (hookZ2 n fa fn ex fa2 fn2 ex2).obs s := by
  have e : g = s.heap.get? := funext h
  rw [e] <;> rfl
theorem run2 {r : PySem.W.OpenRow} {q : Program} {n M : Nat} {fa : List He.Fa} {fn : List He.DefD} {ex : PySem.W.Frag → Bool} {fa2 : List He.Fa} {fn2 : List He.DefD} {ex2 : PySem.W.Frag → Bool} {loose : List Str} {w : World}
    (h1 : HandSHeadRun.RunEq r q (hookZ n fa fn ex) (fun s => obsZ n fa fn ex (HandSHeadRun.getT s)) M loose w) (h2 : HandSHeadRun.RunEq r q (hookZ n fa2 fn2 ex2) (fun s => obsZ n fa2 fn2 ex2 (HandSHeadRun.getT s)) M loose w) :
    HandSHeadRun.RunEq r q (hookZ2 n fa fn ex fa2 fn2 ex2) (fun s => obsZ2 n fa fn ex fa2 fn2 ex2 (HandSHeadRun.getT s)) M loose w := fun os => by
  obtain ⟨s, e, z1⟩ := Option.map_eq_some_iff.mp (h1 os)
  obtain ⟨s', e', z2⟩ := Option.map_eq_some_iff.mp (h2 os)
  have es : s = s' := Option.some.inj (e.symm.trans e')
  subst es
  refine Option.map_eq_some_iff.mpr ⟨s, e, ?_⟩
  have a1 := congrArg (fun z => z.1) z1
  have a2 := congrArg (fun z => z.2.1) z1
  have a3 := congrArg (fun z => z.2.2) z1
  have b3 := congrArg (fun z => z.2.2) z2
  exact Prod.ext a1 (Prod.ext a2 (Prod.ext a3 b3))
end DL

set_option Elab.async false
set_option linter.all false
set_option maxRecDepth 100000
set_option maxHeartbeats 0
/-! the program's statements (printed by gen.py) -/
namespace K82
open PySem L2 PySem.Spec PyProof.Rows
def top (i : Nat) : Stmt := PySem.Challenge.pw_letbychecks_k82_whole_errors_side_by_sid.main.body.getD i (.Pass ⟨0, 0, 0, 0⟩)
abbrev s__law_hand : Stmt := top 49
abbrev s__law_stir : Stmt := top 48
abbrev s__law_draw : Stmt := top 50
abbrev s__law_thing : Stmt := top 51
abbrev s__law_all : Stmt := top 54
abbrev s__law_flags : Stmt := top 55
abbrev s__law_later_fields_hold : Stmt := top 53
abbrev s__law_fields_hold : Stmt := top 52
abbrev s_law : Stmt := top 56
abbrev sx_BadRatio : Stmt := inClass (top 2) 0
abbrev sx_DividedByNought : Stmt := inClass (top 3) 0
abbrev sx_BadCode : Stmt := inClass (top 4) 0
abbrev sx_BadBit : Stmt := inClass (top 5) 0
abbrev sx_NoCheck : Stmt := inClass (top 6) 0
abbrev sx_BadLot : Stmt := inClass (top 7) 0
abbrev sx_BadPrices : Stmt := inClass (top 8) 0
abbrev sx_BadRow : Stmt := inClass (top 9) 0
abbrev sx_BadWord : Stmt := inClass (top 10) 0
abbrev sx_BadOrder : Stmt := inClass (top 11) 0
abbrev sx_UnlikeBits : Stmt := inClass (top 12) 0
abbrev sx_TooMany : Stmt := inClass (top 13) 0
abbrev sx_BadText : Stmt := inClass (top 14) 0
abbrev sx_NotLet : Stmt := inClass (top 15) 0
abbrev sx_BadSheets : Stmt := inClass (top 16) 0
abbrev sx_BadRows : Stmt := inClass (top 17) 0
abbrev sx_BadWeights : Stmt := inClass (top 18) 0
abbrev sx_BadCover : Stmt := inClass (top 19) 0
abbrev sx_BadWire : Stmt := inClass (top 20) 0
abbrev sx_BadMarks : Stmt := inClass (top 21) 0
abbrev sx_UnlikeCode : Stmt := inClass (top 22) 0
abbrev sx_BadTimes : Stmt := inClass (top 23) 0
abbrev sx_LowRest : Stmt := inClass (top 24) 0
abbrev sx_BadCone : Stmt := inClass (top 25) 0
abbrev sx_NotCone : Stmt := inClass (top 26) 0
abbrev sx_BadMany : Stmt := inClass (top 27) 0
abbrev sx_BadReceived : Stmt := inClass (top 28) 0
abbrev sx_OddCount : Stmt := inClass (top 29) 0
abbrev sx_NotStop : Stmt := inClass (top 30) 0
abbrev sx_NotRingless : Stmt := inClass (top 31) 0
abbrev sx_NotCorner : Stmt := inClass (top 32) 0
abbrev sx_BadWeb : Stmt := inClass (top 33) 0
abbrev sx_BadPost : Stmt := inClass (top 34) 0
abbrev sx_NotTies : Stmt := inClass (top 35) 0
abbrev sx_NotRound : Stmt := inClass (top 36) 0
abbrev sx_NotApart : Stmt := inClass (top 37) 0
abbrev sx_NothingLeft : Stmt := inClass (top 38) 0
abbrev sx_NoSmall : Stmt := inClass (top 39) 0
abbrev sx_NoSum : Stmt := inClass (top 40) 0
abbrev sx_NotHidden : Stmt := inClass (top 41) 0
abbrev sx_BadWish : Stmt := inClass (top 42) 0
abbrev sx_BadPool : Stmt := inClass (top 43) 0
abbrev sx_BadPicks : Stmt := inClass (top 44) 0
abbrev sx_BadEdit : Stmt := inClass (top 45) 0
abbrev sx_NothingDone : Stmt := inClass (top 46) 0
end K82

set_option Elab.async false
set_option linter.all false
set_option maxRecDepth 100000
set_option maxHeartbeats 0
/-! the head by facts (printed by mkhead82.py) -/
namespace K82
open PySem L2 PySem.Spec PyProof.Rows
def looseN : List Str := ([("CodeError" : Str), ("BadRatio" : Str), ("DividedByNought" : Str), ("BadCode" : Str), ("BadBit" : Str), ("NoCheck" : Str), ("BadLot" : Str), ("BadPrices" : Str), ("BadRow" : Str), ("BadWord" : Str), ("BadOrder" : Str), ("UnlikeBits" : Str), ("TooMany" : Str), ("BadText" : Str), ("NotLet" : Str), ("BadSheets" : Str), ("BadRows" : Str), ("BadWeights" : Str), ("BadCover" : Str), ("BadWire" : Str), ("BadMarks" : Str), ("UnlikeCode" : Str), ("BadTimes" : Str), ("LowRest" : Str), ("BadCone" : Str), ("NotCone" : Str), ("BadMany" : Str), ("BadReceived" : Str), ("OddCount" : Str), ("NotStop" : Str)] : List Str) ++ ([("NotRingless" : Str), ("NotCorner" : Str), ("BadWeb" : Str), ("BadPost" : Str), ("NotTies" : Str), ("NotRound" : Str), ("NotApart" : Str), ("NothingLeft" : Str), ("NoSmall" : Str), ("NoSum" : Str), ("NotHidden" : Str), ("BadWish" : Str), ("BadPool" : Str), ("BadPicks" : Str), ("BadEdit" : Str), ("NothingDone" : Str), ("_law_hand" : Str), ("_law_stir" : Str), ("_law_draw" : Str), ("_law_thing" : Str), ("_law_all" : Str), ("_law_flags" : Str), ("_law_later_fields_hold" : Str), ("_law_fields_hold" : Str)] : List Str)
def dd__law_hand : He.DefD := ⟨(("_law_hand" : Str), none), ("_law_hand" : Str), ("_law_hand" : Str), defArgs s__law_hand, defBody s__law_hand, defScope s__law_hand, [], []⟩
def dd__law_stir : He.DefD := ⟨(("_law_stir" : Str), none), ("_law_stir" : Str), ("_law_stir" : Str), defArgs s__law_stir, defBody s__law_stir, defScope s__law_stir, [], []⟩
def dd__law_draw : He.DefD := ⟨(("_law_draw" : Str), none), ("_law_draw" : Str), ("_law_draw" : Str), defArgs s__law_draw, defBody s__law_draw, defScope s__law_draw, [], []⟩
def dd__law_thing : He.DefD := ⟨(("_law_thing" : Str), none), ("_law_thing" : Str), ("_law_thing" : Str), defArgs s__law_thing, defBody s__law_thing, defScope s__law_thing, [], []⟩
def dd__law_all : He.DefD := ⟨(("_law_all" : Str), none), ("_law_all" : Str), ("_law_all" : Str), defArgs s__law_all, defBody s__law_all, defScope s__law_all, [], []⟩
def dd__law_flags : He.DefD := ⟨(("_law_flags" : Str), none), ("_law_flags" : Str), ("_law_flags" : Str), defArgs s__law_flags, defBody s__law_flags, defScope s__law_flags, [], []⟩
def dd__law_later_fields_hold : He.DefD := ⟨(("_law_later_fields_hold" : Str), none), ("_law_later_fields_hold" : Str), ("_law_later_fields_hold" : Str), defArgs s__law_later_fields_hold, defBody s__law_later_fields_hold, defScope s__law_later_fields_hold, [], []⟩
def dd__law_fields_hold : He.DefD := ⟨(("_law_fields_hold" : Str), none), ("_law_fields_hold" : Str), ("_law_fields_hold" : Str), defArgs s__law_fields_hold, defBody s__law_fields_hold, defScope s__law_fields_hold, [], []⟩
def dd_law : He.DefD := ⟨(("law" : Str), none), ("law" : Str), ("law" : Str), defArgs s_law, defBody s_law, defScope s_law, [], []⟩
def dx_BadRatio : He.DefD := ⟨(("BadRatio" : Str), some ("__init__" : Str)), ("__init__" : Str), ("BadRatio.__init__" : Str), defArgs sx_BadRatio, defBody sx_BadRatio, defScope sx_BadRatio, [], []⟩
def dx_DividedByNought : He.DefD := ⟨(("DividedByNought" : Str), some ("__init__" : Str)), ("__init__" : Str), ("DividedByNought.__init__" : Str), defArgs sx_DividedByNought, defBody sx_DividedByNought, defScope sx_DividedByNought, [], []⟩
def dx_BadCode : He.DefD := ⟨(("BadCode" : Str), some ("__init__" : Str)), ("__init__" : Str), ("BadCode.__init__" : Str), defArgs sx_BadCode, defBody sx_BadCode, defScope sx_BadCode, [], []⟩
def dx_BadBit : He.DefD := ⟨(("BadBit" : Str), some ("__init__" : Str)), ("__init__" : Str), ("BadBit.__init__" : Str), defArgs sx_BadBit, defBody sx_BadBit, defScope sx_BadBit, [], []⟩
def dx_NoCheck : He.DefD := ⟨(("NoCheck" : Str), some ("__init__" : Str)), ("__init__" : Str), ("NoCheck.__init__" : Str), defArgs sx_NoCheck, defBody sx_NoCheck, defScope sx_NoCheck, [], []⟩
def dx_BadLot : He.DefD := ⟨(("BadLot" : Str), some ("__init__" : Str)), ("__init__" : Str), ("BadLot.__init__" : Str), defArgs sx_BadLot, defBody sx_BadLot, defScope sx_BadLot, [], []⟩
def dx_BadPrices : He.DefD := ⟨(("BadPrices" : Str), some ("__init__" : Str)), ("__init__" : Str), ("BadPrices.__init__" : Str), defArgs sx_BadPrices, defBody sx_BadPrices, defScope sx_BadPrices, [], []⟩
def dx_BadRow : He.DefD := ⟨(("BadRow" : Str), some ("__init__" : Str)), ("__init__" : Str), ("BadRow.__init__" : Str), defArgs sx_BadRow, defBody sx_BadRow, defScope sx_BadRow, [], []⟩
def dx_BadWord : He.DefD := ⟨(("BadWord" : Str), some ("__init__" : Str)), ("__init__" : Str), ("BadWord.__init__" : Str), defArgs sx_BadWord, defBody sx_BadWord, defScope sx_BadWord, [], []⟩
def dx_BadOrder : He.DefD := ⟨(("BadOrder" : Str), some ("__init__" : Str)), ("__init__" : Str), ("BadOrder.__init__" : Str), defArgs sx_BadOrder, defBody sx_BadOrder, defScope sx_BadOrder, [], []⟩
def dx_UnlikeBits : He.DefD := ⟨(("UnlikeBits" : Str), some ("__init__" : Str)), ("__init__" : Str), ("UnlikeBits.__init__" : Str), defArgs sx_UnlikeBits, defBody sx_UnlikeBits, defScope sx_UnlikeBits, [], []⟩
def dx_TooMany : He.DefD := ⟨(("TooMany" : Str), some ("__init__" : Str)), ("__init__" : Str), ("TooMany.__init__" : Str), defArgs sx_TooMany, defBody sx_TooMany, defScope sx_TooMany, [], []⟩
def dx_BadText : He.DefD := ⟨(("BadText" : Str), some ("__init__" : Str)), ("__init__" : Str), ("BadText.__init__" : Str), defArgs sx_BadText, defBody sx_BadText, defScope sx_BadText, [], []⟩
def dx_NotLet : He.DefD := ⟨(("NotLet" : Str), some ("__init__" : Str)), ("__init__" : Str), ("NotLet.__init__" : Str), defArgs sx_NotLet, defBody sx_NotLet, defScope sx_NotLet, [], []⟩
def dx_BadSheets : He.DefD := ⟨(("BadSheets" : Str), some ("__init__" : Str)), ("__init__" : Str), ("BadSheets.__init__" : Str), defArgs sx_BadSheets, defBody sx_BadSheets, defScope sx_BadSheets, [], []⟩
def dx_BadRows : He.DefD := ⟨(("BadRows" : Str), some ("__init__" : Str)), ("__init__" : Str), ("BadRows.__init__" : Str), defArgs sx_BadRows, defBody sx_BadRows, defScope sx_BadRows, [], []⟩
def dx_BadWeights : He.DefD := ⟨(("BadWeights" : Str), some ("__init__" : Str)), ("__init__" : Str), ("BadWeights.__init__" : Str), defArgs sx_BadWeights, defBody sx_BadWeights, defScope sx_BadWeights, [], []⟩
def dx_BadCover : He.DefD := ⟨(("BadCover" : Str), some ("__init__" : Str)), ("__init__" : Str), ("BadCover.__init__" : Str), defArgs sx_BadCover, defBody sx_BadCover, defScope sx_BadCover, [], []⟩
def dx_BadWire : He.DefD := ⟨(("BadWire" : Str), some ("__init__" : Str)), ("__init__" : Str), ("BadWire.__init__" : Str), defArgs sx_BadWire, defBody sx_BadWire, defScope sx_BadWire, [], []⟩
def dx_BadMarks : He.DefD := ⟨(("BadMarks" : Str), some ("__init__" : Str)), ("__init__" : Str), ("BadMarks.__init__" : Str), defArgs sx_BadMarks, defBody sx_BadMarks, defScope sx_BadMarks, [], []⟩
def dx_UnlikeCode : He.DefD := ⟨(("UnlikeCode" : Str), some ("__init__" : Str)), ("__init__" : Str), ("UnlikeCode.__init__" : Str), defArgs sx_UnlikeCode, defBody sx_UnlikeCode, defScope sx_UnlikeCode, [], []⟩
def dx_BadTimes : He.DefD := ⟨(("BadTimes" : Str), some ("__init__" : Str)), ("__init__" : Str), ("BadTimes.__init__" : Str), defArgs sx_BadTimes, defBody sx_BadTimes, defScope sx_BadTimes, [], []⟩
def dx_LowRest : He.DefD := ⟨(("LowRest" : Str), some ("__init__" : Str)), ("__init__" : Str), ("LowRest.__init__" : Str), defArgs sx_LowRest, defBody sx_LowRest, defScope sx_LowRest, [], []⟩
def dx_BadCone : He.DefD := ⟨(("BadCone" : Str), some ("__init__" : Str)), ("__init__" : Str), ("BadCone.__init__" : Str), defArgs sx_BadCone, defBody sx_BadCone, defScope sx_BadCone, [], []⟩
def dx_NotCone : He.DefD := ⟨(("NotCone" : Str), some ("__init__" : Str)), ("__init__" : Str), ("NotCone.__init__" : Str), defArgs sx_NotCone, defBody sx_NotCone, defScope sx_NotCone, [], []⟩
def dx_BadMany : He.DefD := ⟨(("BadMany" : Str), some ("__init__" : Str)), ("__init__" : Str), ("BadMany.__init__" : Str), defArgs sx_BadMany, defBody sx_BadMany, defScope sx_BadMany, [], []⟩
def dx_BadReceived : He.DefD := ⟨(("BadReceived" : Str), some ("__init__" : Str)), ("__init__" : Str), ("BadReceived.__init__" : Str), defArgs sx_BadReceived, defBody sx_BadReceived, defScope sx_BadReceived, [], []⟩
def dx_OddCount : He.DefD := ⟨(("OddCount" : Str), some ("__init__" : Str)), ("__init__" : Str), ("OddCount.__init__" : Str), defArgs sx_OddCount, defBody sx_OddCount, defScope sx_OddCount, [], []⟩
def dx_NotStop : He.DefD := ⟨(("NotStop" : Str), some ("__init__" : Str)), ("__init__" : Str), ("NotStop.__init__" : Str), defArgs sx_NotStop, defBody sx_NotStop, defScope sx_NotStop, [], []⟩
def dx_NotRingless : He.DefD := ⟨(("NotRingless" : Str), some ("__init__" : Str)), ("__init__" : Str), ("NotRingless.__init__" : Str), defArgs sx_NotRingless, defBody sx_NotRingless, defScope sx_NotRingless, [], []⟩
def dx_NotCorner : He.DefD := ⟨(("NotCorner" : Str), some ("__init__" : Str)), ("__init__" : Str), ("NotCorner.__init__" : Str), defArgs sx_NotCorner, defBody sx_NotCorner, defScope sx_NotCorner, [], []⟩
def dx_BadWeb : He.DefD := ⟨(("BadWeb" : Str), some ("__init__" : Str)), ("__init__" : Str), ("BadWeb.__init__" : Str), defArgs sx_BadWeb, defBody sx_BadWeb, defScope sx_BadWeb, [], []⟩
def dx_BadPost : He.DefD := ⟨(("BadPost" : Str), some ("__init__" : Str)), ("__init__" : Str), ("BadPost.__init__" : Str), defArgs sx_BadPost, defBody sx_BadPost, defScope sx_BadPost, [], []⟩
def dx_NotTies : He.DefD := ⟨(("NotTies" : Str), some ("__init__" : Str)), ("__init__" : Str), ("NotTies.__init__" : Str), defArgs sx_NotTies, defBody sx_NotTies, defScope sx_NotTies, [], []⟩
def dx_NotRound : He.DefD := ⟨(("NotRound" : Str), some ("__init__" : Str)), ("__init__" : Str), ("NotRound.__init__" : Str), defArgs sx_NotRound, defBody sx_NotRound, defScope sx_NotRound, [], []⟩
def dx_NotApart : He.DefD := ⟨(("NotApart" : Str), some ("__init__" : Str)), ("__init__" : Str), ("NotApart.__init__" : Str), defArgs sx_NotApart, defBody sx_NotApart, defScope sx_NotApart, [], []⟩
def dx_NothingLeft : He.DefD := ⟨(("NothingLeft" : Str), some ("__init__" : Str)), ("__init__" : Str), ("NothingLeft.__init__" : Str), defArgs sx_NothingLeft, defBody sx_NothingLeft, defScope sx_NothingLeft, [], []⟩
def dx_NoSmall : He.DefD := ⟨(("NoSmall" : Str), some ("__init__" : Str)), ("__init__" : Str), ("NoSmall.__init__" : Str), defArgs sx_NoSmall, defBody sx_NoSmall, defScope sx_NoSmall, [], []⟩
def dx_NoSum : He.DefD := ⟨(("NoSum" : Str), some ("__init__" : Str)), ("__init__" : Str), ("NoSum.__init__" : Str), defArgs sx_NoSum, defBody sx_NoSum, defScope sx_NoSum, [], []⟩
def dx_NotHidden : He.DefD := ⟨(("NotHidden" : Str), some ("__init__" : Str)), ("__init__" : Str), ("NotHidden.__init__" : Str), defArgs sx_NotHidden, defBody sx_NotHidden, defScope sx_NotHidden, [], []⟩
def dx_BadWish : He.DefD := ⟨(("BadWish" : Str), some ("__init__" : Str)), ("__init__" : Str), ("BadWish.__init__" : Str), defArgs sx_BadWish, defBody sx_BadWish, defScope sx_BadWish, [], []⟩
def dx_BadPool : He.DefD := ⟨(("BadPool" : Str), some ("__init__" : Str)), ("__init__" : Str), ("BadPool.__init__" : Str), defArgs sx_BadPool, defBody sx_BadPool, defScope sx_BadPool, [], []⟩
def dx_BadPicks : He.DefD := ⟨(("BadPicks" : Str), some ("__init__" : Str)), ("__init__" : Str), ("BadPicks.__init__" : Str), defArgs sx_BadPicks, defBody sx_BadPicks, defScope sx_BadPicks, [], []⟩
def dx_BadEdit : He.DefD := ⟨(("BadEdit" : Str), some ("__init__" : Str)), ("__init__" : Str), ("BadEdit.__init__" : Str), defArgs sx_BadEdit, defBody sx_BadEdit, defScope sx_BadEdit, [], []⟩
def dx_NothingDone : He.DefD := ⟨(("NothingDone" : Str), some ("__init__" : Str)), ("__init__" : Str), ("NothingDone.__init__" : Str), defArgs sx_NothingDone, defBody sx_NothingDone, defScope sx_NothingDone, [], []⟩
def fnL : List He.DefD := ([dd__law_hand, dd__law_stir, dd__law_draw, dd__law_thing, dd__law_all, dd__law_flags, dd__law_later_fields_hold, dd__law_fields_hold, dd_law, dx_BadRatio, dx_DividedByNought, dx_BadCode, dx_BadBit, dx_NoCheck, dx_BadLot, dx_BadPrices, dx_BadRow, dx_BadWord, dx_BadOrder, dx_UnlikeBits, dx_TooMany, dx_BadText, dx_NotLet, dx_BadSheets, dx_BadRows, dx_BadWeights, dx_BadCover, dx_BadWire, dx_BadMarks, dx_UnlikeCode] : List He.DefD) ++ ([dx_BadTimes, dx_LowRest, dx_BadCone, dx_NotCone, dx_BadMany, dx_BadReceived, dx_OddCount, dx_NotStop, dx_NotRingless, dx_NotCorner, dx_BadWeb, dx_BadPost, dx_NotTies, dx_NotRound, dx_NotApart, dx_NothingLeft, dx_NoSmall, dx_NoSum, dx_NotHidden, dx_BadWish, dx_BadPool, dx_BadPicks, dx_BadEdit, dx_NothingDone] : List He.DefD)
def faL : List He.Fa := ([.glo ("_law_hand" : Str), .glo ("_law_stir" : Str), .glo ("_law_draw" : Str), .glo ("_law_thing" : Str), .glo ("_law_all" : Str), .glo ("_law_flags" : Str), .glo ("_law_later_fields_hold" : Str), .glo ("_law_fields_hold" : Str), .glo ("law" : Str), .free ("ValueError" : Str), .free ("abs" : Str), .free ("enumerate" : Str), .free ("int" : Str), .free ("isinstance" : Str), .free ("len" : Str), .free ("range" : Str), .free ("repr" : Str), .free ("str" : Str)] : List He.Fa)
def xR : List (Str × List Str) := ([(("BadRatio" : Str), [("what" : Str)]), (("DividedByNought" : Str), []), (("BadCode" : Str), [("what" : Str), ("place" : Str)]), (("BadBit" : Str), [("bit" : Str)]), (("NoCheck" : Str), [("number" : Str)]), (("BadLot" : Str), []), (("BadPrices" : Str), [("place" : Str)]), (("BadRow" : Str), [("place" : Str)]), (("BadWord" : Str), [("number" : Str)]), (("BadOrder" : Str), []), (("UnlikeBits" : Str), []), (("TooMany" : Str), [("most" : Str)]), (("BadText" : Str), [("place" : Str)]), (("NotLet" : Str), [("number" : Str), ("lot" : Str)]), (("BadSheets" : Str), [("sheets" : Str)]), (("BadRows" : Str), [("number" : Str)]), (("BadWeights" : Str), [("place" : Str)]), (("BadCover" : Str), [("what" : Str), ("number" : Str)]), (("BadWire" : Str), []), (("BadMarks" : Str), [("place" : Str)]), (("UnlikeCode" : Str), []), (("BadTimes" : Str), [("times" : Str)]), (("LowRest" : Str), [("bit" : Str)]), (("BadCone" : Str), [("place" : Str)]), (("NotCone" : Str), [("number" : Str), ("bit" : Str)]), (("BadMany" : Str), [("many" : Str)]), (("BadReceived" : Str), [("place" : Str)]), (("OddCount" : Str), [("number" : Str)]), (("NotStop" : Str), [("number" : Str)]), (("NotRingless" : Str), [("ring" : Str)])] : List (Str × List Str)) ++ ([(("NotCorner" : Str), [("row" : Str)]), (("BadWeb" : Str), [("what" : Str), ("place" : Str)]), (("BadPost" : Str), [("post" : Str)]), (("NotTies" : Str), [("bit" : Str)]), (("NotRound" : Str), [("what" : Str)]), (("NotApart" : Str), [("what" : Str)]), (("NothingLeft" : Str), []), (("NoSmall" : Str), [("which" : Str)]), (("NoSum" : Str), []), (("NotHidden" : Str), [("what" : Str)]), (("BadWish" : Str), [("number" : Str)]), (("BadPool" : Str), [("place" : Str)]), (("BadPicks" : Str), []), (("BadEdit" : Str), [("place" : Str)]), (("NothingDone" : Str), [])] : List (Str × List Str))
def exH (K : PySem.W.Frag) : Bool := DL.exB ("CodeError" : Str) xR K
abbrev RR : PySem.W.OpenRow := PySem.W.OpenLaw.row PySem.Challenge.rw_letbychecks_k82_whole_errors_side_by_sid
abbrev hk2 : PySem.W.Hook := DL.hookZ2 4 faL fnL (fun _ => true) [] [] exH
def ob2 (s : PySem.W.SharedT) : DL.AlZ × DL.AlZ := DL.obsZ2 4 faL fnL (fun _ => true) [] [] exH (HandSHeadRun.getT s)
theorem ob2_eq (s : PySem.W.SharedT) : ob2 s = hk2.obs s.abs := DL.obsZ2_eq (HandSHeadRun.getT_eq s)
theorem runA (w : World) : HandSHeadRun.RunEq RR (PySem.W.view RR.prog [56]) (DL.hookZ 4 faL fnL (fun _ => true)) (fun s => DL.obsZ 4 faL fnL (fun _ => true) (HandSHeadRun.getT s)) 20000 looseN w := by
  intro os
  kernel_rfl
theorem runB (w : World) : HandSHeadRun.RunEq RR (PySem.W.view RR.prog [56]) (DL.hookZ 4 [] [] exH) (fun s => DL.obsZ 4 [] [] exH (HandSHeadRun.getT s)) 20000 looseN w := by
  intro os
  kernel_rfl
theorem run (w : World) : HandSHeadRun.RunEq RR (PySem.W.view RR.prog [56]) hk2 ob2 20000 looseN w := DL.run2 (runA w) (runB w)
end K82

set_option Elab.async false
set_option linter.all false
set_option maxRecDepth 100000
set_option maxHeartbeats 2000000
/-! Den0: data D, how a value bears it (Rep), slots S, the state of a body (BRel), denotations' results. -/
namespace DL
open PySem L2

/-- plain data; lists in it are never changed again -/
inductive D where
  | non | bl (b : Bool) | int (i : Int) | str (x : Str) | tup (ds : List D) | lst (ds : List D)
  | obj (c : Str) (ns : List Str) (ds : List D)
  | emp

abbrev Fzn := Addr → Prop
/-- the module's part: K, mg -/
structure MM where
  K : PySem.W.Frag
  mg : Str → Option Value
  /-- the tables of the defs that make lambdas; their lambdas' names -/
  T : List (Addr × Str)
/-- the object stays; a table may grow -/
def KpAt (H : Hp) (a : Addr) : HO → Prop
  | .tbl _ => ∃ ps, H a = some (.tbl ps)
  | o => H a = some o
theorem KpAt.of {H : Hp} {a : Addr} {o : HO} (h : H a = some o) : KpAt H a o := by
  cases o <;> first | exact h | exact ⟨_, h⟩
theorem KpAt.there {H : Hp} {a : Addr} {o : HO} (h : KpAt H a o) : ∃ u, H a = some u := by
  cases o <;> first | exact ⟨_, h⟩ | (obtain ⟨ps, h⟩ := h; exact ⟨_, h⟩)
theorem KpAt.to {H H' : Hp} {a : Addr} {o : HO} (h : KpAt H a o) (k : ∀ u, H a = some u → (u = o ∨ ∃ ps, u = .tbl ps) → KpAt H' a u) : KpAt H' a o := by
  by_cases hp : ∃ ps, o = .tbl ps
  · obtain ⟨ps0, hp⟩ := hp
    subst hp
    obtain ⟨ps, h⟩ := h
    exact k (.tbl ps) h (.inr ⟨ps, rfl⟩)
  · have h' : H a = some o := by
      cases o <;> first | exact h | exact absurd ⟨_, rfl⟩ hp
    exact k o h' (.inl rfl)

/-- a list that is frozen, known, or the module's -/
def LsF (K : PySem.W.Frag) (Fz : Fzn) (H : Hp) (a : Addr) (xs : List V) : Prop :=
  (Fz a ∧ H a = some (.lst xs)) ∨ (∃ o, H a = some (.frz o (.lst xs))) ∨
    ∃ (o : Obj) (its : Array Value) (n : Nat), K.lookup a = some o ∧ o.cls = .type "list" ∧ o.dict = none ∧ o.data = .seq its n ∧ its.size ≤ sizeLine ∧ Vals xs its.toList
theorem LsF.sq {K : PySem.W.Frag} {Fz : Fzn} {H : Hp} {a : Addr} {xs : List V} (h : LsF K Fz H a xs) : SqL K H a xs := by
  rcases h with ⟨_, h⟩ | ⟨o, h⟩ | h
  · exact .inl (.inl h)
  · exact .inl (.inr ⟨o, h⟩)
  · exact .inr h

/-- an exception of the class C that is held as a value: fs its fields -/
def XcAt (Fz : Fzn) (H : Hp) (a C : Addr) (fs : List (Str × V)) : Prop :=
  Fz a ∧ ((fs = [] ∧ H a = some (exo a C none)) ∨ ∃ dx, Fz dx ∧ H a = some (exo a C (some dx)) ∧ H dx = some (exd dx fs))
mutual
def Rep (M : MM) (Fz : Fzn) (H : Hp) : D → V → Prop
  | .non, v => v = .non
  | .bl b, v => v = .bl b
  | .int i, v => v = .int i
  | .str x, v => v = .str x
  | .tup ds, v => ∃ a vs, v = .ref a ∧ SqT M.K H a vs ∧ RepL M Fz H ds vs
  | .lst ds, v => ∃ a vs, v = .ref a ∧ LsF M.K Fz H a vs ∧ RepL M Fz H ds vs
  | .obj c ns ds, v => ∃ a C vs, v = .ref a ∧ M.mg c = some (.ref C) ∧ XcAt Fz H a C (ns.zip vs) ∧ ns.length = vs.length ∧ RepL M Fz H ds vs
  | .emp, v => ∃ a, v = .ref a ∧ Fz a ∧ H a = some (.dK [])
def RepL (M : MM) (Fz : Fzn) (H : Hp) : List D → List V → Prop
  | [], vs => vs = []
  | d :: ds, vs => ∃ v r, vs = v :: r ∧ Rep M Fz H d v ∧ RepL M Fz H ds r
end

structure Ext (Fz : Fzn) (H : Hp) (Fz' : Fzn) (H' : Hp) : Prop where
  fz : ∀ a, Fz a → Fz' a
  st : ∀ a o, H a = some o → (Fz a ∨ ¬ Mut (some o)) → KpAt H' a o
theorem Ext.refl {Fz : Fzn} {H : Hp} : Ext Fz H Fz H := ⟨fun _ h => h, fun _ _ h _ => .of h⟩
theorem Ext.trans {Fz Fz1 Fz2 : Fzn} {H H1 H2 : Hp} (a : Ext Fz H Fz1 H1) (b : Ext Fz1 H1 Fz2 H2) : Ext Fz H Fz2 H2 :=
  ⟨fun x h => b.fz x (a.fz x h), fun x o h q => (a.st x o h q).to fun u hu z => b.st x u hu (by
    rcases z with z | ⟨ps, z⟩
    · subst z; exact q.imp (a.fz x) id
    · subst z; exact .inr fun z => z)⟩

theorem Ext.sqT {K : PySem.W.Frag} {Fz Fz' : Fzn} {H H' : Hp} (e : Ext Fz H Fz' H') {a : Addr} {vs : List V} (h : SqT K H a vs) : SqT K H' a vs := by
  rcases h with (h | ⟨o, h⟩) | h
  · exact .inl (.inl (e.st _ _ h (.inr fun z => z)))
  · exact .inl (.inr ⟨o, e.st _ _ h (.inr fun z => z)⟩)
  · exact .inr h
theorem Ext.lsF {K : PySem.W.Frag} {Fz Fz' : Fzn} {H H' : Hp} (e : Ext Fz H Fz' H') {a : Addr} {vs : List V} (h : LsF K Fz H a vs) : LsF K Fz' H' a vs := by
  rcases h with ⟨f, h⟩ | ⟨o, h⟩ | h
  · exact .inl ⟨e.fz _ f, e.st _ _ h (.inl f)⟩
  · exact .inr (.inl ⟨o, e.st _ _ h (.inr fun z => z)⟩)
  · exact .inr (.inr h)

theorem Ext.xcAt {Fz Fz' : Fzn} {H H' : Hp} (e : Ext Fz H Fz' H') {a C : Addr} {fs : List (Str × V)} (h : XcAt Fz H a C fs) : XcAt Fz' H' a C fs := by
  obtain ⟨f, h⟩ := h
  refine ⟨e.fz a f, ?_⟩
  rcases h with ⟨h0, h⟩ | ⟨dx, fd, h, hd⟩
  · exact .inl ⟨h0, e.st _ _ h (.inl f)⟩
  · exact .inr ⟨dx, e.fz dx fd, e.st _ _ h (.inl f), e.st _ _ hd (.inl fd)⟩
mutual
theorem Rep.mono {M : MM} {Fz Fz' : Fzn} {H H' : Hp} (e : Ext Fz H Fz' H') : ∀ (d : D) (v : V), Rep M Fz H d v → Rep M Fz' H' d v
  | .non, _, h => h
  | .bl _, _, h => h
  | .int _, _, h => h
  | .str _, _, h => h
  | .tup ds, v, h => by
    unfold Rep at h ⊢
    obtain ⟨a, vs, e1, h1, h2⟩ := h
    exact ⟨a, vs, e1, e.sqT h1, RepL.mono e ds vs h2⟩
  | .lst ds, v, h => by
    unfold Rep at h ⊢
    obtain ⟨a, vs, e1, h1, h2⟩ := h
    exact ⟨a, vs, e1, e.lsF h1, RepL.mono e ds vs h2⟩
  | .obj c ns ds, v, h => by
    unfold Rep at h ⊢
    obtain ⟨a, C, vs, e1, hm, h1, hl, h2⟩ := h
    exact ⟨a, C, vs, e1, hm, e.xcAt h1, hl, RepL.mono e ds vs h2⟩
  | .emp, v, h => by
    unfold Rep at h ⊢
    obtain ⟨a, e1, hf, h1⟩ := h
    exact ⟨a, e1, e.fz a hf, e.st _ _ h1 (.inl hf)⟩
theorem RepL.mono {M : MM} {Fz Fz' : Fzn} {H H' : Hp} (e : Ext Fz H Fz' H') : ∀ (ds : List D) (vs : List V), RepL M Fz H ds vs → RepL M Fz' H' ds vs
  | [], vs, h => by unfold RepL at h ⊢; exact h
  | d :: ds, vs, h => by
    unfold RepL at h ⊢
    obtain ⟨v, r, e1, h1, h2⟩ := h
    exact ⟨v, r, e1, Rep.mono e d v h1, RepL.mono e ds r h2⟩
end

section
variable {M : MM} {Fz : Fzn} {H : Hp} {d : D} {ds : List D} {v : V} {vs : List V}
theorem RepL.nil_iff : RepL M Fz H [] vs ↔ vs = [] := by unfold RepL; exact Iff.rfl
theorem RepL.cons_iff : RepL M Fz H (d :: ds) vs ↔ ∃ v r, vs = v :: r ∧ Rep M Fz H d v ∧ RepL M Fz H ds r := by rw [RepL]
theorem RepL.nil : RepL M Fz H [] [] := by unfold RepL; rfl
theorem RepL.cons (h : Rep M Fz H d v) (t : RepL M Fz H ds vs) : RepL M Fz H (d :: ds) (v :: vs) := by unfold RepL; exact ⟨v, vs, rfl, h, t⟩
theorem RepL.length : ∀ {ds : List D} {vs : List V}, RepL M Fz H ds vs → ds.length = vs.length
  | [], vs, h => by unfold RepL at h; rw [h]; rfl
  | d :: ds, vs, h => by
    unfold RepL at h
    obtain ⟨v, r, rfl, _, h2⟩ := h
    simp [RepL.length h2]
theorem RepL.get : ∀ {ds : List D} {vs : List V} {i : Nat} {d : D}, RepL M Fz H ds vs → ds[i]? = some d → ∃ v, vs[i]? = some v ∧ Rep M Fz H d v
  | [], _, _, _, _, e => by simp at e
  | x :: ds, vs, i, d, h, e => by
    unfold RepL at h
    obtain ⟨v, r, rfl, h1, h2⟩ := h
    cases i with
    | zero =>
      have e' : x = d := by simpa using e
      subst e'
      exact ⟨v, rfl, h1⟩
    | succ i => exact RepL.get (i := i) h2 (by simpa using e)
theorem RepL.getV : ∀ {ds : List D} {vs : List V} {i : Nat} {v : V}, RepL M Fz H ds vs → vs[i]? = some v → ∃ d, ds[i]? = some d ∧ Rep M Fz H d v
  | [], vs, _, _, h, e => by unfold RepL at h; subst h; simp at e
  | x :: ds, vs, i, v, h, e => by
    unfold RepL at h
    obtain ⟨v', r, rfl, h1, h2⟩ := h
    cases i with
    | zero =>
      have e' : v' = v := by simpa using e
      subst e'
      exact ⟨x, rfl, h1⟩
    | succ i => exact RepL.getV (i := i) h2 (by simpa using e)
theorem RepL.append : ∀ {ds es : List D} {vs ws : List V}, RepL M Fz H ds vs → RepL M Fz H es ws → RepL M Fz H (ds ++ es) (vs ++ ws)
  | [], _, vs, _, h, q => by unfold RepL at h; subst h; exact q
  | d :: ds, es, vs, ws, h, q => by
    unfold RepL at h
    obtain ⟨v, r, rfl, h1, h2⟩ := h
    exact RepL.cons h1 (RepL.append h2 q)
theorem RepL.take : ∀ {ds : List D} {vs : List V} (n : Nat), RepL M Fz H ds vs → RepL M Fz H (ds.take n) (vs.take n)
  | _, _, 0, _ => by simp [RepL.nil]
  | [], vs, n + 1, h => by unfold RepL at h; subst h; exact RepL.nil
  | d :: ds, vs, n + 1, h => by
    unfold RepL at h
    obtain ⟨v, r, rfl, h1, h2⟩ := h
    exact RepL.cons h1 (RepL.take n h2)
theorem RepL.drop : ∀ {ds : List D} {vs : List V} (n : Nat), RepL M Fz H ds vs → RepL M Fz H (ds.drop n) (vs.drop n)
  | _, _, 0, h => h
  | [], vs, n + 1, h => by unfold RepL at h; subst h; exact RepL.nil
  | d :: ds, vs, n + 1, h => by
    unfold RepL at h
    obtain ⟨v, r, rfl, h1, h2⟩ := h
    exact RepL.drop n h2
theorem RepL.set : ∀ {ds : List D} {vs : List V} (i : Nat), RepL M Fz H ds vs → Rep M Fz H d v → RepL M Fz H (ds.set i d) (vs.set i v)
  | [], vs, i, h, _ => by unfold RepL at h; subst h; exact RepL.nil
  | x :: ds, vs, i, h, q => by
    unfold RepL at h
    obtain ⟨v', r, rfl, h1, h2⟩ := h
    cases i with
    | zero => exact RepL.cons q h2
    | succ i => exact RepL.cons h1 (RepL.set i h2 q)
theorem RepL.eraseIdx : ∀ {ds : List D} {vs : List V} (i : Nat), RepL M Fz H ds vs → RepL M Fz H (ds.eraseIdx i) (vs.eraseIdx i)
  | [], vs, i, h => by unfold RepL at h; subst h; exact RepL.nil
  | x :: ds, vs, i, h => by
    unfold RepL at h
    obtain ⟨v', r, rfl, h1, h2⟩ := h
    cases i with
    | zero => exact h2
    | succ i => exact RepL.cons h1 (RepL.eraseIdx i h2)
theorem RepL.reverse : ∀ {ds : List D} {vs : List V}, RepL M Fz H ds vs → RepL M Fz H ds.reverse vs.reverse
  | [], vs, h => by unfold RepL at h; subst h; exact RepL.nil
  | x :: ds, vs, h => by
    unfold RepL at h
    obtain ⟨v', r, rfl, h1, h2⟩ := h
    rw [List.reverse_cons, List.reverse_cons]
    exact RepL.append (RepL.reverse h2) (RepL.cons h1 RepL.nil)
theorem RepL.rep (h : RepL M Fz H ds vs) : ∀ k : Nat, RepL M Fz H (List.replicate k ds).flatten (List.replicate k vs).flatten
  | 0 => RepL.nil
  | k + 1 => by
    rw [List.replicate_succ, List.replicate_succ, List.flatten_cons, List.flatten_cons]
    exact RepL.append h (RepL.rep h k)
end

/-- borrowed: the value itself need not be frozen -/
def TRep (M : MM) (Fz : Fzn) (H : Hp) (d : D) (v : V) : Prop := match d with
  | .lst ds => ∃ a vs, v = .ref a ∧ SqL M.K H a vs ∧ RepL M Fz H ds vs
  | d => Rep M Fz H d v
theorem Rep.t {M : MM} {Fz : Fzn} {H : Hp} {d : D} {v : V} (h : Rep M Fz H d v) : TRep M Fz H d v := by
  cases d with
  | lst ds =>
    unfold Rep at h
    obtain ⟨a, vs, e, h1, h2⟩ := h
    exact ⟨a, vs, e, h1.sq, h2⟩
  | _ => exact h

/-! ### slots -/
/-- unassigned or forgotten | data | an own list, an own dict (keys ints, texts | tuples of them), an own instance: they may be changed -/
inductive S where
  | un | v (d : D) | ow (ds : List D) | oK (kvs : List (Key × D)) | oT (kvs : List (List Key × D)) | oi (c : Str) (ns : List Str) (ds : List D) | on (dss : List (List D))

def KRep {κ : Type} (M : MM) (Fz : Fzn) (H : Hp) (kvs : List (κ × D)) (ws : List (κ × V)) : Prop :=
  kvs.map Prod.fst = ws.map Prod.fst ∧ RepL M Fz H (kvs.map Prod.snd) (ws.map Prod.snd)
/-- what stands at an own slot's address -/
def OwnAt (M : MM) (Fz : Fzn) (H : Hp) : S → HO → Prop
  | .ow ds, o => ∃ vs, o = .lst vs ∧ RepL M Fz H ds vs
  | .oK kvs, o => ∃ ws, o = .dK ws ∧ KRep M Fz H kvs ws
  | .oT kvs, o => ∃ ws, o = .dT ws ∧ KRep M Fz H kvs ws
  | .oi c ns ds, o => ∃ C dx vs, o = .ins C dx (ns.zip vs) ∧ M.mg c = some (.ref C) ∧ ns.length = vs.length ∧ RepL M Fz H ds vs
  | _, _ => False
def S.isOw : S → Bool
  | .un => false
  | .v _ => false
  | .on _ => false
  | _ => true
def SlotOk (M : MM) (Fz : Fzn) (H : Hp) (s : S) (o : Option (Option V)) : Prop := match s with
  | .un => True
  | .on _ => True
  | .v d => ∃ x, o = some (some x) ∧ Rep M Fz H d x
  | s => ∃ a u, o = some (some (.ref a)) ∧ ¬ Fz a ∧ H a = some u ∧ OwnAt M Fz H s u
def Own (g : List S) (σ : List (Option V)) (i : Nat) (a : Addr) : Prop := (∃ s, g[i]? = some s ∧ s.isOw = true) ∧ σ[i]? = some (some (.ref a))
structure ARel (M : MM) (Fz : Fzn) (H : Hp) (g : List S) (σ : List (Option V)) : Prop where
  len : g.length = σ.length
  ok : ∀ (i : Nat) (s : S), g[i]? = some s → SlotOk M Fz H s (σ[i]?)
  apart : ∀ (i j : Nat) (a : Addr), Own g σ i a → Own g σ j a → i = j

/-- the entry of a body -/
structure B where
  M : MM
  H0 : Hp
  Fz0 : Fzn
  OA : Addr → Prop
  np : Nat
  σ0 : List (Option V)
  /-- a slot that holds a caught exception -/
  px : Option (Nat × Addr) := none
/-- slot i is not the caught exception's -/
def PxOk (b : B) (i : Nat) : Prop := ∀ a, b.px ≠ some (i, a)
theorem PxOk.of {b : B} (h : b.px = none) (i : Nat) : PxOk b i := fun a z => by rw [h] at z; cases z

structure Grow (b : B) (Fz : Fzn) (H : Hp) : Prop where
  dom : ∀ a, Fz a → ∃ o, H a = some o
  fz : ∀ a, b.Fz0 a → Fz a
  new : ∀ a, Fz a → b.Fz0 a ∨ b.H0 a = none
  fr : ∀ a o, b.H0 a = some o → ¬ b.OA a → KpAt H a o
  oa : ∀ a, b.OA a → (∃ o, H a = some o) ∧ ¬ b.Fz0 a ∧ ∃ o, b.H0 a = some o
  tb : LamX.Tabs b.M.T H
/-- slot i's nested own lists: the outer one, the inner ones -/
def NOwn (g : List S) (σ : List (Option V)) (H : Hp) (i : Nat) (x : Addr) : Prop := ∃ (dss : List (List D)) (a : Addr) (vs : List V), g[i]? = some (S.on dss) ∧ σ[i]? = some (some (V.ref a)) ∧ H a = some (HO.lst vs) ∧ (x = a ∨ V.ref x ∈ vs)
/-- slot i has x in some way -/
def AOwn (g : List S) (σ : List (Option V)) (H : Hp) (i : Nat) (x : Addr) : Prop := Own g σ i x ∨ NOwn g σ H i x
structure Nst (b : B) (Fz : Fzn) (g : List S) (σ : List (Option V)) (H : Hp) : Prop where
  at_ : ∀ (i : Nat) (dss : List (List D)), g[i]? = some (S.on dss) → ∃ (a : Addr) (ps : List Addr), σ[i]? = some (some (V.ref a)) ∧ H a = some (HO.lst (ps.map V.ref)) ∧ (a :: ps).Nodup ∧ ps.length = dss.length ∧
    ∀ (k : Nat) (p : Addr) (ds : List D), ps[k]? = some p → dss[k]? = some ds → ∃ vs : List V, H p = some (HO.lst vs) ∧ RepL b.M Fz H ds vs
  free : ∀ (i : Nat) (x : Addr), NOwn g σ H i x → ¬ Fz x ∧ b.H0 x = none ∧ ∀ j : Nat, ¬ Own g σ j x
  one : ∀ (i j : Nat) (x : Addr), NOwn g σ H i x → NOwn g σ H j x → i = j
structure BRel (b : B) (Fz : Fzn) (g : List S) (σ : List (Option V)) (H : Hp) : Prop where
  gr : Grow b Fz H
  rel : ARel b.M Fz H g σ
  own : ∀ i a, Own g σ i a → (i < b.np ∧ b.OA a) ∨ (b.np ≤ i ∧ b.H0 a = none)
  pin : ∀ i a, i < b.np → Own g σ i a → b.σ0[i]? = some (some (.ref a))
  px : ∀ i a, b.px = some (i, a) → σ[i]? = some (some (.ref a))
  nst : Nst b Fz g σ H

/-- an exception: its class, its fields -/
structure Exn where
  cls : Str
  ns : List Str
  ds : List D
/-- how it lies: its class, its own dict -/
def ExOk (M : MM) (Fz : Fzn) (H : Hp) (e : Exn) (cl : Value) (dx : Option Addr) : Prop :=
  ∃ C, cl = .ref C ∧ M.mg e.cls = some (.ref C) ∧ ((e.ns = [] ∧ e.ds = [] ∧ dx = none) ∨ ∃ d vs, dx = some d ∧ H d = some (.xd (e.ns.zip vs)) ∧ e.ns.length = vs.length ∧ RepL M Fz H e.ds vs)

abbrev Sg := List S
/-- an argument: data, or an own slot as it stands -/
inductive AV where
  | d (d : D) | o (i : Nat)
/-- a piece's result -/
inductive R (α : Type) where
  | ok (a : α) (g : Sg) | ex (e : Exn) (g : Sg) | no
/-- a statement's result; rf: a new list is returned -/
inductive RS where
  | nx (g : Sg) | rt (d : D) (g : Sg) | rf (ds : List D) (g : Sg) | bk (g : Sg) | ct (g : Sg) | ex (e : Exn) (g : Sg) | no
/-- a call's result -/
inductive RC where
  | ok (d : D) (as : Sg) | okf (ds : List D) (as : Sg) | ex (e : Exn) (as : Sg) | no

abbrev FE := Sg → R D
abbrev FF := Sg → R (List D)
abbrev FA := Sg → R (List D)
abbrev FB := Sg → R Bool
abbrev FV := Sg → R (List AV)
abbrev FS := Sg → RS
abbrev Dn := Sg → RC

def R.bd {α β : Type} (r : R α) (k : α → Sg → R β) : R β := match r with
  | .ok d g => k d g
  | .ex e g => .ex e g
  | .no => .no
@[simp] theorem R.bd_ok {α β : Type} {d : α} {g : Sg} {k : α → Sg → R β} : (R.ok d g).bd k = k d g := rfl
@[simp] theorem R.bd_ex {α β : Type} {e : Exn} {g : Sg} {k : α → Sg → R β} : (R.ex e g : R α).bd k = .ex e g := rfl
@[simp] theorem R.bd_no {α β : Type} {k : α → Sg → R β} : (R.no : R α).bd k = .no := rfl

section
variable (b : B) (W : WX)
/-- what is asked of an exception -/
def ExK (σ : L2.St) (Fz : Fzn) (H : Hp) (e : Exn) (g : Sg) : Prop := ∀ cl dx H' Fz', BRel b Fz' g σ H' → Ext Fz H Fz' H' → ExOk b.M Fz' H' e cl dx → W cl dx σ H'
/-- how a result is borne -/
abbrev Bear (α ξ : Type) := L2.St → Fzn → Hp → Sg → α → ξ → Prop
def bE : Bear D V := fun _ Fz H _ d x => Rep b.M Fz H d x
def bF : Bear (List D) V := fun σ Fz H g ds x => ∃ p vs, x = .ref p ∧ b.H0 p = none ∧ ¬ Fz p ∧ H p = some (.lst vs) ∧ (∀ i, ¬ AOwn g σ H i p) ∧ RepL b.M Fz H ds vs
def bA : Bear (List D) (List V) := fun _ Fz H _ ds xs => RepL b.M Fz H ds xs
def bB : Bear Bool Bool := fun _ _ _ _ c x => x = c
def AVOk (σ : L2.St) (Fz : Fzn) (H : Hp) (g : Sg) : AV → V → Prop
  | .d d, x => Rep b.M Fz H d x
  | .o i, x => ∃ a, x = .ref a ∧ Own g σ i a
def AVsOk (σ : L2.St) (Fz : Fzn) (H : Hp) (g : Sg) : List AV → List V → Prop
  | [], xs => xs = []
  | a :: as, xs => ∃ x r, xs = x :: r ∧ AVOk b σ Fz H g a x ∧ AVsOk σ Fz H g as r
def bV : Bear (List AV) (List V) := fun σ Fz H g as xs => AVsOk b σ Fz H g as xs
def b1 : Bear AV V := fun σ Fz H g as xs => AVOk b σ Fz H g as xs
/-- a piece's post, from one state on -/
def Po {α ξ : Type} (P : Bear α ξ) (σ : L2.St) (Fz : Fzn) (H : Hp) (K : ξ → Sg → Fzn → Hp → α → Prop) (r : R α) : Prop := match r with
  | .ok a g' => ∀ x H' Fz', BRel b Fz' g' σ H' → Ext Fz H Fz' H' → P σ Fz' H' g' a x → K x g' Fz' H' a
  | .ex e g' => ExK b W σ Fz H e g'
  | .no => False
def tG {α ξ : Type} (P : Bear α ξ) (f : Sg → R α) : L2.St → Hp → (ξ → Hp → Prop) → Prop := fun σ H Q => ∃ Fz g, BRel b Fz g σ H ∧ Po b W P σ Fz H (fun x _ _ H' _ => Q x H') (f g)
abbrev tE (f : FE) : TE := tG b W (bE b) f
abbrev tFr (f : FF) : TE := tG b W (bF b) f
abbrev tAr (f : FA) : TA := tG b W (bA b) f
abbrev tAv (f : FV) : TA := tG b W (bV b) f
abbrev tA1 (f : Sg → R AV) : TE := tG b W (b1 b) f
abbrev tBo (f : FB) : TT := tG b W bB f
/-- onward: what is held stands, the slots but those of as are as they were -/
structure Go (as : List Nat) (σ : L2.St) (Fz : Fzn) (H : Hp) (σ' : L2.St) (Fz' : Fzn) (H' : Hp) : Prop where
  ex : Ext Fz H Fz' H'
  sl : ∀ i, i ∉ as → σ'[i]? = σ[i]?
/-- a statement's post -/
def PoS (as : List Nat) (σ : L2.St) (Fz : Fzn) (H : Hp) (D : Ends) (r : RS) : Prop := match r with
  | .nx g' => ∀ σ' H' Fz', BRel b Fz' g' σ' H' → Go as σ Fz H σ' Fz' H' → D.nx σ' H'
  | .rt d g' => ∀ x σ' H' Fz', BRel b Fz' g' σ' H' → Rep b.M Fz' H' d x → D.rt x H'
  | .rf ds g' => ∀ x σ' H' Fz', BRel b Fz' g' σ' H' → bF b σ' Fz' H' g' ds x → D.rt x H'
  | .bk g' => ∀ σ' H' Fz', BRel b Fz' g' σ' H' → Go as σ Fz H σ' Fz' H' → D.bk σ' H'
  | .ct g' => ∀ σ' H' Fz', BRel b Fz' g' σ' H' → Go as σ Fz H σ' Fz' H' → D.ct σ' H'
  | .ex e g' => ∀ σ' cl dx H' Fz', BRel b Fz' g' σ' H' → Go as σ Fz H σ' Fz' H' → ExOk b.M Fz' H' e cl dx → W cl dx σ' H'
  | .no => False
/-- as: the slots that it may store -/
def tSt (as : List Nat) (f : FS) : TS := fun D σ H => ∃ Fz g, BRel b Fz g σ H ∧ PoS b W as σ Fz H D (f g)
end
end DL

set_option Elab.async false
set_option linter.all false
set_option maxRecDepth 100000
set_option maxHeartbeats 2000000
/-! Den1: how the state is carried; plain expressions. -/
namespace DL
open PySem L2 PySem.Spec PyProof.Rows

/-! ### growth of the heap -/
structure GrowTo (Fz : Fzn) (H : Hp) (Fz' : Fzn) (H' : Hp) : Prop where
  st : ∀ a o, H a = some o → H' a = some o
  fz : ∀ a, Fz a → Fz' a
  new : ∀ a, Fz' a → Fz a ∨ (H a = none ∧ ∃ o, H' a = some o)
theorem GrowTo.refl {Fz : Fzn} {H : Hp} : GrowTo Fz H Fz H := ⟨fun _ _ h => h, fun _ h => h, fun _ h => .inl h⟩
theorem GrowTo.ext {Fz Fz' : Fzn} {H H' : Hp} (e : GrowTo Fz H Fz' H') : Ext Fz H Fz' H' := ⟨e.fz, fun a o h _ => .of (e.st a o h)⟩
theorem GrowTo.trans {Fz Fz1 Fz2 : Fzn} {H H1 H2 : Hp} (a : GrowTo Fz H Fz1 H1) (b : GrowTo Fz1 H1 Fz2 H2) : GrowTo Fz H Fz2 H2 :=
  ⟨fun x o h => b.st x o (a.st x o h), fun x h => b.fz x (a.fz x h), fun x h => by
    rcases b.new x h with q | ⟨q, o, r⟩
    · rcases a.new x q with z | ⟨z, o, r⟩
      · exact .inl z
      · exact .inr ⟨z, o, b.st x o r⟩
    · refine .inr ⟨?_, o, r⟩
      cases e : H x with
      | none => rfl
      | some u => rw [a.st x u e] at q; cases q⟩
theorem upd_old {H : Hp} {p : Addr} {o : HO} (hp : H p = none) : ∀ a u, H a = some u → upd H p o a = some u := fun a u e => by
  rw [upd_ne (ne_of_none e hp)]; exact e
/-- tables may grow -/
structure GrowT (Fz : Fzn) (H : Hp) (Fz' : Fzn) (H' : Hp) : Prop where
  st : ∀ a o, H a = some o → KpAt H' a o
  fz : ∀ a, Fz a → Fz' a
  new : ∀ a, Fz' a → Fz a ∨ (H a = none ∧ ∃ o, H' a = some o)
theorem GrowTo.toT {Fz Fz' : Fzn} {H H' : Hp} (e : GrowTo Fz H Fz' H') : GrowT Fz H Fz' H' := ⟨fun a o h => .of (e.st a o h), e.fz, e.new⟩
theorem GrowT.ext {Fz Fz' : Fzn} {H H' : Hp} (e : GrowT Fz H Fz' H') : Ext Fz H Fz' H' := ⟨e.fz, fun a o h _ => e.st a o h⟩
/-- a new object, not frozen -/
theorem GrowTo.alloc {Fz : Fzn} {H : Hp} {p : Addr} {o : HO} (hp : H p = none) : GrowTo Fz H Fz (upd H p o) := ⟨upd_old hp, fun _ h => h, fun _ h => .inl h⟩
/-- a new object, frozen -/
def fzAdd (Fz : Fzn) (p : Addr) : Fzn := fun a => Fz a ∨ a = p
theorem GrowTo.allocF {Fz : Fzn} {H : Hp} {p : Addr} {o : HO} (hp : H p = none) : GrowTo Fz H (fzAdd Fz p) (upd H p o) :=
  ⟨upd_old hp, fun _ h => .inl h, fun a h => by
    rcases h with h | h
    · exact .inl h
    · subst h; exact .inr ⟨hp, o, upd_same⟩⟩

theorem Rep.grow {M : MM} {Fz Fz' : Fzn} {H H' : Hp} (e : GrowTo Fz H Fz' H') {d : D} {v : V} (h : Rep M Fz H d v) : Rep M Fz' H' d v := Rep.mono e.ext d v h
theorem RepL.grow {M : MM} {Fz Fz' : Fzn} {H H' : Hp} (e : GrowTo Fz H Fz' H') {d : List D} {v : List V} (h : RepL M Fz H d v) : RepL M Fz' H' d v := RepL.mono e.ext d v h
theorem KRep.mono {κ : Type} {M : MM} {Fz Fz' : Fzn} {H H' : Hp} (e : Ext Fz H Fz' H') {kvs : List (κ × D)} {ws : List (κ × V)} (h : KRep M Fz H kvs ws) : KRep M Fz' H' kvs ws := ⟨h.1, RepL.mono e _ _ h.2⟩
theorem OwnAt.mono {M : MM} {Fz Fz' : Fzn} {H H' : Hp} (e : Ext Fz H Fz' H') {s : S} {u : HO} (h : OwnAt M Fz H s u) : OwnAt M Fz' H' s u := by
  cases s with
  | ow ds => obtain ⟨vs, e1, r⟩ := h; exact ⟨vs, e1, RepL.mono e _ _ r⟩
  | oK kvs => obtain ⟨vs, e1, r⟩ := h; exact ⟨vs, e1, r.mono e⟩
  | oT kvs => obtain ⟨vs, e1, r⟩ := h; exact ⟨vs, e1, r.mono e⟩
  | oi c ns ds => obtain ⟨C, dx, vs, e1, m, l, r⟩ := h; exact ⟨C, dx, vs, e1, m, l, RepL.mono e _ _ r⟩
  | un => exact h
  | on dss => exact h
  | v d => exact h
theorem OwnAt.mut {M : MM} {Fz : Fzn} {H : Hp} {s : S} {u : HO} (h : OwnAt M Fz H s u) : Mut (some u) := by
  cases s with
  | ow ds => obtain ⟨vs, e1, r⟩ := h; subst e1; trivial
  | oK kvs => obtain ⟨vs, e1, r⟩ := h; subst e1; trivial
  | oT kvs => obtain ⟨vs, e1, r⟩ := h; subst e1; trivial
  | oi c ns ds => obtain ⟨C, dx, vs, e1, _⟩ := h; subst e1; trivial
  | un => exact h.elim
  | on dss => exact h.elim
  | v d => exact h.elim
/-- tables and code objects stay -/
theorem tabs_keep {T : List (Addr × Str)} {H H' : Hp} (t : LamX.Tabs T H) (k : ∀ b o, H b = some o → ((∃ ps, o = .tbl ps) ∨ ∃ x, o = .ext x) → H' b = some o) : LamX.Tabs T H' := fun p hp => by
  obtain ⟨ps, h1, h2, h3⟩ := t p hp
  refine ⟨ps, k _ _ h1 (.inl ⟨ps, rfl⟩), h2, fun pos cv hc => ?_⟩
  obtain ⟨c, e1, e2⟩ := h3 pos cv hc
  exact ⟨c, e1, k _ _ e2 (.inr (by unfold LamX.CodeO; exact ⟨_, rfl⟩))⟩
theorem tabs_upd {T : List (Addr × Str)} {H : Hp} {a : Addr} {u u' : HO} (t : LamX.Tabs T H) (hu : H a = some u) (n : ¬ ((∃ ps, u = .tbl ps) ∨ ∃ x, u = .ext x)) : LamX.Tabs T (upd H a u') := tabs_keep t fun b o e q => by
  rw [upd_ne]
  · exact e
  · intro z
    subst z
    rw [hu] at e
    cases e
    exact n q
theorem OwnAt.nx {M : MM} {Fz : Fzn} {H : Hp} {s : S} {u : HO} (h : OwnAt M Fz H s u) : ¬ ((∃ ps, u = .tbl ps) ∨ ∃ x, u = .ext x) := by
  cases s with
  | ow ds => obtain ⟨vs, e1, r⟩ := h; subst e1; rintro (⟨_, z⟩ | ⟨_, z⟩) <;> cases z
  | oK kvs => obtain ⟨vs, e1, r⟩ := h; subst e1; rintro (⟨_, z⟩ | ⟨_, z⟩) <;> cases z
  | oT kvs => obtain ⟨vs, e1, r⟩ := h; subst e1; rintro (⟨_, z⟩ | ⟨_, z⟩) <;> cases z
  | oi c ns ds => obtain ⟨C, dx, vs, e1, _⟩ := h; subst e1; rintro (⟨_, z⟩ | ⟨_, z⟩) <;> cases z
  | un => exact h.elim
  | on dss => exact h.elim
  | v d => exact h.elim
theorem OwnAt.kp {M : MM} {Fz : Fzn} {H H' : Hp} {s : S} {u : HO} {a : Addr} (h : OwnAt M Fz H s u) (k : KpAt H' a u) : H' a = some u := by
  cases s with
  | ow ds => obtain ⟨vs, e1, r⟩ := h; subst e1; exact k
  | oK kvs => obtain ⟨vs, e1, r⟩ := h; subst e1; exact k
  | oT kvs => obtain ⟨vs, e1, r⟩ := h; subst e1; exact k
  | oi c ns ds => obtain ⟨C, dx, vs, e1, _⟩ := h; subst e1; exact k
  | un => exact h.elim
  | on dss => exact h.elim
  | v d => exact h.elim
theorem OwnAt.isOw {M : MM} {Fz : Fzn} {H : Hp} {s : S} {u : HO} (h : OwnAt M Fz H s u) : s.isOw = true := by
  cases s <;> first | rfl | exact h.elim
theorem SlotOk.own {M : MM} {Fz : Fzn} {H : Hp} {s : S} {o : Option (Option V)} (h : SlotOk M Fz H s o) (i : s.isOw = true) : ∃ a u, o = some (some (.ref a)) ∧ ¬ Fz a ∧ H a = some u ∧ OwnAt M Fz H s u := by
  cases s with
  | un => cases i
  | on dss => cases i
  | v d => cases i
  | _ => exact h
theorem SlotOk.of_own {M : MM} {Fz : Fzn} {H : Hp} {s : S} {o : Option (Option V)} {a : Addr} {u : HO} (e : o = some (some (.ref a))) (n : ¬ Fz a) (h : H a = some u) (w : OwnAt M Fz H s u) : SlotOk M Fz H s o := by
  cases s with
  | un => exact w.elim
  | on dss => exact w.elim
  | v d => exact w.elim
  | _ => exact ⟨a, u, e, n, h, w⟩

section
variable {b b' : B} {W : WX} {Fz Fz' : Fzn} {g g' : Sg} {σ σ' : L2.St} {H H' : Hp}
theorem Nst.nown (n : Nst b Fz g σ H) {i : Nat} {dss : List (List D)} {a : Addr} (hg : g[i]? = some (S.on dss)) (hs : σ[i]? = some (some (V.ref a))) : NOwn g σ H i a := by
  obtain ⟨a2, ps, e, h, _⟩ := n.at_ i dss hg
  rw [hs] at e
  injection e with e
  injection e with e
  injection e with e
  subst e
  exact ⟨dss, a, _, hg, hs, h, .inl rfl⟩
theorem Nst.step (n : Nst b Fz g σ H) (hM : b'.M = b.M) (ex : Ext Fz H Fz' H')
    (hg : ∀ (i : Nat) (dss : List (List D)), g'[i]? = some (S.on dss) → g[i]? = some (S.on dss) ∧ σ'[i]? = σ[i]?)
    (hh : ∀ (i : Nat) (x : Addr), NOwn g σ H i x → H' x = H x)
    (hf : ∀ (i : Nat) (x : Addr), NOwn g σ H i x → ¬ Fz' x ∧ b'.H0 x = none ∧ ∀ j : Nat, ¬ Own g' σ' j x) : Nst b' Fz' g' σ' H' := by
  have back : ∀ (i : Nat) (x : Addr), NOwn g' σ' H' i x → NOwn g σ H i x := fun i x ⟨dss, a, vs, h1, h2, h3, h4⟩ => by
    obtain ⟨k1, k2⟩ := hg i dss h1
    rw [k2] at h2
    rw [hh i a (n.nown k1 h2)] at h3
    exact ⟨dss, a, vs, k1, h2, h3, h4⟩
  refine ⟨fun i dss h => ?_, fun i x h => hf i x (back i x h), fun i j x p q => n.one i j x (back i x p) (back j x q)⟩
  obtain ⟨k1, k2⟩ := hg i dss h
  obtain ⟨a, ps, e1, e2, e3, e4, e5⟩ := n.at_ i dss k1
  refine ⟨a, ps, by rw [k2]; exact e1, by rw [hh i a (n.nown k1 e1)]; exact e2, e3, e4, fun k p ds h1 h2 => ?_⟩
  obtain ⟨vs, h3, h4⟩ := e5 k p ds h1 h2
  refine ⟨vs, ?_, ?_⟩
  · rw [hh i p ⟨dss, a, _, k1, e1, e2, .inr (List.mem_map.mpr ⟨p, List.mem_of_getElem? h1, rfl⟩)⟩]; exact h3
  · rw [hM]; exact RepL.mono ex _ _ h4
theorem NOwn.there (n : Nst b Fz g σ H) {i : Nat} {x : Addr} (h : NOwn g σ H i x) : ∃ vs : List V, H x = some (HO.lst vs) := by
  obtain ⟨dss, a, vs, h1, h2, h3, h4⟩ := h
  rcases h4 with h4 | h4
  · subst h4; exact ⟨vs, h3⟩
  · obtain ⟨a2, ps, e1, e2, e3, e4, e5⟩ := n.at_ i dss h1
    rw [h2] at e1
    injection e1 with e1
    injection e1 with e1
    injection e1 with e1
    subst e1
    rw [h3] at e2
    injection e2 with e2
    injection e2 with e2
    subst e2
    obtain ⟨p, hp, ep⟩ := List.mem_map.mp h4
    injection ep with ep
    subst ep
    obtain ⟨k, hk⟩ := List.getElem?_of_mem hp
    have hl : k < dss.length := by rw [← e4]; exact (List.getElem?_eq_some_iff.mp hk).1
    obtain ⟨vs', h3', _⟩ := e5 k p dss[k] hk (List.getElem?_eq_getElem hl)
    exact ⟨vs', h3'⟩
/-- the heap changed at one place that no nested slot has -/
theorem Nst.upd (n : Nst b Fz g σ H) {a : Addr} {u : HO} (ha : ∀ i, ¬ NOwn g σ H i a) : ∀ (i : Nat) (x : Addr), NOwn g σ H i x → L2.upd H a u x = H x := fun i x h => upd_ne fun z => ha i (by rw [← z]; exact h)
theorem SlotOk.growT {M : MM} (e : GrowT Fz H Fz' H') {s : S} {o : Option (Option V)} (h : SlotOk M Fz H s o) : SlotOk M Fz' H' s o := by
  cases s with
  | un => trivial
  | on dss => trivial
  | v d => obtain ⟨x, e1, r⟩ := h; exact ⟨x, e1, Rep.mono e.ext d x r⟩
  | _ =>
    obtain ⟨a, u, e1, n, h1, w⟩ := h
    refine ⟨a, u, e1, fun q => ?_, w.kp (e.st a u h1), w.mono e.ext⟩
    rcases e.new a q with z | ⟨z, _⟩
    · exact n z
    · rw [h1] at z; cases z
theorem Grow.growT (r : Grow b Fz H) (e : GrowT Fz H Fz' H') (ht : LamX.Tabs b.M.T H') : Grow b Fz' H' where
  tb := ht
  dom := fun a h => by
    rcases e.new a h with z | ⟨_, z⟩
    · obtain ⟨o, q⟩ := r.dom a z
      exact (e.st a o q).there
    · exact z
  fz := fun a h => e.fz a (r.fz a h)
  new := fun a h => by
    rcases e.new a h with z | ⟨z, _⟩
    · exact r.new a z
    · refine .inr ?_
      cases q : b.H0 a with
      | none => rfl
      | some o =>
        by_cases hoa : b.OA a
        · obtain ⟨⟨o', h'⟩, _⟩ := r.oa a hoa
          rw [z] at h'; cases h'
        · obtain ⟨u, y⟩ := (r.fr a o q hoa).there; rw [y] at z; cases z
  fr := fun a o h n => (r.fr a o h n).to fun u hu _ => e.st a u hu
  oa := fun a h => let ⟨⟨o, q⟩, z⟩ := r.oa a h; ⟨(e.st a o q).there, z⟩
theorem BRel.growT (r : BRel b Fz g σ H) (e : GrowT Fz H Fz' H') (ht : LamX.Tabs b.M.T H') : BRel b Fz' g σ H' :=
  ⟨r.gr.growT e ht, ⟨r.rel.len, fun i s h => (r.rel.ok i s h).growT e, r.rel.apart⟩, r.own, r.pin, r.px, r.nst.step rfl e.ext (fun i dss h => ⟨h, rfl⟩) (fun i x h => by
    obtain ⟨vs, hv⟩ := NOwn.there r.nst h
    rw [hv]; exact e.st _ _ hv) fun i x h => by
    obtain ⟨vs, hv⟩ := NOwn.there r.nst h
    obtain ⟨k1, k2, k3⟩ := r.nst.free i x h
    refine ⟨fun z => ?_, k2, k3⟩
    rcases e.new x z with y | ⟨y, _⟩
    · exact k1 y
    · rw [hv] at y; cases y⟩
theorem BRel.grow (r : BRel b Fz g σ H) (e : GrowTo Fz H Fz' H') : BRel b Fz' g σ H' := r.growT e.toT (LamX.Tabs.ext r.gr.tb e.st)
theorem SlotOk.grow {M : MM} (e : GrowTo Fz H Fz' H') {s : S} {o : Option (Option V)} (h : SlotOk M Fz H s o) : SlotOk M Fz' H' s o := h.growT e.toT
theorem BRel.alloc (r : BRel b Fz g σ H) {p : Addr} {o : HO} (hp : H p = none) : BRel b Fz g σ (upd H p o) := r.grow (.alloc hp)
theorem BRel.allocF (r : BRel b Fz g σ H) {p : Addr} {o : HO} (hp : H p = none) : BRel b (fzAdd Fz p) g σ (upd H p o) := r.grow (.allocF hp)
/-- what is new of the heap is new of the entry -/
theorem BRel.new0 (r : BRel b Fz g σ H) {p : Addr} (hp : H p = none) : b.H0 p = none := by
  cases q : b.H0 p with
  | none => rfl
  | some o =>
    by_cases hoa : b.OA p
    · obtain ⟨⟨o', h'⟩, _⟩ := r.gr.oa p hoa
      rw [hp] at h'; cases h'
    · obtain ⟨u, y⟩ := (r.gr.fr p o q hoa).there; rw [y] at hp; cases hp
theorem BRel.notFz (r : BRel b Fz g σ H) {p : Addr} (hp : H p = none) : ¬ Fz p := fun h => by
  obtain ⟨o, q⟩ := r.gr.dom p h
  rw [hp] at q; cases q
theorem BRel.slot (r : BRel b Fz g σ H) {i : Nat} {s : S} (h : g[i]? = some s) : SlotOk b.M Fz H s σ[i]? := r.rel.ok i s h
theorem BRel.there (r : BRel b Fz g σ H) {i : Nat} {a : Addr} (h : Own g σ i a) : ∃ s u, g[i]? = some s ∧ ¬ Fz a ∧ H a = some u ∧ OwnAt b.M Fz H s u := by
  obtain ⟨⟨s, e, w⟩, q⟩ := h
  obtain ⟨a', u, e1, n, h1, w1⟩ := (r.slot e).own w
  rw [q] at e1
  have e2 : a = a' := by injection e1 with e1; injection e1 with e1; injection e1
  subst e2
  exact ⟨s, u, e, n, h1, w1⟩
theorem BRel.notOwn (r : BRel b Fz g σ H) {p : Addr} (hp : H p = none) : ∀ i, ¬ Own g σ i p := fun i h => by
  obtain ⟨s, u, _, _, q, _⟩ := r.there h
  rw [hp] at q; cases q

theorem BRel.notN (r : BRel b Fz g σ H) {p : Addr} (hp : H p = none) : ∀ i, ¬ NOwn g σ H i p := fun i h => by
  obtain ⟨vs, q⟩ := NOwn.there r.nst h
  rw [hp] at q; cases q
theorem BRel.notA (r : BRel b Fz g σ H) {p : Addr} (hp : H p = none) : ∀ i, ¬ AOwn g σ H i p := fun i h => h.elim (r.notOwn hp i) (r.notN hp i)
/-- a new object is no slot's, whatever becomes of it -/
theorem BRel.notAu (r : BRel b Fz g σ H) {p : Addr} {u : HO} (hp : H p = none) : ∀ i, ¬ AOwn g σ (upd H p u) i p := fun i h => h.elim (r.notOwn hp i) fun ⟨dss, a, vs, h1, h2, h3, h4⟩ => by
  obtain ⟨a2, ps, e1, e2, e3, e4, e5⟩ := r.nst.at_ i dss h1
  rw [h2] at e1
  injection e1 with e1
  injection e1 with e1
  injection e1 with e1
  subst e1
  have ne : a ≠ p := fun z => by subst z; rw [hp] at e2; cases e2
  rw [upd_ne ne] at h3
  exact r.notN hp i ⟨dss, a, vs, h1, h2, h3, h4⟩
theorem gset_get {i j : Nat} {s t : S} (h : (g.set i s)[j]? = some t) : (j = i ∧ t = s) ∨ (j ≠ i ∧ g[j]? = some t) := by
  by_cases e : i = j
  · subst e
    by_cases hl : i < g.length
    · rw [List.getElem?_set_self hl] at h
      exact .inl ⟨rfl, (Option.some.inj h).symm⟩
    · rw [List.getElem?_eq_none (by rw [List.length_set]; omega)] at h
      cases h
  · rw [List.getElem?_set_ne e] at h
    exact .inr ⟨fun q => e q.symm, h⟩
theorem own_set {i j : Nat} {s : S} {a : Addr} (hi : ∃ s0, g[i]? = some s0 ∧ s0.isOw = true) (h : Own (g.set i s) σ j a) : Own g σ j a := by
  obtain ⟨⟨t, e, w⟩, q⟩ := h
  rcases gset_get e with ⟨e1, e2⟩ | ⟨_, e2⟩
  · subst e1
    exact ⟨hi, q⟩
  · exact ⟨⟨t, e2, w⟩, q⟩
/-- the own object of slot i is changed -/
theorem BRel.mut (r : BRel b Fz g σ H) {i : Nat} {a : Addr} {s' : S} {u' : HO} (h : Own g σ i a) (w : OwnAt b.M Fz H s' u') : BRel b Fz (g.set i s') σ (upd H a u') := by
  obtain ⟨s, u, e0, nf, hu, w0⟩ := r.there h
  have ne : ∀ x o, H x = some o → (Fz x ∨ ¬ Mut (some o)) → upd H a u' x = some o := fun x o hx q => by
    rw [upd_ne]
    · exact hx
    · intro z
      subst z
      rcases q with q | q
      · exact nf q
      · rw [hu] at hx; cases hx; exact q w0.mut
  have ex : Ext Fz H Fz (upd H a u') := ⟨fun _ q => q, fun x o hx q => .of (ne x o hx q)⟩
  have hi : ∃ s0, g[i]? = some s0 ∧ s0.isOw = true := h.1
  refine ⟨⟨fun x q => ?_, r.gr.fz, r.gr.new, fun x o q n => ?_, fun x q => ?_, tabs_upd r.gr.tb hu w0.nx⟩, ⟨by rw [List.length_set]; exact r.rel.len, fun j t q => ?_, fun j k x p q => r.rel.apart j k x (own_set hi p) (own_set hi q)⟩, fun j x q => r.own j x (own_set hi q), fun j x l q => r.pin j x l (own_set hi q), r.px,
    r.nst.step rfl ex (fun j dss q => (gset_get q).elim (fun ⟨_, e2⟩ => by subst e2; exact w.elim) fun ⟨_, e2⟩ => ⟨e2, rfl⟩) (r.nst.upd fun j q => (r.nst.free j a q).2.2 i h) fun j x q => let ⟨k1, k2, k3⟩ := r.nst.free j x q; ⟨k1, k2, fun l o => k3 l (own_set hi o)⟩⟩
  · obtain ⟨o, z⟩ := r.gr.dom x q
    exact ⟨o, ne x o z (.inl q)⟩
  · have hxa : x ≠ a := by
      intro z
      subst z
      rcases r.own i x h with ⟨_, y⟩ | ⟨_, y⟩
      · exact n y
      · rw [q] at y; cases y
    exact (r.gr.fr x o q n).to fun u hu _ => .of (by rw [upd_ne hxa]; exact hu)
  · obtain ⟨⟨o, z⟩, y⟩ := r.gr.oa x q
    refine ⟨?_, y⟩
    by_cases hx : x = a
    · subst hx; exact ⟨u', upd_same⟩
    · exact ⟨o, by rw [upd_ne hx]; exact z⟩
  · rcases gset_get q with ⟨e1, e2⟩ | ⟨hj, e2⟩
    · subst e1; subst e2
      exact SlotOk.of_own h.2 nf upd_same (w.mono ex)
    · have z := r.slot e2
      by_cases ht : t.isOw = true
      · obtain ⟨x, o, e3, n3, h3, w3⟩ := z.own ht
        have hx : x ≠ a := fun y => by
          subst y
          exact hj (r.rel.apart j i x ⟨⟨t, e2, ht⟩, e3⟩ h)
        exact SlotOk.of_own e3 n3 (by rw [upd_ne hx]; exact h3) (w3.mono ex)
      · cases t with
        | un => trivial
        | on dss => trivial
        | v d => obtain ⟨x, e3, r3⟩ := z; exact ⟨x, e3, Rep.mono ex d x r3⟩
        | _ => exact absurd rfl ht
/-- slot i gets plain data -/
theorem BRel.setV (r : BRel b Fz g σ H) {i : Nat} {d : D} {x : V} (hx : PxOk b i) (h : Rep b.M Fz H d x) : BRel b Fz (g.set i (.v d)) (σ.set i (some x)) H := by
  have ow : ∀ {j a}, Own (g.set i (.v d)) (σ.set i (some x)) j a → j ≠ i ∧ Own g σ j a := fun {j a} q => by
    obtain ⟨⟨t, e, w⟩, z⟩ := q
    rcases gset_get e with ⟨_, e2⟩ | ⟨hj, e2⟩
    · subst e2; cases w
    · refine ⟨hj, ⟨t, e2, w⟩, ?_⟩
      rw [List.getElem?_set_ne (Ne.symm hj)] at z
      exact z
  refine ⟨r.gr, ⟨by rw [List.length_set, List.length_set]; exact r.rel.len, fun j t q => ?_, fun j k a p q => r.rel.apart j k a (ow p).2 (ow q).2⟩, fun j a q => r.own j a (ow q).2, fun j a l q => r.pin j a l (ow q).2, fun j a q => (List.getElem?_set_ne fun z => hx a (by rw [z]; exact q)).trans (r.px j a q),
    r.nst.step rfl .refl (fun j dss q => (gset_get q).elim (fun ⟨_, e2⟩ => by cases e2) fun ⟨hj, e2⟩ => ⟨e2, List.getElem?_set_ne (Ne.symm hj)⟩) (fun _ _ _ => rfl) fun j x q => let ⟨k1, k2, k3⟩ := r.nst.free j x q; ⟨k1, k2, fun l o => k3 l (ow o).2⟩⟩
  rcases gset_get q with ⟨e1, e2⟩ | ⟨hj, e2⟩
  · subst e1; subst e2
    have hl : j < σ.length := by
      have z := (List.getElem?_eq_some_iff.mp q).1
      rw [List.length_set] at z
      rw [← r.rel.len]; exact z
    exact ⟨x, List.getElem?_set_self hl, h⟩
  · rw [List.getElem?_set_ne (Ne.symm hj)]
    exact r.slot e2
/-- slot i (no parameter) gets a new own object -/
theorem BRel.setO (r : BRel b Fz g σ H) {i : Nat} {s : S} {p : Addr} {u : HO} (hx : PxOk b i) (hnp : b.np ≤ i) (hp0 : b.H0 p = none) (hf : ¬ Fz p) (hu : H p = some u) (hA : ∀ j, ¬ AOwn g σ H j p) (w : OwnAt b.M Fz H s u) : BRel b Fz (g.set i s) (σ.set i (some (.ref p))) H := by
  have ho : ∀ j, ¬ Own g σ j p := fun j z => hA j (.inl z)
  have hq : ∀ j, ¬ NOwn g σ H j p := fun j z => hA j (.inr z)
  have ow : ∀ {j a}, Own (g.set i s) (σ.set i (some (.ref p))) j a → (j = i ∧ a = p) ∨ (j ≠ i ∧ Own g σ j a) := fun {j a} q => by
    obtain ⟨⟨t, e, w⟩, z⟩ := q
    rcases gset_get e with ⟨e1, e2⟩ | ⟨hj, e2⟩
    · subst e1
      refine .inl ⟨rfl, ?_⟩
      have hl : j < σ.length := by
        have z := (List.getElem?_eq_some_iff.mp e).1
        rw [List.length_set] at z
        rw [← r.rel.len]; exact z
      rw [List.getElem?_set_self hl] at z
      injection z with z
      injection z with z
      injection z with z
      exact z.symm
    · refine .inr ⟨hj, ⟨t, e2, w⟩, ?_⟩
      rw [List.getElem?_set_ne (Ne.symm hj)] at z
      exact z
  refine ⟨r.gr, ⟨by rw [List.length_set, List.length_set]; exact r.rel.len, fun j t q => ?_, fun j k a p q => ?_⟩, fun j a q => ?_, fun j a l q => ?_, fun j a q => (List.getElem?_set_ne fun z => hx a (by rw [z]; exact q)).trans (r.px j a q),
    r.nst.step rfl .refl (fun j dss q => (gset_get q).elim (fun ⟨_, e2⟩ => by subst e2; exact w.elim) fun ⟨hj, e2⟩ => ⟨e2, List.getElem?_set_ne (Ne.symm hj)⟩) (fun _ _ _ => rfl) fun j x q => let ⟨k1, k2, k3⟩ := r.nst.free j x q; ⟨k1, k2, fun l o => (ow o).elim (fun z => hq j (by rw [← z.2]; exact q)) fun z => k3 l z.2⟩⟩
  · rcases gset_get q with ⟨e1, e2⟩ | ⟨hj, e2⟩
    · subst e1; subst e2
      have hl : j < σ.length := by
        have z := (List.getElem?_eq_some_iff.mp q).1
        rw [List.length_set] at z
        rw [← r.rel.len]; exact z
      exact SlotOk.of_own (List.getElem?_set_self hl) hf hu w
    · rw [List.getElem?_set_ne (Ne.symm hj)]
      exact r.slot e2
  · rcases ow p with ⟨e1, e2⟩ | ⟨e1, e2⟩
    · rcases ow q with ⟨e3, e4⟩ | ⟨e3, e4⟩
      · rw [e1, e3]
      · subst e2; exact absurd e4 (ho k)
    · rcases ow q with ⟨e3, e4⟩ | ⟨e3, e4⟩
      · subst e4; exact absurd e2 (ho j)
      · exact r.rel.apart j k a e2 e4
  · rcases ow q with ⟨e1, e2⟩ | ⟨e1, e2⟩
    · subst e2; exact .inr ⟨by omega, hp0⟩
    · exact r.own j a e2
  · rcases ow q with ⟨e1, e2⟩ | ⟨e1, e2⟩
    · omega
    · exact r.pin j a l e2
/-- slot i is forgotten -/
theorem BRel.forget (r : BRel b Fz g σ H) (i : Nat) : BRel b Fz (g.set i .un) σ H := by
  have ow : ∀ {j a}, Own (g.set i .un) σ j a → Own g σ j a := fun {j a} q => by
    obtain ⟨⟨t, e, w⟩, z⟩ := q
    rcases gset_get e with ⟨_, e2⟩ | ⟨hj, e2⟩
    · subst e2; cases w
    · exact ⟨⟨t, e2, w⟩, z⟩
  refine ⟨r.gr, ⟨by rw [List.length_set]; exact r.rel.len, fun j t q => ?_, fun j k a p q => r.rel.apart j k a (ow p) (ow q)⟩, fun j a q => r.own j a (ow q), fun j a l q => r.pin j a l (ow q), r.px,
    r.nst.step rfl .refl (fun j dss q => (gset_get q).elim (fun ⟨_, e2⟩ => by cases e2) fun ⟨_, e2⟩ => ⟨e2, rfl⟩) (fun _ _ _ => rfl) fun j x q => let ⟨k1, k2, k3⟩ := r.nst.free j x q; ⟨k1, k2, fun l o => k3 l (ow o)⟩⟩
  rcases gset_get q with ⟨_, e2⟩ | ⟨_, e2⟩
  · subst e2; trivial
  · exact r.slot e2
/-- the own list of slot i (no parameter) is frozen: from now on it is data -/
theorem BRel.freeze (r : BRel b Fz g σ H) {i : Nat} {a : Addr} {u : HO} (hnp : b.np ≤ i) (h : Own g σ i a) {d : D} (hd : ∀ Fz', Fz' a → Ext Fz H Fz' H → Rep b.M Fz' H d (.ref a)) : BRel b (fzAdd Fz a) (g.set i (.v d)) σ H := by
  obtain ⟨s, u0, e0, nf, hu, w0⟩ := r.there h
  have ex : Ext Fz H (fzAdd Fz a) H := ⟨fun _ q => .inl q, fun _ _ q _ => .of q⟩
  have ow : ∀ {j x}, Own (g.set i (.v d)) σ j x → j ≠ i ∧ Own g σ j x := fun {j x} q => by
    obtain ⟨⟨t, e, w⟩, z⟩ := q
    rcases gset_get e with ⟨_, e2⟩ | ⟨hj, e2⟩
    · subst e2; cases w
    · exact ⟨hj, ⟨t, e2, w⟩, z⟩
  refine ⟨⟨fun x q => ?_, fun x q => .inl (r.gr.fz x q), fun x q => ?_, r.gr.fr, r.gr.oa, r.gr.tb⟩, ⟨by rw [List.length_set]; exact r.rel.len, fun j t q => ?_, fun j k x p q => r.rel.apart j k x (ow p).2 (ow q).2⟩, fun j x q => r.own j x (ow q).2, fun j x l q => r.pin j x l (ow q).2, r.px,
    r.nst.step rfl ex (fun j dss q => (gset_get q).elim (fun ⟨_, e2⟩ => by cases e2) fun ⟨_, e2⟩ => ⟨e2, rfl⟩) (fun _ _ _ => rfl) fun j x q => let ⟨k1, k2, k3⟩ := r.nst.free j x q; ⟨fun z => z.elim k1 fun z => k3 i (by rw [z]; exact h), k2, fun l o => k3 l (ow o).2⟩⟩
  · rcases q with q | q
    · exact r.gr.dom x q
    · subst q; exact ⟨u0, hu⟩
  · rcases q with q | q
    · exact r.gr.new x q
    · subst q
      rcases r.own i x h with ⟨z, _⟩ | ⟨_, z⟩
      · omega
      · exact .inr z
  · rcases gset_get q with ⟨e1, e2⟩ | ⟨hj, e2⟩
    · subst e1; subst e2
      exact ⟨.ref a, h.2, hd _ (.inr rfl) ex⟩
    · have z := r.slot e2
      by_cases ht : t.isOw = true
      · obtain ⟨x, o, e3, n3, h3, w3⟩ := z.own ht
        refine SlotOk.of_own e3 (fun y => ?_) h3 (w3.mono ex)
        rcases y with y | y
        · exact n3 y
        · subst y
          exact hj (r.rel.apart j i x ⟨⟨t, e2, ht⟩, e3⟩ h)
      · cases t with
        | un => trivial
        | on dss => trivial
        | v d => obtain ⟨x, e3, r3⟩ := z; exact ⟨x, e3, Rep.mono ex d x r3⟩
        | _ => exact absurd rfl ht
end
end DL

set_option Elab.async false
set_option linter.all false
set_option maxRecDepth 100000
set_option maxHeartbeats 2000000
/-! Den2: denotations of expressions, and that the syntax has them. -/
namespace DL
open PySem L2 PySem.Spec PyProof.Rows

def gat : Sg → Nat → S
  | [], _ => .un
  | s :: _, 0 => s
  | _ :: g, i + 1 => gat g i
theorem gat_get : ∀ {g : Sg} {i : Nat} {s : S}, gat g i = s → s ≠ .un → g[i]? = some s
  | [], _, s, h, n => absurd h.symm n
  | t :: _, 0, s, h, _ => by
    have h' : t = s := h
    rw [h']; rfl
  | _ :: g, i + 1, s, h, n => gat_get (g := g) (i := i) h n

theorem get_gat : ∀ {g : Sg} {i : Nat} {s : S}, g[i]? = some s → gat g i = s
  | [], _, _, h => by simp at h
  | t :: _, 0, s, h => by
    have h' : t = s := by simpa using h
    exact h'
  | _ :: g, i + 1, s, h => get_gat (g := g) (i := i) (by simpa using h)

theorem pe_mono {X : Cx} {e : Expr} {t t' : TE} (h : PE X e t) (i : ∀ σ H Q, t' σ H Q → t σ H Q) : PE X e t' := ⟨fun pins s σ H Q I hw => h.run pins s σ H Q I (i _ _ _ hw)⟩
theorem pt_mono {X : Cx} {e : Expr} {t t' : TT} (h : PT X e t) (i : ∀ σ H Q, t' σ H Q → t σ H Q) : PT X e t' := ⟨fun pins s σ H Q I hw => h.run pins s σ H Q I (i _ _ _ hw)⟩
theorem pw_mono {X : Cx} {e : Expr} {t t' : TT} (h : PW X e t) (i : ∀ σ H Q, t' σ H Q → t σ H Q) : PW X e t' := ⟨fun wh pins s σ H Q I hw => h.run wh pins s σ H Q I (i _ _ _ hw)⟩
theorem pa_mono {X : Cx} {e : List Expr} {t t' : TA} (h : PA X e t) (i : ∀ σ H Q, t' σ H Q → t σ H Q) : PA X e t' := ⟨fun pos pins s σ H Q I hw => h.run pos pins s σ H Q I (i _ _ _ hw)⟩
theorem ps_mono {X : Cx} {e : Stmt} {t t' : TS} (h : PS X e t) (i : ∀ D σ H, t' D σ H → t D σ H) : PS X e t' := ⟨fun pins s σ H D I hw => h.run pins s σ H D I (i _ _ _ hw)⟩
theorem pss_mono {X : Cx} {e : List Stmt} {t t' : TS} (h : PSs X e t) (i : ∀ D σ H, t' D σ H → t D σ H) : PSs X e t' := ⟨fun pins s σ H D I hw => h.run pins s σ H D I (i _ _ _ hw)⟩

section
variable {b : B} {W : WX} {α β ξ ζ : Type} {P : Bear α ξ} {P2 : Bear β ζ} {σ : L2.St} {Fz Fz1 : Fzn} {H H1 : Hp} {g : Sg}
theorem Po.weak {K : ξ → Sg → Fzn → Hp → α → Prop} {r : R α} (e : Ext Fz H Fz1 H1) (h : Po b W P σ Fz H K r) : Po b W P σ Fz1 H1 K r := by
  cases r with
  | ok a g' => exact fun x H' Fz' r e' p => h x H' Fz' r (e.trans e') p
  | ex ee g' => exact fun cl dx H' Fz' r e' p => h cl dx H' Fz' r (e.trans e') p
  | no => exact h
/-- first f, then more -/
theorem tG_seq {f : Sg → R α} {Q : ξ → Hp → Prop} {K : ζ → Sg → Fzn → Hp → β → Prop} {k : α → Sg → R β} (r : BRel b Fz g σ H) (h : Po b W P2 σ Fz H K ((f g).bd k))
    (hk : ∀ d x g1 Fz1 H1, BRel b Fz1 g1 σ H1 → Ext Fz H Fz1 H1 → P σ Fz1 H1 g1 d x → Po b W P2 σ Fz1 H1 K (k d g1) → Q x H1) : tG b W P f σ H Q := by
  refine ⟨Fz, g, r, ?_⟩
  cases q : f g with
  | ok d g' => rw [q] at h; exact fun x H' Fz' r' e' rep => hk d x g' Fz' H' r' e' rep (h.weak e')
  | ex e g' => rw [q] at h; exact h
  | no => rw [q] at h; exact h
theorem Po.ok {K : ξ → Sg → Fzn → Hp → α → Prop} {a : α} {g' : Sg} (h : Po b W P σ Fz H K (.ok a g')) {x : ξ} {H' : Hp} {Fz' : Fzn} (r : BRel b Fz' g' σ H') (e : Ext Fz H Fz' H') (p : P σ Fz' H' g' a x) : K x g' Fz' H' a := h x H' Fz' r e p
end
def opt {α : Type} (o : Option α) (g : Sg) : R α := match o with
  | some z => .ok z g
  | none => .no
@[simp] theorem opt_some {α : Type} {z : α} {g : Sg} : opt (some z) g = .ok z g := rfl
@[simp] theorem opt_none {α : Type} {g : Sg} : opt (none : Option α) g = .no := rfl
theorem Po.opt {b : B} {W : WX} {α ξ : Type} {P : Bear α ξ} {σ : L2.St} {Fz : Fzn} {H : Hp} {K : ξ → Sg → Fzn → Hp → α → Prop} {o : Option α} {g : Sg} (h : Po b W P σ Fz H K (DL.opt o g)) : ∃ z, o = some z ∧ Po b W P σ Fz H K (.ok z g) := by
  cases o with
  | none => exact h.elim
  | some z => exact ⟨z, rfl, h⟩

section
variable {X : Cx} {b : B} {W : WX} {e e1 e2 e3 : Expr} {f f1 f2 f3 : FE} {pos p p2 : Pos}

/-! ### names and constants -/
def varF (i : Nat) : FE := fun g => match gat g i with
  | .v d => .ok d g
  | _ => .no
theorem pd_var {i : Nat} (h : PE X e (tVar i)) : PE X e (tE b W (varF i)) := pe_mono h fun σ H Q ⟨Fz, g, r, q⟩ => by
  unfold varF at q
  cases hg : gat g i with
  | v d =>
    rw [hg] at q
    obtain ⟨x, e1, rep⟩ := r.slot (gat_get hg (by intro z; cases z))
    exact ⟨x, e1, q x H Fz r .refl rep⟩
  | _ => rw [hg] at q; exact q.elim
/-- a name that may hold an own list: it is frozen -/
def frzF (i : Nat) : FE := fun g => match gat g i with
  | .v d => .ok d g
  | .ow ds => .ok (.lst ds) (g.set i (.v (.lst ds)))
  | _ => .no
theorem pd_frz {i : Nat} (h : PE X e (tVar i)) (hnp : b.np ≤ i) : PE X e (tE b W (frzF i)) := pe_mono h fun σ H Q ⟨Fz, g, r, q⟩ => by
  unfold frzF at q
  cases hg : gat g i with
  | v d =>
    rw [hg] at q
    obtain ⟨x, e1, rep⟩ := r.slot (gat_get hg (by intro z; cases z))
    exact ⟨x, e1, q x H Fz r .refl rep⟩
  | ow ds =>
    rw [hg] at q
    have hgi := gat_get hg (by intro z; cases z)
    obtain ⟨a, u, e1, nf, hu, vs, eu, rep⟩ := r.slot hgi
    subst eu
    have ex : Ext Fz H (fzAdd Fz a) H := ⟨fun _ q => .inl q, fun _ _ q _ => .of q⟩
    have hd : ∀ Fz', Fz' a → Ext Fz H Fz' H → Rep b.M Fz' H (.lst ds) (.ref a) := fun Fz' ha ex' => by
      unfold Rep
      exact ⟨a, vs, rfl, .inl ⟨ha, hu⟩, RepL.mono ex' _ _ rep⟩
    have r' := r.freeze (i := i) (a := a) (u := .lst vs) (d := .lst ds) hnp ⟨⟨_, hgi, rfl⟩, e1⟩ hd
    exact ⟨.ref a, e1, q (.ref a) H (fzAdd Fz a) r' ex (hd _ (.inr rfl) ex)⟩
  | _ => rw [hg] at q; exact q.elim
/-- a name as an argument: an own slot as it stands -/
def nmF (i : Nat) : Sg → R AV := fun g => match gat g i with
  | .v d => .ok (.d d) g
  | .un => .no
  | .on _ => .no
  | _ => .ok (.o i) g
theorem p1_nm {i : Nat} (h : PE X e (tVar i)) : PE X e (tA1 b W (nmF i)) := pe_mono h fun σ H Q ⟨Fz, g, r, q⟩ => by
  unfold nmF at q
  cases hg : gat g i with
  | un => rw [hg] at q; exact q.elim
  | on dss => rw [hg] at q; exact q.elim
  | v d =>
    rw [hg] at q
    obtain ⟨x, e1, rep⟩ := r.slot (gat_get hg (by intro z; cases z))
    exact ⟨x, e1, q x H Fz r .refl rep⟩
  | _ =>
    rw [hg] at q
    have hgi := gat_get hg (by intro z; cases z)
    obtain ⟨a, u, e1, nf, hu, w⟩ := r.slot hgi
    exact ⟨.ref a, e1, q (.ref a) H Fz r .refl ⟨a, rfl, ⟨_, hgi, rfl⟩, e1⟩⟩
def dF (f : FE) : Sg → R AV := fun g => (f g).bd fun d g1 => .ok (.d d) g1
theorem p1_d (h : PE X e (tE b W f)) : PE X e (tA1 b W (dF f)) := pe_mono h fun σ H Q ⟨Fz, g, r, q⟩ => tG_seq r q fun d x g1 Fz1 H1 r1 e1 rep h1 => h1.ok r1 .refl rep
def cF (d : D) : FE := fun g => .ok d g
theorem pd_c {v : V} {d : D} (h : PE X e (tC v)) (hr : ∀ Fz H, Rep b.M Fz H d v) : PE X e (tE b W (cF d)) := pe_mono h fun σ H Q ⟨Fz, g, r, q⟩ => q v H Fz r .refl (hr Fz H)
theorem pd_int {i j} : PE X (.Constant (.int i) j pos) (tE b W (cF (.int i))) := pd_c pe_int fun _ _ => by unfold Rep; rfl
theorem pd_bl {c j} : PE X (.Constant (.bool c) j pos) (tE b W (cF (.bl c))) := pd_c pe_bl fun _ _ => by unfold Rep; rfl
theorem pd_non {j} : PE X (.Constant .none j pos) (tE b W (cF .non)) := pd_c pe_non fun _ _ => by unfold Rep; rfl
theorem pd_str {x j} : PE X (.Constant (.str x) j pos) (tE b W (cF (.str x))) := pd_c pe_str fun _ _ => by unfold Rep; rfl

/-! ### operators on values -/
/-- o tells what the operator r makes of data -/
def OpT (M : MM) (r : R2) (o : D → D → Option D) : Prop := ∀ {Fz : Fzn} {H : Hp} {d e z : D} {x y : V} {Q : VK}, (∀ a, Fz a → ∃ o, H a = some o) → TRep M Fz H d x → TRep M Fz H e y → o d e = some z →
  (∀ v Fz' H', GrowTo Fz H Fz' H' → Rep M Fz' H' z v → Q v H') → r x y H Q
def op2F (o : D → D → Option D) (f1 f2 : FE) : FE := fun g => (f1 g).bd fun d g1 => (f2 g1).bd fun e g2 => opt (o d e) g2
theorem tE_op2 {r : R2} {o : D → D → Option D} (ho : OpT b.M r o) {σ : L2.St} {H : Hp} {Q : VK} (h : tE b W (op2F o f1 f2) σ H Q) : tOp r (tE b W f1) (tE b W f2) σ H Q := by
  obtain ⟨Fz, g, r0, h⟩ := h
  refine tG_seq r0 h fun d x g1 Fz1 H1 r1 e1 rep1 h1 => ?_
  refine tG_seq r1 h1 fun e y g2 Fz2 H2 r2 e2 rep2 h2 => ?_
  obtain ⟨z, ez, h3⟩ := h2.opt
  exact ho r2.gr.dom (Rep.mono e2 d x rep1).t rep2.t ez fun v Fz' H' gr rv => h3.ok (r2.grow gr) gr.ext rv
theorem pd_op {op : Operator} {r : R2} {o : D → D → Option D} (hr : OpR X (binaryOp op) r) (ho : OpT b.M r o) (h1 : PE X e1 (tE b W f1)) (h2 : PE X e2 (tE b W f2)) : PE X (.BinOp e1 op e2 pos) (tE b W (op2F o f1 f2)) :=
  pe_mono (pe_op hr h1 h2) fun _ _ _ h => tE_op2 ho h
theorem pd_cmp {op : CmpOp} {r : R2} {o : D → D → Option D} (hr : OpR X (compareOp op) r) (ho : OpT b.M r o) (h1 : PE X e1 (tE b W f1)) (h2 : PE X e2 (tE b W f2)) (hm : behindInMarks op e2 = false) : PE X (.Compare e1 [op] [e2] pos) (tE b W (op2F o f1 f2)) :=
  pe_mono (pe_cmpR hr h1 h2 hm) fun _ _ _ h => tE_op2 ho h

/-- what an own slot or data is, now -/
def res (g : Sg) : AV → Option D
  | .d d => some d
  | .o i => match gat g i with
    | .ow ds => some (.lst ds)
    | _ => none
theorem res_ok {σ : L2.St} {Fz : Fzn} {H : Hp} {g : Sg} {a : AV} {x : V} {d : D} (r : BRel b Fz g σ H) (h : AVOk b σ Fz H g a x) (e : res g a = some d) : TRep b.M Fz H d x := by
  cases a with
  | d d' =>
    have e' : d' = d := Option.some.inj e
    subst e'
    exact Rep.t h
  | o i =>
    obtain ⟨a, ex, ow⟩ := h
    subst ex
    unfold res at e
    dsimp only at e
    cases hg : gat g i with
    | ow ds =>
      rw [hg] at e
      have e' : D.lst ds = d := Option.some.inj e
      subst e'
      obtain ⟨s, u, e2, nf, hu, w⟩ := r.there ow
      rw [gat_get hg (by intro z; cases z)] at e2
      have e3 : S.ow ds = s := Option.some.inj e2
      subst e3
      obtain ⟨vs, eu, rep⟩ := w
      subst eu
      exact ⟨a, vs, rfl, .inl (.inl hu), rep⟩
    | _ => rw [hg] at e; cases e
/-- an argument read earlier, still as it was -/
theorem AVOk.mono {σ : L2.St} {Fz Fz' : Fzn} {H H' : Hp} {g g' : Sg} {a : AV} {x : V} (h : AVOk b σ Fz H g a x) (e : Ext Fz H Fz' H') (hg : ∀ i, a = .o i → ∃ s, g'[i]? = some s ∧ s.isOw = true) : AVOk b σ Fz' H' g' a x := by
  cases a with
  | d d => exact Rep.mono e d x h
  | o i =>
    obtain ⟨ad, ex, ow⟩ := h
    exact ⟨ad, ex, hg i rfl, ow.2⟩
def resI (g : Sg) (a : AV) : Bool := match a with
  | .d _ => true
  | .o i => (gat g i).isOw
theorem resI_ok {g : Sg} {a : AV} (h : resI g a = true) : ∀ i, a = .o i → ∃ s, g[i]? = some s ∧ s.isOw = true := fun i e => by
  subst e
  refine ⟨gat g i, ?_, h⟩
  refine gat_get rfl fun z => ?_
  have h' : (gat g i).isOw = true := h
  rw [z] at h'
  cases h'
theorem res_I {g : Sg} {a : AV} {d : D} (h : res g a = some d) : resI g a = true := by
  cases a with
  | d d => rfl
  | o i =>
    unfold res at h
    unfold resI
    dsimp only at h ⊢
    cases hg : gat g i with
    | ow ds => rfl
    | _ => rw [hg] at h; cases h
def op2V (o : D → D → Option D) (f1 f2 : Sg → R AV) : FE := fun g => (f1 g).bd fun a g1 => (f2 g1).bd fun c g2 => opt ((res g2 a).bind fun d => (res g2 c).bind fun e => o d e) g2
theorem tE_op2V {r : R2} {o : D → D → Option D} {f1 f2 : Sg → R AV} (ho : OpT b.M r o) {σ : L2.St} {H : Hp} {Q : VK} (h : tE b W (op2V o f1 f2) σ H Q) : tOp r (tA1 b W f1) (tA1 b W f2) σ H Q := by
  obtain ⟨Fz, g, r0, h⟩ := h
  refine tG_seq r0 h fun a x g1 Fz1 H1 r1 e1 rep1 h1 => ?_
  refine tG_seq r1 h1 fun c y g2 Fz2 H2 r2 e2 rep2 h2 => ?_
  obtain ⟨z, ez, h3⟩ := h2.opt
  obtain ⟨d, ed, ez⟩ := Option.bind_eq_some_iff.mp ez
  obtain ⟨e, ee, ez⟩ := Option.bind_eq_some_iff.mp ez
  exact ho r2.gr.dom (res_ok r2 (rep1.mono e2 (resI_ok (res_I ed))) ed) (res_ok r2 rep2 ee) ez fun v Fz' H' gr rv => h3.ok (r2.grow gr) gr.ext rv
theorem pd_opV {op : Operator} {r : R2} {o : D → D → Option D} {f1 f2 : Sg → R AV} (hr : OpR X (binaryOp op) r) (ho : OpT b.M r o) (h1 : PE X e1 (tA1 b W f1)) (h2 : PE X e2 (tA1 b W f2)) : PE X (.BinOp e1 op e2 pos) (tE b W (op2V o f1 f2)) :=
  pe_mono (pe_op hr h1 h2) fun _ _ _ h => tE_op2V ho h
theorem pd_cmpV {op : CmpOp} {r : R2} {o : D → D → Option D} {f1 f2 : Sg → R AV} (hr : OpR X (compareOp op) r) (ho : OpT b.M r o) (h1 : PE X e1 (tA1 b W f1)) (h2 : PE X e2 (tA1 b W f2)) (hm : behindInMarks op e2 = false) : PE X (.Compare e1 [op] [e2] pos) (tE b W (op2V o f1 f2)) :=
  pe_mono (pe_cmpR hr h1 h2 hm) fun _ _ _ h => tE_op2V ho h
theorem pd_ixV {r : R2} {o : D → D → Option D} {f1 f2 : Sg → R AV} (hr : IxR X r) (ho : OpT b.M r o) (h1 : PE X e1 (tA1 b W f1)) (h2 : PE X e2 (tA1 b W f2)) (hs : PlainIx e2) : PE X (.Subscript e1 e2 pos) (tE b W (op2V o f1 f2)) :=
  pe_mono (pe_ix hr h1 h2 hs) fun _ _ _ h => tE_op2V ho h
theorem pd_ix {r : R2} {o : D → D → Option D} (hr : IxR X r) (ho : OpT b.M r o) (h1 : PE X e1 (tE b W f1)) (h2 : PE X e2 (tE b W f2)) (hs : PlainIx e2) : PE X (.Subscript e1 e2 pos) (tE b W (op2F o f1 f2)) :=
  pe_mono (pe_ix hr h1 h2 hs) fun _ _ _ h => tE_op2 ho h
def op1F (o : D → Option D) (f : FE) : FE := fun g => (f g).bd fun d g1 => opt (o d) g1
def UnT (M : MM) (r : V → Hp → VK → Prop) (o : D → Option D) : Prop := ∀ {Fz : Fzn} {H : Hp} {d z : D} {x : V} {Q : VK}, (∀ a, Fz a → ∃ o, H a = some o) → Rep M Fz H d x → o d = some z →
  (∀ v Fz' H', GrowTo Fz H Fz' H' → Rep M Fz' H' z v → Q v H') → r x H Q
theorem pd_un {op : UnaryOp} {r : V → Hp → VK → Prop} {o : D → Option D} (hr : UnR X (unaryOp op) r) (ho : UnT b.M r o) (h1 : PE X e1 (tE b W f1)) : PE X (.UnaryOp op e1 pos) (tE b W (op1F o f1)) :=
  pe_mono (pe_un hr h1) fun σ H Q ⟨Fz, g, r0, h⟩ => tG_seq r0 h fun d x g1 Fz1 H1 r1 e1 rep1 h1 => by
    obtain ⟨z, ez, h3⟩ := h1.opt
    exact ho r1.gr.dom rep1 ez fun v Fz' H' gr rv => h3.ok (r1.grow gr) gr.ext rv

/-! ### truth -/
def tstF (f : FE) : FB := fun g => (f g).bd fun d g1 => match d with
  | .bl c => .ok c g1
  | _ => .no
theorem tB_tst {t : TE} {σ : L2.St} {H : Hp} {Q : Bool → Hp → Prop} (h : tBo b W (tstF f) σ H Q) : tB (tE b W f) σ H Q := by
  obtain ⟨Fz, g, r0, h⟩ := h
  refine tG_seq r0 h fun d x g1 Fz1 H1 r1 e1 rep1 h1 => ?_
  cases d with
  | bl c =>
    have rep' : x = .bl c := by
      have z : Rep b.M Fz1 H1 (.bl c) x := rep1
      unfold Rep at z
      exact z
    exact ⟨c, rep', h1.ok r1 .refl rfl⟩
  | _ => exact h1.elim
/-- an expression whose value is a bool as a test -/
theorem pt_of (h : PE X e (tE b W f)) (he : ∀ whole, isTrue e X.env whole = (do let v ← whole; standAt e.pos; holding [v] (truthy v)) := by intro _; rfl) : PT X e (tBo b W (tstF f)) :=
  pt_mono (pt_val h he) fun _ _ _ q => tB_tst (t := tE b W f) q
/-- a comparison as a test -/
theorem pt_cmpD {op : CmpOp} {r : R2} {o : D → D → Option D} (hr : OpR X (compareOp op) r) (ho : OpT b.M r o) (h1 : PE X e1 (tE b W f1)) (h2 : PE X e2 (tE b W f2)) (hm : behindInMarks op e2 = false) : PT X (.Compare e1 [op] [e2] pos) (tBo b W (tstF (op2F o f1 f2))) :=
  pt_mono (pt_cmpR hr h1 h2 hm) fun σ H Q q => by
    obtain ⟨Fz, g, r0, h⟩ := q
    have z : tE b W (op2F o f1 f2) σ H (fun x H' => ∃ k, x = V.bl k ∧ Q k H') := tG_seq r0 h fun d x g1 Fz1 H1 r1 e1 rep1 h1 => by
      cases d with
      | bl c =>
        have rep' : x = .bl c := by
          have z : Rep b.M Fz1 H1 (.bl c) x := rep1
          unfold Rep at z
          exact z
        exact ⟨c, rep', h1.ok r1 .refl rfl⟩
      | _ => exact h1.elim
    exact tE_op2 ho z
theorem pt_cmpDV {op : CmpOp} {r : R2} {o : D → D → Option D} {f1 f2 : Sg → R AV} (hr : OpR X (compareOp op) r) (ho : OpT b.M r o) (h1 : PE X e1 (tA1 b W f1)) (h2 : PE X e2 (tA1 b W f2)) (hm : behindInMarks op e2 = false) : PT X (.Compare e1 [op] [e2] pos) (tBo b W (tstF (op2V o f1 f2))) :=
  pt_mono (pt_cmpR hr h1 h2 hm) fun σ H Q q => by
    obtain ⟨Fz, g, r0, h⟩ := q
    have z : tE b W (op2V o f1 f2) σ H (fun x H' => ∃ k, x = V.bl k ∧ Q k H') := tG_seq r0 h fun d x g1 Fz1 H1 r1 e1 rep1 h1 => by
      cases d with
      | bl c =>
        have rep' : x = .bl c := by
          have z : Rep b.M Fz1 H1 (.bl c) x := rep1
          unfold Rep at z
          exact z
        exact ⟨c, rep', h1.ok r1 .refl rfl⟩
      | _ => exact h1.elim
    exact tE_op2V ho z
def andB (f1 f2 : FB) : FB := fun g => (f1 g).bd fun c g1 => if c = true then f2 g1 else .ok false g1
def orB (f1 f2 : FB) : FB := fun g => (f1 g).bd fun c g1 => if c = true then .ok true g1 else f2 g1
def notB (f1 : FB) : FB := fun g => (f1 g).bd fun c g1 => .ok (!c) g1
variable {fb1 fb2 : FB} {a c : Expr} {rest : List Expr}
theorem pwb_and1 (h : PT X a (tBo b W fb1)) : PW X (.BoolOp .And [a] pos) (tBo b W fb1) := pw_and1 h
theorem pwb_or1 (h : PT X a (tBo b W fb1)) : PW X (.BoolOp .Or [a] pos) (tBo b W fb1) := pw_or1 h
theorem Po.bb {σ : L2.St} {Fz : Fzn} {H : Hp} {Q : Bool → Hp → Prop} {f : FB} {g : Sg} (r : BRel b Fz g σ H) (h : Po b W bB σ Fz H (fun x _ _ H' _ => Q x H') (f g)) : tBo b W f σ H Q := ⟨Fz, g, r, h⟩
theorem pwb_and (h1 : PT X a (tBo b W fb1)) (h2 : PW X (.BoolOp .And (c :: rest) pos) (tBo b W fb2)) : PW X (.BoolOp .And (a :: c :: rest) pos) (tBo b W (andB fb1 fb2)) :=
  pw_mono (pw_and h1 h2) fun σ H Q ⟨Fz, g, r0, h⟩ => tG_seq r0 h fun d x g1 Fz1 H1 r1 e1 rep1 h1 => by
    have rep' : x = d := rep1
    subst rep'
    cases x with
    | true => exact ⟨Fz1, g1, r1, h1⟩
    | false => exact h1.ok r1 .refl rfl
theorem pwb_or (h1 : PT X a (tBo b W fb1)) (h2 : PW X (.BoolOp .Or (c :: rest) pos) (tBo b W fb2)) : PW X (.BoolOp .Or (a :: c :: rest) pos) (tBo b W (orB fb1 fb2)) :=
  pw_mono (pw_or h1 h2) fun σ H Q ⟨Fz, g, r0, h⟩ => tG_seq r0 h fun d x g1 Fz1 H1 r1 e1 rep1 h1 => by
    have rep' : x = d := rep1
    subst rep'
    cases x with
    | true => exact h1.ok r1 .refl rfl
    | false => exact ⟨Fz1, g1, r1, h1⟩
theorem ptb_not (h1 : PT X a (tBo b W fb1)) : PT X (.UnaryOp .Not a pos) (tBo b W (notB fb1)) :=
  pt_mono (pt_not h1) fun σ H Q ⟨Fz, g, r0, h⟩ => tG_seq r0 h fun d x g1 Fz1 H1 r1 e1 rep1 h1 => by
    have rep' : x = d := rep1
    subst rep'
    exact h1.ok r1 .refl rfl
/-- .. as values -/
def blF (f : FB) : FE := fun g => (f g).bd fun c g1 => .ok (.bl c) g1
def andV (f1 f2 : FE) : FE := fun g => (f1 g).bd fun d g1 => match d with
  | .bl c => if c = true then f2 g1 else .ok (.bl false) g1
  | _ => .no
def orV (f1 f2 : FE) : FE := fun g => (f1 g).bd fun d g1 => match d with
  | .bl c => if c = true then .ok (.bl true) g1 else f2 g1
  | _ => .no
def notV (f1 : FE) : FE := fun g => (f1 g).bd fun d g1 => match d with
  | .bl c => .ok (.bl (!c)) g1
  | _ => .no
theorem rep_bl {M : MM} {Fz : Fzn} {H : Hp} {c : Bool} : Rep M Fz H (.bl c) (.bl c) := by unfold Rep; rfl
theorem rep_bl' {M : MM} {Fz : Fzn} {H : Hp} {c : Bool} {x : V} (h : Rep M Fz H (.bl c) x) : x = .bl c := by unfold Rep at h; exact h
theorem rep_int {M : MM} {Fz : Fzn} {H : Hp} {c : Int} : Rep M Fz H (.int c) (.int c) := by unfold Rep; rfl
theorem rep_int' {M : MM} {Fz : Fzn} {H : Hp} {c : Int} {x : V} (h : Rep M Fz H (.int c) x) : x = .int c := by unfold Rep at h; exact h
theorem rep_str {M : MM} {Fz : Fzn} {H : Hp} {c : Str} : Rep M Fz H (.str c) (.str c) := by unfold Rep; rfl
theorem rep_str' {M : MM} {Fz : Fzn} {H : Hp} {c : Str} {x : V} (h : Rep M Fz H (.str c) x) : x = .str c := by unfold Rep at h; exact h
theorem rep_non {M : MM} {Fz : Fzn} {H : Hp} : Rep M Fz H .non .non := by unfold Rep; rfl
theorem rep_non' {M : MM} {Fz : Fzn} {H : Hp} {x : V} (h : Rep M Fz H .non x) : x = .non := by unfold Rep at h; exact h
theorem pd_and (h1 : PE X a (tE b W f1)) (h2 : PE X (.BoolOp .And (c :: rest) pos) (tE b W f2)) : PE X (.BoolOp .And (a :: c :: rest) pos) (tE b W (andV f1 f2)) :=
  pe_mono (pe_and h1 h2) fun σ H Q ⟨Fz, g, r0, h⟩ => tG_seq r0 h fun d x g1 Fz1 H1 r1 e1 rep1 h1 => by
    cases d with
    | bl c =>
      refine ⟨c, rep_bl' rep1, ?_⟩
      cases c with
      | true => exact ⟨Fz1, g1, r1, h1⟩
      | false => exact h1.ok r1 .refl rep_bl
    | _ => exact h1.elim
theorem pd_or (h1 : PE X a (tE b W f1)) (h2 : PE X (.BoolOp .Or (c :: rest) pos) (tE b W f2)) : PE X (.BoolOp .Or (a :: c :: rest) pos) (tE b W (orV f1 f2)) :=
  pe_mono (pe_or h1 h2) fun σ H Q ⟨Fz, g, r0, h⟩ => tG_seq r0 h fun d x g1 Fz1 H1 r1 e1 rep1 h1 => by
    cases d with
    | bl c =>
      refine ⟨c, rep_bl' rep1, ?_⟩
      cases c with
      | true => exact h1.ok r1 .refl rep_bl
      | false => exact ⟨Fz1, g1, r1, h1⟩
    | _ => exact h1.elim
theorem pd_not (h1 : PE X a (tE b W f1)) : PE X (.UnaryOp .Not a pos) (tE b W (notV f1)) :=
  pe_mono (pe_not h1) fun σ H Q ⟨Fz, g, r0, h⟩ => tG_seq r0 h fun d x g1 Fz1 H1 r1 e1 rep1 h1 => by
    cases d with
    | bl c => exact ⟨c, rep_bl' rep1, h1.ok r1 .refl rep_bl⟩
    | _ => exact h1.elim
theorem pd_one {op} (h1 : PE X a (tE b W f1)) : PE X (.BoolOp op [a] pos) (tE b W f1) := pe_one h1
def ifF (t : FB) (f1 f2 : FE) : FE := fun g => (t g).bd fun c g1 => if c = true then f1 g1 else f2 g1
theorem pd_if (h0 : PT X c (tBo b W fb1)) (h1 : PE X e1 (tE b W f1)) (h2 : PE X e2 (tE b W f2)) : PE X (.IfExp c e1 e2 pos) (tE b W (ifF fb1 f1 f2)) :=
  pe_mono (pe_ifExp h0 h1 h2) fun σ H Q ⟨Fz, g, r0, h⟩ => tG_seq r0 h fun d x g1 Fz1 H1 r1 e1 rep1 h1 => by
    have rep' : x = d := rep1
    subst rep'
    cases x with
    | true => exact ⟨Fz1, g1, r1, h1⟩
    | false => exact ⟨Fz1, g1, r1, h1⟩
/-- a < b < c, b a plain piece -/
def chF (o o' : D → D → Option D) (f1 f2 f3 : FE) : FE := fun g => (f1 g).bd fun d g1 => (f2 g1).bd fun e g2 => (opt (o d e) g2).bd fun z g3 => match z with
  | .bl c => if c = true then (f3 g3).bd fun k g4 => opt (o' e k) g4 else .ok (.bl false) g3
  | _ => .no
end
end DL

set_option Elab.async false
set_option linter.all false
set_option maxRecDepth 100000
set_option maxHeartbeats 4000000
/-! Den3: operators on data. -/
namespace DL
open PySem L2 PySem.Spec PyProof.Rows

theorem tint' {M : MM} {Fz : Fzn} {H : Hp} {c : Int} {x : V} (h : TRep M Fz H (.int c) x) : x = .int c := rep_int' (M := M) (Fz := Fz) (H := H) h
theorem tstr' {M : MM} {Fz : Fzn} {H : Hp} {c : Str} {x : V} (h : TRep M Fz H (.str c) x) : x = .str c := rep_str' (M := M) (Fz := Fz) (H := H) h
theorem tbl' {M : MM} {Fz : Fzn} {H : Hp} {c : Bool} {x : V} (h : TRep M Fz H (.bl c) x) : x = .bl c := rep_bl' (M := M) (Fz := Fz) (H := H) h
theorem tnon' {M : MM} {Fz : Fzn} {H : Hp} {x : V} (h : TRep M Fz H .non x) : x = .non := rep_non' (M := M) (Fz := Fz) (H := H) h
/-! ### sizes -/
def LIM : Nat := 2 ^ 2000000
def LID : Nat := 2 ^ 8000
theorem lt_LIM {n k : Nat} (h : n < 2 ^ k) (hk : k ≤ 2000000) : n < LIM := Nat.lt_of_lt_of_le h (Nat.pow_le_pow_right (by decide) hk)
theorem lt_LID {n k : Nat} (h : n < 2 ^ k) (hk : k ≤ 8000) : n < LID := Nat.lt_of_lt_of_le h (Nat.pow_le_pow_right (by decide) hk)
theorem log2_lt' {n k : Nat} (h : n < 2 ^ k) (hk : 0 < k) : n.log2 < k := by
  by_cases hn : n = 0
  · subst hn; simpa using hk
  · exact (Nat.log2_lt hn).mpr h
theorem intBits_le (x : Int) : Builtin.Int.intBits x ≤ x.natAbs.log2 + 1 := by
  unfold Builtin.Int.intBits
  split <;> omega
theorem mulOk_of {i j : Int} (h : (i * j).natAbs < LIM) : IntMulOk i j := by
  by_cases hi : i = 0
  · subst hi
    exact IntMulOk.of_left (by decide)
  by_cases hj : j = 0
  · subst hj
    exact IntMulOk.of_right (by decide)
  have h1 := intBits_le i
  have h2 := intBits_le j
  have n1 : i.natAbs ≠ 0 := by omega
  have n2 : j.natAbs ≠ 0 := by omega
  have p1 : 2 ^ i.natAbs.log2 ≤ i.natAbs := Nat.log2_self_le n1
  have p2 : 2 ^ j.natAbs.log2 ≤ j.natAbs := Nat.log2_self_le n2
  have p3 : 2 ^ (i.natAbs.log2 + j.natAbs.log2) ≤ i.natAbs * j.natAbs := by
    rw [Nat.pow_add]
    exact Nat.mul_le_mul p1 p2
  rw [Int.natAbs_mul] at h
  have p4 : 2 ^ (i.natAbs.log2 + j.natAbs.log2) < 2 ^ 2000000 := Nat.lt_of_le_of_lt p3 h
  have p5 : i.natAbs.log2 + j.natAbs.log2 < 2000000 := (Nat.pow_lt_pow_iff_right (by decide)).mp p4
  unfold IntMulOk
  intro z
  rw [Bool.and_eq_true] at z
  have z2 := z.2
  unfold Builtin.Int.intTooBig at z2
  have z3 := of_decide_eq_true z2
  have e : bitsLine = 134217728 := by decide
  rw [e] at z3
  omega

/-! ### arithmetic -/
def szOk (n : Nat) : Bool := decide (n ≤ 16777216)
theorem szOk_iff {n : Nat} : szOk n = true ↔ n ≤ 16777216 := by unfold szOk; simp
theorem szOk_le {n : Nat} (h : szOk n = true) : n ≤ sizeLine := by rw [sizeLine_eq]; exact szOk_iff.mp h
def addD : D → D → Option D
  | .int i, .int j => some (.int (i + j))
  | .lst xs, .lst ys => if szOk (xs.length + ys.length) then some (.lst (xs ++ ys)) else none
  | .tup xs, .tup ys => if szOk (xs.length + ys.length) then some (.tup (xs ++ ys)) else none
  | .str x, .str y => if szOk (x.length + y.length) then some (.str (x ++ y)) else none
  | _, _ => none
def subD : D → D → Option D
  | .int i, .int j => some (.int (i - j))
  | _, _ => none
def mulD : D → D → Option D
  | .int i, .int j => if (i * j).natAbs < LIM then some (.int (i * j)) else none
  | .lst xs, .int k => if szOk (xs.length * k.toNat) && decide (k.natAbs < 9223372036854775808) then some (.lst (List.replicate k.toNat xs).flatten) else none
  | _, _ => none
def fdivD : D → D → Option D
  | .int i, .int j => if j ≠ 0 ∧ j.natAbs < LID then some (.int (i.fdiv j)) else none
  | _, _ => none
def modD : D → D → Option D
  | .int i, .int j => if j ≠ 0 then some (.int (i.fmod j)) else none
  | _, _ => none
def powD : D → D → Option D
  | .int i, .int j => if 0 ≤ j ∧ j ≤ 1000000 ∧ i.natAbs < 2 ^ 64 then some (.int (i ^ j.toNat)) else none
  | _, _ => none
def shlD : D → D → Option D
  | .int i, .int j => if 0 ≤ j ∧ j ≤ 1000000 ∧ i.natAbs < 2 ^ 64 then some (.int (i * 2 ^ j.toNat)) else none
  | _, _ => none
def shrD : D → D → Option D
  | .int i, .int j => if 0 ≤ j then some (.int (i / 2 ^ j.toNat)) else none
  | _, _ => none
def andD : D → D → Option D
  | .int i, .int j => some (.int (Builtin.bitAnd i j))
  | _, _ => none
def orD : D → D → Option D
  | .int i, .int j => some (.int (Builtin.bitOr i j))
  | _, _ => none
def xorD : D → D → Option D
  | .int i, .int j => some (.int (Builtin.bitXor i j))
  | _, _ => none
def negD : D → Option D
  | .int i => some (.int (-i))
  | _ => none
def ltD : D → D → Option D
  | .int i, .int j => some (.bl (decide (i < j)))
  | _, _ => none
def leD : D → D → Option D
  | .int i, .int j => some (.bl (decide (i ≤ j)))
  | _, _ => none
def gtD : D → D → Option D
  | .int i, .int j => some (.bl (decide (j < i)))
  | _, _ => none
def geD : D → D → Option D
  | .int i, .int j => some (.bl (decide (j ≤ i)))
  | _, _ => none

section
variable {X : Cx} {M : MM}
/-- int operators -/
theorem opT_I {C : Int → Int → Prop} {g : Int → Int → V} {o : D → D → Option D} (h : ∀ d e z, o d e = some z → ∃ i j, d = .int i ∧ e = .int j ∧ C i j ∧ ∀ Fz H, Rep M Fz H z (g i j)) : OpT M (rI C g) o := by
  intro Fz H d e z x y Q dom rx ry eo k
  obtain ⟨i, j, rfl, rfl, c, rz⟩ := h d e z eo
  exact ⟨i, j, tint' rx, tint' ry, c, k _ Fz H .refl (rz Fz H)⟩
theorem opT_I0 {g : Int → Int → V} {o : D → D → Option D} (h : ∀ d e z, o d e = some z → ∃ i j, d = .int i ∧ e = .int j ∧ ∀ Fz H, Rep M Fz H z (g i j)) : OpT M (rI0 g) o := by
  intro Fz H d e z x y Q dom rx ry eo k
  obtain ⟨i, j, rfl, rfl, rz⟩ := h d e z eo
  exact ⟨i, j, tint' rx, tint' ry, k _ Fz H .refl (rz Fz H)⟩
theorem opt_sub : OpT M (rI0 fun i j => .int (i - j)) subD := opT_I0 fun d e z h => by
  unfold subD at h
  split at h
  · injection h with h; subst h; exact ⟨_, _, rfl, rfl, fun _ _ => rep_int⟩
  · cases h
theorem opt_lt : OpT M (rI0 fun i j => .bl (decide (i < j))) ltD := opT_I0 fun d e z h => by
  unfold ltD at h
  split at h
  · injection h with h; subst h; exact ⟨_, _, rfl, rfl, fun _ _ => rep_bl⟩
  · cases h
theorem opt_le : OpT M (rI0 fun i j => .bl (decide (i ≤ j))) leD := opT_I0 fun d e z h => by
  unfold leD at h
  split at h
  · injection h with h; subst h; exact ⟨_, _, rfl, rfl, fun _ _ => rep_bl⟩
  · cases h
theorem opt_gt : OpT M (rI0 fun i j => .bl (decide (j < i))) gtD := opT_I0 fun d e z h => by
  unfold gtD at h
  split at h
  · injection h with h; subst h; exact ⟨_, _, rfl, rfl, fun _ _ => rep_bl⟩
  · cases h
theorem opt_ge : OpT M (rI0 fun i j => .bl (decide (j ≤ i))) geD := opT_I0 fun d e z h => by
  unfold geD at h
  split at h
  · injection h with h; subst h; exact ⟨_, _, rfl, rfl, fun _ _ => rep_bl⟩
  · cases h
theorem opt_and : OpT M (rI0 fun i j => .int (Builtin.bitAnd i j)) andD := opT_I0 fun d e z h => by
  unfold andD at h
  split at h
  · injection h with h; subst h; exact ⟨_, _, rfl, rfl, fun _ _ => rep_int⟩
  · cases h
theorem opt_or : OpT M (rI0 fun i j => .int (Builtin.bitOr i j)) orD := opT_I0 fun d e z h => by
  unfold orD at h
  split at h
  · injection h with h; subst h; exact ⟨_, _, rfl, rfl, fun _ _ => rep_int⟩
  · cases h
theorem opt_xor : OpT M (rI0 fun i j => .int (Builtin.bitXor i j)) xorD := opT_I0 fun d e z h => by
  unfold xorD at h
  split at h
  · injection h with h; subst h; exact ⟨_, _, rfl, rfl, fun _ _ => rep_int⟩
  · cases h
theorem opt_pow : OpT M (rI CPow fun i j => .int (i ^ j.toNat)) powD := opT_I fun d e z h => by
  unfold powD at h
  split at h
  · split at h
    · rename_i c
      injection h with h; subst h; exact ⟨_, _, rfl, rfl, c, fun _ _ => rep_int⟩
    · cases h
  · cases h
theorem opt_shl : OpT M (rI CPow fun i j => .int (i * 2 ^ j.toNat)) shlD := opT_I fun d e z h => by
  unfold shlD at h
  split at h
  · split at h
    · rename_i c
      injection h with h; subst h; exact ⟨_, _, rfl, rfl, c, fun _ _ => rep_int⟩
    · cases h
  · cases h
theorem opt_shr : OpT M (rI (fun _ j => 0 ≤ j) fun i j => .int (i / 2 ^ j.toNat)) shrD := opT_I fun d e z h => by
  unfold shrD at h
  split at h
  · split at h
    · rename_i c
      injection h with h; subst h; exact ⟨_, _, rfl, rfl, c, fun _ _ => rep_int⟩
    · cases h
  · cases h
theorem opt_mod : OpT M (rI (fun _ j => j ≠ 0) fun i j => .int (i.fmod j)) modD := opT_I fun d e z h => by
  unfold modD at h
  split at h
  · split at h
    · rename_i c
      injection h with h; subst h; exact ⟨_, _, rfl, rfl, c, fun _ _ => rep_int⟩
    · cases h
  · cases h
def CDivL (_ j : Int) : Prop := j ≠ 0 ∧ j.natAbs < LID
theorem op_fdivL : OpR X (binaryOp .FloorDiv) (rI CDivL fun i j => .int (i.fdiv j)) := opI fun i j _ _ _ _ _ hc q =>
  floordiv_int hc.1 q (.inl (PyProof.noPylong_of_log2 (Nat.lt_trans (log2_lt' hc.2 (by decide)) (by decide))))
theorem opt_fdiv : OpT M (rI CDivL fun i j => .int (i.fdiv j)) fdivD := opT_I fun d e z h => by
  unfold fdivD at h
  split at h
  · split at h
    · rename_i c
      injection h with h; subst h; exact ⟨_, _, rfl, rfl, c, fun _ _ => rep_int⟩
    · cases h
  · cases h
def CMulL (i j : Int) : Prop := (i * j).natAbs < LIM
theorem op_mulL : OpR X (binaryOp .Mult) (rI CMulL fun i j => .int (i * j)) := opI fun i j _ _ _ _ _ hc q => mul_int q (mulOk_of hc)
/-! ### + -/
def rCatL (K : PySem.W.Frag) : R2 := fun x y H Q => ∃ l b xs zs, x = .ref l ∧ y = .ref b ∧ SqL K H l xs ∧ SqL K H b zs ∧ xs.length + zs.length ≤ sizeLine ∧ ∀ p, H p = none → Q (.ref p) (upd H p (.lst (xs ++ zs)))
theorem op_catL : OpR X (binaryOp .Add) (rCatL X.K) := by
  intro pins s σ H x y v u Q I rx ry h
  obtain ⟨l, b, xs, zs, rfl, rfl, hH, hB, hz, q⟩ := h
  cases rx
  cases ry
  obtain ⟨its, r1, ⟨⟨cls, dd, data, sl⟩, n, ho, hc, hdd, hd⟩, _⟩ := I.list hH
  obtain ⟨its2, r2, ⟨⟨cls2, dd2, data2, sl2⟩, n2, ho2, hc2, hdd2, hd2⟩, _⟩ := I.list hB
  simp only at hc hd hc2 hd2
  subst hc hd hc2 hd2
  have e : its.toArray ++ its2.toArray = (its ++ its2).toArray := by simp
  refine concat_meets ⟨_, ho, rfl⟩ ⟨_, ho2, rfl⟩ noFill_list_add seq_list_add PySem.F.slot_list_add PySem.F.entry_list_add (PySem.F.args_list_add_2 _ _) (list_addW l b its.toArray its2.toArray n n2 dd dd2 sl sl2 (by rw [List.size_toArray, List.size_toArray, ← r1.length, ← r2.length]; exact hz)) ⟨ho, ho2, ?_⟩
  rw [e]
  exact ⟨.ref _, _, I.lnew (t' := s.toks) (r1.append r2) (by rw [List.length_append]; exact hz), rfl, q _ I.fresh⟩
/-- () + t is t -/
def rCatT0 (K : PySem.W.Frag) : R2 := fun x y H Q => ∃ a b ys, x = .ref a ∧ y = .ref b ∧ SqT K H a [] ∧ SqT K H b ys ∧ Q (.ref b) H
theorem op_catT0 : OpR X (binaryOp .Add) (rCatT0 X.K) := by
  intro pins s σ H x y v u Q I rx ry h
  obtain ⟨a, b, ys, rfl, rfl, ha, hb, q⟩ := h
  cases rx
  cases ry
  obtain ⟨its, r1, ⟨⟨cls, dd, data, sl⟩, ho, hc, n, hd⟩, _⟩ := I.tuple ha
  obtain ⟨its2, r2, ⟨⟨cls2, dd2, data2, sl2⟩, ho2, hc2, n2, hd2⟩, _⟩ := I.tuple hb
  simp only at hc hd hc2 hd2
  subst hc hd hc2 hd2
  have e : its = [] := r1.nil_iff.mpr rfl
  subst e
  exact concat_meets ⟨_, ho, rfl⟩ ⟨_, ho2, rfl⟩ noFill_tuple_add seq_tuple_add PySem.F.slot_tuple_add PySem.F.entry_tuple_add (PySem.F.args_tuple_add_2 _ _)
      (tuple_addW0 a b _ its2.toArray n n2 dd dd2 sl sl2 rfl) ⟨ho, ho2, ⟨.ref b, H, I, rfl, q⟩⟩
def rStr : R2 := fun x y H Q => ∃ i j, x = .str i ∧ y = .str j ∧ i.length + j.length ≤ sizeLine ∧ Q (.str (i ++ j)) H
def rAddA (K : PySem.W.Frag) : R2 := fun x y H Q => (((rI0 (fun i j => .int (i + j)) x y H Q ∨ rCatL K x y H Q) ∨ rCatT0 K x y H Q) ∨ rCatT K x y H Q) ∨ rStr x y H Q
theorem op_addA : OpR X (binaryOp .Add) (rAddA X.K) := (((op_add.or op_catL).or op_catT0).or op_catT).or op_add_str
theorem sqT_rep {Fz : Fzn} {H : Hp} {ds : List D} {x : V} (h : Rep M Fz H (.tup ds) x) : ∃ a vs, x = .ref a ∧ SqT M.K H a vs ∧ RepL M Fz H ds vs := by unfold Rep at h; exact h
theorem rep_tup {Fz : Fzn} {H : Hp} {ds : List D} {a : Addr} {vs : List V} (h : SqT M.K H a vs) (r : RepL M Fz H ds vs) : Rep M Fz H (.tup ds) (.ref a) := by unfold Rep; exact ⟨a, vs, rfl, h, r⟩
theorem rep_lst {Fz : Fzn} {H : Hp} {ds : List D} {a : Addr} {vs : List V} (h : LsF M.K Fz H a vs) (r : RepL M Fz H ds vs) : Rep M Fz H (.lst ds) (.ref a) := by unfold Rep; exact ⟨a, vs, rfl, h, r⟩
theorem rep_lst' {Fz : Fzn} {H : Hp} {ds : List D} {x : V} (h : Rep M Fz H (.lst ds) x) : ∃ a vs, x = .ref a ∧ LsF M.K Fz H a vs ∧ RepL M Fz H ds vs := by unfold Rep at h; exact h
/-- a new list, at once frozen -/
theorem newL {Fz : Fzn} {H : Hp} {ds : List D} {vs : List V} {p : Addr} (hp : H p = none) (r : RepL M Fz H ds vs) : GrowTo Fz H (fzAdd Fz p) (upd H p (.lst vs)) ∧ Rep M (fzAdd Fz p) (upd H p (.lst vs)) (.lst ds) (.ref p) :=
  ⟨.allocF hp, rep_lst (.inl ⟨.inr rfl, upd_same⟩) (r.grow (.allocF hp))⟩
theorem newT {Fz : Fzn} {H : Hp} {ds : List D} {vs : List V} {p : Addr} (hp : H p = none) (r : RepL M Fz H ds vs) : GrowTo Fz H Fz (upd H p (.tup vs)) ∧ Rep M Fz (upd H p (.tup vs)) (.tup ds) (.ref p) :=
  ⟨.alloc hp, rep_tup (.inl (.inl upd_same)) (r.grow (.alloc hp))⟩
theorem opt_add : OpT M (rAddA M.K) addD := by
  intro Fz H d e z x y Q dom rx ry eo k
  unfold addD at eo
  split at eo
  · injection eo with eo; subst eo
    exact .inl (.inl (.inl (.inl ⟨_, _, tint' rx, tint' ry, k _ Fz H .refl rep_int⟩)))
  · split at eo
    · rename_i hz
      injection eo with eo; subst eo
      obtain ⟨a, vs, rfl, h1, r1⟩ := rx
      obtain ⟨b, ws, rfl, h2, r2⟩ := ry
      refine .inl (.inl (.inl (.inr ⟨a, b, vs, ws, rfl, rfl, h1, h2, ?_, fun p hp => ?_⟩)))
      · rw [← r1.length, ← r2.length]; exact szOk_le hz
      · obtain ⟨g, r⟩ := newL (M := M) hp (r1.append r2)
        exact k _ _ _ g r
    · cases eo
  · split at eo
    · rename_i xs ys hz
      injection eo with eo; subst eo
      obtain ⟨a, vs, rfl, h1, r1⟩ := sqT_rep rx
      obtain ⟨b, ws, rfl, h2, r2⟩ := sqT_rep ry
      by_cases hx : xs = []
      · subst hx
        have ev := RepL.nil_iff.mp r1
        subst ev
        exact .inl (.inl (.inr ⟨a, b, ws, rfl, rfl, h1, h2, k _ Fz H .refl ry⟩))
      · have nv : vs ≠ [] := fun q => by
          subst q
          have := r1.length
          exact hx (List.length_eq_zero_iff.mp this)
        refine .inl (.inr ⟨a, b, vs, ws, rfl, rfl, h1, h2, nv, by rw [← r1.length, ← r2.length]; exact szOk_le hz, fun hw => ?_, fun hw p hp => ?_⟩)
        · subst hw
          have e : ys = [] := by
            have := r2.length
            exact List.length_eq_zero_iff.mp this
          subst e
          rw [List.append_nil] at k
          exact k _ Fz H .refl rx
        · obtain ⟨g, r⟩ := newT (M := M) hp (r1.append r2)
          exact k _ _ _ g r
    · cases eo
  · split at eo
    · rename_i hz
      injection eo with eo; subst eo
      exact .inr ⟨_, _, tstr' rx, tstr' ry, szOk_le hz, k _ Fz H .refl rep_str⟩
    · cases eo
  · cases eo
def mulI : D → D → Option D
  | .int i, .int j => if (i * j).natAbs < LIM then some (.int (i * j)) else none
  | _, _ => none
theorem opt_mulI : OpT M (rI CMulL fun i j => .int (i * j)) mulI := opT_I fun d e z h => by
  unfold mulI at h
  split at h
  · split at h
    · rename_i c
      injection h with h; subst h; exact ⟨_, _, rfl, rfl, c, fun _ _ => rep_int⟩
    · cases h
  · cases h
theorem unt_neg : UnT M (rU fun i => .int (-i)) negD := by
  intro Fz H d z x Q dom rx eo k
  unfold negD at eo
  split at eo
  · injection eo with eo; subst eo
    exact ⟨_, rep_int' rx, k _ Fz H .refl rep_int⟩
  · cases eo


/-! ### a list times an int -/
theorem int_rmulW (a : Int) (t : Tok) (l : Addr) (items : Array Value) (n : Nat) (dd : Option Addr) (sl : Array (Option Value)) :
    Meets (Builtin.«int.__rmul__» ⟨[.int a t, .ref l], []⟩) (fun _ R s => s.heap.get? l = some { cls := .type "list", dict := dd, data := .seq items n, slots := sl } ∧ R (.ok (.ret Value.notImplemented)) s) :=
  .of_wp fun prog w A R s h => by obtain ⟨hp, g, d, tk, os⟩ := s; obtain ⟨hl, h⟩ := h; wp_walk; exact ⟨_, rfl, h⟩
theorem list_mulW (l : Addr) (items : Array Value) (n : Nat) (x : Int) (u : Tok) (dd : Option Addr) (sl : Array (Option Value)) (hc0 : ¬(!Builtin.List.listFitsIndex x) = true) (hc1 : ¬items.size * x.toNat > (2 ^ 63 - 1) / 8) (hc2 : ¬Builtin.List.listTooLong (items.size * x.toNat) = true) :
    Meets (Builtin.«list.__mul__» ⟨[.ref l, .int x u], []⟩) (fun _ R s => s.heap.get? l = some { cls := .type "list", dict := dd, data := .seq items n, slots := sl } ∧ R (.ok (.ret (Value.ref s.heap.objs.size))) { s with heap := s.heap.push { cls := Value.type "list", data := Data.seq (List.foldl (fun x1 x2 => x1 ++ x2) #[] (List.replicate (if items.isEmpty = true then 0 else x.toNat) items)) }, toks := s.toks }) :=
  .of_wp fun prog w A R s h => by
    obtain ⟨hp, g, d, tk, os⟩ := s; obtain ⟨hl, h⟩ := h
    have hsz := AutoListH.joined_fits hc2
    wp_walk using AutoSeq1.wpAny_loadPart' hl
    refine wpAny_ite_false (decide_eq_false (Nat.not_lt.mpr hsz)) ?_
    wp_walk
    exact ⟨_, rfl, h⟩
def rRepL (K : PySem.W.Frag) : R2 := fun x y H Q => ∃ l k xs, x = .ref l ∧ y = .int k ∧ SqL K H l xs ∧ -(2 ^ 63) ≤ k ∧ k < 2 ^ 63 ∧ xs.length * k.toNat ≤ sizeLine ∧
  ∀ p, H p = none → Q (.ref p) (upd H p (.lst (List.replicate k.toNat xs).flatten))
theorem op_repL : OpR X (binaryOp .Mult) (rRepL X.K) := by
  intro pins s σ H x y v u Q I rx ry h
  obtain ⟨l, k, xs, rfl, rfl, hH, h1, h2, hz, q⟩ := h
  cases rx
  obtain ⟨t, rfl⟩ := ry
  obtain ⟨its, r, ⟨⟨cls, dd, data, sl⟩, n, e, hc, hdd, hd⟩, _⟩ := I.list hH
  simp only at hc hd
  subst hc hd
  have hl := r.length
  have hlen : its.toArray.size * k.toNat ≤ sizeLine := by rw [List.size_toArray, ← hl]; exact hz
  have hcap : ¬ its.toArray.size * k.toNat > (2 ^ 63 - 1) / 8 := by
    have : (sizeLine : Nat) ≤ (2 ^ 63 - 1) / 8 := by decide
    omega
  have hfit : ¬ (!Builtin.List.listFitsIndex k) = true := by
    rw [fitsIndex_both h1 h2]
    exact Bool.false_ne_true
  have hlong : ¬ Builtin.List.listTooLong (its.toArray.size * k.toNat) = true := by
    rw [notLongL hlen]
    exact Bool.false_ne_true
  have hnew : List.foldl (fun x1 x2 => x1 ++ x2) #[] (List.replicate (if its.toArray.isEmpty = true then 0 else k.toNat) its.toArray) = (List.replicate k.toNat its).flatten.toArray := by
    have f0 : ∀ m : Nat, List.foldl (fun x1 x2 => x1 ++ x2) #[] (List.replicate m its.toArray) = (List.replicate m its).flatten.toArray := fun m => by
      have := foldl_rep its m []
      rw [List.nil_append] at this
      exact this
    rw [f0]
    cases its with
    | nil => simp
    | cons a r' => rw [if_neg (by simp)]
  refine wpAny_binaryOp_repeat_ref (T := "list") (U := "int") (by decide) ⟨_, e, rfl⟩ (fun s' => typeIs_int s' k t) noFill_list_mul F.fills_int_mul F.slot_int_rmul repeat_list F.slot_int_index.lookup
    (call_meets F.slot_int_rmul (typeIs_int s k t) F.entry_int_rmul (F.args_int_rmul_2 _ _) (int_rmulW k t l its.toArray n dd sl)
      ⟨e, rfl, ⟨_, e, rfl⟩, call_meets F.slot_list_mul ⟨_, e, rfl⟩ F.entry_list_mul (F.args_list_mul_2 _ _) (list_mulW l its.toArray n k t dd sl hfit hcap hlong) ⟨e, ?_⟩⟩)
  rw [hnew]
  exact ⟨.ref _, _, I.lnew (t' := s.toks) (r.rep k.toNat) (by rw [PyProof.Rows.lm_len_rep_flat, Nat.mul_comm]; exact hz), rfl, q _ I.fresh⟩
def rMulA (K : PySem.W.Frag) : R2 := fun x y H Q => rI CMulL (fun i j => .int (i * j)) x y H Q ∨ rRepL K x y H Q
theorem op_mulA : OpR X (binaryOp .Mult) (rMulA X.K) := op_mulL.or op_repL
theorem opt_mul : OpT M (rMulA M.K) mulD := by
  intro Fz H d e z x y Q dom rx ry eo k
  unfold mulD at eo
  split at eo
  · split at eo
    · rename_i c
      injection eo with eo; subst eo
      exact .inl ⟨_, _, tint' rx, tint' ry, c, k _ Fz H .refl rep_int⟩
    · cases eo
  · split at eo
    · rename_i hz
      simp only [Bool.and_eq_true, decide_eq_true_eq] at hz
      injection eo with eo; subst eo
      obtain ⟨a, vs, rfl, h1, r1⟩ := rx
      refine .inr ⟨a, _, vs, rfl, tint' ry, h1, by omega, by omega, by rw [← r1.length]; exact szOk_le hz.1, fun p hp => ?_⟩
      obtain ⟨g, r⟩ := newL (M := M) hp (r1.rep _)
      exact k _ _ _ g r
    · cases eo
  · cases eo

/-! ### == -/
end
mutual
def D.eqb : D → D → Bool
  | .non, e => match e with
    | .non => true
    | _ => false
  | .bl a, e => match e with
    | .bl b => a == b
    | .int j => (if a then 1 else 0) == j
    | _ => false
  | .int i, e => match e with
    | .bl b => i == (if b then 1 else 0)
    | .int j => i == j
    | _ => false
  | .str x, e => match e with
    | .str y => x == y
    | _ => false
  | .lst xs, e => match e with
    | .lst ys => D.eqbs xs ys
    | _ => false
  | .tup xs, e => match e with
    | .tup ys => D.eqbs xs ys
    | _ => false
  | .obj _ _ _, _ => false
  | .emp, _ => false
def D.eqbs : List D → List D → Bool
  | [], es => match es with
    | [] => true
    | _ => false
  | x :: xs, es => match es with
    | [] => false
    | y :: ys => D.eqb x y && D.eqbs xs ys
end
mutual
def D.py : D → PyData
  | .non => .none
  | .bl b => .bool b
  | .int i => .int i
  | .str x => .str x
  | .lst ds => .list (D.pys ds)
  | .tup ds => .tuple (D.pys ds)
  | .obj _ _ _ => .none
  | .emp => .none
def D.pys : List D → List PyData
  | [] => []
  | d :: ds => D.py d :: D.pys ds
end
/-- plain data (no instance), texts well-formed, at most so deep -/
def okN : Nat → D → Bool
  | _, .non => true
  | _, .bl _ => true
  | _, .int _ => true
  | _, .str x => x.cps.all (· < 0x110000)
  | n + 1, .lst ds => ds.all (okN n)
  | n + 1, .tup ds => ds.all (okN n)
  | _, _ => false
theorem pys_eq (ds : List D) : D.pys ds = ds.map D.py := by
  induction ds with
  | nil => simp [D.pys]
  | cons d ds ih => simp [D.pys, ih]
theorem okN_py : ∀ (n : Nat) (d : D), okN n d = true → d.py.canLay0 = true ∧ d.py.depth ≤ n := by
  intro n
  induction n with
  | zero =>
    intro d h
    cases d with
    | lst ds => cases h
    | tup ds => cases h
    | obj c ns ds => cases h
    | emp => cases h
    | str x => exact ⟨h, Nat.le_refl _⟩
    | _ => exact ⟨rfl, Nat.le_refl _⟩
  | succ n ih =>
    have all : ∀ ds : List D, ds.all (okN n) = true → PyData.canLayAll0 (D.pys ds) = true ∧ PyData.depthAll (D.pys ds) ≤ n := by
      intro ds
      induction ds with
      | nil => intro _; exact ⟨rfl, Nat.zero_le _⟩
      | cons d ds ih2 =>
        intro h
        rw [List.all_cons, Bool.and_eq_true] at h
        have h1 := ih d h.1
        have h2 := ih2 h.2
        refine ⟨?_, ?_⟩
        · rw [D.pys, PyData.canLayAll0, h1.1, h2.1]; rfl
        · rw [D.pys, PyData.depthAll]; omega
    intro d h
    cases d with
    | lst ds =>
      have h' := all ds h
      exact ⟨by rw [D.py, PyData.canLay0]; exact h'.1, by rw [D.py, PyData.depth]; omega⟩
    | tup ds =>
      have h' := all ds h
      exact ⟨by rw [D.py, PyData.canLay0]; exact h'.1, by rw [D.py, PyData.depth]; omega⟩
    | obj c ns ds => cases h
    | emp => cases h
    | str x => exact ⟨h, Nat.zero_le _⟩
    | non => exact ⟨rfl, Nat.zero_le _⟩
    | bl b => exact ⟨rfl, Nat.zero_le _⟩
    | int i => exact ⟨rfl, Nat.zero_le _⟩
theorem okN_shaped {d : D} (h : okN 20 d = true) : SeqAt.shaped d.py = true := by
  obtain ⟨h1, h2⟩ := okN_py 20 d h
  unfold SeqAt.shaped
  rw [h1]
  simp
  omega
mutual
theorem eqb_py : ∀ (n : Nat) (d e : D), okN n d = true → (∃ m, okN m e = true) → PyData.eqv d.py e.py = D.eqb d e
  | n, .non, e, _, he => by cases e <;> simp_all [D.py, D.eqb, PyData.eqv, okN]
  | n, .bl a, e, _, he => by cases e <;> simp_all [D.py, D.eqb, PyData.eqv, okN]
  | n, .int a, e, _, he => by cases e <;> simp_all [D.py, D.eqb, PyData.eqv, okN]
  | n, .str a, e, _, he => by cases e <;> simp_all [D.py, D.eqb, PyData.eqv, okN]
  | 0, .lst _, _, h, _ => by simp [okN] at h
  | 0, .tup _, _, h, _ => by simp [okN] at h
  | n + 1, .lst xs, e, h, he => by
    cases e with
    | lst ys =>
      rw [D.py, D.py, D.eqb, PyData.eqv]
      refine eqbs_py n xs ys (by simpa [okN] using h) ?_
      obtain ⟨m, hm⟩ := he
      cases m with
      | zero => simp [okN] at hm
      | succ m => exact ⟨m, by simpa [okN] using hm⟩
    | _ => simp_all [D.py, D.eqb, PyData.eqv, okN]
  | n + 1, .tup xs, e, h, he => by
    cases e with
    | tup ys =>
      rw [D.py, D.py, D.eqb, PyData.eqv]
      refine eqbs_py n xs ys (by simpa [okN] using h) ?_
      obtain ⟨m, hm⟩ := he
      cases m with
      | zero => simp [okN] at hm
      | succ m => exact ⟨m, by simpa [okN] using hm⟩
    | _ => simp_all [D.py, D.eqb, PyData.eqv, okN]
  | n, .obj c ns ds, e, h, _ => by cases n <;> simp [okN] at h
  | n, .emp, e, h, _ => by cases n <;> simp [okN] at h
theorem eqbs_py : ∀ (n : Nat) (xs ys : List D), (∀ d ∈ xs, okN n d = true) → (∃ m, ∀ d ∈ ys, okN m d = true) → PyData.eqvAll (D.pys xs) (D.pys ys) = D.eqbs xs ys
  | n, [], ys, _, _ => by cases ys <;> simp [D.pys, D.eqbs, PyData.eqvAll]
  | n, x :: xs, [], _, _ => by simp [D.pys, D.eqbs, PyData.eqvAll]
  | n, x :: xs, y :: ys, h, ⟨m, hm⟩ => by
    rw [D.pys, D.pys, D.eqbs, PyData.eqvAll]
    rw [eqb_py n x y (h x List.mem_cons_self) ⟨m, hm y List.mem_cons_self⟩, eqbs_py n xs ys (fun d q => h d (List.mem_cons_of_mem _ q)) ⟨m, fun d q => hm d (List.mem_cons_of_mem _ q)⟩]
end
section
variable {X : Cx} {M : MM} {Fz : Fzn} {H : Hp}
mutual
theorem rep_dp : ∀ (n : Nat) (d : D) (v : V), okN n d = true → Rep M Fz H d v → Dp M.K H v d.py
  | _, .non, v, _, r => by have := rep_non' r; subst this; rw [D.py]; exact .non
  | _, .bl b, v, _, r => by have := rep_bl' r; subst this; rw [D.py]; exact .bl b
  | _, .int b, v, _, r => by have := rep_int' r; subst this; rw [D.py]; exact .int b
  | _, .str b, v, _, r => by have := rep_str' r; subst this; rw [D.py]; exact .str b
  | 0, .lst _, _, h, _ => by simp [okN] at h
  | 0, .tup _, _, h, _ => by simp [okN] at h
  | n + 1, .lst ds, v, h, r => by
    obtain ⟨a, vs, rfl, h1, r1⟩ := rep_lst' r
    rw [D.py]
    exact .lst h1.sq (repL_dp n ds vs (by simpa [okN] using h) r1)
  | n + 1, .tup ds, v, h, r => by
    obtain ⟨a, vs, rfl, h1, r1⟩ := sqT_rep r
    rw [D.py]
    exact .tup h1 (repL_dp n ds vs (by simpa [okN] using h) r1)
  | n, .obj c ns ds, _, h, _ => by cases n <;> simp [okN] at h
  | n, .emp, _, h, _ => by cases n <;> simp [okN] at h
theorem repL_dp : ∀ (n : Nat) (ds : List D) (vs : List V), (∀ d ∈ ds, okN n d = true) → RepL M Fz H ds vs → DpAll M.K H vs (D.pys ds)
  | n, [], vs, _, r => by
    have := RepL.nil_iff.mp r
    subst this
    rw [D.pys]; exact .nil
  | n, d :: ds, vs, h, r => by
    obtain ⟨v, r', rfl, r1, r2⟩ := RepL.cons_iff.mp r
    rw [D.pys]
    exact .cons (rep_dp n d v (h d List.mem_cons_self) r1) (repL_dp n ds r' (fun d q => h d (List.mem_cons_of_mem _ q)) r2)
end
theorem trep_dp {n : Nat} {d : D} {v : V} (h : okN n d = true) (r : TRep M Fz H d v) : Dp M.K H v d.py := by
  cases d with
  | lst ds =>
    obtain ⟨a, vs, rfl, h1, r1⟩ := r
    rw [D.py]
    cases n with
    | zero => simp [okN] at h
    | succ n => exact .lst h1 (repL_dp n ds vs (by simpa [okN] using h) r1)
  | _ => exact rep_dp (Fz := Fz) n _ v h r
/-- == -/
def eqD (d e : D) : Option D := if okN 20 d && okN 20 e then some (.bl (D.eqb d e)) else none
def neD (d e : D) : Option D := if okN 20 d && okN 20 e then some (.bl (!D.eqb d e)) else none
theorem opt_eq : OpT M (rEqD M.K) eqD := by
  intro Fz H d e z x y Q dom rx ry eo k
  unfold eqD at eo
  split at eo
  · rename_i h
    rw [Bool.and_eq_true] at h
    injection eo with eo; subst eo
    refine ⟨d.py, e.py, trep_dp h.1 rx, trep_dp h.2 ry, okN_shaped h.1, okN_shaped h.2, ?_⟩
    rw [eqb_py 20 d e h.1 ⟨20, h.2⟩]
    exact k _ Fz H .refl rep_bl
  · cases eo
theorem opt_ne : OpT M (rNeD M.K) neD := by
  intro Fz H d e z x y Q dom rx ry eo k
  unfold neD at eo
  split at eo
  · rename_i h
    rw [Bool.and_eq_true] at h
    injection eo with eo; subst eo
    refine ⟨d.py, e.py, trep_dp h.1 rx, trep_dp h.2 ry, okN_shaped h.1, okN_shaped h.2, ?_⟩
    rw [eqb_py 20 d e h.1 ⟨20, h.2⟩]
    exact k _ Fz H .refl rep_bl
  · cases eo
theorem op_eqR {k : Nat} (hr : Room k X.A) : OpR X (compareOp .Eq) (rEqD X.K) := op_eqD hr.units
theorem op_neR {k : Nat} (hr : Room k X.A) : OpR X (compareOp .NotEq) (rNeD X.K) := op_neD hr.units

/-! ### in -/
def rInD (K : PySem.W.Frag) (neg : Bool) : R2 := fun x y H Q => ∃ d es, Dp K H x d ∧ (Dp K H y (.list es) ∨ Dp K H y (.tuple es)) ∧ SeqAt.shaped d = true ∧ PyData.canLayAll0 es = true ∧ Q (.bl (if neg then !(es.any fun y => PyData.eqv y d) else es.any fun y => PyData.eqv y d)) H
theorem room_in {A : Around} {xs : List PyData} {d : PyData} (hd : SeqAt.shaped d = true) (hu : A.units + 65 < cLine) : A.units + 1 + min (PyData.depthAll xs) d.depth < cLine := by
  have h1 := SeqAt.depth_of_shaped hd
  have h2 : min (PyData.depthAll xs) d.depth ≤ d.depth := Nat.min_le_right _ _
  omega
theorem op_inD (hu : X.A.units + 65 < cLine) : OpR X (compareOp .In) (rInD X.K false) := by
  intro pins s σ H x y v u Q I rx ry h
  obtain ⟨d, es, hd, he, sd, se, q⟩ := h
  obtain ⟨as, r1⟩ := Dp.reads I d x v hd rx
  rcases he with he | he
  · obtain ⟨bs, r2⟩ := Dp.reads I _ y u he ry
    exact SeqAt.in_list_reads r2 r1 se (SeqAt.canLay_of_shaped sd) (room_in sd hu) ⟨.bl _, H, I, rfl, q⟩
  · obtain ⟨bs, r2⟩ := Dp.reads I _ y u he ry
    exact SeqAt.in_tuple_reads r2 r1 se (SeqAt.canLay_of_shaped sd) (room_in sd hu) ⟨.bl _, H, I, rfl, q⟩
theorem op_notInD (hu : X.A.units + 65 < cLine) : OpR X (compareOp .NotIn) (rInD X.K true) := by
  intro pins s σ H x y v u Q I rx ry h
  obtain ⟨d, es, hd, he, sd, se, q⟩ := h
  obtain ⟨as, r1⟩ := Dp.reads I d x v hd rx
  rcases he with he | he
  · obtain ⟨bs, r2⟩ := Dp.reads I _ y u he ry
    exact SeqAt.notIn_list_reads r2 r1 se (SeqAt.canLay_of_shaped sd) (room_in sd hu) ⟨.bl _, H, I, rfl, q⟩
  · obtain ⟨bs, r2⟩ := Dp.reads I _ y u he ry
    exact SeqAt.notIn_tuple_reads r2 r1 se (SeqAt.canLay_of_shaped sd) (room_in sd hu) ⟨.bl _, H, I, rfl, q⟩
def memD (d : D) (es : List D) : Bool := es.any fun y => D.eqb y d
def inD : D → D → Option D
  | d, .lst es => if okN 20 d && es.all (okN 20) then some (.bl (memD d es)) else none
  | d, .tup es => if okN 20 d && es.all (okN 20) then some (.bl (memD d es)) else none
  | _, _ => none
def notInD : D → D → Option D
  | d, .lst es => if okN 20 d && es.all (okN 20) then some (.bl (!memD d es)) else none
  | d, .tup es => if okN 20 d && es.all (okN 20) then some (.bl (!memD d es)) else none
  | _, _ => none
theorem any_py {d : D} (hd : okN 20 d = true) : ∀ es : List D, es.all (okN 20) = true → (D.pys es).any (fun y => PyData.eqv y d.py) = memD d es
  | [], _ => by simp [D.pys, memD]
  | e :: es, h => by
    rw [List.all_cons, Bool.and_eq_true] at h
    rw [D.pys, List.any_cons, any_py hd es h.2, eqb_py 20 e d h.1 ⟨20, hd⟩]
    simp [memD]
theorem lays {es : List D} (h : es.all (okN 20) = true) : PyData.canLayAll0 (D.pys es) = true := by
  have z := okN_py 21 (.lst es) (by simpa [okN] using h)
  have z1 := z.1
  rw [D.py, PyData.canLay0] at z1
  exact z1
theorem in_aux {Q : VK} {d : D} {es : List D} {x y : V} {neg : Bool} {c : Bool} (h : (okN 20 d && es.all (okN 20)) = true) (rx : TRep M Fz H d x) (ry : TRep M Fz H (.lst es) y ∨ TRep M Fz H (.tup es) y) (hc : c = if neg then !memD d es else memD d es) (k : Q (.bl c) H) : rInD M.K neg x y H Q := by
  rw [Bool.and_eq_true] at h
  refine ⟨d.py, D.pys es, trep_dp h.1 rx, ?_, okN_shaped h.1, lays h.2, ?_⟩
  · rcases ry with ry | ry
    · have z := trep_dp (n := 21) (d := .lst es) (by simpa [okN] using h.2) ry
      rw [D.py] at z
      exact .inl z
    · have z := trep_dp (n := 21) (d := .tup es) (by simpa [okN] using h.2) ry
      rw [D.py] at z
      exact .inr z
  · rw [any_py h.1 es h.2, ← hc]
    exact k
theorem opt_in : OpT M (rInD M.K false) inD := by
  intro Fz H d e z x y Q dom rx ry eo k
  unfold inD at eo
  split at eo
  · split at eo
    · rename_i h
      injection eo with eo; subst eo
      exact in_aux h rx (.inl ry) (by simp) (k _ Fz H .refl rep_bl)
    · cases eo
  · split at eo
    · rename_i h
      injection eo with eo; subst eo
      exact in_aux h rx (.inr ry) (by simp) (k _ Fz H .refl rep_bl)
    · cases eo
  · cases eo
theorem opt_notIn : OpT M (rInD M.K true) notInD := by
  intro Fz H d e z x y Q dom rx ry eo k
  unfold notInD at eo
  split at eo
  · split at eo
    · rename_i h
      injection eo with eo; subst eo
      exact in_aux h rx (.inl ry) (by simp) (k _ Fz H .refl rep_bl)
    · cases eo
  · split at eo
    · rename_i h
      injection eo with eo; subst eo
      exact in_aux h rx (.inr ry) (by simp) (k _ Fz H .refl rep_bl)
    · cases eo
  · cases eo
theorem op_inR {k : Nat} (hr : Room k X.A) : OpR X (compareOp .In) (rInD X.K false) := op_inD (by have := hr.un; omega)
theorem op_notInR {k : Nat} (hr : Room k X.A) : OpR X (compareOp .NotIn) (rInD X.K true) := op_notInD (by have := hr.un; omega)

/-! ### is None -/
def D.isNon : D → Bool
  | .non => true
  | _ => false
def isD : D → D → Option D
  | d, .non => some (.bl d.isNon)
  | _, _ => none
def isNotD : D → D → Option D
  | d, .non => some (.bl (!d.isNon))
  | _, _ => none
theorem isNon_rep {d : D} {x : V} (r : TRep M Fz H d x) : decide (x = .non) = d.isNon := by
  cases d with
  | non => rw [tnon' r]; rfl
  | bl b => rw [tbl' r]; rfl
  | int i => rw [tint' r]; rfl
  | str i => rw [tstr' r]; rfl
  | tup ds =>
    obtain ⟨a, vs, rfl, _⟩ := sqT_rep (M := M) (Fz := Fz) (H := H) r
    rfl
  | lst ds =>
    obtain ⟨a, vs, rfl, _⟩ := r
    rfl
  | obj c ns ds =>
    have r' : Rep M Fz H (.obj c ns ds) x := r
    unfold Rep at r'
    obtain ⟨a, C, vs, rfl, _⟩ := r'
    rfl
  | emp =>
    have r' : Rep M Fz H .emp x := r
    unfold Rep at r'
    obtain ⟨a, rfl, _⟩ := r'
    rfl
theorem opt_is : OpT M (fun x y H Q => y = .non ∧ Q (.bl (decide (x = .non))) H) isD := by
  intro Fz H d e z x y Q dom rx ry eo k
  unfold isD at eo
  split at eo
  · injection eo with eo; subst eo
    refine ⟨tnon' ry, ?_⟩
    rw [isNon_rep rx]
    exact k _ Fz H .refl rep_bl
  · cases eo
theorem opt_isNot : OpT M (fun x y H Q => y = .non ∧ Q (.bl (!decide (x = .non))) H) isNotD := by
  intro Fz H d e z x y Q dom rx ry eo k
  unfold isNotD at eo
  split at eo
  · injection eo with eo; subst eo
    refine ⟨tnon' ry, ?_⟩
    rw [isNon_rep rx]
    exact k _ Fz H .refl rep_bl
  · cases eo

/-! ### items -/
def ixD : D → D → Option D
  | .lst ds, .int i => atI ds i
  | .tup ds, .int i => atI ds i
  | _, _ => none
theorem atI_rep {ds : List D} {vs : List V} {i : Int} {d : D} (r : RepL M Fz H ds vs) (h : atI ds i = some d) : ∃ v, atI vs i = some v ∧ Rep M Fz H d v := by
  unfold atI at h ⊢
  rw [← r.length]
  obtain ⟨j, hj, e⟩ := Option.bind_eq_some_iff.mp h
  obtain ⟨v, hv, rv⟩ := r.get e
  exact ⟨v, by rw [hj]; exact hv, rv⟩
def rIxA (K : PySem.W.Frag) : R2 := fun x y H Q => rIxL K x y H Q ∨ rIxT K x y H Q
theorem ix_A : IxR X (rIxA X.K) := ix_list.or ix_tup
theorem opt_ix : OpT M (rIxA M.K) ixD := by
  intro Fz H d e z x y Q dom rx ry eo k
  unfold ixD at eo
  split at eo
  · obtain ⟨a, vs, rfl, h1, r1⟩ := rx
    obtain ⟨v, hv, rv⟩ := atI_rep r1 eo
    exact .inl ⟨a, vs, _, v, rfl, tint' ry, h1, hv, k _ Fz H .refl rv⟩
  · obtain ⟨a, vs, rfl, h1, r1⟩ := sqT_rep (M := M) (Fz := Fz) (H := H) rx
    obtain ⟨v, hv, rv⟩ := atI_rep r1 eo
    exact .inr ⟨a, vs, _, v, rfl, tint' ry, h1, hv, k _ Fz H .refl rv⟩
  · cases eo
end
end DL

set_option Elab.async false
set_option linter.all false
set_option maxRecDepth 100000
set_option maxHeartbeats 4000000
/-! Den4: argument lists, displays, built-in functions, isinstance, fields, calls of defs. -/
namespace DL
open PySem L2 PySem.Spec PyProof.Rows

/-- a fresh list is frozen -/
theorem BRel.fzFresh {b : B} {Fz : Fzn} {g : Sg} {σ : L2.St} {H : Hp} {p : Addr} {u : HO} (r : BRel b Fz g σ H) (h0 : b.H0 p = none) (hu : H p = some u) (hA : ∀ i, ¬ AOwn g σ H i p) : BRel b (fzAdd Fz p) g σ H := by
  have ho : ∀ i, ¬ Own g σ i p := fun i z => hA i (.inl z)
  have ex : Ext Fz H (fzAdd Fz p) H := ⟨fun _ q => .inl q, fun _ _ q _ => .of q⟩
  refine ⟨⟨fun a q => ?_, fun a q => .inl (r.gr.fz a q), fun a q => ?_, r.gr.fr, r.gr.oa, r.gr.tb⟩, ⟨r.rel.len, fun i t q => ?_, r.rel.apart⟩, r.own, r.pin, r.px, r.nst.step rfl ex (fun i dss h => ⟨h, rfl⟩) (fun _ _ _ => rfl) fun j x q => let ⟨k1, k2, k3⟩ := r.nst.free j x q; ⟨fun z => z.elim k1 fun z => hA j (.inr (by rw [← z]; exact q)), k2, k3⟩⟩
  · rcases q with q | q
    · exact r.gr.dom a q
    · subst q; exact ⟨u, hu⟩
  · rcases q with q | q
    · exact r.gr.new a q
    · subst q; exact .inr h0
  · have z := r.slot q
    by_cases ht : t.isOw = true
    · obtain ⟨x, o, e3, n3, h3, w3⟩ := z.own ht
      refine SlotOk.of_own e3 (fun y => ?_) h3 (w3.mono ex)
      rcases y with y | y
      · exact n3 y
      · subst y
        exact ho i ⟨⟨t, q, ht⟩, e3⟩
    · cases t with
      | un => trivial
      | on dss => trivial
      | v d => obtain ⟨x, e3, r3⟩ := z; exact ⟨x, e3, Rep.mono ex d x r3⟩
      | _ => exact absurd rfl ht

section
variable {X : Cx} {b : B} {W : WX} {e e1 e2 e3 : Expr} {es : List Expr} {f f1 f2 f3 : FE} {pos p p2 : Pos}

/-! ### argument lists -/
def nilA : FA := fun g => .ok [] g
def consA (f : FE) (fr : FA) : FA := fun g => (f g).bd fun d g1 => (fr g1).bd fun ds g2 => .ok (d :: ds) g2
theorem pda_nil : PA X [] (tAr b W nilA) := pa_mono pa_nil fun σ H Q ⟨Fz, g, r, h⟩ => h [] H Fz r .refl RepL.nil
theorem pda_cons {fr : FA} (h1 : PE X e (tE b W f)) (h2 : PA X es (tAr b W fr)) (hs : starEach (e :: es) X.env = (false, eval e X.env) :: starEach es X.env := by rfl) : PA X (e :: es) (tAr b W (consA f fr)) :=
  pa_mono (pa_cons h1 h2 hs) fun σ H Q ⟨Fz, g, r, h⟩ => tG_seq r h fun d x g1 Fz1 H1 r1 e1 rep1 h1 => tG_seq r1 h1 fun ds xs g2 Fz2 H2 r2 e2 rep2 h2 => h2.ok r2 .refl (RepL.cons (Rep.mono e2 d x rep1) rep2)
def nilV : FV := fun g => .ok [] g
def consV (f : Sg → R AV) (fr : FV) : FV := fun g => (f g).bd fun a g1 => (fr g1).bd fun as g2 => if resI g2 a = true then .ok (a :: as) g2 else .no
theorem pva_nil : PA X [] (tAv b W nilV) := pa_mono pa_nil fun σ H Q ⟨Fz, g, r, h⟩ => h [] H Fz r .refl rfl
theorem pva_cons {f : Sg → R AV} {fr : FV} (h1 : PE X e (tA1 b W f)) (h2 : PA X es (tAv b W fr)) (hs : starEach (e :: es) X.env = (false, eval e X.env) :: starEach es X.env := by rfl) : PA X (e :: es) (tAv b W (consV f fr)) :=
  pa_mono (pa_cons h1 h2 hs) fun σ H Q ⟨Fz, g, r, h⟩ => tG_seq r h fun a x g1 Fz1 H1 r1 e1 rep1 h1 => tG_seq r1 h1 fun as xs g2 Fz2 H2 r2 e2 rep2 h2 => by
    by_cases c : resI g2 a = true
    · rw [if_pos c] at h2
      exact h2.ok r2 .refl ⟨x, xs, rfl, rep1.mono e2 (resI_ok c), rep2⟩
    · rw [if_neg c] at h2
      exact h2.elim

/-! ### displays -/
def tupF (fa : FA) : FE := fun g => (fa g).bd fun ds g1 => if szOk ds.length = true then .ok (.tup ds) g1 else .no
theorem pd_tup {fa : FA} {x1} (h : PA X es (tAr b W fa)) : PE X (.Tuple es x1 pos) (tE b W (tupF fa)) :=
  pe_mono (pe_tup h) fun σ H Q ⟨Fz, g, r, h⟩ => tG_seq r h fun ds xs g1 Fz1 H1 r1 e1 rep1 h1 => by
    by_cases c : szOk ds.length = true
    · rw [if_pos c] at h1
      have rep' : RepL b.M Fz1 H1 ds xs := rep1
      refine ⟨by rw [← rep'.length]; exact szOk_le c, fun p hp => ?_⟩
      obtain ⟨gr, rv⟩ := newT (M := b.M) hp rep'
      exact h1.ok (r1.grow gr) gr.ext rv
    · rw [if_neg c] at h1
      exact h1.elim
def lstF (fa : FA) : FF := fun g => (fa g).bd fun ds g1 => if szOk ds.length = true then .ok ds g1 else .no
/-- a list laid just now is fresh -/
theorem fresh_new {Fz : Fzn} {g : Sg} {σ : L2.St} {H : Hp} {p : Addr} {ds : List D} {vs : List V} (r : BRel b Fz g σ H) (hp : H p = none) (rep : RepL b.M Fz H ds vs) : BRel b Fz g σ (upd H p (.lst vs)) ∧ bF b σ Fz (upd H p (.lst vs)) g ds (.ref p) := by
  have gr : GrowTo Fz H Fz (upd H p (.lst vs)) := .alloc hp
  exact ⟨r.grow gr, p, vs, rfl, r.new0 hp, r.notFz hp, upd_same, r.notAu hp, rep.grow gr⟩
theorem pf_lst {fa : FA} (h : PA X es (tAr b W fa)) : PE X (.List es pos) (tFr b W (lstF fa)) :=
  pe_mono (pe_lst h) fun σ H Q ⟨Fz, g, r, h⟩ => tG_seq r h fun ds xs g1 Fz1 H1 r1 e1 rep1 h1 => by
    by_cases c : szOk ds.length = true
    · rw [if_pos c] at h1
      have rep' : RepL b.M Fz1 H1 ds xs := rep1
      refine ⟨by rw [← rep'.length]; exact szOk_le c, fun p hp => ?_⟩
      obtain ⟨r2, fr⟩ := fresh_new r1 hp rep'
      exact h1.ok r2 (GrowTo.alloc hp).ext fr
    · rw [if_neg c] at h1
      exact h1.elim
/-- a fresh list as a value -/
def frF (f : FF) : FE := fun g => (f g).bd fun ds g1 => .ok (.lst ds) g1
theorem fresh_rep {Fz : Fzn} {g : Sg} {σ : L2.St} {H : Hp} {ds : List D} {x : V} (r : BRel b Fz g σ H) (h : bF b σ Fz H g ds x) : ∃ Fz', BRel b Fz' g σ H ∧ Ext Fz H Fz' H ∧ Rep b.M Fz' H (.lst ds) x := by
  obtain ⟨p, vs, rfl, h0, nf, hu, ho, rep⟩ := h
  have ex : Ext Fz H (fzAdd Fz p) H := ⟨fun _ q => .inl q, fun _ _ q _ => .of q⟩
  exact ⟨fzAdd Fz p, r.fzFresh h0 hu ho, ex, rep_lst (.inl ⟨.inr rfl, hu⟩) (RepL.mono ex _ _ rep)⟩
theorem pd_fr {ff : FF} (h : PE X e (tFr b W ff)) : PE X e (tE b W (frF ff)) := pe_mono h fun σ H Q ⟨Fz, g, r, h⟩ => tG_seq r h fun ds x g1 Fz1 H1 r1 e1 rep1 h1 => by
  obtain ⟨Fz2, r2, e2, rv⟩ := fresh_rep r1 rep1
  exact h1.ok r2 e2 rv

/-! ### built-in functions on data -/
def TRepL (M : MM) (Fz : Fzn) (H : Hp) : List D → List V → Prop
  | [], xs => xs = []
  | d :: ds, xs => ∃ x r, xs = x :: r ∧ TRep M Fz H d x ∧ TRepL M Fz H ds r
def CallT (M : MM) (r : List V → Hp → VK → Prop) (o : List D → Option D) : Prop := ∀ {Fz : Fzn} {H : Hp} {ds : List D} {z : D} {xs : List V} {Q : VK}, (∀ a, Fz a → ∃ o, H a = some o) → TRepL M Fz H ds xs → o ds = some z →
  (∀ v Fz' H', GrowTo Fz H Fz' H' → Rep M Fz' H' z v → Q v H') → r xs H Q
/-- .. whose answer is a new list -/
def CallTF (M : MM) (r : List V → Hp → VK → Prop) (o : List D → Option (List D)) : Prop := ∀ {Fz : Fzn} {H : Hp} {ds zs : List D} {xs : List V} {Q : VK}, (∀ a, Fz a → ∃ o, H a = some o) → TRepL M Fz H ds xs → o ds = some zs →
  (∀ p vs, H p = none → RepL M Fz H zs vs → Q (.ref p) (upd H p (.lst vs))) → r xs H Q
def ress (g : Sg) : List AV → Option (List D)
  | [] => some []
  | a :: as => (res g a).bind fun d => (ress g as).bind fun ds => some (d :: ds)
theorem ress_ok {Fz : Fzn} {g : Sg} {σ : L2.St} {H : Hp} (r : BRel b Fz g σ H) : ∀ {as : List AV} {xs : List V} {ds : List D}, AVsOk b σ Fz H g as xs → ress g as = some ds → TRepL b.M Fz H ds xs
  | [], xs, ds, h, e => by
    have e' : [] = ds := Option.some.inj e
    subst e'
    exact h
  | a :: as, xs, ds, h, e => by
    obtain ⟨x, r', rfl, h1, h2⟩ := h
    obtain ⟨d, ed, e⟩ := Option.bind_eq_some_iff.mp e
    obtain ⟨ds', eds, e⟩ := Option.bind_eq_some_iff.mp e
    have e' := Option.some.inj e
    subst e'
    exact ⟨x, r', rfl, res_ok r h1 ed, ress_ok r h2 eds⟩
def bltF (o : List D → Option D) (fa : FV) : FE := fun g => (fa g).bd fun as g1 => opt ((ress g1 as).bind o) g1
def bltFF (o : List D → Option (List D)) (fa : FV) : FF := fun g => (fa g).bd fun as g1 => opt ((ress g1 as).bind o) g1
theorem tE_blt {r : List V → Hp → VK → Prop} {o : List D → Option D} {fa : FV} (ho : CallT b.M r o) {σ : L2.St} {H : Hp} {Q : VK} (h : tE b W (bltF o fa) σ H Q) : tCB r (tAv b W fa) σ H Q := by
  obtain ⟨Fz, g, r0, h⟩ := h
  refine tG_seq r0 h fun as xs g1 Fz1 H1 r1 e1 rep1 h1 => ?_
  obtain ⟨z, ez, h3⟩ := h1.opt
  obtain ⟨ds, eds, ez⟩ := Option.bind_eq_some_iff.mp ez
  exact ho r1.gr.dom (ress_ok r1 rep1 eds) ez fun v Fz' H' gr rv => h3.ok (r1.grow gr) gr.ext rv
theorem tF_blt {r : List V → Hp → VK → Prop} {o : List D → Option (List D)} {fa : FV} (ho : CallTF b.M r o) {σ : L2.St} {H : Hp} {Q : VK} (h : tFr b W (bltFF o fa) σ H Q) : tCB r (tAv b W fa) σ H Q := by
  obtain ⟨Fz, g, r0, h⟩ := h
  refine tG_seq r0 h fun as xs g1 Fz1 H1 r1 e1 rep1 h1 => ?_
  obtain ⟨z, ez, h3⟩ := h1.opt
  obtain ⟨ds, eds, ez⟩ := Option.bind_eq_some_iff.mp ez
  refine ho r1.gr.dom (ress_ok r1 rep1 eds) ez fun p vs hp rep => ?_
  obtain ⟨r2, fr⟩ := fresh_new r1 hp rep
  exact h3.ok r2 (GrowTo.alloc hp).ext fr
section
variable {x : Str} {id T : String} {r : List V → Hp → VK → Prop} {o : List D → Option D} {ol : List D → Option (List D)} {fa : FV}
theorem pd_blt (hc : CallR X (.builtin id) r) (ho : CallT b.M r o) (hg : Gl X x) (hm : X.mg x = none) (hv : bootBuiltins x = some (.builtin id)) (ha : PA X (e :: es) (tAv b W fa)) (hn : x ≠ "__name__" := by decide) (hdb : (x == ("__debug__" : Str)) = false := by decide)
    (he : starEach (e :: es) X.env = (false, eval e X.env) :: starEach es X.env := by rfl) (hpl : (backTo pos (starEach es X.env)).any (·.1) = false := by rfl) : PE X (.Call (.Name x p) (e :: es) [] pos) (tE b W (bltF o fa)) :=
  pe_mono (pe_callB hc hg hm hv ha hn hdb he hpl) fun _ _ _ h => tE_blt ho h
theorem pf_blt (hc : CallR X (.builtin id) r) (ho : CallTF b.M r ol) (hg : Gl X x) (hm : X.mg x = none) (hv : bootBuiltins x = some (.builtin id)) (ha : PA X (e :: es) (tAv b W fa)) (hn : x ≠ "__name__" := by decide) (hdb : (x == ("__debug__" : Str)) = false := by decide)
    (he : starEach (e :: es) X.env = (false, eval e X.env) :: starEach es X.env := by rfl) (hpl : (backTo pos (starEach es X.env)).any (·.1) = false := by rfl) : PE X (.Call (.Name x p) (e :: es) [] pos) (tFr b W (bltFF ol fa)) :=
  pe_mono (pe_callB hc hg hm hv ha hn hdb he hpl) fun _ _ _ h => tF_blt ho h
theorem pd_ty (hc : CallR X (.type T) r) (ho : CallT b.M r o) (hg : Gl X x) (hm : X.mg x = none) (hv : bootBuiltins x = some (.type T)) (ha : PA X (e :: es) (tAv b W fa)) (hn : x ≠ "__name__" := by decide) (hdb : (x == ("__debug__" : Str)) = false := by decide)
    (he : starEach (e :: es) X.env = (false, eval e X.env) :: starEach es X.env := by rfl) (hpl : (backTo pos (starEach es X.env)).any (·.1) = false := by rfl) : PE X (.Call (.Name x p) (e :: es) [] pos) (tE b W (bltF o fa)) :=
  pe_mono (pe_callTy hc hg hm hv ha hn hdb he hpl) fun _ _ _ h => tE_blt ho h
theorem pf_ty (hc : CallR X (.type T) r) (ho : CallTF b.M r ol) (hg : Gl X x) (hm : X.mg x = none) (hv : bootBuiltins x = some (.type T)) (ha : PA X (e :: es) (tAv b W fa)) (hn : x ≠ "__name__" := by decide) (hdb : (x == ("__debug__" : Str)) = false := by decide)
    (he : starEach (e :: es) X.env = (false, eval e X.env) :: starEach es X.env := by rfl) (hpl : (backTo pos (starEach es X.env)).any (·.1) = false := by rfl) : PE X (.Call (.Name x p) (e :: es) [] pos) (tFr b W (bltFF ol fa)) :=
  pe_mono (pe_callTy hc hg hm hv ha hn hdb he hpl) fun _ _ _ h => tF_blt ho h
end

/-! ### which -/
variable {M : MM}
def seqOf : D → Option (List D)
  | .lst ds => some ds
  | .tup ds => some ds
  | _ => none
theorem seq_rep {Fz : Fzn} {H : Hp} {d : D} {x : V} {ds : List D} (r : TRep M Fz H d x) (e : seqOf d = some ds) : ∃ a vs, x = .ref a ∧ (SqL M.K H a vs ∨ SqT M.K H a vs) ∧ RepL M Fz H ds vs := by
  cases d with
  | lst ds' =>
    have e' : ds' = ds := Option.some.inj e
    subst e'
    obtain ⟨a, vs, e, h, rr⟩ := r
    exact ⟨a, vs, e, .inl h, rr⟩
  | tup ds' =>
    have e' : ds' = ds := Option.some.inj e
    subst e'
    obtain ⟨a, vs, e, h, rr⟩ := sqT_rep (M := M) (Fz := Fz) (H := H) r
    exact ⟨a, vs, e, .inr h, rr⟩
  | _ => cases e
theorem trep1 {Fz : Fzn} {H : Hp} {d : D} {xs : List V} (h : TRepL M Fz H [d] xs) : ∃ x, xs = [x] ∧ TRep M Fz H d x := by
  obtain ⟨x, r, rfl, h1, h2⟩ := h
  have h2' : r = [] := h2
  subst h2'
  exact ⟨x, rfl, h1⟩
theorem trep2 {Fz : Fzn} {H : Hp} {d e : D} {xs : List V} (h : TRepL M Fz H [d, e] xs) : ∃ x y, xs = [x, y] ∧ TRep M Fz H d x ∧ TRep M Fz H e y := by
  obtain ⟨x, r, rfl, h1, h2⟩ := h
  have h3 := trep1 h2
  clear h2
  obtain ⟨y, rfl, h2⟩ := h3
  exact ⟨x, y, rfl, h1, h2⟩
/-- the int of a list of ints -/
def intD : D → Option Int
  | .int i => some i
  | _ => none
def boolD : D → Option Bool
  | .bl i => some i
  | _ => none
def intsD : List D → Option (List Int)
  | [] => some []
  | d :: ds => (intD d).bind fun i => (intsD ds).bind fun is => some (i :: is)
def boolsD : List D → Option (List Bool)
  | [] => some []
  | d :: ds => (boolD d).bind fun i => (boolsD ds).bind fun is => some (i :: is)
theorem ints_rep {Fz : Fzn} {H : Hp} : ∀ {ds : List D} {vs : List V} {ns : List Int}, RepL M Fz H ds vs → intsD ds = some ns → vs = ns.map V.int ∧ ds = ns.map D.int
  | [], vs, ns, r, e => by
    have e' : [] = ns := Option.some.inj e
    subst e'
    exact ⟨RepL.nil_iff.mp r, rfl⟩
  | d :: ds, vs, ns, r, e => by
    obtain ⟨v, r', rfl, r1, r2⟩ := RepL.cons_iff.mp r
    obtain ⟨i, ei, e⟩ := Option.bind_eq_some_iff.mp e
    obtain ⟨is, eis, e⟩ := Option.bind_eq_some_iff.mp e
    have e' := Option.some.inj e
    subst e'
    obtain ⟨h1, h2⟩ := ints_rep r2 eis
    cases d with
    | int j =>
      have ej : j = i := Option.some.inj ei
      subst ej
      rw [h1, h2, rep_int' r1]
      exact ⟨rfl, rfl⟩
    | _ => cases ei
theorem bools_rep {Fz : Fzn} {H : Hp} : ∀ {ds : List D} {vs : List V} {ns : List Bool}, RepL M Fz H ds vs → boolsD ds = some ns → vs = ns.map V.bl
  | [], vs, ns, r, e => by
    have e' : [] = ns := Option.some.inj e
    subst e'
    exact RepL.nil_iff.mp r
  | d :: ds, vs, ns, r, e => by
    obtain ⟨v, r', rfl, r1, r2⟩ := RepL.cons_iff.mp r
    obtain ⟨i, ei, e⟩ := Option.bind_eq_some_iff.mp e
    obtain ⟨is, eis, e⟩ := Option.bind_eq_some_iff.mp e
    have e' := Option.some.inj e
    subst e'
    have h1 := bools_rep r2 eis
    cases d with
    | bl j =>
      have ej : j = i := Option.some.inj ei
      subst ej
      rw [h1, rep_bl' r1]
      rfl
    | _ => cases ei
theorem intsD_map (ns : List Int) : intsD (ns.map D.int) = some ns := by
  induction ns with
  | nil => rfl
  | cons n ns ih => simp [intsD, intD, ih]
theorem boolsD_map (ns : List Bool) : boolsD (ns.map D.bl) = some ns := by
  induction ns with
  | nil => rfl
  | cons n ns ih => simp [boolsD, boolD, ih]

/-- len -/
def lenD : List D → Option D
  | [.str x] => if szOk x.length then some (.int x.length) else none
  | [d] => (seqOf d).bind fun ds => some (.int ds.length)
  | _ => none
def rLenA (K : PySem.W.Frag) : List V → Hp → VK → Prop := fun xs H Q => (∃ p ys, xs = [.ref p] ∧ (SqL K H p ys ∨ SqT K H p ys) ∧ Q (.int ys.length) H) ∨ ∃ z : Str, xs = [.str z] ∧ z.length ≤ sizeLine ∧ Q (.int z.length) H
theorem call_lenA : CallR X (.builtin "len") (rLenA X.K) := call_len_seq.or call_len_str
theorem callT_len : CallT M (rLenA M.K) lenD := by
  intro Fz H ds z xs Q dom rx eo k
  unfold lenD at eo
  split at eo
  · split at eo
    · rename_i hz
      injection eo with eo; subst eo
      have rx0 := trep1 rx
      clear rx
      obtain ⟨x, rfl, rx⟩ := rx0
      rw [tstr' rx]
      exact .inr ⟨_, rfl, szOk_le hz, k _ Fz H .refl rep_int⟩
    · cases eo
  · obtain ⟨ds, eds, eo⟩ := Option.bind_eq_some_iff.mp eo
    injection eo with eo; subst eo
    have rx0 := trep1 rx
    clear rx
    obtain ⟨x, rfl, rx⟩ := rx0
    obtain ⟨a, vs, rfl, h, r⟩ := seq_rep rx eds
    rw [r.length] at k
    exact .inl ⟨a, vs, rfl, h, k _ Fz H .refl rep_int⟩
  · cases eo
def absD : List D → Option D
  | [.int i] => some (.int i.natAbs)
  | _ => none
theorem callT_abs : CallT M (fun xs H Q => ∃ i, xs = [.int i] ∧ Q (.int (if i < 0 then -i else i)) H) absD := by
  intro Fz H ds z xs Q dom rx eo k
  unfold absD at eo
  split at eo
  · rename_i i
    injection eo with eo; subst eo
    have rx0 := trep1 rx
    clear rx
    obtain ⟨x, rfl, rx⟩ := rx0
    rw [tint' rx]
    have e : (if i < 0 then -i else i) = (i.natAbs : Int) := by split <;> omega
    exact ⟨_, rfl, by rw [e]; exact k _ Fz H .refl rep_int⟩
  · cases eo
def max2D : List D → Option D
  | [.int i, .int j] => some (.int (max i j))
  | _ => none
def min2D : List D → Option D
  | [.int i, .int j] => some (.int (min i j))
  | _ => none
theorem callT_max2 : CallT M (fun xs H Q => ∃ i j, xs = [.int i, .int j] ∧ Q (.int (if j > i then j else i)) H) max2D := by
  intro Fz H ds z xs Q dom rx eo k
  unfold max2D at eo
  split at eo
  · rename_i i j
    injection eo with eo; subst eo
    have rx0 := trep2 rx
    clear rx
    obtain ⟨x, y, rfl, rx, ry⟩ := rx0
    rw [tint' rx, tint' ry]
    have e : (if j > i then j else i) = max i j := by split <;> omega
    exact ⟨_, _, rfl, by rw [e]; exact k _ Fz H .refl rep_int⟩
  · cases eo
theorem callT_min2 : CallT M (fun xs H Q => ∃ i j, xs = [.int i, .int j] ∧ Q (.int (if j < i then j else i)) H) min2D := by
  intro Fz H ds z xs Q dom rx eo k
  unfold min2D at eo
  split at eo
  · rename_i i j
    injection eo with eo; subst eo
    have rx0 := trep2 rx
    clear rx
    obtain ⟨x, y, rfl, rx, ry⟩ := rx0
    rw [tint' rx, tint' ry]
    have e : (if j < i then j else i) = min i j := by split <;> omega
    exact ⟨_, _, rfl, by rw [e]; exact k _ Fz H .refl rep_int⟩
  · cases eo
/-! sum, min, max, any, all of a tuple -/
section
variable {prog : Program} {w : World} {A : Around} {E : Value → Shared → Prop} {s : Shared} {l : Addr}
theorem iter_anyT {items : Array Value} {Q : Value → Shared → Prop} (hl : s.heap.IsTuple l items)
    (h : ∀ s₂ : Shared, s₂ = { s with heap := s.heap.push { cls := .type "tuple_iterator", data := .fields #[.ref l, .int 0 0] } } →
      (s₂.heap.IsTupleIter s.heap.objs.size l 0 ∧ s₂.heap.IsTuple l items) → (∀ b ∈ [s.heap.objs.size, l], b < s₂.heap.objs.size) → l ≠ s.heap.objs.size → Q (.ref s.heap.objs.size) s₂) : wpAny (model prog w) A (pyIter (.ref l)) Q E s := by
  have hlt : l < s.heap.objs.size := by obtain ⟨_, e, _⟩ := hl; exact Heap.lt_size e
  refine wpAny_pyIter_tuple hl (h _ rfl ⟨⟨_, Heap.get?_push_size _ rfl, rfl, rfl⟩, hl.push _⟩ (fun b hb => ?_) (Nat.ne_of_lt hlt))
  show b < (s.heap.push _).objs.size
  rw [Heap.size_push]
  rcases List.mem_cons.mp hb with rfl | hb
  · exact Nat.lt_succ_self _
  · rcases List.mem_cons.mp hb with rfl | hb
    · exact Nat.lt_succ_of_lt hlt
    · cases hb
theorem old_keptT {h' : Heap} (hk : ∀ b o, b ∉ [s.heap.objs.size] → (s.heap.push { cls := .type "tuple_iterator", data := .fields #[.ref l, .int 0 0] }).get? b = some o → h'.get? b = some o) :
    ∀ b o, s.heap.get? b = some o → h'.get? b = some o := fun b o e => by
  refine hk b o (fun hm => ?_) (Heap.get?_push_of_some _ e)
  rcases List.mem_cons.mp hm with e1 | hm
  · exact absurd (e1 ▸ Heap.lt_size e) (Nat.lt_irrefl _)
  · cases hm
end
def rSumT (K : PySem.W.Frag) : List V → Hp → VK → Prop := fun vs H Q => ∃ (a : Addr) (ns : List Int), vs = [V.ref a] ∧ SqT K H a (ns.map V.int) ∧ Q (.int ns.sum) H
def rMaxT (K : PySem.W.Frag) : List V → Hp → VK → Prop := fun vs H Q => ∃ (a : Addr) (ns : List Int), vs = [V.ref a] ∧ SqT K H a (ns.map V.int) ∧ 0 < ns.length ∧ ∀ m, m ∈ ns → (∀ y, y ∈ ns → y ≤ m) → Q (.int m) H
def rMinT (K : PySem.W.Frag) : List V → Hp → VK → Prop := fun vs H Q => ∃ (a : Addr) (ns : List Int), vs = [V.ref a] ∧ SqT K H a (ns.map V.int) ∧ 0 < ns.length ∧ ∀ m, m ∈ ns → (∀ y, y ∈ ns → m ≤ y) → Q (.int m) H
def rAnyT (K : PySem.W.Frag) : List V → Hp → VK → Prop := fun vs H Q => ∃ (a : Addr) (bs : List Bool), vs = [V.ref a] ∧ SqT K H a (bs.map V.bl) ∧ Q (.bl (bs.any id)) H
def rAllT (K : PySem.W.Frag) : List V → Hp → VK → Prop := fun vs H Q => ∃ (a : Addr) (bs : List Bool), vs = [V.ref a] ∧ SqT K H a (bs.map V.bl) ∧ Q (.bl (bs.all id)) H
section
variable {X : Cx}
theorem cr_sumT (hc : X.calm = true) : CallR X (.builtin "sum") (rSumT X.K) := by
  intro pins s σ H vs us Q I r h
  obtain ⟨a, ns, rfl, hs, q⟩ := h
  obtain ⟨its, rv, hl, _⟩ := I.tuple hs
  rw [Vals.ref1 r]
  have hi := rv.ints
  have hh := I.ok.hd hc
  obtain ⟨xs, e⟩ := hi.allInts.items
  have hn : numsOf (intItems xs).toList = ns := by rw [← e]; exact hi.numsOf
  rw [nums_intItems] at hn
  rw [e] at hl
  refine call_sum_walkG (iter_anyT hl fun s₂ e st hfp hlI => ?_)
  subst e
  refine ⟨_, _, _, _, _, _, numAt xs, rfl, Walks.tuple (A := X.A.in1) hh _ a hlI (intItems xs), st, hfp, (fun _ _ => intItems_at), fun h' tk t' hk => ?_⟩
  have hq : RelV (.int ns.sum) (.int (preSum (numAt xs) (intItems xs).size) t') := by
    rw [preSum_eq, List.take_of_length_le (by simp [intItems]), hn]; exact ⟨_, rfl⟩
  exact ⟨.int ns.sum, H, I.kept (old_keptT hk), hq, q⟩
theorem cr_maxT (hc : X.calm = true) : CallR X (.builtin "max") (rMaxT X.K) := by
  intro pins s σ H vs us Q I r h
  obtain ⟨a, ns, rfl, hs, hne, q⟩ := h
  obtain ⟨its, rv, hl, _⟩ := I.tuple hs
  rw [Vals.ref1 r]
  have hi := rv.ints
  have hh := I.ok.hd hc
  obtain ⟨xs, e⟩ := hi.allInts.items
  have hn : numsOf (intItems xs).toList = ns := by rw [← e]; exact hi.numsOf
  rw [nums_intItems] at hn
  subst hn
  rw [e] at hl
  have hsz : 0 < xs.size := by simpa using hne
  refine call_max_walk (iter_anyT hl fun s₂ e st hfp hlI => ?_)
  subst e
  refine ⟨_, _, _, _, _, _, _, rfl, Walks.tuple (A := X.A.in1) hh _ a hlI (intItems xs), st, hfp, by simpa [intItems] using hsz, CmpOf.ints_gt (numAt xs) (fun _ _ => intItems_at), fun v h' tk hP hk => ?_⟩
  obtain ⟨t, rfl⟩ := intItems_at hP
  have es : (intItems xs).size = xs.size := by simp [intItems]
  rw [es] at *
  obtain ⟨h1, h2⟩ := argBest_gt (numAt xs) (xs.size - 1)
  refine ⟨.int _, H, I.kept (old_keptT hk), ⟨_, rfl⟩, q _ ?_ fun b hb => ?_⟩
  · rw [numAt_eq]; exact PySem.getD_mem (by rw [List.length_map, Array.length_toList]; omega)
  · obtain ⟨j, hj, rfl⟩ := mem_getD hb
    rw [List.length_map, Array.length_toList] at hj
    rw [← numAt_eq]; exact h2 j (by omega)
theorem cr_minT (hc : X.calm = true) : CallR X (.builtin "min") (rMinT X.K) := by
  intro pins s σ H vs us Q I r h
  obtain ⟨a, ns, rfl, hs, hne, q⟩ := h
  obtain ⟨its, rv, hl, _⟩ := I.tuple hs
  rw [Vals.ref1 r]
  have hi := rv.ints
  have hh := I.ok.hd hc
  obtain ⟨xs, e⟩ := hi.allInts.items
  have hn : numsOf (intItems xs).toList = ns := by rw [← e]; exact hi.numsOf
  rw [nums_intItems] at hn
  subst hn
  rw [e] at hl
  have hsz : 0 < xs.size := by simpa using hne
  refine call_min_walk (iter_anyT hl fun s₂ e st hfp hlI => ?_)
  subst e
  refine ⟨_, _, _, _, _, _, _, rfl, Walks.tuple (A := X.A.in1) hh _ a hlI (intItems xs), st, hfp, by simpa [intItems] using hsz, CmpOf.ints_lt (numAt xs) (fun _ _ => intItems_at), fun v h' tk hP hk => ?_⟩
  obtain ⟨t, rfl⟩ := intItems_at hP
  have es : (intItems xs).size = xs.size := by simp [intItems]
  rw [es] at *
  obtain ⟨h1, h2⟩ := argBest_lt (numAt xs) (xs.size - 1)
  refine ⟨.int _, H, I.kept (old_keptT hk), ⟨_, rfl⟩, q _ ?_ fun b hb => ?_⟩
  · rw [numAt_eq]; exact PySem.getD_mem (by rw [List.length_map, Array.length_toList]; omega)
  · obtain ⟨j, hj, rfl⟩ := mem_getD hb
    rw [List.length_map, Array.length_toList] at hj
    rw [← numAt_eq]; exact h2 j (by omega)
def rSumA (K : PySem.W.Frag) : List V → Hp → VK → Prop := fun xs H Q => rSum K xs H Q ∨ rSumT K xs H Q
def rMaxA (K : PySem.W.Frag) : List V → Hp → VK → Prop := fun xs H Q => rMax K xs H Q ∨ rMaxT K xs H Q
def rMinA (K : PySem.W.Frag) : List V → Hp → VK → Prop := fun xs H Q => rMin K xs H Q ∨ rMinT K xs H Q
theorem cr_sumA (hc : X.calm = true) : CallR X (.builtin "sum") (rSumA X.K) := (cr_sum hc).or (cr_sumT hc)
theorem cr_maxA (hc : X.calm = true) : CallR X (.builtin "max") (rMaxA X.K) := (cr_max hc).or (cr_maxT hc)
theorem cr_minA (hc : X.calm = true) : CallR X (.builtin "min") (rMinA X.K) := (cr_min hc).or (cr_minT hc)
end
/-- sum, min, max of a list of ints -/
def lstI : D → Option (List Int)
  | .lst ds => intsD ds
  | .tup ds => intsD ds
  | _ => none
def sumD : List D → Option D
  | [d] => (lstI d).bind fun ns => some (.int ns.sum)
  | _ => none
theorem lstI_rep {Fz : Fzn} {H : Hp} {d : D} {x : V} {ns : List Int} (r : TRep M Fz H d x) (e : lstI d = some ns) : ∃ a, x = .ref a ∧ (SqL M.K H a (ns.map V.int) ∨ SqT M.K H a (ns.map V.int)) := by
  cases d with
  | lst ds =>
    obtain ⟨a, vs, rfl, h, rr⟩ := r
    have e' := (ints_rep rr e).1
    subst e'
    exact ⟨a, rfl, .inl h⟩
  | tup ds =>
    obtain ⟨a, vs, rfl, h, rr⟩ := sqT_rep (M := M) (Fz := Fz) (H := H) r
    have e' := (ints_rep rr e).1
    subst e'
    exact ⟨a, rfl, .inr h⟩
  | _ => cases e
theorem callT_sum : CallT M (rSumA M.K) sumD := by
  intro Fz H ds z xs Q dom rx eo k
  unfold sumD at eo
  split at eo
  · obtain ⟨ns, e, eo⟩ := Option.bind_eq_some_iff.mp eo
    injection eo with eo; subst eo
    have rx0 := trep1 rx
    clear rx
    obtain ⟨x, rfl, rx⟩ := rx0
    obtain ⟨a, rfl, h⟩ := lstI_rep rx e
    rcases h with h | h
    · exact .inl ⟨a, ns, rfl, h, k _ Fz H .refl rep_int⟩
    · exact .inr ⟨a, ns, rfl, h, k _ Fz H .refl rep_int⟩
  · cases eo
def foldMin : Int → List Int → Int := fun n ns => ns.foldl min n
def foldMax : Int → List Int → Int := fun n ns => ns.foldl max n
def minD : List D → Option D
  | [d] => (lstI d).bind fun ns => match ns with
    | [] => none
    | n :: ns => some (.int (foldMin n ns))
  | _ => none
def maxD : List D → Option D
  | [d] => (lstI d).bind fun ns => match ns with
    | [] => none
    | n :: ns => some (.int (foldMax n ns))
  | _ => none
theorem foldMin_le : ∀ (ns : List Int) (n : Int), foldMin n ns ≤ n ∧ ∀ y ∈ ns, foldMin n ns ≤ y
  | [], n => ⟨Int.le_refl _, fun _ h => nomatch h⟩
  | m :: ns, n => by
    obtain ⟨h1, h2⟩ := foldMin_le ns (min n m)
    unfold foldMin at h1 h2 ⊢
    rw [List.foldl_cons]
    refine ⟨by omega, fun y hy => ?_⟩
    rcases List.mem_cons.mp hy with rfl | hy
    · omega
    · exact h2 y hy
theorem foldMax_le : ∀ (ns : List Int) (n : Int), n ≤ foldMax n ns ∧ ∀ y ∈ ns, y ≤ foldMax n ns
  | [], n => ⟨Int.le_refl _, fun _ h => nomatch h⟩
  | m :: ns, n => by
    obtain ⟨h1, h2⟩ := foldMax_le ns (max n m)
    unfold foldMax at h1 h2 ⊢
    rw [List.foldl_cons]
    refine ⟨by omega, fun y hy => ?_⟩
    rcases List.mem_cons.mp hy with rfl | hy
    · omega
    · exact h2 y hy
theorem foldMin_mem : ∀ (ns : List Int) (n : Int), foldMin n ns ∈ n :: ns
  | [], n => List.mem_singleton.mpr rfl
  | m :: ns, n => by
    have h := foldMin_mem ns (min n m)
    unfold foldMin at h ⊢
    rw [List.foldl_cons]
    rcases List.mem_cons.mp h with h | h
    · rw [h]
      by_cases c : n ≤ m
      · rw [Int.min_eq_left c]; exact List.mem_cons_self
      · rw [Int.min_eq_right (by omega)]; exact List.mem_cons_of_mem _ List.mem_cons_self
    · exact List.mem_cons_of_mem _ (List.mem_cons_of_mem _ h)
theorem foldMax_mem : ∀ (ns : List Int) (n : Int), foldMax n ns ∈ n :: ns
  | [], n => List.mem_singleton.mpr rfl
  | m :: ns, n => by
    have h := foldMax_mem ns (max n m)
    unfold foldMax at h ⊢
    rw [List.foldl_cons]
    rcases List.mem_cons.mp h with h | h
    · rw [h]
      by_cases c : n ≤ m
      · rw [Int.max_eq_right c]; exact List.mem_cons_of_mem _ List.mem_cons_self
      · rw [Int.max_eq_left (by omega)]; exact List.mem_cons_self
    · exact List.mem_cons_of_mem _ (List.mem_cons_of_mem _ h)
theorem callT_min : CallT M (rMinA M.K) minD := by
  intro Fz H ds z xs Q dom rx eo k
  unfold minD at eo
  split at eo
  · obtain ⟨ns, e, eo⟩ := Option.bind_eq_some_iff.mp eo
    have rx0 := trep1 rx
    clear rx
    obtain ⟨x, rfl, rx⟩ := rx0
    obtain ⟨a, rfl, h⟩ := lstI_rep rx e
    cases ns with
    | nil => cases eo
    | cons n ns =>
      injection eo with eo; subst eo
      have kk : ∀ m, m ∈ n :: ns → (∀ y, y ∈ n :: ns → m ≤ y) → Q (.int m) H := fun m hm hl => by
        have h1 := hl _ (foldMin_mem ns n)
        have h2 : foldMin n ns ≤ m := by
          obtain ⟨z1, z2⟩ := foldMin_le ns n
          rcases List.mem_cons.mp hm with rfl | hm
          · exact z1
          · exact z2 m hm
        have h3 : m = foldMin n ns := by omega
        subst h3
        exact k _ Fz H .refl rep_int
      rcases h with h | h
      · exact .inl ⟨a, _, rfl, h, Nat.succ_pos _, kk⟩
      · exact .inr ⟨a, _, rfl, h, Nat.succ_pos _, kk⟩
  · cases eo
theorem callT_max : CallT M (rMaxA M.K) maxD := by
  intro Fz H ds z xs Q dom rx eo k
  unfold maxD at eo
  split at eo
  · obtain ⟨ns, e, eo⟩ := Option.bind_eq_some_iff.mp eo
    have rx0 := trep1 rx
    clear rx
    obtain ⟨x, rfl, rx⟩ := rx0
    obtain ⟨a, rfl, h⟩ := lstI_rep rx e
    cases ns with
    | nil => cases eo
    | cons n ns =>
      injection eo with eo; subst eo
      have kk : ∀ m, m ∈ n :: ns → (∀ y, y ∈ n :: ns → y ≤ m) → Q (.int m) H := fun m hm hl => by
        have h1 := hl _ (foldMax_mem ns n)
        have h2 : m ≤ foldMax n ns := by
          obtain ⟨z1, z2⟩ := foldMax_le ns n
          rcases List.mem_cons.mp hm with rfl | hm
          · exact z1
          · exact z2 m hm
        have h3 : m = foldMax n ns := by omega
        subst h3
        exact k _ Fz H .refl rep_int
      rcases h with h | h
      · exact .inl ⟨a, _, rfl, h, Nat.succ_pos _, kk⟩
      · exact .inr ⟨a, _, rfl, h, Nat.succ_pos _, kk⟩
  · cases eo
def lstB : D → Option (List Bool)
  | .lst ds => boolsD ds
  | _ => none
theorem lstB_rep {Fz : Fzn} {H : Hp} {d : D} {x : V} {ns : List Bool} (r : TRep M Fz H d x) (e : lstB d = some ns) : ∃ a, x = .ref a ∧ SqL M.K H a (ns.map V.bl) := by
  cases d with
  | lst ds =>
    obtain ⟨a, vs, rfl, h, rr⟩ := r
    have e' := bools_rep rr e
    subst e'
    exact ⟨a, rfl, h⟩
  | _ => cases e
def anyD : List D → Option D
  | [d] => (lstB d).bind fun ns => some (.bl (ns.any id))
  | _ => none
def allD : List D → Option D
  | [d] => (lstB d).bind fun ns => some (.bl (ns.all id))
  | _ => none
theorem callT_any : CallT M (rAny M.K) anyD := by
  intro Fz H ds z xs Q dom rx eo k
  unfold anyD at eo
  split at eo
  · obtain ⟨ns, e, eo⟩ := Option.bind_eq_some_iff.mp eo
    injection eo with eo; subst eo
    have rx0 := trep1 rx
    clear rx
    obtain ⟨x, rfl, rx⟩ := rx0
    obtain ⟨a, rfl, h⟩ := lstB_rep rx e
    exact ⟨a, ns, rfl, h, k _ Fz H .refl rep_bl⟩
  · cases eo
theorem callT_all : CallT M (rAll M.K) allD := by
  intro Fz H ds z xs Q dom rx eo k
  unfold allD at eo
  split at eo
  · obtain ⟨ns, e, eo⟩ := Option.bind_eq_some_iff.mp eo
    injection eo with eo; subst eo
    have rx0 := trep1 rx
    clear rx
    obtain ⟨x, rfl, rx⟩ := rx0
    obtain ⟨a, rfl, h⟩ := lstB_rep rx e
    exact ⟨a, ns, rfl, h, k _ Fz H .refl rep_bl⟩
  · cases eo
/-- int(i), int(bool) -/
def intF : List D → Option D
  | [.int i] => some (.int i)
  | [.bl c] => some (.int (if c then 1 else 0))
  | _ => none
theorem callT_int : CallT M (fun xs H Q => (∃ i, xs = [.int i] ∧ Q (.int i) H) ∨ ∃ k, xs = [.bl k] ∧ Q (.int (if k then 1 else 0)) H) intF := by
  intro Fz H ds z xs Q dom rx eo k
  unfold intF at eo
  split at eo
  · injection eo with eo; subst eo
    have rx0 := trep1 rx
    clear rx
    obtain ⟨x, rfl, rx⟩ := rx0
    rw [tint' rx]
    exact .inl ⟨_, rfl, k _ Fz H .refl rep_int⟩
  · injection eo with eo; subst eo
    have rx0 := trep1 rx
    clear rx
    obtain ⟨x, rfl, rx⟩ := rx0
    rw [tbl' rx]
    exact .inr ⟨_, rfl, k _ Fz H .refl rep_int⟩
  · cases eo
/-- tuple(xs), list(xs) -/
def tupleD : List D → Option D
  | [d] => (seqOf d).bind fun ds => some (.tup ds)
  | _ => none
theorem callT_tuple : CallT M (fun xs H Q => ∃ p ys, xs = [.ref p] ∧ ((SqL M.K H p ys ∧ ∀ l, H l = none → Q (.ref l) (upd H l (.tup ys))) ∨ (SqT M.K H p ys ∧ Q (.ref p) H))) tupleD := by
  intro Fz H ds z xs Q dom rx eo k
  unfold tupleD at eo
  split at eo
  · obtain ⟨ns, e, eo⟩ := Option.bind_eq_some_iff.mp eo
    injection eo with eo; subst eo
    have rx0 := trep1 rx
    clear rx
    obtain ⟨x, rfl, rx⟩ := rx0
    obtain ⟨a, vs, rfl, h, r⟩ := seq_rep rx e
    refine ⟨a, vs, rfl, ?_⟩
    rcases h with h | h
    · exact .inl ⟨h, fun l hl => let ⟨gr, rv⟩ := newT (M := M) hl r; k _ _ _ gr rv⟩
    · exact .inr ⟨h, k _ Fz H .refl (rep_tup h r)⟩
  · cases eo
def listD : List D → Option (List D)
  | [d] => seqOf d
  | _ => none
theorem callTF_list : CallTF M (fun xs H Q => ∃ p ys, xs = [.ref p] ∧ (SqL M.K H p ys ∨ SqT M.K H p ys) ∧ ∀ l, H l = none → Q (.ref l) (upd H l (.lst ys))) listD := by
  intro Fz H ds zs xs Q dom rx eo k
  unfold listD at eo
  split at eo
  · have rx0 := trep1 rx
    clear rx
    obtain ⟨x, rfl, rx⟩ := rx0
    obtain ⟨a, vs, rfl, h, r⟩ := seq_rep rx eo
    exact ⟨a, vs, rfl, h, fun l hl => k l vs hl r⟩
  · cases eo
end
end DL

set_option Elab.async false
set_option linter.all false
set_option maxRecDepth 100000
set_option maxHeartbeats 4000000
/-! Den5: isinstance of built-in types, fields, statements, defs and calls. -/
namespace DL
open PySem L2 PySem.Spec PyProof.Rows

/-! ### isinstance(x, T), T built-in -/
def tyD : D → String
  | .non => "NoneType"
  | .bl _ => "bool"
  | .int _ => "int"
  | .str _ => "str"
  | .tup _ => "tuple"
  | .lst _ => "list"
  | .obj _ _ _ => ""
  | .emp => "dict"
def isInt : D → Option Bool
  | .bl _ => some true
  | .int _ => some true
  | .obj _ _ _ => none
  | _ => some false
def isBool : D → Option Bool
  | .bl _ => some true
  | .obj _ _ _ => none
  | _ => some false
def isStr : D → Option Bool
  | .str _ => some true
  | .obj _ _ _ => none
  | _ => some false
def isTup : D → Option Bool
  | .tup _ => some true
  | .obj _ _ _ => none
  | _ => some false
def isLst : D → Option Bool
  | .lst _ => some true
  | .obj _ _ _ => none
  | _ => some false
def isLstTup : D → Option Bool
  | .lst _ => some true
  | .tup _ => some true
  | .obj _ _ _ => none
  | _ => some false
def KitB (T : String) (o : D → Option Bool) : Prop := ∀ d r, o d = some r → kitB (tyD d) T = some r ∧ ∀ c ns ds, d ≠ .obj c ns ds
theorem kit_int : KitB "int" isInt := fun d r h => by cases d <;> first | (cases h; refine ⟨?_, fun _ _ _ q => nomatch q⟩; dsimp only [tyD]; decide +kernel) | cases h
theorem kit_bool : KitB "bool" isBool := fun d r h => by cases d <;> first | (cases h; refine ⟨?_, fun _ _ _ q => nomatch q⟩; dsimp only [tyD]; decide +kernel) | cases h
theorem kit_str : KitB "str" isStr := fun d r h => by cases d <;> first | (cases h; refine ⟨?_, fun _ _ _ q => nomatch q⟩; dsimp only [tyD]; decide +kernel) | cases h
theorem kit_tuple : KitB "tuple" isTup := fun d r h => by cases d <;> first | (cases h; refine ⟨?_, fun _ _ _ q => nomatch q⟩; dsimp only [tyD]; decide +kernel) | cases h
theorem kit_list : KitB "list" isLst := fun d r h => by cases d <;> first | (cases h; refine ⟨?_, fun _ _ _ q => nomatch q⟩; dsimp only [tyD]; decide +kernel) | cases h
theorem tyX_rep {M : MM} {Fz : Fzn} {H : Hp} {d : D} {x : V} (r : TRep M Fz H d x) (n : ∀ c ns ds, d ≠ .obj c ns ds) : TyX M.K H x (.type (tyD d)) := by
  cases d with
  | non => rw [tnon' r]; exact .base .non
  | bl c => rw [tbl' r]; exact .base (.bl c)
  | int c => rw [tint' r]; exact .base (.int c)
  | str c => rw [tstr' r]; exact .base (.str c)
  | tup ds =>
    obtain ⟨a, vs, rfl, h, _⟩ := sqT_rep (M := M) (Fz := Fz) (H := H) r
    rcases h with (h | ⟨o, h⟩) | ⟨o, its, n, h, hc, _⟩
    · exact .base (.tup h)
    · exact .fTuple h
    · exact .kTuple h hc
  | lst ds =>
    obtain ⟨a, vs, rfl, h, _⟩ := r
    rcases h with (h | ⟨o, h⟩) | ⟨o, its, n, h, hc, _⟩
    · exact .base (.lst h)
    · exact .base (.frz h)
    · exact .kList h hc
  | obj c ns ds => exact absurd rfl (n c ns ds)
  | emp =>
    have r' : Rep M Fz H .emp x := r
    unfold Rep at r'
    obtain ⟨a, rfl, _, h⟩ := r'
    exact .base (.dK h)
section
variable {X : Cx} {b : B} {W : WX} {e e1 e2 e3 : Expr} {es : List Expr} {f f1 f2 f3 : FE} {pos p p2 p3 p4 : Pos} {M : MM}
def isiF (o : D → Option Bool) (fa : Sg → R AV) : FE := fun g => (fa g).bd fun a g1 => opt ((res g1 a).bind fun d => (o d).bind fun c => some (.bl c)) g1
theorem pd_isi {T : String} {o : D → Option Bool} {fa : Sg → R AV} (hM : b.M = ⟨X.K, X.mg, Tb⟩) (ko : KitB T o) (hg : Gl X "isinstance") (hm : X.mg "isinstance" = none) (h1 : PE X e (tA1 b W fa)) (h2 : PE X e2 (tC (.ty T)))
    (hs1 : starEach (e2 :: []) X.env = (false, eval e2 X.env) :: starEach [] X.env := by rfl)
    (he : starEach (e :: [e2]) X.env = (false, eval e X.env) :: starEach [e2] X.env := by rfl) (hpl : (backTo pos (starEach [e2] X.env)).any (·.1) = false := by rfl) : PE X (.Call (.Name "isinstance" p) [e, e2] [] pos) (tE b W (isiF o fa)) :=
  pe_mono (pe_callB call_isi hg hm (by decide +kernel) (pa_cons h1 (pa_cons h2 pa_nil hs1) he) (by decide) (by decide) he hpl) fun σ H Q ⟨Fz, g, r, h⟩ => tG_seq r h fun a x' g1 Fz1 H1 r1 e1 rep1 h1 => by
    obtain ⟨z, ez, h3⟩ := h1.opt
    obtain ⟨d, ed, ez⟩ := Option.bind_eq_some_iff.mp ez
    obtain ⟨c, ec, ez⟩ := Option.bind_eq_some_iff.mp ez
    have ez := Option.some.inj ez
    subst ez
    obtain ⟨k1, k2⟩ := ko d c ec
    have ty := tyX_rep (res_ok r1 rep1 ed) k2
    rw [hM] at ty
    exact ⟨x', .ty T, _, _, c, rfl, .ty T, ty, kit_ty k1, h3.ok r1 .refl rep_bl⟩
theorem pd_isiLT {fa : Sg → R AV} {x1} (hM : b.M = ⟨X.K, X.mg, Tb⟩) (hg : Gl X "isinstance") (hm : X.mg "isinstance" = none) (h1 : PE X e (tA1 b W fa)) (h2 : PE X e2 (tC (.ty "list"))) (h3 : PE X e3 (tC (.ty "tuple")))
    (hs2 : starEach (e3 :: []) X.env = (false, eval e3 X.env) :: starEach [] X.env := by rfl) (hs3 : starEach (e2 :: [e3]) X.env = (false, eval e2 X.env) :: starEach [e3] X.env := by rfl)
    (hs1 : starEach ((.Tuple [e2, e3] x1 p2) :: []) X.env = (false, eval (.Tuple [e2, e3] x1 p2) X.env) :: starEach [] X.env := by rfl)
    (he : starEach (e :: [.Tuple [e2, e3] x1 p2]) X.env = (false, eval e X.env) :: starEach [.Tuple [e2, e3] x1 p2] X.env := by rfl) (hpl : (backTo pos (starEach [.Tuple [e2, e3] x1 p2] X.env)).any (·.1) = false := by rfl) :
    PE X (.Call (.Name "isinstance" p) [e, .Tuple [e2, e3] x1 p2] [] pos) (tE b W (isiF isLstTup fa)) :=
  pe_mono (pe_callB call_isiT hg hm (by decide +kernel) (pa_cons h1 (pa_cons (pe_tup (pa_cons h2 (pa_cons h3 pa_nil hs2) hs3)) pa_nil hs1) he) (by decide) (by decide) he hpl) fun σ H Q ⟨Fz, g, r, h⟩ => tG_seq r h fun a x' g1 Fz1 H1 r1 e1 rep1 h1 => by
    refine ⟨by show 2 ≤ sizeLine; decide, fun tp htp => ?_⟩
    obtain ⟨z, ez, h3⟩ := h1.opt
    obtain ⟨d, ed, ez⟩ := Option.bind_eq_some_iff.mp ez
    obtain ⟨c, ec, ez⟩ := Option.bind_eq_some_iff.mp ez
    have ez := Option.some.inj ez
    subst ez
    have gr : GrowTo Fz1 H1 Fz1 (upd H1 tp (.tup [.ty "list", .ty "tuple"])) := .alloc htp
    have k2 : ∀ c ns ds, d ≠ .obj c ns ds := fun _ _ _ q => by subst q; cases ec
    have ty0 := tyX_rep (res_ok r1 rep1 ed) k2
    have tup : ∀ {d : D} {x : V}, TRep b.M Fz1 H1 d x → TRep b.M Fz1 (upd H1 tp (.tup [.ty "list", .ty "tuple"])) d x := fun {d x} t => by
      cases d with
      | lst ds =>
        obtain ⟨a, vs, e, h, rr⟩ := t
        refine ⟨a, vs, e, ?_, rr.grow gr⟩
        rcases h with (h | ⟨o, h⟩) | h
        · exact .inl (.inl (gr.st _ _ h))
        · exact .inl (.inr ⟨o, gr.st _ _ h⟩)
        · exact .inr h
      | _ => exact Rep.grow gr t
    have ty := tyX_rep (tup (res_ok r1 rep1 ed)) k2
    rw [hM] at ty
    refine ⟨x', tp, [.ty "list", .ty "tuple"], _, [.type "list", .type "tuple"], c, rfl, upd_same, .cons (.ty _) (.cons (.ty _) .nil), ty, ?_, h3.ok (r1.grow gr) gr.ext rep_bl⟩
    cases d with
    | lst ds =>
      cases ec
      exact kitAny_cons (kit_ty (b := "list") (r := true) (by show kitB "list" "list" = _; decide +kernel)) (fun q => nomatch q) fun _ => rfl
    | tup ds =>
      cases ec
      exact kitAny_cons (kit_ty (b := "list") (r := false) (by show kitB "tuple" "list" = _; decide +kernel)) (fun _ => kitAny_cons (kit_ty (b := "tuple") (r := true) (by show kitB "tuple" "tuple" = _; decide +kernel)) (fun q => nomatch q) fun _ => rfl) fun q => nomatch q
    | obj c ns ds => cases ec
    | emp =>
      cases ec
      exact kitAny_cons (kit_ty (b := "list") (r := false) (by show kitB "dict" "list" = _; decide +kernel)) (fun _ => kitAny_cons (kit_ty (b := "tuple") (r := false) (by show kitB "dict" "tuple" = _; decide +kernel)) (fun _ => kitAny_nil) fun q => nomatch q) fun q => nomatch q
    | non =>
      cases ec
      exact kitAny_cons (kit_ty (b := "list") (r := false) (by show kitB "NoneType" "list" = _; decide +kernel)) (fun _ => kitAny_cons (kit_ty (b := "tuple") (r := false) (by show kitB "NoneType" "tuple" = _; decide +kernel)) (fun _ => kitAny_nil) fun q => nomatch q) fun q => nomatch q
    | bl k =>
      cases ec
      exact kitAny_cons (kit_ty (b := "list") (r := false) (by show kitB "bool" "list" = _; decide +kernel)) (fun _ => kitAny_cons (kit_ty (b := "tuple") (r := false) (by show kitB "bool" "tuple" = _; decide +kernel)) (fun _ => kitAny_nil) fun q => nomatch q) fun q => nomatch q
    | int k =>
      cases ec
      exact kitAny_cons (kit_ty (b := "list") (r := false) (by show kitB "int" "list" = _; decide +kernel)) (fun _ => kitAny_cons (kit_ty (b := "tuple") (r := false) (by show kitB "int" "tuple" = _; decide +kernel)) (fun _ => kitAny_nil) fun q => nomatch q) fun q => nomatch q
    | str k =>
      cases ec
      exact kitAny_cons (kit_ty (b := "list") (r := false) (by show kitB "str" "list" = _; decide +kernel)) (fun _ => kitAny_cons (kit_ty (b := "tuple") (r := false) (by show kitB "str" "tuple" = _; decide +kernel)) (fun _ => kitAny_nil) fun q => nomatch q) fun q => nomatch q

/-! ### fields of instances -/
def fldD (c0 : Str) (ns0 : List Str) (i : Nat) : D → Option D
  | .obj c ns ds => if c = c0 ∧ ns = ns0 then ds[i]? else none
  | _ => none
theorem lookup_zip : ∀ (ns : List Str) (vs : List V) (f : Str) (i : Nat), ns.findIdx? (· == f) = some i → ns.length = vs.length → (ns.zip vs).lookup f = vs[i]?
  | [], _, f, i, h, _ => by simp at h
  | n :: ns, [], f, i, h, hl => by simp at hl
  | n :: ns, v :: vs, f, i, h, hl => by
    rw [List.findIdx?_cons] at h
    rw [List.zip_cons_cons]
    by_cases c : (n == f) = true
    · rw [if_pos c] at h
      have hi : 0 = i := Option.some.inj h
      subst hi
      have c' : (f == n) = true := by
        have := beq_iff_eq.mp c
        subst this
        simp
      simp [List.lookup, c']
    · rw [if_neg c] at h
      obtain ⟨j, hj, e⟩ := Option.map_eq_some_iff.mp h
      subst e
      have c' : (f == n) = false := by
        rw [beq_eq_false_iff_ne]
        intro q
        subst q
        simp at c
      simp only [List.lookup, c']
      rw [lookup_zip ns vs f j hj (by simpa using hl)]
      simp
structure FldC (M : MM) (c0 : Str) (f : Str) : Prop where
  ok : ∀ C, M.mg c0 = some (.ref C) → Cls M.K C ∧ NoAttr M.K C f
end

/-! ### statements -/
section
variable {X : Cx} {b : B} {W : WX} {e e1 e2 : Expr} {f : FE} {pos p : Pos} {st : Stmt} {sts : List Stmt} {s1 s2 : FS}
def RS.bd (r : RS) (k : Sg → RS) : RS := match r with
  | .nx g => k g
  | r => r
@[simp] theorem RS.bd_nx {g : Sg} {k : Sg → RS} : (RS.nx g).bd k = k g := rfl
@[simp] theorem RS.bd_rt {d : D} {g : Sg} {k : Sg → RS} : (RS.rt d g).bd k = .rt d g := rfl
@[simp] theorem RS.bd_rf {d : List D} {g : Sg} {k : Sg → RS} : (RS.rf d g).bd k = .rf d g := rfl
@[simp] theorem RS.bd_bk {g : Sg} {k : Sg → RS} : (RS.bk g).bd k = .bk g := rfl
@[simp] theorem RS.bd_ct {g : Sg} {k : Sg → RS} : (RS.ct g).bd k = .ct g := rfl
@[simp] theorem RS.bd_ex {e : Exn} {g : Sg} {k : Sg → RS} : (RS.ex e g).bd k = .ex e g := rfl
@[simp] theorem RS.bd_no {k : Sg → RS} : RS.no.bd k = .no := rfl
def skipS : FS := fun g => .nx g
def seqS (s1 s2 : FS) : FS := fun g => (s1 g).bd s2
theorem Go.refl {as : List Nat} {σ : L2.St} {Fz : Fzn} {H : Hp} : Go as σ Fz H σ Fz H := ⟨.refl, fun _ _ => rfl⟩
theorem Go.trans {as as2 : List Nat} {σ σ1 σ2 : L2.St} {Fz Fz1 Fz2 : Fzn} {H H1 H2 : Hp} (a : Go as σ Fz H σ1 Fz1 H1) (c : Go as2 σ1 Fz1 H1 σ2 Fz2 H2) : Go (as ++ as2) σ Fz H σ2 Fz2 H2 :=
  ⟨a.ex.trans c.ex, fun i h => (c.sl i fun z => h (List.mem_append_right _ z)).trans (a.sl i fun z => h (List.mem_append_left _ z))⟩
theorem Go.sub {as as2 : List Nat} {σ σ1 : L2.St} {Fz Fz1 : Fzn} {H H1 : Hp} (a : Go as σ Fz H σ1 Fz1 H1) (h : ∀ i ∈ as, i ∈ as2) : Go as2 σ Fz H σ1 Fz1 H1 := ⟨a.ex, fun i z => a.sl i fun q => z (h i q)⟩
theorem PoS.sub {as as2 : List Nat} {σ : L2.St} {Fz : Fzn} {H : Hp} {D : Ends} {r : RS} (h : PoS b W as2 σ Fz H D r) (s : ∀ i ∈ as, i ∈ as2) : PoS b W as σ Fz H D r := by
  cases r with
  | nx g => exact fun σ' H' Fz' r' go => h σ' H' Fz' r' (go.sub s)
  | bk g => exact fun σ' H' Fz' r' go => h σ' H' Fz' r' (go.sub s)
  | ct g => exact fun σ' H' Fz' r' go => h σ' H' Fz' r' (go.sub s)
  | rt d g => exact h
  | rf d g => exact h
  | ex d g => exact fun σ' cl dx H' Fz' r' go ok => h σ' cl dx H' Fz' r' (go.sub s) ok
  | no => exact h
theorem PoS.weak {as as2 : List Nat} {σ σ1 : L2.St} {Fz Fz1 : Fzn} {H H1 : Hp} {D : Ends} {r : RS} (h : PoS b W (as ++ as2) σ Fz H D r) (go : Go as σ Fz H σ1 Fz1 H1) : PoS b W as2 σ1 Fz1 H1 D r := by
  cases r with
  | nx g => exact fun σ' H' Fz' r' go' => h σ' H' Fz' r' (go.trans go')
  | bk g => exact fun σ' H' Fz' r' go' => h σ' H' Fz' r' (go.trans go')
  | ct g => exact fun σ' H' Fz' r' go' => h σ' H' Fz' r' (go.trans go')
  | rt d g => exact h
  | rf d g => exact h
  | ex d g => exact fun σ' cl dx H' Fz' r' go' ok => h σ' cl dx H' Fz' r' (go.trans go') ok
  | no => exact h
theorem PoS.weakE {as : List Nat} {σ : L2.St} {Fz Fz1 : Fzn} {H H1 : Hp} {D : Ends} {r : RS} (h : PoS b W as σ Fz H D r) (e : Ext Fz H Fz1 H1) : PoS b W as σ Fz1 H1 D r :=
  PoS.weak (as := []) (by rw [List.nil_append]; exact h) ⟨e, fun _ _ => rfl⟩
theorem pts_nil' : PSs X [] (tSt b W [] skipS) := pss_mono pss_nil fun D σ H ⟨Fz, g, r, h⟩ => h σ H Fz r .refl
theorem pts_cons {a1 a2 : List Nat} (h1 : PS X st (tSt b W a1 s1)) (h2 : PSs X sts (tSt b W a2 s2)) : PSs X (st :: sts) (tSt b W (a1 ++ a2) (seqS s1 s2)) := pss_mono (pss_cons h1 h2) fun D σ H ⟨Fz, g, r, h⟩ => by
  refine ⟨Fz, g, r, ?_⟩
  unfold seqS at h
  cases q : s1 g with
  | nx g' => rw [q] at h; exact fun σ' H' Fz' r' go => ⟨Fz', g', r', PoS.weak h go⟩
  | rt d g' => rw [q] at h; exact h
  | rf d g' => rw [q] at h; exact h
  | bk g' => rw [q] at h; exact fun σ' H' Fz' r' go => h σ' H' Fz' r' (go.sub fun i z => List.mem_append_left _ z)
  | ct g' => rw [q] at h; exact fun σ' H' Fz' r' go => h σ' H' Fz' r' (go.sub fun i z => List.mem_append_left _ z)
  | ex d g' => rw [q] at h; exact fun σ' cl dx H' Fz' r' go ok => h σ' cl dx H' Fz' r' (go.sub fun i z => List.mem_append_left _ z) ok
  | no => rw [q] at h; exact h
theorem pts_one' {a1 : List Nat} (h1 : PS X st (tSt b W a1 s1)) : PSs X [st] (tSt b W a1 s1) := pss_one h1
/-- an expression, then a statement's way on -/
def R.sb {α : Type} (r : R α) (k : α → Sg → RS) : RS := match r with
  | .ok d g => k d g
  | .ex e g => .ex e g
  | .no => .no
@[simp] theorem R.sb_ok {α : Type} {d : α} {g : Sg} {k : α → Sg → RS} : (R.ok d g).sb k = k d g := rfl
@[simp] theorem R.sb_ex {α : Type} {e : Exn} {g : Sg} {k : α → Sg → RS} : (R.ex e g : R α).sb k = .ex e g := rfl
@[simp] theorem R.sb_no {α : Type} {k : α → Sg → RS} : (R.no : R α).sb k = .no := rfl
theorem tG_st {as : List Nat} {α ξ : Type} {P : Bear α ξ} {f : Sg → R α} {σ : L2.St} {Fz : Fzn} {H : Hp} {g : Sg} {D : Ends} {Q : ξ → Hp → Prop} {k : α → Sg → RS} (r : BRel b Fz g σ H) (h : PoS b W as σ Fz H D ((f g).sb k))
    (hk : ∀ d x g1 Fz1 H1, BRel b Fz1 g1 σ H1 → Ext Fz H Fz1 H1 → P σ Fz1 H1 g1 d x → PoS b W as σ Fz1 H1 D (k d g1) → Q x H1) : tG b W P f σ H Q := by
  refine ⟨Fz, g, r, ?_⟩
  cases q : f g with
  | ok d g' => rw [q] at h; exact fun x H' Fz' r' e' rep => hk d x g' Fz' H' r' e' rep (PoS.weakE h e')
  | ex e g' => rw [q] at h; exact fun cl dx H' Fz' r' ex' ok => h σ cl dx H' Fz' r' ⟨ex', fun _ _ => rfl⟩ ok
  | no => rw [q] at h; exact h
/-- e as a statement -/
def exprS (f : FE) : FS := fun g => (f g).sb fun _ g1 => .nx g1
theorem pts_expr (he : PE X e (tE b W f)) (hs : swapsWith e none pos.line X.env = pure false := by rfl) : PS X (.Expr e pos) (tSt b W [] (exprS f)) := ps_mono (ps_expr he hs) fun D σ H ⟨Fz, g, r, h⟩ =>
  tG_st r h fun d x g1 Fz1 H1 r1 _ _ h1 => h1 σ H1 Fz1 r1 .refl
theorem pts_doc {x j p'} : PS X (.Expr (.Constant (.str x) j p) p') (tSt b W [] skipS) := ps_mono ps_doc fun D σ H ⟨Fz, g, r, h⟩ => h σ H Fz r .refl
theorem pts_pass : PS X (.Pass pos) (tSt b W [] skipS) := ps_mono ps_pass fun D σ H ⟨Fz, g, r, h⟩ => h σ H Fz r .refl
def brkS : FS := fun g => .bk g
def cntS : FS := fun g => .ct g
theorem pts_break : PS X (.Break pos) (tSt b W [] brkS) := ps_mono ps_break fun D σ H ⟨Fz, g, r, h⟩ => h σ H Fz r .refl
theorem pts_continue : PS X (.Continue pos) (tSt b W [] cntS) := ps_mono ps_continue fun D σ H ⟨Fz, g, r, h⟩ => h σ H Fz r .refl
def retS (f : FE) : FS := fun g => (f g).sb fun d g1 => .rt d g1
theorem pts_ret (he : PE X e (tE b W f)) : PS X (.Return (some e) pos) (tSt b W [] (retS f)) := ps_mono (ps_ret he) fun D σ H ⟨Fz, g, r, h⟩ =>
  tG_st r h fun d x g1 Fz1 H1 r1 _ rep h1 => h1 x σ H1 Fz1 r1 rep
def retN : FS := fun g => .rt .non g
theorem pts_retN : PS X (.Return none pos) (tSt b W [] retN) := ps_mono ps_retN fun D σ H ⟨Fz, g, r, h⟩ => h .non σ H Fz r rep_non
/-- a new list is returned -/
def retF (f : FF) : FS := fun g => (f g).sb fun d g1 => .rf d g1
theorem pts_retF {f : FF} (he : PE X e (tFr b W f)) : PS X (.Return (some e) pos) (tSt b W [] (retF f)) := ps_mono (ps_ret he) fun D σ H ⟨Fz, g, r, h⟩ =>
  tG_st r h fun d x g1 Fz1 H1 r1 _ rep h1 => h1 x σ H1 Fz1 r1 rep
/-- the own list of slot i goes out -/
def takeF (i : Nat) : FF := fun g => match gat g i with
  | .ow ds => .ok ds (g.set i .un)
  | _ => .no
theorem pf_take {i : Nat} (h : PE X e (tVar i)) (hnp : b.np ≤ i) : PE X e (tFr b W (takeF i)) := pe_mono h fun σ H Q ⟨Fz, g, r, q⟩ => by
  unfold takeF at q
  cases hg : gat g i with
  | ow ds =>
    rw [hg] at q
    have hgi := gat_get hg (by intro z; cases z)
    obtain ⟨a, u, e1, nf, hu, vs, eu, rep⟩ := r.slot hgi
    subst eu
    have ow : Own g σ i a := ⟨⟨_, hgi, rfl⟩, e1⟩
    have h0 : b.H0 a = none := by
      rcases r.own i a ow with ⟨z, _⟩ | ⟨_, z⟩
      · omega
      · exact z
    refine ⟨.ref a, e1, q (.ref a) H Fz (r.forget i) .refl ⟨a, vs, rfl, h0, nf, hu, fun j z => ?_, rep⟩⟩
    rcases z with z | z
    · obtain ⟨⟨t, et, w⟩, zz⟩ := z
      rcases gset_get et with ⟨_, e2⟩ | ⟨hj, e2⟩
      · subst e2; cases w
      · exact hj (r.rel.apart j i a ⟨⟨t, e2, w⟩, zz⟩ ow)
    · obtain ⟨dss, a', vs', k1, k2⟩ := z
      rcases gset_get k1 with ⟨_, e2⟩ | ⟨hj, e2⟩
      · cases e2
      · exact (r.nst.free j a ⟨dss, a', vs', e2, k2⟩).2.2 i ow
  | _ => rw [hg] at q; exact q.elim
def ifS (c : FB) (s1 s2 : FS) : FS := fun g => (c g).sb fun v g1 => if v = true then s1 g1 else s2 g1
theorem pts_if {a1 a2 : List Nat} {a c : List Stmt} {fb : FB} (hc : PT X e (tBo b W fb)) (ha : PSs X a (tSt b W a1 s1)) (hb : PSs X c (tSt b W a2 s2)) : PS X (.If e a c pos) (tSt b W (a1 ++ a2) (ifS fb s1 s2)) := ps_mono (ps_if hc ha hb) fun D σ H ⟨Fz, g, r, h⟩ => by
  refine tG_st r h fun d x g1 Fz1 H1 r1 _ rep h1 => ?_
  have rep' : x = d := rep
  subst rep'
  cases x with
  | true => exact ⟨Fz1, g1, r1, PoS.sub h1 fun i z => List.mem_append_left _ z⟩
  | false => exact ⟨Fz1, g1, r1, PoS.sub h1 fun i z => List.mem_append_right _ z⟩

/-! ### assignments -/
theorem Go.set {σ : L2.St} {Fz : Fzn} {H : Hp} {i : Nat} {v : Option V} : Go [i] σ Fz H (σ.set i v) Fz H := ⟨.refl, fun j h => List.getElem?_set_ne fun z => h (by simp [z])⟩
/-- slot i gets data; a parameter that holds an own list is not overwritten -/
def asgS (i : Nat) (f : FE) : FS := fun g => (f g).sb fun d g1 => .nx (g1.set i (.v d))
theorem pts_asg {i : Nat} {x : Str} {p' : Pos} (hN : X.N.Nodup) (hi : X.N[i]? = some x) (hx : Loc X.env.scope x) (he : PE X e (tE b W f)) (hs : swapsWith e (some (.Name x p')) pos.line X.env = pure false := by rfl)
    (hf : X.fn x = true ∨ X.env.scope.names.lookup x = some .local := by first | exact .inl rfl | exact .inr rfl | assumption) (hpx : PxOk b i) : PS X (.Assign [.Name x p'] e pos) (tSt b W [i] (asgS i f)) := ps_mono (ps_set hN hi hx he hs hf) fun D σ H ⟨Fz, g, r, h⟩ =>
  tG_st r h fun d x' g1 Fz1 H1 r1 _ rep h1 => h1 _ H1 Fz1 (r1.setV hpx rep) .set
/-- slot i (no parameter) gets a new own list -/
def asgO (i : Nat) (f : FF) : FS := fun g => (f g).sb fun d g1 => .nx (g1.set i (.ow d))
theorem pts_asgO {i : Nat} {x : Str} {p' : Pos} {f : FF} (hnp : b.np ≤ i) (hN : X.N.Nodup) (hi : X.N[i]? = some x) (hx : Loc X.env.scope x) (he : PE X e (tFr b W f)) (hs : swapsWith e (some (.Name x p')) pos.line X.env = pure false := by rfl)
    (hf : X.fn x = true ∨ X.env.scope.names.lookup x = some .local := by first | exact .inl rfl | exact .inr rfl | assumption) (hpx : PxOk b i) : PS X (.Assign [.Name x p'] e pos) (tSt b W [i] (asgO i f)) := ps_mono (ps_set hN hi hx he hs hf) fun D σ H ⟨Fz, g, r, h⟩ => by
  refine tG_st r h fun d x' g1 Fz1 H1 r1 _ rep h1 => ?_
  obtain ⟨p, vs, rfl, h0, nf, hu, ho, rr⟩ := rep
  exact h1 _ H1 Fz1 (r1.setO hpx hnp h0 nf hu ho ⟨vs, rfl, rr⟩) .set
end
end DL

set_option Elab.async false
set_option linter.all false
set_option maxRecDepth 100000
set_option maxHeartbeats 4000000
/-! Den6: what a def promises; calls. -/
namespace DL
open PySem L2 PySem.Spec PyProof.Rows

/-- behind a call -/
structure PostC (M : MM) (Fz : Fzn) (H : Hp) (vs : List V) (as : Sg) (Fz' : Fzn) (H' : Hp) (as' : Sg) : Prop where
  dom : ∀ a, Fz' a → ∃ o, H' a = some o
  fz : ∀ a, Fz a → Fz' a
  new : ∀ a, Fz' a → Fz a ∨ H a = none
  fr : ∀ a o, H a = some o → (¬ ∃ i, Own as (vs.map some) i a) → KpAt H' a o
  tb : LamX.Tabs M.T H'
  len : as'.length = as.length
  out : ∀ i a, Own as (vs.map some) i a → ∃ s u, as'[i]? = some s ∧ ¬ Fz' a ∧ H' a = some u ∧ OwnAt M Fz' H' s u

/-- no nested own lists among the arguments -/
def NoOn (as : Sg) : Prop := ∀ (i : Nat) (dss : List (List D)), as[i]? ≠ some (S.on dss)
def spD (M : MM) (n : Nat) (dn : Dn) : Sp := fun vs H Q E => vs.length = n ∧ ∃ Fz as, (∀ a, Fz a → ∃ o, H a = some o) ∧ ARel M Fz H as (vs.map some) ∧ NoOn as ∧ LamX.Tabs M.T H ∧ match dn as with
  | .ok d as' => ∀ x H' Fz', PostC M Fz H vs as Fz' H' as' → Rep M Fz' H' d x → Q x H'
  | .okf ds as' => ∀ p ws H' Fz', PostC M Fz H vs as Fz' H' as' → H p = none → ¬ Fz' p → H' p = some (.lst ws) → RepL M Fz' H' ds ws → Q (.ref p) H'
  | .ex e as' => ∀ cl dx H' Fz', PostC M Fz H vs as Fz' H' as' → ExOk M Fz' H' e cl dx → E cl dx H'
  | .no => False

/-! ### a def from its body -/
/-- the own arguments are own still -/
def okOut : Sg → Sg → Bool
  | [], _ => true
  | s :: as, t :: g => (!s.isOw || t.isOw) && okOut as g
  | _ :: _, [] => false
theorem okOut_le : ∀ {as g : Sg}, okOut as g = true → as.length ≤ g.length
  | [], _, _ => Nat.zero_le _
  | _ :: as, _ :: g, h => by
    unfold okOut at h
    rw [Bool.and_eq_true] at h
    exact Nat.succ_le_succ (okOut_le h.2)
  | _ :: _, [], h => by cases h
theorem okOut_get : ∀ {as g : Sg} {i : Nat} {s : S}, okOut as g = true → as[i]? = some s → s.isOw = true → ∃ t, g[i]? = some t ∧ t.isOw = true
  | [], _, i, s, _, e, _ => by simp at e
  | x :: as, t :: g, 0, s, h, e, w => by
    have e' : x = s := by simpa using e
    subst e'
    unfold okOut at h
    rw [w] at h
    simp at h
    exact ⟨t, rfl, h.1⟩
  | x :: as, t :: g, i + 1, s, h, e, w => by
    unfold okOut at h
    rw [Bool.and_eq_true] at h
    obtain ⟨t', h1, h2⟩ := okOut_get (i := i) h.2 (by simpa using e) w
    exact ⟨t', by simpa using h1, h2⟩
  | x :: as, [], i, s, h, e, w => by cases h
def endC (as : Sg) (r : RS) : RC := match r with
  | .nx g => if okOut as g = true then .ok .non (g.take as.length) else .no
  | .rt d g => if okOut as g = true then .ok d (g.take as.length) else .no
  | .rf ds g => if okOut as g = true then .okf ds (g.take as.length) else .no
  | .ex e g => if okOut as g = true then .ex e (g.take as.length) else .no
  | _ => .no
/-- a def of N slots -/
def defF (N : Nat) (body : FS) : Dn := fun as => endC as (body (as ++ List.replicate (N - as.length) .un))

section
variable {P : Program} {w : World} {K : PySem.W.Frag} {mg : Str → Option Value} {base : Heap}
theorem start_rel {M : MM} {N : List Str} {vs : List V} {as : Sg} {Fz : Fzn} {H : Hp} (hl : vs.length ≤ N.length) (dom : ∀ a, Fz a → ∃ o, H a = some o) (rel : ARel M Fz H as (vs.map some)) (noon : NoOn as) (tb : LamX.Tabs M.T H) :
    BRel ⟨M, H, Fz, fun a => ∃ i, Own as (vs.map some) i a, vs.length, vs.map some, none⟩ Fz (as ++ List.replicate (N.length - as.length) .un) (L2.start N vs) H := by
  have len : as.length = vs.length := by rw [rel.len, List.length_map]
  have ow : ∀ {i a}, Own (as ++ List.replicate (N.length - as.length) .un) (L2.start N vs) i a → i < vs.length ∧ Own as (vs.map some) i a := fun {i a} h => by
    obtain ⟨⟨s, e, wo⟩, q⟩ := h
    by_cases hi : i < as.length
    · rw [List.getElem?_append_left hi] at e
      refine ⟨by omega, ⟨s, e, wo⟩, ?_⟩
      unfold L2.start at q
      rw [List.getElem?_append_left (by rw [List.length_map]; omega)] at q
      exact q
    · rw [List.getElem?_append_right (by omega)] at e
      have z := List.mem_replicate.mp (List.mem_of_getElem? e)
      rw [z.2] at wo
      cases wo
  refine ⟨⟨dom, fun _ h => h, fun _ h => .inl h, fun a o h _ => .of h, fun a h => ?_, tb⟩, ⟨?_, fun i s e => ?_, fun i j a p q => rel.apart i j a (ow p).2 (ow q).2⟩, fun i a h => .inl ⟨(ow h).1, i, (ow h).2⟩, fun i a _ h => (ow h).2.2, (fun _ _ h => nomatch h), ?nst⟩
  case nst =>
    have no : ∀ (i : Nat) (dss : List (List D)), (as ++ List.replicate (N.length - as.length) S.un)[i]? ≠ some (S.on dss) := fun i dss e => by
      by_cases hi : i < as.length
      · rw [List.getElem?_append_left hi] at e
        exact noon i dss e
      · rw [List.getElem?_append_right (by omega)] at e
        have z := List.mem_replicate.mp (List.mem_of_getElem? e)
        cases z.2
    exact ⟨fun i dss h => absurd h (no i dss), fun i x ⟨dss, _, _, h, _⟩ => absurd h (no i dss), fun i j x ⟨dss, _, _, h, _⟩ => absurd h (no i dss)⟩
  · obtain ⟨i, h⟩ := h
    obtain ⟨⟨s, e, wo⟩, q⟩ := h
    obtain ⟨a', u, e1, n, h1, _⟩ := (rel.ok i s e).own wo
    rw [q] at e1
    injection e1 with e1
    injection e1 with e1
    injection e1 with e1
    subst e1
    exact ⟨⟨u, h1⟩, n, u, h1⟩
  · unfold L2.start
    rw [List.length_append, List.length_append, List.length_map, List.length_replicate, List.length_replicate, len]
  · by_cases hi : i < as.length
    · rw [List.getElem?_append_left hi] at e
      have z := rel.ok i s e
      unfold L2.start
      rw [List.getElem?_append_left (by rw [List.length_map]; omega)]
      exact z
    · rw [List.getElem?_append_right (by omega)] at e
      have z := List.mem_replicate.mp (List.mem_of_getElem? e)
      rw [z.2]
      trivial
theorem end_post {M : MM} {vs : List V} {as g : Sg} {Fz Fz' : Fzn} {H H' : Hp} {σ : L2.St} (rel : ARel M Fz H as (vs.map some)) (ok : okOut as g = true)
    (r : BRel ⟨M, H, Fz, fun a => ∃ i, Own as (vs.map some) i a, vs.length, vs.map some, none⟩ Fz' g σ H') : PostC M Fz H vs as Fz' H' (g.take as.length) where
  dom := r.gr.dom
  fz := r.gr.fz
  new := r.gr.new
  fr := r.gr.fr
  tb := r.gr.tb
  len := by rw [List.length_take, Nat.min_eq_left (okOut_le ok)]
  out := fun i a h => by
    obtain ⟨⟨s, e, wo⟩, q⟩ := h
    have hi : i < as.length := (List.getElem?_eq_some_iff.mp e).1
    have len : as.length = vs.length := by rw [rel.len, List.length_map]
    obtain ⟨t, et, wt⟩ := okOut_get ok e wo
    obtain ⟨a', u, e1, n, h1, w1⟩ := (r.slot et).own wt
    have ow : Own g σ i a' := ⟨⟨t, et, wt⟩, e1⟩
    have pin : (vs.map some)[i]? = some (some (V.ref a')) := r.pin i a' (by show i < vs.length; omega) ow
    have z : some (some (V.ref a')) = some (some (V.ref a)) := pin.symm.trans q
    injection z with z
    injection z with z
    injection z with z
    subst z
    exact ⟨t, u, by rw [List.getElem?_take_of_lt hi]; exact et, n, h1, w1⟩
/-- THE RULE for a def; C: what is known of its code object -/
theorem ok_defC {x qual : Str} {st : Stmt} {f : Addr} {fd : FuncData} {N ps : List Str} {k n : Nat} {al : List Nat} {body : FS} {dvs : List V} {C : Value → Prop} (hC : C fd.code) (hn : n = ps.length) (hN : ps.length ≤ N.length) (F : FunD K x qual (defArgs st) (defBody st) (defScope st) dvs [] f fd) (S : FnScope N ps (defScope st))
    (hbody : ∀ (cdv : Value) (A : Around) (outer : List Env) (s : Shared) (H : Hp) (E : XK) (b : B), C cdv → Room k (A.deeper (envOfC qual (defScope st) s.heap.objs.size f cdv)) → b.M = ⟨K, mg, Tb⟩ → b.np = n → b.px = none →
      PSs (cxOf (L2.CX P w) P w K mg base N qual (defScope st) f cdv A outer s H E) (defBody st) (tSt b (fun cls d _ H => E cls d H) al body)) : FnOk P w K mg base (L2.CX P w) (k + 1) f fd ps (spD ⟨K, mg, Tb⟩ n (defF N.length body)) := by
  subst hn
  obtain ⟨oc, od, dV, kV, doc, pm, an, cdv, ct, osl, efd, lk, hcd, _, _⟩ := F.ex
  subst efd
  refine fn_of (CX := L2.CX P w) lk hcd S (fun vs H Q E h => h.1) fun A outer s H vs Q E hr h => ?_
  obtain ⟨hl, Fz, as, dom, rel, noon, tb, h⟩ := h
  refine ⟨_, hbody cdv A outer s H E ⟨⟨K, mg, Tb⟩, H, Fz, fun a => ∃ i, Own as (vs.map some) i a, vs.length, vs.map some, none⟩ hC hr rfl hl rfl, ?_⟩
  refine ⟨Fz, as ++ List.replicate (N.length - as.length) .un, start_rel (by omega) dom rel noon tb, ?_⟩
  unfold defF at h
  cases q : body (as ++ List.replicate (N.length - as.length) .un) with
  | nx g =>
    rw [q] at h
    unfold endC at h
    dsimp only at h
    by_cases c : okOut as g = true
    · rw [if_pos c] at h
      exact fun σ' H' Fz' r' _ => h .non H' Fz' (end_post rel c r') rep_non
    · rw [if_neg c] at h; exact h.elim
  | rt d g =>
    rw [q] at h
    unfold endC at h
    dsimp only at h
    by_cases c : okOut as g = true
    · rw [if_pos c] at h
      exact fun x σ' H' Fz' r' rep => h x H' Fz' (end_post rel c r') rep
    · rw [if_neg c] at h; exact h.elim
  | rf d g =>
    rw [q] at h
    unfold endC at h
    dsimp only at h
    by_cases c : okOut as g = true
    · rw [if_pos c] at h
      intro x σ' H' Fz' r' rep
      obtain ⟨p, ws, rfl, h0, nf, hu, ho, rr⟩ := rep
      exact h p ws H' Fz' (end_post rel c r') h0 nf hu rr
    · rw [if_neg c] at h; exact h.elim
  | ex d g =>
    rw [q] at h
    unfold endC at h
    dsimp only at h
    by_cases c : okOut as g = true
    · rw [if_pos c] at h
      exact fun σ' cl dx H' Fz' r' _ rep => h cl dx H' Fz' (end_post rel c r') rep
    · rw [if_neg c] at h; exact h.elim
  | bk g => rw [q] at h; exact h.elim
  | ct g => rw [q] at h; exact h.elim
  | no => rw [q] at h; exact h.elim
theorem ok_def {x qual : Str} {st : Stmt} {f : Addr} {fd : FuncData} {N ps : List Str} {k n : Nat} {al : List Nat} {body : FS} {dvs : List V} (hn : n = ps.length) (hN : ps.length ≤ N.length) (F : FunD K x qual (defArgs st) (defBody st) (defScope st) dvs [] f fd) (S : FnScope N ps (defScope st))
    (hbody : ∀ (cdv : Value) (A : Around) (outer : List Env) (s : Shared) (H : Hp) (E : XK) (b : B), Room k (A.deeper (envOfC qual (defScope st) s.heap.objs.size f cdv)) → b.M = ⟨K, mg, Tb⟩ → b.np = n → b.px = none →
      PSs (cxOf (L2.CX P w) P w K mg base N qual (defScope st) f cdv A outer s H E) (defBody st) (tSt b (fun cls d _ H => E cls d H) al body)) : FnOk P w K mg base (L2.CX P w) (k + 1) f fd ps (spD ⟨K, mg, Tb⟩ n (defF N.length body)) :=
  ok_defC (C := fun _ => True) True.intro hn hN F S fun cdv A outer s H E b _ hr hM hnp hpx => hbody cdv A outer s H E b hr hM hnp hpx
end

/-! ### calls -/
def toS (g : Sg) : AV → S
  | .d d => .v d
  | .o i => gat g i
def ownIx : List AV → List Nat
  | [] => []
  | .d _ :: as => ownIx as
  | .o i :: as => i :: ownIx as
/-- the own arguments as the call left them -/
def merge : Sg → List AV → Sg → Sg
  | g, .d _ :: as, _ :: ss => merge g as ss
  | g, .o i :: as, s :: ss => merge (g.set i s) as ss
  | g, _, _ => g
def nodupB : List Nat → Bool
  | [] => true
  | i :: is => !is.contains i && nodupB is
def callR (n : Nat) (dn : Dn) (as : List AV) (g : Sg) : R D := if as.length = n ∧ nodupB (ownIx as) = true then match dn (as.map (toS g)) with
    | .ok d ss => .ok d (merge g as ss)
    | .okf ds ss => .ok (.lst ds) (merge g as ss)
    | .ex e ss => .ex e (merge g as ss)
    | .no => .no
  else .no
def callRF (n : Nat) (dn : Dn) (as : List AV) (g : Sg) : R (List D) := if as.length = n ∧ nodupB (ownIx as) = true then match dn (as.map (toS g)) with
    | .okf ds ss => .ok ds (merge g as ss)
    | .ex e ss => .ex e (merge g as ss)
    | _ => .no
  else .no
/-- f(..); ds: the defaults that fill up -/
def callF (n : Nat) (dn : Dn) (dfs : List D) (fa : FV) : FE := fun g => (fa g).bd fun as g1 => callR n dn (as ++ dfs.map AV.d) g1
def callFF (n : Nat) (dn : Dn) (dfs : List D) (fa : FV) : FF := fun g => (fa g).bd fun as g1 => callRF n dn (as ++ dfs.map AV.d) g1

theorem merge_length : ∀ (as : List AV) (g ss : Sg), (merge g as ss).length = g.length
  | [], g, ss => by unfold merge; rfl
  | .d _ :: as, g, [] => by unfold merge; rfl
  | .o _ :: as, g, [] => by unfold merge; rfl
  | .d _ :: as, g, _ :: ss => by unfold merge; exact merge_length as g ss
  | .o i :: as, g, s :: ss => by unfold merge; rw [merge_length as, List.length_set]
theorem merge_out : ∀ (as : List AV) (g ss : Sg) (j : Nat), j ∉ ownIx as → (merge g as ss)[j]? = g[j]?
  | [], g, ss, j, _ => by unfold merge; rfl
  | .d _ :: as, g, [], j, _ => by unfold merge; rfl
  | .o _ :: as, g, [], j, _ => by unfold merge; rfl
  | .d _ :: as, g, _ :: ss, j, h => by unfold merge; exact merge_out as g ss j h
  | .o i :: as, g, s :: ss, j, h => by
    unfold ownIx at h
    unfold merge
    rw [merge_out as (g.set i s) ss j (fun q => h (List.mem_cons_of_mem _ q)), List.getElem?_set_ne (fun q => h (by rw [q]; exact List.mem_cons_self))]
theorem merge_in : ∀ (as : List AV) (g ss : Sg) (j : Nat), nodupB (ownIx as) = true → ss.length = as.length → j < g.length → j ∈ ownIx as → ∃ k : Nat, as[k]? = some (AV.o j) ∧ (merge g as ss)[j]? = ss[k]?
  | [], g, ss, j, _, _, _, h => by simp [ownIx] at h
  | .d _ :: as, g, [], j, _, hl, _, h => by simp at hl
  | .o _ :: as, g, [], j, _, hl, _, h => by simp at hl
  | .d _ :: as, g, s :: ss, j, nd, hl, hj, h => by
    unfold merge
    obtain ⟨k, h1, h2⟩ := merge_in as g ss j nd (by simpa using hl) hj h
    exact ⟨k + 1, by simpa using h1, by simpa using h2⟩
  | .o i :: as, g, s :: ss, j, nd, hl, hj, h => by
    unfold ownIx at nd h
    unfold nodupB at nd
    rw [Bool.and_eq_true] at nd
    unfold merge
    by_cases hm : j ∈ ownIx as
    · obtain ⟨k, h1, h2⟩ := merge_in as (g.set i s) ss j nd.2 (by simpa using hl) (by rw [List.length_set]; exact hj) hm
      exact ⟨k + 1, by simpa using h1, by simpa using h2⟩
    · rcases List.mem_cons.mp h with e | e
      · subst e
        refine ⟨0, rfl, ?_⟩
        rw [merge_out as _ ss j hm, List.getElem?_set_self hj]
        rfl
      · exact absurd e hm
theorem avs_get {b : B} {σ : L2.St} {Fz : Fzn} {H : Hp} {g : Sg} : ∀ {as : List AV} {xs : List V} {k : Nat} {a : AV}, AVsOk b σ Fz H g as xs → as[k]? = some a → ∃ x, xs[k]? = some x ∧ AVOk b σ Fz H g a x
  | [], _, _, _, _, e => by simp at e
  | c :: as, xs, k, a, h, e => by
    obtain ⟨x, r, rfl, h1, h2⟩ := h
    cases k with
    | zero =>
      have e' : c = a := by simpa using e
      subst e'
      exact ⟨x, rfl, h1⟩
    | succ k => exact avs_get (k := k) h2 (by simpa using e)
theorem avs_len {b : B} {σ : L2.St} {Fz : Fzn} {H : Hp} {g : Sg} : ∀ {as : List AV} {xs : List V}, AVsOk b σ Fz H g as xs → as.length = xs.length
  | [], xs, h => by
    have h' : xs = [] := h
    subst h'; rfl
  | c :: as, xs, h => by
    obtain ⟨x, r, rfl, h1, h2⟩ := h
    simp [avs_len h2]
theorem mem_ownIx : ∀ {as : List AV} {j : Nat}, j ∈ ownIx as ↔ AV.o j ∈ as
  | [], j => by simp [ownIx]
  | .d d :: as, j => by simp [ownIx, mem_ownIx (as := as)]
  | .o i :: as, j => by simp [ownIx, mem_ownIx (as := as)]
theorem nodup_ix2 : ∀ {as : List AV} {j k l : Nat}, nodupB (ownIx as) = true → as[k]? = some (.o j) → as[l]? = some (.o j) → k = l
  | [], _, _, _, _, h, _ => by simp at h
  | .d d :: as, j, k, l, nd, h1, h2 => by
    cases k with
    | zero => simp at h1
    | succ k =>
      cases l with
      | zero => simp at h2
      | succ l => rw [nodup_ix2 (as := as) (k := k) (l := l) nd (by simpa using h1) (by simpa using h2)]
  | .o i :: as, j, k, l, nd, h1, h2 => by
    unfold ownIx nodupB at nd
    rw [Bool.and_eq_true] at nd
    have nm : i ∉ ownIx as := by simpa using nd.1
    cases k with
    | zero =>
      have e : i = j := by simpa using h1
      subst e
      cases l with
      | zero => rfl
      | succ l => exact absurd (mem_ownIx.mpr (List.mem_of_getElem? (by simpa using h2))) nm
    | succ k =>
      cases l with
      | zero =>
        have e : i = j := by simpa using h2
        subst e
        exact absurd (mem_ownIx.mpr (List.mem_of_getElem? (by simpa using h1))) nm
      | succ l => rw [nodup_ix2 (as := as) (k := k) (l := l) nd.2 (by simpa using h1) (by simpa using h2)]
section
variable {b : B} {σ : L2.St} {Fz Fz' : Fzn} {H H' : Hp} {g : Sg} {as : List AV} {xs : List V}
theorem toS_own {i : Nat} {a : Addr} (r : BRel b Fz g σ H) (av : AVsOk b σ Fz H g as xs) (h : Own (as.map (toS g)) (xs.map some) i a) : ∃ j, as[i]? = some (.o j) ∧ Own g σ j a := by
  obtain ⟨⟨s, e, wo⟩, q⟩ := h
  rw [List.getElem?_map] at e q
  cases ea : as[i]? with
  | none => rw [ea] at e; cases e
  | some c =>
    rw [ea] at e
    have e' : toS g c = s := Option.some.inj e
    subst e'
    obtain ⟨x, ex, ox⟩ := avs_get av ea
    rw [ex] at q
    have q' : x = V.ref a := by
      injection q with q
      injection q
    subst q'
    cases c with
    | d d => cases wo
    | o j =>
      obtain ⟨a', e1, ow⟩ := ox
      injection e1 with e1
      subst e1
      exact ⟨j, rfl, ow⟩
/-- the arguments as the callee takes them -/
theorem args_rel (r : BRel b Fz g σ H) (av : AVsOk b σ Fz H g as xs) (nd : nodupB (ownIx as) = true) : ARel b.M Fz H (as.map (toS g)) (xs.map some) where
  len := by rw [List.length_map, List.length_map, avs_len av]
  ok := fun i s e => by
    rw [List.getElem?_map] at e
    cases ea : as[i]? with
    | none => rw [ea] at e; cases e
    | some c =>
      rw [ea] at e
      have e' : toS g c = s := Option.some.inj e
      subst e'
      obtain ⟨x, ex, ox⟩ := avs_get av ea
      rw [List.getElem?_map, ex]
      cases c with
      | d d => exact ⟨x, rfl, ox⟩
      | o j =>
        obtain ⟨a', e1, ow⟩ := ox
        subst e1
        obtain ⟨⟨t, et, wt⟩, q⟩ := ow
        obtain ⟨a2, u, e2, n, h1, w1⟩ := (r.slot et).own wt
        rw [q] at e2
        injection e2 with e2
        injection e2 with e2
        injection e2 with e2
        subst e2
        have ht : toS g (.o j) = t := get_gat et
        rw [ht]
        exact SlotOk.of_own rfl n h1 w1
  apart := fun i j a p q => by
    obtain ⟨k, e1, o1⟩ := toS_own r av p
    obtain ⟨l, e2, o2⟩ := toS_own r av q
    have e3 := r.rel.apart k l a o1 o2
    subst e3
    exact nodup_ix2 nd e1 e2
theorem args_noon (r : BRel b Fz g σ H) (av : AVsOk b σ Fz H g as xs) : NoOn (as.map (toS g)) := fun i dss e => by
  rw [List.getElem?_map] at e
  obtain ⟨a, e1, e2⟩ := Option.map_eq_some_iff.mp e
  obtain ⟨x, _, ox⟩ := avs_get av e1
  cases a with
  | d d => cases e2
  | o j =>
    obtain ⟨a, _, ⟨t, et, wt⟩, _⟩ := ox
    have e3 : gat g j = t := get_gat et
    have e4 : gat g j = S.on dss := e2
    rw [← e3, e4] at wt
    cases wt
/-- the callee leaves the nested lists alone -/
theorem call_cell {ss : Sg} (r : BRel b Fz g σ H) (av : AVsOk b σ Fz H g as xs) (po : PostC b.M Fz H xs (as.map (toS g)) Fz' H' ss) {i : Nat} {x : Addr} (h : NOwn g σ H i x) : H' x = H x := by
  obtain ⟨vs, hv⟩ := NOwn.there r.nst h
  rw [hv]
  refine po.fr x _ hv fun ⟨j, z⟩ => ?_
  obtain ⟨k, _, o1⟩ := toS_own r av z
  exact (r.nst.free i x h).2.2 k o1
theorem merge_on {ss : Sg} (r : BRel b Fz g σ H) (av : AVsOk b σ Fz H g as xs) (nd : nodupB (ownIx as) = true) (po : PostC b.M Fz H xs (as.map (toS g)) Fz' H' ss) {i : Nat} {dss : List (List D)} (e : (merge g as ss)[i]? = some (S.on dss)) : g[i]? = some (S.on dss) := by
  have hj : i < g.length := by
    have := (List.getElem?_eq_some_iff.mp e).1
    rw [merge_length] at this
    exact this
  by_cases hm : i ∈ ownIx as
  · obtain ⟨k, e1, e2⟩ := merge_in as g ss i nd (by rw [po.len, List.length_map]) hj hm
    obtain ⟨x, ex, ox⟩ := avs_get av e1
    obtain ⟨a2, ea, ⟨t, et, wt⟩, q⟩ := ox
    obtain ⟨s, u, es, n, hu, w⟩ := po.out k a2 ⟨⟨t, by rw [List.getElem?_map, e1]; exact congrArg some (get_gat et), wt⟩, by rw [List.getElem?_map, ex, ea]; rfl⟩
    rw [e2, es] at e
    injection e with e
    subst e
    exact w.elim
  · rw [merge_out as g ss i hm] at e
    exact e
theorem call_nown {ss : Sg} (r : BRel b Fz g σ H) (av : AVsOk b σ Fz H g as xs) (nd : nodupB (ownIx as) = true) (po : PostC b.M Fz H xs (as.map (toS g)) Fz' H' ss) {i : Nat} {x : Addr} (h : NOwn (merge g as ss) σ H' i x) : NOwn g σ H i x := by
  obtain ⟨dss, a, vs, h1, h2, h3, h4⟩ := h
  have k1 := merge_on r av nd po h1
  rw [call_cell r av po (r.nst.nown k1 h2)] at h3
  exact ⟨dss, a, vs, k1, h2, h3, h4⟩
/-- the state behind the call -/
theorem after_call {ss : Sg} (r : BRel b Fz g σ H) (av : AVsOk b σ Fz H g as xs) (nd : nodupB (ownIx as) = true) (po : PostC b.M Fz H xs (as.map (toS g)) Fz' H' ss) :
    BRel b Fz' (merge g as ss) σ H' ∧ Ext Fz H Fz' H' := by
  -- an own slot that is not handed on is not the callee's
  have notArg : ∀ {j a}, Own g σ j a → j ∉ ownIx as → ¬ ∃ i, Own (as.map (toS g)) (xs.map some) i a := fun {j a} o h ⟨i, q⟩ => by
    obtain ⟨k, e1, o1⟩ := toS_own r av q
    have e3 := r.rel.apart k j a o1 o
    subst e3
    exact h (mem_ownIx.mpr (List.mem_of_getElem? e1))
  have isArg : ∀ {i a}, Own (as.map (toS g)) (xs.map some) i a → ∃ j, Own g σ j a := fun {i a} q => by
    obtain ⟨k, e1, o1⟩ := toS_own r av q
    exact ⟨k, o1⟩
  have ex : Ext Fz H Fz' H' := ⟨po.fz, fun a o h q => po.fr a o h fun ⟨i, z⟩ => by
    obtain ⟨j, ow⟩ := isArg z
    obtain ⟨s, u, _, nf, hu, w⟩ := r.there ow
    rcases q with q | q
    · exact nf q
    · rw [hu] at h; cases h; exact q w.mut⟩
  have argAt : ∀ {j a} (k : Nat), Own g σ j a → as[k]? = some (AV.o j) → Own (as.map (toS g)) (xs.map some) k a := fun {j a} k o e => by
    obtain ⟨⟨t, et, wt⟩, q⟩ := o
    obtain ⟨x, ex, ox⟩ := avs_get av e
    obtain ⟨a2, e2, ow2⟩ := ox
    subst e2
    have z : σ[j]? = some (some (V.ref a2)) := ow2.2
    rw [q] at z
    injection z with z
    injection z with z
    injection z with z
    subst z
    exact ⟨⟨t, by rw [List.getElem?_map, e]; exact congrArg some (get_gat et), wt⟩, by rw [List.getElem?_map, ex]; rfl⟩
  -- own slots afterwards are own slots before
  have back : ∀ {j a}, Own (merge g as ss) σ j a → Own g σ j a := fun {j a} o => by
    obtain ⟨⟨t, et, wt⟩, q⟩ := o
    by_cases hm : j ∈ ownIx as
    · obtain ⟨k, e⟩ := List.getElem?_of_mem (mem_ownIx.mp hm)
      obtain ⟨x, ex, ox⟩ := avs_get av e
      obtain ⟨a2, _, ow2⟩ := ox
      exact ⟨ow2.1, q⟩
    · rw [merge_out as g ss j hm] at et
      exact ⟨⟨t, et, wt⟩, q⟩
  refine ⟨⟨⟨po.dom, fun a h => po.fz a (r.gr.fz a h), fun a h => ?_, fun a o h n => ?_, fun a h => ?_, po.tb⟩, ⟨by rw [merge_length]; exact r.rel.len, fun j t et => ?_, fun i j a p q => r.rel.apart i j a (back p) (back q)⟩, fun i a h => r.own i a (back h), fun i a hi h => r.pin i a hi (back h), r.px, r.nst.step rfl ex (fun i dss h => ⟨merge_on r av nd po h, rfl⟩) (fun i x h => call_cell r av po h) fun i x h => ?nf⟩, ex⟩
  case nf =>
    obtain ⟨k1, k2, k3⟩ := r.nst.free i x h
    obtain ⟨vs, hv⟩ := NOwn.there r.nst h
    exact ⟨fun z => (po.new x z).elim k1 fun y => (by rw [hv] at y; cases y), k2, fun j o => k3 j (back o)⟩
  · rcases po.new a h with z | z
    · exact r.gr.new a z
    · exact .inr (r.new0 z)
  · refine (r.gr.fr a o h n).to fun u hu _ => po.fr a u hu fun ⟨i, z⟩ => ?_
    obtain ⟨j, ow⟩ := isArg z
    rcases r.own j a ow with ⟨_, y⟩ | ⟨_, y⟩
    · exact n y
    · rw [h] at y; cases y
  · obtain ⟨⟨o, z⟩, y⟩ := r.gr.oa a h
    refine ⟨?_, y⟩
    by_cases c : ∃ i, Own (as.map (toS g)) (xs.map some) i a
    · obtain ⟨i, c⟩ := c
      obtain ⟨s, u, _, _, hu, _⟩ := po.out i a c
      exact ⟨u, hu⟩
    · exact (po.fr a o z c).there
  · have hj : j < g.length := by
      have := (List.getElem?_eq_some_iff.mp et).1
      rw [merge_length] at this
      exact this
    by_cases hm : j ∈ ownIx as
    · obtain ⟨k, e1, e2⟩ := merge_in as g ss j nd (by rw [po.len, List.length_map]) hj hm
      obtain ⟨x, ex, ox⟩ := avs_get av e1
      obtain ⟨a2, _, ow2⟩ := ox
      obtain ⟨s, u, es, n, hu, w⟩ := po.out k a2 (argAt k ow2 e1)
      rw [e2, es] at et
      have et' := Option.some.inj et
      subst et'
      exact SlotOk.of_own ow2.2 n hu w
    · rw [merge_out as g ss j hm] at et
      have z := r.slot et
      by_cases ht : t.isOw = true
      · obtain ⟨x, o, e3, n3, h3, w3⟩ := z.own ht
        refine SlotOk.of_own e3 (fun y => ?_) (w3.kp (po.fr x o h3 (notArg ⟨⟨t, et, ht⟩, e3⟩ hm))) (w3.mono ex)
        rcases po.new x y with y | y
        · exact n3 y
        · rw [h3] at y; cases y
      · cases t with
        | un => trivial
        | on dss => trivial
        | v d => obtain ⟨x, e3, r3⟩ := z; exact ⟨x, e3, Rep.mono ex d x r3⟩
        | _ => exact absurd rfl ht
end
section
variable {X : Cx} {b : B} {W : WX} {k n : Nat} {f : Addr} {fd : FuncData} {ps : List Str} {dn : Dn} {x : Str} {p pos : Pos} {e : Expr} {es : List Expr} {fa : FV} {dvs : List V} {ds : List Value} {dfs : List D}
theorem avs_app {σ : L2.St} {Fz : Fzn} {H : Hp} {g : Sg} : ∀ {as : List AV} {xs : List V}, AVsOk b σ Fz H g as xs → RepL b.M Fz H dfs dvs → AVsOk b σ Fz H g (as ++ dfs.map AV.d) (xs ++ dvs)
  | [], xs, h, r => by
    have h' : xs = [] := h
    subst h'
    rw [List.nil_append, List.nil_append]
    clear h
    induction dfs generalizing dvs with
    | nil => exact RepL.nil_iff.mp r
    | cons d dfs ih =>
      obtain ⟨v, r', rfl, r1, r2⟩ := RepL.cons_iff.mp r
      exact ⟨v, r', rfl, r1, ih r2⟩
  | a :: as, xs, h, r => by
    obtain ⟨x, r', rfl, h1, h2⟩ := h
    exact ⟨x, r' ++ dvs, rfl, h1, avs_app h2 r⟩
theorem callR_ok {σ : L2.St} {H1 : Hp} {Fz1 : Fzn} {g1 : Sg} {as2 : List AV} {xs2 : List V} {Q : VK} (r1 : BRel b Fz1 g1 σ H1) (av2 : AVsOk b σ Fz1 H1 g1 as2 xs2) (h1 : Po b W (bE b) σ Fz1 H1 (fun x _ _ H' _ => Q x H') (callR n dn as2 g1)) : spD b.M n dn xs2 H1 Q (WE W σ) := by
  unfold callR at h1
  by_cases c : as2.length = n ∧ nodupB (ownIx as2) = true
  · rw [if_pos c] at h1
    refine ⟨by rw [← avs_len av2]; exact c.1, Fz1, as2.map (toS g1), r1.gr.dom, args_rel r1 av2 c.2, args_noon r1 av2, r1.gr.tb, ?_⟩
    cases q : dn (as2.map (toS g1)) with
    | ok d ss =>
      rw [q] at h1
      intro x' H' Fz' po rep
      obtain ⟨r2, e2⟩ := after_call r1 av2 c.2 po
      exact h1.ok r2 e2 rep
    | okf zs ss =>
      rw [q] at h1
      intro p' ws H' Fz' po hp nf hu rr
      obtain ⟨r2, e2⟩ := after_call r1 av2 c.2 po
      have fr : bF b σ Fz' H' (merge g1 as2 ss) zs (.ref p') := by
        refine ⟨p', ws, rfl, r1.new0 hp, nf, hu, fun i o => ?_, rr⟩
        rcases o with o | o
        rotate_left
        · exact r1.notN hp i (call_nown r1 av2 c.2 po o)
        obtain ⟨s, u, es, n1, hu1, w1⟩ := r2.there o
        by_cases c2 : ∃ u1, H1 p' = some u1
        · obtain ⟨u1, hu2⟩ := c2
          rw [hp] at hu2; cases hu2
        · obtain ⟨⟨t, et, wt⟩, oq⟩ := o
          by_cases hm : i ∈ ownIx as2
          · obtain ⟨k', e⟩ := List.getElem?_of_mem (mem_ownIx.mp hm)
            obtain ⟨x1, ex1, ox1⟩ := avs_get av2 e
            obtain ⟨a2, _, ow2⟩ := ox1
            have z : σ[i]? = some (some (V.ref a2)) := ow2.2
            rw [oq] at z
            injection z with z
            injection z with z
            injection z with z
            subst z
            obtain ⟨s3, u3, _, _, hu3, _⟩ := r1.there ow2
            exact c2 ⟨u3, hu3⟩
          · rw [merge_out _ g1 ss i hm] at et
            obtain ⟨s3, u3, _, _, hu3, _⟩ := r1.there ⟨⟨t, et, wt⟩, oq⟩
            exact c2 ⟨u3, hu3⟩
      obtain ⟨Fz3, r3, e3, rv⟩ := fresh_rep r2 fr
      exact h1.ok r3 (e2.trans e3) rv
    | ex ee ss =>
      rw [q] at h1
      intro cl dx H' Fz' po ok
      obtain ⟨r2, e2⟩ := after_call r1 av2 c.2 po
      exact h1 cl dx H' Fz' r2 e2 ok
    | no => rw [q] at h1; exact h1
  · rw [if_neg c] at h1
    exact h1.elim
theorem tE_call (hd : ∀ Fz H, RepL b.M Fz H dfs dvs) {σ : L2.St} {H : Hp} {Q : VK} (h : tE b W (callF n dn dfs fa) σ H Q) : tCallSD (spD b.M n dn) dvs (fun σ => WE W σ) (tAv b W fa) σ H Q := by
  obtain ⟨Fz, g, r, h⟩ := h
  exact tG_seq r h fun as xs g1 Fz1 H1 r1 e1 av h1 => callR_ok r1 (avs_app (dfs := dfs) av (hd Fz1 H1)) h1
theorem callRF_ok {σ : L2.St} {H1 : Hp} {Fz1 : Fzn} {g1 : Sg} {as2 : List AV} {xs2 : List V} {Q : VK} (r1 : BRel b Fz1 g1 σ H1) (av2 : AVsOk b σ Fz1 H1 g1 as2 xs2) (h1 : Po b W (bF b) σ Fz1 H1 (fun x _ _ H' _ => Q x H') (callRF n dn as2 g1)) : spD b.M n dn xs2 H1 Q (WE W σ) := by
  unfold callRF at h1
  by_cases c : as2.length = n ∧ nodupB (ownIx as2) = true
  · rw [if_pos c] at h1
    refine ⟨by rw [← avs_len av2]; exact c.1, Fz1, as2.map (toS g1), r1.gr.dom, args_rel r1 av2 c.2, args_noon r1 av2, r1.gr.tb, ?_⟩
    cases q : dn (as2.map (toS g1)) with
    | ok d ss => rw [q] at h1; exact h1.elim
    | okf zs ss =>
      rw [q] at h1
      intro p' ws H' Fz' po hp nf hu rr
      obtain ⟨r2, e2⟩ := after_call r1 av2 c.2 po
      have fr : bF b σ Fz' H' (merge g1 as2 ss) zs (.ref p') := by
        refine ⟨p', ws, rfl, r1.new0 hp, nf, hu, fun i o => ?_, rr⟩
        rcases o with o | o
        rotate_left
        · exact r1.notN hp i (call_nown r1 av2 c.2 po o)
        obtain ⟨⟨t, et, wt⟩, oq⟩ := o
        by_cases hm : i ∈ ownIx as2
        · obtain ⟨k', e⟩ := List.getElem?_of_mem (mem_ownIx.mp hm)
          obtain ⟨x1, ex1, ox1⟩ := avs_get av2 e
          obtain ⟨a2, _, ow2⟩ := ox1
          have z : σ[i]? = some (some (V.ref a2)) := ow2.2
          rw [oq] at z
          injection z with z
          injection z with z
          injection z with z
          subst z
          obtain ⟨s3, u3, _, _, hu3, _⟩ := r1.there ow2
          rw [hp] at hu3; cases hu3
        · rw [merge_out _ g1 ss i hm] at et
          obtain ⟨s3, u3, _, _, hu3, _⟩ := r1.there ⟨⟨t, et, wt⟩, oq⟩
          rw [hp] at hu3; cases hu3
      exact h1.ok r2 e2 fr
    | ex ee ss =>
      rw [q] at h1
      intro cl dx H' Fz' po ok
      obtain ⟨r2, e2⟩ := after_call r1 av2 c.2 po
      exact h1 cl dx H' Fz' r2 e2 ok
    | no => rw [q] at h1; exact h1
  · rw [if_neg c] at h1
    exact h1.elim
theorem tF_call (hd : ∀ Fz H, RepL b.M Fz H dfs dvs) {σ : L2.St} {H : Hp} {Q : VK} (h : tFr b W (callFF n dn dfs fa) σ H Q) : tCallSD (spD b.M n dn) dvs (fun σ => WE W σ) (tAv b W fa) σ H Q := by
  obtain ⟨Fz, g, r, h⟩ := h
  exact tG_seq r h fun as xs g1 Fz1 H1 r1 e1 av h1 => callRF_ok r1 (avs_app (dfs := dfs) av (hd Fz1 H1)) h1
theorem pd_call (hM : b.M = ⟨X.K, X.mg, Tb⟩) (tk : Takes X W) (F : FnOk X.prog X.w X.K X.mg X.base (L2.CX X.prog X.w) k f fd ps (spD ⟨X.K, X.mg, Tb⟩ n dn)) (hr : Room k X.A) (hg : Gl X x) (hm : X.mg x = some (.ref f)) (hk : PySem.W.keepIn X.K (.ref f) = true)
    (hb : Binds X.K fd ps ds) (hd : Vals dvs ds) (hdf : ∀ M Fz H, RepL M Fz H dfs dvs) (ha : PA X (e :: es) (tAv b W fa)) (hdb : (x == ("__debug__" : Str)) = false := by decide)
    (he : starEach (e :: es) X.env = (false, eval e X.env) :: starEach es X.env := by rfl) (hpl : (backTo pos (starEach es X.env)).any (·.1) = false := by rfl) : PE X (.Call (.Name x p) (e :: es) [] pos) (tE b W (callF n dn dfs fa)) :=
  pe_mono (pe_callSD F hr hg hm hk hb hd (fun σ => passAt tk σ) ha hdb he hpl) fun σ H Q h => by
    have z := tE_call (hdf b.M) h
    rw [hM] at z
    exact z
theorem pf_call (hM : b.M = ⟨X.K, X.mg, Tb⟩) (tk : Takes X W) (F : FnOk X.prog X.w X.K X.mg X.base (L2.CX X.prog X.w) k f fd ps (spD ⟨X.K, X.mg, Tb⟩ n dn)) (hr : Room k X.A) (hg : Gl X x) (hm : X.mg x = some (.ref f)) (hk : PySem.W.keepIn X.K (.ref f) = true)
    (hb : Binds X.K fd ps ds) (hd : Vals dvs ds) (hdf : ∀ M Fz H, RepL M Fz H dfs dvs) (ha : PA X (e :: es) (tAv b W fa)) (hdb : (x == ("__debug__" : Str)) = false := by decide)
    (he : starEach (e :: es) X.env = (false, eval e X.env) :: starEach es X.env := by rfl) (hpl : (backTo pos (starEach es X.env)).any (·.1) = false := by rfl) : PE X (.Call (.Name x p) (e :: es) [] pos) (tFr b W (callFF n dn dfs fa)) :=
  pe_mono (pe_callSD F hr hg hm hk hb hd (fun σ => passAt tk σ) ha hdb he hpl) fun σ H Q h => by
    have z := tF_call (hdf b.M) h
    rw [hM] at z
    exact z
end
end DL

set_option Elab.async false
set_option linter.all false
set_option maxRecDepth 100000
set_option maxHeartbeats 4000000
/-! DenI: enumerate of a list or a tuple, zip of two or three of them, for HandS's loops. -/
namespace PySem
open AutoSeq1 (wpAny_loadPart')
set_option maxHeartbeats 1000000 in
theorem meets_enumerate_newB1 {v : Value} {o : Obj} {H : Heap → Prop} (B : Begins v o H) :
    Meets (Builtin.«enumerate.__new__» ⟨[.type "enumerate", v], []⟩) (fun _ R s => H s.heap ∧
      R (.ok (.ret (.ref (s.heap.push o).objs.size))) { s with heap := (s.heap.push o).push { cls := .type "enumerate", data := .fields #[.none, .bool false, .ref s.heap.objs.size, rawInt 0, .none, .none] } }) :=
  .of_wp fun prog w A R s h => by
    obtain ⟨hp, g, d, tk, os⟩ := s; obtain ⟨h1, h⟩ := h
    have hsub := sub_enumerate
    have q1 : ∀ {A' : Around} {E : Value → Shared → Prop} {Q : Value → Shared → Prop}, Q (.ref hp.objs.size) ⟨hp.push o, g, d, tk, os⟩ → wpAny (model prog w) A' (pyIter v) Q E ⟨hp, g, d, tk, os⟩ :=
      fun q => B.iter prog w _ _ ⟨hp, g, d, tk, os⟩ _ h1 q
    wp_walk using q1
    refine wpAny_stack_any fun st => wpAny_pure ?_
    split
    · rename_i c _ _ _ _ _
      cases (c == Value.type "enumerate")
      · wp_walk using q1
        exact ⟨_, rfl, h⟩
      · wp_walk using q1
        exact ⟨_, rfl, h⟩
    · wp_walk using q1
      exact ⟨_, rfl, h⟩
section
variable {prog : Program} {w : World} {A : Around} {E : Value → Shared → Prop} {s : Shared}
theorem enum_begins1 {v : Value} {o : Obj} {H : Heap → Prop} {Q : Value → Shared → Prop} (B : Begins v o H) (h1 : H s.heap)
    (h : ∀ h', IsEnum h' (s.heap.objs.size + 1) s.heap.objs.size 0 .none → h'.get? s.heap.objs.size = some o → h'.objs.size = s.heap.objs.size + 2 →
      (∀ b o, s.heap.get? b = some o → h'.get? b = some o) → Q (.ref (s.heap.objs.size + 1)) { s with heap := h' }) :
    wpAny (model prog w) A (call (.type "enumerate") [v]) Q E s := by
  refine callType_new F.called_enumerate (by decide) (F.typeCall_enumerate_1 _) (F.newCall_enumerate_1 _) (fun obj => F.args_object_init_2 obj _) F.entry_enumerate_new
    (meets_enumerate_newB1 B) ⟨h1, ?_⟩
  have hz : (s.heap.push o).objs.size = s.heap.objs.size + 1 := Heap.size_push ..
  show _ ∧ _
  rw [hz]
  have he : IsEnum ((s.heap.push o).push { cls := .type "enumerate", data := .fields #[.none, .bool false, .ref s.heap.objs.size, rawInt 0, .none, .none] }) (s.heap.objs.size + 1) s.heap.objs.size 0 .none := by
    have := Heap.get?_push_size (s.heap.push o) (o := { cls := .type "enumerate", data := .fields #[.none, .bool false, .ref s.heap.objs.size, rawInt 0, .none, .none] }) rfl
    rw [hz] at this; exact this
  refine ⟨⟨_, he, rfl⟩, h _ he (Heap.get?_push_of_some _ (Heap.get?_push_size _ B.free)) (by rw [Heap.size_push, hz]) fun b o x => Heap.get?_push_of_some _ (Heap.get?_push_of_some _ x)⟩
end
end PySem

namespace DL
open PySem L2 PySem.Spec PyProof.Rows

/-- n turns, the i-th yields a new tuple f i -/
def ItT (Src : Hp → Nat → (Nat → List V) → Prop) : It :=
  ⟨fun i H => ∃ n f, Src H n f ∧ i < n, fun i H x H' => ∃ T vs, x = .ref T ∧ H T = none ∧ H' = upd H T (.tup vs) ∧ ∀ n f, Src H n f → i < n → vs = f i, fun i H => ∃ n f, Src H n f ∧ i = n⟩
theorem turn_walk {P : Program} {w : World} {K : PySem.W.Frag} {elts : List Expr} {kk : Nat} {tpos : Pos} {z : Addr} {fp : List Addr} {tn : Nat → Heap → Prop} {Src : Hp → Nat → (Nat → List V) → Prop}
    (mem : z ∈ fp) (obj : ∀ i h, tn i h → ∀ b ∈ fp, ∃ o, h.get? b = some o ∧ ∀ v, o.data ≠ .cell v) (keep : ∀ i h h', tn i h → (∀ b ∈ fp, ∀ o, h.get? b = some o → h'.get? b = some o) → tn i h')
    (det : ∀ (X : Cx) (pins : List (Addr × Obj)) (s : Shared) (σ : L2.St) (H : Hp) (n m : Nat) (f g : Nat → List V), X.K = K → Inv X pins σ H s → Src H n f → Src H m g → n = m ∧ ∀ i, i < n → f i = g i)
    (wk : ∀ (X : Cx) (pins : List (Addr × Obj)) (s : Shared) (σ : L2.St) (H : Hp) (n : Nat) (f : Nat → List V) (i : Nat), X.prog = P → X.w = w → X.K = K → X.A.handled = none → Inv X pins σ H s → Src H n f → (∀ b ∈ fp, FpOk X pins H b) → tn i s.heap →
      ∃ fpW wr Pt St Mid, WalksT P w X.A z fpW wr n Pt St Mid ∧ St i s.heap ∧ (∀ i vals, i < n → Pt i vals → Vals (f i) vals.toList ∧ (f i).length ≤ sizeLine) ∧ (∀ b ∈ wr, b ∈ fp) ∧ ∀ i h, St i h → tn i h)
    (self : ∀ (A : Around) (i : Nat) (s : Shared) (Q : Value → Shared → Prop) (E : Value → Shared → Prop), tn i s.heap → Q (.ref z) s → wpAny (model P w) A (pyIter (.ref z)) Q E s) :
    Turn P w K (.Tuple elts kk tpos) (ItT Src) fp z tn where
  mem := mem
  obj := obj
  keep := keep
  item := by
    intro X hP hw hK hc i pins s σ H E I hf st hg
    obtain ⟨n, f, hs, hi⟩ := hg
    obtain ⟨fpW, wr, Pt, St, Mid, W, st2, hPt, hwr, back⟩ := wk X pins s σ H n f i hP hw hK (I.ok.hd hc) I hs hf st
    refine W.item i s _ _ hi st2 fun T vals h' tk hp hT hTup mid hk => ?_
    refine ⟨.ref T, rfl, W.go elts kk tpos i T { s with heap := h', toks := tk } _ E mid fun h'' st3 hk2 => ?_⟩
    obtain ⟨rv, hz⟩ := hPt i vals hi hp
    have hT2 : h''.IsTuple T vals := by
      obtain ⟨o, ho, r⟩ := hTup
      exact ⟨o, hk2 T o (W.apart i T h' mid) ho, r⟩
    have new : ObjOk X.prog X.w (upd H T (.tup (f i))) h'' T (.tup (f i)) := ⟨hz, vals.toList, rv, by
      have e : vals.toList.toArray = vals := by simp
      rw [e]
      exact hT2⟩
    have I1 : Inv X pins σ (upd H T (.tup (f i))) { s with heap := h'', toks := tk } :=
      I.turnedNew (ch := wr) (fun b ob hb q => hk2 b ob hb (hk b ob hb q)) (fun b hb => hf b (hwr b hb)) hT new
    refine ⟨.ref T, _, I1, rfl, ⟨T, f i, rfl, I.hok.fresh hT, rfl, fun m g hs2 hm => (det X pins s σ H n m f g hK I hs hs2).2 i hi⟩, back _ _ st3, fun b hb => ?_⟩
    obtain ⟨o, ho, _⟩ := obj i s.heap st b hb
    rw [upd_ne (Nat.ne_of_lt (Nat.lt_of_lt_of_le (Heap.lt_size ho) hT))]
    exact (hf b hb).1
  done := by
    intro X hP hw hK hc i pins s σ H E I hf st hg
    obtain ⟨n, f, hs, hi⟩ := hg
    subst hi
    obtain ⟨fpW, wr, Pt, St, Mid, W, st2, hPt, hwr, back⟩ := wk X pins s σ H i f i hP hw hK (I.ok.hd hc) I hs hf st
    exact W.done s _ _ st2 fun h' tk hk => ⟨rfl, I.turnedL (ch := wr) (fun b ob hb q => hk b ob hb q) fun b hb => hf b (hwr b hb)⟩
  self := self

/-! ### lists and tuples alike -/
def SqC (K : PySem.W.Frag) (c : Bool) (H : Hp) (a : Addr) (xs : List V) : Prop := if c = true then SqL K H a xs else SqT K H a xs
def ItrAt (c : Bool) (h : Heap) (it a : Addr) (i : Nat) : Prop := if c = true then h.IsListIter it a i else h.IsTupleIter it a i
def SeqAtC (c : Bool) (h : Heap) (a : Addr) (its : Array Value) : Prop := if c = true then h.IsList a its else h.IsTuple a its
theorem Inv.sqC {X : Cx} {pins : List (Addr × Obj)} {σ : L2.St} {H : Hp} {s : Shared} {c : Bool} {a : Addr} {xs : List V} (I : Inv X pins σ H s) (h : SqC X.K c H a xs) :
    ∃ its : List Value, Vals xs its ∧ SeqAtC c s.heap a its.toArray ∧ xs.length ≤ sizeLine := by
  cases c with
  | true =>
    obtain ⟨its, rv, p, hz⟩ := I.list (show SqL X.K H a xs from h)
    exact ⟨its, rv, p.isList, hz⟩
  | false =>
    obtain ⟨its, rv, p, hz⟩ := I.tuple (show SqT X.K H a xs from h)
    exact ⟨its, rv, p, hz⟩
theorem Inv.sqC_inj {X : Cx} {pins : List (Addr × Obj)} {σ : L2.St} {H : Hp} {s : Shared} {c : Bool} {a : Addr} {xs ys : List V} (I : Inv X pins σ H s) (h : SqC X.K c H a xs) (h' : SqC X.K c H a ys) : xs = ys := by
  cases c with
  | true => exact I.list_inj (show SqL X.K H a xs from h) h'
  | false => exact I.tuple_inj (show SqT X.K H a xs from h) h'
theorem drawsC {prog : Program} {w : World} {A : Around} (hh : A.handled = none) (c : Bool) (it a : Addr) (hne : a ≠ it) (items : Array Value) :
    Draws prog w A it [it, a] items.size (fun i v => items[i]? = some v) (fun i h => ItrAt c h it a i ∧ SeqAtC c h a items) := by
  cases c with
  | true => exact Draws.list hh it a hne items
  | false => exact Draws.tuple hh it a hne items
theorem SeqAtC.there {c : Bool} {h : Heap} {a : Addr} {its : Array Value} (x : SeqAtC c h a its) : ∃ o, h.get? a = some o := by
  cases c with
  | true => obtain ⟨o, e, _⟩ := (show h.IsList a its from x); exact ⟨o, e⟩
  | false => obtain ⟨o, e, _⟩ := (show h.IsTuple a its from x); exact ⟨o, e⟩
theorem ItrAt.obj {c : Bool} {h : Heap} {it a : Addr} {i : Nat} (x : ItrAt c h it a i) : ∃ o, h.get? it = some o ∧ ∀ v, o.data ≠ .cell v := by
  cases c with
  | true =>
    obtain ⟨o, e, _, d⟩ := (show h.IsListIter it a i from x)
    exact ⟨o, e, fun v z => by rw [d] at z; cases z⟩
  | false =>
    obtain ⟨o, e, _, d⟩ := (show h.IsTupleIter it a i from x)
    exact ⟨o, e, fun v z => by rw [d] at z; cases z⟩
theorem ItrAt.keep {c : Bool} {h h' : Heap} {it a : Addr} {i : Nat} (x : ItrAt c h it a i) (k : ∀ o, h.get? it = some o → h'.get? it = some o) : ItrAt c h' it a i := by
  cases c with
  | true => exact (show h.IsListIter it a i from x).at k
  | false => exact (show h.IsTupleIter it a i from x).at k
def itrObj (c : Bool) (a : Addr) : Obj := if c = true then { cls := .type "list_iterator", data := .fields #[.ref a, .int 0 0] } else { cls := .type "tuple_iterator", data := .fields #[.ref a, .int 0 0] }
theorem begC (c : Bool) (a : Addr) (items : Array Value) : Begins (.ref a) (itrObj c a) fun h => SeqAtC c h a items := by
  cases c with
  | true => exact begins_list a items
  | false => exact begins_tuple a items
theorem itrObj_at {c : Bool} {h : Heap} {it a : Addr} (e : h.get? it = some (itrObj c a)) : ItrAt c h it a 0 := by
  cases c with
  | true => exact ⟨_, e, rfl, rfl⟩
  | false => exact ⟨_, e, rfl, rfl⟩
theorem vals_at {xs : List V} {its : List Value} {i : Nat} {x : Value} (rv : Vals xs its) (h : its.toArray[i]? = some x) : ∃ v, xs[i]? = some v ∧ RelV v x := by
  have h' : its[i]? = some x := by simpa using h
  have hl := rv.length
  have hi : i < its.length := (List.getElem?_eq_some_iff.mp h').1
  obtain ⟨u, hu, r⟩ := rv.get (i := i) (x := xs[i]'(by omega)) (by simp [show i < xs.length by omega])
  rw [h'] at hu
  cases hu
  exact ⟨_, by simp [show i < xs.length by omega], r⟩

/-! ### enumerate -/
def SrcE (K : PySem.W.Frag) (c : Bool) (a : Addr) : Hp → Nat → (Nat → List V) → Prop := fun H n f => ∃ xs, SqC K c H a xs ∧ n = xs.length ∧ ∀ i, i < n → ∃ x, xs[i]? = some x ∧ f i = [.int (i : Nat), x]
theorem turn_enumC {P : Program} {w : World} {K : PySem.W.Frag} {elts : List Expr} {kk : Nat} {tpos : Pos} (c : Bool) (a e it : Addr) :
    Turn P w K (.Tuple elts kk tpos) (ItT (SrcE K c a)) [e, it] e (fun i h => (∃ old, IsEnum h e it (0 + ((i : Nat) : Int)) old) ∧ ItrAt c h it a i ∧ e ≠ it) := by
  refine turn_walk (by simp) (fun i h st b hb => ?_) (fun i h h' st k => ?_) (fun X pins s σ H n m f g hK I h1 h2 => ?_) (fun X pins s σ H n f i hP hw hK hh I hs hf st => ?_) (fun A i s Q E st h => ?_)
  · obtain ⟨⟨old, he⟩, hi, _⟩ := st
    have e' : b = e ∨ b = it := by simpa using hb
    rcases e' with z | z
    · rw [z]; exact ⟨_, he, fun v q => nomatch q⟩
    · rw [z]; exact hi.obj
  · obtain ⟨⟨old, he⟩, hi, hne⟩ := st
    exact ⟨⟨old, k e (by simp) _ he⟩, hi.keep fun o q => k it (by simp) o q, hne⟩
  · obtain ⟨xs, q1, l1, f1⟩ := h1
    obtain ⟨ys, q2, l2, f2⟩ := h2
    subst hK
    have e' := Inv.sqC_inj I q1 q2
    subst e'
    refine ⟨by omega, fun i hi => ?_⟩
    obtain ⟨x, hx, ex⟩ := f1 i hi
    obtain ⟨y, hy, ey⟩ := f2 i (by omega)
    rw [hx] at hy
    cases hy
    rw [ex, ey]
  · subst hP hw hK
    obtain ⟨xs, q, l, hff⟩ := hs
    obtain ⟨its, rv, sa, hz⟩ := Inv.sqC I q
    obtain ⟨he, hi, hne⟩ := st
    obtain ⟨o, ho⟩ := sa.there
    have nm : ∀ b ∈ [e, it], a ≠ b := fun b hb z => by
      subst z
      have n0 := (hf a hb).1
      rcases c with _ | _
      · rcases (show SqT X.K H a xs from q) with (h | ⟨o, h⟩) | ⟨o, _, _, h, _⟩
        · rw [h] at n0; cases n0
        · rw [h] at n0; cases n0
        · have z := (hf a hb).2.2.2.1
          have z1 := (hf a hb).2.1
          have hk := I.kIn a o h
          have hb0 := I.ok.mod.kin a o h
          rcases z with z | z
          · exact I.ok.noex a o hb0 z
          · exact absurd (Nat.lt_of_lt_of_le (Heap.lt_size (I.ok.bs a o hb0).1) z) (Nat.lt_irrefl _)
      · rcases (show SqL X.K H a xs from q) with (h | ⟨o, h⟩) | ⟨o, _, _, h, _⟩
        · rw [h] at n0; cases n0
        · rw [h] at n0; cases n0
        · have z := (hf a hb).2.2.2.1
          have hb0 := I.ok.mod.kin a o h
          rcases z with z | z
          · exact I.ok.noex a o hb0 z
          · exact absurd (Nat.lt_of_lt_of_le (Heap.lt_size (I.ok.bs a o hb0).1) z) (Nat.lt_irrefl _)
    have nai : a ≠ it := nm it (by simp)
    have nae : a ≠ e := nm e (by simp)
    have D : Draws X.prog X.w X.A.in1 it [it, a] its.toArray.size (fun i v => its.toArray[i]? = some v) (fun i h => ItrAt c h it a i ∧ SeqAtC c h a its.toArray) := drawsC (by exact hh) c it a nai its.toArray
    have W := WalksT.enumFrom (A := X.A) 0 D e hne (by simp; exact ⟨hne, Ne.symm nae⟩) (by simp)
    have hn : its.toArray.size = n := by rw [List.size_toArray, ← rv.length, l]
    rw [hn] at W
    refine ⟨_, _, _, _, _, W, ⟨he, hi, sa⟩, fun j vals hj hp => ?_, fun b hb => hb, fun j h st => ⟨st.1, st.2.1, hne⟩⟩
    obtain ⟨t, x, hx, ev⟩ := hp
    subst ev
    obtain ⟨y, hy, ey⟩ := hff j hj
    obtain ⟨v, hv, r⟩ := vals_at rv hx
    rw [hy] at hv
    cases hv
    rw [ey]
    exact ⟨.cons ⟨t, by rw [Int.zero_add]⟩ (.cons r .nil), by show 2 ≤ sizeLine; decide⟩
  · obtain ⟨⟨_, he⟩, _⟩ := st
    exact wpAny_pyIter_enum he h
/-- enumerate(xs) -/
def iEnumC (K : PySem.W.Frag) (ta : TA) : TI := fun σ H R => ta σ H fun vs H1 => ∃ a xs c, vs = [.ref a] ∧ SqC K c H1 a xs ∧ R (ItT (SrcE K c a)) H1
theorem pi_enumC {X : Cx} {e : Expr} {ta : TA} {p pos tpos : Pos} {elts : List Expr} {kk : Nat} (hg : Gl X "enumerate") (hm : X.mg "enumerate" = none) (ha : PA X [e] ta) (hs : starEach [e] X.env = [(false, eval e X.env)] := by rfl) :
    PI X (.Tuple elts kk tpos) (.Call (.Name "enumerate" p) [e] [] pos) (iEnumC X.K ta) := by
  refine ⟨fun pins s σ H R I h => ?_⟩
  refine Call_ (ld_blt I hg hm boot_enumerate (PyProof.Rows.callWith_type1 (thn (ha.run pos pins s σ H _ I h) fun us s1 ⟨vs, H1, I1, r1, q1⟩ => ?_) hs rfl))
  obtain ⟨a, xs, c, ex, hq, q⟩ := q1
  subst ex
  cases r1 with
  | cons r rr =>
    cases rr
    cases r
    obtain ⟨its, rv, sa, hz⟩ := Inv.sqC I1 hq
    refine enum_begins1 (begC c a its.toArray) sa fun h' he hit hsz hk => wpAny_pyIter_enum he ?_
    have I2 : Inv X pins σ H1 { s1 with heap := h' } := I1.kept (t' := s1.toks) hk
    refine ⟨s1.heap.objs.size + 1, [s1.heap.objs.size + 1, s1.heap.objs.size], _, _, H1, rfl, I2, turn_enumC c a (s1.heap.objs.size + 1) s1.heap.objs.size, ⟨⟨.none, by simpa using he⟩, itrObj_at hit, Nat.succ_ne_self _⟩, fun b hb => ?_, q⟩
    have e' : b = s1.heap.objs.size + 1 ∨ b = s1.heap.objs.size := by simpa using hb
    have hle : s1.heap.objs.size ≤ b := by
      rcases e' with z | z
      · rw [z]; exact Nat.le_add_right _ _
      · rw [z]; exact Nat.le_refl _
    exact I1.fpOk hle (I1.hok.fresh hle)

/-- a source lies apart from the iterator's objects -/
theorem src_apart {X : Cx} {pins : List (Addr × Obj)} {σ : L2.St} {H : Hp} {s : Shared} {c : Bool} {a : Addr} {xs : List V} {fp : List Addr} (I : Inv X pins σ H s) (q : SqC X.K c H a xs) (hf : ∀ b ∈ fp, FpOk X pins H b) : ∀ b ∈ fp, a ≠ b := fun b hb z => by
  subst z
  have n0 := (hf a hb).1
  have kk : ∀ o, X.K.lookup a = some o → False := fun o h => by
    have z := (hf a hb).2.2.2.1
    have hb0 := I.ok.mod.kin a o h
    rcases z with z | z
    · exact I.ok.noex a o hb0 z
    · exact absurd (Nat.lt_of_lt_of_le (Heap.lt_size (I.ok.bs a o hb0).1) z) (Nat.lt_irrefl _)
  rcases c with _ | _
  · rcases (show SqT X.K H a xs from q) with (h | ⟨o, h⟩) | ⟨o, _, _, h, _⟩
    · rw [h] at n0; cases n0
    · rw [h] at n0; cases n0
    · exact kk o h
  · rcases (show SqL X.K H a xs from q) with (h | ⟨o, h⟩) | ⟨o, _, _, h, _⟩
    · rw [h] at n0; cases n0
    · rw [h] at n0; cases n0
    · exact kk o h

/-! ### zip of two -/
def SrcZ (K : PySem.W.Frag) (c c2 : Bool) (a a2 : Addr) : Hp → Nat → (Nat → List V) → Prop := fun H n f => ∃ xs ys, SqC K c H a xs ∧ SqC K c2 H a2 ys ∧ n = min xs.length ys.length ∧ ∀ i, i < n → ∃ x y, xs[i]? = some x ∧ ys[i]? = some y ∧ f i = [x, y]
theorem turn_zipC {P : Program} {w : World} {K : PySem.W.Frag} {elts : List Expr} {kk : Nat} {tpos : Pos} (c c2 : Bool) (a a2 z TI TO i1 i2 : Addr)
    (AP : TI ≠ z ∧ TO ≠ z ∧ TI ≠ TO ∧ TI ≠ i1 ∧ TI ≠ i2 ∧ z ≠ i1 ∧ z ≠ i2 ∧ TO ≠ i1 ∧ TO ≠ i2 ∧ i1 ≠ i2) :
    Turn P w K (.Tuple elts kk tpos) (ItT (SrcZ K c c2 a a2)) [z, TI, TO, i1, i2] z (fun i h => IsZip h z TI TO .none ∧ IsTupOf2 h TI (.ref i1) (.ref i2) ∧ (∃ x y, IsTupOf2 h TO x y) ∧ ItrAt c h i1 a i ∧ ItrAt c2 h i2 a2 i) := by
  refine turn_walk (by simp) (fun i h st b hb => ?_) (fun i h h' st k => ?_) (fun X pins s σ H n m f g hK I h1 h2 => ?_) (fun X pins s σ H n f i hP hw hK hh I hs hf st => ?_) (fun A i s Q E st h => ?_)
  · obtain ⟨hz, hTI, ⟨x, y, hTO⟩, h1, h2⟩ := st
    have e' : b = z ∨ b = TI ∨ b = TO ∨ b = i1 ∨ b = i2 := by simpa using hb
    rcases e' with q | q | q | q | q
    · rw [q]; exact ⟨_, hz, fun v q => nomatch q⟩
    · rw [q]; exact ⟨_, hTI, fun v q => nomatch q⟩
    · rw [q]; exact ⟨_, hTO, fun v q => nomatch q⟩
    · rw [q]; exact h1.obj
    · rw [q]; exact h2.obj
  · obtain ⟨hz, hTI, ⟨x, y, hTO⟩, h1, h2⟩ := st
    exact ⟨k z (by simp) _ hz, k TI (by simp) _ hTI, ⟨x, y, k TO (by simp) _ hTO⟩, h1.keep fun o q => k i1 (by simp) o q, h2.keep fun o q => k i2 (by simp) o q⟩
  · obtain ⟨xs, xs2, q1, q12, l1, f1⟩ := h1
    obtain ⟨ys, ys2, q2, q22, l2, f2⟩ := h2
    subst hK
    have e' := Inv.sqC_inj I q1 q2
    subst e'
    have e' := Inv.sqC_inj I q12 q22
    subst e'
    refine ⟨by omega, fun i hi => ?_⟩
    obtain ⟨x, x2, hx, hx2, ex⟩ := f1 i hi
    obtain ⟨y, y2, hy, hy2, ey⟩ := f2 i (by omega)
    rw [hx] at hy
    cases hy
    rw [hx2] at hy2
    cases hy2
    rw [ex, ey]
  · subst hP hw hK
    obtain ⟨xs, ys, q, q2, l, hff⟩ := hs
    obtain ⟨its, rv, sa, hz⟩ := Inv.sqC I q
    obtain ⟨its2, rv2, sa2, hz2⟩ := Inv.sqC I q2
    obtain ⟨he, hTI, hTO, h1, h2⟩ := st
    have nm := src_apart I q hf
    have nm2 := src_apart I q2 hf
    have D1 : Draws X.prog X.w X.A.in1 i1 [i1, a] its.toArray.size (fun i v => its.toArray[i]? = some v) (fun i h => ItrAt c h i1 a i ∧ SeqAtC c h a its.toArray) := drawsC (by exact hh) c i1 a (nm i1 (by simp)) its.toArray
    have D2 : Draws X.prog X.w X.A.in1 i2 [i2, a2] its2.toArray.size (fun i v => its2.toArray[i]? = some v) (fun i h => ItrAt c2 h i2 a2 i ∧ SeqAtC c2 h a2 its2.toArray) := drawsC (by exact hh) c2 i2 a2 (nm2 i2 (by simp)) its2.toArray
    obtain ⟨p1, p2, p3, p4, p5, p6, p7, p8, p9, p10⟩ := AP
    have S : ZipSep2 z TI TO i1 i2 [i1, a] [i2, a2] :=
      { TIz := p1, TOz := p2, TITO := p3, TIi1 := p4, mem1 := by simp, zf1 := by simp; exact ⟨p6, Ne.symm (nm z (by simp))⟩, Tf1 := by simp; exact ⟨p8, Ne.symm (nm TO (by simp))⟩,
        TIi2 := p5, mem2 := by simp, zf2 := by simp; exact ⟨p7, Ne.symm (nm2 z (by simp))⟩, Tf2 := by simp; exact ⟨p9, Ne.symm (nm2 TO (by simp))⟩,
        sep1_2 := by simp; exact ⟨p10, Ne.symm (nm2 i1 (by simp))⟩, sep2_1 := by simp; exact ⟨Ne.symm p10, Ne.symm (nm i2 (by simp))⟩ }
    have W := WalksT.zipD2 (A := X.A) S D1 D2
    have hn : min its.toArray.size its2.toArray.size = n := by rw [List.size_toArray, List.size_toArray, ← rv.length, ← rv2.length, l]
    rw [hn] at W
    refine ⟨_, _, _, _, _, W, ⟨he, hTI, hTO, ⟨h1, sa⟩, ⟨h2, sa2⟩⟩, fun j vals hj hp => ?_, fun b hb => ?_, fun j h st => ⟨st.1, st.2.1, st.2.2.1, st.2.2.2.1.1, st.2.2.2.2.1⟩⟩
    · obtain ⟨x, x2, hx, hx2, ev⟩ := hp
      subst ev
      obtain ⟨y, y2, hy, hy2, ey⟩ := hff j hj
      obtain ⟨v, hv, r⟩ := vals_at rv hx
      obtain ⟨v2, hv2, r2⟩ := vals_at rv2 hx2
      rw [hy] at hv
      cases hv
      rw [hy2] at hv2
      cases hv2
      rw [ey]
      exact ⟨.cons r (.cons r2 .nil), by show 2 ≤ sizeLine; decide⟩
    · simp at hb ⊢
      rcases hb with h | h | h | h <;> simp [h]
  · exact wpAny_pyIter_zip st.1 h
def iZipC (K : PySem.W.Frag) (ta : TA) : TI := fun σ H R => ta σ H fun vs H1 => ∃ a a2 xs ys c c2, vs = [.ref a, .ref a2] ∧ SqC K c H1 a xs ∧ SqC K c2 H1 a2 ys ∧ R (ItT (SrcZ K c c2 a a2)) H1
theorem pi_zipC {X : Cx} {e e2 : Expr} {ta : TA} {p pos tpos : Pos} {elts : List Expr} {kk : Nat} (hg : Gl X "zip") (hm : X.mg "zip" = none) (ha : PA X [e, e2] ta)
    (hs : starEach [e, e2] X.env = (false, eval e X.env) :: starEach [e2] X.env := by rfl) (hpl : (backTo pos (starEach [e2] X.env)).any (·.1) = false := by rfl) :
    PI X (.Tuple elts kk tpos) (.Call (.Name "zip" p) [e, e2] [] pos) (iZipC X.K ta) := by
  refine ⟨fun pins s σ H R I h => ?_⟩
  refine Call_ (ld_blt I hg hm PyProof.Rows.boot_zip (PyProof.Rows.callWith_type1 (thn (ha.run pos pins s σ H _ I h) fun us s1 ⟨vs, H1, I1, r1, q1⟩ => ?_) hs hpl))
  obtain ⟨a, a2, xs, ys, c, c2, ex, hq, hq2, q⟩ := q1
  subst ex
  cases r1 with
  | cons r rr =>
    cases rr with
    | cons r' rr =>
      cases rr
      cases r
      cases r'
      obtain ⟨its, rv, sa, _⟩ := Inv.sqC I1 hq
      obtain ⟨its2, rv2, sa2, _⟩ := Inv.sqC I1 hq2
      refine zip_begins2 (begC c a its.toArray) (begC c2 a2 its2.toArray) sa sa2 fun h' hz hTI hTO h1 h2 hsz hk => wpAny_pyIter_zip hz ?_
      have I2 : Inv X pins σ H1 { s1 with heap := h' } := I1.kept (t' := s1.toks) hk
      have ne : ∀ (i j : Nat), i ≠ j → (s1.heap.objs.size + i : Nat) ≠ s1.heap.objs.size + j := fun i j h => by omega
      have ne0 : ∀ (i : Nat), i ≠ 0 → (s1.heap.objs.size + i : Nat) ≠ s1.heap.objs.size := fun i h => by omega
      refine ⟨s1.heap.objs.size + 4, [s1.heap.objs.size + 4, s1.heap.objs.size + 2, s1.heap.objs.size + 3, s1.heap.objs.size, s1.heap.objs.size + 1], _, _, H1, rfl, I2,
        turn_zipC c c2 a a2 (s1.heap.objs.size + 4) (s1.heap.objs.size + 2) (s1.heap.objs.size + 3) s1.heap.objs.size (s1.heap.objs.size + 1)
          ⟨ne 2 4 (by decide), ne 3 4 (by decide), ne 2 3 (by decide), ne0 2 (by decide), ne 2 1 (by decide), ne0 4 (by decide), ne 4 1 (by decide), ne0 3 (by decide), ne 3 1 (by decide), Ne.symm (ne0 1 (by decide))⟩,
        ⟨hz, hTI, ⟨_, _, hTO⟩, itrObj_at h1, itrObj_at h2⟩, fun b hb => ?_, q⟩
      have hle : s1.heap.objs.size ≤ b := by
        have e' : b = s1.heap.objs.size + 4 ∨ b = s1.heap.objs.size + 2 ∨ b = s1.heap.objs.size + 3 ∨ b = s1.heap.objs.size ∨ b = s1.heap.objs.size + 1 := by simpa using hb
        rcases e' with z | z | z | z | z
        · rw [z]; exact Nat.le_add_right _ _
        · rw [z]; exact Nat.le_add_right _ _
        · rw [z]; exact Nat.le_add_right _ _
        · rw [z]; exact Nat.le_refl _
        · rw [z]; exact Nat.le_add_right _ _
      exact I1.fpOk hle (I1.hok.fresh hle)
end DL

set_option Elab.async false
set_option linter.all false
set_option maxRecDepth 100000
set_option maxHeartbeats 4000000
/-! Den7: targets, for, while. -/
namespace DL
open PySem L2 PySem.Spec PyProof.Rows

/-! ### targets -/
abbrev Tgt := D → Sg → Option Sg
section
variable {X : Cx} {b : B} {W : WX} {e : Expr} {es : List Expr} {pos p : Pos}
theorem pg_mono {t t' : TG} (h : PG X e t) (i : ∀ v σ H Q, t' v σ H Q → t v σ H Q) : PG X e t' := ⟨fun pins s σ H v u Q I r hw => h.run pins s σ H v u Q I r (i _ _ _ _ hw)⟩
theorem pgs_mono {t t' : TGs} (h : PGs X es t) (i : ∀ v σ H Q, t' v σ H Q → t v σ H Q) : PGs X es t' := ⟨fun pins s σ H v u Q I r hw => h.run pins s σ H v u Q I r (i _ _ _ _ hw)⟩
variable (b) in
def gD (ta : List Nat) (t : Tgt) : TG := fun v σ H Q => ∃ Fz g d g', BRel b Fz g σ H ∧ Rep b.M Fz H d v ∧ t d g = some g' ∧ ∀ σ', BRel b Fz g' σ' H → (∀ i, i ∉ ta → σ'[i]? = σ[i]?) → σ'.length = σ.length → Q σ' H
variable (b) in
def gsD (ta : List Nat) (t : List D → Sg → Option Sg) : TGs := fun vs σ H Q => ∃ Fz g ds g', BRel b Fz g σ H ∧ RepL b.M Fz H ds vs ∧ t ds g = some g' ∧ ∀ σ', BRel b Fz g' σ' H → (∀ i, i ∉ ta → σ'[i]? = σ[i]?) → σ'.length = σ.length → Q σ' H
def tgN (i : Nat) : Tgt := fun d g => some (g.set i (.v d))
theorem pg_n {i : Nat} (h : PG X e (gName i)) (hx : PxOk b i) : PG X e (gD b [i] (tgN i)) := pg_mono h fun v σ H Q ⟨Fz, g, d, g', r, rep, e, q⟩ => by
  have e' : g.set i (.v d) = g' := Option.some.inj e
  subst e'
  exact q _ (r.setV hx rep) (fun j hj => List.getElem?_set_ne fun z => hj (by simp [z])) (List.length_set ..)
def tgNil : List D → Sg → Option Sg := fun ds g => match ds with
  | [] => some g
  | _ => none
def tgCons (t : Tgt) (ts : List D → Sg → Option Sg) : List D → Sg → Option Sg := fun ds g => match ds with
  | [] => none
  | d :: ds => (t d g).bind (ts ds)
theorem pgs_nilD : PGs X [] (gsD b [] tgNil) := pgs_mono pgs_nil fun vs σ H Q ⟨Fz, g, ds, g', r, rep, e, q⟩ => by
  cases ds with
  | nil =>
    have e' : g = g' := Option.some.inj e
    subst e'
    exact ⟨RepL.nil_iff.mp rep, q σ r (fun _ _ => rfl) rfl⟩
  | cons d ds => cases e
theorem pgs_consD {a1 a2 : List Nat} {t : Tgt} {ts : List D → Sg → Option Sg} (h1 : PG X e (gD b a1 t)) (h2 : PGs X es (gsD b a2 ts))
    (hs : (assignEach (e :: es) X.env).map (·.2) = assign e X.env :: (assignEach es X.env).map (·.2) := by rfl) : PGs X (e :: es) (gsD b (a1 ++ a2) (tgCons t ts)) := pgs_mono (pgs_cons h1 h2 hs) fun vs σ H Q ⟨Fz, g, ds, g', r, rep, e, q⟩ => by
  cases ds with
  | nil => cases e
  | cons d ds =>
    obtain ⟨g1, e1, e2⟩ := Option.bind_eq_some_iff.mp e
    obtain ⟨v, vr, ev, r1, r2⟩ := RepL.cons_iff.mp rep
    refine ⟨v, vr, ev, Fz, g, d, g1, r, r1, e1, fun σ1 br h3 hl => ⟨Fz, g1, ds, g', br, r2, e2, fun σ2 br2 h4 hl2 => q σ2 br2 (fun i hi => ?_) (hl2.trans hl)⟩⟩
    exact (h4 i fun z => hi (List.mem_append_right _ z)).trans (h3 i fun z => hi (List.mem_append_left _ z))
def tgT (n : Nat) (ts : List D → Sg → Option Sg) : Tgt := fun d g => match d with
  | .tup ds => if ds.length = n then ts ds g else none
  | .lst ds => if ds.length = n then ts ds g else none
  | _ => none
theorem pg_or {t1 t2 : TG} (h1 : PG X e t1) (h2 : PG X e t2) : PG X e (fun v σ H Q => t1 v σ H Q ∨ t2 v σ H Q) := ⟨fun pins s σ H v u Q I r hw => hw.elim (h1.run pins s σ H v u Q I r) (h2.run pins s σ H v u Q I r)⟩
theorem pg_tupD {k n : Nat} {ta : List Nat} {ts : List D → Sg → Option Sg} (hM : b.M = ⟨X.K, X.mg, Tb⟩) (hc : X.calm = true) (h : PGs X es (gsD b ta ts))
    (hn : (assignEach es X.env).length = n := by rfl) (hst : (assignEach es X.env).findIdx? (·.1) = none := by rfl) : PG X (.Tuple es k pos) (gD b ta (tgT n ts)) := pg_mono (pg_or (pg_tup hc h hn hst) (pg_unl hc h hn hst)) fun v σ H Q ⟨Fz, g, d, g', r, rep, e, q⟩ => by
  unfold tgT at e
  split at e
  · rename_i ds
    split at e
    · rename_i hl
      unfold Rep at rep
      obtain ⟨a, vs, rfl, hq, rr⟩ := rep
      rw [hM] at hq
      exact .inl ⟨a, vs, rfl, hq, by rw [← RepL.length rr]; exact hl, Fz, g, ds, g', r, rr, e, q⟩
    · cases e
  · rename_i ds
    split at e
    · rename_i hl
      unfold Rep at rep
      obtain ⟨a, vs, rfl, hq, rr⟩ := rep
      rw [hM] at hq
      exact .inr ⟨a, vs, rfl, hq.sq, by rw [← RepL.length rr]; exact hl, Fz, g, ds, g', r, rr, e, q⟩
    · cases e
  · cases e
/-- target = value -/
def asgT (t : Tgt) (f : FE) : FS := fun g => (f g).sb fun d g1 => match t d g1 with
  | some g2 => .nx g2
  | none => .no
theorem pts_asgT {tg : Expr} {ta : List Nat} {t : Tgt} {f : FE} (he : PE X e (tE b W f)) (hg : PG X tg (gD b ta t)) (hs : swapsWithSole [tg] e pos.line X.env = pure false := by rfl) (hw : swappedStores [tg] e X.env = pure none := by rfl)
    (h1 : (assignEach [tg] X.env).map (·.2) = [assign tg X.env] := by rfl) : PS X (.Assign [tg] e pos) (tSt b W ta (asgT t f)) := ps_mono (ps_asg he hg hs hw h1) fun D σ H ⟨Fz, g, r, h⟩ =>
  tG_st r h fun d x' g1 Fz1 H1 r1 _ rep h1 => by
    cases q : t d g1 with
    | none => rw [q] at h1; exact h1.elim
    | some g2 =>
      rw [q] at h1
      exact ⟨Fz1, g1, d, g2, r1, rep, q, fun σ' r2 h3 _ => h1 σ' H1 Fz1 r2 ⟨.refl, h3⟩⟩
/-- a, b = x, y -/
def parS (i j : Nat) (fa : FA) : FS := fun g => (fa g).sb fun ds g1 => match ds with
  | [d, e] => .nx ((g1.set i (.v d)).set j (.v e))
  | _ => .no
theorem pts_par {i j : Nat} {x y : Str} {a c : Expr} {fa : FA} {px py pt : Pos} {kt k2 pt2} (hc : X.calm = true) (hN : X.N.Nodup) (hi : X.N[i]? = some x) (hj : X.N[j]? = some y) (hij : i ≠ j)
    (hx : X.env.scope.names.lookup x = some .local) (hy : X.env.scope.names.lookup y = some .local) (ha : PA X [a, c] (tAr b W fa))
    (hw : swappedStores [.Tuple [.Name x px, .Name y py] kt pt] (.Tuple [a, c] k2 pt2) X.env = pure (some [x, y]))
    (hs : swapsWithSole [.Tuple [.Name x px, .Name y py] kt pt] (.Tuple [a, c] k2 pt2) pos.line X.env = pure false := by rfl) (hx1 : PxOk b i) (hx2 : PxOk b j) :
    PS X (.Assign [.Tuple [.Name x px, .Name y py] kt pt] (.Tuple [a, c] k2 pt2) pos) (tSt b W [i, j] (parS i j fa)) := ps_mono (ps_par hc hN hi hj hij hx hy ha hw hs) fun D σ H ⟨Fz, g, r, h⟩ =>
  tG_st r h fun ds xs g1 Fz1 H1 r1 _ rep h1 => by
    have rep' : RepL b.M Fz1 H1 ds xs := rep
    split at h1
    · rename_i d e
      obtain ⟨v, vr, rfl, q1, q2⟩ := RepL.cons_iff.mp rep'
      obtain ⟨w, wr, rfl, q3, q4⟩ := RepL.cons_iff.mp q2
      have q5 := RepL.nil_iff.mp q4
      subst q5
      refine ⟨v, w, rfl, h1 _ H1 Fz1 ((r1.setV hx1 q1).setV hx2 q3) ⟨.refl, fun k hk => ?_⟩⟩
      rw [List.getElem?_set_ne (fun z => hk (by simp [z])), List.getElem?_set_ne (fun z => hk (by simp [z]))]
    · exact h1.elim
end

/-! ### what a loop walks -/
section
variable {X : Cx} {b : B} {W : WX} {e e1 e2 : Expr} {tg : Expr} {pos p : Pos} {f : FE} {fa : FA}
variable (b) in
def SrcOk (J : It) (Fz : Fzn) (H : Hp) (items : List D) : Prop := ∀ Fz' H', Ext Fz H Fz' H' → (∀ a, Fz' a → ∃ o, H' a = some o) →
  (∀ k d, items[k]? = some d → J.go k H' ∧ ∀ x H'', J.yld k H' x H'' → ∃ Fz'', GrowTo Fz' H' Fz'' H'' ∧ Rep b.M Fz'' H'' d x) ∧ J.stop items.length H'
variable (b) in
def bI : Bear (List D) It := fun _ Fz H _ items J => SrcOk b J Fz H items
abbrev FI := Sg → R (List D)
variable (b W) in
abbrev tI (f : FI) : TI := tG b W (bI b) f
theorem pi_mono {wi wi' : TI} (h : PI X tg e wi) (i : ∀ σ H R, wi' σ H R → wi σ H R) : PI X tg e wi' := ⟨fun pins s σ H R I hw => h.run pins s σ H R I (i _ _ _ hw)⟩
theorem src_list {a : Addr} {xs : List V} {ds : List D} {Fz : Fzn} {H : Hp} {K : PySem.W.Frag} (hu : ∀ {H : Hp} {xs ys : List V}, SqL K H a xs → SqL K H a ys → xs = ys) (h : LsF K Fz H a xs) (r : RepL b.M Fz H ds xs) : SrcOk b (Itl K a) Fz H ds := fun Fz' H' ex dom => by
  have h' := (ex.lsF h).sq
  refine ⟨fun k d e => ?_, ⟨xs, h', by rw [RepL.length r]; exact Nat.le_refl _⟩⟩
  obtain ⟨x, ex1, rx⟩ := r.get e
  refine ⟨⟨xs, x, h', ex1⟩, fun y H'' ⟨e2, q⟩ => ?_⟩
  subst e2
  have q2 := q xs h'
  rw [ex1] at q2
  cases q2
  exact ⟨Fz', .refl, Rep.mono ex d x rx⟩
theorem src_tup {a : Addr} {xs : List V} {ds : List D} {Fz : Fzn} {H : Hp} {K : PySem.W.Frag} (h : SqT K H a xs) (r : RepL b.M Fz H ds xs) : SrcOk b (Itt K a) Fz H ds := fun Fz' H' ex dom => by
  have h' := ex.sqT h
  refine ⟨fun k d e => ?_, ⟨xs, h', by rw [RepL.length r]; exact Nat.le_refl _⟩⟩
  obtain ⟨x, ex1, rx⟩ := r.get e
  refine ⟨⟨xs, x, h', ex1⟩, fun y H'' ⟨e2, q⟩ => ?_⟩
  subst e2
  have q2 := q xs h'
  rw [ex1] at q2
  cases q2
  exact ⟨Fz', .refl, Rep.mono ex d x rx⟩
def seqD : D → Option (List D)
  | .lst ds => some ds
  | .tup ds => some ds
  | _ => none
def itF (f : FE) : FI := fun g => (f g).bd fun d g1 => opt (seqD d) g1
theorem pi_d (hM : b.M = ⟨X.K, X.mg, Tb⟩) (h : PE X e (tE b W f)) : PI X tg e (tI b W (itF f)) := ⟨fun pins s σ H R I ⟨Fz, g, r, q⟩ => by
  unfold itF at q
  cases hf : f g with
  | no => rw [hf] at q; exact q.elim
  | ex ee g' => exact (pi_list h).run pins s σ H R I ⟨Fz, g, r, by rw [hf] at q ⊢; exact q⟩
  | ok d g' =>
    rw [hf] at q
    obtain ⟨z, ez, q⟩ := Po.opt q
    cases d with
    | lst ds =>
      have ez := Option.some.inj ez
      subst ez
      refine (pi_list h).run pins s σ H R I ⟨Fz, g, r, ?_⟩
      rw [hf]
      intro x H' Fz' r' e' rep
      have rep' : Rep b.M Fz' H' (.lst ds) x := rep
      unfold Rep at rep'
      obtain ⟨a, vs, rfl, hl, rr⟩ := rep'
      rw [hM] at hl
      refine ⟨a, rfl, ⟨vs, hl.sq⟩, q.ok r' e' ?_⟩
      intro Fz2 H2 ex dom
      have h' := (ex.lsF hl).sq
      refine ⟨fun k d e => ?_, ⟨vs, h', by rw [RepL.length rr]; exact Nat.le_refl _⟩⟩
      obtain ⟨x, ex1, rx⟩ := rr.get e
      refine ⟨⟨vs, x, h', ex1⟩, fun y H'' ⟨e2, qq⟩ => ?_⟩
      subst e2
      have q2 := qq vs h'
      rw [ex1] at q2
      cases q2
      exact ⟨Fz2, .refl, Rep.mono ex d x rx⟩
    | tup ds =>
      have ez := Option.some.inj ez
      subst ez
      refine (pi_tup h).run pins s σ H R I ⟨Fz, g, r, ?_⟩
      rw [hf]
      intro x H' Fz' r' e' rep
      have rep' : Rep b.M Fz' H' (.tup ds) x := rep
      unfold Rep at rep'
      obtain ⟨a, vs, rfl, hl, rr⟩ := rep'
      rw [hM] at hl
      exact ⟨a, rfl, ⟨vs, hl⟩, q.ok r' e' (src_tup hl rr)⟩
    | _ => cases ez⟩
/-! range -/
def rng (n : Nat) (lo : Int) : List D := (List.range n).map fun (k : Nat) => D.int (lo + (k : Int))
theorem rng_get {n k : Nat} {lo : Int} {d : D} (h : (rng n lo)[k]? = some d) : k < n ∧ d = .int (lo + (k : Int)) := by
  unfold rng at h
  rw [List.getElem?_map] at h
  obtain ⟨j, e1, e2⟩ := Option.map_eq_some_iff.mp h
  have hk : k < n := by
    have := (List.getElem?_eq_some_iff.mp e1).1
    simpa using this
  rw [List.getElem?_range hk] at e1
  cases e1
  exact ⟨hk, e2.symm⟩
theorem rng_length {n : Nat} {lo : Int} : (rng n lo).length = n := by unfold rng; simp
theorem src_rng {n : Nat} {lo : Int} {Fz : Fzn} {H : Hp} : SrcOk b (Itr lo n) Fz H (rng n lo) := fun Fz' H' ex dom => by
  refine ⟨fun k d e => ?_, by rw [rng_length]; exact Nat.le_refl _⟩
  obtain ⟨h1, h2⟩ := rng_get e
  subst h2
  refine ⟨h1, fun x H'' ⟨e2, q⟩ => ?_⟩
  subst e2; subst q
  exact ⟨Fz', .refl, rep_int⟩
def RL (j : Int) : Bool := decide (j.natAbs < 4611686018427387904)
theorem RL_ok {j : Int} (h : RL j = true) : -(2 ^ 62) ≤ j ∧ j < 2 ^ 62 := by
  unfold RL at h
  have h1 := of_decide_eq_true h
  omega
def rng1D : List D → Option (List D)
  | [.int j] => if RL j = true then some (rng j.toNat 0) else none
  | _ => none
def rng2D : List D → Option (List D)
  | [.int i, .int j] => if RL i = true ∧ RL j = true then some (rng (j - i).toNat i) else none
  | _ => none
def faF {α : Type} (o : List D → Option α) (fa : FA) : Sg → R α := fun g => (fa g).bd fun ds g1 => opt (o ds) g1
theorem rep_ints1 {M : MM} {Fz : Fzn} {H : Hp} {j : Int} {xs : List V} (h : RepL M Fz H [.int j] xs) : xs = [.int j] := by
  obtain ⟨v, r, rfl, r1, r2⟩ := RepL.cons_iff.mp h
  rw [rep_int' r1, RepL.nil_iff.mp r2]
theorem rep_ints2 {M : MM} {Fz : Fzn} {H : Hp} {i j : Int} {xs : List V} (h : RepL M Fz H [.int i, .int j] xs) : xs = [.int i, .int j] := by
  obtain ⟨v, r, rfl, r1, r2⟩ := RepL.cons_iff.mp h
  rw [rep_int' r1, rep_ints1 r2]
theorem pi_rng1 {a : Expr} (hg : Gl X "range") (hm : X.mg "range" = none) (ha : PA X [a] (tAr b W fa)) (hs : starEach [a] X.env = [(false, eval a X.env)] := by rfl) : PI X tg (.Call (.Name "range" p) [a] [] pos) (tI b W (faF rng1D fa)) :=
  pi_mono (pi_range1 hg hm ha hs) fun σ H R ⟨Fz, g, r, q⟩ => tG_seq r q fun ds xs g1 Fz1 H1 r1 e1 rep h1 => by
    obtain ⟨z, ez, h1⟩ := h1.opt
    have rep' : RepL b.M Fz1 H1 ds xs := rep
    unfold rng1D at ez
    split at ez
    · rename_i j
      split at ez
      · rename_i hj
        obtain ⟨h3, h4⟩ := RL_ok hj
        have ez := Option.some.inj ez
        subst ez
        exact ⟨j, rep_ints1 rep', h3, h4, h1.ok r1 .refl src_rng⟩
      · cases ez
    · cases ez
theorem pi_rng2 {a c : Expr} (hg : Gl X "range") (hm : X.mg "range" = none) (ha : PA X [a, c] (tAr b W fa)) (hs : starEach [a, c] X.env = [(false, eval a X.env), (false, eval c X.env)] := by rfl) (hs2 : starEach [c] X.env = [(false, eval c X.env)] := by rfl) : PI X tg (.Call (.Name "range" p) [a, c] [] pos) (tI b W (faF rng2D fa)) :=
  pi_mono (pi_range2 hg hm ha hs hs2) fun σ H R ⟨Fz, g, r, q⟩ => tG_seq r q fun ds xs g1 Fz1 H1 r1 e1 rep h1 => by
    obtain ⟨z, ez, h1⟩ := h1.opt
    have rep' : RepL b.M Fz1 H1 ds xs := rep
    unfold rng2D at ez
    split at ez
    · rename_i i j
      split at ez
      · rename_i hj
        obtain ⟨h3, h4⟩ := RL_ok hj.1
        obtain ⟨h5, h6⟩ := RL_ok hj.2
        have ez := Option.some.inj ez
        subst ez
        exact ⟨i, j, rep_ints2 rep', ⟨h3, h4, h5, h6⟩, h1.ok r1 .refl src_rng⟩
      · cases ez
    · cases ez
/-! enumerate, zip -/
def enm (ds : List D) : List D := ds.zipIdx.map fun p => D.tup [.int (p.2 : Nat), p.1]
theorem enm_length {ds : List D} : (enm ds).length = ds.length := by unfold enm; simp
theorem enm_get {ds : List D} {k : Nat} {d : D} (h : (enm ds)[k]? = some d) : ∃ c, ds[k]? = some c ∧ d = .tup [.int (k : Nat), c] := by
  unfold enm at h
  rw [List.getElem?_map] at h
  obtain ⟨j, e1, e2⟩ := Option.map_eq_some_iff.mp h
  rw [List.getElem?_zipIdx] at e1
  obtain ⟨c, e3, e4⟩ := Option.map_eq_some_iff.mp e1
  subst e4; subst e2
  exact ⟨c, e3, by simp⟩
theorem sqC_rep {Fz : Fzn} {H : Hp} {d : D} {ds : List D} {x : V} (h : Rep b.M Fz H d x) (e : seqD d = some ds) : ∃ a vs c, x = .ref a ∧ (∀ Fz' H', Ext Fz H Fz' H' → SqC b.M.K c H' a vs) ∧ RepL b.M Fz H ds vs := by
  cases d with
  | lst es =>
    have e' : es = ds := Option.some.inj e
    subst e'
    unfold Rep at h
    obtain ⟨a, vs, rfl, hl, rr⟩ := h
    exact ⟨a, vs, true, rfl, fun Fz' H' ex => (ex.lsF hl).sq, rr⟩
  | tup es =>
    have e' : es = ds := Option.some.inj e
    subst e'
    unfold Rep at h
    obtain ⟨a, vs, rfl, hl, rr⟩ := h
    exact ⟨a, vs, false, rfl, fun Fz' H' ex => ex.sqT hl, rr⟩
  | _ => cases e
theorem rep_tupN {M : MM} {Fz Fz1 : Fzn} {H H1 : Hp} {ds : List D} {vs : List V} {a : Addr} (r : RepL M Fz H ds vs) (e : Ext Fz H Fz1 H1) (h : H1 a = some (.tup vs)) : Rep M Fz1 H1 (.tup ds) (.ref a) := by
  unfold Rep
  exact ⟨a, vs, rfl, .inl (.inl h), RepL.mono e _ _ r⟩
def enmD : List D → Option (List D)
  | [d] => (seqD d).map enm
  | _ => none
theorem pi_enmD {elts : List Expr} {kk : Nat} {tpos : Pos} (hM : b.M = ⟨X.K, X.mg, Tb⟩) (hg : Gl X "enumerate") (hm : X.mg "enumerate" = none) (ha : PA X [e] (tAr b W fa)) (hs : starEach [e] X.env = [(false, eval e X.env)] := by rfl) :
    PI X (.Tuple elts kk tpos) (.Call (.Name "enumerate" p) [e] [] pos) (tI b W (faF enmD fa)) :=
  pi_mono (pi_enumC hg hm ha hs) fun σ H R ⟨Fz, g, r, q⟩ => tG_seq r q fun ds xs g1 Fz1 H1 r1 e1 rep h1 => by
    obtain ⟨z, ez, h1⟩ := h1.opt
    have rep' : RepL b.M Fz1 H1 ds xs := rep
    unfold enmD at ez
    split at ez
    · rename_i d
      obtain ⟨es, e3, e4⟩ := Option.map_eq_some_iff.mp ez
      subst e4
      obtain ⟨v, vr, rfl, q1, q2⟩ := RepL.cons_iff.mp rep'
      have q3 := RepL.nil_iff.mp q2
      subst q3
      obtain ⟨a, vs, c, rfl, hq, rr⟩ := sqC_rep q1 e3
      rw [hM] at hq
      refine ⟨a, vs, c, rfl, hq _ _ .refl, h1.ok r1 .refl ?_⟩
      intro Fz' H' ex dom
      have hq' := hq _ _ ex
      have src : ∀ n f, (n = vs.length ∧ ∀ i, i < n → ∃ x, vs[i]? = some x ∧ f i = [V.int (i : Nat), x]) → SrcE X.K c a H' n f := fun n f h => ⟨vs, hq', h.1, h.2⟩
      have hx : SrcE X.K c a H' vs.length fun i => [V.int (i : Nat), vs[i]?.getD .non] := src _ _ ⟨rfl, fun i hi => ⟨vs[i], by simp [hi], by simp [hi]⟩⟩
      refine ⟨fun k d e => ?_, ⟨_, _, hx, by rw [enm_length, RepL.length rr]⟩⟩
      obtain ⟨c1, e5, rfl⟩ := enm_get e
      obtain ⟨v, ev, rv⟩ := rr.get e5
      have hk : k < vs.length := (List.getElem?_eq_some_iff.mp ev).1
      refine ⟨⟨_, _, hx, hk⟩, fun x H'' ⟨T, ws, e6, e7, e8, e9⟩ => ?_⟩
      have e10 := e9 _ _ hx hk
      simp only [ev, Option.getD_some] at e10
      subst e10; subst e8; subst e6
      have gt : GrowTo Fz' H' Fz' (upd H' T (.tup [V.int (k : Nat), v])) := .alloc e7
      exact ⟨Fz', gt, rep_tupN (RepL.cons rep_int (RepL.cons (Rep.mono ex _ _ rv) RepL.nil)) gt.ext upd_same⟩
    · cases ez
def zipD2 (ds es : List D) : List D := List.zipWith (fun a c => D.tup [a, c]) ds es
def zipD : List D → Option (List D)
  | [d, e] => (seqD d).bind fun ds => (seqD e).map fun es => zipD2 ds es
  | _ => none
theorem pi_zipDD {elts : List Expr} {kk : Nat} {tpos : Pos} (hM : b.M = ⟨X.K, X.mg, Tb⟩) (hg : Gl X "zip") (hm : X.mg "zip" = none) (ha : PA X [e, e2] (tAr b W fa))
    (hs : starEach [e, e2] X.env = (false, eval e X.env) :: starEach [e2] X.env := by rfl) (hpl : (backTo pos (starEach [e2] X.env)).any (·.1) = false := by rfl) :
    PI X (.Tuple elts kk tpos) (.Call (.Name "zip" p) [e, e2] [] pos) (tI b W (faF zipD fa)) :=
  pi_mono (pi_zipC hg hm ha hs hpl) fun σ H R ⟨Fz, g, r, q⟩ => tG_seq r q fun ds xs g1 Fz1 H1 r1 e1 rep h1 => by
    obtain ⟨z, ez, h1⟩ := h1.opt
    have rep' : RepL b.M Fz1 H1 ds xs := rep
    unfold zipD at ez
    split at ez
    · rename_i d1 d2
      obtain ⟨es, e3, e4⟩ := Option.bind_eq_some_iff.mp ez
      obtain ⟨fs, e5, e6⟩ := Option.map_eq_some_iff.mp e4
      subst e6
      obtain ⟨v, vr, rfl, q1, q2⟩ := RepL.cons_iff.mp rep'
      obtain ⟨w, wr, rfl, q3, q4⟩ := RepL.cons_iff.mp q2
      have q5 := RepL.nil_iff.mp q4
      subst q5
      obtain ⟨a, vs, c, rfl, hq, rr⟩ := sqC_rep q1 e3
      obtain ⟨a2, ws, c2, rfl, hq2, rr2⟩ := sqC_rep q3 e5
      rw [hM] at hq hq2
      refine ⟨a, a2, vs, ws, c, c2, rfl, hq _ _ .refl, hq2 _ _ .refl, h1.ok r1 .refl ?_⟩
      intro Fz' H' ex dom
      have hx : SrcZ X.K c c2 a a2 H' (min vs.length ws.length) fun i => [vs[i]?.getD .non, ws[i]?.getD .non] := ⟨vs, ws, hq _ _ ex, hq2 _ _ ex, rfl, fun i hi => ⟨vs[i]'(by omega), ws[i]'(by omega), by simp, by simp, by
        have h1 : i < vs.length := by omega
        have h2 : i < ws.length := by omega
        simp [h1, h2]⟩⟩
      refine ⟨fun k d e => ?_, ⟨_, _, hx, by unfold zipD2; simp [RepL.length rr, RepL.length rr2]⟩⟩
      unfold zipD2 at e
      rw [List.getElem?_zipWith] at e
      split at e
      · rename_i d3 d4 e7 e8
        have e := Option.some.inj e
        subst e
        obtain ⟨v, ev, rv⟩ := rr.get e7
        obtain ⟨w, ew, rw'⟩ := rr2.get e8
        have hk : k < min vs.length ws.length := Nat.lt_min.mpr ⟨(List.getElem?_eq_some_iff.mp ev).1, (List.getElem?_eq_some_iff.mp ew).1⟩
        refine ⟨⟨_, _, hx, hk⟩, fun x H'' ⟨T, us, e6, e7, e8, e9⟩ => ?_⟩
        have e10 := e9 _ _ hx hk
        simp only [ev, ew, Option.getD_some] at e10
        subst e10; subst e8; subst e6
        have gt : GrowTo Fz' H' Fz' (upd H' T (.tup [v, w])) := .alloc e7
        exact ⟨Fz', gt, rep_tupN (RepL.cons (Rep.mono ex _ _ rv) (RepL.cons (Rep.mono ex _ _ rw') RepL.nil)) gt.ext upd_same⟩
      · cases e
    · cases ez
end

/-! ### for -/
section
variable {X : Cx} {b : B} {W : WX} {e : Expr} {tg iter : Expr} {body : List Stmt} {pos p : Pos} {s : FS} {t : Tgt} {fi : FI}
def turnS (t : Tgt) (s : FS) (d : D) : FS := fun g => match t d g with
  | some g1 => s g1
  | none => .no
def forL (f : D → FS) : List D → FS
  | [], g => .nx g
  | d :: ds, g => match f d g with
    | .nx g' => forL f ds g'
    | .ct g' => forL f ds g'
    | .bk g' => .nx g'
    | .rt d g' => .rt d g'
    | .rf d g' => .rf d g'
    | .ex e g' => .ex e g'
    | .no => .no
def forS (fi : FI) (t : Tgt) (s : FS) : FS := fun g => (fi g).sb fun items g1 => forL (turnS t s) items g1
theorem pts_for {ta as : List Nat} (hp : PassesOwn (model X.prog X.w) X.A X.env X.xe) (hc : X.calm = true) (hi : PI X tg iter (tI b W fi)) (hg : PG X tg (gD b ta t)) (hb : PSs X body (tSt b W as s))
    (hs : ∀ x, foldedSetIterable iter X.env x = pure x := by intro _; rfl) : PS X (.For tg iter body [] pos) (tSt b W (ta ++ as) (forS fi t s)) := ps_mono (ps_for hp hc hi hg hb hs) fun D σ H ⟨Fz, g, r, h⟩ => by
  refine tG_st r h fun items J g1 Fz1 H1 r1 e1 src h1 => ?_
  have src' : SrcOk b J Fz1 H1 items := src
  refine ⟨fun k m σ' H' => m = items.length - k ∧ k ≤ items.length ∧ ∃ Fz' g', BRel b Fz' g' σ' H' ∧ Ext Fz1 H1 Fz' H' ∧ PoS b W (ta ++ as) σ' Fz' H' D (forL (turnS t s) (items.drop k) g'), ⟨_, rfl, Nat.zero_le _, Fz1, g1, r1, .refl, by rw [List.drop_zero]; exact h1⟩, ?_⟩
  rintro k m σ2 H2 ⟨rfl, hk, Fz2, g2, r2, e2, h2⟩
  obtain ⟨go, stop⟩ := src' Fz2 H2 e2 r2.gr.dom
  by_cases hlt : k < items.length
  · refine .inr ?_
    have hd : items[k]? = some items[k] := by simp [hlt]
    obtain ⟨g0, yl⟩ := go k _ hd
    rw [List.drop_eq_getElem_cons hlt] at h2
    generalize hdk : items[k] = d at h2 hd yl
    refine ⟨g0, fun σ' H' => ∃ Fz' g', BRel b Fz' g' σ' H' ∧ Ext Fz1 H1 Fz' H' ∧ PoS b W (ta ++ as) σ' Fz' H' D (forL (turnS t s) (items.drop (k + 1)) g'), fun σ' H' q => ⟨_, by omega, rfl, hlt, q⟩, fun x H' y => ?_⟩
    obtain ⟨Fz3, gt, rep⟩ := yl x H' y
    have r3 := r2.grow gt
    unfold forL at h2
    unfold turnS at h2
    cases ht : t d g2 with
    | none => rw [ht] at h2; exact h2.elim
    | some g3 =>
      rw [ht] at h2
      simp only at h2
      refine ⟨Fz3, g2, d, g3, r3, rep, ht, fun σ4 r4 h4 hl => ⟨Fz3, g3, r4, ?_⟩⟩
      have go4 : Go ta σ2 Fz2 H2 σ4 Fz3 H' := ⟨gt.ext, h4⟩
      have fin : ∀ {σ' : L2.St} {H'' : Hp} {Fz' : Fzn} {g' : Sg}, BRel b Fz' g' σ' H'' → Go as σ4 Fz3 H' σ' Fz' H'' → PoS b W (ta ++ as) σ2 Fz2 H2 D (forL (turnS t s) (items.drop (k + 1)) g') → ∃ Fz' g', BRel b Fz' g' σ' H'' ∧ Ext Fz1 H1 Fz' H'' ∧ PoS b W (ta ++ as) σ' Fz' H'' D (forL (turnS t s) (items.drop (k + 1)) g') := fun {σ' H'' Fz' g'} br go5 po =>
        ⟨Fz', g', br, e2.trans (gt.ext.trans go5.ex), PoS.weak (as := ta ++ as) (PoS.sub po fun i z => by
          rcases List.mem_append.mp z with z | z <;> exact z) (go4.trans go5)⟩
      cases hs3 : s g3 with
      | nx g' => rw [hs3] at h2; exact fun σ' H'' Fz' br go5 => fin br go5 h2
      | ct g' => rw [hs3] at h2; exact fun σ' H'' Fz' br go5 => fin br go5 h2
      | bk g' => rw [hs3] at h2; exact fun σ' H'' Fz' br go5 => h2 σ' H'' Fz' br (go4.trans go5)
      | rt d' g' => rw [hs3] at h2; exact h2
      | rf d' g' => rw [hs3] at h2; exact h2
      | ex e' g' => rw [hs3] at h2; exact fun σ' cl dx H'' Fz' br go5 ok => h2 σ' cl dx H'' Fz' br (go4.trans go5) ok
      | no => rw [hs3] at h2; exact h2.elim
  · have e : k = items.length := by omega
    subst e
    rw [List.drop_length] at h2
    exact .inl ⟨stop, h2 σ2 H2 Fz2 r2 .refl⟩

/-! ### by fuel -/
open Classical in
/-- the answer of f, if some fuel is enough -/
noncomputable def byFuel (f : Nat → RS) : RS := if h : ∃ n, f n ≠ .no then f (Classical.choose h) else .no
/-- more fuel, the same answer -/
def FuelMono (f : Nat → RS) : Prop := ∀ n m, n ≤ m → f n ≠ .no → f m = f n
theorem byFuel_eq {f : Nat → RS} (hm : FuelMono f) {n : Nat} (h : f n ≠ .no) : byFuel f = f n := by
  unfold byFuel
  have hx : ∃ n, f n ≠ .no := ⟨n, h⟩
  rw [dif_pos hx]
  have q := Classical.choose_spec hx
  rcases Nat.le_total (Classical.choose hx) n with z | z
  · exact (hm _ _ z q).symm
  · exact hm _ _ z h
theorem byFuel_ex {f : Nat → RS} (h : byFuel f ≠ .no) : ∃ n, byFuel f = f n := by
  unfold byFuel at h ⊢
  split
  · exact ⟨_, rfl⟩
  · rename_i q
    rw [dif_neg q] at h
    exact absurd rfl h
/-! over an own list, as it stands at each turn -/
def forON (i : Nat) (f : D → FS) : Nat → Nat → FS
  | 0, _, _ => .no
  | n + 1, k, g => match gat g i with
    | .ow ds => match ds[k]? with
      | none => .nx g
      | some d => match f d g with
        | .nx g' => forON i f n (k + 1) g'
        | .ct g' => forON i f n (k + 1) g'
        | .bk g' => .nx g'
        | .rt d g' => .rt d g'
        | .rf d g' => .rf d g'
        | .ex e g' => .ex e g'
        | .no => .no
    | _ => .no
theorem forON_mono {i : Nat} {f : D → FS} : ∀ {n m k : Nat} {g : Sg}, n ≤ m → forON i f n k g ≠ .no → forON i f m k g = forON i f n k g
  | 0, _, _, _, _, h => absurd rfl h
  | n + 1, 0, _, _, h, _ => by omega
  | n + 1, m + 1, k, g, h, q => by
    unfold forON at q ⊢
    cases hg : gat g i with
    | ow ds =>
      rw [hg] at q
      simp only at q ⊢
      cases hd : ds[k]? with
      | none => rfl
      | some d =>
        rw [hd] at q
        simp only at q ⊢
        cases hf : f d g with
        | nx g' => rw [hf] at q; exact forON_mono (Nat.le_of_succ_le_succ h) q
        | ct g' => rw [hf] at q; exact forON_mono (Nat.le_of_succ_le_succ h) q
        | _ => rfl
    | _ => rfl
noncomputable def forO (i : Nat) (t : Tgt) (s : FS) : FS := fun g => byFuel fun n => forON i (turnS t s) n 0 g
theorem forON_list {i : Nat} {f : D → FS} {ds : List D} (Pv : Nat → Sg → Prop) (h1 : ∀ k g, Pv k g → gat g i = .ow ds) (h2 : ∀ k d g g', ds[k]? = some d → Pv k g → (f d g = .nx g' ∨ f d g = .ct g') → Pv (k + 1) g') :
    ∀ (m k : Nat) (g : Sg), k + m = ds.length → Pv k g → forON i f (m + 1) k g = forL f (ds.drop k) g
  | 0, k, g, hk, hp => by
    have hn : ds[k]? = none := List.getElem?_eq_none (by omega)
    rw [List.drop_eq_nil_of_le (by omega)]
    unfold forON forL
    rw [h1 k g hp]
    simp only [hn]
  | m + 1, k, g, hk, hp => by
    have hlt : k < ds.length := by omega
    have hd : ds[k]? = some ds[k] := by simp [hlt]
    rw [List.drop_eq_getElem_cons hlt]
    rw [forON, forL, h1 k g hp]
    simp only [hd]
    cases q : f ds[k] g with
    | nx g' => exact forON_list Pv h1 h2 m (k + 1) g' (by omega) (h2 k _ g g' hd hp (.inl q))
    | ct g' => exact forON_list Pv h1 h2 m (k + 1) g' (by omega) (h2 k _ g g' hd hp (.inr q))
    | _ => rfl
/-- the body leaves the list as it is -/
theorem forO_list {i : Nat} {t : Tgt} {s : FS} {ds : List D} {g : Sg} (Pv : Nat → Sg → Prop) (h0 : Pv 0 g) (h1 : ∀ k g, Pv k g → gat g i = .ow ds) (h2 : ∀ k d g g', ds[k]? = some d → Pv k g → (turnS t s d g = .nx g' ∨ turnS t s d g = .ct g') → Pv (k + 1) g') :
    forO i t s g = forL (turnS t s) ds g := by
  unfold forO
  have e := forON_list (f := turnS t s) Pv h1 h2 ds.length 0 g (by omega) h0
  rw [List.drop_zero] at e
  by_cases c : forL (turnS t s) ds g = .no
  · rw [c]
    refine Classical.byContradiction fun z => ?_
    obtain ⟨n, hn⟩ := byFuel_ex z
    rw [hn] at z
    rcases Nat.le_total n (ds.length + 1) with l | l
    · rw [forON_mono l z] at e; rw [c] at e; exact z e
    · rw [c] at e
      -- at n ≥ length + 1: the list's walk is the same
      have e2 : ∀ (x m k : Nat) (g : Sg), k + m = ds.length → Pv k g → forON i (turnS t s) (m + 1 + x) k g = forL (turnS t s) (ds.drop k) g := fun x m => by
        induction m with
        | zero =>
          intro k g hk hp
          have hn : ds[k]? = none := List.getElem?_eq_none (by omega)
          rw [List.drop_eq_nil_of_le (by omega)]
          rw [show 0 + 1 + x = x + 1 by omega]
          unfold forON forL
          rw [h1 k g hp]
          simp only [hn]
        | succ m ih =>
          intro k g hk hp
          have hlt : k < ds.length := by omega
          have hd : ds[k]? = some ds[k] := by simp [hlt]
          rw [List.drop_eq_getElem_cons hlt]
          rw [show m + 1 + 1 + x = (m + 1 + x) + 1 by omega]
          rw [forON, forL, h1 k g hp]
          simp only [hd]
          cases q : turnS t s ds[k] g with
          | nx g' => exact ih (k + 1) g' (by omega) (h2 k _ g g' hd hp (.inl q))
          | ct g' => exact ih (k + 1) g' (by omega) (h2 k _ g g' hd hp (.inr q))
          | _ => rfl
      have e3 := e2 (n - (ds.length + 1)) ds.length 0 g (by omega) h0
      rw [List.drop_zero, c, show ds.length + 1 + (n - (ds.length + 1)) = n by omega] at e3
      exact z e3
  · rw [byFuel_eq (fun n m l q => forON_mono l q) (n := ds.length + 1) (by rw [e]; exact c), e]
theorem pts_forO {ta as : List Nat} {i : Nat} (hM : b.M = ⟨X.K, X.mg, Tb⟩) (hp : PassesOwn (model X.prog X.w) X.A X.env X.xe) (hc : X.calm = true) (hi : PE X iter (tVar i)) (hg : PG X tg (gD b ta t)) (hb : PSs X body (tSt b W as s)) (hna : i ∉ ta ++ as)
    (hs : ∀ x, foldedSetIterable iter X.env x = pure x := by intro _; rfl) : PS X (.For tg iter body [] pos) (tSt b W (ta ++ as) (forO i t s)) := ps_mono (ps_for hp hc (pi_list hi) hg hb hs) fun D σ H ⟨Fz, g, r, h⟩ => by
  unfold forO at h
  have hne : byFuel (fun n => forON i (turnS t s) n 0 g) ≠ .no := fun z => by rw [z] at h; exact h
  obtain ⟨N, hN⟩ := byFuel_ex hne
  rw [hN] at h hne
  clear hN
  cases N with
  | zero => exact absurd rfl hne
  | succ N =>
  have h0 := h
  unfold forON at h
  cases hgi : gat g i with
  | ow ds =>
    obtain ⟨a, u, e1, nf, hu, vs, eu, rep⟩ := r.slot (gat_get hgi (by intro z; cases z))
    subst eu
    clear h
    refine ⟨.ref a, e1, a, rfl, ⟨vs, .inl (.inl hu)⟩, ?_⟩
    refine ⟨fun k m σ' H' => ∃ Fz' g', BRel b Fz' g' σ' H' ∧ Go (ta ++ as) σ Fz H σ' Fz' H' ∧ PoS b W (ta ++ as) σ' Fz' H' D (forON i (turnS t s) m k g'), ⟨N + 1, Fz, g, r, .refl, h0⟩, ?_⟩
    rintro k m σ2 H2 ⟨Fz2, g2, r2, go2, h2⟩
    cases m with
    | zero => exact h2.elim
    | succ m =>
    unfold forON at h2
    cases hg2 : gat g2 i with
    | ow ds2 =>
      rw [hg2] at h2
      simp only at h2
      obtain ⟨a2, u2, e2, nf2, hu2, vs2, eu2, rep2⟩ := r2.slot (gat_get hg2 (by intro z; cases z))
      subst eu2
      rw [go2.sl i hna, e1] at e2
      injection e2 with e2
      injection e2 with e2
      injection e2 with e2
      subst e2
      have sq2 : SqL X.K H2 a vs2 := .inl (.inl hu2)
      cases hd : ds2[k]? with
      | none =>
        rw [hd] at h2
        refine .inl ⟨⟨vs2, sq2, ?_⟩, h2 σ2 H2 Fz2 r2 .refl⟩
        rw [← RepL.length rep2]
        exact List.getElem?_eq_none_iff.mp hd
      | some d =>
        rw [hd] at h2
        simp only at h2
        obtain ⟨x, ex, rx⟩ := rep2.get hd
        refine .inr ⟨⟨vs2, x, sq2, ex⟩, fun σ' H' => ∃ Fz' g', BRel b Fz' g' σ' H' ∧ Go (ta ++ as) σ Fz H σ' Fz' H' ∧ PoS b W (ta ++ as) σ' Fz' H' D (forON i (turnS t s) m (k + 1) g'), fun σ' H' q => ⟨m, Nat.lt_succ_self m, q⟩, fun y H' ⟨e3, q3⟩ => ?_⟩
        subst e3
        have q4 := q3 vs2 sq2
        rw [ex] at q4
        cases q4
        unfold turnS at h2
        cases ht : t d g2 with
        | none => rw [ht] at h2; exact h2.elim
        | some g3 =>
          rw [ht] at h2
          simp only at h2
          refine ⟨Fz2, g2, d, g3, r2, rx, ht, fun σ4 r4 h4 hl => ⟨Fz2, g3, r4, ?_⟩⟩
          have go4 : Go ta σ2 Fz2 H' σ4 Fz2 H' := ⟨.refl, h4⟩
          have fin : ∀ {σ' : L2.St} {H'' : Hp} {Fz' : Fzn} {g' : Sg}, BRel b Fz' g' σ' H'' → Go as σ4 Fz2 H' σ' Fz' H'' → PoS b W (ta ++ as) σ2 Fz2 H' D (forON i (turnS t s) m (k + 1) g') → ∃ Fz' g', BRel b Fz' g' σ' H'' ∧ Go (ta ++ as) σ Fz H σ' Fz' H'' ∧ PoS b W (ta ++ as) σ' Fz' H'' D (forON i (turnS t s) m (k + 1) g') := fun {σ' H'' Fz' g'} br go5 po =>
            ⟨Fz', g', br, (go2.trans (go4.trans go5)).sub fun i z => by rcases List.mem_append.mp z with z | z <;> exact z, PoS.weak (as := ta ++ as) (PoS.sub po fun i z => by
              rcases List.mem_append.mp z with z | z <;> exact z) (go4.trans go5)⟩
          cases hs3 : s g3 with
          | nx g' => rw [hs3] at h2; exact fun σ' H'' Fz' br go5 => fin br go5 h2
          | ct g' => rw [hs3] at h2; exact fun σ' H'' Fz' br go5 => fin br go5 h2
          | bk g' => rw [hs3] at h2; exact fun σ' H'' Fz' br go5 => h2 σ' H'' Fz' br (go4.trans go5)
          | rt d' g' => rw [hs3] at h2; exact h2
          | rf d' g' => rw [hs3] at h2; exact h2
          | ex e' g' => rw [hs3] at h2; exact fun σ' cl dx H'' Fz' br go5 ok => h2 σ' cl dx H'' Fz' br (go4.trans go5) ok
          | no => rw [hs3] at h2; exact h2.elim
    | _ => rw [hg2] at h2; exact h2.elim
  | _ => rw [hgi] at h; exact h.elim

/-! ### while -/
def whileN (c : FB) (s : FS) : Nat → FS
  | 0, _ => .no
  | n + 1, g => (c g).sb fun k g1 => if k = true then (match s g1 with
    | .nx g' => whileN c s n g'
    | .ct g' => whileN c s n g'
    | .bk g' => .nx g'
    | .rt d g' => .rt d g'
    | .rf d g' => .rf d g'
    | .ex e g' => .ex e g'
    | .no => .no) else .nx g1
theorem whileN_mono {c : FB} {s : FS} : ∀ {n m : Nat} {g : Sg}, n ≤ m → whileN c s n g ≠ .no → whileN c s m g = whileN c s n g
  | 0, _, _, _, h => absurd rfl h
  | n + 1, 0, _, h, _ => by omega
  | n + 1, m + 1, g, h, q => by
    unfold whileN at q ⊢
    cases hc : c g with
    | no => rfl
    | ex e g1 => rfl
    | ok k g1 =>
      rw [hc] at q
      simp only [R.sb_ok] at q ⊢
      by_cases hk : k = true
      · rw [if_pos hk] at q
        rw [if_pos hk, if_pos hk]
        cases hs : s g1 with
        | nx g' => rw [hs] at q; exact whileN_mono (Nat.le_of_succ_le_succ h) q
        | ct g' => rw [hs] at q; exact whileN_mono (Nat.le_of_succ_le_succ h) q
        | _ => rfl
      · rw [if_neg hk, if_neg hk]
noncomputable def whileS (c : FB) (s : FS) : FS := fun g => byFuel fun n => whileN c s n g
theorem whileS_eq {c : FB} {s : FS} {g : Sg} {n : Nat} {r : RS} (h : whileN c s n g = r) (hr : r ≠ .no) : whileS c s g = r := by
  unfold whileS
  rw [byFuel_eq (fun n m l q => whileN_mono l q) (n := n) (by rw [h]; exact hr), h]
theorem pts_while {c : FB} {as : List Nat} (hp : PassesOwn (model X.prog X.w) X.A X.env X.xe) (hc : PT X e (tBo b W c)) (hb : PSs X body (tSt b W as s)) : PS X (.While e body [] pos) (tSt b W as (whileS c s)) := ps_mono (ps_while hp hc hb) fun D σ H ⟨Fz, g, r, h⟩ => by
  unfold whileS at h
  have hne : byFuel (fun n => whileN c s n g) ≠ .no := fun z => by rw [z] at h; exact h
  obtain ⟨N, hN⟩ := byFuel_ex hne
  rw [hN] at h
  clear hN hne
  refine ⟨fun m σ' H' => ∃ Fz' g', BRel b Fz' g' σ' H' ∧ PoS b W as σ' Fz' H' D (whileN c s m g'), ⟨N, Fz, g, r, h⟩, ?_⟩
  rintro m σ2 H2 ⟨Fz2, g2, r2, h2⟩
  cases m with
  | zero => exact h2.elim
  | succ m =>
  unfold whileN at h2
  refine tG_st r2 h2 fun k x g3 Fz3 H3 r3 e3 rep h3 => ?_
  have rep' : x = k := rep
  subst rep'
  cases x with
  | false => exact h3 σ2 H3 Fz3 r3 .refl
  | true =>
    simp only [if_true] at h3
    rw [if_pos rfl]
    refine ⟨fun σ' H' => ∃ Fz' g', BRel b Fz' g' σ' H' ∧ PoS b W as σ' Fz' H' D (whileN c s m g'), fun σ' H' q => ⟨m, Nat.lt_succ_self m, q⟩, Fz3, g3, r3, ?_⟩
    have fin : ∀ {σ' : L2.St} {H'' : Hp} {Fz' : Fzn} {g' : Sg}, BRel b Fz' g' σ' H'' → Go as σ2 Fz3 H3 σ' Fz' H'' → PoS b W as σ2 Fz3 H3 D (whileN c s m g') → ∃ Fz' g', BRel b Fz' g' σ' H'' ∧ PoS b W as σ' Fz' H'' D (whileN c s m g') := fun {σ' H'' Fz' g'} br go5 po =>
      ⟨Fz', g', br, PoS.weak (as := as) (PoS.sub po fun i z => by rcases List.mem_append.mp z with z | z <;> exact z) go5⟩
    cases hs3 : s g3 with
    | nx g' => rw [hs3] at h3; exact fun σ' H'' Fz' br go5 => fin br go5 h3
    | ct g' => rw [hs3] at h3; exact fun σ' H'' Fz' br go5 => fin br go5 h3
    | bk g' => rw [hs3] at h3; exact fun σ' H'' Fz' br go5 => h3 σ' H'' Fz' br go5
    | rt d' g' => rw [hs3] at h3; exact h3
    | rf d' g' => rw [hs3] at h3; exact h3
    | ex e' g' => rw [hs3] at h3; exact fun σ' cl dx H'' Fz' br go5 ok => h3 σ' cl dx H'' Fz' br go5 ok
    | no => rw [hs3] at h3; exact h3.elim
end
end DL

set_option Elab.async false
set_option linter.all false
set_option maxRecDepth 100000
set_option maxHeartbeats 4000000
/-! Den8: list comprehensions. -/
namespace DL
open PySem L2 PySem.Spec PyProof.Rows

section
variable {b : B} {W : WX} {Fz Fz' : Fzn} {g g' : Sg} {σ σ' : L2.St} {H H' : Hp}
/-- other slots' values where nothing is known -/
theorem BRel.congr (hx : b.px = none) (r : BRel b Fz g σ H) (hl : σ'.length = σ.length) (h : ∀ (i : Nat) (s : S), g[i]? = some s → s ≠ .un → σ'[i]? = σ[i]?) : BRel b Fz g σ' H := by
  have ow : ∀ {i a}, Own g σ' i a → Own g σ i a := fun {i a} ⟨⟨s, e, w⟩, q⟩ => ⟨⟨s, e, w⟩, by rw [← h i s e (fun z => by rw [z] at w; cases w)]; exact q⟩
  refine ⟨r.gr, ⟨by rw [hl]; exact r.rel.len, fun i s e => ?_, fun i j a p q => r.rel.apart i j a (ow p) (ow q)⟩, fun i a q => r.own i a (ow q), fun i a l q => r.pin i a l (ow q), (fun i a h => by rw [hx] at h; cases h), r.nst.step rfl .refl (fun i dss e => ⟨e, h i _ e (by intro z; cases z)⟩) (fun _ _ _ => rfl) fun i x q => let ⟨k1, k2, k3⟩ := r.nst.free i x q; ⟨k1, k2, fun j o => k3 j (ow o)⟩⟩
  have z := r.slot e
  by_cases c : s = .un
  · subst c; trivial
  · rw [h i s e c]; exact z
def wipeG (g : Sg) : List Nat → Sg
  | [] => g
  | v :: vs => (wipeG g vs).set v .un
theorem BRel.wipeG (r : BRel b Fz g σ H) : ∀ vs : List Nat, BRel b Fz (DL.wipeG g vs) σ H
  | [] => r
  | v :: vs => (BRel.wipeG r vs).forget v
theorem wipeG_length {g : Sg} : ∀ {vs : List Nat}, (wipeG g vs).length = g.length
  | [] => rfl
  | v :: vs => by unfold wipeG; rw [List.length_set, wipeG_length]
theorem wipeG_get {g : Sg} {i : Nat} {s : S} : ∀ {vs : List Nat}, (wipeG g vs)[i]? = some s → s ≠ .un → i ∉ vs
  | [], _, _ => by simp
  | v :: vs, h, n => by
    unfold wipeG at h
    rcases gset_get h with ⟨_, e⟩ | ⟨e, h⟩
    · exact absurd e n
    · rw [List.mem_cons, not_or]; exact ⟨e, wipeG_get h n⟩
theorem wipe_out {σ : L2.St} {i : Nat} : ∀ {vs : List Nat}, i ∉ vs → (wipe σ vs)[i]? = σ[i]?
  | [], _ => rfl
  | v :: vs, h => by
    rw [List.mem_cons, not_or] at h
    unfold wipe
    rw [List.getElem?_set_ne (fun z => h.1 z.symm)]
    exact wipe_out h.2
theorem wipe_in {σ : L2.St} {i : Nat} : ∀ {vs : List Nat}, i ∈ vs → i < σ.length → (wipe σ vs)[i]? = some none
  | v :: vs, h, hl => by
    unfold wipe
    by_cases e : v = i
    · subst e
      exact List.getElem?_set_self (by rw [wipe_length]; exact hl)
    · rw [List.getElem?_set_ne e]
      rcases List.mem_cons.mp h with q | q
      · exact absurd q.symm e
      · exact wipe_in q hl
theorem wipe_eq {σ σ' : L2.St} {vs : List Nat} (hl : σ'.length = σ.length) (h : ∀ i, i ∉ vs → σ'[i]? = σ[i]?) : wipe σ' vs = wipe σ vs := by
  apply List.ext_getElem?
  intro i
  by_cases c : i ∈ vs
  · by_cases l : i < σ.length
    · rw [wipe_in c l, wipe_in c (by omega)]
    · rw [List.getElem?_eq_none (by rw [wipe_length]; omega), List.getElem?_eq_none (by rw [wipe_length]; omega)]
  · rw [wipe_out c, wipe_out c, h i c]
theorem wipe_wipe {σ : L2.St} {vs : List Nat} : wipe (wipe σ vs) vs = wipe σ vs := wipe_eq (wipe_length ..) fun i h => wipe_out h
theorem BRel.wipe (hx : b.px = none) (r : BRel b Fz g σ H) (vs : List Nat) : BRel b Fz (DL.wipeG g vs) (L2.wipe σ vs) H := (r.wipeG vs).congr hx (wipe_length ..) fun i s e n => wipe_out (wipeG_get e n)
theorem BRel.unwipe {vs : List Nat} (hx : b.px = none) (r : BRel b Fz (DL.wipeG g vs) σ' H) (hl : σ'.length = σ.length) (h : ∀ i, i ∉ vs → σ'[i]? = σ[i]?) : BRel b Fz (DL.wipeG g vs) σ H := r.congr hx hl.symm fun i s e n => (h i (wipeG_get e n)).symm

/-! ### a new base -/
/-- the values of own slots alone -/
def maskO : Sg → L2.St → L2.St
  | s :: g, o :: σ => (if s.isOw = true then o else none) :: maskO g σ
  | _, _ => []
theorem maskO_get : ∀ {g : Sg} {σ : L2.St} {i : Nat} {x : V}, (maskO g σ)[i]? = some (some x) → (∃ s, g[i]? = some s ∧ s.isOw = true) ∧ σ[i]? = some (some x)
  | [], _, _, _, h => by simp [maskO] at h
  | _ :: _, [], _, _, h => by simp [maskO] at h
  | s :: g, o :: σ, 0, x, h => by
    unfold maskO at h
    by_cases c : s.isOw = true
    · rw [if_pos c] at h
      exact ⟨⟨s, rfl, c⟩, by simpa using h⟩
    · rw [if_neg c] at h
      simp at h
  | s :: g, o :: σ, i + 1, x, h => by
    obtain ⟨⟨t, h1, h2⟩, h3⟩ := maskO_get (g := g) (σ := σ) (i := i) (by simpa [maskO] using h)
    exact ⟨⟨t, by simpa using h1, h2⟩, by simpa using h3⟩
theorem maskO_own : ∀ {g : Sg} {σ : L2.St} {i : Nat} {a : Addr}, Own g σ i a → (maskO g σ)[i]? = some (some (.ref a))
  | [], _, _, _, ⟨⟨s, e, _⟩, _⟩ => by simp at e
  | _ :: _, [], _, _, ⟨_, e⟩ => by simp at e
  | s :: g, o :: σ, 0, a, ⟨⟨t, e, w⟩, q⟩ => by
    have e' : s = t := by simpa using e
    subst e'
    unfold maskO
    rw [if_pos w]
    simpa using q
  | s :: g, o :: σ, i + 1, a, ⟨⟨t, e, w⟩, q⟩ => by
    unfold maskO
    rw [List.getElem?_cons_succ]
    exact maskO_own ⟨⟨t, by simpa using e, w⟩, by simpa using q⟩
open Classical in
/-- the heap but for nested own lists -/
noncomputable def hide (g : Sg) (σ : L2.St) (H : Hp) : Hp := fun x => if ∃ i, NOwn g σ H i x then none else H x
theorem hide_n {x : Addr} {i : Nat} (h : NOwn g σ H i x) : hide g σ H x = none := if_pos ⟨i, h⟩
theorem hide_of {x : Addr} (h : ∀ i, ¬ NOwn g σ H i x) : hide g σ H x = H x := if_neg fun ⟨i, z⟩ => h i z
theorem hide_some {x : Addr} {o : HO} (h : hide g σ H x = some o) : H x = some o ∧ ∀ i, ¬ NOwn g σ H i x := by
  by_cases c : ∃ i, NOwn g σ H i x
  · obtain ⟨i, c⟩ := c
    rw [hide_n c] at h; cases h
  · have c' : ∀ i, ¬ NOwn g σ H i x := fun i z => c ⟨i, z⟩
    rw [hide_of c'] at h
    exact ⟨h, c'⟩
theorem hide_none {x : Addr} (h : hide g σ H x = none) : H x = none ∨ ∃ i, NOwn g σ H i x := by
  by_cases c : ∃ i, NOwn g σ H i x
  · exact .inr c
  · rw [hide_of fun i z => c ⟨i, z⟩] at h
    exact .inl h
/-- all that stands now is the entry -/
noncomputable def rebase (b : B) (Fz : Fzn) (g : Sg) (σ : L2.St) (H : Hp) : B := ⟨b.M, hide g σ H, Fz, fun a => ∃ i, Own g σ i a, g.length, maskO g σ, none⟩
theorem BRel.rebase (r : BRel b Fz g σ H) : BRel (rebase b Fz g σ H) Fz g σ H where
  gr := ⟨r.gr.dom, fun _ h => h, fun _ h => .inl h, fun _ _ h _ => .of (hide_some h).1, (fun a ⟨i, h⟩ => by
    obtain ⟨s, u, _, nf, hu, _⟩ := r.there h
    exact ⟨⟨u, hu⟩, nf, u, (hide_of fun j z => (r.nst.free j a z).2.2 i h).trans hu⟩), r.gr.tb⟩
  rel := r.rel
  own := fun i a h => .inl ⟨by
    obtain ⟨⟨s, e, _⟩, _⟩ := h
    exact (List.getElem?_eq_some_iff.mp e).1, i, h⟩
  pin := fun i a _ h => maskO_own h
  px := fun _ _ h => nomatch h
  nst := r.nst.step rfl .refl (fun i dss h => ⟨h, rfl⟩) (fun _ _ _ => rfl) fun i x q => let ⟨k1, _, k3⟩ := r.nst.free i x q; ⟨k1, hide_n q, k3⟩
theorem BRel.debase (hx : b.px = none) (r : BRel b Fz g σ H) (r2 : BRel (DL.rebase b Fz g σ H) Fz' g' σ' H') (hl : g'.length = g.length) : BRel b Fz' g' σ' H' := by
  have own2 : ∀ {i a}, Own g' σ' i a → Own g σ i a := fun {i a} o => by
    obtain ⟨⟨s, e, w⟩, q⟩ := o
    have hi : i < g.length := by rw [← hl]; exact (List.getElem?_eq_some_iff.mp e).1
    have z := r2.pin i a hi ⟨⟨s, e, w⟩, q⟩
    exact maskO_get z
  have none0 : ∀ {a}, hide g σ H a = none → b.H0 a = none := fun {a} z => (hide_none z).elim r.new0 fun ⟨i, y⟩ => (r.nst.free i a y).2.1
  have some0 : ∀ {a o u}, b.H0 a = some o → H a = some u → hide g σ H a = some u := fun {a o u} h z => (hide_of fun i y => by
    have k := (r.nst.free i a y).2.1
    rw [h] at k; cases k).trans z
  refine ⟨⟨r2.gr.dom, fun a h => r2.gr.fz a (r.gr.fz a h), fun a h => ?_, fun a o h n => ?_, fun a h => ?_, r2.gr.tb⟩, r2.rel, fun i a o => r.own i a (own2 o), fun i a l o => r.pin i a l (own2 o), (fun i a h => by rw [hx] at h; cases h), r2.nst.step rfl .refl (fun i dss h => ⟨h, rfl⟩) (fun _ _ _ => rfl) fun i x q => let ⟨k1, k2, k3⟩ := r2.nst.free i x q; ⟨k1, none0 k2, k3⟩⟩
  · rcases r2.gr.new a h with z | z
    · exact r.gr.new a z
    · exact .inr (none0 z)
  · refine (r.gr.fr a o h n).to fun u hu _ => r2.gr.fr a u (some0 h hu) fun ⟨i, z⟩ => ?_
    rcases r.own i a z with ⟨_, y⟩ | ⟨_, y⟩
    · exact n y
    · rw [h] at y; cases y
  · obtain ⟨⟨o, z⟩, y⟩ := r.gr.oa a h
    refine ⟨?_, y⟩
    by_cases c : ∃ i, Own g σ i a
    · exact (r2.gr.oa a c).1
    · obtain ⟨_, _, o0, h0⟩ := r.gr.oa a h
      have k : hide g σ H a = some o := (hide_of fun i y => by
        have k := (r.nst.free i a y).2.1
        rw [h0] at k; cases k).trans z
      exact (r2.gr.fr a o k c).there
/-- a new object that no slot has is changed -/
theorem BRel.updNew (r : BRel b Fz g σ H) {p : Addr} {u u' : HO} (h0 : b.H0 p = none) (hf : ¬ Fz p) (hA : ∀ i, ¬ AOwn g σ H i p) (hu : H p = some u) (hm : Mut (some u)) (hnx : ¬ ((∃ ps, u = .tbl ps) ∨ ∃ x, u = .ext x) := by rintro (⟨_, z⟩ | ⟨_, z⟩) <;> cases z) : BRel b Fz g σ (upd H p u') ∧ Ext Fz H Fz (upd H p u') := by
  have ho : ∀ i, ¬ Own g σ i p := fun i z => hA i (.inl z)
  have ne : ∀ x o, H x = some o → (Fz x ∨ ¬ Mut (some o)) → upd H p u' x = some o := fun x o hx q => by
    rw [upd_ne]
    · exact hx
    · intro z
      subst z
      rcases q with q | q
      · exact hf q
      · rw [hu] at hx; cases hx; exact q hm
  have ex : Ext Fz H Fz (upd H p u') := ⟨fun _ q => q, fun x o hx q => .of (ne x o hx q)⟩
  have some' : ∀ x o, H x = some o → ∃ o', upd H p u' x = some o' := fun x o hx => by
    by_cases c : x = p
    · subst c; exact ⟨u', upd_same⟩
    · exact ⟨o, by rw [upd_ne c]; exact hx⟩
  refine ⟨⟨⟨fun a h => ?_, r.gr.fz, r.gr.new, fun a o h n => ?_, fun a h => ?_, tabs_upd r.gr.tb hu hnx⟩, ⟨r.rel.len, fun i s e => ?_, r.rel.apart⟩, r.own, r.pin, r.px, r.nst.step rfl ex (fun i dss h => ⟨h, rfl⟩) (r.nst.upd fun i z => hA i (.inr z)) r.nst.free⟩, ex⟩
  · obtain ⟨o, z⟩ := r.gr.dom a h
    exact some' a o z
  · have hap : a ≠ p := by intro z; subst z; rw [h0] at h; cases h
    exact (r.gr.fr a o h n).to fun u hu _ => .of (by rw [upd_ne hap]; exact hu)
  · obtain ⟨⟨o, z⟩, y⟩ := r.gr.oa a h
    exact ⟨some' a o z, y⟩
  · have z := r.slot e
    by_cases ht : s.isOw = true
    · obtain ⟨x, o, e3, n3, h3, w3⟩ := z.own ht
      have hx : x ≠ p := fun y => by subst y; exact ho i ⟨⟨s, e, ht⟩, e3⟩
      exact SlotOk.of_own e3 n3 (by rw [upd_ne hx]; exact h3) (w3.mono ex)
    · cases s with
      | un => trivial
      | on dss => trivial
      | v d => obtain ⟨x, e3, r3⟩ := z; exact ⟨x, e3, Rep.mono ex d x r3⟩
      | _ => exact absurd rfl ht
end

/-! ### the comprehension -/
def keep? {α : Type} (r : R α) (n : Nat) (k : α → Sg → R (List D)) : R (List D) := match r with
  | .ok a g => if g.length = n then k a g else .no
  | _ => .no
def lcL (t : Tgt) (c : FB) (e : FE) (vs : List Nat) : List D → List D → Sg → R (List D)
  | [], acc, g => .ok acc g
  | d :: ds, acc, g => match t d g with
    | none => .no
    | some g1 => keep? (c g1) g1.length fun k g2 => if k = true then keep? (e g2) g1.length fun y g3 => lcL t c e vs ds (acc ++ [y]) (wipeG g3 vs) else lcL t c e vs ds acc (wipeG g2 vs)
def lcF (fi : FI) (t : Tgt) (c : FB) (e : FE) (vs : List Nat) : FF := fun g => (fi g).bd fun items g1 => if items.length ≤ sizeLine then lcL t c e vs items [] (wipeG g1 vs) else .no
theorem nown_same {b : B} {Fz : Fzn} {g : Sg} {σ : L2.St} {H H' : Hp} (n : Nst b Fz g σ H) (hh : ∀ (i : Nat) (x : Addr), NOwn g σ H i x → H' x = H x) {i : Nat} {x : Addr} (h : NOwn g σ H' i x) : NOwn g σ H i x := by
  obtain ⟨dss, a, vs, h1, h2, h3, h4⟩ := h
  rw [hh i a (n.nown h1 h2)] at h3
  exact ⟨dss, a, vs, h1, h2, h3, h4⟩
theorem BRel.notA_grow {b : B} {Fz Fz' : Fzn} {g : Sg} {σ : L2.St} {H H' : Hp} (r : BRel b Fz g σ H) (e : GrowTo Fz H Fz' H') {p : Addr} (hA : ∀ i, ¬ AOwn g σ H i p) : ∀ i, ¬ AOwn g σ H' i p := fun i h => h.elim (fun z => hA i (.inl z)) fun z => hA i (.inr (nown_same r.nst (fun j x q => by
  obtain ⟨vs, hv⟩ := NOwn.there r.nst q
  rw [hv]; exact e.st _ _ hv) z))
theorem BRel.notA_upd {b : B} {Fz : Fzn} {g : Sg} {σ : L2.St} {H : Hp} (r : BRel b Fz g σ H) {p : Addr} {u : HO} (hA : ∀ i, ¬ AOwn g σ H i p) : ∀ i, ¬ AOwn g σ (upd H p u) i p := fun i h => h.elim (fun z => hA i (.inl z)) fun z => hA i (.inr (nown_same r.nst (r.nst.upd fun j q => hA j (.inr q)) z))
def yesB : FB := fun g => .ok true g
section
variable {X : Cx} {b : B} {W : WX} {elt tg iter : Expr} {ifs : List Expr} {scope : Scope} {own : List (Str × Nat)} {pos : Pos} {fi : FI} {t : Tgt} {fc : FB} {fe : FE} {ta : List Nat}
abbrev W0 : WX := fun _ _ _ _ => False
theorem pts_nilD {X : Cx} {b : B} {W : WX} : PTs X [] (tBo b W yesB) := ⟨fun pins s σ H Q I ⟨Fz, g, r, h⟩ => pts_nil.run pins s σ H Q I (h true H Fz r .refl rfl)⟩
theorem pts_oneD {X : Cx} {b : B} {W : WX} {c : Expr} {fb : FB} (h : PT X c (tBo b W fb)) : PTs X [c] (tBo b W fb) := pts_one h
theorem fr_len {b : B} {Fz Fz2 : Fzn} {g g2 : Sg} {σ : L2.St} {H H2 : Hp} (r : BRel b Fz g σ H) (r2 : BRel b Fz2 g2 σ H2) : g2.length = g.length := by rw [r2.rel.len, r.rel.len]
theorem lc_run (hx : b.px = none) {σ : L2.St} {H : Hp} {Q : VK} {vs : List Nat} (hta : ∀ i ∈ ta, i ∈ vs) (h : tFr b W (lcF fi t fc fe vs) σ H Q) :
    tLc (tI b W fi) (fun v σ' H' Q' => ∃ b', (b'.M = b.M ∧ b'.px = none) ∧ gD b' ta t v σ' H' Q') (fun σ' H' Q' => ∃ b', (b'.M = b.M ∧ b'.px = none) ∧ tBo b' W0 fc σ' H' Q') (fun σ' H' Q' => ∃ b', (b'.M = b.M ∧ b'.px = none) ∧ tE b' W0 fe σ' H' Q') vs σ H Q := by
  obtain ⟨Fz, g, r, h⟩ := h
  refine tG_seq r h fun items J g1 Fz1 H1 r1 e1 src h1 => ?_
  have src' : SrcOk b J Fz1 H1 items := src
  by_cases hlen : items.length ≤ sizeLine
  rotate_left
  · rw [if_neg hlen] at h1; exact h1.elim
  rw [if_pos hlen] at h1
  intro D hD
  have hD0 := r1.new0 hD
  have rA : BRel b Fz1 (DL.wipeG g1 vs) (wipe σ vs) (upd H1 D (.lst [])) := (r1.alloc hD).wipe hx vs
  have nO : ∀ {g : Sg} {σ' : L2.St}, (∀ i a, Own g σ' i a → ∃ u, H1 a = some u) → ∀ i, ¬ Own g σ' i D := fun k i o => by
    obtain ⟨u, hu⟩ := k i D o
    rw [hD] at hu; cases hu
  have rA0 : ∀ i, ¬ AOwn (DL.wipeG g1 vs) (wipe σ vs) (upd H1 D (.lst [])) i D := (r1.wipe hx vs).notAu hD
  refine ⟨fun k m H' => m = items.length - k ∧ k ≤ items.length ∧ ∃ Fz' g' acc av, BRel b Fz' g' (wipe σ vs) H' ∧ DL.wipeG g' vs = g' ∧ Ext Fz1 H1 Fz' H' ∧ ¬ Fz' D ∧ H' D = some (.lst av) ∧ (∀ i, ¬ AOwn g' (wipe σ vs) H' i D) ∧ RepL b.M Fz' H' acc av ∧ acc.length ≤ k ∧
    Po b W (bF b) σ Fz' H' (fun x _ _ H' _ => Q x H') (lcL t fc fe vs (items.drop k) acc g'), ⟨_, rfl, Nat.zero_le _, Fz1, _, [], [], rA, ?_, (GrowTo.alloc hD).ext, r1.notFz hD, upd_same, rA0, RepL.nil, Nat.zero_le _, by rw [List.drop_zero]; exact h1.weak (GrowTo.alloc hD).ext⟩, ?_⟩
  · have ww : ∀ (vs : List Nat) (g : Sg), (∀ i ∈ vs, ∀ s, g[i]? = some s → s = .un) → DL.wipeG g vs = g := fun vs => by
      induction vs with
      | nil => intro g _; rfl
      | cons v vs ih =>
        intro g hg
        unfold DL.wipeG
        rw [ih g fun i hi => hg i (List.mem_cons_of_mem _ hi)]
        apply List.ext_getElem?
        intro i
        by_cases c : v = i
        · subst c
          by_cases l : v < g.length
          · rw [List.getElem?_set_self l]
            have := hg v List.mem_cons_self g[v] (by simp [l])
            simp [l, this]
          · rw [List.getElem?_eq_none (by rw [List.length_set]; omega), List.getElem?_eq_none (by omega)]
        · rw [List.getElem?_set_ne c]
    refine ww vs _ fun i hi s hs => ?_
    refine Classical.byContradiction fun n => ?_
    exact wipeG_get hs n hi
  rintro k m H2 ⟨rfl, hk, Fz2, g2, acc, av, r2, w2, e2, nf2, hD2, no2, rep2, hacc, h2⟩
  obtain ⟨go, stop⟩ := src' Fz2 H2 e2 r2.gr.dom
  by_cases hlt : k < items.length
  · refine .inr ?_
    have hd : items[k]? = some items[k] := by simp [hlt]
    obtain ⟨g0, yl⟩ := go k _ hd
    rw [List.drop_eq_getElem_cons hlt] at h2
    generalize hdk : items[k] = d at h2 hd yl
    refine ⟨g0, fun H' => ∃ Fz' g' acc av, BRel b Fz' g' (wipe σ vs) H' ∧ DL.wipeG g' vs = g' ∧ Ext Fz1 H1 Fz' H' ∧ ¬ Fz' D ∧ H' D = some (.lst av) ∧ (∀ i, ¬ AOwn g' (wipe σ vs) H' i D) ∧ RepL b.M Fz' H' acc av ∧ acc.length ≤ k + 1 ∧
      Po b W (bF b) σ Fz' H' (fun x _ _ H' _ => Q x H') (lcL t fc fe vs (items.drop (k + 1)) acc g'), fun H' q => ⟨_, by omega, rfl, hlt, q⟩, fun x H' y => ?_⟩
    obtain ⟨Fz3, gt, repd⟩ := yl x H' y
    have r3 := r2.grow gt
    have nf3 : ¬ Fz3 D := fun z => by
      rcases gt.new D z with z | ⟨z, _⟩
      · exact nf2 z
      · rw [hD2] at z; cases z
    have hD3 : H' D = some (.lst av) := gt.st _ _ hD2
    unfold lcL at h2
    cases ht : t d g2 with
    | none => rw [ht] at h2; exact h2.elim
    | some g3 =>
      rw [ht] at h2
      simp only at h2
      refine ⟨DL.rebase b Fz3 g2 (wipe σ vs) H', ⟨rfl, rfl⟩, Fz3, g2, d, g3, r3.rebase, repd, ht, fun σ4 r4 h4 hl => ⟨(wipe_eq hl fun i hi => h4 i fun z => hi (hta i z)).trans wipe_wipe, ?_⟩⟩
      -- the base of this turn
      generalize hb' : DL.rebase b Fz3 g2 (wipe σ vs) H' = b' at r4
      have hM' : b'.M = b.M := by rw [← hb']; rfl
      have hpx' : b'.px = none := by rw [← hb']; rfl
      have hH0 : b'.H0 = hide g2 (wipe σ vs) H' := by rw [← hb']; rfl
      have no3 := r2.notA_grow gt no2
      have hD4 : hide g2 (wipe σ vs) H' D = some (.lst av) := (hide_of fun i z => no3 i (.inr z)).trans hD3
      have hOA : ∀ a, b'.OA a → ∃ i, Own g2 (wipe σ vs) i a := fun a z => by rw [← hb'] at z; exact z
      have hnOA : ¬ b'.OA D := fun z => by obtain ⟨i, z⟩ := hOA D z; exact no2 i (.inl z)
      have hnp : b'.np = g2.length := by rw [← hb']; rfl
      have lg3 : g3.length = g2.length := by rw [r4.rel.len, hl, r3.rel.len]
      have back : ∀ {Fz' : Fzn} {g' : Sg} {H'' : Hp}, BRel b' Fz' g' σ4 H'' → BRel b Fz' (DL.wipeG g' vs) (wipe σ vs) H'' ∧ H'' D = some (.lst av) ∧ ¬ Fz' D ∧ ∀ i, ¬ AOwn (DL.wipeG g' vs) (wipe σ vs) H'' i D := fun {Fz' g' H''} br => by
        have lg' : g'.length = g2.length := (fr_len r4 br).trans lg3
        have rb := br
        rw [← hb'] at rb
        have rb2 := r3.debase hx rb lg'
        have kD : H'' D = some (.lst av) := br.gr.fr D (.lst av) (by rw [hH0]; exact hD4) hnOA
        have nfD : ¬ Fz' D := fun z => by
          rcases br.gr.new D z with z | z
          · have : Fz3 D := by rw [← hb'] at z; exact z
            exact nf3 this
          · rw [hH0, hD4] at z; cases z
        have bw : BRel b Fz' (DL.wipeG g' vs) (wipe σ vs) H'' := (rb2.wipeG vs).unwipe hx (hl.trans rfl) fun i hi => h4 i fun z => hi (hta i z)
        refine ⟨bw, kD, nfD, fun i o => ?_⟩
        -- an own slot of g' is an argument of the base
        have key : ∀ (vs : List Nat), i ∉ vs → (DL.wipeG g' vs)[i]? = g'[i]? := fun vs => by
          induction vs with
          | nil => intro _; rfl
          | cons v vs ih =>
            intro h
            rw [List.mem_cons, not_or] at h
            unfold DL.wipeG
            rw [List.getElem?_set_ne (fun z => h.1 z.symm)]
            exact ih h.2
        rcases o with o | o
        rotate_left
        · obtain ⟨dss, a, ws, h1, h2, h3⟩ := o
          have ni : i ∉ vs := wipeG_get h1 fun z => by cases z
          rw [key vs ni] at h1
          have q' : σ4[i]? = some (some (V.ref a)) := by rw [h4 i fun z => ni (hta i z)]; exact h2
          have k := (br.nst.free i D ⟨dss, a, ws, h1, q', h3⟩).2.1
          rw [hH0, hD4] at k; cases k
        obtain ⟨⟨s, e, w⟩, q⟩ := o
        have ni : i ∉ vs := wipeG_get e fun z => by rw [z] at w; cases w
        have e' : g'[i]? = some s := by rw [← key vs ni]; exact e
        have q' : σ4[i]? = some (some (V.ref D)) := by rw [h4 i fun z => ni (hta i z)]; exact q
        have hi : i < b'.np := by rw [hnp, ← lg']; exact (List.getElem?_eq_some_iff.mp e').1
        rcases br.own i D ⟨⟨s, e', w⟩, q'⟩ with ⟨_, z⟩ | ⟨z, _⟩
        · exact hnOA z
        · omega
      have wipe2 : ∀ g' : Sg, DL.wipeG (DL.wipeG g' vs) vs = DL.wipeG g' vs := fun g' => by
        have ww : ∀ (us : List Nat) (g : Sg), (∀ i ∈ us, ∀ s, g[i]? = some s → s = .un) → DL.wipeG g us = g := fun us => by
          induction us with
          | nil => intro g _; rfl
          | cons v us ih =>
            intro g hg
            unfold DL.wipeG
            rw [ih g fun i hi => hg i (List.mem_cons_of_mem _ hi)]
            apply List.ext_getElem?
            intro i
            by_cases c : v = i
            · subst c
              by_cases l : v < g.length
              · rw [List.getElem?_set_self l]
                have := hg v List.mem_cons_self g[v] (by simp [l])
                simp [l, this]
              · rw [List.getElem?_eq_none (by rw [List.length_set]; omega), List.getElem?_eq_none (by omega)]
            · rw [List.getElem?_set_ne c]
        exact ww vs _ fun i hi s hs => Classical.byContradiction fun n => wipeG_get hs n hi
      refine ⟨b', ⟨hM', hpx'⟩, Fz3, g3, r4, ?_⟩
      unfold keep? at h2
      cases hc : fc g3 with
      | no => rw [hc] at h2; exact h2.elim
      | ex ee g4 => rw [hc] at h2; exact h2.elim
      | ok kk g4 =>
        rw [hc] at h2
        simp only at h2
        split at h2
        rotate_left
        · exact h2.elim
        rename_i lg4
        intro kx H4 Fz4 r5 e5 hkx
        have hkx' : kx = kk := hkx
        subst hkx'
        cases kx with
        | false =>
          simp only [Bool.false_eq_true, if_false] at h2 ⊢
          obtain ⟨b1, b2, b3, b4⟩ := back r5
          exact ⟨Fz4, _, acc, av, b1, wipe2 _, e2.trans (gt.ext.trans e5), b3, b2, b4, RepL.mono (gt.ext.trans e5) _ _ rep2, by omega, h2.weak (gt.ext.trans e5)⟩
        | true =>
          simp only [if_true] at h2 ⊢
          refine ⟨b', ⟨hM', hpx'⟩, Fz4, g4, r5, ?_⟩
          cases he : fe g4 with
          | no => rw [he] at h2; exact h2.elim
          | ex ee g5 => rw [he] at h2; exact h2.elim
          | ok yd g5 =>
            rw [he] at h2
            simp only at h2
            split at h2
            rotate_left
            · exact h2.elim
            intro yv H5 Fz5 r6 e6 repy
            have repy' : Rep b.M Fz5 H5 yd yv := by rw [← hM']; exact repy
            obtain ⟨b1, b2, b3, b4⟩ := back r6
            have exA : Ext Fz2 H2 Fz5 H5 := gt.ext.trans (e5.trans e6)
            obtain ⟨b5, b6⟩ := b1.updNew (u' := .lst (av ++ [yv])) hD0 b3 b4 b2 trivial
            have lav : acc.length = av.length := RepL.length rep2
            refine ⟨av, b2, by omega, Fz5, _, acc ++ [yd], av ++ [yv], b5, wipe2 _, e2.trans (exA.trans b6), b3, upd_same, b1.notA_upd b4, RepL.append (RepL.mono (exA.trans b6) _ _ rep2) (RepL.cons (Rep.mono b6 _ _ repy') RepL.nil), by simp; omega, h2.weak (exA.trans b6)⟩
  · have e : k = items.length := by omega
    subst e
    rw [List.drop_length] at h2
    refine .inl ⟨stop, ?_⟩
    have r5 : BRel b Fz2 g2 σ H2 := by
      have z := r2
      rw [← w2] at z ⊢
      exact z.unwipe hx (wipe_length ..) fun i hi => wipe_out hi
    refine h2.ok r5 .refl ⟨D, av, rfl, hD0, nf2, hD2, fun i o => ?_, rep2⟩
    rcases o with o | o
    rotate_left
    · obtain ⟨dss, a, ws, h1, h2, h3⟩ := o
      have ni : i ∉ vs := wipeG_get (g := g2) (by rw [w2]; exact h1) fun z => by cases z
      exact no2 i (.inr ⟨dss, a, ws, h1, by rw [wipe_out ni]; exact h2, h3⟩)
    obtain ⟨⟨s, e, w⟩, q⟩ := o
    refine no2 i (.inl ⟨⟨s, e, w⟩, ?_⟩)
    rw [wipe_out]
    · exact q
    · rw [← w2] at e
      exact wipeG_get e fun z => by rw [z] at w; cases w
theorem pf_lc {vs : List Nat} (hx : b.px = none) (hc : X.calm = true) (hN : X.N.Nodup) (hi : PI X tg iter (tI b W fi)) (ok : BlkOk X.N X.env.scope scope own) (hvs : own.map (·.2) = vs) (hta : ∀ i ∈ ta, i ∈ vs)
    (hg : ∀ (s : Shared) (H : Hp) (C : Addr) (cl : List (Str × Addr)) (fp : List Addr) (b' : B), b'.M = b.M → b'.px = none → PG (X.blk s H scope (compEnvC scope cl C X.env) fp) tg (gD b' ta t))
    (ht : ∀ (s : Shared) (H : Hp) (C : Addr) (cl : List (Str × Addr)) (fp : List Addr) (b' : B), b'.M = b.M → b'.px = none → PTs (X.blk s H scope (compEnvC scope cl C X.env) fp) ifs (tBo b' W0 fc))
    (he : ∀ (s : Shared) (H : Hp) (C : Addr) (cl : List (Str × Addr)) (fp : List Addr) (b' : B), b'.M = b.M → b'.px = none → PE (X.blk s H scope (compEnvC scope cl C X.env) fp) elt (tE b' W0 fe)) (hs : ∀ x, foldedSetIterable iter X.env x = pure x := by intro _; rfl) :
    PE X (.ListComp elt [⟨tg, iter, ifs, 0⟩] scope pos) (tFr b W (lcF fi t fc fe vs)) :=
  pe_mono (pe_lc (g := fun v σ' H' Q' => ∃ b', (b'.M = b.M ∧ b'.px = none) ∧ gD b' ta t v σ' H' Q') (tt := fun σ' H' Q' => ∃ b', (b'.M = b.M ∧ b'.px = none) ∧ tBo b' W0 fc σ' H' Q') (te := fun σ' H' Q' => ∃ b', (b'.M = b.M ∧ b'.px = none) ∧ tE b' W0 fe σ' H' Q') hc hN hi ok (fun s H C cl fp => ⟨fun pins s' σ H' v u Q I r ⟨b', hb, hw⟩ => (hg s H C cl fp b' hb.1 hb.2).run pins s' σ H' v u Q I r hw⟩) (fun s H C cl fp => ⟨fun pins s' σ H' Q I ⟨b', hb, hw⟩ => (ht s H C cl fp b' hb.1 hb.2).run pins s' σ H' Q I hw⟩)
    (fun s H C cl fp => ⟨fun pins s' σ H' Q I ⟨b', hb, hw⟩ => (he s H C cl fp b' hb.1 hb.2).run pins s' σ H' Q I hw⟩) hs) fun σ H Q h => by
    subst hvs
    exact lc_run hx hta h
/-- name = [..] on one line -/
theorem pts_asgLc {vs : List Nat} {i : Nat} {y : Str} {py spos : Pos} (hx : b.px = none) (hnp : b.np ≤ i) (hc : X.calm = true) (hN : X.N.Nodup) (hy : X.N[i]? = some y) (hyl : X.env.scope.names.lookup y = some .local)
    (hsw : swapsWith (.ListComp elt [⟨tg, iter, ifs, 0⟩] scope pos) (some (.Name y py)) spos.line X.env = pure true) (hi : PI X tg iter (tI b W fi)) (ok : BlkOk X.N X.env.scope scope own) (hvs : own.map (·.2) = vs) (hta : ∀ i ∈ ta, i ∈ vs)
    (hg : ∀ (s : Shared) (H : Hp) (C : Addr) (cl : List (Str × Addr)) (fp : List Addr) (b' : B), b'.M = b.M → b'.px = none → PG (X.blk s H scope (compEnvC scope cl C X.env) fp) tg (gD b' ta t))
    (ht : ∀ (s : Shared) (H : Hp) (C : Addr) (cl : List (Str × Addr)) (fp : List Addr) (b' : B), b'.M = b.M → b'.px = none → PTs (X.blk s H scope (compEnvC scope cl C X.env) fp) ifs (tBo b' W0 fc))
    (he : ∀ (s : Shared) (H : Hp) (C : Addr) (cl : List (Str × Addr)) (fp : List Addr) (b' : B), b'.M = b.M → b'.px = none → PE (X.blk s H scope (compEnvC scope cl C X.env) fp) elt (tE b' W0 fe)) (hs : ∀ x, foldedSetIterable iter X.env x = pure x := by intro _; rfl) :
    PS X (.Assign [.Name y py] (.ListComp elt [⟨tg, iter, ifs, 0⟩] scope pos) spos) (tSt b W [i] (asgO i (lcF fi t fc fe vs))) :=
  ps_mono (ps_setLc (g := fun v σ' H' Q' => ∃ b', (b'.M = b.M ∧ b'.px = none) ∧ gD b' ta t v σ' H' Q') (tt := fun σ' H' Q' => ∃ b', (b'.M = b.M ∧ b'.px = none) ∧ tBo b' W0 fc σ' H' Q') (te := fun σ' H' Q' => ∃ b', (b'.M = b.M ∧ b'.px = none) ∧ tE b' W0 fe σ' H' Q') hc hN hy hyl hsw hi ok (fun s H C cl fp => ⟨fun pins s' σ H' v u Q I r ⟨b', hb, hw⟩ => (hg s H C cl fp b' hb.1 hb.2).run pins s' σ H' v u Q I r hw⟩) (fun s H C cl fp => ⟨fun pins s' σ H' Q I ⟨b', hb, hw⟩ => (ht s H C cl fp b' hb.1 hb.2).run pins s' σ H' Q I hw⟩)
    (fun s H C cl fp => ⟨fun pins s' σ H' Q I ⟨b', hb, hw⟩ => (he s H C cl fp b' hb.1 hb.2).run pins s' σ H' Q I hw⟩) hs) fun D σ H ⟨Fz, g, r, h⟩ => by
    subst hvs
    refine lc_run hx hta (tG_st r h fun d x' g1 Fz1 H1 r1 _ rep h1 => ?_)
    obtain ⟨p, vs, rfl, h0, nf, hu, ho, rr⟩ := rep
    exact h1 _ H1 Fz1 (r1.setO (PxOk.of hx i) hnp h0 nf hu ho ⟨vs, rfl, rr⟩) .set
end
end DL

set_option Elab.async false
set_option linter.all false
set_option maxRecDepth 100000
set_option maxHeartbeats 4000000
/-! Den9: chains, slices, constants of the module, own lists changed, calls with keywords or without arguments. -/
namespace DL
open PySem L2 PySem.Spec PyProof.Rows

section
variable {X : Cx} {b : B} {W : WX} {e e1 e2 e3 : Expr} {es : List Expr} {f f1 f2 f3 fi fv : FE} {pos p : Pos}
/-! ### chains -/
theorem tE_chain {r r' : R2} {o o' : D → D → Option D} (ho : OpT b.M r o) (ho' : OpT b.M r' o') {σ : L2.St} {H : Hp} {Q : VK} (h : tE b W (chF o o' f1 f2 f3) σ H Q) : tChain r r' (tE b W f1) (tE b W f2) (tE b W f3) σ H Q := by
  obtain ⟨Fz, g, r0, h⟩ := h
  refine tG_seq r0 h fun d x g1 Fz1 H1 r1 e1 rep1 h1 => ?_
  refine tG_seq r1 h1 fun e y g2 Fz2 H2 r2 e2 rep2 h2 => ?_
  cases hz : o d e with
  | none => rw [hz] at h2; exact h2.elim
  | some z =>
    rw [hz] at h2
    simp only [opt_some, R.bd_ok] at h2
    refine ho r2.gr.dom (Rep.mono e2 d x rep1).t rep2.t hz fun v Fz' H' gr rv => ?_
    cases z with
    | bl c =>
      refine ⟨c, rep_bl' rv, ?_⟩
      cases c with
      | false =>
        simp only [Bool.false_eq_true, if_false] at h2 ⊢
        exact h2.ok (r2.grow gr) gr.ext rep_bl
      | true =>
        simp only [if_true] at h2 ⊢
        refine tG_seq (r2.grow gr) (h2.weak gr.ext) fun k w g4 Fz4 H4 r4 e4 rep4 h4 => ?_
        obtain ⟨z', ez, h5⟩ := h4.opt
        exact ho' r4.gr.dom (Rep.mono (gr.ext.trans e4) e y rep2).t rep4.t ez fun v Fz' H' gr rv => h5.ok (r4.grow gr) gr.ext rv
    | _ => exact h2.elim
theorem pd_chain {op op' : CmpOp} {r r' : R2} {o o' : D → D → Option D} (hr : OpR X (compareOp op) r) (hr' : OpR X (compareOp op') r') (ho : OpT b.M r o) (ho' : OpT b.M r' o') (h1 : PE X e1 (tE b W f1)) (h2 : PE X e2 (tE b W f2)) (h3 : PE X e3 (tE b W f3))
    (hm : lastMarks [op, op'] [e2, e3] = false := by with_unfolding_all rfl) : PE X (.Compare e1 [op, op'] [e2, e3] pos) (tE b W (chF o o' f1 f2 f3)) :=
  pe_mono (pe_chain hr hr' h1 h2 h3 hm) fun _ _ _ h => tE_chain ho ho' h
theorem pt_chainD {op op' : CmpOp} {r r' : R2} {o o' : D → D → Option D} (hr : OpR X (compareOp op) r) (hr' : OpR X (compareOp op') r') (ho : OpT b.M r o) (ho' : OpT b.M r' o') (h1 : PE X e1 (tE b W f1)) (h2 : PE X e2 (tE b W f2)) (h3 : PE X e3 (tE b W f3))
    (hm : lastMarks [op, op'] [e2, e3] = false := by with_unfolding_all rfl) : PT X (.Compare e1 [op, op'] [e2, e3] pos) (tBo b W (tstF (chF o o' f1 f2 f3))) :=
  pt_mono (pt_chain hr hr' h1 h2 h3 hm) fun σ H Q q => by
    obtain ⟨Fz, g, r0, h⟩ := q
    have z : tE b W (chF o o' f1 f2 f3) σ H (fun x H' => ∃ k, x = V.bl k ∧ Q k H') := tG_seq r0 h fun d x g1 Fz1 H1 r1 e1 rep1 h1 => by
      cases d with
      | bl c =>
        have rep' : x = .bl c := rep_bl' rep1
        exact ⟨c, rep', h1.ok r1 .refl rfl⟩
      | _ => exact h1.elim
    exact tE_chain ho ho' z

/-! ### slices -/
def partF (f : FE) : Sg → R (Option Int) := fun g => (f g).bd fun d g1 => match d with
  | .int i => .ok (some i) g1
  | _ => .no
def noPart : Sg → R (Option Int) := fun g => .ok none g
def bO : Bear (Option Int) (Option Int) := fun _ _ _ _ c x => x = c
variable (b W) in
abbrev tO (f : Sg → R (Option Int)) : TO := tG b W bO f
theorem po_mono {e : Option Expr} {t t' : TO} (h : PO X e t) (i : ∀ σ H Q, t' σ H Q → t σ H Q) : PO X e t' := ⟨fun pins s σ H Q I hw => h.run pins s σ H Q I (i _ _ _ hw)⟩
theorem pod_none : PO X none (tO b W noPart) := po_mono po_none fun σ H Q ⟨Fz, g, r, h⟩ => h none H Fz r .refl rfl
theorem pod_some (h : PE X e (tE b W f)) : PO X (some e) (tO b W (partF f)) := po_mono (po_some h) fun σ H Q ⟨Fz, g, r, q⟩ => tG_seq r q fun d x g1 Fz1 H1 r1 e1 rep h1 => by
  cases d with
  | int i => exact ⟨i, rep_int' rep, h1.ok r1 .refl rfl⟩
  | _ => exact h1.elim
def cut (xs : List D) (lo hi : Option Int) : List D := (xs.drop (HT.sIx xs.length 0 lo)).take (HT.sIx xs.length xs.length hi - HT.sIx xs.length 0 lo)
theorem cut_rep {M : MM} {Fz : Fzn} {H : Hp} {ds : List D} {vs : List V} (r : RepL M Fz H ds vs) (lo hi : Option Int) : RepL M Fz H (cut ds lo hi) (cutV vs lo hi) := by
  unfold cut cutV
  rw [RepL.length r]
  exact (r.drop _).take _
/-- a list's slice, new -/
def slcF (fa : Sg → R AV) (lo hi : Sg → R (Option Int)) : FF := fun g => (fa g).bd fun a g1 => (lo g1).bd fun l g2 => (hi g2).bd fun u g3 => match res g3 a with
  | some (.lst ds) => .ok (cut ds l u) g3
  | _ => .no
theorem pf_slc {fa : Sg → R AV} {lo hi : Option Expr} {fl fh : Sg → R (Option Int)} {p2 : Pos} (hM : b.M = ⟨X.K, X.mg, Tb⟩) (h : PE X e (tA1 b W fa)) (hl : PO X lo (tO b W fl)) (hh : PO X hi (tO b W fh)) : PE X (.Subscript e (.Slice lo hi none p2) pos) (tFr b W (slcF fa fl fh)) :=
  pe_mono (pe_slice sl_list h hl hh) fun σ H Q ⟨Fz, g, r, q⟩ => by
    refine tG_seq r q fun a x g1 Fz1 H1 r1 e1 rep1 h1 => ?_
    refine tG_seq r1 h1 fun l l' g2 Fz2 H2 r2 e2 rep2 h2 => ?_
    refine tG_seq r2 h2 fun u u' g3 Fz3 H3 r3 e3 rep3 h3 => ?_
    have el : l' = l := rep2
    have eu : u' = u := rep3
    subst el; subst eu
    cases hr : res g3 a with
    | none => rw [hr] at h3; exact h3.elim
    | some d =>
      rw [hr] at h3
      cases d with
      | lst ds =>
        have av : AVOk b σ Fz3 H3 g3 a x := rep1.mono (e2.trans e3) (resI_ok (res_I hr))
        obtain ⟨ad, vs, rfl, hq, rr⟩ := res_ok r3 av hr
        rw [hM] at hq
        refine ⟨ad, vs, rfl, hq, fun p hp => ?_⟩
        have gr : GrowTo Fz3 H3 Fz3 (upd H3 p (.lst (cutV vs l' u'))) := .alloc hp
        refine h3.ok (r3.grow gr) gr.ext ⟨p, _, rfl, r3.new0 hp, r3.notFz hp, upd_same, fun i o => ?_, cut_rep (rr.grow gr) _ _⟩
        exact (r3.notAu hp) i o
      | _ => exact h3.elim
/-- a tuple's slice, not the whole -/
def sltF (f : FE) (lo hi : Sg → R (Option Int)) : FE := fun g => (f g).bd fun a g1 => (lo g1).bd fun l g2 => (hi g2).bd fun u g3 => match a with
  | .tup ds => if HT.sIx ds.length 0 l = 0 ∧ HT.sIx ds.length ds.length u = ds.length then .no else .ok (.tup (cut ds l u)) g3
  | _ => .no
theorem pd_slt {lo hi : Option Expr} {fl fh : Sg → R (Option Int)} {p2 : Pos} (hM : b.M = ⟨X.K, X.mg, Tb⟩) (h : PE X e (tE b W f)) (hl : PO X lo (tO b W fl)) (hh : PO X hi (tO b W fh)) : PE X (.Subscript e (.Slice lo hi none p2) pos) (tE b W (sltF f fl fh)) :=
  pe_mono (pe_slice sl_tup h hl hh) fun σ H Q ⟨Fz, g, r, q⟩ => by
    refine tG_seq r q fun a x g1 Fz1 H1 r1 e1 rep1 h1 => ?_
    refine tG_seq r1 h1 fun l l' g2 Fz2 H2 r2 e2 rep2 h2 => ?_
    refine tG_seq r2 h2 fun u u' g3 Fz3 H3 r3 e3 rep3 h3 => ?_
    have el : l' = l := rep2
    have eu : u' = u := rep3
    subst el; subst eu
    cases a with
    | tup ds =>
      simp only at h3
      by_cases c : HT.sIx ds.length 0 l' = 0 ∧ HT.sIx ds.length ds.length u' = ds.length
      · rw [if_pos c] at h3; exact h3.elim
      rw [if_neg c] at h3
      have rep' : Rep b.M Fz1 H1 (.tup ds) x := rep1
      unfold Rep at rep'
      obtain ⟨ad, vs, rfl, hq, rr⟩ := rep'
      rw [hM] at hq
      have hq3 := (e2.trans e3).sqT hq
      rw [RepL.length rr] at c
      refine ⟨ad, vs, rfl, hq3, c, fun p hp => ?_⟩
      have gr : GrowTo Fz3 H3 Fz3 (upd H3 p (.tup (cutV vs l' u'))) := .alloc hp
      exact h3.ok (r3.grow gr) gr.ext (rep_tupN (cut_rep (RepL.mono ((e2.trans e3).trans gr.ext) _ _ rr) _ _) .refl upd_same)
    | _ => exact h3.elim

/-! ### constants of the module -/
theorem pd_glob {x : Str} {u : Value} {v : V} {d : D} (hg : Gl X x) (hm : X.mg x = some u) (r : RelV v u) (hr : ∀ Fz H, Rep b.M Fz H d v) (hd : (x == ("__debug__" : Str)) = false := by decide) : PE X (.Name x pos) (tE b W (cF d)) := pd_c (pe_glob hg hm r hd) hr
/-- a tuple of the module -/
theorem rep_ktup {M : MM} {a : Addr} {od : Option Addr} {its : Array Value} {n : Nat} {sl : Array (Option Value)} {ds : List D} {vs : List V} (h : M.K.lookup a = some ⟨.type "tuple", od, .seq its n, sl⟩) (hz : its.size ≤ sizeLine) (rv : Vals vs its.toList) (r : ∀ Fz H, RepL M Fz H ds vs) (Fz : Fzn) (H : Hp) : Rep M Fz H (.tup ds) (.ref a) := by
  unfold Rep
  exact ⟨a, vs, rfl, .inr ⟨_, its, n, h, rfl, rfl, hz, rv⟩, r Fz H⟩

/-! ### own lists -/
/-- xs[i] = v -/
def setS (i : Nat) (fi fv : FE) : FS := fun g => (fv g).sb fun d g1 => match gat g1 i with
  | .ow _ => (fi g1).sb fun k g2 => match k, gat g2 i with
    | .int k, .ow ds => match ixN ds.length k with
      | some j => .nx (g2.set i (.ow (ds.set j d)))
      | none => .no
    | _, _ => .no
  | _ => .no
theorem own_of {σ : L2.St} {Fz : Fzn} {H : Hp} {g : Sg} {i : Nat} {ds : List D} (r : BRel b Fz g σ H) (hg : gat g i = .ow ds) : ∃ a vs, σ[i]? = some (some (.ref a)) ∧ Own g σ i a ∧ ¬ Fz a ∧ H a = some (.lst vs) ∧ RepL b.M Fz H ds vs := by
  have hgi := gat_get hg (by intro z; cases z)
  obtain ⟨a, u, e1, nf, hu, vs, eu, rep⟩ := r.slot hgi
  subst eu
  exact ⟨a, vs, e1, ⟨⟨_, hgi, rfl⟩, e1⟩, nf, hu, rep⟩
theorem BRel.mutL {σ : L2.St} {Fz : Fzn} {H : Hp} {g : Sg} {i : Nat} {a : Addr} {ds : List D} {vs : List V} (r : BRel b Fz g σ H) (o : Own g σ i a) (rr : RepL b.M Fz H ds vs) (nf : ¬ Fz a) (hu : ∃ ws, H a = some (.lst ws)) :
    BRel b Fz (g.set i (.ow ds)) σ (upd H a (.lst vs)) ∧ Ext Fz H Fz (upd H a (.lst vs)) := by
  refine ⟨r.mut o ⟨vs, rfl, rr⟩, fun _ q => q, fun x o hx q => ?_⟩
  refine .of ?_
  rw [upd_ne]
  · exact hx
  · intro z
    subst z
    obtain ⟨ws, hw⟩ := hu
    rcases q with q | q
    · exact nf q
    · rw [hw] at hx; cases hx; exact q trivial
theorem pts_set {i : Nat} {o : Expr} {spos : Pos} (ho : PE X o (tVar i)) (h1 : PE X e1 (tE b W fi)) (h2 : PE X e2 (tE b W fv))
    (ha : ∀ v, assign (.Subscript o e1 pos) X.env v = (do
      let ov ← holding [v] (eval o X.env)
      let iv ← holding [v, ov] (eval e1 X.env)
      standAt pos
      holding [v, ov, iv] (setItem ov iv v)
      release [v, ov, iv] []) := by intro _; rfl) (hs : swapsWithSole [.Subscript o e1 pos] e2 spos.line X.env = pure false := by rfl) (hw : swappedStores [.Subscript o e1 pos] e2 X.env = pure none := by rfl)
    (h3 : (assignEach [.Subscript o e1 pos] X.env).map (·.2) = [assign (.Subscript o e1 pos) X.env] := by rfl) : PS X (.Assign [.Subscript o e1 pos] e2 spos) (tSt b W [] (setS i fi fv)) :=
  ps_mono (ps_asg h2 (pg_sub ho h1 set_list ha) hs hw h3) fun D σ H ⟨Fz, g, r, h⟩ => by
    refine tG_st r h fun d x g1 Fz1 H1 r1 ex1 rep h1 => ?_
    cases hg1 : gat g1 i with
    | ow ds0 =>
      rw [hg1] at h1
      simp only at h1
      obtain ⟨a, vs0, ea, _, _, _, _⟩ := own_of r1 hg1
      refine ⟨.ref a, ea, ?_⟩
      refine tG_st r1 h1 fun k y g2 Fz2 H2 r2 ex2 repk h2 => ?_
      cases k with
      | int k =>
        cases hg2 : gat g2 i with
        | ow ds =>
          rw [hg2] at h2
          simp only at h2
          obtain ⟨a2, vs, ea2, ow2, nf, hu, rr⟩ := own_of r2 hg2
          rw [ea] at ea2
          cases ea2
          cases hj : ixN ds.length k with
          | none => rw [hj] at h2; exact h2.elim
          | some j =>
            rw [hj] at h2
            simp only at h2
            obtain ⟨r3, ex3⟩ := r2.mutL ow2 (rr.set j (Rep.mono ex2 d x rep)) nf ⟨_, hu⟩
            exact ⟨a, vs, k, j, rfl, rep_int' repk, hu, by rw [← RepL.length rr]; exact hj, h2 _ _ _ r3 ⟨ex3, fun _ _ => rfl⟩⟩
        | _ => rw [hg2] at h2; exact h2.elim
      | _ => exact h2.elim
    | _ => rw [hg1] at h1; exact h1.elim
/-- methods of own lists -/
def apF (i : Nat) (f : FE) : FE := fun g => match gat g i with
  | .ow _ => (f g).bd fun d g1 => match gat g1 i with
    | .ow ds => if ds.length < sizeLine then .ok .non (g1.set i (.ow (ds ++ [d]))) else .no
    | _ => .no
  | _ => .no
theorem one_ofA {α : Type} {xs : List α} {a c : α} (h : xs[0]? = some a) (h1 : xs.length = 1) : xs = [a] := by
  match xs, h1 with
  | [z], _ => simpa using h
theorem pd_append {i : Nat} {o : Expr} {apos : Pos} (ho : PE X o (tVar i)) (h1 : PE X e (tE b W f)) (hbase : attributeBase o "append" X.env (eval o X.env) = eval o X.env := by rfl)
    (hfew : ((backTo pos (starEach (e :: []) X.env)).all (fun x => !x.1) && (backToKw pos (keywordEach [] X.env)).all (fun x => x.1.isSome)
      && decide ((e :: []).length + ([] : List Keyword).length + (if ([] : List Keyword).isEmpty then 0 else 1) < 30)) = true := by rfl)
    (hline : (apos.endLine == pos.line) = true := by rfl) (hs : starEach (e :: []) X.env = (false, eval e X.env) :: starEach [] X.env := by rfl) (hplain : (backTo pos (starEach [] X.env)).any (·.1) = false := by rfl) :
    PE X (.Call (.Attribute o "append" apos) [e] [] pos) (tE b W (apF i f)) :=
  pe_mono (pe_bm PySem.F.plainAttrs_list PySem.F.slot_list_append PySem.F.type_list_append mt_append ho (pa_cons h1 pa_nil hs) hbase hfew hline hs hplain) fun σ H Q ⟨Fz, g, r, h⟩ => by
    unfold apF at h
    cases hg : gat g i with
    | ow ds0 =>
      rw [hg] at h
      simp only at h
      obtain ⟨a, vs0, ea, _, _, hu0, _⟩ := own_of r hg
      refine ⟨.ref a, ea, .inl ⟨rfl, _, .inl (.inl hu0)⟩, ?_⟩
      refine tG_seq r h fun d x g1 Fz1 H1 r1 ex1 rep h1 => ?_
      cases hg1 : gat g1 i with
      | ow ds =>
        rw [hg1] at h1
        simp only at h1
        by_cases c : ds.length < sizeLine
        · rw [if_pos c] at h1
          obtain ⟨a2, vs, ea2, ow2, nf, hu, rr⟩ := own_of r1 hg1
          rw [ea] at ea2
          cases ea2
          obtain ⟨r3, ex3⟩ := r1.mutL ow2 (rr.append (RepL.cons rep RepL.nil)) nf ⟨_, hu⟩
          exact ⟨a, vs, x, rfl, rfl, hu, by rw [← RepL.length rr]; exact c, h1.ok r3 ex3 rep_non⟩
        · rw [if_neg c] at h1; exact h1.elim
      | _ => rw [hg1] at h1; exact h1.elim
    | _ => rw [hg] at h; exact h.elim
def popF (i : Nat) : FE := fun g => match gat g i with
  | .ow ds => match ds[ds.length - 1]? with
    | some d => .ok d (g.set i (.ow ds.dropLast))
    | none => .no
  | _ => .no
theorem repL_dropLast {M : MM} {Fz : Fzn} {H : Hp} {ds : List D} {vs : List V} (r : RepL M Fz H ds vs) : RepL M Fz H ds.dropLast vs.dropLast := by
  rw [List.dropLast_eq_take, List.dropLast_eq_take, RepL.length r]
  exact r.take _
theorem pd_pop {i : Nat} {o : Expr} {apos : Pos} (ho : PE X o (tVar i)) (hbase : attributeBase o "pop" X.env (eval o X.env) = eval o X.env := by rfl) (hline : (apos.endLine == pos.line) = true := by rfl) :
    PE X (.Call (.Attribute o "pop" apos) [] [] pos) (tE b W (popF i)) :=
  pe_mono (pe_bm0 PySem.F.plainAttrs_list PySem.F.slot_list_pop PySem.F.type_list_pop mt_pop ho hbase hline) fun σ H Q ⟨Fz, g, r, h⟩ => by
    unfold popF at h
    cases hg : gat g i with
    | ow ds =>
      rw [hg] at h
      simp only at h
      obtain ⟨a, vs, ea, ow, nf, hu, rr⟩ := own_of r hg
      cases hd : ds[ds.length - 1]? with
      | none => rw [hd] at h; exact h.elim
      | some d =>
        rw [hd] at h
        obtain ⟨y, ey, ry⟩ := rr.get hd
        obtain ⟨r3, ex3⟩ := r.mutL ow (repL_dropLast rr) nf ⟨_, hu⟩
        exact ⟨.ref a, ea, .inl ⟨rfl, _, .inl (.inl hu)⟩, a, vs, y, rfl, rfl, hu, by rw [← RepL.length rr]; exact ey, h.ok r3 ex3 (Rep.mono ex3 d y ry)⟩
    | _ => rw [hg] at h; exact h.elim
/-- xs.extend(new list) -/
def exF (i : Nat) (f : FF) : FE := fun g => match gat g i with
  | .ow _ => (f g).bd fun es g1 => match gat g1 i with
    | .ow ds => if ds.length + es.length ≤ sizeLine then .ok .non (g1.set i (.ow (ds ++ es))) else .no
    | _ => .no
  | _ => .no
theorem pd_extend {i : Nat} {o : Expr} {apos : Pos} {f : FF} (ho : PE X o (tVar i)) (h1 : PE X e (tFr b W f)) (hbase : attributeBase o "extend" X.env (eval o X.env) = eval o X.env := by rfl)
    (hfew : ((backTo pos (starEach (e :: []) X.env)).all (fun x => !x.1) && (backToKw pos (keywordEach [] X.env)).all (fun x => x.1.isSome)
      && decide ((e :: []).length + ([] : List Keyword).length + (if ([] : List Keyword).isEmpty then 0 else 1) < 30)) = true := by rfl)
    (hline : (apos.endLine == pos.line) = true := by rfl) (hs : starEach (e :: []) X.env = (false, eval e X.env) :: starEach [] X.env := by rfl) (hplain : (backTo pos (starEach [] X.env)).any (·.1) = false := by rfl) :
    PE X (.Call (.Attribute o "extend" apos) [e] [] pos) (tE b W (exF i f)) :=
  pe_mono (pe_bm PySem.F.plainAttrs_list PySem.F.slot_list_extend PySem.F.type_list_extend mt_extend ho (pa_cons h1 pa_nil hs) hbase hfew hline hs hplain) fun σ H Q ⟨Fz, g, r, h⟩ => by
    unfold exF at h
    cases hg : gat g i with
    | ow ds0 =>
      rw [hg] at h
      simp only at h
      obtain ⟨a, vs0, ea, _, _, hu0, _⟩ := own_of r hg
      refine ⟨.ref a, ea, .inl ⟨rfl, _, .inl (.inl hu0)⟩, ?_⟩
      refine tG_seq r h fun es x g1 Fz1 H1 r1 ex1 rep h1 => ?_
      cases hg1 : gat g1 i with
      | ow ds =>
        rw [hg1] at h1
        simp only at h1
        by_cases c : ds.length + es.length ≤ sizeLine
        · rw [if_pos c] at h1
          obtain ⟨a2, vs, ea2, ow2, nf, hu, rr⟩ := own_of r1 hg1
          rw [ea] at ea2
          cases ea2
          obtain ⟨q, ws, rfl, _, _, hq, _, rq⟩ := rep
          obtain ⟨r3, ex3⟩ := r1.mutL ow2 (rr.append rq) nf ⟨_, hu⟩
          exact ⟨a, q, vs, ws, rfl, rfl, hu, hq, by rw [← RepL.length rr, ← RepL.length rq]; exact c, h1.ok r3 ex3 rep_non⟩
        · rw [if_neg c] at h1; exact h1.elim
      | _ => rw [hg1] at h1; exact h1.elim
    | _ => rw [hg] at h; exact h.elim

/-! ### calls without arguments, with keywords -/
variable {k n : Nat} {fA : Addr} {fd : FuncData} {ps ks : List Str} {dn : Dn} {x : Str} {dvs : List V} {ds : List Value} {dfs : List D}
theorem pe_callSD0 {CX : CXT} {sp : Sp} {E : L2.St → XK} (F : FnOk X.prog X.w X.K X.mg X.base CX k fA fd ps sp) (hr : Room k X.A) (hg : Gl X x) (hm : X.mg x = some (.ref fA)) (hk : PySem.W.keepIn X.K (.ref fA) = true) (hb : Binds X.K fd ps ds) (hd : Vals dvs ds) (hx : ∀ σ, PassesAt CX X σ (E σ))
    (hdb : (x == ("__debug__" : Str)) = false := by decide) : PE X (.Call (.Name x p) [] [] pos) (tCallSD sp dvs E tNil) := by
  refine ⟨fun pins s σ H Q I h => ?_⟩
  refine wpAny_Call_Name_kw (ld_glob I hg hm ?_ hdb)
  exact PySem.W.callWith_K0 I.kIn hk (run_fnSD (us := []) F hr hb hd (hx σ) I .nil h)
theorem pd_call0 (hM : b.M = ⟨X.K, X.mg, Tb⟩) (tk : Takes X W) (F : FnOk X.prog X.w X.K X.mg X.base (L2.CX X.prog X.w) k fA fd ps (spD ⟨X.K, X.mg, Tb⟩ n dn)) (hr : Room k X.A) (hg : Gl X x) (hm : X.mg x = some (.ref fA)) (hk : PySem.W.keepIn X.K (.ref fA) = true)
    (hb : Binds X.K fd ps ds) (hd : Vals dvs ds) (hdf : ∀ M Fz H, RepL M Fz H dfs dvs) (hdb : (x == ("__debug__" : Str)) = false := by decide) : PE X (.Call (.Name x p) [] [] pos) (tE b W (callF n dn dfs nilV)) :=
  pe_mono (pe_callSD0 F hr hg hm hk hb hd (fun σ => passAt tk σ) hdb) fun σ H Q h => by
    have z := tE_call (hdf b.M) h
    rw [hM] at z
    obtain ⟨Fz, g, r, q⟩ := z
    exact q [] H Fz r .refl rfl
theorem pf_call0 (hM : b.M = ⟨X.K, X.mg, Tb⟩) (tk : Takes X W) (F : FnOk X.prog X.w X.K X.mg X.base (L2.CX X.prog X.w) k fA fd ps (spD ⟨X.K, X.mg, Tb⟩ n dn)) (hr : Room k X.A) (hg : Gl X x) (hm : X.mg x = some (.ref fA)) (hk : PySem.W.keepIn X.K (.ref fA) = true)
    (hb : Binds X.K fd ps ds) (hd : Vals dvs ds) (hdf : ∀ M Fz H, RepL M Fz H dfs dvs) (hdb : (x == ("__debug__" : Str)) = false := by decide) : PE X (.Call (.Name x p) [] [] pos) (tFr b W (callFF n dn dfs nilV)) :=
  pe_mono (pe_callSD0 F hr hg hm hk hb hd (fun σ => passAt tk σ) hdb) fun σ H Q h => by
    have z := tF_call (hdf b.M) h
    rw [hM] at z
    obtain ⟨Fz, g, r, q⟩ := z
    exact q [] H Fz r .refl rfl

/-! keywords -/
inductive KQ where
  | p (i : Nat) | k (i : Nat) | d (i : Nat)
def KQ.get {α : Type} (us its ws : List α) : KQ → Option α
  | .p i => us[i]?
  | .k i => ws[i]?
  | .d i => its[i]?
def pickG {α : Type} (us its ws : List α) : List KQ → List α
  | [] => []
  | q :: qs => match q.get us its ws with
    | some a => a :: pickG us its ws qs
    | none => pickG us its ws qs
theorem vals_get {vs : List V} {us : List Value} (r : Vals vs us) (i : Nat) : (∃ v u, vs[i]? = some v ∧ us[i]? = some u ∧ RelV v u) ∨ (vs[i]? = none ∧ us[i]? = none) := by
  by_cases h : i < vs.length
  · have e : vs[i]? = some vs[i] := by simp [h]
    obtain ⟨u, hu, ru⟩ := r.get e
    exact .inl ⟨_, u, e, hu, ru⟩
  · exact .inr ⟨List.getElem?_eq_none (by omega), List.getElem?_eq_none (by rw [← r.length]; omega)⟩
theorem pick_rel {vs ds zs : List V} {us its ws : List Value} (r1 : Vals vs us) (r2 : Vals ds its) (r3 : Vals zs ws) : ∀ qs : List KQ, Vals (pickG vs ds zs qs) (pickG us its ws qs)
  | [] => .nil
  | q :: qs => by
    have ih := pick_rel r1 r2 r3 qs
    unfold pickG
    cases q with
    | p i => rcases vals_get r1 i with ⟨v, u, h1, h2, h3⟩ | ⟨h1, h2⟩ <;> simp only [KQ.get, h1, h2] <;> first | exact .cons h3 ih | exact ih
    | k i => rcases vals_get r3 i with ⟨v, u, h1, h2, h3⟩ | ⟨h1, h2⟩ <;> simp only [KQ.get, h1, h2] <;> first | exact .cons h3 ih | exact ih
    | d i => rcases vals_get r2 i with ⟨v, u, h1, h2, h3⟩ | ⟨h1, h2⟩ <;> simp only [KQ.get, h1, h2] <;> first | exact .cons h3 ih | exact ih
theorem FunD.kb {K : PySem.W.Frag} {x qual : Str} {params : Arguments} {body : List Stmt} {scope : Scope} {dvs : List V} {f : Addr} {fd : FuncData} {ps : List Str} (F : FunD K x qual params body scope dvs [] f fd) (n : Nat) (ks : List Str) (qs : List KQ) (hd : dvs ≠ [])
    (h : ∀ (T : Addr) (kV doc pm : Value) (an : Option Addr) (cdv ct : Value) (us its ws : List Value), us.length = n → its.length = dvs.length → ws.length = ks.length →
      ∃ k, bindArgs (PySem.W.fnOf x qual params body scope (.ref T) kV doc pm an cdv ct) ⟨us, ks.zip ws⟩ = seqItems? (.ref T) >>= k ∧ k (some its.toArray) = pure (ps.zip (pickG us its ws qs))) :
    ∃ its : List Value, KBn K fd ps n ks (fun us ws => pickG us its ws qs) (fun vs zs => pickG vs dvs zs qs) := by
  obtain ⟨oc, od, dV, kV, doc, pm, an, cdv, ct, osl, rfl, lk, hcd, hD, hK⟩ := F.ex
  rcases hD with ⟨e, _⟩ | ⟨_, T, o, its, m, rfl, lT, oT, rT⟩
  · exact absurd e hd
  · refine ⟨its, ⟨fun s us ws X l1 l2 => ?_, fun r1 r2 => pick_rel r1 rT r2 qs⟩⟩
    obtain ⟨k, e1, e2⟩ := h T kV doc pm an cdv ct us its ws l1 rT.length.symm l2
    refine BindsTo.of_looks fun M => ?_
    rw [e1]
    exact looks_items X lT oT (PySem.W.Looks.of_pure e2)
def tCallNS (n m : Nat) (sp : Sp) (gV : List V → List V → List V) (E : L2.St → XK) (t tk : TA) : TE := fun σ H Q => t σ H fun vs H1 => tk σ H1 fun zs H2 => vs.length = n ∧ zs.length = m ∧ sp (gV vs zs) H2 Q (E σ)
variable {g g0 : List Value → List Value → List Value} {gV : List V → List V → List V} {kws : List Keyword} {fk : FV} {qs : List KQ}
theorem run_fnNS {CX : CXT} {sp : Sp} {E : L2.St → XK} {pins : List (Addr × Obj)} {σ : L2.St} {H : Hp} {s : Shared} {Q : VK} {us ws : List Value} {vs zs : List V} (F : FnOk X.prog X.w X.K X.mg X.base CX k fA fd ps sp) (hr : Room k X.A) (hb : KBn X.K fd ps n ks g gV) (hx : PassesAt CX X σ (E σ))
    (I : Inv X pins σ H s) (r : Vals vs us) (rz : Vals zs ws) (l1 : vs.length = n) (l2 : zs.length = ks.length) (h : sp (gV vs zs) H Q (E σ)) : wpAny (model X.prog X.w) X.A (call (.ref fA) us (ks.zip ws)) (EP X pins σ Q) X.xe s := by
  have r2 := hb.rel r rz
  refine wpAny_call (codeAny_mono (F.run X.A X.stack s H ⟨us, ks.zip ws⟩ (g us ws) (gV vs zs) Q (E σ) hr I.env0 (hb.to s us ws I.kIn (r.length.symm.trans l1) (rz.length.symm.trans l2)) r2 h) fun r s' hq => ?_)
  cases r with
  | error e => exact hx pins H s e s' I hq
  | ok fl =>
    cases fl with
    | ret u => exact I.after hq
    | next => exact False.elim hq
    | brk => exact False.elim hq
    | cont => exact False.elim hq
theorem pe_callNS {CX : CXT} {sp : Sp} {E : L2.St → XK} {t tk : TA} (F : FnOk X.prog X.w X.K X.mg X.base CX k fA fd ps sp) (hr : Room k X.A) (hg : Gl X x) (hm : X.mg x = some (.ref fA)) (hk : PySem.W.keepIn X.K (.ref fA) = true) (hb : KBn X.K fd ps n ks g gV) (hx : ∀ σ, PassesAt CX X σ (E σ))
    (ha : PA X (e :: es) t) (hkw : PK X kws tk) (hall : (backToKw pos (keywordEach kws X.env)).all (·.1.isSome) = true := by rfl) (hks : (backToKw pos (keywordEach kws X.env)).filterMap (·.1) = ks := by rfl)
    (hdb : (x == ("__debug__" : Str)) = false := by decide) (he : starEach (e :: es) X.env = (false, eval e X.env) :: starEach es X.env := by rfl)
    (hpl : ((backTo pos (starEach (e :: es) X.env)).any (·.1) || (backToKw pos (keywordEach kws X.env)).any (·.1.isNone)) = false := by rfl) :
    PE X (.Call (.Name x p) (e :: es) kws pos) (tCallNS n ks.length sp gV E t tk) := by
  refine ⟨fun pins s σ H Q I h => ?_⟩
  refine wpAny_Call_Name_kw (ld_glob I hg hm ?_ hdb)
  refine PySem.W.callWith_KW (h₀ := X.base) I.ok.mod.kin hk hall (thn (ha.run pos pins s σ H _ I h) fun us s1 ⟨vs, H1, I1, r, q⟩ => ?_) hpl he
  refine thn (hkw.run pos pins s1 σ H1 _ I1 q) fun ws s2 ⟨zs, H2, I2, rz, l1, l2, q2⟩ => ⟨I2.kIn, ?_⟩
  rw [hks]
  exact run_fnNS F hr hb (hx σ) I2 r rz l1 l2 q2
/-- the keywords' values -/
theorem pkv_nil : PK X [] (tAv b W nilV) := ⟨fun pos pins s σ H Q I ⟨Fz, g, r, h⟩ => pk_nil.run pos pins s σ H Q I (h [] H Fz r .refl rfl)⟩
theorem pkv_cons {nm : Option Str} {kpos : Pos} {f : Sg → R AV} {fr : FV} (h1 : PE X e (tA1 b W f)) (h2 : PK X kws (tAv b W fr)) : PK X (⟨nm, e, kpos⟩ :: kws) (tAv b W (consV f fr)) :=
  ⟨fun pos pins s σ H Q I ⟨Fz, g, r, h⟩ => (pk_cons h1 h2).run pos pins s σ H Q I (tG_seq r h fun a x g1 Fz1 H1 r1 e1 av h1 => tG_seq r1 h1 fun as xs g2 Fz2 H2 r2 e2 av2 h2 => by
    by_cases c : resI g2 a = true
    · rw [if_pos c] at h2
      exact h2.ok r2 .refl ⟨x, xs, rfl, av.mono e2 (resI_ok c), av2⟩
    · rw [if_neg c] at h2; exact h2.elim)⟩
def callKF (n n1 m : Nat) (dn : Dn) (qs : List KQ) (dfs : List D) (fa fk : FV) : FE := fun g => (fa g).bd fun as g1 => (fk g1).bd fun ks g2 => if as.length = n1 ∧ ks.length = m ∧ as.all (resI g2) = true then callR n dn (pickG as (dfs.map AV.d) ks qs) g2 else .no
theorem avs_mono {σ : L2.St} {Fz Fz' : Fzn} {H H' : Hp} {g g' : Sg} (e : Ext Fz H Fz' H') : ∀ {as : List AV} {xs : List V}, AVsOk b σ Fz H g as xs → as.all (resI g') = true → AVsOk b σ Fz' H' g' as xs
  | [], _, h, _ => h
  | a :: as, xs, ⟨x, r, h1, h2, h3⟩, c => by
    rw [List.all_cons, Bool.and_eq_true] at c
    exact ⟨x, r, h1, h2.mono e (resI_ok c.1), avs_mono e h3 c.2⟩
theorem avs_at {σ : L2.St} {Fz : Fzn} {H : Hp} {g : Sg} {as : List AV} {xs : List V} (h : AVsOk b σ Fz H g as xs) (i : Nat) : (∃ a x, as[i]? = some a ∧ xs[i]? = some x ∧ AVOk b σ Fz H g a x) ∨ (as[i]? = none ∧ xs[i]? = none) := by
  by_cases hi : i < as.length
  · have e : as[i]? = some as[i] := by simp [hi]
    obtain ⟨x, ex, ox⟩ := avs_get h e
    exact .inl ⟨_, x, e, ex, ox⟩
  · exact .inr ⟨List.getElem?_eq_none (by omega), List.getElem?_eq_none (by rw [← avs_len h]; omega)⟩
theorem avs_pick {σ : L2.St} {Fz : Fzn} {H : Hp} {g : Sg} {as bs cs : List AV} {xs ys zs : List V} (r1 : AVsOk b σ Fz H g as xs) (r2 : AVsOk b σ Fz H g bs ys) (r3 : AVsOk b σ Fz H g cs zs) : ∀ qs : List KQ, AVsOk b σ Fz H g (pickG as bs cs qs) (pickG xs ys zs qs)
  | [] => rfl
  | q :: qs => by
    have ih := avs_pick r1 r2 r3 qs
    unfold pickG
    cases q with
    | p i => rcases avs_at r1 i with ⟨v, u, h1, h2, h3⟩ | ⟨h1, h2⟩ <;> simp only [KQ.get, h1, h2] <;> first | exact ⟨_, _, rfl, h3, ih⟩ | exact ih
    | k i => rcases avs_at r3 i with ⟨v, u, h1, h2, h3⟩ | ⟨h1, h2⟩ <;> simp only [KQ.get, h1, h2] <;> first | exact ⟨_, _, rfl, h3, ih⟩ | exact ih
    | d i => rcases avs_at r2 i with ⟨v, u, h1, h2, h3⟩ | ⟨h1, h2⟩ <;> simp only [KQ.get, h1, h2] <;> first | exact ⟨_, _, rfl, h3, ih⟩ | exact ih
theorem pd_callK {n1 : Nat} {fv0 : FV} (hM : b.M = ⟨X.K, X.mg, Tb⟩) (tk : Takes X W) (F : FnOk X.prog X.w X.K X.mg X.base (L2.CX X.prog X.w) k fA fd ps (spD ⟨X.K, X.mg, Tb⟩ n dn)) (hr : Room k X.A) (hg : Gl X x) (hm : X.mg x = some (.ref fA)) (hk : PySem.W.keepIn X.K (.ref fA) = true)
    (hb : KBn X.K fd ps n1 ks g (fun vs zs => pickG vs dvs zs qs)) (hdf : ∀ M Fz H, RepL M Fz H dfs dvs) (ha : PA X (e :: es) (tAv b W fv0)) (hkw : PK X kws (tAv b W fk)) (hall : (backToKw pos (keywordEach kws X.env)).all (·.1.isSome) = true := by rfl) (hks : (backToKw pos (keywordEach kws X.env)).filterMap (·.1) = ks := by rfl)
    (hdb : (x == ("__debug__" : Str)) = false := by decide) (he : starEach (e :: es) X.env = (false, eval e X.env) :: starEach es X.env := by rfl)
    (hpl : ((backTo pos (starEach (e :: es) X.env)).any (·.1) || (backToKw pos (keywordEach kws X.env)).any (·.1.isNone)) = false := by rfl) :
    PE X (.Call (.Name x p) (e :: es) kws pos) (tE b W (callKF n n1 ks.length dn qs dfs fv0 fk)) :=
  pe_mono (pe_callNS F hr hg hm hk hb (fun σ => passAt tk σ) ha hkw hall hks hdb he hpl) fun σ H Q ⟨Fz, g, r, h⟩ => by
    refine tG_seq r h fun as xs g1 Fz1 H1 r1 e1 av1 h1 => ?_
    refine tG_seq r1 h1 fun cs zs g2 Fz2 H2 r2 e2 av2 h2 => ?_
    by_cases c : as.length = n1 ∧ cs.length = ks.length ∧ as.all (resI g2) = true
    · rw [if_pos c] at h2
      refine ⟨by rw [← avs_len av1]; exact c.1, by rw [← avs_len av2]; exact c.2.1, ?_⟩
      have avd : AVsOk b σ Fz2 H2 g2 (dfs.map AV.d) dvs := by
        have z := avs_app (b := b) (σ := σ) (g := g2) (as := []) (xs := []) (dfs := dfs) (dvs := dvs) rfl (hdf b.M Fz2 H2)
        simpa using z
      have z := callR_ok r2 (avs_pick (avs_mono e2 av1 c.2.2) avd av2 qs) h2
      rw [hM] at z
      exact z
    · rw [if_neg c] at h2; exact h2.elim
end
end DL

set_option Elab.async false
set_option linter.all false
set_option maxRecDepth 100000
set_option maxHeartbeats 4000000
/-! DenX: own exceptions made, raised, caught. -/
namespace DL
open PySem L2 PySem.Spec PyProof.Rows

/-! ### Base.__init__(self, ..) of an own base -/
section
variable {X : Cx} {e : Expr} {es : List Expr} {ta : TA} {x : Str} {p p1 p2 pos : Pos} {C0 : Addr} {mc : Value}
theorem pe_cinit {pl : Sem Bool} (hg : Gl X x) (hm : X.mg x = some (.ref C0)) (rd : ClX.CRead X.K C0 mc) (vV : PySem.W.findCls X.K (.ref C0) mc "__init__" = some (.val (.builtin "ValueError.__init__"))) (ha : PA X (e :: es) ta)
    (hdb : (x == ("__debug__" : Str)) = false := by decide)
    (hc : eval (.Call (.Attribute (.Name x p1) "__init__" p2) (e :: es) [] pos) X.env = (do
      let ov ← eval (.Name x p1) X.env
      standAt p2.atName
      let (f, first) ← holding [ov] (getMethod ov "__init__" pl)
      callWith pos f first (backTo pos (starEach (e :: es) X.env)) (backToKw pos (keywordEach [] X.env))) := by rfl)
    (he : starEach (e :: es) X.env = (false, eval e X.env) :: starEach es X.env := by rfl) (hpl : (backTo pos (starEach es X.env)).any (·.1) = false := by rfl) :
    PE X (.Call (.Attribute (.Name x p1) "__init__" p2) (e :: es) [] pos) (tVeI X.K ta) := by
  refine ⟨fun pins s σ H Q I h => ?_⟩
  refine PySem.W.methodCall_KW (ld_glob I hg hm ?_ hdb) hc
  refine PySem.W.method_cls I.kIn rd.ga ?_
  refine PySem.W.cls_value I.kIn rd.rd vV (by decide +kernel) ?_
  show wpAny _ _ (callWith pos (Value.builtin "ValueError.__init__") [] (backTo pos (starEach (e :: es) X.env)) []) _ _ _
  refine PyProof.Rows.callWith_method1 (thn (ha.run pos pins _ σ H _ (I.tok _) h) fun us s1 ⟨vs, H1, I1, r1, a, C, ws, ev, hl, T, ea, q⟩ => ?_) he hpl
  subst ev
  cases r1 with
  | @cons _ u0 _ ur ra rw' =>
    obtain rfl : u0 = Value.ref a := ra
    have hlen : ur.length ≤ sizeLine := by
      rw [← Paired.length rw', sizeLine_eq]
      omega
    exact oinit_ok T I1 ea hlen fun s' J => ⟨.non, H1, J, rfl, q⟩
end

theorem passF {X : Cx} : Passes (L2.CX X.prog X.w) X (fun _ _ _ => False) := fun pins σ H s e s' I c => passAt takes0 σ pins H s e s' I c
/-! ### own exceptions made -/
/-- what __init__ of an own exception promises: fs its fields, the parameters -/
def spMk (C : Addr) (fs : List Str) : Sp := fun vs H Q _ => ∃ a ys, vs = .ref a :: ys ∧ ys.length = fs.length ∧ H a = some (exo a C none) ∧
  (fs = [] → Q .non H) ∧ (fs ≠ [] → ∀ dx, H dx = none → dx ≠ a → Q .non (upd (upd H dx (exd dx (fs.zip ys).reverse)) a (exo a C (some dx))))
/-- a statement that does nothing to the exception -/
def SkipX (K : PySem.W.Frag) (C : Addr) (t : TS) : Prop := ∀ D σ H a, σ[0]? = some (some (.ref a)) → OexC K C → H a = some (exo a C none) → D.nx σ H → t D σ H
theorem skip_none {K : PySem.W.Frag} {C : Addr} : SkipX K C tNext := fun _ _ _ _ _ _ _ h => h
theorem skip_sup {K : PySem.W.Frag} {C : Addr} {m : Str} : SkipX K C (tDrop (tVeI K (tCons (tVar 0) (tCons (tC (.str m)) tNil)))) := fun D σ H a h0 T e h =>
  ⟨.ref a, h0, a, C, [.str m], rfl, by show 1 ≤ 1000; decide, T, e, h⟩
section
variable {P : Program} {w : World} {K : PySem.W.Frag} {mg : Str → Option Value} {base : Heap} {C : Addr} {x qual : Str} {st : Stmt} {f : Addr} {fd : FuncData} {t0 : TS} {f1 f2 n1 n2 ns : Str}
theorem ok_init0 (T : OexC K C) (F : FunD K x qual (defArgs st) (defBody st) (defScope st) [] [] f fd) (S : FnScope [ns] [ns] (defScope st)) (s0 : SkipX K C t0)
    (hb : ∀ (cdv : Value) (A : Around) (outer : List Env) (s : Shared) (H : Hp) (E : XK), PSs (cxOf (L2.CX P w) P w K mg base [ns] qual (defScope st) f cdv A outer s H E) (defBody st) t0) : FnOk P w K mg base (L2.CX P w) 1 f fd [ns] (spMk C []) := by
  refine F.ok (CX := L2.CX P w) S (fun vs H Q E h => ?_) (fun cdv A outer s H vs Q E hr h => ?_)
  · obtain ⟨a, ys, rfl, hl, _⟩ := h
    simp [hl]
  · obtain ⟨a, ys, rfl, hl, ea, h1, _⟩ := h
    have hy : ys = [] := List.eq_nil_of_length_eq_zero hl
    subst hy
    exact ⟨_, hb cdv A outer s H E, s0 _ _ _ a rfl T ea (h1 rfl)⟩
theorem ok_init1 (T : OexC K C) (g1 : PySem.W.findIn K (.ref C) f1 = some none) (F : FunD K x qual (defArgs st) (defBody st) (defScope st) [] [] f fd) (S : FnScope [ns, n1] [ns, n1] (defScope st)) (s0 : SkipX K C t0)
    (hb : ∀ (cdv : Value) (A : Around) (outer : List Env) (s : Shared) (H : Hp) (E : XK), PSs (cxOf (L2.CX P w) P w K mg base [ns, n1] qual (defScope st) f cdv A outer s H E) (defBody st) (tSeq t0 (tOst K f1 (tVar 0) (tVar 1)))) : FnOk P w K mg base (L2.CX P w) 1 f fd [ns, n1] (spMk C [f1]) := by
  refine F.ok (CX := L2.CX P w) S (fun vs H Q E h => ?_) (fun cdv A outer s H vs Q E hr h => ?_)
  · obtain ⟨a, ys, rfl, hl, _⟩ := h
    simp [hl]
  · obtain ⟨a, ys, rfl, hl, ea, _, h2⟩ := h
    match ys, hl with
    | [y], _ =>
      refine ⟨_, hb cdv A outer s H E, s0 _ _ _ a rfl T ea ?_⟩
      exact ⟨y, rfl, .ref a, rfl, a, C, rfl, T, g1, .inl ⟨ea, fun dx n ne => h2 (by simp) dx n ne⟩⟩
theorem ok_init2 (T : OexC K C) (g1 : PySem.W.findIn K (.ref C) f1 = some none) (g2 : PySem.W.findIn K (.ref C) f2 = some none) (F : FunD K x qual (defArgs st) (defBody st) (defScope st) [] [] f fd) (S : FnScope [ns, n1, n2] [ns, n1, n2] (defScope st)) (s0 : SkipX K C t0)
    (hb : ∀ (cdv : Value) (A : Around) (outer : List Env) (s : Shared) (H : Hp) (E : XK), PSs (cxOf (L2.CX P w) P w K mg base [ns, n1, n2] qual (defScope st) f cdv A outer s H E) (defBody st) (tSeq t0 (tSeq (tOst K f1 (tVar 0) (tVar 1)) (tOst K f2 (tVar 0) (tVar 2))))) : FnOk P w K mg base (L2.CX P w) 1 f fd [ns, n1, n2] (spMk C [f1, f2]) := by
  refine F.ok (CX := L2.CX P w) S (fun vs H Q E h => ?_) (fun cdv A outer s H vs Q E hr h => ?_)
  · obtain ⟨a, ys, rfl, hl, _⟩ := h
    simp [hl]
  · obtain ⟨a, ys, rfl, hl, ea, _, h2⟩ := h
    match ys, hl with
    | [y, z], _ =>
      refine ⟨_, hb cdv A outer s H E, s0 _ _ _ a rfl T ea ?_⟩
      refine ⟨y, rfl, .ref a, rfl, a, C, rfl, T, g1, .inl ⟨ea, fun dx n ne => ?_⟩⟩
      refine ⟨z, rfl, .ref a, rfl, a, C, rfl, T, g2, .inr ⟨dx, [(f1, y)], upd_same, by rw [upd_ne ne]; exact upd_same, by show 1 ≤ 900; decide, ?_⟩⟩
      have e : upd (upd (upd H dx (exd dx [(f1, y)])) a (exo a C (some dx))) dx (exd dx [(f2, z), (f1, y)]) = upd (upd H dx (exd dx [(f2, z), (f1, y)])) a (exo a C (some dx)) := by
        funext c
        by_cases hc : c = dx
        · subst hc
          rw [upd_same, upd_ne ne, upd_same]
        · rw [upd_ne hc]
          by_cases ha : c = a
          · subst ha; rw [upd_same, upd_same]
          · rw [upd_ne ha, upd_ne ha, upd_ne hc, upd_ne hc]
      show Q .non _
      rw [e]
      exact h2 (by simp) dx n ne
end

/-! ### raise -/
section
variable {X : Cx} {b : B} {W : WX} {e : Expr} {es : List Expr} {fa : FA} {x : Str} {p pos rpos : Pos} {C fI : Addr} {fd : FuncData} {ps : List Str} {fs : List Str} {cn : Str}
def mkE (cn : Str) (fs : List Str) (ds : List D) : Exn := ⟨cn, fs.reverse, ds.reverse⟩
/-- raise C(e, ..) -/
def raiseS (cn : Str) (fs : List Str) (fa : FA) : FS := fun g => (fa g).sb fun ds g1 => if ds.length = fs.length then .ex (mkE cn fs ds) g1 else .no
theorem zip_rev {α β : Type} : ∀ {l : List α} {m : List β}, l.length = m.length → (l.zip m).reverse = l.reverse.zip m.reverse
  | [], [], _ => rfl
  | a :: l, c :: m, h => by
    have h' : l.length = m.length := by simpa using h
    rw [List.zip_cons_cons, List.reverse_cons, List.reverse_cons, List.reverse_cons, zip_rev h', List.zip_append (by simp [h'])]
    rfl
theorem pts_raise (hM : b.M = ⟨X.K, X.mg, Tb⟩) (hc : X.calm = true) (tk : Takes X W) (T : OexC X.K C) (iC : PySem.W.findIn X.K (.ref C) "__init__" = some (some (.ref fI))) (tI : PySem.W.typeIn X.K (.ref fI) = some (.type "function"))
    (F1 : FnOk X.prog X.w X.K X.mg X.base (L2.CX X.prog X.w) 1 fI fd ps (spMk C fs)) (hr : Room 2 X.A) (hb : Binds X.K fd ps []) (hg : Gl X x) (hm : X.mg x = some (.ref C)) (hne : fs ≠ []) (hfs : fs.length ≤ 100) (ha : PA X (e :: es) (tAr b W fa))
    (hdb : (x == ("__debug__" : Str)) = false := by decide) (he : starEach (e :: es) X.env = (false, eval e X.env) :: starEach es X.env := by rfl) (hpl : (backTo pos (starEach es X.env)).any (·.1) = false := by rfl) :
    PS X (.Raise (some (.Call (.Name x p) (e :: es) [] pos)) none rpos) (tSt b W [] (raiseS x fs fa)) := ps_mono (ps_raise hc tk (pmk_oex T iC tI F1 hr hb .nil passF hg hm ha hdb he hpl)) fun D σ H ⟨Fz, g, r, h⟩ => by
  refine tG_st r h fun ds xs g1 Fz1 H1 r1 ex1 rep h1 => ?_
  have rep' : RepL b.M Fz1 H1 ds xs := rep
  by_cases hl : ds.length = fs.length
  · rw [if_pos hl] at h1
    have hxs : xs.length = fs.length := by rw [← RepL.length rep']; exact hl
    refine ⟨by omega, fun a ha => ⟨a, xs, by rw [List.append_nil], hxs, upd_same, fun z => absurd z hne, fun _ dx hdx nda => ⟨rfl, dx, (fs.zip xs).reverse, upd_same, by rw [upd_ne nda]; exact upd_same, by rw [upd_ne nda] at hdx; exact hdx, ?_⟩⟩⟩
    rw [upd_ne nda] at hdx
    have e1 : upd (del (upd (upd (upd H1 a (exo a C none)) dx (exd dx (fs.zip xs).reverse)) a (exo a C (some dx))) a) dx (.xd (fs.zip xs).reverse) = upd H1 dx (.xd (fs.zip xs).reverse) := by
      funext c
      by_cases hc1 : c = dx
      · subst hc1; rw [upd_same, upd_same]
      · rw [upd_ne hc1, upd_ne hc1]
        by_cases hc2 : c = a
        · subst hc2; rw [del_same, ha]
        · rw [del_ne hc2, upd_ne hc2, upd_ne hc1, upd_ne hc2]
    rw [e1]
    have gr : GrowTo Fz1 H1 Fz1 (upd H1 dx (.xd (fs.zip xs).reverse)) := .alloc hdx
    refine h1 σ _ _ _ _ (r1.grow gr) ⟨gr.ext, fun _ _ => rfl⟩ ⟨C, rfl, by rw [hM]; exact hm, .inr ⟨dx, xs.reverse, rfl, ?_, by simp [mkE, hxs], ?_⟩⟩
    · rw [upd_same]
      show some (HO.xd _) = some (HO.xd (fs.reverse.zip xs.reverse))
      rw [zip_rev hxs.symm]
    · exact (rep'.grow gr).reverse
  · rw [if_neg hl] at h1; exact h1.elim
end

/-! ### an own exception without fields -/
section
variable {X : Cx} {b : B} {W : WX} {x : Str} {p pos rpos : Pos} {C fI : Addr} {fd : FuncData} {ps : List Str} {cn : Str}
theorem mk_endN {pins : List (Addr × Obj)} {σ : L2.St} {H1 H2 : Hp} {Q : XK} {hp hp2 h2 : Heap} {g1 g2 : Array GenState} {d1 d2 : Drawn} {t1 t2 : Nat} {os1 os2 : OsState} {a C : Addr} (T : Raises X (.ref C)) (I1 : Inv X pins σ H1 ⟨hp, g1, d1, t1, os1⟩)
    (ha : hp.objs.size ≤ a) (k : ∀ b o, hp.get? b = some o → hp2.get? b = some o) (un : Un (frs X.stack) [] (upd H1 a (exo a C none)) H2 hp2 h2) (hok : HOk X.prog X.w H2 h2) (ho : os2 = os1) (hb : AllBare g2)
    (ea : H2 a = some (exo a C none)) (q : Q (.ref C) none (del H2 a)) : MkP X pins σ Q (.ref a) ⟨h2, g2, d2, t2, os2⟩ := by
  obtain ⟨t0, hoe⟩ := exo_at hok ea
  have hn : H1 a = none := I1.hok.fresh ha
  obtain ⟨G, g1', g2'⟩ := restrict h2 fun b => decide (b ≠ a)
  have gk : ∀ b, b ≠ a → G.get? b = h2.get? b := fun b hb => g1' b (decide_eq_true hb)
  have ge : G.get? a = none := g2' a (by simp)
  have nha : ∀ {b : Addr} {o : Obj}, hp.get? b = some o → b ≠ a := fun {b o} z => Nat.ne_of_lt (Nat.lt_of_lt_of_le (Heap.lt_size z) ha)
  have up : ∀ {b : Addr}, b ≠ a → H1 b = none → upd H1 a (exo a C none) b = none := fun {b} hb n => by rw [upd_ne hb]; exact n
  have U : Un (frs X.stack) [] H1 (del H2 a) hp G := {
    keep := fun b o z n hf hx => by
      rw [gk b (nha z)]
      exact un.keep b o (k b o z) (up (nha z) n) hf hx
    slot := fun b o z n hf hx => by
      rw [gk b (nha z)]
      exact un.slot b o (k b o z) (up (nha z) n) hf hx
    free := fun b o z n hx => by
      rw [del_ne (nha z)]
      exact un.free b o (k b o z) (up (nha z) n) hx
    there := fun b o z hx => by
      rw [gk b (nha z)]
      exact un.there b o (k b o z) hx
    tups := fun b xs z => by
      rw [del_ne (ne_of_none z hn)]
      exact un.tups b xs (by rw [upd_ne (ne_of_none z hn)]; exact z)
    frzs := fun b o v z => by
      rw [del_ne (ne_of_none z hn)]
      exact un.frzs b o v (by rw [upd_ne (ne_of_none z hn)]; exact z)
    tbls := fun b ps z => by
      rw [del_ne (ne_of_none z hn)]
      exact un.tbls b ps (by rw [upd_ne (ne_of_none z hn)]; exact z) }
  have hok3 : HOk X.prog X.w (del H2 a) G := fun b o z => by
    have hba : b ≠ a := fun e => by
      rw [e, del_same] at z
      cases z
    rw [del_ne hba] at z
    have noa : ∀ {c : Addr}, H2 c = some (.own b) → c ≠ a := fun {c} hc => at_ne ea hc exo_own
    exact (hok b o z).stay (fun c v hc y => by
        have hca : c ≠ a := by
          rcases hc with hc | hc
          · rw [hc]
            exact hba
          · exact noa hc
        rw [gk c hca]
        exact y)
      (fun c hc => by rw [del_ne (noa hc)]; exact hc) (fun c xs hc => by rw [del_ne (at_ne ea hc exo_tup)]; exact hc)
  have J : Inv X pins σ (del H2 a) ⟨G, g2, d2, t2, os2⟩ := I1.call' (ch := []) ho U hok3 hb (fun b z => absurd z (by simp))
  refine ⟨a, _, _, ⟨G, g2, d2, t2, os2⟩, _, .ref C, none, rfl, J, fun b o z => ?_, ge, hoe, ⟨rfl, rfl⟩, rfl, rfl, del_same, rfl, hb, T, q⟩
  by_cases hba : b = a
  · rw [hba, ge] at z
    cases z
  · exact (gk b hba).symm.trans z
def tMkO0 (C : Addr) (sp : Sp) : L2.St → Hp → XK → Prop := fun σ H1 Q => ∀ a, H1 a = none → sp [.ref a] (upd H1 a (exo a C none))
  (fun v H2 => v = .non ∧ H2 a = some (exo a C none) ∧ Q (.ref C) none (del H2 a)) (fun _ _ _ => False)
theorem pmk_oex0 {CX : CXT} {k : Nat} {sp : Sp} (T : OexC X.K C) (iC : PySem.W.findIn X.K (.ref C) "__init__" = some (some (.ref fI))) (tI : PySem.W.typeIn X.K (.ref fI) = some (.type "function"))
    (F1 : FnOk X.prog X.w X.K X.mg X.base CX k fI fd ps sp) (hr : Room (k + 1) X.A) (hb : Binds X.K fd ps []) (hx : Passes CX X (fun _ _ _ => False)) (hg : Gl X x) (hm : X.mg x = some (.ref C))
    (hdb : (x == ("__debug__" : Str)) = false := by decide) :
    PMk X (.Call (.Name x p) [] [] pos) (tMkO0 C sp) := by
  intro pins s σ H Q I q1
  obtain ⟨nm, q, N, bs, bm, sn, sub, ab, col, dd, k0, k1, k2, k3, k5, hC, hbm⟩ := T.cls
  refine wpAny_Call_Name_kw (ld_glob I hg hm ?_ hdb)
  refine PySem.W.callWith_K0 I.kIn T.kC ?_
  have I1 := I
  obtain ⟨hp, g, dr, tk, os⟩ := s
  have hsz : hp.objs.size ≤ hp.objs.size + 1 := Nat.le_succ _
  have hn : H (hp.objs.size + 1) = none := I1.hok.fresh hsz
  have hq := q1 (hp.objs.size + 1) hn
  have kk : ∀ b o, hp.get? b = some o → ((hp.push (PySem.W.kdv_tup [])).push (PySem.HandSPX.excO C hp.objs.size)).get? b = some o := fun b o e => Heap.get?_push_of_some _ (Heap.get?_push_of_some _ e)
  have hget : ((hp.push (PySem.W.kdv_tup [])).push (PySem.HandSPX.excO C hp.objs.size)).get? (hp.objs.size + 1) = some (PySem.HandSPX.excO C hp.objs.size) := by heap_get
  have I2 : Inv X pins σ (upd H (hp.objs.size + 1) (exo (hp.objs.size + 1) C none)) ⟨(hp.push (PySem.W.kdv_tup [])).push (PySem.HandSPX.excO C hp.objs.size), g, dr, tk, os⟩ :=
    I1.laid (t' := tk) (a := hp.objs.size + 1) (o := exo (hp.objs.size + 1) C none) (h' := (hp.push (PySem.W.kdv_tup [])).push (PySem.HandSPX.excO C hp.objs.size)) kk hsz (exo_ok hget)
  have r2 : Vals [V.ref (hp.objs.size + 1)] ([Value.ref (hp.objs.size + 1)] ++ []) := .cons rfl .nil
  have hl : ([Value.ref (hp.objs.size + 1)] ++ []).length = ps.length := by
    have e := r2.length
    rw [F1.len _ _ _ _ hq] at e
    exact e.symm
  refine wpAny_call (PySem.HandSPX.call_own F.excBase_ValueError (fun Y => PySem.HandSPX.refsVE_contains Y bm hbm) (I1.kIn _ _ hC) (PySem.W.looks_findIn I1.kIn iC) (fun self => PySem.W.bind_fn I1.kIn self tI) (by show 0 ≤ sizeLine; decide)
    (codeAny_mono (F1.run _ X.stack _ _ ⟨[Value.ref (hp.objs.size + 1)], []⟩ ([Value.ref (hp.objs.size + 1)] ++ []) _ _ (fun _ _ _ => False) (hr.make C [] []) (I2.env0.make C [] []) (hb _ [Value.ref (hp.objs.size + 1)] I2.kIn hl) r2 hq) fun r s' hq' => ?_))
  cases r with
  | error er => exact hx pins σ _ _ er s' I2 hq'
  | ok fl =>
    cases fl with
    | ret u =>
      obtain ⟨v, H2, os2, bare2, un2, hok2, rv, ev, ea, q2⟩ := hq'
      subst ev
      obtain ⟨h2, g2, d2, t2, os'⟩ := s'
      exact ⟨rv, mk_endN (raises_own T.exC T.tyC) I1 hsz kk un2 hok2 os2 bare2 ea q2⟩
    | next => exact False.elim hq'
    | brk => exact False.elim hq'
    | cont => exact False.elim hq'
def raise0S (cn : Str) : FS := fun g => .ex ⟨cn, [], []⟩ g
theorem pts_raise0 (hM : b.M = ⟨X.K, X.mg, Tb⟩) (hc : X.calm = true) (tk : Takes X W) (T : OexC X.K C) (iC : PySem.W.findIn X.K (.ref C) "__init__" = some (some (.ref fI))) (tI : PySem.W.typeIn X.K (.ref fI) = some (.type "function"))
    (F1 : FnOk X.prog X.w X.K X.mg X.base (L2.CX X.prog X.w) 1 fI fd ps (spMk C [])) (hr : Room 2 X.A) (hb : Binds X.K fd ps []) (hg : Gl X x) (hm : X.mg x = some (.ref C))
    (hdb : (x == ("__debug__" : Str)) = false := by decide) :
    PS X (.Raise (some (.Call (.Name x p) [] [] pos)) none rpos) (tSt b W [] (raise0S x)) := ps_mono (ps_raise hc tk (pmk_oex0 T iC tI F1 hr hb passF hg hm hdb)) fun D σ H ⟨Fz, g, r, h⟩ => fun a ha => by
  refine ⟨a, [], rfl, rfl, upd_same, fun _ => ⟨rfl, upd_same, ?_⟩, fun z => absurd rfl z⟩
  have e1 : del (upd H a (exo a C none)) a = H := by
    funext c
    by_cases hc2 : c = a
    · subst hc2; rw [del_same, ha]
    · rw [del_ne hc2, upd_ne hc2]
  rw [e1]
  exact h σ _ _ H Fz r .refl ⟨C, rfl, by rw [hM]; exact hm, .inl ⟨rfl, rfl, rfl⟩⟩
end
end DL

set_option Elab.async false
set_option linter.all false
set_option maxRecDepth 100000
set_option maxHeartbeats 4000000
/-! DenY: try. -/
namespace DL
open PySem L2 PySem.Spec PyProof.Rows

section
variable {X : Cx} {b : B} {W : WX} {i : Nat}
/-- the caught exception ex, of class cls, its dict d, as the suite's entry b holds it -/
structure XHeld (b : B) (ex : Exn) (cls : Value) (d : Option Addr) : Prop where
  cl : ∃ C, cls = .ref C ∧ b.M.mg ex.cls = some (.ref C)
  fl : (ex.ns = [] ∧ ex.ds = [] ∧ d = none) ∨ ∃ dd vs, d = some dd ∧ b.H0 dd = some (.xd (ex.ns.zip vs)) ∧ ex.ns.length = vs.length ∧ RepL b.M b.Fz0 b.H0 ex.ds vs
  oa : ∀ a, b.OA a → ¬ b.Fz0 a ∧ Mut (b.H0 a)
theorem XHeld.ext {ex : Exn} {cls : Value} {d : Option Addr} {Fz : Fzn} {g : Sg} {σ : L2.St} {H : Hp} (h : XHeld b ex cls d) (r : BRel b Fz g σ H) : Ext b.Fz0 b.H0 Fz H := ⟨r.gr.fz, fun a o e q => r.gr.fr a o e fun z => by
  obtain ⟨h1, h2⟩ := h.oa a z
  rcases q with q | q
  · exact h1 q
  · rw [e] at h2; exact q h2⟩
theorem hide_ext {Fz : Fzn} {g : Sg} {σ : L2.St} {H : Hp} (r : BRel b Fz g σ H) : Ext Fz H Fz (hide g σ H) := ⟨fun _ h => h, fun a o h q => .of ((hide_of fun j z => by
  rcases q with q | q
  · exact (r.nst.free j a z).1 q
  · obtain ⟨vs, hv⟩ := NOwn.there r.nst z
    rw [hv] at h; cases h; exact q trivial).trans h)⟩
/-- the entry of a suite -/
noncomputable def suiteB (b : B) (Fz : Fzn) (g : Sg) (σ : L2.St) (H : Hp) (i : Nat) (a : Addr) : B := { rebase b Fz g σ H with px := some (i, a) }
theorem BRel.setRaw (hx : b.px = none) {Fz : Fzn} {g : Sg} {σ : L2.St} {H : Hp} (r : BRel b Fz g σ H) (i : Nat) (v : Option V) : BRel b Fz (g.set i .un) (σ.set i v) H :=
  (r.forget i).congr hx (List.length_set ..) fun j s e n => by
    rcases gset_get e with ⟨_, z⟩ | ⟨z, _⟩
    · exact absurd z n
    · exact List.getElem?_set_ne (Ne.symm z)
theorem suite_rel (hx : b.px = none) {Fz : Fzn} {g : Sg} {σ : L2.St} {H : Hp} {a : Addr} (r : BRel b Fz g σ H) (hi : i < g.length) :
    BRel (suiteB b Fz (g.set i .un) (σ.set i (some (.ref a))) H i a) Fz (g.set i .un) (σ.set i (some (.ref a))) H := by
  have r1 := (r.setRaw hx i (some (.ref a))).rebase
  exact ⟨⟨r1.gr.dom, r1.gr.fz, r1.gr.new, r1.gr.fr, r1.gr.oa, r1.gr.tb⟩, r1.rel, r1.own, r1.pin, fun j c h => by
    have h' : some (i, a) = some (j, c) := h
    cases h'
    exact List.getElem?_set_self (by rw [← r.rel.len]; exact hi), ⟨r1.nst.at_, r1.nst.free, r1.nst.one⟩⟩
theorem suite_back (hx : b.px = none) {Fz Fz' : Fzn} {g g' : Sg} {σ σ' : L2.St} {H H' : Hp} {a : Addr} (r : BRel b Fz g σ H) (r2 : BRel (suiteB b Fz (g.set i .un) (σ.set i (some (.ref a))) H i a) Fz' g' σ' H') (hl : g'.length = g.length) : BRel b Fz' g' σ' H' := by
  refine (r.setRaw hx i (some (.ref a))).debase hx ⟨⟨r2.gr.dom, r2.gr.fz, r2.gr.new, r2.gr.fr, r2.gr.oa, r2.gr.tb⟩, r2.rel, r2.own, r2.pin, (fun _ _ h => nomatch h), ⟨r2.nst.at_, r2.nst.free, r2.nst.one⟩⟩ (by rw [hl, List.length_set])

/-! ### the reading -/
/-- the suite's end: slot i is gone -/
def endX (i n : Nat) : RS → RS
  | .nx g => if g.length = n then .nx (g.set i .un) else .no
  | .bk g => if g.length = n then .bk (g.set i .un) else .no
  | .ct g => if g.length = n then .ct (g.set i .un) else .no
  | .rt d g => if g.length = n then .rt d (g.set i .un) else .no
  | .rf ds g => if g.length = n then .rf ds (g.set i .un) else .no
  | _ => .no
/-- try: body, except c as (slot i): sx; hd tells which class the clause takes -/
def tryF (i : Nat) (hd : Str → Option Bool) (body : FS) (sx : Exn → FS) : FS := fun g => match body g with
  | .ex e g' => match hd e.cls with
    | some true => if i < g'.length then endX i g'.length (sx e (g'.set i .un)) else .no
    | some false => .ex e g'
    | none => .no
  | r => r
theorem pts_try {body suite : List Stmt} {b₀ : Stmt} {n x : Str} {c : Value} {np pos pos' : Pos} {as as2 : List Nat} {f : FS} {sx : Exn → FS} {hd : Str → Option Bool} (hx : b.px = none) (hs : X.stack = X.env :: X.outer) (hf : X.env.frame = some X.env.locals) (hN : X.N.Nodup) (hi : X.N[i]? = some n) (hln : X.env.kindOf n = some .local) (hc : Names X x c) (tk : Takes X W)
    (hM : b.M = ⟨X.K, X.mg, Tb⟩) (hcl : ∀ nm r C, hd nm = some r → X.mg nm = some (.ref C) → PySem.W.exmOne X.K (.ref C) c = some r)
    (hb : ∀ (W : WX) (pn : List (Addr × Obj)) (xe : Value → Shared → Prop), Takes (X.tr pn xe) W → PassesOwn (model X.prog X.w) X.A X.env xe → PSs (X.tr pn xe) body (tSt b W as f))
    (hsu : ∀ (a : Addr) (oe : Obj) (cls : Value) (d : Option Addr) (pn : List (Addr × Obj)) (ex : Exn) (b' : B), Zc cls d oe → (∃ vs, oe.data = .fields vs) → b'.M = ⟨X.K, X.mg, Tb⟩ → b'.px = some (i, a) → XHeld b' ex cls d → PSs (X.suite a ((a, oe) :: pn)) (b₀ :: suite) (tSt b' W0 as2 (sx ex))) :
    PS X (.Try body [.ExceptHandler (some (.Name x np)) (some n) (b₀ :: suite) pos'] [] [] pos) (tSt b W (as ++ i :: as2) (tryF i hd f sx)) := by
  refine ps_mono (ps_try_as (tb := fun W => tSt b W as f) (ts := fun a cls d D σ H => ∃ ex b', b'.M = ⟨X.K, X.mg, Tb⟩ ∧ b'.px = some (i, a) ∧ XHeld b' ex cls d ∧ tSt b' W0 as2 (sx ex) D σ H) hs hf hN hi hln hc tk hb
    (fun a oe cls d pn hz hv => ⟨fun pins s σ H D I ⟨ex, b', h1, h2, h3, h4⟩ => (hsu a oe cls d pn ex b' hz hv h1 h2 h3).run pins s σ H D I h4⟩)) fun D σ H ⟨Fz, g, r, h⟩ => ⟨Fz, g, r, ?_⟩
  unfold tryF at h
  cases hfg : f g with
  | nx g' => rw [hfg] at h; exact fun σ' H' Fz' br go => h σ' H' Fz' br (go.sub fun i z => List.mem_append_left _ z)
  | bk g' => rw [hfg] at h; exact fun σ' H' Fz' br go => h σ' H' Fz' br (go.sub fun i z => List.mem_append_left _ z)
  | ct g' => rw [hfg] at h; exact fun σ' H' Fz' br go => h σ' H' Fz' br (go.sub fun i z => List.mem_append_left _ z)
  | rt d g' => rw [hfg] at h; exact h
  | rf d g' => rw [hfg] at h; exact h
  | no => rw [hfg] at h; exact h
  | ex e g' =>
    rw [hfg] at h
    simp only at h
    intro σ1 cl dx H1 Fz1 r1 go1 ok
    obtain ⟨C, rfl, hmg, hfl⟩ := ok
    cases hh : hd e.cls with
    | none => rw [hh] at h; exact h.elim
    | some q =>
      rw [hh] at h
      have hmg' : X.mg e.cls = some (.ref C) := by rw [hM] at hmg; exact hmg
      refine ⟨q, hcl _ _ _ hh hmg', fun hq a ha => ?_, fun hq => ?_⟩
      · subst hq
        simp only at h
        by_cases hil : i < g'.length
        · rw [if_pos hil] at h
          have r2 := suite_rel (i := i) (a := a) hx r1 hil
          have r1' := r1.setRaw hx i (some (.ref a))
          refine ⟨e, _, (by exact hM : (suiteB b Fz1 (g'.set i .un) (σ1.set i (some (.ref a))) H1 i a).M = _), rfl, ⟨⟨C, rfl, hmg⟩, hfl.imp id (fun ⟨dd, ws, k1, k2, k3, k4⟩ => ⟨dd, ws, k1, ?kd, k3, RepL.mono (hide_ext r1') _ _ k4⟩), fun c ⟨j, o⟩ => ?_⟩, Fz1, _, r2, ?_⟩
          case kd =>
            exact (hide_of fun j z => by
              obtain ⟨vs, hv⟩ := NOwn.there r1'.nst z
              rw [hv] at k2; cases k2).trans k2
          · obtain ⟨s, u, _, nf, hu, w⟩ := r1'.there o
            exact ⟨nf, by
              show Mut (hide _ _ H1 c)
              rw [hide_of fun k z => (r1'.nst.free k c z).2.2 j o, hu]; exact w.mut⟩
          · have go2 : Go [i] σ1 Fz1 H1 (σ1.set i (some (V.ref a))) Fz1 H1 := .set
            have fin : ∀ {σ' : L2.St} {H' : Hp} {Fz' : Fzn} {g3 : Sg}, BRel (suiteB b Fz1 (g'.set i .un) (σ1.set i (some (.ref a))) H1 i a) Fz' g3 σ' H' → g3.length = g'.length → BRel b Fz' (g3.set i .un) (σ'.set i none) H' := fun br hl => (suite_back hx r1 br hl).setRaw hx i none
            have fgo : ∀ {σ' : L2.St} {H' : Hp} {Fz' : Fzn}, Go as2 (σ1.set i (some (.ref a))) Fz1 H1 σ' Fz' H' → Go (as ++ i :: as2) σ Fz H (σ'.set i none) Fz' H' := fun go3 => by
              have z := (go1.trans (go2.trans go3)).trans (Go.set (i := i) (v := none))
              exact z.sub fun j hj => by
                rcases List.mem_append.mp hj with hj | hj
                · rcases List.mem_append.mp hj with hj | hj
                  · exact List.mem_append_left _ hj
                  · exact List.mem_append_right _ hj
                · exact List.mem_append_right _ (List.mem_append_left (bs := as2) (as := [i]) hj)
            cases hsx : sx e (g'.set i .un) with
            | nx g3 =>
              rw [hsx] at h
              dsimp only [endX] at h
              by_cases hl : g3.length = g'.length
              · rw [if_pos hl] at h; exact fun σ' H' Fz' br go3 => h _ H' Fz' (fin br hl) (fgo go3)
              · rw [if_neg hl] at h; exact h.elim
            | bk g3 =>
              rw [hsx] at h
              dsimp only [endX] at h
              by_cases hl : g3.length = g'.length
              · rw [if_pos hl] at h; exact fun σ' H' Fz' br go3 => h _ H' Fz' (fin br hl) (fgo go3)
              · rw [if_neg hl] at h; exact h.elim
            | ct g3 =>
              rw [hsx] at h
              dsimp only [endX] at h
              by_cases hl : g3.length = g'.length
              · rw [if_pos hl] at h; exact fun σ' H' Fz' br go3 => h _ H' Fz' (fin br hl) (fgo go3)
              · rw [if_neg hl] at h; exact h.elim
            | rt d g3 =>
              rw [hsx] at h
              dsimp only [endX] at h
              by_cases hl : g3.length = g'.length
              · rw [if_pos hl] at h; exact fun x σ' H' Fz' br rep => h x _ H' Fz' (fin br hl) rep
              · rw [if_neg hl] at h; exact h.elim
            | rf d g3 =>
              rw [hsx] at h
              dsimp only [endX] at h
              by_cases hl : g3.length = g'.length
              · rw [if_pos hl] at h
                refine fun x σ' H' Fz' br rep => h x _ H' Fz' (fin br hl) ?_
                obtain ⟨p, vs, rfl, h0, nf, hu, no, rr⟩ := rep
                refine ⟨p, vs, rfl, (hide_none h0).elim r1.new0 (fun ⟨j, z⟩ => (r1'.nst.free j p z).2.1), nf, hu, fun j o => ?_, rr⟩
                rcases o with o | o
                rotate_left
                · obtain ⟨dss, a', ws, k1, k2, k3⟩ := o
                  rcases gset_get k1 with ⟨_, z⟩ | ⟨z, k1⟩
                  · cases z
                  · rw [List.getElem?_set_ne (Ne.symm z)] at k2
                    exact no j (.inr ⟨dss, a', ws, k1, k2, k3⟩)
                obtain ⟨⟨s, es, ws⟩, qq⟩ := o
                rcases gset_get es with ⟨_, z⟩ | ⟨z, es⟩
                · rw [z] at ws; cases ws
                · rw [List.getElem?_set_ne (Ne.symm z)] at qq
                  exact no j (.inl ⟨⟨s, es, ws⟩, qq⟩)
              · rw [if_neg hl] at h; exact h.elim
            | ex d g3 => rw [hsx] at h; exact h.elim
            | no => rw [hsx] at h; exact h.elim
        · rw [if_neg hil] at h; exact h.elim
      · subst hq
        exact h σ1 _ dx H1 Fz1 r1 (go1.sub fun i z => List.mem_append_left _ z) ⟨C, rfl, hmg, hfl⟩

/-! ### except c: without a name -/
def noEx : RS → RS
  | .ex _ _ => .no
  | r => r
def tryO (hd : Str → Option Bool) (body s : FS) : FS := fun g => match body g with
  | .ex e g' => match hd e.cls with
    | some true => noEx (s g')
    | some false => .ex e g'
    | none => .no
  | r => r
theorem pts_tryO {body suite : List Stmt} {b₀ : Stmt} {x : Str} {c : Value} {np pos pos' : Pos} {as as2 : List Nat} {f s : FS} {hd : Str → Option Bool} (hs : X.stack = X.env :: X.outer) (hf : X.env.frame = some X.env.locals) (hc : Names X x c) (tk : Takes X W)
    (hM : b.M = ⟨X.K, X.mg, Tb⟩) (hcl : ∀ nm r C, hd nm = some r → X.mg nm = some (.ref C) → PySem.W.exmOne X.K (.ref C) c = some r)
    (hb : ∀ (W : WX) (pn : List (Addr × Obj)) (xe : Value → Shared → Prop), Takes (X.tr pn xe) W → PassesOwn (model X.prog X.w) X.A X.env xe → PSs (X.tr pn xe) body (tSt b W as f))
    (hsu : ∀ (a : Addr) (oe : Obj) (pn : List (Addr × Obj)), PSs (X.suite a ((a, oe) :: pn)) (b₀ :: suite) (tSt b W0 as2 s)) :
    PS X (.Try body [.ExceptHandler (some (.Name x np)) none (b₀ :: suite) pos'] [] [] pos) (tSt b W (as ++ as2) (tryO hd f s)) := by
  refine ps_mono (ps_try_only (tb := fun W => tSt b W as f) (ts := fun a cls d => tSt b W0 as2 s) hs hf hc tk hb (fun a oe cls d pn hz hv => hsu a oe pn)) fun D σ H ⟨Fz, g, r, h⟩ => ⟨Fz, g, r, ?_⟩
  unfold tryO at h
  cases hfg : f g with
  | nx g' => rw [hfg] at h; exact fun σ' H' Fz' br go => h σ' H' Fz' br (go.sub fun i z => List.mem_append_left _ z)
  | bk g' => rw [hfg] at h; exact fun σ' H' Fz' br go => h σ' H' Fz' br (go.sub fun i z => List.mem_append_left _ z)
  | ct g' => rw [hfg] at h; exact fun σ' H' Fz' br go => h σ' H' Fz' br (go.sub fun i z => List.mem_append_left _ z)
  | rt d g' => rw [hfg] at h; exact h
  | rf d g' => rw [hfg] at h; exact h
  | no => rw [hfg] at h; exact h
  | ex e g' =>
    rw [hfg] at h
    simp only at h
    intro σ1 cl dx H1 Fz1 r1 go1 ok
    obtain ⟨C, rfl, hmg, hfl⟩ := ok
    cases hh : hd e.cls with
    | none => rw [hh] at h; exact h.elim
    | some q =>
      rw [hh] at h
      have hmg' : X.mg e.cls = some (.ref C) := by rw [hM] at hmg; exact hmg
      refine ⟨q, hcl _ _ _ hh hmg', fun hq a ha => ?_, fun hq => ?_⟩
      · subst hq
        refine ⟨Fz1, g', r1, ?_⟩
        have h' : PoS b W (as ++ as2) σ Fz H D (noEx (s g')) := h
        cases hs3 : s g' with
        | nx g3 => rw [hs3] at h'; exact fun σ' H' Fz' br go => h' σ' H' Fz' br (go1.trans go)
        | bk g3 => rw [hs3] at h'; exact fun σ' H' Fz' br go => h' σ' H' Fz' br (go1.trans go)
        | ct g3 => rw [hs3] at h'; exact fun σ' H' Fz' br go => h' σ' H' Fz' br (go1.trans go)
        | rt d g3 => rw [hs3] at h'; exact h'
        | rf d g3 => rw [hs3] at h'; exact h'
        | no => rw [hs3] at h'; exact h'
        | ex e3 g3 => rw [hs3] at h'; exact h'.elim
      · subst hq
        exact h σ1 _ dx H1 Fz1 r1 (go1.sub fun i z => List.mem_append_left _ z) ⟨C, rfl, hmg, hfl⟩
end

/-! ### in the suite -/
section
variable {X : Cx} {b : B} {i : Nat} {a : Addr} {oe : Obj} {cls : Value} {d : Option Addr} {pn : List (Addr × Obj)} {ex : Exn} {e : Expr} {pos p : Pos}
def lookD (n : Str) : List Str → List D → Option D
  | m :: ns, d :: ds => if n = m then some d else lookD n ns ds
  | _, _ => none
theorem lookD_ok {M : MM} {Fz : Fzn} {H : Hp} {n : Str} {z : D} : ∀ {ns : List Str} {ds : List D} {vs : List V}, lookD n ns ds = some z → RepL M Fz H ds vs → ∃ v, (ns.zip vs).lookup n = some v ∧ Rep M Fz H z v
  | [], _, _, h, _ => by simp [lookD] at h
  | _ :: _, [], _, h, _ => by simp [lookD] at h
  | m :: ns, d :: ds, vs, h, r => by
    obtain ⟨v, vr, rfl, r1, r2⟩ := RepL.cons_iff.mp r
    unfold lookD at h
    rw [List.zip_cons_cons, lookup_put]
    by_cases c : n = m
    · rw [if_pos c] at h ⊢
      cases h
      exact ⟨v, rfl, r1⟩
    · rw [if_neg c] at h ⊢
      exact lookD_ok h r2
/-- e.n -/
def xfF (cs : List Str) (n : Str) (ex : Exn) : FE := fun g => if ex.cls ∈ cs then opt (lookD n ex.ns ex.ds) g else .no
theorem pd_xf {cs : List Str} {n : Str} (hM : b.M = ⟨X.K, X.mg, Tb⟩) (hp : b.px = some (i, a)) (hh : XHeld b ex cls d) (hz : Zc cls d oe) (hf : ∃ vs, oe.data = .fields vs) (hcs : ∀ c ∈ cs, ∀ C, X.mg c = some (.ref C) → XfC X.K C ∧ PySem.W.findIn X.K (.ref C) n = some none)
    (he : PE (X.suite a ((a, oe) :: pn)) e (tVar i)) (hb : attributeBase e n X.env (eval e X.env) = eval e X.env := by rfl) :
    PE (X.suite a ((a, oe) :: pn)) (.Attribute e n pos) (tE b W0 (xfF cs n ex)) := ⟨fun pins s σ H Q I ⟨Fz, g, r, h⟩ => by
  unfold xfF at h
  by_cases c : ex.cls ∈ cs
  · rw [if_pos c] at h
    obtain ⟨C, rfl, hmg⟩ := hh.cl
    rw [hM] at hmg
    obtain ⟨k1, k2⟩ := hcs _ c C hmg
    obtain ⟨z, ez, h1⟩ := Po.opt h
    have ext := hh.ext r
    rcases hh.fl with ⟨q1, q2, q3⟩ | ⟨dd, vs, rfl, hdd, hl, rr⟩
    · rw [q1, q2] at ez
      cases ez
    · obtain ⟨v, ev, rv⟩ := lookD_ok ez (RepL.mono ext _ _ rr)
      refine (pe_xf k1 k2 hz hf he hb).run pins s σ H Q I ⟨.ref a, r.px i a hp, rfl, rfl, dd, _, v, rfl, ext.st _ _ hdd (.inr fun z => z), ev, h1.ok r .refl rv⟩
  · rw [if_neg c] at h; exact h.elim⟩

/-! isinstance(e, c) -/
end
end DL
namespace PySem.W
open PySem PySem.Spec PySem.Calls PyProof.Rows
section
variable {prog : Program} {w : World} {A : Around} {E : Value → Shared → Prop} {s : Shared} {K : Frag} {x D : Addr} {ox : Obj} {od : Option Obj}
theorem findObj_dataD {C : Addr} {name : Str} {a g : Value} (hc : (clsIn K C).isSome = true) (ha : findIn K (.ref C) name = some (some a)) (hg : specialIn K a "__get__" = some (some g)) (ht : takesIn K a = some true) : findObj K C od name = some (.bind g a) := by
  obtain ⟨cd, hc⟩ := Option.isSome_iff_exists.mp hc
  unfold findObj
  rw [hc, Option.bind_some, ha, Option.bind_some]
  simp [hg, ht]
theorem kin_classD {Q : Option Value → Shared → Prop} (hga : findIn K (.ref D) "__getattribute__" = some (some (.builtin "BaseException.__getattribute__"))) (hgt : findIn K (.ref D) "__getattr__" = some none) (hsub : subIn K (.ref D) (.type "BaseException") = some true)
    (hdct : hasDictIn K D = true) (ha : findIn K (.ref D) "__class__" = some (some (.builtin "object.__class__")))
    (hn : specialIn K (.builtin "object.__class__") "__get__" = some (some (.builtin "getset_descriptor.__get__"))) (htk : takesIn K (.builtin "object.__class__") = some true) (hm : mroIn K D (.type "object") = some true)
    (X : K.In s.heap) (I : InstAt s.heap x ox D od) (h : Q (some (.ref D)) { s with toks := s.toks + 1 }) : wpAny (model prog w) A (getAttr? (.ref x) "__class__") Q E s := by
  have hf : findObj K D od "__class__" = some (.bind (.builtin "getset_descriptor.__get__") (.builtin "object.__class__")) := findObj_dataD (by obtain ⟨cd, hc, _⟩ := any_some hdct; rw [hc]; rfl) ha hn htk
  obtain ⟨hp, g, d, t, os⟩ := s
  have L0 := I.type (M := model prog w)
  have L1 := looks_findIn (M := model prog w) X hga
  have L2 := looks_findIn (M := model prog w) X hgt
  have L3 := looks_find (M := model prog w) X I hf
  have sub : Looks (model prog w) hp (isInstance (.ref x) (.type "BaseException")) true := L0.andThen (looks_subIn X hsub)
  have hx0 : (false && onTheHeap (Value.builtin "BaseException.__getattribute__")) = false := rfl
  have hx2 : (Value.builtin "BaseException.__getattribute__" == Value.builtin "object.__getattribute__") = false := by decide +kernel
  have hx1 : (onTheHeap (Value.ref D) && Value.builtin "BaseException.__getattribute__" == Value.builtin "object.__getattribute__") = false := by rw [hx2]; rfl
  unfold getAttr? getAttrBy? getAttrBy
  refine wpAny_bind (wpAny_mkText (wpAny_bind (wpAny_attempt (wpAny_holding (wpAny_bind (L0.at (wpAny_bind (L1.at ?_))))))))
  show wpAny _ _ (if (onTheHeap (Value.ref D) && Value.builtin "BaseException.__getattribute__" == Value.builtin "object.__getattribute__") = true then _ else _) _ _ _
  rw [hx1, if_neg Bool.false_ne_true]
  unfold getAttrByItsOwn hookBefore
  refine wpAny_bind ?_
  rw [if_pos (show onTheHeap (Value.ref D) = true from rfl)]
  refine L2.at ?_
  refine wpAny_bind (wpAny_attempt (wpAny_holding ?_))
  unfold callGetattribute
  rw [hx0, if_neg Bool.false_ne_true]
  unfold boundAndCalled
  rw [PySem.F.excAttr_ValueError.ga.bind (.ref x)]
  refine wpAny_bind (wpAny_pure ?_)
  show wpAny _ _ (call (.builtin "BaseException.__getattribute__") [.ref x, .str "__class__" t]) _ _ _
  refine wpAny_call (codeAny_call_builtin PySem.F.excAttr_ValueError.ga.plain PySem.F.entry_bexc_ga ?_)
  refine @check_slot (model prog w) _ _ ⟨hp, g, d, t + 1, os⟩ "BaseException.__getattribute__" "BaseException" "__getattribute__" (.ref x) [.str "__class__" t] [] _ (by decide +kernel) (by decide +kernel) sub (PySem.F.args_bexc_ga (.ref x) (.str "__class__" t)) ?_
  unfold Builtin.«object.__getattribute__»
  refine wpAny_bind (wpAny_of_eq (a := ((Value.ref x : Value), [Value.str "__class__" t])) (by first | rfl | (simp only [slotArgs]; rfl)) ?_)
  refine wpAny_bind (wpAny_pure (wpAny_bind (L0.at (wpAny_bind (L3.at ?_)))))
  show wpAny _ _ (holding [Value.builtin "object.__class__"] (call (.builtin "getset_descriptor.__get__") [.builtin "object.__class__", .ref x, .ref D]) >>= ret) _ _ _
  refine wpAny_bind (wpAny_holding (wpAny_call (class_get (s := ⟨hp, g, d, t + 1, os⟩) (ox := ox) (od := od) X I hm ?_)))
  refine wpAny_pure ?_
  show wpAny _ _ (handedOut (.ref D)) _ _ _
  rw [handedOut_of (v := .ref D) rfl]
  first
    | exact wpAny_pure (wpAny_pure h)
    | exact wpAny_pure h
    | exact wpAny_pure (wpAny_bind (wpAny_pure (wpAny_pure h)))
theorem kitx_excD (hga : findIn K (.ref D) "__getattribute__" = some (some (.builtin "BaseException.__getattribute__"))) (hgt : findIn K (.ref D) "__getattr__" = some none) (hsub : subIn K (.ref D) (.type "BaseException") = some true) (hdct : hasDictIn K D = true) (ha : findIn K (.ref D) "__class__" = some (some (.builtin "object.__class__")))
    (hn : specialIn K (.builtin "object.__class__") "__get__" = some (some (.builtin "getset_descriptor.__get__"))) (htk : takesIn K (.builtin "object.__class__") = some true) (hm : mroIn K D (.type "object") = some true) :
    KitX K (.ref x) (.ref D) (fun h => InstAt h x ox D od) where
  ty := fun _ _ _ I => I.type
  it := fun _ _ X _ => by
    obtain ⟨cdD, hcD, _⟩ := any_some hdct
    unfold clsIn at hcD
    split at hcD
    · rename_i c' d' cd' sl' ho
      intro A' Q' E' s' k q
      unfold isType loadHead
      exact wpAny_bind (wpAny_loadPart (k _ _ (X _ _ ho)) (wpAny_pure q))
    · cases hcD
  ne := fun h tp dd its n sl X htp => by
    obtain ⟨cdD, hcD, _⟩ := any_some hdct
    refine Bool.eq_false_iff.mpr fun q => ?_
    have e : D = tp := Value.ref.inj (beq_iff_eq.mp q)
    subst e
    unfold clsIn at hcD
    split at hcD
    · rename_i c' d' cd' sl' ho
      have z := (X _ _ ho).symm.trans htp
      cases z
    · cases hcD
  ca := fun X I k => kin_classD hga hgt hsub hdct ha hn htk hm X I k
end
end PySem.W
namespace DL
open PySem L2 PySem.Spec PyProof.Rows
section
variable {X : Cx} {b : B} {i : Nat} {a : Addr} {oe : Obj} {cls : Value} {d : Option Addr} {pn : List (Addr × Obj)} {ex : Exn} {e e2 : Expr} {pos p : Pos}
def rIsD (K : PySem.W.Frag) (D a : Addr) (d : Option Addr) : List V → Hp → VK → Prop := fun xs H Q => ∃ (c : V) (cv : Value) (r : Bool), xs = [.ref a, c] ∧ (∀ u, RelV c u → u = cv) ∧ PySem.W.kitOne K (.ref D) cv = some r ∧ (∀ dd, d = some dd → ∃ fs, H dd = some (.xd fs)) ∧ Q (.bl r) H
theorem call_isD {D : Addr} (C : ExcC X.K D) (hz : Zc (.ref D) d oe) (hf : ∃ vs, oe.data = .fields vs) : CallR (X.suite a ((a, oe) :: pn)) (.builtin "isinstance") (rIsD X.K D a d) := by
  intro pins s σ H xs us Q I r h
  obtain ⟨c, cv, b, rfl, hcv, e, hd, q⟩ := h
  cases r with
  | cons rx rr =>
    cases rr with
    | cons rt rr =>
      cases rr
      cases rx
      have ec := hcv _ rt
      subst ec
      obtain ⟨hget, _⟩ := I.pin (a, oe) (List.mem_append.mpr (.inl List.mem_cons_self))
      obtain ⟨vs, hv⟩ := hf
      have J : ∃ od, PySem.W.InstAt s.heap a oe D od := by
        cases d with
        | none => exact ⟨none, hget, hz.1, by unfold PySem.W.notCls; rw [hv] <;> rfl, by rw [hz.2]; trivial⟩
        | some dd =>
          obtain ⟨fs, hx⟩ := hd dd rfl
          have ho : ObjOk X.prog X.w H s.heap dd (.xd fs) := I.hok dd _ hx
          obtain ⟨mA, hns, hr⟩ := ho
          obtain ⟨od, ho, hl⟩ := lookIn_ns hns
          exact ⟨some od, hget, hz.1, by unfold PySem.W.notCls; rw [hv] <;> rfl, by rw [hz.2]; exact ho⟩
      obtain ⟨od, J⟩ := J
      exact PySem.W.kia_one (PySem.W.kitx_excD C.hg C.hk C.hs C.hd C.ha C.hn C.ht C.hm) I.kIn J e (fun z => nomatch z) fun tk => ⟨.bl b, H, I.kept (t' := tk) fun _ _ z => z, rfl, q⟩
/-- isinstance(e, c): by the class's name -/
def isxF (tb : List (Str × Bool)) (ex : Exn) : FE := fun g => opt ((tb.lookup ex.cls).map D.bl) g
theorem pd_isx {tb : List (Str × Bool)} {c : V} {cv : Value} (hM : b.M = ⟨X.K, X.mg, Tb⟩) (hp : b.px = some (i, a)) (hh : XHeld b ex cls d) (hz : Zc cls d oe) (hf : ∃ vs, oe.data = .fields vs)
    (htb : ∀ q ∈ tb, ∀ C, X.mg q.1 = some (.ref C) → ExcC X.K C ∧ PySem.W.kitOne X.K (.ref C) cv = some q.2) (hcv : ∀ u, RelV c u → u = cv)
    (hg : Gl X "isinstance") (hm : X.mg "isinstance" = none) (h1 : PE (X.suite a ((a, oe) :: pn)) e (tVar i)) (h2 : PE (X.suite a ((a, oe) :: pn)) e2 (tC c))
    (hs1 : starEach (e2 :: []) X.env = (false, eval e2 X.env) :: starEach [] X.env := by rfl) (he : starEach (e :: [e2]) X.env = (false, eval e X.env) :: starEach [e2] X.env := by rfl) (hpl : (backTo pos (starEach [e2] X.env)).any (·.1) = false := by rfl) :
    PE (X.suite a ((a, oe) :: pn)) (.Call (.Name "isinstance" p) [e, e2] [] pos) (tE b W0 (isxF tb ex)) := ⟨fun pins s σ H Q I ⟨Fz, g, r, h⟩ => by
  unfold isxF at h
  obtain ⟨z, ez, h1'⟩ := Po.opt h
  obtain ⟨r', er, rfl⟩ := Option.map_eq_some_iff.mp ez
  obtain ⟨C, rfl, hmg⟩ := hh.cl
  rw [hM] at hmg
  have mem : (ex.cls, r') ∈ tb := PySem.mem_of_lookup er
  obtain ⟨k1, k2⟩ := htb _ mem C hmg
  have ext := hh.ext r
  refine (pe_callB (X := X.suite a ((a, oe) :: pn)) (call_isD k1 hz hf) hg hm (by decide +kernel) (pa_cons h1 (pa_cons h2 pa_nil hs1) he) (by decide) (by decide) he hpl).run pins s σ H Q I ⟨.ref a, r.px i a hp, c, cv, r', rfl, hcv, k2, fun dd hd => ?_, h1'.ok r .refl rep_bl⟩
  rcases hh.fl with ⟨q1, q2, q3⟩ | ⟨dd', vs, e1, hdd, hl, rr⟩
  · rw [q3] at hd; cases hd
  · rw [hd] at e1
    cases e1
    exact ⟨_, ext.st _ _ hdd (.inr fun z => z)⟩⟩
end
end DL
namespace DL
open PySem L2 PySem.Spec PyProof.Rows
/-- a clause's table, by the classes' names -/
def hdT (l : List (Str × Bool)) (nm : Str) : Option Bool := l.lookup nm
theorem hdT_ok {K : PySem.W.Frag} {mg : Str → Option Value} {c : Value} {l : List (Str × Bool)} (h : ∀ q ∈ l, ∀ C, mg q.1 = some (.ref C) → PySem.W.exmOne K (.ref C) c = some q.2) : ∀ nm r C, hdT l nm = some r → mg nm = some (.ref C) → PySem.W.exmOne K (.ref C) c = some r := fun nm r C e hm => h (nm, r) (PySem.mem_of_lookup e) C hm
theorem pxne {b : B} {i j : Nat} {a : Addr} (h : b.px = some (i, a)) (n : j ≠ i) : PxOk b j := fun c z => by
  rw [h] at z
  cases z
  exact n rfl
theorem skip_pss {X : Cx} {sts : List Stmt} {t : TS} (h : PSs X sts t) : PSs X sts (tSeq tNext t) := pss_mono h fun _ _ _ q => q
end DL

set_option Elab.async false
set_option linter.all false
set_option maxRecDepth 100000
set_option maxHeartbeats 4000000
/-! DenZ: shorthands (printed by mkz.py). -/
namespace DL
open PySem L2 PySem.Spec PyProof.Rows
section
variable {X : Cx} {b : B} {W : WX} {e1 e2 e3 : Expr} {f1 f2 f3 : FE} {g1 g2 : Sg → R AV} {pos : Pos} {k : Nat}
theorem castO {M M' : MM} {r : R2} {o : D → D → Option D} (h : M = M') (q : OpT M' r o) : OpT M r o := by rw [h]; exact q
theorem q_add (hM : b.M = ⟨X.K, X.mg, Tb⟩) (h1 : PE X e1 (tE b W f1)) (h2 : PE X e2 (tE b W f2)) : PE X (.BinOp e1 .Add e2 pos) (tE b W (op2F addD f1 f2)) := pd_op op_addA (castO hM opt_add) h1 h2
theorem v_add (hM : b.M = ⟨X.K, X.mg, Tb⟩) (h1 : PE X e1 (tA1 b W g1)) (h2 : PE X e2 (tA1 b W g2)) : PE X (.BinOp e1 .Add e2 pos) (tE b W (op2V addD g1 g2)) := pd_opV op_addA (castO hM opt_add) h1 h2
theorem q_sub (hM : b.M = ⟨X.K, X.mg, Tb⟩) (h1 : PE X e1 (tE b W f1)) (h2 : PE X e2 (tE b W f2)) : PE X (.BinOp e1 .Sub e2 pos) (tE b W (op2F subD f1 f2)) := pd_op op_sub (castO hM opt_sub) h1 h2
theorem v_sub (hM : b.M = ⟨X.K, X.mg, Tb⟩) (h1 : PE X e1 (tA1 b W g1)) (h2 : PE X e2 (tA1 b W g2)) : PE X (.BinOp e1 .Sub e2 pos) (tE b W (op2V subD g1 g2)) := pd_opV op_sub (castO hM opt_sub) h1 h2
theorem q_mul (hM : b.M = ⟨X.K, X.mg, Tb⟩) (h1 : PE X e1 (tE b W f1)) (h2 : PE X e2 (tE b W f2)) : PE X (.BinOp e1 .Mult e2 pos) (tE b W (op2F mulD f1 f2)) := pd_op op_mulA (castO hM opt_mul) h1 h2
theorem v_mul (hM : b.M = ⟨X.K, X.mg, Tb⟩) (h1 : PE X e1 (tA1 b W g1)) (h2 : PE X e2 (tA1 b W g2)) : PE X (.BinOp e1 .Mult e2 pos) (tE b W (op2V mulD g1 g2)) := pd_opV op_mulA (castO hM opt_mul) h1 h2
theorem q_fdiv (hM : b.M = ⟨X.K, X.mg, Tb⟩) (h1 : PE X e1 (tE b W f1)) (h2 : PE X e2 (tE b W f2)) : PE X (.BinOp e1 .FloorDiv e2 pos) (tE b W (op2F fdivD f1 f2)) := pd_op op_fdivL (castO hM opt_fdiv) h1 h2
theorem v_fdiv (hM : b.M = ⟨X.K, X.mg, Tb⟩) (h1 : PE X e1 (tA1 b W g1)) (h2 : PE X e2 (tA1 b W g2)) : PE X (.BinOp e1 .FloorDiv e2 pos) (tE b W (op2V fdivD g1 g2)) := pd_opV op_fdivL (castO hM opt_fdiv) h1 h2
theorem q_mod (hM : b.M = ⟨X.K, X.mg, Tb⟩) (h1 : PE X e1 (tE b W f1)) (h2 : PE X e2 (tE b W f2)) : PE X (.BinOp e1 .Mod e2 pos) (tE b W (op2F modD f1 f2)) := pd_op op_modN (castO hM opt_mod) h1 h2
theorem v_mod (hM : b.M = ⟨X.K, X.mg, Tb⟩) (h1 : PE X e1 (tA1 b W g1)) (h2 : PE X e2 (tA1 b W g2)) : PE X (.BinOp e1 .Mod e2 pos) (tE b W (op2V modD g1 g2)) := pd_opV op_modN (castO hM opt_mod) h1 h2
theorem q_pow (hM : b.M = ⟨X.K, X.mg, Tb⟩) (h1 : PE X e1 (tE b W f1)) (h2 : PE X e2 (tE b W f2)) : PE X (.BinOp e1 .Pow e2 pos) (tE b W (op2F powD f1 f2)) := pd_op op_pow (castO hM opt_pow) h1 h2
theorem v_pow (hM : b.M = ⟨X.K, X.mg, Tb⟩) (h1 : PE X e1 (tA1 b W g1)) (h2 : PE X e2 (tA1 b W g2)) : PE X (.BinOp e1 .Pow e2 pos) (tE b W (op2V powD g1 g2)) := pd_opV op_pow (castO hM opt_pow) h1 h2
theorem q_shl (hM : b.M = ⟨X.K, X.mg, Tb⟩) (h1 : PE X e1 (tE b W f1)) (h2 : PE X e2 (tE b W f2)) : PE X (.BinOp e1 .LShift e2 pos) (tE b W (op2F shlD f1 f2)) := pd_op op_shl (castO hM opt_shl) h1 h2
theorem v_shl (hM : b.M = ⟨X.K, X.mg, Tb⟩) (h1 : PE X e1 (tA1 b W g1)) (h2 : PE X e2 (tA1 b W g2)) : PE X (.BinOp e1 .LShift e2 pos) (tE b W (op2V shlD g1 g2)) := pd_opV op_shl (castO hM opt_shl) h1 h2
theorem q_shr (hM : b.M = ⟨X.K, X.mg, Tb⟩) (h1 : PE X e1 (tE b W f1)) (h2 : PE X e2 (tE b W f2)) : PE X (.BinOp e1 .RShift e2 pos) (tE b W (op2F shrD f1 f2)) := pd_op op_shr (castO hM opt_shr) h1 h2
theorem v_shr (hM : b.M = ⟨X.K, X.mg, Tb⟩) (h1 : PE X e1 (tA1 b W g1)) (h2 : PE X e2 (tA1 b W g2)) : PE X (.BinOp e1 .RShift e2 pos) (tE b W (op2V shrD g1 g2)) := pd_opV op_shr (castO hM opt_shr) h1 h2
theorem q_band (hM : b.M = ⟨X.K, X.mg, Tb⟩) (h1 : PE X e1 (tE b W f1)) (h2 : PE X e2 (tE b W f2)) : PE X (.BinOp e1 .BitAnd e2 pos) (tE b W (op2F andD f1 f2)) := pd_op op_and (castO hM opt_and) h1 h2
theorem v_band (hM : b.M = ⟨X.K, X.mg, Tb⟩) (h1 : PE X e1 (tA1 b W g1)) (h2 : PE X e2 (tA1 b W g2)) : PE X (.BinOp e1 .BitAnd e2 pos) (tE b W (op2V andD g1 g2)) := pd_opV op_and (castO hM opt_and) h1 h2
theorem q_bor (hM : b.M = ⟨X.K, X.mg, Tb⟩) (h1 : PE X e1 (tE b W f1)) (h2 : PE X e2 (tE b W f2)) : PE X (.BinOp e1 .BitOr e2 pos) (tE b W (op2F orD f1 f2)) := pd_op op_or (castO hM opt_or) h1 h2
theorem v_bor (hM : b.M = ⟨X.K, X.mg, Tb⟩) (h1 : PE X e1 (tA1 b W g1)) (h2 : PE X e2 (tA1 b W g2)) : PE X (.BinOp e1 .BitOr e2 pos) (tE b W (op2V orD g1 g2)) := pd_opV op_or (castO hM opt_or) h1 h2
theorem q_bxor (hM : b.M = ⟨X.K, X.mg, Tb⟩) (h1 : PE X e1 (tE b W f1)) (h2 : PE X e2 (tE b W f2)) : PE X (.BinOp e1 .BitXor e2 pos) (tE b W (op2F xorD f1 f2)) := pd_op op_xor (castO hM opt_xor) h1 h2
theorem v_bxor (hM : b.M = ⟨X.K, X.mg, Tb⟩) (h1 : PE X e1 (tA1 b W g1)) (h2 : PE X e2 (tA1 b W g2)) : PE X (.BinOp e1 .BitXor e2 pos) (tE b W (op2V xorD g1 g2)) := pd_opV op_xor (castO hM opt_xor) h1 h2
theorem q_lt (hM : b.M = ⟨X.K, X.mg, Tb⟩) (h1 : PE X e1 (tE b W f1)) (h2 : PE X e2 (tE b W f2)) (hm : behindInMarks .Lt e2 = false := by first | exact nobehind _ (by decide) (by decide) | rfl) : PE X (.Compare e1 [.Lt] [e2] pos) (tE b W (op2F ltD f1 f2)) := pd_cmp (op_lt) (castO hM opt_lt) h1 h2 hm
theorem v_lt (hM : b.M = ⟨X.K, X.mg, Tb⟩) (h1 : PE X e1 (tA1 b W g1)) (h2 : PE X e2 (tA1 b W g2)) (hm : behindInMarks .Lt e2 = false := by first | exact nobehind _ (by decide) (by decide) | rfl) : PE X (.Compare e1 [.Lt] [e2] pos) (tE b W (op2V ltD g1 g2)) := pd_cmpV (op_lt) (castO hM opt_lt) h1 h2 hm
theorem qt_lt (hM : b.M = ⟨X.K, X.mg, Tb⟩) (h1 : PE X e1 (tE b W f1)) (h2 : PE X e2 (tE b W f2)) (hm : behindInMarks .Lt e2 = false := by first | exact nobehind _ (by decide) (by decide) | rfl) : PT X (.Compare e1 [.Lt] [e2] pos) (tBo b W (tstF (op2F ltD f1 f2))) := pt_cmpD (op_lt) (castO hM opt_lt) h1 h2 hm
theorem vt_lt (hM : b.M = ⟨X.K, X.mg, Tb⟩) (h1 : PE X e1 (tA1 b W g1)) (h2 : PE X e2 (tA1 b W g2)) (hm : behindInMarks .Lt e2 = false := by first | exact nobehind _ (by decide) (by decide) | rfl) : PT X (.Compare e1 [.Lt] [e2] pos) (tBo b W (tstF (op2V ltD g1 g2))) := pt_cmpDV (op_lt) (castO hM opt_lt) h1 h2 hm
theorem q_le (hM : b.M = ⟨X.K, X.mg, Tb⟩) (h1 : PE X e1 (tE b W f1)) (h2 : PE X e2 (tE b W f2)) (hm : behindInMarks .LtE e2 = false := by first | exact nobehind _ (by decide) (by decide) | rfl) : PE X (.Compare e1 [.LtE] [e2] pos) (tE b W (op2F leD f1 f2)) := pd_cmp (op_le) (castO hM opt_le) h1 h2 hm
theorem v_le (hM : b.M = ⟨X.K, X.mg, Tb⟩) (h1 : PE X e1 (tA1 b W g1)) (h2 : PE X e2 (tA1 b W g2)) (hm : behindInMarks .LtE e2 = false := by first | exact nobehind _ (by decide) (by decide) | rfl) : PE X (.Compare e1 [.LtE] [e2] pos) (tE b W (op2V leD g1 g2)) := pd_cmpV (op_le) (castO hM opt_le) h1 h2 hm
theorem qt_le (hM : b.M = ⟨X.K, X.mg, Tb⟩) (h1 : PE X e1 (tE b W f1)) (h2 : PE X e2 (tE b W f2)) (hm : behindInMarks .LtE e2 = false := by first | exact nobehind _ (by decide) (by decide) | rfl) : PT X (.Compare e1 [.LtE] [e2] pos) (tBo b W (tstF (op2F leD f1 f2))) := pt_cmpD (op_le) (castO hM opt_le) h1 h2 hm
theorem vt_le (hM : b.M = ⟨X.K, X.mg, Tb⟩) (h1 : PE X e1 (tA1 b W g1)) (h2 : PE X e2 (tA1 b W g2)) (hm : behindInMarks .LtE e2 = false := by first | exact nobehind _ (by decide) (by decide) | rfl) : PT X (.Compare e1 [.LtE] [e2] pos) (tBo b W (tstF (op2V leD g1 g2))) := pt_cmpDV (op_le) (castO hM opt_le) h1 h2 hm
theorem q_gt (hM : b.M = ⟨X.K, X.mg, Tb⟩) (h1 : PE X e1 (tE b W f1)) (h2 : PE X e2 (tE b W f2)) (hm : behindInMarks .Gt e2 = false := by first | exact nobehind _ (by decide) (by decide) | rfl) : PE X (.Compare e1 [.Gt] [e2] pos) (tE b W (op2F gtD f1 f2)) := pd_cmp (op_gt) (castO hM opt_gt) h1 h2 hm
theorem v_gt (hM : b.M = ⟨X.K, X.mg, Tb⟩) (h1 : PE X e1 (tA1 b W g1)) (h2 : PE X e2 (tA1 b W g2)) (hm : behindInMarks .Gt e2 = false := by first | exact nobehind _ (by decide) (by decide) | rfl) : PE X (.Compare e1 [.Gt] [e2] pos) (tE b W (op2V gtD g1 g2)) := pd_cmpV (op_gt) (castO hM opt_gt) h1 h2 hm
theorem qt_gt (hM : b.M = ⟨X.K, X.mg, Tb⟩) (h1 : PE X e1 (tE b W f1)) (h2 : PE X e2 (tE b W f2)) (hm : behindInMarks .Gt e2 = false := by first | exact nobehind _ (by decide) (by decide) | rfl) : PT X (.Compare e1 [.Gt] [e2] pos) (tBo b W (tstF (op2F gtD f1 f2))) := pt_cmpD (op_gt) (castO hM opt_gt) h1 h2 hm
theorem vt_gt (hM : b.M = ⟨X.K, X.mg, Tb⟩) (h1 : PE X e1 (tA1 b W g1)) (h2 : PE X e2 (tA1 b W g2)) (hm : behindInMarks .Gt e2 = false := by first | exact nobehind _ (by decide) (by decide) | rfl) : PT X (.Compare e1 [.Gt] [e2] pos) (tBo b W (tstF (op2V gtD g1 g2))) := pt_cmpDV (op_gt) (castO hM opt_gt) h1 h2 hm
theorem q_ge (hM : b.M = ⟨X.K, X.mg, Tb⟩) (h1 : PE X e1 (tE b W f1)) (h2 : PE X e2 (tE b W f2)) (hm : behindInMarks .GtE e2 = false := by first | exact nobehind _ (by decide) (by decide) | rfl) : PE X (.Compare e1 [.GtE] [e2] pos) (tE b W (op2F geD f1 f2)) := pd_cmp (op_ge) (castO hM opt_ge) h1 h2 hm
theorem v_ge (hM : b.M = ⟨X.K, X.mg, Tb⟩) (h1 : PE X e1 (tA1 b W g1)) (h2 : PE X e2 (tA1 b W g2)) (hm : behindInMarks .GtE e2 = false := by first | exact nobehind _ (by decide) (by decide) | rfl) : PE X (.Compare e1 [.GtE] [e2] pos) (tE b W (op2V geD g1 g2)) := pd_cmpV (op_ge) (castO hM opt_ge) h1 h2 hm
theorem qt_ge (hM : b.M = ⟨X.K, X.mg, Tb⟩) (h1 : PE X e1 (tE b W f1)) (h2 : PE X e2 (tE b W f2)) (hm : behindInMarks .GtE e2 = false := by first | exact nobehind _ (by decide) (by decide) | rfl) : PT X (.Compare e1 [.GtE] [e2] pos) (tBo b W (tstF (op2F geD f1 f2))) := pt_cmpD (op_ge) (castO hM opt_ge) h1 h2 hm
theorem vt_ge (hM : b.M = ⟨X.K, X.mg, Tb⟩) (h1 : PE X e1 (tA1 b W g1)) (h2 : PE X e2 (tA1 b W g2)) (hm : behindInMarks .GtE e2 = false := by first | exact nobehind _ (by decide) (by decide) | rfl) : PT X (.Compare e1 [.GtE] [e2] pos) (tBo b W (tstF (op2V geD g1 g2))) := pt_cmpDV (op_ge) (castO hM opt_ge) h1 h2 hm
theorem q_eq (hM : b.M = ⟨X.K, X.mg, Tb⟩) (hr : Room k X.A) (h1 : PE X e1 (tE b W f1)) (h2 : PE X e2 (tE b W f2)) (hm : behindInMarks .Eq e2 = false := by first | exact nobehind _ (by decide) (by decide) | rfl) : PE X (.Compare e1 [.Eq] [e2] pos) (tE b W (op2F eqD f1 f2)) := pd_cmp (op_eqR hr) (castO hM opt_eq) h1 h2 hm
theorem v_eq (hM : b.M = ⟨X.K, X.mg, Tb⟩) (hr : Room k X.A) (h1 : PE X e1 (tA1 b W g1)) (h2 : PE X e2 (tA1 b W g2)) (hm : behindInMarks .Eq e2 = false := by first | exact nobehind _ (by decide) (by decide) | rfl) : PE X (.Compare e1 [.Eq] [e2] pos) (tE b W (op2V eqD g1 g2)) := pd_cmpV (op_eqR hr) (castO hM opt_eq) h1 h2 hm
theorem qt_eq (hM : b.M = ⟨X.K, X.mg, Tb⟩) (hr : Room k X.A) (h1 : PE X e1 (tE b W f1)) (h2 : PE X e2 (tE b W f2)) (hm : behindInMarks .Eq e2 = false := by first | exact nobehind _ (by decide) (by decide) | rfl) : PT X (.Compare e1 [.Eq] [e2] pos) (tBo b W (tstF (op2F eqD f1 f2))) := pt_cmpD (op_eqR hr) (castO hM opt_eq) h1 h2 hm
theorem vt_eq (hM : b.M = ⟨X.K, X.mg, Tb⟩) (hr : Room k X.A) (h1 : PE X e1 (tA1 b W g1)) (h2 : PE X e2 (tA1 b W g2)) (hm : behindInMarks .Eq e2 = false := by first | exact nobehind _ (by decide) (by decide) | rfl) : PT X (.Compare e1 [.Eq] [e2] pos) (tBo b W (tstF (op2V eqD g1 g2))) := pt_cmpDV (op_eqR hr) (castO hM opt_eq) h1 h2 hm
theorem q_ne (hM : b.M = ⟨X.K, X.mg, Tb⟩) (hr : Room k X.A) (h1 : PE X e1 (tE b W f1)) (h2 : PE X e2 (tE b W f2)) (hm : behindInMarks .NotEq e2 = false := by first | exact nobehind _ (by decide) (by decide) | rfl) : PE X (.Compare e1 [.NotEq] [e2] pos) (tE b W (op2F neD f1 f2)) := pd_cmp (op_neR hr) (castO hM opt_ne) h1 h2 hm
theorem v_ne (hM : b.M = ⟨X.K, X.mg, Tb⟩) (hr : Room k X.A) (h1 : PE X e1 (tA1 b W g1)) (h2 : PE X e2 (tA1 b W g2)) (hm : behindInMarks .NotEq e2 = false := by first | exact nobehind _ (by decide) (by decide) | rfl) : PE X (.Compare e1 [.NotEq] [e2] pos) (tE b W (op2V neD g1 g2)) := pd_cmpV (op_neR hr) (castO hM opt_ne) h1 h2 hm
theorem qt_ne (hM : b.M = ⟨X.K, X.mg, Tb⟩) (hr : Room k X.A) (h1 : PE X e1 (tE b W f1)) (h2 : PE X e2 (tE b W f2)) (hm : behindInMarks .NotEq e2 = false := by first | exact nobehind _ (by decide) (by decide) | rfl) : PT X (.Compare e1 [.NotEq] [e2] pos) (tBo b W (tstF (op2F neD f1 f2))) := pt_cmpD (op_neR hr) (castO hM opt_ne) h1 h2 hm
theorem vt_ne (hM : b.M = ⟨X.K, X.mg, Tb⟩) (hr : Room k X.A) (h1 : PE X e1 (tA1 b W g1)) (h2 : PE X e2 (tA1 b W g2)) (hm : behindInMarks .NotEq e2 = false := by first | exact nobehind _ (by decide) (by decide) | rfl) : PT X (.Compare e1 [.NotEq] [e2] pos) (tBo b W (tstF (op2V neD g1 g2))) := pt_cmpDV (op_neR hr) (castO hM opt_ne) h1 h2 hm
theorem q_in (hM : b.M = ⟨X.K, X.mg, Tb⟩) (hr : Room k X.A) (h1 : PE X e1 (tE b W f1)) (h2 : PE X e2 (tE b W f2)) (hm : behindInMarks .In e2 = false := by first | exact nobehind _ (by decide) (by decide) | rfl) : PE X (.Compare e1 [.In] [e2] pos) (tE b W (op2F inD f1 f2)) := pd_cmp (op_inR hr) (castO hM opt_in) h1 h2 hm
theorem v_in (hM : b.M = ⟨X.K, X.mg, Tb⟩) (hr : Room k X.A) (h1 : PE X e1 (tA1 b W g1)) (h2 : PE X e2 (tA1 b W g2)) (hm : behindInMarks .In e2 = false := by first | exact nobehind _ (by decide) (by decide) | rfl) : PE X (.Compare e1 [.In] [e2] pos) (tE b W (op2V inD g1 g2)) := pd_cmpV (op_inR hr) (castO hM opt_in) h1 h2 hm
theorem qt_in (hM : b.M = ⟨X.K, X.mg, Tb⟩) (hr : Room k X.A) (h1 : PE X e1 (tE b W f1)) (h2 : PE X e2 (tE b W f2)) (hm : behindInMarks .In e2 = false := by first | exact nobehind _ (by decide) (by decide) | rfl) : PT X (.Compare e1 [.In] [e2] pos) (tBo b W (tstF (op2F inD f1 f2))) := pt_cmpD (op_inR hr) (castO hM opt_in) h1 h2 hm
theorem vt_in (hM : b.M = ⟨X.K, X.mg, Tb⟩) (hr : Room k X.A) (h1 : PE X e1 (tA1 b W g1)) (h2 : PE X e2 (tA1 b W g2)) (hm : behindInMarks .In e2 = false := by first | exact nobehind _ (by decide) (by decide) | rfl) : PT X (.Compare e1 [.In] [e2] pos) (tBo b W (tstF (op2V inD g1 g2))) := pt_cmpDV (op_inR hr) (castO hM opt_in) h1 h2 hm
theorem q_notin (hM : b.M = ⟨X.K, X.mg, Tb⟩) (hr : Room k X.A) (h1 : PE X e1 (tE b W f1)) (h2 : PE X e2 (tE b W f2)) (hm : behindInMarks .NotIn e2 = false := by first | exact nobehind _ (by decide) (by decide) | rfl) : PE X (.Compare e1 [.NotIn] [e2] pos) (tE b W (op2F notInD f1 f2)) := pd_cmp (op_notInR hr) (castO hM opt_notIn) h1 h2 hm
theorem v_notin (hM : b.M = ⟨X.K, X.mg, Tb⟩) (hr : Room k X.A) (h1 : PE X e1 (tA1 b W g1)) (h2 : PE X e2 (tA1 b W g2)) (hm : behindInMarks .NotIn e2 = false := by first | exact nobehind _ (by decide) (by decide) | rfl) : PE X (.Compare e1 [.NotIn] [e2] pos) (tE b W (op2V notInD g1 g2)) := pd_cmpV (op_notInR hr) (castO hM opt_notIn) h1 h2 hm
theorem qt_notin (hM : b.M = ⟨X.K, X.mg, Tb⟩) (hr : Room k X.A) (h1 : PE X e1 (tE b W f1)) (h2 : PE X e2 (tE b W f2)) (hm : behindInMarks .NotIn e2 = false := by first | exact nobehind _ (by decide) (by decide) | rfl) : PT X (.Compare e1 [.NotIn] [e2] pos) (tBo b W (tstF (op2F notInD f1 f2))) := pt_cmpD (op_notInR hr) (castO hM opt_notIn) h1 h2 hm
theorem vt_notin (hM : b.M = ⟨X.K, X.mg, Tb⟩) (hr : Room k X.A) (h1 : PE X e1 (tA1 b W g1)) (h2 : PE X e2 (tA1 b W g2)) (hm : behindInMarks .NotIn e2 = false := by first | exact nobehind _ (by decide) (by decide) | rfl) : PT X (.Compare e1 [.NotIn] [e2] pos) (tBo b W (tstF (op2V notInD g1 g2))) := pt_cmpDV (op_notInR hr) (castO hM opt_notIn) h1 h2 hm
theorem q_is (hM : b.M = ⟨X.K, X.mg, Tb⟩) (h1 : PE X e1 (tE b W f1)) (h2 : PE X e2 (tE b W f2)) (hm : behindInMarks .Is e2 = false := by first | exact nobehind _ (by decide) (by decide) | rfl) : PE X (.Compare e1 [.Is] [e2] pos) (tE b W (op2F isD f1 f2)) := pd_cmp (op_isN) (castO hM opt_is) h1 h2 hm
theorem v_is (hM : b.M = ⟨X.K, X.mg, Tb⟩) (h1 : PE X e1 (tA1 b W g1)) (h2 : PE X e2 (tA1 b W g2)) (hm : behindInMarks .Is e2 = false := by first | exact nobehind _ (by decide) (by decide) | rfl) : PE X (.Compare e1 [.Is] [e2] pos) (tE b W (op2V isD g1 g2)) := pd_cmpV (op_isN) (castO hM opt_is) h1 h2 hm
theorem qt_is (hM : b.M = ⟨X.K, X.mg, Tb⟩) (h1 : PE X e1 (tE b W f1)) (h2 : PE X e2 (tE b W f2)) (hm : behindInMarks .Is e2 = false := by first | exact nobehind _ (by decide) (by decide) | rfl) : PT X (.Compare e1 [.Is] [e2] pos) (tBo b W (tstF (op2F isD f1 f2))) := pt_cmpD (op_isN) (castO hM opt_is) h1 h2 hm
theorem vt_is (hM : b.M = ⟨X.K, X.mg, Tb⟩) (h1 : PE X e1 (tA1 b W g1)) (h2 : PE X e2 (tA1 b W g2)) (hm : behindInMarks .Is e2 = false := by first | exact nobehind _ (by decide) (by decide) | rfl) : PT X (.Compare e1 [.Is] [e2] pos) (tBo b W (tstF (op2V isD g1 g2))) := pt_cmpDV (op_isN) (castO hM opt_is) h1 h2 hm
theorem q_isnot (hM : b.M = ⟨X.K, X.mg, Tb⟩) (h1 : PE X e1 (tE b W f1)) (h2 : PE X e2 (tE b W f2)) (hm : behindInMarks .IsNot e2 = false := by first | exact nobehind _ (by decide) (by decide) | rfl) : PE X (.Compare e1 [.IsNot] [e2] pos) (tE b W (op2F isNotD f1 f2)) := pd_cmp (op_notN) (castO hM opt_isNot) h1 h2 hm
theorem v_isnot (hM : b.M = ⟨X.K, X.mg, Tb⟩) (h1 : PE X e1 (tA1 b W g1)) (h2 : PE X e2 (tA1 b W g2)) (hm : behindInMarks .IsNot e2 = false := by first | exact nobehind _ (by decide) (by decide) | rfl) : PE X (.Compare e1 [.IsNot] [e2] pos) (tE b W (op2V isNotD g1 g2)) := pd_cmpV (op_notN) (castO hM opt_isNot) h1 h2 hm
theorem qt_isnot (hM : b.M = ⟨X.K, X.mg, Tb⟩) (h1 : PE X e1 (tE b W f1)) (h2 : PE X e2 (tE b W f2)) (hm : behindInMarks .IsNot e2 = false := by first | exact nobehind _ (by decide) (by decide) | rfl) : PT X (.Compare e1 [.IsNot] [e2] pos) (tBo b W (tstF (op2F isNotD f1 f2))) := pt_cmpD (op_notN) (castO hM opt_isNot) h1 h2 hm
theorem vt_isnot (hM : b.M = ⟨X.K, X.mg, Tb⟩) (h1 : PE X e1 (tA1 b W g1)) (h2 : PE X e2 (tA1 b W g2)) (hm : behindInMarks .IsNot e2 = false := by first | exact nobehind _ (by decide) (by decide) | rfl) : PT X (.Compare e1 [.IsNot] [e2] pos) (tBo b W (tstF (op2V isNotD g1 g2))) := pt_cmpDV (op_notN) (castO hM opt_isNot) h1 h2 hm
theorem q_lt_lt (hM : b.M = ⟨X.K, X.mg, Tb⟩) (h1 : PE X e1 (tE b W f1)) (h2 : PE X e2 (tE b W f2)) (h3 : PE X e3 (tE b W f3)) (hm : lastMarks [.Lt, .Lt] [e2, e3] = false := by with_unfolding_all rfl) : PE X (.Compare e1 [.Lt, .Lt] [e2, e3] pos) (tE b W (chF ltD ltD f1 f2 f3)) := pd_chain (op_lt) (op_lt) (castO hM opt_lt) (castO hM opt_lt) h1 h2 h3 hm
theorem qt_lt_lt (hM : b.M = ⟨X.K, X.mg, Tb⟩) (h1 : PE X e1 (tE b W f1)) (h2 : PE X e2 (tE b W f2)) (h3 : PE X e3 (tE b W f3)) (hm : lastMarks [.Lt, .Lt] [e2, e3] = false := by with_unfolding_all rfl) : PT X (.Compare e1 [.Lt, .Lt] [e2, e3] pos) (tBo b W (tstF (chF ltD ltD f1 f2 f3))) := pt_chainD (op_lt) (op_lt) (castO hM opt_lt) (castO hM opt_lt) h1 h2 h3 hm
theorem q_lt_le (hM : b.M = ⟨X.K, X.mg, Tb⟩) (h1 : PE X e1 (tE b W f1)) (h2 : PE X e2 (tE b W f2)) (h3 : PE X e3 (tE b W f3)) (hm : lastMarks [.Lt, .LtE] [e2, e3] = false := by with_unfolding_all rfl) : PE X (.Compare e1 [.Lt, .LtE] [e2, e3] pos) (tE b W (chF ltD leD f1 f2 f3)) := pd_chain (op_lt) (op_le) (castO hM opt_lt) (castO hM opt_le) h1 h2 h3 hm
theorem qt_lt_le (hM : b.M = ⟨X.K, X.mg, Tb⟩) (h1 : PE X e1 (tE b W f1)) (h2 : PE X e2 (tE b W f2)) (h3 : PE X e3 (tE b W f3)) (hm : lastMarks [.Lt, .LtE] [e2, e3] = false := by with_unfolding_all rfl) : PT X (.Compare e1 [.Lt, .LtE] [e2, e3] pos) (tBo b W (tstF (chF ltD leD f1 f2 f3))) := pt_chainD (op_lt) (op_le) (castO hM opt_lt) (castO hM opt_le) h1 h2 h3 hm
theorem q_lt_gt (hM : b.M = ⟨X.K, X.mg, Tb⟩) (h1 : PE X e1 (tE b W f1)) (h2 : PE X e2 (tE b W f2)) (h3 : PE X e3 (tE b W f3)) (hm : lastMarks [.Lt, .Gt] [e2, e3] = false := by with_unfolding_all rfl) : PE X (.Compare e1 [.Lt, .Gt] [e2, e3] pos) (tE b W (chF ltD gtD f1 f2 f3)) := pd_chain (op_lt) (op_gt) (castO hM opt_lt) (castO hM opt_gt) h1 h2 h3 hm
theorem qt_lt_gt (hM : b.M = ⟨X.K, X.mg, Tb⟩) (h1 : PE X e1 (tE b W f1)) (h2 : PE X e2 (tE b W f2)) (h3 : PE X e3 (tE b W f3)) (hm : lastMarks [.Lt, .Gt] [e2, e3] = false := by with_unfolding_all rfl) : PT X (.Compare e1 [.Lt, .Gt] [e2, e3] pos) (tBo b W (tstF (chF ltD gtD f1 f2 f3))) := pt_chainD (op_lt) (op_gt) (castO hM opt_lt) (castO hM opt_gt) h1 h2 h3 hm
theorem q_lt_ge (hM : b.M = ⟨X.K, X.mg, Tb⟩) (h1 : PE X e1 (tE b W f1)) (h2 : PE X e2 (tE b W f2)) (h3 : PE X e3 (tE b W f3)) (hm : lastMarks [.Lt, .GtE] [e2, e3] = false := by with_unfolding_all rfl) : PE X (.Compare e1 [.Lt, .GtE] [e2, e3] pos) (tE b W (chF ltD geD f1 f2 f3)) := pd_chain (op_lt) (op_ge) (castO hM opt_lt) (castO hM opt_ge) h1 h2 h3 hm
theorem qt_lt_ge (hM : b.M = ⟨X.K, X.mg, Tb⟩) (h1 : PE X e1 (tE b W f1)) (h2 : PE X e2 (tE b W f2)) (h3 : PE X e3 (tE b W f3)) (hm : lastMarks [.Lt, .GtE] [e2, e3] = false := by with_unfolding_all rfl) : PT X (.Compare e1 [.Lt, .GtE] [e2, e3] pos) (tBo b W (tstF (chF ltD geD f1 f2 f3))) := pt_chainD (op_lt) (op_ge) (castO hM opt_lt) (castO hM opt_ge) h1 h2 h3 hm
theorem q_lt_eq (hM : b.M = ⟨X.K, X.mg, Tb⟩) (hr : Room k X.A) (h1 : PE X e1 (tE b W f1)) (h2 : PE X e2 (tE b W f2)) (h3 : PE X e3 (tE b W f3)) (hm : lastMarks [.Lt, .Eq] [e2, e3] = false := by with_unfolding_all rfl) : PE X (.Compare e1 [.Lt, .Eq] [e2, e3] pos) (tE b W (chF ltD eqD f1 f2 f3)) := pd_chain (op_lt) (op_eqR hr) (castO hM opt_lt) (castO hM opt_eq) h1 h2 h3 hm
theorem qt_lt_eq (hM : b.M = ⟨X.K, X.mg, Tb⟩) (hr : Room k X.A) (h1 : PE X e1 (tE b W f1)) (h2 : PE X e2 (tE b W f2)) (h3 : PE X e3 (tE b W f3)) (hm : lastMarks [.Lt, .Eq] [e2, e3] = false := by with_unfolding_all rfl) : PT X (.Compare e1 [.Lt, .Eq] [e2, e3] pos) (tBo b W (tstF (chF ltD eqD f1 f2 f3))) := pt_chainD (op_lt) (op_eqR hr) (castO hM opt_lt) (castO hM opt_eq) h1 h2 h3 hm
theorem q_lt_ne (hM : b.M = ⟨X.K, X.mg, Tb⟩) (hr : Room k X.A) (h1 : PE X e1 (tE b W f1)) (h2 : PE X e2 (tE b W f2)) (h3 : PE X e3 (tE b W f3)) (hm : lastMarks [.Lt, .NotEq] [e2, e3] = false := by with_unfolding_all rfl) : PE X (.Compare e1 [.Lt, .NotEq] [e2, e3] pos) (tE b W (chF ltD neD f1 f2 f3)) := pd_chain (op_lt) (op_neR hr) (castO hM opt_lt) (castO hM opt_ne) h1 h2 h3 hm
theorem qt_lt_ne (hM : b.M = ⟨X.K, X.mg, Tb⟩) (hr : Room k X.A) (h1 : PE X e1 (tE b W f1)) (h2 : PE X e2 (tE b W f2)) (h3 : PE X e3 (tE b W f3)) (hm : lastMarks [.Lt, .NotEq] [e2, e3] = false := by with_unfolding_all rfl) : PT X (.Compare e1 [.Lt, .NotEq] [e2, e3] pos) (tBo b W (tstF (chF ltD neD f1 f2 f3))) := pt_chainD (op_lt) (op_neR hr) (castO hM opt_lt) (castO hM opt_ne) h1 h2 h3 hm
theorem q_le_lt (hM : b.M = ⟨X.K, X.mg, Tb⟩) (h1 : PE X e1 (tE b W f1)) (h2 : PE X e2 (tE b W f2)) (h3 : PE X e3 (tE b W f3)) (hm : lastMarks [.LtE, .Lt] [e2, e3] = false := by with_unfolding_all rfl) : PE X (.Compare e1 [.LtE, .Lt] [e2, e3] pos) (tE b W (chF leD ltD f1 f2 f3)) := pd_chain (op_le) (op_lt) (castO hM opt_le) (castO hM opt_lt) h1 h2 h3 hm
theorem qt_le_lt (hM : b.M = ⟨X.K, X.mg, Tb⟩) (h1 : PE X e1 (tE b W f1)) (h2 : PE X e2 (tE b W f2)) (h3 : PE X e3 (tE b W f3)) (hm : lastMarks [.LtE, .Lt] [e2, e3] = false := by with_unfolding_all rfl) : PT X (.Compare e1 [.LtE, .Lt] [e2, e3] pos) (tBo b W (tstF (chF leD ltD f1 f2 f3))) := pt_chainD (op_le) (op_lt) (castO hM opt_le) (castO hM opt_lt) h1 h2 h3 hm
theorem q_le_le (hM : b.M = ⟨X.K, X.mg, Tb⟩) (h1 : PE X e1 (tE b W f1)) (h2 : PE X e2 (tE b W f2)) (h3 : PE X e3 (tE b W f3)) (hm : lastMarks [.LtE, .LtE] [e2, e3] = false := by with_unfolding_all rfl) : PE X (.Compare e1 [.LtE, .LtE] [e2, e3] pos) (tE b W (chF leD leD f1 f2 f3)) := pd_chain (op_le) (op_le) (castO hM opt_le) (castO hM opt_le) h1 h2 h3 hm
theorem qt_le_le (hM : b.M = ⟨X.K, X.mg, Tb⟩) (h1 : PE X e1 (tE b W f1)) (h2 : PE X e2 (tE b W f2)) (h3 : PE X e3 (tE b W f3)) (hm : lastMarks [.LtE, .LtE] [e2, e3] = false := by with_unfolding_all rfl) : PT X (.Compare e1 [.LtE, .LtE] [e2, e3] pos) (tBo b W (tstF (chF leD leD f1 f2 f3))) := pt_chainD (op_le) (op_le) (castO hM opt_le) (castO hM opt_le) h1 h2 h3 hm
theorem q_le_gt (hM : b.M = ⟨X.K, X.mg, Tb⟩) (h1 : PE X e1 (tE b W f1)) (h2 : PE X e2 (tE b W f2)) (h3 : PE X e3 (tE b W f3)) (hm : lastMarks [.LtE, .Gt] [e2, e3] = false := by with_unfolding_all rfl) : PE X (.Compare e1 [.LtE, .Gt] [e2, e3] pos) (tE b W (chF leD gtD f1 f2 f3)) := pd_chain (op_le) (op_gt) (castO hM opt_le) (castO hM opt_gt) h1 h2 h3 hm
theorem qt_le_gt (hM : b.M = ⟨X.K, X.mg, Tb⟩) (h1 : PE X e1 (tE b W f1)) (h2 : PE X e2 (tE b W f2)) (h3 : PE X e3 (tE b W f3)) (hm : lastMarks [.LtE, .Gt] [e2, e3] = false := by with_unfolding_all rfl) : PT X (.Compare e1 [.LtE, .Gt] [e2, e3] pos) (tBo b W (tstF (chF leD gtD f1 f2 f3))) := pt_chainD (op_le) (op_gt) (castO hM opt_le) (castO hM opt_gt) h1 h2 h3 hm
theorem q_le_ge (hM : b.M = ⟨X.K, X.mg, Tb⟩) (h1 : PE X e1 (tE b W f1)) (h2 : PE X e2 (tE b W f2)) (h3 : PE X e3 (tE b W f3)) (hm : lastMarks [.LtE, .GtE] [e2, e3] = false := by with_unfolding_all rfl) : PE X (.Compare e1 [.LtE, .GtE] [e2, e3] pos) (tE b W (chF leD geD f1 f2 f3)) := pd_chain (op_le) (op_ge) (castO hM opt_le) (castO hM opt_ge) h1 h2 h3 hm
theorem qt_le_ge (hM : b.M = ⟨X.K, X.mg, Tb⟩) (h1 : PE X e1 (tE b W f1)) (h2 : PE X e2 (tE b W f2)) (h3 : PE X e3 (tE b W f3)) (hm : lastMarks [.LtE, .GtE] [e2, e3] = false := by with_unfolding_all rfl) : PT X (.Compare e1 [.LtE, .GtE] [e2, e3] pos) (tBo b W (tstF (chF leD geD f1 f2 f3))) := pt_chainD (op_le) (op_ge) (castO hM opt_le) (castO hM opt_ge) h1 h2 h3 hm
theorem q_le_eq (hM : b.M = ⟨X.K, X.mg, Tb⟩) (hr : Room k X.A) (h1 : PE X e1 (tE b W f1)) (h2 : PE X e2 (tE b W f2)) (h3 : PE X e3 (tE b W f3)) (hm : lastMarks [.LtE, .Eq] [e2, e3] = false := by with_unfolding_all rfl) : PE X (.Compare e1 [.LtE, .Eq] [e2, e3] pos) (tE b W (chF leD eqD f1 f2 f3)) := pd_chain (op_le) (op_eqR hr) (castO hM opt_le) (castO hM opt_eq) h1 h2 h3 hm
theorem qt_le_eq (hM : b.M = ⟨X.K, X.mg, Tb⟩) (hr : Room k X.A) (h1 : PE X e1 (tE b W f1)) (h2 : PE X e2 (tE b W f2)) (h3 : PE X e3 (tE b W f3)) (hm : lastMarks [.LtE, .Eq] [e2, e3] = false := by with_unfolding_all rfl) : PT X (.Compare e1 [.LtE, .Eq] [e2, e3] pos) (tBo b W (tstF (chF leD eqD f1 f2 f3))) := pt_chainD (op_le) (op_eqR hr) (castO hM opt_le) (castO hM opt_eq) h1 h2 h3 hm
theorem q_le_ne (hM : b.M = ⟨X.K, X.mg, Tb⟩) (hr : Room k X.A) (h1 : PE X e1 (tE b W f1)) (h2 : PE X e2 (tE b W f2)) (h3 : PE X e3 (tE b W f3)) (hm : lastMarks [.LtE, .NotEq] [e2, e3] = false := by with_unfolding_all rfl) : PE X (.Compare e1 [.LtE, .NotEq] [e2, e3] pos) (tE b W (chF leD neD f1 f2 f3)) := pd_chain (op_le) (op_neR hr) (castO hM opt_le) (castO hM opt_ne) h1 h2 h3 hm
theorem qt_le_ne (hM : b.M = ⟨X.K, X.mg, Tb⟩) (hr : Room k X.A) (h1 : PE X e1 (tE b W f1)) (h2 : PE X e2 (tE b W f2)) (h3 : PE X e3 (tE b W f3)) (hm : lastMarks [.LtE, .NotEq] [e2, e3] = false := by with_unfolding_all rfl) : PT X (.Compare e1 [.LtE, .NotEq] [e2, e3] pos) (tBo b W (tstF (chF leD neD f1 f2 f3))) := pt_chainD (op_le) (op_neR hr) (castO hM opt_le) (castO hM opt_ne) h1 h2 h3 hm
theorem q_gt_lt (hM : b.M = ⟨X.K, X.mg, Tb⟩) (h1 : PE X e1 (tE b W f1)) (h2 : PE X e2 (tE b W f2)) (h3 : PE X e3 (tE b W f3)) (hm : lastMarks [.Gt, .Lt] [e2, e3] = false := by with_unfolding_all rfl) : PE X (.Compare e1 [.Gt, .Lt] [e2, e3] pos) (tE b W (chF gtD ltD f1 f2 f3)) := pd_chain (op_gt) (op_lt) (castO hM opt_gt) (castO hM opt_lt) h1 h2 h3 hm
theorem qt_gt_lt (hM : b.M = ⟨X.K, X.mg, Tb⟩) (h1 : PE X e1 (tE b W f1)) (h2 : PE X e2 (tE b W f2)) (h3 : PE X e3 (tE b W f3)) (hm : lastMarks [.Gt, .Lt] [e2, e3] = false := by with_unfolding_all rfl) : PT X (.Compare e1 [.Gt, .Lt] [e2, e3] pos) (tBo b W (tstF (chF gtD ltD f1 f2 f3))) := pt_chainD (op_gt) (op_lt) (castO hM opt_gt) (castO hM opt_lt) h1 h2 h3 hm
theorem q_gt_le (hM : b.M = ⟨X.K, X.mg, Tb⟩) (h1 : PE X e1 (tE b W f1)) (h2 : PE X e2 (tE b W f2)) (h3 : PE X e3 (tE b W f3)) (hm : lastMarks [.Gt, .LtE] [e2, e3] = false := by with_unfolding_all rfl) : PE X (.Compare e1 [.Gt, .LtE] [e2, e3] pos) (tE b W (chF gtD leD f1 f2 f3)) := pd_chain (op_gt) (op_le) (castO hM opt_gt) (castO hM opt_le) h1 h2 h3 hm
theorem qt_gt_le (hM : b.M = ⟨X.K, X.mg, Tb⟩) (h1 : PE X e1 (tE b W f1)) (h2 : PE X e2 (tE b W f2)) (h3 : PE X e3 (tE b W f3)) (hm : lastMarks [.Gt, .LtE] [e2, e3] = false := by with_unfolding_all rfl) : PT X (.Compare e1 [.Gt, .LtE] [e2, e3] pos) (tBo b W (tstF (chF gtD leD f1 f2 f3))) := pt_chainD (op_gt) (op_le) (castO hM opt_gt) (castO hM opt_le) h1 h2 h3 hm
theorem q_gt_gt (hM : b.M = ⟨X.K, X.mg, Tb⟩) (h1 : PE X e1 (tE b W f1)) (h2 : PE X e2 (tE b W f2)) (h3 : PE X e3 (tE b W f3)) (hm : lastMarks [.Gt, .Gt] [e2, e3] = false := by with_unfolding_all rfl) : PE X (.Compare e1 [.Gt, .Gt] [e2, e3] pos) (tE b W (chF gtD gtD f1 f2 f3)) := pd_chain (op_gt) (op_gt) (castO hM opt_gt) (castO hM opt_gt) h1 h2 h3 hm
theorem qt_gt_gt (hM : b.M = ⟨X.K, X.mg, Tb⟩) (h1 : PE X e1 (tE b W f1)) (h2 : PE X e2 (tE b W f2)) (h3 : PE X e3 (tE b W f3)) (hm : lastMarks [.Gt, .Gt] [e2, e3] = false := by with_unfolding_all rfl) : PT X (.Compare e1 [.Gt, .Gt] [e2, e3] pos) (tBo b W (tstF (chF gtD gtD f1 f2 f3))) := pt_chainD (op_gt) (op_gt) (castO hM opt_gt) (castO hM opt_gt) h1 h2 h3 hm
theorem q_gt_ge (hM : b.M = ⟨X.K, X.mg, Tb⟩) (h1 : PE X e1 (tE b W f1)) (h2 : PE X e2 (tE b W f2)) (h3 : PE X e3 (tE b W f3)) (hm : lastMarks [.Gt, .GtE] [e2, e3] = false := by with_unfolding_all rfl) : PE X (.Compare e1 [.Gt, .GtE] [e2, e3] pos) (tE b W (chF gtD geD f1 f2 f3)) := pd_chain (op_gt) (op_ge) (castO hM opt_gt) (castO hM opt_ge) h1 h2 h3 hm
theorem qt_gt_ge (hM : b.M = ⟨X.K, X.mg, Tb⟩) (h1 : PE X e1 (tE b W f1)) (h2 : PE X e2 (tE b W f2)) (h3 : PE X e3 (tE b W f3)) (hm : lastMarks [.Gt, .GtE] [e2, e3] = false := by with_unfolding_all rfl) : PT X (.Compare e1 [.Gt, .GtE] [e2, e3] pos) (tBo b W (tstF (chF gtD geD f1 f2 f3))) := pt_chainD (op_gt) (op_ge) (castO hM opt_gt) (castO hM opt_ge) h1 h2 h3 hm
theorem q_gt_eq (hM : b.M = ⟨X.K, X.mg, Tb⟩) (hr : Room k X.A) (h1 : PE X e1 (tE b W f1)) (h2 : PE X e2 (tE b W f2)) (h3 : PE X e3 (tE b W f3)) (hm : lastMarks [.Gt, .Eq] [e2, e3] = false := by with_unfolding_all rfl) : PE X (.Compare e1 [.Gt, .Eq] [e2, e3] pos) (tE b W (chF gtD eqD f1 f2 f3)) := pd_chain (op_gt) (op_eqR hr) (castO hM opt_gt) (castO hM opt_eq) h1 h2 h3 hm
theorem qt_gt_eq (hM : b.M = ⟨X.K, X.mg, Tb⟩) (hr : Room k X.A) (h1 : PE X e1 (tE b W f1)) (h2 : PE X e2 (tE b W f2)) (h3 : PE X e3 (tE b W f3)) (hm : lastMarks [.Gt, .Eq] [e2, e3] = false := by with_unfolding_all rfl) : PT X (.Compare e1 [.Gt, .Eq] [e2, e3] pos) (tBo b W (tstF (chF gtD eqD f1 f2 f3))) := pt_chainD (op_gt) (op_eqR hr) (castO hM opt_gt) (castO hM opt_eq) h1 h2 h3 hm
theorem q_gt_ne (hM : b.M = ⟨X.K, X.mg, Tb⟩) (hr : Room k X.A) (h1 : PE X e1 (tE b W f1)) (h2 : PE X e2 (tE b W f2)) (h3 : PE X e3 (tE b W f3)) (hm : lastMarks [.Gt, .NotEq] [e2, e3] = false := by with_unfolding_all rfl) : PE X (.Compare e1 [.Gt, .NotEq] [e2, e3] pos) (tE b W (chF gtD neD f1 f2 f3)) := pd_chain (op_gt) (op_neR hr) (castO hM opt_gt) (castO hM opt_ne) h1 h2 h3 hm
theorem qt_gt_ne (hM : b.M = ⟨X.K, X.mg, Tb⟩) (hr : Room k X.A) (h1 : PE X e1 (tE b W f1)) (h2 : PE X e2 (tE b W f2)) (h3 : PE X e3 (tE b W f3)) (hm : lastMarks [.Gt, .NotEq] [e2, e3] = false := by with_unfolding_all rfl) : PT X (.Compare e1 [.Gt, .NotEq] [e2, e3] pos) (tBo b W (tstF (chF gtD neD f1 f2 f3))) := pt_chainD (op_gt) (op_neR hr) (castO hM opt_gt) (castO hM opt_ne) h1 h2 h3 hm
theorem q_ge_lt (hM : b.M = ⟨X.K, X.mg, Tb⟩) (h1 : PE X e1 (tE b W f1)) (h2 : PE X e2 (tE b W f2)) (h3 : PE X e3 (tE b W f3)) (hm : lastMarks [.GtE, .Lt] [e2, e3] = false := by with_unfolding_all rfl) : PE X (.Compare e1 [.GtE, .Lt] [e2, e3] pos) (tE b W (chF geD ltD f1 f2 f3)) := pd_chain (op_ge) (op_lt) (castO hM opt_ge) (castO hM opt_lt) h1 h2 h3 hm
theorem qt_ge_lt (hM : b.M = ⟨X.K, X.mg, Tb⟩) (h1 : PE X e1 (tE b W f1)) (h2 : PE X e2 (tE b W f2)) (h3 : PE X e3 (tE b W f3)) (hm : lastMarks [.GtE, .Lt] [e2, e3] = false := by with_unfolding_all rfl) : PT X (.Compare e1 [.GtE, .Lt] [e2, e3] pos) (tBo b W (tstF (chF geD ltD f1 f2 f3))) := pt_chainD (op_ge) (op_lt) (castO hM opt_ge) (castO hM opt_lt) h1 h2 h3 hm
theorem q_ge_le (hM : b.M = ⟨X.K, X.mg, Tb⟩) (h1 : PE X e1 (tE b W f1)) (h2 : PE X e2 (tE b W f2)) (h3 : PE X e3 (tE b W f3)) (hm : lastMarks [.GtE, .LtE] [e2, e3] = false := by with_unfolding_all rfl) : PE X (.Compare e1 [.GtE, .LtE] [e2, e3] pos) (tE b W (chF geD leD f1 f2 f3)) := pd_chain (op_ge) (op_le) (castO hM opt_ge) (castO hM opt_le) h1 h2 h3 hm
theorem qt_ge_le (hM : b.M = ⟨X.K, X.mg, Tb⟩) (h1 : PE X e1 (tE b W f1)) (h2 : PE X e2 (tE b W f2)) (h3 : PE X e3 (tE b W f3)) (hm : lastMarks [.GtE, .LtE] [e2, e3] = false := by with_unfolding_all rfl) : PT X (.Compare e1 [.GtE, .LtE] [e2, e3] pos) (tBo b W (tstF (chF geD leD f1 f2 f3))) := pt_chainD (op_ge) (op_le) (castO hM opt_ge) (castO hM opt_le) h1 h2 h3 hm
theorem q_ge_gt (hM : b.M = ⟨X.K, X.mg, Tb⟩) (h1 : PE X e1 (tE b W f1)) (h2 : PE X e2 (tE b W f2)) (h3 : PE X e3 (tE b W f3)) (hm : lastMarks [.GtE, .Gt] [e2, e3] = false := by with_unfolding_all rfl) : PE X (.Compare e1 [.GtE, .Gt] [e2, e3] pos) (tE b W (chF geD gtD f1 f2 f3)) := pd_chain (op_ge) (op_gt) (castO hM opt_ge) (castO hM opt_gt) h1 h2 h3 hm
theorem qt_ge_gt (hM : b.M = ⟨X.K, X.mg, Tb⟩) (h1 : PE X e1 (tE b W f1)) (h2 : PE X e2 (tE b W f2)) (h3 : PE X e3 (tE b W f3)) (hm : lastMarks [.GtE, .Gt] [e2, e3] = false := by with_unfolding_all rfl) : PT X (.Compare e1 [.GtE, .Gt] [e2, e3] pos) (tBo b W (tstF (chF geD gtD f1 f2 f3))) := pt_chainD (op_ge) (op_gt) (castO hM opt_ge) (castO hM opt_gt) h1 h2 h3 hm
theorem q_ge_ge (hM : b.M = ⟨X.K, X.mg, Tb⟩) (h1 : PE X e1 (tE b W f1)) (h2 : PE X e2 (tE b W f2)) (h3 : PE X e3 (tE b W f3)) (hm : lastMarks [.GtE, .GtE] [e2, e3] = false := by with_unfolding_all rfl) : PE X (.Compare e1 [.GtE, .GtE] [e2, e3] pos) (tE b W (chF geD geD f1 f2 f3)) := pd_chain (op_ge) (op_ge) (castO hM opt_ge) (castO hM opt_ge) h1 h2 h3 hm
theorem qt_ge_ge (hM : b.M = ⟨X.K, X.mg, Tb⟩) (h1 : PE X e1 (tE b W f1)) (h2 : PE X e2 (tE b W f2)) (h3 : PE X e3 (tE b W f3)) (hm : lastMarks [.GtE, .GtE] [e2, e3] = false := by with_unfolding_all rfl) : PT X (.Compare e1 [.GtE, .GtE] [e2, e3] pos) (tBo b W (tstF (chF geD geD f1 f2 f3))) := pt_chainD (op_ge) (op_ge) (castO hM opt_ge) (castO hM opt_ge) h1 h2 h3 hm
theorem q_ge_eq (hM : b.M = ⟨X.K, X.mg, Tb⟩) (hr : Room k X.A) (h1 : PE X e1 (tE b W f1)) (h2 : PE X e2 (tE b W f2)) (h3 : PE X e3 (tE b W f3)) (hm : lastMarks [.GtE, .Eq] [e2, e3] = false := by with_unfolding_all rfl) : PE X (.Compare e1 [.GtE, .Eq] [e2, e3] pos) (tE b W (chF geD eqD f1 f2 f3)) := pd_chain (op_ge) (op_eqR hr) (castO hM opt_ge) (castO hM opt_eq) h1 h2 h3 hm
theorem qt_ge_eq (hM : b.M = ⟨X.K, X.mg, Tb⟩) (hr : Room k X.A) (h1 : PE X e1 (tE b W f1)) (h2 : PE X e2 (tE b W f2)) (h3 : PE X e3 (tE b W f3)) (hm : lastMarks [.GtE, .Eq] [e2, e3] = false := by with_unfolding_all rfl) : PT X (.Compare e1 [.GtE, .Eq] [e2, e3] pos) (tBo b W (tstF (chF geD eqD f1 f2 f3))) := pt_chainD (op_ge) (op_eqR hr) (castO hM opt_ge) (castO hM opt_eq) h1 h2 h3 hm
theorem q_ge_ne (hM : b.M = ⟨X.K, X.mg, Tb⟩) (hr : Room k X.A) (h1 : PE X e1 (tE b W f1)) (h2 : PE X e2 (tE b W f2)) (h3 : PE X e3 (tE b W f3)) (hm : lastMarks [.GtE, .NotEq] [e2, e3] = false := by with_unfolding_all rfl) : PE X (.Compare e1 [.GtE, .NotEq] [e2, e3] pos) (tE b W (chF geD neD f1 f2 f3)) := pd_chain (op_ge) (op_neR hr) (castO hM opt_ge) (castO hM opt_ne) h1 h2 h3 hm
theorem qt_ge_ne (hM : b.M = ⟨X.K, X.mg, Tb⟩) (hr : Room k X.A) (h1 : PE X e1 (tE b W f1)) (h2 : PE X e2 (tE b W f2)) (h3 : PE X e3 (tE b W f3)) (hm : lastMarks [.GtE, .NotEq] [e2, e3] = false := by with_unfolding_all rfl) : PT X (.Compare e1 [.GtE, .NotEq] [e2, e3] pos) (tBo b W (tstF (chF geD neD f1 f2 f3))) := pt_chainD (op_ge) (op_neR hr) (castO hM opt_ge) (castO hM opt_ne) h1 h2 h3 hm
theorem q_eq_lt (hM : b.M = ⟨X.K, X.mg, Tb⟩) (hr : Room k X.A) (h1 : PE X e1 (tE b W f1)) (h2 : PE X e2 (tE b W f2)) (h3 : PE X e3 (tE b W f3)) (hm : lastMarks [.Eq, .Lt] [e2, e3] = false := by with_unfolding_all rfl) : PE X (.Compare e1 [.Eq, .Lt] [e2, e3] pos) (tE b W (chF eqD ltD f1 f2 f3)) := pd_chain (op_eqR hr) (op_lt) (castO hM opt_eq) (castO hM opt_lt) h1 h2 h3 hm
theorem qt_eq_lt (hM : b.M = ⟨X.K, X.mg, Tb⟩) (hr : Room k X.A) (h1 : PE X e1 (tE b W f1)) (h2 : PE X e2 (tE b W f2)) (h3 : PE X e3 (tE b W f3)) (hm : lastMarks [.Eq, .Lt] [e2, e3] = false := by with_unfolding_all rfl) : PT X (.Compare e1 [.Eq, .Lt] [e2, e3] pos) (tBo b W (tstF (chF eqD ltD f1 f2 f3))) := pt_chainD (op_eqR hr) (op_lt) (castO hM opt_eq) (castO hM opt_lt) h1 h2 h3 hm
theorem q_eq_le (hM : b.M = ⟨X.K, X.mg, Tb⟩) (hr : Room k X.A) (h1 : PE X e1 (tE b W f1)) (h2 : PE X e2 (tE b W f2)) (h3 : PE X e3 (tE b W f3)) (hm : lastMarks [.Eq, .LtE] [e2, e3] = false := by with_unfolding_all rfl) : PE X (.Compare e1 [.Eq, .LtE] [e2, e3] pos) (tE b W (chF eqD leD f1 f2 f3)) := pd_chain (op_eqR hr) (op_le) (castO hM opt_eq) (castO hM opt_le) h1 h2 h3 hm
theorem qt_eq_le (hM : b.M = ⟨X.K, X.mg, Tb⟩) (hr : Room k X.A) (h1 : PE X e1 (tE b W f1)) (h2 : PE X e2 (tE b W f2)) (h3 : PE X e3 (tE b W f3)) (hm : lastMarks [.Eq, .LtE] [e2, e3] = false := by with_unfolding_all rfl) : PT X (.Compare e1 [.Eq, .LtE] [e2, e3] pos) (tBo b W (tstF (chF eqD leD f1 f2 f3))) := pt_chainD (op_eqR hr) (op_le) (castO hM opt_eq) (castO hM opt_le) h1 h2 h3 hm
theorem q_eq_gt (hM : b.M = ⟨X.K, X.mg, Tb⟩) (hr : Room k X.A) (h1 : PE X e1 (tE b W f1)) (h2 : PE X e2 (tE b W f2)) (h3 : PE X e3 (tE b W f3)) (hm : lastMarks [.Eq, .Gt] [e2, e3] = false := by with_unfolding_all rfl) : PE X (.Compare e1 [.Eq, .Gt] [e2, e3] pos) (tE b W (chF eqD gtD f1 f2 f3)) := pd_chain (op_eqR hr) (op_gt) (castO hM opt_eq) (castO hM opt_gt) h1 h2 h3 hm
theorem qt_eq_gt (hM : b.M = ⟨X.K, X.mg, Tb⟩) (hr : Room k X.A) (h1 : PE X e1 (tE b W f1)) (h2 : PE X e2 (tE b W f2)) (h3 : PE X e3 (tE b W f3)) (hm : lastMarks [.Eq, .Gt] [e2, e3] = false := by with_unfolding_all rfl) : PT X (.Compare e1 [.Eq, .Gt] [e2, e3] pos) (tBo b W (tstF (chF eqD gtD f1 f2 f3))) := pt_chainD (op_eqR hr) (op_gt) (castO hM opt_eq) (castO hM opt_gt) h1 h2 h3 hm
theorem q_eq_ge (hM : b.M = ⟨X.K, X.mg, Tb⟩) (hr : Room k X.A) (h1 : PE X e1 (tE b W f1)) (h2 : PE X e2 (tE b W f2)) (h3 : PE X e3 (tE b W f3)) (hm : lastMarks [.Eq, .GtE] [e2, e3] = false := by with_unfolding_all rfl) : PE X (.Compare e1 [.Eq, .GtE] [e2, e3] pos) (tE b W (chF eqD geD f1 f2 f3)) := pd_chain (op_eqR hr) (op_ge) (castO hM opt_eq) (castO hM opt_ge) h1 h2 h3 hm
theorem qt_eq_ge (hM : b.M = ⟨X.K, X.mg, Tb⟩) (hr : Room k X.A) (h1 : PE X e1 (tE b W f1)) (h2 : PE X e2 (tE b W f2)) (h3 : PE X e3 (tE b W f3)) (hm : lastMarks [.Eq, .GtE] [e2, e3] = false := by with_unfolding_all rfl) : PT X (.Compare e1 [.Eq, .GtE] [e2, e3] pos) (tBo b W (tstF (chF eqD geD f1 f2 f3))) := pt_chainD (op_eqR hr) (op_ge) (castO hM opt_eq) (castO hM opt_ge) h1 h2 h3 hm
theorem q_eq_eq (hM : b.M = ⟨X.K, X.mg, Tb⟩) (hr : Room k X.A) (h1 : PE X e1 (tE b W f1)) (h2 : PE X e2 (tE b W f2)) (h3 : PE X e3 (tE b W f3)) (hm : lastMarks [.Eq, .Eq] [e2, e3] = false := by with_unfolding_all rfl) : PE X (.Compare e1 [.Eq, .Eq] [e2, e3] pos) (tE b W (chF eqD eqD f1 f2 f3)) := pd_chain (op_eqR hr) (op_eqR hr) (castO hM opt_eq) (castO hM opt_eq) h1 h2 h3 hm
theorem qt_eq_eq (hM : b.M = ⟨X.K, X.mg, Tb⟩) (hr : Room k X.A) (h1 : PE X e1 (tE b W f1)) (h2 : PE X e2 (tE b W f2)) (h3 : PE X e3 (tE b W f3)) (hm : lastMarks [.Eq, .Eq] [e2, e3] = false := by with_unfolding_all rfl) : PT X (.Compare e1 [.Eq, .Eq] [e2, e3] pos) (tBo b W (tstF (chF eqD eqD f1 f2 f3))) := pt_chainD (op_eqR hr) (op_eqR hr) (castO hM opt_eq) (castO hM opt_eq) h1 h2 h3 hm
theorem q_eq_ne (hM : b.M = ⟨X.K, X.mg, Tb⟩) (hr : Room k X.A) (h1 : PE X e1 (tE b W f1)) (h2 : PE X e2 (tE b W f2)) (h3 : PE X e3 (tE b W f3)) (hm : lastMarks [.Eq, .NotEq] [e2, e3] = false := by with_unfolding_all rfl) : PE X (.Compare e1 [.Eq, .NotEq] [e2, e3] pos) (tE b W (chF eqD neD f1 f2 f3)) := pd_chain (op_eqR hr) (op_neR hr) (castO hM opt_eq) (castO hM opt_ne) h1 h2 h3 hm
theorem qt_eq_ne (hM : b.M = ⟨X.K, X.mg, Tb⟩) (hr : Room k X.A) (h1 : PE X e1 (tE b W f1)) (h2 : PE X e2 (tE b W f2)) (h3 : PE X e3 (tE b W f3)) (hm : lastMarks [.Eq, .NotEq] [e2, e3] = false := by with_unfolding_all rfl) : PT X (.Compare e1 [.Eq, .NotEq] [e2, e3] pos) (tBo b W (tstF (chF eqD neD f1 f2 f3))) := pt_chainD (op_eqR hr) (op_neR hr) (castO hM opt_eq) (castO hM opt_ne) h1 h2 h3 hm
theorem q_ne_lt (hM : b.M = ⟨X.K, X.mg, Tb⟩) (hr : Room k X.A) (h1 : PE X e1 (tE b W f1)) (h2 : PE X e2 (tE b W f2)) (h3 : PE X e3 (tE b W f3)) (hm : lastMarks [.NotEq, .Lt] [e2, e3] = false := by with_unfolding_all rfl) : PE X (.Compare e1 [.NotEq, .Lt] [e2, e3] pos) (tE b W (chF neD ltD f1 f2 f3)) := pd_chain (op_neR hr) (op_lt) (castO hM opt_ne) (castO hM opt_lt) h1 h2 h3 hm
theorem qt_ne_lt (hM : b.M = ⟨X.K, X.mg, Tb⟩) (hr : Room k X.A) (h1 : PE X e1 (tE b W f1)) (h2 : PE X e2 (tE b W f2)) (h3 : PE X e3 (tE b W f3)) (hm : lastMarks [.NotEq, .Lt] [e2, e3] = false := by with_unfolding_all rfl) : PT X (.Compare e1 [.NotEq, .Lt] [e2, e3] pos) (tBo b W (tstF (chF neD ltD f1 f2 f3))) := pt_chainD (op_neR hr) (op_lt) (castO hM opt_ne) (castO hM opt_lt) h1 h2 h3 hm
theorem q_ne_le (hM : b.M = ⟨X.K, X.mg, Tb⟩) (hr : Room k X.A) (h1 : PE X e1 (tE b W f1)) (h2 : PE X e2 (tE b W f2)) (h3 : PE X e3 (tE b W f3)) (hm : lastMarks [.NotEq, .LtE] [e2, e3] = false := by with_unfolding_all rfl) : PE X (.Compare e1 [.NotEq, .LtE] [e2, e3] pos) (tE b W (chF neD leD f1 f2 f3)) := pd_chain (op_neR hr) (op_le) (castO hM opt_ne) (castO hM opt_le) h1 h2 h3 hm
theorem qt_ne_le (hM : b.M = ⟨X.K, X.mg, Tb⟩) (hr : Room k X.A) (h1 : PE X e1 (tE b W f1)) (h2 : PE X e2 (tE b W f2)) (h3 : PE X e3 (tE b W f3)) (hm : lastMarks [.NotEq, .LtE] [e2, e3] = false := by with_unfolding_all rfl) : PT X (.Compare e1 [.NotEq, .LtE] [e2, e3] pos) (tBo b W (tstF (chF neD leD f1 f2 f3))) := pt_chainD (op_neR hr) (op_le) (castO hM opt_ne) (castO hM opt_le) h1 h2 h3 hm
theorem q_ne_gt (hM : b.M = ⟨X.K, X.mg, Tb⟩) (hr : Room k X.A) (h1 : PE X e1 (tE b W f1)) (h2 : PE X e2 (tE b W f2)) (h3 : PE X e3 (tE b W f3)) (hm : lastMarks [.NotEq, .Gt] [e2, e3] = false := by with_unfolding_all rfl) : PE X (.Compare e1 [.NotEq, .Gt] [e2, e3] pos) (tE b W (chF neD gtD f1 f2 f3)) := pd_chain (op_neR hr) (op_gt) (castO hM opt_ne) (castO hM opt_gt) h1 h2 h3 hm
theorem qt_ne_gt (hM : b.M = ⟨X.K, X.mg, Tb⟩) (hr : Room k X.A) (h1 : PE X e1 (tE b W f1)) (h2 : PE X e2 (tE b W f2)) (h3 : PE X e3 (tE b W f3)) (hm : lastMarks [.NotEq, .Gt] [e2, e3] = false := by with_unfolding_all rfl) : PT X (.Compare e1 [.NotEq, .Gt] [e2, e3] pos) (tBo b W (tstF (chF neD gtD f1 f2 f3))) := pt_chainD (op_neR hr) (op_gt) (castO hM opt_ne) (castO hM opt_gt) h1 h2 h3 hm
theorem q_ne_ge (hM : b.M = ⟨X.K, X.mg, Tb⟩) (hr : Room k X.A) (h1 : PE X e1 (tE b W f1)) (h2 : PE X e2 (tE b W f2)) (h3 : PE X e3 (tE b W f3)) (hm : lastMarks [.NotEq, .GtE] [e2, e3] = false := by with_unfolding_all rfl) : PE X (.Compare e1 [.NotEq, .GtE] [e2, e3] pos) (tE b W (chF neD geD f1 f2 f3)) := pd_chain (op_neR hr) (op_ge) (castO hM opt_ne) (castO hM opt_ge) h1 h2 h3 hm
theorem qt_ne_ge (hM : b.M = ⟨X.K, X.mg, Tb⟩) (hr : Room k X.A) (h1 : PE X e1 (tE b W f1)) (h2 : PE X e2 (tE b W f2)) (h3 : PE X e3 (tE b W f3)) (hm : lastMarks [.NotEq, .GtE] [e2, e3] = false := by with_unfolding_all rfl) : PT X (.Compare e1 [.NotEq, .GtE] [e2, e3] pos) (tBo b W (tstF (chF neD geD f1 f2 f3))) := pt_chainD (op_neR hr) (op_ge) (castO hM opt_ne) (castO hM opt_ge) h1 h2 h3 hm
theorem q_ne_eq (hM : b.M = ⟨X.K, X.mg, Tb⟩) (hr : Room k X.A) (h1 : PE X e1 (tE b W f1)) (h2 : PE X e2 (tE b W f2)) (h3 : PE X e3 (tE b W f3)) (hm : lastMarks [.NotEq, .Eq] [e2, e3] = false := by with_unfolding_all rfl) : PE X (.Compare e1 [.NotEq, .Eq] [e2, e3] pos) (tE b W (chF neD eqD f1 f2 f3)) := pd_chain (op_neR hr) (op_eqR hr) (castO hM opt_ne) (castO hM opt_eq) h1 h2 h3 hm
theorem qt_ne_eq (hM : b.M = ⟨X.K, X.mg, Tb⟩) (hr : Room k X.A) (h1 : PE X e1 (tE b W f1)) (h2 : PE X e2 (tE b W f2)) (h3 : PE X e3 (tE b W f3)) (hm : lastMarks [.NotEq, .Eq] [e2, e3] = false := by with_unfolding_all rfl) : PT X (.Compare e1 [.NotEq, .Eq] [e2, e3] pos) (tBo b W (tstF (chF neD eqD f1 f2 f3))) := pt_chainD (op_neR hr) (op_eqR hr) (castO hM opt_ne) (castO hM opt_eq) h1 h2 h3 hm
theorem q_ne_ne (hM : b.M = ⟨X.K, X.mg, Tb⟩) (hr : Room k X.A) (h1 : PE X e1 (tE b W f1)) (h2 : PE X e2 (tE b W f2)) (h3 : PE X e3 (tE b W f3)) (hm : lastMarks [.NotEq, .NotEq] [e2, e3] = false := by with_unfolding_all rfl) : PE X (.Compare e1 [.NotEq, .NotEq] [e2, e3] pos) (tE b W (chF neD neD f1 f2 f3)) := pd_chain (op_neR hr) (op_neR hr) (castO hM opt_ne) (castO hM opt_ne) h1 h2 h3 hm
theorem qt_ne_ne (hM : b.M = ⟨X.K, X.mg, Tb⟩) (hr : Room k X.A) (h1 : PE X e1 (tE b W f1)) (h2 : PE X e2 (tE b W f2)) (h3 : PE X e3 (tE b W f3)) (hm : lastMarks [.NotEq, .NotEq] [e2, e3] = false := by with_unfolding_all rfl) : PT X (.Compare e1 [.NotEq, .NotEq] [e2, e3] pos) (tBo b W (tstF (chF neD neD f1 f2 f3))) := pt_chainD (op_neR hr) (op_neR hr) (castO hM opt_ne) (castO hM opt_ne) h1 h2 h3 hm
theorem q_ix (hM : b.M = ⟨X.K, X.mg, Tb⟩) (h1 : PE X e1 (tE b W f1)) (h2 : PE X e2 (tE b W f2)) (hs : PlainIx e2) : PE X (.Subscript e1 e2 pos) (tE b W (op2F ixD f1 f2)) := pd_ix ix_A (castO hM opt_ix) h1 h2 hs
theorem v_ix (hM : b.M = ⟨X.K, X.mg, Tb⟩) (h1 : PE X e1 (tA1 b W g1)) (h2 : PE X e2 (tA1 b W g2)) (hs : PlainIx e2) : PE X (.Subscript e1 e2 pos) (tE b W (op2V ixD g1 g2)) := pd_ixV ix_A (castO hM opt_ix) h1 h2 hs
theorem q_neg (h1 : PE X e1 (tE b W f1)) : PE X (.UnaryOp .USub e1 pos) (tE b W (op1F negD f1)) := pd_un un_neg unt_neg h1
end
section
variable {X : Cx} {b : B} {W : WX} {e : Expr} {es : List Expr} {fa : FV} {p pos : Pos} {r : List V → Hp → VK → Prop} {M M' : MM}
theorem castC {o : List D → Option D} (h : M = M') (q : CallT M' r o) : CallT M r o := by rw [h]; exact q
theorem castCF {o : List D → Option (List D)} (h : M = M') (q : CallTF M' r o) : CallTF M r o := by rw [h]; exact q
theorem c_len (hM : b.M = ⟨X.K, X.mg, Tb⟩) (hg : Gl X "len") (hm : X.mg "len" = none) (ha : PA X (e :: es) (tAv b W fa)) (he : starEach (e :: es) X.env = (false, eval e X.env) :: starEach es X.env := by rfl) (hpl : (backTo pos (starEach es X.env)).any (·.1) = false := by rfl) : PE X (.Call (.Name "len" p) (e :: es) [] pos) (tE b W (bltF lenD fa)) := pd_blt (call_lenA) (castC hM callT_len) hg hm (by decide +kernel) ha (by decide) (by decide) he hpl
theorem c_abs (hM : b.M = ⟨X.K, X.mg, Tb⟩) (hg : Gl X "abs") (hm : X.mg "abs" = none) (ha : PA X (e :: es) (tAv b W fa)) (he : starEach (e :: es) X.env = (false, eval e X.env) :: starEach es X.env := by rfl) (hpl : (backTo pos (starEach es X.env)).any (·.1) = false := by rfl) : PE X (.Call (.Name "abs" p) (e :: es) [] pos) (tE b W (bltF absD fa)) := pd_blt (call_abs) (castC hM callT_abs) hg hm (by decide +kernel) ha (by decide) (by decide) he hpl
theorem c_sum (hM : b.M = ⟨X.K, X.mg, Tb⟩) (hc : X.calm = true) (hg : Gl X "sum") (hm : X.mg "sum" = none) (ha : PA X (e :: es) (tAv b W fa)) (he : starEach (e :: es) X.env = (false, eval e X.env) :: starEach es X.env := by rfl) (hpl : (backTo pos (starEach es X.env)).any (·.1) = false := by rfl) : PE X (.Call (.Name "sum" p) (e :: es) [] pos) (tE b W (bltF sumD fa)) := pd_blt (cr_sumA hc) (castC hM callT_sum) hg hm (by decide +kernel) ha (by decide) (by decide) he hpl
theorem c_min (hM : b.M = ⟨X.K, X.mg, Tb⟩) (hc : X.calm = true) (hg : Gl X "min") (hm : X.mg "min" = none) (ha : PA X (e :: es) (tAv b W fa)) (he : starEach (e :: es) X.env = (false, eval e X.env) :: starEach es X.env := by rfl) (hpl : (backTo pos (starEach es X.env)).any (·.1) = false := by rfl) : PE X (.Call (.Name "min" p) (e :: es) [] pos) (tE b W (bltF minD fa)) := pd_blt (cr_minA hc) (castC hM callT_min) hg hm (by decide +kernel) ha (by decide) (by decide) he hpl
theorem c_max (hM : b.M = ⟨X.K, X.mg, Tb⟩) (hc : X.calm = true) (hg : Gl X "max") (hm : X.mg "max" = none) (ha : PA X (e :: es) (tAv b W fa)) (he : starEach (e :: es) X.env = (false, eval e X.env) :: starEach es X.env := by rfl) (hpl : (backTo pos (starEach es X.env)).any (·.1) = false := by rfl) : PE X (.Call (.Name "max" p) (e :: es) [] pos) (tE b W (bltF maxD fa)) := pd_blt (cr_maxA hc) (castC hM callT_max) hg hm (by decide +kernel) ha (by decide) (by decide) he hpl
theorem c_any (hM : b.M = ⟨X.K, X.mg, Tb⟩) (hc : X.calm = true) (hg : Gl X "any") (hm : X.mg "any" = none) (ha : PA X (e :: es) (tAv b W fa)) (he : starEach (e :: es) X.env = (false, eval e X.env) :: starEach es X.env := by rfl) (hpl : (backTo pos (starEach es X.env)).any (·.1) = false := by rfl) : PE X (.Call (.Name "any" p) (e :: es) [] pos) (tE b W (bltF anyD fa)) := pd_blt (cr_any hc) (castC hM callT_any) hg hm (by decide +kernel) ha (by decide) (by decide) he hpl
theorem c_all (hM : b.M = ⟨X.K, X.mg, Tb⟩) (hc : X.calm = true) (hg : Gl X "all") (hm : X.mg "all" = none) (ha : PA X (e :: es) (tAv b W fa)) (he : starEach (e :: es) X.env = (false, eval e X.env) :: starEach es X.env := by rfl) (hpl : (backTo pos (starEach es X.env)).any (·.1) = false := by rfl) : PE X (.Call (.Name "all" p) (e :: es) [] pos) (tE b W (bltF allD fa)) := pd_blt (cr_all hc) (castC hM callT_all) hg hm (by decide +kernel) ha (by decide) (by decide) he hpl
theorem c_int (hM : b.M = ⟨X.K, X.mg, Tb⟩) (hg : Gl X "int") (hm : X.mg "int" = none) (ha : PA X (e :: es) (tAv b W fa)) (he : starEach (e :: es) X.env = (false, eval e X.env) :: starEach es X.env := by rfl) (hpl : (backTo pos (starEach es X.env)).any (·.1) = false := by rfl) : PE X (.Call (.Name "int" p) (e :: es) [] pos) (tE b W (bltF intF fa)) := pd_ty (call_int1) (castC hM callT_int) hg hm (by decide +kernel) ha (by decide) (by decide) he hpl
theorem c_tuple (hM : b.M = ⟨X.K, X.mg, Tb⟩) (hg : Gl X "tuple") (hm : X.mg "tuple" = none) (ha : PA X (e :: es) (tAv b W fa)) (he : starEach (e :: es) X.env = (false, eval e X.env) :: starEach es X.env := by rfl) (hpl : (backTo pos (starEach es X.env)).any (·.1) = false := by rfl) : PE X (.Call (.Name "tuple" p) (e :: es) [] pos) (tE b W (bltF tupleD fa)) := pd_ty (call_tuple_of) (castC hM callT_tuple) hg hm (by decide +kernel) ha (by decide) (by decide) he hpl
theorem c_list (hM : b.M = ⟨X.K, X.mg, Tb⟩) (hg : Gl X "list") (hm : X.mg "list" = none) (ha : PA X (e :: es) (tAv b W fa)) (he : starEach (e :: es) X.env = (false, eval e X.env) :: starEach es X.env := by rfl) (hpl : (backTo pos (starEach es X.env)).any (·.1) = false := by rfl) : PE X (.Call (.Name "list" p) (e :: es) [] pos) (tFr b W (bltFF listD fa)) := pf_ty (call_list_of) (castCF hM callTF_list) hg hm (by decide +kernel) ha (by decide) (by decide) he hpl
theorem c_max2 (hM : b.M = ⟨X.K, X.mg, Tb⟩) (hc : X.calm = true) (hg : Gl X "max") (hm : X.mg "max" = none) (ha : PA X (e :: es) (tAv b W fa)) (he : starEach (e :: es) X.env = (false, eval e X.env) :: starEach es X.env := by rfl) (hpl : (backTo pos (starEach es X.env)).any (·.1) = false := by rfl) : PE X (.Call (.Name "max" p) (e :: es) [] pos) (tE b W (bltF max2D fa)) := pd_blt (call_max2 hc) (castC hM callT_max2) hg hm (by decide +kernel) ha (by decide) (by decide) he hpl
theorem c_min2 (hM : b.M = ⟨X.K, X.mg, Tb⟩) (hc : X.calm = true) (hg : Gl X "min") (hm : X.mg "min" = none) (ha : PA X (e :: es) (tAv b W fa)) (he : starEach (e :: es) X.env = (false, eval e X.env) :: starEach es X.env := by rfl) (hpl : (backTo pos (starEach es X.env)).any (·.1) = false := by rfl) : PE X (.Call (.Name "min" p) (e :: es) [] pos) (tE b W (bltF min2D fa)) := pd_blt (call_min2 hc) (castC hM callT_min2) hg hm (by decide +kernel) ha (by decide) (by decide) he hpl
end
section
variable {X : Cx} {b : B} {W : WX} {e : Expr} {es : List Expr} {fa fk : FV} {p pos : Pos} {k n n1 : Nat} {fA : Addr} {fd : FuncData} {ps ks : List Str} {dn : Dn} {x : Str} {dvs : List V} {dfs : List D} {kws : List Keyword} {qs : List KQ}
theorem q_call (hM : b.M = ⟨X.K, X.mg, Tb⟩) (tk : Takes X W) (F : FnOk X.prog X.w X.K X.mg X.base (L2.CX X.prog X.w) k fA fd ps (spD ⟨X.K, X.mg, Tb⟩ n dn)) (hr : Room k X.A) (hg : Gl X x) (hm : X.mg x = some (.ref fA)) (hk : PySem.W.keepIn X.K (.ref fA) = true)
    (hb : ∃ ds, Vals dvs ds ∧ Binds X.K fd ps ds) (hdf : ∀ M Fz H, RepL M Fz H dfs dvs) (ha : PA X (e :: es) (tAv b W fa)) (hdb : (x == ("__debug__" : Str)) = false := by decide)
    (he : starEach (e :: es) X.env = (false, eval e X.env) :: starEach es X.env := by rfl) (hpl : (backTo pos (starEach es X.env)).any (·.1) = false := by rfl) : PE X (.Call (.Name x p) (e :: es) [] pos) (tE b W (callF n dn dfs fa)) :=
  let ⟨_, hd, hb⟩ := hb
  pd_call hM tk F hr hg hm hk hb hd hdf ha hdb he hpl
theorem f_call (hM : b.M = ⟨X.K, X.mg, Tb⟩) (tk : Takes X W) (F : FnOk X.prog X.w X.K X.mg X.base (L2.CX X.prog X.w) k fA fd ps (spD ⟨X.K, X.mg, Tb⟩ n dn)) (hr : Room k X.A) (hg : Gl X x) (hm : X.mg x = some (.ref fA)) (hk : PySem.W.keepIn X.K (.ref fA) = true)
    (hb : ∃ ds, Vals dvs ds ∧ Binds X.K fd ps ds) (hdf : ∀ M Fz H, RepL M Fz H dfs dvs) (ha : PA X (e :: es) (tAv b W fa)) (hdb : (x == ("__debug__" : Str)) = false := by decide)
    (he : starEach (e :: es) X.env = (false, eval e X.env) :: starEach es X.env := by rfl) (hpl : (backTo pos (starEach es X.env)).any (·.1) = false := by rfl) : PE X (.Call (.Name x p) (e :: es) [] pos) (tFr b W (callFF n dn dfs fa)) :=
  let ⟨_, hd, hb⟩ := hb
  pf_call hM tk F hr hg hm hk hb hd hdf ha hdb he hpl
theorem q_call0 (hM : b.M = ⟨X.K, X.mg, Tb⟩) (tk : Takes X W) (F : FnOk X.prog X.w X.K X.mg X.base (L2.CX X.prog X.w) k fA fd ps (spD ⟨X.K, X.mg, Tb⟩ n dn)) (hr : Room k X.A) (hg : Gl X x) (hm : X.mg x = some (.ref fA)) (hk : PySem.W.keepIn X.K (.ref fA) = true)
    (hb : ∃ ds, Vals dvs ds ∧ Binds X.K fd ps ds) (hdf : ∀ M Fz H, RepL M Fz H dfs dvs) (hdb : (x == ("__debug__" : Str)) = false := by decide) : PE X (.Call (.Name x p) [] [] pos) (tE b W (callF n dn dfs nilV)) :=
  let ⟨_, hd, hb⟩ := hb
  pd_call0 hM tk F hr hg hm hk hb hd hdf hdb
theorem f_call0 (hM : b.M = ⟨X.K, X.mg, Tb⟩) (tk : Takes X W) (F : FnOk X.prog X.w X.K X.mg X.base (L2.CX X.prog X.w) k fA fd ps (spD ⟨X.K, X.mg, Tb⟩ n dn)) (hr : Room k X.A) (hg : Gl X x) (hm : X.mg x = some (.ref fA)) (hk : PySem.W.keepIn X.K (.ref fA) = true)
    (hb : ∃ ds, Vals dvs ds ∧ Binds X.K fd ps ds) (hdf : ∀ M Fz H, RepL M Fz H dfs dvs) (hdb : (x == ("__debug__" : Str)) = false := by decide) : PE X (.Call (.Name x p) [] [] pos) (tFr b W (callFF n dn dfs nilV)) :=
  let ⟨_, hd, hb⟩ := hb
  pf_call0 hM tk F hr hg hm hk hb hd hdf hdb
theorem q_callK (hM : b.M = ⟨X.K, X.mg, Tb⟩) (tk : Takes X W) (F : FnOk X.prog X.w X.K X.mg X.base (L2.CX X.prog X.w) k fA fd ps (spD ⟨X.K, X.mg, Tb⟩ n dn)) (hr : Room k X.A) (hg : Gl X x) (hm : X.mg x = some (.ref fA)) (hk : PySem.W.keepIn X.K (.ref fA) = true)
    (hb : ∃ its, KBn X.K fd ps n1 ks (fun us ws => pickG us its ws qs) (fun vs zs => pickG vs dvs zs qs)) (hdf : ∀ M Fz H, RepL M Fz H dfs dvs) (ha : PA X (e :: es) (tAv b W fa)) (hkw : PK X kws (tAv b W fk)) (hall : (backToKw pos (keywordEach kws X.env)).all (·.1.isSome) = true := by rfl) (hks : (backToKw pos (keywordEach kws X.env)).filterMap (·.1) = ks := by rfl)
    (hdb : (x == ("__debug__" : Str)) = false := by decide) (he : starEach (e :: es) X.env = (false, eval e X.env) :: starEach es X.env := by rfl)
    (hpl : ((backTo pos (starEach (e :: es) X.env)).any (·.1) || (backToKw pos (keywordEach kws X.env)).any (·.1.isNone)) = false := by rfl) :
    PE X (.Call (.Name x p) (e :: es) kws pos) (tE b W (callKF n n1 ks.length dn qs dfs fa fk)) :=
  let ⟨_, hb⟩ := hb
  pd_callK hM tk F hr hg hm hk hb hdf ha hkw hall hks hdb he hpl
theorem tyN {T : String} {x : Str} (hg : Gl X x) (hm : X.mg x = none) (hv : bootBuiltins x = some (.type T)) (hn : x ≠ "__name__" := by decide) (hd : (x == ("__debug__" : Str)) = false := by decide) : PE X (.Name x p) (tC (.ty T)) := pe_bltn hg hm hv rfl hn hd
end
theorem npl {b : B} {n i : Nat} (h : b.np = n) (q : n ≤ i) : b.np ≤ i := by rw [h]; exact q
end DL

set_option Elab.async false
set_option linter.all false
set_option maxRecDepth 100000
set_option maxHeartbeats 4000000
/-! DenF: sorted (ints, of lists and tuples). -/
namespace DL
open PySem L2 PySem.Spec PyProof.Rows

section
variable {prog : Program} {w : World} {A : Around} {E : Value → Shared → Prop} {s : Shared}
theorem collect_tupT {l : Addr} {vs : List Value} {Q : List Value → Shared → Prop} {o : Obj} {n : Nat} (ho : s.heap.get? l = some o) (hc : o.cls = .type "tuple") (hd : o.data = .seq vs.toArray n)
    (h : Q vs { s with heap := (s.heap.push (seqObj "list" #[] 0)).update s.heap.objs.size (Obj.mapSeq (· ++ vs.toArray)) }) (hsz : vs.length ≤ sizeLine) :
    wpAny (model prog w) A (collect (.ref l)) Q E s := by
  unfold collect
  refine wpAny_bind (wpAny_runValue (codeAny_builtin entry_proto_collect' ?_))
  show wpAny _ _ (do again (.builtin "list.__iadd__" ⟨[← newList [], .ref l], []⟩)) _ _ s
  refine wpAny_bind (wpAny_newList (wpAny_pure ⟨Code.quiet_builtin _ (by decide +kernel), codeAny_builtin entry_list_iadd' ?_⟩))
  show wpAny _ _ (Builtin.List.listExtendWith (.ref s.heap.objs.size) (.ref l) (.ref s.heap.objs.size)) _ _ { s with heap := s.heap.push (seqObj "list" #[] 0) }
  unfold Builtin.List.listExtendWith
  have ho' : (s.heap.push (seqObj "list" #[] 0)).get? l = some o := Heap.get?_push_of_some _ ho
  refine wpAny_bind (wpAny_typeOf (T := "tuple") ⟨o, ho', hc⟩ ?_)
  have ht : (Value.type "tuple" == Value.type "tuple") = true := by rfl
  rw [if_pos (by rw [ht]; simp)]
  refine wpAny_bind (listItems_at ho' hd ?_)
  refine wpAny_bind (listItems_at (xs := #[]) (n := 0) (Heap.get?_push_size _ rfl) rfl ?_)
  rw [if_neg (by simp)]
  refine wpAny_bind (listUpdate_at (xs := #[]) (n := 0) (Heap.get?_push_size _ rfl) rfl ?_ (Nat.zero_le _) (by show (#[] ++ vs.toArray).size ≤ sizeLine + 1; simp only [Array.size_append, List.size_toArray, List.length_nil]; omega))
  refine wpAny_pure ?_
  show wpAny (model prog w) A (do
      let o ← load s.heap.objs.size
      match o.data with
      | .seq xs _ => pure xs.toList
      | _ => unsupported "internal:collect") Q E { s with heap := (s.heap.push (seqObj "list" #[] 0)).update s.heap.objs.size (Obj.mapSeq (· ++ vs.toArray)) }
  refine wpAny_bind (wpAny_load (get?_update_seq (Heap.get?_push_size _ rfl) _) ?_)
  show wpAny _ _ (pure ((#[] : Array Value) ++ vs.toArray).toList) Q E _
  rw [show ((#[] : Array Value) ++ vs.toArray).toList = vs by simp]
  exact wpAny_pure h
open SrtO in
theorem sorted_ordT {l : Addr} {vs : List Value} {ltv : Value → Value → Bool} {Q : Value → Shared → Prop} {o : Obj} {n : Nat} (O : Swo ltv) (ho : s.heap.get? l = some o) (hc : o.cls = .type "tuple") (hd : o.data = .seq vs.toArray n) (hz : vs.length ≤ sizeLine)
    (hS : 2 ≤ vs.length → ∀ (h₁ : Heap) (a : Addr), h₁.get? a = some (seqObj "list" vs.toArray 0) → (∀ b o, s.heap.get? b = some o → b ≠ a ∧ h₁.get? b = some o) → SortableO prog w A.in1.in1 { s with heap := h₁ } a vs ltv)
    (h : ∀ out : List Value, Srtd ltv out → Stb ltv out vs → Q (.ref (s.heap.objs.size + 1)) { s with heap := sortedAll s.heap vs out.toArray }) :
    wpAny (model prog w) A (call (.builtin "sorted") [.ref l]) Q E s := by
  refine Calls.call_function_entry kind_sorted plain_sorted entry_sorted (args_sorted1 _) ?_
  unfold Builtin.«sorted»
  refine wpAny_bind (m := checkCount "sorted" 1 1 _) (wpAny_pure ?_)
  refine wpAny_bind (collect_tupT ho hc hd ?_ hz)
  refine wpAny_bind (wpAny_newList ?_ hz)
  have hsz : ((s.heap.push (seqObj "list" #[] 0)).update s.heap.objs.size (Obj.mapSeq (· ++ vs.toArray))).objs.size = s.heap.objs.size + 1 := by
    rw [Heap.size_update, size_push']
  have hoL : (((s.heap.push (seqObj "list" #[] 0)).update s.heap.objs.size (Obj.mapSeq (· ++ vs.toArray))).push (seqObj "list" vs.toArray 0)).get? (s.heap.objs.size + 1) = some (seqObj "list" vs.toArray 0) := by
    rw [← hsz]; exact Heap.get?_push_size _ rfl
  have keep : ∀ b o, s.heap.get? b = some o → b ≠ s.heap.objs.size + 1 ∧ (((s.heap.push (seqObj "list" #[] 0)).update s.heap.objs.size (Obj.mapSeq (· ++ vs.toArray))).push (seqObj "list" vs.toArray 0)).get? b = some o := fun b o q => by
    have hlt : b < s.heap.objs.size := Heap.lt_size q
    refine ⟨Nat.ne_of_lt (Nat.lt_succ_of_lt hlt), Heap.get?_push_of_some _ ?_⟩
    rw [Heap.get?_update_ne _ _ _ _ (Nat.ne_of_lt hlt)]
    exact Heap.get?_push_of_some _ q
  show wpAny _ _ _ _ _ { s with heap := ((s.heap.push (seqObj "list" #[] 0)).update s.heap.objs.size (Obj.mapSeq (· ++ vs.toArray))).push (seqObj "list" vs.toArray 0) }
  rw [hsz]
  refine wpAny_bind (wpAny_holding (wpAny_call_entry slot_list_sort ⟨_, hoL, rfl⟩ entry_list_sort (list_sort_ord O hoL hz (fun h2 => hS h2 _ _ hoL keep) fun out hs hb => ⟨_, rfl, ?_⟩) (args_list_sort _)))
  exact wpAny_pure ⟨_, rfl, h out hs hb⟩
end

section
variable {X : Cx} {M : MM}
/-- sorted(t), ints -/
def rSortedT (K : PySem.W.Frag) : List V → Hp → VK → Prop := fun vs H Q => ∃ (a : Addr) (ns : List Int), vs = [V.ref a] ∧ SqT K H a (ns.map V.int) ∧
  ∀ (ns' : List Int) (p : Addr), ns'.Perm ns → ns'.Pairwise (· ≤ ·) → H p = none → Q (.ref p) (upd H p (.lst (ns'.map V.int)))
theorem cr_sortedT : CallR X (.builtin "sorted") (rSortedT X.K) := by
  intro pins s σ H vs us Q I r h
  obtain ⟨a, ns, rfl, hs, q⟩ := h
  obtain ⟨its, rv, pl, hz⟩ := I.tuple hs
  obtain ⟨o, ho, hc, n, hd⟩ := pl
  rw [Vals.ref1 r]
  have hi := rv.ints
  refine sorted_ordT SrtO.swo_int ho hc hd (by rw [← rv.length]; exact hz) (fun h2 h₁ a' _ _ => SrtO.ints_sortable hi h2) fun out h1 h2 => ?_
  obtain ⟨k1, k2, k3⟩ := SrtO.ints_out hi h1 h2
  obtain ⟨ep, he'⟩ := PyProof.Rows.sortedAll_at s.heap its out.toArray
  have hlen : ((out.map SrtO.iv).map V.int).length ≤ sizeLine := by
    rw [List.length_map, k2.length_eq]
    rw [List.length_map] at hz
    exact hz
  exact ⟨.ref _, upd H (s.heap.objs.size + 1) (.lst ((out.map SrtO.iv).map V.int)), I.laid (t' := s.toks) (fun _ _ => PyProof.Rows.sortedAll_old) (Nat.le_succ _) ⟨hlen, out, ep, vals_of_ints k1, he'⟩, rfl, q _ _ k2 k3 (I.hok.fresh (Nat.le_succ _))⟩
def srtI (ns : List Int) : List Int := ns.mergeSort (fun i j => decide (i ≤ j))
theorem srtI_perm (ns : List Int) : (srtI ns).Perm ns := List.mergeSort_perm _ _
theorem srtI_le (ns : List Int) : (srtI ns).Pairwise (· ≤ ·) := by
  have h := List.pairwise_mergeSort (le := fun i j : Int => decide (i ≤ j)) (fun a b c h1 h2 => by simp only [decide_eq_true_eq] at *; omega) (fun a b => by simp only [Bool.or_eq_true, decide_eq_true_eq]; omega) ns
  exact h.imp fun h => by simpa using h
theorem le_perm_eq : ∀ {xs ys : List Int}, xs.Perm ys → xs.Pairwise (· ≤ ·) → ys.Pairwise (· ≤ ·) → xs = ys := by
  intro xs
  induction xs with
  | nil => intro ys p _ _; exact (List.nil_perm.mp p).symm
  | cons x xs ih =>
    intro ys p h1 h2
    cases ys with
    | nil => exact absurd (List.perm_nil.mp p) (by simp)
    | cons y ys =>
      have hx := List.pairwise_cons.mp h1
      have hy := List.pairwise_cons.mp h2
      have e : x = y := by
        have m1 : x ∈ y :: ys := p.mem_iff.mp List.mem_cons_self
        have m2 : y ∈ x :: xs := p.mem_iff.mpr List.mem_cons_self
        rcases List.mem_cons.mp m1 with e | m1
        · exact e
        · rcases List.mem_cons.mp m2 with e | m2
          · exact e.symm
          · have a := hx.1 y m2
            have b := hy.1 x m1
            omega
      subst e
      rw [ih (List.Perm.cons_inv p) hx.2 hy.2]
theorem srtI_eq {ns ns' : List Int} (p : ns'.Perm ns) (h : ns'.Pairwise (· ≤ ·)) : ns' = srtI ns := le_perm_eq (p.trans (srtI_perm ns).symm) h (srtI_le ns)
def sortedD : List D → Option (List D)
  | [d] => (seqOf d).bind fun ds => (intsD ds).bind fun ns => some ((srtI ns).map D.int)
  | _ => none
def rSortedA (K : PySem.W.Frag) : List V → Hp → VK → Prop := fun xs H Q => rSortedI K xs H Q ∨ rSortedT K xs H Q
theorem cr_sortedA : CallR X (.builtin "sorted") (rSortedA X.K) := cr_sortedI.or cr_sortedT
theorem rep_ints {Fz : Fzn} {H : Hp} : ∀ ns : List Int, RepL M Fz H (ns.map D.int) (ns.map V.int)
  | [] => RepL.nil
  | _ :: ns => RepL.cons rep_int (rep_ints ns)
theorem callTF_sorted : CallTF M (rSortedA M.K) sortedD := by
  intro Fz H ds zs xs Q dom rx eo k
  unfold sortedD at eo
  split at eo
  · rename_i d
    obtain ⟨es, ees, eo⟩ := Option.bind_eq_some_iff.mp eo
    obtain ⟨ns, ens, eo⟩ := Option.bind_eq_some_iff.mp eo
    injection eo with eo; subst eo
    have rx0 := trep1 rx
    clear rx
    obtain ⟨x, rfl, rx⟩ := rx0
    obtain ⟨a, vs, rfl, h, r⟩ := seq_rep rx ees
    obtain ⟨e1, e2⟩ := ints_rep r ens
    subst e1
    rcases h with h | h
    · refine .inl ⟨a, ns, rfl, h, fun ns' p hp hs hn => ?_⟩
      rw [srtI_eq hp hs]
      exact k p _ hn (rep_ints _)
    · refine .inr ⟨a, ns, rfl, h, fun ns' p hp hs hn => ?_⟩
      rw [srtI_eq hp hs]
      exact k p _ hn (rep_ints _)
  · cases eo
section
variable {b : B} {W : WX} {e : Expr} {es : List Expr} {fa : FV} {p pos : Pos}
theorem c_sorted (hM : b.M = ⟨X.K, X.mg, Tb⟩) (hg : Gl X "sorted") (hm : X.mg "sorted" = none) (ha : PA X (e :: es) (tAv b W fa)) (he : starEach (e :: es) X.env = (false, eval e X.env) :: starEach es X.env := by rfl) (hpl : (backTo pos (starEach es X.env)).any (·.1) = false := by rfl) : PE X (.Call (.Name "sorted" p) (e :: es) [] pos) (tFr b W (bltFF sortedD fa)) := pf_blt cr_sortedA (castCF hM callTF_sorted) hg hm (by decide +kernel) ha (by decide) (by decide) he hpl
end
end
end DL
namespace DL
open PySem L2 PySem.Spec PyProof.Rows
/-! ### a statement that is never reached -/
section
variable {X : Cx} {b : B} {W : WX}
def noS : FS := fun _ => .no
theorem pts_no {st : Stmt} : PS X st (tSt b W [] noS) := ⟨fun pins s σ H D I ⟨Fz, g, r, h⟩ => h.elim⟩
def noE : FE := fun _ => .no
theorem pd_no {e : Expr} : PE X e (tE b W noE) := ⟨fun pins s σ H Q I ⟨Fz, g, r, h⟩ => h.elim⟩

/-! ### x is True, x is False -/
def isBD : D → D → Option D
  | .bl a, .bl c => some (.bl (decide (a = c)))
  | _, _ => none
def isNotBD : D → D → Option D
  | .bl a, .bl c => some (.bl (!decide (a = c)))
  | _, _ => none
theorem opt_isB {M : MM} : OpT M rIsB isBD := by
  intro Fz H d e z x y Q dom rx ry eo k
  unfold isBD at eo
  split at eo
  · injection eo with eo; subst eo
    exact ⟨_, _, tbl' rx, tbl' ry, k _ Fz H .refl rep_bl⟩
  · cases eo
theorem opt_isNotB {M : MM} : OpT M rNotB isNotBD := by
  intro Fz H d e z x y Q dom rx ry eo k
  unfold isNotBD at eo
  split at eo
  · injection eo with eo; subst eo
    exact ⟨_, _, tbl' rx, tbl' ry, k _ Fz H .refl rep_bl⟩
  · cases eo
variable {e1 e2 : Expr} {f1 f2 : FE} {g1 g2 : Sg → R AV} {pos : Pos}
theorem q_isb (hM : b.M = ⟨X.K, X.mg, Tb⟩) (h1 : PE X e1 (tE b W f1)) (h2 : PE X e2 (tE b W f2)) (hm : behindInMarks .Is e2 = false := by first | exact nobehind _ (by decide) (by decide) | rfl) : PE X (.Compare e1 [.Is] [e2] pos) (tE b W (op2F isBD f1 f2)) := pd_cmp op_isBl (castO hM opt_isB) h1 h2 hm
theorem qt_isb (hM : b.M = ⟨X.K, X.mg, Tb⟩) (h1 : PE X e1 (tE b W f1)) (h2 : PE X e2 (tE b W f2)) (hm : behindInMarks .Is e2 = false := by first | exact nobehind _ (by decide) (by decide) | rfl) : PT X (.Compare e1 [.Is] [e2] pos) (tBo b W (tstF (op2F isBD f1 f2))) := pt_cmpD op_isBl (castO hM opt_isB) h1 h2 hm
theorem q_isnotb (hM : b.M = ⟨X.K, X.mg, Tb⟩) (h1 : PE X e1 (tE b W f1)) (h2 : PE X e2 (tE b W f2)) (hm : behindInMarks .IsNot e2 = false := by first | exact nobehind _ (by decide) (by decide) | rfl) : PE X (.Compare e1 [.IsNot] [e2] pos) (tE b W (op2F isNotBD f1 f2)) := pd_cmp op_notBl (castO hM opt_isNotB) h1 h2 hm
theorem qt_isnotb (hM : b.M = ⟨X.K, X.mg, Tb⟩) (h1 : PE X e1 (tE b W f1)) (h2 : PE X e2 (tE b W f2)) (hm : behindInMarks .IsNot e2 = false := by first | exact nobehind _ (by decide) (by decide) | rfl) : PT X (.Compare e1 [.IsNot] [e2] pos) (tBo b W (tstF (op2F isNotBD f1 f2))) := pt_cmpD op_notBl (castO hM opt_isNotB) h1 h2 hm

/-! ### pop(i) of an own list -/
def popAtF (i : Nat) (f : FE) : FE := fun g => match gat g i with
  | .ow _ => (f g).bd fun d g1 => match d, gat g1 i with
    | .int k, .ow ds => if k.natAbs < 9223372036854775808 then match seqIndex? k ds.length with
      | some j => match ds[j]? with
        | some y => .ok y (g1.set i (.ow (ds.eraseIdx j)))
        | none => .no
      | none => .no
      else .no
    | _, _ => .no
  | _ => .no
theorem pd_popAt {i : Nat} {e o : Expr} {f : FE} {apos : Pos} (ho : PE X o (tVar i)) (h1 : PE X e (tE b W f)) (hbase : attributeBase o "pop" X.env (eval o X.env) = eval o X.env := by rfl)
    (hfew : ((backTo pos (starEach (e :: []) X.env)).all (fun x => !x.1) && (backToKw pos (keywordEach [] X.env)).all (fun x => x.1.isSome)
      && decide ((e :: []).length + ([] : List Keyword).length + (if ([] : List Keyword).isEmpty then 0 else 1) < 30)) = true := by rfl)
    (hline : (apos.endLine == pos.line) = true := by rfl) (hs : starEach (e :: []) X.env = (false, eval e X.env) :: starEach [] X.env := by rfl) (hplain : (backTo pos (starEach [] X.env)).any (·.1) = false := by rfl) :
    PE X (.Call (.Attribute o "pop" apos) [e] [] pos) (tE b W (popAtF i f)) :=
  pe_mono (pe_bm PySem.F.plainAttrs_list PySem.F.slot_list_pop PySem.F.type_list_pop mt_popAt ho (pa_cons h1 pa_nil hs) hbase hfew hline hs hplain) fun σ H Q ⟨Fz, g, r, h⟩ => by
    unfold popAtF at h
    cases hg : gat g i with
    | ow ds0 =>
      rw [hg] at h
      simp only at h
      obtain ⟨a, vs0, ea, _, _, hu0, _⟩ := own_of r hg
      refine ⟨.ref a, ea, .inl ⟨rfl, _, .inl (.inl hu0)⟩, ?_⟩
      refine tG_seq r h fun d x g1 Fz1 H1 r1 ex1 rep h1 => ?_
      cases d with
      | int k =>
        cases hg1 : gat g1 i with
        | ow ds =>
          rw [hg1] at h1
          simp only at h1
          by_cases c : k.natAbs < 9223372036854775808
          · rw [if_pos c] at h1
            cases hj : seqIndex? k ds.length with
            | none => rw [hj] at h1; exact h1.elim
            | some j =>
              rw [hj] at h1
              simp only at h1
              cases hy : ds[j]? with
              | none => rw [hy] at h1; exact h1.elim
              | some y =>
                rw [hy] at h1
                simp only at h1
                obtain ⟨a2, vs, ea2, ow2, nf, hu, rr⟩ := own_of r1 hg1
                rw [ea] at ea2
                cases ea2
                obtain ⟨v, hv, rv⟩ := rr.get hy
                obtain ⟨r3, ex3⟩ := r1.mutL ow2 (rr.eraseIdx j) nf ⟨_, hu⟩
                exact ⟨a, vs, k, j, v, rfl, by rw [rep_int' rep], hu, by omega, by omega, by rw [← RepL.length rr]; exact hj, hv, h1.ok r3 ex3 (Rep.mono ex3 y v rv)⟩
          · rw [if_neg c] at h1; exact h1.elim
        | _ => rw [hg1] at h1; exact h1.elim
      | _ => exact h1.elim
    | _ => rw [hg] at h; exact h.elim
end
end DL
namespace DL
open PySem L2 PySem.Spec PyProof.Rows
/-! ### xs[i] += e, ints -/
section
variable {X : Cx} {b : B} {W : WX}
theorem get_listD : PGet X (rIxL X.K) := by
  intro pins s σ H x y v u Q I rx ry h
  obtain ⟨p, xs, i, z, rfl, rfl, hq, he, q⟩ := h
  cases rx
  obtain ⟨t, rfl⟩ := ry
  obtain ⟨its, r, pl, hz⟩ := I.list hq
  obtain ⟨j, h1, h2, h3, h4, h5⟩ := atI_get he
  obtain ⟨w, ew, rw'⟩ := r.get h2
  have hl := r.length
  have hn := line63
  have fin : EP X pins σ Q w s := ⟨z, H, I, rw', q⟩
  by_cases h0 : 0 ≤ i
  · have hj : i.toNat = j := by
      rw [seqIndex_of h0 h5] at h1
      exact Option.some.inj h1
    exact wpAny_getItem_list pl.isList h0 (by omega) (by rw [hj]; simpa using ew) fin
  · have hj : (i + (its.toArray.size : Int)).toNat = j := by
      rw [seqIndex_neg (by omega) h4] at h1
      rw [List.size_toArray, ← hl]
      exact Option.some.inj h1
    exact wpAny_getItem_list_neg pl.isList (by omega) (by rw [List.size_toArray] <;> omega) (by omega) (by rw [hj]; simpa using ew) fin
def augIS (op : Int → Int → Int) (i : Nat) (fi fv : FE) : FS := fun g => match gat g i with
  | .ow _ => (fi g).sb fun k g2 => match k, gat g2 i with
    | .int k, .ow ds => match atI ds k with
      | some (.int m) => (fv g2).sb fun d g3 => match d, gat g3 i with
        | .int n, .ow es => match ixN es.length k with
          | some j => .nx (g3.set i (.ow (es.set j (.int (op m n)))))
          | none => .no
        | _, _ => .no
      | _ => .no
    | _, _ => .no
  | _ => .no
theorem pts_augI {i : Nat} {o e1 e2 : Expr} {op : Operator} {ff : Int → Int → Int} {fi fv : FE} {tpos pos : Pos} (hp : PIp X op (ipI ff)) (ho : PE X o (tVar i)) (h1 : PE X e1 (tE b W fi)) (h2 : PE X e2 (tE b W fv))
    (ha : ∀ ov iv new, augStore e1 ov iv new = (do holding [new, ov, iv] (setItem ov iv new); release [new, ov, iv] []; pure .next) := by intros; rfl) : PS X (.AugAssign (.Subscript o e1 tpos) op e2 pos) (tSt b W [] (augIS ff i fi fv)) :=
  ps_mono (ps_augS ho h1 get_listD h2 hp set_list ha) fun D σ H ⟨Fz, g, r, h⟩ => by
    unfold augIS at h
    cases hg1 : gat g i with
    | ow ds0 =>
      rw [hg1] at h
      simp only at h
      obtain ⟨a, vs0, ea, _, _, _, _⟩ := own_of r hg1
      refine ⟨.ref a, ea, ?_⟩
      refine tG_st r h fun k y g2 Fz2 H2 r2 ex2 repk h2 => ?_
      cases k with
      | int k =>
        cases hg2 : gat g2 i with
        | ow ds =>
          rw [hg2] at h2
          simp only at h2
          obtain ⟨a2, vs, ea2, ow2, nf, hu, rr⟩ := own_of r2 hg2
          rw [ea] at ea2
          cases ea2
          cases hm : atI ds k with
          | none => rw [hm] at h2; exact h2.elim
          | some m =>
            rw [hm] at h2
            cases m with
            | int m =>
              simp only at h2
              obtain ⟨v, hv, rv⟩ := atI_rep rr hm
              have ev : v = .int m := rep_int' rv
              subst ev
              refine ⟨a, vs, k, _, rfl, rep_int' repk, .inl (.inl hu), hv, ?_⟩
              refine tG_st r2 h2 fun d x g3 Fz3 H3 r3 ex3 repd h3 => ?_
              cases d with
              | int n =>
                cases hg3 : gat g3 i with
                | ow es =>
                  rw [hg3] at h3
                  simp only at h3
                  obtain ⟨a3, ws, ea3, ow3, nf3, hu3, rr3⟩ := own_of r3 hg3
                  rw [ea] at ea3
                  cases ea3
                  cases hj : ixN es.length k with
                  | none => rw [hj] at h3; exact h3.elim
                  | some j =>
                    rw [hj] at h3
                    simp only at h3
                    obtain ⟨r4, ex4⟩ := r3.mutL ow3 (rr3.set j (rep_int (c := ff m n))) nf3 ⟨_, hu3⟩
                    refine ⟨m, n, rfl, rep_int' repd, ?_⟩
                    exact ⟨a, ws, k, j, rfl, rep_int' repk, hu3, by rw [← RepL.length rr3]; exact hj, h3 _ _ _ r4 ⟨ex4, fun _ _ => rfl⟩⟩
                | _ => rw [hg3] at h3; exact h3.elim
              | _ => exact h3.elim
            | _ => exact h2.elim
        | _ => rw [hg2] at h2; exact h2.elim
      | _ => exact h2.elim
    | _ => rw [hg1] at h; exact h.elim
end
end DL
namespace DL
open PySem L2 PySem.Spec PyProof.Rows
/-! ### x += e, ints -/
section
variable {X : Cx} {b : B} {W : WX}
def augNS (op : Int → Int → Int) (i : Nat) (fv : FE) : FS := fun g => match gat g i with
  | .v (.int m) => (fv g).sb fun d g1 => match d with
    | .int n => .nx (g1.set i (.v (.int (op m n))))
    | _ => .no
  | _ => .no
theorem pts_augN {i : Nat} {x : Str} {e : Expr} {op : Operator} {ff : Int → Int → Int} {fv : FE} {p' pos : Pos} (hp : PIp X op (ipI ff)) (hN : X.N.Nodup) (hi : X.N[i]? = some x) (hx : Loc X.env.scope x) (he : PE X e (tE b W fv))
    (hf : X.fn x = true ∨ X.env.scope.names.lookup x = some .local := by first | exact .inl rfl | exact .inr rfl | assumption) (hpx : PxOk b i) : PS X (.AugAssign (.Name x p') op e pos) (tSt b W [i] (augNS ff i fv)) :=
  ps_mono (ps_aug hN hi hx he hp hf) fun D σ H ⟨Fz, g, r, h⟩ => by
    unfold augNS at h
    cases hg : gat g i with
    | v d =>
      rw [hg] at h
      cases d with
      | int m =>
        simp only at h
        obtain ⟨y, e1, r1⟩ := r.slot (gat_get hg (by intro z; cases z))
        refine ⟨y, e1, ?_⟩
        refine tG_st r h fun d x' g1 Fz1 H1 r2 _ rep h1 => ?_
        cases d with
        | int n => exact ⟨m, n, rep_int' r1, rep_int' rep, h1 _ H1 Fz1 (r2.setV hpx rep_int) .set⟩
        | _ => exact h1.elim
      | _ => exact h.elim
    | _ => rw [hg] at h; exact h.elim
end
end DL

set_option Elab.async false
set_option linter.all false
set_option maxRecDepth 100000
set_option maxHeartbeats 4000000
/-! DenN: nested own lists: made, appended to, melted to data. -/
namespace DL
open PySem L2 PySem.Spec PyProof.Rows

section
variable {b : B} {W : WX} {Fz Fz' : Fzn} {g g' : Sg} {σ σ' : L2.St} {H H' : Hp} {i : Nat} {a : Addr} {ps : List Addr} {dss : List (List D)}
/-- slot i takes nested lists that no slot has -/
theorem BRel.setN (r : BRel b Fz g σ H) (hun : g[i]? = some .un) (hs : σ[i]? = some (some (V.ref a))) (ha : H a = some (.lst (ps.map V.ref))) (nd : (a :: ps).Nodup) (hl : ps.length = dss.length)
    (cells : ∀ (k : Nat) (p : Addr) (ds : List D), ps[k]? = some p → dss[k]? = some ds → ∃ vs : List V, H p = some (.lst vs) ∧ RepL b.M Fz H ds vs)
    (fr : ∀ x, x ∈ a :: ps → ¬ Fz x ∧ b.H0 x = none ∧ ∀ j, ¬ AOwn g σ H j x) : BRel b Fz (g.set i (.on dss)) σ H := by
  have ow : ∀ {j x}, Own (g.set i (.on dss)) σ j x → Own g σ j x := fun {j x} q => by
    obtain ⟨⟨t, e, w⟩, z⟩ := q
    rcases gset_get e with ⟨_, e2⟩ | ⟨hj, e2⟩
    · subst e2; cases w
    · exact ⟨⟨t, e2, w⟩, z⟩
  have nw : ∀ {j x}, NOwn (g.set i (.on dss)) σ H j x → (j = i ∧ x ∈ a :: ps) ∨ (j ≠ i ∧ NOwn g σ H j x) := fun {j x} q => by
    obtain ⟨d2, a2, vs, h1, h2, h3, h4⟩ := q
    rcases gset_get h1 with ⟨e1, e2⟩ | ⟨hj, e2⟩
    · subst e1
      rw [hs] at h2
      injection h2 with h2
      injection h2 with h2
      injection h2 with h2
      subst h2
      rw [ha] at h3
      injection h3 with h3
      injection h3 with h3
      subst h3
      refine .inl ⟨rfl, ?_⟩
      rcases h4 with h4 | h4
      · rw [h4]; exact List.mem_cons_self
      · obtain ⟨p, hp, ep⟩ := List.mem_map.mp h4
        injection ep with ep
        rw [← ep]; exact List.mem_cons_of_mem _ hp
    · exact .inr ⟨hj, d2, a2, vs, e2, h2, h3, h4⟩
  refine ⟨r.gr, ⟨by rw [List.length_set]; exact r.rel.len, fun j t q => ?_, fun j k x p q => r.rel.apart j k x (ow p) (ow q)⟩, fun j x q => r.own j x (ow q), fun j x l q => r.pin j x l (ow q), r.px, ⟨fun j d2 q => ?_, fun j x q => ?_, fun j k x p q => ?_⟩⟩
  · rcases gset_get q with ⟨_, e2⟩ | ⟨_, e2⟩
    · subst e2; trivial
    · exact r.slot e2
  · rcases gset_get q with ⟨e1, e2⟩ | ⟨_, e2⟩
    · subst e1
      injection e2 with e2
      subst e2
      exact ⟨a, ps, hs, ha, nd, hl, cells⟩
    · exact r.nst.at_ j d2 e2
  · rcases nw q with ⟨_, z⟩ | ⟨_, z⟩
    · obtain ⟨k1, k2, k3⟩ := fr x z
      exact ⟨k1, k2, fun l o => k3 l (.inl (ow o))⟩
    · obtain ⟨k1, k2, k3⟩ := r.nst.free j x z
      exact ⟨k1, k2, fun l o => k3 l (ow o)⟩
  · rcases nw p with ⟨e1, z1⟩ | ⟨_, z1⟩
    · rcases nw q with ⟨e2, z2⟩ | ⟨_, z2⟩
      · rw [e1, e2]
      · exact absurd (.inr z2) ((fr x z1).2.2 k)
    · rcases nw q with ⟨e2, z2⟩ | ⟨_, z2⟩
      · exact absurd (.inr z1) ((fr x z2).2.2 j)
      · exact r.nst.one j k x z1 z2
/-- what stands at a nested slot -/
theorem nst_of (r : BRel b Fz g σ H) (hg : gat g i = .on dss) : ∃ a ps, σ[i]? = some (some (V.ref a)) ∧ H a = some (.lst (ps.map V.ref)) ∧ (a :: ps).Nodup ∧ ps.length = dss.length ∧
    (∀ (k : Nat) (p : Addr) (ds : List D), ps[k]? = some p → dss[k]? = some ds → ∃ vs : List V, H p = some (.lst vs) ∧ RepL b.M Fz H ds vs) ∧
    (∀ x, x ∈ a :: ps → ¬ Fz x ∧ b.H0 x = none ∧ ∀ j, ¬ AOwn (g.set i .un) σ H j x) ∧ ∀ x, x ∈ a :: ps → ∀ j, ¬ Own g σ j x := by
  have hgi := gat_get hg (by intro z; cases z)
  obtain ⟨a, ps, h1, h2, h3, h4, h5⟩ := r.nst.at_ i dss hgi
  have no : ∀ x, x ∈ a :: ps → NOwn g σ H i x := fun x hx => by
    refine ⟨dss, a, _, hgi, h1, h2, ?_⟩
    rcases List.mem_cons.mp hx with e | e
    · exact .inl e
    · exact .inr (List.mem_map.mpr ⟨x, e, rfl⟩)
  refine ⟨a, ps, h1, h2, h3, h4, h5, fun x hx => ?_, fun x hx j o => (r.nst.free i x (no x hx)).2.2 j o⟩
  obtain ⟨k1, k2, k3⟩ := r.nst.free i x (no x hx)
  refine ⟨k1, k2, fun j o => ?_⟩
  rcases o with o | o
  · obtain ⟨⟨t, e, w⟩, z⟩ := o
    rcases gset_get e with ⟨_, e2⟩ | ⟨_, e2⟩
    · subst e2; cases w
    · exact k3 j ⟨⟨t, e2, w⟩, z⟩
  · obtain ⟨d2, a2, vs, e, z⟩ := o
    rcases gset_get e with ⟨_, e2⟩ | ⟨hj, e2⟩
    · cases e2
    · exact hj (r.nst.one j i x ⟨d2, a2, vs, e2, z⟩ (no x hx))
theorem on_at (r : BRel b Fz g σ H) {p : Addr} {k : Nat} (h1 : H a = some (.lst (ps.map V.ref))) (nd : (a :: ps).Nodup) (hk : ps[k]? = some p) : p ≠ a ∧ ∀ j q, ps[j]? = some q → q = p → j = k := by
  have nd' := List.nodup_cons.mp nd
  refine ⟨fun z => nd'.1 (by rw [← z]; exact List.mem_of_getElem? hk), fun j q hj e => ?_⟩
  subst e
  exact (List.getElem?_inj (List.getElem?_eq_some_iff.mp hj).1 nd'.2).mp (hj.trans hk.symm)
/-- an inner list is changed -/
theorem BRel.mutN (r : BRel b Fz g σ H) (hg : gat g i = .on dss) (hi : σ[i]? = some (some (V.ref a))) (ha : H a = some (.lst (ps.map V.ref))) {k : Nat} {p : Addr} {ds' : List D} {ws : List V} (hk : ps[k]? = some p) (rr : RepL b.M Fz H ds' ws) :
    BRel b Fz (g.set i (.on (dss.set k ds'))) σ (upd H p (.lst ws)) ∧ Ext Fz H Fz (upd H p (.lst ws)) := by
  obtain ⟨a2, qs, h1, h2, nd, hl, cells, fr, no⟩ := nst_of r hg
  rw [hi] at h1
  injection h1 with h1
  injection h1 with h1
  injection h1 with h1
  subst h1
  rw [ha] at h2
  injection h2 with h2
  injection h2 with h2
  have h2' : ps = qs := List.map_inj_right (fun x y z => by injection z) |>.mp h2
  subst h2'
  obtain ⟨na, nk⟩ := on_at r ha nd hk
  have hp : p ∈ a :: ps := List.mem_cons_of_mem _ (List.mem_of_getElem? hk)
  have hlk : k < dss.length := by rw [← hl]; exact (List.getElem?_eq_some_iff.mp hk).1
  obtain ⟨vs0, hv0, _⟩ := cells k p dss[k] hk (List.getElem?_eq_getElem hlk)
  have r0 := r.forget i
  obtain ⟨f1, f2, f3⟩ := fr p hp
  obtain ⟨r1, ex⟩ := r0.updNew (u' := .lst ws) f2 f1 f3 hv0 trivial
  refine ⟨?_, ex⟩
  have hlen : i < g.length := (List.getElem?_eq_some_iff.mp (gat_get hg (by intro z; cases z))).1
  have z := r1.setN (a := a) (ps := ps) (dss := dss.set k ds') (i := i) (List.getElem?_set_self hlen) hi (by rw [upd_ne na.symm]; exact ha) nd (by rw [List.length_set]; exact hl) (fun j q ds e1 e2 => by
    by_cases c : j = k
    · subst c
      rw [hk] at e1
      injection e1 with e1
      subst e1
      rw [List.getElem?_set_self hlk] at e2
      injection e2 with e2
      subst e2
      exact ⟨ws, upd_same, RepL.mono ex _ _ rr⟩
    · rw [List.getElem?_set_ne (Ne.symm c)] at e2
      obtain ⟨vs, k1, k2⟩ := cells j q ds e1 e2
      exact ⟨vs, by rw [upd_ne fun z => c (nk j q e1 z)]; exact k1, RepL.mono ex _ _ k2⟩) fun x hx => by
    obtain ⟨k1, k2, k3⟩ := fr x hx
    refine ⟨k1, k2, fun j o => k3 j ?_⟩
    rcases o with o | o
    · exact .inl o
    · exact .inr (nown_same r0.nst (r0.nst.upd fun l q => f3 l (.inr q)) o)
  rw [List.set_set] at z
  exact z
end
section
variable {X : Cx} {b : B} {W : WX} {i jk je : Nat} {o e ke : Expr} {pos kpos apos : Pos}
/-- x[k].append(v), x nested own lists, k and v variables -/
def apNF (i jk je : Nat) : FE := fun g => match gat g i, gat g jk, gat g je with
  | .on dss, .v (.int k), .v d => match ixN dss.length k with
    | some j => match dss[j]? with
      | some ds => if ds.length < sizeLine then .ok .non (g.set i (.on (dss.set j (ds ++ [d])))) else .no
      | none => .no
    | none => .no
  | _, _, _ => .no
theorem pd_apN (ho : PE X o (tVar i)) (hk : PE X ke (tVar jk)) (he : PE X e (tVar je)) (hs0 : PlainIx ke) (hbase : attributeBase (.Subscript o ke kpos) "append" X.env (eval (.Subscript o ke kpos) X.env) = eval (.Subscript o ke kpos) X.env := by rfl)
    (hfew : ((backTo pos (starEach (e :: []) X.env)).all (fun x => !x.1) && (backToKw pos (keywordEach [] X.env)).all (fun x => x.1.isSome)
      && decide ((e :: []).length + ([] : List Keyword).length + (if ([] : List Keyword).isEmpty then 0 else 1) < 30)) = true := by rfl)
    (hline : (apos.endLine == pos.line) = true := by rfl) (hs : starEach (e :: []) X.env = (false, eval e X.env) :: starEach [] X.env := by rfl) (hplain : (backTo pos (starEach [] X.env)).any (·.1) = false := by rfl) :
    PE X (.Call (.Attribute (.Subscript o ke kpos) "append" apos) [e] [] pos) (tE b W (apNF i jk je)) :=
  pe_mono (pe_bm PySem.F.plainAttrs_list PySem.F.slot_list_append PySem.F.type_list_append mt_append (pe_ix ix_list ho hk hs0) (pa_cons he pa_nil hs) hbase hfew hline hs hplain) fun σ H Q ⟨Fz, g, r, h⟩ => by
    unfold apNF at h
    cases hg : gat g i with
    | on dss =>
      rw [hg] at h
      cases hgk : gat g jk with
      | v dk =>
        rw [hgk] at h
        cases dk with
        | int k =>
          cases hge : gat g je with
          | v d =>
            rw [hge] at h
            simp only at h
            cases hj : ixN dss.length k with
            | none => rw [hj] at h; exact h.elim
            | some j =>
              rw [hj] at h
              simp only at h
              cases hd : dss[j]? with
              | none => rw [hd] at h; exact h.elim
              | some ds =>
                rw [hd] at h
                simp only at h
                by_cases c : ds.length < sizeLine
                · rw [if_pos c] at h
                  obtain ⟨a, ps, h1, h2, nd, hl, cells, fr, no⟩ := nst_of r hg
                  have hlp : j < ps.length := by rw [hl]; exact (List.getElem?_eq_some_iff.mp hd).1
                  have hp : ps[j]? = some ps[j] := List.getElem?_eq_getElem hlp
                  obtain ⟨vs, hv, rr⟩ := cells j _ ds hp hd
                  obtain ⟨kv, ek, rk⟩ := r.slot (gat_get hgk (by intro z; cases z))
                  obtain ⟨ev, ee, re⟩ := r.slot (gat_get hge (by intro z; cases z))
                  have rk' := rep_int' rk
                  subst rk'
                  obtain ⟨r3, ex3⟩ := r.mutN hg h1 h2 hp (rr.append (RepL.cons re RepL.nil))
                  refine ⟨.ref a, h1, .int k, ek, a, ps.map V.ref, k, .ref ps[j], rfl, rfl, .inl (.inl h2), ?_, ?_⟩
                  · unfold atI
                    rw [List.length_map, hl, hj]
                    show (ps.map V.ref)[j]? = _
                    rw [List.getElem?_map, hp]; rfl
                  · refine ⟨.inl ⟨rfl, _, .inl (.inl hv)⟩, ev, ee, ps[j], vs, ev, rfl, rfl, hv, by rw [← RepL.length rr]; exact c, ?_⟩
                    exact h.ok r3 ex3 rep_non
                · rw [if_neg c] at h; exact h.elim
          | _ => rw [hge] at h; exact h.elim
        | _ => exact h.elim
      | _ => rw [hgk] at h; exact h.elim
    | _ => rw [hg] at h; exact h.elim
end
end DL

namespace DL
open PySem L2 PySem.Spec PyProof.Rows
/-! ### melted: the nested lists become data -/
section
variable {b : B} {W : WX} {Fz Fz' : Fzn} {g g' : Sg} {σ σ' : L2.St} {H H' : Hp} {i : Nat} {a : Addr} {ps : List Addr} {dss : List (List D)}
theorem BRel.knowV (r : BRel b Fz g σ H) {d : D} {x : V} (hs : σ[i]? = some (some x)) (h : Rep b.M Fz H d x) : BRel b Fz (g.set i (.v d)) σ H := by
  have ow : ∀ {j a}, Own (g.set i (.v d)) σ j a → Own g σ j a := fun {j a} q => by
    obtain ⟨⟨t, e, w⟩, z⟩ := q
    rcases gset_get e with ⟨_, e2⟩ | ⟨hj, e2⟩
    · subst e2; cases w
    · exact ⟨⟨t, e2, w⟩, z⟩
  refine ⟨r.gr, ⟨by rw [List.length_set]; exact r.rel.len, fun j t q => ?_, fun j k a p q => r.rel.apart j k a (ow p) (ow q)⟩, fun j a q => r.own j a (ow q), fun j a l q => r.pin j a l (ow q), r.px,
    r.nst.step rfl .refl (fun j dss q => (gset_get q).elim (fun ⟨_, e2⟩ => by cases e2) fun ⟨_, e2⟩ => ⟨e2, rfl⟩) (fun _ _ _ => rfl) fun j x q => let ⟨k1, k2, k3⟩ := r.nst.free j x q; ⟨k1, k2, fun l o => k3 l (ow o)⟩⟩
  rcases gset_get q with ⟨e1, e2⟩ | ⟨_, e2⟩
  · subst e1; subst e2; exact ⟨x, hs, h⟩
  · exact r.slot e2
def fzAdds (Fz : Fzn) : List Addr → Fzn
  | [] => Fz
  | p :: ps => fzAdd (fzAdds Fz ps) p
theorem fzAdds_old {ps : List Addr} {x : Addr} (h : Fz x) : fzAdds Fz ps x := by
  induction ps with
  | nil => exact h
  | cons p ps ih => exact .inl ih
theorem fzAdds_in {ps : List Addr} {x : Addr} (h : x ∈ ps) : fzAdds Fz ps x := by
  induction ps with
  | nil => cases h
  | cons p ps ih =>
    rcases List.mem_cons.mp h with e | e
    · exact .inr e
    · exact .inl (ih e)
theorem BRel.fzFreshs (r : BRel b Fz g σ H) : ∀ {ps : List Addr}, (∀ p ∈ ps, b.H0 p = none ∧ (∃ u, H p = some u) ∧ ∀ i, ¬ AOwn g σ H i p) → BRel b (fzAdds Fz ps) g σ H
  | [], _ => r
  | p :: ps, h => by
    have r1 := BRel.fzFreshs r (ps := ps) fun q hq => h q (List.mem_cons_of_mem _ hq)
    obtain ⟨h1, ⟨u, h2⟩, h3⟩ := h p List.mem_cons_self
    exact r1.fzFresh h1 h2 h3
theorem repL_cells {M : MM} : ∀ {ps : List Addr} {dss : List (List D)}, ps.length = dss.length → (∀ p ∈ ps, Fz p) → (∀ (k : Nat) (p : Addr) (ds : List D), ps[k]? = some p → dss[k]? = some ds → ∃ vs : List V, H p = some (.lst vs) ∧ RepL M Fz H ds vs) →
    RepL M Fz H (dss.map D.lst) (ps.map V.ref)
  | [], [], _, _, _ => RepL.nil
  | [], _ :: _, h, _, _ => by cases h
  | _ :: _, [], h, _, _ => by cases h
  | p :: ps, ds :: dss, h, hf, hc => by
    obtain ⟨vs, h1, h2⟩ := hc 0 p ds rfl rfl
    exact RepL.cons (rep_lst (.inl ⟨hf p List.mem_cons_self, h1⟩) h2) (repL_cells (by simpa using h) (fun q hq => hf q (List.mem_cons_of_mem _ hq)) fun k q es e1 e2 => hc (k + 1) q es (by simpa using e1) (by simpa using e2))
def frzNF (i : Nat) : FE := fun g => match gat g i with
  | .v d => .ok d g
  | .ow ds => .no
  | .on dss => .ok (.lst (dss.map D.lst)) (g.set i (.v (.lst (dss.map D.lst))))
  | _ => .no
theorem pd_frzN {X : Cx} {e : Expr} (h : PE X e (tVar i)) : PE X e (tE b W (frzNF i)) := pe_mono h fun σ H Q ⟨Fz, g, r, q⟩ => by
  unfold frzNF at q
  cases hg : gat g i with
  | v d =>
    rw [hg] at q
    obtain ⟨x, e1, rep⟩ := r.slot (gat_get hg (by intro z; cases z))
    exact ⟨x, e1, q x H Fz r .refl rep⟩
  | on dss =>
    rw [hg] at q
    obtain ⟨a, ps, h1, h2, nd, hl, cells, fr, no⟩ := nst_of r hg
    have there : ∀ p ∈ a :: ps, ∃ u, H p = some u := fun p hp => by
      rcases List.mem_cons.mp hp with e | e
      · subst e; exact ⟨_, h2⟩
      · obtain ⟨k, hk⟩ := List.getElem?_of_mem e
        have hlk : k < dss.length := by rw [← hl]; exact (List.getElem?_eq_some_iff.mp hk).1
        obtain ⟨vs, hv, _⟩ := cells k p dss[k] hk (List.getElem?_eq_getElem hlk)
        exact ⟨_, hv⟩
    have r1 := (r.forget i).fzFreshs (ps := a :: ps) fun p hp => ⟨(fr p hp).2.1, there p hp, (fr p hp).2.2⟩
    have ex : Ext Fz H (fzAdds Fz (a :: ps)) H := ⟨fun _ q => fzAdds_old q, fun _ _ q _ => .of q⟩
    have rep : Rep b.M (fzAdds Fz (a :: ps)) H (.lst (dss.map D.lst)) (.ref a) := rep_lst (.inl ⟨fzAdds_in List.mem_cons_self, h2⟩) (repL_cells hl (fun p hp => fzAdds_in (List.mem_cons_of_mem _ hp)) fun k p ds e1 e2 => by
      obtain ⟨vs, k1, k2⟩ := cells k p ds e1 e2
      exact ⟨vs, k1, RepL.mono ex _ _ k2⟩)
    have r2 := r1.knowV h1 rep
    rw [List.set_set] at r2
    exact ⟨.ref a, h1, q (.ref a) H _ r2 ex rep⟩
  | _ => rw [hg] at q; exact q.elim
end
end DL

set_option Elab.async false
set_option linter.all false
set_option maxRecDepth 100000
set_option maxHeartbeats 4000000
/-! DenNL: a comprehension that makes nested own lists. -/
namespace DL
open PySem L2 PySem.Spec PyProof.Rows

structure CellsOk (b : B) (Fz : Fzn) (g : Sg) (σ : L2.St) (H : Hp) (a : Addr) (ps : List Addr) (dss : List (List D)) : Prop where
  ha : H a = some (.lst (ps.map V.ref))
  nd : (a :: ps).Nodup
  hl : ps.length = dss.length
  cells : ∀ (k : Nat) (p : Addr) (ds : List D), ps[k]? = some p → dss[k]? = some ds → ∃ vs : List V, H p = some (.lst vs) ∧ RepL b.M Fz H ds vs
  fr : ∀ x, x ∈ a :: ps → ¬ Fz x ∧ b.H0 x = none ∧ ∀ j, ¬ AOwn g σ H j x
section
variable {b : B} {W : WX} {Fz Fz' : Fzn} {g g' : Sg} {σ σ' : L2.St} {H H' : Hp} {a : Addr} {ps : List Addr} {dss : List (List D)}
theorem CellsOk.there (c : CellsOk b Fz g σ H a ps dss) {x : Addr} (hx : x ∈ a :: ps) : ∃ vs : List V, H x = some (.lst vs) := by
  rcases List.mem_cons.mp hx with e | e
  · subst e; exact ⟨_, c.ha⟩
  · obtain ⟨k, hk⟩ := List.getElem?_of_mem e
    have hlk : k < dss.length := by rw [← c.hl]; exact (List.getElem?_eq_some_iff.mp hk).1
    obtain ⟨vs, hv, _⟩ := c.cells k x dss[k] hk (List.getElem?_eq_getElem hlk)
    exact ⟨_, hv⟩
theorem CellsOk.step (c : CellsOk b Fz g σ H a ps dss) (ex : Ext Fz H Fz' H') (hh : ∀ x, x ∈ a :: ps → H' x = H x) (hf : ∀ x, x ∈ a :: ps → ¬ Fz' x ∧ ∀ j, ¬ AOwn g' σ' H' j x) : CellsOk b Fz' g' σ' H' a ps dss where
  ha := (hh a List.mem_cons_self).trans c.ha
  nd := c.nd
  hl := c.hl
  cells := fun k p ds e1 e2 => by
    obtain ⟨vs, h1, h2⟩ := c.cells k p ds e1 e2
    exact ⟨vs, (hh p (List.mem_cons_of_mem _ (List.mem_of_getElem? e1))).trans h1, RepL.mono ex _ _ h2⟩
  fr := fun x hx => ⟨(hf x hx).1, (c.fr x hx).2.1, (hf x hx).2⟩
theorem CellsOk.grow (c : CellsOk b Fz g σ H a ps dss) (r : BRel b Fz g σ H) (e : GrowTo Fz H Fz' H') : CellsOk b Fz' g σ H' a ps dss :=
  c.step e.ext (fun x hx => by
    obtain ⟨vs, hv⟩ := c.there hx
    rw [hv]; exact e.st _ _ hv) fun x hx => ⟨(fun z => by
    rcases e.new x z with y | ⟨y, _⟩
    · exact (c.fr x hx).1 y
    · obtain ⟨vs, hv⟩ := c.there hx
      rw [hv] at y; cases y), r.notA_grow e (c.fr x hx).2.2⟩
theorem BRel.notA_updX (r : BRel b Fz g σ H) {p x : Addr} {u : HO} (hp : ∀ i, ¬ AOwn g σ H i p) (hA : ∀ i, ¬ AOwn g σ H i x) : ∀ i, ¬ AOwn g σ (upd H p u) i x := fun i h => h.elim (fun z => hA i (.inl z)) fun z => hA i (.inr (nown_same r.nst (r.nst.upd fun j q => hp j (.inr q)) z))
theorem CellsOk.push (c : CellsOk b Fz g σ H a ps dss) (r : BRel b Fz g σ H) {p : Addr} {ws : List V} {ds : List D} (hp : p ∉ a :: ps) (hH : H p = some (.lst ws)) (rr : RepL b.M Fz H ds ws) (nf : ¬ Fz p) (h0 : b.H0 p = none) (hA : ∀ i, ¬ AOwn g σ H i p) :
    CellsOk b Fz g σ (upd H a (.lst (ps.map V.ref ++ [V.ref p]))) a (ps ++ [p]) (dss ++ [ds]) := by
  have ca := (c.fr a List.mem_cons_self)
  have ex : Ext Fz H Fz (upd H a (.lst (ps.map V.ref ++ [V.ref p]))) := ⟨fun _ q => q, fun x o hx q => .of (by
    rw [upd_ne]
    · exact hx
    · intro z
      subst z
      rcases q with q | q
      · exact ca.1 q
      · rw [c.ha] at hx; cases hx; exact q trivial)⟩
  have nd := List.nodup_cons.mp c.nd
  have hp' : p ≠ a ∧ p ∉ ps := by simpa [not_or] using hp
  refine ⟨by rw [upd_same, List.map_append]; rfl, ?_, by rw [List.length_append, List.length_append, c.hl]; rfl, fun k q es e1 e2 => ?_, fun x hx => ?_⟩
  · rw [List.nodup_cons]
    refine ⟨by simp only [List.mem_append, List.mem_singleton, not_or]; exact ⟨nd.1, fun z => hp'.1 z.symm⟩, ?_⟩
    rw [List.nodup_append]
    exact ⟨nd.2, by simp, fun x hx y hy z => by
      rw [List.mem_singleton] at hy
      subst hy; subst z; exact hp'.2 hx⟩
  · by_cases hk : k < ps.length
    · rw [List.getElem?_append_left hk] at e1
      rw [List.getElem?_append_left (by rw [← c.hl]; exact hk)] at e2
      obtain ⟨vs, h1, h2⟩ := c.cells k q es e1 e2
      have nq : q ≠ a := fun z => nd.1 (by rw [← z]; exact List.mem_of_getElem? e1)
      exact ⟨vs, by rw [upd_ne nq]; exact h1, RepL.mono ex _ _ h2⟩
    · rw [List.getElem?_append_right (by omega)] at e1
      rw [List.getElem?_append_right (by rw [← c.hl]; omega)] at e2
      have hk0 : k - ps.length = 0 := by
        have := (List.getElem?_eq_some_iff.mp e1).1
        simp at this; omega
      rw [hk0] at e1
      rw [← c.hl, hk0] at e2
      simp at e1 e2
      subst e1; subst e2
      exact ⟨ws, by rw [upd_ne hp'.1]; exact hH, RepL.mono ex _ _ rr⟩
  · rw [List.mem_cons, List.mem_append, List.mem_singleton] at hx
    rcases hx with e | e | e
    · subst e; exact ⟨ca.1, ca.2.1, r.notA_updX ca.2.2 ca.2.2⟩
    · obtain ⟨k1, k2, k3⟩ := c.fr x (List.mem_cons_of_mem _ e)
      exact ⟨k1, k2, r.notA_updX ca.2.2 k3⟩
    · subst e; exact ⟨nf, h0, r.notA_updX ca.2.2 hA⟩
def bN (b : B) : Bear (List (List D)) V := fun σ Fz H g dss x => ∃ a ps, x = V.ref a ∧ CellsOk b Fz g σ H a ps dss

def keepN? {α : Type} (r : R α) (n : Nat) (k : α → Sg → R (List (List D))) : R (List (List D)) := match r with
  | .ok a g => if g.length = n then k a g else .no
  | _ => .no
def lcNL (t : Tgt) (c : FB) (e : FF) (vs : List Nat) : List D → List (List D) → Sg → R (List (List D))
  | [], acc, g => .ok acc g
  | d :: ds, acc, g => match t d g with
    | none => .no
    | some g1 => keepN? (c g1) g1.length fun k g2 => if k = true then keepN? (e g2) g1.length fun y g3 => lcNL t c e vs ds (acc ++ [y]) (wipeG g3 vs) else lcNL t c e vs ds acc (wipeG g2 vs)
/-- [fresh list for ..], nested -/
def lcN (fi : FI) (t : Tgt) (c : FB) (e : FF) (vs : List Nat) : Sg → R (List (List D)) := fun g => (fi g).bd fun items g1 => if items.length ≤ sizeLine then lcNL t c e vs items [] (wipeG g1 vs) else .no
theorem wipeG_id (vs : List Nat) (g : Sg) (hg : ∀ i ∈ vs, ∀ s, g[i]? = some s → s = .un) : DL.wipeG g vs = g := by
  induction vs with
  | nil => rfl
  | cons v vs ih =>
    unfold DL.wipeG
    rw [ih fun i hi => hg i (List.mem_cons_of_mem _ hi)]
    apply List.ext_getElem?
    intro i
    by_cases c : v = i
    · subst c
      by_cases l : v < g.length
      · rw [List.getElem?_set_self l]
        have := hg v List.mem_cons_self g[v] (by simp [l])
        simp [l, this]
      · rw [List.getElem?_eq_none (by rw [List.length_set]; omega), List.getElem?_eq_none (by omega)]
    · rw [List.getElem?_set_ne c]
theorem wipeG_wipe (vs : List Nat) (g : Sg) : DL.wipeG (DL.wipeG g vs) vs = DL.wipeG g vs := wipeG_id vs _ fun i hi s hs => Classical.byContradiction fun n => wipeG_get hs n hi
theorem wipeG_out {g : Sg} {i : Nat} : ∀ {vs : List Nat}, i ∉ vs → (DL.wipeG g vs)[i]? = g[i]?
  | [], _ => rfl
  | v :: vs, h => by
    rw [List.mem_cons, not_or] at h
    unfold DL.wipeG
    rw [List.getElem?_set_ne (fun z => h.1 z.symm)]
    exact wipeG_out h.2
variable {fi : FI} {t : Tgt} {fc : FB} {ff : FF} {ta : List Nat}
theorem lc_runN (hx : b.px = none) {σ : L2.St} {H : Hp} {Q : VK} {vs : List Nat} (hta : ∀ i ∈ ta, i ∈ vs) (h : tG b W (bN b) (lcN fi t fc ff vs) σ H Q) :
    tLc (tI b W fi) (fun v σ' H' Q' => ∃ b', (b'.M = b.M ∧ b'.px = none) ∧ gD b' ta t v σ' H' Q') (fun σ' H' Q' => ∃ b', (b'.M = b.M ∧ b'.px = none) ∧ tBo b' W0 fc σ' H' Q') (fun σ' H' Q' => ∃ b', (b'.M = b.M ∧ b'.px = none) ∧ tFr b' W0 ff σ' H' Q') vs σ H Q := by
  obtain ⟨Fz, g, r, h⟩ := h
  refine tG_seq r h fun items J g1 Fz1 H1 r1 e1 src h1 => ?_
  have src' : SrcOk b J Fz1 H1 items := src
  by_cases hlen : items.length ≤ sizeLine
  rotate_left
  · rw [if_neg hlen] at h1; exact h1.elim
  rw [if_pos hlen] at h1
  intro D hD
  have hD0 := r1.new0 hD
  have rA : BRel b Fz1 (DL.wipeG g1 vs) (wipe σ vs) (upd H1 D (.lst [])) := (r1.alloc hD).wipe hx vs
  have rA0 : ∀ i, ¬ AOwn (DL.wipeG g1 vs) (wipe σ vs) (upd H1 D (.lst [])) i D := (r1.wipe hx vs).notAu hD
  have cA : CellsOk b Fz1 (DL.wipeG g1 vs) (wipe σ vs) (upd H1 D (.lst [])) D [] [] := ⟨upd_same, by simp, rfl, fun k p ds e => by simp at e, fun x hx => by
    rw [List.mem_singleton] at hx
    subst hx
    exact ⟨r1.notFz hD, hD0, rA0⟩⟩
  refine ⟨fun k m H' => m = items.length - k ∧ k ≤ items.length ∧ ∃ Fz' g' acc ps, BRel b Fz' g' (wipe σ vs) H' ∧ DL.wipeG g' vs = g' ∧ Ext Fz1 H1 Fz' H' ∧ CellsOk b Fz' g' (wipe σ vs) H' D ps acc ∧ acc.length ≤ k ∧
    Po b W (bN b) σ Fz' H' (fun x _ _ H' _ => Q x H') (lcNL t fc ff vs (items.drop k) acc g'), ⟨_, rfl, Nat.zero_le _, Fz1, _, [], [], rA, wipeG_wipe vs g1, (GrowTo.alloc hD).ext, cA, Nat.zero_le _, by rw [List.drop_zero]; exact h1.weak (GrowTo.alloc hD).ext⟩, ?_⟩
  rintro k m H2 ⟨rfl, hk, Fz2, g2, acc, ps, r2, w2, e2, c2, hacc, h2⟩
  obtain ⟨go, stop⟩ := src' Fz2 H2 e2 r2.gr.dom
  by_cases hlt : k < items.length
  · refine .inr ?_
    have hd : items[k]? = some items[k] := by simp [hlt]
    obtain ⟨g0, yl⟩ := go k _ hd
    rw [List.drop_eq_getElem_cons hlt] at h2
    generalize hdk : items[k] = d at h2 hd yl
    refine ⟨g0, fun H' => ∃ Fz' g' acc ps, BRel b Fz' g' (wipe σ vs) H' ∧ DL.wipeG g' vs = g' ∧ Ext Fz1 H1 Fz' H' ∧ CellsOk b Fz' g' (wipe σ vs) H' D ps acc ∧ acc.length ≤ k + 1 ∧
      Po b W (bN b) σ Fz' H' (fun x _ _ H' _ => Q x H') (lcNL t fc ff vs (items.drop (k + 1)) acc g'), fun H' q => ⟨_, by omega, rfl, hlt, q⟩, fun x H' y => ?_⟩
    obtain ⟨Fz3, gt, repd⟩ := yl x H' y
    have r3 := r2.grow gt
    have c3 := c2.grow r2 gt
    unfold lcNL at h2
    cases ht : t d g2 with
    | none => rw [ht] at h2; exact h2.elim
    | some g3 =>
      rw [ht] at h2
      simp only at h2
      refine ⟨DL.rebase b Fz3 g2 (wipe σ vs) H', ⟨rfl, rfl⟩, Fz3, g2, d, g3, r3.rebase, repd, ht, fun σ4 r4 h4 hl => ⟨(wipe_eq hl fun i hi => h4 i fun z => hi (hta i z)).trans wipe_wipe, ?_⟩⟩
      generalize hb' : DL.rebase b Fz3 g2 (wipe σ vs) H' = b' at r4
      have hM' : b'.M = b.M := by rw [← hb']; rfl
      have hpx' : b'.px = none := by rw [← hb']; rfl
      have hH0 : b'.H0 = hide g2 (wipe σ vs) H' := by rw [← hb']; rfl
      have hFz0 : b'.Fz0 = Fz3 := by rw [← hb']; rfl
      have hOA : ∀ a, b'.OA a → ∃ i, Own g2 (wipe σ vs) i a := fun a z => by rw [← hb'] at z; exact z
      have hnp : b'.np = g2.length := by rw [← hb']; rfl
      have lg3 : g3.length = g2.length := by rw [r4.rel.len, hl, r3.rel.len]
      have hide3 : ∀ x, x ∈ D :: ps → hide g2 (wipe σ vs) H' x = H' x := fun x hx => hide_of fun i z => (c3.fr x hx).2.2 i (.inr z)
      have nOA : ∀ x, x ∈ D :: ps → ¬ b'.OA x := fun x hx z => by
        obtain ⟨i, z⟩ := hOA x z
        exact (c3.fr x hx).2.2 i (.inl z)
      -- slots of g' that have x
      have slots : ∀ {Fz' : Fzn} {g' : Sg} {H'' : Hp} {i : Nat} {x : Addr}, BRel b' Fz' g' σ4 H'' → AOwn (DL.wipeG g' vs) (wipe σ vs) H'' i x → AOwn g' σ4 H'' i x := fun {Fz' g' H'' i x} br o => by
        rcases o with o | o
        · obtain ⟨⟨s, e, w⟩, q⟩ := o
          have ni : i ∉ vs := wipeG_get e fun z => by rw [z] at w; cases w
          rw [wipeG_out ni] at e
          exact .inl ⟨⟨s, e, w⟩, by rw [h4 i fun z => ni (hta i z)]; exact q⟩
        · obtain ⟨dss, a, ws, h1, h2, h3⟩ := o
          have ni : i ∉ vs := wipeG_get h1 fun z => by cases z
          rw [wipeG_out ni] at h1
          exact .inr ⟨dss, a, ws, h1, by rw [h4 i fun z => ni (hta i z)]; exact h2, h3⟩
      have back : ∀ {Fz' : Fzn} {g' : Sg} {H'' : Hp}, BRel b' Fz' g' σ4 H'' → Ext Fz3 H' Fz' H'' → BRel b Fz' (DL.wipeG g' vs) (wipe σ vs) H'' ∧ CellsOk b Fz' (DL.wipeG g' vs) (wipe σ vs) H'' D ps acc := fun {Fz' g' H''} br ex => by
        have lg' : g'.length = g2.length := (fr_len r4 br).trans lg3
        have rb := br
        rw [← hb'] at rb
        have rb2 := r3.debase hx rb lg'
        have bw : BRel b Fz' (DL.wipeG g' vs) (wipe σ vs) H'' := (rb2.wipeG vs).unwipe hx (hl.trans rfl) fun i hi => h4 i fun z => hi (hta i z)
        refine ⟨bw, c3.step ex (fun x hx => ?_) fun x hx => ⟨fun z => ?_, fun i o => ?_⟩⟩
        · obtain ⟨u, hu⟩ := c3.there hx
          rw [hu]
          exact br.gr.fr x (.lst u) (by rw [hH0, hide3 x hx]; exact hu) (nOA x hx)
        · rcases br.gr.new x z with z | z
          · rw [hFz0] at z; exact (c3.fr x hx).1 z
          · obtain ⟨u, hu⟩ := c3.there hx
            rw [hH0, hide3 x hx, hu] at z; cases z
        · rcases slots br o with o | o
          · have hi : i < b'.np := by
              obtain ⟨⟨s, e, w⟩, q⟩ := o
              rw [hnp, ← lg']; exact (List.getElem?_eq_some_iff.mp e).1
            rcases br.own i x o with ⟨_, z⟩ | ⟨z, _⟩
            · exact nOA x hx z
            · omega
          · have k := (br.nst.free i x o).2.1
            obtain ⟨u, hu⟩ := c3.there hx
            rw [hH0, hide3 x hx, hu] at k; cases k
      refine ⟨b', ⟨hM', hpx'⟩, Fz3, g3, r4, ?_⟩
      unfold keepN? at h2
      cases hc : fc g3 with
      | no => rw [hc] at h2; exact h2.elim
      | ex ee g4 => rw [hc] at h2; exact h2.elim
      | ok kk g4 =>
        rw [hc] at h2
        simp only at h2
        split at h2
        rotate_left
        · exact h2.elim
        rename_i lg4
        intro kx H4 Fz4 r5 e5 hkx
        have hkx' : kx = kk := hkx
        subst hkx'
        cases kx with
        | false =>
          simp only [Bool.false_eq_true, if_false] at h2 ⊢
          obtain ⟨b1, b2⟩ := back r5 e5
          exact ⟨Fz4, _, acc, ps, b1, wipeG_wipe vs _, e2.trans (gt.ext.trans e5), b2, by omega, h2.weak (gt.ext.trans e5)⟩
        | true =>
          simp only [if_true] at h2 ⊢
          refine ⟨b', ⟨hM', hpx'⟩, Fz4, g4, r5, ?_⟩
          cases he : ff g4 with
          | no => rw [he] at h2; exact h2.elim
          | ex ee g5 => rw [he] at h2; exact h2.elim
          | ok yd g5 =>
            rw [he] at h2
            simp only at h2
            split at h2
            rotate_left
            · exact h2.elim
            intro yv H5 Fz5 r6 e6 repy
            obtain ⟨p, ws, rfl, hp0, pnf, pH, pA, prr⟩ := repy
            rw [hM'] at prr
            obtain ⟨b1, b2⟩ := back r6 (e5.trans e6)
            have exA : Ext Fz2 H2 Fz5 H5 := gt.ext.trans (e5.trans e6)
            rw [hH0] at hp0
            have hp0' : b.H0 p = none := (hide_none hp0).elim r3.new0 fun ⟨i, z⟩ => (r3.nst.free i p z).2.1
            have hpn : p ∉ D :: ps := fun z => by
              obtain ⟨u, hu⟩ := c3.there z
              rw [hide3 p z, hu] at hp0; cases hp0
            have pA' : ∀ i, ¬ AOwn (DL.wipeG g5 vs) (wipe σ vs) H5 i p := fun i o => pA i (slots r6 o)
            have c6 := b2.push b1 hpn pH prr pnf hp0' pA'
            obtain ⟨b5, b6⟩ := b1.updNew (u' := .lst (ps.map V.ref ++ [V.ref p])) hD0 (b2.fr D List.mem_cons_self).1 (b2.fr D List.mem_cons_self).2.2 b2.ha trivial
            have lav : acc.length = ps.length := c2.hl.symm
            refine ⟨ps.map V.ref, b2.ha, by rw [List.length_map]; omega, Fz5, _, acc ++ [yd], ps ++ [p], b5, wipeG_wipe vs _, e2.trans (exA.trans b6), c6, by simp; omega, h2.weak (exA.trans b6)⟩
  · have e : k = items.length := by omega
    subst e
    rw [List.drop_length] at h2
    refine .inl ⟨stop, ?_⟩
    have r5 : BRel b Fz2 g2 σ H2 := by
      have z := r2
      rw [← w2] at z ⊢
      exact z.unwipe hx (wipe_length ..) fun i hi => wipe_out hi
    refine h2.ok r5 .refl ⟨D, ps, rfl, c2.step .refl (fun _ _ => rfl) fun x hx => ⟨(c2.fr x hx).1, fun i o => (c2.fr x hx).2.2 i ?_⟩⟩
    rcases o with o | o
    · obtain ⟨⟨s, e, w⟩, q⟩ := o
      have ni : i ∉ vs := wipeG_get (g := g2) (by rw [w2]; exact e) fun z => by rw [z] at w; cases w
      exact .inl ⟨⟨s, e, w⟩, by rw [wipe_out ni]; exact q⟩
    · obtain ⟨dss, a, ws, h1, h2, h3⟩ := o
      have ni : i ∉ vs := wipeG_get (g := g2) (by rw [w2]; exact h1) fun z => by cases z
      exact .inr ⟨dss, a, ws, h1, by rw [wipe_out ni]; exact h2, h3⟩
end
end DL
namespace DL
open PySem L2 PySem.Spec PyProof.Rows
section
variable {X : Cx} {b : B} {W : WX} {elt tg iter : Expr} {ifs : List Expr} {scope : Scope} {own : List (Str × Nat)} {pos : Pos} {fi : FI} {t : Tgt} {fc : FB} {ff : FF} {ta : List Nat}
/-- slot i gets nested own lists -/
def asgN (i : Nat) (f : Sg → R (List (List D))) : FS := fun g => (f g).sb fun dss g1 => if i < g1.length then .nx (g1.set i (.on dss)) else .no
/-- name = [fresh list for ..] -/
theorem pts_asgLcN {vs : List Nat} {i : Nat} {y : Str} {py spos : Pos} (hx : b.px = none) (hc : X.calm = true) (hN : X.N.Nodup) (hy : X.N[i]? = some y) (hyl : X.env.scope.names.lookup y = some .local)
    (hsw : swapsWith (.ListComp elt [⟨tg, iter, ifs, 0⟩] scope pos) (some (.Name y py)) spos.line X.env = pure true) (hi : PI X tg iter (tI b W fi)) (ok : BlkOk X.N X.env.scope scope own) (hvs : own.map (·.2) = vs) (hta : ∀ i ∈ ta, i ∈ vs)
    (hg : ∀ (s : Shared) (H : Hp) (C : Addr) (cl : List (Str × Addr)) (fp : List Addr) (b' : B), b'.M = b.M → b'.px = none → PG (X.blk s H scope (compEnvC scope cl C X.env) fp) tg (gD b' ta t))
    (ht : ∀ (s : Shared) (H : Hp) (C : Addr) (cl : List (Str × Addr)) (fp : List Addr) (b' : B), b'.M = b.M → b'.px = none → PTs (X.blk s H scope (compEnvC scope cl C X.env) fp) ifs (tBo b' W0 fc))
    (he : ∀ (s : Shared) (H : Hp) (C : Addr) (cl : List (Str × Addr)) (fp : List Addr) (b' : B), b'.M = b.M → b'.px = none → PE (X.blk s H scope (compEnvC scope cl C X.env) fp) elt (tFr b' W0 ff)) (hs : ∀ x, foldedSetIterable iter X.env x = pure x := by intro _; rfl) :
    PS X (.Assign [.Name y py] (.ListComp elt [⟨tg, iter, ifs, 0⟩] scope pos) spos) (tSt b W [i] (asgN i (lcN fi t fc ff vs))) :=
  ps_mono (ps_setLc (g := fun v σ' H' Q' => ∃ b', (b'.M = b.M ∧ b'.px = none) ∧ gD b' ta t v σ' H' Q') (tt := fun σ' H' Q' => ∃ b', (b'.M = b.M ∧ b'.px = none) ∧ tBo b' W0 fc σ' H' Q') (te := fun σ' H' Q' => ∃ b', (b'.M = b.M ∧ b'.px = none) ∧ tFr b' W0 ff σ' H' Q') hc hN hy hyl hsw hi ok (fun s H C cl fp => ⟨fun pins s' σ H' v u Q I r ⟨b', hb, hw⟩ => (hg s H C cl fp b' hb.1 hb.2).run pins s' σ H' v u Q I r hw⟩) (fun s H C cl fp => ⟨fun pins s' σ H' Q I ⟨b', hb, hw⟩ => (ht s H C cl fp b' hb.1 hb.2).run pins s' σ H' Q I hw⟩)
    (fun s H C cl fp => ⟨fun pins s' σ H' Q I ⟨b', hb, hw⟩ => (he s H C cl fp b' hb.1 hb.2).run pins s' σ H' Q I hw⟩) hs) fun D σ H ⟨Fz, g, r, h⟩ => by
    subst hvs
    refine lc_runN hx hta (tG_st r h fun dss x' g1 Fz1 H1 r1 _ rep h1 => ?_)
    obtain ⟨a, ps, rfl, c⟩ := rep
    by_cases hl : i < g1.length
    · rw [if_pos hl] at h1
      have hls : i < σ.length := by rw [← r1.rel.len]; exact hl
      have r2 := r1.setRaw hx i (some (.ref a))
      have notA : ∀ x, (∀ j, ¬ AOwn g1 σ H1 j x) → ∀ j, ¬ AOwn (g1.set i .un) (σ.set i (some (.ref a))) H1 j x := fun x hA j o => by
        rcases o with o | o
        · obtain ⟨⟨s, e, w⟩, q⟩ := o
          rcases gset_get e with ⟨_, e2⟩ | ⟨hj, e2⟩
          · subst e2; cases w
          · rw [List.getElem?_set_ne (Ne.symm hj)] at q
            exact hA j (.inl ⟨⟨s, e2, w⟩, q⟩)
        · obtain ⟨d2, a2, ws, e, h2, h3⟩ := o
          rcases gset_get e with ⟨_, e2⟩ | ⟨hj, e2⟩
          · cases e2
          · rw [List.getElem?_set_ne (Ne.symm hj)] at h2
            exact hA j (.inr ⟨d2, a2, ws, e2, h2, h3⟩)
      have r3 := r2.setN (i := i) (a := a) (ps := ps) (dss := dss) (List.getElem?_set_self hl) (List.getElem?_set_self hls) c.ha c.nd c.hl c.cells fun x hx' => ⟨(c.fr x hx').1, (c.fr x hx').2.1, notA x (c.fr x hx').2.2⟩
      rw [List.set_set] at r3
      exact h1 _ H1 Fz1 r3 .set
    · rw [if_neg hl] at h1; exact h1.elim
end
end DL
namespace DL
open PySem L2 PySem.Spec PyProof.Rows
/-! ### list(range(n)) -/
section
variable {X : Cx} {b : B} {W : WX} {e : Expr} {f : FE}
def rgLF (f : FE) : FF := fun g => (f g).bd fun d g1 => match d with
  | .int j => if 0 ≤ j ∧ j.natAbs ≤ 16777216 then .ok (rng j.toNat 0) g1 else .no
  | _ => .no
theorem rep_mapI {M : MM} {Fz : Fzn} {H : Hp} (a : Int) : ∀ l : List Nat, RepL M Fz H (l.map fun (k : Nat) => D.int (a + (k : Int))) (l.map fun (k : Nat) => V.int (a + (k : Int)))
  | [] => RepL.nil
  | _ :: l => RepL.cons rep_int (rep_mapI a l)
theorem rep_rng {M : MM} {Fz : Fzn} {H : Hp} (n : Nat) (a : Int) : RepL M Fz H (rng n a) ((List.range n).map fun (k : Nat) => V.int (a + (k : Int))) := rep_mapI a _
theorem pf_listRg1 {p p2 pos pos2 : Pos} (hc : X.calm = true) (hg : Gl X "list") (hm : X.mg "list" = none) (hg2 : Gl X "range") (hm2 : X.mg "range" = none) (h : PE X e (tE b W f)) (na : starEach [e] X.env = (false, eval e X.env) :: starEach [] X.env := by rfl)
    (na2 : starEach [Expr.Call (.Name "range" p2) [e] [] pos2] X.env = (false, eval (.Call (.Name "range" p2) [e] [] pos2) X.env) :: starEach [] X.env := by rfl) :
    PE X (.Call (.Name "list" p) [.Call (.Name "range" p2) [e] [] pos2] [] pos) (tFr b W (rgLF f)) :=
  pe_mono (pe_listRg hc hg hm (prg_1 hg2 hm2 h na) na2) fun σ H Q ⟨Fz, g, r, q⟩ => by
    refine tG_seq r q fun d x g1 Fz1 H1 r1 e1 rep h1 => ?_
    cases d with
    | int j =>
      simp only at h1
      by_cases c : 0 ≤ j ∧ j.natAbs ≤ 16777216
      · rw [if_pos c] at h1
        refine ⟨j, rep_int' rep, .of_le (by omega) (by omega) (by omega) c.1, fun q hq => ?_⟩
        obtain ⟨r2, fr⟩ := fresh_new (ds := rng j.toNat 0) (vs := rgV 0 j) r1 hq (by unfold rgV; rw [show (j - 0).toNat = j.toNat by omega]; exact rep_rng _ _)
        exact h1.ok r2 (GrowTo.alloc hq).ext fr
      · rw [if_neg c] at h1; exact h1.elim
    | _ => exact h1.elim
end
end DL

set_option Elab.async false
set_option linter.all false
set_option maxRecDepth 100000
set_option maxHeartbeats 4000000
/-! DenO: len(set(t)) of distinct ints. -/
namespace DL
open PySem L2 PySem.Spec PyProof.Rows
def tLenSetT (K : PySem.W.Frag) (ta : TE) : TE := fun σ H Q => ta σ H fun x H1 => ∃ (l : Addr) (ns : List Int), x = V.ref l ∧ SqT K H1 l (ns.map V.int) ∧ ns.length < 4000 ∧ ns.Nodup ∧ Q (.int ns.length) H1
theorem perm_of_mem {xs ys : List Int} (hx : xs.Nodup) (hy : ys.Nodup) (h : ∀ k, k ∈ xs ↔ k ∈ ys) : xs.length = ys.length := by
  exact ((List.perm_ext_iff_of_nodup hx hy).mpr h).length_eq
theorem pe_lenSetT {X : Cx} {a : Expr} {ta : TE} {p p2 q pos : Pos} (hc : X.calm = true) (hg : Gl X "len") (hm : X.mg "len" = none) (hg2 : Gl X "set") (hm2 : X.mg "set" = none) (ha : PE X a ta)
    (na : starEach [a] X.env = (false, eval a X.env) :: starEach [] X.env := by rfl) : PE X (.Call (.Name "len" p) [.Call (.Name "set" p2) [a] [] q] [] pos) (tLenSetT X.K ta) := by
  refine ⟨fun pins s σ H Q I h => ?_⟩
  refine Call_ (ld_blt I hg hm PySem.boot_len ?_)
  refine PyProof.Rows.callWith_builtin1 (PyProof.Rows.args_cons ?_ rfl) rfl rfl
  refine Call_ (ld_blt I hg2 hm2 PyProof.Rows.boot_set ?_)
  refine PyProof.Rows.callWith_type1 (PyProof.Rows.args_cons (thn (ha.run pins s σ H _ I h) fun v s1 ⟨x, H1, I1, r1, q1⟩ => PyProof.Rows.args_nil ?_) na) na rfl
  obtain ⟨l, ns, rfl, hq, h1, hnd, q1⟩ := q1
  cases r1
  obtain ⟨its, r, pl, hz⟩ := I1.tuple hq
  refine call_set_tupI ns (I1.ok.hd hc) pl (by simpa using r.ints) (by unfold scanBound; omega) fun h' tk c hS hcl hk => ?_
  refine PyProof.Rows.args_nil ?_
  obtain ⟨o, es, ep, t, ho, hex, hd, _, hnk, hmem, hsz, hf, hn, _⟩ := hS
  have hlen : es.size = ns.length := by
    have e := perm_of_mem hnk hnd (fun k => by rw [← hmem k]; simp)
    rw [List.length_map, Array.length_toList] at e
    exact e
  have I2 : Inv X pins σ H1 { s1 with heap := h', toks := tk } := I1.kept hk
  refine call_len_set ho hex hd hf (by rw [hlen] <;> omega) ⟨.int ns.length, H1, I2.tok _, ⟨_, by rw [hlen]⟩, q1⟩
section
variable {X : Cx} {b : B} {W : WX} {e : Expr} {f : FE}
def lenSetF (f : FE) : FE := fun g => (f g).bd fun d g1 => match d with
  | .tup ds => match intsD ds with
    | some ns => if ns.length < 4000 ∧ ns.Nodup then .ok (.int ns.length) g1 else .no
    | none => .no
  | _ => .no
theorem pd_lenSet {p p2 q pos : Pos} (hM : b.M = ⟨X.K, X.mg, Tb⟩) (hc : X.calm = true) (hg : Gl X "len") (hm : X.mg "len" = none) (hg2 : Gl X "set") (hm2 : X.mg "set" = none) (h : PE X e (tE b W f))
    (na : starEach [e] X.env = (false, eval e X.env) :: starEach [] X.env := by rfl) : PE X (.Call (.Name "len" p) [.Call (.Name "set" p2) [e] [] q] [] pos) (tE b W (lenSetF f)) :=
  pe_mono (pe_lenSetT hc hg hm hg2 hm2 h na) fun σ H Q ⟨Fz, g, r, q⟩ => by
    refine tG_seq r q fun d x g1 Fz1 H1 r1 e1 rep h1 => ?_
    cases d with
    | tup ds =>
      simp only at h1
      cases hi : intsD ds with
      | none => rw [hi] at h1; exact h1.elim
      | some ns =>
        rw [hi] at h1
        simp only at h1
        by_cases c : ns.length < 4000 ∧ ns.Nodup
        · rw [if_pos c] at h1
          obtain ⟨a, vs, rfl, hq, rr⟩ := sqT_rep (M := b.M) rep
          obtain ⟨e2, _⟩ := ints_rep rr hi
          subst e2
          rw [hM] at hq
          exact ⟨a, ns, rfl, hq, c.1, c.2, h1.ok r1 .refl rep_int⟩
        · rw [if_neg c] at h1; exact h1.elim
    | _ => exact h1.elim
end
end DL
namespace DL
open PySem L2 PySem.Spec PyProof.Rows
/-! ### list + list, list * int, as new lists -/
section
variable {X : Cx} {b : B} {W : WX} {e1 e2 : Expr} {f1 f2 : Sg → R AV} {pos : Pos}
def catD : D → D → Option (List D)
  | .lst xs, .lst ys => if szOk (xs.length + ys.length) then some (xs ++ ys) else none
  | _, _ => none
def repD : D → D → Option (List D)
  | .lst xs, .int k => if szOk (xs.length * k.toNat) && decide (k.natAbs < 9223372036854775808) then some (List.replicate k.toNat xs).flatten else none
  | _, _ => none
def op2L (o : D → D → Option (List D)) (f1 f2 : Sg → R AV) : FF := fun g => (f1 g).bd fun a g1 => (f2 g1).bd fun c g2 => opt ((res g2 a).bind fun d => (res g2 c).bind fun e => o d e) g2
theorem pf_cat (hM : b.M = ⟨X.K, X.mg, Tb⟩) (h1 : PE X e1 (tA1 b W f1)) (h2 : PE X e2 (tA1 b W f2)) : PE X (.BinOp e1 .Add e2 pos) (tFr b W (op2L catD f1 f2)) :=
  pe_mono (pe_op op_catL h1 h2) fun σ H Q ⟨Fz, g, r0, h⟩ => by
    refine tG_seq r0 h fun a x g1 Fz1 H1 r1 e1 rep1 h1 => ?_
    refine tG_seq r1 h1 fun c y g2 Fz2 H2 r2 e2 rep2 h2 => ?_
    obtain ⟨z, ez, h3⟩ := h2.opt
    obtain ⟨d, ed, ez⟩ := Option.bind_eq_some_iff.mp ez
    obtain ⟨e, ee, ez⟩ := Option.bind_eq_some_iff.mp ez
    have rx := res_ok r2 (rep1.mono e2 (resI_ok (res_I ed))) ed
    have ry := res_ok r2 rep2 ee
    unfold catD at ez
    split at ez
    · split at ez
      · rename_i hz
        injection ez with ez; subst ez
        obtain ⟨a, vs, rfl, q1, rr1⟩ := rx
        obtain ⟨a2, vs2, rfl, q2, rr2⟩ := ry
        rw [hM] at q1 q2
        refine ⟨a, a2, vs, vs2, rfl, rfl, q1, q2, by rw [← rr1.length, ← rr2.length]; exact szOk_le hz, fun p hp => ?_⟩
        obtain ⟨r3, fr⟩ := fresh_new r2 hp (rr1.append rr2)
        exact h3.ok r3 (GrowTo.alloc hp).ext fr
      · cases ez
    · cases ez
theorem pf_rep (hM : b.M = ⟨X.K, X.mg, Tb⟩) (h1 : PE X e1 (tA1 b W f1)) (h2 : PE X e2 (tA1 b W f2)) : PE X (.BinOp e1 .Mult e2 pos) (tFr b W (op2L repD f1 f2)) :=
  pe_mono (pe_op op_repL h1 h2) fun σ H Q ⟨Fz, g, r0, h⟩ => by
    refine tG_seq r0 h fun a x g1 Fz1 H1 r1 e1 rep1 h1 => ?_
    refine tG_seq r1 h1 fun c y g2 Fz2 H2 r2 e2 rep2 h2 => ?_
    obtain ⟨z, ez, h3⟩ := h2.opt
    obtain ⟨d, ed, ez⟩ := Option.bind_eq_some_iff.mp ez
    obtain ⟨e, ee, ez⟩ := Option.bind_eq_some_iff.mp ez
    have rx := res_ok r2 (rep1.mono e2 (resI_ok (res_I ed))) ed
    have ry := res_ok r2 rep2 ee
    unfold repD at ez
    split at ez
    · split at ez
      · rename_i hz
        simp only [Bool.and_eq_true, decide_eq_true_eq] at hz
        injection ez with ez; subst ez
        obtain ⟨a, vs, rfl, q1, rr1⟩ := rx
        rw [hM] at q1
        refine ⟨a, _, vs, rfl, tint' ry, q1, by omega, by omega, by rw [← rr1.length]; exact szOk_le hz.1, fun p hp => ?_⟩
        obtain ⟨r3, fr⟩ := fresh_new r2 hp (rr1.rep _)
        exact h3.ok r3 (GrowTo.alloc hp).ext fr
      · cases ez
    · cases ez
end
end DL

set_option Elab.async false
set_option linter.all false
set_option maxRecDepth 100000
set_option maxHeartbeats 4000000
/-! DenQ: slices of lists, tuples and texts as data. -/
namespace DL
open PySem L2 PySem.Spec PyProof.Rows
def rSlQ (K : PySem.W.Frag) : V → Option Int → Option Int → Hp → VK → Prop := fun x lo hi H Q => rSlL K x lo hi H Q ∨ rSlA K x lo hi H Q ∨ rSlS x lo hi H Q
theorem sl_Q {X : Cx} : SlR X (rSlQ X.K) := by
  intro pins s σ H x v vl vu lo hi sl Q I rx hs pl pu h
  rcases h with h | h | h
  · exact sl_list pins s σ H x v vl vu lo hi sl Q I rx hs pl pu h
  · exact sl_tupA pins s σ H x v vl vu lo hi sl Q I rx hs pl pu h
  · exact sl_str pins s σ H x v vl vu lo hi sl Q I rx hs pl pu h
def slD (d : D) (lo hi : Option Int) : Option D := match d with
  | .lst ds => some (.lst (cut ds lo hi))
  | .tup ds => some (.tup (cut ds lo hi))
  | .str z => if szOk z.length then some (.str (cutS z lo hi)) else none
  | _ => none
def slF (fa : Sg → R AV) (lo hi : Sg → R (Option Int)) : FE := fun g => (fa g).bd fun a g1 => (lo g1).bd fun l g2 => (hi g2).bd fun u g3 => opt ((res g3 a).bind fun d => slD d l u) g3
theorem pd_sl {X : Cx} {b : B} {W : WX} {e : Expr} {pos : Pos} {fa : Sg → R AV} {lo hi : Option Expr} {fl fh : Sg → R (Option Int)} {p2 : Pos} (hM : b.M = ⟨X.K, X.mg, Tb⟩) (h : PE X e (tA1 b W fa)) (hl : PO X lo (tO b W fl)) (hh : PO X hi (tO b W fh)) : PE X (.Subscript e (.Slice lo hi none p2) pos) (tE b W (slF fa fl fh)) :=
  pe_mono (pe_slice sl_Q h hl hh) fun σ H Q ⟨Fz, g, r, q⟩ => by
    refine tG_seq r q fun a x g1 Fz1 H1 r1 e1 rep1 h1 => ?_
    refine tG_seq r1 h1 fun l l' g2 Fz2 H2 r2 e2 rep2 h2 => ?_
    refine tG_seq r2 h2 fun u u' g3 Fz3 H3 r3 e3 rep3 h3 => ?_
    have el : l' = l := rep2
    have eu : u' = u := rep3
    subst el; subst eu
    obtain ⟨z, ez, hz⟩ := h3.opt
    obtain ⟨d, hr, hd⟩ := Option.bind_eq_some_iff.mp ez
    have av : AVOk b σ Fz3 H3 g3 a x := rep1.mono (e2.trans e3) (resI_ok (res_I hr))
    have tr := res_ok r3 av hr
    cases d with
    | lst ds =>
      obtain ⟨ad, vs, rfl, hq, rr⟩ := tr
      rw [hM] at hq
      injection hd with hd; subst hd
      refine .inl ⟨ad, vs, rfl, hq, fun p hp => ?_⟩
      have gr : GrowTo Fz3 H3 Fz3 (upd H3 p (.lst (cutV vs l' u'))) := .alloc hp
      have fr : bF b σ Fz3 (upd H3 p (.lst (cutV vs l' u'))) g3 (cut ds l' u') (.ref p) := ⟨p, _, rfl, r3.new0 hp, r3.notFz hp, upd_same, fun i o => (r3.notAu hp) i o, cut_rep (rr.grow gr) _ _⟩
      obtain ⟨Fz4, r4, e4, rv⟩ := fresh_rep (r3.grow gr) fr
      exact hz.ok r4 (gr.ext.trans e4) rv
    | tup ds =>
      obtain ⟨ad, vs, rfl, hq, rr⟩ := sqT_rep (M := b.M) (Fz := Fz3) (H := H3) tr
      have hq' := hq
      rw [hM] at hq
      injection hd with hd; subst hd
      refine .inr (.inl ⟨ad, vs, rfl, hq, fun c => ?_, fun c p hp => ?_⟩)
      · rw [← RepL.length rr] at c
        have e : cut ds l' u' = ds := by
          unfold cut; rw [c.1, c.2]; simp
        rw [e] at hz
        refine hz.ok r3 .refl ?_
        show Rep b.M Fz3 H3 (.tup ds) (.ref ad)
        unfold Rep
        exact ⟨ad, vs, rfl, hq', rr⟩
      · have gr : GrowTo Fz3 H3 Fz3 (upd H3 p (.tup (cutV vs l' u'))) := .alloc hp
        exact hz.ok (r3.grow gr) gr.ext (rep_tupN (cut_rep (rr.grow gr) _ _) .refl upd_same)
    | str z0 =>
      have e0 := tstr' tr
      subst e0
      have hd : (if szOk z0.length then some (D.str (cutS z0 l' u')) else none) = some z := hd
      by_cases c : szOk z0.length = true
      · rw [if_pos c] at hd
        injection hd with hd; subst hd
        exact .inr (.inr ⟨z0, rfl, szOk_iff.mp c, hz.ok r3 .refl rep_str⟩)
      · rw [if_neg c] at hd; cases hd
    | _ => cases hd
end DL

set_option Elab.async false
set_option linter.all false
set_option maxRecDepth 100000
set_option maxHeartbeats 4000000
/-! DenFX: own errors whose message is an f-string. -/
namespace DL
open PySem L2 PySem.Spec PyProof.Rows
/-- what a message may show -/
def FmtV (v : V) : Prop := (∃ s : Str, v = .str s ∧ s.length ≤ 100) ∨ ∃ i : Int, v = .int i ∧ i.natAbs < 1000000
def fmtD : D → Bool
  | .int i => decide (i.natAbs < 1000000)
  | .str s => decide (s.length ≤ 100)
  | _ => false
def okF (is : List Nat) (ds : List D) : Bool := is.all fun i => match ds[i]? with
  | some d => fmtD d
  | none => false
def OkV (is : List Nat) (xs : List V) : Prop := ∀ i ∈ is, ∃ y, xs[i]? = some y ∧ FmtV y
theorem okF_V {M : MM} {Fz : Fzn} {H : Hp} {is : List Nat} {ds : List D} {xs : List V} (r : RepL M Fz H ds xs) (h : okF is ds = true) : OkV is xs := fun i hi => by
  have h1 := List.all_eq_true.mp h i hi
  cases e : ds[i]? with
  | none => rw [e] at h1; cases h1
  | some d =>
    rw [e] at h1
    obtain ⟨y, hy, ry⟩ := r.get e
    refine ⟨y, hy, ?_⟩
    cases d with
    | int i => exact .inr ⟨i, rep_int' ry, of_decide_eq_true h1⟩
    | str s => exact .inl ⟨s, rep_str' ry, of_decide_eq_true h1⟩
    | _ => cases h1
def spMkF (C : Addr) (fs : List Str) (is : List Nat) : Sp := fun vs H Q _ => ∃ a ys, vs = .ref a :: ys ∧ ys.length = fs.length ∧ H a = some (exo a C none) ∧ OkV is ys ∧
  (fs ≠ [] → ∀ dx, H dx = none → dx ≠ a → Q .non (upd (upd H dx (exd dx (fs.zip ys).reverse)) a (exo a C (some dx))))
def SkipXF (K : PySem.W.Frag) (C : Addr) (is : List Nat) (t : TS) : Prop := ∀ D σ H a ys, σ[0]? = some (some (.ref a)) → (∀ (i : Nat) (y : V), ys[i]? = some y → σ[i + 1]? = some (some y)) → OkV is ys → OexC K C → H a = some (exo a C none) → D.nx σ H → t D σ H
/-- a part of the message -/
def PartOk (σ : L2.St) (H : Hp) (t : TE) : Prop := ∃ y : Str, y.length ≤ 2000 ∧ ∀ Q : VK, Q (.str y) H → t σ H Q
theorem tJs_ok {σ : L2.St} {H : Hp} {Q : Str → Hp → Prop} (hq : ∀ out, Q out H) : ∀ (ts : List TE) (acc : Str), (∀ t ∈ ts, PartOk σ H t) → acc.length + 2000 * ts.length ≤ sizeLine → tJs ts acc σ H Q
  | [], acc, _, _ => hq acc
  | t :: ts, acc, h, hl => by
    obtain ⟨y, hy, ht⟩ := h t List.mem_cons_self
    have hlen : (acc ++ y).length = acc.length + y.length := Str.length_append ..
    rw [List.length_cons] at hl
    refine ht _ ⟨y, rfl, by rw [hlen]; omega, tJs_ok hq ts (acc ++ y) (fun x hx => h x (List.mem_cons_of_mem _ hx)) (by rw [hlen]; omega)⟩
theorem part_lit {σ : L2.St} {H : Hp} {m : Str} (h : m.length ≤ 2000) : PartOk σ H (tC (.str m)) := ⟨m, h, fun Q q => q⟩
theorem part_fmt {σ : L2.St} {H : Hp} {k : Nat} {v : V} (h : σ[k]? = some (some v)) (hv : FmtV v) : PartOk σ H (tFmt (tVar k)) := by
  rcases hv with ⟨s, rfl, hs⟩ | ⟨i, rfl, hi⟩
  · exact ⟨s, by omega, fun Q q => ⟨.str s, h, .inl ⟨s, rfl, by rw [sizeLine_eq]; omega, q⟩⟩⟩
  · have hl : i.natAbs.log2 < 1920 := by
      by_cases z : i.natAbs = 0
      · rw [z]; decide
      · have : i.natAbs.log2 < 20 := (Nat.log2_lt z).mpr (by omega)
        omega
    exact ⟨toString i, Nat.le_trans (int_text_len_1921 hl) (by decide), fun Q q => ⟨.int i, h, .inr ⟨i, rfl, hl, q⟩⟩⟩
/-- a part, as gen.py prints it: a text, or the field at a place -/
inductive FP where
  | s (m : Str) | f (i : Nat)
def FP.te : FP → TE
  | .s m => tC (.str m)
  | .f i => tFmt (tVar (i + 1))
def FP.ok (is : List Nat) : FP → Bool
  | .s m => decide (m.length ≤ 2000)
  | .f i => is.contains i
theorem skip_fs {K : PySem.W.Frag} {C : Addr} {is : List Nat} (fps : List FP) (hok : fps.all (FP.ok is) = true) (hl : fps.length ≤ 20) : SkipXF K C is (tDrop (tVeI K (tCons (tVar 0) (tCons (fun σ H Q => tJs (fps.map FP.te) Str.empty σ H fun out H1 => Q (.str out) H1) tNil)))) := fun D σ H a ys h0 hy hv T e h => by
  refine ⟨.ref a, h0, ?_⟩
  refine tJs_ok (fun out => ?_) _ _ (fun t ht => ?_) (by rw [List.length_map, sizeLine_eq]; show 0 + _ ≤ _; omega)
  · exact ⟨a, C, [.str out], rfl, by show 1 ≤ 1000; decide, T, e, h⟩
  · obtain ⟨p, hp, rfl⟩ := List.mem_map.mp ht
    have hpo := List.all_eq_true.mp hok p hp
    cases p with
    | s m => exact part_lit (of_decide_eq_true hpo)
    | f i =>
      have hm : i ∈ is := by simpa [FP.ok] using hpo
      obtain ⟨y, h1, h2⟩ := hv i hm
      exact part_fmt (hy i y h1) h2
section
variable {P : Program} {w : World} {K : PySem.W.Frag} {mg : Str → Option Value} {base : Heap} {C : Addr} {x qual : Str} {st : Stmt} {f : Addr} {fd : FuncData} {t0 : TS} {f1 f2 n1 n2 ns : Str} {is : List Nat}
theorem ok_initF1 (T : OexC K C) (g1 : PySem.W.findIn K (.ref C) f1 = some none) (F : FunD K x qual (defArgs st) (defBody st) (defScope st) [] [] f fd) (S : FnScope [ns, n1] [ns, n1] (defScope st)) (s0 : SkipXF K C is t0)
    (hb : ∀ (cdv : Value) (A : Around) (outer : List Env) (s : Shared) (H : Hp) (E : XK), PSs (cxOf (L2.CX P w) P w K mg base [ns, n1] qual (defScope st) f cdv A outer s H E) (defBody st) (tSeq t0 (tOst K f1 (tVar 0) (tVar 1)))) : FnOk P w K mg base (L2.CX P w) 1 f fd [ns, n1] (spMkF C [f1] is) := by
  refine F.ok (CX := L2.CX P w) S (fun vs H Q E h => ?_) (fun cdv A outer s H vs Q E hr h => ?_)
  · obtain ⟨a, ys, rfl, hl, _⟩ := h
    simp [hl]
  · obtain ⟨a, ys, rfl, hl, ea, hv, h2⟩ := h
    match ys, hl with
    | [y], _ =>
      refine ⟨_, hb cdv A outer s H E, s0 _ _ _ a [y] rfl (fun i z hz => ?_) hv T ea ?_⟩
      · match i, hz with
        | 0, hz => injection hz with hz; subst hz; rfl
      exact ⟨y, rfl, .ref a, rfl, a, C, rfl, T, g1, .inl ⟨ea, fun dx n ne => h2 (by simp) dx n ne⟩⟩
theorem ok_initF2 (T : OexC K C) (g1 : PySem.W.findIn K (.ref C) f1 = some none) (g2 : PySem.W.findIn K (.ref C) f2 = some none) (F : FunD K x qual (defArgs st) (defBody st) (defScope st) [] [] f fd) (S : FnScope [ns, n1, n2] [ns, n1, n2] (defScope st)) (s0 : SkipXF K C is t0)
    (hb : ∀ (cdv : Value) (A : Around) (outer : List Env) (s : Shared) (H : Hp) (E : XK), PSs (cxOf (L2.CX P w) P w K mg base [ns, n1, n2] qual (defScope st) f cdv A outer s H E) (defBody st) (tSeq t0 (tSeq (tOst K f1 (tVar 0) (tVar 1)) (tOst K f2 (tVar 0) (tVar 2))))) : FnOk P w K mg base (L2.CX P w) 1 f fd [ns, n1, n2] (spMkF C [f1, f2] is) := by
  refine F.ok (CX := L2.CX P w) S (fun vs H Q E h => ?_) (fun cdv A outer s H vs Q E hr h => ?_)
  · obtain ⟨a, ys, rfl, hl, _⟩ := h
    simp [hl]
  · obtain ⟨a, ys, rfl, hl, ea, hv, h2⟩ := h
    match ys, hl with
    | [y, z], _ =>
      refine ⟨_, hb cdv A outer s H E, s0 _ _ _ a [y, z] rfl (fun i v hz => ?_) hv T ea ?_⟩
      · match i, hz with
        | 0, hz => injection hz with hz; subst hz; rfl
        | 1, hz => injection hz with hz; subst hz; rfl
      refine ⟨y, rfl, .ref a, rfl, a, C, rfl, T, g1, .inl ⟨ea, fun dx n ne => ?_⟩⟩
      refine ⟨z, rfl, .ref a, rfl, a, C, rfl, T, g2, .inr ⟨dx, [(f1, y)], upd_same, by rw [upd_ne ne]; exact upd_same, by show 1 ≤ 900; decide, ?_⟩⟩
      have e : upd (upd (upd H dx (exd dx [(f1, y)])) a (exo a C (some dx))) dx (exd dx [(f2, z), (f1, y)]) = upd (upd H dx (exd dx [(f2, z), (f1, y)])) a (exo a C (some dx)) := by
        funext c
        by_cases hc : c = dx
        · subst hc
          rw [upd_same, upd_ne ne, upd_same]
        · rw [upd_ne hc]
          by_cases ha : c = a
          · subst ha; rw [upd_same, upd_same]
          · rw [upd_ne ha, upd_ne ha, upd_ne hc, upd_ne hc]
      show Q .non _
      rw [e]
      exact h2 (by simp) dx n ne
end
section
variable {X : Cx} {b : B} {W : WX} {e : Expr} {es : List Expr} {fa : FA} {x : Str} {p pos rpos : Pos} {C fI : Addr} {fd : FuncData} {ps : List Str} {fs : List Str} {cn : Str}
/-- raise C(e, ..) with a message that shows fields -/
def raiseFS (cn : Str) (fs : List Str) (is : List Nat) (fa : FA) : FS := fun g => (fa g).sb fun ds g1 => if ds.length = fs.length ∧ okF is ds = true then .ex (mkE cn fs ds) g1 else .no
theorem pts_raiseF {is : List Nat} (hM : b.M = ⟨X.K, X.mg, Tb⟩) (hc : X.calm = true) (tk : Takes X W) (T : OexC X.K C) (iC : PySem.W.findIn X.K (.ref C) "__init__" = some (some (.ref fI))) (tI : PySem.W.typeIn X.K (.ref fI) = some (.type "function"))
    (F1 : FnOk X.prog X.w X.K X.mg X.base (L2.CX X.prog X.w) 1 fI fd ps (spMkF C fs is)) (hr : Room 2 X.A) (hb : Binds X.K fd ps []) (hg : Gl X x) (hm : X.mg x = some (.ref C)) (hne : fs ≠ []) (hfs : fs.length ≤ 100) (ha : PA X (e :: es) (tAr b W fa))
    (hdb : (x == ("__debug__" : Str)) = false := by decide) (he : starEach (e :: es) X.env = (false, eval e X.env) :: starEach es X.env := by rfl) (hpl : (backTo pos (starEach es X.env)).any (·.1) = false := by rfl) :
    PS X (.Raise (some (.Call (.Name x p) (e :: es) [] pos)) none rpos) (tSt b W [] (raiseFS x fs is fa)) := ps_mono (ps_raise hc tk (pmk_oex T iC tI F1 hr hb .nil passF hg hm ha hdb he hpl)) fun D σ H ⟨Fz, g, r, h⟩ => by
  refine tG_st r h fun ds xs g1 Fz1 H1 r1 ex1 rep h1 => ?_
  have rep' : RepL b.M Fz1 H1 ds xs := rep
  by_cases hl : ds.length = fs.length ∧ okF is ds = true
  · rw [if_pos hl] at h1
    have hxs : xs.length = fs.length := by rw [← RepL.length rep']; exact hl.1
    have hov : OkV is xs := okF_V rep' hl.2
    refine ⟨by omega, fun a ha => ⟨a, xs, by rw [List.append_nil], hxs, upd_same, hov, fun _ dx hdx nda => ⟨rfl, dx, (fs.zip xs).reverse, upd_same, by rw [upd_ne nda]; exact upd_same, by rw [upd_ne nda] at hdx; exact hdx, ?_⟩⟩⟩
    rw [upd_ne nda] at hdx
    have e1 : upd (del (upd (upd (upd H1 a (exo a C none)) dx (exd dx (fs.zip xs).reverse)) a (exo a C (some dx))) a) dx (.xd (fs.zip xs).reverse) = upd H1 dx (.xd (fs.zip xs).reverse) := by
      funext c
      by_cases hc1 : c = dx
      · subst hc1; rw [upd_same, upd_same]
      · rw [upd_ne hc1, upd_ne hc1]
        by_cases hc2 : c = a
        · subst hc2; rw [del_same, ha]
        · rw [del_ne hc2, upd_ne hc2, upd_ne hc1, upd_ne hc2]
    rw [e1]
    have gr : GrowTo Fz1 H1 Fz1 (upd H1 dx (.xd (fs.zip xs).reverse)) := .alloc hdx
    refine h1 σ _ _ _ _ (r1.grow gr) ⟨gr.ext, fun _ _ => rfl⟩ ⟨C, rfl, by rw [hM]; exact hm, .inr ⟨dx, xs.reverse, rfl, ?_, by simp [mkE, hxs], ?_⟩⟩
    · rw [upd_same]
      show some (HO.xd _) = some (HO.xd (fs.reverse.zip xs.reverse))
      rw [zip_rev hxs.symm]
    · exact (rep'.grow gr).reverse
  · rw [if_neg hl] at h1; exact h1.elim
end
end DL

set_option Elab.async false
set_option linter.all false
set_option maxRecDepth 100000
set_option maxHeartbeats 4000000
/-! DenE: the law's head. -/
namespace DL
open PySem L2 PySem.Spec PyProof.Rows

/-- the law's promise: true at every script -/
def spLaw (K : PySem.W.Frag) (Tb : List (Addr × Str)) : Sp := fun vs H Q _ => ∃ (a : Addr) (ns : List Int), vs = [.ref a] ∧ SqL K H a (ns.map V.int) ∧ ns.length ≤ 63 ∧ (∀ z ∈ ns, Builtin.Int.intBits z ≤ 1048576) ∧ LamX.Tabs Tb H ∧ ∀ H', Q (.bl true) H'
/-- what the mathematics has to show -/
def LawOk (dn : Dn) : Prop := ∀ ns : List Int, ns.length ≤ 63 → (∀ z ∈ ns, Builtin.Int.intBits z ≤ 1048576) → ∃ as, dn [.v (.lst (ns.map D.int))] = .ok (.bl true) as
theorem repL_ints {M : MM} {Fz : Fzn} {H : Hp} : ∀ ns : List Int, RepL M Fz H (ns.map D.int) (ns.map V.int)
  | [] => RepL.nil
  | n :: ns => RepL.cons rep_int (repL_ints ns)
theorem law_imp {P : Program} {w : World} {K : PySem.W.Frag} {mg : Str → Option Value} {base : Heap} {CX : CXT} {k : Nat} {f : Addr} {fd : FuncData} {ps : List Str} {dn : Dn} (F : FnOk P w K mg base CX k f fd ps (spD ⟨K, mg, Tb⟩ 1 dn)) (h : LawOk dn) : FnOk P w K mg base CX k f fd ps (spLaw K Tb) :=
  F.imp fun vs H Q E ⟨a, ns, hv, hS, hl, hb, hT, hQ⟩ => by
    subst hv
    obtain ⟨as, e⟩ := h ns hl hb
    refine ⟨rfl, fun x => x = a ∧ H x = some (.lst (ns.map V.int)), [.v (.lst (ns.map D.int))], fun x hx => ⟨_, hx.2⟩, ⟨rfl, fun i s e => ?_, fun i j x p q => ?_⟩, (fun i dss e => match i, e with
      | 0, e => by cases e
      | i + 1, e => by cases e), hT, ?_⟩
    · match i, e with
      | 0, e =>
        have e' : S.v (.lst (ns.map D.int)) = s := by simpa using e
        subst e'
        refine ⟨.ref a, rfl, ?_⟩
        unfold Rep
        refine ⟨a, _, rfl, ?_, repL_ints ns⟩
        rcases hS with (hS | ⟨o, hS⟩) | hS
        · exact .inl ⟨⟨rfl, hS⟩, hS⟩
        · exact .inr (.inl ⟨o, hS⟩)
        · exact .inr (.inr hS)
      | i + 1, e => simp at e
    · obtain ⟨⟨s, e, w⟩, _⟩ := p
      match i, e with
      | 0, e =>
        have e' : S.v (.lst (ns.map D.int)) = s := by simpa using e
        subst e'
        cases w
      | i + 1, e => simp at e
    · rw [e]
      intro x H' Fz' _ rep
      rw [rep_bl' rep]
      exact hQ H'
theorem cx_false {P : Program} {w : World} {H : Hp} {s : Shared} {e : Value} {s' : Shared} (h : L2.CX P w [] H s (fun _ _ _ => False) e s') : False := by
  obtain ⟨a, B, H', cls, d, _, _, _, _, _, _, _, z⟩ := h
  exact z
theorem walk {l : PySem.W.OpenLaw} {q : Program} {loose : List Str} {XP : (Str → Option Value) → Heap → Prop} {YP : World → Heap → Prop} {d : DefRec} {K : Params → PySem.W.Frag} {k : Nat} {x : Str} (hn : l.most = some 63) (hdf : d.params.defaults = []) (hr : Room k callerA)
    (hY : ∀ (w : World) (h : Heap), YP w h → (K w.params).In h)
    (F : ∀ (w : World) (mg : Str → Option Value) (fa : Addr) (h : Heap), (K w.params).In h → h.Ns mainGlobals mg → mg d.name = some (.ref fa) →
      ∃ fd : FuncData, (∀ (s : Shared) (u : Value), BindsTo s fd ⟨[u], []⟩ [(x, u)]) ∧ ∀ base : Heap, (K w.params).In base → base.Ns mainGlobals mg → FnOk l.prog w (K w.params) mg base (L2.CX l.prog w) k fa fd [x] (spLaw (K w.params) [])) :
    PySem.W.WalkO q loose XP YP l.row.toRowW d [] (fun f vs => PySem.call f vs) :=
  L2.walk_ofB (n := 63) (k := k) (x := x) (CX := fun w => L2.CX l.prog w) (sp := fun w => spLaw (K w.params) []) hn (by decide) hdf hr hY F (fun _ _ a ns hl hb _ hS => ⟨a, ns, rfl, hS, hl, hb, (fun _ hp => nomatch hp), fun _ => rfl⟩) fun _ _ _ _ _ z => cx_false z
/-! ### laws whose defs make lambdas -/
/-- the code object, the table of the def x -/
def tabC (K : PySem.W.Frag) (x : Str) : Addr := ((PySem.W.tabIn K x).getD (0, 0)).1
def tabP (K : PySem.W.Frag) (x : Str) : Addr := ((PySem.W.tabIn K x).getD (0, 0)).2
/-- the tables of the defs named, with their lambdas' names -/
def tabL (K : PySem.W.Frag) (xs : List Str) : List (Addr × Str) := xs.map fun x => (tabP K x, (x ++ (".<locals>." : Str)) ++ ("<lambda>" : Str))
theorem tab_eq {K : PySem.W.Frag} {x : Str} (h : (PySem.W.tabIn K x).isSome = true) : PySem.W.tabIn K x = some (tabC K x, tabP K x) := by
  unfold tabC tabP
  cases e : PySem.W.tabIn K x with
  | none => rw [e] at h; cases h
  | some p => rfl
theorem tab_mk {K : PySem.W.Frag} {x : Str} {f c p : Addr} {oc ce : Value} {od cdd : Option Addr} {fd : FuncData} {sl csl : Array (Option Value)} {vs : Array Value} (ha : PySem.W.nsIn K mainGlobals x = some (some (.ref f))) (hl : K.lookup f = some ⟨oc, od, .func fd, sl⟩) (hc : fd.code = .ref c)
    (hu : K.lookup c = some ⟨ce, cdd, .fields vs, csl⟩) (hp : vs[11]? = some (.ref p)) : PySem.W.tabIn K x = some (c, p) := by
  unfold PySem.W.tabIn
  rw [ha]
  dsimp only
  rw [hl]
  dsimp only
  rw [hc]
  dsimp only
  rw [hu]
  dsimp only
  rw [hp]
theorem tabC_of {K : PySem.W.Frag} {x : Str} {c p : Addr} (h : PySem.W.tabIn K x = some (c, p)) : tabC K x = c := by unfold tabC; rw [h]; rfl
theorem tabP_of {K : PySem.W.Frag} {x : Str} {c p : Addr} (h : PySem.W.tabIn K x = some (c, p)) : tabP K x = p := by unfold tabP; rw [h]; rfl
theorem tab_some {K : PySem.W.Frag} {x : Str} {c p : Addr} (h : PySem.W.tabIn K x = some (c, p)) : (PySem.W.tabIn K x).isSome = true := by rw [h]; rfl
theorem tabL_mem {K : PySem.W.Frag} {xs : List Str} {x : Str} (h : x ∈ xs) : (tabP K x, (x ++ (".<locals>." : Str)) ++ ("<lambda>" : Str)) ∈ tabL K xs := List.mem_map.mpr ⟨x, h, rfl⟩
theorem map_inj_of {α β : Type} {f : α → β} : ∀ {xs : List α}, (xs.map f).Nodup → ∀ {x y : α}, x ∈ xs → y ∈ xs → f x = f y → x = y
  | [], _, _, _, h, _, _ => by simp at h
  | a :: xs, nd, x, y, hx, hy, e => by
    rw [List.map_cons, List.nodup_cons] at nd
    rcases List.mem_cons.mp hx with h1 | h1 <;> rcases List.mem_cons.mp hy with h2 | h2
    · rw [h1, h2]
    · subst h1; exact absurd (e ▸ List.mem_map.mpr ⟨y, h2, rfl⟩) nd.1
    · subst h2; exact absurd (e ▸ List.mem_map.mpr ⟨x, h1, rfl⟩) nd.1
    · exact map_inj_of nd.2 h1 h2 e
theorem tab_uniq {K : PySem.W.Frag} {xs : List Str} {x : Str} (nd : (xs.map (tabP K)).Nodup) (h : x ∈ xs) : ∀ p ∈ tabL K xs, p.1 = tabP K x → p.2 = (x ++ (".<locals>." : Str)) ++ ("<lambda>" : Str) := fun p hp e => by
  obtain ⟨y, hy, ep⟩ := List.mem_map.mp hp
  subst ep
  rw [map_inj_of nd hy h e]
theorem walkT {l : PySem.W.OpenLaw} {q : Program} {loose : List Str} {XP : (Str → Option Value) → Heap → Prop} {YP : World → Heap → Prop} {d : DefRec} {K : Params → PySem.W.Frag} {k : Nat} {x : Str} (xs : List Str) (hn : l.most = some 63) (hdf : d.params.defaults = []) (hr : Room k callerA)
    (hxs : (xs.all fun y => ((recsOf q).find? fun e => e.name == y).isSome) = true) (hY : ∀ (w : World) (h : Heap), YP w h → (K w.params).In h)
    (F : ∀ (w : World) (mg : Str → Option Value) (fa : Addr) (h : Heap), (K w.params).In h → h.Ns mainGlobals mg → mg d.name = some (.ref fa) →
      (∀ y ∈ xs, (PySem.W.tabIn (K w.params) y).isSome = true) ∧ (∀ y ∈ xs, (K w.params).lookup (tabP (K w.params) y) = none) ∧
      ∃ fd : FuncData, (∀ (s : Shared) (u : Value), BindsTo s fd ⟨[u], []⟩ [(x, u)]) ∧ ∀ base : Heap, (K w.params).In base → base.Ns mainGlobals mg → (∀ y ∈ xs, LamX.TabB base mg (tabC (K w.params) y) (tabP (K w.params) y)) → FnOk l.prog w (K w.params) mg base (L2.CX l.prog w) k fa fd [x] (spLaw (K w.params) (tabL (K w.params) xs))) :
    PySem.W.WalkO q loose XP YP l.row.toRowW d [] (fun f vs => PySem.call f vs) := by
  refine Att.attach_callB hn hdf fun w _ t mg _ fa _ _ _ _ at_ vals zs G yp _ _ _ mgf lobj areI len63 bits gens => ?_
  have kin := hY w _ yp
  obtain ⟨hsome, hno, fd, bnd, ok⟩ := F w mg fa _ kin G.T.g mgf
  have tabs : ∀ y ∈ xs, PySem.W.CodeHd t.heap (tabC (K w.params) y) (tabP (K w.params) y) ∧ t.heap.get? (tabP (K w.params) y) = some { cls := .none, data := .fields #[] } := fun y hy => by
    obtain ⟨dr, hdr⟩ := Option.isSome_iff_exists.mp (List.all_eq_true.mp hxs y hy)
    exact PySem.W.tab_of G.T kin hdr (tab_eq (hsome y hy))
  have mem : ∀ {p : Addr × Addr}, p ∈ xs.map (fun y => (tabC (K w.params) y, tabP (K w.params) y)) → ∃ y ∈ xs, p = (tabC (K w.params) y, tabP (K w.params) y) := fun hp => by
    obtain ⟨y, hy, e⟩ := List.mem_map.mp hp
    exact ⟨y, hy, e.symm⟩
  refine LamX.law_callTs (cs := xs.map fun y => (tabC (K w.params) y, tabP (K w.params) y)) kin G.T.g G.T.b G.T.builtins G.T.nolimit gens
    (fun p hp => ?c1) (fun p hp => ?c2) (fun p hp => ?c3) G.T.bmain lobj areI (Nat.le_trans len63 (by decide)) hr
    (fun base h1 h2 h3 => ok base h1 h2 fun y hy => h3 (tabC (K w.params) y, tabP (K w.params) y) (List.mem_map.mpr ⟨y, hy, rfl⟩)) bnd
    (fun H hH hS => ⟨at_, zs, rfl, hS, len63, bits, fun p hp => ?c4, fun _ => rfl⟩) (fun _ _ _ z => cx_false z)
  case c1 => obtain ⟨y, hy, e⟩ := mem hp; subst e; exact (tabs y hy).2
  case c2 => obtain ⟨y, hy, e⟩ := mem hp; subst e; exact hno y hy
  case c3 => obtain ⟨y, hy, e⟩ := mem hp; subst e; exact (tabs y hy).1
  case c4 =>
    obtain ⟨y, hy, e⟩ := List.mem_map.mp hp
    subst e
    exact LamX.TabS.nil (hH (tabC (K w.params) y, tabP (K w.params) y) (List.mem_map.mpr ⟨y, hy, rfl⟩))
end DL
namespace DL
open PySem
theorem exm_tyT {K : PySem.W.Frag} {cls : Value} {T : String} {b : Bool} (h0 : PySem.W.subIn K (.type T) (.type "BaseException") = some true) (h1 : PySem.W.kitMeta T = true) (h : PySem.W.subIn K cls (.type T) = some b) : PySem.W.exmOne K cls (.type T) = some b := by
  unfold PySem.W.exmOne
  rw [h0, if_pos (by decide)]
  show (if PySem.W.kitMeta T = true then _ else _) = _
  rw [if_pos h1]
  exact h
theorem kit_tyT {K : PySem.W.Frag} {C : Addr} {T : String} {b : Bool} (h1 : PySem.W.kitMeta T = true) (h : PySem.W.subIn K (.ref C) (.type T) = some b) : PySem.W.kitOne K (.ref C) (.type T) = some b := by
  unfold PySem.W.kitOne
  rw [if_neg (by intro z; cases beq_iff_eq.mp z)]
  show (if PySem.W.kitMeta T = true then _ else _) = _
  rw [if_pos h1]
  exact h
theorem kit_refT {K : PySem.W.Frag} {C1 C : Addr} {b : Bool} (hd : PySem.W.hasDictIn K C = true) (ht : PySem.W.typeIn K (.ref C) = some (.type "type")) (hs : PySem.W.subIn K (.ref C) (.ref C) = some true) (h : PySem.W.subIn K (.ref C1) (.ref C) = some b) : PySem.W.kitOne K (.ref C1) (.ref C) = some b := by
  unfold PySem.W.kitOne
  by_cases c : (Value.ref C1 == Value.ref C) = true
  · rw [if_pos c]
    have e : C1 = C := Value.ref.inj (beq_iff_eq.mp c)
    subst e
    rw [h] at hs
    exact hs.symm
  · rw [if_neg c]
    unfold PySem.W.kitCls
    obtain ⟨cd, hc, _⟩ := PySem.W.any_some hd
    have e2 : ((PySem.W.clsIn K C).isSome && PySem.W.typeIn K (.ref C) == some (.type "type")) = true := by rw [hc, ht] <;> rfl
    show (if ((PySem.W.clsIn K C).isSome && PySem.W.typeIn K (.ref C) == some (.type "type")) = true then _ else _) = _
    rw [if_pos e2]
    exact h
end DL

set_option Elab.async false
set_option linter.all false
set_option maxRecDepth 100000
set_option maxHeartbeats 4000000
/-! DenRP: repr(x) of plain data, where no repr is under way. -/
namespace DL
open PySem L2 PySem.Spec PyProof.Rows
mutual
theorem py_nodict : ∀ d : D, d.py.hasDict = false
  | .non => by rw [D.py, PyData.hasDict]
  | .bl _ => by rw [D.py, PyData.hasDict]
  | .int _ => by rw [D.py, PyData.hasDict]
  | .str _ => by rw [D.py, PyData.hasDict]
  | .lst ds => by rw [D.py, PyData.hasDict]; exact pys_nodict ds
  | .tup ds => by rw [D.py, PyData.hasDict]; exact pys_nodict ds
  | .obj _ _ _ => by rw [D.py, PyData.hasDict]
  | .emp => by rw [D.py, PyData.hasDict]
theorem pys_nodict : ∀ ds : List D, PyData.hasDictAll (D.pys ds) = false
  | [] => by rw [D.pys, PyData.hasDictAll]
  | d :: ds => by rw [D.pys, PyData.hasDictAll, py_nodict d, pys_nodict ds]; rfl
end
def reprOk (d : D) : Bool := okN 20 d && d.py.showable && decide (d.py.shown.length ≤ sizeLine)
/-- the text of the data -/
noncomputable def reprD : List D → Option D
  | [d] => if reprOk d = true then some (.str d.py.shown) else none
  | _ => none
def rRepr (K : PySem.W.Frag) : List V → Hp → VK → Prop := fun xs H Q => ∃ (v : V) (d : PyData), xs = [v] ∧ Dp K H v d ∧ d.depth ≤ 20 ∧ d.hasDict = false ∧ d.showable = true ∧ d.shown.length ≤ sizeLine ∧ Q (.str d.shown) H
theorem call_reprA {X : Cx} {k : Nat} (hr : Room k X.A) (hg : X.A.guards = some []) : CallR X (.builtin "repr") (rRepr X.K) := by
  intro pins s σ H xs us Q I r h
  obtain ⟨v, d, rfl, hd, dp, hn, hs, hz, q⟩ := h
  obtain ⟨u, rfl, ru⟩ := vals1 r
  obtain ⟨as, rd⟩ := Dp.reads I d v u hd ru
  have hu := hr.un
  have key : ∀ a, u = .ref a → wpAny (model X.prog X.w) X.A (call (.builtin "repr") [u]) (EP X pins σ Q) X.xe s := fun a e => by
    subst e
    exact repr_of_reads' rd hs (PyData.noDict_hsm hn) hg (by omega) (fun _ _ e => e) (fun h' u tk hk => ⟨.str _, H, I.kept hk, ⟨_, rfl⟩, q⟩) hz
  cases rd with
  | none => exact PySem.P.repr_of_none ⟨.str _, H, I.tok _, ⟨_, rfl⟩, q⟩
  | bool b => exact PySem.P.repr_of_bool ⟨.str _, H, I.tok _, ⟨_, rfl⟩, q⟩
  | int i t => exact PySem.P.repr_of_int (by simpa [PyData.showable] using hs) ⟨.str _, H, I.tok _, ⟨_, rfl⟩, q⟩
  | str x t => exact PySem.P.repr_of_str ⟨.str _, H, I.tok _, ⟨_, rfl⟩, q⟩ hz
  | list => exact key _ rfl
  | tuple => exact key _ rfl
  | dict => exact key _ rfl
theorem callT_repr {M : MM} : CallT M (rRepr M.K) reprD := by
  intro Fz H ds z xs Q dom rx eo k
  unfold reprD at eo
  split at eo
  · split at eo
    · rename_i d hz
      injection eo with eo; subst eo
      have rx0 := trep1 rx
      clear rx
      obtain ⟨x, rfl, rx⟩ := rx0
      unfold reprOk at hz
      simp only [Bool.and_eq_true, decide_eq_true_eq] at hz
      obtain ⟨⟨h1, h2⟩, h3⟩ := hz
      exact ⟨x, d.py, rfl, trep_dp h1 rx, (okN_py 20 d h1).2, py_nodict d, h2, h3, k _ Fz H GrowTo.refl (by unfold Rep; rfl)⟩
    · cases eo
  · cases eo
theorem c_repr {X : Cx} {b : B} {W : WX} {Tb : List (Addr × Str)} {e : Expr} {es : List Expr} {fa : FV} {p pos : Pos} {k : Nat} (hGd : X.A.guards = some []) (hr : Room k X.A) (hM : b.M = ⟨X.K, X.mg, Tb⟩) (hg : Gl X "repr") (hm : X.mg "repr" = none) (ha : PA X (e :: es) (tAv b W fa)) (he : starEach (e :: es) X.env = (false, eval e X.env) :: starEach es X.env := by rfl) (hpl : (backTo pos (starEach es X.env)).any (·.1) = false := by rfl) :
    PE X (.Call (.Name "repr" p) (e :: es) [] pos) (tE b W (bltF reprD fa)) := pd_blt (call_reprA hr hGd) (castC hM callT_repr) hg hm (by decide +kernel) ha (by decide) (by decide) he hpl

/-! ### data whose texts are short -/
/-- lists of at most so many, level by level; small leaves -/
def fitL : List Nat → D → Bool
  | _, .non => true
  | _, .bl _ => true
  | _, .int i => decide (i.natAbs < 10 ^ 37)
  | _, .str x => x.cps.all (· < 0x110000) && decide (x.length ≤ 6)
  | m :: ms, .lst ds => decide (ds.length ≤ m) && ds.all (fitL ms)
  | m :: ms, .tup ds => decide (ds.length ≤ m) && ds.all (fitL ms)
  | _, _ => false
def slL : List Nat → Nat
  | [] => 80
  | m :: ms => 80 + m * (2 + slL ms)
theorem slL_ge : ∀ ms, 80 ≤ slL ms
  | [] => Nat.le_refl _
  | m :: ms => Nat.le_add_right _ _
theorem fit_leaf {ms : List Nat} {d : D} (h : d.py.shown.length ≤ 80) : d.py.shown.length ≤ slL ms := Nat.le_trans h (slL_ge ms)
mutual
theorem fit_sl : ∀ (ms : List Nat) (d : D), fitL ms d = true → d.py.shown.length ≤ slL ms ∧ d.py.showable = true ∧ okN ms.length d = true
  | ms, .non, _ => ⟨fit_leaf (show (4 : Nat) ≤ 80 by decide), rfl, by cases ms <;> rfl⟩
  | ms, .bl b, _ => ⟨fit_leaf (by cases b <;> decide), rfl, by cases ms <;> rfl⟩
  | ms, .int i, h => by
    have h1 : i.natAbs < 10 ^ 37 := by cases ms <;> exact of_decide_eq_true h
    have hl : i.natAbs.log2 < 1920 := by
      by_cases z : i.natAbs = 0
      · rw [z]; decide
      · have : i.natAbs.log2 < 123 := (Nat.log2_lt z).mpr (Nat.lt_of_lt_of_le h1 (by decide))
        omega
    refine ⟨fit_leaf ?_, decide_eq_true hl, by cases ms <;> rfl⟩
    have q := int_text_length_le10 (a := i) (k := 37) (by decide) h1
    have e : (D.int i).py.shown = PySem.Str.ofString (toString i) := rfl
    rw [e, PySem.ofString_length]
    omega
  | ms, .str x, h => by
    have h1 : (x.cps.all (· < 0x110000) && decide (x.length ≤ 6)) = true := by cases ms <;> exact h
    rw [Bool.and_eq_true] at h1
    have h2 : x.length ≤ 6 := of_decide_eq_true h1.2
    refine ⟨fit_leaf ?_, rfl, by cases ms <;> exact h1.1⟩
    have h3 : ∀ c ∈ x.cps.toList, c < 16 ^ 8 := fun c hc => by
      have z := h1.1
      rw [← Array.all_toList, List.all_eq_true] at z
      have := of_decide_eq_true (z c hc)
      omega
    have := StrLaws.reprText_len x h3
    show (reprText x).length ≤ 80
    omega
  | [], .lst _, h => by simp [fitL] at h
  | [], .tup _, h => by simp [fitL] at h
  | m :: ms, .lst ds, h => by
    have h' : decide (ds.length ≤ m) = true ∧ ds.all (fitL ms) = true := by simpa [fitL] using h
    obtain ⟨a1, a2, a3, a4⟩ := fits_sl ms ds h'.2
    have hm : ds.length ≤ m := of_decide_eq_true h'.1
    refine ⟨?_, by rw [D.py, PyData.showable]; exact a3, by simpa [okN] using a4⟩
    rw [D.py, PyData.shown]
    have h2 := listText_len_le (PyData.shownAll (D.pys ds))
    rw [a2] at h2
    have h3 : ds.length * (2 + slL ms) ≤ m * (2 + slL ms) := Nat.mul_le_mul_right _ hm
    show _ ≤ 80 + m * (2 + slL ms)
    omega
  | m :: ms, .tup ds, h => by
    have h' : decide (ds.length ≤ m) = true ∧ ds.all (fitL ms) = true := by simpa [fitL] using h
    obtain ⟨a1, a2, a3, a4⟩ := fits_sl ms ds h'.2
    have hm : ds.length ≤ m := of_decide_eq_true h'.1
    refine ⟨?_, by rw [D.py, PyData.showable]; exact a3, by simpa [okN] using a4⟩
    rw [D.py, PyData.shown]
    have h2 := tupleText_len_le (PyData.shownAll (D.pys ds))
    rw [a2] at h2
    have h3 : ds.length * (2 + slL ms) ≤ m * (2 + slL ms) := Nat.mul_le_mul_right _ hm
    show _ ≤ 80 + m * (2 + slL ms)
    omega
  | _, .obj _ _ _, h => by simp [fitL] at h
  | _, .emp, h => by simp [fitL] at h
theorem fits_sl : ∀ (ms : List Nat) (ds : List D), ds.all (fitL ms) = true → ((PyData.shownAll (D.pys ds)).map (·.length)).sum + 2 * ds.length ≤ ds.length * (2 + slL ms) ∧ (PyData.shownAll (D.pys ds)).length = ds.length ∧ PyData.showableAll (D.pys ds) = true ∧ ∀ d ∈ ds, okN ms.length d = true
  | ms, [], _ => ⟨Nat.le_of_eq (by simp [D.pys, PyData.shownAll]), rfl, rfl, fun _ h => nomatch h⟩
  | ms, d :: ds, h => by
    rw [List.all_cons, Bool.and_eq_true] at h
    obtain ⟨b1, b2, b3⟩ := fit_sl ms d h.1
    obtain ⟨a1, a2, a3, a4⟩ := fits_sl ms ds h.2
    refine ⟨?_, ?_, ?_, ?_⟩
    · rw [D.pys, PyData.shownAll, List.map_cons, List.sum_cons, List.length_cons, Nat.add_mul]
      omega
    · rw [D.pys, PyData.shownAll, List.length_cons, List.length_cons, a2]
    · rw [D.pys, PyData.showableAll, b2, a3]; rfl
    · intro x hx
      rcases List.mem_cons.mp hx with e | e
      · rw [e]; exact b3
      · exact a4 x e
end
theorem okN_le : ∀ {n m : Nat} {d : D}, n ≤ m → okN n d = true → okN m d = true
  | n, m, .non, _, _ => by cases m <;> rfl
  | n, m, .bl _, _, _ => by cases m <;> rfl
  | n, m, .int _, _, _ => by cases m <;> rfl
  | n, m, .str x, _, h => by
    have : x.cps.all (· < 0x110000) = true := by cases n <;> exact h
    cases m <;> exact this
  | n, m, .obj _ _ _, _, h => by cases n <;> simp [okN] at h
  | n, m, .emp, _, h => by cases n <;> simp [okN] at h
  | 0, m, .lst _, _, h => by simp [okN] at h
  | 0, m, .tup _, _, h => by simp [okN] at h
  | n + 1, 0, _, hl, _ => by omega
  | n + 1, m + 1, .lst ds, hl, h => by
    have h' : ∀ d ∈ ds, okN n d = true := by simpa [okN] using h
    have : ∀ d ∈ ds, okN m d = true := fun d hd => okN_le (by omega) (h' d hd)
    simpa [okN] using this
  | n + 1, m + 1, .tup ds, hl, h => by
    have h' : ∀ d ∈ ds, okN n d = true := by simpa [okN] using h
    have : ∀ d ∈ ds, okN m d = true := fun d hd => okN_le (by omega) (h' d hd)
    simpa [okN] using this
theorem reprOk_of {ms : List Nat} {d : D} (h : fitL ms d = true) (hl : ms.length ≤ 20 := by decide) (hw : slL ms ≤ 16777216 := by decide) : reprOk d = true := by
  obtain ⟨h1, h2, h3⟩ := fit_sl ms d h
  unfold reprOk
  rw [okN_le hl h3, h2]
  simp only [Bool.and_true, Bool.true_and, decide_eq_true_eq]
  rw [sizeLine_eq]
  omega
end DL

set_option Elab.async false
set_option linter.all false
set_option maxRecDepth 100000
set_option maxHeartbeats 4000000
/-! DenFG: defs that may ask for a repr: promised where no repr is under way. -/
namespace DL
open PySem L2 PySem.Spec PyProof.Rows

/-- a def's promise where no repr is under way -/
structure FnG (P : Program) (w : World) (K : PySem.W.Frag) (mg : Str → Option Value) (base : Heap) (CX : CXT) (k : Nat) (f : Addr) (fd : FuncData) (ps : List Str) (sp : Sp) : Prop where
  len : ∀ vs H Q E, sp vs H Q E → vs.length = ps.length
  run : ∀ (A : Around) (outer : List Env) (s : Shared) (H : Hp) (args : Args) (us : List Value) (vs : List V) (Q : VK) (E : XK), Room k A → A.guards = some [] → Env0 P w K mg base A outer s H → BindsTo s fd args (ps.zip us) → Vals vs us → sp vs H Q E →
    codeAny (model P w) A (.call (.ref f) args) (CR CX outer P w H s Q E) s
section
variable {P : Program} {w : World} {K : PySem.W.Frag} {mg : Str → Option Value} {base : Heap} {CX : CXT} {k : Nat} {f : Addr} {fd : FuncData} {ps : List Str} {sp sp' : Sp}
theorem gOf (F : FnOk P w K mg base CX k f fd ps sp) : FnG P w K mg base CX k f fd ps sp := ⟨F.len, fun A outer s H args us vs Q E hr _ => F.run A outer s H args us vs Q E hr⟩
theorem FnG.imp (F : FnG P w K mg base CX k f fd ps sp) (h : ∀ vs H Q E, sp' vs H Q E → sp vs H Q E) : FnG P w K mg base CX k f fd ps sp' :=
  ⟨fun vs H Q E q => F.len vs H Q E (h _ _ _ _ q), fun A outer s H args us vs Q E hr hg he hb hv hs => F.run A outer s H args us vs Q E hr hg he hb hv (h _ _ _ _ hs)⟩
theorem deep_g {A : Around} {e : Env} (h : A.guards = some []) : (A.deeper e).guards = some [] := h
/-- a def by its body -/
theorem fn_ofG {name qual : Str} {params : Arguments} {body : List Stmt} {scope : Scope} {dV kV doc pm cdv ct oc : Value} {an od : Option Addr}
    {osl : Array (Option Value)} {N : List Str} (lk : K.lookup f = some ⟨oc, od, .func (PySem.W.fnOf name qual params body scope dV kV doc pm an cdv ct), osl⟩) (hcd : PySem.W.codeIn K cdv qual = true) (S : FnScope N ps scope)
    (len : ∀ vs H Q E, sp vs H Q E → vs.length = ps.length)
    (hbody : ∀ (A : Around) (outer : List Env) (s : Shared) (H : Hp) (vs : List V) (Q : VK) (E : XK), Room k (A.deeper (envOfC qual scope s.heap.objs.size f cdv)) → (A.deeper (envOfC qual scope s.heap.objs.size f cdv)).guards = some [] → sp vs H Q E →
      ∃ t, PSs (cxOf CX P w K mg base N qual scope f cdv A outer s H E) body t ∧ t { nx := fun _ H' => Q .non H', rt := Q } (start N vs) H) :
    FnG P w K mg base CX (k + 1) f (PySem.W.fnOf name qual params body scope dV kV doc pm an cdv ct) ps sp := by
  refine ⟨len, fun A outer s H args us vs Q E hr gd e0 hb r hsp => ?_⟩
  have keep : ∀ b o, base.get? b = some o → s.heap.get? b = some o := fun b o e => (e0.bs b o e).1
  have KX : K.In s.heap := e0.mod.kin.keeps keep
  have slot : ∀ y ∈ ps.zip us, scope.names.lookup y.1 = some .local ∨ (scope.names.lookup y.1 = some .cell ∧ ((cellsFrom (s.heap.objs.size + 1) scope.names []).lookup y.1).isSome = true) := fun y hy =>
    (S.par y.1 (List.of_mem_zip hy).1).imp id fun q => ⟨q, PySem.W.cellsFrom_some _ _ _ (.inl q)⟩
  refine codeAny_call_function hr.depth (KX _ _ lk) rfl S.co S.gen rfl (PySem.W.codeRec_of KX hcd) (hb _ _ _ _ ?_)
  refine wpAny_newFunctionEnv_cells S.kind slot fun env he s1 x => ?_
  subst he
  obtain ⟨t, ht, hq⟩ := hbody A outer s H vs Q E (hr.deeper _) (deep_g gd) hsp
  refine ⟨(e0.mod.nolimit.keeps keep).keeps x.toInCall.keep, codeAny_func (wpAny_mono (ht.run [] s1 (start N vs) H _ (inv_start S hr.hd e0 (len _ _ _ _ hsp) r x) hq) (fun fl s' hs => ?_) fun e s' hs => hs)⟩
  match fl, hs with
  | .ret u, ⟨v, σ', H', J, rv, q⟩ => exact ⟨v, H', J.os, J.bare, J.base, J.hok, rv, q⟩
  | .next, ⟨σ', H', J, q⟩ => exact ⟨.non, H', J.os, J.bare, J.base, J.hok, rfl, q⟩
  | .brk, ⟨_, _, _, q⟩ => exact False.elim q
  | .cont, ⟨_, _, _, q⟩ => exact False.elim q
end
section
variable {P : Program} {w : World} {K : PySem.W.Frag} {mg : Str → Option Value} {base : Heap} {Tb : List (Addr × Str)}
theorem ok_defG {x qual : Str} {st : Stmt} {f : Addr} {fd : FuncData} {N ps : List Str} {k n : Nat} {al : List Nat} {body : FS} {dvs : List V} (hn : n = ps.length) (hN : ps.length ≤ N.length) (F : FunD K x qual (defArgs st) (defBody st) (defScope st) dvs [] f fd) (S : FnScope N ps (defScope st))
    (hbody : ∀ (cdv : Value) (A : Around) (outer : List Env) (s : Shared) (H : Hp) (E : XK) (b : B), (A.deeper (envOfC qual (defScope st) s.heap.objs.size f cdv)).guards = some [] → Room k (A.deeper (envOfC qual (defScope st) s.heap.objs.size f cdv)) → b.M = ⟨K, mg, Tb⟩ → b.np = n → b.px = none →
      PSs (cxOf (L2.CX P w) P w K mg base N qual (defScope st) f cdv A outer s H E) (defBody st) (tSt b (fun cls d _ H => E cls d H) al body)) : FnG P w K mg base (L2.CX P w) (k + 1) f fd ps (spD ⟨K, mg, Tb⟩ n (defF N.length body)) := by
  subst hn
  obtain ⟨oc, od, dV, kV, doc, pm, an, cdv, ct, osl, efd, lk, hcd, _, _⟩ := F.ex
  subst efd
  refine fn_ofG (CX := L2.CX P w) lk hcd S (fun vs H Q E h => h.1) fun A outer s H vs Q E hr gd h => ?_
  obtain ⟨hl, Fz, as, dom, rel, noon, tb, h⟩ := h
  refine ⟨_, hbody cdv A outer s H E ⟨⟨K, mg, Tb⟩, H, Fz, fun a => ∃ i, Own as (vs.map some) i a, vs.length, vs.map some, none⟩ gd hr rfl hl rfl, ?_⟩
  refine ⟨Fz, as ++ List.replicate (N.length - as.length) .un, start_rel (by omega) dom rel noon tb, ?_⟩
  unfold defF at h
  cases q : body (as ++ List.replicate (N.length - as.length) .un) with
  | nx g =>
    rw [q] at h
    unfold endC at h
    dsimp only at h
    by_cases c : okOut as g = true
    · rw [if_pos c] at h
      exact fun σ' H' Fz' r' _ => h .non H' Fz' (end_post rel c r') rep_non
    · rw [if_neg c] at h; exact h.elim
  | rt d g =>
    rw [q] at h
    unfold endC at h
    dsimp only at h
    by_cases c : okOut as g = true
    · rw [if_pos c] at h
      exact fun x σ' H' Fz' r' rep => h x H' Fz' (end_post rel c r') rep
    · rw [if_neg c] at h; exact h.elim
  | rf d g =>
    rw [q] at h
    unfold endC at h
    dsimp only at h
    by_cases c : okOut as g = true
    · rw [if_pos c] at h
      intro x σ' H' Fz' r' rep
      obtain ⟨p, ws, rfl, h0, nf, hu, ho, rr⟩ := rep
      exact h p ws H' Fz' (end_post rel c r') h0 nf hu rr
    · rw [if_neg c] at h; exact h.elim
  | ex d g =>
    rw [q] at h
    unfold endC at h
    dsimp only at h
    by_cases c : okOut as g = true
    · rw [if_pos c] at h
      exact fun σ' cl dx H' Fz' r' _ rep => h cl dx H' Fz' (end_post rel c r') rep
    · rw [if_neg c] at h; exact h.elim
  | bk g => rw [q] at h; exact h.elim
  | ct g => rw [q] at h; exact h.elim
  | no => rw [q] at h; exact h.elim
end
/-! ### calls -/
section
variable {X : Cx} {b : B} {W : WX} {Tb : List (Addr × Str)} {e : Expr} {es : List Expr} {fa : FV} {p pos : Pos} {k n : Nat} {fA : Addr} {fd : FuncData} {ps : List Str} {dn : Dn} {x : Str} {dvs : List V} {ds : List Value} {dfs : List D}
theorem pe_callSDG {CX : CXT} {sp : Sp} {E : L2.St → XK} {t : TA} (F : FnG X.prog X.w X.K X.mg X.base CX k fA fd ps sp) (gd : X.A.guards = some []) (hr : Room k X.A) (hg : Gl X x) (hm : X.mg x = some (.ref fA)) (hk : PySem.W.keepIn X.K (.ref fA) = true) (hb : Binds X.K fd ps ds) (hd : Vals dvs ds) (hx : ∀ σ, PassesAt CX X σ (E σ))
    (ha : PA X (e :: es) t) (hdb : (x == ("__debug__" : Str)) = false := by decide) (he : starEach (e :: es) X.env = (false, eval e X.env) :: starEach es X.env := by rfl) (hpl : (backTo pos (starEach es X.env)).any (·.1) = false := by rfl) :
    PE X (.Call (.Name x p) (e :: es) [] pos) (tCallSD sp dvs E t) := by
  refine ⟨fun pins s σ H Q I h => wpAny_Call_Name_kw (ld_glob I hg hm ?_ hdb)⟩
  refine PySem.W.callWith_K (h₀ := X.base) I.ok.mod.kin hk (thn (ha.run pos pins s σ H _ I h) fun us s1 ⟨vs, H1, I1, r, q⟩ => ⟨I1.kIn, ?_⟩) he hpl
  have r2 : Vals (vs ++ dvs) (us ++ ds) := r.append hd
  have hl : (us ++ ds).length = ps.length := r2.length.symm.trans (F.len _ _ _ _ q)
  refine wpAny_call (codeAny_mono (F.run X.A X.stack s1 H1 ⟨us, []⟩ (us ++ ds) (vs ++ dvs) Q (E σ) hr gd I1.env0 (hb s1 us I1.kIn hl) r2 q) fun r s' hq => ?_)
  match r, hq with
  | .error e, hq => exact hx σ pins H1 s1 e s' I1 hq
  | .ok (.ret u), hq => exact I1.after hq
  | .ok .next, hq => exact False.elim hq
  | .ok .brk, hq => exact False.elim hq
  | .ok .cont, hq => exact False.elim hq
theorem q_callG (hGd : X.A.guards = some []) (hM : b.M = ⟨X.K, X.mg, Tb⟩) (tk : Takes X W) (F : FnG X.prog X.w X.K X.mg X.base (L2.CX X.prog X.w) k fA fd ps (spD ⟨X.K, X.mg, Tb⟩ n dn)) (hr : Room k X.A) (hg : Gl X x) (hm : X.mg x = some (.ref fA)) (hk : PySem.W.keepIn X.K (.ref fA) = true)
    (hb : ∃ ds, Vals dvs ds ∧ Binds X.K fd ps ds) (hdf : ∀ M Fz H, RepL M Fz H dfs dvs) (ha : PA X (e :: es) (tAv b W fa)) (hdb : (x == ("__debug__" : Str)) = false := by decide)
    (he : starEach (e :: es) X.env = (false, eval e X.env) :: starEach es X.env := by rfl) (hpl : (backTo pos (starEach es X.env)).any (·.1) = false := by rfl) : PE X (.Call (.Name x p) (e :: es) [] pos) (tE b W (callF n dn dfs fa)) :=
  let ⟨_, hd, hb⟩ := hb
  pe_mono (pe_callSDG F hGd hr hg hm hk hb hd (fun σ => passAt tk σ) ha hdb he hpl) fun σ H Q h => by
    have z := tE_call (hdf b.M) h
    rw [hM] at z
    exact z
theorem f_callG (hGd : X.A.guards = some []) (hM : b.M = ⟨X.K, X.mg, Tb⟩) (tk : Takes X W) (F : FnG X.prog X.w X.K X.mg X.base (L2.CX X.prog X.w) k fA fd ps (spD ⟨X.K, X.mg, Tb⟩ n dn)) (hr : Room k X.A) (hg : Gl X x) (hm : X.mg x = some (.ref fA)) (hk : PySem.W.keepIn X.K (.ref fA) = true)
    (hb : ∃ ds, Vals dvs ds ∧ Binds X.K fd ps ds) (hdf : ∀ M Fz H, RepL M Fz H dfs dvs) (ha : PA X (e :: es) (tAv b W fa)) (hdb : (x == ("__debug__" : Str)) = false := by decide)
    (he : starEach (e :: es) X.env = (false, eval e X.env) :: starEach es X.env := by rfl) (hpl : (backTo pos (starEach es X.env)).any (·.1) = false := by rfl) : PE X (.Call (.Name x p) (e :: es) [] pos) (tFr b W (callFF n dn dfs fa)) :=
  let ⟨_, hd, hb⟩ := hb
  pe_mono (pe_callSDG F hGd hr hg hm hk hb hd (fun σ => passAt tk σ) ha hdb he hpl) fun σ H Q h => by
    have z := tF_call (hdf b.M) h
    rw [hM] at z
    exact z
end
/-! ### the law's head -/
theorem spLaw_spD {K : PySem.W.Frag} {mg : Str → Option Value} {dn : Dn} {Tb : List (Addr × Str)} (h : LawOk dn) {vs : List V} {H : Hp} {Q : VK} {E : XK} (z : spLaw K Tb vs H Q E) : spD ⟨K, mg, Tb⟩ 1 dn vs H Q E := by
    obtain ⟨a, ns, hv, hS, hl, hb, hT, hQ⟩ := z
    subst hv
    obtain ⟨as, e⟩ := h ns hl hb
    refine ⟨rfl, fun x => x = a ∧ H x = some (.lst (ns.map V.int)), [.v (.lst (ns.map D.int))], fun x hx => ⟨_, hx.2⟩, ⟨rfl, fun i s e => ?_, fun i j x p q => ?_⟩, (fun i dss e => match i, e with
      | 0, e => by cases e
      | i + 1, e => by cases e), hT, ?_⟩
    · match i, e with
      | 0, e =>
        have e' : S.v (.lst (ns.map D.int)) = s := by simpa using e
        subst e'
        refine ⟨.ref a, rfl, ?_⟩
        unfold Rep
        refine ⟨a, _, rfl, ?_, repL_ints ns⟩
        rcases hS with (hS | ⟨o, hS⟩) | hS
        · exact .inl ⟨⟨rfl, hS⟩, hS⟩
        · exact .inr (.inl ⟨o, hS⟩)
        · exact .inr (.inr hS)
      | i + 1, e => simp at e
    · obtain ⟨⟨s, e, w⟩, _⟩ := p
      match i, e with
      | 0, e =>
        have e' : S.v (.lst (ns.map D.int)) = s := by simpa using e
        subst e'
        cases w
      | i + 1, e => simp at e
    · rw [e]
      intro x H' Fz' _ rep
      rw [rep_bl' rep]
      exact hQ H'
theorem law_impG {P : Program} {w : World} {K : PySem.W.Frag} {mg : Str → Option Value} {base : Heap} {CX : CXT} {k : Nat} {f : Addr} {fd : FuncData} {ps : List Str} {dn : Dn} {Tb : List (Addr × Str)} (F : FnG P w K mg base CX k f fd ps (spD ⟨K, mg, Tb⟩ 1 dn)) (h : LawOk dn) : FnG P w K mg base CX k f fd ps (spLaw K Tb) :=
  F.imp fun vs H Q E z => spLaw_spD h z
/-- where the tables lie, and the script -/
def hp0 (K : PySem.W.Frag) (T : List Addr) (a : Addr) (o : Obj) (vs : List V) : Hp := fun b => if b ∈ T then some (.tbl #[]) else if b = a ∧ K.lookup a = none then some (.frz o (.lst vs)) else none
section
variable {P : Program} {w : World} {K : PySem.W.Frag} {mg mb : Str → Option Value} {k : Nat} {fa a : Addr} {cs : List (Addr × Addr)} {fd : FuncData} {x : Str} {Tb : List (Addr × Str)} {s₁ : Shared} {vs : List Value} {ns : List Int}
theorem law_callG (KX : K.In s₁.heap) (hns : s₁.heap.Ns mainGlobals mg) (hb : s₁.heap.Ns builtinsNs mb) (hbb : ∀ x : Str, x ≠ "__name__" → mb x = bootBuiltins x) (hlim : s₁.heap.NoLimit) (hg : s₁.gens = #[])
    (hT : ∀ p ∈ cs, s₁.heap.get? p.2 = some { cls := .none, data := .fields #[] }) (nT : ∀ p ∈ cs, K.lookup p.2 = none) (C : ∀ p ∈ cs, PySem.W.CodeHd s₁.heap p.1 p.2)
    (hbm : ∃ (bm : Addr) (ob : Obj), mg "__builtins__" = some (.ref bm) ∧ bm ≠ builtinsNs ∧ s₁.heap.get? bm = some ob ∧ ob.cls = .type "module" ∧ ob.dict = some builtinsNs ∧ ob.data = .plain)
    (ha : s₁.heap.get? a = some { cls := .type "list", data := .seq vs.toArray }) (hi : IntsAre vs ns) (hl : ns.length ≤ sizeLine) (hr : Room k callerA)
    (F : ∀ base : Heap, K.In base → base.Ns mainGlobals mg → (∀ p ∈ cs, LamX.TabB base mg p.1 p.2) → FnG P w K mg base (L2.CX P w) k fa fd [x] (spLaw K Tb)) (hbind : ∀ (s : Shared) (u : Value), BindsTo s fd ⟨[u], []⟩ [(x, u)])
    (hsp : ∀ H : Hp, (∀ p ∈ cs, H p.2 = some (.tbl #[])) → SqL K H a (ns.map V.int) → spLaw K Tb [.ref a] H (fun v _ => v = .bl true) fun _ _ _ => False) :
    codeAny (model P w) callerA (.call (.ref fa) ⟨[.ref a], []⟩) (fun r s' => r = .ok (.ret (.bool true)) ∧ OldK s₁.heap s'.heap ∧ s'.os = s₁.os ∧ AllBare s'.gens) s₁ := by
  have rv := vals_ints hi
  have lenV := hi.length
  obtain ⟨T, eT⟩ : ∃ T, T = cs.map (·.2) := ⟨_, rfl⟩
  have isT : ∀ b ∈ T, ∃ p ∈ cs, p.2 = b := fun b hb => by rw [eT] at hb; exact List.mem_map.mp hb
  have inT : ∀ p ∈ cs, p.2 ∈ T := fun p hp => by rw [eT]; exact List.mem_map.mpr ⟨p, hp, rfl⟩
  have getT : ∀ b ∈ T, s₁.heap.get? b = some { cls := .none, data := .fields #[] } := fun b hb => by
    obtain ⟨p, hp, e⟩ := isT b hb
    rw [← e]; exact hT p hp
  have aT : a ∉ T := fun z => by
    have q := (getT a z).symm.trans ha
    injection q with q; injection q with _ _ q; cases q
  obtain ⟨H, eH⟩ : ∃ H, H = hp0 K T a { cls := .type "list", data := .seq vs.toArray } (ns.map V.int) := ⟨_, rfl⟩
  have inH : ∀ b ∈ T, H b = some (.tbl #[]) := fun b hb => by rw [eH]; exact if_pos hb
  have offH : ∀ b, b ∉ T → ¬ (b = a ∧ K.lookup a = none) → H b = none := fun b h1 h2 => by rw [eH]; exact (if_neg h1).trans (if_neg h2)
  have atH : K.lookup a = none → H a = some (.frz { cls := .type "list", data := .seq vs.toArray } (.lst (ns.map V.int))) := fun z => by rw [eH]; exact (if_neg aT).trans (if_pos ⟨rfl, z⟩)
  have hok : HOk P w H s₁.heap := fun b u z => by
    by_cases h1 : b ∈ T
    · rw [inH b h1] at z; cases z; exact getT b h1
    · by_cases h2 : b = a ∧ K.lookup a = none
      · rw [h2.1, atH h2.2] at z
        cases z
        rw [h2.1]
        exact ⟨ha, by rw [List.length_map]; exact hl, vs, _, rv, ha⟩
      · rw [offH b h1 h2] at z; cases z
  have hS : SqL K H a (ns.map V.int) := by
    cases hk : K.lookup a with
    | none => exact .inl (.inr ⟨_, atH hk⟩)
    | some o =>
      have e := (KX a o hk).symm.trans ha
      cases e
      exact .inr ⟨_, vs.toArray, _, hk, rfl, rfl, rfl, by rw [List.size_toArray, lenV]; exact hl, by simpa using rv⟩
  -- what is neither a list nor a table is hidden nowhere
  have seen : ∀ {b : Addr} {o : Obj}, s₁.heap.get? b = some o → (∀ us n, o.data ≠ .seq us n) → o.data ≠ .fields #[] → H b = none := fun {b o} e h1 h2 => offH b
    (fun z => by rw [getT b z] at e; cases e; exact h2 rfl) (fun z => by rw [z.1, ha] at e; cases e; exact h1 _ _ rfl)
  have look : ∀ {b : Addr} {o : Obj}, s₁.heap.get? b = some o → H b = none → (hidT s₁.heap H).get? b = some o := fun e n => hidT_get e n
  have nsK : ∀ {b : Addr} {m : Str → Option Value}, s₁.heap.Ns b m → (hidT s₁.heap H).Ns b m := fun {b m} ⟨o, es, ep, e, d, r⟩ =>
    ⟨o, es, ep, look e (seen e (fun us n z => by rw [d] at z; cases z) fun z => by rw [d] at z; cases z), d, r⟩
  have hKb : K.In (hidT s₁.heap H) := fun b o e => look (KX b o e) (offH b (fun z => by
    obtain ⟨p, hp, ep⟩ := isT b z
    rw [← ep, nT p hp] at e; cases e) fun z => by rw [z.1, z.2] at e; cases e)
  have TB : ∀ p ∈ cs, LamX.TabB (hidT s₁.heap H) mg p.1 p.2 := fun p hp => by
    refine ⟨?_, ?_, fun z => ?_⟩
    · obtain ⟨o, us, file, tf, flags, tg, inF, text, tt, e1, r1, r2, r3, r4, r5, r6, r7, r8, hne⟩ := C p hp
      refine ⟨o, us, file, tf, flags, tg, inF, text, tt, look e1 (seen e1 (fun us n z => by rw [r2] at z; cases z) fun z => ?_), r1, r2, r3, r4, r5, r6, r7, r8, hne⟩
      rw [r2] at z; cases z; simp at r3
    · obtain ⟨bm, ob, b1, b2, b3, b4, b5, b6⟩ := hbm
      refine ⟨bm, ob, b1, b2, fun q => ?_, fun q => ?_, look b3 (seen b3 (fun us n z => by rw [b6] at z; cases z) fun z => by rw [b6] at z; cases z), b4, b5, b6⟩
      · obtain ⟨o, es, ep, e, hd, _⟩ := hns
        rw [q, e] at b3; cases b3; rw [hd] at b6; cases b6
      · rw [q, hT p hp] at b3; cases b3; cases b6
    · obtain ⟨o, es, ep, e, hd, _⟩ := hns
      rw [z, hT p hp] at e; cases e; cases hd
  have none' : ∀ b, b ∈ frs [] → H b = none := fun b hb => absurd (show b ∈ ([] : List Addr) from hb) (by simp)
  have e0 : Env0 P w K mg (hidT s₁.heap H) callerA [] s₁ H := ⟨rfl, ⟨hKb, nsK hns, ⟨mb, nsK hb, hbb⟩, let ⟨mc, h1, h2⟩ := hlim; ⟨mc, nsK h1, h2⟩⟩, fun b o e => of_hidT e, Nat.le_of_eq (hidT_size _ _), trivial, none', hok, .of_eq hg⟩
  refine codeAny_mono ((F _ hKb (nsK hns) TB).run callerA [] s₁ H ⟨[.ref a], []⟩ [.ref a] [.ref a] _ _ hr rfl e0 (hbind s₁ (.ref a)) (.cons rfl .nil) (hsp H (fun p hp => inH _ (inT p hp)) hS)) fun r s' h => ?_
  match r, h with
  | .error e, h => exact (cx_false h).elim
  | .ok .next, h => exact False.elim h
  | .ok .brk, h => exact False.elim h
  | .ok .cont, h => exact False.elim h
  | .ok (.ret u), ⟨v, H', os, bare, un, hok', r', q⟩ =>
    have q' : v = .bl true := q
    subst q'
    obtain rfl : u = Value.bool true := r'
    have kept : ∀ b o, b ∉ T → s₁.heap.get? b = some o → s'.heap.get? b = some o := fun b o nb e => by
      by_cases h2 : b = a ∧ K.lookup a = none
      · obtain ⟨e2, _⟩ := hok' b _ (un.frzs b _ _ (by rw [h2.1]; exact atH h2.2))
        rw [h2.1, ha] at e; cases e
        exact e2
      · exact un.keep b o e (offH b nb h2) (by intro z; exact absurd (show b ∈ ([] : List Addr) from z) (by simp)) (by simp)
    have grown : ∀ b ∈ T, ∃ more : Array Value, s'.heap.get? b = some { cls := .none, data := .fields more } := fun b hb => by
      obtain ⟨more, z⟩ := un.tbls b #[] (inH b hb)
      exact ⟨_, hok' b _ z⟩
    refine ⟨rfl, ⟨fun b o e => ?_, fun b o e => ?_⟩, os, bare⟩
    · by_cases hb : b ∈ T
      · obtain ⟨p, hp, ep⟩ := isT b hb
        obtain ⟨more, hm⟩ := grown b hb
        rw [getT b hb] at e; cases e
        refine .inr (.inl ⟨?_, rfl, #[], more, rfl, by rw [Array.empty_append]; exact hm⟩)
        rw [← ep]
        exact ((C p hp).tab (hT p hp)).isCodeTable
      · exact .inl (kept b o hb e)
    · by_cases hb : b ∈ T
      · obtain ⟨more, hm⟩ := grown b hb
        exact ⟨_, hm⟩
      · exact ⟨o, kept b o hb e⟩
end
theorem walkG {l : PySem.W.OpenLaw} {q : Program} {loose : List Str} {XP : (Str → Option Value) → Heap → Prop} {YP : World → Heap → Prop} {d : DefRec} {K : Params → PySem.W.Frag} {k : Nat} {x : Str} (xs : List Str) (hn : l.most = some 63) (hdf : d.params.defaults = []) (hr : Room k callerA)
    (hxs : (xs.all fun y => ((recsOf q).find? fun e => e.name == y).isSome) = true) (hY : ∀ (w : World) (h : Heap), YP w h → (K w.params).In h)
    (F : ∀ (w : World) (mg : Str → Option Value) (fa : Addr) (h : Heap), (K w.params).In h → h.Ns mainGlobals mg → mg d.name = some (.ref fa) →
      (∀ y ∈ xs, (PySem.W.tabIn (K w.params) y).isSome = true) ∧ (∀ y ∈ xs, (K w.params).lookup (tabP (K w.params) y) = none) ∧
      ∃ fd : FuncData, (∀ (s : Shared) (u : Value), BindsTo s fd ⟨[u], []⟩ [(x, u)]) ∧ ∀ base : Heap, (K w.params).In base → base.Ns mainGlobals mg → (∀ y ∈ xs, LamX.TabB base mg (tabC (K w.params) y) (tabP (K w.params) y)) → FnG l.prog w (K w.params) mg base (L2.CX l.prog w) k fa fd [x] (spLaw (K w.params) (tabL (K w.params) xs))) :
    PySem.W.WalkO q loose XP YP l.row.toRowW d [] (fun f vs => PySem.call f vs) := by
  refine Att.attach_callB hn hdf fun w _ t mg _ fa _ _ _ _ at_ vals zs G yp _ _ _ mgf lobj areI len63 bits gens => ?_
  have kin := hY w _ yp
  obtain ⟨hsome, hno, fd, bnd, ok⟩ := F w mg fa _ kin G.T.g mgf
  have tabs : ∀ y ∈ xs, PySem.W.CodeHd t.heap (tabC (K w.params) y) (tabP (K w.params) y) ∧ t.heap.get? (tabP (K w.params) y) = some { cls := .none, data := .fields #[] } := fun y hy => by
    obtain ⟨dr, hdr⟩ := Option.isSome_iff_exists.mp (List.all_eq_true.mp hxs y hy)
    exact PySem.W.tab_of G.T kin hdr (tab_eq (hsome y hy))
  have mem : ∀ {p : Addr × Addr}, p ∈ xs.map (fun y => (tabC (K w.params) y, tabP (K w.params) y)) → ∃ y ∈ xs, p = (tabC (K w.params) y, tabP (K w.params) y) := fun hp => by
    obtain ⟨y, hy, e⟩ := List.mem_map.mp hp
    exact ⟨y, hy, e.symm⟩
  refine law_callG (cs := xs.map fun y => (tabC (K w.params) y, tabP (K w.params) y)) kin G.T.g G.T.b G.T.builtins G.T.nolimit gens
    (fun p hp => ?c1) (fun p hp => ?c2) (fun p hp => ?c3) G.T.bmain lobj areI (Nat.le_trans len63 (by decide)) hr
    (fun base h1 h2 h3 => ok base h1 h2 fun y hy => h3 (tabC (K w.params) y, tabP (K w.params) y) (List.mem_map.mpr ⟨y, hy, rfl⟩)) bnd
    (fun H hH hS => ⟨at_, zs, rfl, hS, len63, bits, fun p hp => ?c4, fun _ => rfl⟩)
  case c1 => obtain ⟨y, hy, e⟩ := mem hp; subst e; exact (tabs y hy).2
  case c2 => obtain ⟨y, hy, e⟩ := mem hp; subst e; exact hno y hy
  case c3 => obtain ⟨y, hy, e⟩ := mem hp; subst e; exact (tabs y hy).1
  case c4 =>
    obtain ⟨y, hy, e⟩ := List.mem_map.mp hp
    subst e
    exact LamX.TabS.nil (hH (tabC (K w.params) y, tabP (K w.params) y) (List.mem_map.mpr ⟨y, hy, rfl⟩))
end DL

set_option Elab.async false
set_option linter.all false
set_option maxRecDepth 100000
set_option maxHeartbeats 4000000
/-! DenXV: own exceptions held as values: made with their own __init__, their fields, isinstance; over the base of fork82.py. -/
namespace DL
open PySem L2 PySem.Spec PyProof.Rows

/-! ### made, the value kept -/
section
variable {X : Cx} {e : Expr} {es : List Expr} {ta : TA} {x : Str} {p pos : Pos} {C fI : Addr} {fd : FuncData} {ps : List Str} {k : Nat} {sp : Sp} {CX : CXT}
theorem mkv_end {pins : List (Addr × Obj)} {σ : L2.St} {H1 H2 : Hp} {hp hp2 h2 : Heap} {g1 g2 : Array GenState} {d1 d2 : Drawn} {t1 t2 : Nat} {os1 os2 : OsState} {a C : Addr} (I1 : Inv X pins σ H1 ⟨hp, g1, d1, t1, os1⟩)
    (ha : hp.objs.size ≤ a) (k : ∀ b o, hp.get? b = some o → hp2.get? b = some o) (un : Un (frs X.stack) [] (upd H1 a (exo a C none)) H2 hp2 h2) (hok : HOk X.prog X.w H2 h2) (ho : os2 = os1) (hb : AllBare g2) : Inv X pins σ H2 ⟨h2, g2, d2, t2, os2⟩ := by
  have hn : H1 a = none := I1.hok.fresh ha
  have nha : ∀ {b : Addr} {o : Obj}, hp.get? b = some o → b ≠ a := fun {b o} z => Nat.ne_of_lt (Nat.lt_of_lt_of_le (Heap.lt_size z) ha)
  have up : ∀ {b : Addr}, b ≠ a → H1 b = none → upd H1 a (exo a C none) b = none := fun {b} hb n => by rw [upd_ne hb]; exact n
  have U : Un (frs X.stack) [] H1 H2 hp h2 := {
    keep := fun b o z n hf hx => un.keep b o (k b o z) (up (nha z) n) hf hx
    slot := fun b o z n hf hx => un.slot b o (k b o z) (up (nha z) n) hf hx
    free := fun b o z n hx => un.free b o (k b o z) (up (nha z) n) hx
    there := fun b o z hx => un.there b o (k b o z) hx
    tups := fun b xs z => un.tups b xs (by rw [upd_ne (ne_of_none z hn)]; exact z)
    frzs := fun b o v z => un.frzs b o v (by rw [upd_ne (ne_of_none z hn)]; exact z)
    tbls := fun b ps z => un.tbls b ps (by rw [upd_ne (ne_of_none z hn)]; exact z) }
  exact I1.call' (ch := []) ho U hok hb (fun b z => absurd z (by simp))
/-- C(e, ..), the exception is kept -/
def tMkV (C : Addr) (sp : Sp) (ta : TA) : TE := fun σ H Q => ta σ H fun vs H1 => vs.length ≤ 1000 ∧ ∀ a, H1 a = none → sp (.ref a :: vs) (upd H1 a (exo a C none)) (fun v H2 => v = .non ∧ Q (.ref a) H2) (fun _ _ _ => False)
theorem pe_oexV (T : OexC X.K C) (iC : PySem.W.findIn X.K (.ref C) "__init__" = some (some (.ref fI))) (tI : PySem.W.typeIn X.K (.ref fI) = some (.type "function"))
    (F1 : FnOk X.prog X.w X.K X.mg X.base CX k fI fd ps sp) (hr : Room (k + 1) X.A) (hb : Binds X.K fd ps []) (hx : Passes CX X (fun _ _ _ => False)) (hg : Gl X x) (hm : X.mg x = some (.ref C)) (ha : PA X (e :: es) ta)
    (hdb : (x == ("__debug__" : Str)) = false := by decide) (he : starEach (e :: es) X.env = (false, eval e X.env) :: starEach es X.env := by rfl) (hpl : (backTo pos (starEach es X.env)).any (·.1) = false := by rfl) :
    PE X (.Call (.Name x p) (e :: es) [] pos) (tMkV C sp ta) := by
  refine ⟨fun pins s σ H Q I h => ?_⟩
  obtain ⟨nm, q, N, bs, bm, sn, sub, ab, col, dd, k0, k1, k2, k3, k5, hC, hbm⟩ := T.cls
  refine wpAny_Call_Name_kw (ld_glob I hg hm ?_ hdb)
  refine PySem.W.callWith_K (h₀ := X.base) I.ok.mod.kin T.kC (thn (ha.run pos pins s σ H _ I h) fun us s1 ⟨vs, H1, I1, r1, hz, q1⟩ => ⟨I1.kIn, ?_⟩) he hpl
  show wpAny _ _ (call (.ref C) us) _ _ _
  obtain ⟨hp, g, dr, tk, os⟩ := s1
  have hsz : hp.objs.size ≤ hp.objs.size + 1 := Nat.le_succ _
  have hn : H1 (hp.objs.size + 1) = none := I1.hok.fresh hsz
  have hq := q1 (hp.objs.size + 1) hn
  have kk : ∀ b o, hp.get? b = some o → ((hp.push (PySem.W.kdv_tup us)).push (PySem.HandSPX.excO C hp.objs.size)).get? b = some o := fun b o e => Heap.get?_push_of_some _ (Heap.get?_push_of_some _ e)
  have hget : ((hp.push (PySem.W.kdv_tup us)).push (PySem.HandSPX.excO C hp.objs.size)).get? (hp.objs.size + 1) = some (PySem.HandSPX.excO C hp.objs.size) := by heap_get
  have I2 : Inv X pins σ (upd H1 (hp.objs.size + 1) (exo (hp.objs.size + 1) C none)) ⟨(hp.push (PySem.W.kdv_tup us)).push (PySem.HandSPX.excO C hp.objs.size), g, dr, tk, os⟩ :=
    I1.laid (t' := tk) (a := hp.objs.size + 1) (o := exo (hp.objs.size + 1) C none) (h' := (hp.push (PySem.W.kdv_tup us)).push (PySem.HandSPX.excO C hp.objs.size)) kk hsz (exo_ok hget)
  have r2 : Vals (V.ref (hp.objs.size + 1) :: vs) (Value.ref (hp.objs.size + 1) :: us) := .cons rfl r1
  have hl : (Value.ref (hp.objs.size + 1) :: us ++ []).length = ps.length := by
    have e := r2.length
    rw [F1.len _ _ _ _ hq] at e
    rw [List.append_nil]
    exact e.symm
  have hb' := hb ⟨(hp.push (PySem.W.kdv_tup us)).push (PySem.HandSPX.excO C hp.objs.size), g, dr, tk, os⟩ (Value.ref (hp.objs.size + 1) :: us) I2.kIn hl
  rw [List.append_nil] at hb'
  have hus : us.length ≤ sizeLine := by
    rw [← Paired.length r1, sizeLine_eq]
    omega
  refine wpAny_call (PySem.HandSPX.call_own F.excBase_ValueError (fun Y => PySem.HandSPX.refsVE_contains Y bm hbm) (I1.kIn _ _ hC) (PySem.W.looks_findIn I1.kIn iC) (fun self => PySem.W.bind_fn I1.kIn self tI) hus
    (codeAny_mono (F1.run _ X.stack _ _ ⟨Value.ref (hp.objs.size + 1) :: us, []⟩ (Value.ref (hp.objs.size + 1) :: us) _ _ (fun _ _ _ => False) (hr.make C us []) (I2.env0.make C us []) hb' r2 hq) fun r s' hq' => ?_))
  cases r with
  | error er => exact hx pins σ _ _ er s' I2 hq'
  | ok fl =>
    cases fl with
    | ret u =>
      obtain ⟨v, H2, os2, bare2, un2, hok2, rv, ev, q2⟩ := hq'
      subst ev
      obtain ⟨h2, g2, d2, t2, os'⟩ := s'
      exact ⟨rv, .ref _, H2, mkv_end I1 hsz kk un2 hok2 os2 bare2, rfl, q2⟩
    | next => exact False.elim hq'
    | brk => exact False.elim hq'
    | cont => exact False.elim hq'
def tMkV0 (C : Addr) (sp : Sp) : TE := fun σ H1 Q => ∀ a, H1 a = none → sp [.ref a] (upd H1 a (exo a C none)) (fun v H2 => v = .non ∧ Q (.ref a) H2) (fun _ _ _ => False)
theorem pe_oexV0 (T : OexC X.K C) (iC : PySem.W.findIn X.K (.ref C) "__init__" = some (some (.ref fI))) (tI : PySem.W.typeIn X.K (.ref fI) = some (.type "function"))
    (F1 : FnOk X.prog X.w X.K X.mg X.base CX k fI fd ps sp) (hr : Room (k + 1) X.A) (hb : Binds X.K fd ps []) (hx : Passes CX X (fun _ _ _ => False)) (hg : Gl X x) (hm : X.mg x = some (.ref C))
    (hdb : (x == ("__debug__" : Str)) = false := by decide) : PE X (.Call (.Name x p) [] [] pos) (tMkV0 C sp) := by
  refine ⟨fun pins s σ H Q I q1 => ?_⟩
  obtain ⟨nm, q, N, bs, bm, sn, sub, ab, col, dd, k0, k1, k2, k3, k5, hC, hbm⟩ := T.cls
  refine wpAny_Call_Name_kw (ld_glob I hg hm ?_ hdb)
  refine PySem.W.callWith_K0 I.kIn T.kC ?_
  have I1 := I
  obtain ⟨hp, g, dr, tk, os⟩ := s
  have hsz : hp.objs.size ≤ hp.objs.size + 1 := Nat.le_succ _
  have hn : H (hp.objs.size + 1) = none := I1.hok.fresh hsz
  have hq := q1 (hp.objs.size + 1) hn
  have kk : ∀ b o, hp.get? b = some o → ((hp.push (PySem.W.kdv_tup [])).push (PySem.HandSPX.excO C hp.objs.size)).get? b = some o := fun b o e => Heap.get?_push_of_some _ (Heap.get?_push_of_some _ e)
  have hget : ((hp.push (PySem.W.kdv_tup [])).push (PySem.HandSPX.excO C hp.objs.size)).get? (hp.objs.size + 1) = some (PySem.HandSPX.excO C hp.objs.size) := by heap_get
  have I2 : Inv X pins σ (upd H (hp.objs.size + 1) (exo (hp.objs.size + 1) C none)) ⟨(hp.push (PySem.W.kdv_tup [])).push (PySem.HandSPX.excO C hp.objs.size), g, dr, tk, os⟩ :=
    I1.laid (t' := tk) (a := hp.objs.size + 1) (o := exo (hp.objs.size + 1) C none) (h' := (hp.push (PySem.W.kdv_tup [])).push (PySem.HandSPX.excO C hp.objs.size)) kk hsz (exo_ok hget)
  have r2 : Vals [V.ref (hp.objs.size + 1)] ([Value.ref (hp.objs.size + 1)] ++ []) := .cons rfl .nil
  have hl : ([Value.ref (hp.objs.size + 1)] ++ []).length = ps.length := by
    have e := r2.length
    rw [F1.len _ _ _ _ hq] at e
    exact e.symm
  refine wpAny_call (PySem.HandSPX.call_own F.excBase_ValueError (fun Y => PySem.HandSPX.refsVE_contains Y bm hbm) (I1.kIn _ _ hC) (PySem.W.looks_findIn I1.kIn iC) (fun self => PySem.W.bind_fn I1.kIn self tI) (by show 0 ≤ sizeLine; decide)
    (codeAny_mono (F1.run _ X.stack _ _ ⟨[Value.ref (hp.objs.size + 1)], []⟩ ([Value.ref (hp.objs.size + 1)] ++ []) _ _ (fun _ _ _ => False) (hr.make C [] []) (I2.env0.make C [] []) (hb _ [Value.ref (hp.objs.size + 1)] I2.kIn hl) r2 hq) fun r s' hq' => ?_))
  cases r with
  | error er => exact hx pins σ _ _ er s' I2 hq'
  | ok fl =>
    cases fl with
    | ret u =>
      obtain ⟨v, H2, os2, bare2, un2, hok2, rv, ev, q2⟩ := hq'
      subst ev
      obtain ⟨h2, g2, d2, t2, os'⟩ := s'
      exact ⟨rv, .ref _, H2, mkv_end I1 hsz kk un2 hok2 os2 bare2, rfl, q2⟩
    | next => exact False.elim hq'
    | brk => exact False.elim hq'
    | cont => exact False.elim hq'
end

/-! ### messages with any field -/
/-- what a message may show -/
def FmtA (K : PySem.W.Frag) (H : Hp) (v : V) : Prop := (∃ s : Str, v = .str s ∧ s.length ≤ 100) ∨ (∃ i : Int, v = .int i ∧ i.natAbs < 1000000) ∨ v = .non ∨ ∃ (a : Addr) (i j : Int), v = .ref a ∧ SqT K H a [.int i, .int j] ∧ i.natAbs < 1000000 ∧ j.natAbs < 1000000
theorem log_small {i : Int} (h : i.natAbs < 1000000) : i.natAbs.log2 < 20 := by
  by_cases z : i.natAbs = 0
  · rw [z]; decide
  · exact (Nat.log2_lt z).mpr (by omega)
theorem int_short {i : Int} (h : i.natAbs < 1000000) : (PySem.Str.ofString (toString i)).length ≤ 1921 := int_text_len_1921 (by have := log_small h; omega)
def fmtA : D → Bool
  | .int i => decide (i.natAbs < 1000000)
  | .str s => decide (s.length ≤ 100)
  | .non => true
  | .tup [.int i, .int j] => decide (i.natAbs < 1000000) && decide (j.natAbs < 1000000)
  | _ => false
def okA (is : List Nat) (ds : List D) : Bool := is.all fun i => match ds[i]? with
  | some d => fmtA d
  | none => false
def OkVA (K : PySem.W.Frag) (H : Hp) (is : List Nat) (xs : List V) : Prop := ∀ i ∈ is, ∃ y, xs[i]? = some y ∧ FmtA K H y
theorem fmtA_V {M : MM} {Fz : Fzn} {H : Hp} {d : D} {y : V} (r : Rep M Fz H d y) (h : fmtA d = true) : FmtA M.K H y := by
  unfold fmtA at h
  split at h
  · exact .inr (.inl ⟨_, rep_int' r, of_decide_eq_true h⟩)
  · exact .inl ⟨_, rep_str' r, of_decide_eq_true h⟩
  · refine .inr (.inr (.inl ?_))
    unfold Rep at r
    exact r
  · rename_i i j
    rw [Bool.and_eq_true] at h
    obtain ⟨a, vs, rfl, ht, rr⟩ := sqT_rep r
    obtain ⟨v1, r1, rfl, q1, rr⟩ := RepL.cons_iff.mp rr
    obtain ⟨v2, r2, rfl, q2, rr⟩ := RepL.cons_iff.mp rr
    have e3 := RepL.nil_iff.mp rr
    subst e3
    rw [rep_int' q1, rep_int' q2] at ht
    exact .inr (.inr (.inr ⟨a, i, j, rfl, ht, of_decide_eq_true h.1, of_decide_eq_true h.2⟩))
  · cases h
theorem okA_V {M : MM} {Fz : Fzn} {H : Hp} {is : List Nat} {ds : List D} {xs : List V} (r : RepL M Fz H ds xs) (h : okA is ds = true) : OkVA M.K H is xs := fun i hi => by
  have h1 := List.all_eq_true.mp h i hi
  cases e : ds[i]? with
  | none => rw [e] at h1; cases h1
  | some d =>
    rw [e] at h1
    obtain ⟨y, hy, ry⟩ := r.get e
    exact ⟨y, hy, fmtA_V ry h1⟩
theorem FmtA.grow {K : PySem.W.Frag} {Fz Fz' : Fzn} {H H' : Hp} (e : Ext Fz H Fz' H') {v : V} (h : FmtA K H v) : FmtA K H' v := by
  rcases h with h | h | h | ⟨a, i, j, h1, h2, h3⟩
  · exact .inl h
  · exact .inr (.inl h)
  · exact .inr (.inr (.inl h))
  · exact .inr (.inr (.inr ⟨a, i, j, h1, e.sqT h2, h3⟩))
theorem OkVA.grow {K : PySem.W.Frag} {Fz Fz' : Fzn} {H H' : Hp} (e : Ext Fz H Fz' H') {is : List Nat} {xs : List V} (h : OkVA K H is xs) : OkVA K H' is xs := fun i hi => let ⟨y, h1, h2⟩ := h i hi; ⟨y, h1, h2.grow e⟩
def tFmtA (K : PySem.W.Frag) (te : TE) : TE := fun σ H Q => te σ H fun x H1 => FmtA K H1 x ∧ ∀ y : Str, y.length ≤ 2000 → Q (.str y) H1
theorem pe_fmtA {X : Cx} {e : Expr} {te : TE} {pos : Pos} {k : Nat} (hr : Room k X.A) (he : PE X e te) : PE X (.FormattedValue e (-1) none pos) (tFmtA X.K te) := by
  refine ⟨fun pins s σ H Q I h => ?_⟩
  refine wpAny_FormattedValue_plain (thn (he.run pins s σ H _ I h) fun v s1 hv => ?_)
  obtain ⟨x, H1, I1, r1, hf, q⟩ := hv
  rcases hf with ⟨y, rfl, hz⟩ | ⟨i, rfl, hz⟩ | rfl | ⟨a, i, j, rfl, ht, hi, hj⟩
  · obtain ⟨t, rfl⟩ := r1
    have q' := q y (by omega)
    exact wpAny_formatField_str ⟨.str y, H1, I1, ⟨t, rfl⟩, q'⟩ ⟨.str y, H1, I1.tok _, ⟨_, rfl⟩, q'⟩ (by rw [sizeLine_eq]; omega)
  · obtain ⟨t, rfl⟩ := r1
    have q' := q (toString i) (by have := int_short hz; exact Nat.le_trans this (by decide))
    exact wpAny_formatField_int (by have := log_small hz; omega) ⟨.str (toString i), H1, I1.tok _, ⟨_, rfl⟩, q'⟩
  · obtain rfl : v = Value.none := r1
    exact wpAny_formatField_none ⟨.str "None", H1, I1.tok _, ⟨_, rfl⟩, q _ (by decide +kernel)⟩
  · obtain rfl : v = Value.ref a := r1
    obtain ⟨its, rv, ⟨o, ho, hcl, n, hd⟩, _⟩ := I1.tuple ht
    have htx := fmt_text [(PySem.Str.ofString (toString i)), (PySem.Str.ofString (toString j))]
    have hu := hr.units
    have l1 := log_small hi
    have l2 := log_small hj
    have n1 : (PySem.Str.ofString (toString i)).length ≤ 900 := by
      have z := int_text_length_le10 (a := i) (k := 6) (by decide) (by omega)
      rw [PySem.ofString_length]; omega
    have n2 : (PySem.Str.ofString (toString j)).length ≤ 900 := by
      have z := int_text_length_le10 (a := j) (k := 6) (by decide) (by omega)
      rw [PySem.ofString_length]; omega
    have hp : piled [(PySem.Str.ofString (toString i)), (PySem.Str.ofString (toString j))] ≤ 1820 := by
      rw [piled_cons, piled_cons]
      have : piled ([] : List Str) = 0 := rfl
      omega
    have hall : ReprAll X.prog X.w its [(PySem.Str.ofString (toString i)), (PySem.Str.ofString (toString j))] := by
      cases rv with
      | cons r1 rr =>
        cases rr with
        | cons r2 rr =>
          cases rr
          obtain ⟨t1, rfl⟩ := r1
          obtain ⟨t2, rfl⟩ := r2
          exact .cons (ReprIs.int t1 (by omega)) (.cons (ReprIs.int t2 (by omega)) .nil)
    exact fmt_tuple (ts := [(PySem.Str.ofString (toString i)), (PySem.Str.ofString (toString j))]) (by omega) ho hcl hd hall (by rw [sizeLine_eq]; omega) fun m u tk hm => ⟨.str m, H1, I1.tok _, ⟨u, rfl⟩, q m (by omega)⟩
def PartOkA (σ : L2.St) (H : Hp) (t : TE) : Prop := ∀ Q : VK, (∀ y : Str, y.length ≤ 2000 → Q (.str y) H) → t σ H Q
theorem tJs_okA {σ : L2.St} {H : Hp} {Q : Str → Hp → Prop} (hq : ∀ out, Q out H) : ∀ (ts : List TE) (acc : Str), (∀ t ∈ ts, PartOkA σ H t) → acc.length + 2000 * ts.length ≤ sizeLine → tJs ts acc σ H Q
  | [], acc, _, _ => hq acc
  | t :: ts, acc, h, hl => by
    rw [List.length_cons] at hl
    refine h t List.mem_cons_self _ fun y hy => ?_
    have hlen : (acc ++ y).length = acc.length + y.length := Str.length_append ..
    exact ⟨y, rfl, by rw [hlen]; omega, tJs_okA hq ts (acc ++ y) (fun x hx => h x (List.mem_cons_of_mem _ hx)) (by rw [hlen]; omega)⟩
def FP.teA (K : PySem.W.Frag) : FP → TE
  | .s m => tC (.str m)
  | .f i => tFmtA K (tVar (i + 1))
/-- what __init__ of an own exception promises: fs its fields, the parameters; is the ones that its message shows -/
def spMkA (K : PySem.W.Frag) (C : Addr) (fs : List Str) (is : List Nat) : Sp := fun vs H Q _ => ∃ a ys, vs = .ref a :: ys ∧ ys.length = fs.length ∧ H a = some (exo a C none) ∧ OkVA K H is ys ∧
  (fs = [] → Q .non H) ∧ (fs ≠ [] → ∀ dx, H dx = none → dx ≠ a → Q .non (upd (upd H dx (exd dx (fs.zip ys).reverse)) a (exo a C (some dx))))
def SkipXA (K : PySem.W.Frag) (C : Addr) (is : List Nat) (t : TS) : Prop := ∀ D σ H a ys, σ[0]? = some (some (.ref a)) → (∀ (i : Nat) (y : V), ys[i]? = some y → σ[i + 1]? = some (some y)) → OkVA K H is ys → OexC K C → H a = some (exo a C none) → D.nx σ H → t D σ H
theorem skipA {K : PySem.W.Frag} {C : Addr} {is : List Nat} {t : TS} (h : SkipX K C t) : SkipXA K C is t := fun D σ H a _ h0 _ _ T e q => h D σ H a h0 T e q
theorem skip_fsA {K : PySem.W.Frag} {C : Addr} {is : List Nat} (fps : List FP) (hok : fps.all (FP.ok is) = true) (hl : fps.length ≤ 20) : SkipXA K C is (tDrop (tVeI K (tCons (tVar 0) (tCons (fun σ H Q => tJs (fps.map (FP.teA K)) Str.empty σ H fun out H1 => Q (.str out) H1) tNil)))) := fun D σ H a ys h0 hy hv T e h => by
  refine ⟨.ref a, h0, ?_⟩
  refine tJs_okA (fun out => ?_) _ _ (fun t ht => ?_) (by rw [List.length_map, sizeLine_eq]; show 0 + _ ≤ _; omega)
  · exact ⟨a, C, [.str out], rfl, by show 1 ≤ 1000; decide, T, e, h⟩
  · obtain ⟨p, hp, rfl⟩ := List.mem_map.mp ht
    have hpo := List.all_eq_true.mp hok p hp
    cases p with
    | s m => exact fun Q q => q m (of_decide_eq_true hpo)
    | f i =>
      have hm : i ∈ is := by simpa [FP.ok] using hpo
      obtain ⟨y, h1, h2⟩ := hv i hm
      exact fun Q q => ⟨y, hy i y h1, h2, q⟩
section
variable {P : Program} {w : World} {K : PySem.W.Frag} {mg : Str → Option Value} {base : Heap} {C : Addr} {x qual : Str} {st : Stmt} {f : Addr} {fd : FuncData} {t0 : TS} {f1 f2 n1 n2 ns : Str} {is : List Nat}
theorem ok_initA0 (T : OexC K C) (F : FunD K x qual (defArgs st) (defBody st) (defScope st) [] [] f fd) (S : FnScope [ns] [ns] (defScope st)) (s0 : SkipXA K C is t0)
    (hb : ∀ (cdv : Value) (A : Around) (outer : List Env) (s : Shared) (H : Hp) (E : XK), Room 0 (A.deeper (envOfC qual (defScope st) s.heap.objs.size f cdv)) → PSs (cxOf (L2.CX P w) P w K mg base [ns] qual (defScope st) f cdv A outer s H E) (defBody st) t0) : FnOk P w K mg base (L2.CX P w) 1 f fd [ns] (spMkA K C [] is) := by
  refine F.ok (CX := L2.CX P w) S (fun vs H Q E h => ?_) (fun cdv A outer s H vs Q E hr h => ?_)
  · obtain ⟨a, ys, rfl, hl, _⟩ := h
    simp [hl]
  · obtain ⟨a, ys, rfl, hl, ea, hv, h1, _⟩ := h
    have hy : ys = [] := List.eq_nil_of_length_eq_zero hl
    subst hy
    exact ⟨_, hb cdv A outer s H E hr, s0 _ _ _ a [] rfl (fun i z hz => nomatch hz) hv T ea (h1 rfl)⟩
theorem ok_initA1 (T : OexC K C) (g1 : PySem.W.findIn K (.ref C) f1 = some none) (F : FunD K x qual (defArgs st) (defBody st) (defScope st) [] [] f fd) (S : FnScope [ns, n1] [ns, n1] (defScope st)) (s0 : SkipXA K C is t0)
    (hb : ∀ (cdv : Value) (A : Around) (outer : List Env) (s : Shared) (H : Hp) (E : XK), Room 0 (A.deeper (envOfC qual (defScope st) s.heap.objs.size f cdv)) → PSs (cxOf (L2.CX P w) P w K mg base [ns, n1] qual (defScope st) f cdv A outer s H E) (defBody st) (tSeq t0 (tOst K f1 (tVar 0) (tVar 1)))) : FnOk P w K mg base (L2.CX P w) 1 f fd [ns, n1] (spMkA K C [f1] is) := by
  refine F.ok (CX := L2.CX P w) S (fun vs H Q E h => ?_) (fun cdv A outer s H vs Q E hr h => ?_)
  · obtain ⟨a, ys, rfl, hl, _⟩ := h
    simp [hl]
  · obtain ⟨a, ys, rfl, hl, ea, hv, _, h2⟩ := h
    match ys, hl with
    | [y], _ =>
      refine ⟨_, hb cdv A outer s H E hr, s0 _ _ _ a [y] rfl (fun i z hz => ?_) hv T ea ?_⟩
      · match i, hz with
        | 0, hz => injection hz with hz; subst hz; rfl
      exact ⟨y, rfl, .ref a, rfl, a, C, rfl, T, g1, .inl ⟨ea, fun dx n ne => h2 (by simp) dx n ne⟩⟩
theorem ok_initA2 (T : OexC K C) (g1 : PySem.W.findIn K (.ref C) f1 = some none) (g2 : PySem.W.findIn K (.ref C) f2 = some none) (F : FunD K x qual (defArgs st) (defBody st) (defScope st) [] [] f fd) (S : FnScope [ns, n1, n2] [ns, n1, n2] (defScope st)) (s0 : SkipXA K C is t0)
    (hb : ∀ (cdv : Value) (A : Around) (outer : List Env) (s : Shared) (H : Hp) (E : XK), Room 0 (A.deeper (envOfC qual (defScope st) s.heap.objs.size f cdv)) → PSs (cxOf (L2.CX P w) P w K mg base [ns, n1, n2] qual (defScope st) f cdv A outer s H E) (defBody st) (tSeq t0 (tSeq (tOst K f1 (tVar 0) (tVar 1)) (tOst K f2 (tVar 0) (tVar 2))))) : FnOk P w K mg base (L2.CX P w) 1 f fd [ns, n1, n2] (spMkA K C [f1, f2] is) := by
  refine F.ok (CX := L2.CX P w) S (fun vs H Q E h => ?_) (fun cdv A outer s H vs Q E hr h => ?_)
  · obtain ⟨a, ys, rfl, hl, _⟩ := h
    simp [hl]
  · obtain ⟨a, ys, rfl, hl, ea, hv, _, h2⟩ := h
    match ys, hl with
    | [y, z], _ =>
      refine ⟨_, hb cdv A outer s H E hr, s0 _ _ _ a [y, z] rfl (fun i v hz => ?_) hv T ea ?_⟩
      · match i, hz with
        | 0, hz => injection hz with hz; subst hz; rfl
        | 1, hz => injection hz with hz; subst hz; rfl
      refine ⟨y, rfl, .ref a, rfl, a, C, rfl, T, g1, .inl ⟨ea, fun dx n ne => ?_⟩⟩
      refine ⟨z, rfl, .ref a, rfl, a, C, rfl, T, g2, .inr ⟨dx, [(f1, y)], upd_same, by rw [upd_ne ne]; exact upd_same, by show 1 ≤ 900; decide, ?_⟩⟩
      have e : upd (upd (upd H dx (exd dx [(f1, y)])) a (exo a C (some dx))) dx (exd dx [(f2, z), (f1, y)]) = upd (upd H dx (exd dx [(f2, z), (f1, y)])) a (exo a C (some dx)) := by
        funext c
        by_cases hc : c = dx
        · subst hc
          rw [upd_same, upd_ne ne, upd_same]
        · rw [upd_ne hc]
          by_cases ha : c = a
          · subst ha; rw [upd_same, upd_same]
          · rw [upd_ne ha, upd_ne ha, upd_ne hc, upd_ne hc]
      show Q .non _
      rw [e]
      exact h2 (by simp) dx n ne
end

/-! ### what the top has written of a class -/
structure XkR (K : PySem.W.Frag) (mg : Str → Option Value) (CE : Addr) (nm qual : Str) (st : Stmt) (fs : List Str) (C fI : Addr) (fd : FuncData) : Prop where
  m : mg nm = some (.ref C)
  lk : ∃ q N bs sn sub ab col dd k0 k1 k2 k3 k5, K.lookup C = some (excClassObj nm q C N bs (.ref CE :: veL) true sn sub ab col dd k0 k1 k2 k3 k5 "ValueError.__new__")
  sa : PySem.W.findIn K (.ref C) "__setattr__" = some (some (.builtin "object.__setattr__"))
  tC : PySem.W.typeIn K (.ref C) = some (.type "type")
  kC : PySem.W.keepIn K (.ref C) = true
  iC : PySem.W.findIn K (.ref C) "__init__" = some (some (.ref fI))
  tI : PySem.W.typeIn K (.ref fI) = some (.type "function")
  F : FunD K "__init__" qual (defArgs st) (defBody st) (defScope st) [] [] fI fd
  nf : ∀ f ∈ fs, PySem.W.findIn K (.ref C) f = some none
  ga : PySem.W.findIn K (.ref C) "__getattribute__" = some (some (.builtin "BaseException.__getattribute__"))
  gg : PySem.W.findIn K (.ref C) "__getattr__" = some none
  ha : PySem.W.findIn K (.ref C) "__class__" = some (some (.builtin "object.__class__"))
  hn : PySem.W.specialIn K (.builtin "object.__class__") "__get__" = some (some (.builtin "getset_descriptor.__get__"))
  ht : PySem.W.takesIn K (.builtin "object.__class__") = some true
/-- the base -/
structure CeR (K : PySem.W.Frag) (mg : Str → Option Value) (nm : Str) (CE : Addr) : Prop where
  m : mg nm = some (.ref CE)
  lk : ∃ q N bs sn sub ab col dd k0 k1 k2 k3 k5, K.lookup CE = some (excClassObj nm q CE N bs veL true sn sub ab col dd k0 k1 k2 k3 k5 "ValueError.__new__")
  tC : PySem.W.typeIn K (.ref CE) = some (.type "type")
section
variable {K : PySem.W.Frag} {mg : Str → Option Value} {CE : Addr} {nm qual : Str} {st : Stmt} {fs : List Str} {C fI : Addr} {fd : FuncData}
theorem XkR.cl (R0 : XkR K mg CE nm qual st fs C fI fd) : ∃ cd, PySem.W.clsIn K C = some cd ∧ cd.mro = .ref C :: .ref CE :: veL ∧ cd.hasDict = true ∧ cd.name = nm := by
  obtain ⟨q, N, bs, sn, sub, ab, col, dd, k0, k1, k2, k3, k5, h⟩ := R0.lk
  exact ⟨_, by unfold PySem.W.clsIn; rw [h], rfl, rfl, rfl⟩
theorem CeR.cl (R0 : CeR K mg nm CE) : ∃ cd, PySem.W.clsIn K CE = some cd ∧ cd.mro = .ref CE :: veL ∧ cd.hasDict = true ∧ cd.name = nm := by
  obtain ⟨q, N, bs, sn, sub, ab, col, dd, k0, k1, k2, k3, k5, h⟩ := R0.lk
  exact ⟨_, by unfold PySem.W.clsIn; rw [h], rfl, rfl, rfl⟩
theorem XkR.mro (R0 : XkR K mg CE nm qual st fs C fI fd) (b : Value) : PySem.W.mroIn K C b = some ((.ref C :: .ref CE :: veL : List Value).contains b) := by
  obtain ⟨cd, h1, h2, _⟩ := R0.cl
  unfold PySem.W.mroIn
  rw [h1, Option.bind_some, h2]
  rfl
theorem CeR.mro (R0 : CeR K mg nm CE) (b : Value) : PySem.W.mroIn K CE b = some ((.ref CE :: veL : List Value).contains b) := by
  obtain ⟨cd, h1, h2, _⟩ := R0.cl
  unfold PySem.W.mroIn
  rw [h1, Option.bind_some, h2]
  rfl
theorem XkR.sub (R0 : XkR K mg CE nm qual st fs C fI fd) (b : Value) : PySem.W.subIn K (.ref C) b = some ((.ref C :: .ref CE :: veL : List Value).contains b) := R0.mro b
theorem XkR.hd (R0 : XkR K mg CE nm qual st fs C fI fd) : PySem.W.hasDictIn K C = true := by
  obtain ⟨cd, h1, _, h2, _⟩ := R0.cl
  unfold PySem.W.hasDictIn
  rw [h1]
  exact h2
theorem CeR.hd (R0 : CeR K mg nm CE) : PySem.W.hasDictIn K CE = true := by
  obtain ⟨cd, h1, _, h2, _⟩ := R0.cl
  unfold PySem.W.hasDictIn
  rw [h1]
  exact h2
theorem con_tail {l : List Value} {v : Value} (h : l.contains v = true) (u : Value) : (u :: l).contains v = true := by
  rw [List.contains_cons, h, Bool.or_true]
theorem veL_has {T : String} (h : veL.contains (.type T) = true) (CE C : Addr) : (.ref C :: .ref CE :: veL : List Value).contains (.type T) = true := con_tail (con_tail h _) _
theorem XkR.exC (R0 : XkR K mg CE nm qual st fs C fI fd) : PySem.W.subIn K (.ref C) (.type "BaseException") = some true := by
  rw [R0.sub, veL_has (by decide +kernel)]
theorem XkR.oex (R0 : XkR K mg CE nm qual st fs C fI fd) : OexC K C := by
  obtain ⟨q, N, bs, sn, sub, ab, col, dd, k0, k1, k2, k3, k5, h⟩ := R0.lk
  exact { cls := ⟨_, _, _, _, _, _, _, _, _, _, _, _, _, _, _, h, (by show PySem.HandSPX.refsVE [.type "ValueError", .type "Exception", .type "BaseException", .type "object"] = true; decide +kernel)⟩, sa := R0.sa, exC := R0.exC, tyC := R0.tC, kC := R0.kC }
theorem XkR.xf (R0 : XkR K mg CE nm qual st fs C fI fd) : XfC K C := ⟨R0.ga, R0.gg, R0.exC, R0.hd⟩
theorem XkR.xc (R0 : XkR K mg CE nm qual st fs C fI fd) : ExcC K C := ⟨R0.ga, R0.gg, R0.exC, R0.hd, R0.ha, R0.hn, R0.ht, by rw [R0.mro, veL_has (by decide +kernel)]⟩
/-- some class of the package -/
def XkN (K : PySem.W.Frag) (mg : Str → Option Value) (CE : Addr) (nm : Str) : Prop := ∃ qual st fs C fI fd, XkR K mg CE nm qual st fs C fI fd
theorem xkN_of (h : ∃ C fI fd, XkR K mg CE nm qual st fs C fI fd) : XkN K mg CE nm := let ⟨C, fI, fd, h⟩ := h; ⟨qual, st, fs, C, fI, fd, h⟩
theorem xv_row {n : Str} (h : ∃ C fI fd, XkR K mg CE nm qual st fs C fI fd) (hn : n ∈ fs) : ∀ C, mg nm = some (.ref C) → XfC K C ∧ PySem.W.findIn K (.ref C) n = some none := fun C hC => by
  obtain ⟨C2, fI, fd, R2⟩ := h
  obtain rfl : C2 = C := by
    have z := R2.m.symm.trans hC
    injection z with z; injection z
  exact ⟨R2.xf, R2.nf n hn⟩
/-- the facts as the end shows them -/
theorem xk_mk {h : Heap} {q : Str} {N : Addr} {bs sub : List Value} {sn : List Str} {ab : Bool} {col : Option Bool} {dd : Option Addr} {k0 k1 k2 k3 k5 : Option Value} {oc kV dc pm cd ct : Value} {od an : Option Addr} {sl : Array (Option Value)}
    (X : K.In h) (G : h.Ns mainGlobals mg) (a : PySem.W.nsIn K mainGlobals nm = some (some (.ref C))) (lk : K.lookup C = some (excClassObj nm q C N bs [.ref CE, .type "ValueError", .type "Exception", .type "BaseException", .type "object"] true sn sub ab col dd k0 k1 k2 k3 k5 "ValueError.__new__"))
    (sa : PySem.W.findIn K (.ref C) "__setattr__" = some (some (.builtin "object.__setattr__"))) (tC : PySem.W.typeIn K (.ref C) = some (.type "type")) (kC : PySem.W.keepIn K (.ref C) = true)
    (iC : PySem.W.findIn K (.ref C) "__init__" = some (some (.ref fI))) (tI : PySem.W.typeIn K (.ref fI) = some (.type "function"))
    (li : K.lookup fI = some ⟨oc, od, .func (PySem.W.fnOf "__init__" qual (defArgs st) (defBody st) (defScope st) .none kV dc pm an cd ct), sl⟩) (ci : PySem.W.codeIn K cd qual = true) (ki : PySem.W.keepIn K (.ref fI) = true)
    (nf : ∀ f ∈ fs, PySem.W.findIn K (.ref C) f = some none) (ga : PySem.W.findIn K (.ref C) "__getattribute__" = some (some (.builtin "BaseException.__getattribute__"))) (gg : PySem.W.findIn K (.ref C) "__getattr__" = some none)
    (ha : PySem.W.findIn K (.ref C) "__class__" = some (some (.builtin "object.__class__"))) (hn : PySem.W.specialIn K (.builtin "object.__class__") "__get__" = some (some (.builtin "getset_descriptor.__get__"))) (ht : PySem.W.takesIn K (.builtin "object.__class__") = some true) :
    ∃ C fI fd, XkR K mg CE nm qual st fs C fI fd :=
  ⟨C, fI, PySem.W.fnOf "__init__" qual (defArgs st) (defBody st) (defScope st) .none kV dc pm an cd ct, PySem.W.mg_of X G a, ⟨_, _, _, _, _, _, _, _, _, _, _, _, _, lk⟩, sa, tC, kC, iC, tI, ⟨⟨_, _, _, _, _, _, _, _, _, _, rfl, li, ci, .inl ⟨rfl, rfl⟩, .inl rfl⟩, ki⟩, nf, ga, gg, ha, hn, ht⟩
theorem ce_mk {h : Heap} {q : Str} {N : Addr} {bs sub : List Value} {sn : List Str} {ab : Bool} {col : Option Bool} {dd : Option Addr} {k0 k1 k2 k3 k5 : Option Value}
    (X : K.In h) (G : h.Ns mainGlobals mg) (a : PySem.W.nsIn K mainGlobals nm = some (some (.ref CE))) (lk : K.lookup CE = some (excClassObj nm q CE N bs [.type "ValueError", .type "Exception", .type "BaseException", .type "object"] true sn sub ab col dd k0 k1 k2 k3 k5 "ValueError.__new__"))
    (tC : PySem.W.typeIn K (.ref CE) = some (.type "type")) : CeR K mg nm CE := ⟨PySem.W.mg_of X G a, ⟨_, _, _, _, _, _, _, _, _, _, _, _, _, lk⟩, tC⟩
theorem kit_same {nm' qual' : Str} {st' : Stmt} {fs' : List Str} {C' fI' : Addr} {fd' : FuncData} (R0 : XkR K mg CE nm qual st fs C fI fd) (R1 : XkR K mg CE nm' qual' st' fs' C' fI' fd') (B0 : CeR K mg "CodeError" CE) (hne : nm' ≠ "CodeError") :
    PySem.W.kitOne K (.ref C) (.ref C') = some (decide (nm = nm')) := by
  have self : PySem.W.subIn K (.ref C') (.ref C') = some true := by
    rw [R1.sub, List.contains_cons, beq_self_eq_true, Bool.true_or]
  refine kit_refT R1.hd R1.tC self ?_
  by_cases hn : nm = nm'
  · subst hn
    have e : C = C' := by
      have z := R0.m.symm.trans R1.m
      injection z with z; injection z
    subst e
    rw [self, decide_eq_true rfl]
  · have n1 : C' ≠ C := fun z => by
      subst z
      obtain ⟨cd, h1, _, _, h2⟩ := R0.cl
      obtain ⟨cd', h1', _, _, h2'⟩ := R1.cl
      rw [h1] at h1'
      injection h1' with h1'
      subst h1'
      exact hn (h2.symm.trans h2')
    have n2 : C' ≠ CE := fun z => by
      subst z
      obtain ⟨cd, h1, _, _, h2⟩ := B0.cl
      obtain ⟨cd', h1', _, _, h2'⟩ := R1.cl
      rw [h1] at h1'
      injection h1' with h1'
      subst h1'
      exact hne (h2'.symm.trans h2)
    have b1 : (Value.ref C' == Value.ref C) = false := beq_eq_false_iff_ne.mpr fun z => n1 (Value.ref.inj z)
    have b2 : (Value.ref C' == Value.ref CE) = false := beq_eq_false_iff_ne.mpr fun z => n2 (Value.ref.inj z)
    have b3 : veL.contains (.ref C') = false := by rfl
    rw [R0.sub, List.contains_cons, List.contains_cons, b1, b2, b3, decide_eq_false hn]
    rfl
theorem kit_base (R0 : XkR K mg CE nm qual st fs C fI fd) (B0 : CeR K mg "CodeError" CE) : PySem.W.kitOne K (.ref C) (.ref CE) = some true := by
  refine kit_refT B0.hd B0.tC ?_ ?_
  · show PySem.W.mroIn K CE _ = _
    rw [B0.mro, List.contains_cons, beq_self_eq_true, Bool.true_or]
  · rw [R0.sub, List.contains_cons, List.contains_cons, beq_self_eq_true, Bool.true_or, Bool.or_true]
theorem kit_VE (R0 : XkR K mg CE nm qual st fs C fI fd) : PySem.W.kitOne K (.ref C) (.type "ValueError") = some true := by
  refine kit_tyT (by decide +kernel) ?_
  rw [R0.sub, veL_has (by decide +kernel)]
end

/-! ### the rules -/
theorem mkx_upd {H : Hp} {a dx : Addr} {o1 o2 E : HO} (ne : dx ≠ a) : upd (upd (upd H a o1) dx E) a o2 = upd (upd H dx E) a o2 := by
  funext c
  by_cases h1 : c = a
  · subst h1; rw [upd_same, upd_same]
  · rw [upd_ne h1, upd_ne h1]
    by_cases h2 : c = dx
    · subst h2; rw [upd_same, upd_same]
    · rw [upd_ne h2, upd_ne h2, upd_ne h1]
theorem mkx_rep {M : MM} {Fz : Fzn} {H : Hp} {cn : Str} {fs : List Str} {ds : List D} {xs : List V} {a dx C : Addr} (hm : M.mg cn = some (.ref C)) (ha : H a = none) (hdx : H dx = none) (ne : dx ≠ a) (hl : fs.length = xs.length) (rr : RepL M Fz H ds xs) :
    GrowTo Fz H (fzAdd (fzAdd Fz dx) a) (upd (upd H dx (exd dx (fs.zip xs).reverse)) a (exo a C (some dx))) ∧ Rep M (fzAdd (fzAdd Fz dx) a) (upd (upd H dx (exd dx (fs.zip xs).reverse)) a (exo a C (some dx))) (.obj cn fs.reverse ds.reverse) (.ref a) := by
  have g1 : GrowTo Fz H (fzAdd Fz dx) (upd H dx (exd dx (fs.zip xs).reverse)) := .allocF hdx
  have g2 : GrowTo (fzAdd Fz dx) (upd H dx (exd dx (fs.zip xs).reverse)) (fzAdd (fzAdd Fz dx) a) (upd (upd H dx (exd dx (fs.zip xs).reverse)) a (exo a C (some dx))) := .allocF (by rw [upd_ne (Ne.symm ne)]; exact ha)
  have g := g1.trans g2
  refine ⟨g, ?_⟩
  unfold Rep
  refine ⟨a, C, xs.reverse, rfl, hm, ⟨.inr rfl, .inr ⟨dx, .inl (.inr rfl), upd_same, ?_⟩⟩, by simp [hl], (rr.grow g).reverse⟩
  rw [upd_ne ne, upd_same, zip_rev hl]
theorem mkx_rep0 {M : MM} {Fz : Fzn} {H : Hp} {cn : Str} {a C : Addr} (hm : M.mg cn = some (.ref C)) (ha : H a = none) :
    GrowTo Fz H (fzAdd Fz a) (upd H a (exo a C none)) ∧ Rep M (fzAdd Fz a) (upd H a (exo a C none)) (.obj cn [] []) (.ref a) := by
  refine ⟨.allocF ha, ?_⟩
  unfold Rep
  exact ⟨a, C, [], rfl, hm, ⟨.inr rfl, .inl ⟨rfl, upd_same⟩⟩, rfl, RepL.nil⟩
section
variable {X : Cx} {b : B} {W : WX} {Tb : List (Addr × Str)} {e e2 : Expr} {es : List Expr} {f : FE} {fa : FA} {x : Str} {p p2 pos : Pos} {CE : Addr} {ps : List Str} {fs : List Str} {is : List Nat} {qual cn : Str} {st : Stmt}
/-- C(e, ..): the exception as a value -/
def mkxF (cn : Str) (fs : List Str) (is : List Nat) (fa : FA) : FE := fun g => (fa g).bd fun ds g1 => if ds.length = fs.length ∧ okA is ds = true then .ok (.obj cn fs.reverse ds.reverse) g1 else .no
theorem pd_mkx (hM : b.M = ⟨X.K, X.mg, Tb⟩) (hX : ∃ C fI fd, XkR X.K X.mg CE x qual st fs C fI fd) (hF : ∀ C fI fd, XkR X.K X.mg CE x qual st fs C fI fd → FnOk X.prog X.w X.K X.mg X.base (L2.CX X.prog X.w) 1 fI fd ps (spMkA X.K C fs is) ∧ Binds X.K fd ps []) (hr : Room 2 X.A) (hg : Gl X x) (hne : fs ≠ []) (hfs : fs.length ≤ 100) (ha : PA X (e :: es) (tAr b W fa))
    (hdb : (x == ("__debug__" : Str)) = false := by decide) (he : starEach (e :: es) X.env = (false, eval e X.env) :: starEach es X.env := by rfl) (hpl : (backTo pos (starEach es X.env)).any (·.1) = false := by rfl) :
    PE X (.Call (.Name x p) (e :: es) [] pos) (tE b W (mkxF x fs is fa)) := by
  obtain ⟨C, fI, fd, R0⟩ := hX
  obtain ⟨F1, hb⟩ := hF C fI fd R0
  refine pe_mono (pe_oexV R0.oex R0.iC R0.tI F1 hr hb passF hg R0.m ha hdb he hpl) fun σ H Q ⟨Fz, g, r, h⟩ => tG_seq r h fun ds xs g1 Fz1 H1 r1 e1 rep1 h1 => ?_
  have rep' : RepL b.M Fz1 H1 ds xs := rep1
  by_cases hl : ds.length = fs.length ∧ okA is ds = true
  · rw [if_pos hl] at h1
    have hxs : xs.length = fs.length := by rw [← RepL.length rep']; exact hl.1
    have hov : OkVA X.K H1 is xs := by have z := okA_V rep' hl.2; rw [hM] at z; exact z
    refine ⟨by omega, fun a ha => ⟨a, xs, rfl, hxs, upd_same, hov.grow (GrowTo.alloc (Fz := Fz1) ha).ext, fun z => absurd z hne, fun _ dx hdx nda => ⟨rfl, ?_⟩⟩⟩
    rw [upd_ne nda] at hdx
    rw [mkx_upd nda]
    obtain ⟨gr, rv⟩ := mkx_rep (M := b.M) (cn := x) (C := C) (by rw [hM]; exact R0.m) ha hdx nda hxs.symm rep'
    exact h1.ok (r1.grow gr) gr.ext rv
  · rw [if_neg hl] at h1; exact h1.elim
def mkx0F (cn : Str) : FE := fun g => .ok (.obj cn [] []) g
theorem pd_mkx0 (hM : b.M = ⟨X.K, X.mg, Tb⟩) (hX : ∃ C fI fd, XkR X.K X.mg CE x qual st [] C fI fd) (hF : ∀ C fI fd, XkR X.K X.mg CE x qual st [] C fI fd → FnOk X.prog X.w X.K X.mg X.base (L2.CX X.prog X.w) 1 fI fd ps (spMkA X.K C [] []) ∧ Binds X.K fd ps []) (hr : Room 2 X.A) (hg : Gl X x)
    (hdb : (x == ("__debug__" : Str)) = false := by decide) : PE X (.Call (.Name x p) [] [] pos) (tE b W (mkx0F x)) := by
  obtain ⟨C, fI, fd, R0⟩ := hX
  obtain ⟨F1, hb⟩ := hF C fI fd R0
  refine pe_mono (pe_oexV0 R0.oex R0.iC R0.tI F1 hr hb passF hg R0.m hdb) fun σ H Q ⟨Fz, g, r, h⟩ => ?_
  refine fun a ha => ⟨a, [], rfl, rfl, upd_same, (fun _ h => nomatch h), fun _ => ⟨rfl, ?_⟩, fun z => absurd rfl z⟩
  obtain ⟨gr, rv⟩ := mkx_rep0 (M := b.M) (Fz := Fz) (cn := x) (C := C) (by rw [hM]; exact R0.m) ha
  exact Po.ok h (r.grow gr) gr.ext rv
/-! e.n -/
def tXv (K : PySem.W.Frag) (n : Str) (te : TE) : TE := fun σ H Q => te σ H fun x H1 => ∃ (a C dx : Addr) (fs : List (Str × V)) (v : V), x = .ref a ∧ XfC K C ∧ PySem.W.findIn K (.ref C) n = some none ∧ H1 a = some (exo a C (some dx)) ∧ H1 dx = some (exd dx fs) ∧ fs.lookup n = some v ∧ Q v H1
theorem pe_xv {te : TE} {n : Str} (he : PE X e te) (hb : attributeBase e n X.env (eval e X.env) = eval e X.env := by rfl) : PE X (.Attribute e n pos) (tXv X.K n te) := by
  refine ⟨fun pins s σ H Q I h => ?_⟩
  refine attr_of hb (thn (he.run pins s σ H _ I h) fun u s1 hh => ?_)
  obtain ⟨x, H1, I1, rx, a, C, dx, fs, v, ex, T, hno, ea, ed, l, q⟩ := hh
  subst ex
  obtain rfl : u = Value.ref a := rx
  obtain ⟨t1, ho⟩ := exo_at I1.hok ea
  obtain ⟨mA, hns, hr⟩ := exd_at I1.hok ed
  obtain ⟨od, hod, hl⟩ := lookIn_ns hns
  obtain ⟨u, hu, ru⟩ := RelO.some_of (v := v) (o := mA n) (by rw [← l]; exact hr n)
  have J : PySem.W.InstAt s1.heap a { cls := .ref C, dict := some dx, data := .fields #[.ref t1, .none, .none, .none, .bool false, .none] } C (some od) := ⟨ho, rfl, rfl, hod⟩
  exact HandSPX.exc_get I1.kIn J T.ga T.gg T.exC (PySem.W.findObj_own T.hdC hno rfl (by rw [hl, hu])) (handed_of ru) ⟨v, H1, I1.tok _, ru, q⟩
def fldX (cs : List Str) (n : Str) : D → Option D
  | .obj c ns ds => if c ∈ cs then lookD n ns ds else none
  | _ => none
theorem pd_xv {cs : List Str} {n : Str} (hM : b.M = ⟨X.K, X.mg, Tb⟩) (hcs : ∀ c ∈ cs, ∀ C, X.mg c = some (.ref C) → XfC X.K C ∧ PySem.W.findIn X.K (.ref C) n = some none) (h1 : PE X e (tE b W f)) (hb : attributeBase e n X.env (eval e X.env) = eval e X.env := by rfl) :
    PE X (.Attribute e n pos) (tE b W (op1F (fldX cs n) f)) := pe_mono (pe_xv h1 hb) fun σ H Q ⟨Fz, g, r, h⟩ => tG_seq r h fun d x g1 Fz1 H1 r1 e1 rep1 h1 => by
  obtain ⟨z, ez, h3⟩ := h1.opt
  unfold fldX at ez
  split at ez
  · rename_i c ns ds
    split at ez
    · rename_i hc
      have rep' : Rep b.M Fz1 H1 (.obj c ns ds) x := rep1
      unfold Rep at rep'
      obtain ⟨a, C, vs, rfl, hmg, ⟨hf, hx⟩, hl, rr⟩ := rep'
      rw [hM] at hmg
      obtain ⟨k1, k2⟩ := hcs c hc C hmg
      obtain ⟨v, ev, rv⟩ := lookD_ok ez rr
      rcases hx with ⟨h0, _⟩ | ⟨dx, _, ea, ed⟩
      · rw [h0] at ev; cases ev
      · exact ⟨a, C, dx, _, v, rfl, k1, k2, ea, ed, ev, h3.ok r1 .refl rv⟩
    · cases ez
  · cases ez
/-! isinstance(e, c) -/
def rIsV (K : PySem.W.Frag) : List V → Hp → VK → Prop := fun xs H Q => ∃ (a C : Addr) (d : Option Addr) (c : V) (cv : Value) (r : Bool), xs = [.ref a, c] ∧ H a = some (exo a C d) ∧ (∀ dd, d = some dd → ∃ fs, H dd = some (exd dd fs)) ∧ (∀ u, RelV c u → u = cv) ∧ ExcC K C ∧ PySem.W.kitOne K (.ref C) cv = some r ∧ Q (.bl r) H
theorem call_isV : CallR X (.builtin "isinstance") (rIsV X.K) := by
  intro pins s σ H xs us Q I r h
  obtain ⟨a, C, d, c, cv, b, rfl, ea, hd, hcv, T, e, q⟩ := h
  cases r with
  | cons rx rr =>
    cases rr with
    | cons rt rr =>
      cases rr
      cases rx
      have ec := hcv _ rt
      subst ec
      obtain ⟨t1, ho⟩ := exo_at I.hok ea
      have J : ∃ od, PySem.W.InstAt s.heap a { cls := .ref C, dict := d, data := .fields #[.ref t1, .none, .none, .none, .bool false, .none] } C od := by
        cases d with
        | none => exact ⟨none, ho, rfl, rfl, trivial⟩
        | some dd =>
          obtain ⟨fs, hx⟩ := hd dd rfl
          obtain ⟨mA, hns, hr⟩ := exd_at I.hok hx
          obtain ⟨od, hod, hl⟩ := lookIn_ns hns
          exact ⟨some od, ho, rfl, rfl, hod⟩
      obtain ⟨od, J⟩ := J
      exact PySem.W.kia_one (PySem.W.kitx_excD T.hg T.hk T.hs T.hd T.ha T.hn T.ht T.hm) I.kIn J e (fun z => nomatch z) fun tk => ⟨.bl b, H, I.kept (t' := tk) fun _ _ z => z, rfl, q⟩
def isvD (cs : List Str) (r : Str → Bool) : D → Option Bool
  | .obj c _ _ => if c ∈ cs then some (r c) else none
  | _ => none
theorem pd_isv {fa : Sg → R AV} {cs : List Str} {rr : Str → Bool} {c : V} {cv : Value} (hM : b.M = ⟨X.K, X.mg, Tb⟩) (htb : ∀ n ∈ cs, ∀ C, X.mg n = some (.ref C) → ExcC X.K C ∧ PySem.W.kitOne X.K (.ref C) cv = some (rr n)) (hcv : ∀ u, RelV c u → u = cv)
    (hg : Gl X "isinstance") (hm : X.mg "isinstance" = none) (h1 : PE X e (tA1 b W fa)) (h2 : PE X e2 (tC c))
    (hs1 : starEach (e2 :: []) X.env = (false, eval e2 X.env) :: starEach [] X.env := by rfl) (he : starEach (e :: [e2]) X.env = (false, eval e X.env) :: starEach [e2] X.env := by rfl) (hpl : (backTo pos (starEach [e2] X.env)).any (·.1) = false := by rfl) :
    PE X (.Call (.Name "isinstance" p) [e, e2] [] pos) (tE b W (isiF (isvD cs rr) fa)) :=
  pe_mono (pe_callB call_isV hg hm (by decide +kernel) (pa_cons h1 (pa_cons h2 pa_nil hs1) he) (by decide) (by decide) he hpl) fun σ H Q ⟨Fz, g, r, h⟩ => tG_seq r h fun a x' g1 Fz1 H1 r1 e1 rep1 h1 => by
    obtain ⟨z, ez, h3⟩ := h1.opt
    obtain ⟨d, ed, ez⟩ := Option.bind_eq_some_iff.mp ez
    obtain ⟨q, ec, ez⟩ := Option.bind_eq_some_iff.mp ez
    have ez := Option.some.inj ez
    subst ez
    have rx := res_ok r1 rep1 ed
    unfold isvD at ec
    split at ec
    · rename_i c0 ns ds
      split at ec
      · rename_i hc
        have ec := Option.some.inj ec
        subst ec
        have rx' : Rep b.M Fz1 H1 (.obj c0 ns ds) x' := rx
        unfold Rep at rx'
        obtain ⟨ad, C, vs, rfl, hmg, ⟨hf, hx⟩, hl, rr0⟩ := rx'
        rw [hM] at hmg
        obtain ⟨k1, k2⟩ := htb c0 hc C hmg
        rcases hx with ⟨h0, ea⟩ | ⟨dx, _, ea, edx⟩
        · exact ⟨ad, C, none, c, cv, _, rfl, ea, (fun _ z => nomatch z), hcv, k1, k2, h3.ok r1 .refl rep_bl⟩
        · exact ⟨ad, C, some dx, c, cv, _, rfl, ea, (fun dd z => by injection z with z; subst z; exact ⟨_, edx⟩), hcv, k1, k2, h3.ok r1 .refl rep_bl⟩
      · cases ec
    · cases ec
theorem pd_isK {fa : Sg → R AV} {cs : List Str} {k : Str} (hM : b.M = ⟨X.K, X.mg, Tb⟩) (hN : ∀ n ∈ cs, XkN X.K X.mg CE n) (B0 : CeR X.K X.mg "CodeError" CE) (hk : k ∈ cs) (hnc : ("CodeError" : Str) ∉ cs)
    (hg : Gl X "isinstance") (hm : X.mg "isinstance" = none) (h1 : PE X e (tA1 b W fa)) (hgk : Gl X k) (hdk : (k == ("__debug__" : Str)) = false := by decide)
    (hs1 : starEach ((.Name k p2) :: []) X.env = (false, eval (.Name k p2) X.env) :: starEach [] X.env := by rfl) (he : starEach (e :: [.Name k p2]) X.env = (false, eval e X.env) :: starEach [.Name k p2] X.env := by rfl) (hpl : (backTo pos (starEach [.Name k p2] X.env)).any (·.1) = false := by rfl) :
    PE X (.Call (.Name "isinstance" p) [e, .Name k p2] [] pos) (tE b W (isiF (isvD cs fun c => decide (c = k)) fa)) := by
  obtain ⟨qual1, st1, fs1, C1, fI1, fd1, R1⟩ := hN k hk
  refine pd_isv (c := .ref C1) (cv := .ref C1) hM (fun n hn C hC => ?_) (fun u h => h) hg hm h1 (pe_glob hgk R1.m rfl hdk) hs1 he hpl
  obtain ⟨qual2, st2, fs2, C2, fI2, fd2, R2⟩ := hN n hn
  obtain rfl : C2 = C := by
    have z := R2.m.symm.trans hC
    injection z with z; injection z
  exact ⟨R2.xc, kit_same R2 R1 B0 fun z => hnc (z ▸ hk)⟩
theorem pd_isB {fa : Sg → R AV} {cs : List Str} (hM : b.M = ⟨X.K, X.mg, Tb⟩) (hN : ∀ n ∈ cs, XkN X.K X.mg CE n) (B0 : CeR X.K X.mg "CodeError" CE)
    (hg : Gl X "isinstance") (hm : X.mg "isinstance" = none) (h1 : PE X e (tA1 b W fa)) (hgk : Gl X "CodeError")
    (hs1 : starEach ((.Name "CodeError" p2) :: []) X.env = (false, eval (.Name "CodeError" p2) X.env) :: starEach [] X.env := by rfl) (he : starEach (e :: [.Name "CodeError" p2]) X.env = (false, eval e X.env) :: starEach [.Name "CodeError" p2] X.env := by rfl) (hpl : (backTo pos (starEach [.Name "CodeError" p2] X.env)).any (·.1) = false := by rfl) :
    PE X (.Call (.Name "isinstance" p) [e, .Name "CodeError" p2] [] pos) (tE b W (isiF (isvD cs fun _ => true) fa)) := by
  refine pd_isv (c := .ref CE) (cv := .ref CE) hM (fun n hn C hC => ?_) (fun u h => h) hg hm h1 (pe_glob hgk B0.m rfl) hs1 he hpl
  obtain ⟨qual2, st2, fs2, C2, fI2, fd2, R2⟩ := hN n hn
  obtain rfl : C2 = C := by
    have z := R2.m.symm.trans hC
    injection z with z; injection z
  exact ⟨R2.xc, kit_base R2 B0⟩
theorem pd_isVE {fa : Sg → R AV} {cs : List Str} (hM : b.M = ⟨X.K, X.mg, Tb⟩) (hN : ∀ n ∈ cs, XkN X.K X.mg CE n)
    (hg : Gl X "isinstance") (hm : X.mg "isinstance" = none) (h1 : PE X e (tA1 b W fa)) (h2 : PE X e2 (tC (.ty "ValueError")))
    (hs1 : starEach (e2 :: []) X.env = (false, eval e2 X.env) :: starEach [] X.env := by rfl) (he : starEach (e :: [e2]) X.env = (false, eval e X.env) :: starEach [e2] X.env := by rfl) (hpl : (backTo pos (starEach [e2] X.env)).any (·.1) = false := by rfl) :
    PE X (.Call (.Name "isinstance" p) [e, e2] [] pos) (tE b W (isiF (isvD cs fun _ => true) fa)) := by
  refine pd_isv (c := .ty "ValueError") (cv := .type "ValueError") hM (fun n hn C hC => ?_) (fun u h => h) hg hm h1 h2 hs1 he hpl
  obtain ⟨qual2, st2, fs2, C2, fI2, fd2, R2⟩ := hN n hn
  obtain rfl : C2 = C := by
    have z := R2.m.symm.trans hC
    injection z with z; injection z
  exact ⟨R2.xc, kit_VE R2⟩
/-! str(i) -/
def strD : List D → Option D
  | [.int i] => if i.natAbs < 1000000 then some (.str (PySem.Str.ofString (toString i))) else none
  | _ => none
theorem callT_str {M : MM} : CallT M (fun xs H Q => ∃ i, xs = [.int i] ∧ i.natAbs.log2 < 1920 ∧ Q (.str (toString i)) H) strD := by
  intro Fz H ds z xs Q dom rx eo k
  unfold strD at eo
  split at eo
  · split at eo
    · rename_i i hz
      injection eo with eo; subst eo
      have rx0 := trep1 rx
      clear rx
      obtain ⟨x, rfl, rx⟩ := rx0
      rw [tint' rx]
      exact ⟨i, rfl, by have := log_small hz; omega, k _ Fz H GrowTo.refl (by unfold Rep; rfl)⟩
    · cases eo
  · cases eo
theorem c_str {fa : FV} (hM : b.M = ⟨X.K, X.mg, Tb⟩) (hg : Gl X "str") (hm : X.mg "str" = none) (ha : PA X (e :: es) (tAv b W fa)) (he : starEach (e :: es) X.env = (false, eval e X.env) :: starEach es X.env := by rfl) (hpl : (backTo pos (starEach es X.env)).any (·.1) = false := by rfl) :
    PE X (.Call (.Name "str" p) (e :: es) [] pos) (tE b W (bltF strD fa)) := pd_ty call_str_int (castC hM callT_str) hg hm (by decide +kernel) ha (by decide) (by decide) he hpl
end
end DL

set_option Elab.async false
set_option linter.all false
set_option maxRecDepth 100000
set_option maxHeartbeats 4000000
/-! DenHX: the end over a head by facts, for a program with many error classes. -/
namespace DL
open PySem L2 PySem.Spec PyProof.Rows
theorem objB_ok {K : PySem.W.Frag} {C : Addr} {nm : Str} {bm : List Value} (h : objB K C nm bm = true) : ∃ q N bs sn sub ab col dd k0 k1 k2 k3 k5, K.lookup C = some (excClassObj nm q C N bs bm true sn sub ab col dd k0 k1 k2 k3 k5 "ValueError.__new__") := by
  unfold objB at h
  split at h
  · rename_i t dd cd sl ho
    obtain ⟨h1, h⟩ := He.ba h
    obtain ⟨h2, h⟩ := He.ba h
    obtain ⟨h3, h⟩ := He.ba h
    obtain ⟨h4, h⟩ := He.ba h
    obtain ⟨h5, h⟩ := He.ba h
    have e1 := of_decide_eq_true h1
    have e2 := of_decide_eq_true h2
    have e3 := of_decide_eq_true h3
    clear h1 h2 h3
    split at h
    · rename_i k0 k1 k2 k3 n k5 hs
      have e6 := of_decide_eq_true h
      obtain ⟨nm', bs, mro, ns, qn, hd, sn, sub, ab, col, del⟩ := cd
      dsimp only at e2 e3 h4 h5
      have hsl : sl = #[k0, k1, k2, k3, some (.builtin n), k5] := by
        obtain ⟨l⟩ := sl
        simp only at hs
        rw [hs]
      cases del with
      | true => cases h5
      | false =>
        subst e1 e2 e3 h4 e6 hsl
        exact ⟨qn, ns, bs, sn, sub, ab, col, dd, k0, k1, k2, k3, k5, ho⟩
    · cases h
  · cases h
section
variable {K : PySem.W.Frag} {h : Heap} {mg : Str → Option Value} {nm : Str}
structure CeF (K : PySem.W.Frag) (mg : Str → Option Value) (nm : Str) (CE : Addr) : Prop where
  ce : CeR K mg nm CE
  rd : ClX.CRead K CE (.type "type")
  vi : PySem.W.findCls K (.ref CE) (.type "type") "__init__" = some (.val (.builtin "ValueError.__init__"))
  hn : PySem.W.specialIn K (.builtin "object.__class__") "__get__" = some (some (.builtin "getset_descriptor.__get__"))
  ht : PySem.W.takesIn K (.builtin "object.__class__") = some true
theorem ceB_ok (X : K.In h) (G : h.Ns mainGlobals mg) (c : ceB K nm = true) : CeF K mg nm (He.ga K nm) := by
  unfold ceB at c
  obtain ⟨c1, c⟩ := He.ba c
  obtain ⟨c2, c⟩ := He.ba c
  obtain ⟨c3, c⟩ := He.ba c
  obtain ⟨c4, c⟩ := He.ba c
  obtain ⟨c5, c⟩ := He.ba c
  obtain ⟨c6, c⟩ := He.ba c
  obtain ⟨c7, c8⟩ := He.ba c
  refine ⟨⟨PySem.W.mg_of X G (He.eqO_ok c1), objB_ok c2, of_decide_eq_true c3⟩, ⟨c4, He.eqO_ok c5⟩, ?_, He.eqO_ok c7, of_decide_eq_true c8⟩
  split at c6
  · rename_i n e
    rw [e, of_decide_eq_true c6]
  · cases c6
theorem xB_ok {CE : Addr} {n qual : Str} {st : Stmt} {fs : List Str} (X : K.In h) (G : h.Ns mainGlobals mg) (c : xB K CE (n, fs) = true) (E0 : CeF K mg nm CE) (F : ∃ fd, FunD K "__init__" qual (defArgs st) (defBody st) (defScope st) [] [] (He.ma K (He.ga K n) "__init__") fd) :
    ∃ C fI fd, XkR K mg CE n qual st fs C fI fd := by
  unfold xB at c
  obtain ⟨c1, c⟩ := He.ba c
  obtain ⟨c2, c⟩ := He.ba c
  obtain ⟨c3, c⟩ := He.ba c
  obtain ⟨c4, c⟩ := He.ba c
  obtain ⟨c5, c⟩ := He.ba c
  obtain ⟨c6, c⟩ := He.ba c
  obtain ⟨c7, c⟩ := He.ba c
  obtain ⟨c8, c⟩ := He.ba c
  obtain ⟨c9, c⟩ := He.ba c
  obtain ⟨ca, cb⟩ := He.ba c
  obtain ⟨fd, F⟩ := F
  exact ⟨He.ga K n, He.ma K (He.ga K n) "__init__", fd, PySem.W.mg_of X G (He.eqO_ok c1), objB_ok c2, He.eqO_ok c3, of_decide_eq_true c4, c5, He.eqO_ok c6, of_decide_eq_true c7, F, fun f hf => He.eqO_ok (List.all_eq_true.mp c8 f hf), He.eqO_ok c9, He.eqO_ok ca, He.eqO_ok cb, E0.hn, E0.ht⟩
theorem exB_row {rs : List (Str × List Str)} {r : Str × List Str} (c : exB nm rs K = true) (i : Nat) (hr : rs[i]? = some r := by rfl) : xB K (He.ga K nm) r = true :=
  List.all_eq_true.mp (He.ba c).2 r (List.mem_of_getElem? hr)
end
/-- a law's end over such a head -/
theorem walkGE {l : PySem.W.OpenLaw} {q : Program} {loose : List Str} {XP : (Str → Option Value) → Heap → Prop} {YP : World → Heap → Prop} {d : DefRec} {k : Nat} {x : Str} (hn : l.most = some 63) (hdf : d.params.defaults = []) (hr : Room k callerA)
    (F : ∀ (w : World) (mg : Str → Option Value) (fa : Addr) (h : Heap), YP w h → h.Ns mainGlobals mg → mg d.name = some (.ref fa) →
      ∃ (K : PySem.W.Frag) (fd : FuncData), K.In h ∧ (∀ (s : Shared) (u : Value), BindsTo s fd ⟨[u], []⟩ [(x, u)]) ∧ ∀ base : Heap, K.In base → base.Ns mainGlobals mg → FnG l.prog w K mg base (L2.CX l.prog w) k fa fd [x] (spLaw K [])) :
    PySem.W.WalkO q loose XP YP l.row.toRowW d [] (fun f vs => PySem.call f vs) := by
  refine Att.attach_callB hn hdf fun w _ t mg _ fa _ _ _ _ at_ vals zs G yp _ _ _ mgf lobj areI len63 bits gens => ?_
  obtain ⟨K, fd, kin, bnd, ok⟩ := F w mg fa _ yp G.T.g mgf
  exact law_callG (cs := []) (Tb := []) kin G.T.g G.T.b G.T.builtins G.T.nolimit gens (fun p hp => nomatch hp) (fun p hp => nomatch hp) (fun p hp => nomatch hp) G.T.bmain lobj areI (Nat.le_trans len63 (by decide)) hr
    (fun base h1 h2 h3 => ok base h1 h2) bnd (fun H hH hS => ⟨at_, zs, rfl, hS, len63, bits, (fun p hp => nomatch hp), fun _ => rfl⟩)
end DL

set_option Elab.async false
set_option linter.all false
set_option maxRecDepth 100000
set_option maxHeartbeats 4000000
/-! DenVS: the texts that repr gives are well-formed. -/
namespace DL
open PySem L2 PySem.Spec PyProof.Rows
def VS (x : Str) : Prop := ∀ c ∈ x.cps.toList, c < 0x110000
theorem VS.all {x : Str} (h : VS x) : x.cps.all (· < 0x110000) = true := by
  rw [← Array.all_toList, List.all_eq_true]
  exact fun c hc => decide_eq_true (h c hc)
theorem vs_of (s : String) : VS (Str.ofString s) := fun c hc => by
  rw [Str.ofString_eq_toList] at hc
  obtain ⟨ch, _, e⟩ := List.mem_map.mp hc
  rw [← e]
  have := ch.valid
  show ch.val.toNat < 0x110000
  rcases this with h | h
  · have : ch.val.toNat < 0xD800 := h
    omega
  · exact h.2
theorem vs_app {x y : Str} (hx : VS x) (hy : VS y) : VS (x ++ y) := fun c hc => by
  have e : (x ++ y).cps = x.cps ++ y.cps := rfl
  rw [e, Array.toList_append] at hc
  rcases List.mem_append.mp hc with h | h
  · exact hx c h
  · exact hy c h
theorem vs_from : ∀ (ts : List Str) (k : Nat) (acc : Str), VS acc → (∀ t ∈ ts, VS t) → VS (textFrom k acc ts)
  | [], _, acc, h, _ => h
  | t :: ts, k, acc, h, ht => by
    refine vs_from ts (k + 1) _ (vs_app (vs_app h (vs_of _)) (ht t List.mem_cons_self)) fun x hx => ht x (List.mem_cons_of_mem _ hx)
theorem vs_list {ts : List Str} (h : ∀ t ∈ ts, VS t) : VS (listText ts) := vs_app (vs_from ts 0 _ (vs_of _) h) (vs_of _)
theorem vs_join {s : Str} (hs : VS s) : ∀ {ts : List Str}, (∀ t ∈ ts, VS t) → VS (Str.join s ts)
  | [], _ => fun c hc => by simp [Str.join, Str.empty] at hc
  | [x], h => by
    have := h x List.mem_cons_self
    simpa [Str.join] using this
  | x :: y :: r, h => by
    have ih := vs_join hs (ts := y :: r) fun t ht => h t (List.mem_cons_of_mem _ ht)
    have e : Str.join s (x :: y :: r) = x ++ s ++ Str.join s (y :: r) := by simp [Str.join]
    rw [e]
    exact vs_app (vs_app (h x List.mem_cons_self) hs) ih
theorem vs_tup {ts : List Str} (h : ∀ t ∈ ts, VS t) : VS (tupleText ts) := vs_app (vs_app (vs_of _) (vs_join (vs_of _) h)) (by split <;> exact vs_of _)
/-- no texts -/
def numb : Nat → D → Bool
  | _, .non => true
  | _, .bl _ => true
  | _, .int _ => true
  | k + 1, .lst ds => ds.all (numb k)
  | k + 1, .tup ds => ds.all (numb k)
  | _, _ => false
mutual
theorem vs_shown : ∀ (k : Nat) (d : D), numb k d = true → VS d.py.shown
  | _, .non, _ => vs_of _
  | _, .bl b, _ => by rw [D.py, PyData.shown]; split <;> exact vs_of _
  | _, .int i, _ => vs_of _
  | k + 1, .lst ds, h => by rw [D.py, PyData.shown]; exact vs_list (vs_all k ds (by simpa [numb] using h))
  | k + 1, .tup ds, h => by rw [D.py, PyData.shown]; exact vs_tup (vs_all k ds (by simpa [numb] using h))
  | 0, .lst _, h => by simp [numb] at h
  | 0, .tup _, h => by simp [numb] at h
  | k, .str _, h => by cases k <;> simp [numb] at h
  | k, .obj _ _ _, h => by cases k <;> simp [numb] at h
  | k, .emp, h => by cases k <;> simp [numb] at h
theorem vs_all : ∀ (k : Nat) (ds : List D), (∀ d ∈ ds, numb k d = true) → ∀ t ∈ PyData.shownAll (D.pys ds), VS t
  | _, [], _, t, h => by simp [D.pys, PyData.shownAll] at h
  | k, d :: ds, h, t, ht => by
    rw [D.pys, PyData.shownAll] at ht
    rcases List.mem_cons.mp ht with e | e
    · rw [e]; exact vs_shown k d (h d List.mem_cons_self)
    · exact vs_all k ds (fun x hx => h x (List.mem_cons_of_mem _ hx)) t e
end
theorem ok_shown {k n : Nat} {d : D} (h : numb k d = true) : okN n (.str d.py.shown) = true := by
  have := (vs_shown k d h).all
  cases n <;> exact this
end DL

set_option Elab.async false
set_option linter.all false
set_option maxRecDepth 100000
set_option maxHeartbeats 4000000
/-! DenS: the combinators, applied, for simp. -/
namespace DL
open PySem L2

section
variable {α β : Type} {c : Prop} [Decidable c] {g : Sg} {f f1 f2 f3 : FE} {fa : FA} {fv fv2 : FV} {ff : FF} {a1 a2 : Sg → R AV} {fb fb1 fb2 : FB} {s s1 s2 : FS} {i j : Nat} {d : D}
@[simp] theorem s_gat0 {x : S} : gat (x :: g) 0 = x := rfl
@[simp] theorem s_gatS {x : S} : gat (x :: g) (i + 1) = gat g i := rfl
@[simp] theorem s_bdI {r1 r2 : R α} {k : α → Sg → R β} : (if c then r1 else r2).bd k = if c then r1.bd k else r2.bd k := by split <;> rfl
@[simp] theorem s_sbI {r1 r2 : R α} {k : α → Sg → RS} : (if c then r1 else r2).sb k = if c then r1.sb k else r2.sb k := by split <;> rfl
@[simp] theorem s_rsI {r1 r2 : RS} {k : Sg → RS} : (if c then r1 else r2).bd k = if c then r1.bd k else r2.bd k := by split <;> rfl
@[simp] theorem s_optI {x y : Option α} : opt (if c then x else y) g = if c then opt x g else opt y g := by split <;> rfl
@[simp] theorem s_var : varF i g = match gat g i with | .v d => .ok d g | _ => .no := rfl
@[simp] theorem s_frz : frzF i g = match gat g i with | .v d => .ok d g | .ow ds => .ok (.lst ds) (g.set i (.v (.lst ds))) | _ => .no := rfl
@[simp] theorem s_nm : nmF i g = match gat g i with | .v d => .ok (.d d) g | .un => .no | .on _ => .no | _ => .ok (.o i) g := by unfold nmF; cases gat g i <;> rfl
@[simp] theorem s_dF : dF f g = (f g).bd fun d g1 => .ok (.d d) g1 := rfl
@[simp] theorem s_c : cF d g = .ok d g := rfl
@[simp] theorem s_op2 {o : D → D → Option D} : op2F o f1 f2 g = (f1 g).bd fun d g1 => (f2 g1).bd fun e g2 => opt (o d e) g2 := rfl
@[simp] theorem s_op2V {o : D → D → Option D} : op2V o a1 a2 g = (a1 g).bd fun a g1 => (a2 g1).bd fun c g2 => opt ((res g2 a).bind fun d => (res g2 c).bind fun e => o d e) g2 := rfl
@[simp] theorem s_op1 {o : D → Option D} : op1F o f g = (f g).bd fun d g1 => opt (o d) g1 := rfl
@[simp] theorem s_resd : res g (.d d) = some d := rfl
@[simp] theorem s_reso : res g (.o i) = match gat g i with | .ow ds => some (.lst ds) | _ => none := rfl
@[simp] theorem s_resId : resI g (.d d) = true := rfl
@[simp] theorem s_resIo : resI g (.o i) = (gat g i).isOw := rfl
@[simp] theorem s_ress0 : ress g [] = some [] := rfl
@[simp] theorem s_tst : tstF f g = (f g).bd fun d g1 => match d with | .bl c => .ok c g1 | _ => .no := rfl
@[simp] theorem s_and : andB fb1 fb2 g = (fb1 g).bd fun c g1 => if c = true then fb2 g1 else .ok false g1 := rfl
@[simp] theorem s_or : orB fb1 fb2 g = (fb1 g).bd fun c g1 => if c = true then .ok true g1 else fb2 g1 := rfl
@[simp] theorem s_not : notB fb g = (fb g).bd fun c g1 => .ok (!c) g1 := rfl
@[simp] theorem s_andV : andV f1 f2 g = (f1 g).bd fun d g1 => match d with | .bl c => if c = true then f2 g1 else .ok (.bl false) g1 | _ => .no := rfl
@[simp] theorem s_orV : orV f1 f2 g = (f1 g).bd fun d g1 => match d with | .bl c => if c = true then .ok (.bl true) g1 else f2 g1 | _ => .no := rfl
@[simp] theorem s_notV : notV f g = (f g).bd fun d g1 => match d with | .bl c => .ok (.bl (!c)) g1 | _ => .no := rfl
@[simp] theorem s_if : ifF fb f1 f2 g = (fb g).bd fun c g1 => if c = true then f1 g1 else f2 g1 := rfl
@[simp] theorem s_ch {o o' : D → D → Option D} : chF o o' f1 f2 f3 g = (f1 g).bd fun d g1 => (f2 g1).bd fun e g2 => (opt (o d e) g2).bd fun z g3 => match z with | .bl c => if c = true then (f3 g3).bd fun k g4 => opt (o' e k) g4 else .ok (.bl false) g3 | _ => .no := rfl
@[simp] theorem s_nilA : nilA g = .ok [] g := rfl
@[simp] theorem s_consA : consA f fa g = (f g).bd fun d g1 => (fa g1).bd fun ds g2 => .ok (d :: ds) g2 := rfl
@[simp] theorem s_nilV : nilV g = .ok [] g := rfl
@[simp] theorem s_consV : consV a1 fv g = (a1 g).bd fun a g1 => (fv g1).bd fun as g2 => if resI g2 a = true then .ok (a :: as) g2 else .no := rfl
@[simp] theorem s_tup : tupF fa g = (fa g).bd fun ds g1 => if szOk ds.length = true then .ok (.tup ds) g1 else .no := rfl
@[simp] theorem s_lst : lstF fa g = (fa g).bd fun ds g1 => if szOk ds.length = true then .ok ds g1 else .no := rfl
@[simp] theorem s_fr : frF ff g = (ff g).bd fun ds g1 => .ok (.lst ds) g1 := rfl
@[simp] theorem s_blt {o : List D → Option D} : bltF o fv g = (fv g).bd fun as g1 => opt ((ress g1 as).bind o) g1 := rfl
@[simp] theorem s_bltF {o : List D → Option (List D)} : bltFF o fv g = (fv g).bd fun as g1 => opt ((ress g1 as).bind o) g1 := rfl
@[simp] theorem s_isi {o : D → Option Bool} : isiF o a1 g = (a1 g).bd fun a g1 => opt ((res g1 a).bind fun d => (o d).bind fun c => some (.bl c)) g1 := rfl
@[simp] theorem s_skip : skipS g = .nx g := rfl
theorem s_seq : seqS s1 s2 g = (s1 g).bd s2 := rfl
@[simp] theorem s_expr : exprS f g = (f g).sb fun _ g1 => .nx g1 := rfl
@[simp] theorem s_brk : brkS g = .bk g := rfl
@[simp] theorem s_cnt : cntS g = .ct g := rfl
@[simp] theorem s_ret : retS f g = (f g).sb fun d g1 => .rt d g1 := rfl
@[simp] theorem s_retN : retN g = .rt .non g := rfl
@[simp] theorem s_retF : retF ff g = (ff g).sb fun d g1 => .rf d g1 := rfl
@[simp] theorem s_take : takeF i g = match gat g i with | .ow ds => .ok ds (g.set i .un) | _ => .no := rfl
@[simp] theorem s_ifS : ifS fb s1 s2 g = (fb g).sb fun v g1 => if v = true then s1 g1 else s2 g1 := rfl
@[simp] theorem s_asg : asgS i f g = (f g).sb fun d g1 => .nx (g1.set i (.v d)) := rfl
@[simp] theorem s_asgO : asgO i ff g = (ff g).sb fun d g1 => .nx (g1.set i (.ow d)) := rfl
@[simp] theorem s_tgN : tgN i d g = some (g.set i (.v d)) := rfl
@[simp] theorem s_tgNil : tgNil [] g = some g := rfl
@[simp] theorem s_tgCons {t : Tgt} {ts : List D → Sg → Option Sg} {ds : List D} : tgCons t ts (d :: ds) g = (t d g).bind (ts ds) := rfl
@[simp] theorem s_tgT {n : Nat} {ts : List D → Sg → Option Sg} {ds : List D} : tgT n ts (.tup ds) g = if ds.length = n then ts ds g else none := rfl
@[simp] theorem s_tgTL {n : Nat} {ts : List D → Sg → Option Sg} {ds : List D} : tgT n ts (.lst ds) g = if ds.length = n then ts ds g else none := rfl
@[simp] theorem s_asgT {t : Tgt} : asgT t f g = (f g).sb fun d g1 => match t d g1 with | some g2 => .nx g2 | none => .no := rfl
@[simp] theorem s_par : parS i j fa g = (fa g).sb fun ds g1 => match ds with | [d, e] => .nx ((g1.set i (.v d)).set j (.v e)) | _ => .no := rfl
@[simp] theorem s_it : itF f g = (f g).bd fun d g1 => opt (seqD d) g1 := rfl
@[simp] theorem s_fa {o : List D → Option α} : faF o fa g = (fa g).bd fun ds g1 => opt (o ds) g1 := rfl
@[simp] theorem s_turn {t : Tgt} : turnS t s d g = match t d g with | some g1 => s g1 | none => .no := rfl
@[simp] theorem s_for {fi : FI} {t : Tgt} : forS fi t s g = (fi g).sb fun items g1 => forL (turnS t s) items g1 := rfl
@[simp] theorem s_forNil {h : D → FS} : forL h [] g = .nx g := rfl
theorem s_forCons {h : D → FS} {ds : List D} : forL h (d :: ds) g = match h d g with | .nx g' => forL h ds g' | .ct g' => forL h ds g' | .bk g' => .nx g' | .rt d g' => .rt d g' | .rf d g' => .rf d g' | .ex e g' => .ex e g' | .no => .no := rfl
@[simp] theorem s_yes : yesB g = .ok true g := rfl
@[simp] theorem s_lc {fi : FI} {t : Tgt} {vs : List Nat} : lcF fi t fb f vs g = (fi g).bd fun items g1 => if items.length ≤ sizeLine then lcL t fb f vs items [] (wipeG g1 vs) else .no := rfl
@[simp] theorem s_part : partF f g = (f g).bd fun d g1 => match d with | .int i => .ok (some i) g1 | _ => .no := rfl
@[simp] theorem s_noPart : noPart g = .ok none g := rfl
@[simp] theorem s_slc {lo hi : Sg → R (Option Int)} : slcF a1 lo hi g = (a1 g).bd fun a g1 => (lo g1).bd fun l g2 => (hi g2).bd fun u g3 => match res g3 a with | some (.lst ds) => .ok (cut ds l u) g3 | _ => .no := rfl
@[simp] theorem s_set {fi fw : FE} : setS i fi fw g = (fw g).sb fun d g1 => match gat g1 i with
  | .ow _ => (fi g1).sb fun k g2 => match k, gat g2 i with
    | .int k, .ow ds => match ixN ds.length k with
      | some j => .nx (g2.set i (.ow (ds.set j d)))
      | none => .no
    | _, _ => .no
  | _ => .no := rfl
@[simp] theorem s_ap : apF i f g = match gat g i with
  | .ow _ => (f g).bd fun d g1 => match gat g1 i with
    | .ow ds => if ds.length < sizeLine then .ok .non (g1.set i (.ow (ds ++ [d]))) else .no
    | _ => .no
  | _ => .no := rfl
@[simp] theorem s_raise {cn : Str} {fs : List Str} : raiseS cn fs fa g = (fa g).sb fun ds g1 => if ds.length = fs.length then .ex (mkE cn fs ds) g1 else .no := rfl
@[simp] theorem s_raise0 {cn : Str} : raise0S cn g = .ex ⟨cn, [], []⟩ g := rfl
@[simp] theorem s_try {h : Str → Option Bool} {sx : Exn → FS} : tryF i h s sx g = match s g with
  | .ex e g' => match h e.cls with
    | some true => if i < g'.length then endX i g'.length (sx e (g'.set i .un)) else .no
    | some false => .ex e g'
    | none => .no
  | r => r := by unfold tryF; cases s g <;> rfl
@[simp] theorem s_call {n : Nat} {dn : Dn} {dfs : List D} : callF n dn dfs fv g = (fv g).bd fun as g1 => callR n dn (as ++ dfs.map AV.d) g1 := rfl
@[simp] theorem s_callFF {n : Nat} {dn : Dn} {dfs : List D} : callFF n dn dfs fv g = (fv g).bd fun as g1 => callRF n dn (as ++ dfs.map AV.d) g1 := rfl
@[simp] theorem s_callK {n n1 m : Nat} {dn : Dn} {qs : List KQ} {dfs : List D} : callKF n n1 m dn qs dfs fv fv2 g = (fv g).bd fun as g1 => (fv2 g1).bd fun ks g2 => if as.length = n1 ∧ ks.length = m ∧ as.all (resI g2) = true then callR n dn (pickG as (dfs.map AV.d) ks qs) g2 else .no := rfl
@[simp] theorem s_toSd : toS g (.d d) = .v d := rfl
@[simp] theorem s_toSo : toS g (.o i) = gat g i := rfl
@[simp] theorem s_own0 : ownIx [] = [] := rfl
@[simp] theorem s_ownD {as : List AV} : ownIx (.d d :: as) = ownIx as := rfl
@[simp] theorem s_ownO {as : List AV} : ownIx (.o i :: as) = i :: ownIx as := rfl
@[simp] theorem s_nod0 : nodupB [] = true := rfl
@[simp] theorem s_nodS {is : List Nat} : nodupB (i :: is) = (!is.contains i && nodupB is) := rfl
@[simp] theorem s_mD {as : List AV} {x : S} {ss : Sg} : merge g (.d d :: as) (x :: ss) = merge g as ss := rfl
@[simp] theorem s_mO {as : List AV} {x : S} {ss : Sg} : merge g (.o i :: as) (x :: ss) = merge (g.set i x) as ss := rfl
@[simp] theorem s_m0 {ss : Sg} : merge g [] ss = g := by unfold merge; rfl
theorem s_mV {ss : Sg} : ∀ {as : List AV}, ownIx as = [] → merge g as ss = g := by
  intro as
  induction as generalizing ss with
  | nil => intro _; exact s_m0
  | cons a as ih =>
    cases a with
    | d d =>
      intro h
      cases ss with
      | nil => rfl
      | cons x ss => exact ih h
    | o i => intro h; cases h
/-- the callee's answer told -/
theorem callR_ok' {n : Nat} {dn : Dn} {as : List AV} {ss : Sg} (h : dn (as.map (toS g)) = .ok d ss) (hl : as.length = n) (hd : nodupB (ownIx as) = true) : callR n dn as g = .ok d (merge g as ss) := by
  unfold callR
  rw [if_pos ⟨hl, hd⟩, h]
theorem callR_ex' {n : Nat} {dn : Dn} {as : List AV} {ss : Sg} {e : Exn} (h : dn (as.map (toS g)) = .ex e ss) (hl : as.length = n) (hd : nodupB (ownIx as) = true) : callR n dn as g = .ex e (merge g as ss) := by
  unfold callR
  rw [if_pos ⟨hl, hd⟩, h]
theorem s_callR {n : Nat} {dn : Dn} {as : List AV} : callR n dn as g = if as.length = n ∧ nodupB (ownIx as) = true then match dn (as.map (toS g)) with
    | .ok d ss => .ok d (merge g as ss)
    | .okf ds ss => .ok (.lst ds) (merge g as ss)
    | .ex e ss => .ex e (merge g as ss)
    | .no => .no
  else .no := rfl
theorem s_callRF {n : Nat} {dn : Dn} {as : List AV} : callRF n dn as g = if as.length = n ∧ nodupB (ownIx as) = true then match dn (as.map (toS g)) with
    | .okf ds ss => .ok ds (merge g as ss)
    | .ex e ss => .ex e (merge g as ss)
    | _ => .no
  else .no := by unfold callRF; split <;> first | rfl | (cases dn (as.map (toS g)) <;> rfl)
@[simp] theorem s_end_rt {as : Sg} : endC as (.rt d g) = if okOut as g = true then .ok d (g.take as.length) else .no := rfl
@[simp] theorem s_end_rf {as : Sg} {ds : List D} : endC as (.rf ds g) = if okOut as g = true then .okf ds (g.take as.length) else .no := rfl
@[simp] theorem s_end_nx {as : Sg} : endC as (.nx g) = if okOut as g = true then .ok .non (g.take as.length) else .no := rfl
@[simp] theorem s_end_ex {as : Sg} {e : Exn} : endC as (.ex e g) = if okOut as g = true then .ex e (g.take as.length) else .no := rfl
@[simp] theorem s_endI {as : Sg} {r1 r2 : RS} : endC as (if c then r1 else r2) = if c then endC as r1 else endC as r2 := by split <;> rfl
@[simp] theorem s_okO0 : okOut [] g = true := rfl
@[simp] theorem s_okOS {x y : S} {as : Sg} : okOut (x :: as) (y :: g) = ((!x.isOw || y.isOw) && okOut as g) := rfl
@[simp] theorem s_isOwV : (S.v d).isOw = false := rfl
@[simp] theorem s_isOwO {ds : List D} : (S.ow ds).isOw = true := rfl
@[simp] theorem s_isOwU : S.un.isOw = false := rfl
theorem s_def {N : Nat} {body : FS} {as : Sg} : defF N body as = endC as (body (as ++ List.replicate (N - as.length) .un)) := rfl
@[simp] theorem s_whileUn {n : Nat} : whileN fb s (n + 1) g = (fb g).sb fun k g1 => if k = true then (match s g1 with
    | .nx g' => whileN fb s n g'
    | .ct g' => whileN fb s n g'
    | .bk g' => .nx g'
    | .rt d g' => .rt d g'
    | .rf d g' => .rf d g'
    | .ex e g' => .ex e g'
    | .no => .no) else .nx g1 := rfl
end
@[simp] theorem s_ress1 {g : Sg} {a : AV} {as : List AV} : ress g (a :: as) = (res g a).bind fun d => (ress g as).bind fun ds => some (d :: ds) := by first | rfl | (unfold ress; cases res g a <;> rfl)
end DL
namespace DL
open PySem L2
section
variable {i j : Int} {a b c : Bool} {xs ys : List D} {d e x y : D} {s t : Str}
@[simp] theorem d_addI : addD (.int i) (.int j) = some (.int (i + j)) := rfl
@[simp] theorem d_subI : subD (.int i) (.int j) = some (.int (i - j)) := rfl
theorem d_mulI : mulD (.int i) (.int j) = if (i * j).natAbs < LIM then some (.int (i * j)) else none := rfl
@[simp] theorem d_fdiv : fdivD (.int i) (.int j) = if j ≠ 0 ∧ j.natAbs < LID then some (.int (i.fdiv j)) else none := rfl
@[simp] theorem d_mod : modD (.int i) (.int j) = if j ≠ 0 then some (.int (i.fmod j)) else none := rfl
@[simp] theorem d_neg : negD (.int i) = some (.int (-i)) := rfl
@[simp] theorem d_lt : ltD (.int i) (.int j) = some (.bl (decide (i < j))) := rfl
@[simp] theorem d_le : leD (.int i) (.int j) = some (.bl (decide (i ≤ j))) := rfl
@[simp] theorem d_gt : gtD (.int i) (.int j) = some (.bl (decide (j < i))) := rfl
@[simp] theorem d_ge : geD (.int i) (.int j) = some (.bl (decide (j ≤ i))) := rfl
@[simp] theorem d_eq : eqD d e = if (okN 20 d && okN 20 e) = true then some (.bl (D.eqb d e)) else none := rfl
@[simp] theorem d_ne : neD d e = if (okN 20 d && okN 20 e) = true then some (.bl (!D.eqb d e)) else none := rfl
@[simp] theorem d_is : isD d .non = some (.bl d.isNon) := rfl
@[simp] theorem d_isnot : isNotD d .non = some (.bl (!d.isNon)) := rfl
@[simp] theorem n_non : D.isNon .non = true := rfl
@[simp] theorem n_int : D.isNon (.int i) = false := rfl
@[simp] theorem n_bl : D.isNon (.bl a) = false := rfl
@[simp] theorem n_str : D.isNon (.str s) = false := rfl
@[simp] theorem n_tup : D.isNon (.tup xs) = false := rfl
@[simp] theorem n_lst : D.isNon (.lst xs) = false := rfl
@[simp] theorem q_int : D.eqb (.int i) (.int j) = (i == j) := by unfold D.eqb; rfl
@[simp] theorem q_bl : D.eqb (.bl a) (.bl b) = (a == b) := by unfold D.eqb; rfl
@[simp] theorem q_str : D.eqb (.str s) (.str t) = (s == t) := by unfold D.eqb; rfl
@[simp] theorem q_non : D.eqb .non .non = true := by unfold D.eqb; rfl
@[simp] theorem q_nonS : D.eqb .non (.str t) = false := by unfold D.eqb; rfl
@[simp] theorem q_nonT : D.eqb .non (.tup xs) = false := by unfold D.eqb; rfl
@[simp] theorem q_tup : D.eqb (.tup xs) (.tup ys) = D.eqbs xs ys := by conv => lhs; unfold D.eqb
@[simp] theorem q_lst : D.eqb (.lst xs) (.lst ys) = D.eqbs xs ys := by conv => lhs; unfold D.eqb
@[simp] theorem q_nil : D.eqbs [] [] = true := by unfold D.eqbs; rfl
@[simp] theorem q_cons : D.eqbs (x :: xs) (y :: ys) = (D.eqb x y && D.eqbs xs ys) := by conv => lhs; unfold D.eqbs
@[simp] theorem k_int {n : Nat} : okN n (.int i) = true := by cases n <;> rfl
@[simp] theorem k_bl {n : Nat} : okN n (.bl a) = true := by cases n <;> rfl
@[simp] theorem k_non {n : Nat} : okN n .non = true := by cases n <;> rfl
theorem k_str {n : Nat} : okN n (.str s) = s.cps.all (· < 0x110000) := by cases n <;> rfl
@[simp] theorem k_tup {n : Nat} : okN (n + 1) (.tup xs) = xs.all (okN n) := rfl
@[simp] theorem k_lst {n : Nat} : okN (n + 1) (.lst xs) = xs.all (okN n) := rfl
@[simp] theorem i_int1 : isInt (.int i) = some true := rfl
@[simp] theorem i_int2 : isInt (.bl a) = some true := rfl
@[simp] theorem i_int3 : isInt .non = some false := rfl
@[simp] theorem i_int4 : isInt (.str s) = some false := rfl
@[simp] theorem i_int5 : isInt (.tup xs) = some false := rfl
@[simp] theorem i_int6 : isInt (.lst xs) = some false := rfl
@[simp] theorem i_bl1 : isBool (.int i) = some false := rfl
@[simp] theorem i_bl2 : isBool (.bl a) = some true := rfl
@[simp] theorem i_bl3 : isBool .non = some false := rfl
@[simp] theorem i_bl4 : isBool (.str s) = some false := rfl
@[simp] theorem i_bl5 : isBool (.tup xs) = some false := rfl
@[simp] theorem i_bl6 : isBool (.lst xs) = some false := rfl
@[simp] theorem i_tp1 : isTup (.int i) = some false := rfl
@[simp] theorem i_tp2 : isTup (.bl a) = some false := rfl
@[simp] theorem i_tp3 : isTup .non = some false := rfl
@[simp] theorem i_tp4 : isTup (.str s) = some false := rfl
@[simp] theorem i_tp5 : isTup (.tup xs) = some true := rfl
@[simp] theorem i_tp6 : isTup (.lst xs) = some false := rfl
@[simp] theorem i_lt1 : isLstTup (.int i) = some false := rfl
@[simp] theorem i_lt2 : isLstTup (.bl a) = some false := rfl
@[simp] theorem i_lt3 : isLstTup .non = some false := rfl
@[simp] theorem i_lt4 : isLstTup (.str s) = some false := rfl
@[simp] theorem i_lt5 : isLstTup (.tup xs) = some true := rfl
@[simp] theorem i_lt6 : isLstTup (.lst xs) = some true := rfl
@[simp] theorem l_lst : lenD [.lst xs] = some (.int xs.length) := rfl
@[simp] theorem l_tup : lenD [.tup xs] = some (.int xs.length) := rfl
@[simp] theorem l_abs : absD [.int i] = some (.int i.natAbs) := rfl
@[simp] theorem l_int : intF [.int i] = some (.int i) := rfl
@[simp] theorem l_intB : intF [.bl a] = some (.int (if a then 1 else 0)) := rfl
@[simp] theorem l_list : listD [.lst xs] = some xs := rfl
@[simp] theorem l_all : allD [.lst xs] = (boolsD xs).bind fun ns => some (.bl (ns.all id)) := rfl
@[simp] theorem l_bools0 : boolsD [] = some [] := rfl
@[simp] theorem l_boolsS : boolsD (.bl a :: xs) = (boolsD xs).bind fun is => some (a :: is) := rfl
@[simp] theorem l_seqL : seqD (.lst xs) = some xs := rfl
@[simp] theorem l_seqT : seqD (.tup xs) = some xs := rfl
@[simp] theorem x_0 : ixD (.tup (x :: xs)) (.int 0) = some x := by show atI (x :: xs) 0 = some x; unfold atI ixN; simp
@[simp] theorem x_1 : ixD (.tup (x :: y :: xs)) (.int 1) = some y := by show atI (x :: y :: xs) 1 = some y; unfold atI ixN; simp; rw [if_pos (by omega)]; rfl
@[simp] theorem x_L0 : ixD (.lst (x :: xs)) (.int 0) = some x := x_0 (xs := xs)
@[simp] theorem x_L1 : ixD (.lst (x :: y :: xs)) (.int 1) = some y := x_1 (xs := xs)
@[simp] theorem szOk_dec {n : Nat} : szOk n = decide (n ≤ 16777216) := rfl
theorem szOk_of {n : Nat} (h : n ≤ 16777216) : szOk n = true := szOk_iff.mpr h
/-- bits -/
def BB (k : Nat) (i : Int) : Prop := i.natAbs < 2 ^ k
theorem BB.mul {k l : Nat} (h : BB k i) (q : BB l j) : BB (k + l) (i * j) := by
  unfold BB at *
  rw [Int.natAbs_mul, Nat.pow_add]
  by_cases hj : j.natAbs = 0
  · rw [hj, Nat.mul_zero]; exact Nat.mul_pos (Nat.two_pow_pos _) (Nat.two_pow_pos _)
  · exact Nat.mul_lt_mul_of_lt_of_lt h q
theorem BB.mono {k l : Nat} (h : BB k i) (hl : k ≤ l) : BB l i := Nat.lt_of_lt_of_le h (Nat.pow_le_pow_right (by decide) hl)
theorem BB.add {k l : Nat} (h : BB k i) (q : BB l j) : BB (max k l + 1) (i + j) := by
  have h1 := h.mono (Nat.le_max_left k l)
  have h2 := q.mono (Nat.le_max_right k l)
  unfold BB at *
  rw [Nat.pow_succ]
  omega
theorem BB.sub {k l : Nat} (h : BB k i) (q : BB l j) : BB (max k l + 1) (i - j) := by
  have h1 := h.mono (Nat.le_max_left k l)
  have h2 := q.mono (Nat.le_max_right k l)
  unfold BB at *
  rw [Nat.pow_succ]
  omega
theorem BB.lim {k : Nat} (h : BB k i) (hk : k ≤ 2000000) : i.natAbs < LIM := lt_LIM (n := i.natAbs) (k := k) h hk
theorem BB.lid {k : Nat} (h : BB k i) (hk : k ≤ 8000) : i.natAbs < LID := lt_LID (n := i.natAbs) (k := k) h hk
theorem d_mul' {k : Nat} (h : BB k (i * j)) (hk : k ≤ 2000000 := by decide) : mulD (.int i) (.int j) = some (.int (i * j)) := by rw [d_mulI, if_pos (h.lim hk)]
theorem d_fdiv' {k : Nat} (h : BB k j) (h0 : j ≠ 0) (hk : k ≤ 8000 := by decide) : fdivD (.int i) (.int j) = some (.int (i.fdiv j)) := by rw [d_fdiv, if_pos ⟨h0, h.lid hk⟩]
end
end DL

set_option Elab.async false
set_option linter.all false
set_option maxRecDepth 100000
set_option maxHeartbeats 4000000
/-! DenT: posts of the denotations, loops by invariants, typed data. -/
namespace DL
open PySem L2
def R.wp {α : Type} (r : R α) (E : Exn → Sg → Prop) (Q : α → Sg → Prop) : Prop := match r with
  | .ok a g => Q a g
  | .ex e g => E e g
  | .no => False
structure SP where
  nx : Sg → Prop
  rt : D → Sg → Prop
  rf : List D → Sg → Prop
  bk : Sg → Prop
  ct : Sg → Prop
  ex : Exn → Sg → Prop
def RS.wp (r : RS) (P : SP) : Prop := match r with
  | .nx g => P.nx g
  | .rt d g => P.rt d g
  | .rf ds g => P.rf ds g
  | .bk g => P.bk g
  | .ct g => P.ct g
  | .ex e g => P.ex e g
  | .no => False
def RC.wp (r : RC) (E : Exn → Sg → Prop) (F : List D → Sg → Prop) (Q : D → Sg → Prop) : Prop := match r with
  | .ok d g => Q d g
  | .okf ds g => F ds g
  | .ex e g => E e g
  | .no => False
/-- no error -/
abbrev E0 : Exn → Sg → Prop := fun _ _ => False
abbrev F0 : List D → Sg → Prop := fun _ _ => False
abbrev Q0 : D → Sg → Prop := fun _ _ => False
section
variable {α β : Type} {E : Exn → Sg → Prop} {Q : α → Sg → Prop} {P : SP} {g : Sg} {c : Prop} [Decidable c]
@[simp] theorem wp_ok {a : α} : (R.ok a g).wp E Q = Q a g := rfl
@[simp] theorem wp_ex {e : Exn} : (R.ex e g : R α).wp E Q = E e g := rfl
@[simp] theorem wp_no : (R.no : R α).wp E Q = False := rfl
@[simp] theorem wp_bd {r : R β} {k : β → Sg → R α} : (r.bd k).wp E Q = r.wp E fun b g1 => (k b g1).wp E Q := by cases r <;> rfl
@[simp] theorem wp_if {r1 r2 : R α} : (if c then r1 else r2).wp E Q = ((c → r1.wp E Q) ∧ (¬ c → r2.wp E Q)) := by
  by_cases h : c <;> simp [h]
@[simp] theorem wp_opt {o : Option α} : (opt o g).wp E Q = ∃ a, o = some a ∧ Q a g := by
  cases o <;> simp [opt]
@[simp] theorem sw_nx : (RS.nx g).wp P = P.nx g := rfl
@[simp] theorem sw_rt {d : D} : (RS.rt d g).wp P = P.rt d g := rfl
@[simp] theorem sw_rf {d : List D} : (RS.rf d g).wp P = P.rf d g := rfl
@[simp] theorem sw_bk : (RS.bk g).wp P = P.bk g := rfl
@[simp] theorem sw_ct : (RS.ct g).wp P = P.ct g := rfl
@[simp] theorem sw_ex {e : Exn} : (RS.ex e g).wp P = P.ex e g := rfl
@[simp] theorem sw_no : RS.no.wp P = False := rfl
@[simp] theorem sw_sb {r : R α} {k : α → Sg → RS} : (r.sb k).wp P = r.wp P.ex fun a g1 => (k a g1).wp P := by cases r <;> rfl
@[simp] theorem sw_bd {r : RS} {k : Sg → RS} : (r.bd k).wp P = r.wp { P with nx := fun g1 => (k g1).wp P } := by cases r <;> rfl
@[simp] theorem sw_if {r1 r2 : RS} : (if c then r1 else r2).wp P = ((c → r1.wp P) ∧ (¬ c → r2.wp P)) := by
  by_cases h : c <;> simp [h]
theorem R.wp_mono {r : R α} {E' : Exn → Sg → Prop} {Q' : α → Sg → Prop} (h : r.wp E Q) (hQ : ∀ a g, Q a g → Q' a g) (hE : ∀ e g, E e g → E' e g) : r.wp E' Q' := by
  cases r with
  | ok a g => exact hQ _ _ h
  | ex e g => exact hE _ _ h
  | no => exact h
theorem RS.wp_mono {r : RS} {P' : SP} (h : r.wp P) (h1 : ∀ g, P.nx g → P'.nx g) (h2 : ∀ d g, P.rt d g → P'.rt d g) (h3 : ∀ d g, P.rf d g → P'.rf d g) (h4 : ∀ g, P.bk g → P'.bk g) (h5 : ∀ g, P.ct g → P'.ct g) (h6 : ∀ e g, P.ex e g → P'.ex e g) : r.wp P' := by
  cases r with
  | nx g => exact h1 _ h
  | rt d g => exact h2 _ _ h
  | rf d g => exact h3 _ _ h
  | bk g => exact h4 _ h
  | ct g => exact h5 _ h
  | ex e g => exact h6 _ _ h
  | no => exact h
theorem RC.wp_mono {r : RC} {F F' : List D → Sg → Prop} {Q Q' : D → Sg → Prop} {E' : Exn → Sg → Prop} (h : r.wp E F Q) (h1 : ∀ d g, Q d g → Q' d g) (h2 : ∀ d g, F d g → F' d g) (h3 : ∀ e g, E e g → E' e g) : r.wp E' F' Q' := by
  cases r with
  | ok d g => exact h1 _ _ h
  | okf d g => exact h2 _ _ h
  | ex e g => exact h3 _ _ h
  | no => exact h
/-- a statement, then the rest -/
theorem seq_wp {s1 s2 : FS} (h : (s1 g).wp { P with nx := fun g1 => (s2 g1).wp P }) : (seqS s1 s2 g).wp P := by rw [s_seq, sw_bd]; exact h
/-- a statement with a cut behind it -/
theorem seq_cut {s1 s2 : FS} (I : Sg → Prop) (h : (s1 g).wp { P with nx := I }) (h2 : ∀ g1, I g1 → (s2 g1).wp P) : (seqS s1 s2 g).wp P :=
  seq_wp (RS.wp_mono h h2 (fun _ _ h => h) (fun _ _ h => h) (fun _ h => h) (fun _ h => h) fun _ _ h => h)
theorem seq_eq {s1 s2 : FS} {g1 : Sg} (h : s1 g = .nx g1) (h2 : (s2 g1).wp P) : (seqS s1 s2 g).wp P := seq_wp (by rw [h]; exact h2)
end
section
variable {E : Exn → Sg → Prop} {F : List D → Sg → Prop} {Q : D → Sg → Prop} {g : Sg}
/-- a def's body -/
theorem def_wp {N : Nat} {body : FS} {as : Sg} (h : (body (as ++ List.replicate (N - as.length) .un)).wp
    ⟨fun g => okOut as g = true ∧ Q .non (g.take as.length), fun d g => okOut as g = true ∧ Q d (g.take as.length), fun ds g => okOut as g = true ∧ F ds (g.take as.length), fun _ => False, fun _ => False, fun e g => okOut as g = true ∧ E e (g.take as.length)⟩) : (defF N body as).wp E F Q := by
  rw [s_def]
  generalize body (as ++ List.replicate (N - as.length) .un) = r at h
  cases r with
  | nx g => rw [s_end_nx, if_pos h.1]; exact h.2
  | rt d g => rw [s_end_rt, if_pos h.1]; exact h.2
  | rf d g => rw [s_end_rf, if_pos h.1]; exact h.2
  | ex d g => rw [s_end_ex, if_pos h.1]; exact h.2
  | bk g => exact h.elim
  | ct g => exact h.elim
  | no => exact h.elim
theorem RC.eq_ok {r : RC} {v : D} {as : Sg} (h : r.wp E0 F0 (fun d g => d = v ∧ g = as)) : r = .ok v as := by
  cases r with
  | ok d g => obtain ⟨rfl, rfl⟩ := h; rfl
  | okf d g => exact h.elim
  | ex d g => exact h.elim
  | no => exact h.elim
theorem RC.eq_okf {r : RC} {v : List D} {as : Sg} (h : r.wp E0 (fun d g => d = v ∧ g = as) Q0) : r = .okf v as := by
  cases r with
  | okf d g => obtain ⟨rfl, rfl⟩ := h; rfl
  | ok d g => exact h.elim
  | ex d g => exact h.elim
  | no => exact h.elim
theorem RC.eq_ex {r : RC} {v : Exn} {as : Sg} (h : r.wp (fun d g => d = v ∧ g = as) F0 Q0) : r = .ex v as := by
  cases r with
  | ex d g => obtain ⟨rfl, rfl⟩ := h; rfl
  | ok d g => exact h.elim
  | okf d g => exact h.elim
  | no => exact h.elim
/-- a call, by its def's word -/
theorem call_wp {n : Nat} {dn : Dn} {as : List AV} {Q : D → Sg → Prop} (hl : as.length = n) (hd : nodupB (ownIx as) = true) (h : (dn (as.map (toS g))).wp (fun e ss => E e (merge g as ss)) (fun ds ss => Q (.lst ds) (merge g as ss)) (fun d ss => Q d (merge g as ss))) : (callR n dn as g).wp E Q := by
  rw [s_callR, if_pos ⟨hl, hd⟩]
  generalize dn (as.map (toS g)) = r at h
  cases r <;> exact h
theorem callF_wp {n : Nat} {dn : Dn} {as : List AV} {Q : List D → Sg → Prop} (hl : as.length = n) (hd : nodupB (ownIx as) = true) (h : (dn (as.map (toS g))).wp (fun e ss => E e (merge g as ss)) (fun ds ss => Q ds (merge g as ss)) (fun _ _ => False)) : (callRF n dn as g).wp E Q := by
  rw [s_callRF, if_pos ⟨hl, hd⟩]
  generalize dn (as.map (toS g)) = r at h
  cases r <;> exact h
/-- calls without own arguments, as equations -/
theorem callR_v {n : Nat} {dn : Dn} {as : List AV} {g : Sg} {d : D} {ss : Sg} (ho : ownIx as = []) (hl : as.length = n) (h : dn (as.map (toS g)) = .ok d ss) : callR n dn as g = .ok d g := by
  rw [callR_ok' h hl (by rw [ho]; rfl), s_mV ho]
theorem callR_f {n : Nat} {dn : Dn} {as : List AV} {g : Sg} {ds : List D} {ss : Sg} (ho : ownIx as = []) (hl : as.length = n) (h : dn (as.map (toS g)) = .okf ds ss) : callR n dn as g = .ok (.lst ds) g := by
  rw [s_callR, if_pos ⟨hl, by rw [ho]; rfl⟩, h]; show R.ok _ (merge g as ss) = _; rw [s_mV ho]
theorem callRF_v {n : Nat} {dn : Dn} {as : List AV} {g : Sg} {ds : List D} {ss : Sg} (ho : ownIx as = []) (hl : as.length = n) (h : dn (as.map (toS g)) = .okf ds ss) : callRF n dn as g = .ok ds g := by
  rw [s_callRF, if_pos ⟨hl, by rw [ho]; rfl⟩, h]; show R.ok _ (merge g as ss) = _; rw [s_mV ho]
theorem callR_x {n : Nat} {dn : Dn} {as : List AV} {g : Sg} {e : Exn} {ss : Sg} (ho : ownIx as = []) (hl : as.length = n) (h : dn (as.map (toS g)) = .ex e ss) : callR n dn as g = .ex e g := by
  rw [callR_ex' h hl (by rw [ho]; rfl), s_mV ho]
/-- an own list at slot i, the rest data -/
theorem call_o {n : Nat} {dn : Dn} {i : Nat} {ds : List D} {as : List AV} {Q : D → Sg → Prop} (ho : ownIx as = []) (hl : as.length + 1 = n) (hg : gat g i = .ow ds)
    (h : (dn (.ow ds :: as.map (toS g))).wp (fun e ss => E e (merge g (.o i :: as) ss)) (fun xs ss => ∃ ds' r, ss = .ow ds' :: r ∧ Q (.lst xs) (g.set i (.ow ds'))) (fun d ss => ∃ ds' r, ss = .ow ds' :: r ∧ Q d (g.set i (.ow ds')))) : (callR n dn (.o i :: as) g).wp E Q := by
  refine call_wp (by simpa using hl) (by rw [s_ownO, ho]; rfl) ?_
  rw [List.map_cons, s_toSo, hg]
  refine RC.wp_mono h ?_ ?_ fun _ _ h => h
  · rintro d g1 ⟨ds', r, rfl, hq⟩; rw [s_mO, s_mV ho]; exact hq
  · rintro d g1 ⟨ds', r, rfl, hq⟩; rw [s_mO, s_mV ho]; exact hq
theorem call_oF {n : Nat} {dn : Dn} {i : Nat} {ds : List D} {as : List AV} {Q : List D → Sg → Prop} (ho : ownIx as = []) (hl : as.length + 1 = n) (hg : gat g i = .ow ds)
    (h : (dn (.ow ds :: as.map (toS g))).wp (fun e ss => E e (merge g (.o i :: as) ss)) (fun d ss => ∃ ds' r, ss = .ow ds' :: r ∧ Q d (g.set i (.ow ds'))) (fun _ _ => False)) : (callRF n dn (.o i :: as) g).wp E Q := by
  refine callF_wp (by simpa using hl) (by rw [s_ownO, ho]; rfl) ?_
  rw [List.map_cons, s_toSo, hg]
  refine RC.wp_mono h (fun _ _ h => h) ?_ fun _ _ h => h
  rintro d g1 ⟨ds', r, rfl, hq⟩; rw [s_mO, s_mV ho]; exact hq
end
/-! ### loops -/
section
variable {P : SP} {g : Sg} {h : D → FS}
/-- the posts of a turn -/
abbrev SP.turn (P : SP) (I : Sg → Prop) : SP := ⟨I, P.rt, P.rf, P.nx, I, P.ex⟩
theorem forL_wp {β : Type} {den : β → D} (I : List β → Sg → Prop) : ∀ (bs : List β) (pre : List β) (g : Sg), (∀ p b q g, pre ++ bs = p ++ b :: q → I p g → (h (den b) g).wp (P.turn (I (p ++ [b])))) → I pre g → (∀ g, I (pre ++ bs) g → P.nx g) → (forL h (bs.map den) g).wp P
  | [], pre, g, _, h0, he => he _ (by rw [List.append_nil]; exact h0)
  | b :: bs, pre, g, st, h0, he => by
    have h1 := st pre b bs g rfl h0
    rw [List.map_cons, s_forCons]
    have e : pre ++ b :: bs = (pre ++ [b]) ++ bs := by simp
    generalize h (den b) g = r at h1
    cases r with
    | nx g1 => exact forL_wp I bs (pre ++ [b]) g1 (by rw [← e]; exact st) h1 (by rw [← e]; exact he)
    | ct g1 => exact forL_wp I bs (pre ++ [b]) g1 (by rw [← e]; exact st) h1 (by rw [← e]; exact he)
    | bk g1 => exact h1
    | rt d g1 => exact h1
    | rf d g1 => exact h1
    | ex d g1 => exact h1
    | no => exact h1.elim
/-- a loop by an invariant over what is done -/
theorem forI {β : Type} {den : β → D} (I : List β → Sg → Prop) (bs : List β) (h0 : I [] g) (st : ∀ p b q g, bs = p ++ b :: q → I p g → (h (den b) g).wp (P.turn (I (p ++ [b])))) (he : ∀ g, I bs g → P.nx g) : (forL h (bs.map den) g).wp P :=
  forL_wp I bs [] g st h0 he
/-- a loop over 0, 1, .. by an invariant -/
theorem forN (I : Nat → Sg → Prop) (n : Nat) (h0 : I 0 g) (st : ∀ k g, k < n → I k g → (h (.int (k : Nat)) g).wp (P.turn (I (k + 1)))) (he : ∀ g, I n g → P.nx g) : (forL h (rng n 0) g).wp P := by
  have e : rng n 0 = (List.range n).map fun (k : Nat) => D.int (k : Nat) := by unfold rng; congr 1; funext k; simp
  rw [e]
  refine forI (den := fun (k : Nat) => D.int (k : Nat)) (fun p g => I p.length g) (List.range n) h0 (fun p b q g he hi => ?_) (fun g hi => he g (by simpa using hi))
  have hb : b = p.length := by
    have h1 : (List.range n)[p.length]? = some b := by rw [he]; simp
    rw [List.getElem?_eq_some_iff] at h1
    obtain ⟨h2, h3⟩ := h1
    simpa using h3.symm
  have hn : p.length < n := by
    have h1 := congrArg List.length he
    simp at h1; omega
  subst hb
  have := st p.length g hn hi
  simpa using this
/-- any loop, by an invariant that does not look at the items -/
theorem forA (I : Sg → Prop) (ds : List D) (h0 : I g) (st : ∀ d g, d ∈ ds → I g → (h d g).wp (P.turn I)) (he : ∀ g, I g → P.nx g) : (forL h ds g).wp P := by
  have e : ds = ds.map id := by simp
  rw [e]
  exact forI (den := id) (fun _ g => I g) ds h0 (fun p b q g hb hi => st b g (by rw [hb]; simp) hi) he
/-- a loop that only reckons -/
theorem forL_fold {β σ : Type} {den : β → D} (enc : σ → Sg) (f : σ → β → σ) : ∀ (bs : List β) (s : σ), (∀ s b, b ∈ bs → h (den b) (enc s) = .nx (enc (f s b))) → forL h (bs.map den) (enc s) = .nx (enc (bs.foldl f s))
  | [], s, _ => rfl
  | b :: bs, s, st => by
    rw [List.map_cons, s_forCons, st s b List.mem_cons_self]
    exact forL_fold enc f bs (f s b) fun s b hb => st s b (List.mem_cons_of_mem _ hb)
/-- while -/
theorem whileN_wp {c : FB} {s : FS} (I : Nat → Sg → Prop) (st : ∀ n g, I n g → (c g).wp P.ex fun k g1 => if k = true then (s g1).wp (P.turn fun g2 => ∃ m, m < n ∧ I m g2) else P.nx g1) : ∀ (k n : Nat) (g : Sg), n < k → I n g → (whileN c s k g).wp P
  | 0, n, g, hn, _ => by omega
  | k + 1, n, g, hn, hi => by
    have h1 := st n g hi
    rw [s_whileUn]
    generalize c g = r at h1
    cases r with
    | no => exact h1.elim
    | ex e g1 => exact h1
    | ok b g1 =>
      cases b with
      | false => exact h1
      | true =>
        have h2 : (s g1).wp (P.turn fun g2 => ∃ m, m < n ∧ I m g2) := h1
        show RS.wp (match s g1 with | .nx g' => whileN c s k g' | .ct g' => whileN c s k g' | .bk g' => .nx g' | .rt d g' => .rt d g' | .rf d g' => .rf d g' | .ex e g' => .ex e g' | .no => .no) P
        generalize s g1 = r2 at h2
        cases r2 with
        | nx g2 => obtain ⟨m, hm, hi2⟩ := h2; exact whileN_wp I st k m g2 (by omega) hi2
        | ct g2 => obtain ⟨m, hm, hi2⟩ := h2; exact whileN_wp I st k m g2 (by omega) hi2
        | bk g2 => exact h2
        | rt d g2 => exact h2
        | rf d g2 => exact h2
        | ex d g2 => exact h2
        | no => exact h2.elim
theorem whileI {c : FB} {s : FS} (I : Nat → Sg → Prop) (n : Nat) (h0 : I n g) (st : ∀ n g, I n g → (c g).wp P.ex fun k g1 => if k = true then (s g1).wp (P.turn fun g2 => ∃ m, m < n ∧ I m g2) else P.nx g1) : (whileS c s g).wp P := by
  have h1 := whileN_wp I st (n + 1) n g (by omega) h0
  have : whileS c s g = whileN c s (n + 1) g := by
    refine whileS_eq rfl ?_
    intro z; rw [z] at h1; exact h1
  rw [this]; exact h1
end
/-! ### comprehensions -/
section
variable {t : Tgt} {c : FB} {e : FE} {vs : List Nat}
theorem lc_map {β : Type} (den : β → D) (p : β → Bool) (f : β → D) {g0 : Sg} : ∀ (bs : List β) (acc : List D), (∀ b, b ∈ bs → ∃ g1, t (den b) g0 = some g1 ∧ c g1 = .ok (p b) g1 ∧ (p b = true → e g1 = .ok (f b) g1) ∧ wipeG g1 vs = g0) → lcL t c e vs (bs.map den) acc g0 = .ok (acc ++ (bs.filter p).map f) g0
  | [], acc, _ => by simp [lcL]
  | b :: bs, acc, h => by
    obtain ⟨g1, h1, h2, h3, h4⟩ := h b List.mem_cons_self
    have ih := lc_map den p f (g0 := g0) bs
    rw [List.map_cons, lcL, h1]
    simp only [h2, keep?]
    cases hp : p b with
    | true =>
      simp only [h3 hp, if_true, h4]
      rw [ih _ fun b hb => h b (List.mem_cons_of_mem _ hb)]
      simp [hp]
    | false =>
      simp only [if_true, Bool.false_eq_true, if_false, h4]
      rw [ih _ fun b hb => h b (List.mem_cons_of_mem _ hb)]
      simp [hp]
/-- a comprehension without a condition -/
theorem lc_all {β : Type} (den : β → D) (f : β → D) {g0 : Sg} (bs : List β) (h : ∀ b, b ∈ bs → ∃ g1, t (den b) g0 = some g1 ∧ c g1 = .ok true g1 ∧ e g1 = .ok (f b) g1 ∧ wipeG g1 vs = g0) : lcL t c e vs (bs.map den) [] g0 = .ok (bs.map f) g0 := by
  rw [lc_map den (fun _ => true) f bs [] fun b hb => ?_]
  · rw [List.filter_eq_self.mpr fun _ _ => rfl]; simp
  · obtain ⟨g1, h1, h2, h3, h4⟩ := h b hb
    exact ⟨g1, h1, h2, fun _ => h3, h4⟩
/-- a comprehension that draws -/
theorem lc_wp {E : Exn → Sg → Prop} {Q : List D → Sg → Prop} (I : List D → Sg → Prop) : ∀ (ds acc : List D) (g : Sg), I acc g →
    (∀ d acc g, d ∈ ds → I acc g → ∃ g1, t d g = some g1 ∧ (c g1).wp (fun _ _ => False) fun k g2 => g2.length = g1.length ∧ if k = true then (e g2).wp (fun _ _ => False) fun y g3 => g3.length = g1.length ∧ I (acc ++ [y]) (wipeG g3 vs) else I acc (wipeG g2 vs)) → (∀ acc g, I acc g → Q acc g) → (lcL t c e vs ds acc g).wp E Q
  | [], acc, g, hi, _, he => he _ _ hi
  | d :: ds, acc, g, hi, st, he => by
    obtain ⟨g1, h1, h2⟩ := st d acc g List.mem_cons_self hi
    rw [lcL, h1]
    simp only []
    generalize c g1 = r at h2
    cases r with
    | no => exact h2.elim
    | ex e g => exact h2.elim
    | ok k g2 =>
      obtain ⟨hl, h3⟩ := h2
      simp only [keep?, if_pos hl]
      cases k with
      | false => exact lc_wp I ds acc _ h3 (fun d acc g hd => st d acc g (List.mem_cons_of_mem _ hd)) he
      | true =>
        have h4 : (e g2).wp (fun _ _ => False) fun y g3 => g3.length = g1.length ∧ I (acc ++ [y]) (wipeG g3 vs) := h3
        generalize e g2 = r2 at h4
        cases r2 with
        | no => exact h4.elim
        | ex e g => exact h4.elim
        | ok y g3 =>
          obtain ⟨hl2, h5⟩ := h4
          simp only [if_true, if_pos hl2]
          exact lc_wp I ds _ _ h5 (fun d acc g hd => st d acc g (List.mem_cons_of_mem _ hd)) he
end
end DL

set_option Elab.async false
set_option linter.all false
set_option maxRecDepth 100000
set_option maxHeartbeats 4000000
/-! DenU: typed data: lists of naturals and intz, ratios, codes. -/
namespace DL
open PySem L2
abbrev nats (xs : List Nat) : List D := xs.map fun n => D.int (n : Nat)
abbrev intz (xs : List Int) : List D := xs.map D.int
/-- a share or a ratio -/
abbrev T2 (a b : Int) : D := .tup [.int a, .int b]
section
variable {α β : Type} {xs ys : List α} {f : α → D} {n k : Nat} {ns : List Nat} {is js : List Int}
theorem rng0 : rng n 0 = nats (List.range n) := by unfold rng; congr 1; funext k; simp
theorem rngP {lo : Nat} : rng n lo = nats ((List.range n).map (lo + ·)) := by
  show (List.range n).map _ = ((List.range n).map _).map _
  rw [List.map_map]; congr 1
theorem d_rng1 (h : n < 2 ^ 62) : rng1D [.int (n : Nat)] = some (nats (List.range n)) := by
  rw [rng1D, if_pos]
  · simp [rng0]
  · unfold RL; simp; omega
theorem d_rng1I {i : Int} (h0 : 0 ≤ i) (h : i < 2 ^ 62) : rng1D [.int i] = some (nats (List.range i.toNat)) := by
  obtain ⟨n, rfl⟩ := Int.eq_ofNat_of_zero_le h0
  rw [d_rng1 (by omega)]; simp
theorem d_rng2 {lo hi : Nat} (h : hi < 2 ^ 62) (h2 : lo < 2 ^ 62) : rng2D [.int (lo : Nat), .int (hi : Nat)] = some (nats ((List.range (hi - lo)).map (lo + ·))) := by
  rw [rng2D, if_pos, ← rngP]
  · have : ((hi : Int) - (lo : Int)).toNat = hi - lo := by omega
    rw [this]
  · unfold RL; simp; omega
theorem nats_map {f : α → Nat} : nats (xs.map f) = xs.map fun x => D.int (f x : Nat) := by show List.map _ (List.map _ _) = _; rw [List.map_map]; rfl
theorem intz_map {f : α → Int} : intz (xs.map f) = xs.map fun x => D.int (f x) := by show List.map _ (List.map _ _) = _; rw [List.map_map]; rfl
/-- a loop over 0, 1, .. -/
theorem forR {P : SP} {g : Sg} {h : D → FS} (I : Nat → Sg → Prop) (n : Nat) (h0 : I 0 g) (st : ∀ k g, k < n → I k g → (h (.int (k : Nat)) g).wp (P.turn (I (k + 1)))) (he : ∀ g, I n g → P.nx g) : (forL h (nats (List.range n)) g).wp P := by
  rw [← rng0]; exact forN I n h0 st he
theorem rgL_nat {f : FE} {g g1 : Sg} (hf : f g = .ok (.int (n : Nat)) g1) (h : n ≤ 1000000) : rgLF f g = .ok (nats (List.range n)) g1 := by
  unfold rgLF
  rw [hf]
  show (if 0 ≤ (n : Int) ∧ (n : Int).natAbs ≤ 16777216 then R.ok (rng (n : Int).toNat 0) g1 else .no) = _
  rw [if_pos ⟨by omega, by omega⟩, Int.toNat_natCast, rng0]
/-- a comprehension that draws, counted -/
theorem lc_wpN {t : Tgt} {c : FB} {e : FE} {vs : List Nat} {E : Exn → Sg → Prop} {Q : List D → Sg → Prop} (I : Nat → List D → Sg → Prop) : ∀ (ds acc : List D) (k : Nat) (g : Sg), I k acc g →
    (∀ d k acc g, d ∈ ds → I k acc g → ∃ g1, t d g = some g1 ∧ (c g1).wp (fun _ _ => False) fun b g2 => g2.length = g1.length ∧ if b = true then (e g2).wp (fun _ _ => False) fun y g3 => g3.length = g1.length ∧ I (k + 1) (acc ++ [y]) (wipeG g3 vs) else I (k + 1) acc (wipeG g2 vs)) → (∀ acc g, I (k + ds.length) acc g → Q acc g) → (lcL t c e vs ds acc g).wp E Q
  | [], acc, k, g, hi, _, he => he _ _ hi
  | d :: ds, acc, k, g, hi, st, he => by
    obtain ⟨g1, h1, h2⟩ := st d k acc g List.mem_cons_self hi
    rw [lcL, h1]
    simp only []
    have he' : ∀ acc g, I (k + 1 + ds.length) acc g → Q acc g := fun acc g h => he acc g (by rw [List.length_cons]; rw [show k + (ds.length + 1) = k + 1 + ds.length by omega]; exact h)
    generalize c g1 = r at h2
    cases r with
    | no => exact h2.elim
    | ex e g => exact h2.elim
    | ok b g2 =>
      obtain ⟨hl, h3⟩ := h2
      simp only [keep?, if_pos hl]
      cases b with
      | false => exact lc_wpN I ds acc (k + 1) _ h3 (fun d k acc g hd => st d k acc g (List.mem_cons_of_mem _ hd)) he'
      | true =>
        have h4 : (e g2).wp (fun _ _ => False) fun y g3 => g3.length = g1.length ∧ I (k + 1) (acc ++ [y]) (wipeG g3 vs) := h3
        generalize e g2 = r2 at h4
        cases r2 with
        | no => exact h4.elim
        | ex e g => exact h4.elim
        | ok y g3 =>
          obtain ⟨hl2, h5⟩ := h4
          simp only [if_true, if_pos hl2]
          exact lc_wpN I ds _ (k + 1) _ h5 (fun d k acc g hd => st d k acc g (List.mem_cons_of_mem _ hd)) he'
/-- a comprehension over 0, 1, .. that draws naturals -/
theorem lc_draw {e : FE} {i n : Nat} {E : Exn → Sg → Prop} {Q : List D → Sg → Prop} {g : Sg} {p : Nat → Prop} (J : Sg → Prop) (h0 : J g)
    (st : ∀ d g, J g → (e (g.set i (.v d))).wp (fun _ _ => False) fun y g3 => ∃ m : Nat, y = .int (m : Nat) ∧ p m ∧ g3.length = g.length ∧ J (g3.set i .un)) (he : ∀ ns g, ns.length = n → (∀ m ∈ ns, p m) → J g → Q (nats ns) g) (hw : n ≤ 1000000) :
    (lcL (tgN i) yesB e [i] (nats (List.range n)) [] g).wp E Q := by
  refine lc_wpN (fun k acc g => ∃ ns : List Nat, acc = nats ns ∧ ns.length = k ∧ (∀ m ∈ ns, p m) ∧ J g) _ [] 0 g ⟨[], rfl, rfl, (fun _ h => nomatch h), h0⟩ ?_ ?_
  · rintro d k acc g _ ⟨ns, rfl, hl, hp, hj⟩
    refine ⟨_, rfl, rfl, ?_⟩
    rw [if_pos rfl]
    refine R.wp_mono (st d g hj) ?_ (fun _ _ h => h)
    rintro y g3 ⟨m, rfl, hm, hl3, hj3⟩
    refine ⟨by rw [hl3]; simp, ns ++ [m], by simp, by simp [hl], fun x hx => ?_, hj3⟩
    rcases List.mem_append.mp hx with z | z
    · exact hp x z
    · simp at z; subst z; exact hm
  · rintro acc g ⟨ns, rfl, hl, hp, hj⟩
    exact he ns g (by simpa using hl) hp hj
/-- a comprehension over 0, 1, .. that draws data -/
theorem lc_drawG {β : Type} (den : β → D) {e : FE} {i n : Nat} {E : Exn → Sg → Prop} {Q : List D → Sg → Prop} {g : Sg} {p : β → Prop} (J : Sg → Prop) (h0 : J g)
    (st : ∀ d g, J g → (e (g.set i (.v d))).wp (fun _ _ => False) fun y g3 => ∃ m : β, y = den m ∧ p m ∧ g3.length = g.length ∧ J (g3.set i .un)) (he : ∀ (ns : List β) g, ns.length = n → (∀ m ∈ ns, p m) → J g → Q (ns.map den) g) :
    (lcL (tgN i) yesB e [i] (nats (List.range n)) [] g).wp E Q := by
  refine lc_wpN (fun k acc g => ∃ ns : List β, acc = ns.map den ∧ ns.length = k ∧ (∀ m ∈ ns, p m) ∧ J g) _ [] 0 g ⟨[], rfl, rfl, (fun _ h => nomatch h), h0⟩ ?_ ?_
  · rintro d k acc g _ ⟨ns, rfl, hl, hp, hj⟩
    refine ⟨_, rfl, rfl, ?_⟩
    rw [if_pos rfl]
    refine R.wp_mono (st d g hj) ?_ (fun _ _ h => h)
    rintro y g3 ⟨m, rfl, hm, hl3, hj3⟩
    refine ⟨by rw [hl3]; simp, ns ++ [m], by simp, by simp [hl], fun x hx => ?_, hj3⟩
    rcases List.mem_append.mp hx with z | z
    · exact hp x z
    · simp at z; subst z; exact hm
  · rintro acc g ⟨ns, rfl, hl, hp, hj⟩
    exact he ns g (by simpa using hl) hp hj
/-! places -/
theorem ixN_nat (h : k < n) : ixN n (k : Nat) = some k := by
  unfold ixN
  rw [if_pos (by omega), if_pos (by omega)]; simp
theorem ixN_last (h : 0 < n) : ixN n (-1) = some (n - 1) := by
  unfold ixN
  rw [if_neg (by omega), if_pos (by omega)]; congr 1; omega
theorem ixL {ds : List D} (h : k < ds.length) : ixD (.lst ds) (.int (k : Nat)) = some ds[k] := by
  show atI ds (k : Int) = _
  unfold atI
  rw [ixN_nat h]; simp [h]
theorem ixT {ds : List D} (h : k < ds.length) : ixD (.tup ds) (.int (k : Nat)) = some ds[k] := ixL h
theorem ix_lst [Inhabited α] (h : k < xs.length) : ixD (.lst (xs.map f)) (.int (k : Nat)) = some (f (xs.getD k default)) := by
  rw [ixL (by rw [List.length_map]; exact h)]; simp [h]
theorem ix_tup [Inhabited α] (h : k < xs.length) : ixD (.tup (xs.map f)) (.int (k : Nat)) = some (f (xs.getD k default)) := ix_lst h
theorem ix_nL (h : k < ns.length) : ixD (.lst (nats ns)) (.int (k : Nat)) = some (.int (ns.getD k 0 : Nat)) := ix_lst h
theorem ix_nT (h : k < ns.length) : ixD (.tup (nats ns)) (.int (k : Nat)) = some (.int (ns.getD k 0 : Nat)) := ix_lst h
theorem ix_iL (h : k < is.length) : ixD (.lst (intz is)) (.int (k : Nat)) = some (.int (is.getD k 0)) := ix_lst h
theorem ix_iT (h : k < is.length) : ixD (.tup (intz is)) (.int (k : Nat)) = some (.int (is.getD k 0)) := ix_lst h
theorem ix_lastL {ds : List D} (h : ds ≠ []) : ixD (.lst ds) (.int (-1)) = some (ds.getLast h) := by
  have hl : 0 < ds.length := List.length_pos_iff.mpr h
  show atI ds (-1) = _
  unfold atI
  rw [ixN_last hl]; simp [List.getLast_eq_getElem]
theorem ix_all {ds : List D} {P : D → Prop} {v : Nat} (h : v < ds.length) (hall : ∀ d ∈ ds, P d) : ∃ d, ixD (.tup ds) (.int (v : Nat)) = some d ∧ P d := ⟨_, ixT h, hall _ (List.getElem_mem h)⟩
theorem ix_allL {ds : List D} {P : D → Prop} {v : Nat} (h : v < ds.length) (hall : ∀ d ∈ ds, P d) : ∃ d, ixD (.lst ds) (.int (v : Nat)) = some d ∧ P d := ⟨_, ixL h, hall _ (List.getElem_mem h)⟩
/-- a written table of naturals -/
theorem tabN {v : Nat} (ns : List Nat) (p : Nat → Bool) (h : v < ns.length) (hp : ns.all p = true) : ∃ x, ixD (.tup (nats ns)) (.int (v : Nat)) = some (.int (x : Nat)) ∧ p x = true :=
  ⟨_, ix_nT h, List.all_eq_true.mp hp _ (by rw [List.getD_eq_getElem?_getD, List.getElem?_eq_getElem h]; exact List.getElem_mem h)⟩
/-! sums -/
@[simp] theorem ints_ints : intsD (intz is) = some is := by
  induction is with
  | nil => rfl
  | cons i is ih => show (intD (.int i)).bind _ = _; simp [intD, intsD, ih]
theorem nats_ints : nats ns = intz (ns.map fun (n : Nat) => (n : Int)) := by simp
@[simp] theorem ints_nats : intsD (nats ns) = some (ns.map fun (n : Nat) => (n : Int)) := by rw [nats_ints, ints_ints]
theorem sum_cast : (ns.map fun (n : Nat) => (n : Int)).sum = (ns.sum : Nat) := by
  induction ns with
  | nil => rfl
  | cons n ns ih => simp [ih]
@[simp] theorem sum_nL : sumD [.lst (nats ns)] = some (.int (ns.sum : Nat)) := by
  show (lstI _).bind _ = _
  simp only [lstI, ints_nats, Option.bind_some, sum_cast]
@[simp] theorem sum_nT : sumD [.tup (nats ns)] = some (.int (ns.sum : Nat)) := by
  show (lstI _).bind _ = _
  simp only [lstI, ints_nats, Option.bind_some, sum_cast]
@[simp] theorem sum_iL : sumD [.lst (intz is)] = some (.int is.sum) := by
  show (lstI _).bind _ = _
  simp only [lstI, ints_ints, Option.bind_some]
@[simp] theorem sum_iT : sumD [.tup (intz is)] = some (.int is.sum) := by
  show (lstI _).bind _ = _
  simp only [lstI, ints_ints, Option.bind_some]
@[simp] theorem l_listT {ds : List D} : listD [.tup ds] = some ds := rfl
@[simp] theorem l_tupL {ds : List D} : tupleD [.lst ds] = some (.tup ds) := rfl
@[simp] theorem l_tupT {ds : List D} : tupleD [.tup ds] = some (.tup ds) := rfl
@[simp] theorem l_min2 {i j : Int} : min2D [.int i, .int j] = some (.int (min i j)) := rfl
@[simp] theorem l_max2 {i j : Int} : max2D [.int i, .int j] = some (.int (max i j)) := rfl
theorem min_nL (h : ns ≠ []) : ∃ m : Nat, minD [.lst (nats ns)] = some (.int (m : Nat)) ∧ m ∈ ns ∧ ∀ x ∈ ns, m ≤ x := by
  match ns, h with
  | a :: t, _ =>
    have e : minD [.lst (nats (a :: t))] = some (.int (foldMin (a : Nat) (t.map fun (n : Nat) => (n : Int)))) := by
      show ((lstI (.lst (nats (a :: t)))).bind _) = _
      rw [show lstI (.lst (nats (a :: t))) = some ((a :: t).map fun (n : Nat) => (n : Int)) from ints_nats]; rfl
    obtain ⟨z1, z2⟩ := foldMin_le (t.map fun (n : Nat) => (n : Int)) (a : Nat)
    have hm := foldMin_mem (t.map fun (n : Nat) => (n : Int)) (a : Nat)
    have hm2 : foldMin (a : Nat) (t.map fun (n : Nat) => (n : Int)) ∈ (a :: t).map fun (n : Nat) => (n : Int) := hm
    obtain ⟨m, hmm, em⟩ := List.mem_map.mp hm2
    refine ⟨m, by rw [e, em], hmm, fun x hx => ?_⟩
    rcases List.mem_cons.mp hx with rfl | hx
    · omega
    · have := z2 x (List.mem_map.mpr ⟨x, hx, rfl⟩)
      omega
theorem max_nL (h : ns ≠ []) : ∃ m : Nat, maxD [.lst (nats ns)] = some (.int (m : Nat)) ∧ m ∈ ns ∧ ∀ x ∈ ns, x ≤ m := by
  match ns, h with
  | a :: t, _ =>
    have e : maxD [.lst (nats (a :: t))] = some (.int (foldMax (a : Nat) (t.map fun (n : Nat) => (n : Int)))) := by
      show ((lstI (.lst (nats (a :: t)))).bind _) = _
      rw [show lstI (.lst (nats (a :: t))) = some ((a :: t).map fun (n : Nat) => (n : Int)) from ints_nats]; rfl
    obtain ⟨z1, z2⟩ := foldMax_le (t.map fun (n : Nat) => (n : Int)) (a : Nat)
    have hm := foldMax_mem (t.map fun (n : Nat) => (n : Int)) (a : Nat)
    have hm2 : foldMax (a : Nat) (t.map fun (n : Nat) => (n : Int)) ∈ (a :: t).map fun (n : Nat) => (n : Int) := hm
    obtain ⟨m, hmm, em⟩ := List.mem_map.mp hm2
    refine ⟨m, by rw [e, em], hmm, fun x hx => ?_⟩
    rcases List.mem_cons.mp hx with rfl | hx
    · omega
    · have := z2 x (List.mem_map.mpr ⟨x, hx, rfl⟩)
      omega
theorem zip_self {f : α → β} : ∀ xs : List α, xs.zip (xs.map f) = xs.map fun x => (x, f x)
  | [] => rfl
  | x :: xs => by rw [List.map_cons, List.zip_cons_cons, zip_self xs]; rfl
theorem sum_ratC {f : α → Int} : ∀ xs : List α, (((xs.map f).sum : Int) : Rat) = (xs.map fun x => (f x : Rat)).sum
  | [] => rfl
  | x :: xs => by rw [List.map_cons, List.sum_cons, Rat.intCast_add, sum_ratC xs]; rfl
/-! equal -/
theorem eqbs_map {den : α → D} [DecidableEq α] (h : ∀ a b, D.eqb (den a) (den b) = decide (a = b)) : ∀ xs ys : List α, D.eqbs (xs.map den) (ys.map den) = decide (xs = ys)
  | [], [] => by unfold D.eqbs; rfl
  | [], y :: ys => by unfold D.eqbs; simp
  | x :: xs, [] => by unfold D.eqbs; simp
  | x :: xs, y :: ys => by
    rw [List.map_cons, List.map_cons, q_cons, h, eqbs_map h xs ys]
    by_cases e : x = y
    · subst e; by_cases e2 : xs = ys <;> simp [e2]
    · simp [e]
@[simp] theorem eqb_nats {ms : List Nat} : D.eqbs (nats ns) (nats ms) = decide (ns = ms) := eqbs_map (fun a b => by
  rw [q_int]; by_cases e : a = b
  · subst e; simp
  · have : ¬ (a : Int) = b := by omega
    simp [e, this]) ns ms
@[simp] theorem eqb_ints : D.eqbs (intz is) (intz js) = decide (is = js) := eqbs_map (fun a b => by rw [q_int]; by_cases e : a = b <;> simp [e]) is js
@[simp] theorem eqb_nil {ds : List D} : D.eqbs ds [] = decide (ds = []) := by
  cases ds with
  | nil => unfold D.eqbs; rfl
  | cons d ds => unfold D.eqbs; simp
theorem okN_map {den : α → D} {n : Nat} (h : ∀ a, a ∈ xs → okN n (den a) = true) : (xs.map den).all (okN n) = true := by
  rw [List.all_eq_true]
  intro d hd
  obtain ⟨a, ha, rfl⟩ := List.mem_map.mp hd
  exact h a ha
@[simp] theorem okN_nats {m : Nat} : (nats ns).all (okN m) = true := okN_map fun _ _ => k_int
@[simp] theorem okN_ints {m : Nat} : (intz is).all (okN m) = true := okN_map fun _ _ => k_int
@[simp] theorem mem_nats : memD (.int (k : Nat)) (nats ns) = decide (k ∈ ns) := by
  unfold memD
  induction ns with
  | nil => simp
  | cons n ns ih =>
    rw [show nats (n :: ns) = D.int (n : Nat) :: nats ns from rfl, List.any_cons, ih, q_int]
    by_cases e : n = k
    · subst e; simp
    · have e1 : ¬ (n : Int) = k := by omega
      have e2 : ¬ k = n := by omega
      simp [e1, e2]
@[simp] theorem in_nL : inD (.int (k : Nat)) (.lst (nats ns)) = some (.bl (decide (k ∈ ns))) := by
  show (if (okN 20 _ && _) = true then _ else _) = _
  rw [if_pos (by simp), mem_nats]
@[simp] theorem in_nT : inD (.int (k : Nat)) (.tup (nats ns)) = some (.bl (decide (k ∈ ns))) := in_nL
@[simp] theorem nin_nL : notInD (.int (k : Nat)) (.lst (nats ns)) = some (.bl (!decide (k ∈ ns))) := by
  show (if (okN 20 _ && _) = true then _ else _) = _
  rw [if_pos (by simp), mem_nats]
@[simp] theorem nin_nT : notInD (.int (k : Nat)) (.tup (nats ns)) = some (.bl (!decide (k ∈ ns))) := nin_nL
/-! parts -/
theorem cut_to {ds : List D} (h : k ≤ ds.length) : cut ds none (some (k : Nat)) = ds.take k := by
  have e1 : HT.sIx ds.length 0 none = 0 := rfl
  have e2 : HT.sIx ds.length ds.length (some (k : Nat)) = k := by
    unfold HT.sIx; simp only []; rw [if_neg (by omega)]; simp; omega
  unfold cut
  rw [e1, e2]; simp
theorem cut_from {ds : List D} (h : k ≤ ds.length) : cut ds (some (k : Nat)) none = ds.drop k := by
  have e1 : HT.sIx ds.length ds.length none = ds.length := rfl
  have e2 : HT.sIx ds.length 0 (some (k : Nat)) = k := by
    unfold HT.sIx; simp only []; rw [if_neg (by omega)]; simp; omega
  unfold cut
  rw [e1, e2, List.take_of_length_le]; simp
@[simp] theorem cut_one {d : D} {ds : List D} : cut (d :: ds) none (some 1) = [d] := cut_to (ds := d :: ds) (k := 1) (by simp)
@[simp] theorem cut_one0 : cut [] none (some 1) = [] := cut_to (ds := []) (k := 0) (by simp)
theorem cut_full {ds : List D} : cut ds none none = ds := by
  unfold cut HT.sIx; simp
@[simp] theorem s_sl {fa : Sg → R AV} {lo hi : Sg → R (Option Int)} {g : Sg} : slF fa lo hi g = (fa g).bd fun a g1 => (lo g1).bd fun l g2 => (hi g2).bd fun u g3 => opt ((res g3 a).bind fun d => slD d l u) g3 := rfl
@[simp] theorem sl_L {ds : List D} {l u : Option Int} : slD (.lst ds) l u = some (.lst (cut ds l u)) := rfl
@[simp] theorem sl_T {ds : List D} {l u : Option Int} : slD (.tup ds) l u = some (.tup (cut ds l u)) := rfl
@[simp] theorem s_isOwI {c : Str} {ns : List Str} {ds : List D} : (S.oi c ns ds).isOw = true := rfl
@[simp] theorem s_isOwN {ds : List (List D)} : (S.on ds).isOw = false := rfl
@[simp] theorem d_addL {xs ys : List D} : addD (.lst xs) (.lst ys) = if szOk (xs.length + ys.length) = true then some (.lst (xs ++ ys)) else none := rfl
@[simp] theorem d_addT {xs ys : List D} : addD (.tup xs) (.tup ys) = if szOk (xs.length + ys.length) = true then some (.tup (xs ++ ys)) else none := rfl
@[simp] theorem s_op2L {o : D → D → Option (List D)} {f1 f2 : Sg → R AV} {g : Sg} : op2L o f1 f2 g = (f1 g).bd fun a g1 => (f2 g1).bd fun c g2 => opt ((res g2 a).bind fun d => (res g2 c).bind fun e => o d e) g2 := rfl
@[simp] theorem d_catL {xs ys : List D} : catD (.lst xs) (.lst ys) = if szOk (xs.length + ys.length) = true then some (xs ++ ys) else none := rfl
/-! sorted -/
def srt (ns : List Nat) : List Nat := ns.mergeSort (fun i j => decide (i ≤ j))
theorem srt_perm : (srt ns).Perm ns := List.mergeSort_perm _ _
theorem srt_le : (srt ns).Pairwise (· ≤ ·) := by
  have h := List.pairwise_mergeSort (le := fun i j : Nat => decide (i ≤ j)) (fun a b c h1 h2 => by simp only [decide_eq_true_eq] at *; omega) (fun a b => by simp only [Bool.or_eq_true, decide_eq_true_eq]; omega) ns
  exact h.imp fun h => by simpa using h
theorem srt_lt (h : ns.Nodup) : (srt ns).Pairwise (· < ·) := by
  have h1 := srt_le (ns := ns)
  have h2 : (srt ns).Nodup := srt_perm.nodup_iff.mpr h
  unfold List.Nodup at h2
  exact (h1.and h2).imp fun ⟨a, b⟩ => by omega
theorem srtI_nats : srtI (ns.map fun (n : Nat) => (n : Int)) = (srt ns).map fun (n : Nat) => (n : Int) := by
  refine (srtI_eq (srt_perm.map _) ?_).symm
  exact List.pairwise_map.mpr (srt_le.imp fun h => by omega)
@[simp] theorem sorted_nL : sortedD [.lst (nats ns)] = some (nats (srt ns)) := by
  rw [sortedD, show seqOf (.lst (nats ns)) = some (nats ns) from rfl, Option.bind_some, ints_nats, Option.bind_some, srtI_nats, List.map_map]; rfl
@[simp] theorem sorted_nT : sortedD [.tup (nats ns)] = some (nats (srt ns)) := sorted_nL
theorem le_perm_eqN : ∀ {xs ys : List Nat}, xs.Perm ys → xs.Pairwise (· ≤ ·) → ys.Pairwise (· ≤ ·) → xs = ys := by
  intro xs ys p h1 h2
  exact p.eq_of_pairwise (fun a b _ _ h1 h2 => by omega) h1 h2
theorem srt_eq {ms : List Nat} (p : ms.Perm ns) (h : ms.Pairwise (· ≤ ·)) : srt ns = ms := le_perm_eqN (srt_perm.trans p.symm) srt_le h
theorem srt_self (h : ns.Pairwise (· < ·)) : srt ns = ns := srt_eq (List.Perm.refl _) (h.imp fun h => by omega)
theorem mem_srt : k ∈ srt ns ↔ k ∈ ns := srt_perm.mem_iff
@[simp] theorem srt_length : (srt ns).length = ns.length := srt_perm.length_eq
/-! enumerate, zip -/
theorem enm_map : enm (xs.map f) = xs.zipIdx.map fun p => D.tup [.int (p.2 : Nat), f p.1] := by
  unfold enm
  rw [List.zipIdx_map, List.map_map]; rfl
@[simp] theorem enmD_L {ds : List D} : enmD [.lst ds] = some (enm ds) := rfl
@[simp] theorem enmD_T {ds : List D} : enmD [.tup ds] = some (enm ds) := rfl
theorem zip_map {ys : List β} {g : β → D} : zipD2 (xs.map f) (ys.map g) = (xs.zip ys).map fun p => D.tup [f p.1, g p.2] := by
  unfold zipD2
  rw [List.zipWith_map, List.zip, List.map_zipWith]
@[simp] theorem zipD_L {ds es : List D} : zipD [.lst ds, .lst es] = some (zipD2 ds es) := rfl
@[simp] theorem zipD_T {ds es : List D} : zipD [.tup ds, .tup es] = some (zipD2 ds es) := rfl
@[simp] theorem zipD_LT {ds es : List D} : zipD [.lst ds, .tup es] = some (zipD2 ds es) := rfl
@[simp] theorem zipD_TL {ds es : List D} : zipD [.tup ds, .lst es] = some (zipD2 ds es) := rfl
theorem zipIdx_at {p q : List (α × Nat)} {b : α × Nat} (h : xs.zipIdx = p ++ b :: q) : b.2 = p.length ∧ xs[p.length]? = some b.1 := by
  have h1 : xs.zipIdx[p.length]? = some b := by rw [h]; simp
  rw [List.getElem?_zipIdx] at h1
  obtain ⟨a, ha, rfl⟩ := Option.map_eq_some_iff.mp h1
  exact ⟨by simp, ha⟩
theorem app_at {p q : List α} {b : α} (h : xs = p ++ b :: q) : xs[p.length]? = some b := by rw [h]; simp
theorem le_at {xs : List Nat} (h : xs.Pairwise (· < ·)) : ∀ (i : Nat) (hi : i < xs.length), i ≤ xs[i]
  | 0, _ => Nat.zero_le _
  | i + 1, hi => by
    have h1 := le_at h i (by omega)
    have h2 := List.pairwise_iff_getElem.mp h i (i + 1) (by omega) hi (by omega)
    omega
theorem lot_len {xs : List Nat} {n : Nat} (h : xs.Pairwise (· < ·)) (hb : ∀ b ∈ xs, b < n) : xs.length ≤ n := by
  by_cases z : xs.length = 0
  · omega
  · have h1 := le_at h (xs.length - 1) (by omega)
    have h2 := hb _ (List.getElem_mem (show xs.length - 1 < xs.length by omega))
    omega
theorem lt_nodup {xs : List Nat} (h : xs.Pairwise (· < ·)) : xs.Nodup := h.imp fun h => by omega
theorem lt_not_take {xs : List Nat} {k b : Nat} (h : xs.Pairwise (· < ·)) (hb : xs[k]? = some b) : b ∉ xs.take k := fun hm => by
  obtain ⟨i, hi, e⟩ := List.getElem_of_mem hm
  rw [List.length_take] at hi
  rw [List.getElem_take] at e
  obtain ⟨hk, e2⟩ := List.getElem?_eq_some_iff.mp hb
  have := List.pairwise_iff_getElem.mp h i k (by omega) hk (by omega)
  omega
theorem set_map {i : Nat} {x : α} : (xs.map f).set i (f x) = (xs.set i x).map f := by rw [List.map_set]
end
section
variable {i j : Int} {m k : Nat}
theorem shr_nat : shrD (.int (m : Nat)) (.int (k : Nat)) = some (.int ((m / 2 ^ k : Nat))) := by
  rw [shrD, if_pos (by omega)]; simp
theorem and_one : andD (.int (m : Nat)) (.int 1) = some (.int ((m % 2 : Nat))) := by
  show some (D.int (Builtin.bitAnd (m : Int) 1)) = _
  rw [PyProof.Rows.bitAnd_m1]; rfl
theorem fmod_nat : Int.fmod (m : Nat) (k : Nat) = ((m % k : Nat) : Int) := by rw [Int.fmod_eq_emod_of_nonneg _ (by omega)]; rfl
theorem fdiv_nat : Int.fdiv (m : Nat) (k : Nat) = ((m / k : Nat) : Int) := by rw [Int.fdiv_eq_ediv_of_nonneg _ (by omega)]; rfl
theorem lim_nat {k : Nat} (h : m < 2 ^ k) (hk : k ≤ 2000000 := by decide) : m < LIM := lt_LIM h hk
theorem mul_nat {b : Nat} (h : m * k < 2 ^ b) (hb : b ≤ 2000000 := by decide) : mulD (.int (m : Nat)) (.int (k : Nat)) = some (.int ((m * k : Nat))) := by
  rw [d_mulI, if_pos, Int.natCast_mul]
  have : ((m : Int) * (k : Int)).natAbs = m * k := by rw [Int.natAbs_mul]; simp
  rw [this]; exact lim_nat h hb
theorem fdiv_natD {b : Nat} (h0 : k ≠ 0) (h : k < 2 ^ b) (hb : b ≤ 8000 := by decide) : fdivD (.int (m : Nat)) (.int (k : Nat)) = some (.int ((m / k : Nat))) := by
  rw [d_fdiv, if_pos ⟨by omega, by simpa using lt_LID h hb⟩, fdiv_nat]
theorem mod_natD (h0 : k ≠ 0) : modD (.int (m : Nat)) (.int (k : Nat)) = some (.int ((m % k : Nat))) := by
  rw [d_mod, if_pos (by omega), fmod_nat]
end
end DL

set_option Elab.async false
set_option linter.all false
set_option maxRecDepth 100000
set_option maxHeartbeats 0
/-! the walk (printed by gen.py) -/
namespace K82
open PySem L2 PySem.Spec PyProof.Rows DL
/-- the package's errors -/
abbrev xnames : List Str := ("BadRatio" : Str) :: ("DividedByNought" : Str) :: ("BadCode" : Str) :: ("BadBit" : Str) :: ("NoCheck" : Str) :: ("BadLot" : Str) :: ("BadPrices" : Str) :: ("BadRow" : Str) :: ("BadWord" : Str) :: ("BadOrder" : Str) :: ("UnlikeBits" : Str) :: ("TooMany" : Str) :: ("BadText" : Str) :: ("NotLet" : Str) :: ("BadSheets" : Str) :: ("BadRows" : Str) :: ("BadWeights" : Str) :: ("BadCover" : Str) :: ("BadWire" : Str) :: ("BadMarks" : Str) :: ("UnlikeCode" : Str) :: ("BadTimes" : Str) :: ("LowRest" : Str) :: ("BadCone" : Str) :: ("NotCone" : Str) :: ("BadMany" : Str) :: ("BadReceived" : Str) :: ("OddCount" : Str) :: ("NotStop" : Str) :: ("NotRingless" : Str) :: ("NotCorner" : Str) :: ("BadWeb" : Str) :: ("BadPost" : Str) :: ("NotTies" : Str) :: ("NotRound" : Str) :: ("NotApart" : Str) :: ("NothingLeft" : Str) :: ("NoSmall" : Str) :: ("NoSum" : Str) :: ("NotHidden" : Str) :: ("BadWish" : Str) :: ("BadPool" : Str) :: ("BadPicks" : Str) :: ("BadEdit" : Str) :: ("NothingDone" : Str) :: []
theorem xnc : ("CodeError" : Str) ∉ xnames := by decide +kernel
theorem xi_BadRatio : ("BadRatio" : Str) ∈ xnames := (.head _)
theorem xi_DividedByNought : ("DividedByNought" : Str) ∈ xnames := (.tail _ (.head _))
theorem xi_BadCode : ("BadCode" : Str) ∈ xnames := (.tail _ (.tail _ (.head _)))
theorem xi_BadBit : ("BadBit" : Str) ∈ xnames := (.tail _ (.tail _ (.tail _ (.head _))))
theorem xi_NoCheck : ("NoCheck" : Str) ∈ xnames := (.tail _ (.tail _ (.tail _ (.tail _ (.head _)))))
theorem xi_BadLot : ("BadLot" : Str) ∈ xnames := (.tail _ (.tail _ (.tail _ (.tail _ (.tail _ (.head _))))))
theorem xi_BadPrices : ("BadPrices" : Str) ∈ xnames := (.tail _ (.tail _ (.tail _ (.tail _ (.tail _ (.tail _ (.head _)))))))
theorem xi_BadRow : ("BadRow" : Str) ∈ xnames := (.tail _ (.tail _ (.tail _ (.tail _ (.tail _ (.tail _ (.tail _ (.head _))))))))
theorem xi_BadWord : ("BadWord" : Str) ∈ xnames := (.tail _ (.tail _ (.tail _ (.tail _ (.tail _ (.tail _ (.tail _ (.tail _ (.head _)))))))))
theorem xi_BadOrder : ("BadOrder" : Str) ∈ xnames := (.tail _ (.tail _ (.tail _ (.tail _ (.tail _ (.tail _ (.tail _ (.tail _ (.tail _ (.head _))))))))))
theorem xi_UnlikeBits : ("UnlikeBits" : Str) ∈ xnames := (.tail _ (.tail _ (.tail _ (.tail _ (.tail _ (.tail _ (.tail _ (.tail _ (.tail _ (.tail _ (.head _)))))))))))
theorem xi_TooMany : ("TooMany" : Str) ∈ xnames := (.tail _ (.tail _ (.tail _ (.tail _ (.tail _ (.tail _ (.tail _ (.tail _ (.tail _ (.tail _ (.tail _ (.head _))))))))))))
theorem xi_BadText : ("BadText" : Str) ∈ xnames := (.tail _ (.tail _ (.tail _ (.tail _ (.tail _ (.tail _ (.tail _ (.tail _ (.tail _ (.tail _ (.tail _ (.tail _ (.head _)))))))))))))
theorem xi_NotLet : ("NotLet" : Str) ∈ xnames := (.tail _ (.tail _ (.tail _ (.tail _ (.tail _ (.tail _ (.tail _ (.tail _ (.tail _ (.tail _ (.tail _ (.tail _ (.tail _ (.head _))))))))))))))
theorem xi_BadSheets : ("BadSheets" : Str) ∈ xnames := (.tail _ (.tail _ (.tail _ (.tail _ (.tail _ (.tail _ (.tail _ (.tail _ (.tail _ (.tail _ (.tail _ (.tail _ (.tail _ (.tail _ (.head _)))))))))))))))
theorem xi_BadRows : ("BadRows" : Str) ∈ xnames := (.tail _ (.tail _ (.tail _ (.tail _ (.tail _ (.tail _ (.tail _ (.tail _ (.tail _ (.tail _ (.tail _ (.tail _ (.tail _ (.tail _ (.tail _ (.head _))))))))))))))))
theorem xi_BadWeights : ("BadWeights" : Str) ∈ xnames := (.tail _ (.tail _ (.tail _ (.tail _ (.tail _ (.tail _ (.tail _ (.tail _ (.tail _ (.tail _ (.tail _ (.tail _ (.tail _ (.tail _ (.tail _ (.tail _ (.head _)))))))))))))))))
theorem xi_BadCover : ("BadCover" : Str) ∈ xnames := (.tail _ (.tail _ (.tail _ (.tail _ (.tail _ (.tail _ (.tail _ (.tail _ (.tail _ (.tail _ (.tail _ (.tail _ (.tail _ (.tail _ (.tail _ (.tail _ (.tail _ (.head _))))))))))))))))))
theorem xi_BadWire : ("BadWire" : Str) ∈ xnames := (.tail _ (.tail _ (.tail _ (.tail _ (.tail _ (.tail _ (.tail _ (.tail _ (.tail _ (.tail _ (.tail _ (.tail _ (.tail _ (.tail _ (.tail _ (.tail _ (.tail _ (.tail _ (.head _)))))))))))))))))))
theorem xi_BadMarks : ("BadMarks" : Str) ∈ xnames := (.tail _ (.tail _ (.tail _ (.tail _ (.tail _ (.tail _ (.tail _ (.tail _ (.tail _ (.tail _ (.tail _ (.tail _ (.tail _ (.tail _ (.tail _ (.tail _ (.tail _ (.tail _ (.tail _ (.head _))))))))))))))))))))
theorem xi_UnlikeCode : ("UnlikeCode" : Str) ∈ xnames := (.tail _ (.tail _ (.tail _ (.tail _ (.tail _ (.tail _ (.tail _ (.tail _ (.tail _ (.tail _ (.tail _ (.tail _ (.tail _ (.tail _ (.tail _ (.tail _ (.tail _ (.tail _ (.tail _ (.tail _ (.head _)))))))))))))))))))))
theorem xi_BadTimes : ("BadTimes" : Str) ∈ xnames := (.tail _ (.tail _ (.tail _ (.tail _ (.tail _ (.tail _ (.tail _ (.tail _ (.tail _ (.tail _ (.tail _ (.tail _ (.tail _ (.tail _ (.tail _ (.tail _ (.tail _ (.tail _ (.tail _ (.tail _ (.tail _ (.head _))))))))))))))))))))))
theorem xi_LowRest : ("LowRest" : Str) ∈ xnames := (.tail _ (.tail _ (.tail _ (.tail _ (.tail _ (.tail _ (.tail _ (.tail _ (.tail _ (.tail _ (.tail _ (.tail _ (.tail _ (.tail _ (.tail _ (.tail _ (.tail _ (.tail _ (.tail _ (.tail _ (.tail _ (.tail _ (.head _)))))))))))))))))))))))
theorem xi_BadCone : ("BadCone" : Str) ∈ xnames := (.tail _ (.tail _ (.tail _ (.tail _ (.tail _ (.tail _ (.tail _ (.tail _ (.tail _ (.tail _ (.tail _ (.tail _ (.tail _ (.tail _ (.tail _ (.tail _ (.tail _ (.tail _ (.tail _ (.tail _ (.tail _ (.tail _ (.tail _ (.head _))))))))))))))))))))))))
theorem xi_NotCone : ("NotCone" : Str) ∈ xnames := (.tail _ (.tail _ (.tail _ (.tail _ (.tail _ (.tail _ (.tail _ (.tail _ (.tail _ (.tail _ (.tail _ (.tail _ (.tail _ (.tail _ (.tail _ (.tail _ (.tail _ (.tail _ (.tail _ (.tail _ (.tail _ (.tail _ (.tail _ (.tail _ (.head _)))))))))))))))))))))))))
theorem xi_BadMany : ("BadMany" : Str) ∈ xnames := (.tail _ (.tail _ (.tail _ (.tail _ (.tail _ (.tail _ (.tail _ (.tail _ (.tail _ (.tail _ (.tail _ (.tail _ (.tail _ (.tail _ (.tail _ (.tail _ (.tail _ (.tail _ (.tail _ (.tail _ (.tail _ (.tail _ (.tail _ (.tail _ (.tail _ (.head _))))))))))))))))))))))))))
theorem xi_BadReceived : ("BadReceived" : Str) ∈ xnames := (.tail _ (.tail _ (.tail _ (.tail _ (.tail _ (.tail _ (.tail _ (.tail _ (.tail _ (.tail _ (.tail _ (.tail _ (.tail _ (.tail _ (.tail _ (.tail _ (.tail _ (.tail _ (.tail _ (.tail _ (.tail _ (.tail _ (.tail _ (.tail _ (.tail _ (.tail _ (.head _)))))))))))))))))))))))))))
theorem xi_OddCount : ("OddCount" : Str) ∈ xnames := (.tail _ (.tail _ (.tail _ (.tail _ (.tail _ (.tail _ (.tail _ (.tail _ (.tail _ (.tail _ (.tail _ (.tail _ (.tail _ (.tail _ (.tail _ (.tail _ (.tail _ (.tail _ (.tail _ (.tail _ (.tail _ (.tail _ (.tail _ (.tail _ (.tail _ (.tail _ (.tail _ (.head _))))))))))))))))))))))))))))
theorem xi_NotStop : ("NotStop" : Str) ∈ xnames := (.tail _ (.tail _ (.tail _ (.tail _ (.tail _ (.tail _ (.tail _ (.tail _ (.tail _ (.tail _ (.tail _ (.tail _ (.tail _ (.tail _ (.tail _ (.tail _ (.tail _ (.tail _ (.tail _ (.tail _ (.tail _ (.tail _ (.tail _ (.tail _ (.tail _ (.tail _ (.tail _ (.tail _ (.head _)))))))))))))))))))))))))))))
theorem xi_NotRingless : ("NotRingless" : Str) ∈ xnames := (.tail _ (.tail _ (.tail _ (.tail _ (.tail _ (.tail _ (.tail _ (.tail _ (.tail _ (.tail _ (.tail _ (.tail _ (.tail _ (.tail _ (.tail _ (.tail _ (.tail _ (.tail _ (.tail _ (.tail _ (.tail _ (.tail _ (.tail _ (.tail _ (.tail _ (.tail _ (.tail _ (.tail _ (.tail _ (.head _))))))))))))))))))))))))))))))
theorem xi_NotCorner : ("NotCorner" : Str) ∈ xnames := (.tail _ (.tail _ (.tail _ (.tail _ (.tail _ (.tail _ (.tail _ (.tail _ (.tail _ (.tail _ (.tail _ (.tail _ (.tail _ (.tail _ (.tail _ (.tail _ (.tail _ (.tail _ (.tail _ (.tail _ (.tail _ (.tail _ (.tail _ (.tail _ (.tail _ (.tail _ (.tail _ (.tail _ (.tail _ (.tail _ (.head _)))))))))))))))))))))))))))))))
theorem xi_BadWeb : ("BadWeb" : Str) ∈ xnames := (.tail _ (.tail _ (.tail _ (.tail _ (.tail _ (.tail _ (.tail _ (.tail _ (.tail _ (.tail _ (.tail _ (.tail _ (.tail _ (.tail _ (.tail _ (.tail _ (.tail _ (.tail _ (.tail _ (.tail _ (.tail _ (.tail _ (.tail _ (.tail _ (.tail _ (.tail _ (.tail _ (.tail _ (.tail _ (.tail _ (.tail _ (.head _))))))))))))))))))))))))))))))))
theorem xi_BadPost : ("BadPost" : Str) ∈ xnames := (.tail _ (.tail _ (.tail _ (.tail _ (.tail _ (.tail _ (.tail _ (.tail _ (.tail _ (.tail _ (.tail _ (.tail _ (.tail _ (.tail _ (.tail _ (.tail _ (.tail _ (.tail _ (.tail _ (.tail _ (.tail _ (.tail _ (.tail _ (.tail _ (.tail _ (.tail _ (.tail _ (.tail _ (.tail _ (.tail _ (.tail _ (.tail _ (.head _)))))))))))))))))))))))))))))))))
theorem xi_NotTies : ("NotTies" : Str) ∈ xnames := (.tail _ (.tail _ (.tail _ (.tail _ (.tail _ (.tail _ (.tail _ (.tail _ (.tail _ (.tail _ (.tail _ (.tail _ (.tail _ (.tail _ (.tail _ (.tail _ (.tail _ (.tail _ (.tail _ (.tail _ (.tail _ (.tail _ (.tail _ (.tail _ (.tail _ (.tail _ (.tail _ (.tail _ (.tail _ (.tail _ (.tail _ (.tail _ (.tail _ (.head _))))))))))))))))))))))))))))))))))
theorem xi_NotRound : ("NotRound" : Str) ∈ xnames := (.tail _ (.tail _ (.tail _ (.tail _ (.tail _ (.tail _ (.tail _ (.tail _ (.tail _ (.tail _ (.tail _ (.tail _ (.tail _ (.tail _ (.tail _ (.tail _ (.tail _ (.tail _ (.tail _ (.tail _ (.tail _ (.tail _ (.tail _ (.tail _ (.tail _ (.tail _ (.tail _ (.tail _ (.tail _ (.tail _ (.tail _ (.tail _ (.tail _ (.tail _ (.head _)))))))))))))))))))))))))))))))))))
theorem xi_NotApart : ("NotApart" : Str) ∈ xnames := (.tail _ (.tail _ (.tail _ (.tail _ (.tail _ (.tail _ (.tail _ (.tail _ (.tail _ (.tail _ (.tail _ (.tail _ (.tail _ (.tail _ (.tail _ (.tail _ (.tail _ (.tail _ (.tail _ (.tail _ (.tail _ (.tail _ (.tail _ (.tail _ (.tail _ (.tail _ (.tail _ (.tail _ (.tail _ (.tail _ (.tail _ (.tail _ (.tail _ (.tail _ (.tail _ (.head _))))))))))))))))))))))))))))))))))))
theorem xi_NothingLeft : ("NothingLeft" : Str) ∈ xnames := (.tail _ (.tail _ (.tail _ (.tail _ (.tail _ (.tail _ (.tail _ (.tail _ (.tail _ (.tail _ (.tail _ (.tail _ (.tail _ (.tail _ (.tail _ (.tail _ (.tail _ (.tail _ (.tail _ (.tail _ (.tail _ (.tail _ (.tail _ (.tail _ (.tail _ (.tail _ (.tail _ (.tail _ (.tail _ (.tail _ (.tail _ (.tail _ (.tail _ (.tail _ (.tail _ (.tail _ (.head _)))))))))))))))))))))))))))))))))))))
theorem xi_NoSmall : ("NoSmall" : Str) ∈ xnames := (.tail _ (.tail _ (.tail _ (.tail _ (.tail _ (.tail _ (.tail _ (.tail _ (.tail _ (.tail _ (.tail _ (.tail _ (.tail _ (.tail _ (.tail _ (.tail _ (.tail _ (.tail _ (.tail _ (.tail _ (.tail _ (.tail _ (.tail _ (.tail _ (.tail _ (.tail _ (.tail _ (.tail _ (.tail _ (.tail _ (.tail _ (.tail _ (.tail _ (.tail _ (.tail _ (.tail _ (.tail _ (.head _))))))))))))))))))))))))))))))))))))))
theorem xi_NoSum : ("NoSum" : Str) ∈ xnames := (.tail _ (.tail _ (.tail _ (.tail _ (.tail _ (.tail _ (.tail _ (.tail _ (.tail _ (.tail _ (.tail _ (.tail _ (.tail _ (.tail _ (.tail _ (.tail _ (.tail _ (.tail _ (.tail _ (.tail _ (.tail _ (.tail _ (.tail _ (.tail _ (.tail _ (.tail _ (.tail _ (.tail _ (.tail _ (.tail _ (.tail _ (.tail _ (.tail _ (.tail _ (.tail _ (.tail _ (.tail _ (.tail _ (.head _)))))))))))))))))))))))))))))))))))))))
theorem xi_NotHidden : ("NotHidden" : Str) ∈ xnames := (.tail _ (.tail _ (.tail _ (.tail _ (.tail _ (.tail _ (.tail _ (.tail _ (.tail _ (.tail _ (.tail _ (.tail _ (.tail _ (.tail _ (.tail _ (.tail _ (.tail _ (.tail _ (.tail _ (.tail _ (.tail _ (.tail _ (.tail _ (.tail _ (.tail _ (.tail _ (.tail _ (.tail _ (.tail _ (.tail _ (.tail _ (.tail _ (.tail _ (.tail _ (.tail _ (.tail _ (.tail _ (.tail _ (.tail _ (.head _))))))))))))))))))))))))))))))))))))))))
theorem xi_BadWish : ("BadWish" : Str) ∈ xnames := (.tail _ (.tail _ (.tail _ (.tail _ (.tail _ (.tail _ (.tail _ (.tail _ (.tail _ (.tail _ (.tail _ (.tail _ (.tail _ (.tail _ (.tail _ (.tail _ (.tail _ (.tail _ (.tail _ (.tail _ (.tail _ (.tail _ (.tail _ (.tail _ (.tail _ (.tail _ (.tail _ (.tail _ (.tail _ (.tail _ (.tail _ (.tail _ (.tail _ (.tail _ (.tail _ (.tail _ (.tail _ (.tail _ (.tail _ (.tail _ (.head _)))))))))))))))))))))))))))))))))))))))))
theorem xi_BadPool : ("BadPool" : Str) ∈ xnames := (.tail _ (.tail _ (.tail _ (.tail _ (.tail _ (.tail _ (.tail _ (.tail _ (.tail _ (.tail _ (.tail _ (.tail _ (.tail _ (.tail _ (.tail _ (.tail _ (.tail _ (.tail _ (.tail _ (.tail _ (.tail _ (.tail _ (.tail _ (.tail _ (.tail _ (.tail _ (.tail _ (.tail _ (.tail _ (.tail _ (.tail _ (.tail _ (.tail _ (.tail _ (.tail _ (.tail _ (.tail _ (.tail _ (.tail _ (.tail _ (.tail _ (.head _))))))))))))))))))))))))))))))))))))))))))
theorem xi_BadPicks : ("BadPicks" : Str) ∈ xnames := (.tail _ (.tail _ (.tail _ (.tail _ (.tail _ (.tail _ (.tail _ (.tail _ (.tail _ (.tail _ (.tail _ (.tail _ (.tail _ (.tail _ (.tail _ (.tail _ (.tail _ (.tail _ (.tail _ (.tail _ (.tail _ (.tail _ (.tail _ (.tail _ (.tail _ (.tail _ (.tail _ (.tail _ (.tail _ (.tail _ (.tail _ (.tail _ (.tail _ (.tail _ (.tail _ (.tail _ (.tail _ (.tail _ (.tail _ (.tail _ (.tail _ (.tail _ (.head _)))))))))))))))))))))))))))))))))))))))))))
theorem xi_BadEdit : ("BadEdit" : Str) ∈ xnames := (.tail _ (.tail _ (.tail _ (.tail _ (.tail _ (.tail _ (.tail _ (.tail _ (.tail _ (.tail _ (.tail _ (.tail _ (.tail _ (.tail _ (.tail _ (.tail _ (.tail _ (.tail _ (.tail _ (.tail _ (.tail _ (.tail _ (.tail _ (.tail _ (.tail _ (.tail _ (.tail _ (.tail _ (.tail _ (.tail _ (.tail _ (.tail _ (.tail _ (.tail _ (.tail _ (.tail _ (.tail _ (.tail _ (.tail _ (.tail _ (.tail _ (.tail _ (.tail _ (.head _))))))))))))))))))))))))))))))))))))))))))))
theorem xi_NothingDone : ("NothingDone" : Str) ∈ xnames := (.tail _ (.tail _ (.tail _ (.tail _ (.tail _ (.tail _ (.tail _ (.tail _ (.tail _ (.tail _ (.tail _ (.tail _ (.tail _ (.tail _ (.tail _ (.tail _ (.tail _ (.tail _ (.tail _ (.tail _ (.tail _ (.tail _ (.tail _ (.tail _ (.tail _ (.tail _ (.tail _ (.tail _ (.tail _ (.tail _ (.tail _ (.tail _ (.tail _ (.tail _ (.tail _ (.tail _ (.tail _ (.tail _ (.tail _ (.tail _ (.tail _ (.tail _ (.tail _ (.tail _ (.head _)))))))))))))))))))))))))))))))))))))))))))))
/-! addresses -/
structure Ad where
  c_CodeError : Addr
  f__law_hand : Addr
  fd__law_hand : FuncData
  f__law_stir : Addr
  fd__law_stir : FuncData
  f__law_draw : Addr
  fd__law_draw : FuncData
  f__law_thing : Addr
  fd__law_thing : FuncData
  f__law_all : Addr
  fd__law_all : FuncData
  f__law_flags : Addr
  fd__law_flags : FuncData
  f__law_later_fields_hold : Addr
  fd__law_later_fields_hold : FuncData
  f__law_fields_hold : Addr
  fd__law_fields_hold : FuncData
  f_law : Addr
  fd_law : FuncData
  dummy : Unit := ()
/-- the defs that make lambdas -/
abbrev lamN : List Str := []
abbrev Tb (K : PySem.W.Frag) : List (Addr × Str) := tabL K lamN
/-! what the top has written -/
structure Tx (K : PySem.W.Frag) (mg : Str → Option Value) (base : Heap) (A : Ad) : Prop where
  m__law_hand : mg "_law_hand" = some (.ref A.f__law_hand)
  k__law_hand : PySem.W.keepIn K (.ref A.f__law_hand) = true
  F__law_hand : FunD K "_law_hand" "_law_hand" (defArgs s__law_hand) (defBody s__law_hand) (defScope s__law_hand) [] [] A.f__law_hand A.fd__law_hand
  m__law_stir : mg "_law_stir" = some (.ref A.f__law_stir)
  k__law_stir : PySem.W.keepIn K (.ref A.f__law_stir) = true
  F__law_stir : FunD K "_law_stir" "_law_stir" (defArgs s__law_stir) (defBody s__law_stir) (defScope s__law_stir) [] [] A.f__law_stir A.fd__law_stir
  m__law_draw : mg "_law_draw" = some (.ref A.f__law_draw)
  k__law_draw : PySem.W.keepIn K (.ref A.f__law_draw) = true
  F__law_draw : FunD K "_law_draw" "_law_draw" (defArgs s__law_draw) (defBody s__law_draw) (defScope s__law_draw) [] [] A.f__law_draw A.fd__law_draw
  m__law_thing : mg "_law_thing" = some (.ref A.f__law_thing)
  k__law_thing : PySem.W.keepIn K (.ref A.f__law_thing) = true
  F__law_thing : FunD K "_law_thing" "_law_thing" (defArgs s__law_thing) (defBody s__law_thing) (defScope s__law_thing) [] [] A.f__law_thing A.fd__law_thing
  m__law_all : mg "_law_all" = some (.ref A.f__law_all)
  k__law_all : PySem.W.keepIn K (.ref A.f__law_all) = true
  F__law_all : FunD K "_law_all" "_law_all" (defArgs s__law_all) (defBody s__law_all) (defScope s__law_all) [] [] A.f__law_all A.fd__law_all
  m__law_flags : mg "_law_flags" = some (.ref A.f__law_flags)
  k__law_flags : PySem.W.keepIn K (.ref A.f__law_flags) = true
  F__law_flags : FunD K "_law_flags" "_law_flags" (defArgs s__law_flags) (defBody s__law_flags) (defScope s__law_flags) [] [] A.f__law_flags A.fd__law_flags
  m__law_later_fields_hold : mg "_law_later_fields_hold" = some (.ref A.f__law_later_fields_hold)
  k__law_later_fields_hold : PySem.W.keepIn K (.ref A.f__law_later_fields_hold) = true
  F__law_later_fields_hold : FunD K "_law_later_fields_hold" "_law_later_fields_hold" (defArgs s__law_later_fields_hold) (defBody s__law_later_fields_hold) (defScope s__law_later_fields_hold) [] [] A.f__law_later_fields_hold A.fd__law_later_fields_hold
  m__law_fields_hold : mg "_law_fields_hold" = some (.ref A.f__law_fields_hold)
  k__law_fields_hold : PySem.W.keepIn K (.ref A.f__law_fields_hold) = true
  F__law_fields_hold : FunD K "_law_fields_hold" "_law_fields_hold" (defArgs s__law_fields_hold) (defBody s__law_fields_hold) (defScope s__law_fields_hold) [] [] A.f__law_fields_hold A.fd__law_fields_hold
  m_law : mg "law" = some (.ref A.f_law)
  k_law : PySem.W.keepIn K (.ref A.f_law) = true
  F_law : FunD K "law" "law" (defArgs s_law) (defBody s_law) (defScope s_law) [] [] A.f_law A.fd_law
  z_ValueError : mg "ValueError" = none
  z_abs : mg "abs" = none
  z_enumerate : mg "enumerate" = none
  z_int : mg "int" = none
  z_isinstance : mg "isinstance" = none
  z_len : mg "len" = none
  z_range : mg "range" = none
  z_repr : mg "repr" = none
  z_str : mg "str" = none
  B_CE : CeR K mg "CodeError" A.c_CodeError
  X_BadRatio : ∃ C fI fd, XkR K mg A.c_CodeError "BadRatio" "BadRatio.__init__" sx_BadRatio ["what"] C fI fd
  X_DividedByNought : ∃ C fI fd, XkR K mg A.c_CodeError "DividedByNought" "DividedByNought.__init__" sx_DividedByNought [] C fI fd
  X_BadCode : ∃ C fI fd, XkR K mg A.c_CodeError "BadCode" "BadCode.__init__" sx_BadCode ["what", "place"] C fI fd
  X_BadBit : ∃ C fI fd, XkR K mg A.c_CodeError "BadBit" "BadBit.__init__" sx_BadBit ["bit"] C fI fd
  X_NoCheck : ∃ C fI fd, XkR K mg A.c_CodeError "NoCheck" "NoCheck.__init__" sx_NoCheck ["number"] C fI fd
  X_BadLot : ∃ C fI fd, XkR K mg A.c_CodeError "BadLot" "BadLot.__init__" sx_BadLot [] C fI fd
  X_BadPrices : ∃ C fI fd, XkR K mg A.c_CodeError "BadPrices" "BadPrices.__init__" sx_BadPrices ["place"] C fI fd
  X_BadRow : ∃ C fI fd, XkR K mg A.c_CodeError "BadRow" "BadRow.__init__" sx_BadRow ["place"] C fI fd
  X_BadWord : ∃ C fI fd, XkR K mg A.c_CodeError "BadWord" "BadWord.__init__" sx_BadWord ["number"] C fI fd
  X_BadOrder : ∃ C fI fd, XkR K mg A.c_CodeError "BadOrder" "BadOrder.__init__" sx_BadOrder [] C fI fd
  X_UnlikeBits : ∃ C fI fd, XkR K mg A.c_CodeError "UnlikeBits" "UnlikeBits.__init__" sx_UnlikeBits [] C fI fd
  X_TooMany : ∃ C fI fd, XkR K mg A.c_CodeError "TooMany" "TooMany.__init__" sx_TooMany ["most"] C fI fd
  X_BadText : ∃ C fI fd, XkR K mg A.c_CodeError "BadText" "BadText.__init__" sx_BadText ["place"] C fI fd
  X_NotLet : ∃ C fI fd, XkR K mg A.c_CodeError "NotLet" "NotLet.__init__" sx_NotLet ["number", "lot"] C fI fd
  X_BadSheets : ∃ C fI fd, XkR K mg A.c_CodeError "BadSheets" "BadSheets.__init__" sx_BadSheets ["sheets"] C fI fd
  X_BadRows : ∃ C fI fd, XkR K mg A.c_CodeError "BadRows" "BadRows.__init__" sx_BadRows ["number"] C fI fd
  X_BadWeights : ∃ C fI fd, XkR K mg A.c_CodeError "BadWeights" "BadWeights.__init__" sx_BadWeights ["place"] C fI fd
  X_BadCover : ∃ C fI fd, XkR K mg A.c_CodeError "BadCover" "BadCover.__init__" sx_BadCover ["what", "number"] C fI fd
  X_BadWire : ∃ C fI fd, XkR K mg A.c_CodeError "BadWire" "BadWire.__init__" sx_BadWire [] C fI fd
  X_BadMarks : ∃ C fI fd, XkR K mg A.c_CodeError "BadMarks" "BadMarks.__init__" sx_BadMarks ["place"] C fI fd
  X_UnlikeCode : ∃ C fI fd, XkR K mg A.c_CodeError "UnlikeCode" "UnlikeCode.__init__" sx_UnlikeCode [] C fI fd
  X_BadTimes : ∃ C fI fd, XkR K mg A.c_CodeError "BadTimes" "BadTimes.__init__" sx_BadTimes ["times"] C fI fd
  X_LowRest : ∃ C fI fd, XkR K mg A.c_CodeError "LowRest" "LowRest.__init__" sx_LowRest ["bit"] C fI fd
  X_BadCone : ∃ C fI fd, XkR K mg A.c_CodeError "BadCone" "BadCone.__init__" sx_BadCone ["place"] C fI fd
  X_NotCone : ∃ C fI fd, XkR K mg A.c_CodeError "NotCone" "NotCone.__init__" sx_NotCone ["number", "bit"] C fI fd
  X_BadMany : ∃ C fI fd, XkR K mg A.c_CodeError "BadMany" "BadMany.__init__" sx_BadMany ["many"] C fI fd
  X_BadReceived : ∃ C fI fd, XkR K mg A.c_CodeError "BadReceived" "BadReceived.__init__" sx_BadReceived ["place"] C fI fd
  X_OddCount : ∃ C fI fd, XkR K mg A.c_CodeError "OddCount" "OddCount.__init__" sx_OddCount ["number"] C fI fd
  X_NotStop : ∃ C fI fd, XkR K mg A.c_CodeError "NotStop" "NotStop.__init__" sx_NotStop ["number"] C fI fd
  X_NotRingless : ∃ C fI fd, XkR K mg A.c_CodeError "NotRingless" "NotRingless.__init__" sx_NotRingless ["ring"] C fI fd
  X_NotCorner : ∃ C fI fd, XkR K mg A.c_CodeError "NotCorner" "NotCorner.__init__" sx_NotCorner ["row"] C fI fd
  X_BadWeb : ∃ C fI fd, XkR K mg A.c_CodeError "BadWeb" "BadWeb.__init__" sx_BadWeb ["what", "place"] C fI fd
  X_BadPost : ∃ C fI fd, XkR K mg A.c_CodeError "BadPost" "BadPost.__init__" sx_BadPost ["post"] C fI fd
  X_NotTies : ∃ C fI fd, XkR K mg A.c_CodeError "NotTies" "NotTies.__init__" sx_NotTies ["bit"] C fI fd
  X_NotRound : ∃ C fI fd, XkR K mg A.c_CodeError "NotRound" "NotRound.__init__" sx_NotRound ["what"] C fI fd
  X_NotApart : ∃ C fI fd, XkR K mg A.c_CodeError "NotApart" "NotApart.__init__" sx_NotApart ["what"] C fI fd
  X_NothingLeft : ∃ C fI fd, XkR K mg A.c_CodeError "NothingLeft" "NothingLeft.__init__" sx_NothingLeft [] C fI fd
  X_NoSmall : ∃ C fI fd, XkR K mg A.c_CodeError "NoSmall" "NoSmall.__init__" sx_NoSmall ["which"] C fI fd
  X_NoSum : ∃ C fI fd, XkR K mg A.c_CodeError "NoSum" "NoSum.__init__" sx_NoSum [] C fI fd
  X_NotHidden : ∃ C fI fd, XkR K mg A.c_CodeError "NotHidden" "NotHidden.__init__" sx_NotHidden ["what"] C fI fd
  X_BadWish : ∃ C fI fd, XkR K mg A.c_CodeError "BadWish" "BadWish.__init__" sx_BadWish ["number"] C fI fd
  X_BadPool : ∃ C fI fd, XkR K mg A.c_CodeError "BadPool" "BadPool.__init__" sx_BadPool ["place"] C fI fd
  X_BadPicks : ∃ C fI fd, XkR K mg A.c_CodeError "BadPicks" "BadPicks.__init__" sx_BadPicks [] C fI fd
  X_BadEdit : ∃ C fI fd, XkR K mg A.c_CodeError "BadEdit" "BadEdit.__init__" sx_BadEdit ["place"] C fI fd
  X_NothingDone : ∃ C fI fd, XkR K mg A.c_CodeError "NothingDone" "NothingDone.__init__" sx_NothingDone [] C fI fd
  rd_CodeError : ClX.CRead K A.c_CodeError (.type "type")
  vi_CodeError : PySem.W.findCls K (.ref A.c_CodeError) (.type "type") "__init__" = some (.val (.builtin "ValueError.__init__"))
  dummy : True := trivial
section
variable {P : Program} {w : World} {K : PySem.W.Frag} {mg : Str → Option Value} {base : Heap} {A : Ad}
theorem xN (T : Tx K mg base A) : ∀ n ∈ xnames, XkN K mg A.c_CodeError n := List.forall_mem_cons.mpr ⟨xkN_of T.X_BadRatio, List.forall_mem_cons.mpr ⟨xkN_of T.X_DividedByNought, List.forall_mem_cons.mpr ⟨xkN_of T.X_BadCode, List.forall_mem_cons.mpr ⟨xkN_of T.X_BadBit, List.forall_mem_cons.mpr ⟨xkN_of T.X_NoCheck, List.forall_mem_cons.mpr ⟨xkN_of T.X_BadLot, List.forall_mem_cons.mpr ⟨xkN_of T.X_BadPrices, List.forall_mem_cons.mpr ⟨xkN_of T.X_BadRow, List.forall_mem_cons.mpr ⟨xkN_of T.X_BadWord, List.forall_mem_cons.mpr ⟨xkN_of T.X_BadOrder, List.forall_mem_cons.mpr ⟨xkN_of T.X_UnlikeBits, List.forall_mem_cons.mpr ⟨xkN_of T.X_TooMany, List.forall_mem_cons.mpr ⟨xkN_of T.X_BadText, List.forall_mem_cons.mpr ⟨xkN_of T.X_NotLet, List.forall_mem_cons.mpr ⟨xkN_of T.X_BadSheets, List.forall_mem_cons.mpr ⟨xkN_of T.X_BadRows, List.forall_mem_cons.mpr ⟨xkN_of T.X_BadWeights, List.forall_mem_cons.mpr ⟨xkN_of T.X_BadCover, List.forall_mem_cons.mpr ⟨xkN_of T.X_BadWire, List.forall_mem_cons.mpr ⟨xkN_of T.X_BadMarks, List.forall_mem_cons.mpr ⟨xkN_of T.X_UnlikeCode, List.forall_mem_cons.mpr ⟨xkN_of T.X_BadTimes, List.forall_mem_cons.mpr ⟨xkN_of T.X_LowRest, List.forall_mem_cons.mpr ⟨xkN_of T.X_BadCone, List.forall_mem_cons.mpr ⟨xkN_of T.X_NotCone, List.forall_mem_cons.mpr ⟨xkN_of T.X_BadMany, List.forall_mem_cons.mpr ⟨xkN_of T.X_BadReceived, List.forall_mem_cons.mpr ⟨xkN_of T.X_OddCount, List.forall_mem_cons.mpr ⟨xkN_of T.X_NotStop, List.forall_mem_cons.mpr ⟨xkN_of T.X_NotRingless, List.forall_mem_cons.mpr ⟨xkN_of T.X_NotCorner, List.forall_mem_cons.mpr ⟨xkN_of T.X_BadWeb, List.forall_mem_cons.mpr ⟨xkN_of T.X_BadPost, List.forall_mem_cons.mpr ⟨xkN_of T.X_NotTies, List.forall_mem_cons.mpr ⟨xkN_of T.X_NotRound, List.forall_mem_cons.mpr ⟨xkN_of T.X_NotApart, List.forall_mem_cons.mpr ⟨xkN_of T.X_NothingLeft, List.forall_mem_cons.mpr ⟨xkN_of T.X_NoSmall, List.forall_mem_cons.mpr ⟨xkN_of T.X_NoSum, List.forall_mem_cons.mpr ⟨xkN_of T.X_NotHidden, List.forall_mem_cons.mpr ⟨xkN_of T.X_BadWish, List.forall_mem_cons.mpr ⟨xkN_of T.X_BadPool, List.forall_mem_cons.mpr ⟨xkN_of T.X_BadPicks, List.forall_mem_cons.mpr ⟨xkN_of T.X_BadEdit, List.forall_mem_cons.mpr ⟨xkN_of T.X_NothingDone, fun _ h => nomatch h⟩⟩⟩⟩⟩⟩⟩⟩⟩⟩⟩⟩⟩⟩⟩⟩⟩⟩⟩⟩⟩⟩⟩⟩⟩⟩⟩⟩⟩⟩⟩⟩⟩⟩⟩⟩⟩⟩⟩⟩⟩⟩⟩⟩⟩
theorem xvf_place (T : Tx K mg base A) : ∀ c ∈ (["BadCode", "BadPrices", "BadRow", "BadText", "BadWeights", "BadMarks", "BadCone", "BadReceived", "BadWeb", "BadPool", "BadEdit"] : List Str), ∀ C, mg c = some (.ref C) → XfC K C ∧ PySem.W.findIn K (.ref C) "place" = some none := List.forall_mem_cons.mpr ⟨xv_row T.X_BadCode (.tail _ (.head _)), List.forall_mem_cons.mpr ⟨xv_row T.X_BadPrices (.head _), List.forall_mem_cons.mpr ⟨xv_row T.X_BadRow (.head _), List.forall_mem_cons.mpr ⟨xv_row T.X_BadText (.head _), List.forall_mem_cons.mpr ⟨xv_row T.X_BadWeights (.head _), List.forall_mem_cons.mpr ⟨xv_row T.X_BadMarks (.head _), List.forall_mem_cons.mpr ⟨xv_row T.X_BadCone (.head _), List.forall_mem_cons.mpr ⟨xv_row T.X_BadReceived (.head _), List.forall_mem_cons.mpr ⟨xv_row T.X_BadWeb (.tail _ (.head _)), List.forall_mem_cons.mpr ⟨xv_row T.X_BadPool (.head _), List.forall_mem_cons.mpr ⟨xv_row T.X_BadEdit (.head _), fun _ h => nomatch h⟩⟩⟩⟩⟩⟩⟩⟩⟩⟩⟩
theorem xvf_number (T : Tx K mg base A) : ∀ c ∈ (["NoCheck", "BadWord", "NotLet", "BadRows", "BadCover", "NotCone", "OddCount", "NotStop", "BadWish"] : List Str), ∀ C, mg c = some (.ref C) → XfC K C ∧ PySem.W.findIn K (.ref C) "number" = some none := List.forall_mem_cons.mpr ⟨xv_row T.X_NoCheck (.head _), List.forall_mem_cons.mpr ⟨xv_row T.X_BadWord (.head _), List.forall_mem_cons.mpr ⟨xv_row T.X_NotLet (.head _), List.forall_mem_cons.mpr ⟨xv_row T.X_BadRows (.head _), List.forall_mem_cons.mpr ⟨xv_row T.X_BadCover (.tail _ (.head _)), List.forall_mem_cons.mpr ⟨xv_row T.X_NotCone (.head _), List.forall_mem_cons.mpr ⟨xv_row T.X_OddCount (.head _), List.forall_mem_cons.mpr ⟨xv_row T.X_NotStop (.head _), List.forall_mem_cons.mpr ⟨xv_row T.X_BadWish (.head _), fun _ h => nomatch h⟩⟩⟩⟩⟩⟩⟩⟩⟩
theorem xvf_what (T : Tx K mg base A) : ∀ c ∈ (["BadRatio", "BadCode", "BadCover", "BadWeb", "NotRound", "NotApart", "NotHidden"] : List Str), ∀ C, mg c = some (.ref C) → XfC K C ∧ PySem.W.findIn K (.ref C) "what" = some none := List.forall_mem_cons.mpr ⟨xv_row T.X_BadRatio (.head _), List.forall_mem_cons.mpr ⟨xv_row T.X_BadCode (.head _), List.forall_mem_cons.mpr ⟨xv_row T.X_BadCover (.head _), List.forall_mem_cons.mpr ⟨xv_row T.X_BadWeb (.head _), List.forall_mem_cons.mpr ⟨xv_row T.X_NotRound (.head _), List.forall_mem_cons.mpr ⟨xv_row T.X_NotApart (.head _), List.forall_mem_cons.mpr ⟨xv_row T.X_NotHidden (.head _), fun _ h => nomatch h⟩⟩⟩⟩⟩⟩⟩
theorem xvf_which (T : Tx K mg base A) : ∀ c ∈ (["NoSmall"] : List Str), ∀ C, mg c = some (.ref C) → XfC K C ∧ PySem.W.findIn K (.ref C) "which" = some none := List.forall_mem_cons.mpr ⟨xv_row T.X_NoSmall (.head _), fun _ h => nomatch h⟩
theorem xvf_bit (T : Tx K mg base A) : ∀ c ∈ (["BadBit", "LowRest", "NotCone", "NotTies"] : List Str), ∀ C, mg c = some (.ref C) → XfC K C ∧ PySem.W.findIn K (.ref C) "bit" = some none := List.forall_mem_cons.mpr ⟨xv_row T.X_BadBit (.head _), List.forall_mem_cons.mpr ⟨xv_row T.X_LowRest (.head _), List.forall_mem_cons.mpr ⟨xv_row T.X_NotCone (.tail _ (.head _)), List.forall_mem_cons.mpr ⟨xv_row T.X_NotTies (.head _), fun _ h => nomatch h⟩⟩⟩⟩
theorem xvf_post (T : Tx K mg base A) : ∀ c ∈ (["BadPost"] : List Str), ∀ C, mg c = some (.ref C) → XfC K C ∧ PySem.W.findIn K (.ref C) "post" = some none := List.forall_mem_cons.mpr ⟨xv_row T.X_BadPost (.head _), fun _ h => nomatch h⟩
theorem xvf_row (T : Tx K mg base A) : ∀ c ∈ (["NotCorner"] : List Str), ∀ C, mg c = some (.ref C) → XfC K C ∧ PySem.W.findIn K (.ref C) "row" = some none := List.forall_mem_cons.mpr ⟨xv_row T.X_NotCorner (.head _), fun _ h => nomatch h⟩
theorem xvf_ring (T : Tx K mg base A) : ∀ c ∈ (["NotRingless"] : List Str), ∀ C, mg c = some (.ref C) → XfC K C ∧ PySem.W.findIn K (.ref C) "ring" = some none := List.forall_mem_cons.mpr ⟨xv_row T.X_NotRingless (.head _), fun _ h => nomatch h⟩
theorem xvf_many (T : Tx K mg base A) : ∀ c ∈ (["BadMany"] : List Str), ∀ C, mg c = some (.ref C) → XfC K C ∧ PySem.W.findIn K (.ref C) "many" = some none := List.forall_mem_cons.mpr ⟨xv_row T.X_BadMany (.head _), fun _ h => nomatch h⟩
theorem xvf_times (T : Tx K mg base A) : ∀ c ∈ (["BadTimes"] : List Str), ∀ C, mg c = some (.ref C) → XfC K C ∧ PySem.W.findIn K (.ref C) "times" = some none := List.forall_mem_cons.mpr ⟨xv_row T.X_BadTimes (.head _), fun _ h => nomatch h⟩
theorem xvf_sheets (T : Tx K mg base A) : ∀ c ∈ (["BadSheets"] : List Str), ∀ C, mg c = some (.ref C) → XfC K C ∧ PySem.W.findIn K (.ref C) "sheets" = some none := List.forall_mem_cons.mpr ⟨xv_row T.X_BadSheets (.head _), fun _ h => nomatch h⟩
theorem xvf_lot (T : Tx K mg base A) : ∀ c ∈ (["NotLet"] : List Str), ∀ C, mg c = some (.ref C) → XfC K C ∧ PySem.W.findIn K (.ref C) "lot" = some none := List.forall_mem_cons.mpr ⟨xv_row T.X_NotLet (.tail _ (.head _)), fun _ h => nomatch h⟩
theorem xvf_most (T : Tx K mg base A) : ∀ c ∈ (["TooMany"] : List Str), ∀ C, mg c = some (.ref C) → XfC K C ∧ PySem.W.findIn K (.ref C) "most" = some none := List.forall_mem_cons.mpr ⟨xv_row T.X_TooMany (.head _), fun _ h => nomatch h⟩
theorem scx_BadRatio : FnScope ["self", "what"] ["self", "what"] (defScope sx_BadRatio) := ⟨rfl, rfl, rfl, by decide +kernel, rfl, by decide +kernel, by decide +kernel⟩
theorem okx_BadRatio (T : Tx K mg base A) : ∀ C fI fd, XkR K mg A.c_CodeError "BadRatio" "BadRatio.__init__" sx_BadRatio ["what"] C fI fd → FnOk P w K mg base (L2.CX P w) 1 fI fd ["self", "what"] (spMkA K C ["what"] []) ∧ Binds K fd ["self", "what"] [] := fun C fI fd R0 =>
 ⟨ok_initA1 R0.oex (R0.nf _ (.head _)) R0.F scx_BadRatio (skipA (skip_sup (m := "the top or the bottom of the ratio is wrong"))) fun cdv Ar outer s H E hr => (pss_cons (ps_expr (pe_cinit (by rfl) T.B_CE.m T.rd_CodeError T.vi_CodeError (pa_cons (pv 0) (pa_cons pe_str pa_nil)))) (pss_one (ps_ost (pv 0) (pv 1)))), R0.F.bindsN fun _ _ _ _ _ _ us hl => match us, hl with | [_, _], _ => rfl⟩
theorem scx_DividedByNought : FnScope ["self"] ["self"] (defScope sx_DividedByNought) := ⟨rfl, rfl, rfl, by decide +kernel, rfl, by decide +kernel, by decide +kernel⟩
theorem okx_DividedByNought (T : Tx K mg base A) : ∀ C fI fd, XkR K mg A.c_CodeError "DividedByNought" "DividedByNought.__init__" sx_DividedByNought [] C fI fd → FnOk P w K mg base (L2.CX P w) 1 fI fd ["self"] (spMkA K C [] []) ∧ Binds K fd ["self"] [] := fun C fI fd R0 =>
 ⟨ok_initA0 R0.oex  R0.F scx_DividedByNought (skipA (skip_sup (m := "the divisor is zero"))) fun cdv Ar outer s H E hr => (pss_one (ps_expr (pe_cinit (by rfl) T.B_CE.m T.rd_CodeError T.vi_CodeError (pa_cons (pv 0) (pa_cons pe_str pa_nil))))), R0.F.bindsN fun _ _ _ _ _ _ us hl => match us, hl with | [_], _ => rfl⟩
theorem scx_BadCode : FnScope ["self", "what", "place"] ["self", "what", "place"] (defScope sx_BadCode) := ⟨rfl, rfl, rfl, by decide +kernel, rfl, by decide +kernel, by decide +kernel⟩
theorem okx_BadCode (T : Tx K mg base A) : ∀ C fI fd, XkR K mg A.c_CodeError "BadCode" "BadCode.__init__" sx_BadCode ["what", "place"] C fI fd → FnOk P w K mg base (L2.CX P w) 1 fI fd ["self", "what", "place"] (spMkA K C ["what", "place"] []) ∧ Binds K fd ["self", "what", "place"] [] := fun C fI fd R0 =>
 ⟨ok_initA2 R0.oex (R0.nf _ (.head _)) (R0.nf _ (.tail _ (.head _))) R0.F scx_BadCode (skipA (skip_sup (m := "the bits or the checks of the code are wrong"))) fun cdv Ar outer s H E hr => (pss_cons (ps_expr (pe_cinit (by rfl) T.B_CE.m T.rd_CodeError T.vi_CodeError (pa_cons (pv 0) (pa_cons pe_str pa_nil)))) (pss_cons (ps_ost (pv 0) (pv 1)) (pss_one (ps_ost (pv 0) (pv 2))))), R0.F.bindsN fun _ _ _ _ _ _ us hl => match us, hl with | [_, _, _], _ => rfl⟩
theorem scx_BadBit : FnScope ["self", "bit"] ["self", "bit"] (defScope sx_BadBit) := ⟨rfl, rfl, rfl, by decide +kernel, rfl, by decide +kernel, by decide +kernel⟩
theorem okx_BadBit (T : Tx K mg base A) : ∀ C fI fd, XkR K mg A.c_CodeError "BadBit" "BadBit.__init__" sx_BadBit ["bit"] C fI fd → FnOk P w K mg base (L2.CX P w) 1 fI fd ["self", "bit"] (spMkA K C ["bit"] []) ∧ Binds K fd ["self", "bit"] [] := fun C fI fd R0 =>
 ⟨ok_initA1 R0.oex (R0.nf _ (.head _)) R0.F scx_BadBit (skipA (skip_sup (m := "this is no bit of the code"))) fun cdv Ar outer s H E hr => (pss_cons (ps_expr (pe_cinit (by rfl) T.B_CE.m T.rd_CodeError T.vi_CodeError (pa_cons (pv 0) (pa_cons pe_str pa_nil)))) (pss_one (ps_ost (pv 0) (pv 1)))), R0.F.bindsN fun _ _ _ _ _ _ us hl => match us, hl with | [_, _], _ => rfl⟩
theorem scx_NoCheck : FnScope ["self", "number"] ["self", "number"] (defScope sx_NoCheck) := ⟨rfl, rfl, rfl, by decide +kernel, rfl, by decide +kernel, by decide +kernel⟩
theorem okx_NoCheck (T : Tx K mg base A) : ∀ C fI fd, XkR K mg A.c_CodeError "NoCheck" "NoCheck.__init__" sx_NoCheck ["number"] C fI fd → FnOk P w K mg base (L2.CX P w) 1 fI fd ["self", "number"] (spMkA K C ["number"] []) ∧ Binds K fd ["self", "number"] [] := fun C fI fd R0 =>
 ⟨ok_initA1 R0.oex (R0.nf _ (.head _)) R0.F scx_NoCheck (skipA (skip_sup (m := "this is no number of a check of the code"))) fun cdv Ar outer s H E hr => (pss_cons (ps_expr (pe_cinit (by rfl) T.B_CE.m T.rd_CodeError T.vi_CodeError (pa_cons (pv 0) (pa_cons pe_str pa_nil)))) (pss_one (ps_ost (pv 0) (pv 1)))), R0.F.bindsN fun _ _ _ _ _ _ us hl => match us, hl with | [_, _], _ => rfl⟩
theorem scx_BadLot : FnScope ["self"] ["self"] (defScope sx_BadLot) := ⟨rfl, rfl, rfl, by decide +kernel, rfl, by decide +kernel, by decide +kernel⟩
theorem okx_BadLot (T : Tx K mg base A) : ∀ C fI fd, XkR K mg A.c_CodeError "BadLot" "BadLot.__init__" sx_BadLot [] C fI fd → FnOk P w K mg base (L2.CX P w) 1 fI fd ["self"] (spMkA K C [] []) ∧ Binds K fd ["self"] [] := fun C fI fd R0 =>
 ⟨ok_initA0 R0.oex  R0.F scx_BadLot (skipA (skip_sup (m := "the lot is wrong here"))) fun cdv Ar outer s H E hr => (pss_one (ps_expr (pe_cinit (by rfl) T.B_CE.m T.rd_CodeError T.vi_CodeError (pa_cons (pv 0) (pa_cons pe_str pa_nil))))), R0.F.bindsN fun _ _ _ _ _ _ us hl => match us, hl with | [_], _ => rfl⟩
theorem scx_BadPrices : FnScope ["self", "place"] ["self", "place"] (defScope sx_BadPrices) := ⟨rfl, rfl, rfl, by decide +kernel, rfl, by decide +kernel, by decide +kernel⟩
theorem okx_BadPrices (T : Tx K mg base A) : ∀ C fI fd, XkR K mg A.c_CodeError "BadPrices" "BadPrices.__init__" sx_BadPrices ["place"] C fI fd → FnOk P w K mg base (L2.CX P w) 1 fI fd ["self", "place"] (spMkA K C ["place"] []) ∧ Binds K fd ["self", "place"] [] := fun C fI fd R0 =>
 ⟨ok_initA1 R0.oex (R0.nf _ (.head _)) R0.F scx_BadPrices (skipA (skip_sup (m := "the prices are wrong"))) fun cdv Ar outer s H E hr => (pss_cons (ps_expr (pe_cinit (by rfl) T.B_CE.m T.rd_CodeError T.vi_CodeError (pa_cons (pv 0) (pa_cons pe_str pa_nil)))) (pss_one (ps_ost (pv 0) (pv 1)))), R0.F.bindsN fun _ _ _ _ _ _ us hl => match us, hl with | [_, _], _ => rfl⟩
theorem scx_BadRow : FnScope ["self", "place"] ["self", "place"] (defScope sx_BadRow) := ⟨rfl, rfl, rfl, by decide +kernel, rfl, by decide +kernel, by decide +kernel⟩
theorem okx_BadRow (T : Tx K mg base A) : ∀ C fI fd, XkR K mg A.c_CodeError "BadRow" "BadRow.__init__" sx_BadRow ["place"] C fI fd → FnOk P w K mg base (L2.CX P w) 1 fI fd ["self", "place"] (spMkA K C ["place"] []) ∧ Binds K fd ["self", "place"] [] := fun C fI fd R0 =>
 ⟨ok_initA1 R0.oex (R0.nf _ (.head _)) R0.F scx_BadRow (skipA (skip_sup (m := "the row of shares is wrong"))) fun cdv Ar outer s H E hr => (pss_cons (ps_expr (pe_cinit (by rfl) T.B_CE.m T.rd_CodeError T.vi_CodeError (pa_cons (pv 0) (pa_cons pe_str pa_nil)))) (pss_one (ps_ost (pv 0) (pv 1)))), R0.F.bindsN fun _ _ _ _ _ _ us hl => match us, hl with | [_, _], _ => rfl⟩
theorem scx_BadWord : FnScope ["self", "number"] ["self", "number"] (defScope sx_BadWord) := ⟨rfl, rfl, rfl, by decide +kernel, rfl, by decide +kernel, by decide +kernel⟩
theorem okx_BadWord (T : Tx K mg base A) : ∀ C fI fd, XkR K mg A.c_CodeError "BadWord" "BadWord.__init__" sx_BadWord ["number"] C fI fd → FnOk P w K mg base (L2.CX P w) 1 fI fd ["self", "number"] (spMkA K C ["number"] []) ∧ Binds K fd ["self", "number"] [] := fun C fI fd R0 =>
 ⟨ok_initA1 R0.oex (R0.nf _ (.head _)) R0.F scx_BadWord (skipA (skip_sup (m := "this is no word of the code"))) fun cdv Ar outer s H E hr => (pss_cons (ps_expr (pe_cinit (by rfl) T.B_CE.m T.rd_CodeError T.vi_CodeError (pa_cons (pv 0) (pa_cons pe_str pa_nil)))) (pss_one (ps_ost (pv 0) (pv 1)))), R0.F.bindsN fun _ _ _ _ _ _ us hl => match us, hl with | [_, _], _ => rfl⟩
theorem scx_BadOrder : FnScope ["self"] ["self"] (defScope sx_BadOrder) := ⟨rfl, rfl, rfl, by decide +kernel, rfl, by decide +kernel, by decide +kernel⟩
theorem okx_BadOrder (T : Tx K mg base A) : ∀ C fI fd, XkR K mg A.c_CodeError "BadOrder" "BadOrder.__init__" sx_BadOrder [] C fI fd → FnOk P w K mg base (L2.CX P w) 1 fI fd ["self"] (spMkA K C [] []) ∧ Binds K fd ["self"] [] := fun C fI fd R0 =>
 ⟨ok_initA0 R0.oex  R0.F scx_BadOrder (skipA (skip_sup (m := "the order does not name each place once"))) fun cdv Ar outer s H E hr => (pss_one (ps_expr (pe_cinit (by rfl) T.B_CE.m T.rd_CodeError T.vi_CodeError (pa_cons (pv 0) (pa_cons pe_str pa_nil))))), R0.F.bindsN fun _ _ _ _ _ _ us hl => match us, hl with | [_], _ => rfl⟩
theorem scx_UnlikeBits : FnScope ["self"] ["self"] (defScope sx_UnlikeBits) := ⟨rfl, rfl, rfl, by decide +kernel, rfl, by decide +kernel, by decide +kernel⟩
theorem okx_UnlikeBits (T : Tx K mg base A) : ∀ C fI fd, XkR K mg A.c_CodeError "UnlikeBits" "UnlikeBits.__init__" sx_UnlikeBits [] C fI fd → FnOk P w K mg base (L2.CX P w) 1 fI fd ["self"] (spMkA K C [] []) ∧ Binds K fd ["self"] [] := fun C fI fd R0 =>
 ⟨ok_initA0 R0.oex  R0.F scx_UnlikeBits (skipA (skip_sup (m := "the codes have unlike counts of bits"))) fun cdv Ar outer s H E hr => (pss_one (ps_expr (pe_cinit (by rfl) T.B_CE.m T.rd_CodeError T.vi_CodeError (pa_cons (pv 0) (pa_cons pe_str pa_nil))))), R0.F.bindsN fun _ _ _ _ _ _ us hl => match us, hl with | [_], _ => rfl⟩
theorem scx_TooMany : FnScope ["self", "most"] ["self", "most"] (defScope sx_TooMany) := ⟨rfl, rfl, rfl, by decide +kernel, rfl, by decide +kernel, by decide +kernel⟩
theorem okx_TooMany (T : Tx K mg base A) : ∀ C fI fd, XkR K mg A.c_CodeError "TooMany" "TooMany.__init__" sx_TooMany ["most"] C fI fd → FnOk P w K mg base (L2.CX P w) 1 fI fd ["self", "most"] (spMkA K C ["most"] []) ∧ Binds K fd ["self", "most"] [] := fun C fI fd R0 =>
 ⟨ok_initA1 R0.oex (R0.nf _ (.head _)) R0.F scx_TooMany (skipA (skip_sup (m := "the code is beyond the bound of this function"))) fun cdv Ar outer s H E hr => (pss_cons (ps_expr (pe_cinit (by rfl) T.B_CE.m T.rd_CodeError T.vi_CodeError (pa_cons (pv 0) (pa_cons pe_str pa_nil)))) (pss_one (ps_ost (pv 0) (pv 1)))), R0.F.bindsN fun _ _ _ _ _ _ us hl => match us, hl with | [_, _], _ => rfl⟩
theorem scx_BadText : FnScope ["self", "place"] ["self", "place"] (defScope sx_BadText) := ⟨rfl, rfl, rfl, by decide +kernel, rfl, by decide +kernel, by decide +kernel⟩
theorem okx_BadText (T : Tx K mg base A) : ∀ C fI fd, XkR K mg A.c_CodeError "BadText" "BadText.__init__" sx_BadText ["place"] C fI fd → FnOk P w K mg base (L2.CX P w) 1 fI fd ["self", "place"] (spMkA K C ["place"] []) ∧ Binds K fd ["self", "place"] [] := fun C fI fd R0 =>
 ⟨ok_initA1 R0.oex (R0.nf _ (.head _)) R0.F scx_BadText (skipA (skip_sup (m := "the text cannot be read"))) fun cdv Ar outer s H E hr => (pss_cons (ps_expr (pe_cinit (by rfl) T.B_CE.m T.rd_CodeError T.vi_CodeError (pa_cons (pv 0) (pa_cons pe_str pa_nil)))) (pss_one (ps_ost (pv 0) (pv 1)))), R0.F.bindsN fun _ _ _ _ _ _ us hl => match us, hl with | [_, _], _ => rfl⟩
theorem scx_NotLet : FnScope ["self", "number", "lot"] ["self", "number", "lot"] (defScope sx_NotLet) := ⟨rfl, rfl, rfl, by decide +kernel, rfl, by decide +kernel, by decide +kernel⟩
theorem okx_NotLet (T : Tx K mg base A) : ∀ C fI fd, XkR K mg A.c_CodeError "NotLet" "NotLet.__init__" sx_NotLet ["number", "lot"] C fI fd → FnOk P w K mg base (L2.CX P w) 1 fI fd ["self", "number", "lot"] (spMkA K C ["number", "lot"] []) ∧ Binds K fd ["self", "number", "lot"] [] := fun C fI fd R0 =>
 ⟨ok_initA2 R0.oex (R0.nf _ (.head _)) (R0.nf _ (.tail _ (.head _))) R0.F scx_NotLet (skipA skip_none) fun cdv Ar outer s H E hr => (skip_pss (pss_cons (ps_ost (pv 0) (pv 1)) (pss_one (ps_ost (pv 0) (pv 2))))), R0.F.bindsN fun _ _ _ _ _ _ us hl => match us, hl with | [_, _, _], _ => rfl⟩
theorem scx_BadSheets : FnScope ["self", "sheets"] ["self", "sheets"] (defScope sx_BadSheets) := ⟨rfl, rfl, rfl, by decide +kernel, rfl, by decide +kernel, by decide +kernel⟩
theorem okx_BadSheets (T : Tx K mg base A) : ∀ C fI fd, XkR K mg A.c_CodeError "BadSheets" "BadSheets.__init__" sx_BadSheets ["sheets"] C fI fd → FnOk P w K mg base (L2.CX P w) 1 fI fd ["self", "sheets"] (spMkA K C ["sheets"] []) ∧ Binds K fd ["self", "sheets"] [] := fun C fI fd R0 =>
 ⟨ok_initA1 R0.oex (R0.nf _ (.head _)) R0.F scx_BadSheets (skipA skip_none) fun cdv Ar outer s H E hr => (skip_pss (pss_one (ps_ost (pv 0) (pv 1)))), R0.F.bindsN fun _ _ _ _ _ _ us hl => match us, hl with | [_, _], _ => rfl⟩
theorem scx_BadRows : FnScope ["self", "number"] ["self", "number"] (defScope sx_BadRows) := ⟨rfl, rfl, rfl, by decide +kernel, rfl, by decide +kernel, by decide +kernel⟩
theorem okx_BadRows (T : Tx K mg base A) : ∀ C fI fd, XkR K mg A.c_CodeError "BadRows" "BadRows.__init__" sx_BadRows ["number"] C fI fd → FnOk P w K mg base (L2.CX P w) 1 fI fd ["self", "number"] (spMkA K C ["number"] []) ∧ Binds K fd ["self", "number"] [] := fun C fI fd R0 =>
 ⟨ok_initA1 R0.oex (R0.nf _ (.head _)) R0.F scx_BadRows (skipA skip_none) fun cdv Ar outer s H E hr => (skip_pss (pss_one (ps_ost (pv 0) (pv 1)))), R0.F.bindsN fun _ _ _ _ _ _ us hl => match us, hl with | [_, _], _ => rfl⟩
theorem scx_BadWeights : FnScope ["self", "place"] ["self", "place"] (defScope sx_BadWeights) := ⟨rfl, rfl, rfl, by decide +kernel, rfl, by decide +kernel, by decide +kernel⟩
theorem okx_BadWeights (T : Tx K mg base A) : ∀ C fI fd, XkR K mg A.c_CodeError "BadWeights" "BadWeights.__init__" sx_BadWeights ["place"] C fI fd → FnOk P w K mg base (L2.CX P w) 1 fI fd ["self", "place"] (spMkA K C ["place"] []) ∧ Binds K fd ["self", "place"] [] := fun C fI fd R0 =>
 ⟨ok_initA1 R0.oex (R0.nf _ (.head _)) R0.F scx_BadWeights (skipA skip_none) fun cdv Ar outer s H E hr => (skip_pss (pss_one (ps_ost (pv 0) (pv 1)))), R0.F.bindsN fun _ _ _ _ _ _ us hl => match us, hl with | [_, _], _ => rfl⟩
theorem scx_BadCover : FnScope ["self", "what", "number"] ["self", "what", "number"] (defScope sx_BadCover) := ⟨rfl, rfl, rfl, by decide +kernel, rfl, by decide +kernel, by decide +kernel⟩
theorem okx_BadCover (T : Tx K mg base A) : ∀ C fI fd, XkR K mg A.c_CodeError "BadCover" "BadCover.__init__" sx_BadCover ["what", "number"] C fI fd → FnOk P w K mg base (L2.CX P w) 1 fI fd ["self", "what", "number"] (spMkA K C ["what", "number"] []) ∧ Binds K fd ["self", "what", "number"] [] := fun C fI fd R0 =>
 ⟨ok_initA2 R0.oex (R0.nf _ (.head _)) (R0.nf _ (.tail _ (.head _))) R0.F scx_BadCover (skipA (skip_sup (m := "no cover"))) fun cdv Ar outer s H E hr => (pss_cons (ps_expr (pe_cinit (by rfl) T.B_CE.m T.rd_CodeError T.vi_CodeError (pa_cons (pv 0) (pa_cons pe_str pa_nil)))) (pss_cons (ps_ost (pv 0) (pv 1)) (pss_one (ps_ost (pv 0) (pv 2))))), R0.F.bindsN fun _ _ _ _ _ _ us hl => match us, hl with | [_, _, _], _ => rfl⟩
theorem scx_BadWire : FnScope ["self"] ["self"] (defScope sx_BadWire) := ⟨rfl, rfl, rfl, by decide +kernel, rfl, by decide +kernel, by decide +kernel⟩
theorem okx_BadWire (T : Tx K mg base A) : ∀ C fI fd, XkR K mg A.c_CodeError "BadWire" "BadWire.__init__" sx_BadWire [] C fI fd → FnOk P w K mg base (L2.CX P w) 1 fI fd ["self"] (spMkA K C [] []) ∧ Binds K fd ["self"] [] := fun C fI fd R0 =>
 ⟨ok_initA0 R0.oex  R0.F scx_BadWire (skipA (skip_sup (m := "no wire to cross"))) fun cdv Ar outer s H E hr => (pss_one (ps_expr (pe_cinit (by rfl) T.B_CE.m T.rd_CodeError T.vi_CodeError (pa_cons (pv 0) (pa_cons pe_str pa_nil))))), R0.F.bindsN fun _ _ _ _ _ _ us hl => match us, hl with | [_], _ => rfl⟩
theorem scx_BadMarks : FnScope ["self", "place"] ["self", "place"] (defScope sx_BadMarks) := ⟨rfl, rfl, rfl, by decide +kernel, rfl, by decide +kernel, by decide +kernel⟩
theorem okx_BadMarks (T : Tx K mg base A) : ∀ C fI fd, XkR K mg A.c_CodeError "BadMarks" "BadMarks.__init__" sx_BadMarks ["place"] C fI fd → FnOk P w K mg base (L2.CX P w) 1 fI fd ["self", "place"] (spMkA K C ["place"] []) ∧ Binds K fd ["self", "place"] [] := fun C fI fd R0 =>
 ⟨ok_initA1 R0.oex (R0.nf _ (.head _)) R0.F scx_BadMarks (skipA (skip_sup (m := "no marks"))) fun cdv Ar outer s H E hr => (pss_cons (ps_expr (pe_cinit (by rfl) T.B_CE.m T.rd_CodeError T.vi_CodeError (pa_cons (pv 0) (pa_cons pe_str pa_nil)))) (pss_one (ps_ost (pv 0) (pv 1)))), R0.F.bindsN fun _ _ _ _ _ _ us hl => match us, hl with | [_, _], _ => rfl⟩
theorem scx_UnlikeCode : FnScope ["self"] ["self"] (defScope sx_UnlikeCode) := ⟨rfl, rfl, rfl, by decide +kernel, rfl, by decide +kernel, by decide +kernel⟩
theorem okx_UnlikeCode (T : Tx K mg base A) : ∀ C fI fd, XkR K mg A.c_CodeError "UnlikeCode" "UnlikeCode.__init__" sx_UnlikeCode [] C fI fd → FnOk P w K mg base (L2.CX P w) 1 fI fd ["self"] (spMkA K C [] []) ∧ Binds K fd ["self"] [] := fun C fI fd R0 =>
 ⟨ok_initA0 R0.oex  R0.F scx_UnlikeCode (skipA (skip_sup (m := "unlike codes"))) fun cdv Ar outer s H E hr => (pss_one (ps_expr (pe_cinit (by rfl) T.B_CE.m T.rd_CodeError T.vi_CodeError (pa_cons (pv 0) (pa_cons pe_str pa_nil))))), R0.F.bindsN fun _ _ _ _ _ _ us hl => match us, hl with | [_], _ => rfl⟩
theorem scx_BadTimes : FnScope ["self", "times"] ["self", "times"] (defScope sx_BadTimes) := ⟨rfl, rfl, rfl, by decide +kernel, rfl, by decide +kernel, by decide +kernel⟩
theorem okx_BadTimes (T : Tx K mg base A) : ∀ C fI fd, XkR K mg A.c_CodeError "BadTimes" "BadTimes.__init__" sx_BadTimes ["times"] C fI fd → FnOk P w K mg base (L2.CX P w) 1 fI fd ["self", "times"] (spMkA K C ["times"] []) ∧ Binds K fd ["self", "times"] [] := fun C fI fd R0 =>
 ⟨ok_initA1 R0.oex (R0.nf _ (.head _)) R0.F scx_BadTimes (skipA (skip_sup (m := "times must be a whole number from 0"))) fun cdv Ar outer s H E hr => (pss_cons (ps_expr (pe_cinit (by rfl) T.B_CE.m T.rd_CodeError T.vi_CodeError (pa_cons (pv 0) (pa_cons pe_str pa_nil)))) (pss_one (ps_ost (pv 0) (pv 1)))), R0.F.bindsN fun _ _ _ _ _ _ us hl => match us, hl with | [_, _], _ => rfl⟩
theorem scx_LowRest : FnScope ["self", "bit"] ["self", "bit"] (defScope sx_LowRest) := ⟨rfl, rfl, rfl, by decide +kernel, rfl, by decide +kernel, by decide +kernel⟩
theorem okx_LowRest (T : Tx K mg base A) : ∀ C fI fd, XkR K mg A.c_CodeError "LowRest" "LowRest.__init__" sx_LowRest ["bit"] C fI fd → FnOk P w K mg base (L2.CX P w) 1 fI fd ["self", "bit"] (spMkA K C ["bit"] []) ∧ Binds K fd ["self", "bit"] [] := fun C fI fd R0 =>
 ⟨ok_initA1 R0.oex (R0.nf _ (.head _)) R0.F scx_LowRest (skipA (skip_sup (m := "a rest is below 0"))) fun cdv Ar outer s H E hr => (pss_cons (ps_expr (pe_cinit (by rfl) T.B_CE.m T.rd_CodeError T.vi_CodeError (pa_cons (pv 0) (pa_cons pe_str pa_nil)))) (pss_one (ps_ost (pv 0) (pv 1)))), R0.F.bindsN fun _ _ _ _ _ _ us hl => match us, hl with | [_, _], _ => rfl⟩
theorem scx_BadCone : FnScope ["self", "place"] ["self", "place"] (defScope sx_BadCone) := ⟨rfl, rfl, rfl, by decide +kernel, rfl, by decide +kernel, by decide +kernel⟩
theorem okx_BadCone (T : Tx K mg base A) : ∀ C fI fd, XkR K mg A.c_CodeError "BadCone" "BadCone.__init__" sx_BadCone ["place"] C fI fd → FnOk P w K mg base (L2.CX P w) 1 fI fd ["self", "place"] (spMkA K C ["place"] [0]) ∧ Binds K fd ["self", "place"] [] := fun C fI fd R0 =>
 ⟨ok_initA1 R0.oex (R0.nf _ (.head _)) R0.F scx_BadCone (skip_fsA [.s "not a whole number from 0 at place ", .f 0] rfl (by decide)) fun cdv Ar outer s H E hr => (pss_cons (ps_expr (pe_cinit (by rfl) T.B_CE.m T.rd_CodeError T.vi_CodeError (pa_cons (pv 0) (pa_cons (pe_joined (PJ.cons pe_str (PJ.cons (pe_fmtA hr (pv 1)) PJ.nil))) pa_nil)))) (pss_one (ps_ost (pv 0) (pv 1)))), R0.F.bindsN fun _ _ _ _ _ _ us hl => match us, hl with | [_, _], _ => rfl⟩
theorem scx_NotCone : FnScope ["self", "number", "bit"] ["self", "number", "bit"] (defScope sx_NotCone) := ⟨rfl, rfl, rfl, by decide +kernel, rfl, by decide +kernel, by decide +kernel⟩
theorem okx_NotCone (T : Tx K mg base A) : ∀ C fI fd, XkR K mg A.c_CodeError "NotCone" "NotCone.__init__" sx_NotCone ["number", "bit"] C fI fd → FnOk P w K mg base (L2.CX P w) 1 fI fd ["self", "number", "bit"] (spMkA K C ["number", "bit"] [0, 1]) ∧ Binds K fd ["self", "number", "bit"] [] := fun C fI fd R0 =>
 ⟨ok_initA2 R0.oex (R0.nf _ (.head _)) (R0.nf _ (.tail _ (.head _))) R0.F scx_NotCone (skip_fsA [.s "check ", .f 0, .s ": the entry of bit ", .f 1, .s " is too great"] rfl (by decide)) fun cdv Ar outer s H E hr => (pss_cons (ps_expr (pe_cinit (by rfl) T.B_CE.m T.rd_CodeError T.vi_CodeError (pa_cons (pv 0) (pa_cons (pe_joined (PJ.cons pe_str (PJ.cons (pe_fmtA hr (pv 1)) (PJ.cons pe_str (PJ.cons (pe_fmtA hr (pv 2)) (PJ.cons pe_str PJ.nil)))))) pa_nil)))) (pss_cons (ps_ost (pv 0) (pv 1)) (pss_one (ps_ost (pv 0) (pv 2))))), R0.F.bindsN fun _ _ _ _ _ _ us hl => match us, hl with | [_, _, _], _ => rfl⟩
theorem scx_BadMany : FnScope ["self", "many"] ["self", "many"] (defScope sx_BadMany) := ⟨rfl, rfl, rfl, by decide +kernel, rfl, by decide +kernel, by decide +kernel⟩
theorem okx_BadMany (T : Tx K mg base A) : ∀ C fI fd, XkR K mg A.c_CodeError "BadMany" "BadMany.__init__" sx_BadMany ["many"] C fI fd → FnOk P w K mg base (L2.CX P w) 1 fI fd ["self", "many"] (spMkA K C ["many"] []) ∧ Binds K fd ["self", "many"] [] := fun C fI fd R0 =>
 ⟨ok_initA1 R0.oex (R0.nf _ (.head _)) R0.F scx_BadMany (skipA (skip_sup (m := "not a number of bits"))) fun cdv Ar outer s H E hr => (pss_cons (ps_expr (pe_cinit (by rfl) T.B_CE.m T.rd_CodeError T.vi_CodeError (pa_cons (pv 0) (pa_cons pe_str pa_nil)))) (pss_one (ps_ost (pv 0) (pv 1)))), R0.F.bindsN fun _ _ _ _ _ _ us hl => match us, hl with | [_, _], _ => rfl⟩
theorem scx_BadReceived : FnScope ["self", "place"] ["self", "place"] (defScope sx_BadReceived) := ⟨rfl, rfl, rfl, by decide +kernel, rfl, by decide +kernel, by decide +kernel⟩
theorem okx_BadReceived (T : Tx K mg base A) : ∀ C fI fd, XkR K mg A.c_CodeError "BadReceived" "BadReceived.__init__" sx_BadReceived ["place"] C fI fd → FnOk P w K mg base (L2.CX P w) 1 fI fd ["self", "place"] (spMkA K C ["place"] [0]) ∧ Binds K fd ["self", "place"] [] := fun C fI fd R0 =>
 ⟨ok_initA1 R0.oex (R0.nf _ (.head _)) R0.F scx_BadReceived (skip_fsA [.s "wrong entry received at place ", .f 0] rfl (by decide)) fun cdv Ar outer s H E hr => (pss_cons (ps_expr (pe_cinit (by rfl) T.B_CE.m T.rd_CodeError T.vi_CodeError (pa_cons (pv 0) (pa_cons (pe_joined (PJ.cons pe_str (PJ.cons (pe_fmtA hr (pv 1)) PJ.nil))) pa_nil)))) (pss_one (ps_ost (pv 0) (pv 1)))), R0.F.bindsN fun _ _ _ _ _ _ us hl => match us, hl with | [_, _], _ => rfl⟩
theorem scx_OddCount : FnScope ["self", "number"] ["self", "number"] (defScope sx_OddCount) := ⟨rfl, rfl, rfl, by decide +kernel, rfl, by decide +kernel, by decide +kernel⟩
theorem okx_OddCount (T : Tx K mg base A) : ∀ C fI fd, XkR K mg A.c_CodeError "OddCount" "OddCount.__init__" sx_OddCount ["number"] C fI fd → FnOk P w K mg base (L2.CX P w) 1 fI fd ["self", "number"] (spMkA K C ["number"] [0]) ∧ Binds K fd ["self", "number"] [] := fun C fI fd R0 =>
 ⟨ok_initA1 R0.oex (R0.nf _ (.head _)) R0.F scx_OddCount (skip_fsA [.s "check ", .f 0, .s ": the sum is odd"] rfl (by decide)) fun cdv Ar outer s H E hr => (pss_cons (ps_expr (pe_cinit (by rfl) T.B_CE.m T.rd_CodeError T.vi_CodeError (pa_cons (pv 0) (pa_cons (pe_joined (PJ.cons pe_str (PJ.cons (pe_fmtA hr (pv 1)) (PJ.cons pe_str PJ.nil)))) pa_nil)))) (pss_one (ps_ost (pv 0) (pv 1)))), R0.F.bindsN fun _ _ _ _ _ _ us hl => match us, hl with | [_, _], _ => rfl⟩
theorem scx_NotStop : FnScope ["self", "number"] ["self", "number"] (defScope sx_NotStop) := ⟨rfl, rfl, rfl, by decide +kernel, rfl, by decide +kernel, by decide +kernel⟩
theorem okx_NotStop (T : Tx K mg base A) : ∀ C fI fd, XkR K mg A.c_CodeError "NotStop" "NotStop.__init__" sx_NotStop ["number"] C fI fd → FnOk P w K mg base (L2.CX P w) 1 fI fd ["self", "number"] (spMkA K C ["number"] []) ∧ Binds K fd ["self", "number"] [] := fun C fI fd R0 =>
 ⟨ok_initA1 R0.oex (R0.nf _ (.head _)) R0.F scx_NotStop (skipA (skip_sup (m := "a check meets the lot in just one bit"))) fun cdv Ar outer s H E hr => (pss_cons (ps_expr (pe_cinit (by rfl) T.B_CE.m T.rd_CodeError T.vi_CodeError (pa_cons (pv 0) (pa_cons pe_str pa_nil)))) (pss_one (ps_ost (pv 0) (pv 1)))), R0.F.bindsN fun _ _ _ _ _ _ us hl => match us, hl with | [_, _], _ => rfl⟩
theorem scx_NotRingless : FnScope ["self", "ring"] ["self", "ring"] (defScope sx_NotRingless) := ⟨rfl, rfl, rfl, by decide +kernel, rfl, by decide +kernel, by decide +kernel⟩
theorem okx_NotRingless (T : Tx K mg base A) : ∀ C fI fd, XkR K mg A.c_CodeError "NotRingless" "NotRingless.__init__" sx_NotRingless ["ring"] C fI fd → FnOk P w K mg base (L2.CX P w) 1 fI fd ["self", "ring"] (spMkA K C ["ring"] []) ∧ Binds K fd ["self", "ring"] [] := fun C fI fd R0 =>
 ⟨ok_initA1 R0.oex (R0.nf _ (.head _)) R0.F scx_NotRingless (skipA (skip_sup (m := "the web of the code has a ring"))) fun cdv Ar outer s H E hr => (pss_cons (ps_expr (pe_cinit (by rfl) T.B_CE.m T.rd_CodeError T.vi_CodeError (pa_cons (pv 0) (pa_cons pe_str pa_nil)))) (pss_one (ps_ost (pv 0) (pv 1)))), R0.F.bindsN fun _ _ _ _ _ _ us hl => match us, hl with | [_, _], _ => rfl⟩
theorem scx_NotCorner : FnScope ["self", "row"] ["self", "row"] (defScope sx_NotCorner) := ⟨rfl, rfl, rfl, by decide +kernel, rfl, by decide +kernel, by decide +kernel⟩
theorem okx_NotCorner (T : Tx K mg base A) : ∀ C fI fd, XkR K mg A.c_CodeError "NotCorner" "NotCorner.__init__" sx_NotCorner ["row"] C fI fd → FnOk P w K mg base (L2.CX P w) 1 fI fd ["self", "row"] (spMkA K C ["row"] []) ∧ Binds K fd ["self", "row"] [] := fun C fI fd R0 =>
 ⟨ok_initA1 R0.oex (R0.nf _ (.head _)) R0.F scx_NotCorner (skipA (skip_sup (m := "the row is not a corner"))) fun cdv Ar outer s H E hr => (pss_cons (ps_expr (pe_cinit (by rfl) T.B_CE.m T.rd_CodeError T.vi_CodeError (pa_cons (pv 0) (pa_cons pe_str pa_nil)))) (pss_one (ps_ost (pv 0) (pv 1)))), R0.F.bindsN fun _ _ _ _ _ _ us hl => match us, hl with | [_, _], _ => rfl⟩
theorem scx_BadWeb : FnScope ["self", "what", "place"] ["self", "what", "place"] (defScope sx_BadWeb) := ⟨rfl, rfl, rfl, by decide +kernel, rfl, by decide +kernel, by decide +kernel⟩
theorem okx_BadWeb (T : Tx K mg base A) : ∀ C fI fd, XkR K mg A.c_CodeError "BadWeb" "BadWeb.__init__" sx_BadWeb ["what", "place"] C fI fd → FnOk P w K mg base (L2.CX P w) 1 fI fd ["self", "what", "place"] (spMkA K C ["what", "place"] [0, 1]) ∧ Binds K fd ["self", "what", "place"] [] := fun C fI fd R0 =>
 ⟨ok_initA2 R0.oex (R0.nf _ (.head _)) (R0.nf _ (.tail _ (.head _))) R0.F scx_BadWeb (skip_fsA [.s "not a web: ", .f 0, .s " at ", .f 1] rfl (by decide)) fun cdv Ar outer s H E hr => (pss_cons (ps_expr (pe_cinit (by rfl) T.B_CE.m T.rd_CodeError T.vi_CodeError (pa_cons (pv 0) (pa_cons (pe_joined (PJ.cons pe_str (PJ.cons (pe_fmtA hr (pv 1)) (PJ.cons pe_str (PJ.cons (pe_fmtA hr (pv 2)) PJ.nil))))) pa_nil)))) (pss_cons (ps_ost (pv 0) (pv 1)) (pss_one (ps_ost (pv 0) (pv 2))))), R0.F.bindsN fun _ _ _ _ _ _ us hl => match us, hl with | [_, _, _], _ => rfl⟩
theorem scx_BadPost : FnScope ["self", "post"] ["self", "post"] (defScope sx_BadPost) := ⟨rfl, rfl, rfl, by decide +kernel, rfl, by decide +kernel, by decide +kernel⟩
theorem okx_BadPost (T : Tx K mg base A) : ∀ C fI fd, XkR K mg A.c_CodeError "BadPost" "BadPost.__init__" sx_BadPost ["post"] C fI fd → FnOk P w K mg base (L2.CX P w) 1 fI fd ["self", "post"] (spMkA K C ["post"] []) ∧ Binds K fd ["self", "post"] [] := fun C fI fd R0 =>
 ⟨ok_initA1 R0.oex (R0.nf _ (.head _)) R0.F scx_BadPost (skipA (skip_sup (m := "not a post of the web"))) fun cdv Ar outer s H E hr => (pss_cons (ps_expr (pe_cinit (by rfl) T.B_CE.m T.rd_CodeError T.vi_CodeError (pa_cons (pv 0) (pa_cons pe_str pa_nil)))) (pss_one (ps_ost (pv 0) (pv 1)))), R0.F.bindsN fun _ _ _ _ _ _ us hl => match us, hl with | [_, _], _ => rfl⟩
theorem scx_NotTies : FnScope ["self", "bit"] ["self", "bit"] (defScope sx_NotTies) := ⟨rfl, rfl, rfl, by decide +kernel, rfl, by decide +kernel, by decide +kernel⟩
theorem okx_NotTies (T : Tx K mg base A) : ∀ C fI fd, XkR K mg A.c_CodeError "NotTies" "NotTies.__init__" sx_NotTies ["bit"] C fI fd → FnOk P w K mg base (L2.CX P w) 1 fI fd ["self", "bit"] (spMkA K C ["bit"] [0]) ∧ Binds K fd ["self", "bit"] [] := fun C fI fd R0 =>
 ⟨ok_initA1 R0.oex (R0.nf _ (.head _)) R0.F scx_NotTies (skip_fsA [.s "bit ", .f 0, .s " does not stand in exactly two checks"] rfl (by decide)) fun cdv Ar outer s H E hr => (pss_cons (ps_expr (pe_cinit (by rfl) T.B_CE.m T.rd_CodeError T.vi_CodeError (pa_cons (pv 0) (pa_cons (pe_joined (PJ.cons pe_str (PJ.cons (pe_fmtA hr (pv 1)) (PJ.cons pe_str PJ.nil)))) pa_nil)))) (pss_one (ps_ost (pv 0) (pv 1)))), R0.F.bindsN fun _ _ _ _ _ _ us hl => match us, hl with | [_, _], _ => rfl⟩
theorem scx_NotRound : FnScope ["self", "what"] ["self", "what"] (defScope sx_NotRound) := ⟨rfl, rfl, rfl, by decide +kernel, rfl, by decide +kernel, by decide +kernel⟩
theorem okx_NotRound (T : Tx K mg base A) : ∀ C fI fd, XkR K mg A.c_CodeError "NotRound" "NotRound.__init__" sx_NotRound ["what"] C fI fd → FnOk P w K mg base (L2.CX P w) 1 fI fd ["self", "what"] (spMkA K C ["what"] [0]) ∧ Binds K fd ["self", "what"] [] := fun C fI fd R0 =>
 ⟨ok_initA1 R0.oex (R0.nf _ (.head _)) R0.F scx_NotRound (skip_fsA [.s "not a round: ", .f 0] rfl (by decide)) fun cdv Ar outer s H E hr => (pss_cons (ps_expr (pe_cinit (by rfl) T.B_CE.m T.rd_CodeError T.vi_CodeError (pa_cons (pv 0) (pa_cons (pe_joined (PJ.cons pe_str (PJ.cons (pe_fmtA hr (pv 1)) PJ.nil))) pa_nil)))) (pss_one (ps_ost (pv 0) (pv 1)))), R0.F.bindsN fun _ _ _ _ _ _ us hl => match us, hl with | [_, _], _ => rfl⟩
theorem scx_NotApart : FnScope ["self", "what"] ["self", "what"] (defScope sx_NotApart) := ⟨rfl, rfl, rfl, by decide +kernel, rfl, by decide +kernel, by decide +kernel⟩
theorem okx_NotApart (T : Tx K mg base A) : ∀ C fI fd, XkR K mg A.c_CodeError "NotApart" "NotApart.__init__" sx_NotApart ["what"] C fI fd → FnOk P w K mg base (L2.CX P w) 1 fI fd ["self", "what"] (spMkA K C ["what"] [0]) ∧ Binds K fd ["self", "what"] [] := fun C fI fd R0 =>
 ⟨ok_initA1 R0.oex (R0.nf _ (.head _)) R0.F scx_NotApart (skip_fsA [.s "not two rounds apart: ", .f 0] rfl (by decide)) fun cdv Ar outer s H E hr => (pss_cons (ps_expr (pe_cinit (by rfl) T.B_CE.m T.rd_CodeError T.vi_CodeError (pa_cons (pv 0) (pa_cons (pe_joined (PJ.cons pe_str (PJ.cons (pe_fmtA hr (pv 1)) PJ.nil))) pa_nil)))) (pss_one (ps_ost (pv 0) (pv 1)))), R0.F.bindsN fun _ _ _ _ _ _ us hl => match us, hl with | [_, _], _ => rfl⟩
theorem scx_NothingLeft : FnScope ["self"] ["self"] (defScope sx_NothingLeft) := ⟨rfl, rfl, rfl, by decide +kernel, rfl, by decide +kernel, by decide +kernel⟩
theorem okx_NothingLeft (T : Tx K mg base A) : ∀ C fI fd, XkR K mg A.c_CodeError "NothingLeft" "NothingLeft.__init__" sx_NothingLeft [] C fI fd → FnOk P w K mg base (L2.CX P w) 1 fI fd ["self"] (spMkA K C [] []) ∧ Binds K fd ["self"] [] := fun C fI fd R0 =>
 ⟨ok_initA0 R0.oex  R0.F scx_NothingLeft (skipA (skip_sup (m := "no bit is left"))) fun cdv Ar outer s H E hr => (pss_one (ps_expr (pe_cinit (by rfl) T.B_CE.m T.rd_CodeError T.vi_CodeError (pa_cons (pv 0) (pa_cons pe_str pa_nil))))), R0.F.bindsN fun _ _ _ _ _ _ us hl => match us, hl with | [_], _ => rfl⟩
theorem scx_NoSmall : FnScope ["self", "which"] ["self", "which"] (defScope sx_NoSmall) := ⟨rfl, rfl, rfl, by decide +kernel, rfl, by decide +kernel, by decide +kernel⟩
theorem okx_NoSmall (T : Tx K mg base A) : ∀ C fI fd, XkR K mg A.c_CodeError "NoSmall" "NoSmall.__init__" sx_NoSmall ["which"] C fI fd → FnOk P w K mg base (L2.CX P w) 1 fI fd ["self", "which"] (spMkA K C ["which"] []) ∧ Binds K fd ["self", "which"] [] := fun C fI fd R0 =>
 ⟨ok_initA1 R0.oex (R0.nf _ (.head _)) R0.F scx_NoSmall (skipA (skip_sup (m := "no small code"))) fun cdv Ar outer s H E hr => (pss_cons (ps_expr (pe_cinit (by rfl) T.B_CE.m T.rd_CodeError T.vi_CodeError (pa_cons (pv 0) (pa_cons pe_str pa_nil)))) (pss_one (ps_ost (pv 0) (pv 1)))), R0.F.bindsN fun _ _ _ _ _ _ us hl => match us, hl with | [_, _], _ => rfl⟩
theorem scx_NoSum : FnScope ["self"] ["self"] (defScope sx_NoSum) := ⟨rfl, rfl, rfl, by decide +kernel, rfl, by decide +kernel, by decide +kernel⟩
theorem okx_NoSum (T : Tx K mg base A) : ∀ C fI fd, XkR K mg A.c_CodeError "NoSum" "NoSum.__init__" sx_NoSum [] C fI fd → FnOk P w K mg base (L2.CX P w) 1 fI fd ["self"] (spMkA K C [] []) ∧ Binds K fd ["self"] [] := fun C fI fd R0 =>
 ⟨ok_initA0 R0.oex  R0.F scx_NoSum (skipA (skip_sup (m := "no sum check"))) fun cdv Ar outer s H E hr => (pss_one (ps_expr (pe_cinit (by rfl) T.B_CE.m T.rd_CodeError T.vi_CodeError (pa_cons (pv 0) (pa_cons pe_str pa_nil))))), R0.F.bindsN fun _ _ _ _ _ _ us hl => match us, hl with | [_], _ => rfl⟩
theorem scx_NotHidden : FnScope ["self", "what"] ["self", "what"] (defScope sx_NotHidden) := ⟨rfl, rfl, rfl, by decide +kernel, rfl, by decide +kernel, by decide +kernel⟩
theorem okx_NotHidden (T : Tx K mg base A) : ∀ C fI fd, XkR K mg A.c_CodeError "NotHidden" "NotHidden.__init__" sx_NotHidden ["what"] C fI fd → FnOk P w K mg base (L2.CX P w) 1 fI fd ["self", "what"] (spMkA K C ["what"] []) ∧ Binds K fd ["self", "what"] [] := fun C fI fd R0 =>
 ⟨ok_initA1 R0.oex (R0.nf _ (.head _)) R0.F scx_NotHidden (skipA (skip_sup (m := "no hidden code"))) fun cdv Ar outer s H E hr => (pss_cons (ps_expr (pe_cinit (by rfl) T.B_CE.m T.rd_CodeError T.vi_CodeError (pa_cons (pv 0) (pa_cons pe_str pa_nil)))) (pss_one (ps_ost (pv 0) (pv 1)))), R0.F.bindsN fun _ _ _ _ _ _ us hl => match us, hl with | [_, _], _ => rfl⟩
theorem scx_BadWish : FnScope ["self", "number"] ["self", "number"] (defScope sx_BadWish) := ⟨rfl, rfl, rfl, by decide +kernel, rfl, by decide +kernel, by decide +kernel⟩
theorem okx_BadWish (T : Tx K mg base A) : ∀ C fI fd, XkR K mg A.c_CodeError "BadWish" "BadWish.__init__" sx_BadWish ["number"] C fI fd → FnOk P w K mg base (L2.CX P w) 1 fI fd ["self", "number"] (spMkA K C ["number"] []) ∧ Binds K fd ["self", "number"] [] := fun C fI fd R0 =>
 ⟨ok_initA1 R0.oex (R0.nf _ (.head _)) R0.F scx_BadWish (skipA skip_none) fun cdv Ar outer s H E hr => (skip_pss (pss_one (ps_ost (pv 0) (pv 1)))), R0.F.bindsN fun _ _ _ _ _ _ us hl => match us, hl with | [_, _], _ => rfl⟩
theorem scx_BadPool : FnScope ["self", "place"] ["self", "place"] (defScope sx_BadPool) := ⟨rfl, rfl, rfl, by decide +kernel, rfl, by decide +kernel, by decide +kernel⟩
theorem okx_BadPool (T : Tx K mg base A) : ∀ C fI fd, XkR K mg A.c_CodeError "BadPool" "BadPool.__init__" sx_BadPool ["place"] C fI fd → FnOk P w K mg base (L2.CX P w) 1 fI fd ["self", "place"] (spMkA K C ["place"] []) ∧ Binds K fd ["self", "place"] [] := fun C fI fd R0 =>
 ⟨ok_initA1 R0.oex (R0.nf _ (.head _)) R0.F scx_BadPool (skipA skip_none) fun cdv Ar outer s H E hr => (skip_pss (pss_one (ps_ost (pv 0) (pv 1)))), R0.F.bindsN fun _ _ _ _ _ _ us hl => match us, hl with | [_, _], _ => rfl⟩
theorem scx_BadPicks : FnScope ["self"] ["self"] (defScope sx_BadPicks) := ⟨rfl, rfl, rfl, by decide +kernel, rfl, by decide +kernel, by decide +kernel⟩
theorem okx_BadPicks (T : Tx K mg base A) : ∀ C fI fd, XkR K mg A.c_CodeError "BadPicks" "BadPicks.__init__" sx_BadPicks [] C fI fd → FnOk P w K mg base (L2.CX P w) 1 fI fd ["self"] (spMkA K C [] []) ∧ Binds K fd ["self"] [] := fun C fI fd R0 =>
 ⟨ok_initA0 R0.oex  R0.F scx_BadPicks (skipA (skip_sup (m := "no lot of places of the pool"))) fun cdv Ar outer s H E hr => (pss_one (ps_expr (pe_cinit (by rfl) T.B_CE.m T.rd_CodeError T.vi_CodeError (pa_cons (pv 0) (pa_cons pe_str pa_nil))))), R0.F.bindsN fun _ _ _ _ _ _ us hl => match us, hl with | [_], _ => rfl⟩
theorem scx_BadEdit : FnScope ["self", "place"] ["self", "place"] (defScope sx_BadEdit) := ⟨rfl, rfl, rfl, by decide +kernel, rfl, by decide +kernel, by decide +kernel⟩
theorem okx_BadEdit (T : Tx K mg base A) : ∀ C fI fd, XkR K mg A.c_CodeError "BadEdit" "BadEdit.__init__" sx_BadEdit ["place"] C fI fd → FnOk P w K mg base (L2.CX P w) 1 fI fd ["self", "place"] (spMkA K C ["place"] []) ∧ Binds K fd ["self", "place"] [] := fun C fI fd R0 =>
 ⟨ok_initA1 R0.oex (R0.nf _ (.head _)) R0.F scx_BadEdit (skipA skip_none) fun cdv Ar outer s H E hr => (skip_pss (pss_one (ps_ost (pv 0) (pv 1)))), R0.F.bindsN fun _ _ _ _ _ _ us hl => match us, hl with | [_, _], _ => rfl⟩
theorem scx_NothingDone : FnScope ["self"] ["self"] (defScope sx_NothingDone) := ⟨rfl, rfl, rfl, by decide +kernel, rfl, by decide +kernel, by decide +kernel⟩
theorem okx_NothingDone (T : Tx K mg base A) : ∀ C fI fd, XkR K mg A.c_CodeError "NothingDone" "NothingDone.__init__" sx_NothingDone [] C fI fd → FnOk P w K mg base (L2.CX P w) 1 fI fd ["self"] (spMkA K C [] []) ∧ Binds K fd ["self"] [] := fun C fI fd R0 =>
 ⟨ok_initA0 R0.oex  R0.F scx_NothingDone (skipA (skip_sup (m := "there is no edit to take back"))) fun cdv Ar outer s H E hr => (pss_one (ps_expr (pe_cinit (by rfl) T.B_CE.m T.rd_CodeError T.vi_CodeError (pa_cons (pv 0) (pa_cons pe_str pa_nil))))), R0.F.bindsN fun _ _ _ _ _ _ us hl => match us, hl with | [_], _ => rfl⟩
theorem bd__law_stir_2 (T : Tx K mg base A) : ∃ ds, Vals [] ds ∧ Binds K A.fd__law_stir ["_law_number", "_law_turn"] ds := ⟨[], .nil, T.F__law_stir.bindsN fun _ _ _ _ _ _ us hl => match us, hl with | [_, _], _ => rfl⟩
theorem bd__law_draw_2 (T : Tx K mg base A) : ∃ ds, Vals [] ds ∧ Binds K A.fd__law_draw ["_law_hand_here", "_law_many"] ds := ⟨[], .nil, T.F__law_draw.bindsN fun _ _ _ _ _ _ us hl => match us, hl with | [_, _], _ => rfl⟩
theorem bd__law_later_fields_hold_2 (T : Tx K mg base A) : ∃ ds, Vals [] ds ∧ Binds K A.fd__law_later_fields_hold ["_law_one", "_law_other"] ds := ⟨[], .nil, T.F__law_later_fields_hold.bindsN fun _ _ _ _ _ _ us hl => match us, hl with | [_, _], _ => rfl⟩
theorem bd__law_fields_hold_2 (T : Tx K mg base A) : ∃ ds, Vals [] ds ∧ Binds K A.fd__law_fields_hold ["_law_one", "_law_other"] ds := ⟨[], .nil, T.F__law_fields_hold.bindsN fun _ _ _ _ _ _ us hl => match us, hl with | [_, _], _ => rfl⟩
theorem bd__law_flags_1 (T : Tx K mg base A) : ∃ ds, Vals [] ds ∧ Binds K A.fd__law_flags ["_law_e"] ds := ⟨[], .nil, T.F__law_flags.bindsN fun _ _ _ _ _ _ us hl => match us, hl with | [_], _ => rfl⟩
theorem bd__law_all_2 (T : Tx K mg base A) : ∃ ds, Vals [] ds ∧ Binds K A.fd__law_all ["_law_one", "_law_other"] ds := ⟨[], .nil, T.F__law_all.bindsN fun _ _ _ _ _ _ us hl => match us, hl with | [_, _], _ => rfl⟩
theorem bd__law_thing_1 (T : Tx K mg base A) : ∃ ds, Vals [] ds ∧ Binds K A.fd__law_thing ["_law_hand_here"] ds := ⟨[], .nil, T.F__law_thing.bindsN fun _ _ _ _ _ _ us hl => match us, hl with | [_], _ => rfl⟩
theorem bd__law_hand_1 (T : Tx K mg base A) : ∃ ds, Vals [] ds ∧ Binds K A.fd__law_hand ["_law_script"] ds := ⟨[], .nil, T.F__law_hand.bindsN fun _ _ _ _ _ _ us hl => match us, hl with | [_], _ => rfl⟩
theorem sc__law_hand : FnScope ["_law_script", "_law_state", "_law_place", "_law_cell"] ["_law_script"] (defScope s__law_hand) := ⟨rfl, rfl, rfl, by decide +kernel, rfl, by decide +kernel, by decide +kernel⟩
/-- slots: 0 _law_script 1 _law_state 2 _law_place 3 _law_cell -/
noncomputable def d__law_hand : Dn := defF 4
 (seqS (asgS 1 (cF (.int 7)))
 (seqS (forS (faF enmD (consA (varF 0) nilA)) (tgT 2 (tgCons (tgN 2) (tgCons (tgN 3) tgNil)))
 (asgS 1 (op2F modD (bltF intF (consV (dF (op2F addD (op2F addD (op2F mulD (varF 1) (cF (.int 37))) (op2F mulD (bltF intF (consV (dF (varF 3)) nilV)) (op2F addD (op2F mulD (cF (.int 2)) (varF 2)) (cF (.int 5))))) (cF (.int 3)))) nilV)) (cF (.int 2147483629)))))
 (retF (lstF (consA (frF (lcF (itF (varF 0)) (tgN 3) yesB (bltF absD (consV (dF (bltF intF (consV (dF (varF 3)) nilV))) nilV)) [3])) (consA (cF (.int 0)) (consA (cF (.int 0)) (consA (varF 1) nilA))))))))
theorem ok__law_hand (T : Tx K mg base A) : FnOk P w K mg base (L2.CX P w) 1 A.f__law_hand A.fd__law_hand ["_law_script"] (spD ⟨K, mg, Tb K⟩ 1 d__law_hand) :=
 ok_def (N := ["_law_script", "_law_state", "_law_place", "_law_cell"]) rfl (by decide) T.F__law_hand sc__law_hand fun cdv Ar outer s H E b hr hM hnp hpx =>
 (pts_cons (pts_asg sc__law_hand.nd (i := 1) rfl (by first | exact Or.inl rfl | exact Or.inr rfl) pd_int rfl (by first | exact Or.inl rfl | exact Or.inr rfl) (PxOk.of hpx _))
 (pts_cons (pts_for (passes_of rfl) rfl (pi_enmD hM (by rfl) T.z_enumerate (pda_cons (pd_var (pv 0)) pda_nil)) (pg_tupD hM rfl (pgs_consD (pg_n (pg_name (i := 2) sc__law_hand.nd rfl (by first | exact Or.inl rfl | exact Or.inr rfl)) (PxOk.of hpx _)) (pgs_consD (pg_n (pg_name (i := 3) sc__law_hand.nd rfl (by first | exact Or.inl rfl | exact Or.inr rfl)) (PxOk.of hpx _)) pgs_nilD)))
 (pts_one' (pts_asg sc__law_hand.nd (i := 1) rfl (by first | exact Or.inl rfl | exact Or.inr rfl) (q_mod hM (c_int hM (by rfl) T.z_int (pva_cons (p1_d (q_add hM (q_add hM (q_mul hM (pd_var (pv 1)) pd_int) (q_mul hM (c_int hM (by rfl) T.z_int (pva_cons (p1_d (pd_var (pv 3))) pva_nil)) (q_add hM (q_mul hM pd_int (pd_var (pv 2))) pd_int))) pd_int)) pva_nil)) pd_int) rfl (by first | exact Or.inl rfl | exact Or.inr rfl) (PxOk.of hpx _))))
 (pts_one' (pts_retF (pf_lst (pda_cons (pd_fr (pf_lc hpx rfl sc__law_hand.nd (pi_d hM (pd_var (pv 0))) (blkOk_by (own := [("_law_cell", 3)]) (by first | (show blkC ["_law_script", "_law_state", "_law_place", "_law_cell"] (defScope s__law_hand) _ [("_law_cell", 3)] = true; decide +kernel) | kernel_rfl)) rfl (by decide) (fun _ _ _ _ _ b' hM'' hpx' => have hM' := hM''.trans hM; (pg_n (pg_name (i := 3) sc__law_hand.nd rfl (by first | exact Or.inl rfl | exact Or.inr rfl)) (PxOk.of hpx' _))) (fun _ _ _ _ _ b' hM'' hpx' => have hM' := hM''.trans hM; pts_nilD) (fun _ _ _ _ _ b' hM'' hpx' => have hM' := hM''.trans hM; (c_abs hM' (by rfl) T.z_abs (pva_cons (p1_d (c_int hM' (by rfl) T.z_int (pva_cons (p1_d (pd_var (pv 3))) pva_nil))) pva_nil))))) (pda_cons pd_int (pda_cons pd_int (pda_cons (pd_var (pv 1)) pda_nil)))))))))
theorem sc__law_stir : FnScope ["_law_number", "_law_turn", "_law_once", "_law_twice"] ["_law_number", "_law_turn"] (defScope s__law_stir) := ⟨rfl, rfl, rfl, by decide +kernel, rfl, by decide +kernel, by decide +kernel⟩
/-- slots: 0 _law_number 1 _law_turn 2 _law_once 3 _law_twice -/
noncomputable def d__law_stir : Dn := defF 4
 (seqS (asgS 2 (op2F modD (bltF intF (consV (dF (op2F addD (op2F addD (op2F mulD (varF 0) (cF (.int 69621))) (op2F mulD (varF 1) (cF (.int 40014)))) (cF (.int 101)))) nilV)) (cF (.int 2147483563))))
 (seqS (asgS 3 (op2F modD (bltF intF (consV (dF (op2F addD (op2F addD (op2F mulD (varF 2) (varF 2)) (op2F mulD (varF 1) (cF (.int 16807)))) (op2F fdivD (varF 2) (cF (.int 211))))) nilV)) (cF (.int 2147483629))))
 (retS (op2F fdivD (op2F modD (bltF intF (consV (dF (op2F addD (op2F mulD (varF 3) (cF (.int 48271))) (op2F fdivD (varF 2) (cF (.int 1013))))) nilV)) (cF (.int 2147483647))) (cF (.int 8))))))
theorem ok__law_stir (T : Tx K mg base A) : FnOk P w K mg base (L2.CX P w) 1 A.f__law_stir A.fd__law_stir ["_law_number", "_law_turn"] (spD ⟨K, mg, Tb K⟩ 2 d__law_stir) :=
 ok_def (N := ["_law_number", "_law_turn", "_law_once", "_law_twice"]) rfl (by decide) T.F__law_stir sc__law_stir fun cdv Ar outer s H E b hr hM hnp hpx =>
 (pts_cons (pts_asg sc__law_stir.nd (i := 2) rfl (by first | exact Or.inl rfl | exact Or.inr rfl) (q_mod hM (c_int hM (by rfl) T.z_int (pva_cons (p1_d (q_add hM (q_add hM (q_mul hM (pd_var (pv 0)) pd_int) (q_mul hM (pd_var (pv 1)) pd_int)) pd_int)) pva_nil)) pd_int) rfl (by first | exact Or.inl rfl | exact Or.inr rfl) (PxOk.of hpx _))
 (pts_cons (pts_asg sc__law_stir.nd (i := 3) rfl (by first | exact Or.inl rfl | exact Or.inr rfl) (q_mod hM (c_int hM (by rfl) T.z_int (pva_cons (p1_d (q_add hM (q_add hM (q_mul hM (pd_var (pv 2)) (pd_var (pv 2))) (q_mul hM (pd_var (pv 1)) pd_int)) (q_fdiv hM (pd_var (pv 2)) pd_int))) pva_nil)) pd_int) rfl (by first | exact Or.inl rfl | exact Or.inr rfl) (PxOk.of hpx _))
 (pts_one' (pts_ret (q_fdiv hM (q_mod hM (c_int hM (by rfl) T.z_int (pva_cons (p1_d (q_add hM (q_mul hM (pd_var (pv 3)) pd_int) (q_fdiv hM (pd_var (pv 2)) pd_int))) pva_nil)) pd_int) pd_int)))))
theorem sc__law_draw : FnScope ["_law_hand_here", "_law_many", "_law_cell", "_law_rest"] ["_law_hand_here", "_law_many"] (defScope s__law_draw) := ⟨rfl, rfl, rfl, by decide +kernel, rfl, by decide +kernel, by decide +kernel⟩
/-- slots: 0 _law_hand_here 1 _law_many 2 _law_cell 3 _law_rest -/
noncomputable def d__law_draw : Dn := defF 4
 (seqS (ifS (andB (tstF (op2F eqD (op2V ixD (nmF 0) (dF (cF (.int 2)))) (cF (.int 0)))) (tstF (op2F ltD (op2V ixD (nmF 0) (dF (cF (.int 1)))) (bltF lenD (consV (dF (op2V ixD (nmF 0) (dF (cF (.int 0))))) nilV)))))
 (seqS (asgS 2 (op2F ixD (op2V ixD (nmF 0) (dF (cF (.int 0)))) (op2V ixD (nmF 0) (dF (cF (.int 1))))))
 (seqS (setS 0 (cF (.int 1)) (op2F addD (op2V ixD (nmF 0) (dF (cF (.int 1)))) (cF (.int 1))))
 (seqS (ifS (tstF (op2F ltD (varF 2) (op2F powD (cF (.int 10)) (cF (.int 18)))))
 (retS (op2F modD (bltF intF (consV (dF (callF 2 d__law_stir [] (consV (dF (varF 2)) (consV (dF (op2V ixD (nmF 0) (dF (cF (.int 1))))) nilV)))) nilV)) (varF 1)))
 skipS)
 (setS 0 (cF (.int 2)) (varF 2)))))
 skipS)
 (seqS (ifS (tstF (op2F gtD (op2V ixD (nmF 0) (dF (cF (.int 2)))) (cF (.int 0))))
 (seqS (asgS 3 (op2V ixD (nmF 0) (dF (cF (.int 2)))))
 (seqS (setS 0 (cF (.int 2)) (op2F fdivD (varF 3) (varF 1)))
 (retS (op2F modD (bltF intF (consV (dF (varF 3)) nilV)) (varF 1)))))
 skipS)
 (seqS (setS 0 (cF (.int 3)) (op2F modD (bltF intF (consV (dF (op2F addD (op2V ixD (nmF 0) (dF (cF (.int 3)))) (cF (.int 1)))) nilV)) (cF (.int 2147483629))))
 (retS (op2F modD (bltF intF (consV (dF (callF 2 d__law_stir [] (consV (dF (op2V ixD (nmF 0) (dF (cF (.int 3))))) (consV (dF (op2V ixD (nmF 0) (dF (cF (.int 1))))) nilV)))) nilV)) (varF 1))))))
theorem ok__law_draw (T : Tx K mg base A) : FnOk P w K mg base (L2.CX P w) 2 A.f__law_draw A.fd__law_draw ["_law_hand_here", "_law_many"] (spD ⟨K, mg, Tb K⟩ 2 d__law_draw) :=
 ok_def (N := ["_law_hand_here", "_law_many", "_law_cell", "_law_rest"]) rfl (by decide) T.F__law_draw sc__law_draw fun cdv Ar outer s H E b hr hM hnp hpx =>
 (pts_cons (pts_if (PW.pt (pwb_and (qt_eq hM hr (v_ix hM (p1_nm (pv 0)) (p1_d pd_int) (fun _ _ => rfl)) pd_int) (pwb_and1 (qt_lt hM (v_ix hM (p1_nm (pv 0)) (p1_d pd_int) (fun _ _ => rfl)) (c_len hM (by rfl) T.z_len (pva_cons (p1_d (v_ix hM (p1_nm (pv 0)) (p1_d pd_int) (fun _ _ => rfl))) pva_nil))))))
 (pts_cons (pts_asg sc__law_draw.nd (i := 2) rfl (by first | exact Or.inl rfl | exact Or.inr rfl) (q_ix hM (v_ix hM (p1_nm (pv 0)) (p1_d pd_int) (fun _ _ => rfl)) (v_ix hM (p1_nm (pv 0)) (p1_d pd_int) (fun _ _ => rfl)) (fun _ _ => rfl)) rfl (by first | exact Or.inl rfl | exact Or.inr rfl) (PxOk.of hpx _))
 (pts_cons (pts_set (pv 0) pd_int (q_add hM (v_ix hM (p1_nm (pv 0)) (p1_d pd_int) (fun _ _ => rfl)) pd_int))
 (pts_cons (pts_if (qt_lt hM (pd_var (pv 2)) (q_pow hM pd_int pd_int))
 (pts_one' (pts_ret (q_mod hM (c_int hM (by rfl) T.z_int (pva_cons (p1_d (q_call hM (takes_of rfl rfl rfl rfl) (ok__law_stir T) (hr.mono (by decide)) (by rfl) T.m__law_stir T.k__law_stir (bd__law_stir_2 T) (fun _ _ _ => RepL.nil) (pva_cons (p1_d (pd_var (pv 2))) (pva_cons (p1_d (v_ix hM (p1_nm (pv 0)) (p1_d pd_int) (fun _ _ => rfl))) pva_nil)))) pva_nil)) (pd_var (pv 1)))))
 pts_nil')
 (pts_one' (pts_set (pv 0) pd_int (pd_var (pv 2)))))))
 pts_nil')
 (pts_cons (pts_if (qt_gt hM (v_ix hM (p1_nm (pv 0)) (p1_d pd_int) (fun _ _ => rfl)) pd_int)
 (pts_cons (pts_asg sc__law_draw.nd (i := 3) rfl (by first | exact Or.inl rfl | exact Or.inr rfl) (v_ix hM (p1_nm (pv 0)) (p1_d pd_int) (fun _ _ => rfl)) rfl (by first | exact Or.inl rfl | exact Or.inr rfl) (PxOk.of hpx _))
 (pts_cons (pts_set (pv 0) pd_int (q_fdiv hM (pd_var (pv 3)) (pd_var (pv 1))))
 (pts_one' (pts_ret (q_mod hM (c_int hM (by rfl) T.z_int (pva_cons (p1_d (pd_var (pv 3))) pva_nil)) (pd_var (pv 1)))))))
 pts_nil')
 (pts_cons (pts_set (pv 0) pd_int (q_mod hM (c_int hM (by rfl) T.z_int (pva_cons (p1_d (q_add hM (v_ix hM (p1_nm (pv 0)) (p1_d pd_int) (fun _ _ => rfl)) pd_int)) pva_nil)) pd_int))
 (pts_one' (pts_ret (q_mod hM (c_int hM (by rfl) T.z_int (pva_cons (p1_d (q_call hM (takes_of rfl rfl rfl rfl) (ok__law_stir T) (hr.mono (by decide)) (by rfl) T.m__law_stir T.k__law_stir (bd__law_stir_2 T) (fun _ _ _ => RepL.nil) (pva_cons (p1_d (v_ix hM (p1_nm (pv 0)) (p1_d pd_int) (fun _ _ => rfl))) (pva_cons (p1_d (v_ix hM (p1_nm (pv 0)) (p1_d pd_int) (fun _ _ => rfl))) pva_nil)))) pva_nil)) (pd_var (pv 1))))))))
theorem sc__law_thing : FnScope ["_law_hand_here", "_law_pick"] ["_law_hand_here"] (defScope s__law_thing) := ⟨rfl, rfl, rfl, by decide +kernel, rfl, by decide +kernel, by decide +kernel⟩
/-- slots: 0 _law_hand_here 1 _law_pick -/
noncomputable def d__law_thing : Dn := defF 2
 (seqS (asgS 1 (callF 2 d__law_draw [] (consV (nmF 0) (consV (dF (cF (.int 5))) nilV))))
 (retS (op2F ixD (tupF (consA (op2F subD (callF 2 d__law_draw [] (consV (nmF 0) (consV (dF (op2F powD (cF (.int 10)) (cF (.int 6)))) nilV))) (cF (.int 1))) (consA (op2F addD (cF (.str "text")) (bltF strD (consV (dF (callF 2 d__law_draw [] (consV (nmF 0) (consV (dF (cF (.int 99))) nilV)))) nilV))) (consA (cF .non) (consA (tupF (consA (callF 2 d__law_draw [] (consV (nmF 0) (consV (dF (cF (.int 9))) nilV))) (consA (cF (.int 1)) nilA))) (consA (cF (.str "")) nilA)))))) (varF 1))))
theorem ok__law_thing (T : Tx K mg base A) : FnOk P w K mg base (L2.CX P w) 3 A.f__law_thing A.fd__law_thing ["_law_hand_here"] (spD ⟨K, mg, Tb K⟩ 1 d__law_thing) :=
 ok_def (N := ["_law_hand_here", "_law_pick"]) rfl (by decide) T.F__law_thing sc__law_thing fun cdv Ar outer s H E b hr hM hnp hpx =>
 (pts_cons (pts_asg sc__law_thing.nd (i := 1) rfl (by first | exact Or.inl rfl | exact Or.inr rfl) (q_call hM (takes_of rfl rfl rfl rfl) (ok__law_draw T) (hr.mono (by decide)) (by rfl) T.m__law_draw T.k__law_draw (bd__law_draw_2 T) (fun _ _ _ => RepL.nil) (pva_cons (p1_nm (pv 0)) (pva_cons (p1_d pd_int) pva_nil))) rfl (by first | exact Or.inl rfl | exact Or.inr rfl) (PxOk.of hpx _))
 (pts_one' (pts_ret (q_ix hM (pd_tup (pda_cons (q_sub hM (q_call hM (takes_of rfl rfl rfl rfl) (ok__law_draw T) (hr.mono (by decide)) (by rfl) T.m__law_draw T.k__law_draw (bd__law_draw_2 T) (fun _ _ _ => RepL.nil) (pva_cons (p1_nm (pv 0)) (pva_cons (p1_d (q_pow hM pd_int pd_int)) pva_nil))) pd_int) (pda_cons (q_add hM pd_str (c_str hM (by rfl) T.z_str (pva_cons (p1_d (q_call hM (takes_of rfl rfl rfl rfl) (ok__law_draw T) (hr.mono (by decide)) (by rfl) T.m__law_draw T.k__law_draw (bd__law_draw_2 T) (fun _ _ _ => RepL.nil) (pva_cons (p1_nm (pv 0)) (pva_cons (p1_d pd_int) pva_nil)))) pva_nil))) (pda_cons pd_non (pda_cons (pd_tup (pda_cons (q_call hM (takes_of rfl rfl rfl rfl) (ok__law_draw T) (hr.mono (by decide)) (by rfl) T.m__law_draw T.k__law_draw (bd__law_draw_2 T) (fun _ _ _ => RepL.nil) (pva_cons (p1_nm (pv 0)) (pva_cons (p1_d pd_int) pva_nil))) (pda_cons pd_int pda_nil))) (pda_cons pd_str pda_nil)))))) (pd_var (pv 1)) (fun _ _ => rfl)))))
theorem sc__law_all : FnScope ["_law_one", "_law_other", "_law_out"] ["_law_one", "_law_other"] (defScope s__law_all) := ⟨rfl, rfl, rfl, by decide +kernel, rfl, by decide +kernel, by decide +kernel⟩
/-- slots: 0 _law_one 1 _law_other 2 _law_out -/
noncomputable def d__law_all : Dn := defF 3
 (seqS (asgS 2 (frF (lstF (consA (mkxF "BadRatio" ["what"] [] (consA (varF 0) nilA)) (consA (mkx0F "DividedByNought") (consA (mkxF "BadCode" ["what", "place"] [] (consA (varF 0) (consA (varF 1) nilA))) (consA (mkxF "BadBit" ["bit"] [] (consA (varF 0) nilA)) (consA (mkxF "NoCheck" ["number"] [] (consA (varF 0) nilA)) (consA (mkx0F "BadLot") (consA (mkxF "BadPrices" ["place"] [] (consA (varF 0) nilA)) nilA))))))))))
 (seqS (asgS 2 (frF (op2L catD (dF (varF 2)) (dF (frF (lstF (consA (mkxF "BadRow" ["place"] [] (consA (varF 0) nilA)) (consA (mkxF "BadWord" ["number"] [] (consA (varF 0) nilA)) (consA (mkx0F "BadOrder") (consA (mkx0F "UnlikeBits") (consA (mkxF "TooMany" ["most"] [] (consA (varF 0) nilA)) (consA (mkxF "BadText" ["place"] [] (consA (varF 0) nilA)) (consA (mkxF "NotLet" ["number", "lot"] [] (consA (varF 0) (consA (varF 1) nilA))) nilA)))))))))))))
 (seqS (asgS 2 (frF (op2L catD (dF (varF 2)) (dF (frF (lstF (consA (mkxF "BadSheets" ["sheets"] [] (consA (varF 0) nilA)) (consA (mkxF "BadRows" ["number"] [] (consA (varF 0) nilA)) (consA (mkxF "BadWeights" ["place"] [] (consA (varF 0) nilA)) (consA (mkxF "BadCover" ["what", "number"] [] (consA (varF 0) (consA (varF 1) nilA))) (consA (mkx0F "BadWire") (consA (mkxF "BadMarks" ["place"] [] (consA (varF 0) nilA)) (consA (mkx0F "UnlikeCode") nilA)))))))))))))
 (seqS (asgS 2 (frF (op2L catD (dF (varF 2)) (dF (frF (lstF (consA (mkxF "BadTimes" ["times"] [] (consA (varF 0) nilA)) (consA (mkxF "LowRest" ["bit"] [] (consA (varF 0) nilA)) (consA (mkxF "BadCone" ["place"] [0] (consA (varF 0) nilA)) (consA (mkxF "NotCone" ["number", "bit"] [0, 1] (consA (varF 0) (consA (varF 1) nilA))) (consA (mkxF "BadMany" ["many"] [] (consA (varF 0) nilA)) (consA (mkxF "BadReceived" ["place"] [0] (consA (varF 0) nilA)) (consA (mkxF "OddCount" ["number"] [0] (consA (varF 0) nilA)) nilA)))))))))))))
 (seqS (asgS 2 (frF (op2L catD (dF (varF 2)) (dF (frF (lstF (consA (mkxF "NotStop" ["number"] [] (consA (varF 0) nilA)) (consA (mkxF "NotRingless" ["ring"] [] (consA (varF 0) nilA)) (consA (mkxF "NotCorner" ["row"] [] (consA (varF 0) nilA)) (consA (mkxF "BadWeb" ["what", "place"] [0, 1] (consA (varF 0) (consA (varF 1) nilA))) (consA (mkxF "BadPost" ["post"] [] (consA (varF 0) nilA)) (consA (mkxF "NotTies" ["bit"] [0] (consA (varF 0) nilA)) (consA (mkxF "NotRound" ["what"] [0] (consA (varF 0) nilA)) nilA)))))))))))))
 (seqS (asgS 2 (frF (op2L catD (dF (varF 2)) (dF (frF (lstF (consA (mkxF "NotApart" ["what"] [0] (consA (varF 0) nilA)) (consA (mkx0F "NothingLeft") (consA (mkxF "NoSmall" ["which"] [] (consA (varF 0) nilA)) (consA (mkx0F "NoSum") (consA (mkxF "NotHidden" ["what"] [] (consA (varF 0) nilA)) (consA (mkxF "BadWish" ["number"] [] (consA (varF 0) nilA)) (consA (mkxF "BadPool" ["place"] [] (consA (varF 0) nilA)) (consA (mkx0F "BadPicks") nilA))))))))))))))
 (retF (op2L catD (dF (varF 2)) (dF (frF (lstF (consA (mkxF "BadEdit" ["place"] [] (consA (varF 0) nilA)) (consA (mkx0F "NothingDone") nilA)))))))))))))
theorem ok__law_all (T : Tx K mg base A) : FnOk P w K mg base (L2.CX P w) 3 A.f__law_all A.fd__law_all ["_law_one", "_law_other"] (spD ⟨K, mg, Tb K⟩ 2 d__law_all) :=
 ok_def (N := ["_law_one", "_law_other", "_law_out"]) rfl (by decide) T.F__law_all sc__law_all fun cdv Ar outer s H E b hr hM hnp hpx =>
 (pts_cons (pts_asg sc__law_all.nd (i := 2) rfl (by first | exact Or.inl rfl | exact Or.inr rfl) (pd_fr (pf_lst (pda_cons (pd_mkx hM T.X_BadRatio (okx_BadRatio T) (hr.mono (by decide)) (by rfl) (by simp) (by decide) (pda_cons (pd_var (pv 0)) pda_nil)) (pda_cons (pd_mkx0 hM T.X_DividedByNought (okx_DividedByNought T) (hr.mono (by decide)) (by rfl)) (pda_cons (pd_mkx hM T.X_BadCode (okx_BadCode T) (hr.mono (by decide)) (by rfl) (by simp) (by decide) (pda_cons (pd_var (pv 0)) (pda_cons (pd_var (pv 1)) pda_nil))) (pda_cons (pd_mkx hM T.X_BadBit (okx_BadBit T) (hr.mono (by decide)) (by rfl) (by simp) (by decide) (pda_cons (pd_var (pv 0)) pda_nil)) (pda_cons (pd_mkx hM T.X_NoCheck (okx_NoCheck T) (hr.mono (by decide)) (by rfl) (by simp) (by decide) (pda_cons (pd_var (pv 0)) pda_nil)) (pda_cons (pd_mkx0 hM T.X_BadLot (okx_BadLot T) (hr.mono (by decide)) (by rfl)) (pda_cons (pd_mkx hM T.X_BadPrices (okx_BadPrices T) (hr.mono (by decide)) (by rfl) (by simp) (by decide) (pda_cons (pd_var (pv 0)) pda_nil)) pda_nil))))))))) rfl (by first | exact Or.inl rfl | exact Or.inr rfl) (PxOk.of hpx _))
 (pts_cons (pts_asg sc__law_all.nd (i := 2) rfl (by first | exact Or.inl rfl | exact Or.inr rfl) (pd_fr (pf_cat hM (p1_d (pd_var (pv 2))) (p1_d (pd_fr (pf_lst (pda_cons (pd_mkx hM T.X_BadRow (okx_BadRow T) (hr.mono (by decide)) (by rfl) (by simp) (by decide) (pda_cons (pd_var (pv 0)) pda_nil)) (pda_cons (pd_mkx hM T.X_BadWord (okx_BadWord T) (hr.mono (by decide)) (by rfl) (by simp) (by decide) (pda_cons (pd_var (pv 0)) pda_nil)) (pda_cons (pd_mkx0 hM T.X_BadOrder (okx_BadOrder T) (hr.mono (by decide)) (by rfl)) (pda_cons (pd_mkx0 hM T.X_UnlikeBits (okx_UnlikeBits T) (hr.mono (by decide)) (by rfl)) (pda_cons (pd_mkx hM T.X_TooMany (okx_TooMany T) (hr.mono (by decide)) (by rfl) (by simp) (by decide) (pda_cons (pd_var (pv 0)) pda_nil)) (pda_cons (pd_mkx hM T.X_BadText (okx_BadText T) (hr.mono (by decide)) (by rfl) (by simp) (by decide) (pda_cons (pd_var (pv 0)) pda_nil)) (pda_cons (pd_mkx hM T.X_NotLet (okx_NotLet T) (hr.mono (by decide)) (by rfl) (by simp) (by decide) (pda_cons (pd_var (pv 0)) (pda_cons (pd_var (pv 1)) pda_nil))) pda_nil)))))))))))) rfl (by first | exact Or.inl rfl | exact Or.inr rfl) (PxOk.of hpx _))
 (pts_cons (pts_asg sc__law_all.nd (i := 2) rfl (by first | exact Or.inl rfl | exact Or.inr rfl) (pd_fr (pf_cat hM (p1_d (pd_var (pv 2))) (p1_d (pd_fr (pf_lst (pda_cons (pd_mkx hM T.X_BadSheets (okx_BadSheets T) (hr.mono (by decide)) (by rfl) (by simp) (by decide) (pda_cons (pd_var (pv 0)) pda_nil)) (pda_cons (pd_mkx hM T.X_BadRows (okx_BadRows T) (hr.mono (by decide)) (by rfl) (by simp) (by decide) (pda_cons (pd_var (pv 0)) pda_nil)) (pda_cons (pd_mkx hM T.X_BadWeights (okx_BadWeights T) (hr.mono (by decide)) (by rfl) (by simp) (by decide) (pda_cons (pd_var (pv 0)) pda_nil)) (pda_cons (pd_mkx hM T.X_BadCover (okx_BadCover T) (hr.mono (by decide)) (by rfl) (by simp) (by decide) (pda_cons (pd_var (pv 0)) (pda_cons (pd_var (pv 1)) pda_nil))) (pda_cons (pd_mkx0 hM T.X_BadWire (okx_BadWire T) (hr.mono (by decide)) (by rfl)) (pda_cons (pd_mkx hM T.X_BadMarks (okx_BadMarks T) (hr.mono (by decide)) (by rfl) (by simp) (by decide) (pda_cons (pd_var (pv 0)) pda_nil)) (pda_cons (pd_mkx0 hM T.X_UnlikeCode (okx_UnlikeCode T) (hr.mono (by decide)) (by rfl)) pda_nil)))))))))))) rfl (by first | exact Or.inl rfl | exact Or.inr rfl) (PxOk.of hpx _))
 (pts_cons (pts_asg sc__law_all.nd (i := 2) rfl (by first | exact Or.inl rfl | exact Or.inr rfl) (pd_fr (pf_cat hM (p1_d (pd_var (pv 2))) (p1_d (pd_fr (pf_lst (pda_cons (pd_mkx hM T.X_BadTimes (okx_BadTimes T) (hr.mono (by decide)) (by rfl) (by simp) (by decide) (pda_cons (pd_var (pv 0)) pda_nil)) (pda_cons (pd_mkx hM T.X_LowRest (okx_LowRest T) (hr.mono (by decide)) (by rfl) (by simp) (by decide) (pda_cons (pd_var (pv 0)) pda_nil)) (pda_cons (pd_mkx hM T.X_BadCone (okx_BadCone T) (hr.mono (by decide)) (by rfl) (by simp) (by decide) (pda_cons (pd_var (pv 0)) pda_nil)) (pda_cons (pd_mkx hM T.X_NotCone (okx_NotCone T) (hr.mono (by decide)) (by rfl) (by simp) (by decide) (pda_cons (pd_var (pv 0)) (pda_cons (pd_var (pv 1)) pda_nil))) (pda_cons (pd_mkx hM T.X_BadMany (okx_BadMany T) (hr.mono (by decide)) (by rfl) (by simp) (by decide) (pda_cons (pd_var (pv 0)) pda_nil)) (pda_cons (pd_mkx hM T.X_BadReceived (okx_BadReceived T) (hr.mono (by decide)) (by rfl) (by simp) (by decide) (pda_cons (pd_var (pv 0)) pda_nil)) (pda_cons (pd_mkx hM T.X_OddCount (okx_OddCount T) (hr.mono (by decide)) (by rfl) (by simp) (by decide) (pda_cons (pd_var (pv 0)) pda_nil)) pda_nil)))))))))))) rfl (by first | exact Or.inl rfl | exact Or.inr rfl) (PxOk.of hpx _))
 (pts_cons (pts_asg sc__law_all.nd (i := 2) rfl (by first | exact Or.inl rfl | exact Or.inr rfl) (pd_fr (pf_cat hM (p1_d (pd_var (pv 2))) (p1_d (pd_fr (pf_lst (pda_cons (pd_mkx hM T.X_NotStop (okx_NotStop T) (hr.mono (by decide)) (by rfl) (by simp) (by decide) (pda_cons (pd_var (pv 0)) pda_nil)) (pda_cons (pd_mkx hM T.X_NotRingless (okx_NotRingless T) (hr.mono (by decide)) (by rfl) (by simp) (by decide) (pda_cons (pd_var (pv 0)) pda_nil)) (pda_cons (pd_mkx hM T.X_NotCorner (okx_NotCorner T) (hr.mono (by decide)) (by rfl) (by simp) (by decide) (pda_cons (pd_var (pv 0)) pda_nil)) (pda_cons (pd_mkx hM T.X_BadWeb (okx_BadWeb T) (hr.mono (by decide)) (by rfl) (by simp) (by decide) (pda_cons (pd_var (pv 0)) (pda_cons (pd_var (pv 1)) pda_nil))) (pda_cons (pd_mkx hM T.X_BadPost (okx_BadPost T) (hr.mono (by decide)) (by rfl) (by simp) (by decide) (pda_cons (pd_var (pv 0)) pda_nil)) (pda_cons (pd_mkx hM T.X_NotTies (okx_NotTies T) (hr.mono (by decide)) (by rfl) (by simp) (by decide) (pda_cons (pd_var (pv 0)) pda_nil)) (pda_cons (pd_mkx hM T.X_NotRound (okx_NotRound T) (hr.mono (by decide)) (by rfl) (by simp) (by decide) (pda_cons (pd_var (pv 0)) pda_nil)) pda_nil)))))))))))) rfl (by first | exact Or.inl rfl | exact Or.inr rfl) (PxOk.of hpx _))
 (pts_cons (pts_asg sc__law_all.nd (i := 2) rfl (by first | exact Or.inl rfl | exact Or.inr rfl) (pd_fr (pf_cat hM (p1_d (pd_var (pv 2))) (p1_d (pd_fr (pf_lst (pda_cons (pd_mkx hM T.X_NotApart (okx_NotApart T) (hr.mono (by decide)) (by rfl) (by simp) (by decide) (pda_cons (pd_var (pv 0)) pda_nil)) (pda_cons (pd_mkx0 hM T.X_NothingLeft (okx_NothingLeft T) (hr.mono (by decide)) (by rfl)) (pda_cons (pd_mkx hM T.X_NoSmall (okx_NoSmall T) (hr.mono (by decide)) (by rfl) (by simp) (by decide) (pda_cons (pd_var (pv 0)) pda_nil)) (pda_cons (pd_mkx0 hM T.X_NoSum (okx_NoSum T) (hr.mono (by decide)) (by rfl)) (pda_cons (pd_mkx hM T.X_NotHidden (okx_NotHidden T) (hr.mono (by decide)) (by rfl) (by simp) (by decide) (pda_cons (pd_var (pv 0)) pda_nil)) (pda_cons (pd_mkx hM T.X_BadWish (okx_BadWish T) (hr.mono (by decide)) (by rfl) (by simp) (by decide) (pda_cons (pd_var (pv 0)) pda_nil)) (pda_cons (pd_mkx hM T.X_BadPool (okx_BadPool T) (hr.mono (by decide)) (by rfl) (by simp) (by decide) (pda_cons (pd_var (pv 0)) pda_nil)) (pda_cons (pd_mkx0 hM T.X_BadPicks (okx_BadPicks T) (hr.mono (by decide)) (by rfl)) pda_nil))))))))))))) rfl (by first | exact Or.inl rfl | exact Or.inr rfl) (PxOk.of hpx _))
 (pts_one' (pts_retF (pf_cat hM (p1_d (pd_var (pv 2))) (p1_d (pd_fr (pf_lst (pda_cons (pd_mkx hM T.X_BadEdit (okx_BadEdit T) (hr.mono (by decide)) (by rfl) (by simp) (by decide) (pda_cons (pd_var (pv 0)) pda_nil)) (pda_cons (pd_mkx0 hM T.X_NothingDone (okx_NothingDone T) (hr.mono (by decide)) (by rfl)) pda_nil))))))))))))))
theorem sc__law_flags : FnScope ["_law_e", "_law_out"] ["_law_e"] (defScope s__law_flags) := ⟨rfl, rfl, rfl, by decide +kernel, rfl, by decide +kernel, by decide +kernel⟩
/-- slots: 0 _law_e 1 _law_out -/
noncomputable def d__law_flags : Dn := defF 2
 (seqS (asgS 1 (frF (lstF (consA (isiF (isvD xnames fun c => decide (c = "BadRatio")) (dF (varF 0))) (consA (isiF (isvD xnames fun c => decide (c = "DividedByNought")) (dF (varF 0))) (consA (isiF (isvD xnames fun c => decide (c = "BadCode")) (dF (varF 0))) (consA (isiF (isvD xnames fun c => decide (c = "BadBit")) (dF (varF 0))) nilA)))))))
 (seqS (asgS 1 (frF (op2L catD (dF (varF 1)) (dF (frF (lstF (consA (isiF (isvD xnames fun c => decide (c = "NoCheck")) (dF (varF 0))) (consA (isiF (isvD xnames fun c => decide (c = "BadLot")) (dF (varF 0))) (consA (isiF (isvD xnames fun c => decide (c = "BadPrices")) (dF (varF 0))) (consA (isiF (isvD xnames fun c => decide (c = "BadRow")) (dF (varF 0))) nilA))))))))))
 (seqS (asgS 1 (frF (op2L catD (dF (varF 1)) (dF (frF (lstF (consA (isiF (isvD xnames fun c => decide (c = "BadWord")) (dF (varF 0))) (consA (isiF (isvD xnames fun c => decide (c = "BadOrder")) (dF (varF 0))) (consA (isiF (isvD xnames fun c => decide (c = "UnlikeBits")) (dF (varF 0))) (consA (isiF (isvD xnames fun c => decide (c = "TooMany")) (dF (varF 0))) nilA))))))))))
 (seqS (asgS 1 (frF (op2L catD (dF (varF 1)) (dF (frF (lstF (consA (isiF (isvD xnames fun c => decide (c = "BadText")) (dF (varF 0))) (consA (isiF (isvD xnames fun c => decide (c = "NotLet")) (dF (varF 0))) (consA (isiF (isvD xnames fun c => decide (c = "BadSheets")) (dF (varF 0))) (consA (isiF (isvD xnames fun c => decide (c = "BadRows")) (dF (varF 0))) nilA))))))))))
 (seqS (asgS 1 (frF (op2L catD (dF (varF 1)) (dF (frF (lstF (consA (isiF (isvD xnames fun c => decide (c = "BadWeights")) (dF (varF 0))) (consA (isiF (isvD xnames fun c => decide (c = "BadCover")) (dF (varF 0))) (consA (isiF (isvD xnames fun c => decide (c = "BadWire")) (dF (varF 0))) (consA (isiF (isvD xnames fun c => decide (c = "BadMarks")) (dF (varF 0))) nilA))))))))))
 (seqS (asgS 1 (frF (op2L catD (dF (varF 1)) (dF (frF (lstF (consA (isiF (isvD xnames fun c => decide (c = "UnlikeCode")) (dF (varF 0))) (consA (isiF (isvD xnames fun c => decide (c = "BadTimes")) (dF (varF 0))) (consA (isiF (isvD xnames fun c => decide (c = "LowRest")) (dF (varF 0))) (consA (isiF (isvD xnames fun c => decide (c = "BadCone")) (dF (varF 0))) nilA))))))))))
 (seqS (asgS 1 (frF (op2L catD (dF (varF 1)) (dF (frF (lstF (consA (isiF (isvD xnames fun c => decide (c = "NotCone")) (dF (varF 0))) (consA (isiF (isvD xnames fun c => decide (c = "BadMany")) (dF (varF 0))) (consA (isiF (isvD xnames fun c => decide (c = "BadReceived")) (dF (varF 0))) (consA (isiF (isvD xnames fun c => decide (c = "OddCount")) (dF (varF 0))) nilA))))))))))
 (seqS (asgS 1 (frF (op2L catD (dF (varF 1)) (dF (frF (lstF (consA (isiF (isvD xnames fun c => decide (c = "NotStop")) (dF (varF 0))) (consA (isiF (isvD xnames fun c => decide (c = "NotRingless")) (dF (varF 0))) (consA (isiF (isvD xnames fun c => decide (c = "NotCorner")) (dF (varF 0))) (consA (isiF (isvD xnames fun c => decide (c = "BadWeb")) (dF (varF 0))) nilA))))))))))
 (seqS (asgS 1 (frF (op2L catD (dF (varF 1)) (dF (frF (lstF (consA (isiF (isvD xnames fun c => decide (c = "BadPost")) (dF (varF 0))) (consA (isiF (isvD xnames fun c => decide (c = "NotTies")) (dF (varF 0))) (consA (isiF (isvD xnames fun c => decide (c = "NotRound")) (dF (varF 0))) (consA (isiF (isvD xnames fun c => decide (c = "NotApart")) (dF (varF 0))) nilA))))))))))
 (seqS (asgS 1 (frF (op2L catD (dF (varF 1)) (dF (frF (lstF (consA (isiF (isvD xnames fun c => decide (c = "NothingLeft")) (dF (varF 0))) (consA (isiF (isvD xnames fun c => decide (c = "NoSmall")) (dF (varF 0))) (consA (isiF (isvD xnames fun c => decide (c = "NoSum")) (dF (varF 0))) (consA (isiF (isvD xnames fun c => decide (c = "NotHidden")) (dF (varF 0))) nilA))))))))))
 (seqS (asgS 1 (frF (op2L catD (dF (varF 1)) (dF (frF (lstF (consA (isiF (isvD xnames fun c => decide (c = "BadWish")) (dF (varF 0))) (consA (isiF (isvD xnames fun c => decide (c = "BadPool")) (dF (varF 0))) (consA (isiF (isvD xnames fun c => decide (c = "BadPicks")) (dF (varF 0))) (consA (isiF (isvD xnames fun c => decide (c = "BadEdit")) (dF (varF 0))) nilA))))))))))
 (retF (op2L catD (dF (varF 1)) (dF (frF (lstF (consA (isiF (isvD xnames fun c => decide (c = "NothingDone")) (dF (varF 0))) nilA)))))))))))))))))
theorem ok__law_flags (T : Tx K mg base A) : FnOk P w K mg base (L2.CX P w) 1 A.f__law_flags A.fd__law_flags ["_law_e"] (spD ⟨K, mg, Tb K⟩ 1 d__law_flags) :=
 ok_def (N := ["_law_e", "_law_out"]) rfl (by decide) T.F__law_flags sc__law_flags fun cdv Ar outer s H E b hr hM hnp hpx =>
 (pts_cons (pts_asg sc__law_flags.nd (i := 1) rfl (by first | exact Or.inl rfl | exact Or.inr rfl) (pd_fr (pf_lst (pda_cons (pd_isK hM (xN T) T.B_CE xi_BadRatio xnc (by rfl) T.z_isinstance (p1_d (pd_var (pv 0))) (by rfl)) (pda_cons (pd_isK hM (xN T) T.B_CE xi_DividedByNought xnc (by rfl) T.z_isinstance (p1_d (pd_var (pv 0))) (by rfl)) (pda_cons (pd_isK hM (xN T) T.B_CE xi_BadCode xnc (by rfl) T.z_isinstance (p1_d (pd_var (pv 0))) (by rfl)) (pda_cons (pd_isK hM (xN T) T.B_CE xi_BadBit xnc (by rfl) T.z_isinstance (p1_d (pd_var (pv 0))) (by rfl)) pda_nil)))))) rfl (by first | exact Or.inl rfl | exact Or.inr rfl) (PxOk.of hpx _))
 (pts_cons (pts_asg sc__law_flags.nd (i := 1) rfl (by first | exact Or.inl rfl | exact Or.inr rfl) (pd_fr (pf_cat hM (p1_d (pd_var (pv 1))) (p1_d (pd_fr (pf_lst (pda_cons (pd_isK hM (xN T) T.B_CE xi_NoCheck xnc (by rfl) T.z_isinstance (p1_d (pd_var (pv 0))) (by rfl)) (pda_cons (pd_isK hM (xN T) T.B_CE xi_BadLot xnc (by rfl) T.z_isinstance (p1_d (pd_var (pv 0))) (by rfl)) (pda_cons (pd_isK hM (xN T) T.B_CE xi_BadPrices xnc (by rfl) T.z_isinstance (p1_d (pd_var (pv 0))) (by rfl)) (pda_cons (pd_isK hM (xN T) T.B_CE xi_BadRow xnc (by rfl) T.z_isinstance (p1_d (pd_var (pv 0))) (by rfl)) pda_nil))))))))) rfl (by first | exact Or.inl rfl | exact Or.inr rfl) (PxOk.of hpx _))
 (pts_cons (pts_asg sc__law_flags.nd (i := 1) rfl (by first | exact Or.inl rfl | exact Or.inr rfl) (pd_fr (pf_cat hM (p1_d (pd_var (pv 1))) (p1_d (pd_fr (pf_lst (pda_cons (pd_isK hM (xN T) T.B_CE xi_BadWord xnc (by rfl) T.z_isinstance (p1_d (pd_var (pv 0))) (by rfl)) (pda_cons (pd_isK hM (xN T) T.B_CE xi_BadOrder xnc (by rfl) T.z_isinstance (p1_d (pd_var (pv 0))) (by rfl)) (pda_cons (pd_isK hM (xN T) T.B_CE xi_UnlikeBits xnc (by rfl) T.z_isinstance (p1_d (pd_var (pv 0))) (by rfl)) (pda_cons (pd_isK hM (xN T) T.B_CE xi_TooMany xnc (by rfl) T.z_isinstance (p1_d (pd_var (pv 0))) (by rfl)) pda_nil))))))))) rfl (by first | exact Or.inl rfl | exact Or.inr rfl) (PxOk.of hpx _))
 (pts_cons (pts_asg sc__law_flags.nd (i := 1) rfl (by first | exact Or.inl rfl | exact Or.inr rfl) (pd_fr (pf_cat hM (p1_d (pd_var (pv 1))) (p1_d (pd_fr (pf_lst (pda_cons (pd_isK hM (xN T) T.B_CE xi_BadText xnc (by rfl) T.z_isinstance (p1_d (pd_var (pv 0))) (by rfl)) (pda_cons (pd_isK hM (xN T) T.B_CE xi_NotLet xnc (by rfl) T.z_isinstance (p1_d (pd_var (pv 0))) (by rfl)) (pda_cons (pd_isK hM (xN T) T.B_CE xi_BadSheets xnc (by rfl) T.z_isinstance (p1_d (pd_var (pv 0))) (by rfl)) (pda_cons (pd_isK hM (xN T) T.B_CE xi_BadRows xnc (by rfl) T.z_isinstance (p1_d (pd_var (pv 0))) (by rfl)) pda_nil))))))))) rfl (by first | exact Or.inl rfl | exact Or.inr rfl) (PxOk.of hpx _))
 (pts_cons (pts_asg sc__law_flags.nd (i := 1) rfl (by first | exact Or.inl rfl | exact Or.inr rfl) (pd_fr (pf_cat hM (p1_d (pd_var (pv 1))) (p1_d (pd_fr (pf_lst (pda_cons (pd_isK hM (xN T) T.B_CE xi_BadWeights xnc (by rfl) T.z_isinstance (p1_d (pd_var (pv 0))) (by rfl)) (pda_cons (pd_isK hM (xN T) T.B_CE xi_BadCover xnc (by rfl) T.z_isinstance (p1_d (pd_var (pv 0))) (by rfl)) (pda_cons (pd_isK hM (xN T) T.B_CE xi_BadWire xnc (by rfl) T.z_isinstance (p1_d (pd_var (pv 0))) (by rfl)) (pda_cons (pd_isK hM (xN T) T.B_CE xi_BadMarks xnc (by rfl) T.z_isinstance (p1_d (pd_var (pv 0))) (by rfl)) pda_nil))))))))) rfl (by first | exact Or.inl rfl | exact Or.inr rfl) (PxOk.of hpx _))
 (pts_cons (pts_asg sc__law_flags.nd (i := 1) rfl (by first | exact Or.inl rfl | exact Or.inr rfl) (pd_fr (pf_cat hM (p1_d (pd_var (pv 1))) (p1_d (pd_fr (pf_lst (pda_cons (pd_isK hM (xN T) T.B_CE xi_UnlikeCode xnc (by rfl) T.z_isinstance (p1_d (pd_var (pv 0))) (by rfl)) (pda_cons (pd_isK hM (xN T) T.B_CE xi_BadTimes xnc (by rfl) T.z_isinstance (p1_d (pd_var (pv 0))) (by rfl)) (pda_cons (pd_isK hM (xN T) T.B_CE xi_LowRest xnc (by rfl) T.z_isinstance (p1_d (pd_var (pv 0))) (by rfl)) (pda_cons (pd_isK hM (xN T) T.B_CE xi_BadCone xnc (by rfl) T.z_isinstance (p1_d (pd_var (pv 0))) (by rfl)) pda_nil))))))))) rfl (by first | exact Or.inl rfl | exact Or.inr rfl) (PxOk.of hpx _))
 (pts_cons (pts_asg sc__law_flags.nd (i := 1) rfl (by first | exact Or.inl rfl | exact Or.inr rfl) (pd_fr (pf_cat hM (p1_d (pd_var (pv 1))) (p1_d (pd_fr (pf_lst (pda_cons (pd_isK hM (xN T) T.B_CE xi_NotCone xnc (by rfl) T.z_isinstance (p1_d (pd_var (pv 0))) (by rfl)) (pda_cons (pd_isK hM (xN T) T.B_CE xi_BadMany xnc (by rfl) T.z_isinstance (p1_d (pd_var (pv 0))) (by rfl)) (pda_cons (pd_isK hM (xN T) T.B_CE xi_BadReceived xnc (by rfl) T.z_isinstance (p1_d (pd_var (pv 0))) (by rfl)) (pda_cons (pd_isK hM (xN T) T.B_CE xi_OddCount xnc (by rfl) T.z_isinstance (p1_d (pd_var (pv 0))) (by rfl)) pda_nil))))))))) rfl (by first | exact Or.inl rfl | exact Or.inr rfl) (PxOk.of hpx _))
 (pts_cons (pts_asg sc__law_flags.nd (i := 1) rfl (by first | exact Or.inl rfl | exact Or.inr rfl) (pd_fr (pf_cat hM (p1_d (pd_var (pv 1))) (p1_d (pd_fr (pf_lst (pda_cons (pd_isK hM (xN T) T.B_CE xi_NotStop xnc (by rfl) T.z_isinstance (p1_d (pd_var (pv 0))) (by rfl)) (pda_cons (pd_isK hM (xN T) T.B_CE xi_NotRingless xnc (by rfl) T.z_isinstance (p1_d (pd_var (pv 0))) (by rfl)) (pda_cons (pd_isK hM (xN T) T.B_CE xi_NotCorner xnc (by rfl) T.z_isinstance (p1_d (pd_var (pv 0))) (by rfl)) (pda_cons (pd_isK hM (xN T) T.B_CE xi_BadWeb xnc (by rfl) T.z_isinstance (p1_d (pd_var (pv 0))) (by rfl)) pda_nil))))))))) rfl (by first | exact Or.inl rfl | exact Or.inr rfl) (PxOk.of hpx _))
 (pts_cons (pts_asg sc__law_flags.nd (i := 1) rfl (by first | exact Or.inl rfl | exact Or.inr rfl) (pd_fr (pf_cat hM (p1_d (pd_var (pv 1))) (p1_d (pd_fr (pf_lst (pda_cons (pd_isK hM (xN T) T.B_CE xi_BadPost xnc (by rfl) T.z_isinstance (p1_d (pd_var (pv 0))) (by rfl)) (pda_cons (pd_isK hM (xN T) T.B_CE xi_NotTies xnc (by rfl) T.z_isinstance (p1_d (pd_var (pv 0))) (by rfl)) (pda_cons (pd_isK hM (xN T) T.B_CE xi_NotRound xnc (by rfl) T.z_isinstance (p1_d (pd_var (pv 0))) (by rfl)) (pda_cons (pd_isK hM (xN T) T.B_CE xi_NotApart xnc (by rfl) T.z_isinstance (p1_d (pd_var (pv 0))) (by rfl)) pda_nil))))))))) rfl (by first | exact Or.inl rfl | exact Or.inr rfl) (PxOk.of hpx _))
 (pts_cons (pts_asg sc__law_flags.nd (i := 1) rfl (by first | exact Or.inl rfl | exact Or.inr rfl) (pd_fr (pf_cat hM (p1_d (pd_var (pv 1))) (p1_d (pd_fr (pf_lst (pda_cons (pd_isK hM (xN T) T.B_CE xi_NothingLeft xnc (by rfl) T.z_isinstance (p1_d (pd_var (pv 0))) (by rfl)) (pda_cons (pd_isK hM (xN T) T.B_CE xi_NoSmall xnc (by rfl) T.z_isinstance (p1_d (pd_var (pv 0))) (by rfl)) (pda_cons (pd_isK hM (xN T) T.B_CE xi_NoSum xnc (by rfl) T.z_isinstance (p1_d (pd_var (pv 0))) (by rfl)) (pda_cons (pd_isK hM (xN T) T.B_CE xi_NotHidden xnc (by rfl) T.z_isinstance (p1_d (pd_var (pv 0))) (by rfl)) pda_nil))))))))) rfl (by first | exact Or.inl rfl | exact Or.inr rfl) (PxOk.of hpx _))
 (pts_cons (pts_asg sc__law_flags.nd (i := 1) rfl (by first | exact Or.inl rfl | exact Or.inr rfl) (pd_fr (pf_cat hM (p1_d (pd_var (pv 1))) (p1_d (pd_fr (pf_lst (pda_cons (pd_isK hM (xN T) T.B_CE xi_BadWish xnc (by rfl) T.z_isinstance (p1_d (pd_var (pv 0))) (by rfl)) (pda_cons (pd_isK hM (xN T) T.B_CE xi_BadPool xnc (by rfl) T.z_isinstance (p1_d (pd_var (pv 0))) (by rfl)) (pda_cons (pd_isK hM (xN T) T.B_CE xi_BadPicks xnc (by rfl) T.z_isinstance (p1_d (pd_var (pv 0))) (by rfl)) (pda_cons (pd_isK hM (xN T) T.B_CE xi_BadEdit xnc (by rfl) T.z_isinstance (p1_d (pd_var (pv 0))) (by rfl)) pda_nil))))))))) rfl (by first | exact Or.inl rfl | exact Or.inr rfl) (PxOk.of hpx _))
 (pts_one' (pts_retF (pf_cat hM (p1_d (pd_var (pv 1))) (p1_d (pd_fr (pf_lst (pda_cons (pd_isK hM (xN T) T.B_CE xi_NothingDone xnc (by rfl) T.z_isinstance (p1_d (pd_var (pv 0))) (by rfl)) pda_nil))))))))))))))))))
theorem sc__law_later_fields_hold : FnScope ["_law_one", "_law_other", "_law_odd", "_law_stop", "_law_ring", "_law_corner", "_law_web", "_law_told", "_law_post", "_law_ties", "_law_around", "_law_apart", "_law_small", "_law_hidden", "_law_wish", "_law_pool", "_law_change"] ["_law_one", "_law_other"] (defScope s__law_later_fields_hold) := ⟨rfl, rfl, rfl, by decide +kernel, rfl, by decide +kernel, by decide +kernel⟩
/-- slots: 0 _law_one 1 _law_other 2 _law_odd 3 _law_stop 4 _law_ring 5 _law_corner 6 _law_web 7 _law_told 8 _law_post 9 _law_ties 10 _law_around 11 _law_apart 12 _law_small 13 _law_hidden 14 _law_wish 15 _law_pool 16 _law_change -/
noncomputable def d__law_later_fields_hold : Dn := defF 17
 (seqS (asgT (tgT 5 (tgCons (tgN 2) (tgCons (tgN 3) (tgCons (tgN 4) (tgCons (tgN 5) (tgCons (tgN 6) tgNil)))))) (tupF (consA (mkxF "OddCount" ["number"] [0] (consA (varF 0) nilA)) (consA (mkxF "NotStop" ["number"] [] (consA (varF 0) nilA)) (consA (mkxF "NotRingless" ["ring"] [] (consA (varF 0) nilA)) (consA (mkxF "NotCorner" ["row"] [] (consA (varF 0) nilA)) (consA (mkxF "BadWeb" ["what", "place"] [0, 1] (consA (varF 0) (consA (varF 1) nilA))) nilA)))))))
 (seqS (asgS 7 (frF (lstF (consA (op1F (fldX ["NoCheck", "BadWord", "NotLet", "BadRows", "BadCover", "NotCone", "OddCount", "NotStop", "BadWish"] "number") (varF 2)) (consA (op1F (fldX ["NoCheck", "BadWord", "NotLet", "BadRows", "BadCover", "NotCone", "OddCount", "NotStop", "BadWish"] "number") (varF 3)) (consA (op1F (fldX ["NotRingless"] "ring") (varF 4)) (consA (op1F (fldX ["NotCorner"] "row") (varF 5)) (consA (op1F (fldX ["BadRatio", "BadCode", "BadCover", "BadWeb", "NotRound", "NotApart", "NotHidden"] "what") (varF 6)) (consA (op1F (fldX ["BadCode", "BadPrices", "BadRow", "BadText", "BadWeights", "BadMarks", "BadCone", "BadReceived", "BadWeb", "BadPool", "BadEdit"] "place") (varF 6)) nilA)))))))))
 (seqS (ifS (tstF (op2F neD (bltF reprD (consV (dF (varF 7)) nilV)) (bltF reprD (consV (dF (frF (lstF (consA (varF 0) (consA (varF 0) (consA (varF 0) (consA (varF 0) (consA (varF 0) (consA (varF 1) nilA))))))))) nilV))))
 (retS (cF (.bl false)))
 skipS)
 (seqS (asgT (tgT 5 (tgCons (tgN 8) (tgCons (tgN 9) (tgCons (tgN 10) (tgCons (tgN 11) (tgCons (tgN 12) tgNil)))))) (tupF (consA (mkxF "BadPost" ["post"] [] (consA (varF 0) nilA)) (consA (mkxF "NotTies" ["bit"] [0] (consA (varF 0) nilA)) (consA (mkxF "NotRound" ["what"] [0] (consA (varF 0) nilA)) (consA (mkxF "NotApart" ["what"] [0] (consA (varF 0) nilA)) (consA (mkxF "NoSmall" ["which"] [] (consA (varF 0) nilA)) nilA)))))))
 (seqS (asgS 7 (frF (lstF (consA (op1F (fldX ["BadPost"] "post") (varF 8)) (consA (op1F (fldX ["BadBit", "LowRest", "NotCone", "NotTies"] "bit") (varF 9)) (consA (op1F (fldX ["BadRatio", "BadCode", "BadCover", "BadWeb", "NotRound", "NotApart", "NotHidden"] "what") (varF 10)) (consA (op1F (fldX ["BadRatio", "BadCode", "BadCover", "BadWeb", "NotRound", "NotApart", "NotHidden"] "what") (varF 11)) (consA (op1F (fldX ["NoSmall"] "which") (varF 12)) nilA))))))))
 (seqS (ifS (tstF (op2F neD (bltF reprD (consV (dF (varF 7)) nilV)) (bltF reprD (consV (dF (frF (lstF (consA (varF 0) (consA (varF 0) (consA (varF 0) (consA (varF 0) (consA (varF 0) nilA)))))))) nilV))))
 (retS (cF (.bl false)))
 skipS)
 (seqS (asgT (tgT 4 (tgCons (tgN 13) (tgCons (tgN 14) (tgCons (tgN 15) (tgCons (tgN 16) tgNil))))) (tupF (consA (mkxF "NotHidden" ["what"] [] (consA (varF 0) nilA)) (consA (mkxF "BadWish" ["number"] [] (consA (varF 0) nilA)) (consA (mkxF "BadPool" ["place"] [] (consA (varF 0) nilA)) (consA (mkxF "BadEdit" ["place"] [] (consA (varF 0) nilA)) nilA))))))
 (retS (op2F eqD (bltF reprD (consV (dF (frF (lstF (consA (op1F (fldX ["BadRatio", "BadCode", "BadCover", "BadWeb", "NotRound", "NotApart", "NotHidden"] "what") (varF 13)) (consA (op1F (fldX ["NoCheck", "BadWord", "NotLet", "BadRows", "BadCover", "NotCone", "OddCount", "NotStop", "BadWish"] "number") (varF 14)) (consA (op1F (fldX ["BadCode", "BadPrices", "BadRow", "BadText", "BadWeights", "BadMarks", "BadCone", "BadReceived", "BadWeb", "BadPool", "BadEdit"] "place") (varF 15)) (consA (op1F (fldX ["BadCode", "BadPrices", "BadRow", "BadText", "BadWeights", "BadMarks", "BadCone", "BadReceived", "BadWeb", "BadPool", "BadEdit"] "place") (varF 16)) nilA))))))) nilV)) (bltF reprD (consV (dF (frF (lstF (consA (varF 0) (consA (varF 0) (consA (varF 0) (consA (varF 0) nilA))))))) nilV)))))))))))
theorem ok__law_later_fields_hold (T : Tx K mg base A) : FnG P w K mg base (L2.CX P w) 3 A.f__law_later_fields_hold A.fd__law_later_fields_hold ["_law_one", "_law_other"] (spD ⟨K, mg, Tb K⟩ 2 d__law_later_fields_hold) :=
 ok_defG (N := ["_law_one", "_law_other", "_law_odd", "_law_stop", "_law_ring", "_law_corner", "_law_web", "_law_told", "_law_post", "_law_ties", "_law_around", "_law_apart", "_law_small", "_law_hidden", "_law_wish", "_law_pool", "_law_change"]) rfl (by decide) T.F__law_later_fields_hold sc__law_later_fields_hold fun cdv Ar outer s H E b hGd hr hM hnp hpx =>
 (pts_cons (pts_asgT (pd_tup (pda_cons (pd_mkx hM T.X_OddCount (okx_OddCount T) (hr.mono (by decide)) (by rfl) (by simp) (by decide) (pda_cons (pd_var (pv 0)) pda_nil)) (pda_cons (pd_mkx hM T.X_NotStop (okx_NotStop T) (hr.mono (by decide)) (by rfl) (by simp) (by decide) (pda_cons (pd_var (pv 0)) pda_nil)) (pda_cons (pd_mkx hM T.X_NotRingless (okx_NotRingless T) (hr.mono (by decide)) (by rfl) (by simp) (by decide) (pda_cons (pd_var (pv 0)) pda_nil)) (pda_cons (pd_mkx hM T.X_NotCorner (okx_NotCorner T) (hr.mono (by decide)) (by rfl) (by simp) (by decide) (pda_cons (pd_var (pv 0)) pda_nil)) (pda_cons (pd_mkx hM T.X_BadWeb (okx_BadWeb T) (hr.mono (by decide)) (by rfl) (by simp) (by decide) (pda_cons (pd_var (pv 0)) (pda_cons (pd_var (pv 1)) pda_nil))) pda_nil)))))) (pg_tupD hM rfl (pgs_consD (pg_n (pg_name (i := 2) sc__law_later_fields_hold.nd rfl (by first | exact Or.inl rfl | exact Or.inr rfl)) (PxOk.of hpx _)) (pgs_consD (pg_n (pg_name (i := 3) sc__law_later_fields_hold.nd rfl (by first | exact Or.inl rfl | exact Or.inr rfl)) (PxOk.of hpx _)) (pgs_consD (pg_n (pg_name (i := 4) sc__law_later_fields_hold.nd rfl (by first | exact Or.inl rfl | exact Or.inr rfl)) (PxOk.of hpx _)) (pgs_consD (pg_n (pg_name (i := 5) sc__law_later_fields_hold.nd rfl (by first | exact Or.inl rfl | exact Or.inr rfl)) (PxOk.of hpx _)) (pgs_consD (pg_n (pg_name (i := 6) sc__law_later_fields_hold.nd rfl (by first | exact Or.inl rfl | exact Or.inr rfl)) (PxOk.of hpx _)) pgs_nilD)))))))
 (pts_cons (pts_asg sc__law_later_fields_hold.nd (i := 7) rfl (by first | exact Or.inl rfl | exact Or.inr rfl) (pd_fr (pf_lst (pda_cons (pd_xv hM (xvf_number T) (pd_var (pv 2))) (pda_cons (pd_xv hM (xvf_number T) (pd_var (pv 3))) (pda_cons (pd_xv hM (xvf_ring T) (pd_var (pv 4))) (pda_cons (pd_xv hM (xvf_row T) (pd_var (pv 5))) (pda_cons (pd_xv hM (xvf_what T) (pd_var (pv 6))) (pda_cons (pd_xv hM (xvf_place T) (pd_var (pv 6))) pda_nil)))))))) rfl (by first | exact Or.inl rfl | exact Or.inr rfl) (PxOk.of hpx _))
 (pts_cons (pts_if (qt_ne hM hr (c_repr hGd hr hM (by rfl) T.z_repr (pva_cons (p1_d (pd_var (pv 7))) pva_nil)) (c_repr hGd hr hM (by rfl) T.z_repr (pva_cons (p1_d (pd_fr (pf_lst (pda_cons (pd_var (pv 0)) (pda_cons (pd_var (pv 0)) (pda_cons (pd_var (pv 0)) (pda_cons (pd_var (pv 0)) (pda_cons (pd_var (pv 0)) (pda_cons (pd_var (pv 1)) pda_nil))))))))) pva_nil)))
 (pts_one' (pts_ret pd_bl))
 pts_nil')
 (pts_cons (pts_asgT (pd_tup (pda_cons (pd_mkx hM T.X_BadPost (okx_BadPost T) (hr.mono (by decide)) (by rfl) (by simp) (by decide) (pda_cons (pd_var (pv 0)) pda_nil)) (pda_cons (pd_mkx hM T.X_NotTies (okx_NotTies T) (hr.mono (by decide)) (by rfl) (by simp) (by decide) (pda_cons (pd_var (pv 0)) pda_nil)) (pda_cons (pd_mkx hM T.X_NotRound (okx_NotRound T) (hr.mono (by decide)) (by rfl) (by simp) (by decide) (pda_cons (pd_var (pv 0)) pda_nil)) (pda_cons (pd_mkx hM T.X_NotApart (okx_NotApart T) (hr.mono (by decide)) (by rfl) (by simp) (by decide) (pda_cons (pd_var (pv 0)) pda_nil)) (pda_cons (pd_mkx hM T.X_NoSmall (okx_NoSmall T) (hr.mono (by decide)) (by rfl) (by simp) (by decide) (pda_cons (pd_var (pv 0)) pda_nil)) pda_nil)))))) (pg_tupD hM rfl (pgs_consD (pg_n (pg_name (i := 8) sc__law_later_fields_hold.nd rfl (by first | exact Or.inl rfl | exact Or.inr rfl)) (PxOk.of hpx _)) (pgs_consD (pg_n (pg_name (i := 9) sc__law_later_fields_hold.nd rfl (by first | exact Or.inl rfl | exact Or.inr rfl)) (PxOk.of hpx _)) (pgs_consD (pg_n (pg_name (i := 10) sc__law_later_fields_hold.nd rfl (by first | exact Or.inl rfl | exact Or.inr rfl)) (PxOk.of hpx _)) (pgs_consD (pg_n (pg_name (i := 11) sc__law_later_fields_hold.nd rfl (by first | exact Or.inl rfl | exact Or.inr rfl)) (PxOk.of hpx _)) (pgs_consD (pg_n (pg_name (i := 12) sc__law_later_fields_hold.nd rfl (by first | exact Or.inl rfl | exact Or.inr rfl)) (PxOk.of hpx _)) pgs_nilD)))))))
 (pts_cons (pts_asg sc__law_later_fields_hold.nd (i := 7) rfl (by first | exact Or.inl rfl | exact Or.inr rfl) (pd_fr (pf_lst (pda_cons (pd_xv hM (xvf_post T) (pd_var (pv 8))) (pda_cons (pd_xv hM (xvf_bit T) (pd_var (pv 9))) (pda_cons (pd_xv hM (xvf_what T) (pd_var (pv 10))) (pda_cons (pd_xv hM (xvf_what T) (pd_var (pv 11))) (pda_cons (pd_xv hM (xvf_which T) (pd_var (pv 12))) pda_nil))))))) rfl (by first | exact Or.inl rfl | exact Or.inr rfl) (PxOk.of hpx _))
 (pts_cons (pts_if (qt_ne hM hr (c_repr hGd hr hM (by rfl) T.z_repr (pva_cons (p1_d (pd_var (pv 7))) pva_nil)) (c_repr hGd hr hM (by rfl) T.z_repr (pva_cons (p1_d (pd_fr (pf_lst (pda_cons (pd_var (pv 0)) (pda_cons (pd_var (pv 0)) (pda_cons (pd_var (pv 0)) (pda_cons (pd_var (pv 0)) (pda_cons (pd_var (pv 0)) pda_nil)))))))) pva_nil)))
 (pts_one' (pts_ret pd_bl))
 pts_nil')
 (pts_cons (pts_asgT (pd_tup (pda_cons (pd_mkx hM T.X_NotHidden (okx_NotHidden T) (hr.mono (by decide)) (by rfl) (by simp) (by decide) (pda_cons (pd_var (pv 0)) pda_nil)) (pda_cons (pd_mkx hM T.X_BadWish (okx_BadWish T) (hr.mono (by decide)) (by rfl) (by simp) (by decide) (pda_cons (pd_var (pv 0)) pda_nil)) (pda_cons (pd_mkx hM T.X_BadPool (okx_BadPool T) (hr.mono (by decide)) (by rfl) (by simp) (by decide) (pda_cons (pd_var (pv 0)) pda_nil)) (pda_cons (pd_mkx hM T.X_BadEdit (okx_BadEdit T) (hr.mono (by decide)) (by rfl) (by simp) (by decide) (pda_cons (pd_var (pv 0)) pda_nil)) pda_nil))))) (pg_tupD hM rfl (pgs_consD (pg_n (pg_name (i := 13) sc__law_later_fields_hold.nd rfl (by first | exact Or.inl rfl | exact Or.inr rfl)) (PxOk.of hpx _)) (pgs_consD (pg_n (pg_name (i := 14) sc__law_later_fields_hold.nd rfl (by first | exact Or.inl rfl | exact Or.inr rfl)) (PxOk.of hpx _)) (pgs_consD (pg_n (pg_name (i := 15) sc__law_later_fields_hold.nd rfl (by first | exact Or.inl rfl | exact Or.inr rfl)) (PxOk.of hpx _)) (pgs_consD (pg_n (pg_name (i := 16) sc__law_later_fields_hold.nd rfl (by first | exact Or.inl rfl | exact Or.inr rfl)) (PxOk.of hpx _)) pgs_nilD))))))
 (pts_one' (pts_ret (q_eq hM hr (c_repr hGd hr hM (by rfl) T.z_repr (pva_cons (p1_d (pd_fr (pf_lst (pda_cons (pd_xv hM (xvf_what T) (pd_var (pv 13))) (pda_cons (pd_xv hM (xvf_number T) (pd_var (pv 14))) (pda_cons (pd_xv hM (xvf_place T) (pd_var (pv 15))) (pda_cons (pd_xv hM (xvf_place T) (pd_var (pv 16))) pda_nil))))))) pva_nil)) (c_repr hGd hr hM (by rfl) T.z_repr (pva_cons (p1_d (pd_fr (pf_lst (pda_cons (pd_var (pv 0)) (pda_cons (pd_var (pv 0)) (pda_cons (pd_var (pv 0)) (pda_cons (pd_var (pv 0)) pda_nil))))))) pva_nil))))))))))))
theorem sc__law_fields_hold : FnScope ["_law_one", "_law_other", "_law_ratio", "_law_code", "_law_bit", "_law_check", "_law_prices", "_law_row", "_law_told", "_law_word", "_law_many", "_law_text", "_law_barred", "_law_sheets", "_law_rows", "_law_weights", "_law_cover", "_law_marks", "_law_times", "_law_rest", "_law_cone", "_law_above", "_law_flips", "_law_received"] ["_law_one", "_law_other"] (defScope s__law_fields_hold) := ⟨rfl, rfl, rfl, by decide +kernel, rfl, by decide +kernel, by decide +kernel⟩
/-- slots: 0 _law_one 1 _law_other 2 _law_ratio 3 _law_code 4 _law_bit 5 _law_check 6 _law_prices 7 _law_row 8 _law_told 9 _law_word 10 _law_many 11 _law_text 12 _law_barred 13 _law_sheets 14 _law_rows 15 _law_weights 16 _law_cover 17 _law_marks 18 _law_times 19 _law_rest 20 _law_cone 21 _law_above 22 _law_flips 23 _law_received -/
noncomputable def d__law_fields_hold : Dn := defF 24
 (seqS (asgT (tgT 6 (tgCons (tgN 2) (tgCons (tgN 3) (tgCons (tgN 4) (tgCons (tgN 5) (tgCons (tgN 6) (tgCons (tgN 7) tgNil))))))) (tupF (consA (mkxF "BadRatio" ["what"] [] (consA (varF 0) nilA)) (consA (mkxF "BadCode" ["what", "place"] [] (consA (varF 0) (consA (varF 1) nilA))) (consA (mkxF "BadBit" ["bit"] [] (consA (varF 0) nilA)) (consA (mkxF "NoCheck" ["number"] [] (consA (varF 0) nilA)) (consA (mkxF "BadPrices" ["place"] [] (consA (varF 0) nilA)) (consA (mkxF "BadRow" ["place"] [] (consA (varF 0) nilA)) nilA))))))))
 (seqS (asgS 8 (frF (lstF (consA (op1F (fldX ["BadRatio", "BadCode", "BadCover", "BadWeb", "NotRound", "NotApart", "NotHidden"] "what") (varF 2)) (consA (op1F (fldX ["BadRatio", "BadCode", "BadCover", "BadWeb", "NotRound", "NotApart", "NotHidden"] "what") (varF 3)) (consA (op1F (fldX ["BadCode", "BadPrices", "BadRow", "BadText", "BadWeights", "BadMarks", "BadCone", "BadReceived", "BadWeb", "BadPool", "BadEdit"] "place") (varF 3)) (consA (op1F (fldX ["BadBit", "LowRest", "NotCone", "NotTies"] "bit") (varF 4)) (consA (op1F (fldX ["NoCheck", "BadWord", "NotLet", "BadRows", "BadCover", "NotCone", "OddCount", "NotStop", "BadWish"] "number") (varF 5)) (consA (op1F (fldX ["BadCode", "BadPrices", "BadRow", "BadText", "BadWeights", "BadMarks", "BadCone", "BadReceived", "BadWeb", "BadPool", "BadEdit"] "place") (varF 6)) (consA (op1F (fldX ["BadCode", "BadPrices", "BadRow", "BadText", "BadWeights", "BadMarks", "BadCone", "BadReceived", "BadWeb", "BadPool", "BadEdit"] "place") (varF 7)) nilA))))))))))
 (seqS (ifS (tstF (op2F neD (bltF reprD (consV (dF (varF 8)) nilV)) (bltF reprD (consV (dF (frF (lstF (consA (varF 0) (consA (varF 0) (consA (varF 1) (consA (varF 0) (consA (varF 0) (consA (varF 0) (consA (varF 0) nilA)))))))))) nilV))))
 (retS (cF (.bl false)))
 skipS)
 (seqS (asgT (tgT 5 (tgCons (tgN 9) (tgCons (tgN 10) (tgCons (tgN 11) (tgCons (tgN 12) (tgCons (tgN 13) tgNil)))))) (tupF (consA (mkxF "BadWord" ["number"] [] (consA (varF 0) nilA)) (consA (mkxF "TooMany" ["most"] [] (consA (varF 0) nilA)) (consA (mkxF "BadText" ["place"] [] (consA (varF 0) nilA)) (consA (mkxF "NotLet" ["number", "lot"] [] (consA (varF 0) (consA (varF 1) nilA))) (consA (mkxF "BadSheets" ["sheets"] [] (consA (varF 0) nilA)) nilA)))))))
 (seqS (asgS 8 (frF (lstF (consA (op1F (fldX ["NoCheck", "BadWord", "NotLet", "BadRows", "BadCover", "NotCone", "OddCount", "NotStop", "BadWish"] "number") (varF 9)) (consA (op1F (fldX ["TooMany"] "most") (varF 10)) (consA (op1F (fldX ["BadCode", "BadPrices", "BadRow", "BadText", "BadWeights", "BadMarks", "BadCone", "BadReceived", "BadWeb", "BadPool", "BadEdit"] "place") (varF 11)) (consA (op1F (fldX ["NoCheck", "BadWord", "NotLet", "BadRows", "BadCover", "NotCone", "OddCount", "NotStop", "BadWish"] "number") (varF 12)) (consA (op1F (fldX ["NotLet"] "lot") (varF 12)) (consA (op1F (fldX ["BadSheets"] "sheets") (varF 13)) nilA)))))))))
 (seqS (ifS (tstF (op2F neD (bltF reprD (consV (dF (varF 8)) nilV)) (bltF reprD (consV (dF (frF (lstF (consA (varF 0) (consA (varF 0) (consA (varF 0) (consA (varF 0) (consA (varF 1) (consA (varF 0) nilA))))))))) nilV))))
 (retS (cF (.bl false)))
 skipS)
 (seqS (asgT (tgT 5 (tgCons (tgN 14) (tgCons (tgN 15) (tgCons (tgN 16) (tgCons (tgN 17) (tgCons (tgN 18) tgNil)))))) (tupF (consA (mkxF "BadRows" ["number"] [] (consA (varF 0) nilA)) (consA (mkxF "BadWeights" ["place"] [] (consA (varF 0) nilA)) (consA (mkxF "BadCover" ["what", "number"] [] (consA (varF 0) (consA (varF 1) nilA))) (consA (mkxF "BadMarks" ["place"] [] (consA (varF 0) nilA)) (consA (mkxF "BadTimes" ["times"] [] (consA (varF 0) nilA)) nilA)))))))
 (seqS (asgS 8 (frF (lstF (consA (op1F (fldX ["NoCheck", "BadWord", "NotLet", "BadRows", "BadCover", "NotCone", "OddCount", "NotStop", "BadWish"] "number") (varF 14)) (consA (op1F (fldX ["BadCode", "BadPrices", "BadRow", "BadText", "BadWeights", "BadMarks", "BadCone", "BadReceived", "BadWeb", "BadPool", "BadEdit"] "place") (varF 15)) (consA (op1F (fldX ["BadRatio", "BadCode", "BadCover", "BadWeb", "NotRound", "NotApart", "NotHidden"] "what") (varF 16)) (consA (op1F (fldX ["NoCheck", "BadWord", "NotLet", "BadRows", "BadCover", "NotCone", "OddCount", "NotStop", "BadWish"] "number") (varF 16)) (consA (op1F (fldX ["BadCode", "BadPrices", "BadRow", "BadText", "BadWeights", "BadMarks", "BadCone", "BadReceived", "BadWeb", "BadPool", "BadEdit"] "place") (varF 17)) (consA (op1F (fldX ["BadTimes"] "times") (varF 18)) nilA)))))))))
 (seqS (ifS (tstF (op2F neD (bltF reprD (consV (dF (varF 8)) nilV)) (bltF reprD (consV (dF (frF (lstF (consA (varF 0) (consA (varF 0) (consA (varF 0) (consA (varF 1) (consA (varF 0) (consA (varF 0) nilA))))))))) nilV))))
 (retS (cF (.bl false)))
 skipS)
 (seqS (asgT (tgT 5 (tgCons (tgN 19) (tgCons (tgN 20) (tgCons (tgN 21) (tgCons (tgN 22) (tgCons (tgN 23) tgNil)))))) (tupF (consA (mkxF "LowRest" ["bit"] [] (consA (varF 0) nilA)) (consA (mkxF "BadCone" ["place"] [0] (consA (varF 0) nilA)) (consA (mkxF "NotCone" ["number", "bit"] [0, 1] (consA (varF 0) (consA (varF 1) nilA))) (consA (mkxF "BadMany" ["many"] [] (consA (varF 0) nilA)) (consA (mkxF "BadReceived" ["place"] [0] (consA (varF 0) nilA)) nilA)))))))
 (seqS (asgS 8 (frF (lstF (consA (op1F (fldX ["BadBit", "LowRest", "NotCone", "NotTies"] "bit") (varF 19)) (consA (op1F (fldX ["BadCode", "BadPrices", "BadRow", "BadText", "BadWeights", "BadMarks", "BadCone", "BadReceived", "BadWeb", "BadPool", "BadEdit"] "place") (varF 20)) (consA (op1F (fldX ["NoCheck", "BadWord", "NotLet", "BadRows", "BadCover", "NotCone", "OddCount", "NotStop", "BadWish"] "number") (varF 21)) (consA (op1F (fldX ["BadBit", "LowRest", "NotCone", "NotTies"] "bit") (varF 21)) (consA (op1F (fldX ["BadMany"] "many") (varF 22)) (consA (op1F (fldX ["BadCode", "BadPrices", "BadRow", "BadText", "BadWeights", "BadMarks", "BadCone", "BadReceived", "BadWeb", "BadPool", "BadEdit"] "place") (varF 23)) nilA)))))))))
 (retS (andV (op2F eqD (bltF reprD (consV (dF (varF 8)) nilV)) (bltF reprD (consV (dF (frF (lstF (consA (varF 0) (consA (varF 0) (consA (varF 0) (consA (varF 1) (consA (varF 0) (consA (varF 0) nilA))))))))) nilV))) (callF 2 d__law_later_fields_hold [] (consV (dF (varF 0)) (consV (dF (varF 1)) nilV))))))))))))))))
theorem ok__law_fields_hold (T : Tx K mg base A) : FnG P w K mg base (L2.CX P w) 4 A.f__law_fields_hold A.fd__law_fields_hold ["_law_one", "_law_other"] (spD ⟨K, mg, Tb K⟩ 2 d__law_fields_hold) :=
 ok_defG (N := ["_law_one", "_law_other", "_law_ratio", "_law_code", "_law_bit", "_law_check", "_law_prices", "_law_row", "_law_told", "_law_word", "_law_many", "_law_text", "_law_barred", "_law_sheets", "_law_rows", "_law_weights", "_law_cover", "_law_marks", "_law_times", "_law_rest", "_law_cone", "_law_above", "_law_flips", "_law_received"]) rfl (by decide) T.F__law_fields_hold sc__law_fields_hold fun cdv Ar outer s H E b hGd hr hM hnp hpx =>
 (pts_cons (pts_asgT (pd_tup (pda_cons (pd_mkx hM T.X_BadRatio (okx_BadRatio T) (hr.mono (by decide)) (by rfl) (by simp) (by decide) (pda_cons (pd_var (pv 0)) pda_nil)) (pda_cons (pd_mkx hM T.X_BadCode (okx_BadCode T) (hr.mono (by decide)) (by rfl) (by simp) (by decide) (pda_cons (pd_var (pv 0)) (pda_cons (pd_var (pv 1)) pda_nil))) (pda_cons (pd_mkx hM T.X_BadBit (okx_BadBit T) (hr.mono (by decide)) (by rfl) (by simp) (by decide) (pda_cons (pd_var (pv 0)) pda_nil)) (pda_cons (pd_mkx hM T.X_NoCheck (okx_NoCheck T) (hr.mono (by decide)) (by rfl) (by simp) (by decide) (pda_cons (pd_var (pv 0)) pda_nil)) (pda_cons (pd_mkx hM T.X_BadPrices (okx_BadPrices T) (hr.mono (by decide)) (by rfl) (by simp) (by decide) (pda_cons (pd_var (pv 0)) pda_nil)) (pda_cons (pd_mkx hM T.X_BadRow (okx_BadRow T) (hr.mono (by decide)) (by rfl) (by simp) (by decide) (pda_cons (pd_var (pv 0)) pda_nil)) pda_nil))))))) (pg_tupD hM rfl (pgs_consD (pg_n (pg_name (i := 2) sc__law_fields_hold.nd rfl (by first | exact Or.inl rfl | exact Or.inr rfl)) (PxOk.of hpx _)) (pgs_consD (pg_n (pg_name (i := 3) sc__law_fields_hold.nd rfl (by first | exact Or.inl rfl | exact Or.inr rfl)) (PxOk.of hpx _)) (pgs_consD (pg_n (pg_name (i := 4) sc__law_fields_hold.nd rfl (by first | exact Or.inl rfl | exact Or.inr rfl)) (PxOk.of hpx _)) (pgs_consD (pg_n (pg_name (i := 5) sc__law_fields_hold.nd rfl (by first | exact Or.inl rfl | exact Or.inr rfl)) (PxOk.of hpx _)) (pgs_consD (pg_n (pg_name (i := 6) sc__law_fields_hold.nd rfl (by first | exact Or.inl rfl | exact Or.inr rfl)) (PxOk.of hpx _)) (pgs_consD (pg_n (pg_name (i := 7) sc__law_fields_hold.nd rfl (by first | exact Or.inl rfl | exact Or.inr rfl)) (PxOk.of hpx _)) pgs_nilD))))))))
 (pts_cons (pts_asg sc__law_fields_hold.nd (i := 8) rfl (by first | exact Or.inl rfl | exact Or.inr rfl) (pd_fr (pf_lst (pda_cons (pd_xv hM (xvf_what T) (pd_var (pv 2))) (pda_cons (pd_xv hM (xvf_what T) (pd_var (pv 3))) (pda_cons (pd_xv hM (xvf_place T) (pd_var (pv 3))) (pda_cons (pd_xv hM (xvf_bit T) (pd_var (pv 4))) (pda_cons (pd_xv hM (xvf_number T) (pd_var (pv 5))) (pda_cons (pd_xv hM (xvf_place T) (pd_var (pv 6))) (pda_cons (pd_xv hM (xvf_place T) (pd_var (pv 7))) pda_nil))))))))) rfl (by first | exact Or.inl rfl | exact Or.inr rfl) (PxOk.of hpx _))
 (pts_cons (pts_if (qt_ne hM hr (c_repr hGd hr hM (by rfl) T.z_repr (pva_cons (p1_d (pd_var (pv 8))) pva_nil)) (c_repr hGd hr hM (by rfl) T.z_repr (pva_cons (p1_d (pd_fr (pf_lst (pda_cons (pd_var (pv 0)) (pda_cons (pd_var (pv 0)) (pda_cons (pd_var (pv 1)) (pda_cons (pd_var (pv 0)) (pda_cons (pd_var (pv 0)) (pda_cons (pd_var (pv 0)) (pda_cons (pd_var (pv 0)) pda_nil)))))))))) pva_nil)))
 (pts_one' (pts_ret pd_bl))
 pts_nil')
 (pts_cons (pts_asgT (pd_tup (pda_cons (pd_mkx hM T.X_BadWord (okx_BadWord T) (hr.mono (by decide)) (by rfl) (by simp) (by decide) (pda_cons (pd_var (pv 0)) pda_nil)) (pda_cons (pd_mkx hM T.X_TooMany (okx_TooMany T) (hr.mono (by decide)) (by rfl) (by simp) (by decide) (pda_cons (pd_var (pv 0)) pda_nil)) (pda_cons (pd_mkx hM T.X_BadText (okx_BadText T) (hr.mono (by decide)) (by rfl) (by simp) (by decide) (pda_cons (pd_var (pv 0)) pda_nil)) (pda_cons (pd_mkx hM T.X_NotLet (okx_NotLet T) (hr.mono (by decide)) (by rfl) (by simp) (by decide) (pda_cons (pd_var (pv 0)) (pda_cons (pd_var (pv 1)) pda_nil))) (pda_cons (pd_mkx hM T.X_BadSheets (okx_BadSheets T) (hr.mono (by decide)) (by rfl) (by simp) (by decide) (pda_cons (pd_var (pv 0)) pda_nil)) pda_nil)))))) (pg_tupD hM rfl (pgs_consD (pg_n (pg_name (i := 9) sc__law_fields_hold.nd rfl (by first | exact Or.inl rfl | exact Or.inr rfl)) (PxOk.of hpx _)) (pgs_consD (pg_n (pg_name (i := 10) sc__law_fields_hold.nd rfl (by first | exact Or.inl rfl | exact Or.inr rfl)) (PxOk.of hpx _)) (pgs_consD (pg_n (pg_name (i := 11) sc__law_fields_hold.nd rfl (by first | exact Or.inl rfl | exact Or.inr rfl)) (PxOk.of hpx _)) (pgs_consD (pg_n (pg_name (i := 12) sc__law_fields_hold.nd rfl (by first | exact Or.inl rfl | exact Or.inr rfl)) (PxOk.of hpx _)) (pgs_consD (pg_n (pg_name (i := 13) sc__law_fields_hold.nd rfl (by first | exact Or.inl rfl | exact Or.inr rfl)) (PxOk.of hpx _)) pgs_nilD)))))))
 (pts_cons (pts_asg sc__law_fields_hold.nd (i := 8) rfl (by first | exact Or.inl rfl | exact Or.inr rfl) (pd_fr (pf_lst (pda_cons (pd_xv hM (xvf_number T) (pd_var (pv 9))) (pda_cons (pd_xv hM (xvf_most T) (pd_var (pv 10))) (pda_cons (pd_xv hM (xvf_place T) (pd_var (pv 11))) (pda_cons (pd_xv hM (xvf_number T) (pd_var (pv 12))) (pda_cons (pd_xv hM (xvf_lot T) (pd_var (pv 12))) (pda_cons (pd_xv hM (xvf_sheets T) (pd_var (pv 13))) pda_nil)))))))) rfl (by first | exact Or.inl rfl | exact Or.inr rfl) (PxOk.of hpx _))
 (pts_cons (pts_if (qt_ne hM hr (c_repr hGd hr hM (by rfl) T.z_repr (pva_cons (p1_d (pd_var (pv 8))) pva_nil)) (c_repr hGd hr hM (by rfl) T.z_repr (pva_cons (p1_d (pd_fr (pf_lst (pda_cons (pd_var (pv 0)) (pda_cons (pd_var (pv 0)) (pda_cons (pd_var (pv 0)) (pda_cons (pd_var (pv 0)) (pda_cons (pd_var (pv 1)) (pda_cons (pd_var (pv 0)) pda_nil))))))))) pva_nil)))
 (pts_one' (pts_ret pd_bl))
 pts_nil')
 (pts_cons (pts_asgT (pd_tup (pda_cons (pd_mkx hM T.X_BadRows (okx_BadRows T) (hr.mono (by decide)) (by rfl) (by simp) (by decide) (pda_cons (pd_var (pv 0)) pda_nil)) (pda_cons (pd_mkx hM T.X_BadWeights (okx_BadWeights T) (hr.mono (by decide)) (by rfl) (by simp) (by decide) (pda_cons (pd_var (pv 0)) pda_nil)) (pda_cons (pd_mkx hM T.X_BadCover (okx_BadCover T) (hr.mono (by decide)) (by rfl) (by simp) (by decide) (pda_cons (pd_var (pv 0)) (pda_cons (pd_var (pv 1)) pda_nil))) (pda_cons (pd_mkx hM T.X_BadMarks (okx_BadMarks T) (hr.mono (by decide)) (by rfl) (by simp) (by decide) (pda_cons (pd_var (pv 0)) pda_nil)) (pda_cons (pd_mkx hM T.X_BadTimes (okx_BadTimes T) (hr.mono (by decide)) (by rfl) (by simp) (by decide) (pda_cons (pd_var (pv 0)) pda_nil)) pda_nil)))))) (pg_tupD hM rfl (pgs_consD (pg_n (pg_name (i := 14) sc__law_fields_hold.nd rfl (by first | exact Or.inl rfl | exact Or.inr rfl)) (PxOk.of hpx _)) (pgs_consD (pg_n (pg_name (i := 15) sc__law_fields_hold.nd rfl (by first | exact Or.inl rfl | exact Or.inr rfl)) (PxOk.of hpx _)) (pgs_consD (pg_n (pg_name (i := 16) sc__law_fields_hold.nd rfl (by first | exact Or.inl rfl | exact Or.inr rfl)) (PxOk.of hpx _)) (pgs_consD (pg_n (pg_name (i := 17) sc__law_fields_hold.nd rfl (by first | exact Or.inl rfl | exact Or.inr rfl)) (PxOk.of hpx _)) (pgs_consD (pg_n (pg_name (i := 18) sc__law_fields_hold.nd rfl (by first | exact Or.inl rfl | exact Or.inr rfl)) (PxOk.of hpx _)) pgs_nilD)))))))
 (pts_cons (pts_asg sc__law_fields_hold.nd (i := 8) rfl (by first | exact Or.inl rfl | exact Or.inr rfl) (pd_fr (pf_lst (pda_cons (pd_xv hM (xvf_number T) (pd_var (pv 14))) (pda_cons (pd_xv hM (xvf_place T) (pd_var (pv 15))) (pda_cons (pd_xv hM (xvf_what T) (pd_var (pv 16))) (pda_cons (pd_xv hM (xvf_number T) (pd_var (pv 16))) (pda_cons (pd_xv hM (xvf_place T) (pd_var (pv 17))) (pda_cons (pd_xv hM (xvf_times T) (pd_var (pv 18))) pda_nil)))))))) rfl (by first | exact Or.inl rfl | exact Or.inr rfl) (PxOk.of hpx _))
 (pts_cons (pts_if (qt_ne hM hr (c_repr hGd hr hM (by rfl) T.z_repr (pva_cons (p1_d (pd_var (pv 8))) pva_nil)) (c_repr hGd hr hM (by rfl) T.z_repr (pva_cons (p1_d (pd_fr (pf_lst (pda_cons (pd_var (pv 0)) (pda_cons (pd_var (pv 0)) (pda_cons (pd_var (pv 0)) (pda_cons (pd_var (pv 1)) (pda_cons (pd_var (pv 0)) (pda_cons (pd_var (pv 0)) pda_nil))))))))) pva_nil)))
 (pts_one' (pts_ret pd_bl))
 pts_nil')
 (pts_cons (pts_asgT (pd_tup (pda_cons (pd_mkx hM T.X_LowRest (okx_LowRest T) (hr.mono (by decide)) (by rfl) (by simp) (by decide) (pda_cons (pd_var (pv 0)) pda_nil)) (pda_cons (pd_mkx hM T.X_BadCone (okx_BadCone T) (hr.mono (by decide)) (by rfl) (by simp) (by decide) (pda_cons (pd_var (pv 0)) pda_nil)) (pda_cons (pd_mkx hM T.X_NotCone (okx_NotCone T) (hr.mono (by decide)) (by rfl) (by simp) (by decide) (pda_cons (pd_var (pv 0)) (pda_cons (pd_var (pv 1)) pda_nil))) (pda_cons (pd_mkx hM T.X_BadMany (okx_BadMany T) (hr.mono (by decide)) (by rfl) (by simp) (by decide) (pda_cons (pd_var (pv 0)) pda_nil)) (pda_cons (pd_mkx hM T.X_BadReceived (okx_BadReceived T) (hr.mono (by decide)) (by rfl) (by simp) (by decide) (pda_cons (pd_var (pv 0)) pda_nil)) pda_nil)))))) (pg_tupD hM rfl (pgs_consD (pg_n (pg_name (i := 19) sc__law_fields_hold.nd rfl (by first | exact Or.inl rfl | exact Or.inr rfl)) (PxOk.of hpx _)) (pgs_consD (pg_n (pg_name (i := 20) sc__law_fields_hold.nd rfl (by first | exact Or.inl rfl | exact Or.inr rfl)) (PxOk.of hpx _)) (pgs_consD (pg_n (pg_name (i := 21) sc__law_fields_hold.nd rfl (by first | exact Or.inl rfl | exact Or.inr rfl)) (PxOk.of hpx _)) (pgs_consD (pg_n (pg_name (i := 22) sc__law_fields_hold.nd rfl (by first | exact Or.inl rfl | exact Or.inr rfl)) (PxOk.of hpx _)) (pgs_consD (pg_n (pg_name (i := 23) sc__law_fields_hold.nd rfl (by first | exact Or.inl rfl | exact Or.inr rfl)) (PxOk.of hpx _)) pgs_nilD)))))))
 (pts_cons (pts_asg sc__law_fields_hold.nd (i := 8) rfl (by first | exact Or.inl rfl | exact Or.inr rfl) (pd_fr (pf_lst (pda_cons (pd_xv hM (xvf_bit T) (pd_var (pv 19))) (pda_cons (pd_xv hM (xvf_place T) (pd_var (pv 20))) (pda_cons (pd_xv hM (xvf_number T) (pd_var (pv 21))) (pda_cons (pd_xv hM (xvf_bit T) (pd_var (pv 21))) (pda_cons (pd_xv hM (xvf_many T) (pd_var (pv 22))) (pda_cons (pd_xv hM (xvf_place T) (pd_var (pv 23))) pda_nil)))))))) rfl (by first | exact Or.inl rfl | exact Or.inr rfl) (PxOk.of hpx _))
 (pts_one' (pts_ret (pd_and (q_eq hM hr (c_repr hGd hr hM (by rfl) T.z_repr (pva_cons (p1_d (pd_var (pv 8))) pva_nil)) (c_repr hGd hr hM (by rfl) T.z_repr (pva_cons (p1_d (pd_fr (pf_lst (pda_cons (pd_var (pv 0)) (pda_cons (pd_var (pv 0)) (pda_cons (pd_var (pv 0)) (pda_cons (pd_var (pv 1)) (pda_cons (pd_var (pv 0)) (pda_cons (pd_var (pv 0)) pda_nil))))))))) pva_nil))) (pd_one (q_callG hGd hM (takes_of rfl rfl rfl rfl) (ok__law_later_fields_hold T) (hr.mono (by decide)) (by rfl) T.m__law_later_fields_hold T.k__law_later_fields_hold (bd__law_later_fields_hold_2 T) (fun _ _ _ => RepL.nil) (pva_cons (p1_d (pd_var (pv 0))) (pva_cons (p1_d (pd_var (pv 1))) pva_nil))))))))))))))))))
theorem sc_law : FnScope ["_law_script", "_law_hand_here", "_law_one", "_law_other", "_law_made", "_law_at", "_law_flags_here", "_law_place"] ["_law_script"] (defScope s_law) := ⟨rfl, rfl, rfl, by decide +kernel, rfl, by decide +kernel, by decide +kernel⟩
/-- slots: 0 _law_script 1 _law_hand_here 2 _law_one 3 _law_other 4 _law_made 5 _law_at 6 _law_flags_here 7 _law_place -/
noncomputable def d_law : Dn := defF 8
 (seqS (asgO 1 (callFF 1 d__law_hand [] (consV (dF (varF 0)) nilV)))
 (seqS (asgS 2 (callF 1 d__law_thing [] (consV (nmF 1) nilV)))
 (seqS (asgS 3 (callF 1 d__law_thing [] (consV (nmF 1) nilV)))
 (seqS (asgS 4 (frF (callFF 2 d__law_all [] (consV (dF (varF 2)) (consV (dF (varF 3)) nilV)))))
 (seqS (forS (faF rng1D (consA (cF (.int 45)) nilA)) (tgN 5)
 (seqS (ifS (orB (notB (tstF (isiF (isvD xnames fun _ => true) (dF (op2F ixD (varF 4) (varF 5)))))) (notB (tstF (isiF (isvD xnames fun _ => true) (dF (op2F ixD (varF 4) (varF 5)))))))
 (retS (cF (.bl false)))
 skipS)
 (seqS (asgS 6 (frF (callFF 1 d__law_flags [] (consV (dF (op2F ixD (varF 4) (varF 5))) nilV))))
 (ifS (tstF (op2F neD (frF (lcF (faF rng1D (consA (cF (.int 45)) nilA)) (tgN 7) (tstF (op2F ixD (varF 6) (varF 7))) (varF 7) [7])) (frF (lstF (consA (varF 5) nilA)))))
 (retS (cF (.bl false)))
 skipS))))
 (retS (andV (callF 2 d__law_fields_hold [] (consV (dF (varF 2)) (consV (dF (varF 3)) nilV))) (callF 2 d__law_fields_hold [] (consV (dF (varF 3)) (consV (dF (varF 2)) nilV))))))))))
theorem ok_law (T : Tx K mg base A) : FnG P w K mg base (L2.CX P w) 5 A.f_law A.fd_law ["_law_script"] (spD ⟨K, mg, Tb K⟩ 1 d_law) :=
 ok_defG (N := ["_law_script", "_law_hand_here", "_law_one", "_law_other", "_law_made", "_law_at", "_law_flags_here", "_law_place"]) rfl (by decide) T.F_law sc_law fun cdv Ar outer s H E b hGd hr hM hnp hpx =>
 (pts_cons (pts_asgO (npl hnp (by decide)) sc_law.nd (i := 1) rfl (by first | exact Or.inl rfl | exact Or.inr rfl) (f_call hM (takes_of rfl rfl rfl rfl) (ok__law_hand T) (hr.mono (by decide)) (by rfl) T.m__law_hand T.k__law_hand (bd__law_hand_1 T) (fun _ _ _ => RepL.nil) (pva_cons (p1_d (pd_var (pv 0))) pva_nil)) rfl (by first | exact Or.inl rfl | exact Or.inr rfl) (PxOk.of hpx _))
 (pts_cons (pts_asg sc_law.nd (i := 2) rfl (by first | exact Or.inl rfl | exact Or.inr rfl) (q_call hM (takes_of rfl rfl rfl rfl) (ok__law_thing T) (hr.mono (by decide)) (by rfl) T.m__law_thing T.k__law_thing (bd__law_thing_1 T) (fun _ _ _ => RepL.nil) (pva_cons (p1_nm (pv 1)) pva_nil)) rfl (by first | exact Or.inl rfl | exact Or.inr rfl) (PxOk.of hpx _))
 (pts_cons (pts_asg sc_law.nd (i := 3) rfl (by first | exact Or.inl rfl | exact Or.inr rfl) (q_call hM (takes_of rfl rfl rfl rfl) (ok__law_thing T) (hr.mono (by decide)) (by rfl) T.m__law_thing T.k__law_thing (bd__law_thing_1 T) (fun _ _ _ => RepL.nil) (pva_cons (p1_nm (pv 1)) pva_nil)) rfl (by first | exact Or.inl rfl | exact Or.inr rfl) (PxOk.of hpx _))
 (pts_cons (pts_asg sc_law.nd (i := 4) rfl (by first | exact Or.inl rfl | exact Or.inr rfl) (pd_fr (f_call hM (takes_of rfl rfl rfl rfl) (ok__law_all T) (hr.mono (by decide)) (by rfl) T.m__law_all T.k__law_all (bd__law_all_2 T) (fun _ _ _ => RepL.nil) (pva_cons (p1_d (pd_var (pv 2))) (pva_cons (p1_d (pd_var (pv 3))) pva_nil)))) rfl (by first | exact Or.inl rfl | exact Or.inr rfl) (PxOk.of hpx _))
 (pts_cons (pts_for (passes_of rfl) rfl (pi_rng1 (by rfl) T.z_range (pda_cons pd_int pda_nil)) (pg_n (pg_name (i := 5) sc_law.nd rfl (by first | exact Or.inl rfl | exact Or.inr rfl)) (PxOk.of hpx _))
 (pts_cons (pts_if (PW.pt (pwb_or (ptb_not (pt_of (pd_isB hM (xN T) T.B_CE (by rfl) T.z_isinstance (p1_d (q_ix hM (pd_var (pv 4)) (pd_var (pv 5)) (fun _ _ => rfl))) (by rfl)))) (pwb_or1 (ptb_not (pt_of (pd_isVE hM (xN T) (by rfl) T.z_isinstance (p1_d (q_ix hM (pd_var (pv 4)) (pd_var (pv 5)) (fun _ _ => rfl))) (tyN (by rfl) T.z_ValueError (by decide +kernel))))))))
 (pts_one' (pts_ret pd_bl))
 pts_nil')
 (pts_cons (pts_asg sc_law.nd (i := 6) rfl (by first | exact Or.inl rfl | exact Or.inr rfl) (pd_fr (f_call hM (takes_of rfl rfl rfl rfl) (ok__law_flags T) (hr.mono (by decide)) (by rfl) T.m__law_flags T.k__law_flags (bd__law_flags_1 T) (fun _ _ _ => RepL.nil) (pva_cons (p1_d (q_ix hM (pd_var (pv 4)) (pd_var (pv 5)) (fun _ _ => rfl))) pva_nil))) rfl (by first | exact Or.inl rfl | exact Or.inr rfl) (PxOk.of hpx _))
 (pts_one' (pts_if (qt_ne hM hr (pd_fr (pf_lc hpx rfl sc_law.nd (pi_rng1 (by rfl) T.z_range (pda_cons pd_int pda_nil)) (blkOk_by (own := [("_law_place", 7)]) (by first | (show blkC ["_law_script", "_law_hand_here", "_law_one", "_law_other", "_law_made", "_law_at", "_law_flags_here", "_law_place"] (defScope s_law) _ [("_law_place", 7)] = true; decide +kernel) | kernel_rfl)) rfl (by decide) (fun _ _ _ _ _ b' hM'' hpx' => have hM' := hM''.trans hM; (pg_n (pg_name (i := 7) sc_law.nd rfl (by first | exact Or.inl rfl | exact Or.inr rfl)) (PxOk.of hpx' _))) (fun _ _ _ _ _ b' hM'' hpx' => have hM' := hM''.trans hM; (pts_oneD (pt_of (q_ix hM' (pd_var (pv 6)) (pd_var (pv 7)) (fun _ _ => rfl))))) (fun _ _ _ _ _ b' hM'' hpx' => have hM' := hM''.trans hM; (pd_var (pv 7))))) (pd_fr (pf_lst (pda_cons (pd_var (pv 5)) pda_nil))))
 (pts_one' (pts_ret pd_bl))
 pts_nil')))))
 (pts_one' (pts_ret (pd_and (q_callG hGd hM (takes_of rfl rfl rfl rfl) (ok__law_fields_hold T) (hr.mono (by decide)) (by rfl) T.m__law_fields_hold T.k__law_fields_hold (bd__law_fields_hold_2 T) (fun _ _ _ => RepL.nil) (pva_cons (p1_d (pd_var (pv 2))) (pva_cons (p1_d (pd_var (pv 3))) pva_nil))) (pd_one (q_callG hGd hM (takes_of rfl rfl rfl rfl) (ok__law_fields_hold T) (hr.mono (by decide)) (by rfl) T.m__law_fields_hold T.k__law_fields_hold (bd__law_fields_hold_2 T) (fun _ _ _ => RepL.nil) (pva_cons (p1_d (pd_var (pv 3))) (pva_cons (p1_d (pd_var (pv 2))) pva_nil))))))))))))
end
end K82

set_option Elab.async false
set_option linter.all false
set_option maxRecDepth 100000
set_option maxHeartbeats 2000000
set_option exponentiation.threshold 2000000
/-! the law's hand (draw, stir, hand) -/
namespace K82
open PySem L2 DL
theorem fmod_range {x k : Int} (hk : 0 < k) : 0 ≤ x.fmod k ∧ x.fmod k < k := ⟨Int.fmod_nonneg_of_pos x hk, Int.fmod_lt_of_pos x hk⟩
theorem bb_range {x : Int} {k : Nat} (h0 : 0 ≤ x) (h1 : x < 2 ^ k) : BB k x := by
  unfold BB
  have : ((x.natAbs : Nat) : Int) = x := Int.natAbs_of_nonneg h0
  have h2 : ((2 ^ k : Nat) : Int) = 2 ^ k := by simp
  omega
theorem stir_ok {n t : Int} (hn : BB 100 n) (ht : BB 20 t) : ∃ v, 0 ≤ v ∧ ∀ g, callR 2 d__law_stir [.d (.int n), .d (.int t)] g = .ok (.int v) g := by
  obtain ⟨o, ho⟩ : ∃ o, o = (n * 69621 + t * 40014 + 101).fmod 2147483563 := ⟨_, rfl⟩
  have ro := fmod_range (x := n * 69621 + t * 40014 + 101) (k := 2147483563) (by decide)
  rw [← ho] at ro
  have bo : BB 31 o := bb_range ro.1 (by have := ro.2; omega)
  obtain ⟨w, hw⟩ : ∃ w, w = (o * o + t * 16807 + o.fdiv 211).fmod 2147483629 := ⟨_, rfl⟩
  have rw' := fmod_range (x := o * o + t * 16807 + o.fdiv 211) (k := 2147483629) (by decide)
  rw [← hw] at rw'
  have bw : BB 31 w := bb_range rw'.1 (by have := rw'.2; omega)
  obtain ⟨z, hz⟩ : ∃ z, z = (w * 48271 + o.fdiv 1013).fmod 2147483647 := ⟨_, rfl⟩
  have rz := fmod_range (x := w * 48271 + o.fdiv 1013) (k := 2147483647) (by decide)
  rw [← hz] at rz
  have e1 := d_mul' (hn.mul (show BB 17 69621 by unfold BB; decide))
  have e2 := d_mul' (ht.mul (show BB 16 40014 by unfold BB; decide))
  have e3 := d_mul' (bo.mul bo)
  have e4 := d_mul' (ht.mul (show BB 15 16807 by unfold BB; decide))
  have e5 := d_mul' (bw.mul (show BB 16 48271 by unfold BB; decide))
  have m1 : modD (.int (n * 69621 + t * 40014 + 101)) (.int 2147483563) = some (.int o) := by rw [ho]; rfl
  have m2 : modD (.int (o * o + t * 16807 + o.fdiv 211)) (.int 2147483629) = some (.int w) := by rw [hw]; rfl
  have m3 : modD (.int (w * 48271 + o.fdiv 1013)) (.int 2147483647) = some (.int z) := by rw [hz]; rfl
  have f1 : fdivD (.int o) (.int 211) = some (.int (o.fdiv 211)) := d_fdiv' (show BB 8 211 by unfold BB; decide) (by decide)
  have f2 : fdivD (.int o) (.int 1013) = some (.int (o.fdiv 1013)) := d_fdiv' (show BB 10 1013 by unfold BB; decide) (by decide)
  have f3 : fdivD (.int z) (.int 8) = some (.int (z.fdiv 8)) := d_fdiv' (show BB 4 8 by unfold BB; decide) (by decide)
  refine ⟨z.fdiv 8, ?_, fun g => callR_v rfl rfl (ss := [.v (.int n), .v (.int t)]) ?_⟩
  · rw [Int.fdiv_eq_ediv_of_nonneg _ (by decide)]; omega
  · simp [d__law_stir, s_def, s_seq, -d_mod, -d_fdiv, e1, e2, e3, e4, e5, m1, m2, m3, f1, f2, f3]
/-- the hand -/
def Hand (cs : List Int) (p r s : Int) : List D := [.lst (cs.map D.int), .int p, .int r, .int s]
structure HandOk (cs : List Int) (p r s : Int) : Prop where
  c0 : ∀ c ∈ cs, 0 ≤ c
  cb : ∀ c ∈ cs, BB 1048576 c
  len : cs.length ≤ 63
  p0 : 0 ≤ p
  pl : p ≤ cs.length
  r0 : 0 ≤ r
  rb : BB 1048576 r
  s0 : 0 ≤ s
  sb : s < 2147483629
/-- a hand -/
def IsHand (h : List D) : Prop := ∃ cs p r s, h = Hand cs p r s ∧ HandOk cs p r s
theorem pow18 : powD (.int 10) (.int 18) = some (.int 1000000000000000000) := rfl
theorem fdiv_bb {k : Nat} {x m : Int} (hx : BB k x) (h0 : 0 ≤ x) (hm : 0 < m) : 0 ≤ x.fdiv m ∧ BB k (x.fdiv m) := by
  rw [Int.fdiv_eq_ediv_of_nonneg _ (by omega)]
  refine ⟨Int.ediv_nonneg h0 (by omega), ?_⟩
  unfold BB at *
  have := Int.natAbs_ediv_le_natAbs x m
  omega
theorem cell_at {cs : List Int} {p : Int} (h0 : 0 ≤ p) (h1 : p < cs.length) : ∃ c, c ∈ cs ∧ ixD (.lst (cs.map D.int)) (.int p) = some (.int c) := by
  obtain ⟨k, rfl⟩ := Int.eq_ofNat_of_zero_le h0
  have hk : k < cs.length := by omega
  refine ⟨cs[k], List.getElem_mem hk, ?_⟩
  show atI (cs.map D.int) (k : Int) = _
  unfold atI ixN
  rw [if_pos (by omega), if_pos (by rw [List.length_map]; omega)]
  simp [hk]
theorem draw_dn {cs : List Int} {p r s m : Int} (hm : 0 < m) (mb : BB 8000 m) (H : HandOk cs p r s) : ∃ v p' r' s', d__law_draw [.ow (Hand cs p r s), .v (.int m)] = .ok (.int v) [.ow (Hand cs p' r' s'), .v (.int m)] ∧ 0 ≤ v ∧ v < m ∧ HandOk cs p' r' s' := by
  have m0 : m ≠ 0 := by omega
  have md : ∀ x, modD (.int x) (.int m) = some (.int (x.fmod m)) := fun x => by rw [d_mod, if_pos m0]
  have fd : ∀ x, fdivD (.int x) (.int m) = some (.int (x.fdiv m)) := fun x => d_fdiv' mb m0
  have i0 : ∀ a b c d : D, ixD (.lst [a, b, c, d]) (.int 0) = some a := fun _ _ _ _ => rfl
  have i1 : ∀ a b c d : D, ixD (.lst [a, b, c, d]) (.int 1) = some b := fun _ _ _ _ => rfl
  have i2 : ∀ a b c d : D, ixD (.lst [a, b, c, d]) (.int 2) = some c := fun _ _ _ _ => rfl
  have i3 : ∀ a b c d : D, ixD (.lst [a, b, c, d]) (.int 3) = some d := fun _ _ _ _ => rfl
  have n1 : ixN 4 1 = some 1 := rfl
  have n2 : ixN 4 2 = some 2 := rfl
  have n3 : ixN 4 3 = some 3 := rfl
  by_cases c1 : r = 0 ∧ p < cs.length
  · obtain ⟨rfl, hp⟩ := c1
    obtain ⟨c, hc, ec⟩ := cell_at H.p0 hp
    have pb : BB 20 (p + 1) := bb_range (by have := H.p0; omega) (by have := H.len; have : p + 1 ≤ 64 := (by omega); omega)
    by_cases c2 : c < 1000000000000000000
    · obtain ⟨v, hv, ev⟩ := stir_ok (n := c) (t := p + 1) (bb_range (H.c0 c hc) (by omega)) pb
      refine ⟨v.fmod m, p + 1, 0, s, ?_, (fmod_range hm).1, (fmod_range hm).2, ⟨H.c0, H.cb, H.len, by have := H.p0; omega, by omega, H.r0, H.rb, H.s0, H.sb⟩⟩
      simp [d__law_draw, s_def, s_seq, Hand, i0, i1, i2, i3, n1, n2, n3, hp, ec, pow18, c2, ev, md, -d_mod, -d_fdiv]
    · have hr := fdiv_bb (H.cb c hc) (H.c0 c hc) hm
      have c3 : 0 < c := by omega
      refine ⟨c.fmod m, p + 1, c.fdiv m, s, ?_, (fmod_range hm).1, (fmod_range hm).2, ⟨H.c0, H.cb, H.len, by have := H.p0; omega, by omega, hr.1, hr.2, H.s0, H.sb⟩⟩
      simp [d__law_draw, s_def, s_seq, Hand, i0, i1, i2, i3, n1, n2, n3, hp, ec, pow18, c2, c3, fd, md, -d_mod, -d_fdiv]
  · have q1 : ∀ x : Sg → R Bool, ((if r = 0 then (if p < cs.length then R.ok true ([] : Sg) else .ok false []) else .ok false [])) = (R.ok false [] : R Bool) := fun _ => by
      by_cases z : r = 0
      · rw [if_pos z, if_neg (fun y => c1 ⟨z, y⟩)]
      · rw [if_neg z]
    by_cases c2 : 0 < r
    · have hr := fdiv_bb H.rb H.r0 hm
      have c3 : r ≠ 0 := by omega
      refine ⟨r.fmod m, p, r.fdiv m, s, ?_, (fmod_range hm).1, (fmod_range hm).2, ⟨H.c0, H.cb, H.len, H.p0, H.pl, hr.1, hr.2, H.s0, H.sb⟩⟩
      simp [d__law_draw, s_def, s_seq, Hand, i0, i1, i2, i3, n1, n2, n3, c2, c3, fd, md, -d_mod, -d_fdiv]
    · have c3 : r = 0 := by have := H.r0; omega
      subst c3
      have c4 : ¬ p < cs.length := fun z => c1 ⟨rfl, z⟩
      obtain ⟨x, hx⟩ : ∃ x, x = (s + 1).fmod 2147483629 := ⟨_, rfl⟩
      have rx := fmod_range (x := s + 1) (k := 2147483629) (by decide)
      rw [← hx] at rx
      have mx : modD (.int (s + 1)) (.int 2147483629) = some (.int x) := by rw [hx]; rfl
      obtain ⟨v, hv, ev⟩ := stir_ok (n := x) (t := p) ((bb_range (k := 31) rx.1 (by have := rx.2; omega)).mono (by decide)) (bb_range H.p0 (by have := H.pl; have := H.len; omega))
      refine ⟨v.fmod m, p, 0, x, ?_, (fmod_range hm).1, (fmod_range hm).2, ⟨H.c0, H.cb, H.len, H.p0, H.pl, H.r0, H.rb, rx.1, rx.2⟩⟩
      simp [d__law_draw, s_def, s_seq, Hand, i0, i1, i2, i3, n1, n2, n3, c4, ev, mx, md, -d_mod, -d_fdiv]
/-- a draw -/
theorem draw_wp {g : Sg} {i m : Nat} {h : List D} {E : Exn → Sg → Prop} {Q : D → Sg → Prop} (hg : gat g i = .ow h) (H : IsHand h) (h0 : 0 < m) (hb : m < 2 ^ 8000) (k : ∀ (v : Nat) h', v < m → IsHand h' → Q (.int (v : Nat)) (g.set i (.ow h'))) : (callR 2 d__law_draw [.o i, .d (.int (m : Nat))] g).wp E Q := by
  obtain ⟨cs, p, r, s, rfl, H⟩ := H
  have mb : BB 8000 (m : Nat) := by unfold BB; simpa using hb
  obtain ⟨v, p', r', s', e, v0, v1, H'⟩ := draw_dn (m := m) (by omega) mb H
  refine call_o rfl rfl hg ?_
  show RC.wp (d__law_draw [.ow (Hand cs p r s), .v (.int (m : Nat))]) _ _ _
  rw [e]
  obtain ⟨n, rfl⟩ := Int.eq_ofNat_of_zero_le v0
  exact ⟨_, _, rfl, k n _ (by omega) ⟨_, _, _, _, rfl, H'⟩⟩
/-- a draw among a number that is written -/
theorem draw_lit {g : Sg} {i : Nat} {m : Int} {h : List D} {E : Exn → Sg → Prop} {Q : D → Sg → Prop} (hg : gat g i = .ow h) (H : IsHand h) (h0 : (decide (0 < m) && decide (m < 1000000)) = true) (k : ∀ (v : Nat) h', (v : Int) < m → IsHand h' → Q (.int (v : Nat)) (g.set i (.ow h'))) : (callR 2 d__law_draw [.o i, .d (.int m)] g).wp E Q := by
  simp only [Bool.and_eq_true, decide_eq_true_eq] at h0
  obtain ⟨n, rfl⟩ := Int.eq_ofNat_of_zero_le (show 0 ≤ m by omega)
  refine draw_wp hg H (by omega) (Nat.lt_of_lt_of_le (show n < 2 ^ 20 by omega) (Nat.pow_le_pow_right (by decide) (by decide))) fun v h' hv H' => k v h' (by omega) H'
/-- a def's word that draws out of the hand in its first slot -/
def HS (dn : Dn) (args : Sg) (P : D → Prop) : Prop := ∀ h, IsHand h → (dn (.ow h :: args)).wp E0 (fun ds ss => ∃ h' r, ss = .ow h' :: r ∧ IsHand h' ∧ P (.lst ds)) (fun d ss => ∃ h' r, ss = .ow h' :: r ∧ IsHand h' ∧ P d)
def HF (dn : Dn) (args : Sg) (P : List D → Prop) : Prop := ∀ h, IsHand h → (dn (.ow h :: args)).wp E0 (fun ds ss => ∃ h' r, ss = .ow h' :: r ∧ IsHand h' ∧ P ds) Q0
section
variable {g : Sg} {i n : Nat} {h : List D} {dn : Dn} {args : Sg} {as : List AV} {E : Exn → Sg → Prop}
theorem HS.call {P : D → Prop} {Q : D → Sg → Prop} (S : HS dn args P) (hg : gat g i = .ow h) (H : IsHand h) (hl : as.length + 1 = n) (ho : ownIx as = []) (ha : as.map (toS g) = args) (k : ∀ d h', P d → IsHand h' → Q d (g.set i (.ow h'))) : (callR n dn (.o i :: as) g).wp E Q := by
  refine call_o ho hl hg ?_
  rw [ha]
  refine RC.wp_mono (S h H) ?_ ?_ (fun _ _ h => h.elim)
  · rintro d g1 ⟨h', r, rfl, H', p⟩; exact ⟨h', r, rfl, k d h' p H'⟩
  · rintro d g1 ⟨h', r, rfl, H', p⟩; exact ⟨h', r, rfl, k _ h' p H'⟩
theorem HF.call {P : List D → Prop} {Q : D → Sg → Prop} (S : HF dn args P) (hg : gat g i = .ow h) (H : IsHand h) (hl : as.length + 1 = n) (ho : ownIx as = []) (ha : as.map (toS g) = args) (k : ∀ d h', P d → IsHand h' → Q (.lst d) (g.set i (.ow h'))) : (callR n dn (.o i :: as) g).wp E Q := by
  refine call_o ho hl hg ?_
  rw [ha]
  refine RC.wp_mono (S h H) (fun _ _ h => h.elim) ?_ (fun _ _ h => h.elim)
  · rintro d g1 ⟨h', r, rfl, H', p⟩; exact ⟨h', r, rfl, k _ h' p H'⟩
theorem HF.callF {P : List D → Prop} {Q : List D → Sg → Prop} (S : HF dn args P) (hg : gat g i = .ow h) (H : IsHand h) (hl : as.length + 1 = n) (ho : ownIx as = []) (ha : as.map (toS g) = args) (k : ∀ d h', P d → IsHand h' → Q d (g.set i (.ow h'))) : (callRF n dn (.o i :: as) g).wp E Q := by
  refine call_oF ho hl hg ?_
  rw [ha]
  refine RC.wp_mono (S h H) (fun _ _ h => h.elim) ?_ (fun _ _ h => h.elim)
  · rintro d g1 ⟨h', r, rfl, H', p⟩; exact ⟨h', r, rfl, k _ h' p H'⟩
end
theorem bits_bb {z : Int} {k : Nat} (h : Builtin.Int.intBits z ≤ k) : BB k z := by
  unfold BB
  unfold Builtin.Int.intBits at h
  by_cases hz : z.natAbs = 0
  · rw [hz]; exact Nat.two_pow_pos _
  · have h2 : z.natAbs.log2 + 1 ≤ k := by
      split at h
      · rename_i q
        have : z = 0 := by simpa using q
        subst this
        exact absurd rfl hz
      · exact h
    exact Nat.lt_of_lt_of_le (Nat.lt_log2_self) (Nat.pow_le_pow_right (by decide) h2)
def handBody : FS := asgS 1 (op2F modD (bltF intF (consV (dF (op2F addD (op2F addD (op2F mulD (varF 1) (cF (.int 37))) (op2F mulD (bltF intF (consV (dF (varF 3)) nilV)) (op2F addD (op2F mulD (cF (.int 2)) (varF 2)) (cF (.int 5))))) (cF (.int 3)))) nilV)) (cF (.int 2147483629)))
theorem hand_loop {L : S} : ∀ (items : List D) (st : Int) (x y : S), (∀ it ∈ items, ∃ k n, it = .tup [.int k, .int n] ∧ BB 20 k ∧ BB 1048576 n) → 0 ≤ st → st < 2147483629 →
    ∃ st' x' y', forL (turnS (tgT 2 (tgCons (tgN 2) (tgCons (tgN 3) tgNil))) handBody) items [L, .v (.int st), x, y] = .nx [L, .v (.int st'), x', y'] ∧ 0 ≤ st' ∧ st' < 2147483629
  | [], st, x, y, _, h0, h1 => ⟨st, x, y, rfl, h0, h1⟩
  | it :: items, st, x, y, h, h0, h1 => by
    obtain ⟨k, n, rfl, bk, bn⟩ := h it List.mem_cons_self
    have bs : BB 31 st := bb_range h0 (by omega)
    have e1 := d_mul' (bs.mul (show BB 6 37 by unfold BB; decide))
    have b2 : BB 22 (2 * k) := ((show BB 2 2 by unfold BB; decide).mul bk)
    have e2 := d_mul' b2
    have b3 : BB 23 (2 * k + 5) := b2.add (show BB 3 5 by unfold BB; decide)
    have e3 := d_mul' (bn.mul b3)
    obtain ⟨z, hz⟩ : ∃ z, z = (st * 37 + n * (2 * k + 5) + 3).fmod 2147483629 := ⟨_, rfl⟩
    have rz := fmod_range (x := st * 37 + n * (2 * k + 5) + 3) (k := 2147483629) (by decide)
    rw [← hz] at rz
    have m1 : modD (.int (st * 37 + n * (2 * k + 5) + 3)) (.int 2147483629) = some (.int z) := by rw [hz]; rfl
    obtain ⟨st', x', y', e, r⟩ := hand_loop items z (.v (.int k)) (.v (.int n)) (fun i hi => h i (List.mem_cons_of_mem _ hi)) rz.1 rz.2
    refine ⟨st', x', y', ?_, r⟩
    rw [s_forCons]
    simp [handBody, e1, e2, e3, m1, -d_mod]
    exact e
theorem hand_lc {a b c : S} : ∀ (ns : List Int) (acc : List D), lcL (tgN 3) yesB (bltF absD (consV (dF (bltF intF (consV (dF (varF 3)) nilV))) nilV)) [3] (ns.map D.int) acc [a, b, c, .un] = .ok (acc ++ ns.map fun n => D.int (n.natAbs : Int)) [a, b, c, .un]
  | [], acc => by simp [lcL]
  | n :: ns, acc => by
    have ih := hand_lc (a := a) (b := b) (c := c) ns (acc ++ [.int (n.natAbs : Int)])
    simp [lcL, keep?, wipeG]
    simpa using ih
theorem hand_ok0 {ns : List Int} (hl : ns.length ≤ 63) (hb : ∀ z ∈ ns, BB 1048576 z) (g : Sg) : ∃ cs s, callRF 1 d__law_hand [.d (.lst (ns.map D.int))] g = .ok (Hand cs 0 0 s) g ∧ HandOk cs 0 0 s := by
  have hit : ∀ it ∈ enm (ns.map D.int), ∃ k n, it = .tup [.int k, .int n] ∧ BB 20 k ∧ BB 1048576 n := fun it hi => by
    obtain ⟨k, hk, e⟩ := List.getElem_of_mem hi
    have e' : (enm (ns.map D.int))[k]? = some it := by rw [← e]; simp [hk]
    obtain ⟨c, hc, rfl⟩ := enm_get e'
    rw [List.getElem?_map] at hc
    obtain ⟨n, hn, rfl⟩ := Option.map_eq_some_iff.mp hc
    have hk2 : k < ns.length := (List.getElem?_eq_some_iff.mp hn).1
    exact ⟨k, n, rfl, bb_range (by omega) (by omega), hb n (List.mem_of_getElem? hn)⟩
  obtain ⟨st', x', y', e, r0, r1⟩ := hand_loop (L := .v (.lst (ns.map D.int))) (enm (ns.map D.int)) 7 .un .un hit (by decide) (by decide)
  have e2 := hand_lc (a := .v (.lst (ns.map D.int))) (b := .v (.int st')) (c := x') ns []
  unfold handBody at e
  refine ⟨ns.map fun n => (n.natAbs : Int), st', ?_, ⟨?_, ?_, by simpa using hl, Int.le_refl 0, by simp, Int.le_refl 0, (show BB 1 0 by unfold BB; decide).mono (by decide), r0, r1⟩⟩
  · have hs : ns.length ≤ sizeLine := by rw [sizeLine_eq]; omega
    have key : d__law_hand [.v (.lst (ns.map D.int))] = .okf (Hand (ns.map fun n => (n.natAbs : Int)) 0 0 st') [.v (.lst (ns.map D.int))] := by
      simp [d__law_hand, s_def, s_seq, enmD, e, wipeG, e2, hs, szOk, Hand]
      first | done | (intro a ha; rfl) | rfl
    rw [s_callRF]
    simp [key]
  · intro c hc
    obtain ⟨n, _, rfl⟩ := List.mem_map.mp hc
    omega
  · intro c hc
    obtain ⟨n, hn, rfl⟩ := List.mem_map.mp hc
    have := hb n hn
    unfold BB at *
    simpa using this
theorem hand_ok {ns : List Int} (hl : ns.length ≤ 63) (hb : ∀ z ∈ ns, BB 1048576 z) (g : Sg) : ∃ h, callRF 1 d__law_hand [.d (.lst (intz ns))] g = .ok h g ∧ IsHand h := by
  obtain ⟨cs, s, e, H⟩ := hand_ok0 hl hb g
  exact ⟨_, e, _, _, _, _, rfl, H⟩
end K82

set_option Elab.async false
set_option linter.all false
set_option maxRecDepth 100000
set_option maxHeartbeats 4000000
set_option exponentiation.threshold 2000000
/-! drawn fields -/
namespace K82
open PySem L2 DL
/-- a drawn field: what a message may show, what repr shows -/
structure Fine (d : D) : Prop where
  fm : fmtA d = true
  ft : fitL [2] d = true
  vs : VS d.py.shown
theorem fine_int {i : Int} (h : i.natAbs < 1000000) : Fine (.int i) := ⟨decide_eq_true h, decide_eq_true (Nat.lt_of_lt_of_le h (by decide)), vs_shown 0 _ rfl⟩
theorem fine_non : Fine .non := ⟨rfl, rfl, vs_shown 0 _ rfl⟩
theorem fine_tup {v : Nat} (h : v < 9) : Fine (.tup [.int (v : Nat), .int 1]) := by
  refine ⟨?_, ?_, vs_shown 1 _ rfl⟩
  · simp [fmtA]; omega
  · have : v < 10 ^ 37 := Nat.lt_of_lt_of_le h (by decide)
    simp [fitL, this]
def txt (v : Nat) : Str := ("text" : Str) ++ PySem.Str.ofString (toString (v : Int))
def txtOk (x : Str) : Bool := decide (x.length ≤ 6) && x.cps.all (· < 0x110000) && (reprText x).cps.all (· < 0x110000)
theorem fine_str {x : Str} (h : txtOk x = true) : Fine (.str x) := by
  unfold txtOk at h
  simp only [Bool.and_eq_true] at h
  obtain ⟨⟨h1, h2⟩, h3⟩ := h
  refine ⟨decide_eq_true (Nat.le_trans (of_decide_eq_true h1) (by decide)), ?_, ?_⟩
  · show (x.cps.all (· < 0x110000) && decide (x.length ≤ 6)) = true
    rw [h2, h1]; rfl
  · intro c hc
    rw [← Array.all_toList, List.all_eq_true] at h3
    exact of_decide_eq_true (h3 c hc)
theorem txt_all : ∀ v : Fin 99, (txtOk (txt v.val) && szOk (("text" : Str).length + (PySem.Str.ofString (toString (v.val : Int))).length)) = true := by decide +kernel
theorem fine_txt {v : Nat} (h : v < 99) : Fine (.str (txt v)) := fine_str (by have := txt_all ⟨v, h⟩; rw [Bool.and_eq_true] at this; exact this.1)
theorem add_txt {v : Nat} (h : v < 99) : addD (.str "text") (.str (PySem.Str.ofString (toString (v : Int)))) = some (.str (txt v)) := by
  have := txt_all ⟨v, h⟩
  rw [Bool.and_eq_true] at this
  show (if szOk _ = true then some _ else none) = _
  rw [if_pos this.2]
  rfl
theorem str_of {v : Nat} (h : v < 99) : strD [.int (v : Nat)] = some (.str (PySem.Str.ofString (toString (v : Int)))) := by
  show (if ((v : Nat) : Int).natAbs < 1000000 then some _ else none) = _
  rw [if_pos (by omega)]
theorem fine_nil : Fine (.str "") := fine_str (by decide +kernel)
theorem pow6 : powD (.int 10) (.int 6) = some (.int 1000000) := rfl
theorem thing_hs : HS d__law_thing [] Fine := by
  intro h H
  unfold d__law_thing
  refine def_wp ?_
  refine seq_wp ?_
  simp
  refine draw_lit rfl H rfl ?_
  intro pick h1 hp H1
  simp [pow6]
  refine draw_wp (m := 1000000) rfl H1 (by decide) (Nat.lt_of_lt_of_le (show 1000000 < 2 ^ 20 by decide) (Nat.pow_le_pow_right (by decide) (by decide))) ?_
  intro v1 h2 hv1 H2
  simp
  refine draw_lit rfl H2 rfl ?_
  intro v2 h3 hv2 H3
  have hv2' : v2 < 99 := by omega
  simp [str_of hv2']
  refine ⟨_, add_txt hv2', ?_⟩
  refine draw_lit rfl H3 rfl ?_
  intro v3 h4 hv3 H4
  have fi : Fine (.int ((v1 : Int) - 1)) := fine_int (by omega)
  have ft := fine_txt hv2'
  have fu : Fine (.tup [.int (v3 : Nat), .int 1]) := fine_tup (by omega)
  have s2 : szOk 2 = true := by decide
  have s5 : szOk 5 = true := by decide
  generalize (D.int ((v1 : Int) - 1)) = a1 at *
  generalize D.str (txt v2) = a2 at *
  simp [s2]
  generalize D.tup [.int (v3 : Nat), .int 1] = a4 at *
  try simp [s5]
  have : pick = 0 ∨ pick = 1 ∨ pick = 2 ∨ pick = 3 ∨ pick = 4 := by omega
  rcases this with rfl | rfl | rfl | rfl | rfl
  · have e : ixD (.tup [a1, a2, .non, a4, .str ""]) (.int ((0 : Nat) : Int)) = some a1 := rfl
    simp at e
    simp [e]; exact ⟨H4, fi⟩
  · have e : ixD (.tup [a1, a2, .non, a4, .str ""]) (.int ((1 : Nat) : Int)) = some a2 := rfl
    simp at e
    simp [e]; exact ⟨H4, ft⟩
  · have e : ixD (.tup [a1, a2, .non, a4, .str ""]) (.int ((2 : Nat) : Int)) = some .non := rfl
    simp at e
    simp [e]; exact ⟨H4, fine_non⟩
  · have e : ixD (.tup [a1, a2, .non, a4, .str ""]) (.int ((3 : Nat) : Int)) = some a4 := rfl
    simp at e
    simp [e]; exact ⟨H4, fu⟩
  · have e : ixD (.tup [a1, a2, .non, a4, .str ""]) (.int ((4 : Nat) : Int)) = some (.str "") := rfl
    simp at e
    simp [e]; exact ⟨H4, fine_nil⟩
end K82

set_option Elab.async false
set_option linter.all false
set_option maxRecDepth 100000
set_option maxHeartbeats 4000000
/-! all errors made (printed by mkall82.py) -/
namespace K82
open PySem L2 DL
def part0 (a b : D) : List D := [.obj "BadRatio" ["what"] [a], .obj "DividedByNought" [] [], .obj "BadCode" ["place", "what"] [b, a], .obj "BadBit" ["bit"] [a], .obj "NoCheck" ["number"] [a], .obj "BadLot" [] [], .obj "BadPrices" ["place"] [a]]
def part1 (a b : D) : List D := [.obj "BadRow" ["place"] [a], .obj "BadWord" ["number"] [a], .obj "BadOrder" [] [], .obj "UnlikeBits" [] [], .obj "TooMany" ["most"] [a], .obj "BadText" ["place"] [a], .obj "NotLet" ["lot", "number"] [b, a]]
def part2 (a b : D) : List D := [.obj "BadSheets" ["sheets"] [a], .obj "BadRows" ["number"] [a], .obj "BadWeights" ["place"] [a], .obj "BadCover" ["number", "what"] [b, a], .obj "BadWire" [] [], .obj "BadMarks" ["place"] [a], .obj "UnlikeCode" [] []]
def part3 (a b : D) : List D := [.obj "BadTimes" ["times"] [a], .obj "LowRest" ["bit"] [a], .obj "BadCone" ["place"] [a], .obj "NotCone" ["bit", "number"] [b, a], .obj "BadMany" ["many"] [a], .obj "BadReceived" ["place"] [a], .obj "OddCount" ["number"] [a]]
def part4 (a b : D) : List D := [.obj "NotStop" ["number"] [a], .obj "NotRingless" ["ring"] [a], .obj "NotCorner" ["row"] [a], .obj "BadWeb" ["place", "what"] [b, a], .obj "BadPost" ["post"] [a], .obj "NotTies" ["bit"] [a], .obj "NotRound" ["what"] [a]]
def part5 (a b : D) : List D := [.obj "NotApart" ["what"] [a], .obj "NothingLeft" [] [], .obj "NoSmall" ["which"] [a], .obj "NoSum" [] [], .obj "NotHidden" ["what"] [a], .obj "BadWish" ["number"] [a], .obj "BadPool" ["place"] [a], .obj "BadPicks" [] []]
def part6 (a b : D) : List D := [.obj "BadEdit" ["place"] [a], .obj "NothingDone" [] []]
@[simp] theorem s_mkx {cn : Str} {fs : List Str} {is : List Nat} {fa : FA} {g : Sg} : mkxF cn fs is fa g = (fa g).bd fun ds g1 => if ds.length = fs.length ∧ okA is ds = true then .ok (.obj cn fs.reverse ds.reverse) g1 else .no := rfl
@[simp] theorem s_mkx0 {cn : Str} {g : Sg} : mkx0F cn g = .ok (.obj cn [] []) g := rfl
theorem ok_nil {ds : List D} : okA [] ds = true := rfl
theorem ok_0 {a : D} {ds : List D} (h : fmtA a = true) : okA [0] (a :: ds) = true := by unfold okA; simp [h]
theorem ok_01 {a b : D} (h : fmtA a = true) (h2 : fmtA b = true) : okA [0, 1] [a, b] = true := by unfold okA; simp [h, h2]
@[simp] theorem len_part0 {a b : D} : (part0 a b).length = 7 := rfl
def made (a b : D) : List D := part0 a b ++ part1 a b ++ part2 a b ++ part3 a b ++ part4 a b ++ part5 a b ++ part6 a b
theorem all_ok {a b : D} (ha : Fine a) (hb : Fine b) (g : Sg) : callRF 2 d__law_all [.d a, .d b] g = .ok (made a b) g := by
  have a0 := ok_0 (ds := []) ha.fm
  have a01 := ok_01 ha.fm hb.fm
  have sz : ∀ n, n ≤ 45 → szOk n = true := fun n h => by unfold szOk; exact decide_eq_true (by omega)
  refine callRF_v rfl rfl (ss := [.v a, .v b]) ?_
  refine RC.eq_okf ?_
  show RC.wp (d__law_all [.v a, .v b]) _ _ _
  unfold d__law_all
  refine def_wp ?_
  refine seq_eq (g1 := [.v a, .v b, .v (.lst (part0 a b))]) (by simp [a0, a01, ok_nil, sz]; rfl) ?_
  obtain ⟨l0, e0⟩ : ∃ l, l = part0 a b := ⟨_, rfl⟩
  have n0 : l0.length = 7 := by rw [e0]; rfl
  rw [← e0]
  obtain ⟨q1, f1⟩ : ∃ l, l = part1 a b := ⟨_, rfl⟩
  have m1 : q1.length = 7 := by rw [f1]; rfl
  refine seq_eq (g1 := [.v a, .v b, .v (.lst (l0 ++ q1))]) (by rw [f1]; simp [a0, a01, ok_nil, sz, n0, catD]; rfl) ?_
  obtain ⟨l1, e1⟩ : ∃ l, l = l0 ++ q1 := ⟨_, rfl⟩
  have n1 : l1.length = 14 := by rw [e1, List.length_append, n0, m1]
  rw [← e1]
  obtain ⟨q2, f2⟩ : ∃ l, l = part2 a b := ⟨_, rfl⟩
  have m2 : q2.length = 7 := by rw [f2]; rfl
  refine seq_eq (g1 := [.v a, .v b, .v (.lst (l1 ++ q2))]) (by rw [f2]; simp [a0, a01, ok_nil, sz, n1, catD]; rfl) ?_
  obtain ⟨l2, e2⟩ : ∃ l, l = l1 ++ q2 := ⟨_, rfl⟩
  have n2 : l2.length = 21 := by rw [e2, List.length_append, n1, m2]
  rw [← e2]
  obtain ⟨q3, f3⟩ : ∃ l, l = part3 a b := ⟨_, rfl⟩
  have m3 : q3.length = 7 := by rw [f3]; rfl
  refine seq_eq (g1 := [.v a, .v b, .v (.lst (l2 ++ q3))]) (by rw [f3]; simp [a0, a01, ok_nil, sz, n2, catD]; rfl) ?_
  obtain ⟨l3, e3⟩ : ∃ l, l = l2 ++ q3 := ⟨_, rfl⟩
  have n3 : l3.length = 28 := by rw [e3, List.length_append, n2, m3]
  rw [← e3]
  obtain ⟨q4, f4⟩ : ∃ l, l = part4 a b := ⟨_, rfl⟩
  have m4 : q4.length = 7 := by rw [f4]; rfl
  refine seq_eq (g1 := [.v a, .v b, .v (.lst (l3 ++ q4))]) (by rw [f4]; simp [a0, a01, ok_nil, sz, n3, catD]; rfl) ?_
  obtain ⟨l4, e4⟩ : ∃ l, l = l3 ++ q4 := ⟨_, rfl⟩
  have n4 : l4.length = 35 := by rw [e4, List.length_append, n3, m4]
  rw [← e4]
  obtain ⟨q5, f5⟩ : ∃ l, l = part5 a b := ⟨_, rfl⟩
  have m5 : q5.length = 8 := by rw [f5]; rfl
  refine seq_eq (g1 := [.v a, .v b, .v (.lst (l4 ++ q5))]) (by rw [f5]; simp [a0, a01, ok_nil, sz, n4, catD]; rfl) ?_
  obtain ⟨l5, e5⟩ : ∃ l, l = l4 ++ q5 := ⟨_, rfl⟩
  have n5 : l5.length = 43 := by rw [e5, List.length_append, n4, m5]
  rw [← e5]
  simp [a0, a01, ok_nil, sz, n5, catD]
  rw [e5, e4, e3, e2, e1, e0, f1, f2, f3, f4, f5]
  rfl
/-- the class of a thing -/
def clsOf : D → Option Str
  | .obj c _ _ => some c
  | _ => none
theorem made_len {a b : D} : (made a b).length = 45 := rfl
theorem made_cls {a b : D} : (made a b).map clsOf = xnames.map some := rfl
theorem made_at {a b : D} {i : Nat} (hi : i < 45) : ∃ (c : Str) (ns : List Str) (ds : List D), (made a b)[i]? = some (.obj c ns ds) ∧ xnames[i]? = some c := by
  have h := congrArg (fun l => l[i]?) (made_cls (a := a) (b := b))
  simp only [List.getElem?_map] at h
  have hl : i < (made a b).length := by rw [made_len]; exact hi
  have hx : i < xnames.length := hi
  rw [List.getElem?_eq_getElem hl, List.getElem?_eq_getElem hx] at h ⊢
  simp only [Option.map_some, Option.some.injEq] at h
  generalize (made a b)[i] = d at *
  cases d with
  | obj c ns ds =>
    have e : some c = some xnames[i] := h
    injection e with e
    exact ⟨c, ns, ds, rfl, by rw [e]⟩
  | _ => cases h
end K82

set_option Elab.async false
set_option linter.all false
set_option maxRecDepth 100000
set_option maxHeartbeats 4000000
/-! the flags of an error (printed by mkall82.py) -/
namespace K82
open PySem L2 DL
theorem isv {c : Str} {ns : List Str} {ds : List D} (h : c ∈ xnames) (r : Str → Bool) : isvD xnames r (.obj c ns ds) = some (r c) := if_pos h
theorem flags_ok {c : Str} {ns : List Str} {ds : List D} (h : c ∈ xnames) (g : Sg) : callRF 1 d__law_flags [.d (.obj c ns ds)] g = .ok (xnames.map fun k => .bl (decide (c = k))) g := by
  have e := isv (ns := ns) (ds := ds) h
  have sz : ∀ n, n ≤ 45 → szOk n = true := fun n h => by unfold szOk; exact decide_eq_true (by omega)
  generalize D.obj c ns ds = d at *
  refine callRF_v rfl rfl (ss := [.v d]) ?_
  refine RC.eq_okf ?_
  show RC.wp (d__law_flags [.v d]) _ _ _
  unfold d__law_flags
  obtain ⟨f, hf⟩ : ∃ f : Str → D, f = fun k => .bl (decide (c = k)) := ⟨_, rfl⟩
  have hf2 : ∀ k, D.bl (decide (c = k)) = f k := fun k => by rw [hf]
  refine def_wp ?_
  refine seq_eq (g1 := [.v d, .v (.lst [f "BadRatio", f "DividedByNought", f "BadCode", f "BadBit"])]) (by simp [e, hf2, sz]) ?_
  obtain ⟨l0, e0⟩ : ∃ l, l = [f "BadRatio", f "DividedByNought", f "BadCode", f "BadBit"] := ⟨_, rfl⟩
  have n0 : l0.length = 4 := by rw [e0]; rfl
  rw [← e0]
  refine seq_eq (g1 := [.v d, .v (.lst (l0 ++ [f "NoCheck", f "BadLot", f "BadPrices", f "BadRow"]))]) (by simp [e, hf2, sz, n0, catD]) ?_
  obtain ⟨l1, e1⟩ : ∃ l, l = l0 ++ [f "NoCheck", f "BadLot", f "BadPrices", f "BadRow"] := ⟨_, rfl⟩
  have n1 : l1.length = 8 := by rw [e1]; simp [n0]
  rw [← e1]
  refine seq_eq (g1 := [.v d, .v (.lst (l1 ++ [f "BadWord", f "BadOrder", f "UnlikeBits", f "TooMany"]))]) (by simp [e, hf2, sz, n1, catD]) ?_
  obtain ⟨l2, e2⟩ : ∃ l, l = l1 ++ [f "BadWord", f "BadOrder", f "UnlikeBits", f "TooMany"] := ⟨_, rfl⟩
  have n2 : l2.length = 12 := by rw [e2]; simp [n1]
  rw [← e2]
  refine seq_eq (g1 := [.v d, .v (.lst (l2 ++ [f "BadText", f "NotLet", f "BadSheets", f "BadRows"]))]) (by simp [e, hf2, sz, n2, catD]) ?_
  obtain ⟨l3, e3⟩ : ∃ l, l = l2 ++ [f "BadText", f "NotLet", f "BadSheets", f "BadRows"] := ⟨_, rfl⟩
  have n3 : l3.length = 16 := by rw [e3]; simp [n2]
  rw [← e3]
  refine seq_eq (g1 := [.v d, .v (.lst (l3 ++ [f "BadWeights", f "BadCover", f "BadWire", f "BadMarks"]))]) (by simp [e, hf2, sz, n3, catD]) ?_
  obtain ⟨l4, e4⟩ : ∃ l, l = l3 ++ [f "BadWeights", f "BadCover", f "BadWire", f "BadMarks"] := ⟨_, rfl⟩
  have n4 : l4.length = 20 := by rw [e4]; simp [n3]
  rw [← e4]
  refine seq_eq (g1 := [.v d, .v (.lst (l4 ++ [f "UnlikeCode", f "BadTimes", f "LowRest", f "BadCone"]))]) (by simp [e, hf2, sz, n4, catD]) ?_
  obtain ⟨l5, e5⟩ : ∃ l, l = l4 ++ [f "UnlikeCode", f "BadTimes", f "LowRest", f "BadCone"] := ⟨_, rfl⟩
  have n5 : l5.length = 24 := by rw [e5]; simp [n4]
  rw [← e5]
  refine seq_eq (g1 := [.v d, .v (.lst (l5 ++ [f "NotCone", f "BadMany", f "BadReceived", f "OddCount"]))]) (by simp [e, hf2, sz, n5, catD]) ?_
  obtain ⟨l6, e6⟩ : ∃ l, l = l5 ++ [f "NotCone", f "BadMany", f "BadReceived", f "OddCount"] := ⟨_, rfl⟩
  have n6 : l6.length = 28 := by rw [e6]; simp [n5]
  rw [← e6]
  refine seq_eq (g1 := [.v d, .v (.lst (l6 ++ [f "NotStop", f "NotRingless", f "NotCorner", f "BadWeb"]))]) (by simp [e, hf2, sz, n6, catD]) ?_
  obtain ⟨l7, e7⟩ : ∃ l, l = l6 ++ [f "NotStop", f "NotRingless", f "NotCorner", f "BadWeb"] := ⟨_, rfl⟩
  have n7 : l7.length = 32 := by rw [e7]; simp [n6]
  rw [← e7]
  refine seq_eq (g1 := [.v d, .v (.lst (l7 ++ [f "BadPost", f "NotTies", f "NotRound", f "NotApart"]))]) (by simp [e, hf2, sz, n7, catD]) ?_
  obtain ⟨l8, e8⟩ : ∃ l, l = l7 ++ [f "BadPost", f "NotTies", f "NotRound", f "NotApart"] := ⟨_, rfl⟩
  have n8 : l8.length = 36 := by rw [e8]; simp [n7]
  rw [← e8]
  refine seq_eq (g1 := [.v d, .v (.lst (l8 ++ [f "NothingLeft", f "NoSmall", f "NoSum", f "NotHidden"]))]) (by simp [e, hf2, sz, n8, catD]) ?_
  obtain ⟨l9, e9⟩ : ∃ l, l = l8 ++ [f "NothingLeft", f "NoSmall", f "NoSum", f "NotHidden"] := ⟨_, rfl⟩
  have n9 : l9.length = 40 := by rw [e9]; simp [n8]
  rw [← e9]
  refine seq_eq (g1 := [.v d, .v (.lst (l9 ++ [f "BadWish", f "BadPool", f "BadPicks", f "BadEdit"]))]) (by simp [e, hf2, sz, n9, catD]) ?_
  obtain ⟨l10, e10⟩ : ∃ l, l = l9 ++ [f "BadWish", f "BadPool", f "BadPicks", f "BadEdit"] := ⟨_, rfl⟩
  have n10 : l10.length = 44 := by rw [e10]; simp [n9]
  rw [← e10]
  simp [e, hf2, sz, n10, catD]
  rw [e10, e9, e8, e7, e6, e5, e4, e3, e2, e1, e0]
  rw [hf]
  rfl
end K82

set_option Elab.async false
set_option linter.all false
set_option maxRecDepth 100000
set_option maxHeartbeats 4000000
/-! fields by name -/
namespace K82
open PySem L2 DL
/-- the text of a row of fields -/
noncomputable def sh (ds : List D) : Str := (D.lst ds).py.shown
theorem vs_fine : ∀ (ds : List D), (∀ d ∈ ds, Fine d) → ∀ t ∈ PyData.shownAll (D.pys ds), VS t
  | [], _, t, h => by simp [D.pys, PyData.shownAll] at h
  | d :: ds, h, t, ht => by
    rw [D.pys, PyData.shownAll] at ht
    rcases List.mem_cons.mp ht with e | e
    · rw [e]; exact (h d List.mem_cons_self).vs
    · exact vs_fine ds (fun x hx => h x (List.mem_cons_of_mem _ hx)) t e
theorem sh_ok {ds : List D} (h : ∀ d ∈ ds, Fine d) : okN 20 (.str (sh ds)) = true := by
  have v : VS (sh ds) := by
    unfold sh
    rw [D.py, PyData.shown]
    exact vs_list (vs_fine ds h)
  exact v.all
theorem sh_repr {ds : List D} (hl : ds.length ≤ 10) (h : ∀ d ∈ ds, Fine d) : reprD [.lst ds] = some (.str (sh ds)) := by
  have q : reprOk (.lst ds) = true := reprOk_of (ms := [10, 2]) (by
    show (decide (ds.length ≤ 10) && ds.all (fitL [2])) = true
    rw [Bool.and_eq_true]
    exact ⟨decide_eq_true hl, List.all_eq_true.mpr fun d hd => (h d hd).ft⟩) (by decide) (by decide)
  show (if reprOk (.lst ds) = true then some _ else none) = _
  rw [if_pos q]
  rfl
theorem sh_ne {ds : List D} (h : ∀ d ∈ ds, Fine d) : neD (.str (sh ds)) (.str (sh ds)) = some (.bl false) := by
  show (if (okN 20 _ && okN 20 _) = true then some _ else none) = _
  rw [sh_ok h]
  simp
theorem sh_eq {ds : List D} (h : ∀ d ∈ ds, Fine d) : eqD (.str (sh ds)) (.str (sh ds)) = some (.bl true) := by
  show (if (okN 20 _ && okN 20 _) = true then some _ else none) = _
  rw [sh_ok h]
  simp
theorem fld_at {cs : List Str} {n c : Str} {ns : List Str} {ds : List D} (h : c ∈ cs) : fldX cs n (.obj c ns ds) = lookD n ns ds := if_pos h
theorem lk1 {n : Str} {d : D} : lookD n [n] [d] = some d := by simp [lookD]
theorem lk2a {n m : Str} {d e : D} : lookD n [n, m] [d, e] = some d := by simp [lookD]
theorem lk2b {n m : Str} {d e : D} (h : n ≠ m) : lookD n [m, n] [d, e] = some e := by simp [lookD, h]
theorem lkA {d e : D} : lookD "what" ["place", "what"] [d, e] = some e := lk2b (by decide +kernel)
theorem lkB {d e : D} : lookD "number" ["lot", "number"] [d, e] = some e := lk2b (by decide +kernel)
theorem lkC {d e : D} : lookD "what" ["number", "what"] [d, e] = some e := lk2b (by decide +kernel)
theorem lkD {d e : D} : lookD "number" ["bit", "number"] [d, e] = some e := lk2b (by decide +kernel)
theorem later_ok {a b : D} (ha : Fine a) (hb : Fine b) (g : Sg) : callR 2 d__law_later_fields_hold [.d a, .d b] g = .ok (.bl true) g := by
  have a0 := ok_0 (ds := []) ha.fm
  have a01 := ok_01 ha.fm hb.fm
  have sz : ∀ n, n ≤ 45 → szOk n = true := fun n h => by unfold szOk; exact decide_eq_true (by omega)
  refine callR_v rfl rfl (ss := [.v a, .v b]) ?_
  refine RC.eq_ok ?_
  show RC.wp (d__law_later_fields_hold [.v a, .v b]) _ _ _
  unfold d__law_later_fields_hold
  refine def_wp ?_
  refine seq_wp ?_
  simp [a0, a01, ok_nil, sz]
  refine seq_wp ?_
  simp [fld_at, lk1, lk2a, lkA, lkB, lkC, lkD, sz]
  refine seq_wp ?_
  simp [sz, sh_repr, sh_ne, ha, hb, -d_ne]
  refine seq_wp ?_
  simp [a0, a01, ok_nil, sz]
  refine seq_wp ?_
  simp [fld_at, lk1, lk2a, lkA, lkB, lkC, lkD, sz]
  refine seq_wp ?_
  simp [sz, sh_repr, sh_ne, ha, hb, -d_ne]
  refine seq_wp ?_
  simp [a0, a01, ok_nil, sz]
  simp [fld_at, lk1, lk2a, lkA, lkB, lkC, lkD, sz, sh_repr, sh_eq, sh_ok, ha, hb, -d_eq]
theorem fields_ok {a b : D} (ha : Fine a) (hb : Fine b) (g : Sg) : callR 2 d__law_fields_hold [.d a, .d b] g = .ok (.bl true) g := by
  have a0 := ok_0 (ds := []) ha.fm
  have a01 := ok_01 ha.fm hb.fm
  have lt := later_ok ha hb
  have sz : ∀ n, n ≤ 45 → szOk n = true := fun n h => by unfold szOk; exact decide_eq_true (by omega)
  refine callR_v rfl rfl (ss := [.v a, .v b]) ?_
  refine RC.eq_ok ?_
  show RC.wp (d__law_fields_hold [.v a, .v b]) _ _ _
  unfold d__law_fields_hold
  refine def_wp ?_
  refine seq_wp ?_
  simp [a0, a01, ok_nil, sz]
  refine seq_wp ?_
  simp [fld_at, lk1, lk2a, lkA, lkB, lkC, lkD, sz]
  refine seq_wp ?_
  simp [sz, sh_repr, sh_ne, ha, hb, -d_ne]
  refine seq_wp ?_
  simp [a0, a01, ok_nil, sz]
  refine seq_wp ?_
  simp [fld_at, lk1, lk2a, lkA, lkB, lkC, lkD, sz]
  refine seq_wp ?_
  simp [sz, sh_repr, sh_ne, ha, hb, -d_ne]
  refine seq_wp ?_
  simp [a0, a01, ok_nil, sz]
  refine seq_wp ?_
  simp [fld_at, lk1, lk2a, lkA, lkB, lkC, lkD, sz]
  refine seq_wp ?_
  simp [sz, sh_repr, sh_ne, ha, hb, -d_ne]
  refine seq_wp ?_
  simp [a0, a01, ok_nil, sz]
  refine seq_wp ?_
  simp [fld_at, lk1, lk2a, lkA, lkB, lkC, lkD, sz]
  simp [sz, sh_repr, sh_eq, sh_ok, ha, hb, lt, -d_eq]
end K82

set_option Elab.async false
set_option linter.all false
set_option maxRecDepth 100000
set_option maxHeartbeats 4000000
/-! the law -/
namespace K82
open PySem L2 DL
theorem one_true : ∀ i : Fin 45, (List.range 45).filter (fun k => decide (k = i.val)) = [i.val] := by decide +kernel
theorem names_apart : ∀ i : Fin 45, ∀ k : Fin 45, decide (xnames[i.val]? = xnames[k.val]?) = decide (k.val = i.val) := by decide +kernel
theorem flag_at {c : Str} {i k : Nat} (hi : i < 45) (hk : k < 45) (hc : xnames[i]? = some c) : ixD (.lst (xnames.map fun k => .bl (decide (c = k)))) (.int (k : Nat)) = some (.bl (decide (k = i))) := by
  have h := names_apart ⟨i, hi⟩ ⟨k, hk⟩
  have hx : k < xnames.length := hk
  have e := ixL (ds := xnames.map fun k => D.bl (decide (c = k))) (k := k) (by rw [List.length_map]; exact hx)
  rw [e]
  simp only [hc, List.getElem?_eq_getElem hx, Option.some.injEq] at h
  rw [← h, List.getElem_map]
noncomputable def bodyS : FS := (seqS (ifS (orB (notB (tstF (isiF (isvD xnames fun _ => true) (dF (op2F ixD (varF 4) (varF 5)))))) (notB (tstF (isiF (isvD xnames fun _ => true) (dF (op2F ixD (varF 4) (varF 5)))))))
 (retS (cF (.bl false)))
 skipS)
 (seqS (asgS 6 (frF (callFF 1 d__law_flags [] (consV (dF (op2F ixD (varF 4) (varF 5))) nilV))))
 (ifS (tstF (op2F neD (frF (lcF (faF rng1D (consA (cF (.int 45)) nilA)) (tgN 7) (tstF (op2F ixD (varF 6) (varF 7))) (varF 7) [7])) (frF (lstF (consA (varF 5) nilA)))))
 (retS (cF (.bl false)))
 skipS)))
theorem body_ok {A B C E5 F : S} {mm : List D} {ob : D} {i : Nat} {fl : List D} (ex : ixD (.lst mm) (.int (i : Nat)) = some ob) (e1 : ∀ r, ∃ q, isvD xnames r ob = some q) (e1' : isvD xnames (fun _ => true) ob = some true) (e2 : ∀ g, callRF 1 d__law_flags [.d ob] g = .ok fl g)
    (fa : ∀ k, k < 45 → ixD (.lst fl) (.int (k : Nat)) = some (.bl (decide (k = i)))) (ot : (List.range 45).filter (fun k => decide (k = i)) = [i]) :
    bodyS [A, B, C, E5, .v (.lst mm), .v (.int (i : Nat)), F, .un] = .nx [A, B, C, E5, .v (.lst mm), .v (.int (i : Nat)), .v (.lst fl), .un] := by
  have er : rng1D [.int 45] = some (nats (List.range 45)) := d_rng1 (by decide)
  have lc : lcL (tgN 7) (tstF (op2F ixD (varF 6) (varF 7))) (varF 7) [7] (nats (List.range 45)) [] [A, B, C, E5, .v (.lst mm), .v (.int (i : Nat)), .v (.lst fl), .un] = .ok [.int (i : Nat)] [A, B, C, E5, .v (.lst mm), .v (.int (i : Nat)), .v (.lst fl), .un] := by
    have z := lc_map (t := tgN 7) (c := tstF (op2F ixD (varF 6) (varF 7))) (e := varF 7) (vs := [7]) (fun k : Nat => D.int (k : Nat)) (fun k => decide (k = i)) (fun k : Nat => D.int (k : Nat)) (g0 := [A, B, C, E5, .v (.lst mm), .v (.int (i : Nat)), .v (.lst fl), .un]) (List.range 45) [] (fun k hk => by
      have hk2 := List.mem_range.mp hk
      refine ⟨_, rfl, ?_, fun _ => ?_, ?_⟩
      · simp [fa k hk2]
      · simp
      · simp [wipeG])
    rw [ot] at z
    exact z
  have rl : (nats (List.range 45)).length ≤ sizeLine := by rw [sizeLine_eq]; simp
  unfold bodyS
  generalize nats (List.range 45) = rr at *
  rw [s_seq]
  simp [ex, e1', s_seq, e2, er, lc, szOk, rl, wipeG]
theorem made_facts {a b : D} (ha : Fine a) (hb : Fine b) : ∃ mm : List D, mm.length = 45 ∧ (∀ i, i < 45 → ∃ (c : Str) (ns : List Str) (ds : List D), mm[i]? = some (.obj c ns ds) ∧ xnames[i]? = some c) ∧ ∀ g, callRF 2 d__law_all [.d a, .d b] g = .ok mm g :=
  ⟨made a b, made_len, fun _ hi => made_at hi, all_ok ha hb⟩
theorem law_wp {ns : List Int} (hl : ns.length ≤ 63) (hb : ∀ z ∈ ns, BB 1048576 z) : (d_law [.v (.lst (intz ns))]).wp E0 F0 (fun d _ => d = .bl true) := by
  obtain ⟨h, eh, H⟩ := hand_ok hl hb [.v (.lst (intz ns)), .un, .un, .un, .un, .un, .un, .un]
  generalize hL : intz ns = L at *
  unfold d_law
  refine def_wp ?_
  refine seq_wp ?_
  simp [eh]
  refine seq_wp ?_
  simp
  refine HS.call thing_hs rfl H rfl rfl rfl ?_
  intro a h1 ha H1
  simp
  refine seq_wp ?_
  simp
  refine HS.call thing_hs rfl H1 rfl rfl rfl ?_
  intro b h2 hb2 H2
  simp
  obtain ⟨mm, ml, mat, hall⟩ := made_facts ha hb2
  refine seq_wp ?_
  simp [hall]
  obtain ⟨N, hN⟩ : ∃ N, N = 45 := ⟨_, rfl⟩
  have er : rng1D [.int 45] = some (nats (List.range N)) := by rw [hN]; exact d_rng1 (by decide)
  have f1 := fields_ok ha hb2
  have f2 := fields_ok hb2 ha
  refine seq_cut (fun g => ∃ x5 x6, g = [.v (.lst L), .ow h2, .v a, .v b, .v (.lst mm), x5, x6, .un]) ?_ ?_
  · simp [er]
    refine forR (fun _ g => ∃ x5 x6, g = [.v (.lst L), .ow h2, .v a, .v b, .v (.lst mm), x5, x6, .un]) _ ?_ ?_ ?_
    · exact ⟨_, _, rfl⟩
    · rintro i g hi ⟨x5, x6, rfl⟩
      have hi : i < 45 := by rw [← hN]; exact hi
      obtain ⟨c, cs, ds, em, ec⟩ := mat i hi
      have hc : c ∈ xnames := List.mem_of_getElem? ec
      have e1 := isv (ns := cs) (ds := ds) hc
      have e2 := flags_ok (ns := cs) (ds := ds) hc
      have ex : ixD (.lst mm) (.int (i : Nat)) = some (.obj c cs ds) := by
        rw [ixL (by omega)]
        rw [List.getElem?_eq_getElem (by omega)] at em
        exact em
      have e := body_ok (A := .v (.lst L)) (B := .ow h2) (C := .v a) (E5 := .v b) (F := x6) ex (fun r => ⟨_, e1 r⟩) (e1 _) e2 (fun k hk => flag_at hi hk ec) (one_true ⟨i, hi⟩)
      unfold bodyS at e
      simp only [turnS, s_tgN, List.set_cons_succ, List.set_cons_zero]
      rw [e]
      exact ⟨_, _, rfl⟩
    · exact fun g h => h
  · rintro g ⟨x5, x6, rfl⟩
    simp [f1, f2]
theorem law_ok : LawOk d_law := fun ns hl hb => by
  have h := law_wp hl fun z hz => bits_bb (hb z hz)
  generalize d_law [.v (.lst (intz ns))] = r at h
  cases r with
  | ok d as =>
    have : d = .bl true := h
    subst this
    exact ⟨as, rfl⟩
  | okf d as => exact h.elim
  | ex e as => exact h.elim
  | no => exact h.elim
end K82

set_option Elab.async false
set_option linter.all false
set_option maxRecDepth 100000
set_option maxHeartbeats 0
/-! the end over the head (printed by mkhead82.py) -/
namespace K82
open PySem L2 PySem.Spec PyProof.Rows DL
theorem facts {P : Program} {w : World} {K : PySem.W.Frag} {h : Heap} {mg : Str → Option Value} {f : Addr} (X : K.In h) (G : h.Ns mainGlobals mg) (hfa : mg ("law" : Str) = some (.ref f)) (c1 : He.SaysD faL fnL K) (c2 : exH K = true) :
    ∃ fd : FuncData, (∀ (s : Shared) (v : Value), BindsTo s fd ⟨[v], []⟩ [("_law_script", v)]) ∧ ∀ base : Heap, K.In base → base.Ns mainGlobals mg → FnG P w K mg base (L2.CX P w) 5 f fd ["_law_script"] (spLaw K []) := by
  have E0 := ceB_ok X G (He.ba c2).1
  obtain ⟨fd0, F0⟩ := c1.def_ 0 (d := dd__law_hand) rfl
  obtain ⟨fd1, F1⟩ := c1.def_ 1 (d := dd__law_stir) rfl
  obtain ⟨fd2, F2⟩ := c1.def_ 2 (d := dd__law_draw) rfl
  obtain ⟨fd3, F3⟩ := c1.def_ 3 (d := dd__law_thing) rfl
  obtain ⟨fd4, F4⟩ := c1.def_ 4 (d := dd__law_all) rfl
  obtain ⟨fd5, F5⟩ := c1.def_ 5 (d := dd__law_flags) rfl
  obtain ⟨fd6, F6⟩ := c1.def_ 6 (d := dd__law_later_fields_hold) rfl
  obtain ⟨fd7, F7⟩ := c1.def_ 7 (d := dd__law_fields_hold) rfl
  obtain ⟨fd8, F8⟩ := c1.def_ 8 (d := dd_law) rfl
  have X0 := xB_ok (n := ("BadRatio" : Str)) (qual := ("BadRatio.__init__" : Str)) (st := sx_BadRatio) (fs := [("what" : Str)]) X G (exB_row c2 0 rfl) E0 (c1.def_ 9 (d := dx_BadRatio) rfl)
  have X1 := xB_ok (n := ("DividedByNought" : Str)) (qual := ("DividedByNought.__init__" : Str)) (st := sx_DividedByNought) (fs := []) X G (exB_row c2 1 rfl) E0 (c1.def_ 10 (d := dx_DividedByNought) rfl)
  have X2 := xB_ok (n := ("BadCode" : Str)) (qual := ("BadCode.__init__" : Str)) (st := sx_BadCode) (fs := [("what" : Str), ("place" : Str)]) X G (exB_row c2 2 rfl) E0 (c1.def_ 11 (d := dx_BadCode) rfl)
  have X3 := xB_ok (n := ("BadBit" : Str)) (qual := ("BadBit.__init__" : Str)) (st := sx_BadBit) (fs := [("bit" : Str)]) X G (exB_row c2 3 rfl) E0 (c1.def_ 12 (d := dx_BadBit) rfl)
  have X4 := xB_ok (n := ("NoCheck" : Str)) (qual := ("NoCheck.__init__" : Str)) (st := sx_NoCheck) (fs := [("number" : Str)]) X G (exB_row c2 4 rfl) E0 (c1.def_ 13 (d := dx_NoCheck) rfl)
  have X5 := xB_ok (n := ("BadLot" : Str)) (qual := ("BadLot.__init__" : Str)) (st := sx_BadLot) (fs := []) X G (exB_row c2 5 rfl) E0 (c1.def_ 14 (d := dx_BadLot) rfl)
  have X6 := xB_ok (n := ("BadPrices" : Str)) (qual := ("BadPrices.__init__" : Str)) (st := sx_BadPrices) (fs := [("place" : Str)]) X G (exB_row c2 6 rfl) E0 (c1.def_ 15 (d := dx_BadPrices) rfl)
  have X7 := xB_ok (n := ("BadRow" : Str)) (qual := ("BadRow.__init__" : Str)) (st := sx_BadRow) (fs := [("place" : Str)]) X G (exB_row c2 7 rfl) E0 (c1.def_ 16 (d := dx_BadRow) rfl)
  have X8 := xB_ok (n := ("BadWord" : Str)) (qual := ("BadWord.__init__" : Str)) (st := sx_BadWord) (fs := [("number" : Str)]) X G (exB_row c2 8 rfl) E0 (c1.def_ 17 (d := dx_BadWord) rfl)
  have X9 := xB_ok (n := ("BadOrder" : Str)) (qual := ("BadOrder.__init__" : Str)) (st := sx_BadOrder) (fs := []) X G (exB_row c2 9 rfl) E0 (c1.def_ 18 (d := dx_BadOrder) rfl)
  have X10 := xB_ok (n := ("UnlikeBits" : Str)) (qual := ("UnlikeBits.__init__" : Str)) (st := sx_UnlikeBits) (fs := []) X G (exB_row c2 10 rfl) E0 (c1.def_ 19 (d := dx_UnlikeBits) rfl)
  have X11 := xB_ok (n := ("TooMany" : Str)) (qual := ("TooMany.__init__" : Str)) (st := sx_TooMany) (fs := [("most" : Str)]) X G (exB_row c2 11 rfl) E0 (c1.def_ 20 (d := dx_TooMany) rfl)
  have X12 := xB_ok (n := ("BadText" : Str)) (qual := ("BadText.__init__" : Str)) (st := sx_BadText) (fs := [("place" : Str)]) X G (exB_row c2 12 rfl) E0 (c1.def_ 21 (d := dx_BadText) rfl)
  have X13 := xB_ok (n := ("NotLet" : Str)) (qual := ("NotLet.__init__" : Str)) (st := sx_NotLet) (fs := [("number" : Str), ("lot" : Str)]) X G (exB_row c2 13 rfl) E0 (c1.def_ 22 (d := dx_NotLet) rfl)
  have X14 := xB_ok (n := ("BadSheets" : Str)) (qual := ("BadSheets.__init__" : Str)) (st := sx_BadSheets) (fs := [("sheets" : Str)]) X G (exB_row c2 14 rfl) E0 (c1.def_ 23 (d := dx_BadSheets) rfl)
  have X15 := xB_ok (n := ("BadRows" : Str)) (qual := ("BadRows.__init__" : Str)) (st := sx_BadRows) (fs := [("number" : Str)]) X G (exB_row c2 15 rfl) E0 (c1.def_ 24 (d := dx_BadRows) rfl)
  have X16 := xB_ok (n := ("BadWeights" : Str)) (qual := ("BadWeights.__init__" : Str)) (st := sx_BadWeights) (fs := [("place" : Str)]) X G (exB_row c2 16 rfl) E0 (c1.def_ 25 (d := dx_BadWeights) rfl)
  have X17 := xB_ok (n := ("BadCover" : Str)) (qual := ("BadCover.__init__" : Str)) (st := sx_BadCover) (fs := [("what" : Str), ("number" : Str)]) X G (exB_row c2 17 rfl) E0 (c1.def_ 26 (d := dx_BadCover) rfl)
  have X18 := xB_ok (n := ("BadWire" : Str)) (qual := ("BadWire.__init__" : Str)) (st := sx_BadWire) (fs := []) X G (exB_row c2 18 rfl) E0 (c1.def_ 27 (d := dx_BadWire) rfl)
  have X19 := xB_ok (n := ("BadMarks" : Str)) (qual := ("BadMarks.__init__" : Str)) (st := sx_BadMarks) (fs := [("place" : Str)]) X G (exB_row c2 19 rfl) E0 (c1.def_ 28 (d := dx_BadMarks) rfl)
  have X20 := xB_ok (n := ("UnlikeCode" : Str)) (qual := ("UnlikeCode.__init__" : Str)) (st := sx_UnlikeCode) (fs := []) X G (exB_row c2 20 rfl) E0 (c1.def_ 29 (d := dx_UnlikeCode) rfl)
  have X21 := xB_ok (n := ("BadTimes" : Str)) (qual := ("BadTimes.__init__" : Str)) (st := sx_BadTimes) (fs := [("times" : Str)]) X G (exB_row c2 21 rfl) E0 (c1.def_ 30 (d := dx_BadTimes) rfl)
  have X22 := xB_ok (n := ("LowRest" : Str)) (qual := ("LowRest.__init__" : Str)) (st := sx_LowRest) (fs := [("bit" : Str)]) X G (exB_row c2 22 rfl) E0 (c1.def_ 31 (d := dx_LowRest) rfl)
  have X23 := xB_ok (n := ("BadCone" : Str)) (qual := ("BadCone.__init__" : Str)) (st := sx_BadCone) (fs := [("place" : Str)]) X G (exB_row c2 23 rfl) E0 (c1.def_ 32 (d := dx_BadCone) rfl)
  have X24 := xB_ok (n := ("NotCone" : Str)) (qual := ("NotCone.__init__" : Str)) (st := sx_NotCone) (fs := [("number" : Str), ("bit" : Str)]) X G (exB_row c2 24 rfl) E0 (c1.def_ 33 (d := dx_NotCone) rfl)
  have X25 := xB_ok (n := ("BadMany" : Str)) (qual := ("BadMany.__init__" : Str)) (st := sx_BadMany) (fs := [("many" : Str)]) X G (exB_row c2 25 rfl) E0 (c1.def_ 34 (d := dx_BadMany) rfl)
  have X26 := xB_ok (n := ("BadReceived" : Str)) (qual := ("BadReceived.__init__" : Str)) (st := sx_BadReceived) (fs := [("place" : Str)]) X G (exB_row c2 26 rfl) E0 (c1.def_ 35 (d := dx_BadReceived) rfl)
  have X27 := xB_ok (n := ("OddCount" : Str)) (qual := ("OddCount.__init__" : Str)) (st := sx_OddCount) (fs := [("number" : Str)]) X G (exB_row c2 27 rfl) E0 (c1.def_ 36 (d := dx_OddCount) rfl)
  have X28 := xB_ok (n := ("NotStop" : Str)) (qual := ("NotStop.__init__" : Str)) (st := sx_NotStop) (fs := [("number" : Str)]) X G (exB_row c2 28 rfl) E0 (c1.def_ 37 (d := dx_NotStop) rfl)
  have X29 := xB_ok (n := ("NotRingless" : Str)) (qual := ("NotRingless.__init__" : Str)) (st := sx_NotRingless) (fs := [("ring" : Str)]) X G (exB_row c2 29 rfl) E0 (c1.def_ 38 (d := dx_NotRingless) rfl)
  have X30 := xB_ok (n := ("NotCorner" : Str)) (qual := ("NotCorner.__init__" : Str)) (st := sx_NotCorner) (fs := [("row" : Str)]) X G (exB_row c2 30 rfl) E0 (c1.def_ 39 (d := dx_NotCorner) rfl)
  have X31 := xB_ok (n := ("BadWeb" : Str)) (qual := ("BadWeb.__init__" : Str)) (st := sx_BadWeb) (fs := [("what" : Str), ("place" : Str)]) X G (exB_row c2 31 rfl) E0 (c1.def_ 40 (d := dx_BadWeb) rfl)
  have X32 := xB_ok (n := ("BadPost" : Str)) (qual := ("BadPost.__init__" : Str)) (st := sx_BadPost) (fs := [("post" : Str)]) X G (exB_row c2 32 rfl) E0 (c1.def_ 41 (d := dx_BadPost) rfl)
  have X33 := xB_ok (n := ("NotTies" : Str)) (qual := ("NotTies.__init__" : Str)) (st := sx_NotTies) (fs := [("bit" : Str)]) X G (exB_row c2 33 rfl) E0 (c1.def_ 42 (d := dx_NotTies) rfl)
  have X34 := xB_ok (n := ("NotRound" : Str)) (qual := ("NotRound.__init__" : Str)) (st := sx_NotRound) (fs := [("what" : Str)]) X G (exB_row c2 34 rfl) E0 (c1.def_ 43 (d := dx_NotRound) rfl)
  have X35 := xB_ok (n := ("NotApart" : Str)) (qual := ("NotApart.__init__" : Str)) (st := sx_NotApart) (fs := [("what" : Str)]) X G (exB_row c2 35 rfl) E0 (c1.def_ 44 (d := dx_NotApart) rfl)
  have X36 := xB_ok (n := ("NothingLeft" : Str)) (qual := ("NothingLeft.__init__" : Str)) (st := sx_NothingLeft) (fs := []) X G (exB_row c2 36 rfl) E0 (c1.def_ 45 (d := dx_NothingLeft) rfl)
  have X37 := xB_ok (n := ("NoSmall" : Str)) (qual := ("NoSmall.__init__" : Str)) (st := sx_NoSmall) (fs := [("which" : Str)]) X G (exB_row c2 37 rfl) E0 (c1.def_ 46 (d := dx_NoSmall) rfl)
  have X38 := xB_ok (n := ("NoSum" : Str)) (qual := ("NoSum.__init__" : Str)) (st := sx_NoSum) (fs := []) X G (exB_row c2 38 rfl) E0 (c1.def_ 47 (d := dx_NoSum) rfl)
  have X39 := xB_ok (n := ("NotHidden" : Str)) (qual := ("NotHidden.__init__" : Str)) (st := sx_NotHidden) (fs := [("what" : Str)]) X G (exB_row c2 39 rfl) E0 (c1.def_ 48 (d := dx_NotHidden) rfl)
  have X40 := xB_ok (n := ("BadWish" : Str)) (qual := ("BadWish.__init__" : Str)) (st := sx_BadWish) (fs := [("number" : Str)]) X G (exB_row c2 40 rfl) E0 (c1.def_ 49 (d := dx_BadWish) rfl)
  have X41 := xB_ok (n := ("BadPool" : Str)) (qual := ("BadPool.__init__" : Str)) (st := sx_BadPool) (fs := [("place" : Str)]) X G (exB_row c2 41 rfl) E0 (c1.def_ 50 (d := dx_BadPool) rfl)
  have X42 := xB_ok (n := ("BadPicks" : Str)) (qual := ("BadPicks.__init__" : Str)) (st := sx_BadPicks) (fs := []) X G (exB_row c2 42 rfl) E0 (c1.def_ 51 (d := dx_BadPicks) rfl)
  have X43 := xB_ok (n := ("BadEdit" : Str)) (qual := ("BadEdit.__init__" : Str)) (st := sx_BadEdit) (fs := [("place" : Str)]) X G (exB_row c2 43 rfl) E0 (c1.def_ 52 (d := dx_BadEdit) rfl)
  have X44 := xB_ok (n := ("NothingDone" : Str)) (qual := ("NothingDone.__init__" : Str)) (st := sx_NothingDone) (fs := []) X G (exB_row c2 44 rfl) E0 (c1.def_ 53 (d := dx_NothingDone) rfl)
  have e := hfa.symm.trans (He.glo_ok X G (c1.fact 8 (f := .glo ("law" : Str)) rfl))
  cases e
  let A : Ad := {
    f__law_hand := He.ga K ("_law_hand" : Str), fd__law_hand := fd0,
    f__law_stir := He.ga K ("_law_stir" : Str), fd__law_stir := fd1,
    f__law_draw := He.ga K ("_law_draw" : Str), fd__law_draw := fd2,
    f__law_thing := He.ga K ("_law_thing" : Str), fd__law_thing := fd3,
    f__law_all := He.ga K ("_law_all" : Str), fd__law_all := fd4,
    f__law_flags := He.ga K ("_law_flags" : Str), fd__law_flags := fd5,
    f__law_later_fields_hold := He.ga K ("_law_later_fields_hold" : Str), fd__law_later_fields_hold := fd6,
    f__law_fields_hold := He.ga K ("_law_fields_hold" : Str), fd__law_fields_hold := fd7,
    f_law := He.ga K ("law" : Str), fd_law := fd8,
    c_CodeError := He.ga K ("CodeError" : Str) }
  have T : ∀ base : Heap, Tx K mg base A := fun base => {
    m__law_hand := He.glo_ok X G (c1.fact 0 (f := .glo ("_law_hand" : Str)) rfl),
    k__law_hand := F0.kp,
    F__law_hand := F0,
    m__law_stir := He.glo_ok X G (c1.fact 1 (f := .glo ("_law_stir" : Str)) rfl),
    k__law_stir := F1.kp,
    F__law_stir := F1,
    m__law_draw := He.glo_ok X G (c1.fact 2 (f := .glo ("_law_draw" : Str)) rfl),
    k__law_draw := F2.kp,
    F__law_draw := F2,
    m__law_thing := He.glo_ok X G (c1.fact 3 (f := .glo ("_law_thing" : Str)) rfl),
    k__law_thing := F3.kp,
    F__law_thing := F3,
    m__law_all := He.glo_ok X G (c1.fact 4 (f := .glo ("_law_all" : Str)) rfl),
    k__law_all := F4.kp,
    F__law_all := F4,
    m__law_flags := He.glo_ok X G (c1.fact 5 (f := .glo ("_law_flags" : Str)) rfl),
    k__law_flags := F5.kp,
    F__law_flags := F5,
    m__law_later_fields_hold := He.glo_ok X G (c1.fact 6 (f := .glo ("_law_later_fields_hold" : Str)) rfl),
    k__law_later_fields_hold := F6.kp,
    F__law_later_fields_hold := F6,
    m__law_fields_hold := He.glo_ok X G (c1.fact 7 (f := .glo ("_law_fields_hold" : Str)) rfl),
    k__law_fields_hold := F7.kp,
    F__law_fields_hold := F7,
    m_law := He.glo_ok X G (c1.fact 8 (f := .glo ("law" : Str)) rfl),
    k_law := F8.kp,
    F_law := F8,
    z_ValueError := He.free_ok X G (c1.fact 9 (f := .free ("ValueError" : Str)) rfl),
    z_abs := He.free_ok X G (c1.fact 10 (f := .free ("abs" : Str)) rfl),
    z_enumerate := He.free_ok X G (c1.fact 11 (f := .free ("enumerate" : Str)) rfl),
    z_int := He.free_ok X G (c1.fact 12 (f := .free ("int" : Str)) rfl),
    z_isinstance := He.free_ok X G (c1.fact 13 (f := .free ("isinstance" : Str)) rfl),
    z_len := He.free_ok X G (c1.fact 14 (f := .free ("len" : Str)) rfl),
    z_range := He.free_ok X G (c1.fact 15 (f := .free ("range" : Str)) rfl),
    z_repr := He.free_ok X G (c1.fact 16 (f := .free ("repr" : Str)) rfl),
    z_str := He.free_ok X G (c1.fact 17 (f := .free ("str" : Str)) rfl),
    B_CE := E0.ce,
    rd_CodeError := E0.rd,
    vi_CodeError := E0.vi,
    X_BadRatio := X0,
    X_DividedByNought := X1,
    X_BadCode := X2,
    X_BadBit := X3,
    X_NoCheck := X4,
    X_BadLot := X5,
    X_BadPrices := X6,
    X_BadRow := X7,
    X_BadWord := X8,
    X_BadOrder := X9,
    X_UnlikeBits := X10,
    X_TooMany := X11,
    X_BadText := X12,
    X_NotLet := X13,
    X_BadSheets := X14,
    X_BadRows := X15,
    X_BadWeights := X16,
    X_BadCover := X17,
    X_BadWire := X18,
    X_BadMarks := X19,
    X_UnlikeCode := X20,
    X_BadTimes := X21,
    X_LowRest := X22,
    X_BadCone := X23,
    X_NotCone := X24,
    X_BadMany := X25,
    X_BadReceived := X26,
    X_OddCount := X27,
    X_NotStop := X28,
    X_NotRingless := X29,
    X_NotCorner := X30,
    X_BadWeb := X31,
    X_BadPost := X32,
    X_NotTies := X33,
    X_NotRound := X34,
    X_NotApart := X35,
    X_NothingLeft := X36,
    X_NoSmall := X37,
    X_NoSum := X38,
    X_NotHidden := X39,
    X_BadWish := X40,
    X_BadPool := X41,
    X_BadPicks := X42,
    X_BadEdit := X43,
    X_NothingDone := X44 }
  have b := FunD.bindsA (ps := ["_law_script"]) F8 fun _ _ _ _ _ _ us hl => match us, hl with | [_], _ => rfl
  exact ⟨fd8, fun s v => b s [v] rfl, fun base _ _ => law_impG (ok_law (T base)) law_ok⟩
end K82
open PySem PySem.W PySem.Calls PyProof.Rows
theorem PySem.Challenge.cw_letbychecks_k82_whole_errors_side_by_sid_holds : PySem.Challenge.rw_letbychecks_k82_whole_errors_side_by_sid.Holds := by
  w_on; o_law
  refine HandSHeadRun.head_any (r := OpenLaw.row PySem.Challenge.rw_letbychecks_k82_whole_errors_side_by_sid) (q := view (OpenLaw.row PySem.Challenge.rw_letbychecks_k82_whole_errors_side_by_sid).prog [56]) (H := K82.hk2) (ob := K82.ob2) (M := 20000) (loose := K82.looseN) (d := HandSHeadRun.topDef (OpenLaw.row PySem.Challenge.rw_letbychecks_k82_whole_errors_side_by_sid).prog 56) (kwd := []) K82.ob2_eq
    (by kernel_rfl) (fun s => by kernel_rfl) K82.run (by kernel_rfl) (by kernel_rfl) (by kernel_rfl) (by rfl) (by first | assumption | decide +kernel) (by decide +kernel) ⟨rfl, rfl, rfl, rfl, rfl, by decide +kernel⟩ ?hw ?hc
  case hw => w_witness2
  case hc =>
    refine DL.walkGE (l := PySem.Challenge.rw_letbychecks_k82_whole_errors_side_by_sid) (k := 5) (x := "_law_script") rfl (by kernel_rfl) ⟨rfl, by decide, by decide⟩ ?F
    intro w mg fa h Y G hmg0
    obtain ⟨K, KX, ⟨c1, _⟩, _, c2⟩ := Y
    have hmg : mg ("law" : PySem.Str) = some (.ref fa) := by
      have e : (HandSHeadRun.topDef (OpenLaw.row PySem.Challenge.rw_letbychecks_k82_whole_errors_side_by_sid).prog 56).name = ("law" : PySem.Str) := by kernel_rfl
      rw [← e]
      exact hmg0
    obtain ⟨fd, hb, hF⟩ := K82.facts (P := (PySem.Challenge.rw_letbychecks_k82_whole_errors_side_by_sid).prog) (w := w) KX G hmg c1 c2
    exact ⟨K, fd, KX, hb, hF⟩
#print axioms PySem.Challenge.cw_letbychecks_k82_whole_errors_side_by_sid_holds

