import PyProof.Rows.All
import Wide.All
import OpenK.AllK
import Wide.FinOn
import HandS.ForMost
import HandS.ForExc
import HandS.IsInst
import HandS.Wide
import HandS.Flow
import HandS.ExcField
import HandS.HeadHook2
import HandS.Conv
import KE.KIsAll
import HandS.NoneIn
import KE.GoesMore
import KE.GoesEnum
import KE.KStateDown
import Lean
import HandS.Ends
import HandS.More
import HandS.Head0
import HandS.Head1
import HandS.Head2
import HandS.HeadEnd
import HandS.TryOnly
import HandS.TupAny
import HandS.Zip
import HandS.Deep
import HandS.Style
import HandS.OwnEq
import PyProof.InstNe
import HandS.Small
import HandS.TupLe
import KE.DataCmp
import HandS.Iter
import HandS.Defaults
import KE.KTupSum
import HandS.WideBits
import PyProof.ListMulAny
import PyProof.MaxThree
import HandS.SetFor
import HandS.Strs
import HandS.SortInts
import HandS.SetTxt0
import HandS.NamedTupSort
import HandS.TryMany
import HandS.SortRule
import KE.KSortTupAny
import HandS.WordsDict
import KE.KExcMore
import HandS.ExcValue
import HandS.ExcIs
import PySem.Challenge.RW_quietrows_k01_errors
set_option Elab.async false
set_option linter.all false
set_option maxRecDepth 100000
set_option maxHeartbeats 4000000
namespace TL
open PySem PySem.W PySem.Spec L2
def rfB (K : PySem.W.Frag) (cs : List Str) : Bool := cs.all fun c => ["tuple", "list", "NoneType"].all fun t => decide (PySem.W.subIn K (.ref (He.ga K c)) (.type t) = some false) && (decide (PySem.W.mroIn K (He.ga K c) (.type t) = some false))
structure CI where
  name : Str
  fields : List Str
  anc : List Str
def bts : List String := ["NoneType", "bool", "int", "str", "list", "tuple", "dict"]
def bsub (t u : String) : Bool := t == u || (t == "bool" && u == "int")
def insB (K : PySem.W.Frag) (C : Addr) : Bool := decide (PySem.W.findIn K (.ref C) "__class__" = some (some (.builtin "object.__class__"))) && (decide (PySem.W.specialIn K (.builtin "object.__class__") "__get__" = some (some (.builtin "getset_descriptor.__get__"))) &&
  (decide (PySem.W.takesIn K (.builtin "object.__class__") = some true) && decide (PySem.W.mroIn K C (.type "object") = some true)))
def ctB (K : PySem.W.Frag) (tb : List CI) (ks : List Str) : Bool :=
  (tb.all fun c => (He.Fa.cls c.name).ok K && (insB K (He.ga K c.name) && ((c.fields.all fun f => (He.Fa.noat c.name f).ok K) && ((ks.all fun k => decide (PySem.W.kitOne K (.ref (He.ga K c.name)) (.ref (He.ga K k)) = some (c.anc.contains k))) &&
    (bts.all fun t => decide (PySem.W.kitOne K (.ref (He.ga K c.name)) (.type t) = some false)))))) &&
  ((bts.all fun t => ks.all fun k => decide (PySem.W.kitOne K (.type t) (.ref (He.ga K k)) = some false)) && (bts.all fun t => bts.all fun u => decide (PySem.W.kitOne K (.type t) (.type u) = some (bsub t u))))
structure XI where
  name : Str
  anc : List Str
def xmB (K : PySem.W.Frag) (xt : List XI) (hs : List Str) (xf : List (Str × Str)) : Bool :=
  (xt.all fun k => hs.all fun h => decide (PySem.W.exmOne K (.ref (He.ga K k.name)) (.ref (He.ga K h)) = some (k.anc.contains h))) &&
  (xf.all fun q => xfB K (He.ga K q.1) && decide (PySem.W.findIn K (.ref (He.ga K q.1)) q.2 = some none))
inductive Cn where
  | ty (n : String) | own (c : Str)
def Cn.val (K : PySem.W.Frag) : Cn → Value
  | .ty n => .type n
  | .own c => .ref (He.ga K c)
def isaX (k : XI) : Cn → Bool
  | .ty t => k.anc.contains (Str.ofString t)
  | .own n => k.anc.contains n
def excB (K : PySem.W.Frag) (D : Addr) : Bool := decide (PySem.W.findIn K (.ref D) "__getattribute__" = some (some (.builtin "BaseException.__getattribute__"))) && (decide (PySem.W.findIn K (.ref D) "__getattr__" = some none) && (decide (PySem.W.subIn K (.ref D) (.type "BaseException") = some true) &&
  (PySem.W.hasDictIn K D && (decide (PySem.W.findIn K (.ref D) "__class__" = some (some (.builtin "object.__class__"))) && (decide (PySem.W.specialIn K (.builtin "object.__class__") "__get__" = some (some (.builtin "getset_descriptor.__get__"))) &&
  (decide (PySem.W.takesIn K (.builtin "object.__class__") = some true) && decide (PySem.W.mroIn K D (.type "object") = some true)))))))
def xisB (K : PySem.W.Frag) (xt : List XI) (cns : List Cn) : Bool := xt.all fun k => excB K (He.ga K k.name) && cns.all fun cn => decide (PySem.W.kitOne K (.ref (He.ga K k.name)) (cn.val K) = some (isaX k cn))
def exclB (K : PySem.W.Frag) (C : Addr) : Bool := match K.lookup C with
  | some ⟨c, _, .cls cd, sl⟩ => decide (c = .type "type") && (cd.hasDict && (!cd.hasDel && ((match cd.mro with
    | m :: bm => decide (m = .ref C) && PySem.HandSPX.refsVE bm
    | [] => false) && (match sl.toList with
    | [_, _, _, _, k4, _] => decide (k4 = some (.builtin "ValueError.__new__"))
    | _ => false))))
  | _ => false
def xcB (K : PySem.W.Frag) (cn f : Str) : Bool := exclB K (He.ga K cn) && (decide (findIn K (.ref (He.ga K cn)) "__setattr__" = some (some (.builtin "object.__setattr__"))) && (decide (findIn K (.ref (He.ga K cn)) "__getattribute__" = some (some (.builtin "BaseException.__getattribute__"))) &&
  (decide (findIn K (.ref (He.ga K cn)) "__getattr__" = some none) && (decide (findIn K (.ref (He.ga K cn)) f = some none) && (decide (findIn K (.ref (He.ga K cn)) "__init__" = some (some (.ref (He.ma K (He.ga K cn) "__init__")))) && (decide (typeIn K (.ref (He.ma K (He.ga K cn) "__init__")) = some (.type "function")) &&
  (keepIn K (.ref (He.ga K cn)) && (decide (subIn K (.ref (He.ga K cn)) (.type "BaseException") = some true) && (decide (typeIn K (.ref (He.ga K cn)) = some (.type "type")) && hasDictIn K (He.ga K cn))))))))))
def x0B (K : PySem.W.Frag) (cn : Str) : Bool := (He.Fa.exc cn).ok K
def djB (K : PySem.W.Frag) (CL : List Str) : Bool := CL.all fun c => CL.all fun c' => c == c' || He.ga K c != He.ga K c'
def nfB (K : PySem.W.Frag) (tb : List CI) (cs : List Str) : Bool :=
  cs.all fun c => (bts.all fun t => PySem.W.notFirst K (He.ga K c) (.type t)) && (tb.all fun c' => PySem.W.notFirst K (He.ga K c) (.ref (He.ga K c'.name)))
def neB (K : PySem.W.Frag) (cs : List Str) : Bool := cs.all fun c => decide (PySem.W.findIn K (.ref (He.ga K c)) "__ne__" = some (some (.builtin "object.__ne__"))) && decide (PySem.W.mroIn K (He.ga K c) (.type "object") = some true)
def oqB (K : PySem.W.Frag) (tb : List CI) (cs : List Str) : Bool := djB K cs && (nfB K tb cs && neB K cs)
abbrev AlX : Type := He.AlD × Bool
structure SaysX (fa : List He.Fa) (fn : List He.DefD) (ex : PySem.W.Frag → Bool) (K : PySem.W.Frag) : Prop where
  d : He.SaysD fa fn K
  e : ex K = true
def obsL (as : List Addr) (fa : List He.Fa) (fn : List He.DefD) (ex : PySem.W.Frag → Bool) (g : Addr → Option Obj) : AlX := (He.obsD fa fn (He.frG g as), ex (He.frG g as))
def hookL (as : List Addr) (fa : List He.Fa) (fn : List He.DefD) (ex : PySem.W.Frag → Bool) : PySem.W.Hook where
  α := AlX
  obs := fun s => obsL as fa fn ex s.heap.get?
  val := fun _ => (He.valD fn, true)
  says := fun _ h => ∃ K : PySem.W.Frag, K.In h ∧ SaysX fa fn ex K
  of := fun _ _ e => ⟨_, He.frG_in, ⟨congrArg Prod.fst e, congrArg Prod.snd e⟩⟩
  keeps := fun _ _ _ ⟨K, hK, c⟩ k => ⟨K, PySem.W.Frag.In.keeps hK k, c⟩
theorem obsL_eq {as : List Addr} {fa : List He.Fa} {fn : List He.DefD} {ex : PySem.W.Frag → Bool} {g : Addr → Option Obj} {s : Shared} (h : ∀ a, g a = s.heap.get? a) : obsL as fa fn ex g = (hookL as fa fn ex).obs s := by
  have e : g = s.heap.get? := funext h
  rw [e] <;> rfl
end TL
namespace Law
open PySem PySem.Spec L2 TL
def tb : List CI := []
def ks : List Str := []
def xv : List XI := [⟨"BadBus", ["BadBus", "QuietError", "ValueError"]⟩, ⟨"BadForm", ["BadForm", "QuietError", "ValueError"]⟩, ⟨"BadMember", ["BadMember", "QuietError", "ValueError"]⟩, ⟨"BadNumbers", ["BadNumbers", "QuietError", "ValueError"]⟩, ⟨"BadRow", ["BadRow", "QuietError", "ValueError"]⟩, ⟨"BadStream", ["BadStream", "QuietError", "ValueError"]⟩, ⟨"BadText", ["BadText", "QuietError", "ValueError"]⟩, ⟨"BadTrain", ["BadTrain", "QuietError", "ValueError"]⟩, ⟨"Large", ["Large", "QuietError", "ValueError"]⟩, ⟨"Mixed", ["Mixed", "QuietError", "ValueError"]⟩, ⟨"NoBack", ["NoBack", "QuietError", "ValueError"]⟩, ⟨"NoEvent", ["NoEvent", "QuietError", "ValueError"]⟩, ⟨"NoInput", ["NoInput", "QuietError", "ValueError"]⟩, ⟨"NoName", ["NoName", "QuietError", "ValueError"]⟩, ⟨"NoQuestion", ["NoQuestion", "QuietError", "ValueError"]⟩, ⟨"NotKnown", ["NotKnown", "QuietError", "ValueError"]⟩, ⟨"NotLater", ["NotLater", "QuietError", "ValueError"]⟩, ⟨"OtherInputs", ["OtherInputs", "QuietError", "ValueError"]⟩, ⟨"Untrue", ["Untrue", "QuietError", "ValueError"]⟩]
def xvk : List Cn := [(.own "BadBus"), (.own "BadForm"), (.own "BadMember"), (.own "BadNumbers"), (.own "BadRow"), (.own "BadStream"), (.own "BadText"), (.own "BadTrain"), (.own "Large"), (.own "Mixed"), (.own "NoBack"), (.own "NoEvent"), (.own "NoInput"), (.own "NoName"), (.own "NoQuestion"), (.own "NotKnown"), (.own "NotLater"), (.own "OtherInputs"), (.own "QuietError"), (.own "Untrue"), (.ty "ValueError")]
def xvf : List (Str × Str) := [("BadBus", "index"), ("BadMember", "what"), ("BadNumbers", "place"), ("BadRow", "index"), ("BadStream", "place"), ("BadText", "place"), ("BadTrain", "what"), ("Large", "count"), ("NoEvent", "number"), ("NoInput", "name"), ("NotLater", "time")]
def top (i : Nat) : Stmt := PySem.Challenge.pw_quietrows_k01_errors.main.body.getD i (.Pass ⟨0, 0, 0, 0⟩)
abbrev st__law_state : Stmt := top 23
abbrev st__law_digit : Stmt := top 24
abbrev st__law_classes : Stmt := top 26
abbrev st_BadStream_told : Stmt := inClass (top 2) 1
abbrev st_BadMember_told : Stmt := inClass (top 3) 1
abbrev st_BadRow_told : Stmt := inClass (top 4) 1
abbrev st_BadTrain_told : Stmt := inClass (top 7) 1
abbrev st_NoEvent_told : Stmt := inClass (top 8) 1
abbrev st_Large_told : Stmt := inClass (top 9) 1
abbrev st_BadNumbers_told : Stmt := inClass (top 13) 1
abbrev st_BadBus_told : Stmt := inClass (top 14) 1
abbrev st_NoInput_told : Stmt := inClass (top 15) 1
abbrev st_NotLater_told : Stmt := inClass (top 17) 1
abbrev st_BadText_told : Stmt := inClass (top 19) 1
abbrev st_BadForm_told : Stmt := inClass (top 5) 0
abbrev st_Mixed_told : Stmt := inClass (top 6) 0
abbrev st_NoQuestion_told : Stmt := inClass (top 10) 0
abbrev st_Untrue_told : Stmt := inClass (top 11) 0
abbrev st_NotKnown_told : Stmt := inClass (top 12) 0
abbrev st_OtherInputs_told : Stmt := inClass (top 16) 0
abbrev st_NoBack_told : Stmt := inClass (top 18) 0
abbrev st_NoName_told : Stmt := inClass (top 20) 0
abbrev st__law_field : Stmt := top 25
abbrev st_law : Stmt := top 27
def d0 : He.DefD := ⟨("_law_state", none), "_law_state", "_law_state", defArgs st__law_state, defBody st__law_state, defScope st__law_state, [], []⟩
def d1 : He.DefD := ⟨("_law_digit", none), "_law_digit", "_law_digit", defArgs st__law_digit, defBody st__law_digit, defScope st__law_digit, [], []⟩
def d2 : He.DefD := ⟨("_law_classes", none), "_law_classes", "_law_classes", defArgs st__law_classes, defBody st__law_classes, defScope st__law_classes, [], []⟩
def d3 : He.DefD := ⟨("_law_field", none), "_law_field", "_law_field", defArgs st__law_field, defBody st__law_field, defScope st__law_field, [], []⟩
def d4 : He.DefD := ⟨("law", none), "law", "law", defArgs st_law, defBody st_law, defScope st_law, [], []⟩
def d5 : He.DefD := ⟨("BadStream", some "told"), "told", "BadStream.told", defArgs st_BadStream_told, defBody st_BadStream_told, defScope st_BadStream_told, [], []⟩
def d6 : He.DefD := ⟨("BadMember", some "told"), "told", "BadMember.told", defArgs st_BadMember_told, defBody st_BadMember_told, defScope st_BadMember_told, [], []⟩
def d7 : He.DefD := ⟨("BadRow", some "told"), "told", "BadRow.told", defArgs st_BadRow_told, defBody st_BadRow_told, defScope st_BadRow_told, [], []⟩
def d8 : He.DefD := ⟨("BadTrain", some "told"), "told", "BadTrain.told", defArgs st_BadTrain_told, defBody st_BadTrain_told, defScope st_BadTrain_told, [], []⟩
def d9 : He.DefD := ⟨("NoEvent", some "told"), "told", "NoEvent.told", defArgs st_NoEvent_told, defBody st_NoEvent_told, defScope st_NoEvent_told, [], []⟩
def d10 : He.DefD := ⟨("Large", some "told"), "told", "Large.told", defArgs st_Large_told, defBody st_Large_told, defScope st_Large_told, [], []⟩
def d11 : He.DefD := ⟨("BadNumbers", some "told"), "told", "BadNumbers.told", defArgs st_BadNumbers_told, defBody st_BadNumbers_told, defScope st_BadNumbers_told, [], []⟩
def d12 : He.DefD := ⟨("BadBus", some "told"), "told", "BadBus.told", defArgs st_BadBus_told, defBody st_BadBus_told, defScope st_BadBus_told, [], []⟩
def d13 : He.DefD := ⟨("NoInput", some "told"), "told", "NoInput.told", defArgs st_NoInput_told, defBody st_NoInput_told, defScope st_NoInput_told, [], []⟩
def d14 : He.DefD := ⟨("NotLater", some "told"), "told", "NotLater.told", defArgs st_NotLater_told, defBody st_NotLater_told, defScope st_NotLater_told, [], []⟩
def d15 : He.DefD := ⟨("BadText", some "told"), "told", "BadText.told", defArgs st_BadText_told, defBody st_BadText_told, defScope st_BadText_told, [], []⟩
def d16 : He.DefD := ⟨("BadForm", some "told"), "told", "BadForm.told", defArgs st_BadForm_told, defBody st_BadForm_told, defScope st_BadForm_told, [], []⟩
def d17 : He.DefD := ⟨("Mixed", some "told"), "told", "Mixed.told", defArgs st_Mixed_told, defBody st_Mixed_told, defScope st_Mixed_told, [], []⟩
def d18 : He.DefD := ⟨("NoQuestion", some "told"), "told", "NoQuestion.told", defArgs st_NoQuestion_told, defBody st_NoQuestion_told, defScope st_NoQuestion_told, [], []⟩
def d19 : He.DefD := ⟨("Untrue", some "told"), "told", "Untrue.told", defArgs st_Untrue_told, defBody st_Untrue_told, defScope st_Untrue_told, [], []⟩
def d20 : He.DefD := ⟨("NotKnown", some "told"), "told", "NotKnown.told", defArgs st_NotKnown_told, defBody st_NotKnown_told, defScope st_NotKnown_told, [], []⟩
def d21 : He.DefD := ⟨("OtherInputs", some "told"), "told", "OtherInputs.told", defArgs st_OtherInputs_told, defBody st_OtherInputs_told, defScope st_OtherInputs_told, [], []⟩
def d22 : He.DefD := ⟨("NoBack", some "told"), "told", "NoBack.told", defArgs st_NoBack_told, defBody st_NoBack_told, defScope st_NoBack_told, [], []⟩
def d23 : He.DefD := ⟨("NoName", some "told"), "told", "NoName.told", defArgs st_NoName_told, defBody st_NoName_told, defScope st_NoName_told, [], []⟩
def d24 : He.DefD := ⟨("BadBus", some "__init__"), "__init__", "BadBus.__init__", defArgs (inClass (top 14) 0), defBody (inClass (top 14) 0), defScope (inClass (top 14) 0), [], []⟩
def d25 : He.DefD := ⟨("BadMember", some "__init__"), "__init__", "BadMember.__init__", defArgs (inClass (top 3) 0), defBody (inClass (top 3) 0), defScope (inClass (top 3) 0), [], []⟩
def d26 : He.DefD := ⟨("BadNumbers", some "__init__"), "__init__", "BadNumbers.__init__", defArgs (inClass (top 13) 0), defBody (inClass (top 13) 0), defScope (inClass (top 13) 0), [], []⟩
def d27 : He.DefD := ⟨("BadRow", some "__init__"), "__init__", "BadRow.__init__", defArgs (inClass (top 4) 0), defBody (inClass (top 4) 0), defScope (inClass (top 4) 0), [], []⟩
def d28 : He.DefD := ⟨("BadStream", some "__init__"), "__init__", "BadStream.__init__", defArgs (inClass (top 2) 0), defBody (inClass (top 2) 0), defScope (inClass (top 2) 0), [], []⟩
def d29 : He.DefD := ⟨("BadText", some "__init__"), "__init__", "BadText.__init__", defArgs (inClass (top 19) 0), defBody (inClass (top 19) 0), defScope (inClass (top 19) 0), [], []⟩
def d30 : He.DefD := ⟨("BadTrain", some "__init__"), "__init__", "BadTrain.__init__", defArgs (inClass (top 7) 0), defBody (inClass (top 7) 0), defScope (inClass (top 7) 0), [], []⟩
def d31 : He.DefD := ⟨("Large", some "__init__"), "__init__", "Large.__init__", defArgs (inClass (top 9) 0), defBody (inClass (top 9) 0), defScope (inClass (top 9) 0), [], []⟩
def d32 : He.DefD := ⟨("NoEvent", some "__init__"), "__init__", "NoEvent.__init__", defArgs (inClass (top 8) 0), defBody (inClass (top 8) 0), defScope (inClass (top 8) 0), [], []⟩
def d33 : He.DefD := ⟨("NoInput", some "__init__"), "__init__", "NoInput.__init__", defArgs (inClass (top 15) 0), defBody (inClass (top 15) 0), defScope (inClass (top 15) 0), [], []⟩
def d34 : He.DefD := ⟨("NotLater", some "__init__"), "__init__", "NotLater.__init__", defArgs (inClass (top 17) 0), defBody (inClass (top 17) 0), defScope (inClass (top 17) 0), [], []⟩
def fn : List He.DefD := [d0, d1, d2, d3, d4, d5, d6, d7, d8, d9, d10, d11, d12, d13, d14, d15, d16, d17, d18, d19, d20, d21, d22, d23, d24, d25, d26, d27, d28, d29, d30, d31, d32, d33, d34]
def fa : List He.Fa := [.free "ValueError", .free "abs", .free "enumerate", .free "int", .free "isinstance", .free "len", .free "range", .glo "BadBus", .glo "BadForm", .glo "BadMember", .glo "BadNumbers", .glo "BadRow", .glo "BadStream", .glo "BadText", .glo "BadTrain", .glo "Large", .glo "Mixed", .glo "NoBack", .glo "NoEvent", .glo "NoInput", .glo "NoName", .glo "NoQuestion", .glo "NotKnown", .glo "NotLater", .glo "OtherInputs", .glo "QuietError", .glo "Untrue", .glo "_law_state", .glo "_law_digit", .glo "_law_classes", .glo "_law_field", .glo "law", .meth "BadStream" "told", .meth "BadMember" "told", .meth "BadRow" "told", .meth "BadTrain" "told", .meth "NoEvent" "told", .meth "Large" "told", .meth "BadNumbers" "told", .meth "BadBus" "told", .meth "NoInput" "told", .meth "NotLater" "told", .meth "BadText" "told", .meth "BadForm" "told", .meth "Mixed" "told", .meth "NoQuestion" "told", .meth "Untrue" "told", .meth "NotKnown" "told", .meth "OtherInputs" "told", .meth "NoBack" "told", .meth "NoName" "told"]
def ex (K : PySem.W.Frag) : Bool := ctB K tb ks && (xisB K xv xvk && (xmB K xv [] xvf && (xfB K (He.ga K "BadBus") && (xfB K (He.ga K "BadForm") && (xfB K (He.ga K "BadMember") && (xfB K (He.ga K "BadNumbers") && (xfB K (He.ga K "BadRow") && (xfB K (He.ga K "BadStream") && (xfB K (He.ga K "BadText") && (xfB K (He.ga K "BadTrain") && (xfB K (He.ga K "Large") && (xfB K (He.ga K "Mixed") && (xfB K (He.ga K "NoBack") && (xfB K (He.ga K "NoEvent") && (xfB K (He.ga K "NoInput") && (xfB K (He.ga K "NoName") && (xfB K (He.ga K "NoQuestion") && (xfB K (He.ga K "NotKnown") && (xfB K (He.ga K "NotLater") && (xfB K (He.ga K "OtherInputs") && (xfB K (He.ga K "Untrue") && (xcB K "Large" "count" && (xcB K "BadBus" "index" && (xcB K "BadRow" "index" && (xcB K "NoInput" "name" && (xcB K "NoEvent" "number" && (xcB K "BadNumbers" "place" && (xcB K "BadStream" "place" && (xcB K "BadText" "place" && (xcB K "NotLater" "time" && (xcB K "BadMember" "what" && (xcB K "BadTrain" "what" && (x0B K "BadForm" && (x0B K "Mixed" && (x0B K "NoBack" && (x0B K "NoName" && (x0B K "NoQuestion" && (x0B K "NotKnown" && (x0B K "OtherInputs" && (x0B K "Untrue"))))))))))))))))))))))))))))))))))))))))
def names0 : List PySem.Str := ["QuietError", "BadStream", "BadMember", "BadRow", "BadForm", "Mixed", "BadTrain", "NoEvent", "Large", "NoQuestion", "Untrue", "NotKnown", "BadNumbers", "BadBus", "NoInput", "OtherInputs", "NotLater", "NoBack", "BadText", "NoName", "_law_cell_at", "_law_state", "_law_digit", "_law_field"]
def names1 : List PySem.Str := ["_law_classes"]
def names : List PySem.Str := names0 ++ names1
def adr : List PySem.Addr := [3, 6, 4, 31, 58, 84, 110, 129, 148, 174, 200, 226, 245, 264, 283, 309, 335, 361, 380, 406, 425, 451, 470, 479, 486, 493, 500, 507, 512, 0, 30, 57, 83, 109, 128, 147, 173, 199, 225, 244, 263, 282, 308, 334, 360, 379, 405, 424, 450, 469, 478, 485, 492, 499, 506, 511, 28, 29, 32, 48, 55, 56, 74, 81, 82, 100, 107, 108, 126, 127, 145, 146, 164, 171, 172, 190, 197, 198, 216, 223, 224, 242, 243, 261, 262, 280, 281, 299, 306, 307, 325, 332, 333, 351, 358, 359, 377, 378, 396, 403, 404, 422, 423, 441, 448, 449, 467, 468, 473, 474, 475, 476, 477, 480, 481, 482, 483, 484, 487, 488, 489, 490, 491, 494, 495, 496, 497, 498, 501, 502, 503, 504, 505, 508, 509, 510, 27, 47, 54, 73, 80, 99, 106, 125, 144, 163, 170, 189, 196, 215, 222, 241, 260, 279, 298, 305, 324, 331, 350, 357, 376, 395, 402, 421, 440, 447, 466]
abbrev R : PySem.W.OpenRow := PySem.W.OpenLaw.row PySem.Challenge.rw_quietrows_k01_errors
abbrev hk : PySem.W.Hook := hookL adr fa fn ex
def ob (s : PySem.W.SharedT) : AlX := obsL adr fa fn ex (HandSHeadRun.getT s)
theorem ob_eq (s : PySem.W.SharedT) : ob s = hk.obs s.abs := obsL_eq (HandSHeadRun.getT_eq s)

set_option maxHeartbeats 0 in
theorem run (w : World) : HandSHeadRun.RunEq R (PySem.W.view R.prog [27]) hk ob 8000 names w := by
  intro os
  kernel_rfl
end Law
namespace TL
open PySem PySem.Spec L2

inductive D where
  | non | bl (b : Bool) | int (i : Int) | str (x : Str) | ty (n : String)
  | lst (ds : List D) | tup (ds : List D) | ins (c : Str) (ns : List Str) (ds : List D) | dic (ks : List Key) (ds : List D) | dit (ks : List (List Key)) (ds : List D) | tpo (ds : List D) | tpn (ds : List D)
  | exc (a : Addr) (dd : Option Addr) (ns : List Str) (ds : List D)
  | exv (c : Str) (ns : List Str) (ds : List D)
def ExvO (cls : Value) (a : Addr) (dd : Option Addr) : HO := .ext fun h => ∃ (oe : Obj) (vs : Array Value), h.get? a = some oe ∧ Zc cls dd oe ∧ oe.data = .fields vs

mutual
def Rep (K : PySem.W.Frag) (G : Hp) : D → V → Prop
  | .non, v => v = .non
  | .bl b, v => v = .bl b
  | .int i, v => v = .int i
  | .str x, v => v = .str x
  | .ty n, v => v = .ty n
  | .lst ds, v => ∃ a vs, v = .ref a ∧ SqL K G a vs ∧ Reps K G ds vs
  | .tup ds, v => ∃ a vs, v = .ref a ∧ SqT K G a vs ∧ Reps K G ds vs
  | .ins c ns ds, v => ∃ a dx vs, v = .ref a ∧ G a = some (.ins (He.ga K c) dx (ns.zip vs)) ∧ ns.length = vs.length ∧ Reps K G ds vs
  | .dic ks ds, v => ∃ a vs, v = .ref a ∧ G a = some (.dK (ks.zip vs)) ∧ ks.length = vs.length ∧ Reps K G ds vs
  | .dit ks ds, v => ∃ a vs, v = .ref a ∧ G a = some (.dT (ks.zip vs)) ∧ ks.length = vs.length ∧ Reps K G ds vs
  | .tpo ds, v => ∃ a vs, v = .ref a ∧ G a = some (.tup vs) ∧ Reps K G ds vs
  | .tpn ds, v => ∃ a vs, v = .ref a ∧ (∃ o : Obj, o.cls = .type "tuple" ∧ o.dict = none ∧ G a = some (.frz o (.tup vs))) ∧ Reps K G ds vs
  | .exv c ns ds, v => ∃ a dd vs, v = .ref a ∧ G a = some (ExvO (.ref (He.ga K c)) a dd) ∧ ((dd = none ∧ ns = []) ∨ ∃ p, dd = some p ∧ G p = some (.xd (ns.zip vs))) ∧ ns.length = vs.length ∧ Reps K G ds vs
  | .exc a dd ns ds, v => v = .ref a ∧ ((dd = none ∧ ns = [] ∧ ds = []) ∨ ∃ p vs, dd = some p ∧ G p = some (.xd (ns.zip vs)) ∧ ns.length = vs.length ∧ Reps K G ds vs)
def Reps (K : PySem.W.Frag) (G : Hp) : List D → List V → Prop
  | [], vs => vs = []
  | d :: ds, vs => ∃ v r, vs = v :: r ∧ Rep K G d v ∧ Reps K G ds r
end

theorem sameT {K : PySem.W.Frag} {H H' : Hp} {a : Addr} {xs : List V} (e : Same H H') (h : SqT K H a xs) : SqT K H' a xs := by
  rcases h with (h | ⟨o, h⟩) | h
  · exact .inl (.inl (e _ _ h))
  · exact .inl (.inr ⟨o, e _ _ h⟩)
  · exact .inr h

mutual
theorem Rep.mono {K : PySem.W.Frag} {G G' : Hp} (s : Same G G') : ∀ (d : D) (v : V), Rep K G d v → Rep K G' d v
  | .non, v, h => h
  | .bl b, v, h => h
  | .int i, v, h => h
  | .str x, v, h => h
  | .ty n, v, h => h
  | .lst ds, v, h => by
    unfold Rep at h ⊢
    obtain ⟨a, vs, e, q, r⟩ := h
    exact ⟨a, vs, e, s.seq q, Reps.mono s ds vs r⟩
  | .tup ds, v, h => by
    unfold Rep at h ⊢
    obtain ⟨a, vs, e, q, r⟩ := h
    exact ⟨a, vs, e, sameT s q, Reps.mono s ds vs r⟩
  | .ins c ns ds, v, h => by
    unfold Rep at h ⊢
    obtain ⟨a, dx, vs, e, q, l, r⟩ := h
    exact ⟨a, dx, vs, e, s _ _ q, l, Reps.mono s ds vs r⟩
  | .dic ks ds, v, h => by
    unfold Rep at h ⊢
    obtain ⟨a, vs, e, q, l, r⟩ := h
    exact ⟨a, vs, e, s _ _ q, l, Reps.mono s ds vs r⟩
  | .dit ks ds, v, h => by
    unfold Rep at h ⊢
    obtain ⟨a, vs, e, q, l, r⟩ := h
    exact ⟨a, vs, e, s _ _ q, l, Reps.mono s ds vs r⟩
  | .tpo ds, v, h => by
    unfold Rep at h ⊢
    obtain ⟨a, vs, e, q, r⟩ := h
    exact ⟨a, vs, e, s _ _ q, Reps.mono s ds vs r⟩
  | .tpn ds, v, h => by
    unfold Rep at h ⊢
    obtain ⟨a, vs, e, ⟨o, q1, q2, q⟩, r⟩ := h
    exact ⟨a, vs, e, ⟨o, q1, q2, s _ _ q⟩, Reps.mono s ds vs r⟩
  | .exv c ns ds, v, h => by
    unfold Rep at h ⊢
    obtain ⟨a, dd, vs, e, q, q2, l, r⟩ := h
    refine ⟨a, dd, vs, e, s _ _ q, ?_, l, Reps.mono s ds vs r⟩
    rcases q2 with q2 | ⟨p, e2, q2⟩
    · exact .inl q2
    · exact .inr ⟨p, e2, s _ _ q2⟩
  | .exc a dd ns ds, v, h => by
    unfold Rep at h ⊢
    obtain ⟨e, h | ⟨p, vs, e2, q, l, r⟩⟩ := h
    · exact ⟨e, .inl h⟩
    · exact ⟨e, .inr ⟨p, vs, e2, s _ _ q, l, Reps.mono s ds vs r⟩⟩
theorem Reps.mono {K : PySem.W.Frag} {G G' : Hp} (s : Same G G') : ∀ (ds : List D) (vs : List V), Reps K G ds vs → Reps K G' ds vs
  | [], vs, h => by
    unfold Reps at h ⊢
    exact h
  | d :: ds, vs, h => by
    unfold Reps at h ⊢
    obtain ⟨v, r, e, q, z⟩ := h
    exact ⟨v, r, e, Rep.mono s d v q, Reps.mono s ds r z⟩
end
section
variable {K : PySem.W.Frag} {G G' : Hp}
theorem Reps.nil : Reps K G [] [] := by unfold Reps; rfl
theorem Reps.cons {d : D} {v : V} {ds : List D} {vs : List V} (h : Rep K G d v) (t : Reps K G ds vs) : Reps K G (d :: ds) (v :: vs) := by
  unfold Reps
  exact ⟨v, vs, rfl, h, t⟩
theorem Reps.length : ∀ {ds : List D} {vs : List V}, Reps K G ds vs → vs.length = ds.length
  | [], vs, h => by
    unfold Reps at h
    rw [h]
    rfl
  | d :: ds, vs, h => by
    unfold Reps at h
    obtain ⟨v, r, e, _, z⟩ := h
    rw [e, List.length_cons, List.length_cons, Reps.length z]
theorem Reps.get : ∀ {ds : List D} {vs : List V} {i : Nat} {d : D}, Reps K G ds vs → ds[i]? = some d → ∃ v, vs[i]? = some v ∧ Rep K G d v
  | [], vs, i, d, h, e => by simp at e
  | d0 :: ds, vs, i, d, h, e => by
    unfold Reps at h
    obtain ⟨v, r, rfl, q, z⟩ := h
    cases i with
    | zero =>
      have e' : d0 = d := by simpa using e
      rw [← e']
      exact ⟨v, rfl, q⟩
    | succ i => exact Reps.get (i := i) z (by simpa using e)
theorem Reps.append : ∀ {ds es : List D} {vs us : List V}, Reps K G ds vs → Reps K G es us → Reps K G (ds ++ es) (vs ++ us)
  | [], es, vs, us, h, t => by
    unfold Reps at h
    rw [h]
    exact t
  | d :: ds, es, vs, us, h, t => by
    unfold Reps at h
    obtain ⟨v, r, rfl, q, z⟩ := h
    exact Reps.cons q (Reps.append z t)
theorem Reps.take : ∀ {ds : List D} {vs : List V} (n : Nat), Reps K G ds vs → Reps K G (ds.take n) (vs.take n)
  | _, _, 0, _ => by
    rw [List.take_zero, List.take_zero]
    exact Reps.nil
  | [], vs, n + 1, h => by
    unfold Reps at h
    rw [h]
    exact Reps.nil
  | d :: ds, vs, n + 1, h => by
    unfold Reps at h
    obtain ⟨v, r, rfl, q, z⟩ := h
    exact Reps.cons q (Reps.take n z)
theorem Reps.drop : ∀ {ds : List D} {vs : List V} (n : Nat), Reps K G ds vs → Reps K G (ds.drop n) (vs.drop n)
  | _, _, 0, h => h
  | [], vs, n + 1, h => by
    unfold Reps at h
    rw [h]
    exact Reps.nil
  | d :: ds, vs, n + 1, h => by
    unfold Reps at h
    obtain ⟨v, r, rfl, q, z⟩ := h
    exact Reps.drop n z
theorem Reps.set : ∀ {ds : List D} {vs : List V} {d : D} {v : V} (n : Nat), Reps K G ds vs → Rep K G d v → Reps K G (ds.set n d) (vs.set n v)
  | [], vs, d, v, n, h, _ => by
    unfold Reps at h
    rw [h]
    exact Reps.nil
  | d0 :: ds, vs, d, v, 0, h, q => by
    unfold Reps at h
    obtain ⟨v0, r, rfl, _, z⟩ := h
    exact Reps.cons q z
  | d0 :: ds, vs, d, v, n + 1, h, q => by
    unfold Reps at h
    obtain ⟨v0, r, rfl, q0, z⟩ := h
    exact Reps.cons q0 (Reps.set n z q)
theorem Reps.of_ints : ∀ {ns : List Int}, Reps K G (ns.map D.int) (ns.map V.int)
  | [] => Reps.nil
  | n :: ns => Reps.cons rfl Reps.of_ints
end

inductive Sl where
  | no | im (d : D) | ow (b : Bool) (d : D)
abbrev Ev := List Sl
def RepO (K : PySem.W.Frag) (G : Hp) : D → HO → Prop
  | .lst ds, o => ∃ vs, o = .lst vs ∧ Reps K G ds vs
  | .ins c ns ds, o => ∃ dx vs, o = .ins (He.ga K c) dx (ns.zip vs) ∧ ns.length = vs.length ∧ Reps K G ds vs
  | .dic ks ds, o => ∃ vs, o = .dK (ks.zip vs) ∧ ks.length = vs.length ∧ Reps K G ds vs
  | .dit ks ds, o => ∃ vs, o = .dT (ks.zip vs) ∧ ks.length = vs.length ∧ Reps K G ds vs
  | _, _ => False
theorem RepO.mono {K : PySem.W.Frag} {G G' : Hp} (s : Same G G') : ∀ {d : D} {o : HO}, RepO K G d o → RepO K G' d o
  | .lst ds, o, h => let ⟨vs, e, r⟩ := h; ⟨vs, e, Reps.mono s _ _ r⟩
  | .ins c ns ds, o, h => let ⟨dx, vs, e, l, r⟩ := h; ⟨dx, vs, e, l, Reps.mono s _ _ r⟩
  | .dic ks ds, o, h => let ⟨vs, e, l, r⟩ := h; ⟨vs, e, l, Reps.mono s _ _ r⟩
  | .dit ks ds, o, h => let ⟨vs, e, l, r⟩ := h; ⟨vs, e, l, Reps.mono s _ _ r⟩
  | .tpo _, _, h => h.elim
  | .tpn _, _, h => h.elim
  | .non, _, h => h.elim
  | .bl _, _, h => h.elim
  | .int _, _, h => h.elim
  | .str _, _, h => h.elim
  | .ty _, _, h => h.elim
  | .tup _, _, h => h.elim
  | .exc _ _ _ _, _, h => h.elim
  | .exv _ _ _, _, h => h.elim
theorem RepO.rep {K : PySem.W.Frag} {G : Hp} {p : Addr} {o : HO} (hp : G p = some o) : ∀ {d : D}, RepO K G d o → Rep K G d (.ref p)
  | .lst ds, h => by
    obtain ⟨vs, rfl, r⟩ := h
    unfold Rep
    exact ⟨p, vs, rfl, SqL.of hp, r⟩
  | .ins c ns ds, h => by
    obtain ⟨dx, vs, rfl, l, r⟩ := h
    unfold Rep
    exact ⟨p, dx, vs, rfl, hp, l, r⟩
  | .dic ks ds, h => by
    obtain ⟨vs, rfl, l, r⟩ := h
    unfold Rep
    exact ⟨p, vs, rfl, hp, l, r⟩
  | .dit ks ds, h => by
    obtain ⟨vs, rfl, l, r⟩ := h
    unfold Rep
    exact ⟨p, vs, rfl, hp, l, r⟩
  | .tpo _, h => h.elim
  | .tpn _, h => h.elim
  | .non, h => h.elim
  | .bl _, h => h.elim
  | .int _, h => h.elim
  | .str _, h => h.elim
  | .ty _, h => h.elim
  | .tup _, h => h.elim
  | .exc _ _ _ _, h => h.elim
  | .exv _ _ _, h => h.elim
def RepT (K : PySem.W.Frag) (G H : Hp) : D → V → Prop
  | .lst ds, v => ∃ a vs, v = .ref a ∧ SqL K H a vs ∧ Reps K G ds vs
  | .tup ds, v => ∃ a vs, v = .ref a ∧ SqT K H a vs ∧ Reps K G ds vs ∧ SqT K G a vs
  | .ins c ns ds, v => ∃ a dx vs, v = .ref a ∧ H a = some (.ins (He.ga K c) dx (ns.zip vs)) ∧ ns.length = vs.length ∧ Reps K G ds vs
  | .dic ks ds, v => ∃ a vs, v = .ref a ∧ H a = some (.dK (ks.zip vs)) ∧ ks.length = vs.length ∧ Reps K G ds vs
  | .dit ks ds, v => ∃ a vs, v = .ref a ∧ H a = some (.dT (ks.zip vs)) ∧ ks.length = vs.length ∧ Reps K G ds vs
  | .tpo ds, v => ∃ a vs, v = .ref a ∧ H a = some (.tup vs) ∧ Reps K G ds vs
  | .tpn ds, v => ∃ a vs, v = .ref a ∧ (∃ o : Obj, o.cls = .type "tuple" ∧ o.dict = none ∧ H a = some (.frz o (.tup vs))) ∧ Reps K G ds vs
  | .non, v => v = .non
  | .bl b, v => v = .bl b
  | .int i, v => v = .int i
  | .str x, v => v = .str x
  | .ty n, v => v = .ty n
  | .exc a dd ns ds, v => Rep K G (.exc a dd ns ds) v
  | .exv c ns ds, v => Rep K G (.exv c ns ds) v
theorem Rep.top {K : PySem.W.Frag} {G H : Hp} (s : Same G H) : ∀ {d : D} {v : V}, Rep K G d v → RepT K G H d v
  | .lst ds, v, h => by
    unfold Rep at h
    obtain ⟨a, vs, e, q, r⟩ := h
    exact ⟨a, vs, e, s.seq q, r⟩
  | .tup ds, v, h => by
    unfold Rep at h
    obtain ⟨a, vs, e, q, r⟩ := h
    exact ⟨a, vs, e, sameT s q, r, q⟩
  | .ins c ns ds, v, h => by
    unfold Rep at h
    obtain ⟨a, dx, vs, e, q, l, r⟩ := h
    exact ⟨a, dx, vs, e, s _ _ q, l, r⟩
  | .dic ks ds, v, h => by
    unfold Rep at h
    obtain ⟨a, vs, e, q, l, r⟩ := h
    exact ⟨a, vs, e, s _ _ q, l, r⟩
  | .dit ks ds, v, h => by
    unfold Rep at h
    obtain ⟨a, vs, e, q, l, r⟩ := h
    exact ⟨a, vs, e, s _ _ q, l, r⟩
  | .tpo ds, v, h => by
    unfold Rep at h
    obtain ⟨a, vs, e, q, r⟩ := h
    exact ⟨a, vs, e, s _ _ q, r⟩
  | .tpn ds, v, h => by
    unfold Rep at h
    obtain ⟨a, vs, e, ⟨o, q1, q2, q⟩, r⟩ := h
    exact ⟨a, vs, e, ⟨o, q1, q2, s _ _ q⟩, r⟩
  | .non, _, h => h
  | .bl _, _, h => h
  | .int _, _, h => h
  | .str _, _, h => h
  | .ty _, _, h => h
  | .exc _ _ _ _, _, h => h
  | .exv _ _ _, _, h => h
theorem RepO.top {K : PySem.W.Frag} {G H : Hp} {p : Addr} {o : HO} (hp : H p = some o) : ∀ {d : D}, RepO K G d o → RepT K G H d (.ref p)
  | .lst ds, h => by
    obtain ⟨vs, rfl, r⟩ := h
    exact ⟨p, vs, rfl, SqL.of hp, r⟩
  | .ins c ns ds, h => by
    obtain ⟨dx, vs, rfl, l, r⟩ := h
    exact ⟨p, dx, vs, rfl, hp, l, r⟩
  | .dic ks ds, h => by
    obtain ⟨vs, rfl, l, r⟩ := h
    exact ⟨p, vs, rfl, hp, l, r⟩
  | .dit ks ds, h => by
    obtain ⟨vs, rfl, l, r⟩ := h
    exact ⟨p, vs, rfl, hp, l, r⟩
  | .tpo _, h => h.elim
  | .tpn _, h => h.elim
  | .non, h => h.elim
  | .bl _, h => h.elim
  | .int _, h => h.elim
  | .str _, h => h.elim
  | .ty _, h => h.elim
  | .tup _, h => h.elim
  | .exc _ _ _ _, h => h.elim
  | .exv _ _ _, h => h.elim

theorem RepO.nt {K : PySem.W.Frag} {G : Hp} {o : HO} : ∀ {d : D}, RepO K G d o → ¬ ∃ vs, o = .tup vs
  | .lst ds, h, ⟨vs, e⟩ => by
    obtain ⟨ws, rfl, _⟩ := h
    cases e
  | .ins c ns ds, h, ⟨vs, e⟩ => by
    obtain ⟨dx, ws, rfl, _⟩ := h
    cases e
  | .dic ks ds, h, ⟨vs, e⟩ => by
    obtain ⟨ws, rfl, _⟩ := h
    cases e
  | .dit ks ds, h, ⟨vs, e⟩ => by
    obtain ⟨ws, rfl, _⟩ := h
    cases e
  | .tpo _, h, _ => h.elim
  | .tpn _, h, _ => h.elim
  | .non, h, _ => h.elim
  | .bl _, h, _ => h.elim
  | .int _, h, _ => h.elim
  | .str _, h, _ => h.elim
  | .ty _, h, _ => h.elim
  | .tup _, h, _ => h.elim
  | .exc _ _ _ _, h, _ => h.elim
  | .exv _ _ _, h, _ => h.elim
structure Fx where
  F : Hp
  R : Nat → Option Addr
structure ER (K : PySem.W.Frag) (x : Fx) (G H : Hp) (σ : St) (env : Ev) : Prop where
  len : σ.length = env.length
  sG : Same G H
  sF : Same x.F H
  dj : ∀ a o, x.F a = some o → G a = none ∨ ∃ vs, o = .tup vs
  im : ∀ (i : Nat) d, env[i]? = some (.im d) → ∃ v, σ[i]? = some (some v) ∧ Rep K G d v
  ow : ∀ (i : Nat) b d, env[i]? = some (.ow b d) → ∃ p o, σ[i]? = some (some (.ref p)) ∧ H p = some o ∧ RepO K G d o ∧ x.F p = none ∧ G p = none
  nd : ∀ (i j : Nat) b c d e p, env[i]? = some (.ow b d) → env[j]? = some (.ow c e) → σ[i]? = some (some (.ref p)) → σ[j]? = some (some (.ref p)) → i = j
  rt : ∀ (i : Nat) p, x.R i = some p → σ[i]? = some (some (.ref p)) ∧ ∃ d, env[i]? = some (.ow true d)
structure Step (G H G' H' : Hp) : Prop where
  g : Same G G'
  h : Same H H'
  gh : Same G' H'
  new : ∀ a o, G' a = some o → G a = none → H a = none
theorem Step.refl {G H : Hp} (s : Same G H) : Step G H G H := ⟨.refl _, .refl _, s, fun a o e q => by rw [q] at e; cases e⟩
theorem same_new {H : Hp} {p : Addr} {o : HO} (h : H p = none) : Same H (upd H p o) := fun b x e => by
  rw [upd_ne (ne_of_none e h)]
  exact e
theorem Step.one {G H : Hp} (s : Same G H) {p : Addr} (o : HO) (hp : H p = none) : Step G H (upd G p o) (upd H p o) where
  g := same_new (s.free hp)
  h := same_new hp
  gh := fun a u e => by
    by_cases hb : a = p
    · subst hb
      rw [upd_same] at e ⊢
      exact e
    · rw [upd_ne hb] at e ⊢
      exact s a u e
  new := fun a u e q => by
    by_cases hb : a = p
    · rw [hb]
      exact hp
    · rw [upd_ne hb, q] at e
      cases e
theorem Step.junk {G H : Hp} (s : Same G H) {p : Addr} (o : HO) (hp : H p = none) : Step G H G (upd H p o) where
  g := .refl _
  h := same_new hp
  gh := s.trans (same_new hp)
  new := fun a u e q => by
    rw [q] at e
    cases e
theorem Step.trans {G H G1 H1 G2 H2 : Hp} (a : Step G H G1 H1) (b : Step G1 H1 G2 H2) : Step G H G2 H2 where
  g := a.g.trans b.g
  h := a.h.trans b.h
  gh := b.gh
  new := fun c o e q => by
    cases z : G1 c with
    | some u => exact a.new c u z q
    | none => exact a.h.free (b.new c o e z)
section
variable {K : PySem.W.Frag} {x : Fx} {G H G' H' : Hp} {σ : St} {env : Ev}
theorem ER.step (r : ER K x G H σ env) (s : Step G H G' H') : ER K x G' H' σ env where
  len := r.len
  sG := s.gh
  sF := r.sF.trans s.h
  dj := fun a o e => by
    rcases r.dj a o e with g | g
    · refine .inl ?_
      cases z : G' a with
      | none => rfl
      | some u =>
        have q := s.new a u z g
        rw [r.sF a o e] at q
        cases q
    · exact .inr g
  im := fun i d e => let ⟨v, e1, q⟩ := r.im i d e; ⟨v, e1, Rep.mono s.g _ _ q⟩
  ow := fun i b d e => by
    obtain ⟨p, o, e1, e2, q, f, g⟩ := r.ow i b d e
    refine ⟨p, o, e1, s.h _ _ e2, RepO.mono s.g q, f, ?_⟩
    cases z : G' p with
    | none => rfl
    | some u =>
      have q := s.new p u z g
      rw [e2] at q
      cases q
  nd := r.nd
  rt := r.rt
theorem ER.lt (r : ER K x G H σ env) {i : Nat} {s : Sl} (e : env[i]? = some s) : i < σ.length := by
  rw [r.len]
  exact (List.getElem?_eq_some_iff.mp e).1
theorem ER.setIm (r : ER K x G H σ env) {i : Nat} {d : D} {v : V} (q : Rep K G d v) (hR : x.R i = none) : ER K x G H (σ.set i (some v)) (env.set i (.im d)) where
  len := by rw [List.length_set, List.length_set, r.len]
  sG := r.sG
  sF := r.sF
  dj := r.dj
  im := fun j e h => by
    by_cases hj : j = i
    · subst hj
      have hl : j < env.length := by
        have := (List.getElem?_eq_some_iff.mp h).1
        rw [List.length_set] at this
        exact this
      rw [List.getElem?_set_self hl] at h
      rw [List.getElem?_set_self (by rw [r.len]; exact hl)]
      cases h
      exact ⟨v, rfl, q⟩
    · rw [List.getElem?_set_ne (Ne.symm hj)] at h ⊢
      exact r.im j e h
  ow := fun j b e h => by
    by_cases hj : j = i
    · subst hj
      have hl : j < env.length := by
        have := (List.getElem?_eq_some_iff.mp h).1
        rw [List.length_set] at this
        exact this
      rw [List.getElem?_set_self hl] at h
      cases h
    · rw [List.getElem?_set_ne (Ne.symm hj)] at h ⊢
      exact r.ow j b e h
  nd := fun j k b1 b2 d1 d2 p h1 h2 h3 h4 => by
    have out : ∀ {j : Nat} {b : Bool} {d1 : D}, (env.set i (.im d))[j]? = some (.ow b d1) → j ≠ i := fun {j b d1} h z => by
      subst z
      have hl : j < env.length := by
        have := (List.getElem?_eq_some_iff.mp h).1
        rw [List.length_set] at this
        exact this
      rw [List.getElem?_set_self hl] at h
      cases h
    have n1 := out h1
    have n2 := out h2
    rw [List.getElem?_set_ne (Ne.symm n1)] at h1 h3
    rw [List.getElem?_set_ne (Ne.symm n2)] at h2 h4
    exact r.nd j k b1 b2 d1 d2 p h1 h2 h3 h4
  rt := fun j p h => by
    have hj : j ≠ i := fun z => by
      rw [z, hR] at h
      cases h
    obtain ⟨h1, d', h2⟩ := r.rt j p h
    rw [List.getElem?_set_ne (Ne.symm hj), List.getElem?_set_ne (Ne.symm hj)]
    exact ⟨h1, d', h2⟩
theorem ER.setOw (r : ER K x G H σ env) {i : Nat} {d : D} {p : Addr} {o : HO} (hp : H p = some o) (q : RepO K G d o) (hF : x.F p = none) (hG : G p = none) (hR : x.R i = none)
    (ho : ∀ (j : Nat) b d', env[j]? = some (.ow b d') → σ[j]? ≠ some (some (.ref p))) : ER K x G H (σ.set i (some (.ref p))) (env.set i (.ow false d)) where
  len := by rw [List.length_set, List.length_set, r.len]
  sG := r.sG
  sF := r.sF
  dj := r.dj
  im := fun j e h => by
    by_cases hj : j = i
    · subst hj
      have hl : j < env.length := by
        have := (List.getElem?_eq_some_iff.mp h).1
        rw [List.length_set] at this
        exact this
      rw [List.getElem?_set_self hl] at h
      cases h
    · rw [List.getElem?_set_ne (Ne.symm hj)] at h ⊢
      exact r.im j e h
  ow := fun j b e h => by
    by_cases hj : j = i
    · subst hj
      have hl : j < env.length := by
        have := (List.getElem?_eq_some_iff.mp h).1
        rw [List.length_set] at this
        exact this
      rw [List.getElem?_set_self hl] at h
      rw [List.getElem?_set_self (by rw [r.len]; exact hl)]
      cases h
      exact ⟨p, o, rfl, hp, q, hF, hG⟩
    · rw [List.getElem?_set_ne (Ne.symm hj)] at h ⊢
      exact r.ow j b e h
  nd := fun j k b1 b2 d1 d2 p' h1 h2 h3 h4 => by
    have at_ : ∀ {j : Nat} {b : Bool} {d1 : D}, (env.set i (.ow false d))[j]? = some (.ow b d1) → (σ.set i (some (.ref p)))[j]? = some (some (.ref p')) → (j = i ∧ p' = p) ∨ (j ≠ i ∧ env[j]? = some (.ow b d1) ∧ σ[j]? = some (some (.ref p'))) := fun {j b d1} h h' => by
      by_cases hj : j = i
      · subst hj
        have hl : j < env.length := by
          have := (List.getElem?_eq_some_iff.mp h).1
          rw [List.length_set] at this
          exact this
        rw [List.getElem?_set_self (by rw [r.len]; exact hl)] at h'
        cases h'
        exact .inl ⟨rfl, rfl⟩
      · rw [List.getElem?_set_ne (Ne.symm hj)] at h h'
        exact .inr ⟨hj, h, h'⟩
    rcases at_ h1 h3 with ⟨e1, f1⟩ | ⟨e1, f1, g1⟩
    · rcases at_ h2 h4 with ⟨e2, f2⟩ | ⟨e2, f2, g2⟩
      · rw [e1, e2]
      · rw [f1] at g2
        exact absurd g2 (ho k b2 d2 f2)
    · rcases at_ h2 h4 with ⟨e2, f2⟩ | ⟨e2, f2, g2⟩
      · rw [f2] at g1
        exact absurd g1 (ho j b1 d1 f1)
      · exact r.nd j k b1 b2 d1 d2 p' f1 f2 g1 g2
  rt := fun j p' h => by
    have hj : j ≠ i := fun z => by
      rw [z, hR] at h
      cases h
    obtain ⟨h1, d', h2⟩ := r.rt j p' h
    rw [List.getElem?_set_ne (Ne.symm hj), List.getElem?_set_ne (Ne.symm hj)]
    exact ⟨h1, d', h2⟩
theorem ER.write (r : ER K x G H σ env) {i : Nat} {rb : Bool} {d d' : D} {p : Addr} {o : HO} (e : env[i]? = some (.ow rb d)) (es : σ[i]? = some (some (.ref p))) (q : RepO K G d' o) : ER K x G (upd H p o) σ (env.set i (.ow rb d')) := by
  obtain ⟨p', o', e1, e2, q0, f, g⟩ := r.ow i rb d e
  have ep : p' = p := by
    rw [es] at e1
    cases e1
    rfl
  subst ep
  have hl : i < env.length := (List.getElem?_eq_some_iff.mp e).1
  have kp : ∀ {b : Addr} {u : HO}, b ≠ p' → H b = some u → upd H p' o b = some u := fun {b u} hb h => by
    rw [upd_ne hb]
    exact h
  refine ⟨by rw [List.length_set, r.len], fun b u h => kp (fun z => ?_) (r.sG b u h), fun b u h => kp (fun z => ?_) (r.sF b u h), r.dj, fun j e' h => ?_, fun j b e' h => ?_, fun j k b1 b2 d1 d2 p1 h1 h2 h3 h4 => ?_, fun j p1 h => ?_⟩
  · rw [z, g] at h
    cases h
  · rw [z, f] at h
    cases h
  · by_cases hj : j = i
    · subst hj
      rw [List.getElem?_set_self hl] at h
      cases h
    · rw [List.getElem?_set_ne (Ne.symm hj)] at h
      exact r.im j e' h
  · by_cases hj : j = i
    · subst hj
      rw [List.getElem?_set_self hl] at h
      cases h
      exact ⟨p', o, es, upd_same, q, f, g⟩
    · rw [List.getElem?_set_ne (Ne.symm hj)] at h
      obtain ⟨p2, o2, z1, z2, z3, z4, z5⟩ := r.ow j b e' h
      refine ⟨p2, o2, z1, kp (fun z => ?_) z2, z3, z4, z5⟩
      subst z
      exact hj (r.nd j i b rb e' d p2 h e z1 es)
  · have at_ : ∀ {j : Nat} {b : Bool} {d1 : D}, (env.set i (.ow rb d'))[j]? = some (.ow b d1) → ∃ b2 d2, env[j]? = some (.ow b2 d2) := fun {j b d1} h => by
      by_cases hj : j = i
      · subst hj
        exact ⟨rb, d, e⟩
      · rw [List.getElem?_set_ne (Ne.symm hj)] at h
        exact ⟨_, _, h⟩
    obtain ⟨_, _, h1⟩ := at_ h1
    obtain ⟨_, _, h2⟩ := at_ h2
    exact r.nd j k _ _ _ _ p1 h1 h2 h3 h4
  · obtain ⟨h1, d2, h2⟩ := r.rt j p1 h
    refine ⟨h1, ?_⟩
    by_cases hj : j = i
    · subst hj
      rw [List.getElem?_set_self hl]
      rw [e] at h2
      cases h2
      exact ⟨_, rfl⟩
    · rw [List.getElem?_set_ne (Ne.symm hj)]
      exact ⟨_, h2⟩
theorem ER.noR (r : ER K x G H σ env) {i : Nat} (h : ∀ d, env[i]? ≠ some (.ow true d)) : x.R i = none := by
  cases z : x.R i with
  | none => rfl
  | some p =>
    obtain ⟨_, d, e⟩ := r.rt i p z
    exact absurd e (h d)
end
end TL

namespace TL
open PySem PySem.Spec L2

structure Xn where
  c : Str
  ns : List Str
  ds : List D
def XRep (K : PySem.W.Frag) (G : Hp) (x : Xn) (cls : Value) (dd : Option Addr) : Prop :=
  cls = .ref (He.ga K x.c) ∧ ((x.ns = [] ∧ x.ds = [] ∧ dd = none) ∨ ∃ a vs, dd = some a ∧ G a = some (.xd (x.ns.zip vs)) ∧ x.ns.length = vs.length ∧ Reps K G x.ds vs)
inductive Hd where
  | im (d : D) | ow (i : Nat)
def hv (env : Ev) : Hd → Option D
  | .im d => some d
  | .ow i => match env[i]? with
    | some (.ow _ d) => some d
    | _ => none
def HR (K : PySem.W.Frag) (G : Hp) (σ : St) : Hd → V → Prop
  | .im d, v => Rep K G d v
  | .ow i, v => σ[i]? = some (some v)
theorem HR.mono {K : PySem.W.Frag} {G G' : Hp} {σ : St} (s : Same G G') : ∀ {h : Hd} {v : V}, HR K G σ h v → HR K G' σ h v
  | .im d, v, q => Rep.mono s d v q
  | .ow i, v, q => q
theorem HR.read {K : PySem.W.Frag} {x : Fx} {G H : Hp} {σ : St} {env : Ev} (r : ER K x G H σ env) : ∀ {h : Hd} {v : V} {d : D}, HR K G σ h v → hv env h = some d → RepT K G H d v
  | .im d, v, d', q, e => by
    cases e
    exact Rep.top r.sG q
  | .ow i, v, d', q, e => by
    have e : (match env[i]? with | some (Sl.ow _ d) => some d | _ => none) = some d' := e
    have q' : σ[i]? = some (some v) := q
    cases z : env[i]? with
    | none =>
      rw [z] at e
      cases e
    | some sl =>
      rw [z] at e
      cases sl with
      | no => cases e
      | im _ => cases e
      | ow b0 d0 =>
        cases e
        obtain ⟨p, o, e1, e2, q2, _, _⟩ := r.ow i b0 d' z
        rw [q'] at e1
        cases e1
        exact RepO.top e2 q2
def hvs (env : Ev) : List Hd → Option (List D)
  | [] => some []
  | h :: t => match hv env h with
    | some d => (match hvs env t with
      | some ds => some (d :: ds)
      | none => none)
    | none => none
def HRs (K : PySem.W.Frag) (G : Hp) (σ : St) : List Hd → List V → Prop
  | [], vs => vs = []
  | h :: t, vs => ∃ v r, vs = v :: r ∧ HR K G σ h v ∧ HRs K G σ t r
def RepTs (K : PySem.W.Frag) (G H : Hp) : List D → List V → Prop
  | [], vs => vs = []
  | d :: t, vs => ∃ v r, vs = v :: r ∧ RepT K G H d v ∧ RepTs K G H t r
theorem HRs.mono {K : PySem.W.Frag} {G G' : Hp} {σ : St} (s : Same G G') : ∀ {hs : List Hd} {vs : List V}, HRs K G σ hs vs → HRs K G' σ hs vs
  | [], vs, q => q
  | h :: t, vs, q => let ⟨v, r, e, q1, q2⟩ := q; ⟨v, r, e, q1.mono s, HRs.mono s q2⟩
theorem HRs.read {K : PySem.W.Frag} {x : Fx} {G H : Hp} {σ : St} {env : Ev} (r : ER K x G H σ env) : ∀ {hs : List Hd} {vs : List V} {ds : List D}, HRs K G σ hs vs → hvs env hs = some ds → RepTs K G H ds vs
  | [], vs, ds, q, e => by
    cases e
    exact q
  | h :: t, vs, ds, q, e => by
    obtain ⟨v, r', rfl, q1, q2⟩ := q
    unfold hvs at e
    cases z : hv env h with
    | none =>
      rw [z] at e
      cases e
    | some d =>
      rw [z] at e
      cases y : hvs env t with
      | none =>
        rw [y] at e
        cases e
      | some ds' =>
        rw [y] at e
        cases e
        exact ⟨v, r', rfl, q1.read r z, HRs.read r q2 y⟩
def ims : List Hd → Option (List D)
  | [] => some []
  | .im d :: t => (match ims t with
    | some ds => some (d :: ds)
    | none => none)
  | .ow _ :: _ => none
theorem HRs.ims {K : PySem.W.Frag} {G : Hp} {σ : St} : ∀ {hs : List Hd} {vs : List V} {ds : List D}, HRs K G σ hs vs → TL.ims hs = some ds → Reps K G ds vs
  | [], vs, ds, q, e => by
    cases e
    unfold Reps
    exact q
  | .im d :: t, vs, ds, q, e => by
    obtain ⟨v, r', rfl, q1, q2⟩ := q
    unfold TL.ims at e
    cases y : TL.ims t with
    | none =>
      rw [y] at e
      cases e
    | some ds' =>
      rw [y] at e
      cases e
      exact Reps.cons q1 (HRs.ims q2 y)
  | .ow i :: t, vs, ds, q, e => by
    unfold TL.ims at e
    cases e

def mo {α : Type} (o : Option α) (f : α → Prop) : Prop := match o with
  | some a => f a
  | none => False
theorem mo_some {α : Type} {o : Option α} {f : α → Prop} (h : mo o f) : ∃ a, o = some a ∧ f a := by
  cases o with
  | none => exact h.elim
  | some a => exact ⟨a, rfl, h⟩
def imAt (env : Ev) (i : Nat) : Option D := match env[i]? with
  | some (.im d) => some d
  | _ => none
def owAt (env : Ev) (i : Nat) : Option D := match env[i]? with
  | some (.ow _ d) => some d
  | _ => none
theorem imAt_some {env : Ev} {i : Nat} {d : D} (h : imAt env i = some d) : env[i]? = some (.im d) := by
  unfold imAt at h
  cases z : env[i]? with
  | none =>
    rw [z] at h
    cases h
  | some sl =>
    rw [z] at h
    cases sl with
    | no => cases h
    | ow _ _ => cases h
    | im d' =>
      cases h
      rfl
theorem owAt_some {env : Ev} {i : Nat} {d : D} (h : owAt env i = some d) : ∃ b, env[i]? = some (.ow b d) := by
  unfold owAt at h
  cases z : env[i]? with
  | none =>
    rw [z] at h
    cases h
  | some sl =>
    rw [z] at h
    cases sl with
    | no => cases h
    | im _ => cases h
    | ow b d' =>
      cases h
      exact ⟨b, rfl⟩
def intOf : D → Option Int
  | .int i => some i
  | _ => none
def blOf : D → Option Bool
  | .bl b => some b
  | _ => none
def strOf : D → Option Str
  | .str x => some x
  | _ => none
theorem intOf_some {d : D} {i : Int} (h : intOf d = some i) : d = .int i := by
  cases d <;> cases h
  rfl
theorem blOf_some {d : D} {b : Bool} (h : blOf d = some b) : d = .bl b := by
  cases d <;> cases h
  rfl
theorem strOf_some {d : D} {b : Str} (h : strOf d = some b) : d = .str b := by
  cases d <;> cases h
  rfl
abbrev XP := Xn → Ev → Prop
abbrev WO := Ev → (Hd → Ev → Prop) → XP → Prop
abbrev WE := Ev → (D → Ev → Prop) → XP → Prop
abbrev WT := Ev → (Bool → Ev → Prop) → XP → Prop
abbrev WA := Ev → (List Hd → Ev → Prop) → XP → Prop
def Xend (K : PySem.W.Frag) (W : WX) (x : Fx) (G : Hp) (σ : St) (X' : XP) : Prop :=
  ∀ e env' cls dd G' H', Same G G' → ER K x G' H' σ env' → XRep K G' e cls dd → X' e env' → W cls dd σ H'
theorem Xend.up {K : PySem.W.Frag} {W : WX} {x : Fx} {G G1 : Hp} {σ : St} {X' : XP} (h : Xend K W x G σ X') (s : Same G G1) : Xend K W x G1 σ X' :=
  fun e env' cls dd G' H' s' => h e env' cls dd G' H' (s.trans s')
def lO (K : PySem.W.Frag) (W : WX) (w : WO) : TE := fun σ H Q => ∃ x G env Q' X', ER K x G H σ env ∧ w env Q' X' ∧
  (∀ h env' v G' H', Same G G' → ER K x G' H' σ env' → HR K G' σ h v → Q' h env' → Q v H') ∧ Xend K W x G σ X'
def lT (K : PySem.W.Frag) (W : WX) (w : WT) : TT := fun σ H Q => ∃ x G env Q' X', ER K x G H σ env ∧ w env Q' X' ∧
  (∀ b env' G' H', Same G G' → ER K x G' H' σ env' → Q' b env' → Q b H') ∧ Xend K W x G σ X'
def lA (K : PySem.W.Frag) (W : WX) (w : WA) : TA := fun σ H Q => ∃ x G env Q' X', ER K x G H σ env ∧ w env Q' X' ∧
  (∀ hs env' vs G' H', Same G G' → ER K x G' H' σ env' → HRs K G' σ hs vs → Q' hs env' → Q vs H') ∧ Xend K W x G σ X'
def lF (K : PySem.W.Frag) (W : WX) (w : WE) : TE := fun σ H Q => ∃ x G env Q' X', ER K x G H σ env ∧ w env Q' X' ∧
  (∀ d env' p o G' H', Same G G' → ER K x G' H' σ env' → H' p = some o → RepO K G' d o → G' p = none → x.F p = none → (∀ (j : Nat) b d', env'[j]? = some (.ow b d') → σ[j]? ≠ some (some (.ref p))) → Q' d env' → Q (.ref p) H') ∧ Xend K W x G σ X'
def imO (w : WE) : WO := fun env Q X => w env (fun d e => Q (.im d) e) X
abbrev QO (X : Cx) (W : WX) (e : Expr) (w : WO) : Prop := PE X e (lO X.K W w)
abbrev QE (X : Cx) (W : WX) (e : Expr) (w : WE) : Prop := PE X e (lO X.K W (imO w))
abbrev QF (X : Cx) (W : WX) (e : Expr) (w : WE) : Prop := PE X e (lF X.K W w)
abbrev QT (X : Cx) (W : WX) (e : Expr) (w : WT) : Prop := PT X e (lT X.K W w)
abbrev QW (X : Cx) (W : WX) (e : Expr) (w : WT) : Prop := PW X e (lT X.K W w)
abbrev QA (X : Cx) (W : WX) (es : List Expr) (w : WA) : Prop := PA X es (lA X.K W w)
theorem _root_.L2.PE.le {X : Cx} {e : Expr} {t t' : TE} (h : PE X e t) (i : ∀ σ H Q, t' σ H Q → t σ H Q) : PE X e t' := ⟨fun pins s σ H Q I hw => h.run pins s σ H Q I (i σ H Q hw)⟩
theorem _root_.L2.PT.le {X : Cx} {e : Expr} {t t' : TT} (h : PT X e t) (i : ∀ σ H Q, t' σ H Q → t σ H Q) : PT X e t' := ⟨fun pins s σ H Q I hw => h.run pins s σ H Q I (i σ H Q hw)⟩
theorem _root_.L2.PW.le {X : Cx} {e : Expr} {t t' : TT} (h : PW X e t) (i : ∀ σ H Q, t' σ H Q → t σ H Q) : PW X e t' := ⟨fun wh pins s σ H Q I hw => h.run wh pins s σ H Q I (i σ H Q hw)⟩
theorem _root_.L2.PA.le {X : Cx} {es : List Expr} {t t' : TA} (h : PA X es t) (i : ∀ σ H Q, t' σ H Q → t σ H Q) : PA X es t' := ⟨fun pos pins s σ H Q I hw => h.run pos pins s σ H Q I (i σ H Q hw)⟩
theorem _root_.L2.PS.le {X : Cx} {st : Stmt} {t t' : TS} (h : PS X st t) (i : ∀ D σ H, t' D σ H → t D σ H) : PS X st t' := ⟨fun pins s σ H D I hw => h.run pins s σ H D I (i D σ H hw)⟩
theorem _root_.L2.PSs.le {X : Cx} {st : List Stmt} {t t' : TS} (h : PSs X st t) (i : ∀ D σ H, t' D σ H → t D σ H) : PSs X st t' := ⟨fun pins s σ H D I hw => h.run pins s σ H D I (i D σ H hw)⟩
theorem _root_.L2.PG.le {X : Cx} {tg : Expr} {t t' : TG} (h : PG X tg t) (i : ∀ v σ H Q, t' v σ H Q → t v σ H Q) : PG X tg t' := ⟨fun pins s σ H v u Q I r hw => h.run pins s σ H v u Q I r (i v σ H Q hw)⟩
theorem _root_.L2.PI.le {X : Cx} {tg iter : Expr} {t t' : TI} (h : PI X tg iter t) (i : ∀ σ H Q, t' σ H Q → t σ H Q) : PI X tg iter t' := ⟨fun pins s σ H Q I hw => h.run pins s σ H Q I (i σ H Q hw)⟩

section
variable {X : Cx} {W : WX} {a b e : Expr} {pos : Pos}
theorem qe_new {w : WE} (h : QF X W e w) : QE X W e w := h.le fun σ H Q ⟨x, G, env, Q', X', r, hw, hn, hx⟩ =>
  ⟨x, G, env, fun d e => Q' (.im d) e, X', r, hw, fun d env' p o G' H' s r' hp q hG hF ho hq => by
    have sG' : Same G' (upd G' p o) := same_new hG
    refine hn (.im d) env' (.ref p) (upd G' p o) H' (s.trans sG') ⟨r'.len, fun b u hb => ?_, r'.sF, fun b u hb => ?_, fun i d' e => ?_, fun i rb d' e => ?_, r'.nd, r'.rt⟩ (RepO.rep upd_same (RepO.mono sG' q)) hq
    · by_cases z : b = p
      · subst z
        rw [upd_same] at hb
        cases hb
        exact hp
      · rw [upd_ne z] at hb
        exact r'.sG b u hb
    · by_cases z : b = p
      · subst z
        rw [hF] at hb
        cases hb
      · rw [upd_ne z]
        exact r'.dj b u hb
    · obtain ⟨v, z1, z2⟩ := r'.im i d' e
      exact ⟨v, z1, Rep.mono sG' _ _ z2⟩
    · obtain ⟨p2, o2, z1, z2, z3, z4, z5⟩ := r'.ow i rb d' e
      refine ⟨p2, o2, z1, z2, RepO.mono sG' z3, z4, ?_⟩
      rw [upd_ne fun z => ?_]
      · exact z5
      · subst z
        exact ho i rb d' e z1, hx⟩

def wVar (i : Nat) : WE := fun env Q _ => mo (imAt env i) fun d => Q d env
def oVar (i : Nat) : WO := fun env Q _ => mo (owAt env i) fun _ => Q (.ow i) env
def wC (d : D) : WE := fun env Q _ => Q d env
theorem qe_var (i : Nat) {n : Str} (hN : X.N[i]? = some n := by rfl) (hvs : Vis X.env.scope n := by first | exact Or.inl rfl | exact Or.inr (Or.inl rfl) | exact Or.inr (Or.inr rfl)) (hd : (n == ("__debug__" : Str)) = false := by decide)
    (hcd : (n == ("__classdict__" : Str)) = false := by decide) : QE X W (.Name n pos) (wVar i) := (pe_var hN hvs hd hcd).le fun σ H Q ⟨x, G, env, Q', X', r, hq, hn, hx⟩ => by
  obtain ⟨d, e, hq⟩ := mo_some hq
  obtain ⟨v, e1, q⟩ := r.im i d (imAt_some e)
  exact ⟨v, e1, hn (.im d) env v G H (.refl _) r q hq⟩
theorem qo_var (i : Nat) {n : Str} (hN : X.N[i]? = some n := by rfl) (hvs : Vis X.env.scope n := by first | exact Or.inl rfl | exact Or.inr (Or.inl rfl) | exact Or.inr (Or.inr rfl)) (hd : (n == ("__debug__" : Str)) = false := by decide)
    (hcd : (n == ("__classdict__" : Str)) = false := by decide) : QO X W (.Name n pos) (oVar i) := (pe_var hN hvs hd hcd).le fun σ H Q ⟨x, G, env, Q', X', r, hq, hn, hx⟩ => by
  obtain ⟨d, e, hq⟩ := mo_some hq
  obtain ⟨b, e⟩ := owAt_some e
  obtain ⟨p, o, e1, _⟩ := r.ow i b d e
  exact ⟨_, e1, hn (.ow i) env _ G H (.refl _) r e1 hq⟩
theorem qe_c {v : V} {d : D} (h : PE X e (tC v)) (hr : ∀ G, Rep X.K G d v) : QE X W e (wC d) := h.le fun σ H Q ⟨x, G, env, Q', X', r, hq, hn, hx⟩ => hn (.im d) env v G H (.refl _) r (hr G) hq
theorem qe_int {i j} : QE X W (.Constant (.int i) j pos) (wC (.int i)) := qe_c pe_int fun _ => rfl
theorem qe_bl {i j} : QE X W (.Constant (.bool i) j pos) (wC (.bl i)) := qe_c pe_bl fun _ => rfl
theorem qe_non {j} : QE X W (.Constant .none j pos) (wC .non) := qe_c pe_non fun _ => rfl
theorem qe_str {i j} : QE X W (.Constant (.str i) j pos) (wC (.str i)) := qe_c pe_str fun _ => rfl
def Sem1 (K : PySem.W.Frag) (r : V → Hp → VK → Prop) (k : D → (D → Prop) → Prop) : Prop := ∀ (G H : Hp) (d : D) (v : V) (P : D → Prop) (Q : VK), Same G H → RepT K G H d v → k d P →
  (∀ d' v' G' H', Step G H G' H' → Rep K G' d' v' → P d' → Q v' H') → r v H Q
def Sem2 (K : PySem.W.Frag) (r : R2) (k : D → D → (D → Prop) → Prop) : Prop := ∀ (G H : Hp) (d1 d2 : D) (v1 v2 : V) (P : D → Prop) (Q : VK), Same G H → RepT K G H d1 v1 → RepT K G H d2 v2 → k d1 d2 P →
  (∀ d' v' G' H', Step G H G' H' → Rep K G' d' v' → P d' → Q v' H') → r v1 v2 H Q
def SemN (K : PySem.W.Frag) (r : List V → Hp → VK → Prop) (k : List D → (D → Prop) → Prop) : Prop := ∀ (G H : Hp) (ds : List D) (vs : List V) (P : D → Prop) (Q : VK), Same G H → RepTs K G H ds vs → k ds P →
  (∀ d' v' G' H', Step G H G' H' → Rep K G' d' v' → P d' → Q v' H') → r vs H Q
def Sem2F (K : PySem.W.Frag) (r : R2) (k : D → D → (D → Prop) → Prop) : Prop := ∀ (G H : Hp) (d1 d2 : D) (v1 v2 : V) (P : D → Prop) (Q : VK), Same G H → RepT K G H d1 v1 → RepT K G H d2 v2 → k d1 d2 P →
  (∀ d' p o, H p = none → RepO K G d' o → P d' → Q (.ref p) (upd H p o)) → r v1 v2 H Q
def w1 (k : D → (D → Prop) → Prop) (wa : WO) : WE := fun env Q X => wa env (fun h e => mo (hv e h) fun d => k d fun d' => Q d' e) X
def w2 (k : D → D → (D → Prop) → Prop) (wa wb : WO) : WE := fun env Q X => wa env (fun h1 e1 => wb e1 (fun h2 e2 => mo (hv e2 h1) fun d1 => mo (hv e2 h2) fun d2 => k d1 d2 fun d => Q d e2) X) X
def wN (k : List D → (D → Prop) → Prop) (wa : WA) : WE := fun env Q X => wa env (fun hs e => mo (hvs e hs) fun ds => k ds fun d => Q d e) X
variable {K : PySem.W.Frag} {wa wb : WO}
theorem l1 {r : V → Hp → VK → Prop} {k : D → (D → Prop) → Prop} (hk : Sem1 K r k) (σ : St) (H : Hp) (Q : VK) (h : lO K W (imO (w1 k wa)) σ H Q) : tUn r (lO K W wa) σ H Q := by
  obtain ⟨x, G, env, Q', X', r', hw, hn, hx⟩ := h
  refine ⟨x, G, env, _, X', r', hw, fun h1 e1 v1 G1 H1 s1 r1 q1 hw1 => ?_, hx⟩
  obtain ⟨d, e, kk⟩ := mo_some hw1
  exact hk G1 H1 d v1 _ Q r1.sG (q1.read r1 e) kk fun d' v' G' H' st rp hp => hn (.im d') e1 v' G' H' (s1.trans st.g) (r1.step st) rp hp
theorem l2 {r : R2} {k : D → D → (D → Prop) → Prop} (hk : Sem2 K r k) (σ : St) (H : Hp) (Q : VK) (h : lO K W (imO (w2 k wa wb)) σ H Q) : tOp r (lO K W wa) (lO K W wb) σ H Q := by
  obtain ⟨x, G, env, Q', X', r', hw, hn, hx⟩ := h
  refine ⟨x, G, env, _, X', r', hw, fun h1 e1 v1 G1 H1 s1 r1 q1 hw1 => ⟨x, G1, e1, _, X', r1, hw1, fun h2 e2 v2 G2 H2 s2 r2 q2 hw2 => ?_, hx.up s1⟩, hx⟩
  obtain ⟨d1, y1, hw2⟩ := mo_some hw2
  obtain ⟨d2, y2, kk⟩ := mo_some hw2
  exact hk G2 H2 d1 d2 v1 v2 _ Q r2.sG ((q1.mono s2).read r2 y1) (q2.read r2 y2) kk fun d' v' G' H' st rp hp => hn (.im d') e2 v' G' H' ((s1.trans s2).trans st.g) (r2.step st) rp hp
theorem lN {r : List V → Hp → VK → Prop} {k : List D → (D → Prop) → Prop} {wl : WA} (hk : SemN K r k) (σ : St) (H : Hp) (Q : VK) (h : lO K W (imO (wN k wl)) σ H Q) : tCB r (lA K W wl) σ H Q := by
  obtain ⟨x, G, env, Q', X', r', hw, hn, hx⟩ := h
  refine ⟨x, G, env, _, X', r', hw, fun hs e1 vs G1 H1 s1 r1 q1 hw1 => ?_, hx⟩
  obtain ⟨ds, y1, kk⟩ := mo_some hw1
  exact hk G1 H1 ds vs _ Q r1.sG (q1.read r1 y1) kk fun d' v' G' H' st rp hp => hn (.im d') e1 v' G' H' (s1.trans st.g) (r1.step st) rp hp
theorem fresh_F {x : Fx} {G H : Hp} {σ : St} {env : Ev} (r : ER K x G H σ env) {p : Addr} (hp : H p = none) : x.F p = none ∧ G p = none ∧ ∀ (j : Nat) b d', env[j]? = some (.ow b d') → σ[j]? ≠ some (some (.ref p)) :=
  ⟨r.sF.free hp, r.sG.free hp, fun j b d' e z => by
    obtain ⟨p', o, e1, e2, _⟩ := r.ow j b d' e
    rw [z] at e1
    cases e1
    rw [hp] at e2
    cases e2⟩
theorem l2F {r : R2} {k : D → D → (D → Prop) → Prop} (hk : Sem2F K r k) (σ : St) (H : Hp) (Q : VK) (h : lF K W (w2 k wa wb) σ H Q) : tOp r (lO K W wa) (lO K W wb) σ H Q := by
  obtain ⟨x, G, env, Q', X', r', hw, hn, hx⟩ := h
  refine ⟨x, G, env, _, X', r', hw, fun h1 e1 v1 G1 H1 s1 r1 q1 hw1 => ⟨x, G1, e1, _, X', r1, hw1, fun h2 e2 v2 G2 H2 s2 r2 q2 hw2 => ?_, hx.up s1⟩, hx⟩
  obtain ⟨d1, y1, hw2⟩ := mo_some hw2
  obtain ⟨d2, y2, kk⟩ := mo_some hw2
  refine hk G2 H2 d1 d2 v1 v2 _ Q r2.sG ((q1.mono s2).read r2 y1) (q2.read r2 y2) kk fun d' p o hp rp hq => ?_
  obtain ⟨f1, f2, f3⟩ := fresh_F r2 hp
  exact hn d' e2 p o G2 (upd H2 p o) (s1.trans s2) (r2.step (Step.junk r2.sG o hp)) upd_same rp f2 f1 f3 hq
theorem qe_op {op : Operator} {r : R2} {k : D → D → (D → Prop) → Prop} (ho : OpR X (binaryOp op) r) (hk : Sem2 X.K r k) (ha : QO X W a wa) (hb : QO X W b wb) : QE X W (.BinOp a op b pos) (w2 k wa wb) := (pe_op ho ha hb).le (l2 hk)
theorem qf_op {op : Operator} {r : R2} {k : D → D → (D → Prop) → Prop} (ho : OpR X (binaryOp op) r) (hk : Sem2F X.K r k) (ha : QO X W a wa) (hb : QO X W b wb) : QF X W (.BinOp a op b pos) (w2 k wa wb) := (pe_op ho ha hb).le (l2F hk)
theorem qe_un {op : UnaryOp} {r : V → Hp → VK → Prop} {k : D → (D → Prop) → Prop} (ho : UnR X (unaryOp op) r) (hk : Sem1 X.K r k) (ha : QO X W a wa) : QE X W (.UnaryOp op a pos) (w1 k wa) := (pe_un ho ha).le (l1 hk)
def kI (C : Int → Int → Prop) (g : Int → Int → D) : D → D → (D → Prop) → Prop := fun d1 d2 P => mo (intOf d1) fun i => mo (intOf d2) fun j => C i j ∧ P (g i j)
def kI0 (g : Int → Int → D) : D → D → (D → Prop) → Prop := fun d1 d2 P => mo (intOf d1) fun i => mo (intOf d2) fun j => P (g i j)
theorem sem_rI {C : Int → Int → Prop} {g : Int → Int → V} {g' : Int → Int → D} (hg : ∀ G i j, Rep K G (g' i j) (g i j)) : Sem2 K (rI C g) (kI C g') := fun G H d1 d2 v1 v2 P Q s h1 h2 hk hq => by
  obtain ⟨i, z1, hk⟩ := mo_some hk
  obtain ⟨j, z2, c, p⟩ := mo_some hk
  rw [intOf_some z1] at h1
  rw [intOf_some z2] at h2
  have e1 : v1 = .int i := h1
  have e2 : v2 = .int j := h2
  exact ⟨i, j, e1, e2, c, hq _ _ G H (.refl s) (hg G i j) p⟩
theorem sem_rI0 {g : Int → Int → V} {g' : Int → Int → D} (hg : ∀ G i j, Rep K G (g' i j) (g i j)) : Sem2 K (rI0 g) (kI0 g') := fun G H d1 d2 v1 v2 P Q s h1 h2 hk hq => by
  obtain ⟨i, z1, hk⟩ := mo_some hk
  obtain ⟨j, z2, p⟩ := mo_some hk
  rw [intOf_some z1] at h1
  rw [intOf_some z2] at h2
  have e1 : v1 = .int i := h1
  have e2 : v2 = .int j := h2
  exact ⟨i, j, e1, e2, hq _ _ G H (.refl s) (hg G i j) p⟩
theorem sem_rU {g : Int → V} {g' : Int → D} (hg : ∀ G i, Rep K G (g' i) (g i)) : Sem1 K (rU g) (fun d P => mo (intOf d) fun i => P (g' i)) := fun G H d v P Q s h hk hq => by
  obtain ⟨i, z1, p⟩ := mo_some hk
  rw [intOf_some z1] at h
  exact ⟨i, h, hq _ _ G H (.refl s) (hg G i) p⟩
end
end TL

namespace TL
open PySem PySem.Spec L2
section
variable {X : Cx} {W : WX} {a b c e : Expr} {pos : Pos} {wa wb : WO} {we wf : WE}

def kAdd := kI0 fun i j => .int (i + j)
def kMul := kI CMul fun i j => .int (i * j)
def kMulW := kI CMulW fun i j => .int (i * j)
def kDivW := kI CDivW fun i j => .int (i / j)
def kMod := kI (fun _ j => 0 < j) fun i j => .int (i % j)
def kPow := kI CPow fun i j => .int (i ^ j.toNat)
def kLt := kI0 fun i j => .bl (decide (i < j))
def kGt := kI0 fun i j => .bl (decide (j < i))
def kGe := kI0 fun i j => .bl (decide (j ≤ i))
theorem qe_div (ha : QO X W a wa) (hb : QO X W b wb) : QE X W (.BinOp a .FloorDiv b pos) (w2 kDivW wa wb) := qe_op op_fdivW (sem_rI fun _ _ _ => rfl) ha hb
theorem qe_mod (ha : QO X W a wa) (hb : QO X W b wb) : QE X W (.BinOp a .Mod b pos) (w2 kMod wa wb) := qe_op op_mod (sem_rI fun _ _ _ => rfl) ha hb
theorem qe_pow (ha : QO X W a wa) (hb : QO X W b wb) : QE X W (.BinOp a .Pow b pos) (w2 kPow wa wb) := qe_op op_pow (sem_rI fun _ _ _ => rfl) ha hb
def kNeg : D → (D → Prop) → Prop := fun d P => mo (intOf d) fun i => P (.int (-i))
theorem qe_neg (ha : QO X W a wa) : QE X W (.UnaryOp .USub a pos) (w1 kNeg wa) := qe_un un_neg (sem_rU fun _ _ => rfl) ha

theorem imO_mono {w : WE} {env : Ev} {P : D → Ev → Prop} {X' : XP} (h : w env P X') : imO w env (fun h e => ∃ d, h = .im d ∧ P d e) X' := by
  show w env (fun d e => ∃ d', Hd.im d = .im d' ∧ P d' e) X'
  have e : (fun (d : D) (e : Ev) => ∃ d', Hd.im d = .im d' ∧ P d' e) = P := by
    funext d e
    apply propext
    constructor
    · rintro ⟨d', z, q⟩
      rw [Hd.im.inj z]
      exact q
    · intro q
      exact ⟨d, rfl, q⟩
  rw [e]
  exact h
def wB (w : WE) : WT := fun env Q Xp => w env (fun d e => mo (blOf d) fun k => Q k e) Xp
theorem lB {K : PySem.W.Frag} (σ : St) (H : Hp) (Q : Bool → Hp → Prop) (h : lT K W (wB we) σ H Q) : lO K W (imO we) σ H fun x H' => ∃ k, x = .bl k ∧ Q k H' := by
  obtain ⟨x, G, env, Q', X', r, hw, hn, hx⟩ := h
  refine ⟨x, G, env, _, X', r, imO_mono hw, fun h e v G' H' s r' q hq => ?_, hx⟩
  obtain ⟨d, rfl, hq⟩ := hq
  obtain ⟨k, z, q'⟩ := mo_some hq
  rw [blOf_some z] at q
  have q2 : v = .bl k := q
  exact ⟨k, q2, hn k e G' H' s r' q'⟩
structure QC (X : Cx) (W : WX) (op : CmpOp) (a b : Expr) (w : WE) : Prop where
  e : ∀ pos, QE X W (.Compare a [op] [b] pos) w
  t : ∀ pos, QT X W (.Compare a [op] [b] pos) (wB w)
theorem qc {op : CmpOp} {r : R2} {k : D → D → (D → Prop) → Prop} (ho : OpR X (compareOp op) r) (hk : Sem2 X.K r k) (ha : QO X W a wa) (hb : QO X W b wb) (hm : behindInMarks op b = false) : QC X W op a b (w2 k wa wb) :=
  ⟨fun _ => (pe_cmpR ho ha hb hm).le (l2 hk), fun _ => (pt_cmpR ho ha hb hm).le fun σ H Q h => l2 hk σ H _ (lB σ H Q h)⟩
theorem qc_lt (ha : QO X W a wa) (hb : QO X W b wb) : QC X W .Lt a b (w2 kLt wa wb) := qc op_lt (sem_rI0 fun _ _ _ => rfl) ha hb (nomark _)
theorem qc_gt (ha : QO X W a wa) (hb : QO X W b wb) : QC X W .Gt a b (w2 kGt wa wb) := qc op_gt (sem_rI0 fun _ _ _ => rfl) ha hb (nomark _)
theorem qc_ge (ha : QO X W a wa) (hb : QO X W b wb) : QC X W .GtE a b (w2 kGe wa wb) := qc op_ge (sem_rI0 fun _ _ _ => rfl) ha hb (nomark _)

mutual
def pd : D → PyData
  | .non => .none
  | .bl b => .bool b
  | .int i => .int i
  | .str x => .str x
  | .lst ds => .list (pds ds)
  | .tup ds => .tuple (pds ds)
  | .ty _ => .none
  | .ins _ _ _ => .none
  | .dic _ _ => .none
  | .dit _ _ => .none
  | .tpo _ => .none
  | .tpn _ => .none
  | .exc _ _ _ _ => .none
  | .exv _ _ _ => .none
def pds : List D → List PyData
  | [] => []
  | d :: ds => pd d :: pds ds
end
def okD : Nat → D → Bool
  | _, .non => true
  | _, .bl _ => true
  | _, .int _ => true
  | _, .str x => PySem.PyData.strOk x
  | n + 1, .lst ds => ds.all (okD n)
  | n + 1, .tup ds => ds.all (okD n)
  | _, _ => false
def eqD (d e : D) : Bool := PyData.eqv (pd d) (pd e)
theorem lay_all {n : Nat} (h : ∀ d, okD n d = true → (pd d).canLay0 = true ∧ (pd d).depth ≤ n) : ∀ ds : List D, ds.all (okD n) = true → PyData.canLayAll0 (pds ds) = true ∧ PyData.depthAll (pds ds) ≤ n
  | [], _ => by
    unfold pds PyData.canLayAll0 PyData.depthAll
    exact ⟨rfl, Nat.zero_le _⟩
  | d :: ds, q => by
    rw [List.all_cons, Bool.and_eq_true] at q
    obtain ⟨h1, h2⟩ := h d q.1
    obtain ⟨h3, h4⟩ := lay_all h ds q.2
    unfold pds PyData.canLayAll0 PyData.depthAll
    rw [h1, h3]
    exact ⟨rfl, Nat.max_le.mpr ⟨h2, h4⟩⟩
theorem okD_lay : ∀ (n : Nat) (d : D), okD n d = true → (pd d).canLay0 = true ∧ (pd d).depth ≤ n
  | n, .non, _ => by unfold pd PyData.canLay0 PyData.depth; exact ⟨rfl, Nat.zero_le _⟩
  | n, .bl b, _ => by unfold pd PyData.canLay0 PyData.depth; exact ⟨rfl, Nat.zero_le _⟩
  | n, .int b, _ => by unfold pd PyData.canLay0 PyData.depth; exact ⟨rfl, Nat.zero_le _⟩
  | n, .str b, q => by
    have q' : PySem.PyData.strOk b = true := by
      cases n <;> exact q
    unfold pd PyData.canLay0 PyData.depth
    exact ⟨q', Nat.zero_le _⟩
  | 0, .lst ds, q => by cases q
  | 0, .tup ds, q => by cases q
  | n + 1, .lst ds, q => by
    obtain ⟨h1, h2⟩ := lay_all (okD_lay n) ds q
    unfold pd PyData.canLay0 PyData.depth
    exact ⟨h1, Nat.succ_le_succ h2⟩
  | n + 1, .tup ds, q => by
    obtain ⟨h1, h2⟩ := lay_all (okD_lay n) ds q
    unfold pd PyData.canLay0 PyData.depth
    exact ⟨h1, Nat.succ_le_succ h2⟩
  | n, .ty _, q => by cases n <;> cases q
  | n, .ins _ _ _, q => by cases n <;> cases q
  | n, .dic _ _, q => by cases n <;> cases q
  | n, .dit _ _, q => by cases n <;> cases q
  | n, .tpo _, q => by cases n <;> cases q
  | n, .tpn _, q => by cases n <;> cases q
  | n, .exc _ _ _ _, q => by cases n <;> cases q
  | n, .exv _ _ _, q => by cases n <;> cases q
theorem okD_shaped {n : Nat} {d : D} (hn : n ≤ 64) (h : okD n d = true) : SeqAt.shaped (pd d) = true := by
  obtain ⟨h1, h2⟩ := okD_lay n d h
  unfold SeqAt.shaped
  rw [h1, decide_eq_true (Nat.le_trans h2 hn)]
  rfl
theorem eqD_refl {n : Nat} {d : D} (h : okD n d = true) : eqD d d = true := SeqAt.eqv_refl _ (okD_lay n d h).1
section
variable {K : PySem.W.Frag} {G H : Hp}
theorem dp_all {n : Nat} (ih : ∀ d v, okD n d = true → Rep K G d v → Dp K H v (pd d)) : ∀ (ds : List D) (vs : List V), ds.all (okD n) = true → Reps K G ds vs → DpAll K H vs (pds ds)
  | [], vs, _, h => by
    unfold Reps at h
    rw [h]
    unfold pds
    exact .nil
  | d :: ds, vs, q, h => by
    unfold Reps at h
    obtain ⟨v, r, rfl, h1, h2⟩ := h
    rw [List.all_cons, Bool.and_eq_true] at q
    unfold pds
    exact .cons (ih d v q.1 h1) (dp_all ih ds r q.2 h2)
theorem Rep.dp (s : Same G H) : ∀ (n : Nat) (d : D) (v : V), okD n d = true → Rep K G d v → Dp K H v (pd d)
  | n, .non, v, _, h => by
    have e : v = .non := h
    rw [e]; unfold pd; exact .non
  | n, .bl b, v, _, h => by
    have e : v = .bl b := h
    rw [e]; unfold pd; exact .bl b
  | n, .int b, v, _, h => by
    have e : v = .int b := h
    rw [e]; unfold pd; exact .int b
  | n, .str b, v, _, h => by
    have e : v = .str b := h
    rw [e]; unfold pd; exact .str b
  | 0, .lst ds, v, q, h => by cases q
  | 0, .tup ds, v, q, h => by cases q
  | n + 1, .lst ds, v, q, h => by
    unfold Rep at h
    obtain ⟨a, vs, rfl, h1, h2⟩ := h
    unfold pd
    exact .lst (s.seq h1) (dp_all (Rep.dp s n) ds vs q h2)
  | n + 1, .tup ds, v, q, h => by
    unfold Rep at h
    obtain ⟨a, vs, rfl, h1, h2⟩ := h
    unfold pd
    exact .tup (sameT s h1) (dp_all (Rep.dp s n) ds vs q h2)
  | n, .ty _, v, q, h => by cases n <;> cases q
  | n, .ins _ _ _, v, q, h => by cases n <;> cases q
  | n, .dic _ _, v, q, h => by cases n <;> cases q
  | n, .dit _ _, v, q, h => by cases n <;> cases q
  | n, .tpo _, v, q, h => by cases n <;> cases q
  | n, .tpn _, v, q, h => by cases n <;> cases q
  | n, .exc _ _ _ _, v, q, h => by cases n <;> cases q
  | n, .exv _ _ _, v, q, h => by cases n <;> cases q
theorem RepT.dp (s : Same G H) : ∀ (n : Nat) (d : D) (v : V), okD n d = true → RepT K G H d v → Dp K H v (pd d)
  | n, .non, v, _, h => by
    have e : v = .non := h
    rw [e]; unfold pd; exact .non
  | n, .bl b, v, _, h => by
    have e : v = .bl b := h
    rw [e]; unfold pd; exact .bl b
  | n, .int b, v, _, h => by
    have e : v = .int b := h
    rw [e]; unfold pd; exact .int b
  | n, .str b, v, _, h => by
    have e : v = .str b := h
    rw [e]; unfold pd; exact .str b
  | 0, .lst ds, v, q, h => by cases q
  | 0, .tup ds, v, q, h => by cases q
  | n + 1, .lst ds, v, q, h => by
    obtain ⟨a, vs, rfl, h1, h2⟩ := h
    unfold pd
    exact .lst h1 (dp_all (Rep.dp s n) ds vs q h2)
  | n + 1, .tup ds, v, q, h => by
    obtain ⟨a, vs, rfl, h1, h2, _⟩ := h
    unfold pd
    exact .tup h1 (dp_all (Rep.dp s n) ds vs q h2)
  | n, .ty _, v, q, h => by cases n <;> cases q
  | n, .ins _ _ _, v, q, h => by cases n <;> cases q
  | n, .dic _ _, v, q, h => by cases n <;> cases q
  | n, .dit _ _, v, q, h => by cases n <;> cases q
  | n, .tpo _, v, q, h => by cases n <;> cases q
  | n, .tpn _, v, q, h => by cases n <;> cases q
  | n, .exc _ _ _ _, v, q, h => by cases n <;> cases q
  | n, .exv _ _ _, v, q, h => by cases n <;> cases q
end
def kEq : D → D → (D → Prop) → Prop := fun d1 d2 P => okD 16 d1 = true ∧ okD 16 d2 = true ∧ P (.bl (eqD d1 d2))
def kNe : D → D → (D → Prop) → Prop := fun d1 d2 P => okD 16 d1 = true ∧ okD 16 d2 = true ∧ P (.bl (!eqD d1 d2))
theorem sem_eq {K : PySem.W.Frag} : Sem2 K (rEqD K) kEq := fun G H d1 d2 v1 v2 P Q s h1 h2 hk hq =>
  ⟨pd d1, pd d2, RepT.dp s 16 d1 v1 hk.1 h1, RepT.dp s 16 d2 v2 hk.2.1 h2, okD_shaped (by decide) hk.1, okD_shaped (by decide) hk.2.1, hq (.bl (eqD d1 d2)) _ G H (.refl s) rfl hk.2.2⟩
theorem sem_ne {K : PySem.W.Frag} : Sem2 K (rNeD K) kNe := fun G H d1 d2 v1 v2 P Q s h1 h2 hk hq =>
  ⟨pd d1, pd d2, RepT.dp s 16 d1 v1 hk.1 h1, RepT.dp s 16 d2 v2 hk.2.1 h2, okD_shaped (by decide) hk.1, okD_shaped (by decide) hk.2.1, hq (.bl (!eqD d1 d2)) _ G H (.refl s) rfl hk.2.2⟩
theorem qc_eq (hu : X.A.units + 64 < cLine) (ha : QO X W a wa) (hb : QO X W b wb) : QC X W .Eq a b (w2 kEq wa wb) := qc (op_eqD hu) sem_eq ha hb (nomark _)
theorem qc_ne (hu : X.A.units + 64 < cLine) (ha : QO X W a wa) (hb : QO X W b wb) : QC X W .NotEq a b (w2 kNe wa wb) := qc (op_neD hu) sem_ne ha hb (nomark _)

def isNon : D → Bool
  | .non => true
  | _ => false
def wOr (wt wu : WT) : WT := fun env Q Xp => wt env (fun k e => if k = true then Q true e else wu e Q Xp) Xp
def wNot (wt : WT) : WT := fun env Q Xp => wt env (fun k e => Q (!k) e) Xp
variable {wt wu : WT} {rest : List Expr}
theorem qt_val (h : QE X W e we) (he : ∀ whole, isTrue e X.env whole = (do let v ← whole; standAt e.pos; holding [v] (truthy v)) := by intro _; rfl) : QT X W e (wB we) := (pt_val h he).le lB
theorem lTT {K : PySem.W.Frag} {f : Bool → (Bool → Ev → Prop) → XP → Ev → Prop} {g : Bool → St → Hp → (Bool → Hp → Prop) → Prop} (hf : ∀ k x G env σ H Q' X' (Q : Bool → Hp → Prop), ER K x G H σ env → f k Q' X' env →
      (∀ b env' G' H', Same G G' → ER K x G' H' σ env' → Q' b env' → Q b H') → Xend K W x G σ X' → g k σ H Q) (σ : St) (H : Hp) (Q : Bool → Hp → Prop)
    (h : lT K W (fun env Q' Xp => wt env (fun k e => f k Q' Xp e) Xp) σ H Q) : lT K W wt σ H fun k H1 => g k σ H1 Q := by
  obtain ⟨x, G, env, Q', X', r, hw, hn, hx⟩ := h
  exact ⟨x, G, env, _, X', r, hw, fun k e G' H' s r' q => hf k x G' e σ H' Q' X' Q r' q (fun b env' G2 H2 s2 => hn b env' G2 H2 (s.trans s2)) (hx.up s), hx⟩
theorem qw_or1 (ha : QT X W a wt) : QW X W (.BoolOp .Or [a] pos) wt := pw_or1 ha
theorem qw_or (ha : QT X W a wt) (hb : QW X W (.BoolOp .Or (b :: rest) pos) wu) : QW X W (.BoolOp .Or (a :: b :: rest) pos) (wOr wt wu) := (pw_or ha hb).le
  (lTT (f := fun k Q' Xp e => if k = true then Q' true e else wu e Q' Xp) (g := fun k σ H Q => if k = true then Q true H else lT X.K W wu σ H Q) (fun k x G env σ H Q' X' Q r q hn hx => by
    cases k with
    | false => exact ⟨x, G, env, Q', X', r, q, hn, hx⟩
    | true => exact hn true env G H (.refl _) r q))
theorem qt_not (ha : QT X W a wt) : QT X W (.UnaryOp .Not a pos) (wNot wt) := (pt_not ha).le
  (lTT (f := fun k Q' _ e => Q' (!k) e) (g := fun k σ H Q => Q (!k) H) fun k x G env σ H Q' X' Q r q hn hx => hn (!k) env G H (.refl _) r q)
def wIfE (wc : WT) (wa wb : WO) : WO := fun env Q Xp => wc env (fun k e => if k = true then wa e Q Xp else wb e Q Xp) Xp
def wIfX (wc : WT) (wa wb : WE) : WE := fun env Q Xp => wc env (fun k e => if k = true then wa e Q Xp else wb e Q Xp) Xp
theorem qo_if {c : Expr} (hc : QT X W c wt) (ha : QO X W a wa) (hb : QO X W b wb) : QO X W (.IfExp c a b pos) (wIfE wt wa wb) := (pe_ifExp hc ha hb).le fun σ H Q h => by
  obtain ⟨x, G, env, Q', X', r, hw, hn, hx⟩ := h
  refine ⟨x, G, env, _, X', r, hw, fun k e G' H' s r' q => ?_, hx⟩
  cases k with
  | true => exact ⟨x, G', e, Q', X', r', q, fun h e2 v2 G2 H2 s2 => hn h e2 v2 G2 H2 (s.trans s2), hx.up s⟩
  | false => exact ⟨x, G', e, Q', X', r', q, fun h e2 v2 G2 H2 s2 => hn h e2 v2 G2 H2 (s.trans s2), hx.up s⟩
theorem qe_if {c : Expr} (hc : QT X W c wt) (ha : QE X W a we) (hb : QE X W b wf) : QE X W (.IfExp c a b pos) (wIfX wt we wf) := qo_if hc ha hb

def aNil : WA := fun env Q _ => Q [] env
def aCons (w : WO) (wl : WA) : WA := fun env Q Xp => w env (fun h e => wl e (fun hs e2 => Q (h :: hs) e2) Xp) Xp
variable {wl : WA} {es : List Expr}
theorem qa_nil : QA X W [] aNil := pa_nil.le fun σ H Q h => by
  obtain ⟨x, G, env, Q', X', r, hw, hn, hx⟩ := h
  exact hn [] env [] G H (.refl _) r rfl hw
theorem qa_cons (ha : QO X W e wa) (hr : QA X W es wl) (hs : starEach (e :: es) X.env = (false, eval e X.env) :: starEach es X.env := by rfl) : QA X W (e :: es) (aCons wa wl) := (pa_cons ha hr hs).le fun σ H Q h => by
  obtain ⟨x, G, env, Q', X', r, hw, hn, hx⟩ := h
  exact ⟨x, G, env, _, X', r, hw, fun h e1 v G1 H1 s1 r1 q1 hw1 => ⟨x, G1, e1, _, X', r1, hw1, fun hs e2 vs G2 H2 s2 r2 q2 hw2 => hn (h :: hs) e2 (v :: vs) G2 H2 (s1.trans s2) r2 ⟨v, vs, rfl, q1.mono s2, q2⟩ hw2, hx.up s1⟩, hx⟩
def wLst (wl : WA) : WE := fun env Q Xp => wl env (fun hs e => mo (ims hs) fun ds => ds.length ≤ 1000000 ∧ Q (.lst ds) e) Xp
def wTup (wl : WA) : WE := fun env Q Xp => wl env (fun hs e => mo (ims hs) fun ds => ds.length ≤ 1000000 ∧ Q (.tup ds) e) Xp
theorem line_le {n : Nat} (h : n ≤ 1000000) : n ≤ sizeLine := by
  rw [sizeLine_eq]
  omega
theorem line_lt {n : Nat} (h : n ≤ 1000000) : n < sizeLine := by
  rw [sizeLine_eq]
  omega
theorem qf_lst (h : QA X W es wl) : QF X W (.List es pos) (wLst wl) := (pe_lst h).le fun σ H Q h => by
  obtain ⟨x, G, env, Q', X', r, hw, hn, hx⟩ := h
  refine ⟨x, G, env, _, X', r, hw, fun hs e vs G' H' s r' q hq => ?_, hx⟩
  obtain ⟨ds, y, hl, hq⟩ := mo_some hq
  have rp := q.ims y
  refine ⟨by rw [rp.length]; exact line_le hl, fun p hp => ?_⟩
  obtain ⟨f1, f2, f3⟩ := fresh_F r' hp
  exact hn (.lst ds) e p (.lst vs) G' (upd H' p (.lst vs)) s (r'.step (Step.junk r'.sG _ hp)) upd_same ⟨vs, rfl, rp⟩ f2 f1 f3 hq
theorem qe_tup {x1} (h : QA X W es wl) : QE X W (.Tuple es x1 pos) (wTup wl) := (pe_tup h).le fun σ H Q h => by
  obtain ⟨x, G, env, Q', X', r, hw, hn, hx⟩ := h
  refine ⟨x, G, env, _, X', r, hw, fun hs e vs G' H' s r' q hq => ?_, hx⟩
  obtain ⟨ds, y, hl, hq⟩ := mo_some hq
  have rp := q.ims y
  refine ⟨by rw [rp.length]; exact line_le hl, fun p hp => ?_⟩
  have st := Step.one r'.sG (.tup vs) hp
  refine hn (.im (.tup ds)) e (.ref p) _ _ (s.trans st.g) (r'.step st) ?_ hq
  show Rep X.K _ (.tup ds) (.ref p)
  unfold Rep
  exact ⟨p, vs, rfl, SqT.of upd_same, Reps.mono st.g _ _ rp⟩
end
end TL

namespace TL
open PySem PySem.Spec L2
section
variable {X : Cx} {W : WX} {a b c e : Expr} {pos p : Pos} {wa wb : WO} {we wf : WE} {wl : WA} {es : List Expr} {K : PySem.W.Frag}

def rCatS (K : PySem.W.Frag) : R2 := fun x y H Q => ∃ l b xs zs, x = .ref l ∧ y = .ref b ∧ SqL K H l xs ∧ SqL K H b zs ∧ xs.length + zs.length ≤ sizeLine ∧ ∀ p, H p = none → Q (.ref p) (upd H p (.lst (xs ++ zs)))
theorem op_catS : OpR X (binaryOp .Add) (rCatS X.K) := by
  intro pins s σ H x y v u Q I rx ry h
  obtain ⟨l, b, xs, zs, rfl, rfl, hH, hB, hz, q⟩ := h
  cases rx
  cases ry
  obtain ⟨its, r, pl, hl⟩ := I.list hH
  obtain ⟨its2, r2, pl2, hl2⟩ := I.list hB
  have e1 := r.length
  have e2 := r2.length
  obtain ⟨⟨c1, dd, dt, sl⟩, n, ho, hc, hd0, hd⟩ := pl
  obtain ⟨⟨c2, dd2, dt2, sl2⟩, n2, ho2, hc2, hd02, hd2⟩ := pl2
  simp only at hc hd hd0 hc2 hd2 hd02
  subst hc hd hd0 hc2 hd2 hd02
  refine PySem.concat_meets ⟨_, ho, rfl⟩ ⟨_, ho2, rfl⟩ PySem.noFill_list_add PySem.seq_list_add PySem.F.slot_list_add PySem.F.entry_list_add (PySem.F.args_list_add_2 _ _) (PyProof.Rows.list_addW l b its.toArray its2.toArray n n2 none none sl sl2 (by rw [List.size_toArray, List.size_toArray]; omega)) ⟨ho, ho2, ?_⟩
  have ea : its.toArray ++ its2.toArray = (its ++ its2).toArray := by simp
  rw [ea]
  exact ⟨.ref _, _, I.lnew (t' := s.toks) (r.append r2) (by rw [List.length_append]; omega), rfl, q _ I.fresh⟩
def lstOf : D → Option (List D)
  | .lst ds => some ds
  | _ => none
def tupOf : D → Option (List D)
  | .tup ds => some ds
  | _ => none
def seqOf : D → Option (List D)
  | .lst ds => some ds
  | .tup ds => some ds
  | _ => none
theorem lstOf_some {d : D} {ds : List D} (h : lstOf d = some ds) : d = .lst ds := by
  cases d <;> cases h
  rfl
theorem tupOf_some {d : D} {ds : List D} (h : tupOf d = some ds) : d = .tup ds := by
  cases d <;> cases h
  rfl
theorem seqOf_some {d : D} {ds : List D} (h : seqOf d = some ds) : d = .lst ds ∨ d = .tup ds := by
  cases d <;> cases h
  · exact .inl rfl
  · exact .inr rfl
def kCat : D → D → (D → Prop) → Prop := fun d1 d2 P => mo (lstOf d1) fun xs => mo (lstOf d2) fun ys => xs.length + ys.length ≤ 1000000 ∧ P (.lst (xs ++ ys))
theorem sem_cat : Sem2F K (rCatS K) kCat := fun G H d1 d2 v1 v2 P Q s h1 h2 hk hq => by
  obtain ⟨xs, z1, hk⟩ := mo_some hk
  obtain ⟨ys, z2, hl, hk⟩ := mo_some hk
  rw [lstOf_some z1] at h1
  rw [lstOf_some z2] at h2
  obtain ⟨a1, vs1, rfl, q1, r1⟩ := h1
  obtain ⟨a2, vs2, rfl, q2, r2⟩ := h2
  exact ⟨a1, a2, vs1, vs2, rfl, rfl, q1, q2, by rw [r1.length, r2.length]; exact line_le hl, fun p hp => hq (.lst (xs ++ ys)) p _ hp ⟨_, rfl, r1.append r2⟩ hk⟩
theorem qf_cat (ha : QO X W a wa) (hb : QO X W b wb) : QF X W (.BinOp a .Add b pos) (w2 kCat wa wb) := qf_op op_catS sem_cat ha hb

theorem atI_map {α β : Type} {R : α → β → Prop} {xs : List α} {ys : List β} (hl : ys.length = xs.length) (h : ∀ (i : Nat) x, xs[i]? = some x → ∃ y, ys[i]? = some y ∧ R x y) {i : Int} {x : α} (e : atI xs i = some x) : ∃ y, atI ys i = some y ∧ R x y := by
  unfold atI at e ⊢
  rw [hl]
  cases z : ixN xs.length i with
  | none =>
    rw [z] at e
    cases e
  | some j =>
    rw [z] at e
    exact h j x e
def kIx : D → D → (D → Prop) → Prop := fun d1 d2 P => mo (seqOf d1) fun ds => mo (intOf d2) fun i => mo (atI ds i) P
theorem sem_ix : Sem2 K (fun x y H Q => rIxL K x y H Q ∨ rIxT K x y H Q) kIx := fun G H d1 d2 v1 v2 P Q s h1 h2 hk hq => by
  obtain ⟨ds, z1, hk⟩ := mo_some hk
  obtain ⟨i, z2, hk⟩ := mo_some hk
  obtain ⟨d, z3, hk⟩ := mo_some hk
  rw [intOf_some z2] at h2
  have e2 : v2 = .int i := h2
  rcases seqOf_some z1 with z1 | z1 <;> rw [z1] at h1
  · obtain ⟨a1, vs1, rfl, q1, r1⟩ := h1
    obtain ⟨v, e, r⟩ := atI_map (R := Rep K G) r1.length (fun j x hj => r1.get hj) z3
    exact .inl ⟨a1, vs1, i, v, rfl, e2, q1, e, hq d v G H (.refl s) r hk⟩
  · obtain ⟨a1, vs1, rfl, q1, r1, _⟩ := h1
    obtain ⟨v, e, r⟩ := atI_map (R := Rep K G) r1.length (fun j x hj => r1.get hj) z3
    exact .inr ⟨a1, vs1, i, v, rfl, e2, q1, e, hq d v G H (.refl s) r hk⟩
theorem qe_ix (ha : QO X W a wa) (hb : QO X W b wb) (hs : PlainIx b) : QE X W (.Subscript a b pos) (w2 kIx wa wb) := (pe_ix (IxR.or ix_list ix_tup) ha hb hs).le (l2 sem_ix)

def cutD (xs : List D) (lo hi : Option Int) : List D := (xs.drop (HT.sIx xs.length 0 lo)).take (HT.sIx xs.length xs.length hi - HT.sIx xs.length 0 lo)
theorem Reps.cut {K : PySem.W.Frag} {G : Hp} {ds : List D} {vs : List V} (r : Reps K G ds vs) (lo hi : Option Int) : Reps K G (cutD ds lo hi) (cutV vs lo hi) := by
  unfold cutD cutV
  rw [r.length]
  exact (r.drop _).take _
abbrev WP := Ev → (Option Int → Ev → Prop) → XP → Prop
def pNone : WP := fun env Q _ => Q none env
def pSome (w : WE) : WP := fun env Q Xp => w env (fun d e => mo (intOf d) fun i => Q (some i) e) Xp
def lP (K : PySem.W.Frag) (W : WX) (w : WP) : TO := fun σ H Q => ∃ x G env Q' X', ER K x G H σ env ∧ w env Q' X' ∧
  (∀ o env' G' H', Same G G' → ER K x G' H' σ env' → Q' o env' → Q o H') ∧ Xend K W x G σ X'
abbrev QP (X : Cx) (W : WX) (e : Option Expr) (w : WP) : Prop := PO X e (lP X.K W w)
theorem _root_.L2.PO.le {X : Cx} {e : Option Expr} {t t' : TO} (h : PO X e t) (i : ∀ σ H Q, t' σ H Q → t σ H Q) : PO X e t' := ⟨fun pins s σ H Q I hw => h.run pins s σ H Q I (i σ H Q hw)⟩
theorem qp_none : QP X W none pNone := po_none.le fun σ H Q h => by
  obtain ⟨x, G, env, Q', X', r, hw, hn, hx⟩ := h
  exact hn none env G H (.refl _) r hw
theorem qp_some (h : QE X W e we) : QP X W (some e) (pSome we) := (po_some h).le fun σ H Q h => by
  obtain ⟨x, G, env, Q', X', r, hw, hn, hx⟩ := h
  refine ⟨x, G, env, _, X', r, imO_mono hw, fun h e v G' H' s r' q hq => ?_, hx⟩
  obtain ⟨d, rfl, hq⟩ := hq
  obtain ⟨i, z, q'⟩ := mo_some hq
  rw [intOf_some z] at q
  have q2 : v = .int i := q
  exact ⟨i, q2, hn (some i) e G' H' s r' q'⟩
def wSl (wa : WO) (pl ph : WP) : WE := fun env Q Xp => wa env (fun h e1 => pl e1 (fun lo e2 => ph e2 (fun hi e3 => mo (hv e3 h) fun d => mo (lstOf d) fun ds => Q (.lst (cutD ds lo hi)) e3) Xp) Xp) Xp
theorem qf_sl {lo hi : Option Expr} {pl ph : WP} {p2 : Pos} (ha : QO X W a wa) (hl : QP X W lo pl) (hh : QP X W hi ph) : QF X W (.Subscript a (.Slice lo hi none p2) pos) (wSl wa pl ph) := (pe_slice sl_list ha hl hh).le fun σ H Q h => by
  obtain ⟨x, G, env, Q', X', r, hw, hn, hx⟩ := h
  refine ⟨x, G, env, _, X', r, hw, fun h e1 v G1 H1 s1 r1 q1 hw1 => ⟨x, G1, e1, _, X', r1, hw1, fun lo' e2 G2 H2 s2 r2 hw2 => ⟨x, G2, e2, _, X', r2, hw2, fun hi' e3 G3 H3 s3 r3 hw3 => ?_, hx.up (s1.trans s2)⟩, hx.up s1⟩, hx⟩
  obtain ⟨d, z1, hw3⟩ := mo_some hw3
  obtain ⟨ds, z2, hw3⟩ := mo_some hw3
  rw [lstOf_some z2] at z1
  obtain ⟨a1, vs1, rfl, q, rr⟩ := ((q1.mono s2).mono s3).read r3 z1
  refine ⟨a1, vs1, rfl, q, fun p hp => ?_⟩
  obtain ⟨f1, f2, f3⟩ := fresh_F r3 hp
  exact hn (.lst (cutD ds lo' hi')) e3 p _ G3 _ ((s1.trans s2).trans s3) (r3.step (Step.junk r3.sG _ hp)) upd_same ⟨_, rfl, rr.cut lo' hi'⟩ f2 f1 f3 hw3

theorem qe_callB {r : List V → Hp → VK → Prop} {k : List D → (D → Prop) → Prop} {id : String} {x : Str} (hc : CallR X (.builtin id) r) (hk : SemN X.K r k) (hg : Gl X x) (hm : X.mg x = none) (hb : bootBuiltins x = some (.builtin id)) (ha : QA X W (e :: es) wl)
    (hn : x ≠ "__name__" := by decide) (hdb : (x == ("__debug__" : Str)) = false := by decide) (he : starEach (e :: es) X.env = (false, eval e X.env) :: starEach es X.env := by rfl) (hpl : (backTo pos (starEach es X.env)).any (·.1) = false := by rfl) :
    QE X W (.Call (.Name x p) (e :: es) [] pos) (wN k wl) := (pe_callB hc hg hm hb ha hn hdb he hpl).le (lN hk)
theorem qe_callTy {r : List V → Hp → VK → Prop} {k : List D → (D → Prop) → Prop} {T : String} {x : Str} (hc : CallR X (.type T) r) (hk : SemN X.K r k) (hg : Gl X x) (hm : X.mg x = none) (hb : bootBuiltins x = some (.type T)) (ha : QA X W (e :: es) wl)
    (hn : x ≠ "__name__" := by decide) (hdb : (x == ("__debug__" : Str)) = false := by decide) (he : starEach (e :: es) X.env = (false, eval e X.env) :: starEach es X.env := by rfl) (hpl : (backTo pos (starEach es X.env)).any (·.1) = false := by rfl) :
    QE X W (.Call (.Name x p) (e :: es) [] pos) (wN k wl) := (pe_callTy hc hg hm hb ha hn hdb he hpl).le (lN hk)
theorem RepTs.one {G H : Hp} {ds : List D} {vs : List V} {d : D} (h : RepTs K G H ds vs) (e : ds = [d]) : ∃ v, vs = [v] ∧ RepT K G H d v := by
  subst e
  obtain ⟨v, r, rfl, q, z⟩ := h
  have z' : r = [] := z
  exact ⟨v, by rw [z'], q⟩
def one : List D → Option D
  | [d] => some d
  | _ => none
theorem one_some {ds : List D} {d : D} (h : one ds = some d) : ds = [d] := by
  unfold one at h
  split at h
  · cases h
    rfl
  · cases h
def kLen : List D → (D → Prop) → Prop := fun ds P => mo (one ds) fun d => mo (seqOf d) fun xs => P (.int xs.length)
theorem sem_len : SemN K (fun xs H Q => ∃ p ys, xs = [.ref p] ∧ (SqL K H p ys ∨ SqT K H p ys) ∧ Q (.int ys.length) H) kLen := fun G H ds vs P Q s h hk hq => by
  obtain ⟨d, z, hk⟩ := mo_some hk
  obtain ⟨xs, z2, hk⟩ := mo_some hk
  obtain ⟨v, rfl, rt⟩ := h.one (one_some z)
  rcases seqOf_some z2 with z2 | z2 <;> rw [z2] at rt
  · obtain ⟨a, ws, rfl, q, r⟩ := rt
    exact ⟨a, ws, rfl, .inl q, hq (.int xs.length) _ G H (.refl s) (by rw [r.length]; rfl) hk⟩
  · obtain ⟨a, ws, rfl, q, r, _⟩ := rt
    exact ⟨a, ws, rfl, .inr q, hq (.int xs.length) _ G H (.refl s) (by rw [r.length]; rfl) hk⟩
theorem qe_len (hm : X.mg "len" = none) (ha : QO X W e wa) (hg : Gl X "len" := by rfl) (he : starEach [e] X.env = (false, eval e X.env) :: starEach [] X.env := by rfl) (hpl : (backTo pos (starEach [] X.env)).any (·.1) = false := by rfl) :
    QE X W (.Call (.Name "len" p) [e] [] pos) (wN kLen (aCons wa aNil)) := qe_callB call_len_seq sem_len hg hm PySem.boot_len (qa_cons ha qa_nil he) (he := he) (hpl := hpl)
def kAbs : List D → (D → Prop) → Prop := fun ds P => mo (one ds) fun d => mo (intOf d) fun i => P (.int (if i < 0 then -i else i))
theorem qe_abs (hm : X.mg "abs" = none) (ha : QO X W e wa) (hg : Gl X "abs" := by rfl) (he : starEach [e] X.env = (false, eval e X.env) :: starEach [] X.env := by rfl) (hpl : (backTo pos (starEach [] X.env)).any (·.1) = false := by rfl) :
    QE X W (.Call (.Name "abs" p) [e] [] pos) (wN kAbs (aCons wa aNil)) := qe_callB call_abs (fun G H ds vs P Q s h hk hq => by
      obtain ⟨d, z, hk⟩ := mo_some hk
      obtain ⟨i, z2, hk⟩ := mo_some hk
      obtain ⟨v, rfl, rt⟩ := h.one (one_some z)
      rw [intOf_some z2] at rt
      have e : v = .int i := rt
      rw [e]
      exact ⟨i, rfl, hq (.int (if i < 0 then -i else i)) _ G H (.refl s) rfl hk⟩) hg hm (by decide +kernel) (qa_cons ha qa_nil he) (he := he) (hpl := hpl)
def toI : D → Option Int
  | .int i => some i
  | .bl b => some (if b then 1 else 0)
  | _ => none
def kInt : List D → (D → Prop) → Prop := fun ds P => mo (one ds) fun d => mo (toI d) fun i => P (.int i)
theorem qe_intc (hm : X.mg "int" = none) (ha : QO X W e wa) (hg : Gl X "int" := by rfl) (he : starEach [e] X.env = (false, eval e X.env) :: starEach [] X.env := by rfl) (hpl : (backTo pos (starEach [] X.env)).any (·.1) = false := by rfl) :
    QE X W (.Call (.Name "int" p) [e] [] pos) (wN kInt (aCons wa aNil)) := qe_callTy call_int1 (fun G H ds vs P Q s h hk hq => by
      obtain ⟨d, z, hk⟩ := mo_some hk
      obtain ⟨i, z2, hk⟩ := mo_some hk
      obtain ⟨v, rfl, rt⟩ := h.one (one_some z)
      cases d with
      | int j =>
        have e : v = .int j := rt
        rw [e]
        have z3 : j = i := Option.some.inj z2
        subst z3
        exact .inl ⟨j, rfl, hq (.int j) _ G H (.refl s) rfl hk⟩
      | bl b =>
        have e : v = .bl b := rt
        rw [e]
        have z3 : (if b then 1 else 0 : Int) = i := Option.some.inj z2
        subst z3
        exact .inr ⟨b, rfl, hq (.int (if b then 1 else 0)) _ G H (.refl s) rfl hk⟩
      | _ => cases z2) hg hm (by decide +kernel) (qa_cons ha qa_nil he) (he := he) (hpl := hpl)
def kList : List D → (D → Prop) → Prop := fun ds P => mo (one ds) fun d => mo (seqOf d) fun xs => P (.lst xs)
def kTuple : List D → (D → Prop) → Prop := fun ds P => mo (one ds) fun d => mo (seqOf d) fun xs => P (.tup xs)
end
end TL

namespace TL
open PySem PySem.Spec L2
section
variable {K : PySem.W.Frag} {x : Fx} {G H G' H' : Hp} {σ : St} {env : Ev} {p : Addr} {o : HO}
theorem ER.hide (r : ER K x G H σ env) (hp : H p = some o) (hG : G p = none) (ho : ∀ (j : Nat) b d', env[j]? = some (.ow b d') → σ[j]? ≠ some (some (.ref p))) : ER K { x with F := upd x.F p o } G H σ env where
  len := r.len
  sG := r.sG
  sF := fun a u e => by
    by_cases z : a = p
    · subst z
      have e' : upd x.F a o a = some u := e
      rw [upd_same] at e'
      cases e'
      exact hp
    · have e' : upd x.F p o a = some u := e
      rw [upd_ne z] at e'
      exact r.sF a u e'
  dj := fun a u e => by
    by_cases z : a = p
    · subst z
      exact .inl hG
    · have e' : upd x.F p o a = some u := e
      rw [upd_ne z] at e'
      exact r.dj a u e'
  im := r.im
  ow := fun i b d e => by
    obtain ⟨p2, o2, z1, z2, z3, z4, z5⟩ := r.ow i b d e
    refine ⟨p2, o2, z1, z2, z3, ?_, z5⟩
    show upd x.F p o p2 = none
    rw [upd_ne fun z => ho i b d e (by rw [← z]; exact z1)]
    exact z4
  nd := r.nd
  rt := r.rt
theorem ER.unhide (r : ER K { x with F := upd x.F p o } G H σ env) (hnt : ¬ ∃ vs, o = .tup vs) (hF : x.F p = none) : ER K x G H σ env ∧ H p = some o ∧ G p = none ∧ (∀ (j : Nat) b d', env[j]? = some (.ow b d') → σ[j]? ≠ some (some (.ref p))) := by
  have sF' : Same x.F H := fun a u e => r.sF a u (by
    show upd x.F p o a = some u
    rw [upd_ne fun z => by rw [z, hF] at e; cases e]
    exact e)
  refine ⟨⟨r.len, r.sG, sF', fun a u e => r.dj a u (by
    show upd x.F p o a = some u
    rw [upd_ne fun z => by rw [z, hF] at e; cases e]
    exact e), r.im, fun i b d e => ?_, r.nd, r.rt⟩, r.sF p o upd_same, (r.dj p o upd_same).resolve_right hnt, fun j b d' e z => ?_⟩
  · obtain ⟨p2, o2, z1, z2, z3, z4, z5⟩ := r.ow i b d e
    have z4' : upd x.F p o p2 = none := z4
    have ne : p2 ≠ p := fun z => by
      rw [z, upd_same] at z4'
      cases z4'
    rw [upd_ne ne] at z4'
    exact ⟨p2, o2, z1, z2, z3, z4', z5⟩
  · obtain ⟨p2, o2, z1, z2, z3, z4, z5⟩ := r.ow j b d' e
    have z4' : upd x.F p o p2 = none := z4
    rw [z] at z1
    cases z1
    rw [upd_same] at z4'
    cases z4'
end

structure En where
  nx : Ev → Prop
  rt : D → Ev → Prop
  ro : D → Ev → Prop := fun _ _ => False
  bk : Ev → Prop := fun _ => False
  ct : Ev → Prop := fun _ => False
  xc : XP := fun _ _ => False
abbrev WS := Ev → En → Prop
structure SEnd (K : PySem.W.Frag) (W : WX) (x : Fx) (G : Hp) (De : Ends) (E' : En) : Prop where
  nx : ∀ env' σ' G' H', Same G G' → ER K x G' H' σ' env' → E'.nx env' → De.nx σ' H'
  rt : ∀ d env' σ' v G' H', Same G G' → ER K x G' H' σ' env' → Rep K G' d v → E'.rt d env' → De.rt v H'
  ro : ∀ d env' σ' p o G' H', Same G G' → ER K x G' H' σ' env' → H' p = some o → RepO K G' d o → G' p = none → x.F p = none → (∀ i, x.R i ≠ some p) → E'.ro d env' → De.rt (.ref p) H'
  bk : ∀ env' σ' G' H', Same G G' → ER K x G' H' σ' env' → E'.bk env' → De.bk σ' H'
  ct : ∀ env' σ' G' H', Same G G' → ER K x G' H' σ' env' → E'.ct env' → De.ct σ' H'
  xc : ∀ e env' cls dd σ' G' H', Same G G' → ER K x G' H' σ' env' → XRep K G' e cls dd → E'.xc e env' → W cls dd σ' H'
def lS (K : PySem.W.Frag) (W : WX) (w : WS) : TS := fun De σ H => ∃ x G env E', ER K x G H σ env ∧ w env E' ∧ SEnd K W x G De E'
abbrev QS (X : Cx) (W : WX) (st : Stmt) (w : WS) : Prop := PS X st (lS X.K W w)
abbrev QSs (X : Cx) (W : WX) (st : List Stmt) (w : WS) : Prop := PSs X st (lS X.K W w)
section
variable {K : PySem.W.Frag} {W : WX} {x : Fx} {G G1 : Hp} {De : Ends} {E' : En}
theorem SEnd.up (h : SEnd K W x G De E') (s : Same G G1) : SEnd K W x G1 De E' where
  nx := fun env' σ' G' H' s' => h.nx env' σ' G' H' (s.trans s')
  rt := fun d env' σ' v G' H' s' => h.rt d env' σ' v G' H' (s.trans s')
  ro := fun d env' σ' p o G' H' s' => h.ro d env' σ' p o G' H' (s.trans s')
  bk := fun env' σ' G' H' s' => h.bk env' σ' G' H' (s.trans s')
  ct := fun env' σ' G' H' s' => h.ct env' σ' G' H' (s.trans s')
  xc := fun e env' cls dd σ' G' H' s' => h.xc e env' cls dd σ' G' H' (s.trans s')
theorem SEnd.xe (h : SEnd K W x G De E') (σ : St) : Xend K W x G σ E'.xc := fun e env' cls dd G' H' s' => h.xc e env' cls dd σ G' H' s'
end
section
variable {X : Cx} {W : WX} {a b c e : Expr} {pos p : Pos} {wa wb : WO} {we wf : WE} {wl : WA} {es : List Expr} {st : Stmt} {rest : List Stmt} {w u : WS} {wt : WT}
def sNext : WS := fun env E => E.nx env
def sSeq (w u : WS) : WS := fun env E => w env { E with nx := fun e => u e E }
theorem qss_nil : QSs X W [] sNext := pss_nil.le fun De σ H h => by
  obtain ⟨x, G, env, E', r, hw, hE⟩ := h
  exact hE.nx env σ G H (.refl _) r hw
theorem qss_cons (h1 : QS X W st w) (h2 : QSs X W rest u) : QSs X W (st :: rest) (sSeq w u) := (pss_cons h1 h2).le fun De σ H h => by
  obtain ⟨x, G, env, E', r, hw, hE⟩ := h
  exact ⟨x, G, env, _, r, hw, ⟨fun env' σ' G' H' s r' q => ⟨x, G', env', E', r', q, hE.up s⟩, hE.rt, hE.ro, hE.bk, hE.ct, hE.xc⟩⟩
theorem qss_one (h1 : QS X W st w) : QSs X W [st] w := pss_one h1
def sRet (w : WE) : WS := fun env E => w env (fun d e => E.rt d e) E.xc
theorem qs_ret (he : QE X W e we) : QS X W (.Return (some e) pos) (sRet we) := (ps_ret he).le fun De σ H h => by
  obtain ⟨x, G, env, E', r, hw, hE⟩ := h
  refine ⟨x, G, env, _, E'.xc, r, imO_mono hw, fun h env' v G' H' s r' q hq => ?_, hE.xe σ⟩
  obtain ⟨d, rfl, hq⟩ := hq
  exact hE.rt d env' σ v G' H' s r' q hq
def sRetF (w : WE) : WS := fun env E => w env (fun d e => E.ro d e) E.xc
theorem qs_retF (he : QF X W e we) : QS X W (.Return (some e) pos) (sRetF we) := (ps_ret he).le fun De σ H h => by
  obtain ⟨x, G, env, E', r, hw, hE⟩ := h
  refine ⟨x, G, env, _, E'.xc, r, hw, fun d env' p o G' H' s r' hp q hG hF ho hq => hE.ro d env' σ p o G' H' s r' hp q hG hF (fun i z => ?_) hq, hE.xe σ⟩
  obtain ⟨z1, d2, z2⟩ := r'.rt i p z
  exact ho i true d2 z2 z1
def lowAt (env : Ev) (i : Nat) : Option D := match env[i]? with
  | some (.ow false d) => some d
  | _ => none
def sIf (wt : WT) (w u : WS) : WS := fun env E => wt env (fun k e => if k = true then w e E else u e E) E.xc
theorem qs_if {l1 l2 : List Stmt} (hc : QT X W c wt) (ha : QSs X W l1 w) (hb : QSs X W l2 u) : QS X W (.If c l1 l2 pos) (sIf wt w u) := (ps_if hc ha hb).le fun De σ H h => by
  obtain ⟨x, G, env, E', r, hw, hE⟩ := h
  refine ⟨x, G, env, _, E'.xc, r, hw, fun k e G' H' s r' q => ?_, hE.xe σ⟩
  cases k with
  | true => exact ⟨x, G', e, E', r', q, hE.up s⟩
  | false => exact ⟨x, G', e, E', r', q, hE.up s⟩

def nr (env : Ev) (i : Nat) : Bool := match env[i]? with
  | some (.ow true _) => false
  | _ => true
theorem nr_ok {env : Ev} {i : Nat} (h : nr env i = true) (d : D) : env[i]? ≠ some (.ow true d) := fun e => by
  unfold nr at h
  rw [e] at h
  cases h
abbrev WG := D → Ev → (Ev → Prop) → Prop
abbrev WGs := List D → Ev → (Ev → Prop) → Prop
def lG (K : PySem.W.Frag) (g : WG) : TG := fun v σ H Q => ∃ x G env d Q', ER K x G H σ env ∧ Rep K G d v ∧ g d env Q' ∧ (∀ env' σ' G' H', Same G G' → ER K x G' H' σ' env' → Q' env' → Q σ' H')
def lGs (K : PySem.W.Frag) (g : WGs) : TGs := fun vs σ H Q => ∃ x G env ds Q', ER K x G H σ env ∧ Reps K G ds vs ∧ g ds env Q' ∧ (∀ env' σ' G' H', Same G G' → ER K x G' H' σ' env' → Q' env' → Q σ' H')
theorem _root_.L2.PGs.le {X : Cx} {ts : List Expr} {t t' : TGs} (h : PGs X ts t) (i : ∀ v σ H Q, t' v σ H Q → t v σ H Q) : PGs X ts t' := ⟨fun pins s σ H v u Q I r hw => h.run pins s σ H v u Q I r (i v σ H Q hw)⟩
abbrev QG (X : Cx) (tg : Expr) (g : WG) : Prop := PG X tg (lG X.K g)
abbrev QGs (X : Cx) (ts : List Expr) (g : WGs) : Prop := PGs X ts (lGs X.K g)
def gN (i : Nat) : WG := fun d env Q => nr env i = true ∧ Q (env.set i (.im d))
def gNilD : WGs := fun ds env Q => ds = [] ∧ Q env
def gConsD (g : WG) (u : WGs) : WGs := fun ds env Q => match ds with
  | [] => False
  | d :: r => g d env fun e => u r e Q
def gT (u : WGs) (n : Nat) : WG := fun d env Q => mo (tupOf d) fun ds => ds.length = n ∧ u ds env Q
theorem qg_name {i : Nat} {n : Str} (hN : X.N.Nodup) (hi : X.N[i]? = some n) (hx : Loc X.env.scope n) (hf : X.fn n = true ∨ X.env.scope.names.lookup n = some .local := by first | exact .inl rfl | exact .inr rfl | assumption) : QG X (.Name n pos) (gN i) := (pg_name hN hi hx hf).le fun v σ H Q h => by
  obtain ⟨x, G, env, d, Q', r, q, ⟨hn, hw⟩, hq⟩ := h
  exact hq _ _ G H (.refl _) (r.setIm q (r.noR (nr_ok hn))) hw
theorem qgs_nil : QGs X [] gNilD := pgs_nil.le fun vs σ H Q h => by
  obtain ⟨x, G, env, ds, Q', r, q, ⟨rfl, hw⟩, hq⟩ := h
  unfold Reps at q
  exact ⟨q, hq env σ G H (.refl _) r hw⟩
theorem qgs_cons {g : WG} {gu : WGs} (h1 : QG X e g) (h2 : QGs X es gu) (hs : (assignEach (e :: es) X.env).map (·.2) = assign e X.env :: (assignEach es X.env).map (·.2) := by rfl) : QGs X (e :: es) (gConsD g gu) := (pgs_cons h1 h2 hs).le fun vs σ H Q h => by
  obtain ⟨x, G, env, ds, Q', r, q, hw, hq⟩ := h
  cases ds with
  | nil => exact hw.elim
  | cons d ds =>
    unfold Reps at q
    obtain ⟨v, vr, rfl, q1, q2⟩ := q
    exact ⟨v, vr, rfl, x, G, env, d, _, r, q1, hw, fun env' σ' G' H' s r' hu => ⟨x, G', env', ds, Q', r', Reps.mono s _ _ q2, hu, fun e2 σ2 G2 H2 s2 => hq e2 σ2 G2 H2 (s.trans s2)⟩⟩
theorem qg_tup {k n : Nat} {gu : WGs} (hc : X.calm = true) (h : QGs X es gu) (hn : (assignEach es X.env).length = n := by rfl) (hst : (assignEach es X.env).findIdx? (·.1) = none := by rfl) : QG X (.Tuple es k pos) (gT gu n) := (pg_tup hc h hn hst).le fun v σ H Q h => by
  obtain ⟨x, G, env, d, Q', r, q, hw, hq⟩ := h
  obtain ⟨ds, z, hl, hw⟩ := mo_some hw
  rw [tupOf_some z] at q
  unfold Rep at q
  obtain ⟨a, vs, rfl, q1, q2⟩ := q
  exact ⟨a, vs, rfl, sameT r.sG q1, by rw [q2.length]; exact hl, x, G, env, ds, Q', r, q2, hw, hq⟩

def sAsg (w : WE) (g : WG) : WS := fun env E => w env (fun d e => g d e E.nx) E.xc
theorem qs_set {i : Nat} {n : Str} {pos' : Pos} (hN : X.N.Nodup) (hi : X.N[i]? = some n) (hx : Loc X.env.scope n) (he : QE X W e we) (hs : swapsWith e (some (.Name n pos')) pos.line X.env = pure false := by rfl) (hf : X.fn n = true ∨ X.env.scope.names.lookup n = some .local := by first | exact .inl rfl | exact .inr rfl | assumption) :
    QS X W (.Assign [.Name n pos'] e pos) (sAsg we (gN i)) := (ps_set hN hi hx he hs hf).le fun De σ H h => by
  obtain ⟨x, G, env, E', r, hw, hE⟩ := h
  refine ⟨x, G, env, _, E'.xc, r, imO_mono hw, fun h env' v G' H' s r' q hq => ?_, hE.xe σ⟩
  obtain ⟨d, rfl, hn, hq⟩ := hq
  exact hE.nx _ _ G' H' s (r'.setIm q (r'.noR (nr_ok hn))) hq
def sOwn (w : WE) (i : Nat) : WS := fun env E => w env (fun d e => nr e i = true ∧ E.nx (e.set i (.ow false d))) E.xc
theorem qs_own {i : Nat} {n : Str} {pos' : Pos} (hN : X.N.Nodup) (hi : X.N[i]? = some n) (hx : Loc X.env.scope n) (he : QF X W e we) (hs : swapsWith e (some (.Name n pos')) pos.line X.env = pure false := by rfl) (hf : X.fn n = true ∨ X.env.scope.names.lookup n = some .local := by first | exact .inl rfl | exact .inr rfl | assumption) :
    QS X W (.Assign [.Name n pos'] e pos) (sOwn we i) := (ps_set hN hi hx he hs hf).le fun De σ H h => by
  obtain ⟨x, G, env, E', r, hw, hE⟩ := h
  refine ⟨x, G, env, _, E'.xc, r, hw, fun d env' p o G' H' s r' hp q hG hF ho hq => ?_, hE.xe σ⟩
  exact hE.nx _ _ G' H' s (r'.setOw hp q hF hG (r'.noR (nr_ok hq.1)) ho) hq.2
theorem nr_set {env : Ev} {i j : Nat} {d : D} (h : nr env j = true) : nr (env.set i (.im d)) j = true := by
  by_cases z : i = j
  · subst z
    unfold nr
    by_cases hl : i < env.length
    · rw [List.getElem?_set_self hl]
    · rw [List.getElem?_eq_none (by rw [List.length_set]; omega)]
  · unfold nr
    rw [List.getElem?_set_ne z]
    exact h
end
end TL

namespace TL
open PySem PySem.Spec L2
section
variable {X : Cx} {W : WX} {a b c e : Expr} {pos p : Pos} {wa wb : WO} {we wf : WE} {wl : WA} {es : List Expr} {st : Stmt} {rest : List Stmt} {w u : WS} {wt : WT} {K : PySem.W.Frag}

def putOw (env : Ev) (i : Nat) (d : D) : Ev := match env[i]? with
  | some (.ow b _) => env.set i (.ow b d)
  | _ => env
theorem putOw_eq {env : Ev} {i : Nat} {b : Bool} {d d' : D} (h : env[i]? = some (.ow b d)) : putOw env i d' = env.set i (.ow b d') := by
  unfold putOw
  rw [h]
theorem ER.putOw {x : Fx} {G H : Hp} {σ : St} {env : Ev} (r : ER K x G H σ env) {i : Nat} {b : Bool} {d d' : D} {p : Addr} {o : HO} (e : env[i]? = some (.ow b d)) (es : σ[i]? = some (some (.ref p))) (q : RepO K G d' o) : ER K x G (upd H p o) σ (putOw env i d') := by
  rw [putOw_eq e]
  exact r.write e es q
def sSetIx (i : Nat) (wi : WE) (we : WE) : WS := fun env E => we env (fun d e1 => mo (owAt e1 i) fun _ => wi e1 (fun di e2 => mo (intOf di) fun k => mo (owAt e2 i) fun o => mo (lstOf o) fun ds => mo (ixN ds.length k) fun j => E.nx (putOw e2 i (.lst (ds.set j d)))) E.xc) E.xc
theorem qs_setix (i : Nat) {ix : Expr} {wi : WE} {n : Str} {np p2 : Pos} (he : QE X W e we) (hi : QE X W ix wi) (hN : X.N[i]? = some n := by rfl) (hvs : Vis X.env.scope n := by first | exact Or.inl rfl | exact Or.inr (Or.inl rfl) | exact Or.inr (Or.inr rfl)) (hd : (n == ("__debug__" : Str)) = false := by decide)
    (hcd : (n == ("__classdict__" : Str)) = false := by decide)
    (ha : ∀ v, assign (.Subscript (.Name n np) ix p2) X.env v = (do
      let ov ← holding [v] (eval (.Name n np) X.env)
      let iv ← holding [v, ov] (eval ix X.env)
      standAt p2
      holding [v, ov, iv] (setItem ov iv v)
      release [v, ov, iv] []) := by intro _; rfl)
    (hs : swapsWithSole [.Subscript (.Name n np) ix p2] e pos.line X.env = pure false := by rfl) (hw : swappedStores [.Subscript (.Name n np) ix p2] e X.env = pure none := by rfl)
    (h1 : (assignEach [.Subscript (.Name n np) ix p2] X.env).map (·.2) = [assign (.Subscript (.Name n np) ix p2) X.env] := by rfl) :
    QS X W (.Assign [.Subscript (.Name n np) ix p2] e pos) (sSetIx i wi we) := (ps_asg he (pg_sub (pe_var hN hvs hd hcd) hi set_list ha) hs hw h1).le fun De σ H h => by
  obtain ⟨x, G, env, E', r, hw, hE⟩ := h
  refine ⟨x, G, env, _, E'.xc, r, imO_mono hw, fun h e1 v G1 H1 s1 r1 q1 hq => ?_, hE.xe σ⟩
  obtain ⟨d, rfl, hq⟩ := hq
  obtain ⟨o1, y0, hq⟩ := mo_some hq
  obtain ⟨b0, y0⟩ := owAt_some y0
  obtain ⟨p1, ob1, v1, _⟩ := r1.ow i b0 _ y0
  refine ⟨.ref p1, v1, x, G1, e1, _, E'.xc, r1, imO_mono hq, fun h e2 v2 G2 H2 s2 r2 q2 hq => ?_, (hE.up s1).xe σ⟩
  obtain ⟨di, rfl, hq⟩ := hq
  obtain ⟨k, y1, hq⟩ := mo_some hq
  obtain ⟨o, y2, hq⟩ := mo_some hq
  obtain ⟨ds, y3, hq⟩ := mo_some hq
  obtain ⟨j, y4, hq⟩ := mo_some hq
  obtain ⟨b1, y2⟩ := owAt_some y2
  rw [lstOf_some y3] at y2
  obtain ⟨p2, ob, u1, u2, u3, u4, u5⟩ := r2.ow i b1 _ y2
  rw [v1] at u1
  cases u1
  obtain ⟨xs, rfl, u3⟩ := u3
  rw [intOf_some y1] at q2
  have e2' : v2 = .int k := q2
  refine ⟨p1, xs, k, j, rfl, e2', u2, by rw [u3.length]; exact y4, ?_⟩
  exact hE.nx _ σ G2 _ (s1.trans s2) (r2.putOw (d' := .lst (ds.set j d)) y2 v1 ⟨_, rfl, u3.set j (Rep.mono s2 _ _ q1)⟩) hq

abbrev WI := Ev → (List D → Ev → Prop) → XP → Prop
structure Walk (K : PySem.W.Frag) (G F : Hp) (ds : List D) (J : It) : Prop where
  go : ∀ i H, Same G H → Same F H → i < ds.length → J.go i H
  stop : ∀ i H, Same G H → Same F H → ds.length ≤ i → J.stop i H
  yld : ∀ i H v H' d G1, Same G G1 → Same G1 H → Same F H → ds[i]? = some d → J.yld i H v H' → ∃ G2, Step G1 H G2 H' ∧ Rep K G2 d v
def lI (K : PySem.W.Frag) (W : WX) (w : WI) : TI := fun σ H R => ∃ x G env Q' X', ER K x G H σ env ∧ w env Q' X' ∧
  (∀ ds env' G' H' J, Same G G' → ER K x G' H' σ env' → Walk K G' x.F ds J → Q' ds env' → R J H') ∧ Xend K W x G σ X'
abbrev QI (X : Cx) (W : WX) (tg iter : Expr) (w : WI) : Prop := PI X tg iter (lI X.K W w)
def iLst (w : WE) : WI := fun env Q Xp => w env (fun d e => mo (lstOf d) fun ds => Q ds e) Xp
def iTpl (w : WE) : WI := fun env Q Xp => w env (fun d e => mo (tupOf d) fun ds => Q ds e) Xp
theorem walk_list {G F : Hp} {ds : List D} {vs : List V} {q : Addr} (h : SqL K G q vs) (r : Reps K G ds vs) : Walk K G F ds (Itl K q) where
  go := fun i H s _ hi => by
    have hv : i < vs.length := by rw [r.length]; exact hi
    exact ⟨vs, vs[i], s.seq h, List.getElem?_eq_getElem hv⟩
  stop := fun i H s _ hi => ⟨vs, s.seq h, by rw [r.length]; exact hi⟩
  yld := fun i H v H' d G1 s1 s2 _ e y => by
    obtain ⟨rfl, y⟩ := y
    obtain ⟨v', e', q'⟩ := r.get e
    have z := y vs ((s1.trans s2).seq h)
    rw [e'] at z
    cases z
    exact ⟨G1, .refl s2, Rep.mono s1 _ _ q'⟩
theorem walk_tup {G F : Hp} {ds : List D} {vs : List V} {q : Addr} (h : SqT K G q vs) (r : Reps K G ds vs) : Walk K G F ds (Itt K q) where
  go := fun i H s _ hi => by
    have hv : i < vs.length := by rw [r.length]; exact hi
    exact ⟨vs, vs[i], sameT s h, List.getElem?_eq_getElem hv⟩
  stop := fun i H s _ hi => ⟨vs, sameT s h, by rw [r.length]; exact hi⟩
  yld := fun i H v H' d G1 s1 s2 _ e y => by
    obtain ⟨rfl, y⟩ := y
    obtain ⟨v', e', q'⟩ := r.get e
    have z := y vs (sameT (s1.trans s2) h)
    rw [e'] at z
    cases z
    exact ⟨G1, .refl s2, Rep.mono s1 _ _ q'⟩
theorem qi_list {tg : Expr} (h : QE X W e we) : QI X W tg e (iLst we) := (pi_list h).le fun σ H R h => by
  obtain ⟨x, G, env, Q', X', r, hw, hn, hx⟩ := h
  refine ⟨x, G, env, _, X', r, imO_mono hw, fun h env' v G' H' s r' q hq => ?_, hx⟩
  obtain ⟨d, rfl, hq⟩ := hq
  obtain ⟨ds, z, hq⟩ := mo_some hq
  rw [lstOf_some z] at q
  have q' : Rep X.K G' (.lst ds) v := q
  unfold Rep at q'
  obtain ⟨b, vs, rfl, q1, q2⟩ := q'
  exact ⟨b, rfl, ⟨vs, r'.sG.seq q1⟩, hn ds env' G' H' _ s r' (walk_list q1 q2) hq⟩
theorem qi_tup {tg : Expr} (h : QE X W e we) : QI X W tg e (iTpl we) := (pi_tup h).le fun σ H R h => by
  obtain ⟨x, G, env, Q', X', r, hw, hn, hx⟩ := h
  refine ⟨x, G, env, _, X', r, imO_mono hw, fun h env' v G' H' s r' q hq => ?_, hx⟩
  obtain ⟨d, rfl, hq⟩ := hq
  obtain ⟨ds, z, hq⟩ := mo_some hq
  rw [tupOf_some z] at q
  have q' : Rep X.K G' (.tup ds) v := q
  unfold Rep at q'
  obtain ⟨b, vs, rfl, q1, q2⟩ := q'
  exact ⟨b, rfl, ⟨vs, sameT r'.sG q1⟩, hn ds env' G' H' _ s r' (walk_tup q1 q2) hq⟩
def rgD (lo : Int) (n : Nat) : List D := (List.range n).map fun i => .int (lo + (i : Nat))
theorem walk_range {G F : Hp} {lo : Int} {n : Nat} : Walk K G F (rgD lo n) (Itr lo n) where
  go := fun i H s _ hi => by
    unfold rgD at hi
    rw [List.length_map, List.length_range] at hi
    exact hi
  stop := fun i H s _ hi => by
    unfold rgD at hi
    rw [List.length_map, List.length_range] at hi
    exact hi
  yld := fun i H v H' d G1 s1 s2 _ e y => by
    obtain ⟨rfl, rfl⟩ := y
    unfold rgD at e
    rw [List.getElem?_map] at e
    cases z : (List.range n)[i]? with
    | none =>
      rw [z] at e
      cases e
    | some j =>
      rw [z] at e
      have ej : i = j := by
        obtain ⟨h1, h2⟩ := List.getElem?_eq_some_iff.mp z
        rw [List.getElem_range] at h2
        exact h2
      subst ej
      cases e
      exact ⟨G1, .refl s2, rfl⟩
def iR1 (w : WE) : WI := fun env Q Xp => w env (fun d e => mo (intOf d) fun j => (-1000000000000000000 ≤ j ∧ j ≤ 1000000000000000000) ∧ Q (rgD 0 j.toNat) e) Xp
theorem qi_range1 {tg : Expr} (hm : X.mg "range" = none) (ha : QE X W e we) (hg : Gl X "range" := by rfl) (hs : starEach [e] X.env = [(false, eval e X.env)] := by rfl) (hs2 : starEach [e] X.env = (false, eval e X.env) :: starEach [] X.env := by rfl) :
    QI X W tg (.Call (.Name "range" p) [e] [] pos) (iR1 we) := (pi_range1 hg hm (pa_cons ha pa_nil hs2) hs).le fun σ H R h => by
  obtain ⟨x, G, env, Q', X', r, hw, hn, hx⟩ := h
  refine ⟨x, G, env, _, X', r, imO_mono hw, fun h env' v G' H' s r' q hq => ?_, hx⟩
  obtain ⟨d, rfl, hq⟩ := hq
  obtain ⟨j, z, hb, hq⟩ := mo_some hq
  rw [intOf_some z] at q
  have q' : v = .int j := q
  exact ⟨j, by rw [q'], by omega, by omega, hn _ env' G' H' _ s r' walk_range hq⟩
def enD (ds : List D) : List D := (List.range ds.length).zipWith (fun i d => .tup [.int (i : Nat), d]) ds
theorem enD_get {ds : List D} {i : Nat} : (enD ds)[i]? = ds[i]?.map fun d => .tup [.int (i : Nat), d] := by
  unfold enD
  rw [List.getElem?_zipWith]
  by_cases h : i < ds.length
  · rw [List.getElem?_eq_getElem (by rw [List.length_range]; exact h), List.getElem_range, List.getElem?_eq_getElem h]
    rfl
  · rw [List.getElem?_eq_none (by rw [List.length_range]; omega), List.getElem?_eq_none (by omega)]
    rfl
theorem enD_length (ds : List D) : (enD ds).length = ds.length := by
  unfold enD
  rw [List.length_zipWith, List.length_range]
  omega
theorem walk_enum {G F : Hp} {ds : List D} {vs : List V} {q : Addr} (h : SqL K G q vs) (r : Reps K G ds vs) : Walk K G F (enD ds) (Ite K q) where
  go := fun i H s _ hi => by
    have hv : i < vs.length := by rw [r.length, ← enD_length]; exact hi
    exact ⟨vs, vs[i], s.seq h, List.getElem?_eq_getElem hv⟩
  stop := fun i H s _ hi => ⟨vs, s.seq h, by rw [r.length, ← enD_length]; exact hi⟩
  yld := fun i H v H' d G1 s1 s2 _ e y => by
    obtain ⟨T, x, rfl, hT, rfl, y⟩ := y
    rw [enD_get] at e
    cases z : ds[i]? with
    | none =>
      rw [z] at e
      cases e
    | some d0 =>
      rw [z] at e
      cases e
      obtain ⟨v', e', q'⟩ := r.get z
      have z := y vs ((s1.trans s2).seq h)
      rw [e'] at z
      have z' : v' = x := Option.some.inj z
      subst z'
      have st := Step.one s2 (.tup [.int (i : Nat), v']) hT
      refine ⟨_, st, ?_⟩
      unfold Rep
      exact ⟨T, _, rfl, SqT.of upd_same, Reps.cons rfl (Reps.cons (Rep.mono (s1.trans st.g) _ _ q') Reps.nil)⟩
def iEn (w : WE) : WI := fun env Q Xp => w env (fun d e => mo (lstOf d) fun ds => Q (enD ds) e) Xp
theorem qi_enum {elts : List Expr} {kk : Nat} {tpos : Pos} (hm : X.mg "enumerate" = none) (ha : QE X W e we) (hg : Gl X "enumerate" := by rfl) (hs : starEach [e] X.env = [(false, eval e X.env)] := by rfl) (hs2 : starEach [e] X.env = (false, eval e X.env) :: starEach [] X.env := by rfl) :
    QI X W (.Tuple elts kk tpos) (.Call (.Name "enumerate" p) [e] [] pos) (iEn we) := (pi_enum hg hm (pa_cons ha pa_nil hs2) hs).le fun σ H R h => by
  obtain ⟨x, G, env, Q', X', r, hw, hn, hx⟩ := h
  refine ⟨x, G, env, _, X', r, imO_mono hw, fun h env' v G' H' s r' q hq => ?_, hx⟩
  obtain ⟨d, rfl, hq⟩ := hq
  obtain ⟨ds, z, hq⟩ := mo_some hq
  rw [lstOf_some z] at q
  have q' : Rep X.K G' (.lst ds) v := q
  unfold Rep at q'
  obtain ⟨b, vs, rfl, q1, q2⟩ := q'
  exact ⟨b, vs, rfl, r'.sG.seq q1, hn _ env' G' H' _ s r' (walk_enum q1 q2) hq⟩
def sFor (wi : WI) (g : WG) (wb : WS) : WS := fun env E => wi env (fun ds e0 => ∃ I : Nat → Ev → Prop, I 0 e0 ∧ (∀ (i : Nat) d e, ds[i]? = some d → I i e → g d e fun e1 => wb e1 { E with nx := I (i + 1), ct := I (i + 1), bk := E.nx }) ∧ ∀ e, I ds.length e → E.nx e) E.xc
theorem qs_for {tg iter : Expr} {body : List Stmt} {wi : WI} {g : WG} (hp : PassesOwn (model X.prog X.w) X.A X.env X.xe) (hc : X.calm = true) (hi : QI X W tg iter wi) (hg : QG X tg g) (hb : QSs X W body w) (hs : ∀ x, foldedSetIterable iter X.env x = pure x := by intro _; rfl) :
    QS X W (.For tg iter body [] pos) (sFor wi g w) := (ps_for hp hc hi hg hb hs).le fun De σ H h => by
  obtain ⟨x, G, env, E', r, hw, hE⟩ := h
  refine ⟨x, G, env, _, E'.xc, r, hw, fun ds e0 G0 H0 J s0 r0 wk hq => ?_, hE.xe σ⟩
  obtain ⟨I, i0, turn, done⟩ := hq
  refine ⟨fun i m σ' H' => m = ds.length - i ∧ i ≤ ds.length ∧ ∃ G1 e1, Same G0 G1 ∧ ER X.K x G1 H' σ' e1 ∧ I i e1, ⟨ds.length, rfl, Nat.zero_le _, G0, e0, .refl _, r0, i0⟩, ?_⟩
  rintro i m σ1 H1 ⟨rfl, hi, G1, e1, s1, r1, hI⟩
  have sH : Same G0 H1 := s1.trans r1.sG
  by_cases hlt : i < ds.length
  · refine .inr ⟨wk.go i H1 sH r1.sF hlt, fun σ' H' => ∃ G2 e2, Same G1 G2 ∧ ER X.K x G2 H' σ' e2 ∧ I (i + 1) e2, ?_, fun v H2 hy => ?_⟩
    · rintro σ' H' ⟨G2, e2, s2, r2, hI2⟩
      exact ⟨ds.length - (i + 1), by omega, rfl, hlt, G2, e2, s1.trans s2, r2, hI2⟩
    · obtain ⟨G2, st, rp⟩ := wk.yld i H1 v H2 ds[i] G1 s1 r1.sG r1.sF (List.getElem?_eq_getElem hlt) hy
      refine ⟨x, G2, e1, ds[i], _, r1.step st, rp, turn i ds[i] e1 (List.getElem?_eq_getElem hlt) hI, fun e3 σ3 G3 H3 s3 r3 hb => ⟨x, G3, e3, _, r3, hb, ?_⟩⟩
      have s13 : Same G1 G3 := st.g.trans s3
      have hE3 := hE.up ((s0.trans s1).trans s13)
      exact ⟨fun e4 σ4 G4 H4 s4 r4 q => ⟨G4, e4, s13.trans s4, r4, q⟩, hE3.rt, hE3.ro, hE3.nx, fun e4 σ4 G4 H4 s4 r4 q => ⟨G4, e4, s13.trans s4, r4, q⟩, hE3.xc⟩
  · have ei : i = ds.length := by omega
    subst ei
    exact .inl ⟨wk.stop _ H1 sH r1.sF (Nat.le_refl _), hE.nx e1 σ1 G1 H1 (s0.trans s1) r1 (done e1 hI)⟩
end
end TL

namespace TL
open PySem PySem.Spec L2
def setL (σ : St) : List Nat → List V → St
  | i :: is, v :: vs => setL (σ.set i (some v)) is vs
  | _, _ => σ
def setE (e : Ev) : List Nat → List D → Ev
  | i :: is, d :: ds => setE (e.set i (.im d)) is ds
  | _, _ => e
def noE (e : Ev) : List Nat → Ev
  | [] => e
  | i :: is => (noE e is).set i .no
def nrs (e : Ev) (is : List Nat) : Bool := is.all fun i => nr e i
theorem setL_length (σ : St) : ∀ (is : List Nat) (vs : List V), (setL σ is vs).length = σ.length
  | [], _ => rfl
  | _ :: _, [] => rfl
  | i :: is, v :: vs => by
    unfold setL
    rw [setL_length, List.length_set]
theorem setL_get {σ : St} {k : Nat} : ∀ {is : List Nat} {vs : List V}, k ∉ is → (setL σ is vs)[k]? = σ[k]?
  | [], _, _ => rfl
  | _ :: _, [], _ => rfl
  | i :: is, v :: vs, h => by
    unfold setL
    rw [setL_get (fun z => h (List.mem_cons_of_mem _ z)), List.getElem?_set_ne (fun z => h (by rw [z]; exact List.mem_cons_self))]
theorem wipe_get {σ : St} {k : Nat} : ∀ {is : List Nat}, k ∉ is → (wipe σ is)[k]? = σ[k]?
  | [], _ => rfl
  | i :: is, h => by
    unfold wipe
    rw [List.getElem?_set_ne (fun z => h (by rw [z]; exact List.mem_cons_self)), wipe_get (fun z => h (List.mem_cons_of_mem _ z))]
theorem wipe_at {σ : St} {k : Nat} : ∀ {is : List Nat}, k ∈ is → k < σ.length → (wipe σ is)[k]? = some none
  | [], h, _ => by cases h
  | i :: is, h, hl => by
    unfold wipe
    by_cases z : i = k
    · rw [z, List.getElem?_set_self (by rw [wipe_length]; exact hl)]
    · rw [List.getElem?_set_ne z]
      rcases List.mem_cons.mp h with q | q
      · exact absurd q.symm z
      · exact wipe_at q hl
theorem wipe_setL {σ : St} {is : List Nat} {vs : List V} : wipe (setL (wipe σ is) is vs) is = wipe σ is := by
  apply List.ext_getElem?
  intro k
  by_cases h : k ∈ is
  · by_cases hl : k < σ.length
    · rw [wipe_at h (by rw [setL_length, wipe_length]; exact hl), wipe_at h hl]
    · rw [List.getElem?_eq_none (by rw [wipe_length, setL_length, wipe_length]; omega), List.getElem?_eq_none (by rw [wipe_length]; omega)]
  · rw [wipe_get h, setL_get h]
theorem noE_length (e : Ev) : ∀ is : List Nat, (noE e is).length = e.length
  | [] => rfl
  | i :: is => by
    unfold noE
    rw [List.length_set, noE_length]
theorem noE_get {e : Ev} {k : Nat} : ∀ {is : List Nat}, k ∉ is → (noE e is)[k]? = e[k]?
  | [], _ => rfl
  | i :: is, h => by
    unfold noE
    rw [List.getElem?_set_ne (fun z => h (by rw [z]; exact List.mem_cons_self)), noE_get (fun z => h (List.mem_cons_of_mem _ z))]
theorem noE_at {e : Ev} {k : Nat} : ∀ {is : List Nat}, k ∈ is → k < e.length → (noE e is)[k]? = some .no
  | [], h, _ => by cases h
  | i :: is, h, hl => by
    unfold noE
    by_cases z : i = k
    · rw [z, List.getElem?_set_self (by rw [noE_length]; exact hl)]
    · rw [List.getElem?_set_ne z]
      rcases List.mem_cons.mp h with q | q
      · exact absurd q.symm z
      · exact noE_at q hl
theorem nrs_at {e : Ev} {is : List Nat} {i : Nat} (h : nrs e is = true) (hi : i ∈ is) : nr e i = true := List.all_eq_true.mp h i hi
section
variable {K : PySem.W.Frag} {x : Fx} {G H : Hp} {σ σ2 : St} {e : Ev}
theorem ER.reslot (r : ER K x G H σ2 e) {is : List Nat} (hl : σ.length = σ2.length) (hs : ∀ k, k ∉ is → σ[k]? = σ2[k]?) (hn : nrs e is = true) : ER K x G H σ (noE e is) := by
  have out : ∀ {k : Nat} {s : Sl}, (noE e is)[k]? = some s → s ≠ .no → k ∉ is ∧ e[k]? = some s := fun {k s} h hne => by
    by_cases q : k ∈ is
    · have hl' : k < e.length := by
        have := (List.getElem?_eq_some_iff.mp h).1
        rw [noE_length] at this
        exact this
      rw [noE_at q hl'] at h
      exact absurd (Option.some.inj h).symm hne
    · rw [noE_get q] at h
      exact ⟨q, h⟩
  refine ⟨by rw [noE_length, hl, r.len], r.sG, r.sF, r.dj, fun i d h => ?_, fun i b d h => ?_, fun i j b c d1 d2 p h1 h2 h3 h4 => ?_, fun i p h => ?_⟩
  · obtain ⟨q, h⟩ := out h (by intro z; cases z)
    rw [hs i q]
    exact r.im i d h
  · obtain ⟨q, h⟩ := out h (by intro z; cases z)
    rw [hs i q]
    exact r.ow i b d h
  · obtain ⟨q1, h1⟩ := out h1 (by intro z; cases z)
    obtain ⟨q2, h2⟩ := out h2 (by intro z; cases z)
    rw [hs i q1] at h3
    rw [hs j q2] at h4
    exact r.nd i j b c d1 d2 p h1 h2 h3 h4
  · obtain ⟨h1, d, h2⟩ := r.rt i p h
    have q : i ∉ is := fun z => nr_ok (nrs_at hn z) d h2
    rw [hs i q, noE_get q]
    exact ⟨h1, d, h2⟩
theorem ER.setL : ∀ {is : List Nat} {vs : List V} {ds : List D} {σ : St} {e : Ev}, ER K x G H σ e → Reps K G ds vs → nrs e is = true → ER K x G H (setL σ is vs) (setE e is ds)
  | [], vs, ds, σ, e, r, _, _ => by
    unfold TL.setL setE
    exact r
  | i :: is, vs, [], σ, e, r, q, _ => by
    unfold Reps at q
    rw [q]
    unfold TL.setL setE
    exact r
  | i :: is, vs, d :: ds, σ, e, r, q, hn => by
    unfold Reps at q
    obtain ⟨v, vr, rfl, q1, q2⟩ := q
    unfold TL.setL setE
    have h1 : nr e i = true := nrs_at hn List.mem_cons_self
    refine ER.setL (r.setIm q1 (r.noR (nr_ok h1))) q2 ?_
    exact List.all_eq_true.mpr fun j hj => nr_set (nrs_at hn (List.mem_cons_of_mem _ hj))
end
def gNames (K : PySem.W.Frag) : List Nat → TGs
  | [] => gNil
  | i :: is => gCons (gName i) (gNames K is)
theorem gNames_ok {K : PySem.W.Frag} : ∀ {is : List Nat} {vs : List V} {σ : St} {H : Hp} {Q : St → Hp → Prop}, vs.length = is.length → Q (setL σ is vs) H → gNames K is vs σ H Q
  | [], [], σ, H, Q, _, h => ⟨rfl, h⟩
  | i :: is, v :: vs, σ, H, Q, hl, h => ⟨v, vs, rfl, gNames_ok (is := is) (vs := vs) (by simpa using hl) h⟩
def tOne : Bool → Nat → D → Option (List D)
  | true, _, .tup ds => some ds
  | true, _, .lst ds => some ds
  | false, _, d => some [d]
  | _, _, _ => none
section
variable {X : Cx} {W : WX} {a b c e elt tg iter : Expr} {pos p : Pos} {we : WE} {wt : WT} {K : PySem.W.Frag} {ifs : List Expr}
def wYes : WT := fun env Q _ => Q true env
abbrev QTs (X : Cx) (W : WX) (ifs : List Expr) (w : WT) : Prop := PTs X ifs (lT X.K W w)
theorem _root_.L2.PTs.le {X : Cx} {es : List Expr} {t t' : TT} (h : PTs X es t) (i : ∀ σ H Q, t' σ H Q → t σ H Q) : PTs X es t' := ⟨fun pins s σ H Q I hw => h.run pins s σ H Q I (i σ H Q hw)⟩
theorem qts_nil : QTs X W [] wYes := pts_nil.le fun σ H Q h => by
  obtain ⟨x, G, env, Q', X', r, hw, hn, hx⟩ := h
  exact hn true env G H (.refl _) r hw
abbrev W0 : WX := fun _ _ _ _ => False
def wLc (wi : WI) (tu : Bool) (is : List Nat) (wt : WT) (we : WE) : WE := fun env Q Xp => wi env (fun ds e0 => nrs e0 is = true ∧ ∃ I : Nat → List D → Ev → Prop, I 0 [] (noE e0 is) ∧
  (∀ (k : Nat) d acc e, ds[k]? = some d → I k acc e → nrs e is = true ∧ mo (tOne tu 0 d) fun vs => vs.length = is.length ∧ wt (setE e is vs) (fun b e2 => if b = true then we e2 (fun y e3 => nrs e3 is = true ∧ acc.length < 1000000 ∧ I (k + 1) (acc ++ [y]) (noE e3 is)) (fun _ _ => False)
    else nrs e2 is = true ∧ I (k + 1) acc (noE e2 is)) (fun _ _ => False)) ∧ ∀ acc e, I ds.length acc e → Q (.lst acc) e) Xp
def gOf (K : PySem.W.Frag) : Bool → List Nat → TG
  | true, is => fun v σ H Q => gTup K is.length (gNames K is) v σ H Q ∨ gUnl K is.length (gNames K is) v σ H Q
  | false, [i] => gName i
  | false, _ => fun _ _ _ _ => False
theorem gOf_ok {G H : Hp} {σ : St} {Q : St → Hp → Prop} {tu : Bool} {is : List Nat} {d : D} {v : V} {vs : List D} (s : Same G H) (h : tOne tu 0 d = some vs) (hl : vs.length = is.length) (q : Rep K G d v) (hq : ∀ ws, Reps K G vs ws → Q (setL σ is ws) H) : gOf K tu is v σ H Q := by
  cases tu with
  | true =>
    cases d with
    | tup ds =>
      cases h
      unfold Rep at q
      obtain ⟨a, ws, rfl, q1, q2⟩ := q
      exact .inl ⟨a, ws, rfl, sameT s q1, by rw [q2.length]; exact hl, gNames_ok (by rw [q2.length]; exact hl) (hq ws q2)⟩
    | lst ds =>
      cases h
      unfold Rep at q
      obtain ⟨a, ws, rfl, q1, q2⟩ := q
      exact .inr ⟨a, ws, rfl, s.seq q1, by rw [q2.length]; exact hl, gNames_ok (by rw [q2.length]; exact hl) (hq ws q2)⟩
    | _ => cases h
  | false =>
    have h' : vs = [d] := by
      cases d <;> exact (Option.some.inj h).symm
    subst h'
    cases is with
    | nil => cases hl
    | cons i is =>
      cases is with
      | cons _ _ => cases hl
      | nil => exact hq [v] (Reps.cons q Reps.nil)
theorem lLc_core {tu : Bool} {is : List Nat} {σ : St} {Q : VK} {x : Fx} {G0 H0 : Hp} {e0 : Ev} {ds : List D} {J : It} {Q' : D → Ev → Prop} (r0 : ER K x G0 H0 σ e0) (wk : Walk K G0 x.F ds J)
    (hn : ∀ d env' p o G' H', Same G0 G' → ER K x G' H' σ env' → H' p = some o → RepO K G' d o → G' p = none → x.F p = none → (∀ (j : Nat) b d', env'[j]? = some (.ow b d') → σ[j]? ≠ some (some (.ref p))) → Q' d env' → Q (.ref p) H')
    (hq : nrs e0 is = true ∧ ∃ I : Nat → List D → Ev → Prop, I 0 [] (noE e0 is) ∧
  (∀ (k : Nat) d acc e, ds[k]? = some d → I k acc e → nrs e is = true ∧ mo (tOne tu 0 d) fun vs => vs.length = is.length ∧ wt (setE e is vs) (fun b e2 => if b = true then we e2 (fun y e3 => nrs e3 is = true ∧ acc.length < 1000000 ∧ I (k + 1) (acc ++ [y]) (noE e3 is)) (fun _ _ => False)
    else nrs e2 is = true ∧ I (k + 1) acc (noE e2 is)) (fun _ _ => False)) ∧ ∀ acc e, I ds.length acc e → Q' (.lst acc) e) :
    ∀ Dl, H0 Dl = none → ∃ W : Nat → Nat → Hp → Prop, (∃ m, W 0 m (upd H0 Dl (.lst []))) ∧ ∀ i m H, W i m H →
  (J.stop i H ∧ Q (.ref Dl) H) ∨ (J.go i H ∧ ∃ Nx : Hp → Prop, (∀ H', Nx H' → ∃ m', m' < m ∧ W (i + 1) m' H') ∧ ∀ x H', J.yld i H x H' → gOf K tu is x (wipe σ is) H' fun σ2 H2 => wipe σ2 is = wipe σ is ∧ lT K W0 wt σ2 H2 fun b H3 =>
    if b = true then lO K W0 (imO we) σ2 H3 fun y H4 => ∃ acc, H4 Dl = some (.lst acc) ∧ acc.length < sizeLine ∧ Nx (upd H4 Dl (.lst (acc ++ [y]))) else Nx H3) := by
  intro Dl hD
  obtain ⟨hn0, I, i0, turn, done⟩ := hq
  obtain ⟨f1, f2, f3⟩ := fresh_F r0 hD
  have r00 : ER K x G0 (upd H0 Dl (.lst [])) σ (noE e0 is) := (r0.step (Step.junk r0.sG _ hD)).reslot rfl (fun _ _ => rfl) hn0
  have own0 : ∀ {e : Ev} {σ' : St} {p : Addr} {is : List Nat}, (∀ (j : Nat) b d', e[j]? = some (.ow b d') → σ'[j]? ≠ some (some (.ref p))) → ∀ (j : Nat) b d', (noE e is)[j]? = some (.ow b d') → σ'[j]? ≠ some (some (.ref p)) := fun {e σ' p is} ho j b d' z => by
    by_cases q : j ∈ is
    · have hl' : j < e.length := by
        have := (List.getElem?_eq_some_iff.mp z).1
        rw [noE_length] at this
        exact this
      rw [noE_at q hl'] at z
      cases z
    · rw [noE_get q] at z
      exact ho j b d' z
  refine ⟨fun i m H' => m = ds.length - i ∧ i ≤ ds.length ∧ ∃ G1 e1 accD accV, Same G0 G1 ∧ ER K x G1 H' σ e1 ∧ H' Dl = some (.lst accV) ∧ Reps K G1 accD accV ∧ G1 Dl = none ∧ (∀ (j : Nat) b d', e1[j]? = some (.ow b d') → σ[j]? ≠ some (some (.ref Dl))) ∧ I i accD e1,
    ⟨ds.length, rfl, Nat.zero_le _, G0, _, [], [], .refl _, r00, upd_same, Reps.nil, f2, own0 f3, i0⟩, ?_⟩
  rintro i m H1 ⟨rfl, hi, G1, e1, accD, accV, s1, r1, hD1, ra, hG1, ho1, hI⟩
  have sH : Same G0 H1 := s1.trans r1.sG
  by_cases hlt : i < ds.length
  · refine .inr ⟨wk.go i H1 sH r1.sF hlt, fun H' => ∃ G2 e2 accD' accV', Same G1 G2 ∧ ER K x G2 H' σ e2 ∧ H' Dl = some (.lst accV') ∧ Reps K G2 accD' accV' ∧ G2 Dl = none ∧ (∀ (j : Nat) b d', e2[j]? = some (.ow b d') → σ[j]? ≠ some (some (.ref Dl))) ∧ I (i + 1) accD' e2, ?_, fun v H2 hy => ?_⟩
    · rintro H' ⟨G2, e2, accD', accV', s2, r2, a1, a2, a3, a4, a5⟩
      exact ⟨ds.length - (i + 1), by omega, rfl, hlt, G2, e2, accD', accV', s1.trans s2, r2, a1, a2, a3, a4, a5⟩
    · obtain ⟨G2, st, rp⟩ := wk.yld i H1 v H2 ds[i] G1 s1 r1.sG r1.sF (List.getElem?_eq_getElem hlt) hy
      obtain ⟨hnr, ht⟩ := turn i ds[i] accD e1 (List.getElem?_eq_getElem hlt) hI
      obtain ⟨vs, z1, hl, ht⟩ := mo_some ht
      have r2 := r1.step st
      have hD2 : H2 Dl = some (.lst accV) := st.h _ _ hD1
      have hG2 : G2 Dl = none := by
        cases z : G2 Dl with
        | none => rfl
        | some o =>
          have q := st.new Dl o z hG1
          rw [hD1] at q
          cases q
      -- the list that grows is hidden
      have rh := r2.hide hD2 hG2 ho1
      refine gOf_ok r2.sG z1 hl rp fun ws rw' => ⟨wipe_setL, ?_⟩
      have rw0 : ER K { x with F := upd x.F Dl (.lst accV) } G2 H2 (wipe σ is) (noE e1 is) := rh.reslot (by rw [wipe_length]) (fun k hk => wipe_get hk) hnr
      have rw1 : ER K { x with F := upd x.F Dl (.lst accV) } G2 H2 (setL (wipe σ is) is ws) (setE e1 is vs) := by
        have q := rw0.setL (is := is) rw' (by
          refine List.all_eq_true.mpr fun j hj => ?_
          unfold nr
          by_cases hl' : j < e1.length
          · rw [noE_at hj hl']
          · rw [List.getElem?_eq_none (by rw [noE_length]; omega)])
        have ee : setE (noE e1 is) is vs = setE e1 is vs := by
          clear ht z1 rw' q
          have gen : ∀ (is' : List Nat) (vs : List D) (e e' : Ev), vs.length = is'.length → e.length = e'.length → (∀ k, k ∉ is' → e[k]? = e'[k]?) → setE e is' vs = setE e' is' vs := by
            intro is'
            induction is' with
            | nil =>
              intro vs e e' hl' hle hk
              have : e = e' := List.ext_getElem? fun k => hk k (by simp)
              rw [this]
            | cons i0 is' ih =>
              intro vs e e' hl' hle hk
              cases vs with
              | nil => cases hl'
              | cons d vs =>
                unfold setE
                refine ih vs _ _ (by simpa using hl') (by rw [List.length_set, List.length_set, hle]) fun k hk' => ?_
                by_cases z : i0 = k
                · subst z
                  by_cases hz : i0 < e.length
                  · rw [List.getElem?_set_self hz, List.getElem?_set_self (by rw [← hle]; exact hz)]
                  · rw [List.getElem?_eq_none (by rw [List.length_set]; omega), List.getElem?_eq_none (by rw [List.length_set]; omega)]
                · rw [List.getElem?_set_ne z, List.getElem?_set_ne z]
                  exact hk k fun q => (List.mem_cons.mp q).elim (fun q => z q.symm) hk'
          exact gen is vs _ _ hl (noE_length _ _) fun k hk => noE_get hk
        rw [ee] at q
        exact q
      have back : ∀ {G' H' : Hp} {e' : Ev}, ER K { x with F := upd x.F Dl (.lst accV) } G' H' (setL (wipe σ is) is ws) e' → nrs e' is = true → ER K { x with F := upd x.F Dl (.lst accV) } G' H' σ (noE e' is) := fun {G' H' e'} r' hn' =>
        r'.reslot (by rw [setL_length, wipe_length]) (fun k hk => by rw [setL_get hk, wipe_get hk]) hn'
      refine ⟨_, G2, _, _, fun _ _ => False, rw1, ht, fun b e2 G3 H3 s3 r3 hb => ?_, fun _ _ _ _ _ _ _ _ _ z => z⟩
      cases b with
      | false =>
        obtain ⟨hn3, hI3⟩ := hb
        obtain ⟨r4, a1, a2, a3⟩ := (back r3 hn3).unhide (fun ⟨vs, e⟩ => by cases e) f1
        exact ⟨G3, _, accD, accV, st.g.trans s3, r4, a1, Reps.mono (st.g.trans s3) _ _ ra, a2, a3, hI3⟩
      | true =>
        refine ⟨_, G3, e2, _, fun _ _ => False, r3, imO_mono hb, fun h e3 y G4 H4 s4 r4 q4 hq4 => ?_, fun _ _ _ _ _ _ _ _ _ z => z⟩
        obtain ⟨dy, rfl, hn4, hlen, hI4⟩ := hq4
        obtain ⟨r5, a1, a2, a3⟩ := (back r4 hn4).unhide (fun ⟨vs, e⟩ => by cases e) f1
        have s24 : Same G1 G4 := (st.g.trans s3).trans s4
        have ra4 := Reps.mono s24 _ _ ra
        refine ⟨accV, a1, by rw [ra.length]; exact line_lt (by omega), G4, _, accD ++ [dy], accV ++ [y], s24, ?_, upd_same, ra4.append (Reps.cons q4 Reps.nil), a2, a3, hI4⟩
        have kp : ∀ {b : Addr} {u : HO}, b ≠ Dl → H4 b = some u → upd H4 Dl (.lst (accV ++ [y])) b = some u := fun {b u} hb h => by
          rw [upd_ne hb]
          exact h
        refine ⟨r5.len, fun b u h => kp (fun z => ?_) (r5.sG b u h), fun b u h => kp (fun z => ?_) (r5.sF b u h), r5.dj, r5.im, fun j b d' h => ?_, r5.nd, r5.rt⟩
        · rw [z, a2] at h
          cases h
        · rw [z, f1] at h
          cases h
        · obtain ⟨p2, o2, z1, z2, z3, z4, z5⟩ := r5.ow j b d' h
          exact ⟨p2, o2, z1, kp (fun z => a3 j b d' h (by rw [← z]; exact z1)) z2, z3, z4, z5⟩
  · have ei : i = ds.length := by omega
    subst ei
    exact .inl ⟨wk.stop _ H1 sH r1.sF (Nat.le_refl _), hn (.lst accD) e1 Dl _ G1 H1 s1 r1 hD1 ⟨accV, rfl, ra⟩ hG1 f1 ho1 (done accD e1 hI)⟩
theorem lLc {wi : WI} {tu : Bool} {is : List Nat} (σ : St) (H : Hp) (Q : VK) (h : lF K W (wLc wi tu is wt we) σ H Q) : tLc (lI K W wi) (gOf K tu is) (lT K W0 wt) (lO K W0 (imO we)) is σ H Q := by
  obtain ⟨x, G, env, Q', X', r, hw, hn, hx⟩ := h
  exact ⟨x, G, env, _, X', r, hw, fun ds e0 G0 H0 J s0 r0 wk hq => lLc_core r0 wk (fun d env' p o G' H' s => hn d env' p o G' H' (s0.trans s)) hq, hx⟩
theorem qf_lc {scope : Scope} {own : List (Str × Nat)} {wi : WI} {tu : Bool} (hc : X.calm = true) (hN : X.N.Nodup) (hi : QI X W tg iter wi) (ok : BlkOk X.N X.env.scope scope own)
    (hg : ∀ (s : Shared) (H : Hp) (C : Addr) (cl : List (Str × Addr)) (fp : List Addr), PG (X.blk s H scope (compEnvC scope cl C X.env) fp) tg (gOf X.K tu (own.map (·.2))))
    (ht : ∀ (s : Shared) (H : Hp) (C : Addr) (cl : List (Str × Addr)) (fp : List Addr), QTs (X.blk s H scope (compEnvC scope cl C X.env) fp) W0 ifs wt)
    (he : ∀ (s : Shared) (H : Hp) (C : Addr) (cl : List (Str × Addr)) (fp : List Addr), QE (X.blk s H scope (compEnvC scope cl C X.env) fp) W0 elt we) (hs : ∀ x, foldedSetIterable iter X.env x = pure x := by intro _; rfl) :
    QF X W (.ListComp elt [⟨tg, iter, ifs, 0⟩] scope pos) (wLc wi tu (own.map (·.2)) wt we) := (pe_lc hc hN hi ok hg ht he hs).le lLc
end
end TL

namespace TL
open PySem PySem.Spec L2
def Cn.v (K : PySem.W.Frag) : Cn → V
  | .ty n => .ty n
  | .own c => .ref (He.ga K c)
structure CT (K : PySem.W.Frag) (tb : List CI) (ks : List Str) : Prop where
  cls : ∀ c ∈ tb, Cls K (He.ga K c.name)
  ins : ∀ c ∈ tb, insB K (He.ga K c.name) = true
  fld : ∀ c ∈ tb, ∀ f ∈ c.fields, NoAttr K (He.ga K c.name) f
  oo : ∀ c ∈ tb, ∀ k ∈ ks, PySem.W.kitOne K (.ref (He.ga K c.name)) (.ref (He.ga K k)) = some (c.anc.contains k)
  ot : ∀ c ∈ tb, ∀ t ∈ bts, PySem.W.kitOne K (.ref (He.ga K c.name)) (.type t) = some false
  to : ∀ t ∈ bts, ∀ k ∈ ks, PySem.W.kitOne K (.type t) (.ref (He.ga K k)) = some false
  tt : ∀ t ∈ bts, ∀ u ∈ bts, PySem.W.kitOne K (.type t) (.type u) = some (bsub t u)
theorem ctB_ok {K : PySem.W.Frag} {tb : List CI} {ks : List Str} (h : ctB K tb ks = true) : CT K tb ks := by
  obtain ⟨h1, h2⟩ := He.ba h
  obtain ⟨h2, h3⟩ := He.ba h2
  have g1 := fun c hc => He.ba (List.all_eq_true.mp h1 c hc)
  have g2 := fun c hc => He.ba (g1 c hc).2
  have g3 := fun c hc => He.ba (g2 c hc).2
  have g4 := fun c hc => He.ba (g3 c hc).2
  exact ⟨fun c hc => He.cls_ok (g1 c hc).1, fun c hc => (g2 c hc).1, fun c hc f hf => He.noat_ok (List.all_eq_true.mp (g3 c hc).1 f hf), fun c hc k hk => of_decide_eq_true (List.all_eq_true.mp (g4 c hc).1 k hk),
    fun c hc t ht => of_decide_eq_true (List.all_eq_true.mp (g4 c hc).2 t ht), fun t ht k hk => of_decide_eq_true (List.all_eq_true.mp (List.all_eq_true.mp h2 t ht) k hk), fun t ht u hu => of_decide_eq_true (List.all_eq_true.mp (List.all_eq_true.mp h3 t ht) u hu)⟩
def ciOf (tb : List CI) (c : Str) : Option CI := tb.find? fun k => k.name == c
theorem ciOf_some {tb : List CI} {c : Str} {k : CI} (h : ciOf tb c = some k) : k ∈ tb ∧ k.name = c := by
  unfold ciOf at h
  exact ⟨List.mem_of_find?_eq_some h, by simpa using List.find?_some h⟩
def tagOf (tb : List CI) : D → Option (Sum String CI)
  | .non => some (.inl "NoneType")
  | .bl _ => some (.inl "bool")
  | .int _ => some (.inl "int")
  | .str _ => some (.inl "str")
  | .lst _ => some (.inl "list")
  | .tup _ => some (.inl "tuple")
  | .dic _ _ => some (.inl "dict")
  | .ty _ => none
  | .exc _ _ _ _ => none
  | .dit _ _ => none
  | .tpo _ => none
  | .tpn _ => none
  | .exv _ _ _ => none
  | .ins c _ _ => (ciOf tb c).map Sum.inr
def isa : Sum String CI → Cn → Bool
  | .inl t, .ty u => bsub t u
  | .inl _, .own _ => false
  | .inr _, .ty _ => false
  | .inr c, .own k => c.anc.contains k
def cnOk (ks : List Str) : Cn → Bool
  | .ty u => bts.contains u
  | .own k => ks.contains k
def tagV (K : PySem.W.Frag) : Sum String CI → Value
  | .inl t => .type t
  | .inr c => .ref (He.ga K c.name)
section
variable {K : PySem.W.Frag} {tb : List CI} {ks : List Str} {G H : Hp}
theorem tag_bts {d : D} {t : String} (h : tagOf tb d = some (.inl t)) : t ∈ bts := by
  cases d with
  | ins c ns ds =>
    have h' : (ciOf tb c).map (Sum.inr : CI → Sum String CI) = some (.inl t) := h
    cases z : ciOf tb c with
    | none =>
      rw [z] at h'
      cases h'
    | some k =>
      rw [z] at h'
      cases h'
  | ty _ => cases h
  | exc _ _ _ _ => cases h
  | dit _ _ => cases h
  | tpo _ => cases h
  | tpn _ => cases h
  | exv _ _ _ => cases h
  | _ =>
    cases h
    decide
theorem tag_ci {d : D} {c : CI} (h : tagOf tb d = some (.inr c)) : c ∈ tb := by
  cases d with
  | ins c' ns ds =>
    have h' : (ciOf tb c').map (Sum.inr : CI → Sum String CI) = some (.inr c) := h
    cases z : ciOf tb c' with
    | none =>
      rw [z] at h'
      cases h'
    | some k =>
      rw [z] at h'
      cases h'
      exact (ciOf_some z).1
  | _ => cases h
theorem CT.kit (T : CT K tb ks) {d : D} {g : Sum String CI} (h : tagOf tb d = some g) : ∀ {c : Cn}, cnOk ks c = true → PySem.W.kitOne K (tagV K g) (c.val K) = some (isa g c) := fun {c} hc => by
  cases g with
  | inl t =>
    cases c with
    | ty u => exact T.tt t (tag_bts h) u (by simpa [cnOk] using hc)
    | own k => exact T.to t (tag_bts h) k (by simpa [cnOk] using hc)
  | inr ci =>
    cases c with
    | ty u => exact T.ot ci (tag_ci h) u (by simpa [cnOk] using hc)
    | own k => exact T.oo ci (tag_ci h) k (by simpa [cnOk] using hc)
theorem CT.any (T : CT K tb ks) {d : D} {g : Sum String CI} (h : tagOf tb d = some g) : ∀ {cs : List Cn}, cs.all (cnOk ks) = true → PySem.W.kitAny K (tagV K g) (cs.map (Cn.val K)) = some (cs.any (isa g))
  | [], _ => rfl
  | c :: cs, hc => by
    rw [List.all_cons, Bool.and_eq_true] at hc
    rw [List.map_cons, List.any_cons]
    unfold PySem.W.kitAny
    rw [T.kit h hc.1]
    cases isa g c with
    | true => rfl
    | false => exact T.any h hc.2
theorem CT.ty (T : CT K tb ks) {d : D} {g : Sum String CI} {v : V} (h : tagOf tb d = some g) (r : RepT K G H d v) : TyX K H v (tagV K g) := by
  cases d with
  | non => cases h; cases (show v = .non from r); exact .base .non
  | bl b => cases h; cases (show v = .bl b from r); exact .base (.bl b)
  | int b => cases h; cases (show v = .int b from r); exact .base (.int b)
  | str b => cases h; cases (show v = .str b from r); exact .base (.str b)
  | ty _ => cases h
  | exc _ _ _ _ => cases h
  | dit _ _ => cases h
  | tpo _ => cases h
  | tpn _ => cases h
  | exv _ _ _ => cases h
  | lst ds =>
    cases h
    obtain ⟨a, vs, rfl, q, _⟩ := r
    rcases q with (q | ⟨o, q⟩) | ⟨o, its, n, q1, q2, _⟩
    · exact .base (.lst q)
    · exact .base (.frz q)
    · exact .kList q1 q2
  | tup ds =>
    cases h
    obtain ⟨a, vs, rfl, q, _⟩ := r
    rcases q with (q | ⟨o, q⟩) | ⟨o, its, n, q1, q2, _⟩
    · exact .base (.tup q)
    · exact .fTuple q
    · exact .kTuple q1 q2
  | dic ks' ds =>
    cases h
    obtain ⟨a, vs, rfl, q, _⟩ := r
    exact .base (.dK q)
  | ins c ns ds =>
    have h' : (ciOf tb c).map (Sum.inr : CI → Sum String CI) = some g := h
    cases z : ciOf tb c with
    | none =>
      rw [z] at h'
      cases h'
    | some k =>
      rw [z] at h'
      have h2 : Sum.inr k = g := Option.some.inj h'
      subst h2
      obtain ⟨z1, z2⟩ := ciOf_some z
      obtain ⟨a, dx, vs, rfl, q, _⟩ := r
      have hi := T.ins k z1
      unfold insB at hi
      obtain ⟨i1, hi⟩ := He.ba hi
      obtain ⟨i2, hi⟩ := He.ba hi
      obtain ⟨i3, i4⟩ := He.ba hi
      rw [← z2] at q
      exact .base (.ins q (T.cls k z1) (of_decide_eq_true i1) (of_decide_eq_true i2) (of_decide_eq_true i3) (of_decide_eq_true i4))
end
theorem Cn.clsV (K : PySem.W.Frag) : ∀ c : Cn, ClsV (c.v K) (c.val K)
  | .ty n => .ty n
  | .own c => .own _
section
variable {X : Cx} {W : WX} {a b c e : Expr} {pos p : Pos} {wa wb : WO} {we wf : WE} {wl : WA} {es : List Expr} {K : PySem.W.Frag} {tb : List CI} {ks : List Str}
def PCn (X : Cx) (e : Expr) (c : Cn) : Prop := PE X e (tC (c.v X.K))
theorem pcn_ty {n : Str} {t : String} (hm : X.mg n = none) (hb : bootBuiltins n = some (.type t)) (hg : Gl X n := by rfl) (hn : n ≠ "__name__" := by decide) (hd : (n == ("__debug__" : Str)) = false := by decide) : PCn X (.Name n pos) (.ty t) := pe_bltn hg hm hb rfl hn hd
theorem pcn_own {n : Str} (hm : X.mg n = some (.ref (He.ga X.K n))) (hg : Gl X n := by rfl) (hd : (n == ("__debug__" : Str)) = false := by decide) : PCn X (.Name n pos) (.own n) := pe_glob hg hm rfl hd
inductive PCns (X : Cx) : List Expr → List Cn → Prop where
  | nil : PCns X [] []
  | cons {e : Expr} {es : List Expr} {c : Cn} {cs : List Cn} (h : PCn X e c) (hs : starEach (e :: es) X.env = (false, eval e X.env) :: starEach es X.env) (t : PCns X es cs) : PCns X (e :: es) (c :: cs)
theorem pcns_pa : ∀ {es : List Expr} {cs : List Cn}, PCns X es cs → PA X es (fun σ H Q => Q (cs.map (Cn.v X.K)) H)
  | _, _, .nil => pa_nil
  | _, _, .cons h hs t => pa_cons h (pcns_pa t) hs
theorem paired_cn : ∀ cs : List Cn, Paired ClsV (cs.map (Cn.v K)) (cs.map (Cn.val K))
  | [] => .nil
  | c :: cs => .cons (Cn.clsV K c) (paired_cn cs)
def fldOk (tb : List CI) (f : Str) : D → Bool
  | .ins c _ _ => match ciOf tb c with
    | some k => k.fields.contains f
    | none => false
  | _ => false
theorem zip_look {K : PySem.W.Frag} {G : Hp} {f : Str} : ∀ {ns : List Str} {ds : List D} {vs : List V} {d : D}, Reps K G ds vs → (ns.zip ds).lookup f = some d → ∃ v, (ns.zip vs).lookup f = some v ∧ Rep K G d v
  | [], ds, vs, d, _, e => by cases e
  | n :: ns, [], vs, d, _, e => by cases e
  | n :: ns, d0 :: ds, vs, d, r, e => by
    unfold Reps at r
    obtain ⟨v, vr, rfl, q1, q2⟩ := r
    rw [List.zip_cons_cons, List.lookup_cons] at e ⊢
    cases z : (f == n) with
    | true =>
      rw [z] at e
      cases e
      exact ⟨v, rfl, q1⟩
    | false =>
      rw [z] at e
      exact zip_look q2 e
def putD (f : Str) (d : D) : List Str → List D → List Str × List D
  | n :: ns, d0 :: ds => if n = f then (n :: ns, d :: ds) else (n :: (putD f d ns ds).1, d0 :: (putD f d ns ds).2)
  | _, _ => ([f], [d])
end
end TL

namespace TL
open PySem PySem.Spec L2
structure Rn where
  rt : D → List Sl → Prop
  ro : D → List Sl → Prop := fun _ _ => False
  xc : Xn → List Sl → Prop := fun _ _ => False
abbrev SpT := List Sl → Rn → Prop
def AR (K : PySem.W.Frag) (x : Fx) (G H : Hp) (vs : List V) (sl : List Sl) : Prop := ER K x G H (vs.map some) sl ∧ ∀ (i : Nat) b d, sl[i]? = some (.ow b d) → b = true ∧ ∃ p, vs[i]? = some (.ref p) ∧ x.R i = some p
def spT (K : PySem.W.Frag) (T : SpT) : Sp := fun vs H Q E => ∃ x G sl R, AR K x G H vs sl ∧ T sl R ∧
  (∀ d sl' v G' H', Same G G' → ER K x G' H' (vs.map some) sl' → Rep K G' d v → R.rt d sl' → Q v H') ∧
  (∀ d sl' p o G' H', Same G G' → ER K x G' H' (vs.map some) sl' → H' p = some o → RepO K G' d o → G' p = none → x.F p = none → (∀ i, x.R i ≠ some p) → R.ro d sl' → Q (.ref p) H') ∧
  (∀ e sl' cls dd G' H', Same G G' → ER K x G' H' (vs.map some) sl' → XRep K G' e cls dd → R.xc e sl' → E cls dd H')
def outs : List Sl → Ev → List Sl
  | .ow _ _ :: sl, e :: env => e :: outs sl env
  | .im d :: sl, _ :: env => .im d :: outs sl env
  | .no :: sl, _ :: env => .no :: outs sl env
  | sl, [] => sl
  | [], _ => []
theorem outs_nil (env : Ev) : outs [] env = [] := by cases env <;> rfl
theorem outs_get : ∀ {sl : List Sl} {env : Ev} {i : Nat}, (outs sl env)[i]? = match sl[i]? with
    | some (.ow b d) => (match env[i]? with
      | some e => some e
      | none => some (.ow b d))
    | o => o
  | [], env, i => by
    rw [outs_nil]
    simp
  | s :: sl, [], i => by
    have e : outs (s :: sl) [] = s :: sl := by cases s <;> rfl
    rw [e]
    cases z : (s :: sl)[i]? with
    | none => rfl
    | some t => cases t <;> simp
  | s :: sl, e :: env, i => by
    cases i with
    | zero => cases s <;> rfl
    | succ i =>
      cases s with
      | no => exact outs_get (sl := sl) (env := env) (i := i)
      | im d => exact outs_get (sl := sl) (env := env) (i := i)
      | ow b d => exact outs_get (sl := sl) (env := env) (i := i)
theorem outs_length : ∀ {sl : List Sl} {env : Ev}, (outs sl env).length = sl.length
  | [], env => by rw [outs_nil]
  | s :: sl, [] => by cases s <;> rfl
  | s :: sl, e :: env => by
    cases s with
    | no => exact congrArg Nat.succ (outs_length (sl := sl) (env := env))
    | im d => exact congrArg Nat.succ (outs_length (sl := sl) (env := env))
    | ow b d => exact congrArg Nat.succ (outs_length (sl := sl) (env := env))
section
variable {K : PySem.W.Frag} {x : Fx} {G H G' H' : Hp} {σ σ' : St} {env env' : Ev} {vs : List V} {sl sl' : List Sl}
theorem AR.start (r : AR K x G H vs sl) (N : List Str) : ER K x G H (start N vs) (sl ++ List.replicate (N.length - sl.length) .no) := by
  obtain ⟨r, _⟩ := r
  have hl : vs.length = sl.length := by
    have := r.len
    rw [List.length_map] at this
    exact this
  have out : ∀ {i : Nat} {s : Sl}, (sl ++ List.replicate (N.length - sl.length) .no)[i]? = some s → s ≠ .no → sl[i]? = some s := fun {i s} h hne => by
    by_cases hi : i < sl.length
    · rw [List.getElem?_append_left hi] at h
      exact h
    · rw [List.getElem?_append_right (by omega), List.getElem?_replicate] at h
      split at h
      · exact absurd (Option.some.inj h).symm hne
      · cases h
  have at_ : ∀ {i : Nat} {u : Option V}, (vs.map some)[i]? = some u → (L2.start N vs)[i]? = some u := fun {i u} h => by
    unfold L2.start
    rw [List.getElem?_append_left (List.getElem?_eq_some_iff.mp h).1]
    exact h
  have at2 : ∀ {i : Nat} {s : Sl} {u : Option V}, sl[i]? = some s → (L2.start N vs)[i]? = some u → (vs.map some)[i]? = some u := fun {i s u} h h' => by
    have hi : i < (vs.map some).length := by
      rw [List.length_map, hl]
      exact (List.getElem?_eq_some_iff.mp h).1
    unfold L2.start at h'
    rw [List.getElem?_append_left hi] at h'
    exact h'
  refine ⟨?_, r.sG, r.sF, r.dj, fun i d h => ?_, fun i b d h => ?_, fun i j b c d e p h1 h2 h3 h4 => ?_, fun i p h => ?_⟩
  · unfold L2.start
    rw [List.length_append, List.length_append, List.length_map, List.length_replicate, List.length_replicate, hl]
  · obtain ⟨v, e1, q⟩ := r.im i d (out h (by intro z; cases z))
    exact ⟨v, at_ e1, q⟩
  · obtain ⟨p, o, e1, q⟩ := r.ow i b d (out h (by intro z; cases z))
    exact ⟨p, o, at_ e1, q⟩
  · have h1 := out h1 (by intro z; cases z)
    have h2 := out h2 (by intro z; cases z)
    exact r.nd i j b c d e p h1 h2 (at2 h1 h3) (at2 h2 h4)
  · obtain ⟨h1, d, h2⟩ := r.rt i p h
    refine ⟨at_ h1, d, ?_⟩
    rw [List.getElem?_append_left (List.getElem?_eq_some_iff.mp h2).1]
    exact h2
theorem AR.ends (r : AR K x G H vs sl) (s : Same G G') (r' : ER K x G' H' σ' env') : ER K x G' H' (vs.map some) (outs sl env') := by
  obtain ⟨r, ro⟩ := r
  have own : ∀ {i : Nat} {b : Bool} {d : D}, sl[i]? = some (.ow b d) → ∃ p d', vs[i]? = some (.ref p) ∧ (vs.map some)[i]? = some (some (.ref p)) ∧ x.R i = some p ∧ σ'[i]? = some (some (.ref p)) ∧ env'[i]? = some (.ow true d') := fun {i b d} h => by
    obtain ⟨_, p, h1, h2⟩ := ro i b d h
    obtain ⟨h3, d', h4⟩ := r'.rt i p h2
    refine ⟨p, d', h1, ?_, h2, h3, h4⟩
    rw [List.getElem?_map, h1]
    rfl
  have out : ∀ {i : Nat} {sv : Sl}, (outs sl env')[i]? = some sv → (∃ d, sv = .im d ∧ sl[i]? = some (.im d)) ∨ (sv = .no) ∨ ∃ b d p d', sl[i]? = some (.ow b d) ∧ sv = .ow true d' ∧ (vs.map some)[i]? = some (some (.ref p)) ∧ x.R i = some p ∧ σ'[i]? = some (some (.ref p)) ∧ env'[i]? = some (.ow true d') := fun {i sv} h => by
    rw [outs_get] at h
    cases z : sl[i]? with
    | none =>
      rw [z] at h
      cases h
    | some s0 =>
      rw [z] at h
      cases s0 with
      | no =>
        cases h
        exact .inr (.inl rfl)
      | im d =>
        cases h
        exact .inl ⟨d, rfl, rfl⟩
      | ow b d =>
        obtain ⟨p, d', h1, h2, h3, h4, h5⟩ := own z
        have h' : (match env'[i]? with | some e => some e | none => some (Sl.ow b d)) = some sv := h
        rw [h5] at h'
        cases h'
        exact .inr (.inr ⟨b, d, p, d', rfl, rfl, h2, h3, h4, h5⟩)
  refine ⟨?_, r'.sG, r'.sF, r'.dj, fun i d h => ?_, fun i b d h => ?_, fun i j b c d e p h1 h2 h3 h4 => ?_, fun i p h => ?_⟩
  · rw [outs_length]
    exact r.len
  · rcases out h with ⟨d', e1, e2⟩ | e1 | ⟨_, _, _, _, _, e1, _⟩
    · cases e1
      obtain ⟨v, z1, z2⟩ := r.im i d e2
      exact ⟨v, z1, Rep.mono s _ _ z2⟩
    · cases e1
    · cases e1
  · rcases out h with ⟨d', e1, e2⟩ | e1 | ⟨b0, d0, p, d', e0, e1, e2, e3, e4, e5⟩
    · cases e1
    · cases e1
    · cases e1
      obtain ⟨p', o, z1, z2⟩ := r'.ow i _ _ e5
      rw [e4] at z1
      cases z1
      exact ⟨p, o, e2, z2⟩
  · rcases out h1 with ⟨d', e1, e2⟩ | e1 | ⟨b0, d0, p0, d', e0, e1, e2, e3, e4, e5⟩
    · cases e1
    · cases e1
    · rcases out h2 with ⟨d2', f1, f2⟩ | f1 | ⟨b2, d2, p2, d2', f0, f1, f2, f3, f4, f5⟩
      · cases f1
      · cases f1
      · rw [e2] at h3
        cases h3
        rw [f2] at h4
        cases h4
        exact r'.nd i j _ _ _ _ p e5 f5 e4 f4
  · obtain ⟨h1, d, h2⟩ := r.rt i p h
    obtain ⟨h3, d', h4⟩ := r'.rt i p h
    refine ⟨h1, d', ?_⟩
    rw [outs_get, h2]
    show (match env'[i]? with | some e => some e | none => _) = _
    rw [h4]
end
def envOf (N : List Str) (sl : List Sl) : Ev := sl ++ List.replicate (N.length - sl.length) .no
def enOf (sl : List Sl) (R : Rn) : En where
  nx := fun e => R.rt .non (outs sl e)
  rt := fun d e => R.rt d (outs sl e)
  ro := fun d e => R.ro d (outs sl e)
  xc := fun x e => R.xc x (outs sl e)
section
variable {P : Program} {w : World} {K : PySem.W.Frag} {mg : Str → Option Value} {base : Heap} {x qual : Str} {params : Arguments} {body : List Stmt} {scope : Scope} {dvs : List V} {kws : List (Str × V)} {f : Addr} {fd : FuncData}
def BodyQ (P : Program) (w : World) (K : PySem.W.Frag) (mg : Str → Option Value) (base : Heap) (k : Nat) (N : List Str) (qual : Str) (scope : Scope) (f : Addr) (body : List Stmt) (wb : WS) : Prop :=
  ∀ (cdv : Value) (A : Around) (outer : List Env) (s : Shared) (H : Hp) (E : XK), Room k (A.deeper (PyProof.Rows.envOfC qual scope s.heap.objs.size f cdv)) → QSs (cxOf (L2.CX P w) P w K mg base N qual scope f cdv A outer s H E) (fun cls d _ H' => E cls d H') body wb
theorem fn_T {N ps : List Str} {k : Nat} {T : SpT} {wb : WS} (F : FunD K x qual params body scope dvs kws f fd) (S : FnScope N ps scope) (len : ∀ sl R, T sl R → sl.length = ps.length) (hb : BodyQ P w K mg base k N qual scope f body wb)
    (sem : ∀ sl R, T sl R → wb (envOf N sl) (enOf sl R)) : FnOk P w K mg base (L2.CX P w) (k + 1) f fd ps (spT K T) := by
  have ln : ∀ vs H Q E, spT K T vs H Q E → vs.length = ps.length := fun vs H Q E h => by
    obtain ⟨x, G, sl, R, ar, hT, _⟩ := h
    have := ar.1.len
    rw [List.length_map] at this
    rw [this, len sl R hT]
  refine F.ok S ln fun cdv A outer s H vs Q E hr h => ⟨_, hb cdv A outer s H E hr, ?_⟩
  obtain ⟨x, G, sl, R, ar, hT, h1, h2, h3⟩ := h
  exact ⟨x, G, envOf N sl, enOf sl R, ar.start N, sem sl R hT, ⟨fun env' σ' G' H' s r q => h1 .non _ .non G' H' s (ar.ends s r) rfl q, fun d env' σ' v G' H' s r rp q => h1 d _ v G' H' s (ar.ends s r) rp q,
    fun d env' σ' p o G' H' s r a1 a2 a3 a4 a5 q => h2 d _ p o G' H' s (ar.ends s r) a1 a2 a3 a4 a5 q, fun _ _ _ _ _ _ q => q.elim, fun _ _ _ _ _ _ q => q.elim, fun e env' cls dd σ' G' H' s r xr q => h3 e _ cls dd G' H' s (ar.ends s r) xr q⟩⟩
end
end TL

namespace TL
open PySem PySem.Spec L2
def slOf (env : Ev) : Hd → Option Sl
  | .im d => some (.im d)
  | .ow j => (match owAt env j with
    | some d => some (.ow true d)
    | none => none)
def slsOf (env : Ev) : List Hd → Option (List Sl)
  | [] => some []
  | h :: t => match slOf env h with
    | some s => (match slsOf env t with
      | some l => some (s :: l)
      | none => none)
    | none => none
def ows : List Hd → List Nat
  | [] => []
  | .ow j :: t => j :: ows t
  | .im _ :: t => ows t
def ndup : List Nat → Bool
  | [] => true
  | i :: t => !t.contains i && ndup t
def backE (env : Ev) : List Hd → List Sl → Ev
  | .ow j :: hs, .ow _ d :: sl => backE (putOw env j d) hs sl
  | _ :: hs, _ :: sl => backE env hs sl
  | _, _ => env
theorem slsOf_get {env : Ev} : ∀ {hs : List Hd} {sl : List Sl} {i : Nat} {h : Hd}, slsOf env hs = some sl → hs[i]? = some h → ∃ s, sl[i]? = some s ∧ slOf env h = some s
  | [], sl, i, h, e, q => by simp at q
  | h0 :: t, sl, i, h, e, q => by
    unfold slsOf at e
    cases z : slOf env h0 with
    | none => rw [z] at e; cases e
    | some s0 =>
      rw [z] at e
      cases y : slsOf env t with
      | none => rw [y] at e; cases e
      | some l =>
        rw [y] at e
        cases e
        cases i with
        | zero =>
          have q' : h0 = h := by simpa using q
          rw [← q']
          exact ⟨s0, rfl, z⟩
        | succ i => exact slsOf_get (i := i) y (by simpa using q)
theorem slsOf_length {env : Ev} : ∀ {hs : List Hd} {sl : List Sl}, slsOf env hs = some sl → sl.length = hs.length
  | [], sl, e => by cases e; rfl
  | h0 :: t, sl, e => by
    unfold slsOf at e
    cases z : slOf env h0 with
    | none => rw [z] at e; cases e
    | some s0 =>
      rw [z] at e
      cases y : slsOf env t with
      | none => rw [y] at e; cases e
      | some l =>
        rw [y] at e
        cases e
        exact congrArg Nat.succ (slsOf_length y)
theorem ows_mem : ∀ {hs : List Hd} {j : Nat}, j ∈ ows hs ↔ Hd.ow j ∈ hs
  | [], j => by simp [ows]
  | .ow k :: t, j => by
    unfold ows
    rw [List.mem_cons, List.mem_cons, ows_mem (hs := t)]
    constructor
    · rintro (rfl | q)
      · exact .inl rfl
      · exact .inr q
    · rintro (q | q)
      · cases q
        exact .inl rfl
      · exact .inr q
  | .im d :: t, j => by
    unfold ows
    rw [List.mem_cons, ows_mem (hs := t)]
    constructor
    · exact fun q => .inr q
    · rintro (q | q)
      · cases q
      · exact q
theorem ows_pos : ∀ {hs : List Hd} {i k j : Nat}, ndup (ows hs) = true → hs[i]? = some (.ow j) → hs[k]? = some (.ow j) → i = k
  | [], i, k, j, _, h, _ => by simp at h
  | .im d :: t, i, k, j, n, h1, h2 => by
    cases i with
    | zero => simp at h1
    | succ i =>
      cases k with
      | zero => simp at h2
      | succ k => exact congrArg Nat.succ (ows_pos (hs := t) n (by simpa using h1) (by simpa using h2))
  | .ow j0 :: t, i, k, j, n, h1, h2 => by
    unfold ows ndup at n
    rw [Bool.and_eq_true] at n
    have nm : j0 ∉ ows t := by simpa using n.1
    cases i with
    | zero =>
      have e1 : j0 = j := by simpa using h1
      cases k with
      | zero => rfl
      | succ k =>
        have h2' : t[k]? = some (.ow j) := by simpa using h2
        rw [e1] at nm
        exact absurd (ows_mem.mpr (List.mem_of_getElem? h2')) nm
    | succ i =>
      have h1' : t[i]? = some (.ow j) := by simpa using h1
      cases k with
      | zero =>
        have e1 : j0 = j := by simpa using h2
        rw [e1] at nm
        exact absurd (ows_mem.mpr (List.mem_of_getElem? h1')) nm
      | succ k => exact congrArg Nat.succ (ows_pos (hs := t) n.2 h1' (by simpa using h2))
theorem putOw_length {env : Ev} {j : Nat} {d : D} : (putOw env j d).length = env.length := by
  unfold putOw
  split
  · rw [List.length_set]
  · rfl
theorem putOw_ne {env : Ev} {j k : Nat} {d : D} (h : k ≠ j) : (putOw env j d)[k]? = env[k]? := by
  unfold putOw
  split
  · rw [List.getElem?_set_ne (Ne.symm h)]
  · rfl
theorem putOw_at {env : Ev} {j : Nat} {b : Bool} {d d' : D} (h : env[j]? = some (.ow b d)) : (putOw env j d')[j]? = some (.ow b d') := by
  rw [putOw_eq h, List.getElem?_set_self (List.getElem?_eq_some_iff.mp h).1]
theorem backE_length : ∀ {hs : List Hd} {sl : List Sl} {env : Ev}, (backE env hs sl).length = env.length
  | [], sl, env => by cases sl <;> rfl
  | h :: hs, [], env => by cases h <;> rfl
  | .ow j :: hs, .ow b d :: sl, env => by
    unfold backE
    rw [backE_length, putOw_length]
  | .ow j :: hs, .im d :: sl, env => by
    unfold backE
    exact backE_length
  | .ow j :: hs, .no :: sl, env => by
    unfold backE
    exact backE_length
  | .im _ :: hs, s :: sl, env => by
    unfold backE
    exact backE_length
theorem backE_out : ∀ {hs : List Hd} {sl : List Sl} {env : Ev} {k : Nat}, Hd.ow k ∉ hs → (backE env hs sl)[k]? = env[k]?
  | [], sl, env, k, _ => by cases sl <;> rfl
  | h :: hs, [], env, k, _ => by cases h <;> rfl
  | .ow j :: hs, .ow b d :: sl, env, k, hn => by
    unfold backE
    rw [backE_out (fun z => hn (List.mem_cons_of_mem _ z)), putOw_ne fun z => hn (by rw [z]; exact List.mem_cons_self)]
  | .ow j :: hs, .im d :: sl, env, k, hn => by
    unfold backE
    exact backE_out fun z => hn (List.mem_cons_of_mem _ z)
  | .ow j :: hs, .no :: sl, env, k, hn => by
    unfold backE
    exact backE_out fun z => hn (List.mem_cons_of_mem _ z)
  | .im _ :: hs, s :: sl, env, k, hn => by
    unfold backE
    exact backE_out fun z => hn (List.mem_cons_of_mem _ z)
theorem backE_at : ∀ {hs : List Hd} {sl : List Sl} {env : Ev} {i k : Nat} {b c : Bool} {d d' : D}, ndup (ows hs) = true → hs[i]? = some (.ow k) → sl[i]? = some (.ow c d') → env[k]? = some (.ow b d) → (backE env hs sl)[k]? = some (.ow b d')
  | [], sl, env, i, k, b, c, d, d', _, h, _, _ => by simp at h
  | h :: hs, [], env, i, k, b, c, d, d', _, _, h2, _ => by simp at h2
  | .ow j :: hs, s :: sl, env, i, k, b, c, d, d', n, h1, h2, h3 => by
    unfold ows ndup at n
    rw [Bool.and_eq_true] at n
    have nm : j ∉ ows hs := by simpa using n.1
    cases i with
    | zero =>
      have e1 : j = k := by simpa using h1
      have e2 : s = .ow c d' := by simpa using h2
      subst e1 e2
      unfold backE
      rw [backE_out (fun z => nm (ows_mem.mpr z))]
      exact putOw_at h3
    | succ i =>
      have h1' : hs[i]? = some (.ow k) := by simpa using h1
      have h2' : sl[i]? = some (.ow c d') := by simpa using h2
      have nk : k ≠ j := fun z => by
        rw [z] at h1'
        exact nm (ows_mem.mpr (List.mem_of_getElem? h1'))
      cases s with
      | ow b0 d0 =>
        unfold backE
        exact backE_at n.2 h1' h2' (by rw [putOw_ne nk]; exact h3)
      | im _ =>
        unfold backE
        exact backE_at n.2 h1' h2' h3
      | no =>
        unfold backE
        exact backE_at n.2 h1' h2' h3
  | .im _ :: hs, s :: sl, env, i, k, b, c, d, d', n, h1, h2, h3 => by
    cases i with
    | zero => simp at h1
    | succ i =>
      unfold backE
      exact backE_at (hs := hs) (i := i) n (by simpa using h1) (by simpa using h2) h3
section
variable {K : PySem.W.Frag} {x : Fx} {G H G' H' : Hp} {σ : St} {env : Ev} {hs : List Hd} {vs : List V} {sl sl' : List Sl}
theorem HRs.get {G : Hp} : ∀ {hs : List Hd} {vs : List V} {i : Nat} {h : Hd}, HRs K G σ hs vs → hs[i]? = some h → ∃ v, vs[i]? = some v ∧ HR K G σ h v
  | [], vs, i, h, _, e => by simp at e
  | h0 :: t, vs, i, h, q, e => by
    obtain ⟨v, r, rfl, q1, q2⟩ := q
    cases i with
    | zero =>
      have e' : h0 = h := by simpa using e
      rw [← e']
      exact ⟨v, rfl, q1⟩
    | succ i => exact HRs.get (i := i) q2 (by simpa using e)
theorem HRs.length {G : Hp} : ∀ {hs : List Hd} {vs : List V}, HRs K G σ hs vs → vs.length = hs.length
  | [], vs, q => by
    have q' : vs = [] := q
    rw [q']
    rfl
  | h0 :: t, vs, q => by
    obtain ⟨v, r, rfl, q1, q2⟩ := q
    exact congrArg Nat.succ (HRs.length q2)
theorem call_frame (r : ER K x G H σ env) (hr : HRs K G σ hs vs) (hsl : slsOf env hs = some sl) (hn : ndup (ows hs) = true) : ∃ x' : Fx, AR K x' G H vs sl ∧
    (∀ G' H' sl', Same G G' → ER K x' G' H' (vs.map some) sl' → ER K x G' H' σ (backE env hs sl')) ∧
    (∀ p, x'.F p = none → (∀ i, x'.R i ≠ some p) → x.F p = none ∧ ∀ (j : Nat) b d, env[j]? = some (.ow b d) → σ[j]? ≠ some (some (.ref p))) := by
  classical
  let own : Addr → Prop := fun a => ∃ (j : Nat) (b : Bool) (d : D), env[j]? = some (.ow b d) ∧ σ[j]? = some (some (.ref a)) ∧ Hd.ow j ∉ hs
  let F' : Hp := fun a => if own a then H a else x.F a
  let R' : Nat → Option Addr := fun i => match hs[i]? with
    | some (.ow j) => (match σ[j]? with
      | some (some (.ref p)) => some p
      | _ => none)
    | _ => none
  have R_of : ∀ {i j : Nat} {p : Addr}, hs[i]? = some (.ow j) → σ[j]? = some (some (.ref p)) → R' i = some p := fun {i j p} h1 h2 => by
    show (match hs[i]? with | some (.ow j) => (match σ[j]? with | some (some (.ref p)) => some p | _ => none) | _ => none) = some p
    rw [h1]
    simp only [h2]
  have R_inv : ∀ {i : Nat} {p : Addr}, R' i = some p → ∃ j, hs[i]? = some (.ow j) ∧ σ[j]? = some (some (.ref p)) := fun {i p} h => by
    have h' : (match hs[i]? with | some (.ow j) => (match σ[j]? with | some (some (.ref p)) => some p | _ => none) | _ => none) = some p := h
    cases z : hs[i]? with
    | none => rw [z] at h'; cases h'
    | some hd =>
      rw [z] at h'
      cases hd with
      | im d => cases h'
      | ow j =>
        refine ⟨j, rfl, ?_⟩
        simp only at h'
        split at h'
        · rename_i p' y
          cases h'
          exact y
        · cases h'
  have F_own : ∀ {a : Addr}, own a → F' a = H a := fun {a} h => if_pos h
  have F_not : ∀ {a : Addr}, ¬ own a → F' a = x.F a := fun {a} h => if_neg h
  -- an owned slot that is handed over
  have pass : ∀ {i j : Nat}, hs[i]? = some (.ow j) → ∃ b d p o, env[j]? = some (.ow b d) ∧ sl[i]? = some (.ow true d) ∧ σ[j]? = some (some (.ref p)) ∧ vs[i]? = some (.ref p) ∧ H p = some o ∧ RepO K G d o ∧ x.F p = none ∧ G p = none ∧ ¬ own p := fun {i j} h => by
    obtain ⟨s, e1, e2⟩ := slsOf_get hsl h
    obtain ⟨v, e3, e4⟩ := hr.get h
    have e2' : (match owAt env j with | some d => some (Sl.ow true d) | none => none) = some s := e2
    cases z : owAt env j with
    | none => rw [z] at e2'; cases e2'
    | some d =>
      rw [z] at e2'
      have e2'' : Sl.ow true d = s := Option.some.inj e2'
      subst e2''
      obtain ⟨b, z⟩ := owAt_some z
      obtain ⟨p, o, a1, a2, a3, a4, a5⟩ := r.ow j b d z
      have e4' : σ[j]? = some (some v) := e4
      rw [a1] at e4'
      have ev : v = .ref p := by
        cases e4'
        rfl
      rw [ev] at e3
      refine ⟨b, d, p, o, z, e1, a1, e3, a2, a3, a4, a5, fun ⟨j', b', d', q1, q2, q3⟩ => ?_⟩
      have := r.nd j j' b b' d d' p z q1 a1 q2
      subst this
      exact q3 (List.mem_of_getElem? h)
  have len : (vs.map some).length = sl.length := by
    rw [List.length_map, hr.length, slsOf_length hsl]
  have slot : ∀ {i : Nat} {s : Sl}, sl[i]? = some s → ∃ h, hs[i]? = some h ∧ slOf env h = some s := fun {i s} h => by
    have hi : i < hs.length := by
      rw [← slsOf_length hsl]
      exact (List.getElem?_eq_some_iff.mp h).1
    obtain ⟨s', e1, e2⟩ := slsOf_get hsl (List.getElem?_eq_getElem hi)
    rw [h] at e1
    cases e1
    exact ⟨_, List.getElem?_eq_getElem hi, e2⟩
  have slotO : ∀ {i : Nat} {b : Bool} {d : D}, sl[i]? = some (.ow b d) → ∃ j, hs[i]? = some (.ow j) := fun {i b d} h => by
    obtain ⟨hd, e1, e2⟩ := slot h
    cases hd with
    | im d' =>
      have e2' : some (Sl.im d') = some (Sl.ow b d) := e2
      cases e2'
    | ow j => exact ⟨j, e1⟩
  have sF' : Same F' H := fun a o e => by
    by_cases h : own a
    · rw [F_own h] at e
      exact e
    · rw [F_not h] at e
      exact r.sF a o e
  have dj' : ∀ a o, F' a = some o → G a = none ∨ ∃ vs, o = .tup vs := fun a o e => by
    by_cases h : own a
    · obtain ⟨j, b, d, q1, q2, _⟩ := h
      obtain ⟨p, _, a1, _, _, _, a5⟩ := r.ow j b d q1
      rw [q2] at a1
      cases a1
      exact .inl a5
    · rw [F_not h] at e
      exact r.dj a o e
  refine ⟨⟨F', R'⟩, ⟨⟨len, r.sG, sF', dj', fun i d h => ?_, fun i b d h => ?_, fun i k b c d e p h1 h2 h3 h4 => ?_, fun i p h => ?_⟩, fun i b d h => ?_⟩, fun G1 H1 sl1 s1 r1 => ?_, fun p hF hR => ?_⟩
  · obtain ⟨hd, e1, e2⟩ := slot h
    cases hd with
    | im d' =>
      have e2' : some (Sl.im d') = some (Sl.im d) := e2
      cases e2'
      obtain ⟨v, e3, e4⟩ := hr.get e1
      refine ⟨v, ?_, e4⟩
      rw [List.getElem?_map, e3]
      rfl
    | ow j =>
      obtain ⟨b, d0, p, o, _, e3, _⟩ := pass e1
      rw [h] at e3
      cases e3
  · obtain ⟨j, e1⟩ := slotO h
    obtain ⟨b0, d0, p, o, a0, a1, a2, a3, a4, a5, a6, a7, a8⟩ := pass e1
    rw [h] at a1
    cases a1
    refine ⟨p, o, ?_, a4, a5, ?_, a7⟩
    · rw [List.getElem?_map, a3]
      rfl
    · show F' p = none
      rw [F_not a8]
      exact a6
  · obtain ⟨j1, e1⟩ := slotO h1
    obtain ⟨j2, e2⟩ := slotO h2
    obtain ⟨b0, d0, p1, o, a0, a1, a2, a3, _⟩ := pass e1
    obtain ⟨b2, d2, p2, o2, c0, c1, c2, c3, _⟩ := pass e2
    rw [List.getElem?_map, a3] at h3
    rw [List.getElem?_map, c3] at h4
    cases h3
    cases h4
    have ej := r.nd j1 j2 b0 b2 d0 d2 p a0 c0 a2 c2
    subst ej
    exact ows_pos hn e1 e2
  · obtain ⟨j, e1, e2⟩ := R_inv h
    obtain ⟨b0, d0, p1, o, a0, a1, a2, a3, _⟩ := pass e1
    rw [e2] at a2
    cases a2
    refine ⟨?_, d0, a1⟩
    rw [List.getElem?_map, a3]
    rfl
  · obtain ⟨j, e1⟩ := slotO h
    obtain ⟨b0, d0, p1, o, a0, a1, a2, a3, _⟩ := pass e1
    rw [h] at a1
    cases a1
    exact ⟨rfl, p1, a3, R_of e1 a2⟩
  · -- behind the call
    have back : ∀ {k : Nat} {b : Bool} {d : D}, env[k]? = some (.ow b d) → Hd.ow k ∈ hs → ∃ (i : Nat) (p : Addr) (d' : D), hs[i]? = some (.ow k) ∧ σ[k]? = some (some (.ref p)) ∧ (vs.map some)[i]? = some (some (.ref p)) ∧ sl1[i]? = some (.ow true d') ∧ (backE env hs sl1)[k]? = some (.ow b d') := fun {k b d} h hm => by
      obtain ⟨i, hi⟩ := List.mem_iff_getElem?.mp hm
      obtain ⟨b0, d0, p, o, a0, a1, a2, a3, _⟩ := pass hi
      obtain ⟨q1, d', q2⟩ := r1.rt i p (R_of hi a2)
      rw [h] at a0
      cases a0
      exact ⟨i, p, d', hi, a2, q1, q2, backE_at hn hi q2 h⟩
    have keep : ∀ {k : Nat}, Hd.ow k ∉ hs → (backE env hs sl1)[k]? = env[k]? := fun {k} h => backE_out h
    have inv : ∀ {k : Nat} {b : Bool} {d : D}, (backE env hs sl1)[k]? = some (.ow b d) → ∃ d0, env[k]? = some (.ow b d0) := fun {k b d} h => by
      by_cases hm : Hd.ow k ∈ hs
      · obtain ⟨i, hi⟩ := List.mem_iff_getElem?.mp hm
        obtain ⟨b0, d0, p, o, a0, _⟩ := pass hi
        obtain ⟨i2, p2, d2, z1, z2, z3, z4, z5⟩ := back a0 hm
        rw [h] at z5
        cases z5
        exact ⟨d0, a0⟩
      · rw [keep hm] at h
        exact ⟨d, h⟩
    have F_keep : ∀ {a : Addr} {o : HO}, x.F a = some o → F' a = some o := fun {a o} e => by
      have no : ¬ own a := fun ⟨j, b, d, q1, q2, _⟩ => by
        obtain ⟨p, _, a1, _, _, a4, _⟩ := r.ow j b d q1
        rw [q2] at a1
        cases a1
        rw [a4] at e
        cases e
      rw [F_not no]
      exact e
    have sF1 : Same x.F H1 := fun a o e => r1.sF a o (F_keep e)
    refine ⟨by rw [backE_length]; exact r.len, r1.sG, sF1, fun a o e => r1.dj a o (F_keep e), fun k d h => ?_, fun k b d h => ?_, fun k k2 b c d e p h1 h2 h3 h4 => ?_, fun k p h => ?_⟩
    · have h' : env[k]? = some (.im d) := by
        by_cases hm : Hd.ow k ∈ hs
        · obtain ⟨i, hi⟩ := List.mem_iff_getElem?.mp hm
          obtain ⟨b0, d0, p, o, a0, _⟩ := pass hi
          obtain ⟨i2, p2, d2, z1, z2, z3, z4, z5⟩ := back a0 hm
          rw [h] at z5
          cases z5
        · rw [keep hm] at h
          exact h
      obtain ⟨v, e1, q⟩ := r.im k d h'
      exact ⟨v, e1, Rep.mono s1 _ _ q⟩
    · obtain ⟨d0, e0⟩ := inv h
      obtain ⟨p, o, a1, a2, a3, a4, a5⟩ := r.ow k b d0 e0
      by_cases hm : Hd.ow k ∈ hs
      · obtain ⟨i, p', d', z1, z2, z3, z4, z5⟩ := back e0 hm
        rw [h] at z5
        cases z5
        rw [a1] at z2
        cases z2
        obtain ⟨p2, o2, y1, y2, y3, y4, y5⟩ := r1.ow i true _ z4
        rw [z3] at y1
        cases y1
        exact ⟨p, o2, a1, y2, y3, a4, y5⟩
      · rw [keep hm, e0] at h
        cases h
        have ho : own p := ⟨k, b, d, e0, a1, hm⟩
        have f1 : F' p = some o := by rw [F_own ho]; exact a2
        exact ⟨p, o, a1, r1.sF p o f1, RepO.mono s1 a3, a4, (r1.dj p o f1).resolve_right a3.nt⟩
    · obtain ⟨d0, e0⟩ := inv h1
      obtain ⟨d2, e2⟩ := inv h2
      exact r.nd k k2 b c d0 d2 p e0 e2 h3 h4
    · obtain ⟨h1, d, h2⟩ := r.rt k p h
      refine ⟨h1, ?_⟩
      by_cases hm : Hd.ow k ∈ hs
      · obtain ⟨i, p', d', z1, z2, z3, z4, z5⟩ := back h2 hm
        exact ⟨d', z5⟩
      · rw [keep hm]
        exact ⟨d, h2⟩
  · have hF' : F' p = none := hF
    have no : ¬ own p := fun ho => by
      have ho2 := ho
      obtain ⟨j, b, d, q1, q2, q3⟩ := ho2
      obtain ⟨p', o, a1, a2, _⟩ := r.ow j b d q1
      rw [q2] at a1
      cases a1
      rw [F_own ho, a2] at hF'
      cases hF'
    rw [F_not no] at hF'
    refine ⟨hF', fun j b d q1 q2 => ?_⟩
    by_cases hm : Hd.ow j ∈ hs
    · obtain ⟨i, hi⟩ := List.mem_iff_getElem?.mp hm
      exact hR i (R_of hi q2)
    · exact no ⟨j, b, d, q1, q2, hm⟩
end
def wCall (T : SpT) (wl : WA) : WE := fun env Q Xp => wl env (fun hs e => ndup (ows hs) = true ∧ mo (slsOf e hs) fun sl => T sl ⟨fun d sl' => Q d (backE e hs sl'), fun _ _ => False, fun y sl' => Xp y (backE e hs sl')⟩) Xp
def wCallF (T : SpT) (wl : WA) : WE := fun env Q Xp => wl env (fun hs e => ndup (ows hs) = true ∧ mo (slsOf e hs) fun sl => T sl ⟨fun _ _ => False, fun d sl' => Q d (backE e hs sl'), fun y sl' => Xp y (backE e hs sl')⟩) Xp
section
variable {X : Cx} {W : WX} {K : PySem.W.Frag} {T : SpT} {wl : WA}
theorem l_call (σ : St) (H : Hp) (Q : VK) (h : lO K W (imO (wCall T wl)) σ H Q) : lA K W wl σ H fun vs H1 => spT K T vs H1 Q (fun cls d H' => W cls d σ H') := by
  obtain ⟨x, G, env, Q', X', r, hw, hn, hx⟩ := h
  refine ⟨x, G, env, fun hs e => ndup (ows hs) = true ∧ mo (slsOf e hs) fun sl => T sl ⟨fun d sl' => Q' (.im d) (backE e hs sl'), fun _ _ => False, fun y sl' => X' y (backE e hs sl')⟩, X', r, hw, fun hs e1 vs G1 H1 s1 r1 q1 hq => ?_, hx⟩
  obtain ⟨nd, hq⟩ := hq
  obtain ⟨sl, z, hT⟩ := mo_some hq
  obtain ⟨x', ar, bk, own⟩ := call_frame r1 q1 z nd
  exact ⟨x', G1, sl, _, ar, hT, fun d sl' v G' H' s r' rp hq => hn (.im d) _ v G' H' (s1.trans s) (bk G' H' sl' s r') rp hq, fun _ _ _ _ _ _ _ _ _ _ _ _ _ z => z.elim,
    fun e sl' cls dd G' H' s r' xr hq => hx e _ cls dd G' H' (s1.trans s) (bk G' H' sl' s r') xr hq⟩
theorem l_callF (σ : St) (H : Hp) (Q : VK) (h : lF K W (wCallF T wl) σ H Q) : lA K W wl σ H fun vs H1 => spT K T vs H1 Q (fun cls d H' => W cls d σ H') := by
  obtain ⟨x, G, env, Q', X', r, hw, hn, hx⟩ := h
  refine ⟨x, G, env, fun hs e => ndup (ows hs) = true ∧ mo (slsOf e hs) fun sl => T sl ⟨fun _ _ => False, fun d sl' => Q' d (backE e hs sl'), fun y sl' => X' y (backE e hs sl')⟩, X', r, hw, fun hs e1 vs G1 H1 s1 r1 q1 hq => ?_, hx⟩
  obtain ⟨nd, hq⟩ := hq
  obtain ⟨sl, zsl, hT⟩ := mo_some hq
  obtain ⟨x', ar, bk, own⟩ := call_frame r1 q1 zsl nd
  refine ⟨x', G1, sl, _, ar, hT, fun _ _ _ _ _ _ _ _ z => z.elim, fun d sl' p o G' H' s r' a1 a2 a3 a4 a5 hq => ?_,
    fun e sl' cls dd G' H' s r' xr hq => hx e _ cls dd G' H' (s1.trans s) (bk G' H' sl' s r') xr hq⟩
  obtain ⟨b1, b2⟩ := own p a4 a5
  refine hn d _ p o G' H' (s1.trans s) (bk G' H' sl' s r') a1 a2 a3 b1 (fun j b d' e z => ?_) hq
  by_cases hm : Hd.ow j ∈ hs
  · obtain ⟨i, hi⟩ := List.mem_iff_getElem?.mp hm
    obtain ⟨sv, e3, e4⟩ := slsOf_get zsl hi
    have e4' : (match owAt e1 j with | some d => some (Sl.ow true d) | none => none) = some sv := e4
    cases y : owAt e1 j with
    | none => rw [y] at e4'; cases e4'
    | some d0 =>
      obtain ⟨b0, y⟩ := owAt_some y
      exact b2 j b0 d0 y z
  · rw [backE_out hm] at e
    exact b2 j b d' e z
end
end TL

namespace TL
open PySem PySem.Spec L2
structure FnT (P : Program) (w : World) (K : PySem.W.Frag) (mg : Str → Option Value) (base : Heap) (k : Nat) (x : Str) (ps : List Str) (T : SpT) : Prop where
  ex : ∃ f fd, FnOk P w K mg base (L2.CX P w) k f fd ps (spT K T) ∧ mg x = some (.ref f) ∧ PySem.W.keepIn K (.ref f) = true ∧ Binds K fd ps []
structure MeT (P : Program) (w : World) (K : PySem.W.Frag) (mg : Str → Option Value) (base : Heap) (k : Nat) (c m : Str) (ps : List Str) (T : SpT) : Prop where
  ex : ∃ f fd, FnOk P w K mg base (L2.CX P w) k f fd ps (spT K T) ∧ Meth K (He.ga K c) m f ∧ Cls K (He.ga K c) ∧ Binds K fd ps []
structure MkT (P : Program) (w : World) (K : PySem.W.Frag) (mg : Str → Option Value) (base : Heap) (k : Nat) (c : Str) (ps : List Str) (T : SpT) : Prop where
  ex : ∃ f fd, FnOk P w K mg base (L2.CX P w) k f fd ps (spT K T) ∧ Mk K (He.ga K c) f ∧ mg c = some (.ref (He.ga K c)) ∧ Binds K fd ps []
section
variable {X : Cx} {W : WX} {K : PySem.W.Frag} {T : SpT} {wl : WA} {k : Nat} {x : Str} {ps : List Str} {e o : Expr} {es : List Expr} {p pos apos : Pos} {wr : WO}
theorem qe_call (F : FnT X.prog X.w X.K X.mg X.base k x ps T) (hr : Room k X.A) (tk : Takes X W) (ha : QA X W (e :: es) wl) (hg : Gl X x := by rfl)
    (hdb : (x == ("__debug__" : Str)) = false := by decide) (he : starEach (e :: es) X.env = (false, eval e X.env) :: starEach es X.env := by rfl) (hpl : (backTo pos (starEach es X.env)).any (·.1) = false := by rfl) :
    QE X W (.Call (.Name x p) (e :: es) [] pos) (wCall T wl) := by
  obtain ⟨f, fd, G, hm, hk, hb⟩ := F.ex
  exact (pe_callS G hr hg hm hk hb (fun σ => passAt tk σ) ha hdb he hpl).le l_call
theorem qf_call (F : FnT X.prog X.w X.K X.mg X.base k x ps T) (hr : Room k X.A) (tk : Takes X W) (ha : QA X W (e :: es) wl) (hg : Gl X x := by rfl)
    (hdb : (x == ("__debug__" : Str)) = false := by decide) (he : starEach (e :: es) X.env = (false, eval e X.env) :: starEach es X.env := by rfl) (hpl : (backTo pos (starEach es X.env)).any (·.1) = false := by rfl) :
    QF X W (.Call (.Name x p) (e :: es) [] pos) (wCallF T wl) := by
  obtain ⟨f, fd, G, hm, hk, hb⟩ := F.ex
  exact (pe_callS G hr hg hm hk hb (fun σ => passAt tk σ) ha hdb he hpl).le l_callF
theorem _root_.L2.PE.ex {ι : Type} {e : Expr} {t : ι → TE} (h : ∀ i, PE X e (t i)) : PE X e (fun σ H Q => ∃ i, t i σ H Q) := ⟨fun pins s σ H Q I hw => let ⟨i, hi⟩ := hw; (h i).run pins s σ H Q I hi⟩
theorem zip_nolook {m : Str} : ∀ {ns : List Str} {vs : List V}, ns.contains m = false → (ns.zip vs).lookup m = none
  | [], _, _ => rfl
  | _ :: _, [], _ => rfl
  | n :: ns, v :: vs, h => by
    rw [List.contains_cons, Bool.or_eq_false_iff] at h
    rw [List.zip_cons_cons, List.lookup_cons, h.1]
    exact zip_nolook h.2
theorem lookup_memT {Ts : List (Str × SpT)} {c : Str} {T : SpT} (h : Ts.lookup c = some T) : (c, T) ∈ Ts := by
  induction Ts with
  | nil => cases h
  | cons q Ts ih =>
    obtain ⟨c0, T0⟩ := q
    rw [List.lookup_cons] at h
    cases z : (c == c0) with
    | true =>
      rw [z] at h
      cases h
      rw [beq_iff_eq.mp z]
      exact List.mem_cons_self
    | false =>
      rw [z] at h
      exact List.mem_cons_of_mem _ (ih h)
end
section
variable {K : PySem.W.Frag} {x : Fx} {G H : Hp} {σ : St} {env : Ev} {p : Addr} {o : HO} {d : D}
theorem ER.push (r : ER K x G H σ env) (hp : H p = some o) (q : RepO K G d o) (hF : x.F p = none) (hG : G p = none) (ho : ∀ (j : Nat) b d', env[j]? = some (.ow b d') → σ[j]? ≠ some (some (.ref p))) (hR : x.R env.length = none) :
    ER K x G H (σ ++ [some (.ref p)]) (env ++ [.ow false d]) := by
  have at_ : ∀ {i : Nat} {s : Sl}, (env ++ [.ow false d])[i]? = some s → (i < env.length ∧ env[i]? = some s ∧ (σ ++ [some (V.ref p)])[i]? = σ[i]?) ∨ (i = env.length ∧ s = .ow false d ∧ (σ ++ [some (V.ref p)])[i]? = some (some (.ref p))) := fun {i s} h => by
    by_cases hi : i < env.length
    · rw [List.getElem?_append_left hi] at h
      exact .inl ⟨hi, h, List.getElem?_append_left (by rw [r.len]; exact hi)⟩
    · rw [List.getElem?_append_right (by omega)] at h
      have hi2 : i - env.length = 0 := by
        have := (List.getElem?_eq_some_iff.mp h).1
        simp at this
        omega
      rw [hi2] at h
      refine .inr ⟨by omega, ?_, ?_⟩
      · simpa using h.symm
      · rw [List.getElem?_append_right (by rw [r.len]; omega), r.len, hi2]
        rfl
  refine ⟨by rw [List.length_append, List.length_append, r.len]; rfl, r.sG, r.sF, r.dj, fun i d' h => ?_, fun i b d' h => ?_, fun i j b c d1 d2 p' h1 h2 h3 h4 => ?_, fun i p' h => ?_⟩
  · rcases at_ h with ⟨_, h, e⟩ | ⟨_, h, _⟩
    · rw [e]
      exact r.im i d' h
    · cases h
  · rcases at_ h with ⟨_, h, e⟩ | ⟨_, h, e⟩
    · rw [e]
      exact r.ow i b d' h
    · cases h
      exact ⟨p, o, e, hp, q, hF, hG⟩
  · rcases at_ h1 with ⟨l1, h1, e1⟩ | ⟨l1, h1, e1⟩ <;> rcases at_ h2 with ⟨l2, h2, e2⟩ | ⟨l2, h2, e2⟩
    · rw [e1] at h3
      rw [e2] at h4
      exact r.nd i j b c d1 d2 p' h1 h2 h3 h4
    · rw [e2] at h4
      cases h4
      rw [e1] at h3
      exact absurd h3 (ho i b d1 h1)
    · rw [e1] at h3
      cases h3
      rw [e2] at h4
      exact absurd h4 (ho j c d2 h2)
    · rw [l1, l2]
  · obtain ⟨h1, d', h2⟩ := r.rt i p' h
    have hi : i < env.length := (List.getElem?_eq_some_iff.mp h2).1
    rw [List.getElem?_append_left (by rw [r.len]; exact hi), List.getElem?_append_left hi]
    exact ⟨h1, d', h2⟩
end
end TL

namespace TL
open PySem PySem.Spec L2
section
variable {X : Cx} {W : WX} {K : PySem.W.Frag} {T : SpT} {wl : WA} {k : Nat} {x : Str} {ps : List Str} {e o : Expr} {es : List Expr} {p pos apos : Pos} {wr : WO} {c : Str}
end
end TL

namespace TL
open PySem PySem.Spec L2
theorem one_size (v : Value) : [v].length ≤ sizeLine := by
  rw [sizeLine_eq]
  exact (by decide : 1 ≤ 16777216)
theorem ldC {M : Model} {s : Shared} {name : Str} {scope : Scope} {L a : Addr} {cd : Value} {m : Str → Option Value} {x : Str} {pos : Pos} {v : Value} {Q : Value → Shared → Prop} {A : Around} {E : Value → Shared → Prop} (hn : s.heap.Ns L m) (hv : m x = some v) (h : Q v s)
    (hk : scope.kind = .function := by rfl) (hl : (PyProof.Rows.envOfC name scope L a cd).kindOf x = some .local := by rfl) (hd : (x == ("__debug__" : Str)) = false := by decide) :
    wpAny M A (eval (.Name x pos) (PyProof.Rows.envOfC name scope L a cd)) Q E s := wpAny_Name (wpAny_loadName_local hk hl hn hv h) hd
theorem relO_one {v : V} {v' : Value} (n : Str) (r : RelV v v') (f : Str) : RelO (List.lookup f [(n, v)]) (if f = n then some v' else none) := by
  by_cases hw : f = n
  · subst hw
    rw [if_pos rfl]
    have q : List.lookup f [(f, v)] = some v := by simp [List.lookup]
    rw [q]
    exact r
  · rw [if_neg hw]
    have qw : (f == n) = false := by simpa using hw
    have q2 : List.lookup f [(n, v)] = none := by simp [List.lookup, qw]
    rw [q2]
    trivial
section
variable {X : Cx} {W : WX} {K : PySem.W.Frag} {e : Expr} {we : WE} {cn f : Str}
end
end TL

namespace PySem
open AutoSeq1 (wpAny_loadPart')
theorem meets_enumT (l : Addr) (items : Array Value) (n : Nat) (dct : Option Addr) (sl : Array (Option Value)) :
    Meets (Builtin.«enumerate.__new__» ⟨[.type "enumerate", .ref l], []⟩) (fun _ R s => s.heap.get? l = some { cls := .type "tuple", dict := dct, data := .seq items n, slots := sl } ∧
      R (.ok (.ret (.ref (s.heap.push { cls := .type "tuple_iterator", data := .fields #[.ref l, .int 0 0] }).objs.size)))
        { s with heap := (s.heap.push { cls := .type "tuple_iterator", data := .fields #[.ref l, .int 0 0] }).push { cls := .type "enumerate", data := .fields #[.none, .bool false, .ref s.heap.objs.size, rawInt 0, .none, .none] } }) :=
  .of_wp fun prog w A R s h => by
    obtain ⟨hp, g, d, tk, os⟩ := s; obtain ⟨hl, h⟩ := h
    have hsub := sub_enumerate
    have hL : Heap.IsTuple (Shared.heap ⟨hp, g, d, tk, os⟩) l items := ⟨_, hl, rfl, n, rfl⟩
    wp_walk using wpAny_loadPart' hl
    refine wpAny_stack_any fun st => wpAny_pure ?_
    split
    · rename_i c _ _ _ _ _
      cases (c == Value.type "enumerate")
      · wp_walk using wpAny_loadPart' hl, wpAny_pyIter_tuple hL
        exact ⟨_, rfl, h⟩
      · wp_walk using wpAny_loadPart' hl, wpAny_pyIter_tuple hL
        exact ⟨_, rfl, h⟩
    · wp_walk using wpAny_loadPart' hl, wpAny_pyIter_tuple hL
      exact ⟨_, rfl, h⟩
theorem call_enumT {prog : Program} {w : World} {A : Around} {E : Value → Shared → Prop} {s : Shared} {l : Addr} {items : Array Value} {Q : Value → Shared → Prop} (hL : s.heap.IsTuple l items)
    (h : ∀ h', IsEnum h' (s.heap.objs.size + 1) s.heap.objs.size 0 .none → h'.IsTupleIter s.heap.objs.size l 0 → h'.objs.size = s.heap.objs.size + 2 →
      (∀ b o, s.heap.get? b = some o → h'.get? b = some o) → Q (.ref (s.heap.objs.size + 1)) { s with heap := h' }) :
    wpAny (model prog w) A (call (.type "enumerate") [.ref l]) Q E s := by
  obtain ⟨⟨c, dct, dt, sl⟩, hl, hc, n, hd⟩ := hL
  replace hc : c = .type "tuple" := hc
  replace hd : dt = .seq items n := hd
  subst hc hd
  refine callType_new F.called_enumerate (by decide) (F.typeCall_enumerate_1 _) (F.newCall_enumerate_1 _) (fun obj => F.args_object_init_2 obj _) F.entry_enumerate_new (meets_enumT l items n dct sl) ⟨hl, ?_⟩
  have hz : (s.heap.push { cls := .type "tuple_iterator", data := .fields #[.ref l, .int 0 0] }).objs.size = s.heap.objs.size + 1 := Heap.size_push ..
  show _ ∧ _
  rw [hz]
  have he : IsEnum ((s.heap.push { cls := .type "tuple_iterator", data := .fields #[.ref l, .int 0 0] }).push
      { cls := .type "enumerate", data := .fields #[.none, .bool false, .ref s.heap.objs.size, rawInt 0, .none, .none] }) (s.heap.objs.size + 1) s.heap.objs.size 0 .none := by
    have := Heap.get?_push_size (s.heap.push { cls := .type "tuple_iterator", data := .fields #[.ref l, .int 0 0] })
      (o := { cls := .type "enumerate", data := .fields #[.none, .bool false, .ref s.heap.objs.size, rawInt 0, .none, .none] }) rfl
    rw [hz] at this; exact this
  exact ⟨⟨_, he, rfl⟩, h _ he ⟨_, Heap.get?_push_of_some _ (Heap.get?_push_size _ rfl), rfl, rfl⟩ (by rw [Heap.size_push, hz]) fun b o x => Heap.get?_push_of_some _ (Heap.get?_push_of_some _ x)⟩
end PySem
namespace TL
open PySem PySem.Spec L2
def Itet (K : PySem.W.Frag) (a : Addr) : It :=
  ⟨fun i H => ∃ (xs : List V) (x : V), SqT K H a xs ∧ xs[i]? = some x, fun i H v H' => ∃ T x, v = .ref T ∧ H T = none ∧ H' = upd H T (.tup [.int (i : Nat), x]) ∧ ∀ xs, SqT K H a xs → xs[i]? = some x, fun i H => ∃ xs : List V, SqT K H a xs ∧ xs.length ≤ i⟩
theorem turn_enumT {P : Program} {w : World} {K : PySem.W.Frag} {elts : List Expr} {kk : Nat} {tpos : Pos} (a e it : Addr) :
    Turn P w K (.Tuple elts kk tpos) (Itet K a) [e, it] e (fun i h => (∃ old, IsEnum h e it ((i : Nat) : Int) old) ∧ h.IsTupleIter it a i ∧ e ≠ it) where
  mem := by simp
  obj := fun i h st b hb => by
    obtain ⟨⟨old, he⟩, ⟨o, ho, hc, hd⟩, _⟩ := st
    have e' : b = e ∨ b = it := by simpa using hb
    rcases e' with z | z
    · rw [z]; exact ⟨_, he, fun v q => nomatch q⟩
    · rw [z]; exact ⟨o, ho, fun v q => by rw [hd] at q; cases q⟩
  keep := fun i h h' st k => let ⟨⟨old, he⟩, hi, hne⟩ := st; ⟨⟨old, k e (by simp) _ he⟩, hi.at fun o q => k it (by simp) o q, hne⟩
  item := by
    intro X hP hw hK hc i pins s σ H E I hf st hg
    subst hP hw hK
    obtain ⟨⟨old, he⟩, hit, hne⟩ := st
    obtain ⟨xs, x, hq, hx⟩ := hg
    obtain ⟨its, rv, p, hz⟩ := I.tuple hq
    have p' : s.heap.IsTuple a its.toArray := p
    have hel : e < s.heap.objs.size := Heap.lt_size he
    have hil : it < s.heap.objs.size := by obtain ⟨_, q, _⟩ := hit; exact Heap.lt_size q
    have nai : a ≠ it := fun z => by
      obtain ⟨o1, h1, c1, _⟩ := hit
      obtain ⟨o2, h2, c2, _⟩ := p'
      rw [z, h1] at h2
      cases h2
      rw [c1] at c2
      injection c2 with c3
      exact absurd c3 (by decide)
    have nea : e ≠ a := fun z => by
      obtain ⟨o2, h2, c2, _⟩ := p'
      have h1 := he
      unfold IsEnum at h1
      rw [z, h2] at h1
      cases h1
      injection c2 with c3
      exact absurd c3 (by decide)
    have hlen : i < its.toArray.size := by
      rw [List.size_toArray, ← rv.length]
      exact (List.getElem?_eq_some_iff.mp hx).1
    refine wpAny_pyNext_enum_itemD (Draws.tuple (by show X.A.handled = none; exact I.ok.hd hc) it a nai its.toArray) he ⟨hit, p'⟩ hlen hne (by
      intro z
      rcases List.mem_cons.mp z with z | z
      · exact hne z
      · rcases List.mem_cons.mp z with z | z
        · exact nea z
        · cases z) fun u h' tk hu ho hit' hT hsz hk => ?_
    refine ⟨_, rfl, wpAny_letOwnedTupleGo_enum (s := { s with heap := h', toks := tk + 1 }) ho fun h'' he' sb => ?_⟩
    have ru : RelV x u := by
      obtain ⟨u', e1, e2⟩ := rv.get hx
      have hu' : its[i]? = some u := by simpa using hu
      rw [hu'] at e1
      cases e1
      exact e2
    have hT2 : h''.get? s.heap.objs.size = some { cls := .type "tuple", data := .seq #[.int i tk, u] } := (sb.2 _ (Nat.ne_of_gt hel)).trans hT
    have new : ObjOk X.prog X.w (upd H s.heap.objs.size (.tup [.int (i : Nat), x])) h'' s.heap.objs.size (.tup [.int (i : Nat), x]) :=
      ⟨by show 2 ≤ sizeLine; decide, [.int i tk, u], .cons ⟨_, rfl⟩ (.cons ru .nil), ⟨_, hT2, rfl, _, rfl⟩⟩
    have I1 : Inv X pins σ (upd H s.heap.objs.size (.tup [.int (i : Nat), x])) { s with heap := h'', toks := tk + 1 } :=
      I.turnedNew (ch := [e, it]) (fun b ob hb q => (sb.2 b (fun z => hb (by simp [z]))).trans (hk b ob (fun z => hb (by simp [z])) (fun z => hb (by simp [z])) q)) hf (Nat.le_refl _) new
    refine ⟨.ref s.heap.objs.size, _, I1, rfl, ⟨_, x, rfl, I.hok.fresh (Nat.le_refl _), rfl, fun ys hy => by rw [I.tuple_inj hy hq]; exact hx⟩, ⟨⟨u, ?_⟩, hit'.1.at fun o q => (sb.2 it (Ne.symm hne)).trans q, hne⟩, fun b hb => ?_⟩
    · have e1 : ((i + 1 : Nat) : Int) = (i : Int) + 1 := by omega
      rw [e1]; exact he'
    · have hb' : b < s.heap.objs.size := by
        have e' : b = e ∨ b = it := by simpa using hb
        rcases e' with z | z
        · rw [z]; exact hel
        · rw [z]; exact hil
      rw [upd_ne (Nat.ne_of_lt hb')]
      exact (hf b hb).1
  done := by
    intro X hP hw hK hc i pins s σ H E I hf st hg
    subst hP hw hK
    obtain ⟨⟨old, he⟩, hit, hne⟩ := st
    obtain ⟨xs, hq, hx⟩ := hg
    obtain ⟨its, rv, p, hz⟩ := I.tuple hq
    have p' : s.heap.IsTuple a its.toArray := p
    obtain ⟨f0, f1, f2, f3, f4, f5⟩ := hf it (by simp)
    have hl := rv.length
    have hT : s.TypeIs (.ref e) "enumerate" := ⟨_, he, rfl⟩
    unfold pyNext
    refine wpAny_bind (wpAny_attempt (wpAny_callSpecial?_slot (name := Str.ofString "__next__") hT F.slot_enumerate_next
      (wpAny_call_entry F.slot_enumerate_next hT F.entry_enumerate_next ?_ (F.args_enumerate_next_1 _))))
    show wpAny _ _ (field (.ref e) 2 >>= _) _ _ _
    refine wpAny_bind (wpAny_field he rfl (x := .ref it) rfl ?_)
    refine wpAny_bind (wpAny_nextOf_tuple_end (by show X.A.handled = none; exact I.ok.hd hc) hit p' (by simp; omega) fun h' x he' hx' => ?_)
    obtain ⟨o, ho, hc⟩ := hx'
    refine wpAny_bind (wpAny_isInstance (T := "StopIteration") (b := true) ⟨o, ho, hc⟩ isSubtype_stop ?_)
    exact wpAny_pure ⟨rfl, I.turned (t' := s.toks) (fun b o hb q => he' b o hb q) f0 f1 f3 f4 f5⟩
  self := fun A i s Q E st h => let ⟨⟨_, he⟩, _⟩ := st; wpAny_pyIter_enum he h
section
variable {X : Cx} {W : WX} {a b c e o : Expr} {pos p : Pos} {we wf wg : WE} {K : PySem.W.Frag} {wa : WO}
def iEnumT (K : PySem.W.Frag) (ta : TA) : TI := fun σ H R => ta σ H fun vs H1 => ∃ a xs, vs = [.ref a] ∧ SqT K H1 a xs ∧ R (Itet K a) H1
theorem pi_enumT {ta : TA} {tpos : Pos} {elts : List Expr} {kk : Nat} (hg : Gl X "enumerate") (hm : X.mg "enumerate" = none) (ha : PA X [e] ta) (hs : starEach [e] X.env = [(false, eval e X.env)] := by rfl) :
    PI X (.Tuple elts kk tpos) (.Call (.Name "enumerate" p) [e] [] pos) (iEnumT X.K ta) := by
  refine ⟨fun pins s σ H R I h => ?_⟩
  refine PyProof.Rows.Call_ (ld_blt I hg hm PyProof.Rows.boot_enumerate (PyProof.Rows.callWith_type1 (thn (ha.run pos pins s σ H _ I h) fun us s1 ⟨vs, H1, I1, r1, q1⟩ => ?_) hs rfl))
  obtain ⟨a, xs, ex, hq, q⟩ := q1
  subst ex
  cases r1 with
  | cons r rr =>
    cases rr
    cases r
    obtain ⟨its, rv, p', hz⟩ := I1.tuple hq
    refine call_enumT (show s1.heap.IsTuple a its.toArray from p') fun h' he hit hsz hk => wpAny_pyIter_enum he ?_
    have I2 : Inv X pins σ H1 { s1 with heap := h' } := I1.kept (t' := s1.toks) hk
    refine ⟨s1.heap.objs.size + 1, [s1.heap.objs.size + 1, s1.heap.objs.size], _, _, H1, rfl, I2, turn_enumT a (s1.heap.objs.size + 1) s1.heap.objs.size, ⟨⟨.none, he⟩, hit, Nat.succ_ne_self _⟩, fun b hb => ?_, q⟩
    have e' : b = s1.heap.objs.size + 1 ∨ b = s1.heap.objs.size := by simpa using hb
    have hle : s1.heap.objs.size ≤ b := by
      rcases e' with z | z
      · rw [z]; exact Nat.le_add_right _ _
      · rw [z]; exact Nat.le_refl _
    exact I1.fpOk hle (I1.hok.fresh hle)
theorem walk_enumT {G F : Hp} {ds : List D} {vs : List V} {q : Addr} (h : SqT K G q vs) (r : Reps K G ds vs) : Walk K G F (enD ds) (Itet K q) where
  go := fun i H s _ hi => by
    have hv : i < vs.length := by rw [r.length, ← enD_length]; exact hi
    exact ⟨vs, vs[i], sameT s h, List.getElem?_eq_getElem hv⟩
  stop := fun i H s _ hi => ⟨vs, sameT s h, by rw [r.length, ← enD_length]; exact hi⟩
  yld := fun i H v H' d G1 s1 s2 _ e y => by
    obtain ⟨T, x, rfl, hT, rfl, y⟩ := y
    rw [enD_get] at e
    cases z : ds[i]? with
    | none =>
      rw [z] at e
      cases e
    | some d0 =>
      rw [z] at e
      cases e
      obtain ⟨v', e', q'⟩ := r.get z
      have z := y vs (sameT (s1.trans s2) h)
      rw [e'] at z
      have z' : v' = x := Option.some.inj z
      subst z'
      have st := Step.one s2 (.tup [.int (i : Nat), v']) hT
      refine ⟨_, st, ?_⟩
      unfold Rep
      exact ⟨T, _, rfl, SqT.of upd_same, Reps.cons rfl (Reps.cons (Rep.mono (s1.trans st.g) _ _ q') Reps.nil)⟩
def iEnT (w : WE) : WI := fun env Q Xp => w env (fun d e => mo (tupOf d) fun ds => Q (enD ds) e) Xp
theorem qi_enumT {elts : List Expr} {kk : Nat} {tpos : Pos} (hm : X.mg "enumerate" = none) (ha : QE X W e we) (hg : Gl X "enumerate" := by rfl) (hs : starEach [e] X.env = [(false, eval e X.env)] := by rfl) (hs2 : starEach [e] X.env = (false, eval e X.env) :: starEach [] X.env := by rfl) :
    QI X W (.Tuple elts kk tpos) (.Call (.Name "enumerate" p) [e] [] pos) (iEnT we) := (pi_enumT hg hm (pa_cons ha pa_nil hs2) hs).le fun σ H R h => by
  obtain ⟨x, G, env, Q', X', r, hw, hn, hx⟩ := h
  refine ⟨x, G, env, _, X', r, imO_mono hw, fun h env' v G' H' s r' q hq => ?_, hx⟩
  obtain ⟨d, rfl, hq⟩ := hq
  obtain ⟨ds, z, hq⟩ := mo_some hq
  rw [tupOf_some z] at q
  have q' : Rep X.K G' (.tup ds) v := q
  unfold Rep at q'
  obtain ⟨b, vs, rfl, q1, q2⟩ := q'
  exact ⟨b, vs, rfl, sameT r'.sG q1, hn _ env' G' H' _ s r' (walk_enumT q1 q2) hq⟩
theorem _root_.L2.PI.or {tg iter : Expr} {t t' : TI} (h : PI X tg iter t) (h' : PI X tg iter t') : PI X tg iter (fun σ H R => t σ H R ∨ t' σ H R) := ⟨fun pins s σ H R I hw => hw.elim (h.run pins s σ H R I) (h'.run pins s σ H R I)⟩
def keyOf : D → Option Key
  | .int i => some (.inl i)
  | .str x => some (.inr x)
  | _ => none
def dval (ks : List Key) (ds : List D) (k : Key) : Option D := ((ks.zip ds).find? fun kv => decide (kv.1 = k)).map (·.2)
def dput (ks : List Key) (ds : List D) (k : Key) (d : D) : List Key × List D := if (ks.any fun a => decide (a = k)) = true then (ks, (ks.zip ds).map fun q => if q.1 = k then d else q.2) else (ks ++ [k], ds ++ [d])
end
end TL

namespace TL
open PySem PySem.Spec L2
section
variable {X : Cx} {W : WX} {pos : Pos}
end
def T_law : SpT := fun sl R => ∃ ns : List Int, ns.length ≤ 63 ∧ sl = [.im (.lst (ns.map D.int))] ∧ ∀ sl', R.rt (.bl true) sl'
theorem law_sp {K : PySem.W.Frag} {H : Hp} {a : Addr} {ns : List Int} (hl : ns.length ≤ 63) (hS : SqL K H a (ns.map V.int)) : spT K T_law [.ref a] H (fun v _ => v = .bl true) fun _ _ _ => False := by
  refine ⟨⟨fun _ => none, fun _ => none⟩, H, [.im (.lst (ns.map D.int))], ⟨fun d _ => d = .bl true, fun _ _ => False, fun _ _ => False⟩, ⟨⟨rfl, .refl _, fun a o e => (by cases e), fun a o e => (by cases e), fun i d h => ?_, fun i b d h => ?_, fun i j b c d e p h1 => ?_, fun i p h => (by cases h)⟩, fun i b d h => ?_⟩, ⟨ns, hl, rfl, fun _ => rfl⟩, fun d sl' v G' H' s r q h => ?_, fun d sl' p o G' H' s r _ _ _ _ _ h => h.elim, fun e sl' cls dd G' H' s r x h => h.elim⟩
  · cases i with
    | zero =>
      cases h
      refine ⟨.ref a, rfl, ?_⟩
      unfold Rep
      exact ⟨a, _, rfl, hS, Reps.of_ints⟩
    | succ i => simp at h
  · cases i with
    | zero => cases h
    | succ i => simp at h
  · cases i with
    | zero => cases h1
    | succ i => simp at h1
  · cases i with
    | zero => cases h
    | succ i => simp at h
  · have h' : d = .bl true := h
    rw [h'] at q
    exact q
theorem cx_false {P : Program} {w : World} (H : Hp) (s : Shared) (e : Value) (s' : Shared) (h : L2.CX P w [] H s (fun _ _ _ => False) e s') : False := by
  obtain ⟨_, _, _, _, _, _, _, _, _, _, _, _, z⟩ := h
  exact z
end TL

namespace TL
open PySem PySem.Spec L2
theorem eqD_int {i j : Int} : eqD (.int i) (.int j) = decide (i = j) := by
  unfold eqD pd
  first | rfl | (simp [PyData.eqv]) | skip
end TL

namespace TL
open PySem PySem.Spec L2
inductive Mb where
  | last (q : Int) | first (q : Int) | limit (q : Int) | delay (q : Int)
  deriving DecidableEq
def zat (ts : List Int) (i : Nat) : Int := ts.getD i 0
def nat' (ns : List Nat) (i : Nat) : Nat := ns.getD i 0
def keptL (q : Int) (ts : List Int) : List Nat := (List.range ts.length).filter fun i => decide (i + 1 = ts.length) || decide (q ≤ zat ts (i + 1) - zat ts i)
def keptF (q : Int) (ts : List Int) : List Nat := (List.range ts.length).filter fun i => decide (i = 0) || decide (q ≤ zat ts i - zat ts (i - 1))
def limS (q : Int) (ts : List Int) (fo : List Nat) (i : Nat) : List Nat := if (fo.isEmpty || decide (q ≤ zat ts i - zat ts (fo.getLast?.getD 0))) = true then fo ++ [i] else fo
def limN (q : Int) (ts : List Int) (n : Nat) : List Nat := (List.range n).foldl (limS q ts) []
def Mb.kept : Mb → List Int → List Nat
  | .last q, ts => keptL q ts
  | .first q, ts => keptF q ts
  | .limit q, ts => limN q ts ts.length
  | .delay _, ts => List.range ts.length
def Mb.ok : Mb → Bool
  | .last q => decide (1 ≤ q)
  | .first q => decide (1 ≤ q)
  | .limit q => decide (1 ≤ q)
  | .delay q => decide (0 ≤ q)
def Mb.isLast : Mb → Bool
  | .last _ => true
  | _ => false
theorem nat_get {ts : List Nat} {i : Nat} (h : i < ts.length) : ts[i]? = some (nat' ts i) := by
  unfold nat'
  rw [List.getD_eq_getElem?_getD, List.getElem?_eq_getElem h]
  rfl
theorem limN_succ {q : Int} {ts : List Int} {n : Nat} : limN q ts (n + 1) = limS q ts (limN q ts n) n := by
  unfold limN
  rw [List.range_succ, List.foldl_append]
  rfl
theorem lim_mem {q : Int} {ts : List Int} : ∀ {n i : Nat}, i ∈ limN q ts n → i < n
  | 0, i, h => by cases h
  | n + 1, i, h => by
    rw [limN_succ] at h
    unfold limS at h
    split at h
    · rcases List.mem_append.mp h with h | h
      · have := lim_mem h
        omega
      · rw [List.mem_singleton] at h
        omega
    · have := lim_mem h
      omega
theorem lim_asc {q : Int} {ts : List Int} : ∀ {n : Nat}, (limN q ts n).Pairwise (· < ·)
  | 0 => .nil
  | n + 1 => by
    rw [limN_succ]
    unfold limS
    split
    · exact List.pairwise_append.mpr ⟨lim_asc, List.pairwise_singleton _ _, fun a ha b hb => by
        rw [List.mem_singleton] at hb
        have := lim_mem ha
        omega⟩
    · exact lim_asc
theorem lim_zero {q : Int} {ts : List Int} : ∀ {n : Nat}, 0 < n → 0 ∈ limN q ts n
  | 0, h => by omega
  | 1, _ => List.mem_singleton.mpr rfl
  | n + 2, _ => by
    have h := lim_zero (q := q) (ts := ts) (n := n + 1) (by omega)
    rw [limN_succ]
    unfold limS
    split
    · exact List.mem_append_left _ h
    · exact h
theorem range_asc (n : Nat) : (List.range n).Pairwise (· < ·) := List.pairwise_lt_range
structure KOk (m : Mb) (n : Nat) (ks : List Nat) : Prop where
  asc : ks.Pairwise (· < ·)
  lt : ∀ k ∈ ks, k < n
  la : m.isLast = true → 0 < n → n - 1 ∈ ks
  fi : m.isLast = false → 0 < n → 0 ∈ ks
theorem Mb.kept_ok (m : Mb) (ts : List Int) : KOk m ts.length (m.kept ts) := by
  cases m with
  | last q =>
    refine ⟨(range_asc _).filter _, fun k h => List.mem_range.mp (List.mem_filter.mp h).1, fun _ h => List.mem_filter.mpr ⟨List.mem_range.mpr (by omega), ?_⟩, fun h => by cases h⟩
    rw [decide_eq_true (by omega), Bool.true_or]
  | first q =>
    refine ⟨(range_asc _).filter _, fun k h => List.mem_range.mp (List.mem_filter.mp h).1, fun h => (by cases h), fun _ h => List.mem_filter.mpr ⟨List.mem_range.mpr h, ?_⟩⟩
    rw [decide_eq_true rfl, Bool.true_or]
  | limit q => exact ⟨lim_asc, fun k h => lim_mem h, fun h => (by cases h), fun _ h => lim_zero h⟩
  | delay q => exact ⟨range_asc _, fun k h => List.mem_range.mp h, fun h => (by cases h), fun _ h => List.mem_range.mpr h⟩
def cntL (l : List Nat) (x : Nat) : Nat := (l.filter fun k => decide (k < x)).length
theorem cntL_zero (l : List Nat) : cntL l 0 = 0 := by
  unfold cntL
  rw [List.filter_eq_nil_iff.mpr (fun a _ => by simp)]
  rfl
theorem cntL_le (l : List Nat) (x : Nat) : cntL l x ≤ l.length := List.length_filter_le _ _
theorem cntL_low {l : List Nat} {a x : Nat} (h : ∀ k ∈ l, a < k) (hx : x ≤ a + 1) : cntL l x = 0 := by
  unfold cntL
  rw [List.filter_eq_nil_iff.mpr (fun k hk => by have := h k hk; simp; omega)]
  rfl
theorem cntL_cons {a x : Nat} {l : List Nat} : cntL (a :: l) x = (if a < x then 1 else 0) + cntL l x := by
  unfold cntL
  by_cases h : a < x
  · rw [List.filter_cons_of_pos (by simpa using h), if_pos h, List.length_cons]
    omega
  · rw [List.filter_cons_of_neg (by simpa using h), if_neg h]
    omega
theorem cnt_get : ∀ {l : List Nat}, l.Pairwise (· < ·) → ∀ {j v : Nat}, l[j]? = some v → cntL l v = j
  | [], _, j, v, h => by simp at h
  | a :: l, p, j, v, h => by
    obtain ⟨p1, p2⟩ := List.pairwise_cons.mp p
    rw [cntL_cons]
    cases j with
    | zero =>
      cases h
      rw [if_neg (by omega), cntL_low p1 (by omega)]
    | succ j =>
      have h' : l[j]? = some v := h
      have := p1 v (List.mem_of_getElem? h')
      rw [if_pos this, cnt_get p2 h']
      omega
theorem cntL_succ : ∀ {l : List Nat}, l.Pairwise (· < ·) → ∀ {x : Nat}, cntL l (x + 1) = cntL l x + if x ∈ l then 1 else 0
  | [], _, x => rfl
  | a :: l, p, x => by
    obtain ⟨p1, p2⟩ := List.pairwise_cons.mp p
    rw [cntL_cons, cntL_cons, cntL_succ p2]
    by_cases z : a < x
    · rw [if_pos z, if_pos (by omega)]
      by_cases y : x ∈ l
      · rw [if_pos y, if_pos (List.mem_cons_of_mem _ y)]
        omega
      · rw [if_neg y, if_neg (by intro q; rcases List.mem_cons.mp q with q | q; omega; exact y q)]
        omega
    · rw [if_neg z]
      by_cases w : a = x
      · subst w
        have : a ∉ l := fun q => by have := p1 a q; omega
        rw [if_pos (by omega), if_neg this, if_pos List.mem_cons_self]
        omega
      · rw [if_neg (by omega)]
        have : x ∉ l := fun q => by have := p1 x q; omega
        rw [if_neg this, if_neg (by intro q; rcases List.mem_cons.mp q with q | q; omega; exact this q)]
        omega
theorem cntL_lt {l : List Nat} {x v : Nat} (h : v ∈ l) (hx : x ≤ v) : cntL l x < l.length := by
  unfold cntL
  exact List.length_filter_lt_length_iff_exists.mpr ⟨v, h, by simp; omega⟩
def plc (m : Mb) (ks : List Nat) (at_ : Nat) : Nat := if m.isLast = true then cntL ks at_ else cntL ks (at_ + 1) - 1
theorem plc_at {m : Mb} {n : Nat} {ks : List Nat} (o : KOk m n ks) {j v : Nat} (h : ks[j]? = some v) : plc m ks v = j := by
  unfold plc
  have hv := List.mem_of_getElem? h
  split
  · exact cnt_get o.asc h
  · rw [cntL_succ o.asc, cnt_get o.asc h, if_pos hv]
    omega
theorem plc_lt {m : Mb} {n : Nat} {ks : List Nat} (o : KOk m n ks) {a : Nat} (h : a < n) : plc m ks a < ks.length := by
  unfold plc
  cases z : m.isLast with
  | true =>
    rw [if_pos rfl]
    exact cntL_lt (o.la z (by omega)) (by omega)
  | false =>
    rw [if_neg (by simp)]
    have h0 := o.fi z (by omega)
    have : 0 < ks.length := List.length_pos_of_mem h0
    have := cntL_le ks (a + 1)
    omega
end TL

namespace TL
open PySem PySem.Spec L2
def kstep (ts : List Int) (ns : List Nat) (m : Mb) : List Nat := (m.kept (ns.map (zat ts))).map (nat' ns)
def estep (ts : List Int) (p : List Nat × List Nat) (m : Mb) : List Nat × List Nat := (kstep ts p.1 m, p.2.map (plc m (m.kept (p.1.map (zat ts)))))
def ev (ms : List Mb) (ts : List Int) : List Nat × List Nat := ms.foldl (estep ts) (List.range ts.length, List.range ts.length)
structure EvOk (n : Nat) (p : List Nat × List Nat) : Prop where
  len : p.1.length ≤ n
  lt : ∀ x ∈ p.1, x < n
  vlen : p.2.length = n
  vlt : ∀ v ∈ p.2, v < p.1.length
  onto : ∀ (j v : Nat), p.1[j]? = some v → p.2[v]? = some j
theorem asc_len {l : List Nat} {n : Nat} (h : l.Pairwise (· < ·)) (hl : ∀ x ∈ l, x < n) : l.length ≤ n := by
  rcases Nat.eq_zero_or_pos l.length with z | z
  · omega
  · have hg : l[l.length - 1]? = some (nat' l (l.length - 1)) := nat_get (by omega)
    have hc := cnt_get h hg
    have h2 := hl _ (List.mem_of_getElem? hg)
    have : ∀ (x : Nat) (l : List Nat), l.Pairwise (· < ·) → cntL l x ≤ x := fun x l hp => by
      induction x with
      | zero =>
        rw [cntL_zero]
        exact Nat.le_refl _
      | succ x ih =>
        rw [cntL_succ hp]
        split <;> omega
    have := this (nat' l (l.length - 1)) l h
    omega
theorem EvOk.step {ts : List Int} {p : List Nat × List Nat} (o : EvOk ts.length p) (m : Mb) : EvOk ts.length (estep ts p m) := by
  have ko := m.kept_ok (p.1.map (zat ts))
  rw [List.length_map] at ko
  have kl := asc_len ko.asc ko.lt
  have e1 : (estep ts p m).1 = (m.kept (p.1.map (zat ts))).map (nat' p.1) := rfl
  have e2 : (estep ts p m).2 = p.2.map (plc m (m.kept (p.1.map (zat ts)))) := rfl
  refine ⟨?_, fun x h => ?_, ?_, fun v h => ?_, fun j v h => ?_⟩
  · rw [e1, List.length_map]
    have := o.len
    omega
  · rw [e1] at h
    obtain ⟨k, hk, rfl⟩ := List.mem_map.mp h
    exact o.lt _ (List.mem_of_getElem? (nat_get (ko.lt k hk)))
  · rw [e2, List.length_map]
    exact o.vlen
  · rw [e2] at h
    rw [e1, List.length_map]
    obtain ⟨u, hu, rfl⟩ := List.mem_map.mp h
    exact plc_lt ko (o.vlt u hu)
  · rw [e1, List.getElem?_map] at h
    rw [e2, List.getElem?_map]
    cases z : (m.kept (p.1.map (zat ts)))[j]? with
    | none =>
      rw [z] at h
      cases h
    | some k =>
      rw [z] at h
      have hv : nat' p.1 k = v := Option.some.inj h
      have hk := ko.lt k (List.mem_of_getElem? z)
      have := o.onto k v (by rw [← hv]; exact nat_get hk)
      rw [this]
      show some (plc m _ k) = some j
      rw [plc_at ko z]
end TL

namespace TL
open PySem PySem.Spec L2
section
variable {b s : Int} (hs : 0 < s)
include hs
end
end TL

namespace TL
open PySem PySem.Spec L2
def xiOf (xt : List XI) (c : Str) : Option XI := xt.find? fun k => k.name == c
theorem xiOf_some {xt : List XI} {c : Str} {k : XI} (h : xiOf xt c = some k) : k ∈ xt ∧ k.name = c := by
  unfold xiOf at h
  exact ⟨List.mem_of_find?_eq_some h, by simpa using List.find?_some h⟩
structure XM (K : PySem.W.Frag) (xt : List XI) (hs : List Str) (xf : List (Str × Str)) : Prop where
  m : ∀ k ∈ xt, ∀ h ∈ hs, PySem.W.exmOne K (.ref (He.ga K k.name)) (.ref (He.ga K h)) = some (k.anc.contains h)
  f : ∀ q ∈ xf, XfC K (He.ga K q.1) ∧ PySem.W.findIn K (.ref (He.ga K q.1)) q.2 = some none
theorem xmB_ok {K : PySem.W.Frag} {xt : List XI} {hs : List Str} {xf : List (Str × Str)} (h : xmB K xt hs xf = true) : XM K xt hs xf := by
  unfold xmB at h
  rw [Bool.and_eq_true] at h
  refine ⟨fun k hk c hc => ?_, fun q hq => ?_⟩
  · exact of_decide_eq_true (List.all_eq_true.mp (List.all_eq_true.mp h.1 k hk) c hc)
  · have := List.all_eq_true.mp h.2 q hq
    rw [Bool.and_eq_true] at this
    exact ⟨xfB_ok this.1, of_decide_eq_true this.2⟩
section
variable {X : Cx} {W Wout : WX} {K : PySem.W.Frag} {xt : List XI} {hs : List Str} {xf : List (Str × Str)} {wb : WS} {ws : Addr → Str → Option Addr → WS} {i : Nat} {h x n : Str} {np pos pos' : Pos} {body suite : List Stmt} {b₀ : Stmt}
end
section
open PySem.W PySem.Calls PyProof.Rows PySem.HandSPX
theorem exclB_ok {K : PySem.W.Frag} {C : Addr} (h : exclB K C = true) : ∃ nm q N bs bm sn sub ab col dd k0 k1 k2 k3 k5, K.lookup C = some (excClassObj nm q C N bs bm true sn sub ab col dd k0 k1 k2 k3 k5 "ValueError.__new__") ∧ PySem.HandSPX.refsVE bm = true := by
  unfold exclB at h
  split at h
  · rename_i c dd cd sl hl
    obtain ⟨h1, ha⟩ := He.ba h
    obtain ⟨h2, hb⟩ := He.ba ha
    obtain ⟨h3, hc⟩ := He.ba hb
    obtain ⟨h4, h5⟩ := He.ba hc
    clear h ha hb hc
    have h1 := of_decide_eq_true h1
    obtain ⟨nm, bs, mro, N, q, hd, sn, sub, ab, col, del⟩ := cd
    dsimp only at h2 h3 h4
    have h3 : del = false := by simpa using h3
    subst h1 h2 h3
    split at h4
    · rename_i m bm
      obtain ⟨h4, h6⟩ := He.ba h4
      have h4 := of_decide_eq_true h4
      subst h4
      obtain ⟨sl⟩ := sl
      split at h5
      · rename_i k0 k1 k2 k3 k4 k5 hs
        have hs : sl = _ := hs
        have h5 := of_decide_eq_true h5
        subst hs h5
        exact ⟨nm, q, N, bs, bm, sn, sub, ab, col, dd, k0, k1, k2, k3, k5, hl, h6⟩
      · cases h5
    · cases h4
  · cases h
end
end TL

namespace TL
open PySem PySem.Spec L2
section
variable {X : Cx} {W : WX} {a b e : Expr} {pos p : Pos} {we wf : WE} {K : PySem.W.Frag}
theorem Reps.rep {G : Hp} {ds : List D} {vs : List V} (h : Reps K G ds vs) : ∀ n : Nat, Reps K G (List.replicate n ds).flatten (List.replicate n vs).flatten
  | 0 => Reps.nil
  | n + 1 => by
    rw [List.replicate_succ, List.replicate_succ, List.flatten_cons, List.flatten_cons]
    exact Reps.append h (Reps.rep h n)
end
end TL

namespace TL
open PySem PySem.Spec L2
section
variable {X : Cx} {W : WX} {a b c e e2 : Expr} {pos p : Pos} {wa wb wc : WO} {we wf : WE} {K : PySem.W.Frag}
end
end TL

namespace PySem
namespace XF_count
open PySem.W PySem.Calls PyProof.Rows PySem.HandSPX
def iA (p1 p2 : Pos) : Arguments := { posonlyargs := [], args := [{ arg := "self", annotation := none, pos := p1 }, { arg := "count", annotation := none, pos := p2 }], vararg := none, kwonlyargs := [], kw_defaults := [], kwarg := none, defaults := [] }
def iB (q1 q2 q3 q4 : Pos) : List Stmt := [.Assign [.Attribute (.Name "self" q1) "count" q2] (.Name "count" q3) q4]
def iS : Scope := { kind := .function, names := [(PySem.Str.ofString "self", .local), (PySem.Str.ofString "count", .local)], isGenerator := false, isCoroutine := false, more := [] }
structure XTxt (K : Frag) (mg : Str → Option Value) (cn : Str) (C fI : Addr) : Prop where
  gC : mg cn = some (.ref C)
  cls : ∃ nm q N bs bm sn sub ab col dd k0 k1 k2 k3 k5, K.lookup C = some (excClassObj nm q C N bs bm true sn sub ab col dd k0 k1 k2 k3 k5 "ValueError.__new__") ∧ refsVE bm = true
  sa : findIn K (.ref C) "__setattr__" = some (some (.builtin "object.__setattr__"))
  ga : findIn K (.ref C) "__getattribute__" = some (some (.builtin "BaseException.__getattribute__"))
  gg : findIn K (.ref C) "__getattr__" = some none
  noN : findIn K (.ref C) "count" = some none
  iC : findIn K (.ref C) "__init__" = some (some (.ref fI))
  tC : typeIn K (.ref fI) = some (.type "function")
  kC : keepIn K (.ref C) = true
  exC : subIn K (.ref C) (.type "BaseException") = some true
  tyC : typeIn K (.ref C) = some (.type "type")
  hdC : hasDictIn K C = true
  fn : ∃ (qn : Str) (oc : Value) (od : Option Addr) (kV doc pm : Value) (an : Option Addr) (cdv ct : Value) (osl : Array (Option Value)) (p1 p2 q1 q2 q3 q4 : Pos),
    K.lookup fI = some ⟨oc, od, .func (fnOf "__init__" qn (iA p1 p2) (iB q1 q2 q3 q4) iS .none kV doc pm an cdv ct), osl⟩ ∧ codeIn K cdv qn = true
structure InitEnd (h h' : Heap) (x C dx t1 : Addr) (v : Value) : Prop where
  keep : ∀ b o, b ≠ x → h.get? b = some o → h'.get? b = some o
  obj : h'.get? x = some { cls := .ref C, dict := some dx, data := .fields #[.ref t1, .none, .none, .none, .bool false, .none] }
  dbig : h.objs.size ≤ dx
  dne : dx ≠ x
  ns : h'.Ns1 dx (fun y => if y = "count" then some v else none)
structure OwnMade (h h' : Heap) (e C d : Addr) (v : Value) : Prop where
  keep : ∀ b o, h.get? b = some o → h'.get? b = some o
  new : h.objs.size ≤ e
  obj : ∃ oe vs, h'.get? e = some oe ∧ oe.cls = .ref C ∧ oe.dict = some d ∧ oe.data = .fields vs ∧ vs[1]? = some .none
  dbig : h.objs.size ≤ d
  dne : d ≠ e
  ns : h'.Ns1 d (fun y => if y = "count" then some v else none)
section
variable {prog : Program} {w : World} {A : Around} {E : Value → Shared → Prop} {R : Result → Shared → Prop} {s : Shared} {K : Frag} {mg : Str → Option Value} {cn : Str} {C fI : Addr}
theorem x_init (T : XTxt K mg cn C fI) {x t0 : Addr} {v : Value} (X : K.In s.heap) (hlim : s.heap.NoLimit) (hx : s.heap.get? x = some (excO C t0)) (hnx : K.lookup x = none) (hroom : A.depth < recursionLimit)
    (hq : ∀ h' tk dx, InitEnd s.heap h' x C dx t0 v → R (.ok (.ret .none)) { s with heap := h', toks := tk }) :
    codeAny (model prog w) A (.call (.ref fI) ⟨[.ref x, v], []⟩) R s := by
  obtain ⟨qn, oc, od, kV, doc, pm, an, cdv, ct, osl, p1, p2, q1, q2, q3, q4, ho, hcd⟩ := T.fn
  obtain ⟨nm, q, N, bs, bm, sn, sub, ab, col, dd, k0, k1, k2, k3, k5, hC, hbm⟩ := T.cls
  have hcl : clsIn K C = some { name := nm, bases := bs, mro := .ref C :: bm, ns := N, qualname := q, hasDict := true, slotNames := sn, subclasses := sub, abstract := ab, collection := col, hasDel := false } := by unfold clsIn; rw [hC] <;> rfl
  refine Att.call_fn (binds := [("self", .ref x), ("count", v)]) X hlim ho hcd hroom (BindsTo.of_eq (by first | rfl | with_unfolding_all rfl)) (by first | rfl | decide | with_unfolding_all rfl) (fun s₁ IC => ?_) rfl rfl rfl
  obtain ⟨h₁, tk₁, rfl⟩ := IC.toInCall.same
  have k : ∀ b o, s.heap.get? b = some o → h₁.get? b = some o := IC.toInCall.keep
  have hn := IC.toInCall.ns
  have X₁ : K.In h₁ := X.keeps k
  have hx₁ := k _ _ hx
  show wpAny _ _ (execs _ _) _ _ _
  refine wpAny_execs_cons (plainObj_wpAny_Assign_Attribute ?_)
  refine TL.ldC (v := v) hn (by first | rfl | with_unfolding_all rfl | kernel_rfl) (TL.ldC (v := .ref x) hn (by first | rfl | with_unfolding_all rfl | kernel_rfl) ?_)
  refine set_plain X₁ (ox := excO C t0) (od := none) ⟨hx₁, rfl, rfl, trivial⟩ T.sa ?_
  refine exc_osa X₁ hx₁ hcl (show refsVE (.ref C :: bm) = true from hbm) rfl T.noN (fun h₃ tk₃ dx k₃ dn dne hx₃ hn₃ => ?_)
  show wpAny _ _ (execs _ _) _ _ _
  have z : s.heap.objs.size < h₁.objs.size := hn.lt
  exact wpAny_execs_nil (hq h₃ tk₃ dx ⟨fun b o hb e => k₃ b o hb (k b o e), hx₃, Nat.le_of_lt (Nat.lt_of_lt_of_le z dn), dne, hn₃⟩)
theorem x_made (T : XTxt K mg cn C fI) {v : Value} (X : K.In s.heap) (hlim : s.heap.NoLimit) (hroom : A.depth + 1 < recursionLimit)
    (hq : ∀ h' tk e d, OwnMade s.heap h' e C d v → R (.ok (.ret (.ref e))) { s with heap := h', toks := tk }) :
    codeAny (model prog w) A (.call (.ref C) ⟨[v], []⟩) R s := by
  obtain ⟨nm, q, N, bs, bm, sn, sub, ab, col, dd, k0, k1, k2, k3, k5, hC, hbm⟩ := T.cls
  obtain ⟨hp, g, dr, tk, os⟩ := s
  have k : ∀ b o, hp.get? b = some o → ((hp.push (kdv_tup [v])).push (excO C hp.objs.size)).get? b = some o := fun b o e => Heap.get?_push_of_some _ (Heap.get?_push_of_some _ e)
  have hget : ((hp.push (kdv_tup [v])).push (excO C hp.objs.size)).get? (hp.objs.size + 1) = some (excO C hp.objs.size) := by heap_get
  have hnx : K.lookup (hp.objs.size + 1) = none := by
    cases e : K.lookup (hp.objs.size + 1) with
    | none => rfl
    | some o =>
      have z : hp.get? (hp.objs.size + 1) = some o := X _ _ e
      exact absurd (Nat.lt_of_succ_lt (Heap.lt_size z)) (Nat.lt_irrefl _)
  refine call_own F.excBase_ValueError (fun X => refsVE_contains X bm hbm) (X _ _ hC) (looks_findIn X T.iC) (fun self => bind_fn X self T.tC) (TL.one_size v) ?_
  refine x_init (s := ⟨(hp.push (kdv_tup [v])).push (excO C hp.objs.size), g, dr, tk, os⟩) T (X.keeps k) (hlim.keeps k) hget hnx ?_ fun h' tk' dx ⟨k', hx, dn, dne, hns⟩ => ?_
  · show A.depth + 1 < recursionLimit
    exact hroom
  · have old : ∀ b o, hp.get? b = some o → h'.get? b = some o := fun b o e => k' b o (Nat.ne_of_lt (Nat.lt_succ_of_lt (Heap.lt_size e))) (k b o e)
    have z : hp.objs.size + 1 + 1 ≤ dx := by
      first
        | (simpa only [Heap.size_push] using dn)
        | exact dn
        | (have q := dn; rw [Heap.size_push, Heap.size_push] at q; exact q)
    exact ⟨rfl, hq h' tk' (hp.objs.size + 1) dx ⟨old, Nat.le_succ _, ⟨_, _, hx, rfl, rfl, rfl, rfl⟩, Nat.le_trans (Nat.le_trans (Nat.le_succ _) (Nat.le_succ _)) z, dne, hns⟩⟩
end
end XF_count
end PySem
namespace TL
open PySem PySem.Spec L2
section
variable {X : Cx} {W : WX} {cn : Str} {C fI : Addr} {e : Expr} {we : WE}
theorem xf_mk_count {mg : Str → Option Value} {qual : Str} {Ar : Arguments} {B : List Stmt} {S : Scope} {fd : FuncData} (gC : mg cn = some (.ref (He.ga K cn))) (h : xcB K cn "count" = true) (F : FunD K "__init__" qual Ar B S [] [] (He.ma K (He.ga K cn) "__init__") fd)
    (hA : ∃ p1 p2, Ar = PySem.XF_count.iA p1 p2) (hB : ∃ q1 q2 q3 q4, B = PySem.XF_count.iB q1 q2 q3 q4) (hS : S = PySem.XF_count.iS) : PySem.XF_count.XTxt K mg cn (He.ga K cn) (He.ma K (He.ga K cn) "__init__") := by
  unfold xcB at h
  obtain ⟨h1, h⟩ := He.ba h
  obtain ⟨h2, h⟩ := He.ba h
  obtain ⟨h3, h⟩ := He.ba h
  obtain ⟨h4, h⟩ := He.ba h
  obtain ⟨h5, h⟩ := He.ba h
  obtain ⟨h6, h⟩ := He.ba h
  obtain ⟨h7, h⟩ := He.ba h
  obtain ⟨h8, h⟩ := He.ba h
  obtain ⟨h9, h⟩ := He.ba h
  obtain ⟨h10, h11⟩ := He.ba h
  obtain ⟨p1, p2, rfl⟩ := hA
  obtain ⟨q1, q2, q3, q4, rfl⟩ := hB
  subst hS
  obtain ⟨oc, od, dV, kV, doc, pm, an, cdv, ct, osl, e1, e2, e3, e4, _⟩ := F.ex
  have e4 : dV = .none := by
    rcases e4 with e4 | e4
    · exact e4.2
    · exact absurd rfl e4.1
  subst e1 e4
  exact ⟨gC, exclB_ok h1, of_decide_eq_true h2, of_decide_eq_true h3, of_decide_eq_true h4, of_decide_eq_true h5, of_decide_eq_true h6, of_decide_eq_true h7, h8, of_decide_eq_true h9, of_decide_eq_true h10, h11, ⟨qual, oc, od, kV, doc, pm, an, cdv, ct, osl, p1, p2, q1, q2, q3, q4, e2, e3⟩⟩
end
end TL

namespace PySem
namespace XF_index
open PySem.W PySem.Calls PyProof.Rows PySem.HandSPX
def iA (p1 p2 : Pos) : Arguments := { posonlyargs := [], args := [{ arg := "self", annotation := none, pos := p1 }, { arg := "index", annotation := none, pos := p2 }], vararg := none, kwonlyargs := [], kw_defaults := [], kwarg := none, defaults := [] }
def iB (q1 q2 q3 q4 : Pos) : List Stmt := [.Assign [.Attribute (.Name "self" q1) "index" q2] (.Name "index" q3) q4]
def iS : Scope := { kind := .function, names := [(PySem.Str.ofString "self", .local), (PySem.Str.ofString "index", .local)], isGenerator := false, isCoroutine := false, more := [] }
structure XTxt (K : Frag) (mg : Str → Option Value) (cn : Str) (C fI : Addr) : Prop where
  gC : mg cn = some (.ref C)
  cls : ∃ nm q N bs bm sn sub ab col dd k0 k1 k2 k3 k5, K.lookup C = some (excClassObj nm q C N bs bm true sn sub ab col dd k0 k1 k2 k3 k5 "ValueError.__new__") ∧ refsVE bm = true
  sa : findIn K (.ref C) "__setattr__" = some (some (.builtin "object.__setattr__"))
  ga : findIn K (.ref C) "__getattribute__" = some (some (.builtin "BaseException.__getattribute__"))
  gg : findIn K (.ref C) "__getattr__" = some none
  noN : findIn K (.ref C) "index" = some none
  iC : findIn K (.ref C) "__init__" = some (some (.ref fI))
  tC : typeIn K (.ref fI) = some (.type "function")
  kC : keepIn K (.ref C) = true
  exC : subIn K (.ref C) (.type "BaseException") = some true
  tyC : typeIn K (.ref C) = some (.type "type")
  hdC : hasDictIn K C = true
  fn : ∃ (qn : Str) (oc : Value) (od : Option Addr) (kV doc pm : Value) (an : Option Addr) (cdv ct : Value) (osl : Array (Option Value)) (p1 p2 q1 q2 q3 q4 : Pos),
    K.lookup fI = some ⟨oc, od, .func (fnOf "__init__" qn (iA p1 p2) (iB q1 q2 q3 q4) iS .none kV doc pm an cdv ct), osl⟩ ∧ codeIn K cdv qn = true
structure InitEnd (h h' : Heap) (x C dx t1 : Addr) (v : Value) : Prop where
  keep : ∀ b o, b ≠ x → h.get? b = some o → h'.get? b = some o
  obj : h'.get? x = some { cls := .ref C, dict := some dx, data := .fields #[.ref t1, .none, .none, .none, .bool false, .none] }
  dbig : h.objs.size ≤ dx
  dne : dx ≠ x
  ns : h'.Ns1 dx (fun y => if y = "index" then some v else none)
structure OwnMade (h h' : Heap) (e C d : Addr) (v : Value) : Prop where
  keep : ∀ b o, h.get? b = some o → h'.get? b = some o
  new : h.objs.size ≤ e
  obj : ∃ oe vs, h'.get? e = some oe ∧ oe.cls = .ref C ∧ oe.dict = some d ∧ oe.data = .fields vs ∧ vs[1]? = some .none
  dbig : h.objs.size ≤ d
  dne : d ≠ e
  ns : h'.Ns1 d (fun y => if y = "index" then some v else none)
section
variable {prog : Program} {w : World} {A : Around} {E : Value → Shared → Prop} {R : Result → Shared → Prop} {s : Shared} {K : Frag} {mg : Str → Option Value} {cn : Str} {C fI : Addr}
theorem x_init (T : XTxt K mg cn C fI) {x t0 : Addr} {v : Value} (X : K.In s.heap) (hlim : s.heap.NoLimit) (hx : s.heap.get? x = some (excO C t0)) (hnx : K.lookup x = none) (hroom : A.depth < recursionLimit)
    (hq : ∀ h' tk dx, InitEnd s.heap h' x C dx t0 v → R (.ok (.ret .none)) { s with heap := h', toks := tk }) :
    codeAny (model prog w) A (.call (.ref fI) ⟨[.ref x, v], []⟩) R s := by
  obtain ⟨qn, oc, od, kV, doc, pm, an, cdv, ct, osl, p1, p2, q1, q2, q3, q4, ho, hcd⟩ := T.fn
  obtain ⟨nm, q, N, bs, bm, sn, sub, ab, col, dd, k0, k1, k2, k3, k5, hC, hbm⟩ := T.cls
  have hcl : clsIn K C = some { name := nm, bases := bs, mro := .ref C :: bm, ns := N, qualname := q, hasDict := true, slotNames := sn, subclasses := sub, abstract := ab, collection := col, hasDel := false } := by unfold clsIn; rw [hC] <;> rfl
  refine Att.call_fn (binds := [("self", .ref x), ("index", v)]) X hlim ho hcd hroom (BindsTo.of_eq (by first | rfl | with_unfolding_all rfl)) (by first | rfl | decide | with_unfolding_all rfl) (fun s₁ IC => ?_) rfl rfl rfl
  obtain ⟨h₁, tk₁, rfl⟩ := IC.toInCall.same
  have k : ∀ b o, s.heap.get? b = some o → h₁.get? b = some o := IC.toInCall.keep
  have hn := IC.toInCall.ns
  have X₁ : K.In h₁ := X.keeps k
  have hx₁ := k _ _ hx
  show wpAny _ _ (execs _ _) _ _ _
  refine wpAny_execs_cons (plainObj_wpAny_Assign_Attribute ?_)
  refine TL.ldC (v := v) hn (by first | rfl | with_unfolding_all rfl | kernel_rfl) (TL.ldC (v := .ref x) hn (by first | rfl | with_unfolding_all rfl | kernel_rfl) ?_)
  refine set_plain X₁ (ox := excO C t0) (od := none) ⟨hx₁, rfl, rfl, trivial⟩ T.sa ?_
  refine exc_osa X₁ hx₁ hcl (show refsVE (.ref C :: bm) = true from hbm) rfl T.noN (fun h₃ tk₃ dx k₃ dn dne hx₃ hn₃ => ?_)
  show wpAny _ _ (execs _ _) _ _ _
  have z : s.heap.objs.size < h₁.objs.size := hn.lt
  exact wpAny_execs_nil (hq h₃ tk₃ dx ⟨fun b o hb e => k₃ b o hb (k b o e), hx₃, Nat.le_of_lt (Nat.lt_of_lt_of_le z dn), dne, hn₃⟩)
theorem x_made (T : XTxt K mg cn C fI) {v : Value} (X : K.In s.heap) (hlim : s.heap.NoLimit) (hroom : A.depth + 1 < recursionLimit)
    (hq : ∀ h' tk e d, OwnMade s.heap h' e C d v → R (.ok (.ret (.ref e))) { s with heap := h', toks := tk }) :
    codeAny (model prog w) A (.call (.ref C) ⟨[v], []⟩) R s := by
  obtain ⟨nm, q, N, bs, bm, sn, sub, ab, col, dd, k0, k1, k2, k3, k5, hC, hbm⟩ := T.cls
  obtain ⟨hp, g, dr, tk, os⟩ := s
  have k : ∀ b o, hp.get? b = some o → ((hp.push (kdv_tup [v])).push (excO C hp.objs.size)).get? b = some o := fun b o e => Heap.get?_push_of_some _ (Heap.get?_push_of_some _ e)
  have hget : ((hp.push (kdv_tup [v])).push (excO C hp.objs.size)).get? (hp.objs.size + 1) = some (excO C hp.objs.size) := by heap_get
  have hnx : K.lookup (hp.objs.size + 1) = none := by
    cases e : K.lookup (hp.objs.size + 1) with
    | none => rfl
    | some o =>
      have z : hp.get? (hp.objs.size + 1) = some o := X _ _ e
      exact absurd (Nat.lt_of_succ_lt (Heap.lt_size z)) (Nat.lt_irrefl _)
  refine call_own F.excBase_ValueError (fun X => refsVE_contains X bm hbm) (X _ _ hC) (looks_findIn X T.iC) (fun self => bind_fn X self T.tC) (TL.one_size v) ?_
  refine x_init (s := ⟨(hp.push (kdv_tup [v])).push (excO C hp.objs.size), g, dr, tk, os⟩) T (X.keeps k) (hlim.keeps k) hget hnx ?_ fun h' tk' dx ⟨k', hx, dn, dne, hns⟩ => ?_
  · show A.depth + 1 < recursionLimit
    exact hroom
  · have old : ∀ b o, hp.get? b = some o → h'.get? b = some o := fun b o e => k' b o (Nat.ne_of_lt (Nat.lt_succ_of_lt (Heap.lt_size e))) (k b o e)
    have z : hp.objs.size + 1 + 1 ≤ dx := by
      first
        | (simpa only [Heap.size_push] using dn)
        | exact dn
        | (have q := dn; rw [Heap.size_push, Heap.size_push] at q; exact q)
    exact ⟨rfl, hq h' tk' (hp.objs.size + 1) dx ⟨old, Nat.le_succ _, ⟨_, _, hx, rfl, rfl, rfl, rfl⟩, Nat.le_trans (Nat.le_trans (Nat.le_succ _) (Nat.le_succ _)) z, dne, hns⟩⟩
end
end XF_index
end PySem
namespace TL
open PySem PySem.Spec L2
section
variable {X : Cx} {W : WX} {cn : Str} {C fI : Addr} {e : Expr} {we : WE}
theorem xf_mk_index {mg : Str → Option Value} {qual : Str} {Ar : Arguments} {B : List Stmt} {S : Scope} {fd : FuncData} (gC : mg cn = some (.ref (He.ga K cn))) (h : xcB K cn "index" = true) (F : FunD K "__init__" qual Ar B S [] [] (He.ma K (He.ga K cn) "__init__") fd)
    (hA : ∃ p1 p2, Ar = PySem.XF_index.iA p1 p2) (hB : ∃ q1 q2 q3 q4, B = PySem.XF_index.iB q1 q2 q3 q4) (hS : S = PySem.XF_index.iS) : PySem.XF_index.XTxt K mg cn (He.ga K cn) (He.ma K (He.ga K cn) "__init__") := by
  unfold xcB at h
  obtain ⟨h1, h⟩ := He.ba h
  obtain ⟨h2, h⟩ := He.ba h
  obtain ⟨h3, h⟩ := He.ba h
  obtain ⟨h4, h⟩ := He.ba h
  obtain ⟨h5, h⟩ := He.ba h
  obtain ⟨h6, h⟩ := He.ba h
  obtain ⟨h7, h⟩ := He.ba h
  obtain ⟨h8, h⟩ := He.ba h
  obtain ⟨h9, h⟩ := He.ba h
  obtain ⟨h10, h11⟩ := He.ba h
  obtain ⟨p1, p2, rfl⟩ := hA
  obtain ⟨q1, q2, q3, q4, rfl⟩ := hB
  subst hS
  obtain ⟨oc, od, dV, kV, doc, pm, an, cdv, ct, osl, e1, e2, e3, e4, _⟩ := F.ex
  have e4 : dV = .none := by
    rcases e4 with e4 | e4
    · exact e4.2
    · exact absurd rfl e4.1
  subst e1 e4
  exact ⟨gC, exclB_ok h1, of_decide_eq_true h2, of_decide_eq_true h3, of_decide_eq_true h4, of_decide_eq_true h5, of_decide_eq_true h6, of_decide_eq_true h7, h8, of_decide_eq_true h9, of_decide_eq_true h10, h11, ⟨qual, oc, od, kV, doc, pm, an, cdv, ct, osl, p1, p2, q1, q2, q3, q4, e2, e3⟩⟩
end
end TL

namespace PySem
namespace XF_name
open PySem.W PySem.Calls PyProof.Rows PySem.HandSPX
def iA (p1 p2 : Pos) : Arguments := { posonlyargs := [], args := [{ arg := "self", annotation := none, pos := p1 }, { arg := "name", annotation := none, pos := p2 }], vararg := none, kwonlyargs := [], kw_defaults := [], kwarg := none, defaults := [] }
def iB (q1 q2 q3 q4 : Pos) : List Stmt := [.Assign [.Attribute (.Name "self" q1) "name" q2] (.Name "name" q3) q4]
def iS : Scope := { kind := .function, names := [(PySem.Str.ofString "self", .local), (PySem.Str.ofString "name", .local)], isGenerator := false, isCoroutine := false, more := [] }
structure XTxt (K : Frag) (mg : Str → Option Value) (cn : Str) (C fI : Addr) : Prop where
  gC : mg cn = some (.ref C)
  cls : ∃ nm q N bs bm sn sub ab col dd k0 k1 k2 k3 k5, K.lookup C = some (excClassObj nm q C N bs bm true sn sub ab col dd k0 k1 k2 k3 k5 "ValueError.__new__") ∧ refsVE bm = true
  sa : findIn K (.ref C) "__setattr__" = some (some (.builtin "object.__setattr__"))
  ga : findIn K (.ref C) "__getattribute__" = some (some (.builtin "BaseException.__getattribute__"))
  gg : findIn K (.ref C) "__getattr__" = some none
  noN : findIn K (.ref C) "name" = some none
  iC : findIn K (.ref C) "__init__" = some (some (.ref fI))
  tC : typeIn K (.ref fI) = some (.type "function")
  kC : keepIn K (.ref C) = true
  exC : subIn K (.ref C) (.type "BaseException") = some true
  tyC : typeIn K (.ref C) = some (.type "type")
  hdC : hasDictIn K C = true
  fn : ∃ (qn : Str) (oc : Value) (od : Option Addr) (kV doc pm : Value) (an : Option Addr) (cdv ct : Value) (osl : Array (Option Value)) (p1 p2 q1 q2 q3 q4 : Pos),
    K.lookup fI = some ⟨oc, od, .func (fnOf "__init__" qn (iA p1 p2) (iB q1 q2 q3 q4) iS .none kV doc pm an cdv ct), osl⟩ ∧ codeIn K cdv qn = true
structure InitEnd (h h' : Heap) (x C dx t1 : Addr) (v : Value) : Prop where
  keep : ∀ b o, b ≠ x → h.get? b = some o → h'.get? b = some o
  obj : h'.get? x = some { cls := .ref C, dict := some dx, data := .fields #[.ref t1, .none, .none, .none, .bool false, .none] }
  dbig : h.objs.size ≤ dx
  dne : dx ≠ x
  ns : h'.Ns1 dx (fun y => if y = "name" then some v else none)
structure OwnMade (h h' : Heap) (e C d : Addr) (v : Value) : Prop where
  keep : ∀ b o, h.get? b = some o → h'.get? b = some o
  new : h.objs.size ≤ e
  obj : ∃ oe vs, h'.get? e = some oe ∧ oe.cls = .ref C ∧ oe.dict = some d ∧ oe.data = .fields vs ∧ vs[1]? = some .none
  dbig : h.objs.size ≤ d
  dne : d ≠ e
  ns : h'.Ns1 d (fun y => if y = "name" then some v else none)
section
variable {prog : Program} {w : World} {A : Around} {E : Value → Shared → Prop} {R : Result → Shared → Prop} {s : Shared} {K : Frag} {mg : Str → Option Value} {cn : Str} {C fI : Addr}
theorem x_init (T : XTxt K mg cn C fI) {x t0 : Addr} {v : Value} (X : K.In s.heap) (hlim : s.heap.NoLimit) (hx : s.heap.get? x = some (excO C t0)) (hnx : K.lookup x = none) (hroom : A.depth < recursionLimit)
    (hq : ∀ h' tk dx, InitEnd s.heap h' x C dx t0 v → R (.ok (.ret .none)) { s with heap := h', toks := tk }) :
    codeAny (model prog w) A (.call (.ref fI) ⟨[.ref x, v], []⟩) R s := by
  obtain ⟨qn, oc, od, kV, doc, pm, an, cdv, ct, osl, p1, p2, q1, q2, q3, q4, ho, hcd⟩ := T.fn
  obtain ⟨nm, q, N, bs, bm, sn, sub, ab, col, dd, k0, k1, k2, k3, k5, hC, hbm⟩ := T.cls
  have hcl : clsIn K C = some { name := nm, bases := bs, mro := .ref C :: bm, ns := N, qualname := q, hasDict := true, slotNames := sn, subclasses := sub, abstract := ab, collection := col, hasDel := false } := by unfold clsIn; rw [hC] <;> rfl
  refine Att.call_fn (binds := [("self", .ref x), ("name", v)]) X hlim ho hcd hroom (BindsTo.of_eq (by first | rfl | with_unfolding_all rfl)) (by first | rfl | decide | with_unfolding_all rfl) (fun s₁ IC => ?_) rfl rfl rfl
  obtain ⟨h₁, tk₁, rfl⟩ := IC.toInCall.same
  have k : ∀ b o, s.heap.get? b = some o → h₁.get? b = some o := IC.toInCall.keep
  have hn := IC.toInCall.ns
  have X₁ : K.In h₁ := X.keeps k
  have hx₁ := k _ _ hx
  show wpAny _ _ (execs _ _) _ _ _
  refine wpAny_execs_cons (plainObj_wpAny_Assign_Attribute ?_)
  refine TL.ldC (v := v) hn (by first | rfl | with_unfolding_all rfl | kernel_rfl) (TL.ldC (v := .ref x) hn (by first | rfl | with_unfolding_all rfl | kernel_rfl) ?_)
  refine set_plain X₁ (ox := excO C t0) (od := none) ⟨hx₁, rfl, rfl, trivial⟩ T.sa ?_
  refine exc_osa X₁ hx₁ hcl (show refsVE (.ref C :: bm) = true from hbm) rfl T.noN (fun h₃ tk₃ dx k₃ dn dne hx₃ hn₃ => ?_)
  show wpAny _ _ (execs _ _) _ _ _
  have z : s.heap.objs.size < h₁.objs.size := hn.lt
  exact wpAny_execs_nil (hq h₃ tk₃ dx ⟨fun b o hb e => k₃ b o hb (k b o e), hx₃, Nat.le_of_lt (Nat.lt_of_lt_of_le z dn), dne, hn₃⟩)
theorem x_made (T : XTxt K mg cn C fI) {v : Value} (X : K.In s.heap) (hlim : s.heap.NoLimit) (hroom : A.depth + 1 < recursionLimit)
    (hq : ∀ h' tk e d, OwnMade s.heap h' e C d v → R (.ok (.ret (.ref e))) { s with heap := h', toks := tk }) :
    codeAny (model prog w) A (.call (.ref C) ⟨[v], []⟩) R s := by
  obtain ⟨nm, q, N, bs, bm, sn, sub, ab, col, dd, k0, k1, k2, k3, k5, hC, hbm⟩ := T.cls
  obtain ⟨hp, g, dr, tk, os⟩ := s
  have k : ∀ b o, hp.get? b = some o → ((hp.push (kdv_tup [v])).push (excO C hp.objs.size)).get? b = some o := fun b o e => Heap.get?_push_of_some _ (Heap.get?_push_of_some _ e)
  have hget : ((hp.push (kdv_tup [v])).push (excO C hp.objs.size)).get? (hp.objs.size + 1) = some (excO C hp.objs.size) := by heap_get
  have hnx : K.lookup (hp.objs.size + 1) = none := by
    cases e : K.lookup (hp.objs.size + 1) with
    | none => rfl
    | some o =>
      have z : hp.get? (hp.objs.size + 1) = some o := X _ _ e
      exact absurd (Nat.lt_of_succ_lt (Heap.lt_size z)) (Nat.lt_irrefl _)
  refine call_own F.excBase_ValueError (fun X => refsVE_contains X bm hbm) (X _ _ hC) (looks_findIn X T.iC) (fun self => bind_fn X self T.tC) (TL.one_size v) ?_
  refine x_init (s := ⟨(hp.push (kdv_tup [v])).push (excO C hp.objs.size), g, dr, tk, os⟩) T (X.keeps k) (hlim.keeps k) hget hnx ?_ fun h' tk' dx ⟨k', hx, dn, dne, hns⟩ => ?_
  · show A.depth + 1 < recursionLimit
    exact hroom
  · have old : ∀ b o, hp.get? b = some o → h'.get? b = some o := fun b o e => k' b o (Nat.ne_of_lt (Nat.lt_succ_of_lt (Heap.lt_size e))) (k b o e)
    have z : hp.objs.size + 1 + 1 ≤ dx := by
      first
        | (simpa only [Heap.size_push] using dn)
        | exact dn
        | (have q := dn; rw [Heap.size_push, Heap.size_push] at q; exact q)
    exact ⟨rfl, hq h' tk' (hp.objs.size + 1) dx ⟨old, Nat.le_succ _, ⟨_, _, hx, rfl, rfl, rfl, rfl⟩, Nat.le_trans (Nat.le_trans (Nat.le_succ _) (Nat.le_succ _)) z, dne, hns⟩⟩
end
end XF_name
end PySem
namespace TL
open PySem PySem.Spec L2
section
variable {X : Cx} {W : WX} {cn : Str} {C fI : Addr} {e : Expr} {we : WE}
theorem xf_mk_name {mg : Str → Option Value} {qual : Str} {Ar : Arguments} {B : List Stmt} {S : Scope} {fd : FuncData} (gC : mg cn = some (.ref (He.ga K cn))) (h : xcB K cn "name" = true) (F : FunD K "__init__" qual Ar B S [] [] (He.ma K (He.ga K cn) "__init__") fd)
    (hA : ∃ p1 p2, Ar = PySem.XF_name.iA p1 p2) (hB : ∃ q1 q2 q3 q4, B = PySem.XF_name.iB q1 q2 q3 q4) (hS : S = PySem.XF_name.iS) : PySem.XF_name.XTxt K mg cn (He.ga K cn) (He.ma K (He.ga K cn) "__init__") := by
  unfold xcB at h
  obtain ⟨h1, h⟩ := He.ba h
  obtain ⟨h2, h⟩ := He.ba h
  obtain ⟨h3, h⟩ := He.ba h
  obtain ⟨h4, h⟩ := He.ba h
  obtain ⟨h5, h⟩ := He.ba h
  obtain ⟨h6, h⟩ := He.ba h
  obtain ⟨h7, h⟩ := He.ba h
  obtain ⟨h8, h⟩ := He.ba h
  obtain ⟨h9, h⟩ := He.ba h
  obtain ⟨h10, h11⟩ := He.ba h
  obtain ⟨p1, p2, rfl⟩ := hA
  obtain ⟨q1, q2, q3, q4, rfl⟩ := hB
  subst hS
  obtain ⟨oc, od, dV, kV, doc, pm, an, cdv, ct, osl, e1, e2, e3, e4, _⟩ := F.ex
  have e4 : dV = .none := by
    rcases e4 with e4 | e4
    · exact e4.2
    · exact absurd rfl e4.1
  subst e1 e4
  exact ⟨gC, exclB_ok h1, of_decide_eq_true h2, of_decide_eq_true h3, of_decide_eq_true h4, of_decide_eq_true h5, of_decide_eq_true h6, of_decide_eq_true h7, h8, of_decide_eq_true h9, of_decide_eq_true h10, h11, ⟨qual, oc, od, kV, doc, pm, an, cdv, ct, osl, p1, p2, q1, q2, q3, q4, e2, e3⟩⟩
end
end TL

namespace PySem
namespace XF_number
open PySem.W PySem.Calls PyProof.Rows PySem.HandSPX
def iA (p1 p2 : Pos) : Arguments := { posonlyargs := [], args := [{ arg := "self", annotation := none, pos := p1 }, { arg := "number", annotation := none, pos := p2 }], vararg := none, kwonlyargs := [], kw_defaults := [], kwarg := none, defaults := [] }
def iB (q1 q2 q3 q4 : Pos) : List Stmt := [.Assign [.Attribute (.Name "self" q1) "number" q2] (.Name "number" q3) q4]
def iS : Scope := { kind := .function, names := [(PySem.Str.ofString "self", .local), (PySem.Str.ofString "number", .local)], isGenerator := false, isCoroutine := false, more := [] }
structure XTxt (K : Frag) (mg : Str → Option Value) (cn : Str) (C fI : Addr) : Prop where
  gC : mg cn = some (.ref C)
  cls : ∃ nm q N bs bm sn sub ab col dd k0 k1 k2 k3 k5, K.lookup C = some (excClassObj nm q C N bs bm true sn sub ab col dd k0 k1 k2 k3 k5 "ValueError.__new__") ∧ refsVE bm = true
  sa : findIn K (.ref C) "__setattr__" = some (some (.builtin "object.__setattr__"))
  ga : findIn K (.ref C) "__getattribute__" = some (some (.builtin "BaseException.__getattribute__"))
  gg : findIn K (.ref C) "__getattr__" = some none
  noN : findIn K (.ref C) "number" = some none
  iC : findIn K (.ref C) "__init__" = some (some (.ref fI))
  tC : typeIn K (.ref fI) = some (.type "function")
  kC : keepIn K (.ref C) = true
  exC : subIn K (.ref C) (.type "BaseException") = some true
  tyC : typeIn K (.ref C) = some (.type "type")
  hdC : hasDictIn K C = true
  fn : ∃ (qn : Str) (oc : Value) (od : Option Addr) (kV doc pm : Value) (an : Option Addr) (cdv ct : Value) (osl : Array (Option Value)) (p1 p2 q1 q2 q3 q4 : Pos),
    K.lookup fI = some ⟨oc, od, .func (fnOf "__init__" qn (iA p1 p2) (iB q1 q2 q3 q4) iS .none kV doc pm an cdv ct), osl⟩ ∧ codeIn K cdv qn = true
structure InitEnd (h h' : Heap) (x C dx t1 : Addr) (v : Value) : Prop where
  keep : ∀ b o, b ≠ x → h.get? b = some o → h'.get? b = some o
  obj : h'.get? x = some { cls := .ref C, dict := some dx, data := .fields #[.ref t1, .none, .none, .none, .bool false, .none] }
  dbig : h.objs.size ≤ dx
  dne : dx ≠ x
  ns : h'.Ns1 dx (fun y => if y = "number" then some v else none)
structure OwnMade (h h' : Heap) (e C d : Addr) (v : Value) : Prop where
  keep : ∀ b o, h.get? b = some o → h'.get? b = some o
  new : h.objs.size ≤ e
  obj : ∃ oe vs, h'.get? e = some oe ∧ oe.cls = .ref C ∧ oe.dict = some d ∧ oe.data = .fields vs ∧ vs[1]? = some .none
  dbig : h.objs.size ≤ d
  dne : d ≠ e
  ns : h'.Ns1 d (fun y => if y = "number" then some v else none)
section
variable {prog : Program} {w : World} {A : Around} {E : Value → Shared → Prop} {R : Result → Shared → Prop} {s : Shared} {K : Frag} {mg : Str → Option Value} {cn : Str} {C fI : Addr}
theorem x_init (T : XTxt K mg cn C fI) {x t0 : Addr} {v : Value} (X : K.In s.heap) (hlim : s.heap.NoLimit) (hx : s.heap.get? x = some (excO C t0)) (hnx : K.lookup x = none) (hroom : A.depth < recursionLimit)
    (hq : ∀ h' tk dx, InitEnd s.heap h' x C dx t0 v → R (.ok (.ret .none)) { s with heap := h', toks := tk }) :
    codeAny (model prog w) A (.call (.ref fI) ⟨[.ref x, v], []⟩) R s := by
  obtain ⟨qn, oc, od, kV, doc, pm, an, cdv, ct, osl, p1, p2, q1, q2, q3, q4, ho, hcd⟩ := T.fn
  obtain ⟨nm, q, N, bs, bm, sn, sub, ab, col, dd, k0, k1, k2, k3, k5, hC, hbm⟩ := T.cls
  have hcl : clsIn K C = some { name := nm, bases := bs, mro := .ref C :: bm, ns := N, qualname := q, hasDict := true, slotNames := sn, subclasses := sub, abstract := ab, collection := col, hasDel := false } := by unfold clsIn; rw [hC] <;> rfl
  refine Att.call_fn (binds := [("self", .ref x), ("number", v)]) X hlim ho hcd hroom (BindsTo.of_eq (by first | rfl | with_unfolding_all rfl)) (by first | rfl | decide | with_unfolding_all rfl) (fun s₁ IC => ?_) rfl rfl rfl
  obtain ⟨h₁, tk₁, rfl⟩ := IC.toInCall.same
  have k : ∀ b o, s.heap.get? b = some o → h₁.get? b = some o := IC.toInCall.keep
  have hn := IC.toInCall.ns
  have X₁ : K.In h₁ := X.keeps k
  have hx₁ := k _ _ hx
  show wpAny _ _ (execs _ _) _ _ _
  refine wpAny_execs_cons (plainObj_wpAny_Assign_Attribute ?_)
  refine TL.ldC (v := v) hn (by first | rfl | with_unfolding_all rfl | kernel_rfl) (TL.ldC (v := .ref x) hn (by first | rfl | with_unfolding_all rfl | kernel_rfl) ?_)
  refine set_plain X₁ (ox := excO C t0) (od := none) ⟨hx₁, rfl, rfl, trivial⟩ T.sa ?_
  refine exc_osa X₁ hx₁ hcl (show refsVE (.ref C :: bm) = true from hbm) rfl T.noN (fun h₃ tk₃ dx k₃ dn dne hx₃ hn₃ => ?_)
  show wpAny _ _ (execs _ _) _ _ _
  have z : s.heap.objs.size < h₁.objs.size := hn.lt
  exact wpAny_execs_nil (hq h₃ tk₃ dx ⟨fun b o hb e => k₃ b o hb (k b o e), hx₃, Nat.le_of_lt (Nat.lt_of_lt_of_le z dn), dne, hn₃⟩)
theorem x_made (T : XTxt K mg cn C fI) {v : Value} (X : K.In s.heap) (hlim : s.heap.NoLimit) (hroom : A.depth + 1 < recursionLimit)
    (hq : ∀ h' tk e d, OwnMade s.heap h' e C d v → R (.ok (.ret (.ref e))) { s with heap := h', toks := tk }) :
    codeAny (model prog w) A (.call (.ref C) ⟨[v], []⟩) R s := by
  obtain ⟨nm, q, N, bs, bm, sn, sub, ab, col, dd, k0, k1, k2, k3, k5, hC, hbm⟩ := T.cls
  obtain ⟨hp, g, dr, tk, os⟩ := s
  have k : ∀ b o, hp.get? b = some o → ((hp.push (kdv_tup [v])).push (excO C hp.objs.size)).get? b = some o := fun b o e => Heap.get?_push_of_some _ (Heap.get?_push_of_some _ e)
  have hget : ((hp.push (kdv_tup [v])).push (excO C hp.objs.size)).get? (hp.objs.size + 1) = some (excO C hp.objs.size) := by heap_get
  have hnx : K.lookup (hp.objs.size + 1) = none := by
    cases e : K.lookup (hp.objs.size + 1) with
    | none => rfl
    | some o =>
      have z : hp.get? (hp.objs.size + 1) = some o := X _ _ e
      exact absurd (Nat.lt_of_succ_lt (Heap.lt_size z)) (Nat.lt_irrefl _)
  refine call_own F.excBase_ValueError (fun X => refsVE_contains X bm hbm) (X _ _ hC) (looks_findIn X T.iC) (fun self => bind_fn X self T.tC) (TL.one_size v) ?_
  refine x_init (s := ⟨(hp.push (kdv_tup [v])).push (excO C hp.objs.size), g, dr, tk, os⟩) T (X.keeps k) (hlim.keeps k) hget hnx ?_ fun h' tk' dx ⟨k', hx, dn, dne, hns⟩ => ?_
  · show A.depth + 1 < recursionLimit
    exact hroom
  · have old : ∀ b o, hp.get? b = some o → h'.get? b = some o := fun b o e => k' b o (Nat.ne_of_lt (Nat.lt_succ_of_lt (Heap.lt_size e))) (k b o e)
    have z : hp.objs.size + 1 + 1 ≤ dx := by
      first
        | (simpa only [Heap.size_push] using dn)
        | exact dn
        | (have q := dn; rw [Heap.size_push, Heap.size_push] at q; exact q)
    exact ⟨rfl, hq h' tk' (hp.objs.size + 1) dx ⟨old, Nat.le_succ _, ⟨_, _, hx, rfl, rfl, rfl, rfl⟩, Nat.le_trans (Nat.le_trans (Nat.le_succ _) (Nat.le_succ _)) z, dne, hns⟩⟩
end
end XF_number
end PySem
namespace TL
open PySem PySem.Spec L2
section
variable {X : Cx} {W : WX} {cn : Str} {C fI : Addr} {e : Expr} {we : WE}
theorem xf_mk_number {mg : Str → Option Value} {qual : Str} {Ar : Arguments} {B : List Stmt} {S : Scope} {fd : FuncData} (gC : mg cn = some (.ref (He.ga K cn))) (h : xcB K cn "number" = true) (F : FunD K "__init__" qual Ar B S [] [] (He.ma K (He.ga K cn) "__init__") fd)
    (hA : ∃ p1 p2, Ar = PySem.XF_number.iA p1 p2) (hB : ∃ q1 q2 q3 q4, B = PySem.XF_number.iB q1 q2 q3 q4) (hS : S = PySem.XF_number.iS) : PySem.XF_number.XTxt K mg cn (He.ga K cn) (He.ma K (He.ga K cn) "__init__") := by
  unfold xcB at h
  obtain ⟨h1, h⟩ := He.ba h
  obtain ⟨h2, h⟩ := He.ba h
  obtain ⟨h3, h⟩ := He.ba h
  obtain ⟨h4, h⟩ := He.ba h
  obtain ⟨h5, h⟩ := He.ba h
  obtain ⟨h6, h⟩ := He.ba h
  obtain ⟨h7, h⟩ := He.ba h
  obtain ⟨h8, h⟩ := He.ba h
  obtain ⟨h9, h⟩ := He.ba h
  obtain ⟨h10, h11⟩ := He.ba h
  obtain ⟨p1, p2, rfl⟩ := hA
  obtain ⟨q1, q2, q3, q4, rfl⟩ := hB
  subst hS
  obtain ⟨oc, od, dV, kV, doc, pm, an, cdv, ct, osl, e1, e2, e3, e4, _⟩ := F.ex
  have e4 : dV = .none := by
    rcases e4 with e4 | e4
    · exact e4.2
    · exact absurd rfl e4.1
  subst e1 e4
  exact ⟨gC, exclB_ok h1, of_decide_eq_true h2, of_decide_eq_true h3, of_decide_eq_true h4, of_decide_eq_true h5, of_decide_eq_true h6, of_decide_eq_true h7, h8, of_decide_eq_true h9, of_decide_eq_true h10, h11, ⟨qual, oc, od, kV, doc, pm, an, cdv, ct, osl, p1, p2, q1, q2, q3, q4, e2, e3⟩⟩
end
end TL

namespace PySem
namespace XF_place
open PySem.W PySem.Calls PyProof.Rows PySem.HandSPX
def iA (p1 p2 : Pos) : Arguments := { posonlyargs := [], args := [{ arg := "self", annotation := none, pos := p1 }, { arg := "place", annotation := none, pos := p2 }], vararg := none, kwonlyargs := [], kw_defaults := [], kwarg := none, defaults := [] }
def iB (q1 q2 q3 q4 : Pos) : List Stmt := [.Assign [.Attribute (.Name "self" q1) "place" q2] (.Name "place" q3) q4]
def iS : Scope := { kind := .function, names := [(PySem.Str.ofString "self", .local), (PySem.Str.ofString "place", .local)], isGenerator := false, isCoroutine := false, more := [] }
structure XTxt (K : Frag) (mg : Str → Option Value) (cn : Str) (C fI : Addr) : Prop where
  gC : mg cn = some (.ref C)
  cls : ∃ nm q N bs bm sn sub ab col dd k0 k1 k2 k3 k5, K.lookup C = some (excClassObj nm q C N bs bm true sn sub ab col dd k0 k1 k2 k3 k5 "ValueError.__new__") ∧ refsVE bm = true
  sa : findIn K (.ref C) "__setattr__" = some (some (.builtin "object.__setattr__"))
  ga : findIn K (.ref C) "__getattribute__" = some (some (.builtin "BaseException.__getattribute__"))
  gg : findIn K (.ref C) "__getattr__" = some none
  noN : findIn K (.ref C) "place" = some none
  iC : findIn K (.ref C) "__init__" = some (some (.ref fI))
  tC : typeIn K (.ref fI) = some (.type "function")
  kC : keepIn K (.ref C) = true
  exC : subIn K (.ref C) (.type "BaseException") = some true
  tyC : typeIn K (.ref C) = some (.type "type")
  hdC : hasDictIn K C = true
  fn : ∃ (qn : Str) (oc : Value) (od : Option Addr) (kV doc pm : Value) (an : Option Addr) (cdv ct : Value) (osl : Array (Option Value)) (p1 p2 q1 q2 q3 q4 : Pos),
    K.lookup fI = some ⟨oc, od, .func (fnOf "__init__" qn (iA p1 p2) (iB q1 q2 q3 q4) iS .none kV doc pm an cdv ct), osl⟩ ∧ codeIn K cdv qn = true
structure InitEnd (h h' : Heap) (x C dx t1 : Addr) (v : Value) : Prop where
  keep : ∀ b o, b ≠ x → h.get? b = some o → h'.get? b = some o
  obj : h'.get? x = some { cls := .ref C, dict := some dx, data := .fields #[.ref t1, .none, .none, .none, .bool false, .none] }
  dbig : h.objs.size ≤ dx
  dne : dx ≠ x
  ns : h'.Ns1 dx (fun y => if y = "place" then some v else none)
structure OwnMade (h h' : Heap) (e C d : Addr) (v : Value) : Prop where
  keep : ∀ b o, h.get? b = some o → h'.get? b = some o
  new : h.objs.size ≤ e
  obj : ∃ oe vs, h'.get? e = some oe ∧ oe.cls = .ref C ∧ oe.dict = some d ∧ oe.data = .fields vs ∧ vs[1]? = some .none
  dbig : h.objs.size ≤ d
  dne : d ≠ e
  ns : h'.Ns1 d (fun y => if y = "place" then some v else none)
section
variable {prog : Program} {w : World} {A : Around} {E : Value → Shared → Prop} {R : Result → Shared → Prop} {s : Shared} {K : Frag} {mg : Str → Option Value} {cn : Str} {C fI : Addr}
theorem x_init (T : XTxt K mg cn C fI) {x t0 : Addr} {v : Value} (X : K.In s.heap) (hlim : s.heap.NoLimit) (hx : s.heap.get? x = some (excO C t0)) (hnx : K.lookup x = none) (hroom : A.depth < recursionLimit)
    (hq : ∀ h' tk dx, InitEnd s.heap h' x C dx t0 v → R (.ok (.ret .none)) { s with heap := h', toks := tk }) :
    codeAny (model prog w) A (.call (.ref fI) ⟨[.ref x, v], []⟩) R s := by
  obtain ⟨qn, oc, od, kV, doc, pm, an, cdv, ct, osl, p1, p2, q1, q2, q3, q4, ho, hcd⟩ := T.fn
  obtain ⟨nm, q, N, bs, bm, sn, sub, ab, col, dd, k0, k1, k2, k3, k5, hC, hbm⟩ := T.cls
  have hcl : clsIn K C = some { name := nm, bases := bs, mro := .ref C :: bm, ns := N, qualname := q, hasDict := true, slotNames := sn, subclasses := sub, abstract := ab, collection := col, hasDel := false } := by unfold clsIn; rw [hC] <;> rfl
  refine Att.call_fn (binds := [("self", .ref x), ("place", v)]) X hlim ho hcd hroom (BindsTo.of_eq (by first | rfl | with_unfolding_all rfl)) (by first | rfl | decide | with_unfolding_all rfl) (fun s₁ IC => ?_) rfl rfl rfl
  obtain ⟨h₁, tk₁, rfl⟩ := IC.toInCall.same
  have k : ∀ b o, s.heap.get? b = some o → h₁.get? b = some o := IC.toInCall.keep
  have hn := IC.toInCall.ns
  have X₁ : K.In h₁ := X.keeps k
  have hx₁ := k _ _ hx
  show wpAny _ _ (execs _ _) _ _ _
  refine wpAny_execs_cons (plainObj_wpAny_Assign_Attribute ?_)
  refine TL.ldC (v := v) hn (by first | rfl | with_unfolding_all rfl | kernel_rfl) (TL.ldC (v := .ref x) hn (by first | rfl | with_unfolding_all rfl | kernel_rfl) ?_)
  refine set_plain X₁ (ox := excO C t0) (od := none) ⟨hx₁, rfl, rfl, trivial⟩ T.sa ?_
  refine exc_osa X₁ hx₁ hcl (show refsVE (.ref C :: bm) = true from hbm) rfl T.noN (fun h₃ tk₃ dx k₃ dn dne hx₃ hn₃ => ?_)
  show wpAny _ _ (execs _ _) _ _ _
  have z : s.heap.objs.size < h₁.objs.size := hn.lt
  exact wpAny_execs_nil (hq h₃ tk₃ dx ⟨fun b o hb e => k₃ b o hb (k b o e), hx₃, Nat.le_of_lt (Nat.lt_of_lt_of_le z dn), dne, hn₃⟩)
theorem x_made (T : XTxt K mg cn C fI) {v : Value} (X : K.In s.heap) (hlim : s.heap.NoLimit) (hroom : A.depth + 1 < recursionLimit)
    (hq : ∀ h' tk e d, OwnMade s.heap h' e C d v → R (.ok (.ret (.ref e))) { s with heap := h', toks := tk }) :
    codeAny (model prog w) A (.call (.ref C) ⟨[v], []⟩) R s := by
  obtain ⟨nm, q, N, bs, bm, sn, sub, ab, col, dd, k0, k1, k2, k3, k5, hC, hbm⟩ := T.cls
  obtain ⟨hp, g, dr, tk, os⟩ := s
  have k : ∀ b o, hp.get? b = some o → ((hp.push (kdv_tup [v])).push (excO C hp.objs.size)).get? b = some o := fun b o e => Heap.get?_push_of_some _ (Heap.get?_push_of_some _ e)
  have hget : ((hp.push (kdv_tup [v])).push (excO C hp.objs.size)).get? (hp.objs.size + 1) = some (excO C hp.objs.size) := by heap_get
  have hnx : K.lookup (hp.objs.size + 1) = none := by
    cases e : K.lookup (hp.objs.size + 1) with
    | none => rfl
    | some o =>
      have z : hp.get? (hp.objs.size + 1) = some o := X _ _ e
      exact absurd (Nat.lt_of_succ_lt (Heap.lt_size z)) (Nat.lt_irrefl _)
  refine call_own F.excBase_ValueError (fun X => refsVE_contains X bm hbm) (X _ _ hC) (looks_findIn X T.iC) (fun self => bind_fn X self T.tC) (TL.one_size v) ?_
  refine x_init (s := ⟨(hp.push (kdv_tup [v])).push (excO C hp.objs.size), g, dr, tk, os⟩) T (X.keeps k) (hlim.keeps k) hget hnx ?_ fun h' tk' dx ⟨k', hx, dn, dne, hns⟩ => ?_
  · show A.depth + 1 < recursionLimit
    exact hroom
  · have old : ∀ b o, hp.get? b = some o → h'.get? b = some o := fun b o e => k' b o (Nat.ne_of_lt (Nat.lt_succ_of_lt (Heap.lt_size e))) (k b o e)
    have z : hp.objs.size + 1 + 1 ≤ dx := by
      first
        | (simpa only [Heap.size_push] using dn)
        | exact dn
        | (have q := dn; rw [Heap.size_push, Heap.size_push] at q; exact q)
    exact ⟨rfl, hq h' tk' (hp.objs.size + 1) dx ⟨old, Nat.le_succ _, ⟨_, _, hx, rfl, rfl, rfl, rfl⟩, Nat.le_trans (Nat.le_trans (Nat.le_succ _) (Nat.le_succ _)) z, dne, hns⟩⟩
end
end XF_place
end PySem
namespace TL
open PySem PySem.Spec L2
section
variable {X : Cx} {W : WX} {cn : Str} {C fI : Addr} {e : Expr} {we : WE}
theorem xf_mk_place {mg : Str → Option Value} {qual : Str} {Ar : Arguments} {B : List Stmt} {S : Scope} {fd : FuncData} (gC : mg cn = some (.ref (He.ga K cn))) (h : xcB K cn "place" = true) (F : FunD K "__init__" qual Ar B S [] [] (He.ma K (He.ga K cn) "__init__") fd)
    (hA : ∃ p1 p2, Ar = PySem.XF_place.iA p1 p2) (hB : ∃ q1 q2 q3 q4, B = PySem.XF_place.iB q1 q2 q3 q4) (hS : S = PySem.XF_place.iS) : PySem.XF_place.XTxt K mg cn (He.ga K cn) (He.ma K (He.ga K cn) "__init__") := by
  unfold xcB at h
  obtain ⟨h1, h⟩ := He.ba h
  obtain ⟨h2, h⟩ := He.ba h
  obtain ⟨h3, h⟩ := He.ba h
  obtain ⟨h4, h⟩ := He.ba h
  obtain ⟨h5, h⟩ := He.ba h
  obtain ⟨h6, h⟩ := He.ba h
  obtain ⟨h7, h⟩ := He.ba h
  obtain ⟨h8, h⟩ := He.ba h
  obtain ⟨h9, h⟩ := He.ba h
  obtain ⟨h10, h11⟩ := He.ba h
  obtain ⟨p1, p2, rfl⟩ := hA
  obtain ⟨q1, q2, q3, q4, rfl⟩ := hB
  subst hS
  obtain ⟨oc, od, dV, kV, doc, pm, an, cdv, ct, osl, e1, e2, e3, e4, _⟩ := F.ex
  have e4 : dV = .none := by
    rcases e4 with e4 | e4
    · exact e4.2
    · exact absurd rfl e4.1
  subst e1 e4
  exact ⟨gC, exclB_ok h1, of_decide_eq_true h2, of_decide_eq_true h3, of_decide_eq_true h4, of_decide_eq_true h5, of_decide_eq_true h6, of_decide_eq_true h7, h8, of_decide_eq_true h9, of_decide_eq_true h10, h11, ⟨qual, oc, od, kV, doc, pm, an, cdv, ct, osl, p1, p2, q1, q2, q3, q4, e2, e3⟩⟩
end
end TL

namespace PySem
namespace XF_time
open PySem.W PySem.Calls PyProof.Rows PySem.HandSPX
def iA (p1 p2 : Pos) : Arguments := { posonlyargs := [], args := [{ arg := "self", annotation := none, pos := p1 }, { arg := "time", annotation := none, pos := p2 }], vararg := none, kwonlyargs := [], kw_defaults := [], kwarg := none, defaults := [] }
def iB (q1 q2 q3 q4 : Pos) : List Stmt := [.Assign [.Attribute (.Name "self" q1) "time" q2] (.Name "time" q3) q4]
def iS : Scope := { kind := .function, names := [(PySem.Str.ofString "self", .local), (PySem.Str.ofString "time", .local)], isGenerator := false, isCoroutine := false, more := [] }
structure XTxt (K : Frag) (mg : Str → Option Value) (cn : Str) (C fI : Addr) : Prop where
  gC : mg cn = some (.ref C)
  cls : ∃ nm q N bs bm sn sub ab col dd k0 k1 k2 k3 k5, K.lookup C = some (excClassObj nm q C N bs bm true sn sub ab col dd k0 k1 k2 k3 k5 "ValueError.__new__") ∧ refsVE bm = true
  sa : findIn K (.ref C) "__setattr__" = some (some (.builtin "object.__setattr__"))
  ga : findIn K (.ref C) "__getattribute__" = some (some (.builtin "BaseException.__getattribute__"))
  gg : findIn K (.ref C) "__getattr__" = some none
  noN : findIn K (.ref C) "time" = some none
  iC : findIn K (.ref C) "__init__" = some (some (.ref fI))
  tC : typeIn K (.ref fI) = some (.type "function")
  kC : keepIn K (.ref C) = true
  exC : subIn K (.ref C) (.type "BaseException") = some true
  tyC : typeIn K (.ref C) = some (.type "type")
  hdC : hasDictIn K C = true
  fn : ∃ (qn : Str) (oc : Value) (od : Option Addr) (kV doc pm : Value) (an : Option Addr) (cdv ct : Value) (osl : Array (Option Value)) (p1 p2 q1 q2 q3 q4 : Pos),
    K.lookup fI = some ⟨oc, od, .func (fnOf "__init__" qn (iA p1 p2) (iB q1 q2 q3 q4) iS .none kV doc pm an cdv ct), osl⟩ ∧ codeIn K cdv qn = true
structure InitEnd (h h' : Heap) (x C dx t1 : Addr) (v : Value) : Prop where
  keep : ∀ b o, b ≠ x → h.get? b = some o → h'.get? b = some o
  obj : h'.get? x = some { cls := .ref C, dict := some dx, data := .fields #[.ref t1, .none, .none, .none, .bool false, .none] }
  dbig : h.objs.size ≤ dx
  dne : dx ≠ x
  ns : h'.Ns1 dx (fun y => if y = "time" then some v else none)
structure OwnMade (h h' : Heap) (e C d : Addr) (v : Value) : Prop where
  keep : ∀ b o, h.get? b = some o → h'.get? b = some o
  new : h.objs.size ≤ e
  obj : ∃ oe vs, h'.get? e = some oe ∧ oe.cls = .ref C ∧ oe.dict = some d ∧ oe.data = .fields vs ∧ vs[1]? = some .none
  dbig : h.objs.size ≤ d
  dne : d ≠ e
  ns : h'.Ns1 d (fun y => if y = "time" then some v else none)
section
variable {prog : Program} {w : World} {A : Around} {E : Value → Shared → Prop} {R : Result → Shared → Prop} {s : Shared} {K : Frag} {mg : Str → Option Value} {cn : Str} {C fI : Addr}
theorem x_init (T : XTxt K mg cn C fI) {x t0 : Addr} {v : Value} (X : K.In s.heap) (hlim : s.heap.NoLimit) (hx : s.heap.get? x = some (excO C t0)) (hnx : K.lookup x = none) (hroom : A.depth < recursionLimit)
    (hq : ∀ h' tk dx, InitEnd s.heap h' x C dx t0 v → R (.ok (.ret .none)) { s with heap := h', toks := tk }) :
    codeAny (model prog w) A (.call (.ref fI) ⟨[.ref x, v], []⟩) R s := by
  obtain ⟨qn, oc, od, kV, doc, pm, an, cdv, ct, osl, p1, p2, q1, q2, q3, q4, ho, hcd⟩ := T.fn
  obtain ⟨nm, q, N, bs, bm, sn, sub, ab, col, dd, k0, k1, k2, k3, k5, hC, hbm⟩ := T.cls
  have hcl : clsIn K C = some { name := nm, bases := bs, mro := .ref C :: bm, ns := N, qualname := q, hasDict := true, slotNames := sn, subclasses := sub, abstract := ab, collection := col, hasDel := false } := by unfold clsIn; rw [hC] <;> rfl
  refine Att.call_fn (binds := [("self", .ref x), ("time", v)]) X hlim ho hcd hroom (BindsTo.of_eq (by first | rfl | with_unfolding_all rfl)) (by first | rfl | decide | with_unfolding_all rfl) (fun s₁ IC => ?_) rfl rfl rfl
  obtain ⟨h₁, tk₁, rfl⟩ := IC.toInCall.same
  have k : ∀ b o, s.heap.get? b = some o → h₁.get? b = some o := IC.toInCall.keep
  have hn := IC.toInCall.ns
  have X₁ : K.In h₁ := X.keeps k
  have hx₁ := k _ _ hx
  show wpAny _ _ (execs _ _) _ _ _
  refine wpAny_execs_cons (plainObj_wpAny_Assign_Attribute ?_)
  refine TL.ldC (v := v) hn (by first | rfl | with_unfolding_all rfl | kernel_rfl) (TL.ldC (v := .ref x) hn (by first | rfl | with_unfolding_all rfl | kernel_rfl) ?_)
  refine set_plain X₁ (ox := excO C t0) (od := none) ⟨hx₁, rfl, rfl, trivial⟩ T.sa ?_
  refine exc_osa X₁ hx₁ hcl (show refsVE (.ref C :: bm) = true from hbm) rfl T.noN (fun h₃ tk₃ dx k₃ dn dne hx₃ hn₃ => ?_)
  show wpAny _ _ (execs _ _) _ _ _
  have z : s.heap.objs.size < h₁.objs.size := hn.lt
  exact wpAny_execs_nil (hq h₃ tk₃ dx ⟨fun b o hb e => k₃ b o hb (k b o e), hx₃, Nat.le_of_lt (Nat.lt_of_lt_of_le z dn), dne, hn₃⟩)
theorem x_made (T : XTxt K mg cn C fI) {v : Value} (X : K.In s.heap) (hlim : s.heap.NoLimit) (hroom : A.depth + 1 < recursionLimit)
    (hq : ∀ h' tk e d, OwnMade s.heap h' e C d v → R (.ok (.ret (.ref e))) { s with heap := h', toks := tk }) :
    codeAny (model prog w) A (.call (.ref C) ⟨[v], []⟩) R s := by
  obtain ⟨nm, q, N, bs, bm, sn, sub, ab, col, dd, k0, k1, k2, k3, k5, hC, hbm⟩ := T.cls
  obtain ⟨hp, g, dr, tk, os⟩ := s
  have k : ∀ b o, hp.get? b = some o → ((hp.push (kdv_tup [v])).push (excO C hp.objs.size)).get? b = some o := fun b o e => Heap.get?_push_of_some _ (Heap.get?_push_of_some _ e)
  have hget : ((hp.push (kdv_tup [v])).push (excO C hp.objs.size)).get? (hp.objs.size + 1) = some (excO C hp.objs.size) := by heap_get
  have hnx : K.lookup (hp.objs.size + 1) = none := by
    cases e : K.lookup (hp.objs.size + 1) with
    | none => rfl
    | some o =>
      have z : hp.get? (hp.objs.size + 1) = some o := X _ _ e
      exact absurd (Nat.lt_of_succ_lt (Heap.lt_size z)) (Nat.lt_irrefl _)
  refine call_own F.excBase_ValueError (fun X => refsVE_contains X bm hbm) (X _ _ hC) (looks_findIn X T.iC) (fun self => bind_fn X self T.tC) (TL.one_size v) ?_
  refine x_init (s := ⟨(hp.push (kdv_tup [v])).push (excO C hp.objs.size), g, dr, tk, os⟩) T (X.keeps k) (hlim.keeps k) hget hnx ?_ fun h' tk' dx ⟨k', hx, dn, dne, hns⟩ => ?_
  · show A.depth + 1 < recursionLimit
    exact hroom
  · have old : ∀ b o, hp.get? b = some o → h'.get? b = some o := fun b o e => k' b o (Nat.ne_of_lt (Nat.lt_succ_of_lt (Heap.lt_size e))) (k b o e)
    have z : hp.objs.size + 1 + 1 ≤ dx := by
      first
        | (simpa only [Heap.size_push] using dn)
        | exact dn
        | (have q := dn; rw [Heap.size_push, Heap.size_push] at q; exact q)
    exact ⟨rfl, hq h' tk' (hp.objs.size + 1) dx ⟨old, Nat.le_succ _, ⟨_, _, hx, rfl, rfl, rfl, rfl⟩, Nat.le_trans (Nat.le_trans (Nat.le_succ _) (Nat.le_succ _)) z, dne, hns⟩⟩
end
end XF_time
end PySem
namespace TL
open PySem PySem.Spec L2
section
variable {X : Cx} {W : WX} {cn : Str} {C fI : Addr} {e : Expr} {we : WE}
theorem xf_mk_time {mg : Str → Option Value} {qual : Str} {Ar : Arguments} {B : List Stmt} {S : Scope} {fd : FuncData} (gC : mg cn = some (.ref (He.ga K cn))) (h : xcB K cn "time" = true) (F : FunD K "__init__" qual Ar B S [] [] (He.ma K (He.ga K cn) "__init__") fd)
    (hA : ∃ p1 p2, Ar = PySem.XF_time.iA p1 p2) (hB : ∃ q1 q2 q3 q4, B = PySem.XF_time.iB q1 q2 q3 q4) (hS : S = PySem.XF_time.iS) : PySem.XF_time.XTxt K mg cn (He.ga K cn) (He.ma K (He.ga K cn) "__init__") := by
  unfold xcB at h
  obtain ⟨h1, h⟩ := He.ba h
  obtain ⟨h2, h⟩ := He.ba h
  obtain ⟨h3, h⟩ := He.ba h
  obtain ⟨h4, h⟩ := He.ba h
  obtain ⟨h5, h⟩ := He.ba h
  obtain ⟨h6, h⟩ := He.ba h
  obtain ⟨h7, h⟩ := He.ba h
  obtain ⟨h8, h⟩ := He.ba h
  obtain ⟨h9, h⟩ := He.ba h
  obtain ⟨h10, h11⟩ := He.ba h
  obtain ⟨p1, p2, rfl⟩ := hA
  obtain ⟨q1, q2, q3, q4, rfl⟩ := hB
  subst hS
  obtain ⟨oc, od, dV, kV, doc, pm, an, cdv, ct, osl, e1, e2, e3, e4, _⟩ := F.ex
  have e4 : dV = .none := by
    rcases e4 with e4 | e4
    · exact e4.2
    · exact absurd rfl e4.1
  subst e1 e4
  exact ⟨gC, exclB_ok h1, of_decide_eq_true h2, of_decide_eq_true h3, of_decide_eq_true h4, of_decide_eq_true h5, of_decide_eq_true h6, of_decide_eq_true h7, h8, of_decide_eq_true h9, of_decide_eq_true h10, h11, ⟨qual, oc, od, kV, doc, pm, an, cdv, ct, osl, p1, p2, q1, q2, q3, q4, e2, e3⟩⟩
end
end TL

namespace PySem
namespace XF_what
open PySem.W PySem.Calls PyProof.Rows PySem.HandSPX
def iA (p1 p2 : Pos) : Arguments := { posonlyargs := [], args := [{ arg := "self", annotation := none, pos := p1 }, { arg := "what", annotation := none, pos := p2 }], vararg := none, kwonlyargs := [], kw_defaults := [], kwarg := none, defaults := [] }
def iB (q1 q2 q3 q4 : Pos) : List Stmt := [.Assign [.Attribute (.Name "self" q1) "what" q2] (.Name "what" q3) q4]
def iS : Scope := { kind := .function, names := [(PySem.Str.ofString "self", .local), (PySem.Str.ofString "what", .local)], isGenerator := false, isCoroutine := false, more := [] }
structure XTxt (K : Frag) (mg : Str → Option Value) (cn : Str) (C fI : Addr) : Prop where
  gC : mg cn = some (.ref C)
  cls : ∃ nm q N bs bm sn sub ab col dd k0 k1 k2 k3 k5, K.lookup C = some (excClassObj nm q C N bs bm true sn sub ab col dd k0 k1 k2 k3 k5 "ValueError.__new__") ∧ refsVE bm = true
  sa : findIn K (.ref C) "__setattr__" = some (some (.builtin "object.__setattr__"))
  ga : findIn K (.ref C) "__getattribute__" = some (some (.builtin "BaseException.__getattribute__"))
  gg : findIn K (.ref C) "__getattr__" = some none
  noN : findIn K (.ref C) "what" = some none
  iC : findIn K (.ref C) "__init__" = some (some (.ref fI))
  tC : typeIn K (.ref fI) = some (.type "function")
  kC : keepIn K (.ref C) = true
  exC : subIn K (.ref C) (.type "BaseException") = some true
  tyC : typeIn K (.ref C) = some (.type "type")
  hdC : hasDictIn K C = true
  fn : ∃ (qn : Str) (oc : Value) (od : Option Addr) (kV doc pm : Value) (an : Option Addr) (cdv ct : Value) (osl : Array (Option Value)) (p1 p2 q1 q2 q3 q4 : Pos),
    K.lookup fI = some ⟨oc, od, .func (fnOf "__init__" qn (iA p1 p2) (iB q1 q2 q3 q4) iS .none kV doc pm an cdv ct), osl⟩ ∧ codeIn K cdv qn = true
structure InitEnd (h h' : Heap) (x C dx t1 : Addr) (v : Value) : Prop where
  keep : ∀ b o, b ≠ x → h.get? b = some o → h'.get? b = some o
  obj : h'.get? x = some { cls := .ref C, dict := some dx, data := .fields #[.ref t1, .none, .none, .none, .bool false, .none] }
  dbig : h.objs.size ≤ dx
  dne : dx ≠ x
  ns : h'.Ns1 dx (fun y => if y = "what" then some v else none)
structure OwnMade (h h' : Heap) (e C d : Addr) (v : Value) : Prop where
  keep : ∀ b o, h.get? b = some o → h'.get? b = some o
  new : h.objs.size ≤ e
  obj : ∃ oe vs, h'.get? e = some oe ∧ oe.cls = .ref C ∧ oe.dict = some d ∧ oe.data = .fields vs ∧ vs[1]? = some .none
  dbig : h.objs.size ≤ d
  dne : d ≠ e
  ns : h'.Ns1 d (fun y => if y = "what" then some v else none)
section
variable {prog : Program} {w : World} {A : Around} {E : Value → Shared → Prop} {R : Result → Shared → Prop} {s : Shared} {K : Frag} {mg : Str → Option Value} {cn : Str} {C fI : Addr}
theorem x_init (T : XTxt K mg cn C fI) {x t0 : Addr} {v : Value} (X : K.In s.heap) (hlim : s.heap.NoLimit) (hx : s.heap.get? x = some (excO C t0)) (hnx : K.lookup x = none) (hroom : A.depth < recursionLimit)
    (hq : ∀ h' tk dx, InitEnd s.heap h' x C dx t0 v → R (.ok (.ret .none)) { s with heap := h', toks := tk }) :
    codeAny (model prog w) A (.call (.ref fI) ⟨[.ref x, v], []⟩) R s := by
  obtain ⟨qn, oc, od, kV, doc, pm, an, cdv, ct, osl, p1, p2, q1, q2, q3, q4, ho, hcd⟩ := T.fn
  obtain ⟨nm, q, N, bs, bm, sn, sub, ab, col, dd, k0, k1, k2, k3, k5, hC, hbm⟩ := T.cls
  have hcl : clsIn K C = some { name := nm, bases := bs, mro := .ref C :: bm, ns := N, qualname := q, hasDict := true, slotNames := sn, subclasses := sub, abstract := ab, collection := col, hasDel := false } := by unfold clsIn; rw [hC] <;> rfl
  refine Att.call_fn (binds := [("self", .ref x), ("what", v)]) X hlim ho hcd hroom (BindsTo.of_eq (by first | rfl | with_unfolding_all rfl)) (by first | rfl | decide | with_unfolding_all rfl) (fun s₁ IC => ?_) rfl rfl rfl
  obtain ⟨h₁, tk₁, rfl⟩ := IC.toInCall.same
  have k : ∀ b o, s.heap.get? b = some o → h₁.get? b = some o := IC.toInCall.keep
  have hn := IC.toInCall.ns
  have X₁ : K.In h₁ := X.keeps k
  have hx₁ := k _ _ hx
  show wpAny _ _ (execs _ _) _ _ _
  refine wpAny_execs_cons (plainObj_wpAny_Assign_Attribute ?_)
  refine TL.ldC (v := v) hn (by first | rfl | with_unfolding_all rfl | kernel_rfl) (TL.ldC (v := .ref x) hn (by first | rfl | with_unfolding_all rfl | kernel_rfl) ?_)
  refine set_plain X₁ (ox := excO C t0) (od := none) ⟨hx₁, rfl, rfl, trivial⟩ T.sa ?_
  refine exc_osa X₁ hx₁ hcl (show refsVE (.ref C :: bm) = true from hbm) rfl T.noN (fun h₃ tk₃ dx k₃ dn dne hx₃ hn₃ => ?_)
  show wpAny _ _ (execs _ _) _ _ _
  have z : s.heap.objs.size < h₁.objs.size := hn.lt
  exact wpAny_execs_nil (hq h₃ tk₃ dx ⟨fun b o hb e => k₃ b o hb (k b o e), hx₃, Nat.le_of_lt (Nat.lt_of_lt_of_le z dn), dne, hn₃⟩)
theorem x_made (T : XTxt K mg cn C fI) {v : Value} (X : K.In s.heap) (hlim : s.heap.NoLimit) (hroom : A.depth + 1 < recursionLimit)
    (hq : ∀ h' tk e d, OwnMade s.heap h' e C d v → R (.ok (.ret (.ref e))) { s with heap := h', toks := tk }) :
    codeAny (model prog w) A (.call (.ref C) ⟨[v], []⟩) R s := by
  obtain ⟨nm, q, N, bs, bm, sn, sub, ab, col, dd, k0, k1, k2, k3, k5, hC, hbm⟩ := T.cls
  obtain ⟨hp, g, dr, tk, os⟩ := s
  have k : ∀ b o, hp.get? b = some o → ((hp.push (kdv_tup [v])).push (excO C hp.objs.size)).get? b = some o := fun b o e => Heap.get?_push_of_some _ (Heap.get?_push_of_some _ e)
  have hget : ((hp.push (kdv_tup [v])).push (excO C hp.objs.size)).get? (hp.objs.size + 1) = some (excO C hp.objs.size) := by heap_get
  have hnx : K.lookup (hp.objs.size + 1) = none := by
    cases e : K.lookup (hp.objs.size + 1) with
    | none => rfl
    | some o =>
      have z : hp.get? (hp.objs.size + 1) = some o := X _ _ e
      exact absurd (Nat.lt_of_succ_lt (Heap.lt_size z)) (Nat.lt_irrefl _)
  refine call_own F.excBase_ValueError (fun X => refsVE_contains X bm hbm) (X _ _ hC) (looks_findIn X T.iC) (fun self => bind_fn X self T.tC) (TL.one_size v) ?_
  refine x_init (s := ⟨(hp.push (kdv_tup [v])).push (excO C hp.objs.size), g, dr, tk, os⟩) T (X.keeps k) (hlim.keeps k) hget hnx ?_ fun h' tk' dx ⟨k', hx, dn, dne, hns⟩ => ?_
  · show A.depth + 1 < recursionLimit
    exact hroom
  · have old : ∀ b o, hp.get? b = some o → h'.get? b = some o := fun b o e => k' b o (Nat.ne_of_lt (Nat.lt_succ_of_lt (Heap.lt_size e))) (k b o e)
    have z : hp.objs.size + 1 + 1 ≤ dx := by
      first
        | (simpa only [Heap.size_push] using dn)
        | exact dn
        | (have q := dn; rw [Heap.size_push, Heap.size_push] at q; exact q)
    exact ⟨rfl, hq h' tk' (hp.objs.size + 1) dx ⟨old, Nat.le_succ _, ⟨_, _, hx, rfl, rfl, rfl, rfl⟩, Nat.le_trans (Nat.le_trans (Nat.le_succ _) (Nat.le_succ _)) z, dne, hns⟩⟩
end
end XF_what
end PySem
namespace TL
open PySem PySem.Spec L2
section
variable {X : Cx} {W : WX} {cn : Str} {C fI : Addr} {e : Expr} {we : WE}
theorem xf_mk_what {mg : Str → Option Value} {qual : Str} {Ar : Arguments} {B : List Stmt} {S : Scope} {fd : FuncData} (gC : mg cn = some (.ref (He.ga K cn))) (h : xcB K cn "what" = true) (F : FunD K "__init__" qual Ar B S [] [] (He.ma K (He.ga K cn) "__init__") fd)
    (hA : ∃ p1 p2, Ar = PySem.XF_what.iA p1 p2) (hB : ∃ q1 q2 q3 q4, B = PySem.XF_what.iB q1 q2 q3 q4) (hS : S = PySem.XF_what.iS) : PySem.XF_what.XTxt K mg cn (He.ga K cn) (He.ma K (He.ga K cn) "__init__") := by
  unfold xcB at h
  obtain ⟨h1, h⟩ := He.ba h
  obtain ⟨h2, h⟩ := He.ba h
  obtain ⟨h3, h⟩ := He.ba h
  obtain ⟨h4, h⟩ := He.ba h
  obtain ⟨h5, h⟩ := He.ba h
  obtain ⟨h6, h⟩ := He.ba h
  obtain ⟨h7, h⟩ := He.ba h
  obtain ⟨h8, h⟩ := He.ba h
  obtain ⟨h9, h⟩ := He.ba h
  obtain ⟨h10, h11⟩ := He.ba h
  obtain ⟨p1, p2, rfl⟩ := hA
  obtain ⟨q1, q2, q3, q4, rfl⟩ := hB
  subst hS
  obtain ⟨oc, od, dV, kV, doc, pm, an, cdv, ct, osl, e1, e2, e3, e4, _⟩ := F.ex
  have e4 : dV = .none := by
    rcases e4 with e4 | e4
    · exact e4.2
    · exact absurd rfl e4.1
  subst e1 e4
  exact ⟨gC, exclB_ok h1, of_decide_eq_true h2, of_decide_eq_true h3, of_decide_eq_true h4, of_decide_eq_true h5, of_decide_eq_true h6, of_decide_eq_true h7, h8, of_decide_eq_true h9, of_decide_eq_true h10, h11, ⟨qual, oc, od, kV, doc, pm, an, cdv, ct, osl, p1, p2, q1, q2, q3, q4, e2, e3⟩⟩
end
end TL

namespace TL
open PySem PySem.Spec L2

inductive Re (α : Type) where
  | ok (a : α) (e : Ev) | xc (x : Xn) (e : Ev) | bad
def Re.on {α : Type} (r : Re α) (Q : α → Ev → Prop) (X : XP) : Prop := match r with
  | .ok a e => Q a e
  | .xc x e => X x e
  | .bad => False
def Re.bd {α β : Type} (r : Re α) (k : α → Ev → Re β) : Re β := match r with
  | .ok a e => k a e
  | .xc x e => .xc x e
  | .bad => .bad
theorem Re.on_bd {α β : Type} {r : Re α} {k : α → Ev → Re β} {Q : β → Ev → Prop} {X : XP} : (r.bd k).on Q X = r.on (fun a e => (k a e).on Q X) X := by
  cases r <;> rfl
def ol {α : Type} (o : Option α) (e : Ev) : Re α := match o with
  | some a => .ok a e
  | none => .bad
theorem on_ol {α : Type} {o : Option α} {e : Ev} {Q : α → Ev → Prop} {X : XP} : (ol o e).on Q X = mo o fun a => Q a e := by
  cases o <;> rfl
abbrev FO := Ev → Re Hd
abbrev FE := Ev → Re D
abbrev FT := Ev → Re Bool
abbrev FA := Ev → Re (List Hd)
abbrev FI := Ev → Re (List D)
abbrev FP := Ev → Re (Option Int)
def wp {α : Type} (f : Ev → Re α) : Ev → (α → Ev → Prop) → XP → Prop := fun env Q X => (f env).on Q X
theorem wp_bd {α β : Type} {f : Ev → Re α} {k : α → Ev → Re β} {env : Ev} {Q : β → Ev → Prop} {X : XP} : wp (fun env => (f env).bd k) env Q X = wp f env (fun a e => (k a e).on Q X) X := Re.on_bd
theorem wp_mono {α : Type} {f : Ev → Re α} {env : Ev} {Q Q' : α → Ev → Prop} {X : XP} (h : wp f env Q X) (i : ∀ a e, Q a e → Q' a e) : wp f env Q' X := by
  unfold wp at h ⊢
  revert h
  cases f env with
  | ok a e => exact i a e
  | xc x e => exact id
  | bad => exact id
def oi (f : FE) : FO := fun env => (f env).bd fun d e => .ok (.im d) e
theorem wp_oi (f : FE) : imO (wp f) = wp (oi f) := by
  funext env Q X
  unfold imO wp oi
  rw [Re.on_bd]
  rfl
section
variable {X : Cx} {W : WX} {a b c e : Expr} {es : List Expr} {pos p : Pos} {st : Stmt} {l : List Stmt}
theorem QO.le {w w' : WO} (h : QO X W e w) (i : ∀ env Q Xp, w' env Q Xp → w env Q Xp) : QO X W e w' := L2.PE.le h fun σ H Q ⟨x, G, env, Q', X', r, hw, hn, hx⟩ => ⟨x, G, env, Q', X', r, i _ _ _ hw, hn, hx⟩
theorem QE.le {w w' : WE} (h : QE X W e w) (i : ∀ env Q Xp, w' env Q Xp → w env Q Xp) : QE X W e w' := QO.le h fun env Q Xp => i env _ Xp
theorem QF.le {w w' : WE} (h : QF X W e w) (i : ∀ env Q Xp, w' env Q Xp → w env Q Xp) : QF X W e w' := L2.PE.le h fun σ H Q ⟨x, G, env, Q', X', r, hw, hn, hx⟩ => ⟨x, G, env, Q', X', r, i _ _ _ hw, hn, hx⟩
theorem QT.le {w w' : WT} (h : QT X W e w) (i : ∀ env Q Xp, w' env Q Xp → w env Q Xp) : QT X W e w' := L2.PT.le h fun σ H Q ⟨x, G, env, Q', X', r, hw, hn, hx⟩ => ⟨x, G, env, Q', X', r, i _ _ _ hw, hn, hx⟩
theorem QW.le {w w' : WT} (h : QW X W e w) (i : ∀ env Q Xp, w' env Q Xp → w env Q Xp) : QW X W e w' := L2.PW.le h fun σ H Q ⟨x, G, env, Q', X', r, hw, hn, hx⟩ => ⟨x, G, env, Q', X', r, i _ _ _ hw, hn, hx⟩
theorem QA.le {w w' : WA} (h : QA X W es w) (i : ∀ env Q Xp, w' env Q Xp → w env Q Xp) : QA X W es w' := L2.PA.le h fun σ H Q ⟨x, G, env, Q', X', r, hw, hn, hx⟩ => ⟨x, G, env, Q', X', r, i _ _ _ hw, hn, hx⟩
theorem QI.le {tg : Expr} {w w' : WI} (h : QI X W tg e w) (i : ∀ env Q Xp, w' env Q Xp → w env Q Xp) : QI X W tg e w' := L2.PI.le h fun σ H Q ⟨x, G, env, Q', X', r, hw, hn, hx⟩ => ⟨x, G, env, Q', X', r, i _ _ _ hw, hn, hx⟩
theorem QP.le {oe : Option Expr} {w w' : WP} (h : QP X W oe w) (i : ∀ env Q Xp, w' env Q Xp → w env Q Xp) : QP X W oe w' := L2.PO.le h fun σ H Q ⟨x, G, env, Q', X', r, hw, hn, hx⟩ => ⟨x, G, env, Q', X', r, i _ _ _ hw, hn, hx⟩
theorem QTs.le {w w' : WT} (h : QTs X W es w) (i : ∀ env Q Xp, w' env Q Xp → w env Q Xp) : QTs X W es w' := L2.PTs.le h fun σ H Q ⟨x, G, env, Q', X', r, hw, hn, hx⟩ => ⟨x, G, env, Q', X', r, i _ _ _ hw, hn, hx⟩
theorem QS.le {w w' : WS} (h : QS X W st w) (i : ∀ env E, w' env E → w env E) : QS X W st w' := L2.PS.le h fun De σ H ⟨x, G, env, E', r, hw, hE⟩ => ⟨x, G, env, E', r, i _ _ hw, hE⟩
theorem QSs.le {w w' : WS} (h : QSs X W l w) (i : ∀ env E, w' env E → w env E) : QSs X W l w' := L2.PSs.le h fun De σ H ⟨x, G, env, E', r, hw, hE⟩ => ⟨x, G, env, E', r, i _ _ hw, hE⟩
theorem QG.le {w w' : WG} (h : QG X e w) (i : ∀ d env Q, w' d env Q → w d env Q) : QG X e w' := L2.PG.le h fun v σ H Q ⟨x, G, env, d, Q', r, rp, hw, hn⟩ => ⟨x, G, env, d, Q', r, rp, i _ _ _ hw, hn⟩
theorem QGs.le {w w' : WGs} (h : QGs X es w) (i : ∀ d env Q, w' d env Q → w d env Q) : QGs X es w' := L2.PGs.le h fun v σ H Q ⟨x, G, env, d, Q', r, rp, hw, hn⟩ => ⟨x, G, env, d, Q', r, rp, i _ _ _ hw, hn⟩
abbrev KO (X : Cx) (W : WX) (e : Expr) (f : FO) : Prop := QO X W e (wp f)
abbrev KE (X : Cx) (W : WX) (e : Expr) (f : FE) : Prop := QE X W e (wp f)
abbrev KF (X : Cx) (W : WX) (e : Expr) (f : FE) : Prop := QF X W e (wp f)
abbrev KT (X : Cx) (W : WX) (e : Expr) (f : FT) : Prop := QT X W e (wp f)
abbrev KW (X : Cx) (W : WX) (e : Expr) (f : FT) : Prop := QW X W e (wp f)
abbrev KA (X : Cx) (W : WX) (es : List Expr) (f : FA) : Prop := QA X W es (wp f)
theorem ko {f : FE} (h : KE X W e f) : KO X W e (oi f) := by
  have h' : QO X W e (imO (wp f)) := h
  rw [wp_oi] at h'
  exact h'
theorem knew {f : FE} (h : KF X W e f) : KE X W e f := qe_new h
def fVar (i : Nat) : FE := fun env => ol (imAt env i) env
def foVar (i : Nat) : FO := fun env => match owAt env i with
  | some _ => .ok (.ow i) env
  | none => .bad
def fC (d : D) : FE := fun env => .ok d env
theorem ke_var (i : Nat) {n : Str} (hN : X.N[i]? = some n := by rfl) (hvs : Vis X.env.scope n := by first | exact Or.inl rfl | exact Or.inr (Or.inl rfl) | exact Or.inr (Or.inr rfl)) (hd : (n == ("__debug__" : Str)) = false := by decide)
    (hcd : (n == ("__classdict__" : Str)) = false := by decide) : KE X W (.Name n pos) (fVar i) := QE.le (qe_var i hN hvs hd hcd) fun env Q Xp h => by
  unfold wp fVar at h
  rw [on_ol] at h
  exact h
theorem ko_var (i : Nat) {n : Str} (hN : X.N[i]? = some n := by rfl) (hvs : Vis X.env.scope n := by first | exact Or.inl rfl | exact Or.inr (Or.inl rfl) | exact Or.inr (Or.inr rfl)) (hd : (n == ("__debug__" : Str)) = false := by decide)
    (hcd : (n == ("__classdict__" : Str)) = false := by decide) : KO X W (.Name n pos) (foVar i) := QO.le (qo_var i hN hvs hd hcd) fun env Q Xp h => by
  unfold wp foVar at h
  unfold oVar
  cases z : owAt env i with
  | none =>
    rw [z] at h
    exact h
  | some d =>
    rw [z] at h
    exact h
theorem ke_c {d : D} (h : QE X W e (wC d)) : KE X W e (fC d) := QE.le h fun env Q Xp h => h
theorem ke_int {i j} : KE X W (.Constant (.int i) j pos) (fC (.int i)) := ke_c qe_int
theorem ke_bl {i j} : KE X W (.Constant (.bool i) j pos) (fC (.bl i)) := ke_c qe_bl
theorem ke_non {j} : KE X W (.Constant .none j pos) (fC .non) := ke_c qe_non
theorem ke_str {i j} : KE X W (.Constant (.str i) j pos) (fC (.str i)) := ke_c qe_str
def f1 (g : D → Option D) (fa : FO) : FE := fun env => (fa env).bd fun h e => match hv e h with
  | some d => ol (g d) e
  | none => .bad
def f2 (g : D → D → Option D) (fa fb : FO) : FE := fun env => (fa env).bd fun h1 e1 => (fb e1).bd fun h2 e2 => match hv e2 h1 with
  | some d1 => (match hv e2 h2 with
    | some d2 => ol (g d1 d2) e2
    | none => .bad)
  | none => .bad
def fN (g : List D → Option D) (fa : FA) : FE := fun env => (fa env).bd fun hs e => match hvs e hs with
  | some ds => ol (g ds) e
  | none => .bad
theorem le1 {k : D → (D → Prop) → Prop} {g : D → Option D} (hk : ∀ d P, mo (g d) P → k d P) {fa : FO} : ∀ env Q Xp, wp (f1 g fa) env Q Xp → w1 k (wp fa) env Q Xp := fun env Q Xp h => by
  have h' : ((fa env).bd _).on Q Xp := h
  rw [Re.on_bd] at h'
  refine wp_mono (f := fa) (env := env) h' fun hd e q => ?_
  cases z : hv e hd with
  | none =>
    rw [z] at q
    exact q
  | some d =>
    rw [z] at q
    dsimp only at q
    rw [on_ol] at q
    exact hk d _ q
theorem le2 {k : D → D → (D → Prop) → Prop} {g : D → D → Option D} (hk : ∀ d d' P, mo (g d d') P → k d d' P) {fa fb : FO} : ∀ env Q Xp, wp (f2 g fa fb) env Q Xp → w2 k (wp fa) (wp fb) env Q Xp := fun env Q Xp h => by
  have h' : ((fa env).bd _).on Q Xp := h
  rw [Re.on_bd] at h'
  refine wp_mono (f := fa) (env := env) h' fun h1 e1 q => ?_
  rw [Re.on_bd] at q
  refine wp_mono (f := fb) (env := e1) q fun h2 e2 q => ?_
  cases z : hv e2 h1 with
  | none =>
    rw [z] at q
    exact q
  | some d1 =>
    rw [z] at q
    dsimp only at q
    cases y : hv e2 h2 with
    | none =>
      rw [y] at q
      exact q
    | some d2 =>
      rw [y] at q
      dsimp only at q
      rw [on_ol] at q
      exact hk d1 d2 _ q
theorem leN {k : List D → (D → Prop) → Prop} {g : List D → Option D} (hk : ∀ d P, mo (g d) P → k d P) {fa : FA} : ∀ env Q Xp, wp (fN g fa) env Q Xp → wN k (wp fa) env Q Xp := fun env Q Xp h => by
  have h' : ((fa env).bd _).on Q Xp := h
  rw [Re.on_bd] at h'
  refine wp_mono (f := fa) (env := env) h' fun hd e q => ?_
  cases z : hvs e hd with
  | none =>
    rw [z] at q
    exact q
  | some d =>
    rw [z] at q
    dsimp only at q
    rw [on_ol] at q
    exact hk d _ q
def gI (c : Int → Int → Bool) (g : Int → Int → D) (d1 d2 : D) : Option D := match d1 with
  | .int i => (match d2 with
    | .int j => if c i j = true then some (g i j) else none
    | _ => none)
  | _ => none
def gI0 (g : Int → Int → D) (d1 d2 : D) : Option D := match d1 with
  | .int i => (match d2 with
    | .int j => some (g i j)
    | _ => none)
  | _ => none
theorem hk_I {c : Int → Int → Bool} {C : Int → Int → Prop} {g : Int → Int → D} (hc : ∀ i j, c i j = true → C i j) : ∀ d d' P, mo (gI c g d d') P → kI C g d d' P := fun d d' P h => by
  cases d with
  | int i =>
    cases d' with
    | int j =>
      have h' : mo (if c i j = true then some (g i j) else none) P := h
      by_cases q : c i j = true
      · rw [if_pos q] at h'
        exact ⟨hc i j q, h'⟩
      · rw [if_neg q] at h'
        exact h'.elim
    | _ => exact h.elim
  | _ => exact h.elim
theorem hk_I0 {g : Int → Int → D} : ∀ d d' P, mo (gI0 g d d') P → kI0 g d d' P := fun d d' P h => by
  cases d with
  | int i =>
    cases d' with
    | int j => exact h
    | _ => exact h.elim
  | _ => exact h.elim
def gSub := gI0 fun i j => .int (i - j)
def mulC (i j : Int) : Bool := decide (-(2 ^ 64) < i ∧ i < 2 ^ 64) || (decide (-(2 ^ 64) < j ∧ j < 2 ^ 64) || decide (i.natAbs.log2 + j.natAbs.log2 < 1000000))
def divC (_ j : Int) : Bool := decide (0 < j) && decide (j.natAbs.log2 < 9000)
def powC (i j : Int) : Bool := decide (0 ≤ j) && (decide (j ≤ 1000000) && decide (i.natAbs < 2 ^ 64))
def gDiv := gI divC fun i j => .int (i / j)
def gMod := gI (fun _ j => decide (0 < j)) fun i j => .int (i % j)
def gPow := gI powC fun i j => .int (i ^ j.toNat)
def gShl := gI powC fun i j => .int (i * 2 ^ j.toNat)
def gLt := gI0 fun i j => .bl (decide (i < j))
def gLe := gI0 fun i j => .bl (decide (i ≤ j))
def gGt := gI0 fun i j => .bl (decide (j < i))
def gGe := gI0 fun i j => .bl (decide (j ≤ i))
variable {fa fb : FO}
theorem powC_ok {i j : Int} (h : powC i j = true) : CPow i j := by
  unfold powC at h
  simp only [Bool.and_eq_true, decide_eq_true_eq] at h
  exact ⟨h.1, h.2.1, h.2.2⟩
theorem divC_ok {i j : Int} (h : divC i j = true) : CDivW i j := by
  unfold divC at h
  simp only [Bool.and_eq_true, decide_eq_true_eq] at h
  exact h
theorem ke_div (ha : KO X W a fa) (hb : KO X W b fb) : KE X W (.BinOp a .FloorDiv b pos) (f2 gDiv fa fb) := QE.le (qe_div ha hb) (le2 (hk_I fun _ _ => divC_ok))
theorem ke_mod (ha : KO X W a fa) (hb : KO X W b fb) : KE X W (.BinOp a .Mod b pos) (f2 gMod fa fb) := QE.le (qe_mod ha hb) (le2 (hk_I fun _ _ h => of_decide_eq_true h))
theorem ke_pow (ha : KO X W a fa) (hb : KO X W b fb) : KE X W (.BinOp a .Pow b pos) (f2 gPow fa fb) := QE.le (qe_pow ha hb) (le2 (hk_I fun _ _ => powC_ok))
def gNeg (d : D) : Option D := match d with
  | .int i => some (.int (-i))
  | _ => none
theorem ke_neg (ha : KO X W a fa) : KE X W (.UnaryOp .USub a pos) (f1 gNeg fa) := QE.le (qe_neg ha) (le1 fun d P h => by
  cases d with
  | int i => exact h
  | _ => exact h.elim)
def gMul := gI mulC fun i j => .int (i * j)
theorem sem_or {K : PySem.W.Frag} {r r' : R2} {k k' : D → D → (D → Prop) → Prop} (h : Sem2 K r k) (h' : Sem2 K r' k') : Sem2 K (fun x y H Q => r x y H Q ∨ r' x y H Q) (fun d d' P => k d d' P ∨ k' d d' P) := fun G H d1 d2 v1 v2 P Q s h1 h2 hk hq => by
  rcases hk with hk | hk
  · exact .inl (h G H d1 d2 v1 v2 P Q s h1 h2 hk hq)
  · exact .inr (h' G H d1 d2 v1 v2 P Q s h1 h2 hk hq)
theorem ke_mul (ha : KO X W a fa) (hb : KO X W b fb) : KE X W (.BinOp a .Mult b pos) (f2 gMul fa fb) := QE.le (qe_op (OpR.or op_mul op_mulW) (sem_or (k := kMul) (k' := kMulW) (sem_rI fun _ _ _ => rfl) (sem_rI fun _ _ _ => rfl)) ha hb) (le2 fun d d' P h => by
  cases d with
  | int i =>
    cases d' with
    | int j =>
      have h' : mo (if mulC i j = true then some (D.int (i * j)) else none) P := h
      by_cases q : mulC i j = true
      · rw [if_pos q] at h'
        unfold mulC at q
        simp only [Bool.or_eq_true, decide_eq_true_eq] at q
        rcases q with q | q | q
        · exact .inl ⟨.inl q, h'⟩
        · exact .inl ⟨.inr q, h'⟩
        · exact .inr ⟨q, h'⟩
      · rw [if_neg q] at h'
        exact h'.elim
    | _ => exact h.elim
  | _ => exact h.elim)
def fB (f : FE) : FT := fun env => (f env).bd fun d e => ol (blOf d) e
theorem leB {f : FE} : ∀ env Q Xp, wp (fB f) env Q Xp → wB (wp f) env Q Xp := fun env Q Xp h => by
  have h' : ((f env).bd _).on Q Xp := h
  rw [Re.on_bd] at h'
  refine wp_mono (f := f) (env := env) h' fun d e q => ?_
  rw [on_ol] at q
  exact q
structure KC (X : Cx) (W : WX) (op : CmpOp) (a b : Expr) (f : FE) : Prop where
  e : ∀ pos, KE X W (.Compare a [op] [b] pos) f
  t : ∀ pos, KT X W (.Compare a [op] [b] pos) (fB f)
theorem kc {op : CmpOp} {w : WE} {f : FE} (h : QC X W op a b w) (i : ∀ env Q Xp, wp f env Q Xp → w env Q Xp) : KC X W op a b f :=
  ⟨fun pos => QE.le (h.e pos) i, fun pos => QT.le (h.t pos) fun env Q Xp q => i _ _ _ (leB env Q Xp q)⟩
theorem kc_lt (ha : KO X W a fa) (hb : KO X W b fb) : KC X W .Lt a b (f2 gLt fa fb) := kc (qc_lt ha hb) (le2 hk_I0)
theorem kc_gt (ha : KO X W a fa) (hb : KO X W b fb) : KC X W .Gt a b (f2 gGt fa fb) := kc (qc_gt ha hb) (le2 hk_I0)
theorem kc_ge (ha : KO X W a fa) (hb : KO X W b fb) : KC X W .GtE a b (f2 gGe fa fb) := kc (qc_ge ha hb) (le2 hk_I0)
def gEq (d d' : D) : Option D := if (okD 16 d && okD 16 d') = true then some (.bl (eqD d d')) else none
def gNe (d d' : D) : Option D := if (okD 16 d && okD 16 d') = true then some (.bl (!eqD d d')) else none
theorem if_some {b : Bool} {d : D} {P : D → Prop} (h : mo (if b = true then some d else none) P) : b = true ∧ P d := by
  cases b with
  | true => exact ⟨rfl, h⟩
  | false => exact h.elim
theorem kc_eq (hu : X.A.units + 64 < cLine) (ha : KO X W a fa) (hb : KO X W b fb) : KC X W .Eq a b (f2 gEq fa fb) := kc (qc_eq hu ha hb) (le2 fun d d' P h => by
  obtain ⟨q, h⟩ := if_some h
  rw [Bool.and_eq_true] at q
  exact ⟨q.1, q.2, h⟩)
theorem kc_ne (hu : X.A.units + 64 < cLine) (ha : KO X W a fa) (hb : KO X W b fb) : KC X W .NotEq a b (f2 gNe fa fb) := kc (qc_ne hu ha hb) (le2 fun d d' P h => by
  obtain ⟨q, h⟩ := if_some h
  rw [Bool.and_eq_true] at q
  exact ⟨q.1, q.2, h⟩)
def gIsN (d : D) : Option D := some (.bl (isNon d))
def gNotN (d : D) : Option D := some (.bl (!isNon d))
def fAnd (ft fu : FT) : FT := fun env => (ft env).bd fun k e => if k = true then fu e else .ok false e
def fOr (ft fu : FT) : FT := fun env => (ft env).bd fun k e => if k = true then .ok true e else fu e
def fNot (ft : FT) : FT := fun env => (ft env).bd fun k e => .ok (!k) e
variable {ft fu : FT} {f g : FE} {rest : List Expr}
theorem on_ite {α : Type} {b : Bool} {x y : Re α} {Q : α → Ev → Prop} {Xp : XP} : (if b = true then x else y).on Q Xp = if b = true then x.on Q Xp else y.on Q Xp := by
  cases b <;> rfl
theorem kt_val (h : KE X W e f) (he : ∀ whole, isTrue e X.env whole = (do let v ← whole; standAt e.pos; holding [v] (truthy v)) := by intro _; rfl) : KT X W e (fB f) := QT.le (qt_val h he) leB
theorem leT {ft : FT} {k : Bool → Ev → Re Bool} {q : (Bool → Ev → Prop) → XP → Bool → Ev → Prop} (hq : ∀ Q Xp b e, (k b e).on Q Xp → q Q Xp b e) : ∀ env Q Xp, wp (fun env => (ft env).bd k) env Q Xp → (wp ft) env (q Q Xp) Xp := fun env Q Xp h => by
  rw [wp_bd] at h
  exact wp_mono h fun b e => hq Q Xp b e
theorem kw_or1 (ha : KT X W a ft) : KW X W (.BoolOp .Or [a] pos) ft := qw_or1 ha
theorem kw_or (ha : KT X W a ft) (hb : KW X W (.BoolOp .Or (b :: rest) pos) fu) : KW X W (.BoolOp .Or (a :: b :: rest) pos) (fOr ft fu) := QW.le (qw_or ha hb) fun env Q Xp h => by
  refine leT (q := fun Q Xp k e => if k = true then Q true e else wp fu e Q Xp) (fun Q Xp b e h => ?_) env Q Xp h
  rw [on_ite] at h
  exact h
theorem kt_not (ha : KT X W a ft) : KT X W (.UnaryOp .Not a pos) (fNot ft) := QT.le (qt_not ha) fun env Q Xp h => by
  have h' := h
  unfold fNot at h'
  rw [wp_bd] at h'
  exact h'
def gAnd (fa fb : FE) : FE := fun env => (fa env).bd fun d e => (match blOf d with
  | some k => if k = true then fb e else .ok (.bl false) e
  | none => .bad)
def gOr (fa fb : FE) : FE := fun env => (fa env).bd fun d e => (match blOf d with
  | some k => if k = true then .ok (.bl true) e else fb e
  | none => .bad)
def gNot (fa : FE) : FE := fun env => (fa env).bd fun d e => (match blOf d with
  | some k => .ok (.bl (!k)) e
  | none => .bad)
def fIf {α : Type} (ft : FT) (fa fb : Ev → Re α) : Ev → Re α := fun env => (ft env).bd fun k e => if k = true then fa e else fb e
theorem leIf {α : Type} {fa fb : Ev → Re α} : ∀ env Q Xp, wp (fIf ft fa fb) env Q Xp → wp ft env (fun k e => if k = true then wp fa e Q Xp else wp fb e Q Xp) Xp := fun env Q Xp h => by
  unfold fIf at h
  rw [wp_bd] at h
  refine wp_mono h fun b e h => ?_
  rw [on_ite] at h
  exact h
theorem ke_if {c : Expr} (hc : KT X W c ft) (ha : KE X W a f) (hb : KE X W b g) : KE X W (.IfExp c a b pos) (fIf ft f g) := QE.le (qe_if hc ha hb) leIf
def fNil : FA := fun env => .ok [] env
def fCons (f : FO) (fl : FA) : FA := fun env => (f env).bd fun h e => (fl e).bd fun hs e2 => .ok (h :: hs) e2
variable {fl : FA}
theorem ka_nil : KA X W [] fNil := QA.le qa_nil fun env Q Xp h => h
theorem ka_cons (ha : KO X W e fa) (hr : KA X W es fl) (hs : starEach (e :: es) X.env = (false, eval e X.env) :: starEach es X.env := by rfl) : KA X W (e :: es) (fCons fa fl) := QA.le (qa_cons ha hr hs) fun env Q Xp h => by
  unfold fCons at h
  rw [wp_bd] at h
  refine wp_mono h fun hd e h => ?_
  rw [Re.on_bd] at h
  exact wp_mono (f := fl) h fun hs e2 h => h
def gSeq (c : List D → D) (ds : List D) : Option D := if ds.length ≤ 1000000 then some (c ds) else none
def fSeq (c : List D → D) (fl : FA) : FE := fun env => (fl env).bd fun hs e => match ims hs with
  | some ds => ol (gSeq c ds) e
  | none => .bad
theorem leSeq {c : List D → D} : ∀ env Q Xp, wp (fSeq c fl) env Q Xp → wp fl env (fun hs e => mo (ims hs) fun ds => ds.length ≤ 1000000 ∧ Q (c ds) e) Xp := fun env Q Xp h => by
  unfold fSeq at h
  rw [wp_bd] at h
  refine wp_mono h fun hs e h => ?_
  cases z : ims hs with
  | none =>
    rw [z] at h
    exact h
  | some ds =>
    rw [z] at h
    have h' : (ol (gSeq c ds) e).on Q Xp := h
    rw [on_ol] at h'
    unfold gSeq at h'
    by_cases q : ds.length ≤ 1000000
    · rw [if_pos q] at h'
      exact ⟨q, h'⟩
    · rw [if_neg q] at h'
      exact h'.elim
def fLst := fSeq D.lst
def fTup := fSeq D.tup
theorem kf_lst (h : KA X W es fl) : KF X W (.List es pos) (fLst fl) := QF.le (qf_lst h) leSeq
theorem ke_tup {x1} (h : KA X W es fl) : KE X W (.Tuple es x1 pos) (fTup fl) := QE.le (qe_tup h) leSeq
end
end TL

namespace TL
open PySem PySem.Spec L2
section
variable {X : Cx} {W : WX} {a b c e : Expr} {es : List Expr} {pos p : Pos} {st : Stmt} {l : List Stmt} {fa fb : FO} {f g : FE} {fl : FA} {ft fu : FT}
theorem Sem2F.sem {K : PySem.W.Frag} {r : R2} {k : D → D → (D → Prop) → Prop} (h : Sem2F K r k) : Sem2 K r k := fun G H d1 d2 v1 v2 P Q s h1 h2 hk hq =>
  h G H d1 d2 v1 v2 P Q s h1 h2 hk fun d' p o hp ro hP => hq d' (.ref p) (upd G p o) (upd H p o) (Step.one s o hp) (RepO.rep upd_same (RepO.mono (same_new (s.free hp)) ro)) hP
def kCatS : D → D → (D → Prop) → Prop := fun d1 d2 P => mo (strOf d1) fun i => mo (strOf d2) fun j => i.length + j.length ≤ 1000000 ∧ P (.str (i ++ j))
theorem sem_catS {K : PySem.W.Frag} : Sem2 K (fun x y H Q => ∃ i j, x = .str i ∧ y = .str j ∧ i.length + j.length ≤ sizeLine ∧ Q (.str (i ++ j)) H) kCatS := fun G H d1 d2 v1 v2 P Q s h1 h2 hk hq => by
  obtain ⟨i, z1, hk⟩ := mo_some hk
  obtain ⟨j, z2, hl, hk⟩ := mo_some hk
  rw [strOf_some z1] at h1
  rw [strOf_some z2] at h2
  exact ⟨i, j, h1, h2, line_le hl, hq (.str (i ++ j)) _ G H (.refl s) rfl hk⟩
def kCatT : D → D → (D → Prop) → Prop := fun d1 d2 P => mo (tupOf d1) fun xs => mo (tupOf d2) fun ys => xs.length + ys.length ≤ 1000000 ∧ P (.tup (xs ++ ys))
theorem sem_catT {K : PySem.W.Frag} : Sem2 K (rCatA K) kCatT := fun G H d1 d2 v1 v2 P Q s h1 h2 hk hq => by
  obtain ⟨xs, z1, hk⟩ := mo_some hk
  obtain ⟨ys, z2, hl, hk⟩ := mo_some hk
  rw [tupOf_some z1] at h1
  rw [tupOf_some z2] at h2
  obtain ⟨p1, vs, rfl, t1, r1, g1⟩ := h1
  obtain ⟨p2, us, rfl, t2, r2, g2⟩ := h2
  have hn : ∀ p, H p = none → Q (.ref p) (upd H p (.tup (vs ++ us))) := fun p hp => by
    refine hq _ _ (upd G p (.tup (vs ++ us))) _ (Step.one s _ hp) ?_ hk
    unfold Rep
    exact ⟨p, vs ++ us, rfl, SqT.of upd_same, Reps.mono (same_new (s.free hp)) _ _ (Reps.append r1 r2)⟩
  have hn2 : ∀ (d' : D) (v : V), Rep K G d' v → d' = .tup (xs ++ ys) → Q v H := fun d' v rp e => hq d' v G H (.refl s) rp (by rw [e]; exact hk)
  have n1 : vs = [] → xs = [] := fun e => by
    have := r1.length
    rw [e] at this
    exact List.eq_nil_of_length_eq_zero this.symm
  have n2 : us = [] → ys = [] := fun e => by
    have := r2.length
    rw [e] at this
    exact List.eq_nil_of_length_eq_zero this.symm
  refine ⟨p1, p2, vs, us, rfl, rfl, t1, t2, ?_, fun e => hn2 (.tup ys) _ ?_ (by rw [n1 e]; rfl), fun _ e => hn2 (.tup xs) _ ?_ (by rw [n2 e, List.append_nil]), fun _ _ => hn⟩
  · rw [r1.length, r2.length]
    exact line_le hl
  · unfold Rep
    exact ⟨p2, us, rfl, g2, r2⟩
  · unfold Rep
    exact ⟨p1, vs, rfl, g1, r1⟩
def gAdd (d1 d2 : D) : Option D := match d1, d2 with
  | .int i, .int j => some (.int (i + j))
  | .str i, .str j => if i.length + j.length ≤ 1000000 then some (.str (i ++ j)) else none
  | .lst xs, .lst ys => if xs.length + ys.length ≤ 1000000 then some (.lst (xs ++ ys)) else none
  | .tup xs, .tup ys => if xs.length + ys.length ≤ 1000000 then some (.tup (xs ++ ys)) else none
  | _, _ => none
theorem if_p {p : Prop} [Decidable p] {d : D} {P : D → Prop} (h : mo (if p then some d else none) P) : p ∧ P d := by
  by_cases q : p
  · rw [if_pos q] at h
    exact ⟨q, h⟩
  · rw [if_neg q] at h
    exact h.elim
theorem ke_add (ha : KO X W a fa) (hb : KO X W b fb) : KE X W (.BinOp a .Add b pos) (f2 gAdd fa fb) :=
  QE.le (qe_op (OpR.or op_add (OpR.or op_add_str (OpR.or op_catS op_catA))) (sem_or (k := kAdd) (sem_rI0 fun _ _ _ => rfl) (sem_or sem_catS (sem_or sem_cat.sem sem_catT))) ha hb) (le2 fun d d' P h => by
    unfold gAdd at h
    split at h
    · exact .inl h
    · exact .inr (.inl (if_p h))
    · exact .inr (.inr (.inl (if_p h)))
    · exact .inr (.inr (.inr (if_p h)))
    · exact h.elim)
def gCat (d1 d2 : D) : Option D := match d1, d2 with
  | .lst xs, .lst ys => if xs.length + ys.length ≤ 1000000 then some (.lst (xs ++ ys)) else none
  | _, _ => none
theorem kf_cat (ha : KO X W a fa) (hb : KO X W b fb) : KF X W (.BinOp a .Add b pos) (f2 gCat fa fb) := QF.le (qf_cat ha hb) (le2 fun d d' P h => by
    unfold gCat at h
    split at h
    · exact if_p h
    · exact h.elim)
def gIx (d1 d2 : D) : Option D := match seqOf d1 with
  | some ds => (match d2 with
    | .int i => atI ds i
    | _ => none)
  | none => none
theorem ke_ix (ha : KO X W a fa) (hb : KO X W b fb) (hs : PlainIx b) : KE X W (.Subscript a b pos) (f2 gIx fa fb) := QE.le (qe_ix ha hb hs) (le2 fun d d' P h => by
  unfold gIx at h
  unfold kIx
  cases z : seqOf d with
  | none =>
    rw [z] at h
    exact h
  | some ds =>
    rw [z] at h
    cases d' with
    | int i => exact h
    | _ => exact h.elim)
def fpNone : FP := fun env => .ok none env
def fpSome (f : FE) : FP := fun env => (f env).bd fun d e => match d with
  | .int i => .ok (some i) e
  | _ => .bad
abbrev KP (X : Cx) (W : WX) (e : Option Expr) (f : FP) : Prop := QP X W e (wp f)
theorem kp_none : KP X W none fpNone := QP.le qp_none fun env Q Xp h => h
theorem kp_some (h : KE X W e f) : KP X W (some e) (fpSome f) := QP.le (qp_some h) fun env Q Xp h => by
  unfold fpSome at h
  rw [wp_bd] at h
  refine wp_mono h fun d e h => ?_
  cases d with
  | int i => exact h
  | _ => exact h.elim
def fSl (fa : FO) (fl fh : FP) : FE := fun env => (fa env).bd fun h e1 => (fl e1).bd fun lo e2 => (fh e2).bd fun hi e3 => match hv e3 h with
  | some (.lst ds) => .ok (.lst (cutD ds lo hi)) e3
  | _ => .bad
theorem kf_sl {lo hi : Option Expr} {pl ph : FP} {p2 : Pos} (ha : KO X W a fa) (hl : KP X W lo pl) (hh : KP X W hi ph) : KF X W (.Subscript a (.Slice lo hi none p2) pos) (fSl fa pl ph) := QF.le (qf_sl ha hl hh) fun env Q Xp h => by
  unfold fSl at h
  rw [wp_bd] at h
  refine wp_mono (f := fa) h fun h1 e1 h => ?_
  rw [Re.on_bd] at h
  refine wp_mono (f := pl) h fun lo e2 h => ?_
  rw [Re.on_bd] at h
  refine wp_mono (f := ph) h fun hi e3 h => ?_
  cases z : hv e3 h1 with
  | none =>
    rw [z] at h
    exact h
  | some d =>
    rw [z] at h
    cases d with
    | lst ds => exact h
    | _ => exact h.elim
def g1' (g : D → Option D) (ds : List D) : Option D := match ds with
  | [d] => g d
  | _ => none
theorem hk1 {g : D → Option D} {k : D → (D → Prop) → Prop} (hk : ∀ d P, mo (g d) P → k d P) : ∀ ds P, mo (g1' g ds) P → mo (one ds) fun d => k d P := fun ds P h => by
  match ds, h with
  | [], h => exact h.elim
  | [d], h => exact hk d P h
  | _ :: _ :: _, h => exact h.elim
theorem wN_nil {k : List D → (D → Prop) → Prop} {env : Ev} {Q : D → Ev → Prop} {Xp : XP} (h : wN k (wp (fCons fa fNil)) env Q Xp) : wN k (aCons (wp fa) aNil) env Q Xp := by
  have h' : wp (fCons fa fNil) env _ Xp := h
  unfold fCons at h'
  rw [wp_bd] at h'
  exact wp_mono (f := fa) h' fun hd e h => h
def gLen (d : D) : Option D := match seqOf d with
  | some xs => some (.int xs.length)
  | none => none
theorem ke_len (hm : X.mg "len" = none) (ha : KO X W e fa) (hg : Gl X "len" := by rfl) (he : starEach [e] X.env = (false, eval e X.env) :: starEach [] X.env := by rfl) (hpl : (backTo pos (starEach [] X.env)).any (·.1) = false := by rfl) :
    KE X W (.Call (.Name "len" p) [e] [] pos) (fN (g1' gLen) (fCons fa fNil)) := QE.le (qe_len hm ha hg he hpl) fun env Q Xp h => by
  refine wN_nil (leN (k := kLen) (hk1 fun d P h => ?_) env Q Xp h)
  unfold gLen at h
  cases z : seqOf d with
  | none =>
    rw [z] at h
    exact h
  | some xs =>
    rw [z] at h
    exact h
def gAbs (d : D) : Option D := match d with
  | .int i => some (.int (if i < 0 then -i else i))
  | _ => none
theorem ke_abs (hm : X.mg "abs" = none) (ha : KO X W e fa) (hg : Gl X "abs" := by rfl) (he : starEach [e] X.env = (false, eval e X.env) :: starEach [] X.env := by rfl) (hpl : (backTo pos (starEach [] X.env)).any (·.1) = false := by rfl) :
    KE X W (.Call (.Name "abs" p) [e] [] pos) (fN (g1' gAbs) (fCons fa fNil)) := QE.le (qe_abs hm ha hg he hpl) fun env Q Xp h => by
  refine wN_nil (leN (k := kAbs) (hk1 fun d P h => ?_) env Q Xp h)
  cases d with
  | int i => exact h
  | _ => exact h.elim
def gInt (d : D) : Option D := match d with
  | .int i => some (.int i)
  | .bl b => some (.int (if b = true then 1 else 0))
  | _ => none
theorem ke_intc (hm : X.mg "int" = none) (ha : KO X W e fa) (hg : Gl X "int" := by rfl) (he : starEach [e] X.env = (false, eval e X.env) :: starEach [] X.env := by rfl) (hpl : (backTo pos (starEach [] X.env)).any (·.1) = false := by rfl) :
    KE X W (.Call (.Name "int" p) [e] [] pos) (fN (g1' gInt) (fCons fa fNil)) := QE.le (qe_intc hm ha hg he hpl) fun env Q Xp h => by
  refine wN_nil (leN (k := kInt) (hk1 fun d P h => ?_) env Q Xp h)
  cases d with
  | int i => exact h
  | bl b => exact h
  | _ => exact h.elim
def gListOf (d : D) : Option D := match seqOf d with
  | some xs => some (.lst xs)
  | none => none
def gTupOf (d : D) : Option D := match seqOf d with
  | some xs => some (.tup xs)
  | none => none
def g2' (g : Int → Int → D) (ds : List D) : Option D := match ds with
  | [d, d'] => gI0 g d d'
  | _ => none
variable {tb : List CI} {ks : List Str}
def gLR (d : D) : Option D := match d with
  | .int n => if 0 ≤ n ∧ n ≤ 1000000 then some (.lst (rgD 0 n.toNat)) else none
  | _ => none
def fLR (f : FE) : FE := fun env => (f env).bd fun d e => ol (gLR d) e
def gRep (d d' : D) : Option D := match d, d' with
  | .lst ds, .int k => if -1000000 ≤ k ∧ k ≤ 1000000 ∧ ds.length * k.toNat ≤ 1000000 then some (.lst (List.replicate k.toNat ds).flatten) else none
  | _, _ => none
def fRep (fa fb : FE) : FE := fun env => (fa env).bd fun d e1 => (fb e1).bd fun d' e2 => ol (gRep d d') e2
end
end TL

namespace TL
open PySem PySem.Spec L2
inductive Sr where
  | nx (e : Ev) | rt (d : D) (e : Ev) | ro (d : D) (e : Ev) | bk (e : Ev) | ct (e : Ev) | xc (x : Xn) (e : Ev) | bad
def Sr.on (r : Sr) (E : En) : Prop := match r with
  | .nx e => E.nx e
  | .rt d e => E.rt d e
  | .ro d e => E.ro d e
  | .bk e => E.bk e
  | .ct e => E.ct e
  | .xc x e => E.xc x e
  | .bad => False
abbrev FS := Ev → Sr
def ws (f : FS) : WS := fun env E => (f env).on E
def Re.st {α : Type} (r : Re α) (k : α → Ev → Sr) : Sr := match r with
  | .ok a e => k a e
  | .xc x e => .xc x e
  | .bad => .bad
theorem Re.on_st {α : Type} {r : Re α} {k : α → Ev → Sr} {E : En} : (r.st k).on E = r.on (fun a e => (k a e).on E) E.xc := by
  cases r <;> rfl
def Sr.sq (r : Sr) (k : FS) : Sr := match r with
  | .nx e => k e
  | .rt d e => .rt d e
  | .ro d e => .ro d e
  | .bk e => .bk e
  | .ct e => .ct e
  | .xc x e => .xc x e
  | .bad => .bad
theorem Sr.on_sq {r : Sr} {k : FS} {E : En} : (r.sq k).on E = r.on { E with nx := fun e => (k e).on E } := by
  cases r <;> rfl
theorem on_iteS {b : Bool} {x y : Sr} {E : En} : (if b = true then x else y).on E = if b = true then x.on E else y.on E := by
  cases b <;> rfl
section
variable {X : Cx} {W : WX} {a b c e : Expr} {es : List Expr} {pos p : Pos} {st : Stmt} {l : List Stmt} {fa fb : FO} {f g : FE} {fl : FA} {ft fu : FT} {s u : FS} {rest : List Stmt}
abbrev KS (X : Cx) (W : WX) (st : Stmt) (s : FS) : Prop := QS X W st (ws s)
abbrev KSs (X : Cx) (W : WX) (l : List Stmt) (s : FS) : Prop := QSs X W l (ws s)
def cNext : FS := fun env => .nx env
def cSeq (s u : FS) : FS := fun env => (s env).sq u
theorem kss_nil : KSs X W [] cNext := QSs.le qss_nil fun env E h => h
theorem kss_one (h : KS X W st s) : KSs X W [st] s := qss_one h
theorem kss_cons (h1 : KS X W st s) (h2 : KSs X W rest u) : KSs X W (st :: rest) (cSeq s u) := QSs.le (qss_cons h1 h2) fun env E h => by
  unfold ws cSeq at h
  rw [Sr.on_sq] at h
  exact h
def cBreak : FS := fun env => .bk env
def cCont : FS := fun env => .ct env
def cDrop (f : FO) : FS := fun env => (f env).st fun _ e => .nx e
def cRet (f : FE) : FS := fun env => (f env).st fun d e => .rt d e
theorem ks_ret (he : KE X W e f) : KS X W (.Return (some e) pos) (cRet f) := QS.le (qs_ret he) fun env E h => by
  unfold ws cRet at h
  rw [Re.on_st] at h
  exact h
def cRetF (f : FE) : FS := fun env => (f env).st fun d e => .ro d e
theorem ks_retF (he : KF X W e f) : KS X W (.Return (some e) pos) (cRetF f) := QS.le (qs_retF he) fun env E h => by
  unfold ws cRetF at h
  rw [Re.on_st] at h
  exact h
def cRetO (i : Nat) : FS := fun env => match lowAt env i with
  | some d => .ro d env
  | none => .bad
def cRetN : FS := fun env => .rt .non env
def cIf (ft : FT) (s u : FS) : FS := fun env => (ft env).st fun k e => if k = true then s e else u e
theorem ks_if {l1 l2 : List Stmt} (hc : KT X W c ft) (ha : KSs X W l1 s) (hb : KSs X W l2 u) : KS X W (.If c l1 l2 pos) (cIf ft s u) := QS.le (qs_if hc ha hb) fun env E h => by
  unfold ws cIf at h
  rw [Re.on_st] at h
  refine wp_mono (f := ft) h fun k e h => ?_
  rw [on_iteS] at h
  exact h
abbrev FG := D → Ev → Option Ev
abbrev FGs := List D → Ev → Option Ev
def wg (g : FG) : WG := fun d env Q => mo (g d env) Q
def wgs (g : FGs) : WGs := fun d env Q => mo (g d env) Q
abbrev KG (X : Cx) (e : Expr) (g : FG) : Prop := QG X e (wg g)
abbrev KGs (X : Cx) (es : List Expr) (g : FGs) : Prop := QGs X es (wgs g)
def tN (i : Nat) : FG := fun d env => if nr env i = true then some (env.set i (.im d)) else none
def tNil : FGs := fun ds env => match ds with
  | [] => some env
  | _ => none
def tCons (g : FG) (u : FGs) : FGs := fun ds env => match ds with
  | [] => none
  | d :: r => (g d env).bind (u r)
def tT (u : FGs) (n : Nat) : FG := fun d env => match d with
  | .tup ds => if ds.length = n then u ds env else none
  | _ => none
theorem mo_bind {α β : Type} {o : Option α} {k : α → Option β} {Q : β → Prop} : mo (o.bind k) Q = mo o fun a => mo (k a) Q := by
  cases o <;> rfl
theorem mo_if {α : Type} {p : Prop} [Decidable p] {o : Option α} {P : α → Prop} (h : mo (if p then o else none) P) : p ∧ mo o P := by
  by_cases q : p
  · rw [if_pos q] at h
    exact ⟨q, h⟩
  · rw [if_neg q] at h
    exact h.elim
theorem kg_name {i : Nat} {n : Str} (hN : X.N.Nodup) (hi : X.N[i]? = some n) (hx : Loc X.env.scope n) (hf : X.fn n = true ∨ X.env.scope.names.lookup n = some .local := by first | exact .inl rfl | exact .inr rfl | assumption) : KG X (.Name n pos) (tN i) := QG.le (qg_name hN hi hx hf) fun d env Q h => by
  unfold wg tN at h
  exact mo_if h
theorem kgs_nil : KGs X [] tNil := QGs.le qgs_nil fun ds env Q h => by
  match ds, h with
  | [], h => exact ⟨rfl, h⟩
  | _ :: _, h => exact h.elim
theorem kgs_cons {g : FG} {gu : FGs} (h1 : KG X e g) (h2 : KGs X es gu) (hs : (assignEach (e :: es) X.env).map (·.2) = assign e X.env :: (assignEach es X.env).map (·.2) := by rfl) : KGs X (e :: es) (tCons g gu) := QGs.le (qgs_cons h1 h2 hs) fun ds env Q h => by
  match ds, h with
  | [], h => exact h.elim
  | d :: r, h =>
    have h' : mo ((g d env).bind (gu r)) Q := h
    rw [mo_bind] at h'
    exact h'
theorem kg_tup {k n : Nat} {gu : FGs} (hc : X.calm = true) (h : KGs X es gu) (hn : (assignEach es X.env).length = n := by rfl) (hst : (assignEach es X.env).findIdx? (·.1) = none := by rfl) : KG X (.Tuple es k pos) (tT gu n) := QG.le (qg_tup hc h hn hst) fun d env Q h => by
  cases d with
  | tup ds => exact mo_if h
  | _ => exact h.elim
def ofG (o : Option Ev) : Sr := match o with
  | some e => .nx e
  | none => .bad
def cAsg (f : FE) (g : FG) : FS := fun env => (f env).st fun d e => ofG (g d e)
theorem on_ofG {o : Option Ev} {E : En} : (ofG o).on E = mo o E.nx := by
  cases o <;> rfl
theorem leAsgN {i : Nat} : ∀ env E, ws (cAsg f (tN i)) env E → sAsg (wp f) (gN i) env E := fun env E h => by
  unfold ws cAsg at h
  rw [Re.on_st] at h
  refine wp_mono (f := f) h fun d e h => ?_
  rw [on_ofG] at h
  exact mo_if h
theorem ks_set {i : Nat} {n : Str} {pos' : Pos} (hN : X.N.Nodup) (hi : X.N[i]? = some n) (hx : Loc X.env.scope n) (he : KE X W e f) (hs : swapsWith e (some (.Name n pos')) pos.line X.env = pure false := by rfl) (hf : X.fn n = true ∨ X.env.scope.names.lookup n = some .local := by first | exact .inl rfl | exact .inr rfl | assumption) :
    KS X W (.Assign [.Name n pos'] e pos) (cAsg f (tN i)) := QS.le (qs_set hN hi hx he hs hf) leAsgN
def setO (e : Ev) (i : Nat) (d : D) : Sr := if nr e i = true then .nx (e.set i (.ow false d)) else .bad
def cOwn (f : FE) (i : Nat) : FS := fun env => (f env).st fun d e => setO e i d
theorem on_if {p : Prop} [Decidable p] {x : Sr} {E : En} (h : (if p then x else .bad).on E) : p ∧ x.on E := by
  by_cases q : p
  · rw [if_pos q] at h
    exact ⟨q, h⟩
  · rw [if_neg q] at h
    exact h.elim
theorem leOwn {i : Nat} : ∀ env E, ws (cOwn f i) env E → sOwn (wp f) i env E := fun env E h => by
  unfold ws cOwn at h
  rw [Re.on_st] at h
  refine wp_mono (f := f) h fun d e h => ?_
  exact on_if h
theorem ks_own {i : Nat} {n : Str} {pos' : Pos} (hN : X.N.Nodup) (hi : X.N[i]? = some n) (hx : Loc X.env.scope n) (he : KF X W e f) (hs : swapsWith e (some (.Name n pos')) pos.line X.env = pure false := by rfl) (hf : X.fn n = true ∨ X.env.scope.names.lookup n = some .local := by first | exact .inl rfl | exact .inr rfl | assumption) :
    KS X W (.Assign [.Name n pos'] e pos) (cOwn f i) := QS.le (qs_own hN hi hx he hs hf) leOwn
def cPar (f g : FE) (i j : Nat) : FS := fun env => (f env).st fun d e1 => (g e1).st fun d' e2 => if nr e2 i = true ∧ nr e2 j = true then .nx ((e2.set i (.im d)).set j (.im d')) else .bad
def cParF (f g : FE) (i j : Nat) : FS := fun env => (f env).st fun d e1 => (g e1).st fun d' e2 => if nr e2 i = true ∧ nr e2 j = true then .nx ((e2.set j (.im d')).set i (.ow false d)) else .bad
def cFrz (i : Nat) (s : FS) : FS := fun env => match lowAt env i with
  | some d => s (env.set i (.im d))
  | none => .bad
def Sr.fg (is : List Nat) (r : Sr) : Sr := match r with
  | .nx e => if nrs e is = true then .nx (noE e is) else .bad
  | .rt d e => if nrs e is = true then .rt d (noE e is) else .bad
  | .ro d e => if nrs e is = true then .ro d (noE e is) else .bad
  | .bk e => if nrs e is = true then .bk (noE e is) else .bad
  | .ct e => if nrs e is = true then .ct (noE e is) else .bad
  | .xc x e => if nrs e is = true then .xc x (noE e is) else .bad
  | .bad => .bad
def En.fg (is : List Nat) (E : En) : En where
  nx := fun e => nrs e is = true ∧ E.nx (noE e is)
  rt := fun d e => nrs e is = true ∧ E.rt d (noE e is)
  ro := fun d e => nrs e is = true ∧ E.ro d (noE e is)
  bk := fun e => nrs e is = true ∧ E.bk (noE e is)
  ct := fun e => nrs e is = true ∧ E.ct (noE e is)
  xc := fun x e => nrs e is = true ∧ E.xc x (noE e is)
theorem Sr.on_fg {is : List Nat} {r : Sr} {E : En} (h : (r.fg is).on E) : r.on (E.fg is) := by
  cases r with
  | bad => exact h
  | _ => exact on_if h
theorem ER.fgt {K : PySem.W.Frag} {x : Fx} {G H : Hp} {σ : St} {e : Ev} {is : List Nat} (r : ER K x G H σ e) (hn : nrs e is = true) : ER K x G H σ (noE e is) := r.reslot rfl (fun _ _ => rfl) hn
theorem SEnd.fg {K : PySem.W.Frag} {x : Fx} {G : Hp} {De : Ends} {E : En} {is : List Nat} (h : SEnd K W x G De E) : SEnd K W x G De (E.fg is) where
  nx := fun env' σ' G' H' s r q => h.nx _ σ' G' H' s (r.fgt q.1) q.2
  rt := fun d env' σ' v G' H' s r rp q => h.rt d _ σ' v G' H' s (r.fgt q.1) rp q.2
  ro := fun d env' σ' p o G' H' s r a1 a2 a3 a4 a5 q => h.ro d _ σ' p o G' H' s (r.fgt q.1) a1 a2 a3 a4 a5 q.2
  bk := fun env' σ' G' H' s r q => h.bk _ σ' G' H' s (r.fgt q.1) q.2
  ct := fun env' σ' G' H' s r q => h.ct _ σ' G' H' s (r.fgt q.1) q.2
  xc := fun e env' cls dd σ' G' H' s r xr q => h.xc e _ cls dd σ' G' H' s (r.fgt q.1) xr q.2
def cKil (is : List Nat) (s : FS) : FS := fun env => (s env).fg is
theorem kss_kil (is : List Nat) {l : List Stmt} (h : KSs X W l s) : KSs X W l (cKil is s) := L2.PSs.le h fun De σ H h => by
  obtain ⟨x, G, env, E', r, hw, hE⟩ := h
  exact ⟨x, G, env, E'.fg is, r, Sr.on_fg hw, hE.fg⟩
def forL (g : FG) (b : FS) : List D → FS
  | [], e => .nx e
  | d :: ds, e => match g d e with
    | none => .bad
    | some e1 => match b e1 with
      | .nx e2 => forL g b ds e2
      | .ct e2 => forL g b ds e2
      | .bk e2 => .nx e2
      | r => r
def cFor (fi : FI) (g : FG) (b : FS) : FS := fun env => (fi env).st fun ds e => forL g b ds e
theorem forL_cons {g : FG} {b : FS} {d : D} {ds : List D} {e : Ev} {E : En} (h : (forL g b (d :: ds) e).on E) : wg g d e fun e1 => ws b e1 { E with nx := fun e2 => (forL g b ds e2).on E, ct := fun e2 => (forL g b ds e2).on E, bk := E.nx } := by
  unfold wg
  have h' : Sr.on (match g d e with | none => .bad | some e1 => match b e1 with | .nx e2 => forL g b ds e2 | .ct e2 => forL g b ds e2 | .bk e2 => .nx e2 | r => r) E := h
  cases z : g d e with
  | none =>
    rw [z] at h'
    exact h'
  | some e1 =>
    rw [z] at h'
    show (b e1).on _
    dsimp only at h'
    cases y : b e1 with
    | bad =>
      rw [y] at h'
      exact h'
    | _ =>
      rw [y] at h'
      exact h'
abbrev KIt (X : Cx) (W : WX) (tg iter : Expr) (f : FI) : Prop := QI X W tg iter (wp f)
theorem ks_for {tg iter : Expr} {body : List Stmt} {fi : FI} {gg : FG} (hp : PassesOwn (model X.prog X.w) X.A X.env X.xe) (hc : X.calm = true) (hi : KIt X W tg iter fi) (hg : KG X tg gg) (hb : KSs X W body s) (hs : ∀ x, foldedSetIterable iter X.env x = pure x := by intro _; rfl) :
    KS X W (.For tg iter body [] pos) (cFor fi gg s) := QS.le (qs_for hp hc hi hg hb hs) fun env E h => by
  unfold ws cFor at h
  rw [Re.on_st] at h
  refine wp_mono (f := fi) h fun ds e0 h => ?_
  refine ⟨fun i e => (forL gg s (ds.drop i) e).on E, h, fun i d e hd hi => ?_, fun e he => ?_⟩
  · have hl : i < ds.length := (List.getElem?_eq_some_iff.mp hd).1
    have ed : ds.drop i = d :: ds.drop (i + 1) := by
      rw [List.drop_eq_getElem_cons hl]
      congr 1
      rw [List.getElem?_eq_getElem hl] at hd
      exact Option.some.inj hd
    have hi' : (forL gg s (ds.drop i) e).on E := hi
    rw [ed] at hi'
    exact forL_cons hi'
  · have he' : (forL gg s (ds.drop ds.length) e).on E := he
    rw [List.drop_length] at he'
    exact he'
def fiBy (k : D → Option (List D)) (f : FE) : FI := fun env => (f env).bd fun d e => ol (k d) e
theorem leBy {k : D → Option (List D)} : ∀ env Q Xp, wp (fiBy k f) env Q Xp → wp f env (fun d e => mo (k d) fun ds => Q ds e) Xp := fun env Q Xp h => by
  unfold fiBy at h
  rw [wp_bd] at h
  refine wp_mono h fun d e h => ?_
  rw [on_ol] at h
  exact h
theorem ki_seq {tg : Expr} (h : KE X W e f) : KIt X W tg e (fiBy seqOf f) := ((qi_list h).or (qi_tup h)).le fun σ H R h => by
  obtain ⟨x, G, env, Q', X', r, hw, hn, hx⟩ := h
  have hw' := leBy _ _ _ hw
  unfold wp at hw'
  cases z : f env with
  | bad =>
    rw [z] at hw'
    exact hw'.elim
  | xc x' e' =>
    rw [z] at hw'
    refine .inl ⟨x, G, env, Q', X', r, ?_, hn, hx⟩
    show (f env).on _ _
    rw [z]
    exact hw'
  | ok d e' =>
    rw [z] at hw'
    obtain ⟨ds, z2, hw'⟩ := mo_some hw'
    rcases seqOf_some z2 with rfl | rfl
    · refine .inl ⟨x, G, env, Q', X', r, ?_, hn, hx⟩
      show (f env).on _ _
      rw [z]
      exact hw'
    · refine .inr ⟨x, G, env, Q', X', r, ?_, hn, hx⟩
      show (f env).on _ _
      rw [z]
      exact hw'
def enOfD (d : D) : Option (List D) := match seqOf d with
  | some ds => some (enD ds)
  | none => none
theorem ki_enum {elts : List Expr} {kk : Nat} {tpos : Pos} (hm : X.mg "enumerate" = none) (ha : KE X W e f) (hg : Gl X "enumerate" := by rfl) (hs : starEach [e] X.env = [(false, eval e X.env)] := by rfl) (hs2 : starEach [e] X.env = (false, eval e X.env) :: starEach [] X.env := by rfl) :
    KIt X W (.Tuple elts kk tpos) (.Call (.Name "enumerate" p) [e] [] pos) (fiBy enOfD f) := ((qi_enum hm ha hg hs hs2).or (qi_enumT hm ha hg hs hs2)).le fun σ H R h => by
  obtain ⟨x, G, env, Q', X', r, hw, hn, hx⟩ := h
  have hw' := leBy _ _ _ hw
  unfold wp at hw'
  cases z : f env with
  | bad =>
    rw [z] at hw'
    exact hw'.elim
  | xc x' e' =>
    rw [z] at hw'
    refine .inl ⟨x, G, env, Q', X', r, ?_, hn, hx⟩
    show (f env).on _ _
    rw [z]
    exact hw'
  | ok d e' =>
    rw [z] at hw'
    have hw2 : mo (enOfD d) fun ds => Q' ds e' := hw'
    unfold enOfD at hw2
    cases y : seqOf d with
    | none =>
      rw [y] at hw2
      exact hw2.elim
    | some ds =>
      rw [y] at hw2
      rcases seqOf_some y with rfl | rfl
      · refine .inl ⟨x, G, env, Q', X', r, ?_, hn, hx⟩
        show (f env).on _ _
        rw [z]
        exact hw2
      · refine .inr ⟨x, G, env, Q', X', r, ?_, hn, hx⟩
        show (f env).on _ _
        rw [z]
        exact hw2
def bnd (j : Int) : Bool := decide (-1000000000000000000 ≤ j) && decide (j ≤ 1000000000000000000)
theorem bnd_ok {j : Int} (h : bnd j = true) : -1000000000000000000 ≤ j ∧ j ≤ 1000000000000000000 := by
  unfold bnd at h
  simpa using h
def rg1 (d : D) : Option (List D) := match d with
  | .int j => if bnd j = true then some (rgD 0 j.toNat) else none
  | _ => none
def rg2 (d d' : D) : Option (List D) := match d, d' with
  | .int i, .int j => if bnd i = true ∧ bnd j = true then some (rgD i (j - i).toNat) else none
  | _, _ => none
theorem ki_range1 {tg : Expr} (hm : X.mg "range" = none) (ha : KE X W e f) (hg : Gl X "range" := by rfl) (hs : starEach [e] X.env = [(false, eval e X.env)] := by rfl) (hs2 : starEach [e] X.env = (false, eval e X.env) :: starEach [] X.env := by rfl) :
    KIt X W tg (.Call (.Name "range" p) [e] [] pos) (fiBy rg1 f) := QI.le (qi_range1 hm ha hg hs hs2) fun env Q Xp h => wp_mono (leBy env Q Xp h) fun d e h => by
  cases d with
  | int j =>
    obtain ⟨q, h⟩ := mo_if h
    exact ⟨bnd_ok q, h⟩
  | _ => exact h.elim
def fiR2 (f g : FE) : FI := fun env => (f env).bd fun d e => (g e).bd fun d' e2 => ol (rg2 d d') e2
end
end TL

namespace TL
open PySem PySem.Spec L2
inductive Fr where
  | rt (d : D) (sl : List Sl) | ro (d : D) (sl : List Sl) | xc (x : Xn) (sl : List Sl) | bad
def Fr.on (r : Fr) (R : Rn) : Prop := match r with
  | .rt d sl => R.rt d sl
  | .ro d sl => R.ro d sl
  | .xc x sl => R.xc x sl
  | .bad => False
abbrev Fn := List Sl → Fr
def TF (F : Fn) : SpT := fun sl R => (F sl).on R
def Sr.fr (r : Sr) (sl : List Sl) : Fr := match r with
  | .nx e => .rt .non (outs sl e)
  | .rt d e => .rt d (outs sl e)
  | .ro d e => .ro d (outs sl e)
  | .xc x e => .xc x (outs sl e)
  | _ => .bad
def fnF (k n : Nat) (b : FS) : Fn := fun sl => if sl.length = n then (b (sl ++ List.replicate (k - sl.length) .no)).fr sl else .bad
theorem tf_len {k n : Nat} {b : FS} : ∀ sl R, TF (fnF k n b) sl R → sl.length = n := fun sl R h => by
  unfold TF fnF at h
  by_cases q : sl.length = n
  · exact q
  · rw [if_neg q] at h
    exact h.elim
theorem tf_sem {N : List Str} {n : Nat} {b : FS} : ∀ sl R, TF (fnF N.length n b) sl R → ws b (envOf N sl) (enOf sl R) := fun sl R h => by
  unfold TF fnF at h
  by_cases q : sl.length = n
  · rw [if_pos q] at h
    unfold ws envOf
    cases z : b (sl ++ List.replicate (N.length - sl.length) .no) with
    | bk e =>
      rw [z] at h
      exact h.elim
    | ct e =>
      rw [z] at h
      exact h.elim
    | _ =>
      rw [z] at h
      exact h
  · rw [if_neg q] at h
    exact h.elim
def callF (F : Fn) (hs : List Hd) (e : Ev) : Re D := if ndup (ows hs) = true then (match slsOf e hs with
    | some sl => (match F sl with
      | .rt d sl' => .ok d (backE e hs sl')
      | .xc x sl' => .xc x (backE e hs sl')
      | _ => .bad)
    | none => .bad) else .bad
def callO (F : Fn) (hs : List Hd) (e : Ev) : Re D := if ndup (ows hs) = true then (match slsOf e hs with
    | some sl => (match F sl with
      | .ro d sl' => .ok d (backE e hs sl')
      | .xc x sl' => .xc x (backE e hs sl')
      | _ => .bad)
    | none => .bad) else .bad
def fCall (F : Fn) (fl : FA) : FE := fun env => (fl env).bd (callF F)
def fCallO (F : Fn) (fl : FA) : FE := fun env => (fl env).bd (callO F)
theorem on_if_re {α : Type} {p : Prop} [Decidable p] {x : Re α} {Q : α → Ev → Prop} {Xp : XP} (h : (if p then x else .bad).on Q Xp) : p ∧ x.on Q Xp := by
  by_cases q : p
  · rw [if_pos q] at h
    exact ⟨q, h⟩
  · rw [if_neg q] at h
    exact h.elim
theorem callF_ok {F : Fn} {hs : List Hd} {e : Ev} {Q : D → Ev → Prop} {Xp : XP} (h : (callF F hs e).on Q Xp) : ndup (ows hs) = true ∧ mo (slsOf e hs) fun sl => TF F sl ⟨fun d sl' => Q d (backE e hs sl'), fun _ _ => False, fun y sl' => Xp y (backE e hs sl')⟩ := by
  obtain ⟨q, h⟩ := on_if_re h
  refine ⟨q, ?_⟩
  cases z : slsOf e hs with
  | none =>
    rw [z] at h
    exact h
  | some sl =>
    rw [z] at h
    show TF F sl _
    unfold TF
    dsimp only at h
    cases y : F sl with
    | ro d sl' =>
      rw [y] at h
      exact h
    | _ =>
      rw [y] at h
      exact h
theorem callO_ok {F : Fn} {hs : List Hd} {e : Ev} {Q : D → Ev → Prop} {Xp : XP} (h : (callO F hs e).on Q Xp) : ndup (ows hs) = true ∧ mo (slsOf e hs) fun sl => TF F sl ⟨fun _ _ => False, fun d sl' => Q d (backE e hs sl'), fun y sl' => Xp y (backE e hs sl')⟩ := by
  obtain ⟨q, h⟩ := on_if_re h
  refine ⟨q, ?_⟩
  cases z : slsOf e hs with
  | none =>
    rw [z] at h
    exact h
  | some sl =>
    rw [z] at h
    show TF F sl _
    unfold TF
    dsimp only at h
    cases y : F sl with
    | rt d sl' =>
      rw [y] at h
      exact h
    | _ =>
      rw [y] at h
      exact h
section
variable {fl : FA} {fr : FO} {F : Fn}
theorem leCall : ∀ env Q Xp, wp (fCall F fl) env Q Xp → wCall (TF F) (wp fl) env Q Xp := fun env Q Xp h => by
  unfold fCall at h
  rw [wp_bd] at h
  exact wp_mono (f := fl) h fun hs e h => callF_ok h
theorem leCallO : ∀ env Q Xp, wp (fCallO F fl) env Q Xp → wCallF (TF F) (wp fl) env Q Xp := fun env Q Xp h => by
  unfold fCallO at h
  rw [wp_bd] at h
  exact wp_mono (f := fl) h fun hs e h => callO_ok h
def methF (m : Str) (Fs : List (Str × Fn)) (fl : FA) (h : Hd) (e : Ev) : Re D := match hv e h with
  | some (.ins c ns _) => if ns.contains m = false then (match Fs.lookup c with
      | some F => (fl e).bd fun hs e2 => callF F (h :: hs) e2
      | none => .bad) else .bad
  | _ => .bad
def fMeth (m : Str) (Fs : List (Str × Fn)) (fr : FO) (fl : FA) : FE := fun env => (fr env).bd (methF m Fs fl)
def TFs (Fs : List (Str × Fn)) : List (Str × SpT) := Fs.map fun q => (q.1, TF q.2)
theorem look_TFs {c : Str} : ∀ {Fs : List (Str × Fn)}, (TFs Fs).lookup c = (Fs.lookup c).map TF
  | [] => rfl
  | (k, F) :: Fs => by
    show List.lookup c ((k, TF F) :: TFs Fs) = _
    rw [List.lookup_cons, List.lookup_cons, look_TFs]
    cases c == k <;> rfl
def makeF (c : Str) (F : Fn) (hs : List Hd) (e : Ev) : Re D := if ndup (ows hs) = true then (match slsOf e hs with
    | some sl => (match F (.ow true (.ins c [] []) :: sl) with
      | .rt .non (.ow _ o :: sl') => .ok o (backE e hs sl')
      | .xc x (.ow _ _ :: sl') => .xc x (backE e hs sl')
      | _ => .bad)
    | none => .bad) else .bad
def fMake (c : Str) (F : Fn) (fl : FA) : FE := fun env => (fl env).bd (makeF c F)
end
def lcL (tu : Bool) (is : List Nat) (ft : FT) (fe : FE) : List D → Ev → Re (List D)
  | [], e => .ok [] e
  | d :: ds, e => match tOne tu 0 d with
    | none => .bad
    | some vs => if nrs e is = true ∧ vs.length = is.length then (match ft (setE e is vs) with
      | .ok b e2 => if b = true then (match fe e2 with
          | .ok y e3 => if nrs e3 is = true then (lcL tu is ft fe ds (noE e3 is)).bd fun r e4 => .ok (y :: r) e4 else .bad
          | _ => .bad)
        else if nrs e2 is = true then lcL tu is ft fe ds (noE e2 is) else .bad
      | _ => .bad) else .bad
def lcEnd (r : Re (List D)) : Re D := match r with
  | .ok ds e => if ds.length ≤ 1000000 then .ok (.lst ds) e else .bad
  | _ => .bad
def fLc (fi : FI) (tu : Bool) (is : List Nat) (ft : FT) (fe : FE) : FE := fun env => (fi env).bd fun ds e0 => if nrs e0 is = true then lcEnd (lcL tu is ft fe ds (noE e0 is)) else .bad
section
variable {fi : FI} {tu : Bool} {is : List Nat} {ft : FT} {fe : FE}
theorem leLc : ∀ env Q Xp, wp (fLc fi tu is ft fe) env Q Xp → wLc (wp fi) tu is (wp ft) (wp fe) env Q Xp := fun env Q Xp h => by
  unfold fLc at h
  rw [wp_bd] at h
  refine wp_mono (f := fi) h fun ds e0 h => ?_
  obtain ⟨q, h⟩ := on_if_re h
  refine ⟨q, ?_⟩
  refine ⟨fun k acc e => ∃ r e', lcL tu is ft fe (ds.drop k) e = .ok r e' ∧ (acc ++ r).length ≤ 1000000 ∧ Q (.lst (acc ++ r)) e', ?_, fun k d acc e hd hi => ?_, fun acc e he => ?_⟩
  · cases z : lcL tu is ft fe ds (noE e0 is) with
    | ok r e' =>
      rw [z] at h
      obtain ⟨q, h⟩ := on_if_re h
      exact ⟨r, e', z, q, h⟩
    | xc x e' =>
      rw [z] at h
      exact h.elim
    | bad =>
      rw [z] at h
      exact h.elim
  · obtain ⟨r, e', hr, hn, hq⟩ := hi
    have hl : k < ds.length := (List.getElem?_eq_some_iff.mp hd).1
    have ed : ds.drop k = d :: ds.drop (k + 1) := by
      rw [List.drop_eq_getElem_cons hl]
      congr 1
      rw [List.getElem?_eq_getElem hl] at hd
      exact Option.some.inj hd
    rw [ed] at hr
    unfold lcL at hr
    cases z : tOne tu 0 d with
    | none =>
      rw [z] at hr
      cases hr
    | some vs =>
      rw [z] at hr
      dsimp only at hr
      by_cases c : nrs e is = true ∧ vs.length = is.length
      · rw [if_pos c] at hr
        refine ⟨c.1, c.2, ?_⟩
        show (ft (setE e is vs)).on _ _
        cases y : ft (setE e is vs) with
        | ok b e2 =>
          rw [y] at hr
          dsimp only at hr
          show (if b = true then _ else _)
          cases b with
          | true =>
            rw [if_pos rfl] at hr ⊢
            show (fe e2).on _ _
            cases x : fe e2 with
            | ok y' e3 =>
              rw [x] at hr
              dsimp only at hr
              by_cases c3 : nrs e3 is = true
              · rw [if_pos c3] at hr
                refine ⟨c3, ?_⟩
                cases w : lcL tu is ft fe (ds.drop (k + 1)) (noE e3 is) with
                | ok r2 e4 =>
                  rw [w] at hr
                  have hr' : Re.ok (y' :: r2) e4 = Re.ok r e' := hr
                  cases hr'
                  refine ⟨?_, r2, _, w, ?_, ?_⟩
                  · rw [List.length_append, List.length_cons] at hn
                    omega
                  · rw [List.append_assoc]
                    exact hn
                  · rw [List.append_assoc]
                    exact hq
                | xc x2 e4 =>
                  rw [w] at hr
                  cases hr
                | bad =>
                  rw [w] at hr
                  cases hr
              · rw [if_neg c3] at hr
                cases hr
            | xc x2 e4 =>
              rw [x] at hr
              cases hr
            | bad =>
              rw [x] at hr
              cases hr
          | false =>
            rw [if_neg Bool.false_ne_true] at hr ⊢
            by_cases c3 : nrs e2 is = true
            · rw [if_pos c3] at hr
              exact ⟨c3, r, e', hr, hn, hq⟩
            · rw [if_neg c3] at hr
              cases hr
        | xc x2 e4 =>
          rw [y] at hr
          cases hr
        | bad =>
          rw [y] at hr
          cases hr
      · rw [if_neg c] at hr
        cases hr
  · obtain ⟨r, e', hr, hn, hq⟩ := he
    rw [List.drop_length] at hr
    cases hr
    rw [List.append_nil] at hq
    exact hq
def fYes : FT := fun env => .ok true env
variable {X : Cx} {W : WX} {c e : Expr} {es : List Expr}
abbrev KTs (X : Cx) (W : WX) (ifs : List Expr) (f : FT) : Prop := QTs X W ifs (wp f)
theorem kts_nil : KTs X W [] fYes := QTs.le qts_nil fun env Q Xp h => h
end
section
variable {fl : FA} {f g : FE} {tb : List CI}
def fOm (gm : List D → List D → Option (D × List D)) (i : Nat) (fl : FA) : FE := fun env => match owAt env i with
  | some (.lst _) => (fl env).bd fun hs e => (match ims hs with
    | some as => (match owAt e i with
      | some (.lst ds) => (match gm ds as with
        | some q => .ok q.1 (putOw e i (.lst q.2))
        | none => .bad)
      | _ => .bad)
    | none => .bad)
  | _ => .bad
def mmAppend (ds as : List D) : Option (D × List D) := match as with
  | [d] => if ds.length < 1000000 then some (.non, ds ++ [d]) else none
  | _ => none
def cSetIx (i : Nat) (fi fe : FE) : FS := fun env => (fe env).st fun d e1 => match owAt e1 i with
  | some _ => (fi e1).st fun di e2 => (match di with
    | .int k => (match owAt e2 i with
      | some (.lst ds) => (match ixN ds.length k with
        | some j => .nx (putOw e2 i (.lst (ds.set j d)))
        | none => .bad)
      | _ => .bad)
    | _ => .bad)
  | none => .bad
theorem leSetIx {i : Nat} : ∀ env E, ws (cSetIx i f g) env E → sSetIx i (wp f) (wp g) env E := fun env E h => by
  unfold ws cSetIx at h
  rw [Re.on_st] at h
  refine wp_mono (f := g) h fun d e1 h => ?_
  cases z : owAt e1 i with
  | none =>
    rw [z] at h
    exact h
  | some o =>
    rw [z] at h
    dsimp only at h
    rw [Re.on_st] at h
    refine wp_mono (f := f) h fun di e2 h => ?_
    cases di with
    | int k =>
      dsimp only at h
      show mo (owAt e2 i) _
      cases y : owAt e2 i with
      | none =>
        rw [y] at h
        exact h.elim
      | some o =>
        rw [y] at h
        cases o with
        | lst ds =>
          dsimp only at h
          show mo (ixN ds.length k) _
          cases x : ixN ds.length k with
          | none =>
            rw [x] at h
            exact h.elim
          | some j =>
            rw [x] at h
            exact h
        | _ => exact h.elim
    | _ => exact h.elim
def cFld (tb : List CI) (i : Nat) (fn : Str) (fe : FE) : FS := fun env => (fe env).st fun d e => match owAt e i with
  | some (.ins c ns ds) => if fldOk tb fn (.ins c ns ds) = true ∧ ns.length < 900 then .nx (putOw e i (.ins c (putD fn d ns ds).1 (putD fn d ns ds).2)) else .bad
  | _ => .bad
def fDic0 : FE := fun env => .ok (.dic [] []) env
def foGet2 (i : Nat) (fk fx : FE) : FE := fun env => match owAt env i with
  | some (.dic _ _) => (fk env).bd fun dk e1 => (fx e1).bd fun dx e2 => (match owAt e2 i with
    | some (.dic ks ds) => (match keyOf dk with
      | some k => .ok ((dval ks ds k).getD dx) e2
      | none => .bad)
    | _ => .bad)
  | _ => .bad
def foGet (i : Nat) (fk : FE) : FE := fun env => match owAt env i with
  | some (.dic _ _) => (fk env).bd fun dk e1 => (match owAt e1 i with
    | some (.dic ks ds) => (match keyOf dk with
      | some k => ol (dval ks ds k) e1
      | none => .bad)
    | _ => .bad)
  | _ => .bad
def cDPut (i : Nat) (fk fe : FE) : FS := fun env => (fe env).st fun d e1 => match owAt e1 i with
  | some (.dic _ _) => (fk e1).st fun dk e2 => (match owAt e2 i with
    | some (.dic ks ds) => (match keyOf dk with
      | some k => if ks.length < 1000000 then .nx (putOw e2 i (.dic (dput ks ds k d).1 (dput ks ds k d).2)) else .bad
      | none => .bad)
    | _ => .bad)
  | _ => .bad
def cRaise (cn fn : Str) (f : FE) : FS := fun env => (f env).st fun d e => .xc ⟨cn, [fn], [d]⟩ e
def cRaise0 (cn : Str) : FS := fun env => .xc ⟨cn, [], []⟩ env
def cNever : FS := fun _ => .bad
def fXf (xf : List (Str × Str)) (a : Addr) (c : Str) (dd : Option Addr) (fn : Str) (i : Nat) : FE := fun env => match imAt env i with
  | some (.exc a' dd' ns ds) => if a' = a ∧ dd' = dd ∧ xf.contains (c, fn) = true then ol ((ns.zip ds).lookup fn) env else .bad
  | _ => .bad
def fChain (k k' : D → D → Option D) (fa fb fc : FO) : FE := fun env => (fa env).bd fun h1 e1 => (fb e1).bd fun h2 e2 => match hv e2 h1 with
  | some d1 => (match hv e2 h2 with
    | some d2 => (match k d1 d2 with
      | some (.bl t) => if t = true then (fc e2).bd fun h3 e3 => (match hv e3 h2 with
          | some d2' => (match hv e3 h3 with
            | some d3 => ol (k' d2' d3) e3
            | none => .bad)
          | none => .bad) else .ok (.bl false) e2
      | _ => .bad)
    | none => .bad)
  | none => .bad
end
end TL
namespace TL
open PySem PySem.Spec L2
section
variable {X : Cx} {W : WX} {st : Stmt} {s : FS} {i : Nat}
def cPre (is : List Nat) (s : FS) : FS := fun env => if nrs env is = true then s (noE env is) else .bad
end
end TL

namespace TL
open PySem PySem.Spec L2 RZ PyProof.Rows
section
variable {X : Cx} {W : WX} {a b c e : Expr} {es : List Expr} {pos p : Pos} {st : Stmt} {l : List Stmt} {fa fb fc : FO} {f g : FE} {fl : FA} {ft fu : FT} {K : PySem.W.Frag}
def IC (X : Cx) (op : CmpOp) (g : D → D → Option D) : Prop := ∃ r k, OpR X (compareOp op) r ∧ Sem2 X.K r k ∧ ∀ d d' P, mo (g d d') P → k d d' P
end
end TL

namespace TL
open PySem PySem.Spec L2
inductive Mv where
  | im (d : D) | fr (d : D)
def Mv.sl : Mv → Sl
  | .im d => .im d
  | .fr d => .ow false d
abbrev FM := Ev → Re (List Mv)
def MR (K : PySem.W.Frag) (x : Fx) (G H : Hp) (σ : St) (env : Ev) : Mv → V → Prop
  | .im d, v => Rep K G d v
  | .fr d, v => ∃ p o, v = .ref p ∧ H p = some o ∧ RepO K G d o ∧ G p = none ∧ x.F p = none ∧ ∀ (j : Nat) b d', env[j]? = some (.ow b d') → σ[j]? ≠ some (some (.ref p))
def frs : List Mv → List V → List Addr
  | .fr _ :: ms, .ref p :: vs => p :: frs ms vs
  | _ :: ms, _ :: vs => frs ms vs
  | _, _ => []
def MRs (K : PySem.W.Frag) (x : Fx) (G H : Hp) (σ : St) (env : Ev) : List Mv → List V → Prop
  | [], vs => vs = []
  | m :: ms, vs => ∃ v r, vs = v :: r ∧ MR K x G H σ env m v ∧ MRs K x G H σ env ms r ∧ ∀ d p, m = .fr d → v = .ref p → p ∉ frs ms r
section
variable {K : PySem.W.Frag} {x : Fx} {G H : Hp} {σ : St} {env : Ev} {p : Addr} {o : HO}
theorem MR.unhide {m : Mv} {v : V} (h : MR K { x with F := upd x.F p o } G H σ env m v) : MR K x G H σ env m v ∧ ∀ d, m = .fr d → v ≠ .ref p := by
  cases m with
  | im d => exact ⟨h, fun d e => by cases e⟩
  | fr d =>
    obtain ⟨p', o', rfl, h1, h2, h3, h4, h5⟩ := h
    have h4' : upd x.F p o p' = none := h4
    have ne : p' ≠ p := fun z => by
      rw [z, upd_same] at h4'
      cases h4'
    rw [upd_ne ne] at h4'
    exact ⟨⟨p', o', rfl, h1, h2, h3, h4', h5⟩, fun d' e z => ne (by cases z; rfl)⟩
theorem MRs.unhide : ∀ {ms : List Mv} {vs : List V}, MRs K { x with F := upd x.F p o } G H σ env ms vs → MRs K x G H σ env ms vs ∧ p ∉ frs ms vs
  | [], vs, h => by
    have h' : vs = [] := h
    subst h'
    exact ⟨rfl, fun q => by cases q⟩
  | m :: ms, vs, h => by
    obtain ⟨v, r, rfl, h1, h2, h3⟩ := h
    obtain ⟨i1, i2⟩ := MRs.unhide h2
    obtain ⟨j1, j2⟩ := h1.unhide
    refine ⟨⟨v, r, rfl, j1, i1, h3⟩, fun q => ?_⟩
    cases m with
    | im d =>
      have : frs (.im d :: ms) (v :: r) = frs ms r := by cases v <;> rfl
      rw [this] at q
      exact i2 q
    | fr d =>
      obtain ⟨p', _, rfl, _⟩ := j1
      have : frs (.fr d :: ms) (.ref p' :: r) = p' :: frs ms r := rfl
      rw [this] at q
      rcases List.mem_cons.mp q with q | q
      · exact j2 d rfl (by rw [q])
      · exact i2 q
end
section
variable {X : Cx} {W : WX} {a b c e : Expr} {es : List Expr} {pos : Pos} {f g : FE} {fm : FM}
def mNil : FM := fun env => .ok [] env
def mIm (f : FE) (fm : FM) : FM := fun env => (f env).bd fun d e => (fm e).bd fun ms e2 => .ok (.im d :: ms) e2
def mFr (f : FE) (fm : FM) : FM := fun env => (f env).bd fun d e => (fm e).bd fun ms e2 => .ok (.fr d :: ms) e2
def setM (e : Ev) : List Nat → List Mv → Ev
  | i :: is, m :: ms => setM (e.set i m.sl) is ms
  | _, _ => e
end
section
variable {K : PySem.W.Frag} {x : Fx} {G H : Hp}
end
section
variable {X : Cx} {W : WX} {a b c e : Expr} {es ts : List Expr} {pos : Pos} {f g : FE} {fm : FM} {K : PySem.W.Frag}
def cParM (fm : FM) (is : List Nat) : FS := fun env => (fm env).st fun ms e => if ms.length = is.length ∧ nrs e is = true then .nx (setM e is ms) else .bad
theorem MRs.length {x : Fx} {G H : Hp} {σ : St} {env : Ev} : ∀ {ms : List Mv} {vs : List V}, MRs K x G H σ env ms vs → vs.length = ms.length
  | [], vs, h => by
    have h' : vs = [] := h
    rw [h']
    rfl
  | m :: ms, vs, h => by
    obtain ⟨v, r, rfl, _, h2, _⟩ := h
    rw [List.length_cons, List.length_cons, MRs.length h2]
end
end TL

namespace TL
open PySem PySem.Spec L2
section
variable {K : PySem.W.Frag} {x : Fx} {G H G' H' : Hp} {σ : St} {env : Ev} {i : Nat} {b : Bool} {d : D} {p : Addr} {o : HO}
def Fx.lend (x : Fx) (i : Nat) (p : Addr) (o : HO) : Fx := ⟨upd x.F p o, fun j => if j = i then none else x.R j⟩
theorem ER.lend (r : ER K x G H σ env) (e : env[i]? = some (.ow b d)) (es : σ[i]? = some (some (.ref p))) (hp : H p = some o) (hG : G p = none) : ER K (x.lend i p o) G H σ (env.set i .no) where
  len := by rw [List.length_set, r.len]
  sG := r.sG
  sF := fun a u h => by
    by_cases z : a = p
    · subst z
      have h' : upd x.F a o a = some u := h
      rw [upd_same] at h'
      cases h'
      exact hp
    · have h' : upd x.F p o a = some u := h
      rw [upd_ne z] at h'
      exact r.sF a u h'
  dj := fun a u h => by
    by_cases z : a = p
    · subst z
      exact .inl hG
    · have h' : upd x.F p o a = some u := h
      rw [upd_ne z] at h'
      exact r.dj a u h'
  im := fun j e' h => by
    by_cases hj : j = i
    · subst hj
      rw [List.getElem?_set_self (List.getElem?_eq_some_iff.mp e).1] at h
      cases h
    · rw [List.getElem?_set_ne (Ne.symm hj)] at h
      exact r.im j e' h
  ow := fun j b' e' h => by
    by_cases hj : j = i
    · subst hj
      rw [List.getElem?_set_self (List.getElem?_eq_some_iff.mp e).1] at h
      cases h
    · rw [List.getElem?_set_ne (Ne.symm hj)] at h
      obtain ⟨p2, o2, z1, z2, z3, z4, z5⟩ := r.ow j b' e' h
      refine ⟨p2, o2, z1, z2, z3, ?_, z5⟩
      show upd x.F p o p2 = none
      rw [upd_ne fun z => hj (r.nd j i b' b e' d p h e (by rw [← z]; exact z1) es)]
      exact z4
  nd := fun j k b1 b2 d1 d2 q h1 h2 h3 h4 => by
    have hj : j ≠ i := fun z => by
      subst z
      rw [List.getElem?_set_self (List.getElem?_eq_some_iff.mp e).1] at h1
      cases h1
    have hk : k ≠ i := fun z => by
      subst z
      rw [List.getElem?_set_self (List.getElem?_eq_some_iff.mp e).1] at h2
      cases h2
    rw [List.getElem?_set_ne (Ne.symm hj)] at h1
    rw [List.getElem?_set_ne (Ne.symm hk)] at h2
    exact r.nd j k b1 b2 d1 d2 q h1 h2 h3 h4
  rt := fun j q h => by
    have h' : (if j = i then none else x.R j) = some q := h
    by_cases hj : j = i
    · rw [if_pos hj] at h'
      cases h'
    · rw [if_neg hj] at h'
      obtain ⟨h1, d', h2⟩ := r.rt j q h'
      exact ⟨h1, d', by rw [List.getElem?_set_ne (Ne.symm hj)]; exact h2⟩
theorem ER.back {env' : Ev} (r0 : ER K x G H σ env) (e : env[i]? = some (.ow b d)) (es : σ[i]? = some (some (.ref p))) (q : RepO K G d o) (hF : x.F p = none) (s : Same G G') (r : ER K (x.lend i p o) G' H' σ env') : ER K x G' H' σ (env'.set i (.ow b d)) := by
  have hp : H' p = some o := r.sF p o (by show upd x.F p o p = _; exact upd_same)
  have hG : G' p = none := (r.dj p o (by show upd x.F p o p = _; exact upd_same)).resolve_right q.nt
  have sF' : Same x.F H' := fun a u h => r.sF a u (by
    show upd x.F p o a = some u
    rw [upd_ne fun z => by rw [z, hF] at h; cases h]
    exact h)
  have own : ∀ {j : Nat} {b' : Bool} {d' : D}, j ≠ i → env'[j]? = some (.ow b' d') → ∃ p2 o2, σ[j]? = some (some (.ref p2)) ∧ H' p2 = some o2 ∧ RepO K G' d' o2 ∧ x.F p2 = none ∧ G' p2 = none ∧ p2 ≠ p := fun {j b' d'} hj h => by
    obtain ⟨p2, o2, z1, z2, z3, z4, z5⟩ := r.ow j b' d' h
    have z4' : upd x.F p o p2 = none := z4
    have ne : p2 ≠ p := fun z => by
      rw [z, upd_same] at z4'
      cases z4'
    rw [upd_ne ne] at z4'
    exact ⟨p2, o2, z1, z2, z3, z4', z5, ne⟩
  have hi : i < env'.length := by
    rw [← r.len]
    exact (List.getElem?_eq_some_iff.mp es).1
  refine ⟨by rw [List.length_set, r.len], r.sG, sF', fun a u h => ?_, fun j d' h => ?_, fun j b' d' h => ?_, fun j k b1 b2 d1 d2 q' h1 h2 h3 h4 => ?_, fun j q' h => ?_⟩
  · exact r.dj a u (by
      show upd x.F p o a = some u
      rw [upd_ne fun z => by rw [z, hF] at h; cases h]
      exact h)
  · by_cases hj : j = i
    · subst hj
      rw [List.getElem?_set_self hi] at h
      cases h
    · rw [List.getElem?_set_ne (Ne.symm hj)] at h
      exact r.im j d' h
  · by_cases hj : j = i
    · subst hj
      rw [List.getElem?_set_self hi] at h
      cases h
      exact ⟨p, o, es, hp, RepO.mono s q, hF, hG⟩
    · rw [List.getElem?_set_ne (Ne.symm hj)] at h
      obtain ⟨p2, o2, z1, z2, z3, z4, z5, _⟩ := own hj h
      exact ⟨p2, o2, z1, z2, z3, z4, z5⟩
  · by_cases hj : j = i
    · by_cases hk : k = i
      · rw [hj, hk]
      · exfalso
        subst hj
        rw [List.getElem?_set_ne (Ne.symm hk)] at h2
        obtain ⟨p2, o2, z1, _, _, _, _, ne⟩ := own hk h2
        rw [es] at h3
        cases h3
        rw [h4] at z1
        cases z1
        exact ne rfl
    · by_cases hk : k = i
      · exfalso
        subst hk
        rw [List.getElem?_set_ne (Ne.symm hj)] at h1
        obtain ⟨p2, o2, z1, _, _, _, _, ne⟩ := own hj h1
        rw [es] at h4
        cases h4
        rw [h3] at z1
        cases z1
        exact ne rfl
      · rw [List.getElem?_set_ne (Ne.symm hj)] at h1
        rw [List.getElem?_set_ne (Ne.symm hk)] at h2
        exact r.nd j k b1 b2 d1 d2 q' h1 h2 h3 h4
  · by_cases hj : j = i
    · subst hj
      obtain ⟨h1, d', h2⟩ := r0.rt j q' h
      rw [e] at h2
      cases h2
      exact ⟨h1, d, List.getElem?_set_self hi⟩
    · obtain ⟨h1, d', h2⟩ := r.rt j q' (by
        show (if j = i then none else x.R j) = some q'
        rw [if_neg hj]
        exact h)
      exact ⟨h1, d', by rw [List.getElem?_set_ne (Ne.symm hj)]; exact h2⟩
end
def owSl (env : Ev) (i : Nat) : Option (Bool × D) := match env[i]? with
  | some (.ow b d) => some (b, d)
  | _ => none
def fLcO (i : Nat) (tu : Bool) (is : List Nat) (ft : FT) (fe : FE) : FE := fun env => match owSl env i with
  | some (b, .lst ds) => if nrs (env.set i .no) is = true then (lcEnd (lcL tu is ft fe ds (noE (env.set i .no) is))).bd fun y e => .ok y (e.set i (.ow b (.lst ds))) else .bad
  | _ => .bad
section
variable {X : Cx} {W : WX} {elt tg : Expr} {pos p : Pos} {ifs : List Expr} {ft : FT} {fe : FE} {K : PySem.W.Frag}
end
end TL
namespace TL
open PySem PySem.Spec L2
section
variable {X : Cx} {W : WX} {T : SpT} {k : Nat} {x : Str} {ps : List Str} {p pos : Pos} {F : Fn}
end
end TL

namespace GB
open PySem PySem.SeqAt GQ
open AutoSeq1 (wpAny_loadPart')
open MeetsSeq MeetsSeq2 MeetsSeq3 SeqRoads2
section
variable {prog : Program} {w : World} {A : Around} {R : Result → Shared → Prop}
end
section
variable {prog : Program} {w : World} {A : Around} {E : Value → Shared → Prop} {s : Shared}
end
end GB

namespace TL
open PySem PySem.Spec L2
mutual
def mb (CL : List Str) : D → D → Bool
  | .lst ds, e => match e with
    | .lst es => mbs CL ds es
    | .non => false | .bl _ => false | .int _ => false | .str _ => false
    | _ => true
  | .tup ds, e => match e with
    | .tup es => mbs CL ds es
    | .non => false | .bl _ => false | .int _ => false | .str _ => false
    | _ => true
  | .ins c ns ds, e => match e with
    | .ins c' ns' es => (c == c' || !(CL.contains c && CL.contains c')) && (ns == ns') && mbs CL ds es
    | .non => false | .bl _ => false | .int _ => false | .str _ => false
    | _ => true
  | .non, e => match e with
    | .non => true
    | _ => false
  | .bl b, e => match e with
    | .bl b' => b == b'
    | _ => false
  | .int i, e => match e with
    | .int j => i == j
    | _ => false
  | .str i, e => match e with
    | .str j => i == j
    | _ => false
  | _, _ => true
def mbs (CL : List Str) : List D → List D → Bool
  | [], es => es.isEmpty
  | d :: ds, es => match es with
    | [] => false
    | e :: es => mb CL d e && mbs CL ds es
end
section
variable {X : Cx} {pins : List (Addr × Obj)} {σ : St} {H G : Hp} {s : Shared} {CL : List Str}
end
def isIns : D → Bool
  | .ins _ _ _ => true
  | _ => false
def RepU (K : PySem.W.Frag) (G H : Hp) (d e : D) (x y : V) : Prop := if isIns d = true then Rep K G d x ∧ Rep K G e y else RepT K G H d x ∧ RepT K G H e y
theorem RepU.of {K : PySem.W.Frag} {G H : Hp} (s : Same G H) {d e : D} {x y : V} (h : Rep K G d x) (h' : Rep K G e y) : RepU K G H d e x y := by
  unfold RepU
  split
  · exact ⟨h, h'⟩
  · exact ⟨Rep.top s h, Rep.top s h'⟩
theorem RepU.top {K : PySem.W.Frag} {G H : Hp} (s : Same G H) {d e : D} {x y : V} (h : RepU K G H d e x y) : RepT K G H d x ∧ RepT K G H e y := by
  unfold RepU at h
  split at h
  · exact ⟨Rep.top s h.1, Rep.top s h.2⟩
  · exact h
section
variable {prog : Program} {w : World} {A : Around} {E : Value → Shared → Prop} {s : Shared}
end
section
variable {X : Cx} {CL : List Str} {E : D → D → Option Bool} {n k : Nat}
end
end TL

namespace TL
open PySem PySem.Spec L2
section
variable {X : Cx} {tb : List CI} {ks cs ps : List Str} {F : Fn} {k : Nat}
section
variable {prog : Program} {w : World} {A : Around} {E : Value → Shared → Prop} {s : Shared} {K : PySem.W.Frag} {x C f : Addr} {ox : Obj} {od : Option Obj} {v : Value}
end
end
end TL

namespace TL
open PySem PySem.Spec L2
def qT (T : D → D → Option Bool) (e : Ev) (h1 h2 : Hd) : Option Bool := match h1 with
  | .im d1 => (match h2 with
    | .im d2 => T d1 d2
    | _ => (hv e h2).bind fun d2 => if isIns d1 = true then none else T d1 d2)
  | _ => (hv e h1).bind fun d1 => (hv e h2).bind fun d2 => if isIns d1 = true then none else T d1 d2
def f2q (ne : Bool) (T : D → D → Option Bool) (fa fb : FO) : FE := fun env => (fa env).bd fun h1 e1 => (fb e1).bd fun h2 e2 => match qT T e2 h1 h2 with
  | some b => .ok (.bl (ne != b)) e2
  | none => .bad
section
variable {X : Cx} {W : WX} {a b : Expr} {fa fb : FO} {T : D → D → Option Bool} {n k m : Nat} {ne : Bool} {tb : List CI} {ks cs ps CL : List Str} {F : Fn}
end
section
variable {tb : List CI} {cs : List Str} {F : Fn} {T : D → D → Option Bool}
end
end TL

namespace TL
open PySem PySem.Spec L2
def fDs : List (Key × FE) → Ev → Re (List D)
  | [], env => .ok [] env
  | (_, f) :: r, env => (f env).bd fun d e => (fDs r e).bd fun l e' => .ok (d :: l) e'
def fDisp (ps : List (Key × FE)) : FE := fun env => (fDs ps env).bd fun l e => .ok (.dic (ps.map (·.1)) l) e
section
variable {X : Cx} {W : WX} {K : PySem.W.Frag} {x : Fx} {σ : St}
def gDGet (d e : D) : Option D := match d with
  | .dic ks ds => (keyOf e).bind fun k => dval ks ds k
  | _ => none
end
section
variable {X : Cx} {W : WX} {e : Expr}
end
end TL

namespace TL
open PySem PySem.Spec L2
structure X0Txt (K : PySem.W.Frag) (mg : Str → Option Value) (cn : Str) (C : Addr) : Prop where
  gC : mg cn = some (.ref C)
  q : PySem.W.excIn K C He.veBase "ValueError.__new__" = true
  kC : PySem.W.keepIn K (.ref C) = true
  exC : PySem.W.subIn K (.ref C) (.type "BaseException") = some true
  tyC : PySem.W.typeIn K (.ref C) = some (.type "type")
theorem x0_mk {K : PySem.W.Frag} {mg : Str → Option Value} {cn : Str} (gC : mg cn = some (.ref (He.ga K cn))) (h : x0B K cn = true) : X0Txt K mg cn (He.ga K cn) := by
  obtain ⟨h1, h2, h3, h4⟩ := He.exc_ok h
  exact ⟨gC, h1, h2, h3, h4⟩
section
variable {X : Cx} {W : WX} {cn : Str}
end
end TL

namespace TL
open PySem PySem.Spec L2
section
variable {X : Cx} {W : WX} {a b : Expr} {fa fb : FO} {K : PySem.W.Frag}
def gBl (f : Bool → Bool → Bool) (d d' : D) : Option D := match d with
  | .bl i => (match d' with
    | .bl j => some (.bl (f i j))
    | _ => none)
  | _ => none
def gIsB := gBl fun i j => decide (i = j)
def gNotB := gBl fun i j => !decide (i = j)
end
end TL

namespace TL
open PySem PySem.Spec PyProof.Rows L2
section
variable {X : Cx} {W : WX} {a b c : Expr} {es : List Expr} {p pos p2 pos2 : Pos}
def rgN (i j c : Int) : Nat := if i < j then ((j - i - 1) / c + 1).toNat else 0
def rgB (i j c : Int) : Bool := decide (-1000000 ≤ i) && (decide (i ≤ 1000000) && (decide (-1000000 ≤ j) && (decide (j ≤ 1000000) && (decide (j - i ≤ 1000000) && (decide (0 < c) && decide (c ≤ 1000000))))))
def gLR3 (ds : List D) : Option D := match ds with
  | [.int i, .int j] => if rgB i j 1 = true then some (.lst ((List.range (rgN i j 1)).map fun k => D.int (i + ((k : Nat) : Int) * 1))) else none
  | [.int i, .int j, .int c] => if rgB i j c = true then some (.lst ((List.range (rgN i j c)).map fun k => D.int (i + ((k : Nat) : Int) * c))) else none
  | _ => none
end
end TL

namespace TL
open PySem PySem.Spec PyProof.Rows L2
def prm {α : Type} (sw : Bool) (l : List α) : List α := match sw with
  | true => l.reverse
  | false => l
def KB (K : PySem.W.Frag) (fd : FuncData) (ps ks : List Str) (sw : Bool) : Prop :=
  ∀ (s : Shared) (ws : List Value), K.In s.heap → ws.length = ps.length → BindsTo s fd ⟨[], ks.zip ws⟩ (ps.zip (prm sw ws))
structure FnTK (P : Program) (w : World) (K : PySem.W.Frag) (mg : Str → Option Value) (base : Heap) (k : Nat) (x : Str) (ps ks : List Str) (sw : Bool) (T : SpT) : Prop where
  ex : ∃ f fd, FnOk P w K mg base (L2.CX P w) k f fd ps (spT K T) ∧ mg x = some (.ref f) ∧ PySem.W.keepIn K (.ref f) = true ∧ KB K fd ps ks sw
theorem _root_.L2.PK.le {X : Cx} {es : List Keyword} {t t' : TA} (h : PK X es t) (i : ∀ σ H Q, t' σ H Q → t σ H Q) : PK X es t' := ⟨fun pos pins s σ H Q I hw => h.run pos pins s σ H Q I (i σ H Q hw)⟩
section
variable {X : Cx} {W : WX} {K : PySem.W.Frag} {T : SpT} {wl : WA} {fl : FA} {fa : FO} {F : Fn} {k : Nat} {x : Str} {ps ks : List Str} {sw : Bool} {e : Expr} {es : List Expr} {kws : List Keyword} {p pos kpos : Pos} {nm : Option Str}
theorem HRs.app2 {G : Hp} {σ : L2.St} : ∀ {hs : List Hd} {vs : List V} {hs' : List Hd} {vs' : List V}, HRs K G σ hs vs → HRs K G σ hs' vs' → HRs K G σ (hs ++ hs') (vs ++ vs')
  | [], vs, hs', vs', q, q' => by
    have e : vs = [] := q
    subst e
    exact q'
  | h :: t, vs, hs', vs', q, q' => by
    obtain ⟨v, r, rfl, q1, q2⟩ := q
    exact ⟨v, r ++ vs', rfl, q1, HRs.app2 q2 q'⟩
theorem HRs.rev {G : Hp} {σ : L2.St} : ∀ {hs : List Hd} {vs : List V}, HRs K G σ hs vs → HRs K G σ hs.reverse vs.reverse
  | [], vs, q => by
    have e : vs = [] := q
    subst e
    rfl
  | h :: t, vs, q => by
    obtain ⟨v, r, rfl, q1, q2⟩ := q
    rw [List.reverse_cons, List.reverse_cons]
    exact HRs.app2 (HRs.rev q2) ⟨v, [], rfl, q1, rfl⟩
theorem HRs.prm {G : Hp} {σ : L2.St} {hs : List Hd} {vs : List V} (q : HRs K G σ hs vs) : HRs K G σ (prm sw hs) (prm sw vs) := by
  cases sw
  · exact q
  · exact q.rev
def fCallK (F : Fn) (sw : Bool) (fl : FA) : FE := fun env => (fl env).bd fun hs e => callF F (prm sw hs) e
def foAny (i : Nat) : FO := fun env => match imAt env i with
  | some d => .ok (.im d) env
  | none => foVar i env
def fAlt (i : Nat) (f g : FE) : FE := fun env => match imAt env i with
  | some _ => f env
  | none => g env
end
end TL

namespace TL
open PySem PySem.Spec PyProof.Rows L2
section
variable {X : Cx} {W : WX} {a e : Expr} {fa : FO} {p pos p2 : Pos}
def fSlT (fa : FO) (fl fh : FP) : FE := fun env => (fa env).bd fun h e1 => (fl e1).bd fun lo e2 => (fh e2).bd fun hi e3 => match hv e3 h with
  | some (.tup ds) => if HT.sIx ds.length 0 lo = 0 ∧ HT.sIx ds.length ds.length hi = ds.length then .bad else .ok (.tup (cutD ds lo hi)) e3
  | _ => .bad
end
end TL

namespace TL
open PySem PySem.Spec L2
section
variable {X : Cx}
variable {K : PySem.W.Frag}
end
end TL

namespace TL
open PySem PySem.Spec L2
section
variable {X : Cx} {W : WX} {a b e : Expr} {fa fb : FO} {p pos p2 apos : Pos} {K : PySem.W.Frag}
end
end TL

namespace TL
open PySem PySem.Spec L2
section
variable {X : Cx} {W : WX} {a b e : Expr} {fa fb : FO} {p pos : Pos} {K : PySem.W.Frag}
def gDivM (d1 d2 : D) : Option D := match d1, d2 with
  | .int i, .int j => if divC i j = true then some (.tup [.int (i / j), .int (i % j)]) else none
  | _, _ => none
def g2m (ds : List D) : Option D := match ds with
  | [d1, d2] => gDivM d1 d2
  | _ => none
theorem g2m_ii {i j : Int} : g2m [.int i, .int j] = if divC i j = true then some (.tup [.int (i / j), .int (i % j)]) else none := rfl
end
end TL

namespace TL
open PySem PySem.Spec L2
section
variable {X : Cx} {W : WX} {a b e : Expr} {es : List Expr} {fa fb : FO} {p pos : Pos} {K : PySem.W.Frag}
def tL (u : FGs) (n : Nat) : FG := fun d env => match d with
  | .lst ds => if ds.length = n then u ds env else none
  | .tup ds => if ds.length = n then u ds env else none
  | _ => none
theorem tLl {u : FGs} {n : Nat} {ds : List D} {e : Ev} : tL u n (.lst ds) e = if ds.length = n then u ds e else none := rfl
end
end TL

namespace TL
open PySem PySem.Spec L2
section
variable {X : Cx} {W : WX} {a b e : Expr} {es : List Expr} {fa fb : FO} {f : FE} {p pos : Pos} {K : PySem.W.Frag}
def gInD (neg : Bool) (d1 d2 : D) : Option D := match d2 with
  | .dic ks ds => (match d1 with
    | .non => some (.bl neg)
    | .int i => some (.bl (neg ^^ (dval ks ds (.inl i)).isSome))
    | .str i => some (.bl (neg ^^ (dval ks ds (.inr i)).isSome))
    | _ => none)
  | _ => none
theorem gInD_n {neg : Bool} {ks : List Key} {ds : List D} : gInD neg .non (.dic ks ds) = some (.bl neg) := rfl
theorem gInD_i {neg : Bool} {ks : List Key} {ds : List D} {i : Int} : gInD neg (.int i) (.dic ks ds) = some (.bl (neg ^^ (dval ks ds (.inl i)).isSome)) := rfl
theorem gInD_s {neg : Bool} {ks : List Key} {ds : List D} {i : Str} : gInD neg (.str i) (.dic ks ds) = some (.bl (neg ^^ (dval ks ds (.inr i)).isSome)) := rfl
def cAsg3 (f : FE) (g1 g2 g3 : FG) : FS := fun env => (f env).st fun d e => ofG ((g1 d e).bind fun e1 => (g2 d e1).bind fun e2 => g3 d e2)
def fRev (fa : FO) : FE := fun env => (fa env).bd fun h e1 => match hv e1 h with
  | some (.lst ds) => .ok (.lst ds.reverse) e1
  | _ => .bad
theorem Reps.rev {G : Hp} : ∀ {ds : List D} {vs : List V}, Reps K G ds vs → Reps K G ds.reverse vs.reverse
  | [], vs, h => by
    have e := h.length
    have : vs = [] := List.eq_nil_of_length_eq_zero (by rw [e]; rfl)
    rw [this]
    exact Reps.nil
  | d :: ds, vs, h => by
    obtain ⟨v, r, rfl, q1, q2⟩ := h
    rw [List.reverse_cons, List.reverse_cons]
    exact Reps.append (Reps.rev q2) (Reps.cons q1 Reps.nil)
end
end TL

namespace TL
open PySem PySem.Spec L2
section
variable {X : Cx} {W : WX} {a b e : Expr} {fa fb : FO} {pos : Pos} {K : PySem.W.Frag}
end
end TL

namespace TL
open PySem PySem.Spec L2
section
variable {X : Cx} {K : PySem.W.Frag}
def mmInsert (ds as : List D) : Option (D × List D) := match as with
  | [.int i, d] => if ds.length < 1000000 ∧ 0 ≤ i ∧ i < 1000000 then some (.non, ds.take i.toNat ++ [d] ++ ds.drop i.toNat) else none
  | _ => none
end
section
variable {ds : List D} {d : D} {i : Int}
theorem mmInsertu : mmInsert ds [.int i, d] = if ds.length < 1000000 ∧ 0 ≤ i ∧ i < 1000000 then some (.non, ds.take i.toNat ++ [d] ++ ds.drop i.toNat) else none := rfl
end
end TL

namespace TL
open PySem PySem.Spec L2
section
variable {X : Cx} {W : WX} {K : PySem.W.Frag} {fl : FA} {F : Fn} {k : Nat} {x : Str} {ps ks : List Str} {sw : Bool} {kws : List Keyword} {p pos : Pos} {a b : Expr} {fa fb : FO}
def fCallKO (F : Fn) (sw : Bool) (fl : FA) : FE := fun env => (fl env).bd fun hs e => callO F (prm sw hs) e
end
end TL

namespace TL
open PySem PySem.Spec L2
section
variable {prog : Program} {w : World} {A : Around} {E : Value → Shared → Prop} {s : Shared}
end
section
variable {X : Cx} {W : WX} {K : PySem.W.Frag} {fl : FA} {e : Expr} {es : List Expr} {p pos : Pos}
def mx4 (i j k l : Int) : Int := max (max i j) (max k l)
def g4max (ds : List D) : Option D := match ds with
  | [.int i, .int j, .int k, .int l] => some (.int (mx4 i j k l))
  | _ => none
end
section
variable {i j k l : Int}
theorem g4maxu : g4max [.int i, .int j, .int k, .int l] = some (.int (mx4 i j k l)) := rfl
end
end TL

namespace TL
open PySem PySem.Spec PyProof.Rows L2
section
variable {P : Program} {w : World} {A : Around} {E : Value → Shared → Prop} {s : Shared}
end
end TL

namespace TL
open PySem PySem.Spec PyProof.Rows L2
section
variable {P : Program} {w : World} {A : Around} {E : Value → Shared → Prop} {s : Shared}
end
end TL

namespace TL
open PySem PySem.Spec L2
section
variable {X : Cx}
end
section
variable {X : Cx} {W : WX} {e : Expr} {wl : WA} {fa : FO} {p p2 pos pos2 : Pos}
end
section
variable {ns : List Int}
end
end TL

namespace TL
open PySem PySem.Spec PyProof.Rows L2 PySem.Froz
section
variable {P : Program} {w : World} {A : Around} {E : Value → Shared → Prop} {s : Shared}
structure TxS (P : Program) (w : World) (h : Heap) (a : Addr) (l : List Str) : Prop where
  at_ : ∃ D : SD, h.get? a = some (sObj "set" D) ∧ TxOk P w D l ∧ Ris D.2.2.place.toList ∧ (w.params.followText "set-order" = true ∨ D.2.2.led = true)
  nd : l.Nodup
  few : l.length < scanBound
theorem TxS.on {h h' : Heap} {a : Addr} {l : List Str} (F : TxS P w h a l) (k : ∀ o, h.get? a = some o → h'.get? a = some o) : TxS P w h' a l := by
  obtain ⟨⟨D, h1, h2⟩, h3, h4⟩ := F
  exact ⟨⟨D, k _ h1, h2⟩, h3, h4⟩
end
end TL

namespace TL
open PySem PySem.Spec PyProof.Rows L2
end TL
namespace TL
open PySem PySem.Spec L2
section
variable {X : Cx}
end
section
variable {X : Cx} {W : WX} {e : Expr} {wl : WA} {fa : FO} {p p2 pos pos2 : Pos}
end
section
variable {X : Cx} {W : WX} {e : Expr} {wl : WA} {fa : FO} {p p2 pos pos2 : Pos}
end
end TL

namespace TL
open PySem PySem.Spec L2
section
variable {K : PySem.W.Frag} {G : Hp}
end
section
variable {X : Cx} {W : WX} {K : PySem.W.Frag} {e a b : Expr} {f g : FE} {fa : FO} {p pos : Pos}
end
end TL

namespace TL
open PySem PySem.Spec L2
section
variable {X : Cx} {W : WX} {a b : Expr} {f g : FE} {pos : Pos}
end
section
variable {X : Cx} {W : WX} {K : PySem.W.Frag} {e a b : Expr} {f g : FE} {fa : FO} {p pos : Pos}
end
end TL

namespace TL
open PySem PySem.Spec PyProof.Rows
section
variable {prog : Program} {w : World} {A : Around} {E : Value → Shared → Prop} {s : Shared}
def IsTI (h : Heap) (v : Value) (ns : List Int) : Prop := ∃ (a : Addr) (dd : Option Addr) (items : Array Value) (n : Nat) (sl : Array (Option Value)), v = .ref a ∧ h.get? a = some { cls := .type "tuple", dict := dd, data := .seq items n, slots := sl } ∧ IntsAre items.toList ns
theorem IsTI.keeps {h h' : Heap} {v : Value} {ns : List Int} (x : IsTI h v ns) (k : ∀ b o, v = .ref b → h.get? b = some o → h'.get? b = some o) : IsTI h' v ns := by
  obtain ⟨a, dd, items, n, sl, e, g, i⟩ := x
  exact ⟨a, dd, items, n, sl, e, k _ _ e g, i⟩
theorem IsTI.type {M : Model} {h : Heap} {v : Value} {ns : List Int} (x : IsTI h v ns) : PySem.W.Looks M h (typeOf v) (.type "tuple") := by
  obtain ⟨a, dd, items, n, sl, rfl, g, i⟩ := x
  exact (PySem.W.Looks.ld g).andThen .now
end
open L2
section
variable {K : PySem.W.Frag} {x : Fx} {G H : Hp} {σ : L2.St} {env : Ev}
end
section
variable {X : Cx} {W : WX} {p pos : Pos}
end
end TL

namespace TL
open PySem PySem.Spec PyProof.Rows
section
variable {prog : Program} {w : World} {A : Around} {E : Value → Shared → Prop} {s : Shared}
end
end TL
namespace TL
open PySem PySem.Spec L2
section
variable {X : Cx} {W : WX} {p pos : Pos}
end
end TL
namespace TL
open PySem PySem.Spec L2
section
variable {X : Cx} {W : WX} {e a b : Expr} {f g : FE} {fa fb : FO} {apos pos : Pos}
end
end TL

namespace L2
open PySem PySem.Spec PyProof.Rows
abbrev ClM := Value × Option Nat × (Addr → Value → Option Addr → TS)
inductive HdsMix (X : Cx) : List ExceptHandler → List ClM → Prop
  | nil : HdsMix X [] []
  | only {x : Str} {c : Value} {ts : Addr → Value → Option Addr → TS} {b₀ : Stmt} {suite : List Stmt} {np pos' : Pos} {hds : List ExceptHandler} {l : List ClM} (hc : Names X x c)
      (hsu : ∀ (a : Addr) (oe : Obj) (cls : Value) (d : Option Addr) (pn : List (Addr × Obj)), Zc cls d oe → (∃ vs, oe.data = .fields vs) → PSs (X.suite a ((a, oe) :: pn)) (b₀ :: suite) (ts a cls d)) (r : HdsMix X hds l) :
      HdsMix X (.ExceptHandler (some (.Name x np)) none (b₀ :: suite) pos' :: hds) ((c, none, ts) :: l)
  | as_ {x n : Str} {i : Nat} {c : Value} {ts : Addr → Value → Option Addr → TS} {b₀ : Stmt} {suite : List Stmt} {np pos' : Pos} {hds : List ExceptHandler} {l : List ClM} (hi : X.N[i]? = some n) (hln : X.env.kindOf n = some .local) (hc : Names X x c)
      (hsu : ∀ (a : Addr) (oe : Obj) (cls : Value) (d : Option Addr) (pn : List (Addr × Obj)), Zc cls d oe → (∃ vs, oe.data = .fields vs) → PSs (X.suite a ((a, oe) :: pn)) (b₀ :: suite) (ts a cls d)) (r : HdsMix X hds l) :
      HdsMix X (.ExceptHandler (some (.Name x np)) (some n) (b₀ :: suite) pos' :: hds) ((c, some i, ts) :: l)
section
variable {X : Cx} {body : List Stmt} {h₀ : ExceptHandler} {hds : List ExceptHandler} {l : List ClM} {pos : Pos} {tb : WX → TS} {Wout : WX}
end
end L2
namespace TL
open PySem PySem.Spec L2
abbrev ClT := Str × Option Nat × (Addr → Str → Option Addr → WS)
inductive HdsT (X : Cx) (hs : List Str) : List ExceptHandler → List ClT → Prop
  | nil : HdsT X hs [] []
  | only {x h : Str} {ws : WS} {b₀ : Stmt} {suite : List Stmt} {np pos' : Pos} {hds : List ExceptHandler} {l : List ClT} (hh : hs.contains h = true) (hc : Names X x (.ref (He.ga X.K h)))
      (hsu : ∀ (a : Addr) (oe : Obj) (pn : List (Addr × Obj)), (∃ vs, oe.data = .fields vs) → QSs (X.suite a ((a, oe) :: pn)) W0 (b₀ :: suite) ws) (r : HdsT X hs hds l) :
      HdsT X hs (.ExceptHandler (some (.Name x np)) none (b₀ :: suite) pos' :: hds) ((h, none, fun _ _ _ => ws) :: l)
  | as_ {x n h : Str} (i : Nat) {ws : Addr → Str → Option Addr → WS} {b₀ : Stmt} {suite : List Stmt} {np pos' : Pos} {hds : List ExceptHandler} {l : List ClT} (hh : hs.contains h = true) (hi : X.N[i]? = some n) (hln : X.env.kindOf n = some .local) (hc : Names X x (.ref (He.ga X.K h)))
      (hsu : ∀ (a : Addr) (oe : Obj) (c : Str) (d : Option Addr) (pn : List (Addr × Obj)), L2.Zc (.ref (He.ga X.K c)) d oe → (∃ vs, oe.data = .fields vs) → QSs (X.suite a ((a, oe) :: pn)) W0 (b₀ :: suite) (ws a c d)) (r : HdsT X hs hds l) :
      HdsT X hs (.ExceptHandler (some (.Name x np)) (some n) (b₀ :: suite) pos' :: hds) ((h, some i, ws) :: l)
section
variable {X : Cx} {W Wout : WX} {xt : List XI} {hs : List Str} {xf : List (Str × Str)} {wb : WS} {body : List Stmt} {h₀ : ExceptHandler} {hds : List ExceptHandler} {l : List ClT} {pos : Pos}
end
end TL

namespace GB
open PySem PySem.SeqAt GQ
open AutoSeq1 (wpAny_loadPart')
open MeetsSeq MeetsSeq2 MeetsSeq3 SeqRoads2
section
variable {prog : Program} {w : World} {A : Around} {R : Result → Shared → Prop}
end
section
variable {prog : Program} {w : World} {A : Around} {E : Value → Shared → Prop} {s : Shared}
end
end GB
namespace TL
open PySem PySem.Spec L2
section
variable {X : Cx} {W : WX} {a b : Expr} {fa fb : FO} {T : D → D → Option Bool} {n k m : Nat} {tb : List CI} {ks cs ps CL : List Str} {F : Fn} {E : D → D → Option Bool}
end
end TL

namespace GR
open PySem PySem.SeqAt PySem.Spec GQ PySem.SeqRoads2
open PySem.AutoSeq1 (wpAny_loadPart')
open PySem.MeetsSeq PySem.MeetsSeq2 PySem.MeetsSeq3
section
variable {prog : Program} {w : World} {A : Around} {E : Value → Shared → Prop} {s : Shared} {K : PySem.W.Frag} {x C f : Addr} {ox : Obj} {od : Option Obj} {v : Value}
end
section
variable {prog : Program} {w : World} {A : Around} {R : Result → Shared → Prop}
end
section
variable {prog : Program} {w : World} {A : Around} {E : Value → Shared → Prop} {s : Shared}
end
end GR
namespace TL
open PySem PySem.Spec L2
section
variable {X : Cx} {tb : List CI} {ks cs ps : List Str} {F : Fn} {n k : Nat} {T : D → D → Option Bool}
end
section
variable {X : Cx} {W : WX} {a b : Expr} {fa fb : FO} {k : Nat} {tb : List CI} {ks cs ps : List Str} {F : Fn}
end
section
variable {X : Cx} {W : WX} {a b : Expr} {fa fb : FO} {T : D → D → Option Bool} {n k : Nat} {tb : List CI} {ks cs ps : List Str} {F : Fn}
end
end TL

namespace L2
open PySem PySem.Spec PyProof.Rows
section
variable {X : Cx} {o e : Expr} {es : List Expr} {to : TE} {t : TA} {name : Str} {apos cpos : Pos} {id : String} {r : V → List V → Hp → VK → Prop}
end
end L2
namespace TL
open PySem PySem.Spec L2
section
variable {X : Cx} {W : WX} {K : PySem.W.Frag} {e a b : Expr} {f g : FE} {fa : FO} {p pos apos : Pos}
end
end TL

namespace PSo
open PySem PySem.Spec PyProof.Rows
abbrev Ky := Int ⊕ Str
section
variable {α β : Type}
end
def isK : Ky → Value → Prop
  | .inl i, v => ∃ t, v = .int i t
  | .inr z, v => ∃ t, v = .str z t
def FK (h : Heap) (v : Value) (k : Ky) : Prop := ∃ (a : Addr) (o : Obj) (items : Array Value) (n : Nat) (f : Value), v = .ref a ∧ h.get? a = some o ∧ o.cls = .type "tuple" ∧ o.data = .seq items n ∧ items[0]? = some f ∧ isK k f
def kOf : Value → Ky
  | .int i _ => .inl i
  | .str z _ => .inr z
  | _ => .inl 0
theorem kOf_is {k : Ky} {v : Value} (h : isK k v) : kOf v = k := by
  cases k with
  | inl i =>
    obtain ⟨t, rfl⟩ := h
    rfl
  | inr i =>
    obtain ⟨t, rfl⟩ := h
    rfl
def kAt (h : Heap) (v : Value) : Ky := match v with
  | .ref a => (match h.get? a with
    | some o => (match o.data with
      | .seq items _ => kOf (items[0]?.getD .none)
      | _ => .inl 0)
    | none => .inl 0)
  | _ => .inl 0
theorem FK.at {h : Heap} {v : Value} {k : Ky} (x : FK h v k) : kAt h v = k := by
  obtain ⟨a, o, items, n, f, rfl, h1, h2, h3, h4, h5⟩ := x
  unfold kAt
  dsimp only
  rw [h1]
  dsimp only
  rw [h3]
  dsimp only
  rw [h4]
  exact kOf_is h5
theorem FK.keeps {h h' : Heap} {v : Value} {k : Ky} (x : FK h v k) (e : ∀ b o, v = .ref b → h.get? b = some o → h'.get? b = some o) : FK h' v k := by
  obtain ⟨a, o, items, n, f, rfl, h1, h2⟩ := x
  exact ⟨a, o, items, n, f, rfl, e _ _ rfl h1, h2⟩
section
variable {prog : Program} {w : World} {A : Around} {E : Value → Shared → Prop} {s : Shared}
end
end PSo
namespace L2
open PySem PySem.Spec PyProof.Rows PSo
end L2
namespace TL
open PySem PySem.Spec L2 PSo
section
variable {X : Cx} {W : WX} {e : Expr} {wl : WA} {fa : FO} {p pos : Pos}
end
end TL

namespace TL
open PySem PySem.Spec L2
section
variable {X : Cx} {K : PySem.W.Frag}
end
end TL

namespace TL
open PySem PySem.Spec PyProof.Rows L2
section
variable {X : Cx} {W : WX} {a : Expr} {fa : FO} {K : PySem.W.Frag}
end

section
variable {X : Cx}
end
section
variable {X : Cx} {W : WX} {e : Expr} {wl : WA} {fa : FO} {p p2 pos pos2 : Pos}
end
section
variable {X : Cx} {W : WX} {e : Expr} {wl : WA} {fa : FO} {p p2 pos pos2 : Pos}
end
end TL

namespace TL
open PySem PySem.Spec PyProof.Rows L2
section
variable {X : Cx} {W : WX} {e : Expr} {fa : FO} {p pos : Pos}
end
end TL

namespace TL
open PySem PySem.Spec PyProof.Rows L2
section
open PySem.W PySem.Calls
variable {prog : Program} {w : World} {A : Around} {E : Value → Shared → Prop} {s : Shared} {K : Frag} {C x : Addr} {ox : Obj} {name : Str}
theorem getmeth_exc {od : Option Obj} {f : Addr} {pl : Sem Bool} {Q : Value × List Value → Shared → Prop} (X : K.In s.heap) (I : InstAt s.heap x ox C od) (hga : findIn K (.ref C) "__getattribute__" = some (some (.builtin "BaseException.__getattribute__")))
    (hgn : findIn K (.ref C) "__getattr__" = some none) (hf : findIn K (.ref C) name = some (some (.ref f))) (ht : isFn K (.ref f) = true) (hs : shadowIn od name = some false) (h : Q (.ref f, [.ref x]) s) : wpAny (model prog w) A (getMethod (.ref x) name pl) Q E s := by
  have hcan : Manifest.canonical "BaseException.__getattribute__" = "object.__getattribute__" := by first | kernel_rfl | decide +kernel
  unfold getMethod specialOf
  refine wpAny_bind (wpAny_bind (I.type.here ((looks_findIn X hga).here ?_)))
  dsimp only
  rw [hcan, if_neg (by decide)]
  refine wpAny_bind (wpAny_bind (I.type.here ((looks_findIn X hgn).here ?_)))
  refine wpAny_bind (wpAny_bind (I.type.here ((looks_findIn X hf).here (wpAny_bind ((looks_typeIn X (beq_iff_eq.mp ht)).here ?_)))))
  rw [if_neg (by decide +kernel)]
  refine wpAny_bind (wpAny_loadPart I.at_ ?_)
  have hd := I.dict
  cases e : ox.dict with
  | none => exact wpAny_bind (wpAny_rule (wpAny_pure h))
  | some dx =>
    cases od with
    | none => rw [e] at hd; exact hd.elim
    | some o =>
      rw [e] at hd
      obtain ⟨r, a, b⟩ := Option.map_eq_some_iff.mp hs
      refine wpAny_bind (wpAny_bind (wpAny_loadPart hd ?_))
      rw [nsLook_of a]
      refine wpAny_pure ?_
      rw [b]
      exact wpAny_bind (wpAny_rule (wpAny_pure h))
end
section
open PySem.W PySem.Calls
structure RoomZ (k : Nat) (A : Around) : Prop where
  dp : A.depth + 3 * k + 5 < recursionLimit
  un : A.units + 16 * k + 200 < cLine
theorem RoomZ.deeper {k : Nat} {A : Around} (r : RoomZ (k + 1) A) (env : Env) : RoomZ k (A.deeper env) :=
  ⟨by have := r.dp; show A.depth + 1 + 3 * k + 5 < _; omega, by have := r.un; show A.units + 3 + 16 * k + 200 < _; omega⟩
theorem RoomZ.depth {k : Nat} {A : Around} (r : RoomZ k A) : A.depth < recursionLimit := by have := r.dp; omega
structure FnZ (P : Program) (w : World) (K : PySem.W.Frag) (mg : Str → Option Value) (base : Heap) (CX : CXT) (k : Nat) (f : Addr) (fd : FuncData) (ps : List Str) (sp : Sp) : Prop where
  len : ∀ vs H Q E, sp vs H Q E → vs.length = ps.length
  run : ∀ (A : Around) (outer : List Env) (s : Shared) (H : Hp) (args : Args) (us : List Value) (vs : List V) (Q : VK) (E : XK), RoomZ k A → Env0 P w K mg base A outer s H → BindsTo s fd args (ps.zip us) → Vals vs us → sp vs H Q E →
    codeAny (model P w) A (.call (.ref f) args) (CR CX outer P w H s Q E) s
def cxZ (CX : CXT) (P : Program) (w : World) (K : PySem.W.Frag) (mg : Str → Option Value) (base : Heap) (N : List Str) (qual : Str) (scope : Scope) (f : Addr) (cd : Value) (A : Around) (outer : List Env) (s : Shared) (H : Hp) (E : XK) : Cx :=
  { cxOf CX P w K mg base N qual scope f cd A outer s H E with calm := false }
theorem inv_startZ {CX : CXT} {P : Program} {w : World} {K : PySem.W.Frag} {mg : Str → Option Value} {base : Heap} {N ps : List Str} {qual : Str} {scope : Scope} {f : Addr} {cd : Value} {A : Around} {outer : List Env} {s s1 : Shared} {H : Hp} {E : XK} {us : List Value} {vs : List V}
    (S : FnScope N ps scope) (e0 : Env0 P w K mg base A outer s H) (hl : vs.length = ps.length) (r : Vals vs us)
    (x : InCallC s s.heap.objs.size (bindL (envOfC qual scope s.heap.objs.size f cd).kindOf (ps.zip us) fun _ => none) (cellsFrom (s.heap.objs.size + 1) scope.names []) (bindC (envOfC qual scope s.heap.objs.size f cd).kindOf (ps.zip us) fun _ => none) s1) :
    Inv (cxZ CX P w K mg base N qual scope f cd A outer s H E) [] (L2.start N vs) H s1 := by
  have hpl : ps.length ≤ N.length := by have := congrArg List.length S.pre; rw [List.length_take] at this; omega
  obtain ⟨h1, tk, rfl, hk⟩ := x.done
  have noA : ∀ b : Addr, b ∉ (cxZ CX P w K mg base N qual scope f cd A outer s H E).ex := fun b z => absurd (show b ∈ ([] : List Addr) from z) (by simp)
  refine ⟨⟨e0.mod, S.kind, rfl, rfl, Nat.le_refl _, fun y z c h1 h2 => ?_, fun y hy => ?_, fun y c _ h => ?_, (fun z => Bool.noConfusion (show false = true from z)), Around.frames_deeper e0.frames, .inr ⟨rfl, rfl⟩, fun b z => absurd z (noA b), e0.bs, e0.bsz, fun b _ _ => noA b, fun b z => absurd z (noA b), e0.funs, e0.frf⟩,
    rfl, e0.bare, Un.kept hk, ⟨_, x.toInCall.ns, fun i y v h1 h2 h3 => ?_⟩, fun y c h => ⟨_, x.cell y c h⟩, e0.hok.fresh (Nat.le_refl _), fun y c h => ?_, fun q hq => ?_, e0.hok.kept hk, ?_⟩
  · exact name_of_addr x.apart (PySem.mem_of_lookup h1) (PySem.mem_of_lookup h2)
  · have hy : scope.names.lookup y = some .cell ∨ scope.names.lookup y = some .free := hy
    rcases hy with hy | hy
    · exact cell_has hy
    · exact absurd rfl (S.nofree _ (PySem.mem_of_lookup hy))
  · exact Nat.le_of_lt (x.above y c (PySem.mem_of_lookup h))
  · have hi : i < vs.length := by
      unfold L2.start at h2
      by_cases hi : i < vs.length
      · exact hi
      · rw [List.getElem?_append_right (by simpa using hi)] at h2
        rw [List.getElem?_replicate] at h2
        split at h2 <;> cases h2
    have ha : vs[i]? = some v := by
      unfold L2.start at h2
      rw [List.getElem?_append_left (by simpa using hi), List.getElem?_map] at h2
      cases e : vs[i]? with
      | none => rw [e] at h2; cases h2
      | some a => rw [e] at h2; cases h2; rfl
    obtain ⟨u, hu, rv⟩ := r.get ha
    have hp : ps[i]? = some y := by
      rw [← S.pre, List.getElem?_take_of_lt (by omega)]; exact h1
    have ndP : ps.Nodup := by rw [← S.pre]; exact S.nd.sublist (List.take_sublist _ _)
    refine ⟨u, rv, ?_⟩
    rcases S.par y (List.mem_of_getElem? hp) with k | k
    · exact .inl ⟨k, bindL_get ndP hp hu k⟩
    · obtain ⟨c, e⟩ := cell_has (n := s.heap.objs.size + 1) k
      refine .inr ⟨.inl k, c, e, ?_⟩
      have q := x.cell y c e
      rw [bindC_get ndP hp hu (by show scope.names.lookup y ≠ _; rw [k]; decide)] at q
      exact q
  · exact e0.hok.fresh (Nat.le_of_lt (x.above y c (PySem.mem_of_lookup h)))
  · exact absurd (show q ∈ ([] : List (Addr × Obj)) from hq) (by simp)
  · unfold L2.start
    show _ = N.length
    rw [List.length_append, List.length_map, List.length_replicate]
    omega
theorem fn_ofZ {CX : CXT} {P : Program} {w : World} {K : PySem.W.Frag} {mg : Str → Option Value} {base : Heap} {k : Nat} {f : Addr} {name qual : Str} {params : Arguments} {body : List Stmt} {scope : Scope} {dV kV doc pm cdv ct oc : Value} {an od : Option Addr}
    {osl : Array (Option Value)} {N ps : List Str} {sp : Sp} (lk : K.lookup f = some ⟨oc, od, .func (PySem.W.fnOf name qual params body scope dV kV doc pm an cdv ct), osl⟩) (hcd : PySem.W.codeIn K cdv qual = true) (S : FnScope N ps scope)
    (len : ∀ vs H Q E, sp vs H Q E → vs.length = ps.length)
    (hbody : ∀ (A : Around) (outer : List Env) (s : Shared) (H : Hp) (vs : List V) (Q : VK) (E : XK), RoomZ k (A.deeper (envOfC qual scope s.heap.objs.size f cdv)) → sp vs H Q E →
      ∃ t, PSs (cxZ CX P w K mg base N qual scope f cdv A outer s H E) body t ∧ t { nx := fun _ H' => Q .non H', rt := Q } (L2.start N vs) H) :
    FnZ P w K mg base CX (k + 1) f (PySem.W.fnOf name qual params body scope dV kV doc pm an cdv ct) ps sp := by
  refine ⟨len, fun A outer s H args us vs Q E hr e0 hb r hsp => ?_⟩
  have hl := len _ _ _ _ hsp
  have KX : K.In s.heap := e0.mod.kin.keeps fun b o e => (e0.bs b o e).1
  have lim : s.heap.NoLimit := e0.mod.nolimit.keeps fun b o e => (e0.bs b o e).1
  have hkind : ∀ y ∈ ps.zip us, scope.names.lookup y.1 = some .local ∨ (scope.names.lookup y.1 = some .cell ∧ ((cellsFrom (s.heap.objs.size + 1) scope.names []).lookup y.1).isSome = true) := fun ⟨n, v⟩ hy => by
    rcases S.par n (List.of_mem_zip hy).1 with q | q
    · exact .inl q
    · exact .inr ⟨q, PySem.W.cellsFrom_some _ _ _ (.inl q)⟩
  refine codeAny_call_function hr.depth (KX _ _ lk) rfl S.co S.gen rfl (PySem.W.codeRec_of KX hcd) (hb _ _ _ _ ?_)
  refine wpAny_newFunctionEnv_cells S.kind hkind fun env he s1 x => ?_
  subst he
  refine ⟨lim.keeps x.toInCall.keep, codeAny_func ?_⟩
  obtain ⟨t, ht, hq⟩ := hbody A outer s H vs Q E (hr.deeper _) hsp
  have I : Inv (cxZ CX P w K mg base N qual scope f cdv A outer s H E) [] (L2.start N vs) H s1 := inv_startZ S e0 hl r x
  refine wpAny_mono (ht.run [] s1 (L2.start N vs) H _ I hq) (fun fl s' hs => ?_) fun e s' hs => hs
  have fin : ∀ {σ' : L2.St} {H' : Hp} {v : V} {u : Value}, Inv (cxZ CX P w K mg base N qual scope f cdv A outer s H E) [] σ' H' s' → RelV v u → Q v H' → CE outer P w H s Q u s' :=
    fun {σ' H' v u} J rv q => ⟨v, H', J.os, J.bare, J.base, J.hok, rv, q⟩
  cases fl with
  | ret u =>
    obtain ⟨v, σ', H', J, rv, q⟩ := hs
    exact fin J rv q
  | next =>
    obtain ⟨σ', H', J, q⟩ := hs
    exact fin (v := V.non) (u := Value.none) J rfl q
  | brk =>
    obtain ⟨_, _, _, q⟩ := hs
    exact False.elim q
  | cont =>
    obtain ⟨_, _, _, q⟩ := hs
    exact False.elim q
theorem run_fnZ {X : Cx} {CX : CXT} {k : Nat} {f : Addr} {fd : FuncData} {ps : List Str} {sp : Sp} {E : XK} {pins : List (Addr × Obj)} {σ : L2.St} {H : Hp} {s : Shared} {Q : VK} {us : List Value} {vs : List V} (F : FnZ X.prog X.w X.K X.mg X.base CX k f fd ps sp) (hr : RoomZ k X.A) (hb : Binds X.K fd ps []) (hx : PassesAt CX X σ E)
    (I : Inv X pins σ H s) (r : Vals vs us) (h : sp vs H Q E) : wpAny (model X.prog X.w) X.A (call (.ref f) us) (EP X pins σ Q) X.xe s := by
  have hl : us.length = ps.length := by rw [← r.length]; exact F.len _ _ _ _ h
  have b := hb s us I.kIn (by rw [List.append_nil]; exact hl)
  rw [List.append_nil] at b
  refine wpAny_call (codeAny_mono (F.run X.A X.stack s H ⟨us, []⟩ us vs Q E hr I.env0 b r h) fun r s' hq => ?_)
  cases r with
  | error e => exact hx pins H s e s' I hq
  | ok fl =>
    cases fl with
    | ret u => exact I.after hq
    | next => exact False.elim hq
    | brk => exact False.elim hq
    | cont => exact False.elim hq
end
def BodyZ (P : Program) (w : World) (K : PySem.W.Frag) (mg : Str → Option Value) (base : Heap) (k : Nat) (N : List Str) (qual : Str) (scope : Scope) (f : Addr) (body : List Stmt) (wb : WS) : Prop :=
  ∀ (cdv : Value) (A : Around) (outer : List Env) (s : Shared) (H : Hp) (E : XK), RoomZ k (A.deeper (PyProof.Rows.envOfC qual scope s.heap.objs.size f cdv)) → QSs (cxZ (L2.CX P w) P w K mg base N qual scope f cdv A outer s H E) (fun cls d _ H' => E cls d H') body wb
section
variable {P : Program} {w : World} {K : PySem.W.Frag} {mg : Str → Option Value} {base : Heap} {x qual : Str} {params : Arguments} {body : List Stmt} {scope : Scope} {dvs : List V} {kws : List (Str × V)} {f : Addr} {fd : FuncData}
theorem fn_TZ {N ps : List Str} {k : Nat} {T : SpT} {wb : WS} (F : FunD K x qual params body scope dvs kws f fd) (S : FnScope N ps scope) (len : ∀ sl R, T sl R → sl.length = ps.length) (hb : BodyZ P w K mg base k N qual scope f body wb)
    (sem : ∀ sl R, T sl R → wb (envOf N sl) (enOf sl R)) : FnZ P w K mg base (L2.CX P w) (k + 1) f fd ps (spT K T) := by
  have ln : ∀ vs H Q E, spT K T vs H Q E → vs.length = ps.length := fun vs H Q E h => by
    obtain ⟨x, G, sl, R, ar, hT, _⟩ := h
    have := ar.1.len
    rw [List.length_map] at this
    rw [this, len sl R hT]
  obtain ⟨oc, od, dV, kV, doc, pm, an, cdv, ct, osl, rfl, lk, hcd, _, _⟩ := F.ex
  refine fn_ofZ lk hcd S ln fun A outer s H vs Q E hr h => ⟨_, hb cdv A outer s H E hr, ?_⟩
  obtain ⟨x, G, sl, R, ar, hT, h1, h2, h3⟩ := h
  exact ⟨x, G, envOf N sl, enOf sl R, ar.start N, sem sl R hT, ⟨fun env' σ' G' H' s r q => h1 .non _ .non G' H' s (ar.ends s r) rfl q, fun d env' σ' v G' H' s r rp q => h1 d _ v G' H' s (ar.ends s r) rp q,
    fun d env' σ' p o G' H' s r a1 a2 a3 a4 a5 q => h2 d _ p o G' H' s (ar.ends s r) a1 a2 a3 a4 a5 q, fun _ _ _ _ _ _ q => q.elim, fun _ _ _ _ _ _ q => q.elim, fun e env' cls dd σ' G' H' s r xr q => h3 e _ cls dd G' H' s (ar.ends s r) xr q⟩⟩
end
structure MeX (P : Program) (w : World) (K : PySem.W.Frag) (mg : Str → Option Value) (base : Heap) (k : Nat) (c m : Str) (ps : List Str) (T : SpT) : Prop where
  ex : ∃ f fd, FnZ P w K mg base (L2.CX P w) k f fd ps (spT K T) ∧ Meth K (He.ga K c) m f ∧ XfC K (He.ga K c) ∧ Binds K fd ps []
section
variable {X : Cx} {W : WX} {k : Nat} {m n : Str} {ps : List Str} {np pos apos : Pos}
end
end TL
namespace TL
open PySem PySem.Spec L2
theorem roomZ_of {k : Nat} {A : Around} (r : Room k A) : RoomZ k A := ⟨r.dp, r.un⟩
end TL

namespace TL
open PySem PySem.Spec PyProof.Rows L2
section
open PySem.W PySem.Calls
variable {prog : Program} {w : World} {A : Around} {E : Value → Shared → Prop} {s : Shared} {K : Frag} {x D : Addr} {ox : Obj} {od : Option Obj}
theorem fObj_data {C : Addr} {name : Str} {a g : Value} (hc : (clsIn K C).isSome = true) (ha : findIn K (.ref C) name = some (some a)) (hg : specialIn K a "__get__" = some (some g)) (ht : takesIn K a = some true) : findObj K C od name = some (.bind g a) := by
  obtain ⟨cd, e⟩ := Option.isSome_iff_exists.mp hc
  unfold findObj
  rw [e, Option.bind_some, ha, Option.bind_some]
  simp only [hg, ht, Option.bind_some]
  try rfl
theorem class_of_exc {Q : Option Value → Shared → Prop} (C : ExcC K D) (X : K.In s.heap) (I : InstAt s.heap x ox D od) (h : Q (some (.ref D)) { s with toks := s.toks + 1 }) : wpAny (model prog w) A (getAttr? (.ref x) "__class__") Q E s := by
  have hsm : (clsIn K D).isSome = true := by obtain ⟨cd, hc, _⟩ := any_some C.hd; rw [hc]; rfl
  have hf := fObj_data (od := od) hsm C.ha C.hn C.ht
  obtain ⟨hp, g, d, t, os⟩ := s
  have T0 := I.type (M := model prog w)
  have T1 := looks_findIn (M := model prog w) X C.hg
  have T2 := looks_findIn (M := model prog w) X C.hk
  have T3 := looks_find (M := model prog w) X I hf
  have TS : Looks (model prog w) hp (isInstance (.ref x) (.type "BaseException")) true := T0.andThen (looks_subIn X C.hs)
  have b1 : (onTheHeap (Value.ref D) && Value.builtin "BaseException.__getattribute__" == Value.builtin "object.__getattribute__") = false := by
    have z : (Value.builtin "BaseException.__getattribute__" == Value.builtin "object.__getattribute__") = false := by decide +kernel
    rw [z]; rfl
  have b0 : (false && onTheHeap (Value.builtin "BaseException.__getattribute__")) = false := rfl
  unfold getAttr? getAttrBy? getAttrBy
  refine wpAny_bind (wpAny_mkText (wpAny_bind (wpAny_attempt (wpAny_holding (wpAny_bind (T0.at (wpAny_bind (T1.at ?_))))))))
  show wpAny _ _ (if (onTheHeap (Value.ref D) && Value.builtin "BaseException.__getattribute__" == Value.builtin "object.__getattribute__") = true then _ else _) _ _ _
  rw [b1, if_neg Bool.false_ne_true]; unfold getAttrByItsOwn hookBefore
  refine wpAny_bind ?_; rw [if_pos (show onTheHeap (Value.ref D) = true from rfl)]
  refine T2.at (wpAny_bind (wpAny_attempt (wpAny_holding ?_)))
  unfold callGetattribute; rw [b0, if_neg Bool.false_ne_true]
  unfold boundAndCalled; rw [PySem.F.excAttr_ValueError.ga.bind (.ref x)]
  refine wpAny_bind (wpAny_pure ?_)
  show wpAny _ _ (call (.builtin "BaseException.__getattribute__") [.ref x, .str "__class__" t]) _ _ _
  refine wpAny_call (codeAny_call_builtin PySem.F.excAttr_ValueError.ga.plain PySem.F.entry_bexc_ga (@check_slot (model prog w) _ _ ⟨hp, g, d, t + 1, os⟩ "BaseException.__getattribute__" "BaseException" "__getattribute__" (.ref x) [.str "__class__" t] [] _ (by decide +kernel) (by decide +kernel) TS (PySem.F.args_bexc_ga (.ref x) (.str "__class__" t)) ?_))
  unfold Builtin.«object.__getattribute__»
  refine wpAny_bind (wpAny_of_eq (a := ((Value.ref x : Value), [Value.str "__class__" t])) (by first | rfl | (simp only [slotArgs]; rfl)) (wpAny_bind (wpAny_pure (wpAny_bind (T0.at (wpAny_bind (T3.at ?_)))))))
  show wpAny _ _ (holding [Value.builtin "object.__class__"] (call (.builtin "getset_descriptor.__get__") [.builtin "object.__class__", .ref x, .ref D]) >>= ret) _ _ _
  refine wpAny_bind (wpAny_holding (wpAny_call (class_get (s := ⟨hp, g, d, t + 1, os⟩) (ox := ox) (od := od) X I C.hm (wpAny_pure ?_))))
  show wpAny _ _ (handedOut (.ref D)) _ _ _
  rw [handedOut_of (v := .ref D) rfl]
  first | exact wpAny_pure (wpAny_pure h) | exact wpAny_pure h | exact wpAny_pure (wpAny_bind (wpAny_pure (wpAny_pure h)))
theorem kitx_excX (C : ExcC K D) : KitX K (.ref x) (.ref D) (fun h => InstAt h x ox D od) where
  ty := fun _ _ _ I => I.type
  it := fun _ _ X _ => by
    obtain ⟨cd, hc, _⟩ := any_some C.hd; unfold clsIn at hc; split at hc
    · rename_i _ _ _ _ ho
      intro _ _ _ _ kp q; unfold isType loadHead; refine wpAny_bind ?_
      exact wpAny_loadPart (kp _ _ (X _ _ ho)) (wpAny_pure q)
    · cases hc
  ne := (handS_kitx_exc (x := x) (ox := ox) C.hg C.hk C.hs C.hd C.ha C.hn C.ht C.hm).ne
  ca := fun X I k => class_of_exc C X I k
end
def XvD (H : Hp) (dd : Option Addr) (fs : List (Str × V)) : Prop := (dd = none ∧ fs = []) ∨ ∃ p, dd = some p ∧ H p = some (.xd fs)
section
variable {X : Cx} {pins : List (Addr × Obj)} {σ : L2.St} {H : Hp} {s : Shared}
theorem exv_inst (I : Inv X pins σ H s) {a C : Addr} {dd : Option Addr} {fs : List (Str × V)} (ha : H a = some (ExvO (.ref C) a dd)) (hd : XvD H dd fs) :
    ∃ ox od, PySem.W.InstAt s.heap a ox C od ∧ ((od = none ∧ fs = []) ∨ ∃ (o : Obj) (mA : Str → Option Value), od = some o ∧ (∀ n, PySem.W.lookIn n o = some (mA n)) ∧ ∀ f, RelO (fs.lookup f) (mA f)) := by
  have hx : ObjOk X.prog X.w H s.heap a (ExvO (.ref C) a dd) := I.hok a _ ha
  obtain ⟨⟨oe, vs, ho, hz, hdt⟩, _, _⟩ := hx
  rcases hd with ⟨rfl, hf⟩ | ⟨p, rfl, hp⟩
  · exact ⟨oe, none, ⟨ho, hz.1, by unfold PySem.W.notCls; rw [hdt] <;> rfl, by rw [hz.2]; trivial⟩, .inl ⟨rfl, hf⟩⟩
  · have hy : ObjOk X.prog X.w H s.heap p (.xd fs) := I.hok p _ hp
    obtain ⟨mA, hn, hr⟩ := hy
    obtain ⟨od, e1, e2⟩ := lookIn_ns hn
    exact ⟨oe, some od, ⟨ho, hz.1, by unfold PySem.W.notCls; rw [hdt] <;> rfl, by rw [hz.2]; exact e1⟩, .inr ⟨od, mA, rfl, e2, hr⟩⟩
end
theorem excB_ok {K : PySem.W.Frag} {D : Addr} (h : excB K D = true) : ExcC K D := by
  unfold excB at h
  simp only [Bool.and_eq_true, decide_eq_true_eq] at h
  obtain ⟨h1, h2, h3, h4, h5, h6, h7, h8⟩ := h
  exact ⟨h1, h2, h3, h4, h5, h6, h7, h8⟩
structure XIs (K : PySem.W.Frag) (xt : List XI) (cns : List Cn) : Prop where
  e : ∀ k ∈ xt, ExcC K (He.ga K k.name)
  i : ∀ k ∈ xt, ∀ cn ∈ cns, PySem.W.kitOne K (.ref (He.ga K k.name)) (cn.val K) = some (isaX k cn)
theorem xisB_ok {K : PySem.W.Frag} {xt : List XI} {cns : List Cn} (h : xisB K xt cns = true) : XIs K xt cns := by
  unfold xisB at h
  refine ⟨fun k hk => ?_, fun k hk cn hc => ?_⟩
  · have := List.all_eq_true.mp h k hk
    rw [Bool.and_eq_true] at this
    exact excB_ok this.1
  · have := List.all_eq_true.mp h k hk
    rw [Bool.and_eq_true] at this
    exact of_decide_eq_true (List.all_eq_true.mp this.2 cn hc)
theorem XIs.any {K : PySem.W.Frag} {xt : List XI} {ks : List Cn} (T : XIs K xt ks) {k : XI} (hk : k ∈ xt) : ∀ {cs : List Cn}, (∀ c ∈ cs, c ∈ ks) → PySem.W.kitAny K (.ref (He.ga K k.name)) (cs.map (Cn.val K)) = some (cs.any (isaX k))
  | [], _ => rfl
  | c :: cs, hc => by
    rw [List.map_cons, List.any_cons]
    unfold PySem.W.kitAny
    rw [T.i k hk c (hc c List.mem_cons_self)]
    cases isaX k c with
    | true => rfl
    | false => exact T.any hk fun x hx => hc x (List.mem_cons_of_mem _ hx)
def rIsXv (K : PySem.W.Frag) : List V → Hp → VK → Prop := fun xs H Q => ∃ (a C : Addr) (dd : Option Addr) (fs : List (Str × V)) (c : V) (u : Value) (b : Bool), xs = [.ref a, c] ∧ ExcC K C ∧ H a = some (ExvO (.ref C) a dd) ∧ XvD H dd fs ∧ ClsV c u ∧ PySem.W.kitOne K (.ref C) u = some b ∧ Q (.bl b) H
def rIsXt (K : PySem.W.Frag) : List V → Hp → VK → Prop := fun xs H Q => ∃ (a C tp : Addr) (dd : Option Addr) (fs : List (Str × V)) (cs : List V) (us : List Value) (b : Bool), xs = [.ref a, .ref tp] ∧ ExcC K C ∧ H a = some (ExvO (.ref C) a dd) ∧ XvD H dd fs ∧ H tp = some (.tup cs) ∧ Paired ClsV cs us ∧ PySem.W.kitAny K (.ref C) us = some b ∧ Q (.bl b) H
section
variable {X : Cx} {W : WX} {a b c e : Expr} {pos p : Pos} {wa : WO} {K : PySem.W.Frag} {xt : List XI} {ks : List Cn}
theorem call_isXv : CallR X (.builtin "isinstance") (rIsXv X.K) := by
  intro pins s σ H xs us Q I r h
  obtain ⟨a, C, dd, fs, c, u, b, rfl, T, ha, hd, hk, e, q⟩ := h
  obtain ⟨u1, u2, rfl, r1, r2⟩ := vals2 r
  obtain rfl := hk.eq r2
  obtain ⟨ox, od, J, _⟩ := exv_inst I ha hd
  cases (show u1 = Value.ref a from r1)
  exact PySem.W.kia_one (kitx_excX T) I.kIn J e (fun z => nomatch z) fun tk => ⟨.bl b, H, I.tok tk, rfl, q⟩
theorem call_isXt : CallR X (.builtin "isinstance") (rIsXt X.K) := by
  intro pins s σ H xs us Q I r h
  obtain ⟨a, C, tp, dd, fs, cs, ws, b, rfl, T, ha, hd, hT, hk, e, q⟩ := h
  obtain ⟨u1, u2, rfl, r1, r2⟩ := vals2 r
  obtain ⟨ox, od, J, _⟩ := exv_inst I ha hd
  cases (show u1 = Value.ref a from r1)
  cases (show u2 = Value.ref tp from r2)
  have ht : ObjOk X.prog X.w H s.heap tp (.tup cs) := I.hok tp _ hT
  obtain ⟨_, its, rv, o, e1, e2, n, e3⟩ := ht
  obtain rfl := ClsV.all hk rv
  obtain ⟨oc, od', dt, sl⟩ := o
  simp only at e2 e3
  subst e2 e3
  exact PySem.W.kia_tup (kitx_excX T) I.kIn J e1 e (fun z => nomatch z) fun tk => ⟨.bl b, H, I.tok tk, rfl, q⟩
def kIsX (xt : List XI) (cs : List Cn) : D → (D → Prop) → Prop := fun d P => match d with
  | .exv c _ _ => mo (xiOf xt c) fun k => P (.bl (cs.any (isaX k)))
  | _ => False
def gIsX (xt : List XI) (cs : List Cn) : D → Option D := fun d => match d with
  | .exv c _ _ => (xiOf xt c).map fun k => .bl (cs.any (isaX k))
  | _ => none
theorem hk_isX {cs : List Cn} : ∀ d P, mo (gIsX xt cs d) P → kIsX xt cs d P := fun d P h => by
  cases d with
  | exv c ns ds =>
    have h : mo ((xiOf xt c).map fun k => D.bl (cs.any (isaX k))) P := h
    show mo (xiOf xt c) _
    cases z : xiOf xt c with
    | none => rw [z] at h; exact h.elim
    | some k => rw [z] at h; exact h
  | _ => exact h.elim
theorem exv_read {G H : Hp} {c : Str} {ns : List Str} {ds : List D} {v : V} (s : Same G H) (r : RepT K G H (.exv c ns ds) v) : ∃ a dd vs, v = .ref a ∧ H a = some (ExvO (.ref (He.ga K c)) a dd) ∧ XvD H dd (ns.zip vs) ∧ ns.length = vs.length ∧ Reps K G ds vs := by
  have r : Rep K G (.exv c ns ds) v := r
  unfold Rep at r
  obtain ⟨a, dd, vs, e, q, q2, l, rs⟩ := r
  refine ⟨a, dd, vs, e, s _ _ q, ?_, l, rs⟩
  rcases q2 with ⟨z1, z2⟩ | ⟨p, z1, z2⟩
  · exact .inl ⟨z1, by rw [z2]; rfl⟩
  · exact .inr ⟨p, z1, s _ _ z2⟩
theorem qe_isX {cl : Expr} {cn : Cn} (T : XIs X.K xt ks) (hk : cn ∈ ks) (hm : X.mg "isinstance" = none) (ha : QO X W e wa) (hc : PCn X cl cn) (hg : Gl X "isinstance" := by rfl)
    (he : starEach [e, cl] X.env = (false, eval e X.env) :: starEach [cl] X.env := by rfl) (he2 : starEach [cl] X.env = (false, eval cl X.env) :: starEach [] X.env := by rfl) (hpl : (backTo pos (starEach [cl] X.env)).any (·.1) = false := by rfl) :
    QE X W (.Call (.Name "isinstance" p) [e, cl] [] pos) (w1 (kIsX xt [cn]) wa) := (pe_callB call_isXv hg hm (by decide +kernel) (pa_cons ha (pa_cons hc pa_nil he2) he) (he := he) (hpl := hpl)).le fun σ H Q h => by
  obtain ⟨x, G, env, Q', X', r, hw, hn, hx⟩ := h
  refine ⟨x, G, env, _, X', r, hw, fun h e1 v G1 H1 s1 r1 q1 hq => ?_, hx⟩
  obtain ⟨d, z1, hq⟩ := mo_some hq
  have rt := q1.read r1 z1
  cases d with
  | exv c ns ds =>
    obtain ⟨k, z2, hq⟩ := mo_some hq
    obtain ⟨k1, k2⟩ := xiOf_some z2
    obtain ⟨a, dd, vs, rfl, ea, ed, _⟩ := exv_read r1.sG rt
    rw [← k2] at ea
    have ee : [cn].any (isaX k) = isaX k cn := by
      rw [List.any_cons, List.any_nil, Bool.or_false]
    rw [ee] at hq
    exact ⟨a, _, dd, _, cn.v X.K, cn.val X.K, isaX k cn, rfl, T.e k k1, ea, ed, Cn.clsV X.K cn, T.i k k1 cn hk, hn (.im (.bl (isaX k cn))) e1 _ G1 H1 s1 r1 rfl hq⟩
  | _ => exact hq.elim
theorem qe_isXt {cls : List Expr} {cns : List Cn} {k1 : Nat} {tp : Pos} (T : XIs X.K xt ks) (hk : ∀ c ∈ cns, c ∈ ks) (hl : cns.length ≤ 100) (hm : X.mg "isinstance" = none) (ha : QO X W e wa) (hc : PCns X cls cns) (hg : Gl X "isinstance" := by rfl)
    (he : starEach [e, .Tuple cls k1 tp] X.env = (false, eval e X.env) :: starEach [.Tuple cls k1 tp] X.env := by rfl) (he2 : starEach [.Tuple cls k1 tp] X.env = (false, eval (.Tuple cls k1 tp) X.env) :: starEach [] X.env := by rfl) (hpl : (backTo pos (starEach [.Tuple cls k1 tp] X.env)).any (·.1) = false := by rfl) :
    QE X W (.Call (.Name "isinstance" p) [e, .Tuple cls k1 tp] [] pos) (w1 (kIsX xt cns) wa) := (pe_callB call_isXt hg hm (by decide +kernel) (pa_cons ha (pa_cons (pe_tup (pcns_pa hc)) pa_nil he2) he) (he := he) (hpl := hpl)).le fun σ H Q h => by
  obtain ⟨x, G, env, Q', X', r, hw, hn, hx⟩ := h
  refine ⟨x, G, env, _, X', r, hw, fun h e1 v G1 H1 s1 r1 q1 hq => ?_, hx⟩
  obtain ⟨d, z1, hq⟩ := mo_some hq
  refine ⟨by rw [List.length_map]; exact line_le (by omega), fun tq htq => ?_⟩
  have st := Step.junk r1.sG (.tup (cns.map (Cn.v X.K))) htq
  have r2 := r1.step st
  have rt := q1.read r2 z1
  cases d with
  | exv c ns ds =>
    obtain ⟨k, z2, hq⟩ := mo_some hq
    obtain ⟨k1, k2⟩ := xiOf_some z2
    obtain ⟨a, dd, vs, rfl, ea, ed, _⟩ := exv_read r2.sG rt
    rw [← k2] at ea
    exact ⟨a, _, tq, dd, _, cns.map (Cn.v X.K), cns.map (Cn.val X.K), _, rfl, T.e k k1, ea, ed, upd_same, paired_cn cns, T.any k1 hk, hn (.im (.bl (cns.any (isaX k)))) e1 _ G1 _ s1 r2 rfl hq⟩
  | _ => exact hq.elim
theorem pe_xvf {te : TE} {n : Str} (he : PE X e te) (hb : attributeBase e n X.env (eval e X.env) = eval e X.env := by rfl) : PE X (.Attribute e n pos) (fun σ H Q => te σ H fun x H1 => ∃ (a C : Addr) (dd : Option Addr) (fs : List (Str × V)) (v : V), x = .ref a ∧ XfC X.K C ∧ PySem.W.findIn X.K (.ref C) n = some none ∧ H1 a = some (ExvO (.ref C) a dd) ∧ XvD H1 dd fs ∧ fs.lookup n = some v ∧ Q v H1) := by
  refine ⟨fun pins s σ H Q I h => attr_of hb (thn (he.run pins s σ H _ I h) fun u s1 hh => ?_)⟩
  obtain ⟨x, H1, I1, rx, a, C, dd, fs, v, ex, T, hno, ha, hd, l, q⟩ := hh
  subst ex
  obtain rfl : u = Value.ref a := rx
  obtain ⟨ox, od, J, z⟩ := exv_inst I1 ha hd
  rcases z with ⟨_, rfl⟩ | ⟨o, mA, rfl, hl, hr⟩
  · cases l
  · obtain ⟨u, hu, ru⟩ := RelO.some_of (v := v) (o := mA n) (by rw [← l]; exact hr n)
    exact HandSPX.exc_get I1.kIn J T.ga T.gg T.exC (PySem.W.findObj_own T.hdC hno rfl (by rw [hl, hu])) (handed_of ru) ⟨v, H1, I1.tok _, ru, q⟩
def kFldX (xf : List (Str × Str)) (f : Str) : D → (D → Prop) → Prop := fun d P => match d with
  | .exv c ns ds => xf.contains (c, f) = true ∧ mo ((ns.zip ds).lookup f) P
  | _ => False
def gFldX (xf : List (Str × Str)) (f : Str) : D → Option D := fun d => match d with
  | .exv c ns ds => if xf.contains (c, f) = true then (ns.zip ds).lookup f else none
  | _ => none
theorem hk_fldX {xf : List (Str × Str)} {f : Str} : ∀ d P, mo (gFldX xf f d) P → kFldX xf f d P := fun d P h => by
  cases d with
  | exv c ns ds =>
    have h : mo (if xf.contains (c, f) = true then (ns.zip ds).lookup f else none) P := h
    exact mo_if h
  | _ => exact h.elim
theorem qe_fldX {hs : List Str} {xf : List (Str × Str)} {f : Str} (M : XM X.K xt hs xf) (ha : QO X W e wa) (hb : attributeBase e f X.env (eval e X.env) = eval e X.env := by rfl) : QE X W (.Attribute e f pos) (w1 (kFldX xf f) wa) := (pe_xvf ha hb).le fun σ H Q h => by
  obtain ⟨x, G, env, Q', X', r, hw, hn, hx⟩ := h
  refine ⟨x, G, env, _, X', r, hw, fun h e1 v G1 H1 s1 r1 q1 hq => ?_, hx⟩
  obtain ⟨d, z1, hq⟩ := mo_some hq
  have rt := q1.read r1 z1
  cases d with
  | exv c ns ds =>
    obtain ⟨hc, hq⟩ := hq
    obtain ⟨y, z2, hq⟩ := mo_some hq
    obtain ⟨T1, T2⟩ := M.f (c, f) (by simpa using hc)
    obtain ⟨a, dd, vs, rfl, ea, ed, l, rs⟩ := exv_read r1.sG rt
    obtain ⟨u, u1, u2⟩ := zip_look rs z2
    exact ⟨a, _, dd, _, u, rfl, T1, T2, ea, ed, u1, hn (.im y) e1 _ G1 H1 s1 r1 u2 hq⟩
  | _ => exact hq.elim
end
def wMethX (m : Str) (Ts : List (Str × SpT)) (we : WE) : WE := fun env Q Xp => we env (fun d e => match d with
  | .exv c ns ds => ns.contains m = false ∧ mo (Ts.lookup c) fun T => ndup (ows [Hd.im (.exv c ns ds)]) = true ∧ mo (slsOf e [Hd.im (.exv c ns ds)]) fun sl =>
      T sl ⟨fun d sl' => Q d (backE e [Hd.im (.exv c ns ds)] sl'), fun _ _ => False, fun y sl' => Xp y (backE e [Hd.im (.exv c ns ds)] sl')⟩
  | _ => False) Xp
def fMethX (m : Str) (Fs : List (Str × Fn)) (fe : FE) : FE := fun env => (fe env).bd fun d e => match d with
  | .exv c ns ds => if ns.contains m = false then (match Fs.lookup c with
      | some F => callF F [.im (.exv c ns ds)] e
      | none => .bad) else .bad
  | _ => .bad
theorem leMethX {m : Str} {Fs : List (Str × Fn)} {fe : FE} : ∀ env Q Xp, wp (fMethX m Fs fe) env Q Xp → wMethX m (TFs Fs) (wp fe) env Q Xp := fun env Q Xp h => by
  unfold fMethX at h
  rw [wp_bd] at h
  refine wp_mono (f := fe) h fun d e h => ?_
  cases d with
  | exv c ns ds =>
    obtain ⟨q, h⟩ := on_if_re h
    refine ⟨q, ?_⟩
    show mo ((TFs Fs).lookup c) _
    rw [look_TFs]
    cases y : Fs.lookup c with
    | none =>
      rw [y] at h
      exact h.elim
    | some F =>
      rw [y] at h
      exact callF_ok h
  | _ => exact h.elim
section
variable {X : Cx} {W : WX} {k : Nat} {m : Str} {ps : List Str} {pos apos : Pos} {o : Expr} {we : WE}
theorem qe_methX {pl : Sem Bool} {Ts : List (Str × SpT)} (F : ∀ q ∈ Ts, MeX X.prog X.w X.K X.mg X.base k q.1 m ps q.2) (hr : RoomZ k X.A) (tk : Takes X W) (he : QE X W o we)
    (ht : eval (.Call (.Attribute o m apos) [] [] pos) X.env = (do
      let ov ← eval o X.env
      standAt apos.atName
      let (f, first) ← holding [ov] (getMethod ov m pl)
      callWith pos f first (backTo pos (starEach [] X.env)) (backToKw pos (keywordEach [] X.env))) := by rfl) :
    QE X W (.Call (.Attribute o m apos) [] [] pos) (wMethX m Ts we) := by
  refine PE.le (t := fun σ H Q => lO X.K W (imO we) σ H fun x H1 => ∃ q : { q : Str × SpT // q ∈ Ts }, ∃ a dd fs, x = .ref a ∧ H1 a = some (ExvO (.ref (He.ga X.K q.1.1)) a dd) ∧ XvD H1 dd fs ∧ fs.lookup m = none ∧ spT X.K q.1.2 [x] H1 Q (fun cls d H' => W cls d σ H')) ?_ fun σ H Q h => ?_
  · refine ⟨fun pins s σ H Q I h => PySem.W.methodCall_KW (pl := pl) (thn (he.run pins s σ H _ I h) fun u s1 ⟨x, H1, I1, rx, q, a, dd, fs, ex, ea, ed, l, hq⟩ => ?_) ht⟩
    obtain ⟨f, fd, G, hm, hxc, hb⟩ := (F q.1 q.2).ex
    subst ex
    obtain rfl : u = Value.ref a := rx
    obtain ⟨ox, od, J, z⟩ := exv_inst I1 ea ed
    have hs : PySem.W.shadowIn od m = some false := by
      rcases z with ⟨rfl, _⟩ | ⟨o', mA, rfl, hl, hr⟩
      · rfl
      · have hnone : mA m = none := RelO.none_of (by rw [← l]; exact hr m)
        show (PySem.W.lookIn m o').map _ = _
        rw [hl, hnone]
        rfl
    exact getmeth_exc I1.kIn J hxc.ga hxc.gg hm.at_ hm.fn hs (PySem.W.callWith_K0 (first := [.ref a]) I1.kIn hm.kp (run_fnZ (E := L2.WE W σ) (us := [.ref a]) (vs := [.ref a]) G hr hb (passAt tk σ) I1 (.cons rfl .nil) hq))
  · obtain ⟨x, G, env, Q', X', r, hw, hn, hx⟩ := h
    refine ⟨x, G, env, _, X', r, imO_mono hw, fun h e1 v G1 H1 s1 r1 q1 hq => ?_, hx⟩
    obtain ⟨d, rfl, hq⟩ := hq
    cases d with
    | exv c ns ds =>
      obtain ⟨hns, hq⟩ := hq
      obtain ⟨T, zT, nd, hq⟩ := mo_some hq
      obtain ⟨sl, zsl, hT⟩ := mo_some hq
      have q1' : Rep X.K G1 (.exv c ns ds) v := q1
      obtain ⟨a, dd, vs, rfl, ea, ed, l, rs⟩ := exv_read r1.sG (K := X.K) (show RepT X.K G1 H1 (.exv c ns ds) v from q1')
      refine ⟨⟨(c, T), lookup_memT zT⟩, a, dd, _, rfl, ea, ed, zip_nolook hns, ?_⟩
      obtain ⟨x', ar, bk, own⟩ := call_frame (hs := [Hd.im (.exv c ns ds)]) (vs := [.ref a]) r1 ⟨_, _, rfl, q1', rfl⟩ zsl nd
      exact ⟨x', G1, sl, _, ar, hT, fun d sl' v G' H' s r' rp hq => hn (.im d) _ v G' H' (s1.trans s) (bk G' H' sl' s r') rp hq, fun _ _ _ _ _ _ _ _ _ _ _ _ _ z => z.elim,
        fun e sl' cls dd G' H' s r' xr hq => hx e _ cls dd G' H' (s1.trans s) (bk G' H' sl' s r') xr hq⟩
    | _ => exact hq.elim
end
def wExv (cn f : Str) (we : WE) : WE := fun env Q Xp => we env (fun d e => Q (.exv cn [f] [d]) e) Xp
def fExv (cn f : Str) (fe : FE) : FE := fun env => (fe env).bd fun d e => .ok (.exv cn [f] [d]) e
theorem leExv {cn f : Str} {fe : FE} : ∀ env Q Xp, wp (fExv cn f fe) env Q Xp → wExv cn f (wp fe) env Q Xp := fun env Q Xp h => by
  unfold fExv at h
  rw [wp_bd] at h
  exact wp_mono (f := fe) h fun d e h => h
def wExv0 (cn : Str) : WE := fun env Q _ => Q (.exv cn [] []) env
def fExv0 (cn : Str) : FE := fun env => .ok (.exv cn [] []) env
theorem leExv0 {cn : Str} : ∀ env Q Xp, wp (fExv0 cn) env Q Xp → wExv0 cn env Q Xp := fun env Q Xp h => h
section
variable {X : Cx} {W : WX} {cn f : Str} {e : Expr} {we : WE}
def tMkv (C : Addr) (f : Str) (ta : TE) : TE := fun σ H Q => L2.tCons ta L2.tNil σ H fun vs H1 => ∃ v, vs = [v] ∧ ∀ a d, H1 a = none → H1 d = none → d ≠ a → Q (.ref a) (upd (upd H1 d (.xd [(f, v)])) a (ExvO (.ref C) a (some d)))
theorem qe_mkv {p pos : Pos} (M : ∀ {ta : TE}, PE X e ta → PE X (.Call (.Name cn p) [e] [] pos) (tMkv (He.ga X.K cn) f ta)) (ha : QE X W e we) : QE X W (.Call (.Name cn p) [e] [] pos) (wExv cn f we) := (M ha).le fun σ H Q h => by
  obtain ⟨x, G, env, Q', X', r, hw, hn, hx⟩ := h
  refine ⟨x, G, env, _, X', r, imO_mono hw, fun h e1 v G1 H1 s1 r1 q1 hq => ⟨v, rfl, fun a d na nd hne => ?_⟩, hx⟩
  obtain ⟨y, rfl, hq⟩ := hq
  have t1 := Step.one r1.sG (.xd [(f, v)]) nd
  have na' : upd H1 d (.xd [(f, v)]) a = none := by rw [upd_ne (Ne.symm hne)]; exact na
  have t2 := Step.one t1.gh (ExvO (.ref (He.ga X.K cn)) a (some d)) na'
  have rp : Rep X.K (upd (upd G1 d (.xd [(f, v)])) a (ExvO (.ref (He.ga X.K cn)) a (some d))) (.exv cn [f] [y]) (.ref a) := by
    unfold Rep
    refine ⟨a, some d, [v], rfl, upd_same, .inr ⟨d, rfl, ?_⟩, rfl, Reps.cons (Rep.mono (t1.g.trans t2.g) _ _ q1) Reps.nil⟩
    rw [upd_ne hne, upd_same]
    rfl
  exact hn (.im (.exv cn [f] [y])) e1 _ _ _ ((s1.trans t1.g).trans t2.g) ((r1.step t1).step t2) rp hq
theorem pe_mkv0 {C : Addr} {bmB : List Value} {B newId initId : String} {x : Str} {p pos : Pos} (F : ExcBaseFacts B newId initId bmB) (q : PySem.W.excIn X.K C bmB newId = true) (gC : X.mg x = some (.ref C)) (kC : PySem.W.keepIn X.K (.ref C) = true) (hg : Gl X x) (hdb : (x == ("__debug__" : Str)) = false := by decide) :
    PE X (.Call (.Name x p) [] [] pos) (fun _ H Q => ∀ a, H a = none → Q (.ref a) (upd H a (ExvO (.ref C) a none))) := by
  refine ⟨fun pins s σ H Q I h => wpAny_Call_Name_kw (ld_glob I hg gC (PySem.W.callWith_K0 (first := []) I.kIn kC ?_) hdb)⟩
  obtain ⟨bm, N, nm, qn, bs, hdct, sn, sub, ab, col, dd, k0, k1, k2, k3, k5, mN, hC, hN, hni, T⟩ := exc_obj I.kIn q
  refine wpAny_call_exc_subT F T hC hN hni (fun h' a hm => ?_) (Nat.zero_le _)
  have hn : H a = none := I.hok.gone hm.new
  obtain ⟨t, ht, _, _⟩ := hm.there
  exact ⟨.ref a, _, I.laidN hm.keeps hm.new hn (o := ExvO (.ref C) a none) ⟨⟨_, _, ht, ⟨rfl, rfl⟩, rfl⟩, ⟨_, ht⟩, fun _ _ ⟨o, v, q, r⟩ k => ⟨o, v, k o q, r⟩⟩, rfl, h a hn⟩
theorem qe_mkv0 {p pos : Pos} (T : X0Txt X.K X.mg cn (He.ga X.K cn)) (hg : Gl X cn := by rfl) (hdb : (cn == ("__debug__" : Str)) = false := by decide) : QE X W (.Call (.Name cn p) [] [] pos) (wExv0 cn) := (pe_mkv0 PySem.F.excBase_ValueError T.q T.gC T.kC hg hdb).le fun σ H Q h => by
  obtain ⟨x, G, env, Q', X', r, hw, hn, hx⟩ := h
  intro a na
  have t1 := Step.one r.sG (ExvO (.ref (He.ga X.K cn)) a none) na
  refine hn (.im (.exv cn [] [])) env _ _ _ t1.g (r.step t1) ?_ hw
  show Rep X.K _ (.exv cn [] []) (.ref a)
  unfold Rep
  exact ⟨a, none, [], rfl, upd_same, .inl ⟨rfl, rfl⟩, rfl, Reps.nil⟩
theorem lay2 {pins : List (Addr × Obj)} {σ : L2.St} {H : Hp} {s : Shared} {h' : Heap} {t' : Nat} {d a : Addr} {o1 o2 : HO} (I : Inv X pins σ H s) (k : ∀ b u, s.heap.get? b = some u → h'.get? b = some u) (hd : s.heap.objs.size ≤ d) (ha : s.heap.objs.size ≤ a)
    (b1 : ObjOk X.prog X.w (upd (upd H d o1) a o2) h' d o1) (b2 : ObjOk X.prog X.w (upd (upd H d o1) a o2) h' a o2) (hne : d ≠ a) : Inv X pins σ (upd (upd H d o1) a o2) { s with heap := h', toks := t' } := by
  have nd : H d = none := I.hok.fresh hd
  have na : H a = none := I.hok.fresh ha
  have sm : ∀ b o, H b = some o → upd (upd H d o1) a o2 b = some o := fun b o e => by
    rw [upd_ne (ne_of_none e na), upd_ne (ne_of_none e nd)]
    exact e
  refine I.un { keep := fun b u q _ _ _ => k b u q, slot := fun b u q _ _ _ => ⟨u.slots, k b u q⟩, free := fun b u q n _ => ?_, there := fun b u q _ => ⟨u, k b u q⟩, tups := fun b xs q => sm b _ q, frzs := fun b u xs q => sm b _ q, tbls := fun b ps q => ⟨#[], by rw [sm b _ q]; simp⟩ } fun b u e => ?_
  · have hb := Heap.lt_size q
    rw [upd_ne (Nat.ne_of_lt (Nat.lt_of_lt_of_le hb ha)), upd_ne (Nat.ne_of_lt (Nat.lt_of_lt_of_le hb hd))]
    exact n
  · by_cases za : b = a
    · subst za
      rw [upd_same] at e
      cases e
      exact b2
    · rw [upd_ne za] at e
      by_cases zd : b = d
      · subst zd
        rw [upd_same] at e
        cases e
        exact b1
      · rw [upd_ne zd] at e
        exact (I.hok b u e).stay (fun c v _ q => k c v q) (fun c q => sm c _ q) fun c xs q => sm c _ q
end
end TL

namespace TL
open PySem PySem.Spec L2
section
variable {α β : Type} {a : α} {e : Ev} {x : Xn} {k : α → Ev → Re β} {ks : α → Ev → Sr} {kf : FS} {d d' : D} {i j : Nat}
theorem bd_ok : (Re.ok a e).bd k = k a e := rfl
theorem bd_xc : (Re.xc x e : Re α).bd k = .xc x e := rfl
theorem bd_bad : (Re.bad : Re α).bd k = .bad := rfl
theorem st_ok : (Re.ok a e).st ks = ks a e := rfl
theorem st_xc : (Re.xc x e : Re α).st ks = .xc x e := rfl
theorem st_bad : (Re.bad : Re α).st ks = .bad := rfl
theorem sq_nx : (Sr.nx e).sq kf = kf e := rfl
theorem sq_rt : (Sr.rt d e).sq kf = .rt d e := rfl
theorem sq_ro : (Sr.ro d e).sq kf = .ro d e := rfl
theorem sq_bk : (Sr.bk e).sq kf = .bk e := rfl
theorem sq_ct : (Sr.ct e).sq kf = .ct e := rfl
theorem sq_xc : (Sr.xc x e).sq kf = .xc x e := rfl
theorem sq_bad : Sr.bad.sq kf = .bad := rfl
theorem ol_some : ol (some a) e = .ok a e := rfl
theorem ol_none : ol (none : Option α) e = .bad := rfl
theorem ofG_some : ofG (some e) = .nx e := rfl
theorem ofG_none : ofG none = .bad := rfl
theorem hv_im : hv e (.im d) = some d := rfl
theorem hv_ow0 {b : Bool} {s : Ev} : hv (.ow b d :: s) (.ow 0) = some d := rfl
theorem hv_ow1 {t : Sl} {s : Ev} : hv (t :: s) (.ow (i + 1)) = hv s (.ow i) := rfl
theorem imAt0 {s : Ev} : imAt (.im d :: s) 0 = some d := rfl
theorem imAt1 {t : Sl} {s : Ev} : imAt (t :: s) (i + 1) = imAt s i := rfl
theorem owAt0 {b : Bool} {s : Ev} : owAt (.ow b d :: s) 0 = some d := rfl
theorem owAt1 {t : Sl} {s : Ev} : owAt (t :: s) (i + 1) = owAt s i := rfl
theorem lowAt0 {s : Ev} : lowAt (.ow false d :: s) 0 = some d := rfl
theorem lowAt1 {t : Sl} {s : Ev} : lowAt (t :: s) (i + 1) = lowAt s i := rfl
theorem nr0i {s : Ev} : nr (.im d :: s) 0 = true := rfl
theorem nr0n {s : Ev} : nr (.no :: s) 0 = true := rfl
theorem nr0o {s : Ev} : nr (.ow false d :: s) 0 = true := rfl
theorem nr1 {t : Sl} {s : Ev} : nr (t :: s) (i + 1) = nr s i := rfl
theorem putOw0 {b : Bool} {s : Ev} : putOw (.ow b d :: s) 0 d' = .ow b d' :: s := rfl
theorem putOw1 {t : Sl} {s : Ev} : putOw (t :: s) (i + 1) d = t :: putOw s i d := by
  unfold putOw
  rw [List.getElem?_cons_succ]
  cases s[i]? with
  | none => rfl
  | some u => cases u <;> rfl
theorem noE_nil : noE e [] = e := rfl
theorem noE_cons {is : List Nat} : noE e (i :: is) = (noE e is).set i .no := rfl
theorem nrs_nil : nrs e [] = true := rfl
theorem nrs_cons {is : List Nat} : nrs e (i :: is) = (nr e i && nrs e is) := rfl
theorem setE_nil {ds : List D} : setE e [] ds = e := by unfold setE; rfl
theorem setE_cons {is : List Nat} {ds : List D} : setE e (i :: is) (d :: ds) = setE (e.set i (.im d)) is ds := rfl
theorem tOne_f {n : Nat} : tOne false n d = some [d] := by cases d <;> rfl
theorem tOne_t {n : Nat} {ds : List D} : tOne true n (.tup ds) = some ds := rfl
theorem tOne_l {n : Nat} {ds : List D} : tOne true n (.lst ds) = some ds := rfl
theorem fgu_nx {is : List Nat} : (Sr.nx e).fg is = if nrs e is = true then .nx (noE e is) else .bad := rfl
theorem fgu_rt {is : List Nat} : (Sr.rt d e).fg is = if nrs e is = true then .rt d (noE e is) else .bad := rfl
theorem fgu_xc {is : List Nat} : (Sr.xc x e).fg is = if nrs e is = true then .xc x (noE e is) else .bad := rfl
theorem fgu_ct {is : List Nat} : (Sr.ct e).fg is = if nrs e is = true then .ct (noE e is) else .bad := rfl
theorem fgu_bk {is : List Nat} : (Sr.bk e).fg is = if nrs e is = true then .bk (noE e is) else .bad := rfl
theorem fgu_bad {is : List Nat} : Sr.bad.fg is = .bad := rfl
theorem gModu {m n : Int} : gMod (.int m) (.int n) = if 0 < n then some (.int (m % n)) else none := by
  unfold gMod gI
  dsimp only
  by_cases h : 0 < n
  · rw [if_pos h, if_pos (decide_eq_true h)]
  · rw [if_neg h, if_neg (by simpa using h)]
theorem gMulu {m n : Int} : gMul (.int m) (.int n) = if mulC m n = true then some (.int (m * n)) else none := rfl
theorem gDivu {m n : Int} : gDiv (.int m) (.int n) = if divC m n = true then some (.int (m / n)) else none := rfl
theorem gPowu {m n : Int} : gPow (.int m) (.int n) = if powC m n = true then some (.int (m ^ n.toNat)) else none := rfl
theorem gShlu {m n : Int} : gShl (.int m) (.int n) = if powC m n = true then some (.int (m * 2 ^ n.toNat)) else none := rfl
theorem lcEndu {ds : List D} : lcEnd (.ok ds e) = if ds.length ≤ 1000000 then .ok (.lst ds) e else .bad := rfl
theorem fr_nx {sl : List Sl} : (Sr.nx e).fr sl = .rt .non (outs sl e) := rfl
theorem fr_rt {sl : List Sl} : (Sr.rt d e).fr sl = .rt d (outs sl e) := rfl
theorem fr_ro {sl : List Sl} : (Sr.ro d e).fr sl = .ro d (outs sl e) := rfl
theorem fr_xc {sl : List Sl} : (Sr.xc x e).fr sl = .xc x (outs sl e) := rfl
theorem outs_n {e : Ev} : outs [] e = [] := outs_nil e
theorem outs_o {b : Bool} {sl : List Sl} {t : Sl} : outs (.ow b d :: sl) (t :: e) = t :: outs sl e := rfl
theorem outs_i {sl : List Sl} {t : Sl} : outs (.im d :: sl) (t :: e) = .im d :: outs sl e := rfl
theorem gAdd_i {m n : Int} : gAdd (.int m) (.int n) = some (.int (m + n)) := rfl
theorem gSub_i {m n : Int} : TL.gSub (.int m) (.int n) = some (.int (m - n)) := rfl
theorem gLt_i {m n : Int} : gLt (.int m) (.int n) = some (.bl (decide (m < n))) := rfl
theorem gLe_i {m n : Int} : gLe (.int m) (.int n) = some (.bl (decide (m ≤ n))) := rfl
theorem gGt_i {m n : Int} : gGt (.int m) (.int n) = some (.bl (decide (n < m))) := rfl
theorem gGe_i {m n : Int} : gGe (.int m) (.int n) = some (.bl (decide (n ≤ m))) := rfl
theorem gNeg_i {m : Int} : gNeg (.int m) = some (.int (-m)) := rfl
theorem gAbs_i {m : Int} : gAbs (.int m) = some (.int (if m < 0 then -m else m)) := rfl
theorem gInt_i {m : Int} : gInt (.int m) = some (.int m) := rfl
theorem gInt_b {b : Bool} : gInt (.bl b) = some (.int (if b = true then 1 else 0)) := rfl
theorem blOf_bl {b : Bool} : blOf (.bl b) = some b := rfl
theorem seqOf_l {xs : List D} : seqOf (.lst xs) = some xs := rfl
theorem seqOf_t {xs : List D} : seqOf (.tup xs) = some xs := rfl
theorem gLen_l {xs : List D} : gLen (.lst xs) = some (.int xs.length) := rfl
theorem gLen_t {xs : List D} : gLen (.tup xs) = some (.int xs.length) := rfl
theorem gListOf_l {xs : List D} : gListOf (.lst xs) = some (.lst xs) := rfl
theorem gListOf_t {xs : List D} : gListOf (.tup xs) = some (.lst xs) := rfl
theorem gTupOf_l {xs : List D} : gTupOf (.lst xs) = some (.tup xs) := rfl
theorem gTupOf_t {xs : List D} : gTupOf (.tup xs) = some (.tup xs) := rfl
theorem gIx_l {xs : List D} {n : Int} : gIx (.lst xs) (.int n) = atI xs n := rfl
theorem gIx_t {xs : List D} {n : Int} : gIx (.tup xs) (.int n) = atI xs n := rfl
theorem g1_1 {g : D → Option D} : g1' g [d] = g d := rfl
theorem g2_2 {g : Int → Int → D} {m n : Int} : g2' g [.int m, .int n] = some (g m n) := rfl
theorem ims_n : ims [] = some [] := rfl
theorem ims_c {t : List Hd} : ims (.im d :: t) = (ims t).map (d :: ·) := by
  show (match ims t with | some ds => some (d :: ds) | none => none) = _
  cases ims t <;> rfl
theorem hvs_n : hvs e [] = some [] := rfl
theorem hvs_c {t : List Hd} {h : Hd} : hvs e (h :: t) = (hv e h).bind fun d => (hvs e t).map (d :: ·) := by
  show (match hv e h with | some d => (match hvs e t with | some ds => some (d :: ds) | none => none) | none => none) = _
  cases hv e h with
  | none => rfl
  | some d => cases hvs e t <;> rfl
theorem slsOf_n : slsOf e [] = some [] := rfl
theorem slsOf_ci {t : List Hd} : slsOf e (.im d :: t) = (slsOf e t).map (fun r => Sl.im d :: r) := by
  show (match slsOf e t with | some ds => some (Sl.im d :: ds) | none => none) = _
  cases slsOf e t <;> rfl
theorem slsOf_co {t : List Hd} : slsOf e (.ow i :: t) = (owAt e i).bind fun d => (slsOf e t).map (fun r => Sl.ow true d :: r) := by
  show (match slOf e (.ow i) with | some s => (match slsOf e t with | some ds => some (s :: ds) | none => none) | none => none) = _
  unfold slOf
  dsimp only
  cases owAt e i with
  | none => rfl
  | some d => cases slsOf e t <;> rfl
theorem ows_n : ows [] = [] := rfl
theorem ows_i {t : List Hd} : ows (.im d :: t) = ows t := rfl
theorem ows_o {t : List Hd} : ows (.ow i :: t) = i :: ows t := rfl
theorem ndup_n : ndup [] = true := rfl
theorem ndup_1 : ndup [i] = true := rfl
theorem backE_n {sl : List Sl} : backE e [] sl = e := by cases sl <;> rfl
theorem backE_i {hs : List Hd} {s : Sl} {sl : List Sl} : backE e (.im d :: hs) (s :: sl) = backE e hs sl := rfl
theorem backE_o {hs : List Hd} {b : Bool} {sl : List Sl} : backE e (.ow i :: hs) (.ow b d :: sl) = backE (putOw e i d) hs sl := rfl
theorem tCons_eq {g : FG} {u : FGs} {ds : List D} : TL.tCons g u (d :: ds) e = (g d e).bind (u ds) := rfl
theorem gAdd_lu {xs ys : List D} : gAdd (.lst xs) (.lst ys) = if xs.length + ys.length ≤ 1000000 then some (.lst (xs ++ ys)) else none := rfl
theorem gAdd_tu {xs ys : List D} : gAdd (.tup xs) (.tup ys) = if xs.length + ys.length ≤ 1000000 then some (.tup (xs ++ ys)) else none := rfl
theorem gAdd_su {xs ys : Str} : gAdd (.str xs) (.str ys) = if xs.length + ys.length ≤ 1000000 then some (.str (xs ++ ys)) else none := rfl
theorem gCat_lu {xs ys : List D} : gCat (.lst xs) (.lst ys) = if xs.length + ys.length ≤ 1000000 then some (.lst (xs ++ ys)) else none := rfl
theorem tTu {u : FGs} {n : Nat} {ds : List D} : tT u n (.tup ds) e = if ds.length = n then u ds e else none := rfl
theorem rg1u {n : Int} : rg1 (.int n) = if bnd n = true then some (rgD 0 n.toNat) else none := rfl
theorem rg2u {m n : Int} : rg2 (.int m) (.int n) = if bnd m = true ∧ bnd n = true then some (rgD m (n - m).toNat) else none := rfl
theorem gLRu {n : Int} : gLR (.int n) = if 0 ≤ n ∧ n ≤ 1000000 then some (.lst (rgD 0 n.toNat)) else none := rfl
theorem gRepu {n : Int} {ds : List D} : gRep (.lst ds) (.int n) = if -1000000 ≤ n ∧ n ≤ 1000000 ∧ ds.length * n.toNat ≤ 1000000 then some (.lst (List.replicate n.toNat ds).flatten) else none := rfl
theorem mmAppendu {ds : List D} : mmAppend ds [d] = if ds.length < 1000000 then some (.non, ds ++ [d]) else none := rfl
theorem setM_nil {ms : List Mv} : setM e [] ms = e := by cases ms <;> rfl
theorem setM_im {is : List Nat} {ms : List Mv} : setM e (i :: is) (.im d :: ms) = setM (e.set i (.im d)) is ms := rfl
theorem setM_fr {is : List Nat} {ms : List Mv} : setM e (i :: is) (.fr d :: ms) = setM (e.set i (.ow false d)) is ms := rfl
theorem owSl0 {b : Bool} {s : Ev} : owSl (.ow b d :: s) 0 = some (b, d) := rfl
theorem owSl1 {t : Sl} {s : Ev} : owSl (t :: s) (i + 1) = owSl s i := rfl
theorem tNil_eq : TL.tNil [] e = some e := rfl
theorem enOfD_l {xs : List D} : enOfD (.lst xs) = some (enD xs) := rfl
theorem enOfD_t {xs : List D} : enOfD (.tup xs) = some (enD xs) := rfl
def Fr.re (r : Fr) (hs : List Hd) (e : Ev) : Re D := match r with
  | .rt d sl' => .ok d (backE e hs sl')
  | .xc x sl' => .xc x (backE e hs sl')
  | _ => .bad
def Fr.reO (r : Fr) (hs : List Hd) (e : Ev) : Re D := match r with
  | .ro d sl' => .ok d (backE e hs sl')
  | .xc x sl' => .xc x (backE e hs sl')
  | _ => .bad
theorem re_rt {sl : List Sl} {hs : List Hd} : (Fr.rt d sl).re hs e = .ok d (backE e hs sl) := rfl
theorem re_xc {sl : List Sl} {hs : List Hd} : (Fr.xc x sl).re hs e = .xc x (backE e hs sl) := rfl
theorem reO_ro {sl : List Sl} {hs : List Hd} : (Fr.ro d sl).reO hs e = .ok d (backE e hs sl) := rfl
theorem reO_xc {sl : List Sl} {hs : List Hd} : (Fr.xc x sl).reO hs e = .xc x (backE e hs sl) := rfl
theorem callF_eq {F : Fn} {hs : List Hd} : callF F hs e = if ndup (ows hs) = true then (match slsOf e hs with
    | some sl => (F sl).re hs e
    | none => .bad) else .bad := by
  unfold callF Fr.re
  split
  · cases slsOf e hs with
    | none => rfl
    | some sl => cases F sl <;> rfl
  · rfl
theorem callO_eq {F : Fn} {hs : List Hd} : callO F hs e = if ndup (ows hs) = true then (match slsOf e hs with
    | some sl => (F sl).reO hs e
    | none => .bad) else .bad := by
  unfold callO Fr.reO
  split
  · cases slsOf e hs with
    | none => rfl
    | some sl => cases F sl <;> rfl
  · rfl
def Fr.mk (r : Fr) (hs : List Hd) (e : Ev) : Re D := match r with
  | .rt .non (.ow _ o :: sl') => .ok o (backE e hs sl')
  | .xc x (.ow _ _ :: sl') => .xc x (backE e hs sl')
  | _ => .bad
theorem mk_rt {b : Bool} {o : D} {sl : List Sl} {hs : List Hd} : (Fr.rt .non (.ow b o :: sl)).mk hs e = .ok o (backE e hs sl) := rfl
theorem mk_xc {b : Bool} {o : D} {sl : List Sl} {hs : List Hd} : (Fr.xc x (.ow b o :: sl)).mk hs e = .xc x (backE e hs sl) := rfl
theorem f1_eq {g : D → Option D} {fa : FO} : f1 g fa e = (fa e).bd fun h e1 => match hv e1 h with | some d => ol (g d) e1 | none => .bad := rfl
theorem divC_of {i j : Int} (h0 : 0 < j) (h : j < 2 ^ 200) : divC i j = true := by
  unfold divC
  rw [decide_eq_true h0, Bool.true_and]
  refine decide_eq_true ?_
  have hj : j.natAbs ≠ 0 := by omega
  have h2 : j.natAbs < 2 ^ 200 := by
    have : (j.natAbs : Int) < ((2 ^ 200 : Nat) : Int) := by
      rw [Int.natAbs_of_nonneg (by omega)]
      exact_mod_cast h
    exact_mod_cast this
  have := (Nat.log2_lt hj).mpr h2
  omega
theorem mulC_l {i j : Int} (h : -(2 ^ 64) < i ∧ i < 2 ^ 64) : mulC i j = true := by
  unfold mulC
  rw [decide_eq_true h, Bool.true_or]
theorem mulC_r {i j : Int} (h : -(2 ^ 64) < j ∧ j < 2 ^ 64) : mulC i j = true := by
  unfold mulC
  rw [decide_eq_true h, Bool.true_or, Bool.or_true]
end
section
variable {g : FG} {b : FS} {d : D} {ds : List D} {e e1 e2 : Ev}
theorem forL_nil : forL g b [] e = .nx e := rfl
def Sr.lp (r : Sr) (k : FS) : Sr := match r with
  | .nx e2 => k e2
  | .ct e2 => k e2
  | .bk e2 => .nx e2
  | r => r
theorem forL_step : forL g b (d :: ds) e = match g d e with
    | none => .bad
    | some e1 => (b e1).lp (forL g b ds) := by
  show (match g d e with | none => Sr.bad | some e1 => match b e1 with | .nx e2 => forL g b ds e2 | .ct e2 => forL g b ds e2 | .bk e2 => .nx e2 | r => r) = _
  cases g d e with
  | none => rfl
  | some e1 => cases b e1 <;> rfl
theorem lp_nx {k : FS} : (Sr.nx e).lp k = k e := rfl
theorem forL_rel {α : Type} {f : α → D} {xs : List α} (I : Nat → Ev → Prop) (h0 : I 0 e) (h : ∀ i (hi : i < xs.length) e, I i e → ∃ e1 e2, g (f xs[i]) e = some e1 ∧ (b e1 = .nx e2 ∨ b e1 = .ct e2) ∧ I (i + 1) e2) : ∃ e', forL g b (xs.map f) e = .nx e' ∧ I xs.length e' := by
  induction xs generalizing I e with
  | nil => exact ⟨e, rfl, h0⟩
  | cons x xs ih =>
    obtain ⟨e1, e2, h1, h2, h3⟩ := h 0 (Nat.zero_lt_succ _) e h0
    have h1' : g (f x) e = some e1 := h1
    obtain ⟨e', q1, q2⟩ := ih (fun i => I (i + 1)) h3 fun i hi e he => h (i + 1) (Nat.succ_lt_succ hi) e he
    refine ⟨e', ?_, q2⟩
    rw [List.map_cons, forL_step, h1']
    dsimp only
    have hr' : (b e1).lp (forL g b (xs.map f)) = forL g b (xs.map f) e2 := by
      rcases h2 with h2 | h2 <;> rw [h2] <;> rfl
    rw [hr']
    exact q1
end
section
variable {tu : Bool} {is : List Nat} {ft : FT} {fe : FE} {e : Ev}
theorem lcL_map {α : Type} {f : α → D} {xs : List α} (vs : α → List D) (p : α → Bool) (y : α → D) (hn : nrs e is = true) (hno : noE e is = e)
    (h1 : ∀ x ∈ xs, tOne tu 0 (f x) = some (vs x) ∧ (vs x).length = is.length ∧ nrs (setE e is (vs x)) is = true ∧ noE (setE e is (vs x)) is = e)
    (h2 : ∀ x ∈ xs, ft (setE e is (vs x)) = .ok (p x) (setE e is (vs x))) (h3 : ∀ x ∈ xs, p x = true → fe (setE e is (vs x)) = .ok (y x) (setE e is (vs x))) :
    lcL tu is ft fe (xs.map f) e = .ok ((xs.filter p).map y) e := by
  induction xs with
  | nil => rfl
  | cons x xs ih =>
    have ih := ih (fun x hx => h1 x (List.mem_cons_of_mem _ hx)) (fun x hx => h2 x (List.mem_cons_of_mem _ hx)) (fun x hx => h3 x (List.mem_cons_of_mem _ hx))
    obtain ⟨a1, a2, a3, a4⟩ := h1 x List.mem_cons_self
    rw [List.map_cons]
    unfold lcL
    rw [a1]
    dsimp only
    rw [if_pos ⟨hn, a2⟩, h2 x List.mem_cons_self]
    dsimp only
    cases hp : p x with
    | false =>
      rw [if_neg Bool.false_ne_true, if_pos a3, a4, ih, List.filter_cons_of_neg (by rw [hp]; exact Bool.false_ne_true)]
    | true =>
      rw [if_pos rfl, h3 x List.mem_cons_self hp]
      dsimp only
      rw [if_pos a3, a4, ih, List.filter_cons_of_pos hp]
      rfl
theorem lcL_all {α : Type} {f : α → D} {xs : List α} (vs : α → List D) (y : α → D) (hn : nrs e is = true) (hno : noE e is = e)
    (h1 : ∀ x ∈ xs, tOne tu 0 (f x) = some (vs x) ∧ (vs x).length = is.length ∧ nrs (setE e is (vs x)) is = true ∧ noE (setE e is (vs x)) is = e)
    (h3 : ∀ x ∈ xs, fe (setE e is (vs x)) = .ok (y x) (setE e is (vs x))) :
    lcL tu is fYes fe (xs.map f) e = .ok (xs.map y) e := by
  have := lcL_map (ft := fYes) vs (fun _ => true) y hn hno h1 (fun x hx => rfl) (fun x hx _ => h3 x hx)
  rw [this]
  congr 2
  exact List.filter_eq_self.mpr fun _ _ => rfl
end
section
variable {T : D → D → Option Bool} {e : Ev} {d d' : D} {i j : Nat} {ne : Bool} {b : Bool} {fa fb : FO}
def qRe (ne : Bool) (o : Option Bool) (e : Ev) : Re D := match o with
  | some b => .ok (.bl (ne != b)) e
  | none => .bad
theorem f2q_eq : f2q ne T fa fb = fun env => (fa env).bd fun h1 e1 => (fb e1).bd fun h2 e2 => qRe ne (qT T e2 h1 h2) e2 := rfl
theorem qT_ii : qT T e (.im d) (.im d') = T d d' := rfl
theorem qT_oi : qT T e (.ow i) (.im d') = (hv e (.ow i)).bind fun d1 => if isIns d1 = true then none else T d1 d' := rfl
theorem qT_io : qT T e (.im d) (.ow j) = (hv e (.ow j)).bind fun d2 => if isIns d = true then none else T d d2 := rfl
theorem qT_oo : qT T e (.ow i) (.ow j) = (hv e (.ow i)).bind fun d1 => (hv e (.ow j)).bind fun d2 => if isIns d1 = true then none else T d1 d2 := rfl
theorem isIns_l {ds : List D} : isIns (.lst ds) = false := rfl
theorem isIns_t {ds : List D} : isIns (.tup ds) = false := rfl
theorem isIns_i {c : Str} {ns : List Str} {ds : List D} : isIns (.ins c ns ds) = true := rfl
theorem qRe_tt : qRe true (some true) e = .ok (.bl false) e := rfl
theorem qRe_tf : qRe true (some false) e = .ok (.bl true) e := rfl
theorem qRe_ft : qRe false (some true) e = .ok (.bl true) e := rfl
theorem qRe_ff : qRe false (some false) e = .ok (.bl false) e := rfl
theorem fDs_n : fDs [] = fun env => .ok [] env := by
  funext env
  rfl
theorem fDs_c {k : Key} {f : FE} {r : List (Key × FE)} : fDs ((k, f) :: r) = fun env => (f env).bd fun d e => (fDs r e).bd fun l e' => .ok (d :: l) e' := by
  funext env
  rfl
theorem gDGet_s {ks : List Key} {ds : List D} {s : Str} : gDGet (.dic ks ds) (.str s) = dval ks ds (.inr s) := rfl
theorem gDGet_n {ks : List Key} {ds : List D} {s : Int} : gDGet (.dic ks ds) (.int s) = dval ks ds (.inl s) := rfl
end
section
variable {i j : Bool}
theorem gIsB_b : gIsB (.bl i) (.bl j) = some (.bl (decide (i = j))) := rfl
theorem gNotB_b : gNotB (.bl i) (.bl j) = some (.bl (!decide (i = j))) := rfl
end
section
variable {i j c : Int}
theorem gLR3_2 : gLR3 [.int i, .int j] = if rgB i j 1 = true then some (.lst ((List.range (rgN i j 1)).map fun k => D.int (i + ((k : Nat) : Int) * 1))) else none := rfl
theorem gLR3_3 : gLR3 [.int i, .int j, .int c] = if rgB i j c = true then some (.lst ((List.range (rgN i j c)).map fun k => D.int (i + ((k : Nat) : Int) * c))) else none := rfl
end
section
variable {d : D} {s : Ev}
theorem imAt0o {b : Bool} : imAt (.ow b d :: s) 0 = none := rfl
theorem imAt0n : imAt (.no :: s) 0 = none := rfl
theorem prm_f {α : Type} {l : List α} : prm false l = l := rfl
theorem prm_t {α : Type} {a b : α} : prm true [a, b] = [b, a] := rfl
end
end TL

namespace TL
open PySem PySem.Spec L2
def RD1 := (And.intro @bd_ok (And.intro @bd_xc (And.intro @bd_bad (And.intro @st_ok (And.intro @st_xc (And.intro @st_bad (And.intro @sq_nx (And.intro @sq_rt (And.intro @sq_ro (And.intro @sq_bk (And.intro @sq_ct (And.intro @sq_xc (And.intro @sq_bad (And.intro @ol_some (And.intro @ol_none (And.intro @ofG_some (And.intro @ofG_none (And.intro @hv_im (And.intro @hv_ow0 (And.intro @hv_ow1 (And.intro @imAt0 (And.intro @imAt1 (And.intro @owAt0 (And.intro @owAt1 (@lowAt0)))))))))))))))))))))))))
def RD2 := (And.intro @lowAt1 (And.intro @nr0i (And.intro @nr0n (And.intro @nr0o (And.intro @nr1 (And.intro @putOw0 (And.intro @putOw1 (And.intro @noE_nil (And.intro @noE_cons (And.intro @nrs_nil (And.intro @nrs_cons (And.intro @setE_nil (And.intro @setE_cons (And.intro @tOne_f (And.intro @tOne_t (And.intro @tOne_l (And.intro @fgu_nx (And.intro @fgu_rt (And.intro @fgu_xc (And.intro @fgu_ct (And.intro @fgu_bk (And.intro @fgu_bad (And.intro @fr_nx (And.intro @fr_rt (@fr_ro)))))))))))))))))))))))))
def RD3 := (And.intro @fr_xc (And.intro @outs_n (And.intro @outs_o (And.intro @outs_i (And.intro @gAdd_i (And.intro @gSub_i (And.intro @gLt_i (And.intro @gLe_i (And.intro @gGt_i (And.intro @gGe_i (And.intro @gModu (And.intro @gMulu (And.intro @gDivu (And.intro @gPowu (And.intro @gShlu (And.intro @gAdd_lu (And.intro @gAdd_tu (And.intro @gAdd_su (And.intro @gCat_lu (And.intro @rg1u (And.intro @rg2u (And.intro @gLRu (And.intro @gRepu (And.intro @mmAppendu (@gNeg_i)))))))))))))))))))))))))
def RD4 := (And.intro @gAbs_i (And.intro @gInt_i (And.intro @gInt_b (And.intro @blOf_bl (And.intro @seqOf_l (And.intro @seqOf_t (And.intro @gLen_l (And.intro @gLen_t (And.intro @gListOf_l (And.intro @gListOf_t (And.intro @gTupOf_l (And.intro @gTupOf_t (And.intro @gIx_l (And.intro @gIx_t (And.intro @g1_1 (And.intro @g2_2 (And.intro @ims_n (And.intro @ims_c (And.intro @hvs_n (And.intro @hvs_c (And.intro @slsOf_n (And.intro @slsOf_ci (And.intro @slsOf_co (And.intro @ows_n (@ows_i)))))))))))))))))))))))))
def RD5 := (And.intro @ows_o (And.intro @ndup_n (And.intro @ndup_1 (And.intro @backE_n (And.intro @backE_i (And.intro @backE_o (And.intro @tTu (And.intro @tCons_eq (And.intro @tNil_eq (And.intro @enOfD_l (And.intro @enOfD_t (And.intro @callF_eq (And.intro @callO_eq (And.intro @re_rt (And.intro @re_xc (And.intro @reO_ro (And.intro @reO_xc (And.intro @mk_rt (And.intro @mk_xc (And.intro @f1_eq (And.intro @lcEndu (And.intro @Bool.true_and (And.intro @Bool.and_true (And.intro @Bool.not_true (@Bool.not_false)))))))))))))))))))))))))
def RD6 := (And.intro @and_self (And.intro @and_true (And.intro @true_and (And.intro @Bool.false_eq_true (And.intro @Bool.true_or (And.intro @Bool.or_true (And.intro @Bool.false_or (And.intro @Bool.or_false (And.intro @Bool.false_and (And.intro @Bool.and_false (And.intro @setM_nil (And.intro @setM_im (And.intro @setM_fr (And.intro @owSl0 (And.intro @owSl1 (And.intro @f2q_eq (And.intro @qT_ii (And.intro @qT_oi (And.intro @qT_io (And.intro @qT_oo (And.intro @isIns_l (And.intro @isIns_t (And.intro @isIns_i (And.intro @qRe_tt (@qRe_tf)))))))))))))))))))))))))
def RD7 := (And.intro @qRe_ft (And.intro @qRe_ff (And.intro @fDs_n (And.intro @fDs_c (And.intro @gDGet_s (And.intro @gDGet_n (And.intro @gIsB_b (And.intro @gNotB_b (And.intro @gLR3_2 (And.intro @gLR3_3 (And.intro @imAt0o (And.intro @imAt0n (And.intro @prm_f (And.intro @prm_t (And.intro @TL.cSeq.eq_1 (And.intro @TL.cIf.eq_1 (And.intro @TL.cRet.eq_1 (And.intro @TL.cRetF.eq_1 (And.intro @TL.cRetO.eq_1 (And.intro @TL.cRetN.eq_1 (And.intro @TL.cAsg.eq_1 (And.intro @TL.cOwn.eq_1 (And.intro @TL.cPar.eq_1 (And.intro @TL.cParF.eq_1 (@TL.cFrz.eq_1)))))))))))))))))))))))))
def RD8 := (And.intro @TL.cDrop.eq_1 (And.intro @TL.cNext.eq_1 (And.intro @TL.cBreak.eq_1 (And.intro @TL.cCont.eq_1 (And.intro @TL.cSetIx.eq_1 (And.intro @TL.cFld.eq_1 (And.intro @TL.cDPut.eq_1 (And.intro @TL.cFor.eq_1 (And.intro @TL.cKil.eq_1 (And.intro @TL.cPre.eq_1 (And.intro @TL.cRaise.eq_1 (And.intro @TL.cRaise0.eq_1 (And.intro @TL.cNever.eq_1 (And.intro @TL.gSeq.eq_1 (And.intro @TL.tN.eq_1 (And.intro @TL.setO.eq_1 (And.intro @TL.oi.eq_1 (And.intro @TL.fVar.eq_1 (And.intro @TL.foVar.eq_1 (And.intro @TL.fC.eq_1 (And.intro @TL.f2.eq_1 (And.intro @TL.fN.eq_1 (And.intro @TL.fB.eq_1 (And.intro @TL.fAnd.eq_1 (@TL.fOr.eq_1)))))))))))))))))))))))))
def RD9 := (And.intro @TL.fNot.eq_1 (And.intro @TL.gAnd.eq_1 (And.intro @TL.gOr.eq_1 (And.intro @TL.gNot.eq_1 (And.intro @TL.fIf.eq_1 (And.intro @TL.fNil.eq_1 (And.intro @TL.fCons.eq_1 (And.intro @TL.fSeq.eq_1 (And.intro @TL.fLst.eq_1 (And.intro @TL.fTup.eq_1 (And.intro @TL.fLR.eq_1 (And.intro @TL.fRep.eq_1 (And.intro @TL.fSl.eq_1 (And.intro @TL.fpNone.eq_1 (And.intro @TL.fpSome.eq_1 (And.intro @TL.fiBy.eq_1 (And.intro @TL.fiR2.eq_1 (And.intro @TL.fCall.eq_1 (And.intro @TL.fCallO.eq_1 (And.intro @TL.fMeth.eq_1 (And.intro @TL.fMake.eq_1 (And.intro @TL.fLc.eq_1 (And.intro @TL.fDic0.eq_1 (And.intro @TL.foGet.eq_1 (@TL.foGet2.eq_1)))))))))))))))))))))))))
def RD10 := (And.intro @TL.fOm.eq_1 (And.intro @TL.fXf.eq_1 (And.intro @TL.fChain.eq_1 (And.intro @TL.fYes.eq_1 (And.intro @TL.gIsN.eq_1 (And.intro @TL.gNotN.eq_1 (And.intro @TL.isNon.eq_1 (And.intro @TL.fnF.eq_1 (And.intro @TL.cParM.eq_1 (And.intro @TL.mNil.eq_1 (And.intro @TL.mIm.eq_1 (And.intro @TL.mFr.eq_1 (And.intro @TL.fLcO.eq_1 (And.intro @TL.fDisp.eq_1 (And.intro @TL.foAny.eq_1 (And.intro @TL.fAlt.eq_1 (And.intro @TL.fCallK.eq_1 (And.intro @TL.fSlT.eq_1 (And.intro @TL.cAsg3.eq_1 (And.intro @TL.fRev.eq_1 (@TL.fCallKO.eq_1)))))))))))))))))))))
end TL

namespace TL
open PySem PySem.Spec L2
theorem mkv_count {X : Cx} {cn : Str} {C fI : Addr} {a : Expr} {p pos : Pos} {k : Nat} (T : PySem.XF_count.XTxt X.K X.mg cn C fI) (hr : Room k X.A) (hg : Gl X cn := by rfl) (hdb : (cn == ("__debug__" : Str)) = false := by decide)
    (he : starEach (a :: []) X.env = (false, eval a X.env) :: starEach [] X.env := by rfl) (hpl : (backTo pos (starEach [] X.env)).any (·.1) = false := by rfl) {ta : TE} (ha : PE X a ta) :
    PE X (.Call (.Name cn p) [a] [] pos) (tMkv C "count" ta) := by
  refine ⟨fun pins s σ H Q I h => wpAny_Call_Name_kw (ld_glob I hg T.gC ?_ hdb)⟩
  refine PySem.W.callWith_K (h₀ := X.base) I.ok.mod.kin T.kC (thn ((pa_cons ha pa_nil he).run pos pins s σ H _ I h) fun us s1 hh => ?_) he hpl
  obtain ⟨vs, H1, I1, r1, v, ev, q1⟩ := hh
  subst ev
  refine ⟨I1.kIn, ?_⟩
  cases r1 with
  | cons rv rn =>
    rename_i v' us'
    cases rn
    show wpAny _ _ (call (.ref C) [v']) _ _ _
    have hlim := I1.nolimit
    obtain ⟨hp, g, dr, tk, os⟩ := s1
    refine wpAny_call (PySem.XF_count.x_made T I1.kIn hlim (by have := hr.dp; omega) fun h' tk' e d M => ?_)
    obtain ⟨oe, fv, hoe, hc, hd, hdat, _⟩ := M.obj
    have hns := M.ns
    have J := lay2 (t' := tk') (o1 := .xd [(("count" : Str), v)]) (o2 := ExvO (.ref C) e (some d)) I1 M.keep M.dbig M.new ⟨_, hns, fun f => relO_one "count" rv f⟩
      ⟨⟨oe, fv, hoe, ⟨hc, hd⟩, hdat⟩, ⟨_, hoe⟩, fun _ _ ⟨o, v, q, r⟩ k => ⟨o, v, k o q, r⟩⟩ M.dne
    exact ⟨.ref e, _, J, rfl, q1 e d (I1.hok.fresh M.new) (I1.hok.fresh M.dbig) M.dne⟩
end TL

namespace TL
open PySem PySem.Spec L2
theorem mkv_index {X : Cx} {cn : Str} {C fI : Addr} {a : Expr} {p pos : Pos} {k : Nat} (T : PySem.XF_index.XTxt X.K X.mg cn C fI) (hr : Room k X.A) (hg : Gl X cn := by rfl) (hdb : (cn == ("__debug__" : Str)) = false := by decide)
    (he : starEach (a :: []) X.env = (false, eval a X.env) :: starEach [] X.env := by rfl) (hpl : (backTo pos (starEach [] X.env)).any (·.1) = false := by rfl) {ta : TE} (ha : PE X a ta) :
    PE X (.Call (.Name cn p) [a] [] pos) (tMkv C "index" ta) := by
  refine ⟨fun pins s σ H Q I h => wpAny_Call_Name_kw (ld_glob I hg T.gC ?_ hdb)⟩
  refine PySem.W.callWith_K (h₀ := X.base) I.ok.mod.kin T.kC (thn ((pa_cons ha pa_nil he).run pos pins s σ H _ I h) fun us s1 hh => ?_) he hpl
  obtain ⟨vs, H1, I1, r1, v, ev, q1⟩ := hh
  subst ev
  refine ⟨I1.kIn, ?_⟩
  cases r1 with
  | cons rv rn =>
    rename_i v' us'
    cases rn
    show wpAny _ _ (call (.ref C) [v']) _ _ _
    have hlim := I1.nolimit
    obtain ⟨hp, g, dr, tk, os⟩ := s1
    refine wpAny_call (PySem.XF_index.x_made T I1.kIn hlim (by have := hr.dp; omega) fun h' tk' e d M => ?_)
    obtain ⟨oe, fv, hoe, hc, hd, hdat, _⟩ := M.obj
    have hns := M.ns
    have J := lay2 (t' := tk') (o1 := .xd [(("index" : Str), v)]) (o2 := ExvO (.ref C) e (some d)) I1 M.keep M.dbig M.new ⟨_, hns, fun f => relO_one "index" rv f⟩
      ⟨⟨oe, fv, hoe, ⟨hc, hd⟩, hdat⟩, ⟨_, hoe⟩, fun _ _ ⟨o, v, q, r⟩ k => ⟨o, v, k o q, r⟩⟩ M.dne
    exact ⟨.ref e, _, J, rfl, q1 e d (I1.hok.fresh M.new) (I1.hok.fresh M.dbig) M.dne⟩
end TL

namespace TL
open PySem PySem.Spec L2
theorem mkv_name {X : Cx} {cn : Str} {C fI : Addr} {a : Expr} {p pos : Pos} {k : Nat} (T : PySem.XF_name.XTxt X.K X.mg cn C fI) (hr : Room k X.A) (hg : Gl X cn := by rfl) (hdb : (cn == ("__debug__" : Str)) = false := by decide)
    (he : starEach (a :: []) X.env = (false, eval a X.env) :: starEach [] X.env := by rfl) (hpl : (backTo pos (starEach [] X.env)).any (·.1) = false := by rfl) {ta : TE} (ha : PE X a ta) :
    PE X (.Call (.Name cn p) [a] [] pos) (tMkv C "name" ta) := by
  refine ⟨fun pins s σ H Q I h => wpAny_Call_Name_kw (ld_glob I hg T.gC ?_ hdb)⟩
  refine PySem.W.callWith_K (h₀ := X.base) I.ok.mod.kin T.kC (thn ((pa_cons ha pa_nil he).run pos pins s σ H _ I h) fun us s1 hh => ?_) he hpl
  obtain ⟨vs, H1, I1, r1, v, ev, q1⟩ := hh
  subst ev
  refine ⟨I1.kIn, ?_⟩
  cases r1 with
  | cons rv rn =>
    rename_i v' us'
    cases rn
    show wpAny _ _ (call (.ref C) [v']) _ _ _
    have hlim := I1.nolimit
    obtain ⟨hp, g, dr, tk, os⟩ := s1
    refine wpAny_call (PySem.XF_name.x_made T I1.kIn hlim (by have := hr.dp; omega) fun h' tk' e d M => ?_)
    obtain ⟨oe, fv, hoe, hc, hd, hdat, _⟩ := M.obj
    have hns := M.ns
    have J := lay2 (t' := tk') (o1 := .xd [(("name" : Str), v)]) (o2 := ExvO (.ref C) e (some d)) I1 M.keep M.dbig M.new ⟨_, hns, fun f => relO_one "name" rv f⟩
      ⟨⟨oe, fv, hoe, ⟨hc, hd⟩, hdat⟩, ⟨_, hoe⟩, fun _ _ ⟨o, v, q, r⟩ k => ⟨o, v, k o q, r⟩⟩ M.dne
    exact ⟨.ref e, _, J, rfl, q1 e d (I1.hok.fresh M.new) (I1.hok.fresh M.dbig) M.dne⟩
end TL

namespace TL
open PySem PySem.Spec L2
theorem mkv_number {X : Cx} {cn : Str} {C fI : Addr} {a : Expr} {p pos : Pos} {k : Nat} (T : PySem.XF_number.XTxt X.K X.mg cn C fI) (hr : Room k X.A) (hg : Gl X cn := by rfl) (hdb : (cn == ("__debug__" : Str)) = false := by decide)
    (he : starEach (a :: []) X.env = (false, eval a X.env) :: starEach [] X.env := by rfl) (hpl : (backTo pos (starEach [] X.env)).any (·.1) = false := by rfl) {ta : TE} (ha : PE X a ta) :
    PE X (.Call (.Name cn p) [a] [] pos) (tMkv C "number" ta) := by
  refine ⟨fun pins s σ H Q I h => wpAny_Call_Name_kw (ld_glob I hg T.gC ?_ hdb)⟩
  refine PySem.W.callWith_K (h₀ := X.base) I.ok.mod.kin T.kC (thn ((pa_cons ha pa_nil he).run pos pins s σ H _ I h) fun us s1 hh => ?_) he hpl
  obtain ⟨vs, H1, I1, r1, v, ev, q1⟩ := hh
  subst ev
  refine ⟨I1.kIn, ?_⟩
  cases r1 with
  | cons rv rn =>
    rename_i v' us'
    cases rn
    show wpAny _ _ (call (.ref C) [v']) _ _ _
    have hlim := I1.nolimit
    obtain ⟨hp, g, dr, tk, os⟩ := s1
    refine wpAny_call (PySem.XF_number.x_made T I1.kIn hlim (by have := hr.dp; omega) fun h' tk' e d M => ?_)
    obtain ⟨oe, fv, hoe, hc, hd, hdat, _⟩ := M.obj
    have hns := M.ns
    have J := lay2 (t' := tk') (o1 := .xd [(("number" : Str), v)]) (o2 := ExvO (.ref C) e (some d)) I1 M.keep M.dbig M.new ⟨_, hns, fun f => relO_one "number" rv f⟩
      ⟨⟨oe, fv, hoe, ⟨hc, hd⟩, hdat⟩, ⟨_, hoe⟩, fun _ _ ⟨o, v, q, r⟩ k => ⟨o, v, k o q, r⟩⟩ M.dne
    exact ⟨.ref e, _, J, rfl, q1 e d (I1.hok.fresh M.new) (I1.hok.fresh M.dbig) M.dne⟩
end TL

namespace TL
open PySem PySem.Spec L2
theorem mkv_place {X : Cx} {cn : Str} {C fI : Addr} {a : Expr} {p pos : Pos} {k : Nat} (T : PySem.XF_place.XTxt X.K X.mg cn C fI) (hr : Room k X.A) (hg : Gl X cn := by rfl) (hdb : (cn == ("__debug__" : Str)) = false := by decide)
    (he : starEach (a :: []) X.env = (false, eval a X.env) :: starEach [] X.env := by rfl) (hpl : (backTo pos (starEach [] X.env)).any (·.1) = false := by rfl) {ta : TE} (ha : PE X a ta) :
    PE X (.Call (.Name cn p) [a] [] pos) (tMkv C "place" ta) := by
  refine ⟨fun pins s σ H Q I h => wpAny_Call_Name_kw (ld_glob I hg T.gC ?_ hdb)⟩
  refine PySem.W.callWith_K (h₀ := X.base) I.ok.mod.kin T.kC (thn ((pa_cons ha pa_nil he).run pos pins s σ H _ I h) fun us s1 hh => ?_) he hpl
  obtain ⟨vs, H1, I1, r1, v, ev, q1⟩ := hh
  subst ev
  refine ⟨I1.kIn, ?_⟩
  cases r1 with
  | cons rv rn =>
    rename_i v' us'
    cases rn
    show wpAny _ _ (call (.ref C) [v']) _ _ _
    have hlim := I1.nolimit
    obtain ⟨hp, g, dr, tk, os⟩ := s1
    refine wpAny_call (PySem.XF_place.x_made T I1.kIn hlim (by have := hr.dp; omega) fun h' tk' e d M => ?_)
    obtain ⟨oe, fv, hoe, hc, hd, hdat, _⟩ := M.obj
    have hns := M.ns
    have J := lay2 (t' := tk') (o1 := .xd [(("place" : Str), v)]) (o2 := ExvO (.ref C) e (some d)) I1 M.keep M.dbig M.new ⟨_, hns, fun f => relO_one "place" rv f⟩
      ⟨⟨oe, fv, hoe, ⟨hc, hd⟩, hdat⟩, ⟨_, hoe⟩, fun _ _ ⟨o, v, q, r⟩ k => ⟨o, v, k o q, r⟩⟩ M.dne
    exact ⟨.ref e, _, J, rfl, q1 e d (I1.hok.fresh M.new) (I1.hok.fresh M.dbig) M.dne⟩
end TL

namespace TL
open PySem PySem.Spec L2
theorem mkv_time {X : Cx} {cn : Str} {C fI : Addr} {a : Expr} {p pos : Pos} {k : Nat} (T : PySem.XF_time.XTxt X.K X.mg cn C fI) (hr : Room k X.A) (hg : Gl X cn := by rfl) (hdb : (cn == ("__debug__" : Str)) = false := by decide)
    (he : starEach (a :: []) X.env = (false, eval a X.env) :: starEach [] X.env := by rfl) (hpl : (backTo pos (starEach [] X.env)).any (·.1) = false := by rfl) {ta : TE} (ha : PE X a ta) :
    PE X (.Call (.Name cn p) [a] [] pos) (tMkv C "time" ta) := by
  refine ⟨fun pins s σ H Q I h => wpAny_Call_Name_kw (ld_glob I hg T.gC ?_ hdb)⟩
  refine PySem.W.callWith_K (h₀ := X.base) I.ok.mod.kin T.kC (thn ((pa_cons ha pa_nil he).run pos pins s σ H _ I h) fun us s1 hh => ?_) he hpl
  obtain ⟨vs, H1, I1, r1, v, ev, q1⟩ := hh
  subst ev
  refine ⟨I1.kIn, ?_⟩
  cases r1 with
  | cons rv rn =>
    rename_i v' us'
    cases rn
    show wpAny _ _ (call (.ref C) [v']) _ _ _
    have hlim := I1.nolimit
    obtain ⟨hp, g, dr, tk, os⟩ := s1
    refine wpAny_call (PySem.XF_time.x_made T I1.kIn hlim (by have := hr.dp; omega) fun h' tk' e d M => ?_)
    obtain ⟨oe, fv, hoe, hc, hd, hdat, _⟩ := M.obj
    have hns := M.ns
    have J := lay2 (t' := tk') (o1 := .xd [(("time" : Str), v)]) (o2 := ExvO (.ref C) e (some d)) I1 M.keep M.dbig M.new ⟨_, hns, fun f => relO_one "time" rv f⟩
      ⟨⟨oe, fv, hoe, ⟨hc, hd⟩, hdat⟩, ⟨_, hoe⟩, fun _ _ ⟨o, v, q, r⟩ k => ⟨o, v, k o q, r⟩⟩ M.dne
    exact ⟨.ref e, _, J, rfl, q1 e d (I1.hok.fresh M.new) (I1.hok.fresh M.dbig) M.dne⟩
end TL

namespace TL
open PySem PySem.Spec L2
theorem mkv_what {X : Cx} {cn : Str} {C fI : Addr} {a : Expr} {p pos : Pos} {k : Nat} (T : PySem.XF_what.XTxt X.K X.mg cn C fI) (hr : Room k X.A) (hg : Gl X cn := by rfl) (hdb : (cn == ("__debug__" : Str)) = false := by decide)
    (he : starEach (a :: []) X.env = (false, eval a X.env) :: starEach [] X.env := by rfl) (hpl : (backTo pos (starEach [] X.env)).any (·.1) = false := by rfl) {ta : TE} (ha : PE X a ta) :
    PE X (.Call (.Name cn p) [a] [] pos) (tMkv C "what" ta) := by
  refine ⟨fun pins s σ H Q I h => wpAny_Call_Name_kw (ld_glob I hg T.gC ?_ hdb)⟩
  refine PySem.W.callWith_K (h₀ := X.base) I.ok.mod.kin T.kC (thn ((pa_cons ha pa_nil he).run pos pins s σ H _ I h) fun us s1 hh => ?_) he hpl
  obtain ⟨vs, H1, I1, r1, v, ev, q1⟩ := hh
  subst ev
  refine ⟨I1.kIn, ?_⟩
  cases r1 with
  | cons rv rn =>
    rename_i v' us'
    cases rn
    show wpAny _ _ (call (.ref C) [v']) _ _ _
    have hlim := I1.nolimit
    obtain ⟨hp, g, dr, tk, os⟩ := s1
    refine wpAny_call (PySem.XF_what.x_made T I1.kIn hlim (by have := hr.dp; omega) fun h' tk' e d M => ?_)
    obtain ⟨oe, fv, hoe, hc, hd, hdat, _⟩ := M.obj
    have hns := M.ns
    have J := lay2 (t' := tk') (o1 := .xd [(("what" : Str), v)]) (o2 := ExvO (.ref C) e (some d)) I1 M.keep M.dbig M.new ⟨_, hns, fun f => relO_one "what" rv f⟩
      ⟨⟨oe, fv, hoe, ⟨hc, hd⟩, hdat⟩, ⟨_, hoe⟩, fun _ _ ⟨o, v, q, r⟩ k => ⟨o, v, k o q, r⟩⟩ M.dne
    exact ⟨.ref e, _, J, rfl, q1 e d (I1.hok.fresh M.new) (I1.hok.fresh M.dbig) M.dne⟩
end TL

namespace Law
noncomputable section
open PySem PySem.Spec L2 TL
def N__law_state : List Str := ["_law_source"]
def b__law_state : FS := (cSeq (cAsg (fN (g1' gAbs) (fCons (oi (fVar 0)) fNil)) (tN 0))
    (cRetF (fLst (fCons (oi (f2 gMul (oi (fVar 0)) (oi (fN (g1' gInt) (fCons (oi (f2 gGe (oi (fVar 0)) (oi (f2 gPow (oi (fC (.int 10))) (oi (fC (.int 18))))))) fNil))))) (fCons (oi (f2 gAdd (oi (f2 gMod (oi (fN (g1' gInt) (fCons (oi (fVar 0)) fNil))) (oi (fC (.int 2147483629))))) (oi (fC (.int 7))))) (fCons (oi (f2 gMod (oi (fN (g1' gInt) (fCons (oi (fVar 0)) fNil))) (oi (fC (.int 2147483587))))) fNil))))))
def F__law_state : Fn := fnF 1 1 b__law_state
def N__law_digit : List Str := ["_law_state_here", "_law_base", "_law_found", "_law_mixed"]
def b__law_digit : FS := (cSeq (cIf (fB (f2 gGt (oi (f2 gIx (foVar 0) (oi (fC (.int 0))))) (oi (fC (.int 0)))))
     (cSeq (cAsg (f2 gMod (oi (fN (g1' gInt) (fCons (oi (f2 gIx (foVar 0) (oi (fC (.int 0))))) fNil))) (oi (fVar 1))) (tN 2))
    (cSeq (cSetIx 0 (fC (.int 0)) (f2 gDiv (oi (f2 gIx (foVar 0) (oi (fC (.int 0))))) (oi (fVar 1))))
    (cRet (fVar 2))))
     cNext)
    (cSeq (cAsg (f2 gMul (oi (f2 gIx (foVar 0) (oi (fC (.int 1))))) (oi (f2 gAdd (oi (f2 gDiv (oi (f2 gIx (foVar 0) (oi (fC (.int 1))))) (oi (fC (.int 1009))))) (oi (fC (.int 69621)))))) (tN 3))
    (cSeq (cSetIx 0 (fC (.int 1)) (f2 gAdd (oi (f2 gMod (oi (fN (g1' gInt) (fCons (oi (f2 gAdd (oi (fVar 3)) (oi (f2 gIx (foVar 0) (oi (fC (.int 2))))))) fNil))) (oi (fC (.int 2147483629))))) (oi (fC (.int 7)))))
    (cRet (f2 gMod (oi (fN (g1' gInt) (fCons (oi (f2 gDiv (oi (f2 gIx (foVar 0) (oi (fC (.int 1))))) (oi (fC (.int 97))))) fNil))) (oi (fVar 1)))))))
def F__law_digit : Fn := fnF 4 2 b__law_digit
def N__law_classes : List Str := ["_law_error", "_law_found"]
def b__law_classes : FS := (cSeq (cAsg (fLst (fCons (oi (f1 (gIsX xv [(.own "BadStream")]) (oi (fVar 0)))) (fCons (oi (f1 (gIsX xv [(.own "BadMember")]) (oi (fVar 0)))) (fCons (oi (f1 (gIsX xv [(.own "BadRow")]) (oi (fVar 0)))) fNil)))) (tN 1))
    (cSeq (cAsg (f2 gCat (oi (fVar 1)) (oi (fLst (fCons (oi (f1 (gIsX xv [(.own "BadTrain")]) (oi (fVar 0)))) (fCons (oi (f1 (gIsX xv [(.own "NoEvent")]) (oi (fVar 0)))) (fCons (oi (f1 (gIsX xv [(.own "Large")]) (oi (fVar 0)))) fNil)))))) (tN 1))
    (cSeq (cAsg (f2 gCat (oi (fVar 1)) (oi (fLst (fCons (oi (f1 (gIsX xv [(.own "BadNumbers")]) (oi (fVar 0)))) (fCons (oi (f1 (gIsX xv [(.own "BadBus")]) (oi (fVar 0)))) (fCons (oi (f1 (gIsX xv [(.own "NoInput")]) (oi (fVar 0)))) fNil)))))) (tN 1))
    (cSeq (cAsg (f2 gCat (oi (fVar 1)) (oi (fLst (fCons (oi (f1 (gIsX xv [(.own "NotLater")]) (oi (fVar 0)))) (fCons (oi (f1 (gIsX xv [(.own "BadText")]) (oi (fVar 0)))) (fCons (oi (f1 (gIsX xv [(.own "BadForm")]) (oi (fVar 0)))) fNil)))))) (tN 1))
    (cSeq (cAsg (f2 gCat (oi (fVar 1)) (oi (fLst (fCons (oi (f1 (gIsX xv [(.own "Mixed")]) (oi (fVar 0)))) (fCons (oi (f1 (gIsX xv [(.own "NoQuestion")]) (oi (fVar 0)))) (fCons (oi (f1 (gIsX xv [(.own "Untrue")]) (oi (fVar 0)))) fNil)))))) (tN 1))
    (cSeq (cAsg (f2 gCat (oi (fVar 1)) (oi (fLst (fCons (oi (f1 (gIsX xv [(.own "NotKnown")]) (oi (fVar 0)))) (fCons (oi (f1 (gIsX xv [(.own "OtherInputs")]) (oi (fVar 0)))) (fCons (oi (f1 (gIsX xv [(.own "NoBack")]) (oi (fVar 0)))) fNil)))))) (tN 1))
    (cRetF (f2 gCat (oi (fVar 1)) (oi (fLst (fCons (oi (f1 (gIsX xv [(.own "NoName")]) (oi (fVar 0)))) fNil)))))))))))
def F__law_classes : Fn := fnF 2 1 b__law_classes
def N_BadStream_told : List Str := ["self"]
def b_BadStream_told : FS := (cRet (fC (.str "refused badstream")))
def F_BadStream_told : Fn := fnF 1 1 b_BadStream_told
def N_BadMember_told : List Str := ["self"]
def b_BadMember_told : FS := (cRet (fC (.str "refused badmember")))
def F_BadMember_told : Fn := fnF 1 1 b_BadMember_told
def N_BadRow_told : List Str := ["self"]
def b_BadRow_told : FS := (cRet (fC (.str "refused badrow")))
def F_BadRow_told : Fn := fnF 1 1 b_BadRow_told
def N_BadTrain_told : List Str := ["self"]
def b_BadTrain_told : FS := (cRet (fC (.str "refused badtrain")))
def F_BadTrain_told : Fn := fnF 1 1 b_BadTrain_told
def N_NoEvent_told : List Str := ["self"]
def b_NoEvent_told : FS := (cRet (fC (.str "refused noevent")))
def F_NoEvent_told : Fn := fnF 1 1 b_NoEvent_told
def N_Large_told : List Str := ["self"]
def b_Large_told : FS := (cRet (fC (.str "refused large")))
def F_Large_told : Fn := fnF 1 1 b_Large_told
def N_BadNumbers_told : List Str := ["self"]
def b_BadNumbers_told : FS := (cRet (fC (.str "refused badnumbers")))
def F_BadNumbers_told : Fn := fnF 1 1 b_BadNumbers_told
def N_BadBus_told : List Str := ["self"]
def b_BadBus_told : FS := (cRet (fC (.str "refused badbus")))
def F_BadBus_told : Fn := fnF 1 1 b_BadBus_told
def N_NoInput_told : List Str := ["self"]
def b_NoInput_told : FS := (cRet (fC (.str "refused noinput")))
def F_NoInput_told : Fn := fnF 1 1 b_NoInput_told
def N_NotLater_told : List Str := ["self"]
def b_NotLater_told : FS := (cRet (fC (.str "refused notlater")))
def F_NotLater_told : Fn := fnF 1 1 b_NotLater_told
def N_BadText_told : List Str := ["self"]
def b_BadText_told : FS := (cRet (fC (.str "refused badtext")))
def F_BadText_told : Fn := fnF 1 1 b_BadText_told
def N_BadForm_told : List Str := ["self"]
def b_BadForm_told : FS := (cRet (fC (.str "refused badform")))
def F_BadForm_told : Fn := fnF 1 1 b_BadForm_told
def N_Mixed_told : List Str := ["self"]
def b_Mixed_told : FS := (cRet (fC (.str "refused mixed")))
def F_Mixed_told : Fn := fnF 1 1 b_Mixed_told
def N_NoQuestion_told : List Str := ["self"]
def b_NoQuestion_told : FS := (cRet (fC (.str "refused noquestion")))
def F_NoQuestion_told : Fn := fnF 1 1 b_NoQuestion_told
def N_Untrue_told : List Str := ["self"]
def b_Untrue_told : FS := (cRet (fC (.str "refused untrue")))
def F_Untrue_told : Fn := fnF 1 1 b_Untrue_told
def N_NotKnown_told : List Str := ["self"]
def b_NotKnown_told : FS := (cRet (fC (.str "refused notknown")))
def F_NotKnown_told : Fn := fnF 1 1 b_NotKnown_told
def N_OtherInputs_told : List Str := ["self"]
def b_OtherInputs_told : FS := (cRet (fC (.str "refused otherinputs")))
def F_OtherInputs_told : Fn := fnF 1 1 b_OtherInputs_told
def N_NoBack_told : List Str := ["self"]
def b_NoBack_told : FS := (cRet (fC (.str "refused noback")))
def F_NoBack_told : Fn := fnF 1 1 b_NoBack_told
def N_NoName_told : List Str := ["self"]
def b_NoName_told : FS := (cRet (fC (.str "refused noname")))
def F_NoName_told : Fn := fnF 1 1 b_NoName_told
def N__law_field : List Str := ["_law_error"]
def b__law_field : FS := (cSeq (cIf (fB (f1 (gIsX xv [(.own "BadStream"), (.own "BadNumbers"), (.own "BadText")]) (oi (fVar 0))))
     (cRet (fLst (fCons (oi (f1 (gFldX xvf "place") (oi (fVar 0)))) fNil)))
     cNext)
    (cSeq (cIf (fB (f1 (gIsX xv [(.own "BadMember"), (.own "BadTrain")]) (oi (fVar 0))))
     (cRet (fLst (fCons (oi (f1 (gFldX xvf "what") (oi (fVar 0)))) fNil)))
     cNext)
    (cSeq (cIf (fB (f1 (gIsX xv [(.own "BadRow"), (.own "BadBus")]) (oi (fVar 0))))
     (cRet (fLst (fCons (oi (f1 (gFldX xvf "index") (oi (fVar 0)))) fNil)))
     cNext)
    (cSeq (cIf (fB (f1 (gIsX xv [(.own "NoEvent")]) (oi (fVar 0))))
     (cRet (fLst (fCons (oi (f1 (gFldX xvf "number") (oi (fVar 0)))) fNil)))
     cNext)
    (cSeq (cIf (fB (f1 (gIsX xv [(.own "Large")]) (oi (fVar 0))))
     (cRet (fLst (fCons (oi (f1 (gFldX xvf "count") (oi (fVar 0)))) fNil)))
     cNext)
    (cSeq (cIf (fB (f1 (gIsX xv [(.own "NoInput")]) (oi (fVar 0))))
     (cRet (fLst (fCons (oi (f1 (gFldX xvf "name") (oi (fVar 0)))) fNil)))
     cNext)
    (cRet (fIf (fB (f1 (gIsX xv [(.own "NotLater")]) (oi (fVar 0)))) (fLst (fCons (oi (f1 (gFldX xvf "time") (oi (fVar 0)))) fNil)) (fLst fNil)))))))))
def F__law_field : Fn := fnF 1 1 b__law_field
def lp1_law : FS := (cKil [6, 7, 8] (cSeq (cAsg (fIf (fB (f2 gLt (oi (fVar 6)) (oi (fC (.int 11))))) (fLst (fCons (oi (fVar 3)) fNil)) (fLst fNil)) (tN 8))
    (cSeq (cIf (fOr (fB (f2 gNe (oi (fMethX "told" [("BadStream", F_BadStream_told), ("BadMember", F_BadMember_told), ("BadRow", F_BadRow_told), ("BadTrain", F_BadTrain_told), ("NoEvent", F_NoEvent_told), ("Large", F_Large_told), ("BadNumbers", F_BadNumbers_told), ("BadBus", F_BadBus_told), ("NoInput", F_NoInput_told), ("NotLater", F_NotLater_told), ("BadText", F_BadText_told), ("BadForm", F_BadForm_told), ("Mixed", F_Mixed_told), ("NoQuestion", F_NoQuestion_told), ("Untrue", F_Untrue_told), ("NotKnown", F_NotKnown_told), ("OtherInputs", F_OtherInputs_told), ("NoBack", F_NoBack_told), ("NoName", F_NoName_told)] (fVar 7))) (oi (f2 gAdd (oi (fC (.str "refused "))) (oi (f2 gIx (oi (fVar 5)) (oi (fVar 6)))))))) (fB (f2 gNe (oi (fCall F__law_field (fCons (oi (fVar 7)) fNil))) (oi (fVar 8)))))
     (cRet (fC (.bl false)))
     cNext)
    (cSeq (cIf (fOr (fNot (fB (f1 (gIsX xv [(.own "QuietError")]) (oi (fVar 7))))) (fNot (fB (f1 (gIsX xv [(.ty "ValueError")]) (oi (fVar 7))))))
     (cRet (fC (.bl false)))
     cNext)
    (cIf (fB (f2 gNe (oi (fCallO F__law_classes (fCons (oi (fVar 7)) fNil))) (oi (fLc (fiBy rg1 (fN (g1' gLen) (fCons (oi (fVar 4)) fNil))) false [9] fYes (f2 gEq (oi (fVar 9)) (oi (fVar 6)))))))
     (cRet (fC (.bl false)))
     cNext)))))
def lp2_law : FS := (cKil [1, 2, 3, 4, 5, 6, 7, 8] (cSeq (cOwn (fCallO F__law_state (fCons (oi (fVar 1)) fNil)) 2)
    (cSeq (cAsg (f2 gIx (oi (fLst (fCons (oi (fCall F__law_digit (fCons (foVar 2) (fCons (oi (fC (.int 100))) fNil)))) (fCons (oi (fC .non)) (fCons (oi (fC (.str "q"))) (fCons (oi (fLst (fCons (oi (fC (.int 1))) (fCons (oi (fLst (fCons (oi (fC (.int 2))) fNil))) fNil)))) (fCons (oi (fTup (fCons (oi (fC (.int 3))) fNil))) (fCons (oi (f1 gNeg (oi (fC (.int 5))))) fNil)))))))) (oi (fCall F__law_digit (fCons (foVar 2) (fCons (oi (fC (.int 6))) fNil))))) (tN 3))
    (cSeq (cAsg (fLst (fCons (oi (fExv "BadStream" "place" (fVar 3))) (fCons (oi (fExv "BadMember" "what" (fVar 3))) (fCons (oi (fExv "BadRow" "index" (fVar 3))) (fCons (oi (fExv "BadTrain" "what" (fVar 3))) (fCons (oi (fExv "NoEvent" "number" (fVar 3))) (fCons (oi (fExv "Large" "count" (fVar 3))) (fCons (oi (fExv "BadNumbers" "place" (fVar 3))) (fCons (oi (fExv "BadBus" "index" (fVar 3))) fNil))))))))) (tN 4))
    (cSeq (cAsg (f2 gCat (oi (fVar 4)) (oi (fLst (fCons (oi (fExv "NoInput" "name" (fVar 3))) (fCons (oi (fExv "NotLater" "time" (fVar 3))) (fCons (oi (fExv "BadText" "place" (fVar 3))) (fCons (oi (fExv0 "BadForm")) (fCons (oi (fExv0 "Mixed")) (fCons (oi (fExv0 "NoQuestion")) (fCons (oi (fExv0 "Untrue")) fNil)))))))))) (tN 4))
    (cSeq (cAsg (f2 gCat (oi (fVar 4)) (oi (fLst (fCons (oi (fExv0 "NotKnown")) (fCons (oi (fExv0 "OtherInputs")) (fCons (oi (fExv0 "NoBack")) (fCons (oi (fExv0 "NoName")) fNil))))))) (tN 4))
    (cSeq (cAsg (fLst (fCons (oi (fC (.str "badstream"))) (fCons (oi (fC (.str "badmember"))) (fCons (oi (fC (.str "badrow"))) (fCons (oi (fC (.str "badtrain"))) (fCons (oi (fC (.str "noevent"))) (fCons (oi (fC (.str "large"))) (fCons (oi (fC (.str "badnumbers"))) (fCons (oi (fC (.str "badbus"))) fNil))))))))) (tN 5))
    (cSeq (cAsg (f2 gCat (oi (fVar 5)) (oi (fLst (fCons (oi (fC (.str "noinput"))) (fCons (oi (fC (.str "notlater"))) (fCons (oi (fC (.str "badtext"))) (fCons (oi (fC (.str "badform"))) (fCons (oi (fC (.str "mixed"))) (fCons (oi (fC (.str "noquestion"))) (fCons (oi (fC (.str "untrue"))) fNil)))))))))) (tN 5))
    (cSeq (cAsg (f2 gCat (oi (fVar 5)) (oi (fLst (fCons (oi (fC (.str "notknown"))) (fCons (oi (fC (.str "otherinputs"))) (fCons (oi (fC (.str "noback"))) (fCons (oi (fC (.str "noname"))) fNil))))))) (tN 5))
    (cFor (fiBy enOfD (fVar 4)) (tT (tCons (tN 6) (tCons (tN 7) tNil)) 2)
     lp1_law))))))))))
def N_law : List Str := ["_law_script", "_law_cell", "_law_s", "_law_x", "_law_errors", "_law_words", "_law_at", "_law_error", "_law_due", "_law_k"]
def b_law : FS := (cSeq (cFor (fiBy seqOf (fSl (oi (f2 gCat (oi (fVar 0)) (oi (fLst (fCons (oi (fC (.int 0))) fNil))))) fpNone (fpSome (fC (.int 3))))) (tN 1)
     lp2_law)
    (cRet (fC (.bl true))))
def F_law : Fn := fnF 10 1 b_law
end
end Law

namespace Law
open PySem PySem.Spec L2 TL
structure Dg where
  a : Int
  b : Int
  c : Int
def dgD (s : Dg) : D := .lst [.int s.a, .int s.b, .int s.c]
structure Dg.ok (s : Dg) : Prop where
  a0 : 0 ≤ s.a
  b0 : 0 ≤ s.b
  b1 : s.b < 4294967296
  c0 : 0 ≤ s.c
  c1 : s.c < 4294967296
theorem F_state (n : Int) : ∃ s : Dg, s.ok ∧ F__law_state [.im (.int n)] = .ro (dgD s) [.im (.int n)] := by
  have hab : 0 ≤ (if n < 0 then -n else n) := by
    split <;> omega
  unfold F__law_state b__law_state
  have hp : powC 10 18 = true := by decide
  simp only [RD1, RD2, RD3, RD4, RD5, RD6, RD7, RD8, RD9, RD10, List.all_cons, List.all_nil, List.length_cons, List.length_nil, List.getElem?_cons_zero, List.getElem?_cons_succ, List.getElem?_nil, List.set_cons_zero, List.set_cons_succ, List.cons_append, List.nil_append, List.replicate_succ, List.replicate_zero, Nat.reduceAdd, Nat.reduceSub, Nat.reduceEqDiff, Nat.reduceLeDiff, Nat.reduceLT, Option.bind_some, Option.bind_none, Option.map_some, Option.map_none, if_true, if_false, ite_true, ite_false, reduceCtorEq, decide_true, decide_false, Int.reducePow, Int.reduceToNat, Int.reduceMul, Int.reduceAdd, Int.reduceSub, Int.reduceNeg, Int.reduceLT, Int.reduceLE, List.map_append, List.map_cons, List.map_nil, g2m_ii, tLl, gInD_n, gInD_i, gInD_s, mmInsertu, g4maxu, hp]
  generalize (if n < 0 then -n else n) = x at hab
  have hm : mulC x (if decide (1000000000000000000 ≤ x) = true then 1 else 0) = true := mulC_r (by split <;> decide)
  simp only [RD1, RD2, RD3, RD4, RD5, RD6, RD7, RD8, RD9, RD10, List.all_cons, List.all_nil, List.length_cons, List.length_nil, List.getElem?_cons_zero, List.getElem?_cons_succ, List.getElem?_nil, List.set_cons_zero, List.set_cons_succ, List.cons_append, List.nil_append, List.replicate_succ, List.replicate_zero, Nat.reduceAdd, Nat.reduceSub, Nat.reduceEqDiff, Nat.reduceLeDiff, Nat.reduceLT, Option.bind_some, Option.bind_none, Option.map_some, Option.map_none, if_true, if_false, ite_true, ite_false, reduceCtorEq, decide_true, decide_false, Int.reducePow, Int.reduceToNat, Int.reduceMul, Int.reduceAdd, Int.reduceSub, Int.reduceNeg, Int.reduceLT, Int.reduceLE, List.map_append, List.map_cons, List.map_nil, g2m_ii, tLl, gInD_n, gInD_i, gInD_s, mmInsertu, g4maxu, hm]
  refine ⟨⟨_, _, _⟩, ⟨?_, ?_, ?_, ?_, ?_⟩, rfl⟩
  · show 0 ≤ x * _
    split <;> omega
  · show 0 ≤ x % _ + 7
    omega
  · show x % 2147483629 + 7 < 4294967296
    omega
  · show 0 ≤ x % _
    omega
  · show x % 2147483587 < 4294967296
    omega
theorem F_digit (s : Dg) (m : Int) (o : s.ok) (h0 : 0 < m) (h1 : m < 2 ^ 200) : ∃ (s' : Dg) (r : Int), s'.ok ∧ 0 ≤ r ∧ r < m ∧ F__law_digit [.ow true (dgD s), .im (.int m)] = .rt (.int r) [.ow true (dgD s'), .im (.int m)] := by
  obtain ⟨a, b, c⟩ := s
  obtain ⟨oa, ob, ob1, oc, oc1⟩ := o
  unfold F__law_digit b__law_digit dgD
  dsimp only at oa ob ob1 oc oc1
  have i0 : ∀ x y z : Int, atI [D.int x, .int y, .int z] 0 = some (.int x) := fun x y z => rfl
  have i1 : ∀ x y z : Int, atI [D.int x, .int y, .int z] 1 = some (.int y) := fun x y z => rfl
  have i2 : ∀ x y z : Int, atI [D.int x, .int y, .int z] 2 = some (.int z) := fun x y z => rfl
  have j0 : ixN 3 0 = some 0 := rfl
  have j1 : ixN 3 1 = some 1 := rfl
  have hd : ∀ x, divC x m = true := fun x => divC_of h0 h1
  simp only [RD1, RD2, RD3, RD4, RD5, RD6, RD7, RD8, RD9, RD10, List.all_cons, List.all_nil, List.length_cons, List.length_nil, List.getElem?_cons_zero, List.getElem?_cons_succ, List.getElem?_nil, List.set_cons_zero, List.set_cons_succ, List.cons_append, List.nil_append, List.replicate_succ, List.replicate_zero, Nat.reduceAdd, Nat.reduceSub, Nat.reduceEqDiff, Nat.reduceLeDiff, Nat.reduceLT, Option.bind_some, Option.bind_none, Option.map_some, Option.map_none, if_true, if_false, ite_true, ite_false, reduceCtorEq, decide_true, decide_false, Int.reducePow, Int.reduceToNat, Int.reduceMul, Int.reduceAdd, Int.reduceSub, Int.reduceNeg, Int.reduceLT, Int.reduceLE, List.map_append, List.map_cons, List.map_nil, g2m_ii, tLl, gInD_n, gInD_i, gInD_s, mmInsertu, g4maxu, i0, i1, i2, j0, j1, h0, hd]
  by_cases ha : 0 < a
  · simp only [RD1, RD2, RD3, RD4, RD5, RD6, RD7, RD8, RD9, RD10, List.all_cons, List.all_nil, List.length_cons, List.length_nil, List.getElem?_cons_zero, List.getElem?_cons_succ, List.getElem?_nil, List.set_cons_zero, List.set_cons_succ, List.cons_append, List.nil_append, List.replicate_succ, List.replicate_zero, Nat.reduceAdd, Nat.reduceSub, Nat.reduceEqDiff, Nat.reduceLeDiff, Nat.reduceLT, Option.bind_some, Option.bind_none, Option.map_some, Option.map_none, if_true, if_false, ite_true, ite_false, reduceCtorEq, decide_true, decide_false, Int.reducePow, Int.reduceToNat, Int.reduceMul, Int.reduceAdd, Int.reduceSub, Int.reduceNeg, Int.reduceLT, Int.reduceLE, List.map_append, List.map_cons, List.map_nil, g2m_ii, tLl, gInD_n, gInD_i, gInD_s, mmInsertu, g4maxu, i0, i1, i2, j0, j1, h0, hd, ha]
    exact ⟨⟨a / m, b, c⟩, a % m, ⟨Int.ediv_nonneg oa (by omega), ob, ob1, oc, oc1⟩, Int.emod_nonneg _ (by omega), Int.emod_lt_of_pos _ h0, rfl⟩
  · have d1 : divC b 1009 = true := divC_of (by decide) (by decide)
    have m1 : mulC b (b / 1009 + 69621) = true := mulC_l ⟨by omega, by omega⟩
    have d2 : ∀ x, divC x 97 = true := fun x => divC_of (by decide) (by decide)
    simp only [RD1, RD2, RD3, RD4, RD5, RD6, RD7, RD8, RD9, RD10, List.all_cons, List.all_nil, List.length_cons, List.length_nil, List.getElem?_cons_zero, List.getElem?_cons_succ, List.getElem?_nil, List.set_cons_zero, List.set_cons_succ, List.cons_append, List.nil_append, List.replicate_succ, List.replicate_zero, Nat.reduceAdd, Nat.reduceSub, Nat.reduceEqDiff, Nat.reduceLeDiff, Nat.reduceLT, Option.bind_some, Option.bind_none, Option.map_some, Option.map_none, if_true, if_false, ite_true, ite_false, reduceCtorEq, decide_true, decide_false, Int.reducePow, Int.reduceToNat, Int.reduceMul, Int.reduceAdd, Int.reduceSub, Int.reduceNeg, Int.reduceLT, Int.reduceLE, List.map_append, List.map_cons, List.map_nil, g2m_ii, tLl, gInD_n, gInD_i, gInD_s, mmInsertu, g4maxu, i0, i1, i2, j0, j1, h0, hd, ha, d1, m1, d2]
    exact ⟨⟨a, (b * (b / 1009 + 69621) + c) % 2147483629 + 7, c⟩, _, ⟨oa, by show 0 ≤ _ % 2147483629 + 7; omega, by show _ % 2147483629 + 7 < 4294967296; omega, oc, oc1⟩, Int.emod_nonneg _ (by omega), Int.emod_lt_of_pos _ h0, rfl⟩

theorem gNe_self {d : D} (h : okD 16 d = true) : gNe d d = some (.bl false) := by
  unfold gNe
  rw [h]
  show some (D.bl (!eqD d d)) = _
  rw [eqD_refl h]
  rfl
theorem cut_to (l : List D) (k : Nat) : cutD l none (some (k : Int)) = l.take k := by
  unfold cutD
  rw [HT.sIx_none, HT.sIx_nat, List.drop_zero, Nat.sub_zero]
  rcases Nat.le_total k l.length with h | h
  · rw [Nat.min_eq_left h]
  · rw [Nat.min_eq_right h, List.take_length, List.take_of_length_le h]
theorem cells (ns : List Int) : cutD (ns.map D.int ++ [.int 0]) none (some 3) = ((ns ++ [0]).take 3).map D.int := by
  rw [show (3 : Int) = ((3 : Nat) : Int) from rfl, cut_to, List.map_take, List.map_append]
  rfl

theorem gEq_i01 (i j : Int) : gEq (.int i) (.int j) = some (.bl (decide (i = j))) := by
  show some (D.bl (eqD _ _)) = _
  rw [eqD_int]
def ers (x : D) : List D := [.exv "BadStream" ["place"] [x], .exv "BadMember" ["what"] [x], .exv "BadRow" ["index"] [x], .exv "BadTrain" ["what"] [x], .exv "NoEvent" ["number"] [x], .exv "Large" ["count"] [x], .exv "BadNumbers" ["place"] [x], .exv "BadBus" ["index"] [x], .exv "NoInput" ["name"] [x], .exv "NotLater" ["time"] [x], .exv "BadText" ["place"] [x], .exv "BadForm" [] [], .exv "Mixed" [] [], .exv "NoQuestion" [] [], .exv "Untrue" [] [], .exv "NotKnown" [] [], .exv "OtherInputs" [] [], .exv "NoBack" [] [], .exv "NoName" [] []]
def wds : List D := [.str "badstream", .str "badmember", .str "badrow", .str "badtrain", .str "noevent", .str "large", .str "badnumbers", .str "badbus", .str "noinput", .str "notlater", .str "badtext", .str "badform", .str "mixed", .str "noquestion", .str "untrue", .str "notknown", .str "otherinputs", .str "noback", .str "noname"]
def e01 (S c : Sl) (s : Dg) (x : D) (a b d : Sl) : Ev := [S, c, .ow false (dgD s), .im x, .im (.lst (ers x)), .im (.lst wds), a, b, d, .no]
theorem tn_0 {S c : Sl} {s : Dg} {x : D} (hx : okD 15 x = true) : lp1_law (e01 S c s x (.im (.int 0)) (.im (.exv "BadStream" ["place"] [x])) .no) = .nx (e01 S c s x .no .no .no) := by
  have h1 : F__law_field [.im (.exv "BadStream" ["place"] [x])] = .rt (.lst [x]) [.im (.exv "BadStream" ["place"] [x])] := by kernel_rfl
  have h2 : F__law_classes [.im (.exv "BadStream" ["place"] [x])] = .ro (.lst [.bl true, .bl false, .bl false, .bl false, .bl false, .bl false, .bl false, .bl false, .bl false, .bl false, .bl false, .bl false, .bl false, .bl false, .bl false, .bl false, .bl false, .bl false, .bl false]) [.im (.exv "BadStream" ["place"] [x])] := by kernel_rfl
  have h3 : ∀ d, fMethX "told" [("BadStream", F_BadStream_told), ("BadMember", F_BadMember_told), ("BadRow", F_BadRow_told), ("BadTrain", F_BadTrain_told), ("NoEvent", F_NoEvent_told), ("Large", F_Large_told), ("BadNumbers", F_BadNumbers_told), ("BadBus", F_BadBus_told), ("NoInput", F_NoInput_told), ("NotLater", F_NotLater_told), ("BadText", F_BadText_told), ("BadForm", F_BadForm_told), ("Mixed", F_Mixed_told), ("NoQuestion", F_NoQuestion_told), ("Untrue", F_Untrue_told), ("NotKnown", F_NotKnown_told), ("OtherInputs", F_OtherInputs_told), ("NoBack", F_NoBack_told), ("NoName", F_NoName_told)] (fVar 7) [S, c, .ow false (dgD s), .im x, .im (.lst (ers x)), .im (.lst wds), .im (.int 0), .im (.exv "BadStream" ["place"] [x]), d, .no] = .ok (.str "refused badstream") [S, c, .ow false (dgD s), .im x, .im (.lst (ers x)), .im (.lst wds), .im (.int 0), .im (.exv "BadStream" ["place"] [x]), d, .no] := fun d => by kernel_rfl
  have h4 : gIx (.lst wds) (.int 0) = some (.str "badstream") := by kernel_rfl
  have h5 : gAdd (.str "refused ") (.str "badstream") = some (.str "refused badstream") := by kernel_rfl
  have h6 : gNe (.str "refused badstream") (.str "refused badstream") = some (.bl false) := by kernel_rfl
  have q1 : gIsX xv [.own "QuietError"] (.exv "BadStream" ["place"] [x]) = some (.bl true) := by kernel_rfl
  have q2 : gIsX xv [.ty "ValueError"] (.exv "BadStream" ["place"] [x]) = some (.bl true) := by kernel_rfl
  have g1 : gNe (.lst [x]) (.lst [x]) = some (.bl false) := gNe_self (by show ([x].all (okD 15)) = true; rw [List.all_cons, hx]; rfl)
  have hl : gLen (.lst (ers x)) = some (.int 19) := rfl
  have g2 : gNe (.lst [.bl true, .bl false, .bl false, .bl false, .bl false, .bl false, .bl false, .bl false, .bl false, .bl false, .bl false, .bl false, .bl false, .bl false, .bl false, .bl false, .bl false, .bl false, .bl false]) (.lst [.bl true, .bl false, .bl false, .bl false, .bl false, .bl false, .bl false, .bl false, .bl false, .bl false, .bl false, .bl false, .bl false, .bl false, .bl false, .bl false, .bl false, .bl false, .bl false]) = some (.bl false) := by kernel_rfl
  have e2 : ((List.range 19).map fun k : Nat => D.bl (decide ((k : Int) = 0))) = [.bl true, .bl false, .bl false, .bl false, .bl false, .bl false, .bl false, .bl false, .bl false, .bl false, .bl false, .bl false, .bl false, .bl false, .bl false, .bl false, .bl false, .bl false, .bl false] := by kernel_rfl
  unfold e01 lp1_law
  simp only [RD1, RD2, RD3, RD4, RD5, RD6, RD7, RD8, RD9, RD10, List.all_cons, List.all_nil, List.length_cons, List.length_nil, List.getElem?_cons_zero, List.getElem?_cons_succ, List.getElem?_nil, List.set_cons_zero, List.set_cons_succ, List.cons_append, List.nil_append, List.replicate_succ, List.replicate_zero, Nat.reduceAdd, Nat.reduceSub, Nat.reduceEqDiff, Nat.reduceLeDiff, Nat.reduceLT, Option.bind_some, Option.bind_none, Option.map_some, Option.map_none, if_true, if_false, ite_true, ite_false, reduceCtorEq, decide_true, decide_false, Int.reducePow, Int.reduceToNat, Int.reduceMul, Int.reduceAdd, Int.reduceSub, Int.reduceNeg, Int.reduceLT, Int.reduceLE, List.map_append, List.map_cons, List.map_nil, g2m_ii, tLl, gInD_n, gInD_i, gInD_s, mmInsertu, g4maxu, h3, h4, h5, h6, h1, g1, q1, q2, h2, hl, show bnd 19 = true from by decide]
  rw [show rgD 0 19 = (List.range 19).map fun i : Nat => D.int (i : Nat) from by kernel_rfl, lcL_all (fun k : Nat => [D.int (k : Nat)]) (fun k : Nat => D.bl (decide ((k : Int) = 0))) (by simp only [RD1, RD2, RD3, RD4, RD5, RD6, RD7, RD8, RD9, RD10, List.all_cons, List.all_nil, List.length_cons, List.length_nil, List.getElem?_cons_zero, List.getElem?_cons_succ, List.getElem?_nil, List.set_cons_zero, List.set_cons_succ, List.cons_append, List.nil_append, List.replicate_succ, List.replicate_zero, Nat.reduceAdd, Nat.reduceSub, Nat.reduceEqDiff, Nat.reduceLeDiff, Nat.reduceLT, Option.bind_some, Option.bind_none, Option.map_some, Option.map_none, if_true, if_false, ite_true, ite_false, reduceCtorEq, decide_true, decide_false, Int.reducePow, Int.reduceToNat, Int.reduceMul, Int.reduceAdd, Int.reduceSub, Int.reduceNeg, Int.reduceLT, Int.reduceLE, List.map_append, List.map_cons, List.map_nil, g2m_ii, tLl, gInD_n, gInD_i, gInD_s, mmInsertu, g4maxu]) (by simp only [RD1, RD2, RD3, RD4, RD5, RD6, RD7, RD8, RD9, RD10, List.all_cons, List.all_nil, List.length_cons, List.length_nil, List.getElem?_cons_zero, List.getElem?_cons_succ, List.getElem?_nil, List.set_cons_zero, List.set_cons_succ, List.cons_append, List.nil_append, List.replicate_succ, List.replicate_zero, Nat.reduceAdd, Nat.reduceSub, Nat.reduceEqDiff, Nat.reduceLeDiff, Nat.reduceLT, Option.bind_some, Option.bind_none, Option.map_some, Option.map_none, if_true, if_false, ite_true, ite_false, reduceCtorEq, decide_true, decide_false, Int.reducePow, Int.reduceToNat, Int.reduceMul, Int.reduceAdd, Int.reduceSub, Int.reduceNeg, Int.reduceLT, Int.reduceLE, List.map_append, List.map_cons, List.map_nil, g2m_ii, tLl, gInD_n, gInD_i, gInD_s, mmInsertu, g4maxu]) (fun m _ => by simp only [RD1, RD2, RD3, RD4, RD5, RD6, RD7, RD8, RD9, RD10, List.all_cons, List.all_nil, List.length_cons, List.length_nil, List.getElem?_cons_zero, List.getElem?_cons_succ, List.getElem?_nil, List.set_cons_zero, List.set_cons_succ, List.cons_append, List.nil_append, List.replicate_succ, List.replicate_zero, Nat.reduceAdd, Nat.reduceSub, Nat.reduceEqDiff, Nat.reduceLeDiff, Nat.reduceLT, Option.bind_some, Option.bind_none, Option.map_some, Option.map_none, if_true, if_false, ite_true, ite_false, reduceCtorEq, decide_true, decide_false, Int.reducePow, Int.reduceToNat, Int.reduceMul, Int.reduceAdd, Int.reduceSub, Int.reduceNeg, Int.reduceLT, Int.reduceLE, List.map_append, List.map_cons, List.map_nil, g2m_ii, tLl, gInD_n, gInD_i, gInD_s, mmInsertu, g4maxu]) (fun m _ => by simp only [RD1, RD2, RD3, RD4, RD5, RD6, RD7, RD8, RD9, RD10, List.all_cons, List.all_nil, List.length_cons, List.length_nil, List.getElem?_cons_zero, List.getElem?_cons_succ, List.getElem?_nil, List.set_cons_zero, List.set_cons_succ, List.cons_append, List.nil_append, List.replicate_succ, List.replicate_zero, Nat.reduceAdd, Nat.reduceSub, Nat.reduceEqDiff, Nat.reduceLeDiff, Nat.reduceLT, Option.bind_some, Option.bind_none, Option.map_some, Option.map_none, if_true, if_false, ite_true, ite_false, reduceCtorEq, decide_true, decide_false, Int.reducePow, Int.reduceToNat, Int.reduceMul, Int.reduceAdd, Int.reduceSub, Int.reduceNeg, Int.reduceLT, Int.reduceLE, List.map_append, List.map_cons, List.map_nil, g2m_ii, tLl, gInD_n, gInD_i, gInD_s, mmInsertu, g4maxu, gEq_i01])]
  rw [e2]
  simp only [RD1, RD2, RD3, RD4, RD5, RD6, RD7, RD8, RD9, RD10, List.all_cons, List.all_nil, List.length_cons, List.length_nil, List.getElem?_cons_zero, List.getElem?_cons_succ, List.getElem?_nil, List.set_cons_zero, List.set_cons_succ, List.cons_append, List.nil_append, List.replicate_succ, List.replicate_zero, Nat.reduceAdd, Nat.reduceSub, Nat.reduceEqDiff, Nat.reduceLeDiff, Nat.reduceLT, Option.bind_some, Option.bind_none, Option.map_some, Option.map_none, if_true, if_false, ite_true, ite_false, reduceCtorEq, decide_true, decide_false, Int.reducePow, Int.reduceToNat, Int.reduceMul, Int.reduceAdd, Int.reduceSub, Int.reduceNeg, Int.reduceLT, Int.reduceLE, List.map_append, List.map_cons, List.map_nil, g2m_ii, tLl, gInD_n, gInD_i, gInD_s, mmInsertu, g4maxu, g2, List.length_cons, List.length_nil]
theorem tn_1 {S c : Sl} {s : Dg} {x : D} (hx : okD 15 x = true) : lp1_law (e01 S c s x (.im (.int 1)) (.im (.exv "BadMember" ["what"] [x])) .no) = .nx (e01 S c s x .no .no .no) := by
  have h1 : F__law_field [.im (.exv "BadMember" ["what"] [x])] = .rt (.lst [x]) [.im (.exv "BadMember" ["what"] [x])] := by kernel_rfl
  have h2 : F__law_classes [.im (.exv "BadMember" ["what"] [x])] = .ro (.lst [.bl false, .bl true, .bl false, .bl false, .bl false, .bl false, .bl false, .bl false, .bl false, .bl false, .bl false, .bl false, .bl false, .bl false, .bl false, .bl false, .bl false, .bl false, .bl false]) [.im (.exv "BadMember" ["what"] [x])] := by kernel_rfl
  have h3 : ∀ d, fMethX "told" [("BadStream", F_BadStream_told), ("BadMember", F_BadMember_told), ("BadRow", F_BadRow_told), ("BadTrain", F_BadTrain_told), ("NoEvent", F_NoEvent_told), ("Large", F_Large_told), ("BadNumbers", F_BadNumbers_told), ("BadBus", F_BadBus_told), ("NoInput", F_NoInput_told), ("NotLater", F_NotLater_told), ("BadText", F_BadText_told), ("BadForm", F_BadForm_told), ("Mixed", F_Mixed_told), ("NoQuestion", F_NoQuestion_told), ("Untrue", F_Untrue_told), ("NotKnown", F_NotKnown_told), ("OtherInputs", F_OtherInputs_told), ("NoBack", F_NoBack_told), ("NoName", F_NoName_told)] (fVar 7) [S, c, .ow false (dgD s), .im x, .im (.lst (ers x)), .im (.lst wds), .im (.int 1), .im (.exv "BadMember" ["what"] [x]), d, .no] = .ok (.str "refused badmember") [S, c, .ow false (dgD s), .im x, .im (.lst (ers x)), .im (.lst wds), .im (.int 1), .im (.exv "BadMember" ["what"] [x]), d, .no] := fun d => by kernel_rfl
  have h4 : gIx (.lst wds) (.int 1) = some (.str "badmember") := by kernel_rfl
  have h5 : gAdd (.str "refused ") (.str "badmember") = some (.str "refused badmember") := by kernel_rfl
  have h6 : gNe (.str "refused badmember") (.str "refused badmember") = some (.bl false) := by kernel_rfl
  have q1 : gIsX xv [.own "QuietError"] (.exv "BadMember" ["what"] [x]) = some (.bl true) := by kernel_rfl
  have q2 : gIsX xv [.ty "ValueError"] (.exv "BadMember" ["what"] [x]) = some (.bl true) := by kernel_rfl
  have g1 : gNe (.lst [x]) (.lst [x]) = some (.bl false) := gNe_self (by show ([x].all (okD 15)) = true; rw [List.all_cons, hx]; rfl)
  have hl : gLen (.lst (ers x)) = some (.int 19) := rfl
  have g2 : gNe (.lst [.bl false, .bl true, .bl false, .bl false, .bl false, .bl false, .bl false, .bl false, .bl false, .bl false, .bl false, .bl false, .bl false, .bl false, .bl false, .bl false, .bl false, .bl false, .bl false]) (.lst [.bl false, .bl true, .bl false, .bl false, .bl false, .bl false, .bl false, .bl false, .bl false, .bl false, .bl false, .bl false, .bl false, .bl false, .bl false, .bl false, .bl false, .bl false, .bl false]) = some (.bl false) := by kernel_rfl
  have e2 : ((List.range 19).map fun k : Nat => D.bl (decide ((k : Int) = 1))) = [.bl false, .bl true, .bl false, .bl false, .bl false, .bl false, .bl false, .bl false, .bl false, .bl false, .bl false, .bl false, .bl false, .bl false, .bl false, .bl false, .bl false, .bl false, .bl false] := by kernel_rfl
  unfold e01 lp1_law
  simp only [RD1, RD2, RD3, RD4, RD5, RD6, RD7, RD8, RD9, RD10, List.all_cons, List.all_nil, List.length_cons, List.length_nil, List.getElem?_cons_zero, List.getElem?_cons_succ, List.getElem?_nil, List.set_cons_zero, List.set_cons_succ, List.cons_append, List.nil_append, List.replicate_succ, List.replicate_zero, Nat.reduceAdd, Nat.reduceSub, Nat.reduceEqDiff, Nat.reduceLeDiff, Nat.reduceLT, Option.bind_some, Option.bind_none, Option.map_some, Option.map_none, if_true, if_false, ite_true, ite_false, reduceCtorEq, decide_true, decide_false, Int.reducePow, Int.reduceToNat, Int.reduceMul, Int.reduceAdd, Int.reduceSub, Int.reduceNeg, Int.reduceLT, Int.reduceLE, List.map_append, List.map_cons, List.map_nil, g2m_ii, tLl, gInD_n, gInD_i, gInD_s, mmInsertu, g4maxu, h3, h4, h5, h6, h1, g1, q1, q2, h2, hl, show bnd 19 = true from by decide]
  rw [show rgD 0 19 = (List.range 19).map fun i : Nat => D.int (i : Nat) from by kernel_rfl, lcL_all (fun k : Nat => [D.int (k : Nat)]) (fun k : Nat => D.bl (decide ((k : Int) = 1))) (by simp only [RD1, RD2, RD3, RD4, RD5, RD6, RD7, RD8, RD9, RD10, List.all_cons, List.all_nil, List.length_cons, List.length_nil, List.getElem?_cons_zero, List.getElem?_cons_succ, List.getElem?_nil, List.set_cons_zero, List.set_cons_succ, List.cons_append, List.nil_append, List.replicate_succ, List.replicate_zero, Nat.reduceAdd, Nat.reduceSub, Nat.reduceEqDiff, Nat.reduceLeDiff, Nat.reduceLT, Option.bind_some, Option.bind_none, Option.map_some, Option.map_none, if_true, if_false, ite_true, ite_false, reduceCtorEq, decide_true, decide_false, Int.reducePow, Int.reduceToNat, Int.reduceMul, Int.reduceAdd, Int.reduceSub, Int.reduceNeg, Int.reduceLT, Int.reduceLE, List.map_append, List.map_cons, List.map_nil, g2m_ii, tLl, gInD_n, gInD_i, gInD_s, mmInsertu, g4maxu]) (by simp only [RD1, RD2, RD3, RD4, RD5, RD6, RD7, RD8, RD9, RD10, List.all_cons, List.all_nil, List.length_cons, List.length_nil, List.getElem?_cons_zero, List.getElem?_cons_succ, List.getElem?_nil, List.set_cons_zero, List.set_cons_succ, List.cons_append, List.nil_append, List.replicate_succ, List.replicate_zero, Nat.reduceAdd, Nat.reduceSub, Nat.reduceEqDiff, Nat.reduceLeDiff, Nat.reduceLT, Option.bind_some, Option.bind_none, Option.map_some, Option.map_none, if_true, if_false, ite_true, ite_false, reduceCtorEq, decide_true, decide_false, Int.reducePow, Int.reduceToNat, Int.reduceMul, Int.reduceAdd, Int.reduceSub, Int.reduceNeg, Int.reduceLT, Int.reduceLE, List.map_append, List.map_cons, List.map_nil, g2m_ii, tLl, gInD_n, gInD_i, gInD_s, mmInsertu, g4maxu]) (fun m _ => by simp only [RD1, RD2, RD3, RD4, RD5, RD6, RD7, RD8, RD9, RD10, List.all_cons, List.all_nil, List.length_cons, List.length_nil, List.getElem?_cons_zero, List.getElem?_cons_succ, List.getElem?_nil, List.set_cons_zero, List.set_cons_succ, List.cons_append, List.nil_append, List.replicate_succ, List.replicate_zero, Nat.reduceAdd, Nat.reduceSub, Nat.reduceEqDiff, Nat.reduceLeDiff, Nat.reduceLT, Option.bind_some, Option.bind_none, Option.map_some, Option.map_none, if_true, if_false, ite_true, ite_false, reduceCtorEq, decide_true, decide_false, Int.reducePow, Int.reduceToNat, Int.reduceMul, Int.reduceAdd, Int.reduceSub, Int.reduceNeg, Int.reduceLT, Int.reduceLE, List.map_append, List.map_cons, List.map_nil, g2m_ii, tLl, gInD_n, gInD_i, gInD_s, mmInsertu, g4maxu]) (fun m _ => by simp only [RD1, RD2, RD3, RD4, RD5, RD6, RD7, RD8, RD9, RD10, List.all_cons, List.all_nil, List.length_cons, List.length_nil, List.getElem?_cons_zero, List.getElem?_cons_succ, List.getElem?_nil, List.set_cons_zero, List.set_cons_succ, List.cons_append, List.nil_append, List.replicate_succ, List.replicate_zero, Nat.reduceAdd, Nat.reduceSub, Nat.reduceEqDiff, Nat.reduceLeDiff, Nat.reduceLT, Option.bind_some, Option.bind_none, Option.map_some, Option.map_none, if_true, if_false, ite_true, ite_false, reduceCtorEq, decide_true, decide_false, Int.reducePow, Int.reduceToNat, Int.reduceMul, Int.reduceAdd, Int.reduceSub, Int.reduceNeg, Int.reduceLT, Int.reduceLE, List.map_append, List.map_cons, List.map_nil, g2m_ii, tLl, gInD_n, gInD_i, gInD_s, mmInsertu, g4maxu, gEq_i01])]
  rw [e2]
  simp only [RD1, RD2, RD3, RD4, RD5, RD6, RD7, RD8, RD9, RD10, List.all_cons, List.all_nil, List.length_cons, List.length_nil, List.getElem?_cons_zero, List.getElem?_cons_succ, List.getElem?_nil, List.set_cons_zero, List.set_cons_succ, List.cons_append, List.nil_append, List.replicate_succ, List.replicate_zero, Nat.reduceAdd, Nat.reduceSub, Nat.reduceEqDiff, Nat.reduceLeDiff, Nat.reduceLT, Option.bind_some, Option.bind_none, Option.map_some, Option.map_none, if_true, if_false, ite_true, ite_false, reduceCtorEq, decide_true, decide_false, Int.reducePow, Int.reduceToNat, Int.reduceMul, Int.reduceAdd, Int.reduceSub, Int.reduceNeg, Int.reduceLT, Int.reduceLE, List.map_append, List.map_cons, List.map_nil, g2m_ii, tLl, gInD_n, gInD_i, gInD_s, mmInsertu, g4maxu, g2, List.length_cons, List.length_nil]
theorem tn_2 {S c : Sl} {s : Dg} {x : D} (hx : okD 15 x = true) : lp1_law (e01 S c s x (.im (.int 2)) (.im (.exv "BadRow" ["index"] [x])) .no) = .nx (e01 S c s x .no .no .no) := by
  have h1 : F__law_field [.im (.exv "BadRow" ["index"] [x])] = .rt (.lst [x]) [.im (.exv "BadRow" ["index"] [x])] := by kernel_rfl
  have h2 : F__law_classes [.im (.exv "BadRow" ["index"] [x])] = .ro (.lst [.bl false, .bl false, .bl true, .bl false, .bl false, .bl false, .bl false, .bl false, .bl false, .bl false, .bl false, .bl false, .bl false, .bl false, .bl false, .bl false, .bl false, .bl false, .bl false]) [.im (.exv "BadRow" ["index"] [x])] := by kernel_rfl
  have h3 : ∀ d, fMethX "told" [("BadStream", F_BadStream_told), ("BadMember", F_BadMember_told), ("BadRow", F_BadRow_told), ("BadTrain", F_BadTrain_told), ("NoEvent", F_NoEvent_told), ("Large", F_Large_told), ("BadNumbers", F_BadNumbers_told), ("BadBus", F_BadBus_told), ("NoInput", F_NoInput_told), ("NotLater", F_NotLater_told), ("BadText", F_BadText_told), ("BadForm", F_BadForm_told), ("Mixed", F_Mixed_told), ("NoQuestion", F_NoQuestion_told), ("Untrue", F_Untrue_told), ("NotKnown", F_NotKnown_told), ("OtherInputs", F_OtherInputs_told), ("NoBack", F_NoBack_told), ("NoName", F_NoName_told)] (fVar 7) [S, c, .ow false (dgD s), .im x, .im (.lst (ers x)), .im (.lst wds), .im (.int 2), .im (.exv "BadRow" ["index"] [x]), d, .no] = .ok (.str "refused badrow") [S, c, .ow false (dgD s), .im x, .im (.lst (ers x)), .im (.lst wds), .im (.int 2), .im (.exv "BadRow" ["index"] [x]), d, .no] := fun d => by kernel_rfl
  have h4 : gIx (.lst wds) (.int 2) = some (.str "badrow") := by kernel_rfl
  have h5 : gAdd (.str "refused ") (.str "badrow") = some (.str "refused badrow") := by kernel_rfl
  have h6 : gNe (.str "refused badrow") (.str "refused badrow") = some (.bl false) := by kernel_rfl
  have q1 : gIsX xv [.own "QuietError"] (.exv "BadRow" ["index"] [x]) = some (.bl true) := by kernel_rfl
  have q2 : gIsX xv [.ty "ValueError"] (.exv "BadRow" ["index"] [x]) = some (.bl true) := by kernel_rfl
  have g1 : gNe (.lst [x]) (.lst [x]) = some (.bl false) := gNe_self (by show ([x].all (okD 15)) = true; rw [List.all_cons, hx]; rfl)
  have hl : gLen (.lst (ers x)) = some (.int 19) := rfl
  have g2 : gNe (.lst [.bl false, .bl false, .bl true, .bl false, .bl false, .bl false, .bl false, .bl false, .bl false, .bl false, .bl false, .bl false, .bl false, .bl false, .bl false, .bl false, .bl false, .bl false, .bl false]) (.lst [.bl false, .bl false, .bl true, .bl false, .bl false, .bl false, .bl false, .bl false, .bl false, .bl false, .bl false, .bl false, .bl false, .bl false, .bl false, .bl false, .bl false, .bl false, .bl false]) = some (.bl false) := by kernel_rfl
  have e2 : ((List.range 19).map fun k : Nat => D.bl (decide ((k : Int) = 2))) = [.bl false, .bl false, .bl true, .bl false, .bl false, .bl false, .bl false, .bl false, .bl false, .bl false, .bl false, .bl false, .bl false, .bl false, .bl false, .bl false, .bl false, .bl false, .bl false] := by kernel_rfl
  unfold e01 lp1_law
  simp only [RD1, RD2, RD3, RD4, RD5, RD6, RD7, RD8, RD9, RD10, List.all_cons, List.all_nil, List.length_cons, List.length_nil, List.getElem?_cons_zero, List.getElem?_cons_succ, List.getElem?_nil, List.set_cons_zero, List.set_cons_succ, List.cons_append, List.nil_append, List.replicate_succ, List.replicate_zero, Nat.reduceAdd, Nat.reduceSub, Nat.reduceEqDiff, Nat.reduceLeDiff, Nat.reduceLT, Option.bind_some, Option.bind_none, Option.map_some, Option.map_none, if_true, if_false, ite_true, ite_false, reduceCtorEq, decide_true, decide_false, Int.reducePow, Int.reduceToNat, Int.reduceMul, Int.reduceAdd, Int.reduceSub, Int.reduceNeg, Int.reduceLT, Int.reduceLE, List.map_append, List.map_cons, List.map_nil, g2m_ii, tLl, gInD_n, gInD_i, gInD_s, mmInsertu, g4maxu, h3, h4, h5, h6, h1, g1, q1, q2, h2, hl, show bnd 19 = true from by decide]
  rw [show rgD 0 19 = (List.range 19).map fun i : Nat => D.int (i : Nat) from by kernel_rfl, lcL_all (fun k : Nat => [D.int (k : Nat)]) (fun k : Nat => D.bl (decide ((k : Int) = 2))) (by simp only [RD1, RD2, RD3, RD4, RD5, RD6, RD7, RD8, RD9, RD10, List.all_cons, List.all_nil, List.length_cons, List.length_nil, List.getElem?_cons_zero, List.getElem?_cons_succ, List.getElem?_nil, List.set_cons_zero, List.set_cons_succ, List.cons_append, List.nil_append, List.replicate_succ, List.replicate_zero, Nat.reduceAdd, Nat.reduceSub, Nat.reduceEqDiff, Nat.reduceLeDiff, Nat.reduceLT, Option.bind_some, Option.bind_none, Option.map_some, Option.map_none, if_true, if_false, ite_true, ite_false, reduceCtorEq, decide_true, decide_false, Int.reducePow, Int.reduceToNat, Int.reduceMul, Int.reduceAdd, Int.reduceSub, Int.reduceNeg, Int.reduceLT, Int.reduceLE, List.map_append, List.map_cons, List.map_nil, g2m_ii, tLl, gInD_n, gInD_i, gInD_s, mmInsertu, g4maxu]) (by simp only [RD1, RD2, RD3, RD4, RD5, RD6, RD7, RD8, RD9, RD10, List.all_cons, List.all_nil, List.length_cons, List.length_nil, List.getElem?_cons_zero, List.getElem?_cons_succ, List.getElem?_nil, List.set_cons_zero, List.set_cons_succ, List.cons_append, List.nil_append, List.replicate_succ, List.replicate_zero, Nat.reduceAdd, Nat.reduceSub, Nat.reduceEqDiff, Nat.reduceLeDiff, Nat.reduceLT, Option.bind_some, Option.bind_none, Option.map_some, Option.map_none, if_true, if_false, ite_true, ite_false, reduceCtorEq, decide_true, decide_false, Int.reducePow, Int.reduceToNat, Int.reduceMul, Int.reduceAdd, Int.reduceSub, Int.reduceNeg, Int.reduceLT, Int.reduceLE, List.map_append, List.map_cons, List.map_nil, g2m_ii, tLl, gInD_n, gInD_i, gInD_s, mmInsertu, g4maxu]) (fun m _ => by simp only [RD1, RD2, RD3, RD4, RD5, RD6, RD7, RD8, RD9, RD10, List.all_cons, List.all_nil, List.length_cons, List.length_nil, List.getElem?_cons_zero, List.getElem?_cons_succ, List.getElem?_nil, List.set_cons_zero, List.set_cons_succ, List.cons_append, List.nil_append, List.replicate_succ, List.replicate_zero, Nat.reduceAdd, Nat.reduceSub, Nat.reduceEqDiff, Nat.reduceLeDiff, Nat.reduceLT, Option.bind_some, Option.bind_none, Option.map_some, Option.map_none, if_true, if_false, ite_true, ite_false, reduceCtorEq, decide_true, decide_false, Int.reducePow, Int.reduceToNat, Int.reduceMul, Int.reduceAdd, Int.reduceSub, Int.reduceNeg, Int.reduceLT, Int.reduceLE, List.map_append, List.map_cons, List.map_nil, g2m_ii, tLl, gInD_n, gInD_i, gInD_s, mmInsertu, g4maxu]) (fun m _ => by simp only [RD1, RD2, RD3, RD4, RD5, RD6, RD7, RD8, RD9, RD10, List.all_cons, List.all_nil, List.length_cons, List.length_nil, List.getElem?_cons_zero, List.getElem?_cons_succ, List.getElem?_nil, List.set_cons_zero, List.set_cons_succ, List.cons_append, List.nil_append, List.replicate_succ, List.replicate_zero, Nat.reduceAdd, Nat.reduceSub, Nat.reduceEqDiff, Nat.reduceLeDiff, Nat.reduceLT, Option.bind_some, Option.bind_none, Option.map_some, Option.map_none, if_true, if_false, ite_true, ite_false, reduceCtorEq, decide_true, decide_false, Int.reducePow, Int.reduceToNat, Int.reduceMul, Int.reduceAdd, Int.reduceSub, Int.reduceNeg, Int.reduceLT, Int.reduceLE, List.map_append, List.map_cons, List.map_nil, g2m_ii, tLl, gInD_n, gInD_i, gInD_s, mmInsertu, g4maxu, gEq_i01])]
  rw [e2]
  simp only [RD1, RD2, RD3, RD4, RD5, RD6, RD7, RD8, RD9, RD10, List.all_cons, List.all_nil, List.length_cons, List.length_nil, List.getElem?_cons_zero, List.getElem?_cons_succ, List.getElem?_nil, List.set_cons_zero, List.set_cons_succ, List.cons_append, List.nil_append, List.replicate_succ, List.replicate_zero, Nat.reduceAdd, Nat.reduceSub, Nat.reduceEqDiff, Nat.reduceLeDiff, Nat.reduceLT, Option.bind_some, Option.bind_none, Option.map_some, Option.map_none, if_true, if_false, ite_true, ite_false, reduceCtorEq, decide_true, decide_false, Int.reducePow, Int.reduceToNat, Int.reduceMul, Int.reduceAdd, Int.reduceSub, Int.reduceNeg, Int.reduceLT, Int.reduceLE, List.map_append, List.map_cons, List.map_nil, g2m_ii, tLl, gInD_n, gInD_i, gInD_s, mmInsertu, g4maxu, g2, List.length_cons, List.length_nil]
theorem tn_3 {S c : Sl} {s : Dg} {x : D} (hx : okD 15 x = true) : lp1_law (e01 S c s x (.im (.int 3)) (.im (.exv "BadTrain" ["what"] [x])) .no) = .nx (e01 S c s x .no .no .no) := by
  have h1 : F__law_field [.im (.exv "BadTrain" ["what"] [x])] = .rt (.lst [x]) [.im (.exv "BadTrain" ["what"] [x])] := by kernel_rfl
  have h2 : F__law_classes [.im (.exv "BadTrain" ["what"] [x])] = .ro (.lst [.bl false, .bl false, .bl false, .bl true, .bl false, .bl false, .bl false, .bl false, .bl false, .bl false, .bl false, .bl false, .bl false, .bl false, .bl false, .bl false, .bl false, .bl false, .bl false]) [.im (.exv "BadTrain" ["what"] [x])] := by kernel_rfl
  have h3 : ∀ d, fMethX "told" [("BadStream", F_BadStream_told), ("BadMember", F_BadMember_told), ("BadRow", F_BadRow_told), ("BadTrain", F_BadTrain_told), ("NoEvent", F_NoEvent_told), ("Large", F_Large_told), ("BadNumbers", F_BadNumbers_told), ("BadBus", F_BadBus_told), ("NoInput", F_NoInput_told), ("NotLater", F_NotLater_told), ("BadText", F_BadText_told), ("BadForm", F_BadForm_told), ("Mixed", F_Mixed_told), ("NoQuestion", F_NoQuestion_told), ("Untrue", F_Untrue_told), ("NotKnown", F_NotKnown_told), ("OtherInputs", F_OtherInputs_told), ("NoBack", F_NoBack_told), ("NoName", F_NoName_told)] (fVar 7) [S, c, .ow false (dgD s), .im x, .im (.lst (ers x)), .im (.lst wds), .im (.int 3), .im (.exv "BadTrain" ["what"] [x]), d, .no] = .ok (.str "refused badtrain") [S, c, .ow false (dgD s), .im x, .im (.lst (ers x)), .im (.lst wds), .im (.int 3), .im (.exv "BadTrain" ["what"] [x]), d, .no] := fun d => by kernel_rfl
  have h4 : gIx (.lst wds) (.int 3) = some (.str "badtrain") := by kernel_rfl
  have h5 : gAdd (.str "refused ") (.str "badtrain") = some (.str "refused badtrain") := by kernel_rfl
  have h6 : gNe (.str "refused badtrain") (.str "refused badtrain") = some (.bl false) := by kernel_rfl
  have q1 : gIsX xv [.own "QuietError"] (.exv "BadTrain" ["what"] [x]) = some (.bl true) := by kernel_rfl
  have q2 : gIsX xv [.ty "ValueError"] (.exv "BadTrain" ["what"] [x]) = some (.bl true) := by kernel_rfl
  have g1 : gNe (.lst [x]) (.lst [x]) = some (.bl false) := gNe_self (by show ([x].all (okD 15)) = true; rw [List.all_cons, hx]; rfl)
  have hl : gLen (.lst (ers x)) = some (.int 19) := rfl
  have g2 : gNe (.lst [.bl false, .bl false, .bl false, .bl true, .bl false, .bl false, .bl false, .bl false, .bl false, .bl false, .bl false, .bl false, .bl false, .bl false, .bl false, .bl false, .bl false, .bl false, .bl false]) (.lst [.bl false, .bl false, .bl false, .bl true, .bl false, .bl false, .bl false, .bl false, .bl false, .bl false, .bl false, .bl false, .bl false, .bl false, .bl false, .bl false, .bl false, .bl false, .bl false]) = some (.bl false) := by kernel_rfl
  have e2 : ((List.range 19).map fun k : Nat => D.bl (decide ((k : Int) = 3))) = [.bl false, .bl false, .bl false, .bl true, .bl false, .bl false, .bl false, .bl false, .bl false, .bl false, .bl false, .bl false, .bl false, .bl false, .bl false, .bl false, .bl false, .bl false, .bl false] := by kernel_rfl
  unfold e01 lp1_law
  simp only [RD1, RD2, RD3, RD4, RD5, RD6, RD7, RD8, RD9, RD10, List.all_cons, List.all_nil, List.length_cons, List.length_nil, List.getElem?_cons_zero, List.getElem?_cons_succ, List.getElem?_nil, List.set_cons_zero, List.set_cons_succ, List.cons_append, List.nil_append, List.replicate_succ, List.replicate_zero, Nat.reduceAdd, Nat.reduceSub, Nat.reduceEqDiff, Nat.reduceLeDiff, Nat.reduceLT, Option.bind_some, Option.bind_none, Option.map_some, Option.map_none, if_true, if_false, ite_true, ite_false, reduceCtorEq, decide_true, decide_false, Int.reducePow, Int.reduceToNat, Int.reduceMul, Int.reduceAdd, Int.reduceSub, Int.reduceNeg, Int.reduceLT, Int.reduceLE, List.map_append, List.map_cons, List.map_nil, g2m_ii, tLl, gInD_n, gInD_i, gInD_s, mmInsertu, g4maxu, h3, h4, h5, h6, h1, g1, q1, q2, h2, hl, show bnd 19 = true from by decide]
  rw [show rgD 0 19 = (List.range 19).map fun i : Nat => D.int (i : Nat) from by kernel_rfl, lcL_all (fun k : Nat => [D.int (k : Nat)]) (fun k : Nat => D.bl (decide ((k : Int) = 3))) (by simp only [RD1, RD2, RD3, RD4, RD5, RD6, RD7, RD8, RD9, RD10, List.all_cons, List.all_nil, List.length_cons, List.length_nil, List.getElem?_cons_zero, List.getElem?_cons_succ, List.getElem?_nil, List.set_cons_zero, List.set_cons_succ, List.cons_append, List.nil_append, List.replicate_succ, List.replicate_zero, Nat.reduceAdd, Nat.reduceSub, Nat.reduceEqDiff, Nat.reduceLeDiff, Nat.reduceLT, Option.bind_some, Option.bind_none, Option.map_some, Option.map_none, if_true, if_false, ite_true, ite_false, reduceCtorEq, decide_true, decide_false, Int.reducePow, Int.reduceToNat, Int.reduceMul, Int.reduceAdd, Int.reduceSub, Int.reduceNeg, Int.reduceLT, Int.reduceLE, List.map_append, List.map_cons, List.map_nil, g2m_ii, tLl, gInD_n, gInD_i, gInD_s, mmInsertu, g4maxu]) (by simp only [RD1, RD2, RD3, RD4, RD5, RD6, RD7, RD8, RD9, RD10, List.all_cons, List.all_nil, List.length_cons, List.length_nil, List.getElem?_cons_zero, List.getElem?_cons_succ, List.getElem?_nil, List.set_cons_zero, List.set_cons_succ, List.cons_append, List.nil_append, List.replicate_succ, List.replicate_zero, Nat.reduceAdd, Nat.reduceSub, Nat.reduceEqDiff, Nat.reduceLeDiff, Nat.reduceLT, Option.bind_some, Option.bind_none, Option.map_some, Option.map_none, if_true, if_false, ite_true, ite_false, reduceCtorEq, decide_true, decide_false, Int.reducePow, Int.reduceToNat, Int.reduceMul, Int.reduceAdd, Int.reduceSub, Int.reduceNeg, Int.reduceLT, Int.reduceLE, List.map_append, List.map_cons, List.map_nil, g2m_ii, tLl, gInD_n, gInD_i, gInD_s, mmInsertu, g4maxu]) (fun m _ => by simp only [RD1, RD2, RD3, RD4, RD5, RD6, RD7, RD8, RD9, RD10, List.all_cons, List.all_nil, List.length_cons, List.length_nil, List.getElem?_cons_zero, List.getElem?_cons_succ, List.getElem?_nil, List.set_cons_zero, List.set_cons_succ, List.cons_append, List.nil_append, List.replicate_succ, List.replicate_zero, Nat.reduceAdd, Nat.reduceSub, Nat.reduceEqDiff, Nat.reduceLeDiff, Nat.reduceLT, Option.bind_some, Option.bind_none, Option.map_some, Option.map_none, if_true, if_false, ite_true, ite_false, reduceCtorEq, decide_true, decide_false, Int.reducePow, Int.reduceToNat, Int.reduceMul, Int.reduceAdd, Int.reduceSub, Int.reduceNeg, Int.reduceLT, Int.reduceLE, List.map_append, List.map_cons, List.map_nil, g2m_ii, tLl, gInD_n, gInD_i, gInD_s, mmInsertu, g4maxu]) (fun m _ => by simp only [RD1, RD2, RD3, RD4, RD5, RD6, RD7, RD8, RD9, RD10, List.all_cons, List.all_nil, List.length_cons, List.length_nil, List.getElem?_cons_zero, List.getElem?_cons_succ, List.getElem?_nil, List.set_cons_zero, List.set_cons_succ, List.cons_append, List.nil_append, List.replicate_succ, List.replicate_zero, Nat.reduceAdd, Nat.reduceSub, Nat.reduceEqDiff, Nat.reduceLeDiff, Nat.reduceLT, Option.bind_some, Option.bind_none, Option.map_some, Option.map_none, if_true, if_false, ite_true, ite_false, reduceCtorEq, decide_true, decide_false, Int.reducePow, Int.reduceToNat, Int.reduceMul, Int.reduceAdd, Int.reduceSub, Int.reduceNeg, Int.reduceLT, Int.reduceLE, List.map_append, List.map_cons, List.map_nil, g2m_ii, tLl, gInD_n, gInD_i, gInD_s, mmInsertu, g4maxu, gEq_i01])]
  rw [e2]
  simp only [RD1, RD2, RD3, RD4, RD5, RD6, RD7, RD8, RD9, RD10, List.all_cons, List.all_nil, List.length_cons, List.length_nil, List.getElem?_cons_zero, List.getElem?_cons_succ, List.getElem?_nil, List.set_cons_zero, List.set_cons_succ, List.cons_append, List.nil_append, List.replicate_succ, List.replicate_zero, Nat.reduceAdd, Nat.reduceSub, Nat.reduceEqDiff, Nat.reduceLeDiff, Nat.reduceLT, Option.bind_some, Option.bind_none, Option.map_some, Option.map_none, if_true, if_false, ite_true, ite_false, reduceCtorEq, decide_true, decide_false, Int.reducePow, Int.reduceToNat, Int.reduceMul, Int.reduceAdd, Int.reduceSub, Int.reduceNeg, Int.reduceLT, Int.reduceLE, List.map_append, List.map_cons, List.map_nil, g2m_ii, tLl, gInD_n, gInD_i, gInD_s, mmInsertu, g4maxu, g2, List.length_cons, List.length_nil]
theorem tn_4 {S c : Sl} {s : Dg} {x : D} (hx : okD 15 x = true) : lp1_law (e01 S c s x (.im (.int 4)) (.im (.exv "NoEvent" ["number"] [x])) .no) = .nx (e01 S c s x .no .no .no) := by
  have h1 : F__law_field [.im (.exv "NoEvent" ["number"] [x])] = .rt (.lst [x]) [.im (.exv "NoEvent" ["number"] [x])] := by kernel_rfl
  have h2 : F__law_classes [.im (.exv "NoEvent" ["number"] [x])] = .ro (.lst [.bl false, .bl false, .bl false, .bl false, .bl true, .bl false, .bl false, .bl false, .bl false, .bl false, .bl false, .bl false, .bl false, .bl false, .bl false, .bl false, .bl false, .bl false, .bl false]) [.im (.exv "NoEvent" ["number"] [x])] := by kernel_rfl
  have h3 : ∀ d, fMethX "told" [("BadStream", F_BadStream_told), ("BadMember", F_BadMember_told), ("BadRow", F_BadRow_told), ("BadTrain", F_BadTrain_told), ("NoEvent", F_NoEvent_told), ("Large", F_Large_told), ("BadNumbers", F_BadNumbers_told), ("BadBus", F_BadBus_told), ("NoInput", F_NoInput_told), ("NotLater", F_NotLater_told), ("BadText", F_BadText_told), ("BadForm", F_BadForm_told), ("Mixed", F_Mixed_told), ("NoQuestion", F_NoQuestion_told), ("Untrue", F_Untrue_told), ("NotKnown", F_NotKnown_told), ("OtherInputs", F_OtherInputs_told), ("NoBack", F_NoBack_told), ("NoName", F_NoName_told)] (fVar 7) [S, c, .ow false (dgD s), .im x, .im (.lst (ers x)), .im (.lst wds), .im (.int 4), .im (.exv "NoEvent" ["number"] [x]), d, .no] = .ok (.str "refused noevent") [S, c, .ow false (dgD s), .im x, .im (.lst (ers x)), .im (.lst wds), .im (.int 4), .im (.exv "NoEvent" ["number"] [x]), d, .no] := fun d => by kernel_rfl
  have h4 : gIx (.lst wds) (.int 4) = some (.str "noevent") := by kernel_rfl
  have h5 : gAdd (.str "refused ") (.str "noevent") = some (.str "refused noevent") := by kernel_rfl
  have h6 : gNe (.str "refused noevent") (.str "refused noevent") = some (.bl false) := by kernel_rfl
  have q1 : gIsX xv [.own "QuietError"] (.exv "NoEvent" ["number"] [x]) = some (.bl true) := by kernel_rfl
  have q2 : gIsX xv [.ty "ValueError"] (.exv "NoEvent" ["number"] [x]) = some (.bl true) := by kernel_rfl
  have g1 : gNe (.lst [x]) (.lst [x]) = some (.bl false) := gNe_self (by show ([x].all (okD 15)) = true; rw [List.all_cons, hx]; rfl)
  have hl : gLen (.lst (ers x)) = some (.int 19) := rfl
  have g2 : gNe (.lst [.bl false, .bl false, .bl false, .bl false, .bl true, .bl false, .bl false, .bl false, .bl false, .bl false, .bl false, .bl false, .bl false, .bl false, .bl false, .bl false, .bl false, .bl false, .bl false]) (.lst [.bl false, .bl false, .bl false, .bl false, .bl true, .bl false, .bl false, .bl false, .bl false, .bl false, .bl false, .bl false, .bl false, .bl false, .bl false, .bl false, .bl false, .bl false, .bl false]) = some (.bl false) := by kernel_rfl
  have e2 : ((List.range 19).map fun k : Nat => D.bl (decide ((k : Int) = 4))) = [.bl false, .bl false, .bl false, .bl false, .bl true, .bl false, .bl false, .bl false, .bl false, .bl false, .bl false, .bl false, .bl false, .bl false, .bl false, .bl false, .bl false, .bl false, .bl false] := by kernel_rfl
  unfold e01 lp1_law
  simp only [RD1, RD2, RD3, RD4, RD5, RD6, RD7, RD8, RD9, RD10, List.all_cons, List.all_nil, List.length_cons, List.length_nil, List.getElem?_cons_zero, List.getElem?_cons_succ, List.getElem?_nil, List.set_cons_zero, List.set_cons_succ, List.cons_append, List.nil_append, List.replicate_succ, List.replicate_zero, Nat.reduceAdd, Nat.reduceSub, Nat.reduceEqDiff, Nat.reduceLeDiff, Nat.reduceLT, Option.bind_some, Option.bind_none, Option.map_some, Option.map_none, if_true, if_false, ite_true, ite_false, reduceCtorEq, decide_true, decide_false, Int.reducePow, Int.reduceToNat, Int.reduceMul, Int.reduceAdd, Int.reduceSub, Int.reduceNeg, Int.reduceLT, Int.reduceLE, List.map_append, List.map_cons, List.map_nil, g2m_ii, tLl, gInD_n, gInD_i, gInD_s, mmInsertu, g4maxu, h3, h4, h5, h6, h1, g1, q1, q2, h2, hl, show bnd 19 = true from by decide]
  rw [show rgD 0 19 = (List.range 19).map fun i : Nat => D.int (i : Nat) from by kernel_rfl, lcL_all (fun k : Nat => [D.int (k : Nat)]) (fun k : Nat => D.bl (decide ((k : Int) = 4))) (by simp only [RD1, RD2, RD3, RD4, RD5, RD6, RD7, RD8, RD9, RD10, List.all_cons, List.all_nil, List.length_cons, List.length_nil, List.getElem?_cons_zero, List.getElem?_cons_succ, List.getElem?_nil, List.set_cons_zero, List.set_cons_succ, List.cons_append, List.nil_append, List.replicate_succ, List.replicate_zero, Nat.reduceAdd, Nat.reduceSub, Nat.reduceEqDiff, Nat.reduceLeDiff, Nat.reduceLT, Option.bind_some, Option.bind_none, Option.map_some, Option.map_none, if_true, if_false, ite_true, ite_false, reduceCtorEq, decide_true, decide_false, Int.reducePow, Int.reduceToNat, Int.reduceMul, Int.reduceAdd, Int.reduceSub, Int.reduceNeg, Int.reduceLT, Int.reduceLE, List.map_append, List.map_cons, List.map_nil, g2m_ii, tLl, gInD_n, gInD_i, gInD_s, mmInsertu, g4maxu]) (by simp only [RD1, RD2, RD3, RD4, RD5, RD6, RD7, RD8, RD9, RD10, List.all_cons, List.all_nil, List.length_cons, List.length_nil, List.getElem?_cons_zero, List.getElem?_cons_succ, List.getElem?_nil, List.set_cons_zero, List.set_cons_succ, List.cons_append, List.nil_append, List.replicate_succ, List.replicate_zero, Nat.reduceAdd, Nat.reduceSub, Nat.reduceEqDiff, Nat.reduceLeDiff, Nat.reduceLT, Option.bind_some, Option.bind_none, Option.map_some, Option.map_none, if_true, if_false, ite_true, ite_false, reduceCtorEq, decide_true, decide_false, Int.reducePow, Int.reduceToNat, Int.reduceMul, Int.reduceAdd, Int.reduceSub, Int.reduceNeg, Int.reduceLT, Int.reduceLE, List.map_append, List.map_cons, List.map_nil, g2m_ii, tLl, gInD_n, gInD_i, gInD_s, mmInsertu, g4maxu]) (fun m _ => by simp only [RD1, RD2, RD3, RD4, RD5, RD6, RD7, RD8, RD9, RD10, List.all_cons, List.all_nil, List.length_cons, List.length_nil, List.getElem?_cons_zero, List.getElem?_cons_succ, List.getElem?_nil, List.set_cons_zero, List.set_cons_succ, List.cons_append, List.nil_append, List.replicate_succ, List.replicate_zero, Nat.reduceAdd, Nat.reduceSub, Nat.reduceEqDiff, Nat.reduceLeDiff, Nat.reduceLT, Option.bind_some, Option.bind_none, Option.map_some, Option.map_none, if_true, if_false, ite_true, ite_false, reduceCtorEq, decide_true, decide_false, Int.reducePow, Int.reduceToNat, Int.reduceMul, Int.reduceAdd, Int.reduceSub, Int.reduceNeg, Int.reduceLT, Int.reduceLE, List.map_append, List.map_cons, List.map_nil, g2m_ii, tLl, gInD_n, gInD_i, gInD_s, mmInsertu, g4maxu]) (fun m _ => by simp only [RD1, RD2, RD3, RD4, RD5, RD6, RD7, RD8, RD9, RD10, List.all_cons, List.all_nil, List.length_cons, List.length_nil, List.getElem?_cons_zero, List.getElem?_cons_succ, List.getElem?_nil, List.set_cons_zero, List.set_cons_succ, List.cons_append, List.nil_append, List.replicate_succ, List.replicate_zero, Nat.reduceAdd, Nat.reduceSub, Nat.reduceEqDiff, Nat.reduceLeDiff, Nat.reduceLT, Option.bind_some, Option.bind_none, Option.map_some, Option.map_none, if_true, if_false, ite_true, ite_false, reduceCtorEq, decide_true, decide_false, Int.reducePow, Int.reduceToNat, Int.reduceMul, Int.reduceAdd, Int.reduceSub, Int.reduceNeg, Int.reduceLT, Int.reduceLE, List.map_append, List.map_cons, List.map_nil, g2m_ii, tLl, gInD_n, gInD_i, gInD_s, mmInsertu, g4maxu, gEq_i01])]
  rw [e2]
  simp only [RD1, RD2, RD3, RD4, RD5, RD6, RD7, RD8, RD9, RD10, List.all_cons, List.all_nil, List.length_cons, List.length_nil, List.getElem?_cons_zero, List.getElem?_cons_succ, List.getElem?_nil, List.set_cons_zero, List.set_cons_succ, List.cons_append, List.nil_append, List.replicate_succ, List.replicate_zero, Nat.reduceAdd, Nat.reduceSub, Nat.reduceEqDiff, Nat.reduceLeDiff, Nat.reduceLT, Option.bind_some, Option.bind_none, Option.map_some, Option.map_none, if_true, if_false, ite_true, ite_false, reduceCtorEq, decide_true, decide_false, Int.reducePow, Int.reduceToNat, Int.reduceMul, Int.reduceAdd, Int.reduceSub, Int.reduceNeg, Int.reduceLT, Int.reduceLE, List.map_append, List.map_cons, List.map_nil, g2m_ii, tLl, gInD_n, gInD_i, gInD_s, mmInsertu, g4maxu, g2, List.length_cons, List.length_nil]
theorem tn_5 {S c : Sl} {s : Dg} {x : D} (hx : okD 15 x = true) : lp1_law (e01 S c s x (.im (.int 5)) (.im (.exv "Large" ["count"] [x])) .no) = .nx (e01 S c s x .no .no .no) := by
  have h1 : F__law_field [.im (.exv "Large" ["count"] [x])] = .rt (.lst [x]) [.im (.exv "Large" ["count"] [x])] := by kernel_rfl
  have h2 : F__law_classes [.im (.exv "Large" ["count"] [x])] = .ro (.lst [.bl false, .bl false, .bl false, .bl false, .bl false, .bl true, .bl false, .bl false, .bl false, .bl false, .bl false, .bl false, .bl false, .bl false, .bl false, .bl false, .bl false, .bl false, .bl false]) [.im (.exv "Large" ["count"] [x])] := by kernel_rfl
  have h3 : ∀ d, fMethX "told" [("BadStream", F_BadStream_told), ("BadMember", F_BadMember_told), ("BadRow", F_BadRow_told), ("BadTrain", F_BadTrain_told), ("NoEvent", F_NoEvent_told), ("Large", F_Large_told), ("BadNumbers", F_BadNumbers_told), ("BadBus", F_BadBus_told), ("NoInput", F_NoInput_told), ("NotLater", F_NotLater_told), ("BadText", F_BadText_told), ("BadForm", F_BadForm_told), ("Mixed", F_Mixed_told), ("NoQuestion", F_NoQuestion_told), ("Untrue", F_Untrue_told), ("NotKnown", F_NotKnown_told), ("OtherInputs", F_OtherInputs_told), ("NoBack", F_NoBack_told), ("NoName", F_NoName_told)] (fVar 7) [S, c, .ow false (dgD s), .im x, .im (.lst (ers x)), .im (.lst wds), .im (.int 5), .im (.exv "Large" ["count"] [x]), d, .no] = .ok (.str "refused large") [S, c, .ow false (dgD s), .im x, .im (.lst (ers x)), .im (.lst wds), .im (.int 5), .im (.exv "Large" ["count"] [x]), d, .no] := fun d => by kernel_rfl
  have h4 : gIx (.lst wds) (.int 5) = some (.str "large") := by kernel_rfl
  have h5 : gAdd (.str "refused ") (.str "large") = some (.str "refused large") := by kernel_rfl
  have h6 : gNe (.str "refused large") (.str "refused large") = some (.bl false) := by kernel_rfl
  have q1 : gIsX xv [.own "QuietError"] (.exv "Large" ["count"] [x]) = some (.bl true) := by kernel_rfl
  have q2 : gIsX xv [.ty "ValueError"] (.exv "Large" ["count"] [x]) = some (.bl true) := by kernel_rfl
  have g1 : gNe (.lst [x]) (.lst [x]) = some (.bl false) := gNe_self (by show ([x].all (okD 15)) = true; rw [List.all_cons, hx]; rfl)
  have hl : gLen (.lst (ers x)) = some (.int 19) := rfl
  have g2 : gNe (.lst [.bl false, .bl false, .bl false, .bl false, .bl false, .bl true, .bl false, .bl false, .bl false, .bl false, .bl false, .bl false, .bl false, .bl false, .bl false, .bl false, .bl false, .bl false, .bl false]) (.lst [.bl false, .bl false, .bl false, .bl false, .bl false, .bl true, .bl false, .bl false, .bl false, .bl false, .bl false, .bl false, .bl false, .bl false, .bl false, .bl false, .bl false, .bl false, .bl false]) = some (.bl false) := by kernel_rfl
  have e2 : ((List.range 19).map fun k : Nat => D.bl (decide ((k : Int) = 5))) = [.bl false, .bl false, .bl false, .bl false, .bl false, .bl true, .bl false, .bl false, .bl false, .bl false, .bl false, .bl false, .bl false, .bl false, .bl false, .bl false, .bl false, .bl false, .bl false] := by kernel_rfl
  unfold e01 lp1_law
  simp only [RD1, RD2, RD3, RD4, RD5, RD6, RD7, RD8, RD9, RD10, List.all_cons, List.all_nil, List.length_cons, List.length_nil, List.getElem?_cons_zero, List.getElem?_cons_succ, List.getElem?_nil, List.set_cons_zero, List.set_cons_succ, List.cons_append, List.nil_append, List.replicate_succ, List.replicate_zero, Nat.reduceAdd, Nat.reduceSub, Nat.reduceEqDiff, Nat.reduceLeDiff, Nat.reduceLT, Option.bind_some, Option.bind_none, Option.map_some, Option.map_none, if_true, if_false, ite_true, ite_false, reduceCtorEq, decide_true, decide_false, Int.reducePow, Int.reduceToNat, Int.reduceMul, Int.reduceAdd, Int.reduceSub, Int.reduceNeg, Int.reduceLT, Int.reduceLE, List.map_append, List.map_cons, List.map_nil, g2m_ii, tLl, gInD_n, gInD_i, gInD_s, mmInsertu, g4maxu, h3, h4, h5, h6, h1, g1, q1, q2, h2, hl, show bnd 19 = true from by decide]
  rw [show rgD 0 19 = (List.range 19).map fun i : Nat => D.int (i : Nat) from by kernel_rfl, lcL_all (fun k : Nat => [D.int (k : Nat)]) (fun k : Nat => D.bl (decide ((k : Int) = 5))) (by simp only [RD1, RD2, RD3, RD4, RD5, RD6, RD7, RD8, RD9, RD10, List.all_cons, List.all_nil, List.length_cons, List.length_nil, List.getElem?_cons_zero, List.getElem?_cons_succ, List.getElem?_nil, List.set_cons_zero, List.set_cons_succ, List.cons_append, List.nil_append, List.replicate_succ, List.replicate_zero, Nat.reduceAdd, Nat.reduceSub, Nat.reduceEqDiff, Nat.reduceLeDiff, Nat.reduceLT, Option.bind_some, Option.bind_none, Option.map_some, Option.map_none, if_true, if_false, ite_true, ite_false, reduceCtorEq, decide_true, decide_false, Int.reducePow, Int.reduceToNat, Int.reduceMul, Int.reduceAdd, Int.reduceSub, Int.reduceNeg, Int.reduceLT, Int.reduceLE, List.map_append, List.map_cons, List.map_nil, g2m_ii, tLl, gInD_n, gInD_i, gInD_s, mmInsertu, g4maxu]) (by simp only [RD1, RD2, RD3, RD4, RD5, RD6, RD7, RD8, RD9, RD10, List.all_cons, List.all_nil, List.length_cons, List.length_nil, List.getElem?_cons_zero, List.getElem?_cons_succ, List.getElem?_nil, List.set_cons_zero, List.set_cons_succ, List.cons_append, List.nil_append, List.replicate_succ, List.replicate_zero, Nat.reduceAdd, Nat.reduceSub, Nat.reduceEqDiff, Nat.reduceLeDiff, Nat.reduceLT, Option.bind_some, Option.bind_none, Option.map_some, Option.map_none, if_true, if_false, ite_true, ite_false, reduceCtorEq, decide_true, decide_false, Int.reducePow, Int.reduceToNat, Int.reduceMul, Int.reduceAdd, Int.reduceSub, Int.reduceNeg, Int.reduceLT, Int.reduceLE, List.map_append, List.map_cons, List.map_nil, g2m_ii, tLl, gInD_n, gInD_i, gInD_s, mmInsertu, g4maxu]) (fun m _ => by simp only [RD1, RD2, RD3, RD4, RD5, RD6, RD7, RD8, RD9, RD10, List.all_cons, List.all_nil, List.length_cons, List.length_nil, List.getElem?_cons_zero, List.getElem?_cons_succ, List.getElem?_nil, List.set_cons_zero, List.set_cons_succ, List.cons_append, List.nil_append, List.replicate_succ, List.replicate_zero, Nat.reduceAdd, Nat.reduceSub, Nat.reduceEqDiff, Nat.reduceLeDiff, Nat.reduceLT, Option.bind_some, Option.bind_none, Option.map_some, Option.map_none, if_true, if_false, ite_true, ite_false, reduceCtorEq, decide_true, decide_false, Int.reducePow, Int.reduceToNat, Int.reduceMul, Int.reduceAdd, Int.reduceSub, Int.reduceNeg, Int.reduceLT, Int.reduceLE, List.map_append, List.map_cons, List.map_nil, g2m_ii, tLl, gInD_n, gInD_i, gInD_s, mmInsertu, g4maxu]) (fun m _ => by simp only [RD1, RD2, RD3, RD4, RD5, RD6, RD7, RD8, RD9, RD10, List.all_cons, List.all_nil, List.length_cons, List.length_nil, List.getElem?_cons_zero, List.getElem?_cons_succ, List.getElem?_nil, List.set_cons_zero, List.set_cons_succ, List.cons_append, List.nil_append, List.replicate_succ, List.replicate_zero, Nat.reduceAdd, Nat.reduceSub, Nat.reduceEqDiff, Nat.reduceLeDiff, Nat.reduceLT, Option.bind_some, Option.bind_none, Option.map_some, Option.map_none, if_true, if_false, ite_true, ite_false, reduceCtorEq, decide_true, decide_false, Int.reducePow, Int.reduceToNat, Int.reduceMul, Int.reduceAdd, Int.reduceSub, Int.reduceNeg, Int.reduceLT, Int.reduceLE, List.map_append, List.map_cons, List.map_nil, g2m_ii, tLl, gInD_n, gInD_i, gInD_s, mmInsertu, g4maxu, gEq_i01])]
  rw [e2]
  simp only [RD1, RD2, RD3, RD4, RD5, RD6, RD7, RD8, RD9, RD10, List.all_cons, List.all_nil, List.length_cons, List.length_nil, List.getElem?_cons_zero, List.getElem?_cons_succ, List.getElem?_nil, List.set_cons_zero, List.set_cons_succ, List.cons_append, List.nil_append, List.replicate_succ, List.replicate_zero, Nat.reduceAdd, Nat.reduceSub, Nat.reduceEqDiff, Nat.reduceLeDiff, Nat.reduceLT, Option.bind_some, Option.bind_none, Option.map_some, Option.map_none, if_true, if_false, ite_true, ite_false, reduceCtorEq, decide_true, decide_false, Int.reducePow, Int.reduceToNat, Int.reduceMul, Int.reduceAdd, Int.reduceSub, Int.reduceNeg, Int.reduceLT, Int.reduceLE, List.map_append, List.map_cons, List.map_nil, g2m_ii, tLl, gInD_n, gInD_i, gInD_s, mmInsertu, g4maxu, g2, List.length_cons, List.length_nil]
theorem tn_6 {S c : Sl} {s : Dg} {x : D} (hx : okD 15 x = true) : lp1_law (e01 S c s x (.im (.int 6)) (.im (.exv "BadNumbers" ["place"] [x])) .no) = .nx (e01 S c s x .no .no .no) := by
  have h1 : F__law_field [.im (.exv "BadNumbers" ["place"] [x])] = .rt (.lst [x]) [.im (.exv "BadNumbers" ["place"] [x])] := by kernel_rfl
  have h2 : F__law_classes [.im (.exv "BadNumbers" ["place"] [x])] = .ro (.lst [.bl false, .bl false, .bl false, .bl false, .bl false, .bl false, .bl true, .bl false, .bl false, .bl false, .bl false, .bl false, .bl false, .bl false, .bl false, .bl false, .bl false, .bl false, .bl false]) [.im (.exv "BadNumbers" ["place"] [x])] := by kernel_rfl
  have h3 : ∀ d, fMethX "told" [("BadStream", F_BadStream_told), ("BadMember", F_BadMember_told), ("BadRow", F_BadRow_told), ("BadTrain", F_BadTrain_told), ("NoEvent", F_NoEvent_told), ("Large", F_Large_told), ("BadNumbers", F_BadNumbers_told), ("BadBus", F_BadBus_told), ("NoInput", F_NoInput_told), ("NotLater", F_NotLater_told), ("BadText", F_BadText_told), ("BadForm", F_BadForm_told), ("Mixed", F_Mixed_told), ("NoQuestion", F_NoQuestion_told), ("Untrue", F_Untrue_told), ("NotKnown", F_NotKnown_told), ("OtherInputs", F_OtherInputs_told), ("NoBack", F_NoBack_told), ("NoName", F_NoName_told)] (fVar 7) [S, c, .ow false (dgD s), .im x, .im (.lst (ers x)), .im (.lst wds), .im (.int 6), .im (.exv "BadNumbers" ["place"] [x]), d, .no] = .ok (.str "refused badnumbers") [S, c, .ow false (dgD s), .im x, .im (.lst (ers x)), .im (.lst wds), .im (.int 6), .im (.exv "BadNumbers" ["place"] [x]), d, .no] := fun d => by kernel_rfl
  have h4 : gIx (.lst wds) (.int 6) = some (.str "badnumbers") := by kernel_rfl
  have h5 : gAdd (.str "refused ") (.str "badnumbers") = some (.str "refused badnumbers") := by kernel_rfl
  have h6 : gNe (.str "refused badnumbers") (.str "refused badnumbers") = some (.bl false) := by kernel_rfl
  have q1 : gIsX xv [.own "QuietError"] (.exv "BadNumbers" ["place"] [x]) = some (.bl true) := by kernel_rfl
  have q2 : gIsX xv [.ty "ValueError"] (.exv "BadNumbers" ["place"] [x]) = some (.bl true) := by kernel_rfl
  have g1 : gNe (.lst [x]) (.lst [x]) = some (.bl false) := gNe_self (by show ([x].all (okD 15)) = true; rw [List.all_cons, hx]; rfl)
  have hl : gLen (.lst (ers x)) = some (.int 19) := rfl
  have g2 : gNe (.lst [.bl false, .bl false, .bl false, .bl false, .bl false, .bl false, .bl true, .bl false, .bl false, .bl false, .bl false, .bl false, .bl false, .bl false, .bl false, .bl false, .bl false, .bl false, .bl false]) (.lst [.bl false, .bl false, .bl false, .bl false, .bl false, .bl false, .bl true, .bl false, .bl false, .bl false, .bl false, .bl false, .bl false, .bl false, .bl false, .bl false, .bl false, .bl false, .bl false]) = some (.bl false) := by kernel_rfl
  have e2 : ((List.range 19).map fun k : Nat => D.bl (decide ((k : Int) = 6))) = [.bl false, .bl false, .bl false, .bl false, .bl false, .bl false, .bl true, .bl false, .bl false, .bl false, .bl false, .bl false, .bl false, .bl false, .bl false, .bl false, .bl false, .bl false, .bl false] := by kernel_rfl
  unfold e01 lp1_law
  simp only [RD1, RD2, RD3, RD4, RD5, RD6, RD7, RD8, RD9, RD10, List.all_cons, List.all_nil, List.length_cons, List.length_nil, List.getElem?_cons_zero, List.getElem?_cons_succ, List.getElem?_nil, List.set_cons_zero, List.set_cons_succ, List.cons_append, List.nil_append, List.replicate_succ, List.replicate_zero, Nat.reduceAdd, Nat.reduceSub, Nat.reduceEqDiff, Nat.reduceLeDiff, Nat.reduceLT, Option.bind_some, Option.bind_none, Option.map_some, Option.map_none, if_true, if_false, ite_true, ite_false, reduceCtorEq, decide_true, decide_false, Int.reducePow, Int.reduceToNat, Int.reduceMul, Int.reduceAdd, Int.reduceSub, Int.reduceNeg, Int.reduceLT, Int.reduceLE, List.map_append, List.map_cons, List.map_nil, g2m_ii, tLl, gInD_n, gInD_i, gInD_s, mmInsertu, g4maxu, h3, h4, h5, h6, h1, g1, q1, q2, h2, hl, show bnd 19 = true from by decide]
  rw [show rgD 0 19 = (List.range 19).map fun i : Nat => D.int (i : Nat) from by kernel_rfl, lcL_all (fun k : Nat => [D.int (k : Nat)]) (fun k : Nat => D.bl (decide ((k : Int) = 6))) (by simp only [RD1, RD2, RD3, RD4, RD5, RD6, RD7, RD8, RD9, RD10, List.all_cons, List.all_nil, List.length_cons, List.length_nil, List.getElem?_cons_zero, List.getElem?_cons_succ, List.getElem?_nil, List.set_cons_zero, List.set_cons_succ, List.cons_append, List.nil_append, List.replicate_succ, List.replicate_zero, Nat.reduceAdd, Nat.reduceSub, Nat.reduceEqDiff, Nat.reduceLeDiff, Nat.reduceLT, Option.bind_some, Option.bind_none, Option.map_some, Option.map_none, if_true, if_false, ite_true, ite_false, reduceCtorEq, decide_true, decide_false, Int.reducePow, Int.reduceToNat, Int.reduceMul, Int.reduceAdd, Int.reduceSub, Int.reduceNeg, Int.reduceLT, Int.reduceLE, List.map_append, List.map_cons, List.map_nil, g2m_ii, tLl, gInD_n, gInD_i, gInD_s, mmInsertu, g4maxu]) (by simp only [RD1, RD2, RD3, RD4, RD5, RD6, RD7, RD8, RD9, RD10, List.all_cons, List.all_nil, List.length_cons, List.length_nil, List.getElem?_cons_zero, List.getElem?_cons_succ, List.getElem?_nil, List.set_cons_zero, List.set_cons_succ, List.cons_append, List.nil_append, List.replicate_succ, List.replicate_zero, Nat.reduceAdd, Nat.reduceSub, Nat.reduceEqDiff, Nat.reduceLeDiff, Nat.reduceLT, Option.bind_some, Option.bind_none, Option.map_some, Option.map_none, if_true, if_false, ite_true, ite_false, reduceCtorEq, decide_true, decide_false, Int.reducePow, Int.reduceToNat, Int.reduceMul, Int.reduceAdd, Int.reduceSub, Int.reduceNeg, Int.reduceLT, Int.reduceLE, List.map_append, List.map_cons, List.map_nil, g2m_ii, tLl, gInD_n, gInD_i, gInD_s, mmInsertu, g4maxu]) (fun m _ => by simp only [RD1, RD2, RD3, RD4, RD5, RD6, RD7, RD8, RD9, RD10, List.all_cons, List.all_nil, List.length_cons, List.length_nil, List.getElem?_cons_zero, List.getElem?_cons_succ, List.getElem?_nil, List.set_cons_zero, List.set_cons_succ, List.cons_append, List.nil_append, List.replicate_succ, List.replicate_zero, Nat.reduceAdd, Nat.reduceSub, Nat.reduceEqDiff, Nat.reduceLeDiff, Nat.reduceLT, Option.bind_some, Option.bind_none, Option.map_some, Option.map_none, if_true, if_false, ite_true, ite_false, reduceCtorEq, decide_true, decide_false, Int.reducePow, Int.reduceToNat, Int.reduceMul, Int.reduceAdd, Int.reduceSub, Int.reduceNeg, Int.reduceLT, Int.reduceLE, List.map_append, List.map_cons, List.map_nil, g2m_ii, tLl, gInD_n, gInD_i, gInD_s, mmInsertu, g4maxu]) (fun m _ => by simp only [RD1, RD2, RD3, RD4, RD5, RD6, RD7, RD8, RD9, RD10, List.all_cons, List.all_nil, List.length_cons, List.length_nil, List.getElem?_cons_zero, List.getElem?_cons_succ, List.getElem?_nil, List.set_cons_zero, List.set_cons_succ, List.cons_append, List.nil_append, List.replicate_succ, List.replicate_zero, Nat.reduceAdd, Nat.reduceSub, Nat.reduceEqDiff, Nat.reduceLeDiff, Nat.reduceLT, Option.bind_some, Option.bind_none, Option.map_some, Option.map_none, if_true, if_false, ite_true, ite_false, reduceCtorEq, decide_true, decide_false, Int.reducePow, Int.reduceToNat, Int.reduceMul, Int.reduceAdd, Int.reduceSub, Int.reduceNeg, Int.reduceLT, Int.reduceLE, List.map_append, List.map_cons, List.map_nil, g2m_ii, tLl, gInD_n, gInD_i, gInD_s, mmInsertu, g4maxu, gEq_i01])]
  rw [e2]
  simp only [RD1, RD2, RD3, RD4, RD5, RD6, RD7, RD8, RD9, RD10, List.all_cons, List.all_nil, List.length_cons, List.length_nil, List.getElem?_cons_zero, List.getElem?_cons_succ, List.getElem?_nil, List.set_cons_zero, List.set_cons_succ, List.cons_append, List.nil_append, List.replicate_succ, List.replicate_zero, Nat.reduceAdd, Nat.reduceSub, Nat.reduceEqDiff, Nat.reduceLeDiff, Nat.reduceLT, Option.bind_some, Option.bind_none, Option.map_some, Option.map_none, if_true, if_false, ite_true, ite_false, reduceCtorEq, decide_true, decide_false, Int.reducePow, Int.reduceToNat, Int.reduceMul, Int.reduceAdd, Int.reduceSub, Int.reduceNeg, Int.reduceLT, Int.reduceLE, List.map_append, List.map_cons, List.map_nil, g2m_ii, tLl, gInD_n, gInD_i, gInD_s, mmInsertu, g4maxu, g2, List.length_cons, List.length_nil]
theorem tn_7 {S c : Sl} {s : Dg} {x : D} (hx : okD 15 x = true) : lp1_law (e01 S c s x (.im (.int 7)) (.im (.exv "BadBus" ["index"] [x])) .no) = .nx (e01 S c s x .no .no .no) := by
  have h1 : F__law_field [.im (.exv "BadBus" ["index"] [x])] = .rt (.lst [x]) [.im (.exv "BadBus" ["index"] [x])] := by kernel_rfl
  have h2 : F__law_classes [.im (.exv "BadBus" ["index"] [x])] = .ro (.lst [.bl false, .bl false, .bl false, .bl false, .bl false, .bl false, .bl false, .bl true, .bl false, .bl false, .bl false, .bl false, .bl false, .bl false, .bl false, .bl false, .bl false, .bl false, .bl false]) [.im (.exv "BadBus" ["index"] [x])] := by kernel_rfl
  have h3 : ∀ d, fMethX "told" [("BadStream", F_BadStream_told), ("BadMember", F_BadMember_told), ("BadRow", F_BadRow_told), ("BadTrain", F_BadTrain_told), ("NoEvent", F_NoEvent_told), ("Large", F_Large_told), ("BadNumbers", F_BadNumbers_told), ("BadBus", F_BadBus_told), ("NoInput", F_NoInput_told), ("NotLater", F_NotLater_told), ("BadText", F_BadText_told), ("BadForm", F_BadForm_told), ("Mixed", F_Mixed_told), ("NoQuestion", F_NoQuestion_told), ("Untrue", F_Untrue_told), ("NotKnown", F_NotKnown_told), ("OtherInputs", F_OtherInputs_told), ("NoBack", F_NoBack_told), ("NoName", F_NoName_told)] (fVar 7) [S, c, .ow false (dgD s), .im x, .im (.lst (ers x)), .im (.lst wds), .im (.int 7), .im (.exv "BadBus" ["index"] [x]), d, .no] = .ok (.str "refused badbus") [S, c, .ow false (dgD s), .im x, .im (.lst (ers x)), .im (.lst wds), .im (.int 7), .im (.exv "BadBus" ["index"] [x]), d, .no] := fun d => by kernel_rfl
  have h4 : gIx (.lst wds) (.int 7) = some (.str "badbus") := by kernel_rfl
  have h5 : gAdd (.str "refused ") (.str "badbus") = some (.str "refused badbus") := by kernel_rfl
  have h6 : gNe (.str "refused badbus") (.str "refused badbus") = some (.bl false) := by kernel_rfl
  have q1 : gIsX xv [.own "QuietError"] (.exv "BadBus" ["index"] [x]) = some (.bl true) := by kernel_rfl
  have q2 : gIsX xv [.ty "ValueError"] (.exv "BadBus" ["index"] [x]) = some (.bl true) := by kernel_rfl
  have g1 : gNe (.lst [x]) (.lst [x]) = some (.bl false) := gNe_self (by show ([x].all (okD 15)) = true; rw [List.all_cons, hx]; rfl)
  have hl : gLen (.lst (ers x)) = some (.int 19) := rfl
  have g2 : gNe (.lst [.bl false, .bl false, .bl false, .bl false, .bl false, .bl false, .bl false, .bl true, .bl false, .bl false, .bl false, .bl false, .bl false, .bl false, .bl false, .bl false, .bl false, .bl false, .bl false]) (.lst [.bl false, .bl false, .bl false, .bl false, .bl false, .bl false, .bl false, .bl true, .bl false, .bl false, .bl false, .bl false, .bl false, .bl false, .bl false, .bl false, .bl false, .bl false, .bl false]) = some (.bl false) := by kernel_rfl
  have e2 : ((List.range 19).map fun k : Nat => D.bl (decide ((k : Int) = 7))) = [.bl false, .bl false, .bl false, .bl false, .bl false, .bl false, .bl false, .bl true, .bl false, .bl false, .bl false, .bl false, .bl false, .bl false, .bl false, .bl false, .bl false, .bl false, .bl false] := by kernel_rfl
  unfold e01 lp1_law
  simp only [RD1, RD2, RD3, RD4, RD5, RD6, RD7, RD8, RD9, RD10, List.all_cons, List.all_nil, List.length_cons, List.length_nil, List.getElem?_cons_zero, List.getElem?_cons_succ, List.getElem?_nil, List.set_cons_zero, List.set_cons_succ, List.cons_append, List.nil_append, List.replicate_succ, List.replicate_zero, Nat.reduceAdd, Nat.reduceSub, Nat.reduceEqDiff, Nat.reduceLeDiff, Nat.reduceLT, Option.bind_some, Option.bind_none, Option.map_some, Option.map_none, if_true, if_false, ite_true, ite_false, reduceCtorEq, decide_true, decide_false, Int.reducePow, Int.reduceToNat, Int.reduceMul, Int.reduceAdd, Int.reduceSub, Int.reduceNeg, Int.reduceLT, Int.reduceLE, List.map_append, List.map_cons, List.map_nil, g2m_ii, tLl, gInD_n, gInD_i, gInD_s, mmInsertu, g4maxu, h3, h4, h5, h6, h1, g1, q1, q2, h2, hl, show bnd 19 = true from by decide]
  rw [show rgD 0 19 = (List.range 19).map fun i : Nat => D.int (i : Nat) from by kernel_rfl, lcL_all (fun k : Nat => [D.int (k : Nat)]) (fun k : Nat => D.bl (decide ((k : Int) = 7))) (by simp only [RD1, RD2, RD3, RD4, RD5, RD6, RD7, RD8, RD9, RD10, List.all_cons, List.all_nil, List.length_cons, List.length_nil, List.getElem?_cons_zero, List.getElem?_cons_succ, List.getElem?_nil, List.set_cons_zero, List.set_cons_succ, List.cons_append, List.nil_append, List.replicate_succ, List.replicate_zero, Nat.reduceAdd, Nat.reduceSub, Nat.reduceEqDiff, Nat.reduceLeDiff, Nat.reduceLT, Option.bind_some, Option.bind_none, Option.map_some, Option.map_none, if_true, if_false, ite_true, ite_false, reduceCtorEq, decide_true, decide_false, Int.reducePow, Int.reduceToNat, Int.reduceMul, Int.reduceAdd, Int.reduceSub, Int.reduceNeg, Int.reduceLT, Int.reduceLE, List.map_append, List.map_cons, List.map_nil, g2m_ii, tLl, gInD_n, gInD_i, gInD_s, mmInsertu, g4maxu]) (by simp only [RD1, RD2, RD3, RD4, RD5, RD6, RD7, RD8, RD9, RD10, List.all_cons, List.all_nil, List.length_cons, List.length_nil, List.getElem?_cons_zero, List.getElem?_cons_succ, List.getElem?_nil, List.set_cons_zero, List.set_cons_succ, List.cons_append, List.nil_append, List.replicate_succ, List.replicate_zero, Nat.reduceAdd, Nat.reduceSub, Nat.reduceEqDiff, Nat.reduceLeDiff, Nat.reduceLT, Option.bind_some, Option.bind_none, Option.map_some, Option.map_none, if_true, if_false, ite_true, ite_false, reduceCtorEq, decide_true, decide_false, Int.reducePow, Int.reduceToNat, Int.reduceMul, Int.reduceAdd, Int.reduceSub, Int.reduceNeg, Int.reduceLT, Int.reduceLE, List.map_append, List.map_cons, List.map_nil, g2m_ii, tLl, gInD_n, gInD_i, gInD_s, mmInsertu, g4maxu]) (fun m _ => by simp only [RD1, RD2, RD3, RD4, RD5, RD6, RD7, RD8, RD9, RD10, List.all_cons, List.all_nil, List.length_cons, List.length_nil, List.getElem?_cons_zero, List.getElem?_cons_succ, List.getElem?_nil, List.set_cons_zero, List.set_cons_succ, List.cons_append, List.nil_append, List.replicate_succ, List.replicate_zero, Nat.reduceAdd, Nat.reduceSub, Nat.reduceEqDiff, Nat.reduceLeDiff, Nat.reduceLT, Option.bind_some, Option.bind_none, Option.map_some, Option.map_none, if_true, if_false, ite_true, ite_false, reduceCtorEq, decide_true, decide_false, Int.reducePow, Int.reduceToNat, Int.reduceMul, Int.reduceAdd, Int.reduceSub, Int.reduceNeg, Int.reduceLT, Int.reduceLE, List.map_append, List.map_cons, List.map_nil, g2m_ii, tLl, gInD_n, gInD_i, gInD_s, mmInsertu, g4maxu]) (fun m _ => by simp only [RD1, RD2, RD3, RD4, RD5, RD6, RD7, RD8, RD9, RD10, List.all_cons, List.all_nil, List.length_cons, List.length_nil, List.getElem?_cons_zero, List.getElem?_cons_succ, List.getElem?_nil, List.set_cons_zero, List.set_cons_succ, List.cons_append, List.nil_append, List.replicate_succ, List.replicate_zero, Nat.reduceAdd, Nat.reduceSub, Nat.reduceEqDiff, Nat.reduceLeDiff, Nat.reduceLT, Option.bind_some, Option.bind_none, Option.map_some, Option.map_none, if_true, if_false, ite_true, ite_false, reduceCtorEq, decide_true, decide_false, Int.reducePow, Int.reduceToNat, Int.reduceMul, Int.reduceAdd, Int.reduceSub, Int.reduceNeg, Int.reduceLT, Int.reduceLE, List.map_append, List.map_cons, List.map_nil, g2m_ii, tLl, gInD_n, gInD_i, gInD_s, mmInsertu, g4maxu, gEq_i01])]
  rw [e2]
  simp only [RD1, RD2, RD3, RD4, RD5, RD6, RD7, RD8, RD9, RD10, List.all_cons, List.all_nil, List.length_cons, List.length_nil, List.getElem?_cons_zero, List.getElem?_cons_succ, List.getElem?_nil, List.set_cons_zero, List.set_cons_succ, List.cons_append, List.nil_append, List.replicate_succ, List.replicate_zero, Nat.reduceAdd, Nat.reduceSub, Nat.reduceEqDiff, Nat.reduceLeDiff, Nat.reduceLT, Option.bind_some, Option.bind_none, Option.map_some, Option.map_none, if_true, if_false, ite_true, ite_false, reduceCtorEq, decide_true, decide_false, Int.reducePow, Int.reduceToNat, Int.reduceMul, Int.reduceAdd, Int.reduceSub, Int.reduceNeg, Int.reduceLT, Int.reduceLE, List.map_append, List.map_cons, List.map_nil, g2m_ii, tLl, gInD_n, gInD_i, gInD_s, mmInsertu, g4maxu, g2, List.length_cons, List.length_nil]
theorem tn_8 {S c : Sl} {s : Dg} {x : D} (hx : okD 15 x = true) : lp1_law (e01 S c s x (.im (.int 8)) (.im (.exv "NoInput" ["name"] [x])) .no) = .nx (e01 S c s x .no .no .no) := by
  have h1 : F__law_field [.im (.exv "NoInput" ["name"] [x])] = .rt (.lst [x]) [.im (.exv "NoInput" ["name"] [x])] := by kernel_rfl
  have h2 : F__law_classes [.im (.exv "NoInput" ["name"] [x])] = .ro (.lst [.bl false, .bl false, .bl false, .bl false, .bl false, .bl false, .bl false, .bl false, .bl true, .bl false, .bl false, .bl false, .bl false, .bl false, .bl false, .bl false, .bl false, .bl false, .bl false]) [.im (.exv "NoInput" ["name"] [x])] := by kernel_rfl
  have h3 : ∀ d, fMethX "told" [("BadStream", F_BadStream_told), ("BadMember", F_BadMember_told), ("BadRow", F_BadRow_told), ("BadTrain", F_BadTrain_told), ("NoEvent", F_NoEvent_told), ("Large", F_Large_told), ("BadNumbers", F_BadNumbers_told), ("BadBus", F_BadBus_told), ("NoInput", F_NoInput_told), ("NotLater", F_NotLater_told), ("BadText", F_BadText_told), ("BadForm", F_BadForm_told), ("Mixed", F_Mixed_told), ("NoQuestion", F_NoQuestion_told), ("Untrue", F_Untrue_told), ("NotKnown", F_NotKnown_told), ("OtherInputs", F_OtherInputs_told), ("NoBack", F_NoBack_told), ("NoName", F_NoName_told)] (fVar 7) [S, c, .ow false (dgD s), .im x, .im (.lst (ers x)), .im (.lst wds), .im (.int 8), .im (.exv "NoInput" ["name"] [x]), d, .no] = .ok (.str "refused noinput") [S, c, .ow false (dgD s), .im x, .im (.lst (ers x)), .im (.lst wds), .im (.int 8), .im (.exv "NoInput" ["name"] [x]), d, .no] := fun d => by kernel_rfl
  have h4 : gIx (.lst wds) (.int 8) = some (.str "noinput") := by kernel_rfl
  have h5 : gAdd (.str "refused ") (.str "noinput") = some (.str "refused noinput") := by kernel_rfl
  have h6 : gNe (.str "refused noinput") (.str "refused noinput") = some (.bl false) := by kernel_rfl
  have q1 : gIsX xv [.own "QuietError"] (.exv "NoInput" ["name"] [x]) = some (.bl true) := by kernel_rfl
  have q2 : gIsX xv [.ty "ValueError"] (.exv "NoInput" ["name"] [x]) = some (.bl true) := by kernel_rfl
  have g1 : gNe (.lst [x]) (.lst [x]) = some (.bl false) := gNe_self (by show ([x].all (okD 15)) = true; rw [List.all_cons, hx]; rfl)
  have hl : gLen (.lst (ers x)) = some (.int 19) := rfl
  have g2 : gNe (.lst [.bl false, .bl false, .bl false, .bl false, .bl false, .bl false, .bl false, .bl false, .bl true, .bl false, .bl false, .bl false, .bl false, .bl false, .bl false, .bl false, .bl false, .bl false, .bl false]) (.lst [.bl false, .bl false, .bl false, .bl false, .bl false, .bl false, .bl false, .bl false, .bl true, .bl false, .bl false, .bl false, .bl false, .bl false, .bl false, .bl false, .bl false, .bl false, .bl false]) = some (.bl false) := by kernel_rfl
  have e2 : ((List.range 19).map fun k : Nat => D.bl (decide ((k : Int) = 8))) = [.bl false, .bl false, .bl false, .bl false, .bl false, .bl false, .bl false, .bl false, .bl true, .bl false, .bl false, .bl false, .bl false, .bl false, .bl false, .bl false, .bl false, .bl false, .bl false] := by kernel_rfl
  unfold e01 lp1_law
  simp only [RD1, RD2, RD3, RD4, RD5, RD6, RD7, RD8, RD9, RD10, List.all_cons, List.all_nil, List.length_cons, List.length_nil, List.getElem?_cons_zero, List.getElem?_cons_succ, List.getElem?_nil, List.set_cons_zero, List.set_cons_succ, List.cons_append, List.nil_append, List.replicate_succ, List.replicate_zero, Nat.reduceAdd, Nat.reduceSub, Nat.reduceEqDiff, Nat.reduceLeDiff, Nat.reduceLT, Option.bind_some, Option.bind_none, Option.map_some, Option.map_none, if_true, if_false, ite_true, ite_false, reduceCtorEq, decide_true, decide_false, Int.reducePow, Int.reduceToNat, Int.reduceMul, Int.reduceAdd, Int.reduceSub, Int.reduceNeg, Int.reduceLT, Int.reduceLE, List.map_append, List.map_cons, List.map_nil, g2m_ii, tLl, gInD_n, gInD_i, gInD_s, mmInsertu, g4maxu, h3, h4, h5, h6, h1, g1, q1, q2, h2, hl, show bnd 19 = true from by decide]
  rw [show rgD 0 19 = (List.range 19).map fun i : Nat => D.int (i : Nat) from by kernel_rfl, lcL_all (fun k : Nat => [D.int (k : Nat)]) (fun k : Nat => D.bl (decide ((k : Int) = 8))) (by simp only [RD1, RD2, RD3, RD4, RD5, RD6, RD7, RD8, RD9, RD10, List.all_cons, List.all_nil, List.length_cons, List.length_nil, List.getElem?_cons_zero, List.getElem?_cons_succ, List.getElem?_nil, List.set_cons_zero, List.set_cons_succ, List.cons_append, List.nil_append, List.replicate_succ, List.replicate_zero, Nat.reduceAdd, Nat.reduceSub, Nat.reduceEqDiff, Nat.reduceLeDiff, Nat.reduceLT, Option.bind_some, Option.bind_none, Option.map_some, Option.map_none, if_true, if_false, ite_true, ite_false, reduceCtorEq, decide_true, decide_false, Int.reducePow, Int.reduceToNat, Int.reduceMul, Int.reduceAdd, Int.reduceSub, Int.reduceNeg, Int.reduceLT, Int.reduceLE, List.map_append, List.map_cons, List.map_nil, g2m_ii, tLl, gInD_n, gInD_i, gInD_s, mmInsertu, g4maxu]) (by simp only [RD1, RD2, RD3, RD4, RD5, RD6, RD7, RD8, RD9, RD10, List.all_cons, List.all_nil, List.length_cons, List.length_nil, List.getElem?_cons_zero, List.getElem?_cons_succ, List.getElem?_nil, List.set_cons_zero, List.set_cons_succ, List.cons_append, List.nil_append, List.replicate_succ, List.replicate_zero, Nat.reduceAdd, Nat.reduceSub, Nat.reduceEqDiff, Nat.reduceLeDiff, Nat.reduceLT, Option.bind_some, Option.bind_none, Option.map_some, Option.map_none, if_true, if_false, ite_true, ite_false, reduceCtorEq, decide_true, decide_false, Int.reducePow, Int.reduceToNat, Int.reduceMul, Int.reduceAdd, Int.reduceSub, Int.reduceNeg, Int.reduceLT, Int.reduceLE, List.map_append, List.map_cons, List.map_nil, g2m_ii, tLl, gInD_n, gInD_i, gInD_s, mmInsertu, g4maxu]) (fun m _ => by simp only [RD1, RD2, RD3, RD4, RD5, RD6, RD7, RD8, RD9, RD10, List.all_cons, List.all_nil, List.length_cons, List.length_nil, List.getElem?_cons_zero, List.getElem?_cons_succ, List.getElem?_nil, List.set_cons_zero, List.set_cons_succ, List.cons_append, List.nil_append, List.replicate_succ, List.replicate_zero, Nat.reduceAdd, Nat.reduceSub, Nat.reduceEqDiff, Nat.reduceLeDiff, Nat.reduceLT, Option.bind_some, Option.bind_none, Option.map_some, Option.map_none, if_true, if_false, ite_true, ite_false, reduceCtorEq, decide_true, decide_false, Int.reducePow, Int.reduceToNat, Int.reduceMul, Int.reduceAdd, Int.reduceSub, Int.reduceNeg, Int.reduceLT, Int.reduceLE, List.map_append, List.map_cons, List.map_nil, g2m_ii, tLl, gInD_n, gInD_i, gInD_s, mmInsertu, g4maxu]) (fun m _ => by simp only [RD1, RD2, RD3, RD4, RD5, RD6, RD7, RD8, RD9, RD10, List.all_cons, List.all_nil, List.length_cons, List.length_nil, List.getElem?_cons_zero, List.getElem?_cons_succ, List.getElem?_nil, List.set_cons_zero, List.set_cons_succ, List.cons_append, List.nil_append, List.replicate_succ, List.replicate_zero, Nat.reduceAdd, Nat.reduceSub, Nat.reduceEqDiff, Nat.reduceLeDiff, Nat.reduceLT, Option.bind_some, Option.bind_none, Option.map_some, Option.map_none, if_true, if_false, ite_true, ite_false, reduceCtorEq, decide_true, decide_false, Int.reducePow, Int.reduceToNat, Int.reduceMul, Int.reduceAdd, Int.reduceSub, Int.reduceNeg, Int.reduceLT, Int.reduceLE, List.map_append, List.map_cons, List.map_nil, g2m_ii, tLl, gInD_n, gInD_i, gInD_s, mmInsertu, g4maxu, gEq_i01])]
  rw [e2]
  simp only [RD1, RD2, RD3, RD4, RD5, RD6, RD7, RD8, RD9, RD10, List.all_cons, List.all_nil, List.length_cons, List.length_nil, List.getElem?_cons_zero, List.getElem?_cons_succ, List.getElem?_nil, List.set_cons_zero, List.set_cons_succ, List.cons_append, List.nil_append, List.replicate_succ, List.replicate_zero, Nat.reduceAdd, Nat.reduceSub, Nat.reduceEqDiff, Nat.reduceLeDiff, Nat.reduceLT, Option.bind_some, Option.bind_none, Option.map_some, Option.map_none, if_true, if_false, ite_true, ite_false, reduceCtorEq, decide_true, decide_false, Int.reducePow, Int.reduceToNat, Int.reduceMul, Int.reduceAdd, Int.reduceSub, Int.reduceNeg, Int.reduceLT, Int.reduceLE, List.map_append, List.map_cons, List.map_nil, g2m_ii, tLl, gInD_n, gInD_i, gInD_s, mmInsertu, g4maxu, g2, List.length_cons, List.length_nil]
theorem tn_9 {S c : Sl} {s : Dg} {x : D} (hx : okD 15 x = true) : lp1_law (e01 S c s x (.im (.int 9)) (.im (.exv "NotLater" ["time"] [x])) .no) = .nx (e01 S c s x .no .no .no) := by
  have h1 : F__law_field [.im (.exv "NotLater" ["time"] [x])] = .rt (.lst [x]) [.im (.exv "NotLater" ["time"] [x])] := by kernel_rfl
  have h2 : F__law_classes [.im (.exv "NotLater" ["time"] [x])] = .ro (.lst [.bl false, .bl false, .bl false, .bl false, .bl false, .bl false, .bl false, .bl false, .bl false, .bl true, .bl false, .bl false, .bl false, .bl false, .bl false, .bl false, .bl false, .bl false, .bl false]) [.im (.exv "NotLater" ["time"] [x])] := by kernel_rfl
  have h3 : ∀ d, fMethX "told" [("BadStream", F_BadStream_told), ("BadMember", F_BadMember_told), ("BadRow", F_BadRow_told), ("BadTrain", F_BadTrain_told), ("NoEvent", F_NoEvent_told), ("Large", F_Large_told), ("BadNumbers", F_BadNumbers_told), ("BadBus", F_BadBus_told), ("NoInput", F_NoInput_told), ("NotLater", F_NotLater_told), ("BadText", F_BadText_told), ("BadForm", F_BadForm_told), ("Mixed", F_Mixed_told), ("NoQuestion", F_NoQuestion_told), ("Untrue", F_Untrue_told), ("NotKnown", F_NotKnown_told), ("OtherInputs", F_OtherInputs_told), ("NoBack", F_NoBack_told), ("NoName", F_NoName_told)] (fVar 7) [S, c, .ow false (dgD s), .im x, .im (.lst (ers x)), .im (.lst wds), .im (.int 9), .im (.exv "NotLater" ["time"] [x]), d, .no] = .ok (.str "refused notlater") [S, c, .ow false (dgD s), .im x, .im (.lst (ers x)), .im (.lst wds), .im (.int 9), .im (.exv "NotLater" ["time"] [x]), d, .no] := fun d => by kernel_rfl
  have h4 : gIx (.lst wds) (.int 9) = some (.str "notlater") := by kernel_rfl
  have h5 : gAdd (.str "refused ") (.str "notlater") = some (.str "refused notlater") := by kernel_rfl
  have h6 : gNe (.str "refused notlater") (.str "refused notlater") = some (.bl false) := by kernel_rfl
  have q1 : gIsX xv [.own "QuietError"] (.exv "NotLater" ["time"] [x]) = some (.bl true) := by kernel_rfl
  have q2 : gIsX xv [.ty "ValueError"] (.exv "NotLater" ["time"] [x]) = some (.bl true) := by kernel_rfl
  have g1 : gNe (.lst [x]) (.lst [x]) = some (.bl false) := gNe_self (by show ([x].all (okD 15)) = true; rw [List.all_cons, hx]; rfl)
  have hl : gLen (.lst (ers x)) = some (.int 19) := rfl
  have g2 : gNe (.lst [.bl false, .bl false, .bl false, .bl false, .bl false, .bl false, .bl false, .bl false, .bl false, .bl true, .bl false, .bl false, .bl false, .bl false, .bl false, .bl false, .bl false, .bl false, .bl false]) (.lst [.bl false, .bl false, .bl false, .bl false, .bl false, .bl false, .bl false, .bl false, .bl false, .bl true, .bl false, .bl false, .bl false, .bl false, .bl false, .bl false, .bl false, .bl false, .bl false]) = some (.bl false) := by kernel_rfl
  have e2 : ((List.range 19).map fun k : Nat => D.bl (decide ((k : Int) = 9))) = [.bl false, .bl false, .bl false, .bl false, .bl false, .bl false, .bl false, .bl false, .bl false, .bl true, .bl false, .bl false, .bl false, .bl false, .bl false, .bl false, .bl false, .bl false, .bl false] := by kernel_rfl
  unfold e01 lp1_law
  simp only [RD1, RD2, RD3, RD4, RD5, RD6, RD7, RD8, RD9, RD10, List.all_cons, List.all_nil, List.length_cons, List.length_nil, List.getElem?_cons_zero, List.getElem?_cons_succ, List.getElem?_nil, List.set_cons_zero, List.set_cons_succ, List.cons_append, List.nil_append, List.replicate_succ, List.replicate_zero, Nat.reduceAdd, Nat.reduceSub, Nat.reduceEqDiff, Nat.reduceLeDiff, Nat.reduceLT, Option.bind_some, Option.bind_none, Option.map_some, Option.map_none, if_true, if_false, ite_true, ite_false, reduceCtorEq, decide_true, decide_false, Int.reducePow, Int.reduceToNat, Int.reduceMul, Int.reduceAdd, Int.reduceSub, Int.reduceNeg, Int.reduceLT, Int.reduceLE, List.map_append, List.map_cons, List.map_nil, g2m_ii, tLl, gInD_n, gInD_i, gInD_s, mmInsertu, g4maxu, h3, h4, h5, h6, h1, g1, q1, q2, h2, hl, show bnd 19 = true from by decide]
  rw [show rgD 0 19 = (List.range 19).map fun i : Nat => D.int (i : Nat) from by kernel_rfl, lcL_all (fun k : Nat => [D.int (k : Nat)]) (fun k : Nat => D.bl (decide ((k : Int) = 9))) (by simp only [RD1, RD2, RD3, RD4, RD5, RD6, RD7, RD8, RD9, RD10, List.all_cons, List.all_nil, List.length_cons, List.length_nil, List.getElem?_cons_zero, List.getElem?_cons_succ, List.getElem?_nil, List.set_cons_zero, List.set_cons_succ, List.cons_append, List.nil_append, List.replicate_succ, List.replicate_zero, Nat.reduceAdd, Nat.reduceSub, Nat.reduceEqDiff, Nat.reduceLeDiff, Nat.reduceLT, Option.bind_some, Option.bind_none, Option.map_some, Option.map_none, if_true, if_false, ite_true, ite_false, reduceCtorEq, decide_true, decide_false, Int.reducePow, Int.reduceToNat, Int.reduceMul, Int.reduceAdd, Int.reduceSub, Int.reduceNeg, Int.reduceLT, Int.reduceLE, List.map_append, List.map_cons, List.map_nil, g2m_ii, tLl, gInD_n, gInD_i, gInD_s, mmInsertu, g4maxu]) (by simp only [RD1, RD2, RD3, RD4, RD5, RD6, RD7, RD8, RD9, RD10, List.all_cons, List.all_nil, List.length_cons, List.length_nil, List.getElem?_cons_zero, List.getElem?_cons_succ, List.getElem?_nil, List.set_cons_zero, List.set_cons_succ, List.cons_append, List.nil_append, List.replicate_succ, List.replicate_zero, Nat.reduceAdd, Nat.reduceSub, Nat.reduceEqDiff, Nat.reduceLeDiff, Nat.reduceLT, Option.bind_some, Option.bind_none, Option.map_some, Option.map_none, if_true, if_false, ite_true, ite_false, reduceCtorEq, decide_true, decide_false, Int.reducePow, Int.reduceToNat, Int.reduceMul, Int.reduceAdd, Int.reduceSub, Int.reduceNeg, Int.reduceLT, Int.reduceLE, List.map_append, List.map_cons, List.map_nil, g2m_ii, tLl, gInD_n, gInD_i, gInD_s, mmInsertu, g4maxu]) (fun m _ => by simp only [RD1, RD2, RD3, RD4, RD5, RD6, RD7, RD8, RD9, RD10, List.all_cons, List.all_nil, List.length_cons, List.length_nil, List.getElem?_cons_zero, List.getElem?_cons_succ, List.getElem?_nil, List.set_cons_zero, List.set_cons_succ, List.cons_append, List.nil_append, List.replicate_succ, List.replicate_zero, Nat.reduceAdd, Nat.reduceSub, Nat.reduceEqDiff, Nat.reduceLeDiff, Nat.reduceLT, Option.bind_some, Option.bind_none, Option.map_some, Option.map_none, if_true, if_false, ite_true, ite_false, reduceCtorEq, decide_true, decide_false, Int.reducePow, Int.reduceToNat, Int.reduceMul, Int.reduceAdd, Int.reduceSub, Int.reduceNeg, Int.reduceLT, Int.reduceLE, List.map_append, List.map_cons, List.map_nil, g2m_ii, tLl, gInD_n, gInD_i, gInD_s, mmInsertu, g4maxu]) (fun m _ => by simp only [RD1, RD2, RD3, RD4, RD5, RD6, RD7, RD8, RD9, RD10, List.all_cons, List.all_nil, List.length_cons, List.length_nil, List.getElem?_cons_zero, List.getElem?_cons_succ, List.getElem?_nil, List.set_cons_zero, List.set_cons_succ, List.cons_append, List.nil_append, List.replicate_succ, List.replicate_zero, Nat.reduceAdd, Nat.reduceSub, Nat.reduceEqDiff, Nat.reduceLeDiff, Nat.reduceLT, Option.bind_some, Option.bind_none, Option.map_some, Option.map_none, if_true, if_false, ite_true, ite_false, reduceCtorEq, decide_true, decide_false, Int.reducePow, Int.reduceToNat, Int.reduceMul, Int.reduceAdd, Int.reduceSub, Int.reduceNeg, Int.reduceLT, Int.reduceLE, List.map_append, List.map_cons, List.map_nil, g2m_ii, tLl, gInD_n, gInD_i, gInD_s, mmInsertu, g4maxu, gEq_i01])]
  rw [e2]
  simp only [RD1, RD2, RD3, RD4, RD5, RD6, RD7, RD8, RD9, RD10, List.all_cons, List.all_nil, List.length_cons, List.length_nil, List.getElem?_cons_zero, List.getElem?_cons_succ, List.getElem?_nil, List.set_cons_zero, List.set_cons_succ, List.cons_append, List.nil_append, List.replicate_succ, List.replicate_zero, Nat.reduceAdd, Nat.reduceSub, Nat.reduceEqDiff, Nat.reduceLeDiff, Nat.reduceLT, Option.bind_some, Option.bind_none, Option.map_some, Option.map_none, if_true, if_false, ite_true, ite_false, reduceCtorEq, decide_true, decide_false, Int.reducePow, Int.reduceToNat, Int.reduceMul, Int.reduceAdd, Int.reduceSub, Int.reduceNeg, Int.reduceLT, Int.reduceLE, List.map_append, List.map_cons, List.map_nil, g2m_ii, tLl, gInD_n, gInD_i, gInD_s, mmInsertu, g4maxu, g2, List.length_cons, List.length_nil]
theorem tn_10 {S c : Sl} {s : Dg} {x : D} (hx : okD 15 x = true) : lp1_law (e01 S c s x (.im (.int 10)) (.im (.exv "BadText" ["place"] [x])) .no) = .nx (e01 S c s x .no .no .no) := by
  have h1 : F__law_field [.im (.exv "BadText" ["place"] [x])] = .rt (.lst [x]) [.im (.exv "BadText" ["place"] [x])] := by kernel_rfl
  have h2 : F__law_classes [.im (.exv "BadText" ["place"] [x])] = .ro (.lst [.bl false, .bl false, .bl false, .bl false, .bl false, .bl false, .bl false, .bl false, .bl false, .bl false, .bl true, .bl false, .bl false, .bl false, .bl false, .bl false, .bl false, .bl false, .bl false]) [.im (.exv "BadText" ["place"] [x])] := by kernel_rfl
  have h3 : ∀ d, fMethX "told" [("BadStream", F_BadStream_told), ("BadMember", F_BadMember_told), ("BadRow", F_BadRow_told), ("BadTrain", F_BadTrain_told), ("NoEvent", F_NoEvent_told), ("Large", F_Large_told), ("BadNumbers", F_BadNumbers_told), ("BadBus", F_BadBus_told), ("NoInput", F_NoInput_told), ("NotLater", F_NotLater_told), ("BadText", F_BadText_told), ("BadForm", F_BadForm_told), ("Mixed", F_Mixed_told), ("NoQuestion", F_NoQuestion_told), ("Untrue", F_Untrue_told), ("NotKnown", F_NotKnown_told), ("OtherInputs", F_OtherInputs_told), ("NoBack", F_NoBack_told), ("NoName", F_NoName_told)] (fVar 7) [S, c, .ow false (dgD s), .im x, .im (.lst (ers x)), .im (.lst wds), .im (.int 10), .im (.exv "BadText" ["place"] [x]), d, .no] = .ok (.str "refused badtext") [S, c, .ow false (dgD s), .im x, .im (.lst (ers x)), .im (.lst wds), .im (.int 10), .im (.exv "BadText" ["place"] [x]), d, .no] := fun d => by kernel_rfl
  have h4 : gIx (.lst wds) (.int 10) = some (.str "badtext") := by kernel_rfl
  have h5 : gAdd (.str "refused ") (.str "badtext") = some (.str "refused badtext") := by kernel_rfl
  have h6 : gNe (.str "refused badtext") (.str "refused badtext") = some (.bl false) := by kernel_rfl
  have q1 : gIsX xv [.own "QuietError"] (.exv "BadText" ["place"] [x]) = some (.bl true) := by kernel_rfl
  have q2 : gIsX xv [.ty "ValueError"] (.exv "BadText" ["place"] [x]) = some (.bl true) := by kernel_rfl
  have g1 : gNe (.lst [x]) (.lst [x]) = some (.bl false) := gNe_self (by show ([x].all (okD 15)) = true; rw [List.all_cons, hx]; rfl)
  have hl : gLen (.lst (ers x)) = some (.int 19) := rfl
  have g2 : gNe (.lst [.bl false, .bl false, .bl false, .bl false, .bl false, .bl false, .bl false, .bl false, .bl false, .bl false, .bl true, .bl false, .bl false, .bl false, .bl false, .bl false, .bl false, .bl false, .bl false]) (.lst [.bl false, .bl false, .bl false, .bl false, .bl false, .bl false, .bl false, .bl false, .bl false, .bl false, .bl true, .bl false, .bl false, .bl false, .bl false, .bl false, .bl false, .bl false, .bl false]) = some (.bl false) := by kernel_rfl
  have e2 : ((List.range 19).map fun k : Nat => D.bl (decide ((k : Int) = 10))) = [.bl false, .bl false, .bl false, .bl false, .bl false, .bl false, .bl false, .bl false, .bl false, .bl false, .bl true, .bl false, .bl false, .bl false, .bl false, .bl false, .bl false, .bl false, .bl false] := by kernel_rfl
  unfold e01 lp1_law
  simp only [RD1, RD2, RD3, RD4, RD5, RD6, RD7, RD8, RD9, RD10, List.all_cons, List.all_nil, List.length_cons, List.length_nil, List.getElem?_cons_zero, List.getElem?_cons_succ, List.getElem?_nil, List.set_cons_zero, List.set_cons_succ, List.cons_append, List.nil_append, List.replicate_succ, List.replicate_zero, Nat.reduceAdd, Nat.reduceSub, Nat.reduceEqDiff, Nat.reduceLeDiff, Nat.reduceLT, Option.bind_some, Option.bind_none, Option.map_some, Option.map_none, if_true, if_false, ite_true, ite_false, reduceCtorEq, decide_true, decide_false, Int.reducePow, Int.reduceToNat, Int.reduceMul, Int.reduceAdd, Int.reduceSub, Int.reduceNeg, Int.reduceLT, Int.reduceLE, List.map_append, List.map_cons, List.map_nil, g2m_ii, tLl, gInD_n, gInD_i, gInD_s, mmInsertu, g4maxu, h3, h4, h5, h6, h1, g1, q1, q2, h2, hl, show bnd 19 = true from by decide]
  rw [show rgD 0 19 = (List.range 19).map fun i : Nat => D.int (i : Nat) from by kernel_rfl, lcL_all (fun k : Nat => [D.int (k : Nat)]) (fun k : Nat => D.bl (decide ((k : Int) = 10))) (by simp only [RD1, RD2, RD3, RD4, RD5, RD6, RD7, RD8, RD9, RD10, List.all_cons, List.all_nil, List.length_cons, List.length_nil, List.getElem?_cons_zero, List.getElem?_cons_succ, List.getElem?_nil, List.set_cons_zero, List.set_cons_succ, List.cons_append, List.nil_append, List.replicate_succ, List.replicate_zero, Nat.reduceAdd, Nat.reduceSub, Nat.reduceEqDiff, Nat.reduceLeDiff, Nat.reduceLT, Option.bind_some, Option.bind_none, Option.map_some, Option.map_none, if_true, if_false, ite_true, ite_false, reduceCtorEq, decide_true, decide_false, Int.reducePow, Int.reduceToNat, Int.reduceMul, Int.reduceAdd, Int.reduceSub, Int.reduceNeg, Int.reduceLT, Int.reduceLE, List.map_append, List.map_cons, List.map_nil, g2m_ii, tLl, gInD_n, gInD_i, gInD_s, mmInsertu, g4maxu]) (by simp only [RD1, RD2, RD3, RD4, RD5, RD6, RD7, RD8, RD9, RD10, List.all_cons, List.all_nil, List.length_cons, List.length_nil, List.getElem?_cons_zero, List.getElem?_cons_succ, List.getElem?_nil, List.set_cons_zero, List.set_cons_succ, List.cons_append, List.nil_append, List.replicate_succ, List.replicate_zero, Nat.reduceAdd, Nat.reduceSub, Nat.reduceEqDiff, Nat.reduceLeDiff, Nat.reduceLT, Option.bind_some, Option.bind_none, Option.map_some, Option.map_none, if_true, if_false, ite_true, ite_false, reduceCtorEq, decide_true, decide_false, Int.reducePow, Int.reduceToNat, Int.reduceMul, Int.reduceAdd, Int.reduceSub, Int.reduceNeg, Int.reduceLT, Int.reduceLE, List.map_append, List.map_cons, List.map_nil, g2m_ii, tLl, gInD_n, gInD_i, gInD_s, mmInsertu, g4maxu]) (fun m _ => by simp only [RD1, RD2, RD3, RD4, RD5, RD6, RD7, RD8, RD9, RD10, List.all_cons, List.all_nil, List.length_cons, List.length_nil, List.getElem?_cons_zero, List.getElem?_cons_succ, List.getElem?_nil, List.set_cons_zero, List.set_cons_succ, List.cons_append, List.nil_append, List.replicate_succ, List.replicate_zero, Nat.reduceAdd, Nat.reduceSub, Nat.reduceEqDiff, Nat.reduceLeDiff, Nat.reduceLT, Option.bind_some, Option.bind_none, Option.map_some, Option.map_none, if_true, if_false, ite_true, ite_false, reduceCtorEq, decide_true, decide_false, Int.reducePow, Int.reduceToNat, Int.reduceMul, Int.reduceAdd, Int.reduceSub, Int.reduceNeg, Int.reduceLT, Int.reduceLE, List.map_append, List.map_cons, List.map_nil, g2m_ii, tLl, gInD_n, gInD_i, gInD_s, mmInsertu, g4maxu]) (fun m _ => by simp only [RD1, RD2, RD3, RD4, RD5, RD6, RD7, RD8, RD9, RD10, List.all_cons, List.all_nil, List.length_cons, List.length_nil, List.getElem?_cons_zero, List.getElem?_cons_succ, List.getElem?_nil, List.set_cons_zero, List.set_cons_succ, List.cons_append, List.nil_append, List.replicate_succ, List.replicate_zero, Nat.reduceAdd, Nat.reduceSub, Nat.reduceEqDiff, Nat.reduceLeDiff, Nat.reduceLT, Option.bind_some, Option.bind_none, Option.map_some, Option.map_none, if_true, if_false, ite_true, ite_false, reduceCtorEq, decide_true, decide_false, Int.reducePow, Int.reduceToNat, Int.reduceMul, Int.reduceAdd, Int.reduceSub, Int.reduceNeg, Int.reduceLT, Int.reduceLE, List.map_append, List.map_cons, List.map_nil, g2m_ii, tLl, gInD_n, gInD_i, gInD_s, mmInsertu, g4maxu, gEq_i01])]
  rw [e2]
  simp only [RD1, RD2, RD3, RD4, RD5, RD6, RD7, RD8, RD9, RD10, List.all_cons, List.all_nil, List.length_cons, List.length_nil, List.getElem?_cons_zero, List.getElem?_cons_succ, List.getElem?_nil, List.set_cons_zero, List.set_cons_succ, List.cons_append, List.nil_append, List.replicate_succ, List.replicate_zero, Nat.reduceAdd, Nat.reduceSub, Nat.reduceEqDiff, Nat.reduceLeDiff, Nat.reduceLT, Option.bind_some, Option.bind_none, Option.map_some, Option.map_none, if_true, if_false, ite_true, ite_false, reduceCtorEq, decide_true, decide_false, Int.reducePow, Int.reduceToNat, Int.reduceMul, Int.reduceAdd, Int.reduceSub, Int.reduceNeg, Int.reduceLT, Int.reduceLE, List.map_append, List.map_cons, List.map_nil, g2m_ii, tLl, gInD_n, gInD_i, gInD_s, mmInsertu, g4maxu, g2, List.length_cons, List.length_nil]
theorem tn_11 {S c : Sl} {s : Dg} {x : D} (hx : okD 15 x = true) : lp1_law (e01 S c s x (.im (.int 11)) (.im (.exv "BadForm" [] [])) .no) = .nx (e01 S c s x .no .no .no) := by
  have h1 : F__law_field [.im (.exv "BadForm" [] [])] = .rt (.lst []) [.im (.exv "BadForm" [] [])] := by kernel_rfl
  have h2 : F__law_classes [.im (.exv "BadForm" [] [])] = .ro (.lst [.bl false, .bl false, .bl false, .bl false, .bl false, .bl false, .bl false, .bl false, .bl false, .bl false, .bl false, .bl true, .bl false, .bl false, .bl false, .bl false, .bl false, .bl false, .bl false]) [.im (.exv "BadForm" [] [])] := by kernel_rfl
  have h3 : ∀ d, fMethX "told" [("BadStream", F_BadStream_told), ("BadMember", F_BadMember_told), ("BadRow", F_BadRow_told), ("BadTrain", F_BadTrain_told), ("NoEvent", F_NoEvent_told), ("Large", F_Large_told), ("BadNumbers", F_BadNumbers_told), ("BadBus", F_BadBus_told), ("NoInput", F_NoInput_told), ("NotLater", F_NotLater_told), ("BadText", F_BadText_told), ("BadForm", F_BadForm_told), ("Mixed", F_Mixed_told), ("NoQuestion", F_NoQuestion_told), ("Untrue", F_Untrue_told), ("NotKnown", F_NotKnown_told), ("OtherInputs", F_OtherInputs_told), ("NoBack", F_NoBack_told), ("NoName", F_NoName_told)] (fVar 7) [S, c, .ow false (dgD s), .im x, .im (.lst (ers x)), .im (.lst wds), .im (.int 11), .im (.exv "BadForm" [] []), d, .no] = .ok (.str "refused badform") [S, c, .ow false (dgD s), .im x, .im (.lst (ers x)), .im (.lst wds), .im (.int 11), .im (.exv "BadForm" [] []), d, .no] := fun d => by kernel_rfl
  have h4 : gIx (.lst wds) (.int 11) = some (.str "badform") := by kernel_rfl
  have h5 : gAdd (.str "refused ") (.str "badform") = some (.str "refused badform") := by kernel_rfl
  have h6 : gNe (.str "refused badform") (.str "refused badform") = some (.bl false) := by kernel_rfl
  have q1 : gIsX xv [.own "QuietError"] (.exv "BadForm" [] []) = some (.bl true) := by kernel_rfl
  have q2 : gIsX xv [.ty "ValueError"] (.exv "BadForm" [] []) = some (.bl true) := by kernel_rfl
  have g1 : gNe (.lst []) (.lst []) = some (.bl false) := gNe_self (by rfl)
  have hl : gLen (.lst (ers x)) = some (.int 19) := rfl
  have g2 : gNe (.lst [.bl false, .bl false, .bl false, .bl false, .bl false, .bl false, .bl false, .bl false, .bl false, .bl false, .bl false, .bl true, .bl false, .bl false, .bl false, .bl false, .bl false, .bl false, .bl false]) (.lst [.bl false, .bl false, .bl false, .bl false, .bl false, .bl false, .bl false, .bl false, .bl false, .bl false, .bl false, .bl true, .bl false, .bl false, .bl false, .bl false, .bl false, .bl false, .bl false]) = some (.bl false) := by kernel_rfl
  have e2 : ((List.range 19).map fun k : Nat => D.bl (decide ((k : Int) = 11))) = [.bl false, .bl false, .bl false, .bl false, .bl false, .bl false, .bl false, .bl false, .bl false, .bl false, .bl false, .bl true, .bl false, .bl false, .bl false, .bl false, .bl false, .bl false, .bl false] := by kernel_rfl
  unfold e01 lp1_law
  simp only [RD1, RD2, RD3, RD4, RD5, RD6, RD7, RD8, RD9, RD10, List.all_cons, List.all_nil, List.length_cons, List.length_nil, List.getElem?_cons_zero, List.getElem?_cons_succ, List.getElem?_nil, List.set_cons_zero, List.set_cons_succ, List.cons_append, List.nil_append, List.replicate_succ, List.replicate_zero, Nat.reduceAdd, Nat.reduceSub, Nat.reduceEqDiff, Nat.reduceLeDiff, Nat.reduceLT, Option.bind_some, Option.bind_none, Option.map_some, Option.map_none, if_true, if_false, ite_true, ite_false, reduceCtorEq, decide_true, decide_false, Int.reducePow, Int.reduceToNat, Int.reduceMul, Int.reduceAdd, Int.reduceSub, Int.reduceNeg, Int.reduceLT, Int.reduceLE, List.map_append, List.map_cons, List.map_nil, g2m_ii, tLl, gInD_n, gInD_i, gInD_s, mmInsertu, g4maxu, h3, h4, h5, h6, h1, g1, q1, q2, h2, hl, show bnd 19 = true from by decide]
  rw [show rgD 0 19 = (List.range 19).map fun i : Nat => D.int (i : Nat) from by kernel_rfl, lcL_all (fun k : Nat => [D.int (k : Nat)]) (fun k : Nat => D.bl (decide ((k : Int) = 11))) (by simp only [RD1, RD2, RD3, RD4, RD5, RD6, RD7, RD8, RD9, RD10, List.all_cons, List.all_nil, List.length_cons, List.length_nil, List.getElem?_cons_zero, List.getElem?_cons_succ, List.getElem?_nil, List.set_cons_zero, List.set_cons_succ, List.cons_append, List.nil_append, List.replicate_succ, List.replicate_zero, Nat.reduceAdd, Nat.reduceSub, Nat.reduceEqDiff, Nat.reduceLeDiff, Nat.reduceLT, Option.bind_some, Option.bind_none, Option.map_some, Option.map_none, if_true, if_false, ite_true, ite_false, reduceCtorEq, decide_true, decide_false, Int.reducePow, Int.reduceToNat, Int.reduceMul, Int.reduceAdd, Int.reduceSub, Int.reduceNeg, Int.reduceLT, Int.reduceLE, List.map_append, List.map_cons, List.map_nil, g2m_ii, tLl, gInD_n, gInD_i, gInD_s, mmInsertu, g4maxu]) (by simp only [RD1, RD2, RD3, RD4, RD5, RD6, RD7, RD8, RD9, RD10, List.all_cons, List.all_nil, List.length_cons, List.length_nil, List.getElem?_cons_zero, List.getElem?_cons_succ, List.getElem?_nil, List.set_cons_zero, List.set_cons_succ, List.cons_append, List.nil_append, List.replicate_succ, List.replicate_zero, Nat.reduceAdd, Nat.reduceSub, Nat.reduceEqDiff, Nat.reduceLeDiff, Nat.reduceLT, Option.bind_some, Option.bind_none, Option.map_some, Option.map_none, if_true, if_false, ite_true, ite_false, reduceCtorEq, decide_true, decide_false, Int.reducePow, Int.reduceToNat, Int.reduceMul, Int.reduceAdd, Int.reduceSub, Int.reduceNeg, Int.reduceLT, Int.reduceLE, List.map_append, List.map_cons, List.map_nil, g2m_ii, tLl, gInD_n, gInD_i, gInD_s, mmInsertu, g4maxu]) (fun m _ => by simp only [RD1, RD2, RD3, RD4, RD5, RD6, RD7, RD8, RD9, RD10, List.all_cons, List.all_nil, List.length_cons, List.length_nil, List.getElem?_cons_zero, List.getElem?_cons_succ, List.getElem?_nil, List.set_cons_zero, List.set_cons_succ, List.cons_append, List.nil_append, List.replicate_succ, List.replicate_zero, Nat.reduceAdd, Nat.reduceSub, Nat.reduceEqDiff, Nat.reduceLeDiff, Nat.reduceLT, Option.bind_some, Option.bind_none, Option.map_some, Option.map_none, if_true, if_false, ite_true, ite_false, reduceCtorEq, decide_true, decide_false, Int.reducePow, Int.reduceToNat, Int.reduceMul, Int.reduceAdd, Int.reduceSub, Int.reduceNeg, Int.reduceLT, Int.reduceLE, List.map_append, List.map_cons, List.map_nil, g2m_ii, tLl, gInD_n, gInD_i, gInD_s, mmInsertu, g4maxu]) (fun m _ => by simp only [RD1, RD2, RD3, RD4, RD5, RD6, RD7, RD8, RD9, RD10, List.all_cons, List.all_nil, List.length_cons, List.length_nil, List.getElem?_cons_zero, List.getElem?_cons_succ, List.getElem?_nil, List.set_cons_zero, List.set_cons_succ, List.cons_append, List.nil_append, List.replicate_succ, List.replicate_zero, Nat.reduceAdd, Nat.reduceSub, Nat.reduceEqDiff, Nat.reduceLeDiff, Nat.reduceLT, Option.bind_some, Option.bind_none, Option.map_some, Option.map_none, if_true, if_false, ite_true, ite_false, reduceCtorEq, decide_true, decide_false, Int.reducePow, Int.reduceToNat, Int.reduceMul, Int.reduceAdd, Int.reduceSub, Int.reduceNeg, Int.reduceLT, Int.reduceLE, List.map_append, List.map_cons, List.map_nil, g2m_ii, tLl, gInD_n, gInD_i, gInD_s, mmInsertu, g4maxu, gEq_i01])]
  rw [e2]
  simp only [RD1, RD2, RD3, RD4, RD5, RD6, RD7, RD8, RD9, RD10, List.all_cons, List.all_nil, List.length_cons, List.length_nil, List.getElem?_cons_zero, List.getElem?_cons_succ, List.getElem?_nil, List.set_cons_zero, List.set_cons_succ, List.cons_append, List.nil_append, List.replicate_succ, List.replicate_zero, Nat.reduceAdd, Nat.reduceSub, Nat.reduceEqDiff, Nat.reduceLeDiff, Nat.reduceLT, Option.bind_some, Option.bind_none, Option.map_some, Option.map_none, if_true, if_false, ite_true, ite_false, reduceCtorEq, decide_true, decide_false, Int.reducePow, Int.reduceToNat, Int.reduceMul, Int.reduceAdd, Int.reduceSub, Int.reduceNeg, Int.reduceLT, Int.reduceLE, List.map_append, List.map_cons, List.map_nil, g2m_ii, tLl, gInD_n, gInD_i, gInD_s, mmInsertu, g4maxu, g2, List.length_cons, List.length_nil]
theorem tn_12 {S c : Sl} {s : Dg} {x : D} (hx : okD 15 x = true) : lp1_law (e01 S c s x (.im (.int 12)) (.im (.exv "Mixed" [] [])) .no) = .nx (e01 S c s x .no .no .no) := by
  have h1 : F__law_field [.im (.exv "Mixed" [] [])] = .rt (.lst []) [.im (.exv "Mixed" [] [])] := by kernel_rfl
  have h2 : F__law_classes [.im (.exv "Mixed" [] [])] = .ro (.lst [.bl false, .bl false, .bl false, .bl false, .bl false, .bl false, .bl false, .bl false, .bl false, .bl false, .bl false, .bl false, .bl true, .bl false, .bl false, .bl false, .bl false, .bl false, .bl false]) [.im (.exv "Mixed" [] [])] := by kernel_rfl
  have h3 : ∀ d, fMethX "told" [("BadStream", F_BadStream_told), ("BadMember", F_BadMember_told), ("BadRow", F_BadRow_told), ("BadTrain", F_BadTrain_told), ("NoEvent", F_NoEvent_told), ("Large", F_Large_told), ("BadNumbers", F_BadNumbers_told), ("BadBus", F_BadBus_told), ("NoInput", F_NoInput_told), ("NotLater", F_NotLater_told), ("BadText", F_BadText_told), ("BadForm", F_BadForm_told), ("Mixed", F_Mixed_told), ("NoQuestion", F_NoQuestion_told), ("Untrue", F_Untrue_told), ("NotKnown", F_NotKnown_told), ("OtherInputs", F_OtherInputs_told), ("NoBack", F_NoBack_told), ("NoName", F_NoName_told)] (fVar 7) [S, c, .ow false (dgD s), .im x, .im (.lst (ers x)), .im (.lst wds), .im (.int 12), .im (.exv "Mixed" [] []), d, .no] = .ok (.str "refused mixed") [S, c, .ow false (dgD s), .im x, .im (.lst (ers x)), .im (.lst wds), .im (.int 12), .im (.exv "Mixed" [] []), d, .no] := fun d => by kernel_rfl
  have h4 : gIx (.lst wds) (.int 12) = some (.str "mixed") := by kernel_rfl
  have h5 : gAdd (.str "refused ") (.str "mixed") = some (.str "refused mixed") := by kernel_rfl
  have h6 : gNe (.str "refused mixed") (.str "refused mixed") = some (.bl false) := by kernel_rfl
  have q1 : gIsX xv [.own "QuietError"] (.exv "Mixed" [] []) = some (.bl true) := by kernel_rfl
  have q2 : gIsX xv [.ty "ValueError"] (.exv "Mixed" [] []) = some (.bl true) := by kernel_rfl
  have g1 : gNe (.lst []) (.lst []) = some (.bl false) := gNe_self (by rfl)
  have hl : gLen (.lst (ers x)) = some (.int 19) := rfl
  have g2 : gNe (.lst [.bl false, .bl false, .bl false, .bl false, .bl false, .bl false, .bl false, .bl false, .bl false, .bl false, .bl false, .bl false, .bl true, .bl false, .bl false, .bl false, .bl false, .bl false, .bl false]) (.lst [.bl false, .bl false, .bl false, .bl false, .bl false, .bl false, .bl false, .bl false, .bl false, .bl false, .bl false, .bl false, .bl true, .bl false, .bl false, .bl false, .bl false, .bl false, .bl false]) = some (.bl false) := by kernel_rfl
  have e2 : ((List.range 19).map fun k : Nat => D.bl (decide ((k : Int) = 12))) = [.bl false, .bl false, .bl false, .bl false, .bl false, .bl false, .bl false, .bl false, .bl false, .bl false, .bl false, .bl false, .bl true, .bl false, .bl false, .bl false, .bl false, .bl false, .bl false] := by kernel_rfl
  unfold e01 lp1_law
  simp only [RD1, RD2, RD3, RD4, RD5, RD6, RD7, RD8, RD9, RD10, List.all_cons, List.all_nil, List.length_cons, List.length_nil, List.getElem?_cons_zero, List.getElem?_cons_succ, List.getElem?_nil, List.set_cons_zero, List.set_cons_succ, List.cons_append, List.nil_append, List.replicate_succ, List.replicate_zero, Nat.reduceAdd, Nat.reduceSub, Nat.reduceEqDiff, Nat.reduceLeDiff, Nat.reduceLT, Option.bind_some, Option.bind_none, Option.map_some, Option.map_none, if_true, if_false, ite_true, ite_false, reduceCtorEq, decide_true, decide_false, Int.reducePow, Int.reduceToNat, Int.reduceMul, Int.reduceAdd, Int.reduceSub, Int.reduceNeg, Int.reduceLT, Int.reduceLE, List.map_append, List.map_cons, List.map_nil, g2m_ii, tLl, gInD_n, gInD_i, gInD_s, mmInsertu, g4maxu, h3, h4, h5, h6, h1, g1, q1, q2, h2, hl, show bnd 19 = true from by decide]
  rw [show rgD 0 19 = (List.range 19).map fun i : Nat => D.int (i : Nat) from by kernel_rfl, lcL_all (fun k : Nat => [D.int (k : Nat)]) (fun k : Nat => D.bl (decide ((k : Int) = 12))) (by simp only [RD1, RD2, RD3, RD4, RD5, RD6, RD7, RD8, RD9, RD10, List.all_cons, List.all_nil, List.length_cons, List.length_nil, List.getElem?_cons_zero, List.getElem?_cons_succ, List.getElem?_nil, List.set_cons_zero, List.set_cons_succ, List.cons_append, List.nil_append, List.replicate_succ, List.replicate_zero, Nat.reduceAdd, Nat.reduceSub, Nat.reduceEqDiff, Nat.reduceLeDiff, Nat.reduceLT, Option.bind_some, Option.bind_none, Option.map_some, Option.map_none, if_true, if_false, ite_true, ite_false, reduceCtorEq, decide_true, decide_false, Int.reducePow, Int.reduceToNat, Int.reduceMul, Int.reduceAdd, Int.reduceSub, Int.reduceNeg, Int.reduceLT, Int.reduceLE, List.map_append, List.map_cons, List.map_nil, g2m_ii, tLl, gInD_n, gInD_i, gInD_s, mmInsertu, g4maxu]) (by simp only [RD1, RD2, RD3, RD4, RD5, RD6, RD7, RD8, RD9, RD10, List.all_cons, List.all_nil, List.length_cons, List.length_nil, List.getElem?_cons_zero, List.getElem?_cons_succ, List.getElem?_nil, List.set_cons_zero, List.set_cons_succ, List.cons_append, List.nil_append, List.replicate_succ, List.replicate_zero, Nat.reduceAdd, Nat.reduceSub, Nat.reduceEqDiff, Nat.reduceLeDiff, Nat.reduceLT, Option.bind_some, Option.bind_none, Option.map_some, Option.map_none, if_true, if_false, ite_true, ite_false, reduceCtorEq, decide_true, decide_false, Int.reducePow, Int.reduceToNat, Int.reduceMul, Int.reduceAdd, Int.reduceSub, Int.reduceNeg, Int.reduceLT, Int.reduceLE, List.map_append, List.map_cons, List.map_nil, g2m_ii, tLl, gInD_n, gInD_i, gInD_s, mmInsertu, g4maxu]) (fun m _ => by simp only [RD1, RD2, RD3, RD4, RD5, RD6, RD7, RD8, RD9, RD10, List.all_cons, List.all_nil, List.length_cons, List.length_nil, List.getElem?_cons_zero, List.getElem?_cons_succ, List.getElem?_nil, List.set_cons_zero, List.set_cons_succ, List.cons_append, List.nil_append, List.replicate_succ, List.replicate_zero, Nat.reduceAdd, Nat.reduceSub, Nat.reduceEqDiff, Nat.reduceLeDiff, Nat.reduceLT, Option.bind_some, Option.bind_none, Option.map_some, Option.map_none, if_true, if_false, ite_true, ite_false, reduceCtorEq, decide_true, decide_false, Int.reducePow, Int.reduceToNat, Int.reduceMul, Int.reduceAdd, Int.reduceSub, Int.reduceNeg, Int.reduceLT, Int.reduceLE, List.map_append, List.map_cons, List.map_nil, g2m_ii, tLl, gInD_n, gInD_i, gInD_s, mmInsertu, g4maxu]) (fun m _ => by simp only [RD1, RD2, RD3, RD4, RD5, RD6, RD7, RD8, RD9, RD10, List.all_cons, List.all_nil, List.length_cons, List.length_nil, List.getElem?_cons_zero, List.getElem?_cons_succ, List.getElem?_nil, List.set_cons_zero, List.set_cons_succ, List.cons_append, List.nil_append, List.replicate_succ, List.replicate_zero, Nat.reduceAdd, Nat.reduceSub, Nat.reduceEqDiff, Nat.reduceLeDiff, Nat.reduceLT, Option.bind_some, Option.bind_none, Option.map_some, Option.map_none, if_true, if_false, ite_true, ite_false, reduceCtorEq, decide_true, decide_false, Int.reducePow, Int.reduceToNat, Int.reduceMul, Int.reduceAdd, Int.reduceSub, Int.reduceNeg, Int.reduceLT, Int.reduceLE, List.map_append, List.map_cons, List.map_nil, g2m_ii, tLl, gInD_n, gInD_i, gInD_s, mmInsertu, g4maxu, gEq_i01])]
  rw [e2]
  simp only [RD1, RD2, RD3, RD4, RD5, RD6, RD7, RD8, RD9, RD10, List.all_cons, List.all_nil, List.length_cons, List.length_nil, List.getElem?_cons_zero, List.getElem?_cons_succ, List.getElem?_nil, List.set_cons_zero, List.set_cons_succ, List.cons_append, List.nil_append, List.replicate_succ, List.replicate_zero, Nat.reduceAdd, Nat.reduceSub, Nat.reduceEqDiff, Nat.reduceLeDiff, Nat.reduceLT, Option.bind_some, Option.bind_none, Option.map_some, Option.map_none, if_true, if_false, ite_true, ite_false, reduceCtorEq, decide_true, decide_false, Int.reducePow, Int.reduceToNat, Int.reduceMul, Int.reduceAdd, Int.reduceSub, Int.reduceNeg, Int.reduceLT, Int.reduceLE, List.map_append, List.map_cons, List.map_nil, g2m_ii, tLl, gInD_n, gInD_i, gInD_s, mmInsertu, g4maxu, g2, List.length_cons, List.length_nil]
theorem tn_13 {S c : Sl} {s : Dg} {x : D} (hx : okD 15 x = true) : lp1_law (e01 S c s x (.im (.int 13)) (.im (.exv "NoQuestion" [] [])) .no) = .nx (e01 S c s x .no .no .no) := by
  have h1 : F__law_field [.im (.exv "NoQuestion" [] [])] = .rt (.lst []) [.im (.exv "NoQuestion" [] [])] := by kernel_rfl
  have h2 : F__law_classes [.im (.exv "NoQuestion" [] [])] = .ro (.lst [.bl false, .bl false, .bl false, .bl false, .bl false, .bl false, .bl false, .bl false, .bl false, .bl false, .bl false, .bl false, .bl false, .bl true, .bl false, .bl false, .bl false, .bl false, .bl false]) [.im (.exv "NoQuestion" [] [])] := by kernel_rfl
  have h3 : ∀ d, fMethX "told" [("BadStream", F_BadStream_told), ("BadMember", F_BadMember_told), ("BadRow", F_BadRow_told), ("BadTrain", F_BadTrain_told), ("NoEvent", F_NoEvent_told), ("Large", F_Large_told), ("BadNumbers", F_BadNumbers_told), ("BadBus", F_BadBus_told), ("NoInput", F_NoInput_told), ("NotLater", F_NotLater_told), ("BadText", F_BadText_told), ("BadForm", F_BadForm_told), ("Mixed", F_Mixed_told), ("NoQuestion", F_NoQuestion_told), ("Untrue", F_Untrue_told), ("NotKnown", F_NotKnown_told), ("OtherInputs", F_OtherInputs_told), ("NoBack", F_NoBack_told), ("NoName", F_NoName_told)] (fVar 7) [S, c, .ow false (dgD s), .im x, .im (.lst (ers x)), .im (.lst wds), .im (.int 13), .im (.exv "NoQuestion" [] []), d, .no] = .ok (.str "refused noquestion") [S, c, .ow false (dgD s), .im x, .im (.lst (ers x)), .im (.lst wds), .im (.int 13), .im (.exv "NoQuestion" [] []), d, .no] := fun d => by kernel_rfl
  have h4 : gIx (.lst wds) (.int 13) = some (.str "noquestion") := by kernel_rfl
  have h5 : gAdd (.str "refused ") (.str "noquestion") = some (.str "refused noquestion") := by kernel_rfl
  have h6 : gNe (.str "refused noquestion") (.str "refused noquestion") = some (.bl false) := by kernel_rfl
  have q1 : gIsX xv [.own "QuietError"] (.exv "NoQuestion" [] []) = some (.bl true) := by kernel_rfl
  have q2 : gIsX xv [.ty "ValueError"] (.exv "NoQuestion" [] []) = some (.bl true) := by kernel_rfl
  have g1 : gNe (.lst []) (.lst []) = some (.bl false) := gNe_self (by rfl)
  have hl : gLen (.lst (ers x)) = some (.int 19) := rfl
  have g2 : gNe (.lst [.bl false, .bl false, .bl false, .bl false, .bl false, .bl false, .bl false, .bl false, .bl false, .bl false, .bl false, .bl false, .bl false, .bl true, .bl false, .bl false, .bl false, .bl false, .bl false]) (.lst [.bl false, .bl false, .bl false, .bl false, .bl false, .bl false, .bl false, .bl false, .bl false, .bl false, .bl false, .bl false, .bl false, .bl true, .bl false, .bl false, .bl false, .bl false, .bl false]) = some (.bl false) := by kernel_rfl
  have e2 : ((List.range 19).map fun k : Nat => D.bl (decide ((k : Int) = 13))) = [.bl false, .bl false, .bl false, .bl false, .bl false, .bl false, .bl false, .bl false, .bl false, .bl false, .bl false, .bl false, .bl false, .bl true, .bl false, .bl false, .bl false, .bl false, .bl false] := by kernel_rfl
  unfold e01 lp1_law
  simp only [RD1, RD2, RD3, RD4, RD5, RD6, RD7, RD8, RD9, RD10, List.all_cons, List.all_nil, List.length_cons, List.length_nil, List.getElem?_cons_zero, List.getElem?_cons_succ, List.getElem?_nil, List.set_cons_zero, List.set_cons_succ, List.cons_append, List.nil_append, List.replicate_succ, List.replicate_zero, Nat.reduceAdd, Nat.reduceSub, Nat.reduceEqDiff, Nat.reduceLeDiff, Nat.reduceLT, Option.bind_some, Option.bind_none, Option.map_some, Option.map_none, if_true, if_false, ite_true, ite_false, reduceCtorEq, decide_true, decide_false, Int.reducePow, Int.reduceToNat, Int.reduceMul, Int.reduceAdd, Int.reduceSub, Int.reduceNeg, Int.reduceLT, Int.reduceLE, List.map_append, List.map_cons, List.map_nil, g2m_ii, tLl, gInD_n, gInD_i, gInD_s, mmInsertu, g4maxu, h3, h4, h5, h6, h1, g1, q1, q2, h2, hl, show bnd 19 = true from by decide]
  rw [show rgD 0 19 = (List.range 19).map fun i : Nat => D.int (i : Nat) from by kernel_rfl, lcL_all (fun k : Nat => [D.int (k : Nat)]) (fun k : Nat => D.bl (decide ((k : Int) = 13))) (by simp only [RD1, RD2, RD3, RD4, RD5, RD6, RD7, RD8, RD9, RD10, List.all_cons, List.all_nil, List.length_cons, List.length_nil, List.getElem?_cons_zero, List.getElem?_cons_succ, List.getElem?_nil, List.set_cons_zero, List.set_cons_succ, List.cons_append, List.nil_append, List.replicate_succ, List.replicate_zero, Nat.reduceAdd, Nat.reduceSub, Nat.reduceEqDiff, Nat.reduceLeDiff, Nat.reduceLT, Option.bind_some, Option.bind_none, Option.map_some, Option.map_none, if_true, if_false, ite_true, ite_false, reduceCtorEq, decide_true, decide_false, Int.reducePow, Int.reduceToNat, Int.reduceMul, Int.reduceAdd, Int.reduceSub, Int.reduceNeg, Int.reduceLT, Int.reduceLE, List.map_append, List.map_cons, List.map_nil, g2m_ii, tLl, gInD_n, gInD_i, gInD_s, mmInsertu, g4maxu]) (by simp only [RD1, RD2, RD3, RD4, RD5, RD6, RD7, RD8, RD9, RD10, List.all_cons, List.all_nil, List.length_cons, List.length_nil, List.getElem?_cons_zero, List.getElem?_cons_succ, List.getElem?_nil, List.set_cons_zero, List.set_cons_succ, List.cons_append, List.nil_append, List.replicate_succ, List.replicate_zero, Nat.reduceAdd, Nat.reduceSub, Nat.reduceEqDiff, Nat.reduceLeDiff, Nat.reduceLT, Option.bind_some, Option.bind_none, Option.map_some, Option.map_none, if_true, if_false, ite_true, ite_false, reduceCtorEq, decide_true, decide_false, Int.reducePow, Int.reduceToNat, Int.reduceMul, Int.reduceAdd, Int.reduceSub, Int.reduceNeg, Int.reduceLT, Int.reduceLE, List.map_append, List.map_cons, List.map_nil, g2m_ii, tLl, gInD_n, gInD_i, gInD_s, mmInsertu, g4maxu]) (fun m _ => by simp only [RD1, RD2, RD3, RD4, RD5, RD6, RD7, RD8, RD9, RD10, List.all_cons, List.all_nil, List.length_cons, List.length_nil, List.getElem?_cons_zero, List.getElem?_cons_succ, List.getElem?_nil, List.set_cons_zero, List.set_cons_succ, List.cons_append, List.nil_append, List.replicate_succ, List.replicate_zero, Nat.reduceAdd, Nat.reduceSub, Nat.reduceEqDiff, Nat.reduceLeDiff, Nat.reduceLT, Option.bind_some, Option.bind_none, Option.map_some, Option.map_none, if_true, if_false, ite_true, ite_false, reduceCtorEq, decide_true, decide_false, Int.reducePow, Int.reduceToNat, Int.reduceMul, Int.reduceAdd, Int.reduceSub, Int.reduceNeg, Int.reduceLT, Int.reduceLE, List.map_append, List.map_cons, List.map_nil, g2m_ii, tLl, gInD_n, gInD_i, gInD_s, mmInsertu, g4maxu]) (fun m _ => by simp only [RD1, RD2, RD3, RD4, RD5, RD6, RD7, RD8, RD9, RD10, List.all_cons, List.all_nil, List.length_cons, List.length_nil, List.getElem?_cons_zero, List.getElem?_cons_succ, List.getElem?_nil, List.set_cons_zero, List.set_cons_succ, List.cons_append, List.nil_append, List.replicate_succ, List.replicate_zero, Nat.reduceAdd, Nat.reduceSub, Nat.reduceEqDiff, Nat.reduceLeDiff, Nat.reduceLT, Option.bind_some, Option.bind_none, Option.map_some, Option.map_none, if_true, if_false, ite_true, ite_false, reduceCtorEq, decide_true, decide_false, Int.reducePow, Int.reduceToNat, Int.reduceMul, Int.reduceAdd, Int.reduceSub, Int.reduceNeg, Int.reduceLT, Int.reduceLE, List.map_append, List.map_cons, List.map_nil, g2m_ii, tLl, gInD_n, gInD_i, gInD_s, mmInsertu, g4maxu, gEq_i01])]
  rw [e2]
  simp only [RD1, RD2, RD3, RD4, RD5, RD6, RD7, RD8, RD9, RD10, List.all_cons, List.all_nil, List.length_cons, List.length_nil, List.getElem?_cons_zero, List.getElem?_cons_succ, List.getElem?_nil, List.set_cons_zero, List.set_cons_succ, List.cons_append, List.nil_append, List.replicate_succ, List.replicate_zero, Nat.reduceAdd, Nat.reduceSub, Nat.reduceEqDiff, Nat.reduceLeDiff, Nat.reduceLT, Option.bind_some, Option.bind_none, Option.map_some, Option.map_none, if_true, if_false, ite_true, ite_false, reduceCtorEq, decide_true, decide_false, Int.reducePow, Int.reduceToNat, Int.reduceMul, Int.reduceAdd, Int.reduceSub, Int.reduceNeg, Int.reduceLT, Int.reduceLE, List.map_append, List.map_cons, List.map_nil, g2m_ii, tLl, gInD_n, gInD_i, gInD_s, mmInsertu, g4maxu, g2, List.length_cons, List.length_nil]
theorem tn_14 {S c : Sl} {s : Dg} {x : D} (hx : okD 15 x = true) : lp1_law (e01 S c s x (.im (.int 14)) (.im (.exv "Untrue" [] [])) .no) = .nx (e01 S c s x .no .no .no) := by
  have h1 : F__law_field [.im (.exv "Untrue" [] [])] = .rt (.lst []) [.im (.exv "Untrue" [] [])] := by kernel_rfl
  have h2 : F__law_classes [.im (.exv "Untrue" [] [])] = .ro (.lst [.bl false, .bl false, .bl false, .bl false, .bl false, .bl false, .bl false, .bl false, .bl false, .bl false, .bl false, .bl false, .bl false, .bl false, .bl true, .bl false, .bl false, .bl false, .bl false]) [.im (.exv "Untrue" [] [])] := by kernel_rfl
  have h3 : ∀ d, fMethX "told" [("BadStream", F_BadStream_told), ("BadMember", F_BadMember_told), ("BadRow", F_BadRow_told), ("BadTrain", F_BadTrain_told), ("NoEvent", F_NoEvent_told), ("Large", F_Large_told), ("BadNumbers", F_BadNumbers_told), ("BadBus", F_BadBus_told), ("NoInput", F_NoInput_told), ("NotLater", F_NotLater_told), ("BadText", F_BadText_told), ("BadForm", F_BadForm_told), ("Mixed", F_Mixed_told), ("NoQuestion", F_NoQuestion_told), ("Untrue", F_Untrue_told), ("NotKnown", F_NotKnown_told), ("OtherInputs", F_OtherInputs_told), ("NoBack", F_NoBack_told), ("NoName", F_NoName_told)] (fVar 7) [S, c, .ow false (dgD s), .im x, .im (.lst (ers x)), .im (.lst wds), .im (.int 14), .im (.exv "Untrue" [] []), d, .no] = .ok (.str "refused untrue") [S, c, .ow false (dgD s), .im x, .im (.lst (ers x)), .im (.lst wds), .im (.int 14), .im (.exv "Untrue" [] []), d, .no] := fun d => by kernel_rfl
  have h4 : gIx (.lst wds) (.int 14) = some (.str "untrue") := by kernel_rfl
  have h5 : gAdd (.str "refused ") (.str "untrue") = some (.str "refused untrue") := by kernel_rfl
  have h6 : gNe (.str "refused untrue") (.str "refused untrue") = some (.bl false) := by kernel_rfl
  have q1 : gIsX xv [.own "QuietError"] (.exv "Untrue" [] []) = some (.bl true) := by kernel_rfl
  have q2 : gIsX xv [.ty "ValueError"] (.exv "Untrue" [] []) = some (.bl true) := by kernel_rfl
  have g1 : gNe (.lst []) (.lst []) = some (.bl false) := gNe_self (by rfl)
  have hl : gLen (.lst (ers x)) = some (.int 19) := rfl
  have g2 : gNe (.lst [.bl false, .bl false, .bl false, .bl false, .bl false, .bl false, .bl false, .bl false, .bl false, .bl false, .bl false, .bl false, .bl false, .bl false, .bl true, .bl false, .bl false, .bl false, .bl false]) (.lst [.bl false, .bl false, .bl false, .bl false, .bl false, .bl false, .bl false, .bl false, .bl false, .bl false, .bl false, .bl false, .bl false, .bl false, .bl true, .bl false, .bl false, .bl false, .bl false]) = some (.bl false) := by kernel_rfl
  have e2 : ((List.range 19).map fun k : Nat => D.bl (decide ((k : Int) = 14))) = [.bl false, .bl false, .bl false, .bl false, .bl false, .bl false, .bl false, .bl false, .bl false, .bl false, .bl false, .bl false, .bl false, .bl false, .bl true, .bl false, .bl false, .bl false, .bl false] := by kernel_rfl
  unfold e01 lp1_law
  simp only [RD1, RD2, RD3, RD4, RD5, RD6, RD7, RD8, RD9, RD10, List.all_cons, List.all_nil, List.length_cons, List.length_nil, List.getElem?_cons_zero, List.getElem?_cons_succ, List.getElem?_nil, List.set_cons_zero, List.set_cons_succ, List.cons_append, List.nil_append, List.replicate_succ, List.replicate_zero, Nat.reduceAdd, Nat.reduceSub, Nat.reduceEqDiff, Nat.reduceLeDiff, Nat.reduceLT, Option.bind_some, Option.bind_none, Option.map_some, Option.map_none, if_true, if_false, ite_true, ite_false, reduceCtorEq, decide_true, decide_false, Int.reducePow, Int.reduceToNat, Int.reduceMul, Int.reduceAdd, Int.reduceSub, Int.reduceNeg, Int.reduceLT, Int.reduceLE, List.map_append, List.map_cons, List.map_nil, g2m_ii, tLl, gInD_n, gInD_i, gInD_s, mmInsertu, g4maxu, h3, h4, h5, h6, h1, g1, q1, q2, h2, hl, show bnd 19 = true from by decide]
  rw [show rgD 0 19 = (List.range 19).map fun i : Nat => D.int (i : Nat) from by kernel_rfl, lcL_all (fun k : Nat => [D.int (k : Nat)]) (fun k : Nat => D.bl (decide ((k : Int) = 14))) (by simp only [RD1, RD2, RD3, RD4, RD5, RD6, RD7, RD8, RD9, RD10, List.all_cons, List.all_nil, List.length_cons, List.length_nil, List.getElem?_cons_zero, List.getElem?_cons_succ, List.getElem?_nil, List.set_cons_zero, List.set_cons_succ, List.cons_append, List.nil_append, List.replicate_succ, List.replicate_zero, Nat.reduceAdd, Nat.reduceSub, Nat.reduceEqDiff, Nat.reduceLeDiff, Nat.reduceLT, Option.bind_some, Option.bind_none, Option.map_some, Option.map_none, if_true, if_false, ite_true, ite_false, reduceCtorEq, decide_true, decide_false, Int.reducePow, Int.reduceToNat, Int.reduceMul, Int.reduceAdd, Int.reduceSub, Int.reduceNeg, Int.reduceLT, Int.reduceLE, List.map_append, List.map_cons, List.map_nil, g2m_ii, tLl, gInD_n, gInD_i, gInD_s, mmInsertu, g4maxu]) (by simp only [RD1, RD2, RD3, RD4, RD5, RD6, RD7, RD8, RD9, RD10, List.all_cons, List.all_nil, List.length_cons, List.length_nil, List.getElem?_cons_zero, List.getElem?_cons_succ, List.getElem?_nil, List.set_cons_zero, List.set_cons_succ, List.cons_append, List.nil_append, List.replicate_succ, List.replicate_zero, Nat.reduceAdd, Nat.reduceSub, Nat.reduceEqDiff, Nat.reduceLeDiff, Nat.reduceLT, Option.bind_some, Option.bind_none, Option.map_some, Option.map_none, if_true, if_false, ite_true, ite_false, reduceCtorEq, decide_true, decide_false, Int.reducePow, Int.reduceToNat, Int.reduceMul, Int.reduceAdd, Int.reduceSub, Int.reduceNeg, Int.reduceLT, Int.reduceLE, List.map_append, List.map_cons, List.map_nil, g2m_ii, tLl, gInD_n, gInD_i, gInD_s, mmInsertu, g4maxu]) (fun m _ => by simp only [RD1, RD2, RD3, RD4, RD5, RD6, RD7, RD8, RD9, RD10, List.all_cons, List.all_nil, List.length_cons, List.length_nil, List.getElem?_cons_zero, List.getElem?_cons_succ, List.getElem?_nil, List.set_cons_zero, List.set_cons_succ, List.cons_append, List.nil_append, List.replicate_succ, List.replicate_zero, Nat.reduceAdd, Nat.reduceSub, Nat.reduceEqDiff, Nat.reduceLeDiff, Nat.reduceLT, Option.bind_some, Option.bind_none, Option.map_some, Option.map_none, if_true, if_false, ite_true, ite_false, reduceCtorEq, decide_true, decide_false, Int.reducePow, Int.reduceToNat, Int.reduceMul, Int.reduceAdd, Int.reduceSub, Int.reduceNeg, Int.reduceLT, Int.reduceLE, List.map_append, List.map_cons, List.map_nil, g2m_ii, tLl, gInD_n, gInD_i, gInD_s, mmInsertu, g4maxu]) (fun m _ => by simp only [RD1, RD2, RD3, RD4, RD5, RD6, RD7, RD8, RD9, RD10, List.all_cons, List.all_nil, List.length_cons, List.length_nil, List.getElem?_cons_zero, List.getElem?_cons_succ, List.getElem?_nil, List.set_cons_zero, List.set_cons_succ, List.cons_append, List.nil_append, List.replicate_succ, List.replicate_zero, Nat.reduceAdd, Nat.reduceSub, Nat.reduceEqDiff, Nat.reduceLeDiff, Nat.reduceLT, Option.bind_some, Option.bind_none, Option.map_some, Option.map_none, if_true, if_false, ite_true, ite_false, reduceCtorEq, decide_true, decide_false, Int.reducePow, Int.reduceToNat, Int.reduceMul, Int.reduceAdd, Int.reduceSub, Int.reduceNeg, Int.reduceLT, Int.reduceLE, List.map_append, List.map_cons, List.map_nil, g2m_ii, tLl, gInD_n, gInD_i, gInD_s, mmInsertu, g4maxu, gEq_i01])]
  rw [e2]
  simp only [RD1, RD2, RD3, RD4, RD5, RD6, RD7, RD8, RD9, RD10, List.all_cons, List.all_nil, List.length_cons, List.length_nil, List.getElem?_cons_zero, List.getElem?_cons_succ, List.getElem?_nil, List.set_cons_zero, List.set_cons_succ, List.cons_append, List.nil_append, List.replicate_succ, List.replicate_zero, Nat.reduceAdd, Nat.reduceSub, Nat.reduceEqDiff, Nat.reduceLeDiff, Nat.reduceLT, Option.bind_some, Option.bind_none, Option.map_some, Option.map_none, if_true, if_false, ite_true, ite_false, reduceCtorEq, decide_true, decide_false, Int.reducePow, Int.reduceToNat, Int.reduceMul, Int.reduceAdd, Int.reduceSub, Int.reduceNeg, Int.reduceLT, Int.reduceLE, List.map_append, List.map_cons, List.map_nil, g2m_ii, tLl, gInD_n, gInD_i, gInD_s, mmInsertu, g4maxu, g2, List.length_cons, List.length_nil]
theorem tn_15 {S c : Sl} {s : Dg} {x : D} (hx : okD 15 x = true) : lp1_law (e01 S c s x (.im (.int 15)) (.im (.exv "NotKnown" [] [])) .no) = .nx (e01 S c s x .no .no .no) := by
  have h1 : F__law_field [.im (.exv "NotKnown" [] [])] = .rt (.lst []) [.im (.exv "NotKnown" [] [])] := by kernel_rfl
  have h2 : F__law_classes [.im (.exv "NotKnown" [] [])] = .ro (.lst [.bl false, .bl false, .bl false, .bl false, .bl false, .bl false, .bl false, .bl false, .bl false, .bl false, .bl false, .bl false, .bl false, .bl false, .bl false, .bl true, .bl false, .bl false, .bl false]) [.im (.exv "NotKnown" [] [])] := by kernel_rfl
  have h3 : ∀ d, fMethX "told" [("BadStream", F_BadStream_told), ("BadMember", F_BadMember_told), ("BadRow", F_BadRow_told), ("BadTrain", F_BadTrain_told), ("NoEvent", F_NoEvent_told), ("Large", F_Large_told), ("BadNumbers", F_BadNumbers_told), ("BadBus", F_BadBus_told), ("NoInput", F_NoInput_told), ("NotLater", F_NotLater_told), ("BadText", F_BadText_told), ("BadForm", F_BadForm_told), ("Mixed", F_Mixed_told), ("NoQuestion", F_NoQuestion_told), ("Untrue", F_Untrue_told), ("NotKnown", F_NotKnown_told), ("OtherInputs", F_OtherInputs_told), ("NoBack", F_NoBack_told), ("NoName", F_NoName_told)] (fVar 7) [S, c, .ow false (dgD s), .im x, .im (.lst (ers x)), .im (.lst wds), .im (.int 15), .im (.exv "NotKnown" [] []), d, .no] = .ok (.str "refused notknown") [S, c, .ow false (dgD s), .im x, .im (.lst (ers x)), .im (.lst wds), .im (.int 15), .im (.exv "NotKnown" [] []), d, .no] := fun d => by kernel_rfl
  have h4 : gIx (.lst wds) (.int 15) = some (.str "notknown") := by kernel_rfl
  have h5 : gAdd (.str "refused ") (.str "notknown") = some (.str "refused notknown") := by kernel_rfl
  have h6 : gNe (.str "refused notknown") (.str "refused notknown") = some (.bl false) := by kernel_rfl
  have q1 : gIsX xv [.own "QuietError"] (.exv "NotKnown" [] []) = some (.bl true) := by kernel_rfl
  have q2 : gIsX xv [.ty "ValueError"] (.exv "NotKnown" [] []) = some (.bl true) := by kernel_rfl
  have g1 : gNe (.lst []) (.lst []) = some (.bl false) := gNe_self (by rfl)
  have hl : gLen (.lst (ers x)) = some (.int 19) := rfl
  have g2 : gNe (.lst [.bl false, .bl false, .bl false, .bl false, .bl false, .bl false, .bl false, .bl false, .bl false, .bl false, .bl false, .bl false, .bl false, .bl false, .bl false, .bl true, .bl false, .bl false, .bl false]) (.lst [.bl false, .bl false, .bl false, .bl false, .bl false, .bl false, .bl false, .bl false, .bl false, .bl false, .bl false, .bl false, .bl false, .bl false, .bl false, .bl true, .bl false, .bl false, .bl false]) = some (.bl false) := by kernel_rfl
  have e2 : ((List.range 19).map fun k : Nat => D.bl (decide ((k : Int) = 15))) = [.bl false, .bl false, .bl false, .bl false, .bl false, .bl false, .bl false, .bl false, .bl false, .bl false, .bl false, .bl false, .bl false, .bl false, .bl false, .bl true, .bl false, .bl false, .bl false] := by kernel_rfl
  unfold e01 lp1_law
  simp only [RD1, RD2, RD3, RD4, RD5, RD6, RD7, RD8, RD9, RD10, List.all_cons, List.all_nil, List.length_cons, List.length_nil, List.getElem?_cons_zero, List.getElem?_cons_succ, List.getElem?_nil, List.set_cons_zero, List.set_cons_succ, List.cons_append, List.nil_append, List.replicate_succ, List.replicate_zero, Nat.reduceAdd, Nat.reduceSub, Nat.reduceEqDiff, Nat.reduceLeDiff, Nat.reduceLT, Option.bind_some, Option.bind_none, Option.map_some, Option.map_none, if_true, if_false, ite_true, ite_false, reduceCtorEq, decide_true, decide_false, Int.reducePow, Int.reduceToNat, Int.reduceMul, Int.reduceAdd, Int.reduceSub, Int.reduceNeg, Int.reduceLT, Int.reduceLE, List.map_append, List.map_cons, List.map_nil, g2m_ii, tLl, gInD_n, gInD_i, gInD_s, mmInsertu, g4maxu, h3, h4, h5, h6, h1, g1, q1, q2, h2, hl, show bnd 19 = true from by decide]
  rw [show rgD 0 19 = (List.range 19).map fun i : Nat => D.int (i : Nat) from by kernel_rfl, lcL_all (fun k : Nat => [D.int (k : Nat)]) (fun k : Nat => D.bl (decide ((k : Int) = 15))) (by simp only [RD1, RD2, RD3, RD4, RD5, RD6, RD7, RD8, RD9, RD10, List.all_cons, List.all_nil, List.length_cons, List.length_nil, List.getElem?_cons_zero, List.getElem?_cons_succ, List.getElem?_nil, List.set_cons_zero, List.set_cons_succ, List.cons_append, List.nil_append, List.replicate_succ, List.replicate_zero, Nat.reduceAdd, Nat.reduceSub, Nat.reduceEqDiff, Nat.reduceLeDiff, Nat.reduceLT, Option.bind_some, Option.bind_none, Option.map_some, Option.map_none, if_true, if_false, ite_true, ite_false, reduceCtorEq, decide_true, decide_false, Int.reducePow, Int.reduceToNat, Int.reduceMul, Int.reduceAdd, Int.reduceSub, Int.reduceNeg, Int.reduceLT, Int.reduceLE, List.map_append, List.map_cons, List.map_nil, g2m_ii, tLl, gInD_n, gInD_i, gInD_s, mmInsertu, g4maxu]) (by simp only [RD1, RD2, RD3, RD4, RD5, RD6, RD7, RD8, RD9, RD10, List.all_cons, List.all_nil, List.length_cons, List.length_nil, List.getElem?_cons_zero, List.getElem?_cons_succ, List.getElem?_nil, List.set_cons_zero, List.set_cons_succ, List.cons_append, List.nil_append, List.replicate_succ, List.replicate_zero, Nat.reduceAdd, Nat.reduceSub, Nat.reduceEqDiff, Nat.reduceLeDiff, Nat.reduceLT, Option.bind_some, Option.bind_none, Option.map_some, Option.map_none, if_true, if_false, ite_true, ite_false, reduceCtorEq, decide_true, decide_false, Int.reducePow, Int.reduceToNat, Int.reduceMul, Int.reduceAdd, Int.reduceSub, Int.reduceNeg, Int.reduceLT, Int.reduceLE, List.map_append, List.map_cons, List.map_nil, g2m_ii, tLl, gInD_n, gInD_i, gInD_s, mmInsertu, g4maxu]) (fun m _ => by simp only [RD1, RD2, RD3, RD4, RD5, RD6, RD7, RD8, RD9, RD10, List.all_cons, List.all_nil, List.length_cons, List.length_nil, List.getElem?_cons_zero, List.getElem?_cons_succ, List.getElem?_nil, List.set_cons_zero, List.set_cons_succ, List.cons_append, List.nil_append, List.replicate_succ, List.replicate_zero, Nat.reduceAdd, Nat.reduceSub, Nat.reduceEqDiff, Nat.reduceLeDiff, Nat.reduceLT, Option.bind_some, Option.bind_none, Option.map_some, Option.map_none, if_true, if_false, ite_true, ite_false, reduceCtorEq, decide_true, decide_false, Int.reducePow, Int.reduceToNat, Int.reduceMul, Int.reduceAdd, Int.reduceSub, Int.reduceNeg, Int.reduceLT, Int.reduceLE, List.map_append, List.map_cons, List.map_nil, g2m_ii, tLl, gInD_n, gInD_i, gInD_s, mmInsertu, g4maxu]) (fun m _ => by simp only [RD1, RD2, RD3, RD4, RD5, RD6, RD7, RD8, RD9, RD10, List.all_cons, List.all_nil, List.length_cons, List.length_nil, List.getElem?_cons_zero, List.getElem?_cons_succ, List.getElem?_nil, List.set_cons_zero, List.set_cons_succ, List.cons_append, List.nil_append, List.replicate_succ, List.replicate_zero, Nat.reduceAdd, Nat.reduceSub, Nat.reduceEqDiff, Nat.reduceLeDiff, Nat.reduceLT, Option.bind_some, Option.bind_none, Option.map_some, Option.map_none, if_true, if_false, ite_true, ite_false, reduceCtorEq, decide_true, decide_false, Int.reducePow, Int.reduceToNat, Int.reduceMul, Int.reduceAdd, Int.reduceSub, Int.reduceNeg, Int.reduceLT, Int.reduceLE, List.map_append, List.map_cons, List.map_nil, g2m_ii, tLl, gInD_n, gInD_i, gInD_s, mmInsertu, g4maxu, gEq_i01])]
  rw [e2]
  simp only [RD1, RD2, RD3, RD4, RD5, RD6, RD7, RD8, RD9, RD10, List.all_cons, List.all_nil, List.length_cons, List.length_nil, List.getElem?_cons_zero, List.getElem?_cons_succ, List.getElem?_nil, List.set_cons_zero, List.set_cons_succ, List.cons_append, List.nil_append, List.replicate_succ, List.replicate_zero, Nat.reduceAdd, Nat.reduceSub, Nat.reduceEqDiff, Nat.reduceLeDiff, Nat.reduceLT, Option.bind_some, Option.bind_none, Option.map_some, Option.map_none, if_true, if_false, ite_true, ite_false, reduceCtorEq, decide_true, decide_false, Int.reducePow, Int.reduceToNat, Int.reduceMul, Int.reduceAdd, Int.reduceSub, Int.reduceNeg, Int.reduceLT, Int.reduceLE, List.map_append, List.map_cons, List.map_nil, g2m_ii, tLl, gInD_n, gInD_i, gInD_s, mmInsertu, g4maxu, g2, List.length_cons, List.length_nil]
theorem tn_16 {S c : Sl} {s : Dg} {x : D} (hx : okD 15 x = true) : lp1_law (e01 S c s x (.im (.int 16)) (.im (.exv "OtherInputs" [] [])) .no) = .nx (e01 S c s x .no .no .no) := by
  have h1 : F__law_field [.im (.exv "OtherInputs" [] [])] = .rt (.lst []) [.im (.exv "OtherInputs" [] [])] := by kernel_rfl
  have h2 : F__law_classes [.im (.exv "OtherInputs" [] [])] = .ro (.lst [.bl false, .bl false, .bl false, .bl false, .bl false, .bl false, .bl false, .bl false, .bl false, .bl false, .bl false, .bl false, .bl false, .bl false, .bl false, .bl false, .bl true, .bl false, .bl false]) [.im (.exv "OtherInputs" [] [])] := by kernel_rfl
  have h3 : ∀ d, fMethX "told" [("BadStream", F_BadStream_told), ("BadMember", F_BadMember_told), ("BadRow", F_BadRow_told), ("BadTrain", F_BadTrain_told), ("NoEvent", F_NoEvent_told), ("Large", F_Large_told), ("BadNumbers", F_BadNumbers_told), ("BadBus", F_BadBus_told), ("NoInput", F_NoInput_told), ("NotLater", F_NotLater_told), ("BadText", F_BadText_told), ("BadForm", F_BadForm_told), ("Mixed", F_Mixed_told), ("NoQuestion", F_NoQuestion_told), ("Untrue", F_Untrue_told), ("NotKnown", F_NotKnown_told), ("OtherInputs", F_OtherInputs_told), ("NoBack", F_NoBack_told), ("NoName", F_NoName_told)] (fVar 7) [S, c, .ow false (dgD s), .im x, .im (.lst (ers x)), .im (.lst wds), .im (.int 16), .im (.exv "OtherInputs" [] []), d, .no] = .ok (.str "refused otherinputs") [S, c, .ow false (dgD s), .im x, .im (.lst (ers x)), .im (.lst wds), .im (.int 16), .im (.exv "OtherInputs" [] []), d, .no] := fun d => by kernel_rfl
  have h4 : gIx (.lst wds) (.int 16) = some (.str "otherinputs") := by kernel_rfl
  have h5 : gAdd (.str "refused ") (.str "otherinputs") = some (.str "refused otherinputs") := by kernel_rfl
  have h6 : gNe (.str "refused otherinputs") (.str "refused otherinputs") = some (.bl false) := by kernel_rfl
  have q1 : gIsX xv [.own "QuietError"] (.exv "OtherInputs" [] []) = some (.bl true) := by kernel_rfl
  have q2 : gIsX xv [.ty "ValueError"] (.exv "OtherInputs" [] []) = some (.bl true) := by kernel_rfl
  have g1 : gNe (.lst []) (.lst []) = some (.bl false) := gNe_self (by rfl)
  have hl : gLen (.lst (ers x)) = some (.int 19) := rfl
  have g2 : gNe (.lst [.bl false, .bl false, .bl false, .bl false, .bl false, .bl false, .bl false, .bl false, .bl false, .bl false, .bl false, .bl false, .bl false, .bl false, .bl false, .bl false, .bl true, .bl false, .bl false]) (.lst [.bl false, .bl false, .bl false, .bl false, .bl false, .bl false, .bl false, .bl false, .bl false, .bl false, .bl false, .bl false, .bl false, .bl false, .bl false, .bl false, .bl true, .bl false, .bl false]) = some (.bl false) := by kernel_rfl
  have e2 : ((List.range 19).map fun k : Nat => D.bl (decide ((k : Int) = 16))) = [.bl false, .bl false, .bl false, .bl false, .bl false, .bl false, .bl false, .bl false, .bl false, .bl false, .bl false, .bl false, .bl false, .bl false, .bl false, .bl false, .bl true, .bl false, .bl false] := by kernel_rfl
  unfold e01 lp1_law
  simp only [RD1, RD2, RD3, RD4, RD5, RD6, RD7, RD8, RD9, RD10, List.all_cons, List.all_nil, List.length_cons, List.length_nil, List.getElem?_cons_zero, List.getElem?_cons_succ, List.getElem?_nil, List.set_cons_zero, List.set_cons_succ, List.cons_append, List.nil_append, List.replicate_succ, List.replicate_zero, Nat.reduceAdd, Nat.reduceSub, Nat.reduceEqDiff, Nat.reduceLeDiff, Nat.reduceLT, Option.bind_some, Option.bind_none, Option.map_some, Option.map_none, if_true, if_false, ite_true, ite_false, reduceCtorEq, decide_true, decide_false, Int.reducePow, Int.reduceToNat, Int.reduceMul, Int.reduceAdd, Int.reduceSub, Int.reduceNeg, Int.reduceLT, Int.reduceLE, List.map_append, List.map_cons, List.map_nil, g2m_ii, tLl, gInD_n, gInD_i, gInD_s, mmInsertu, g4maxu, h3, h4, h5, h6, h1, g1, q1, q2, h2, hl, show bnd 19 = true from by decide]
  rw [show rgD 0 19 = (List.range 19).map fun i : Nat => D.int (i : Nat) from by kernel_rfl, lcL_all (fun k : Nat => [D.int (k : Nat)]) (fun k : Nat => D.bl (decide ((k : Int) = 16))) (by simp only [RD1, RD2, RD3, RD4, RD5, RD6, RD7, RD8, RD9, RD10, List.all_cons, List.all_nil, List.length_cons, List.length_nil, List.getElem?_cons_zero, List.getElem?_cons_succ, List.getElem?_nil, List.set_cons_zero, List.set_cons_succ, List.cons_append, List.nil_append, List.replicate_succ, List.replicate_zero, Nat.reduceAdd, Nat.reduceSub, Nat.reduceEqDiff, Nat.reduceLeDiff, Nat.reduceLT, Option.bind_some, Option.bind_none, Option.map_some, Option.map_none, if_true, if_false, ite_true, ite_false, reduceCtorEq, decide_true, decide_false, Int.reducePow, Int.reduceToNat, Int.reduceMul, Int.reduceAdd, Int.reduceSub, Int.reduceNeg, Int.reduceLT, Int.reduceLE, List.map_append, List.map_cons, List.map_nil, g2m_ii, tLl, gInD_n, gInD_i, gInD_s, mmInsertu, g4maxu]) (by simp only [RD1, RD2, RD3, RD4, RD5, RD6, RD7, RD8, RD9, RD10, List.all_cons, List.all_nil, List.length_cons, List.length_nil, List.getElem?_cons_zero, List.getElem?_cons_succ, List.getElem?_nil, List.set_cons_zero, List.set_cons_succ, List.cons_append, List.nil_append, List.replicate_succ, List.replicate_zero, Nat.reduceAdd, Nat.reduceSub, Nat.reduceEqDiff, Nat.reduceLeDiff, Nat.reduceLT, Option.bind_some, Option.bind_none, Option.map_some, Option.map_none, if_true, if_false, ite_true, ite_false, reduceCtorEq, decide_true, decide_false, Int.reducePow, Int.reduceToNat, Int.reduceMul, Int.reduceAdd, Int.reduceSub, Int.reduceNeg, Int.reduceLT, Int.reduceLE, List.map_append, List.map_cons, List.map_nil, g2m_ii, tLl, gInD_n, gInD_i, gInD_s, mmInsertu, g4maxu]) (fun m _ => by simp only [RD1, RD2, RD3, RD4, RD5, RD6, RD7, RD8, RD9, RD10, List.all_cons, List.all_nil, List.length_cons, List.length_nil, List.getElem?_cons_zero, List.getElem?_cons_succ, List.getElem?_nil, List.set_cons_zero, List.set_cons_succ, List.cons_append, List.nil_append, List.replicate_succ, List.replicate_zero, Nat.reduceAdd, Nat.reduceSub, Nat.reduceEqDiff, Nat.reduceLeDiff, Nat.reduceLT, Option.bind_some, Option.bind_none, Option.map_some, Option.map_none, if_true, if_false, ite_true, ite_false, reduceCtorEq, decide_true, decide_false, Int.reducePow, Int.reduceToNat, Int.reduceMul, Int.reduceAdd, Int.reduceSub, Int.reduceNeg, Int.reduceLT, Int.reduceLE, List.map_append, List.map_cons, List.map_nil, g2m_ii, tLl, gInD_n, gInD_i, gInD_s, mmInsertu, g4maxu]) (fun m _ => by simp only [RD1, RD2, RD3, RD4, RD5, RD6, RD7, RD8, RD9, RD10, List.all_cons, List.all_nil, List.length_cons, List.length_nil, List.getElem?_cons_zero, List.getElem?_cons_succ, List.getElem?_nil, List.set_cons_zero, List.set_cons_succ, List.cons_append, List.nil_append, List.replicate_succ, List.replicate_zero, Nat.reduceAdd, Nat.reduceSub, Nat.reduceEqDiff, Nat.reduceLeDiff, Nat.reduceLT, Option.bind_some, Option.bind_none, Option.map_some, Option.map_none, if_true, if_false, ite_true, ite_false, reduceCtorEq, decide_true, decide_false, Int.reducePow, Int.reduceToNat, Int.reduceMul, Int.reduceAdd, Int.reduceSub, Int.reduceNeg, Int.reduceLT, Int.reduceLE, List.map_append, List.map_cons, List.map_nil, g2m_ii, tLl, gInD_n, gInD_i, gInD_s, mmInsertu, g4maxu, gEq_i01])]
  rw [e2]
  simp only [RD1, RD2, RD3, RD4, RD5, RD6, RD7, RD8, RD9, RD10, List.all_cons, List.all_nil, List.length_cons, List.length_nil, List.getElem?_cons_zero, List.getElem?_cons_succ, List.getElem?_nil, List.set_cons_zero, List.set_cons_succ, List.cons_append, List.nil_append, List.replicate_succ, List.replicate_zero, Nat.reduceAdd, Nat.reduceSub, Nat.reduceEqDiff, Nat.reduceLeDiff, Nat.reduceLT, Option.bind_some, Option.bind_none, Option.map_some, Option.map_none, if_true, if_false, ite_true, ite_false, reduceCtorEq, decide_true, decide_false, Int.reducePow, Int.reduceToNat, Int.reduceMul, Int.reduceAdd, Int.reduceSub, Int.reduceNeg, Int.reduceLT, Int.reduceLE, List.map_append, List.map_cons, List.map_nil, g2m_ii, tLl, gInD_n, gInD_i, gInD_s, mmInsertu, g4maxu, g2, List.length_cons, List.length_nil]
theorem tn_17 {S c : Sl} {s : Dg} {x : D} (hx : okD 15 x = true) : lp1_law (e01 S c s x (.im (.int 17)) (.im (.exv "NoBack" [] [])) .no) = .nx (e01 S c s x .no .no .no) := by
  have h1 : F__law_field [.im (.exv "NoBack" [] [])] = .rt (.lst []) [.im (.exv "NoBack" [] [])] := by kernel_rfl
  have h2 : F__law_classes [.im (.exv "NoBack" [] [])] = .ro (.lst [.bl false, .bl false, .bl false, .bl false, .bl false, .bl false, .bl false, .bl false, .bl false, .bl false, .bl false, .bl false, .bl false, .bl false, .bl false, .bl false, .bl false, .bl true, .bl false]) [.im (.exv "NoBack" [] [])] := by kernel_rfl
  have h3 : ∀ d, fMethX "told" [("BadStream", F_BadStream_told), ("BadMember", F_BadMember_told), ("BadRow", F_BadRow_told), ("BadTrain", F_BadTrain_told), ("NoEvent", F_NoEvent_told), ("Large", F_Large_told), ("BadNumbers", F_BadNumbers_told), ("BadBus", F_BadBus_told), ("NoInput", F_NoInput_told), ("NotLater", F_NotLater_told), ("BadText", F_BadText_told), ("BadForm", F_BadForm_told), ("Mixed", F_Mixed_told), ("NoQuestion", F_NoQuestion_told), ("Untrue", F_Untrue_told), ("NotKnown", F_NotKnown_told), ("OtherInputs", F_OtherInputs_told), ("NoBack", F_NoBack_told), ("NoName", F_NoName_told)] (fVar 7) [S, c, .ow false (dgD s), .im x, .im (.lst (ers x)), .im (.lst wds), .im (.int 17), .im (.exv "NoBack" [] []), d, .no] = .ok (.str "refused noback") [S, c, .ow false (dgD s), .im x, .im (.lst (ers x)), .im (.lst wds), .im (.int 17), .im (.exv "NoBack" [] []), d, .no] := fun d => by kernel_rfl
  have h4 : gIx (.lst wds) (.int 17) = some (.str "noback") := by kernel_rfl
  have h5 : gAdd (.str "refused ") (.str "noback") = some (.str "refused noback") := by kernel_rfl
  have h6 : gNe (.str "refused noback") (.str "refused noback") = some (.bl false) := by kernel_rfl
  have q1 : gIsX xv [.own "QuietError"] (.exv "NoBack" [] []) = some (.bl true) := by kernel_rfl
  have q2 : gIsX xv [.ty "ValueError"] (.exv "NoBack" [] []) = some (.bl true) := by kernel_rfl
  have g1 : gNe (.lst []) (.lst []) = some (.bl false) := gNe_self (by rfl)
  have hl : gLen (.lst (ers x)) = some (.int 19) := rfl
  have g2 : gNe (.lst [.bl false, .bl false, .bl false, .bl false, .bl false, .bl false, .bl false, .bl false, .bl false, .bl false, .bl false, .bl false, .bl false, .bl false, .bl false, .bl false, .bl false, .bl true, .bl false]) (.lst [.bl false, .bl false, .bl false, .bl false, .bl false, .bl false, .bl false, .bl false, .bl false, .bl false, .bl false, .bl false, .bl false, .bl false, .bl false, .bl false, .bl false, .bl true, .bl false]) = some (.bl false) := by kernel_rfl
  have e2 : ((List.range 19).map fun k : Nat => D.bl (decide ((k : Int) = 17))) = [.bl false, .bl false, .bl false, .bl false, .bl false, .bl false, .bl false, .bl false, .bl false, .bl false, .bl false, .bl false, .bl false, .bl false, .bl false, .bl false, .bl false, .bl true, .bl false] := by kernel_rfl
  unfold e01 lp1_law
  simp only [RD1, RD2, RD3, RD4, RD5, RD6, RD7, RD8, RD9, RD10, List.all_cons, List.all_nil, List.length_cons, List.length_nil, List.getElem?_cons_zero, List.getElem?_cons_succ, List.getElem?_nil, List.set_cons_zero, List.set_cons_succ, List.cons_append, List.nil_append, List.replicate_succ, List.replicate_zero, Nat.reduceAdd, Nat.reduceSub, Nat.reduceEqDiff, Nat.reduceLeDiff, Nat.reduceLT, Option.bind_some, Option.bind_none, Option.map_some, Option.map_none, if_true, if_false, ite_true, ite_false, reduceCtorEq, decide_true, decide_false, Int.reducePow, Int.reduceToNat, Int.reduceMul, Int.reduceAdd, Int.reduceSub, Int.reduceNeg, Int.reduceLT, Int.reduceLE, List.map_append, List.map_cons, List.map_nil, g2m_ii, tLl, gInD_n, gInD_i, gInD_s, mmInsertu, g4maxu, h3, h4, h5, h6, h1, g1, q1, q2, h2, hl, show bnd 19 = true from by decide]
  rw [show rgD 0 19 = (List.range 19).map fun i : Nat => D.int (i : Nat) from by kernel_rfl, lcL_all (fun k : Nat => [D.int (k : Nat)]) (fun k : Nat => D.bl (decide ((k : Int) = 17))) (by simp only [RD1, RD2, RD3, RD4, RD5, RD6, RD7, RD8, RD9, RD10, List.all_cons, List.all_nil, List.length_cons, List.length_nil, List.getElem?_cons_zero, List.getElem?_cons_succ, List.getElem?_nil, List.set_cons_zero, List.set_cons_succ, List.cons_append, List.nil_append, List.replicate_succ, List.replicate_zero, Nat.reduceAdd, Nat.reduceSub, Nat.reduceEqDiff, Nat.reduceLeDiff, Nat.reduceLT, Option.bind_some, Option.bind_none, Option.map_some, Option.map_none, if_true, if_false, ite_true, ite_false, reduceCtorEq, decide_true, decide_false, Int.reducePow, Int.reduceToNat, Int.reduceMul, Int.reduceAdd, Int.reduceSub, Int.reduceNeg, Int.reduceLT, Int.reduceLE, List.map_append, List.map_cons, List.map_nil, g2m_ii, tLl, gInD_n, gInD_i, gInD_s, mmInsertu, g4maxu]) (by simp only [RD1, RD2, RD3, RD4, RD5, RD6, RD7, RD8, RD9, RD10, List.all_cons, List.all_nil, List.length_cons, List.length_nil, List.getElem?_cons_zero, List.getElem?_cons_succ, List.getElem?_nil, List.set_cons_zero, List.set_cons_succ, List.cons_append, List.nil_append, List.replicate_succ, List.replicate_zero, Nat.reduceAdd, Nat.reduceSub, Nat.reduceEqDiff, Nat.reduceLeDiff, Nat.reduceLT, Option.bind_some, Option.bind_none, Option.map_some, Option.map_none, if_true, if_false, ite_true, ite_false, reduceCtorEq, decide_true, decide_false, Int.reducePow, Int.reduceToNat, Int.reduceMul, Int.reduceAdd, Int.reduceSub, Int.reduceNeg, Int.reduceLT, Int.reduceLE, List.map_append, List.map_cons, List.map_nil, g2m_ii, tLl, gInD_n, gInD_i, gInD_s, mmInsertu, g4maxu]) (fun m _ => by simp only [RD1, RD2, RD3, RD4, RD5, RD6, RD7, RD8, RD9, RD10, List.all_cons, List.all_nil, List.length_cons, List.length_nil, List.getElem?_cons_zero, List.getElem?_cons_succ, List.getElem?_nil, List.set_cons_zero, List.set_cons_succ, List.cons_append, List.nil_append, List.replicate_succ, List.replicate_zero, Nat.reduceAdd, Nat.reduceSub, Nat.reduceEqDiff, Nat.reduceLeDiff, Nat.reduceLT, Option.bind_some, Option.bind_none, Option.map_some, Option.map_none, if_true, if_false, ite_true, ite_false, reduceCtorEq, decide_true, decide_false, Int.reducePow, Int.reduceToNat, Int.reduceMul, Int.reduceAdd, Int.reduceSub, Int.reduceNeg, Int.reduceLT, Int.reduceLE, List.map_append, List.map_cons, List.map_nil, g2m_ii, tLl, gInD_n, gInD_i, gInD_s, mmInsertu, g4maxu]) (fun m _ => by simp only [RD1, RD2, RD3, RD4, RD5, RD6, RD7, RD8, RD9, RD10, List.all_cons, List.all_nil, List.length_cons, List.length_nil, List.getElem?_cons_zero, List.getElem?_cons_succ, List.getElem?_nil, List.set_cons_zero, List.set_cons_succ, List.cons_append, List.nil_append, List.replicate_succ, List.replicate_zero, Nat.reduceAdd, Nat.reduceSub, Nat.reduceEqDiff, Nat.reduceLeDiff, Nat.reduceLT, Option.bind_some, Option.bind_none, Option.map_some, Option.map_none, if_true, if_false, ite_true, ite_false, reduceCtorEq, decide_true, decide_false, Int.reducePow, Int.reduceToNat, Int.reduceMul, Int.reduceAdd, Int.reduceSub, Int.reduceNeg, Int.reduceLT, Int.reduceLE, List.map_append, List.map_cons, List.map_nil, g2m_ii, tLl, gInD_n, gInD_i, gInD_s, mmInsertu, g4maxu, gEq_i01])]
  rw [e2]
  simp only [RD1, RD2, RD3, RD4, RD5, RD6, RD7, RD8, RD9, RD10, List.all_cons, List.all_nil, List.length_cons, List.length_nil, List.getElem?_cons_zero, List.getElem?_cons_succ, List.getElem?_nil, List.set_cons_zero, List.set_cons_succ, List.cons_append, List.nil_append, List.replicate_succ, List.replicate_zero, Nat.reduceAdd, Nat.reduceSub, Nat.reduceEqDiff, Nat.reduceLeDiff, Nat.reduceLT, Option.bind_some, Option.bind_none, Option.map_some, Option.map_none, if_true, if_false, ite_true, ite_false, reduceCtorEq, decide_true, decide_false, Int.reducePow, Int.reduceToNat, Int.reduceMul, Int.reduceAdd, Int.reduceSub, Int.reduceNeg, Int.reduceLT, Int.reduceLE, List.map_append, List.map_cons, List.map_nil, g2m_ii, tLl, gInD_n, gInD_i, gInD_s, mmInsertu, g4maxu, g2, List.length_cons, List.length_nil]
theorem tn_18 {S c : Sl} {s : Dg} {x : D} (hx : okD 15 x = true) : lp1_law (e01 S c s x (.im (.int 18)) (.im (.exv "NoName" [] [])) .no) = .nx (e01 S c s x .no .no .no) := by
  have h1 : F__law_field [.im (.exv "NoName" [] [])] = .rt (.lst []) [.im (.exv "NoName" [] [])] := by kernel_rfl
  have h2 : F__law_classes [.im (.exv "NoName" [] [])] = .ro (.lst [.bl false, .bl false, .bl false, .bl false, .bl false, .bl false, .bl false, .bl false, .bl false, .bl false, .bl false, .bl false, .bl false, .bl false, .bl false, .bl false, .bl false, .bl false, .bl true]) [.im (.exv "NoName" [] [])] := by kernel_rfl
  have h3 : ∀ d, fMethX "told" [("BadStream", F_BadStream_told), ("BadMember", F_BadMember_told), ("BadRow", F_BadRow_told), ("BadTrain", F_BadTrain_told), ("NoEvent", F_NoEvent_told), ("Large", F_Large_told), ("BadNumbers", F_BadNumbers_told), ("BadBus", F_BadBus_told), ("NoInput", F_NoInput_told), ("NotLater", F_NotLater_told), ("BadText", F_BadText_told), ("BadForm", F_BadForm_told), ("Mixed", F_Mixed_told), ("NoQuestion", F_NoQuestion_told), ("Untrue", F_Untrue_told), ("NotKnown", F_NotKnown_told), ("OtherInputs", F_OtherInputs_told), ("NoBack", F_NoBack_told), ("NoName", F_NoName_told)] (fVar 7) [S, c, .ow false (dgD s), .im x, .im (.lst (ers x)), .im (.lst wds), .im (.int 18), .im (.exv "NoName" [] []), d, .no] = .ok (.str "refused noname") [S, c, .ow false (dgD s), .im x, .im (.lst (ers x)), .im (.lst wds), .im (.int 18), .im (.exv "NoName" [] []), d, .no] := fun d => by kernel_rfl
  have h4 : gIx (.lst wds) (.int 18) = some (.str "noname") := by kernel_rfl
  have h5 : gAdd (.str "refused ") (.str "noname") = some (.str "refused noname") := by kernel_rfl
  have h6 : gNe (.str "refused noname") (.str "refused noname") = some (.bl false) := by kernel_rfl
  have q1 : gIsX xv [.own "QuietError"] (.exv "NoName" [] []) = some (.bl true) := by kernel_rfl
  have q2 : gIsX xv [.ty "ValueError"] (.exv "NoName" [] []) = some (.bl true) := by kernel_rfl
  have g1 : gNe (.lst []) (.lst []) = some (.bl false) := gNe_self (by rfl)
  have hl : gLen (.lst (ers x)) = some (.int 19) := rfl
  have g2 : gNe (.lst [.bl false, .bl false, .bl false, .bl false, .bl false, .bl false, .bl false, .bl false, .bl false, .bl false, .bl false, .bl false, .bl false, .bl false, .bl false, .bl false, .bl false, .bl false, .bl true]) (.lst [.bl false, .bl false, .bl false, .bl false, .bl false, .bl false, .bl false, .bl false, .bl false, .bl false, .bl false, .bl false, .bl false, .bl false, .bl false, .bl false, .bl false, .bl false, .bl true]) = some (.bl false) := by kernel_rfl
  have e2 : ((List.range 19).map fun k : Nat => D.bl (decide ((k : Int) = 18))) = [.bl false, .bl false, .bl false, .bl false, .bl false, .bl false, .bl false, .bl false, .bl false, .bl false, .bl false, .bl false, .bl false, .bl false, .bl false, .bl false, .bl false, .bl false, .bl true] := by kernel_rfl
  unfold e01 lp1_law
  simp only [RD1, RD2, RD3, RD4, RD5, RD6, RD7, RD8, RD9, RD10, List.all_cons, List.all_nil, List.length_cons, List.length_nil, List.getElem?_cons_zero, List.getElem?_cons_succ, List.getElem?_nil, List.set_cons_zero, List.set_cons_succ, List.cons_append, List.nil_append, List.replicate_succ, List.replicate_zero, Nat.reduceAdd, Nat.reduceSub, Nat.reduceEqDiff, Nat.reduceLeDiff, Nat.reduceLT, Option.bind_some, Option.bind_none, Option.map_some, Option.map_none, if_true, if_false, ite_true, ite_false, reduceCtorEq, decide_true, decide_false, Int.reducePow, Int.reduceToNat, Int.reduceMul, Int.reduceAdd, Int.reduceSub, Int.reduceNeg, Int.reduceLT, Int.reduceLE, List.map_append, List.map_cons, List.map_nil, g2m_ii, tLl, gInD_n, gInD_i, gInD_s, mmInsertu, g4maxu, h3, h4, h5, h6, h1, g1, q1, q2, h2, hl, show bnd 19 = true from by decide]
  rw [show rgD 0 19 = (List.range 19).map fun i : Nat => D.int (i : Nat) from by kernel_rfl, lcL_all (fun k : Nat => [D.int (k : Nat)]) (fun k : Nat => D.bl (decide ((k : Int) = 18))) (by simp only [RD1, RD2, RD3, RD4, RD5, RD6, RD7, RD8, RD9, RD10, List.all_cons, List.all_nil, List.length_cons, List.length_nil, List.getElem?_cons_zero, List.getElem?_cons_succ, List.getElem?_nil, List.set_cons_zero, List.set_cons_succ, List.cons_append, List.nil_append, List.replicate_succ, List.replicate_zero, Nat.reduceAdd, Nat.reduceSub, Nat.reduceEqDiff, Nat.reduceLeDiff, Nat.reduceLT, Option.bind_some, Option.bind_none, Option.map_some, Option.map_none, if_true, if_false, ite_true, ite_false, reduceCtorEq, decide_true, decide_false, Int.reducePow, Int.reduceToNat, Int.reduceMul, Int.reduceAdd, Int.reduceSub, Int.reduceNeg, Int.reduceLT, Int.reduceLE, List.map_append, List.map_cons, List.map_nil, g2m_ii, tLl, gInD_n, gInD_i, gInD_s, mmInsertu, g4maxu]) (by simp only [RD1, RD2, RD3, RD4, RD5, RD6, RD7, RD8, RD9, RD10, List.all_cons, List.all_nil, List.length_cons, List.length_nil, List.getElem?_cons_zero, List.getElem?_cons_succ, List.getElem?_nil, List.set_cons_zero, List.set_cons_succ, List.cons_append, List.nil_append, List.replicate_succ, List.replicate_zero, Nat.reduceAdd, Nat.reduceSub, Nat.reduceEqDiff, Nat.reduceLeDiff, Nat.reduceLT, Option.bind_some, Option.bind_none, Option.map_some, Option.map_none, if_true, if_false, ite_true, ite_false, reduceCtorEq, decide_true, decide_false, Int.reducePow, Int.reduceToNat, Int.reduceMul, Int.reduceAdd, Int.reduceSub, Int.reduceNeg, Int.reduceLT, Int.reduceLE, List.map_append, List.map_cons, List.map_nil, g2m_ii, tLl, gInD_n, gInD_i, gInD_s, mmInsertu, g4maxu]) (fun m _ => by simp only [RD1, RD2, RD3, RD4, RD5, RD6, RD7, RD8, RD9, RD10, List.all_cons, List.all_nil, List.length_cons, List.length_nil, List.getElem?_cons_zero, List.getElem?_cons_succ, List.getElem?_nil, List.set_cons_zero, List.set_cons_succ, List.cons_append, List.nil_append, List.replicate_succ, List.replicate_zero, Nat.reduceAdd, Nat.reduceSub, Nat.reduceEqDiff, Nat.reduceLeDiff, Nat.reduceLT, Option.bind_some, Option.bind_none, Option.map_some, Option.map_none, if_true, if_false, ite_true, ite_false, reduceCtorEq, decide_true, decide_false, Int.reducePow, Int.reduceToNat, Int.reduceMul, Int.reduceAdd, Int.reduceSub, Int.reduceNeg, Int.reduceLT, Int.reduceLE, List.map_append, List.map_cons, List.map_nil, g2m_ii, tLl, gInD_n, gInD_i, gInD_s, mmInsertu, g4maxu]) (fun m _ => by simp only [RD1, RD2, RD3, RD4, RD5, RD6, RD7, RD8, RD9, RD10, List.all_cons, List.all_nil, List.length_cons, List.length_nil, List.getElem?_cons_zero, List.getElem?_cons_succ, List.getElem?_nil, List.set_cons_zero, List.set_cons_succ, List.cons_append, List.nil_append, List.replicate_succ, List.replicate_zero, Nat.reduceAdd, Nat.reduceSub, Nat.reduceEqDiff, Nat.reduceLeDiff, Nat.reduceLT, Option.bind_some, Option.bind_none, Option.map_some, Option.map_none, if_true, if_false, ite_true, ite_false, reduceCtorEq, decide_true, decide_false, Int.reducePow, Int.reduceToNat, Int.reduceMul, Int.reduceAdd, Int.reduceSub, Int.reduceNeg, Int.reduceLT, Int.reduceLE, List.map_append, List.map_cons, List.map_nil, g2m_ii, tLl, gInD_n, gInD_i, gInD_s, mmInsertu, g4maxu, gEq_i01])]
  rw [e2]
  simp only [RD1, RD2, RD3, RD4, RD5, RD6, RD7, RD8, RD9, RD10, List.all_cons, List.all_nil, List.length_cons, List.length_nil, List.getElem?_cons_zero, List.getElem?_cons_succ, List.getElem?_nil, List.set_cons_zero, List.set_cons_succ, List.cons_append, List.nil_append, List.replicate_succ, List.replicate_zero, Nat.reduceAdd, Nat.reduceSub, Nat.reduceEqDiff, Nat.reduceLeDiff, Nat.reduceLT, Option.bind_some, Option.bind_none, Option.map_some, Option.map_none, if_true, if_false, ite_true, ite_false, reduceCtorEq, decide_true, decide_false, Int.reducePow, Int.reduceToNat, Int.reduceMul, Int.reduceAdd, Int.reduceSub, Int.reduceNeg, Int.reduceLT, Int.reduceLE, List.map_append, List.map_cons, List.map_nil, g2m_ii, tLl, gInD_n, gInD_i, gInD_s, mmInsertu, g4maxu, g2, List.length_cons, List.length_nil]
theorem lp_01 {S c : Sl} {s : Dg} {x : D} (hx : okD 15 x = true) : forL (tT (tCons (tN 6) (tCons (tN 7) tNil)) 2) lp1_law (enD (ers x)) (e01 S c s x .no .no .no) = .nx (e01 S c s x .no .no .no) := by
  have en : enD (ers x) = [.tup [.int 0, .exv "BadStream" ["place"] [x]], .tup [.int 1, .exv "BadMember" ["what"] [x]], .tup [.int 2, .exv "BadRow" ["index"] [x]], .tup [.int 3, .exv "BadTrain" ["what"] [x]], .tup [.int 4, .exv "NoEvent" ["number"] [x]], .tup [.int 5, .exv "Large" ["count"] [x]], .tup [.int 6, .exv "BadNumbers" ["place"] [x]], .tup [.int 7, .exv "BadBus" ["index"] [x]], .tup [.int 8, .exv "NoInput" ["name"] [x]], .tup [.int 9, .exv "NotLater" ["time"] [x]], .tup [.int 10, .exv "BadText" ["place"] [x]], .tup [.int 11, .exv "BadForm" [] []], .tup [.int 12, .exv "Mixed" [] []], .tup [.int 13, .exv "NoQuestion" [] []], .tup [.int 14, .exv "Untrue" [] []], .tup [.int 15, .exv "NotKnown" [] []], .tup [.int 16, .exv "OtherInputs" [] []], .tup [.int 17, .exv "NoBack" [] []], .tup [.int 18, .exv "NoName" [] []]] := rfl
  have bd : ∀ (i : Int) (d : D), tT (tCons (tN 6) (tCons (tN 7) tNil)) 2 (D.tup [.int i, d]) (e01 S c s x .no .no .no) = some (e01 S c s x (.im (.int i)) (.im d) .no) := fun i d => rfl
  rw [en]
  simp only [forL_step, forL_nil, bd, lp_nx, tn_0 hx, tn_1 hx, tn_2 hx, tn_3 hx, tn_4 hx, tn_5 hx, tn_6 hx, tn_7 hx, tn_8 hx, tn_9 hx, tn_10 hx, tn_11 hx, tn_12 hx, tn_13 hx, tn_14 hx, tn_15 hx, tn_16 hx, tn_17 hx, tn_18 hx]
theorem lp_02 (S : Sl) (c : Int) : lp2_law [S, .im (.int c), .no, .no, .no, .no, .no, .no, .no, .no] = .nx [S, .no, .no, .no, .no, .no, .no, .no, .no, .no] := by
  obtain ⟨s0, o0, e0⟩ := F_state c
  obtain ⟨s1, r1, o1, a1, b1, e1⟩ := F_digit s0 100 o0 (by decide) (by decide)
  obtain ⟨s2, r2, o2, a2, b2, e2⟩ := F_digit s1 6 o1 (by decide) (by decide)
  obtain ⟨x, hx, hat⟩ : ∃ x : D, okD 15 x = true ∧ atI [D.int r1, .non, .str "q", .lst [.int 1, .lst [.int 2]], .tup [.int 3], .int (-5)] r2 = some x := by
    rcases (by omega : r2 = 0 ∨ r2 = 1 ∨ r2 = 2 ∨ r2 = 3 ∨ r2 = 4 ∨ r2 = 5) with rfl | rfl | rfl | rfl | rfl | rfl
    · exact ⟨.int r1, rfl, rfl⟩
    · exact ⟨.non, rfl, rfl⟩
    · exact ⟨.str "q", by decide +kernel, rfl⟩
    · exact ⟨.lst [.int 1, .lst [.int 2]], by decide +kernel, rfl⟩
    · exact ⟨.tup [.int 3], by decide +kernel, rfl⟩
    · exact ⟨.int (-5), rfl, rfl⟩
  have hlp := lp_01 (S := S) (c := .im (.int c)) (s := s2) hx
  have hen : enOfD (.lst (ers x)) = some (enD (ers x)) := rfl
  have fx : ∀ c f i e, fExv c f (fVar i) e = (fVar i e).bd fun d e => .ok (.exv c [f] [d]) e := fun c f i e => rfl
  have f0 : ∀ c e, fExv0 c e = .ok (.exv c [] []) e := fun c e => rfl
  have c1 : ∀ a b : List D, a.length + b.length ≤ 1000000 → gCat (.lst a) (.lst b) = some (.lst (a ++ b)) := fun a b h => by
    show (if a.length + b.length ≤ 1000000 then some (D.lst (a ++ b)) else none) = _
    rw [if_pos h]
  unfold e01 at hlp
  unfold ers wds at hlp
  unfold ers at hen
  unfold lp2_law
  simp only [RD1, RD2, RD3, RD4, RD5, RD6, RD7, RD8, RD9, RD10, List.all_cons, List.all_nil, List.length_cons, List.length_nil, List.getElem?_cons_zero, List.getElem?_cons_succ, List.getElem?_nil, List.set_cons_zero, List.set_cons_succ, List.cons_append, List.nil_append, List.replicate_succ, List.replicate_zero, Nat.reduceAdd, Nat.reduceSub, Nat.reduceEqDiff, Nat.reduceLeDiff, Nat.reduceLT, Option.bind_some, Option.bind_none, Option.map_some, Option.map_none, if_true, if_false, ite_true, ite_false, reduceCtorEq, decide_true, decide_false, Int.reducePow, Int.reduceToNat, Int.reduceMul, Int.reduceAdd, Int.reduceSub, Int.reduceNeg, Int.reduceLT, Int.reduceLE, List.map_append, List.map_cons, List.map_nil, g2m_ii, tLl, gInD_n, gInD_i, gInD_s, mmInsertu, g4maxu, e0, e1, e2, hat, fx, f0, c1, List.cons_append, List.nil_append, List.length_cons, List.length_nil, hen, hlp]
theorem law_ok (ns : List Int) (h : ns.length ≤ 63) : ∃ sl', F_law [.im (.lst (ns.map D.int))] = .rt (.bl true) sl' := by
  have hcat : gCat (.lst (ns.map D.int)) (.lst [.int 0]) = some (.lst (ns.map D.int ++ [.int 0])) := by
    show (if (ns.map D.int).length + [D.int 0].length ≤ 1000000 then some (D.lst (ns.map D.int ++ [.int 0])) else none) = _
    rw [if_pos]
    rw [List.length_map]
    show ns.length + 1 ≤ _
    omega
  have hc := cells ns
  unfold F_law b_law
  simp only [RD1, RD2, RD3, RD4, RD5, RD6, RD7, RD8, RD9, RD10, List.all_cons, List.all_nil, List.length_cons, List.length_nil, List.getElem?_cons_zero, List.getElem?_cons_succ, List.getElem?_nil, List.set_cons_zero, List.set_cons_succ, List.cons_append, List.nil_append, List.replicate_succ, List.replicate_zero, Nat.reduceAdd, Nat.reduceSub, Nat.reduceEqDiff, Nat.reduceLeDiff, Nat.reduceLT, Option.bind_some, Option.bind_none, Option.map_some, Option.map_none, if_true, if_false, ite_true, ite_false, reduceCtorEq, decide_true, decide_false, Int.reducePow, Int.reduceToNat, Int.reduceMul, Int.reduceAdd, Int.reduceSub, Int.reduceNeg, Int.reduceLT, Int.reduceLE, List.map_append, List.map_cons, List.map_nil, g2m_ii, tLl, gInD_n, gInD_i, gInD_s, mmInsertu, g4maxu, hcat, hc]
  obtain ⟨e', he', rfl⟩ := forL_rel (g := tN 1) (f := D.int) (xs := (ns ++ [0]).take 3) (b := lp2_law)
      (e := [.im (.lst (ns.map D.int)), .no, .no, .no, .no, .no, .no, .no, .no, .no])
      (fun i e => e = [.im (.lst (ns.map D.int)), .no, .no, .no, .no, .no, .no, .no, .no, .no])
      rfl (fun i hi e he => by
        subst he
        exact ⟨_, _, by simp only [RD1, RD2, RD3, RD4, RD5, RD6, RD7, RD8, RD9, RD10, List.all_cons, List.all_nil, List.length_cons, List.length_nil, List.getElem?_cons_zero, List.getElem?_cons_succ, List.getElem?_nil, List.set_cons_zero, List.set_cons_succ, List.cons_append, List.nil_append, List.replicate_succ, List.replicate_zero, Nat.reduceAdd, Nat.reduceSub, Nat.reduceEqDiff, Nat.reduceLeDiff, Nat.reduceLT, Option.bind_some, Option.bind_none, Option.map_some, Option.map_none, if_true, if_false, ite_true, ite_false, reduceCtorEq, decide_true, decide_false, Int.reducePow, Int.reduceToNat, Int.reduceMul, Int.reduceAdd, Int.reduceSub, Int.reduceNeg, Int.reduceLT, Int.reduceLE, List.map_append, List.map_cons, List.map_nil, g2m_ii, tLl, gInD_n, gInD_i, gInD_s, mmInsertu, g4maxu], .inl (lp_02 (.im (.lst (ns.map D.int))) (((ns ++ [0]).take 3)[i])), rfl⟩)
  rw [he']
  simp only [RD1, RD2, RD3, RD4, RD5, RD6, RD7, RD8, RD9, RD10, List.all_cons, List.all_nil, List.length_cons, List.length_nil, List.getElem?_cons_zero, List.getElem?_cons_succ, List.getElem?_nil, List.set_cons_zero, List.set_cons_succ, List.cons_append, List.nil_append, List.replicate_succ, List.replicate_zero, Nat.reduceAdd, Nat.reduceSub, Nat.reduceEqDiff, Nat.reduceLeDiff, Nat.reduceLT, Option.bind_some, Option.bind_none, Option.map_some, Option.map_none, if_true, if_false, ite_true, ite_false, reduceCtorEq, decide_true, decide_false, Int.reducePow, Int.reduceToNat, Int.reduceMul, Int.reduceAdd, Int.reduceSub, Int.reduceNeg, Int.reduceLT, Int.reduceLE, List.map_append, List.map_cons, List.map_nil, g2m_ii, tLl, gInD_n, gInD_i, gInD_s, mmInsertu, g4maxu]
  exact ⟨_, rfl⟩

end Law

namespace Law
open PySem PySem.Spec L2 TL
theorem sc__law_state : FnScope N__law_state ["_law_source"] (defScope st__law_state) := ⟨rfl, rfl, rfl, by decide +kernel, rfl, by decide +kernel, by decide +kernel⟩
theorem sc__law_digit : FnScope N__law_digit ["_law_state_here", "_law_base"] (defScope st__law_digit) := ⟨rfl, rfl, rfl, by decide +kernel, rfl, by decide +kernel, by decide +kernel⟩
theorem sc__law_classes : FnScope N__law_classes ["_law_error"] (defScope st__law_classes) := ⟨rfl, rfl, rfl, by decide +kernel, rfl, by decide +kernel, by decide +kernel⟩
theorem sc_BadStream_told : FnScope N_BadStream_told ["self"] (defScope st_BadStream_told) := ⟨rfl, rfl, rfl, by decide +kernel, rfl, by decide +kernel, by decide +kernel⟩
theorem sc_BadMember_told : FnScope N_BadMember_told ["self"] (defScope st_BadMember_told) := ⟨rfl, rfl, rfl, by decide +kernel, rfl, by decide +kernel, by decide +kernel⟩
theorem sc_BadRow_told : FnScope N_BadRow_told ["self"] (defScope st_BadRow_told) := ⟨rfl, rfl, rfl, by decide +kernel, rfl, by decide +kernel, by decide +kernel⟩
theorem sc_BadTrain_told : FnScope N_BadTrain_told ["self"] (defScope st_BadTrain_told) := ⟨rfl, rfl, rfl, by decide +kernel, rfl, by decide +kernel, by decide +kernel⟩
theorem sc_NoEvent_told : FnScope N_NoEvent_told ["self"] (defScope st_NoEvent_told) := ⟨rfl, rfl, rfl, by decide +kernel, rfl, by decide +kernel, by decide +kernel⟩
theorem sc_Large_told : FnScope N_Large_told ["self"] (defScope st_Large_told) := ⟨rfl, rfl, rfl, by decide +kernel, rfl, by decide +kernel, by decide +kernel⟩
theorem sc_BadNumbers_told : FnScope N_BadNumbers_told ["self"] (defScope st_BadNumbers_told) := ⟨rfl, rfl, rfl, by decide +kernel, rfl, by decide +kernel, by decide +kernel⟩
theorem sc_BadBus_told : FnScope N_BadBus_told ["self"] (defScope st_BadBus_told) := ⟨rfl, rfl, rfl, by decide +kernel, rfl, by decide +kernel, by decide +kernel⟩
theorem sc_NoInput_told : FnScope N_NoInput_told ["self"] (defScope st_NoInput_told) := ⟨rfl, rfl, rfl, by decide +kernel, rfl, by decide +kernel, by decide +kernel⟩
theorem sc_NotLater_told : FnScope N_NotLater_told ["self"] (defScope st_NotLater_told) := ⟨rfl, rfl, rfl, by decide +kernel, rfl, by decide +kernel, by decide +kernel⟩
theorem sc_BadText_told : FnScope N_BadText_told ["self"] (defScope st_BadText_told) := ⟨rfl, rfl, rfl, by decide +kernel, rfl, by decide +kernel, by decide +kernel⟩
theorem sc_BadForm_told : FnScope N_BadForm_told ["self"] (defScope st_BadForm_told) := ⟨rfl, rfl, rfl, by decide +kernel, rfl, by decide +kernel, by decide +kernel⟩
theorem sc_Mixed_told : FnScope N_Mixed_told ["self"] (defScope st_Mixed_told) := ⟨rfl, rfl, rfl, by decide +kernel, rfl, by decide +kernel, by decide +kernel⟩
theorem sc_NoQuestion_told : FnScope N_NoQuestion_told ["self"] (defScope st_NoQuestion_told) := ⟨rfl, rfl, rfl, by decide +kernel, rfl, by decide +kernel, by decide +kernel⟩
theorem sc_Untrue_told : FnScope N_Untrue_told ["self"] (defScope st_Untrue_told) := ⟨rfl, rfl, rfl, by decide +kernel, rfl, by decide +kernel, by decide +kernel⟩
theorem sc_NotKnown_told : FnScope N_NotKnown_told ["self"] (defScope st_NotKnown_told) := ⟨rfl, rfl, rfl, by decide +kernel, rfl, by decide +kernel, by decide +kernel⟩
theorem sc_OtherInputs_told : FnScope N_OtherInputs_told ["self"] (defScope st_OtherInputs_told) := ⟨rfl, rfl, rfl, by decide +kernel, rfl, by decide +kernel, by decide +kernel⟩
theorem sc_NoBack_told : FnScope N_NoBack_told ["self"] (defScope st_NoBack_told) := ⟨rfl, rfl, rfl, by decide +kernel, rfl, by decide +kernel, by decide +kernel⟩
theorem sc_NoName_told : FnScope N_NoName_told ["self"] (defScope st_NoName_told) := ⟨rfl, rfl, rfl, by decide +kernel, rfl, by decide +kernel, by decide +kernel⟩
theorem sc__law_field : FnScope N__law_field ["_law_error"] (defScope st__law_field) := ⟨rfl, rfl, rfl, by decide +kernel, rfl, by decide +kernel, by decide +kernel⟩
theorem sc_law : FnScope N_law ["_law_script"] (defScope st_law) := ⟨rfl, rfl, rfl, by decide +kernel, rfl, by decide +kernel, by decide +kernel⟩
structure Ws (K : PySem.W.Frag) (mg : Str → Option Value) : Prop where
  b_ValueError : mg "ValueError" = none
  b_abs : mg "abs" = none
  b_enumerate : mg "enumerate" = none
  b_int : mg "int" = none
  b_isinstance : mg "isinstance" = none
  b_len : mg "len" = none
  b_range : mg "range" = none
  g_BadBus : mg "BadBus" = some (.ref (He.ga K "BadBus"))
  g_BadForm : mg "BadForm" = some (.ref (He.ga K "BadForm"))
  g_BadMember : mg "BadMember" = some (.ref (He.ga K "BadMember"))
  g_BadNumbers : mg "BadNumbers" = some (.ref (He.ga K "BadNumbers"))
  g_BadRow : mg "BadRow" = some (.ref (He.ga K "BadRow"))
  g_BadStream : mg "BadStream" = some (.ref (He.ga K "BadStream"))
  g_BadText : mg "BadText" = some (.ref (He.ga K "BadText"))
  g_BadTrain : mg "BadTrain" = some (.ref (He.ga K "BadTrain"))
  g_Large : mg "Large" = some (.ref (He.ga K "Large"))
  g_Mixed : mg "Mixed" = some (.ref (He.ga K "Mixed"))
  g_NoBack : mg "NoBack" = some (.ref (He.ga K "NoBack"))
  g_NoEvent : mg "NoEvent" = some (.ref (He.ga K "NoEvent"))
  g_NoInput : mg "NoInput" = some (.ref (He.ga K "NoInput"))
  g_NoName : mg "NoName" = some (.ref (He.ga K "NoName"))
  g_NoQuestion : mg "NoQuestion" = some (.ref (He.ga K "NoQuestion"))
  g_NotKnown : mg "NotKnown" = some (.ref (He.ga K "NotKnown"))
  g_NotLater : mg "NotLater" = some (.ref (He.ga K "NotLater"))
  g_OtherInputs : mg "OtherInputs" = some (.ref (He.ga K "OtherInputs"))
  g_QuietError : mg "QuietError" = some (.ref (He.ga K "QuietError"))
  g_Untrue : mg "Untrue" = some (.ref (He.ga K "Untrue"))
  ct : CT K tb ks
  xi : XIs K xv xvk
  xvm : XM K xv [] xvf
  xc_BadBus : XfC K (He.ga K "BadBus")
  xc_BadForm : XfC K (He.ga K "BadForm")
  xc_BadMember : XfC K (He.ga K "BadMember")
  xc_BadNumbers : XfC K (He.ga K "BadNumbers")
  xc_BadRow : XfC K (He.ga K "BadRow")
  xc_BadStream : XfC K (He.ga K "BadStream")
  xc_BadText : XfC K (He.ga K "BadText")
  xc_BadTrain : XfC K (He.ga K "BadTrain")
  xc_Large : XfC K (He.ga K "Large")
  xc_Mixed : XfC K (He.ga K "Mixed")
  xc_NoBack : XfC K (He.ga K "NoBack")
  xc_NoEvent : XfC K (He.ga K "NoEvent")
  xc_NoInput : XfC K (He.ga K "NoInput")
  xc_NoName : XfC K (He.ga K "NoName")
  xc_NoQuestion : XfC K (He.ga K "NoQuestion")
  xc_NotKnown : XfC K (He.ga K "NotKnown")
  xc_NotLater : XfC K (He.ga K "NotLater")
  xc_OtherInputs : XfC K (He.ga K "OtherInputs")
  xc_Untrue : XfC K (He.ga K "Untrue")
  x_Large : PySem.XF_count.XTxt K mg "Large" (He.ga K "Large") (He.ma K (He.ga K "Large") "__init__")
  x_BadBus : PySem.XF_index.XTxt K mg "BadBus" (He.ga K "BadBus") (He.ma K (He.ga K "BadBus") "__init__")
  x_BadRow : PySem.XF_index.XTxt K mg "BadRow" (He.ga K "BadRow") (He.ma K (He.ga K "BadRow") "__init__")
  x_NoInput : PySem.XF_name.XTxt K mg "NoInput" (He.ga K "NoInput") (He.ma K (He.ga K "NoInput") "__init__")
  x_NoEvent : PySem.XF_number.XTxt K mg "NoEvent" (He.ga K "NoEvent") (He.ma K (He.ga K "NoEvent") "__init__")
  x_BadNumbers : PySem.XF_place.XTxt K mg "BadNumbers" (He.ga K "BadNumbers") (He.ma K (He.ga K "BadNumbers") "__init__")
  x_BadStream : PySem.XF_place.XTxt K mg "BadStream" (He.ga K "BadStream") (He.ma K (He.ga K "BadStream") "__init__")
  x_BadText : PySem.XF_place.XTxt K mg "BadText" (He.ga K "BadText") (He.ma K (He.ga K "BadText") "__init__")
  x_NotLater : PySem.XF_time.XTxt K mg "NotLater" (He.ga K "NotLater") (He.ma K (He.ga K "NotLater") "__init__")
  x_BadMember : PySem.XF_what.XTxt K mg "BadMember" (He.ga K "BadMember") (He.ma K (He.ga K "BadMember") "__init__")
  x_BadTrain : PySem.XF_what.XTxt K mg "BadTrain" (He.ga K "BadTrain") (He.ma K (He.ga K "BadTrain") "__init__")
  x_BadForm : X0Txt K mg "BadForm" (He.ga K "BadForm")
  x_Mixed : X0Txt K mg "Mixed" (He.ga K "Mixed")
  x_NoBack : X0Txt K mg "NoBack" (He.ga K "NoBack")
  x_NoName : X0Txt K mg "NoName" (He.ga K "NoName")
  x_NoQuestion : X0Txt K mg "NoQuestion" (He.ga K "NoQuestion")
  x_NotKnown : X0Txt K mg "NotKnown" (He.ga K "NotKnown")
  x_OtherInputs : X0Txt K mg "OtherInputs" (He.ga K "OtherInputs")
  x_Untrue : X0Txt K mg "Untrue" (He.ga K "Untrue")
theorem len_law : ∀ sl R, T_law sl R → sl.length = 1 := by
  rintro sl R ⟨ns, _, rfl, _⟩
  rfl
theorem s_law : ∀ sl R, T_law sl R → ws b_law (envOf N_law sl) (enOf sl R) := by
  rintro sl R ⟨ns, hl, rfl, hr⟩
  refine tf_sem (N := N_law) (n := 1) (b := b_law) _ R ?_
  obtain ⟨sl1, e⟩ := law_ok ns hl
  show (F_law _).on R
  rw [e]
  exact hr sl1
section
variable {P : Program} {w : World} {K : PySem.W.Frag} {mg : Str → Option Value} {base : Heap}
theorem q__law_state (E0 : Ws K mg) {f : Addr}  : BodyQ P w K mg base 0 N__law_state "_law_state" (defScope st__law_state) f (defBody st__law_state) (ws b__law_state) := by
  intro cdv A outer s H E hr
  exact (kss_cons (ks_set (i := 0) sc__law_state.nd rfl (Or.inl rfl) (ke_abs (E0.b_abs) (ko (ke_var 0))))
    (kss_one (ks_retF (kf_lst (ka_cons (ko (ke_mul (ko (ke_var 0)) (ko (ke_intc (E0.b_int) (ko ((kc_ge (ko (ke_var 0)) (ko (ke_pow (ko ke_int) (ko ke_int)))).e _)))))) (ka_cons (ko (ke_add (ko (ke_mod (ko (ke_intc (E0.b_int) (ko (ke_var 0)))) (ko ke_int))) (ko ke_int))) (ka_cons (ko (ke_mod (ko (ke_intc (E0.b_int) (ko (ke_var 0)))) (ko ke_int))) ka_nil)))))))
theorem q__law_digit (E0 : Ws K mg) {f : Addr}  : BodyQ P w K mg base 0 N__law_digit "_law_digit" (defScope st__law_digit) f (defBody st__law_digit) (ws b__law_digit) := by
  intro cdv A outer s H E hr
  exact (kss_cons (ks_if ((kc_gt (ko (ke_ix (ko_var 0) (ko ke_int) (fun _ _ => rfl))) (ko ke_int)).t _)
     (kss_cons (ks_set (i := 2) sc__law_digit.nd rfl (Or.inl rfl) (ke_mod (ko (ke_intc (E0.b_int) (ko (ke_ix (ko_var 0) (ko ke_int) (fun _ _ => rfl))))) (ko (ke_var 1))))
    (kss_cons (QS.le (qs_setix 0 (ke_div (ko (ke_ix (ko_var 0) (ko ke_int) (fun _ _ => rfl))) (ko (ke_var 1))) ke_int) leSetIx)
    (kss_one (ks_ret (ke_var 2)))))
     kss_nil)
    (kss_cons (ks_set (i := 3) sc__law_digit.nd rfl (Or.inl rfl) (ke_mul (ko (ke_ix (ko_var 0) (ko ke_int) (fun _ _ => rfl))) (ko (ke_add (ko (ke_div (ko (ke_ix (ko_var 0) (ko ke_int) (fun _ _ => rfl))) (ko ke_int))) (ko ke_int)))))
    (kss_cons (QS.le (qs_setix 0 (ke_add (ko (ke_mod (ko (ke_intc (E0.b_int) (ko (ke_add (ko (ke_var 3)) (ko (ke_ix (ko_var 0) (ko ke_int) (fun _ _ => rfl))))))) (ko ke_int))) (ko ke_int)) ke_int) leSetIx)
    (kss_one (ks_ret (ke_mod (ko (ke_intc (E0.b_int) (ko (ke_div (ko (ke_ix (ko_var 0) (ko ke_int) (fun _ _ => rfl))) (ko ke_int))))) (ko (ke_var 1))))))))
theorem q__law_classes (E0 : Ws K mg) {f : Addr}  : BodyQ P w K mg base 0 N__law_classes "_law_classes" (defScope st__law_classes) f (defBody st__law_classes) (ws b__law_classes) := by
  intro cdv A outer s H E hr
  exact (kss_cons (ks_set (i := 1) sc__law_classes.nd rfl (Or.inl rfl) (knew (kf_lst (ka_cons (ko (QE.le (qe_isX E0.xi (by unfold xvk; simp) (E0.b_isinstance) (ko (ke_var 0)) (pcn_own E0.g_BadStream)) (le1 hk_isX))) (ka_cons (ko (QE.le (qe_isX E0.xi (by unfold xvk; simp) (E0.b_isinstance) (ko (ke_var 0)) (pcn_own E0.g_BadMember)) (le1 hk_isX))) (ka_cons (ko (QE.le (qe_isX E0.xi (by unfold xvk; simp) (E0.b_isinstance) (ko (ke_var 0)) (pcn_own E0.g_BadRow)) (le1 hk_isX))) ka_nil))))))
    (kss_cons (ks_set (i := 1) sc__law_classes.nd rfl (Or.inl rfl) (knew (kf_cat (ko (ke_var 1)) (ko (knew (kf_lst (ka_cons (ko (QE.le (qe_isX E0.xi (by unfold xvk; simp) (E0.b_isinstance) (ko (ke_var 0)) (pcn_own E0.g_BadTrain)) (le1 hk_isX))) (ka_cons (ko (QE.le (qe_isX E0.xi (by unfold xvk; simp) (E0.b_isinstance) (ko (ke_var 0)) (pcn_own E0.g_NoEvent)) (le1 hk_isX))) (ka_cons (ko (QE.le (qe_isX E0.xi (by unfold xvk; simp) (E0.b_isinstance) (ko (ke_var 0)) (pcn_own E0.g_Large)) (le1 hk_isX))) ka_nil)))))))))
    (kss_cons (ks_set (i := 1) sc__law_classes.nd rfl (Or.inl rfl) (knew (kf_cat (ko (ke_var 1)) (ko (knew (kf_lst (ka_cons (ko (QE.le (qe_isX E0.xi (by unfold xvk; simp) (E0.b_isinstance) (ko (ke_var 0)) (pcn_own E0.g_BadNumbers)) (le1 hk_isX))) (ka_cons (ko (QE.le (qe_isX E0.xi (by unfold xvk; simp) (E0.b_isinstance) (ko (ke_var 0)) (pcn_own E0.g_BadBus)) (le1 hk_isX))) (ka_cons (ko (QE.le (qe_isX E0.xi (by unfold xvk; simp) (E0.b_isinstance) (ko (ke_var 0)) (pcn_own E0.g_NoInput)) (le1 hk_isX))) ka_nil)))))))))
    (kss_cons (ks_set (i := 1) sc__law_classes.nd rfl (Or.inl rfl) (knew (kf_cat (ko (ke_var 1)) (ko (knew (kf_lst (ka_cons (ko (QE.le (qe_isX E0.xi (by unfold xvk; simp) (E0.b_isinstance) (ko (ke_var 0)) (pcn_own E0.g_NotLater)) (le1 hk_isX))) (ka_cons (ko (QE.le (qe_isX E0.xi (by unfold xvk; simp) (E0.b_isinstance) (ko (ke_var 0)) (pcn_own E0.g_BadText)) (le1 hk_isX))) (ka_cons (ko (QE.le (qe_isX E0.xi (by unfold xvk; simp) (E0.b_isinstance) (ko (ke_var 0)) (pcn_own E0.g_BadForm)) (le1 hk_isX))) ka_nil)))))))))
    (kss_cons (ks_set (i := 1) sc__law_classes.nd rfl (Or.inl rfl) (knew (kf_cat (ko (ke_var 1)) (ko (knew (kf_lst (ka_cons (ko (QE.le (qe_isX E0.xi (by unfold xvk; simp) (E0.b_isinstance) (ko (ke_var 0)) (pcn_own E0.g_Mixed)) (le1 hk_isX))) (ka_cons (ko (QE.le (qe_isX E0.xi (by unfold xvk; simp) (E0.b_isinstance) (ko (ke_var 0)) (pcn_own E0.g_NoQuestion)) (le1 hk_isX))) (ka_cons (ko (QE.le (qe_isX E0.xi (by unfold xvk; simp) (E0.b_isinstance) (ko (ke_var 0)) (pcn_own E0.g_Untrue)) (le1 hk_isX))) ka_nil)))))))))
    (kss_cons (ks_set (i := 1) sc__law_classes.nd rfl (Or.inl rfl) (knew (kf_cat (ko (ke_var 1)) (ko (knew (kf_lst (ka_cons (ko (QE.le (qe_isX E0.xi (by unfold xvk; simp) (E0.b_isinstance) (ko (ke_var 0)) (pcn_own E0.g_NotKnown)) (le1 hk_isX))) (ka_cons (ko (QE.le (qe_isX E0.xi (by unfold xvk; simp) (E0.b_isinstance) (ko (ke_var 0)) (pcn_own E0.g_OtherInputs)) (le1 hk_isX))) (ka_cons (ko (QE.le (qe_isX E0.xi (by unfold xvk; simp) (E0.b_isinstance) (ko (ke_var 0)) (pcn_own E0.g_NoBack)) (le1 hk_isX))) ka_nil)))))))))
    (kss_one (ks_retF (kf_cat (ko (ke_var 1)) (ko (knew (kf_lst (ka_cons (ko (QE.le (qe_isX E0.xi (by unfold xvk; simp) (E0.b_isinstance) (ko (ke_var 0)) (pcn_own E0.g_NoName)) (le1 hk_isX))) ka_nil)))))))))))))
theorem q_BadStream_told (E0 : Ws K mg) {f : Addr}  : BodyZ P w K mg base 0 N_BadStream_told "BadStream.told" (defScope st_BadStream_told) f (defBody st_BadStream_told) (ws b_BadStream_told) := by
  intro cdv A outer s H E hr
  exact (kss_one (ks_ret ke_str))
theorem q_BadMember_told (E0 : Ws K mg) {f : Addr}  : BodyZ P w K mg base 0 N_BadMember_told "BadMember.told" (defScope st_BadMember_told) f (defBody st_BadMember_told) (ws b_BadMember_told) := by
  intro cdv A outer s H E hr
  exact (kss_one (ks_ret ke_str))
theorem q_BadRow_told (E0 : Ws K mg) {f : Addr}  : BodyZ P w K mg base 0 N_BadRow_told "BadRow.told" (defScope st_BadRow_told) f (defBody st_BadRow_told) (ws b_BadRow_told) := by
  intro cdv A outer s H E hr
  exact (kss_one (ks_ret ke_str))
theorem q_BadTrain_told (E0 : Ws K mg) {f : Addr}  : BodyZ P w K mg base 0 N_BadTrain_told "BadTrain.told" (defScope st_BadTrain_told) f (defBody st_BadTrain_told) (ws b_BadTrain_told) := by
  intro cdv A outer s H E hr
  exact (kss_one (ks_ret ke_str))
theorem q_NoEvent_told (E0 : Ws K mg) {f : Addr}  : BodyZ P w K mg base 0 N_NoEvent_told "NoEvent.told" (defScope st_NoEvent_told) f (defBody st_NoEvent_told) (ws b_NoEvent_told) := by
  intro cdv A outer s H E hr
  exact (kss_one (ks_ret ke_str))
theorem q_Large_told (E0 : Ws K mg) {f : Addr}  : BodyZ P w K mg base 0 N_Large_told "Large.told" (defScope st_Large_told) f (defBody st_Large_told) (ws b_Large_told) := by
  intro cdv A outer s H E hr
  exact (kss_one (ks_ret ke_str))
theorem q_BadNumbers_told (E0 : Ws K mg) {f : Addr}  : BodyZ P w K mg base 0 N_BadNumbers_told "BadNumbers.told" (defScope st_BadNumbers_told) f (defBody st_BadNumbers_told) (ws b_BadNumbers_told) := by
  intro cdv A outer s H E hr
  exact (kss_one (ks_ret ke_str))
theorem q_BadBus_told (E0 : Ws K mg) {f : Addr}  : BodyZ P w K mg base 0 N_BadBus_told "BadBus.told" (defScope st_BadBus_told) f (defBody st_BadBus_told) (ws b_BadBus_told) := by
  intro cdv A outer s H E hr
  exact (kss_one (ks_ret ke_str))
theorem q_NoInput_told (E0 : Ws K mg) {f : Addr}  : BodyZ P w K mg base 0 N_NoInput_told "NoInput.told" (defScope st_NoInput_told) f (defBody st_NoInput_told) (ws b_NoInput_told) := by
  intro cdv A outer s H E hr
  exact (kss_one (ks_ret ke_str))
theorem q_NotLater_told (E0 : Ws K mg) {f : Addr}  : BodyZ P w K mg base 0 N_NotLater_told "NotLater.told" (defScope st_NotLater_told) f (defBody st_NotLater_told) (ws b_NotLater_told) := by
  intro cdv A outer s H E hr
  exact (kss_one (ks_ret ke_str))
theorem q_BadText_told (E0 : Ws K mg) {f : Addr}  : BodyZ P w K mg base 0 N_BadText_told "BadText.told" (defScope st_BadText_told) f (defBody st_BadText_told) (ws b_BadText_told) := by
  intro cdv A outer s H E hr
  exact (kss_one (ks_ret ke_str))
theorem q_BadForm_told (E0 : Ws K mg) {f : Addr}  : BodyZ P w K mg base 0 N_BadForm_told "BadForm.told" (defScope st_BadForm_told) f (defBody st_BadForm_told) (ws b_BadForm_told) := by
  intro cdv A outer s H E hr
  exact (kss_one (ks_ret ke_str))
theorem q_Mixed_told (E0 : Ws K mg) {f : Addr}  : BodyZ P w K mg base 0 N_Mixed_told "Mixed.told" (defScope st_Mixed_told) f (defBody st_Mixed_told) (ws b_Mixed_told) := by
  intro cdv A outer s H E hr
  exact (kss_one (ks_ret ke_str))
theorem q_NoQuestion_told (E0 : Ws K mg) {f : Addr}  : BodyZ P w K mg base 0 N_NoQuestion_told "NoQuestion.told" (defScope st_NoQuestion_told) f (defBody st_NoQuestion_told) (ws b_NoQuestion_told) := by
  intro cdv A outer s H E hr
  exact (kss_one (ks_ret ke_str))
theorem q_Untrue_told (E0 : Ws K mg) {f : Addr}  : BodyZ P w K mg base 0 N_Untrue_told "Untrue.told" (defScope st_Untrue_told) f (defBody st_Untrue_told) (ws b_Untrue_told) := by
  intro cdv A outer s H E hr
  exact (kss_one (ks_ret ke_str))
theorem q_NotKnown_told (E0 : Ws K mg) {f : Addr}  : BodyZ P w K mg base 0 N_NotKnown_told "NotKnown.told" (defScope st_NotKnown_told) f (defBody st_NotKnown_told) (ws b_NotKnown_told) := by
  intro cdv A outer s H E hr
  exact (kss_one (ks_ret ke_str))
theorem q_OtherInputs_told (E0 : Ws K mg) {f : Addr}  : BodyZ P w K mg base 0 N_OtherInputs_told "OtherInputs.told" (defScope st_OtherInputs_told) f (defBody st_OtherInputs_told) (ws b_OtherInputs_told) := by
  intro cdv A outer s H E hr
  exact (kss_one (ks_ret ke_str))
theorem q_NoBack_told (E0 : Ws K mg) {f : Addr}  : BodyZ P w K mg base 0 N_NoBack_told "NoBack.told" (defScope st_NoBack_told) f (defBody st_NoBack_told) (ws b_NoBack_told) := by
  intro cdv A outer s H E hr
  exact (kss_one (ks_ret ke_str))
theorem q_NoName_told (E0 : Ws K mg) {f : Addr}  : BodyZ P w K mg base 0 N_NoName_told "NoName.told" (defScope st_NoName_told) f (defBody st_NoName_told) (ws b_NoName_told) := by
  intro cdv A outer s H E hr
  exact (kss_one (ks_ret ke_str))
theorem q__law_field (E0 : Ws K mg) {f : Addr}  : BodyQ P w K mg base 0 N__law_field "_law_field" (defScope st__law_field) f (defBody st__law_field) (ws b__law_field) := by
  intro cdv A outer s H E hr
  exact (kss_cons (ks_if (kt_val (QE.le (qe_isXt E0.xi (by unfold xvk; simp) (by decide) (E0.b_isinstance) (ko (ke_var 0)) (.cons (pcn_own E0.g_BadStream) rfl (.cons (pcn_own E0.g_BadNumbers) rfl (.cons (pcn_own E0.g_BadText) rfl .nil)))) (le1 hk_isX)))
     (kss_one (ks_ret (knew (kf_lst (ka_cons (ko (QE.le (qe_fldX E0.xvm (ko (ke_var 0))) (le1 hk_fldX))) ka_nil)))))
     kss_nil)
    (kss_cons (ks_if (kt_val (QE.le (qe_isXt E0.xi (by unfold xvk; simp) (by decide) (E0.b_isinstance) (ko (ke_var 0)) (.cons (pcn_own E0.g_BadMember) rfl (.cons (pcn_own E0.g_BadTrain) rfl .nil))) (le1 hk_isX)))
     (kss_one (ks_ret (knew (kf_lst (ka_cons (ko (QE.le (qe_fldX E0.xvm (ko (ke_var 0))) (le1 hk_fldX))) ka_nil)))))
     kss_nil)
    (kss_cons (ks_if (kt_val (QE.le (qe_isXt E0.xi (by unfold xvk; simp) (by decide) (E0.b_isinstance) (ko (ke_var 0)) (.cons (pcn_own E0.g_BadRow) rfl (.cons (pcn_own E0.g_BadBus) rfl .nil))) (le1 hk_isX)))
     (kss_one (ks_ret (knew (kf_lst (ka_cons (ko (QE.le (qe_fldX E0.xvm (ko (ke_var 0))) (le1 hk_fldX))) ka_nil)))))
     kss_nil)
    (kss_cons (ks_if (kt_val (QE.le (qe_isX E0.xi (by unfold xvk; simp) (E0.b_isinstance) (ko (ke_var 0)) (pcn_own E0.g_NoEvent)) (le1 hk_isX)))
     (kss_one (ks_ret (knew (kf_lst (ka_cons (ko (QE.le (qe_fldX E0.xvm (ko (ke_var 0))) (le1 hk_fldX))) ka_nil)))))
     kss_nil)
    (kss_cons (ks_if (kt_val (QE.le (qe_isX E0.xi (by unfold xvk; simp) (E0.b_isinstance) (ko (ke_var 0)) (pcn_own E0.g_Large)) (le1 hk_isX)))
     (kss_one (ks_ret (knew (kf_lst (ka_cons (ko (QE.le (qe_fldX E0.xvm (ko (ke_var 0))) (le1 hk_fldX))) ka_nil)))))
     kss_nil)
    (kss_cons (ks_if (kt_val (QE.le (qe_isX E0.xi (by unfold xvk; simp) (E0.b_isinstance) (ko (ke_var 0)) (pcn_own E0.g_NoInput)) (le1 hk_isX)))
     (kss_one (ks_ret (knew (kf_lst (ka_cons (ko (QE.le (qe_fldX E0.xvm (ko (ke_var 0))) (le1 hk_fldX))) ka_nil)))))
     kss_nil)
    (kss_one (ks_ret (ke_if (kt_val (QE.le (qe_isX E0.xi (by unfold xvk; simp) (E0.b_isinstance) (ko (ke_var 0)) (pcn_own E0.g_NotLater)) (le1 hk_isX))) (knew (kf_lst (ka_cons (ko (QE.le (qe_fldX E0.xvm (ko (ke_var 0))) (le1 hk_fldX))) ka_nil))) (knew (kf_lst ka_nil)))))))))))
theorem q_law (E0 : Ws K mg) {f : Addr} (MX_told_BadStream_BadMember_BadRow_BadTrain_NoEvent_Large_BadNumbers_BadBus_NoInput_NotLater_BadText_BadForm_Mixed_NoQuestion_Untrue_NotKnown_OtherInputs_NoBack_NoName : ∀ q ∈ TFs [("BadStream", F_BadStream_told), ("BadMember", F_BadMember_told), ("BadRow", F_BadRow_told), ("BadTrain", F_BadTrain_told), ("NoEvent", F_NoEvent_told), ("Large", F_Large_told), ("BadNumbers", F_BadNumbers_told), ("BadBus", F_BadBus_told), ("NoInput", F_NoInput_told), ("NotLater", F_NotLater_told), ("BadText", F_BadText_told), ("BadForm", F_BadForm_told), ("Mixed", F_Mixed_told), ("NoQuestion", F_NoQuestion_told), ("Untrue", F_Untrue_told), ("NotKnown", F_NotKnown_told), ("OtherInputs", F_OtherInputs_told), ("NoBack", F_NoBack_told), ("NoName", F_NoName_told)], MeX P w K mg base 1 q.1 "told" ["self"] q.2) (H__law_classes : FnT P w K mg base 1 "_law_classes" ["_law_error"] (TF F__law_classes)) (H__law_digit : FnT P w K mg base 1 "_law_digit" ["_law_state_here", "_law_base"] (TF F__law_digit)) (H__law_field : FnT P w K mg base 1 "_law_field" ["_law_error"] (TF F__law_field)) (H__law_state : FnT P w K mg base 1 "_law_state" ["_law_source"] (TF F__law_state)) : BodyQ P w K mg base 1 N_law "law" (defScope st_law) f (defBody st_law) (ws b_law) := by
  intro cdv A outer s H E hr
  exact (kss_cons (ks_for (passes_of rfl) rfl (ki_seq (knew (kf_sl (ko (knew (kf_cat (ko (ke_var 0)) (ko (knew (kf_lst (ka_cons (ko ke_int) ka_nil))))))) kp_none (kp_some ke_int)))) (kg_name (i := 1) sc_law.nd rfl (Or.inl rfl))
     (kss_kil [1, 2, 3, 4, 5, 6, 7, 8] (kss_cons (ks_own (i := 2) sc_law.nd rfl (Or.inl rfl) (QF.le (qf_call H__law_state (hr.mono (by decide)) (takes_of rfl rfl rfl rfl) (ka_cons (ko (ke_var 1)) ka_nil)) leCallO))
    (kss_cons (ks_set (i := 3) sc_law.nd rfl (Or.inl rfl) (ke_ix (ko (knew (kf_lst (ka_cons (ko (QE.le (qe_call H__law_digit (hr.mono (by decide)) (takes_of rfl rfl rfl rfl) (ka_cons (ko_var 2) (ka_cons (ko ke_int) ka_nil))) leCall)) (ka_cons (ko ke_non) (ka_cons (ko ke_str) (ka_cons (ko (knew (kf_lst (ka_cons (ko ke_int) (ka_cons (ko (knew (kf_lst (ka_cons (ko ke_int) ka_nil)))) ka_nil))))) (ka_cons (ko (ke_tup (ka_cons (ko ke_int) ka_nil))) (ka_cons (ko (ke_neg (ko ke_int))) ka_nil))))))))) (ko (QE.le (qe_call H__law_digit (hr.mono (by decide)) (takes_of rfl rfl rfl rfl) (ka_cons (ko_var 2) (ka_cons (ko ke_int) ka_nil))) leCall)) (fun _ _ => rfl)))
    (kss_cons (ks_set (i := 4) sc_law.nd rfl (Or.inl rfl) (knew (kf_lst (ka_cons (ko (QE.le (qe_mkv (fun {ta} h => mkv_place E0.x_BadStream hr (ha := h)) (ke_var 3)) leExv)) (ka_cons (ko (QE.le (qe_mkv (fun {ta} h => mkv_what E0.x_BadMember hr (ha := h)) (ke_var 3)) leExv)) (ka_cons (ko (QE.le (qe_mkv (fun {ta} h => mkv_index E0.x_BadRow hr (ha := h)) (ke_var 3)) leExv)) (ka_cons (ko (QE.le (qe_mkv (fun {ta} h => mkv_what E0.x_BadTrain hr (ha := h)) (ke_var 3)) leExv)) (ka_cons (ko (QE.le (qe_mkv (fun {ta} h => mkv_number E0.x_NoEvent hr (ha := h)) (ke_var 3)) leExv)) (ka_cons (ko (QE.le (qe_mkv (fun {ta} h => mkv_count E0.x_Large hr (ha := h)) (ke_var 3)) leExv)) (ka_cons (ko (QE.le (qe_mkv (fun {ta} h => mkv_place E0.x_BadNumbers hr (ha := h)) (ke_var 3)) leExv)) (ka_cons (ko (QE.le (qe_mkv (fun {ta} h => mkv_index E0.x_BadBus hr (ha := h)) (ke_var 3)) leExv)) ka_nil)))))))))))
    (kss_cons (ks_set (i := 4) sc_law.nd rfl (Or.inl rfl) (knew (kf_cat (ko (ke_var 4)) (ko (knew (kf_lst (ka_cons (ko (QE.le (qe_mkv (fun {ta} h => mkv_name E0.x_NoInput hr (ha := h)) (ke_var 3)) leExv)) (ka_cons (ko (QE.le (qe_mkv (fun {ta} h => mkv_time E0.x_NotLater hr (ha := h)) (ke_var 3)) leExv)) (ka_cons (ko (QE.le (qe_mkv (fun {ta} h => mkv_place E0.x_BadText hr (ha := h)) (ke_var 3)) leExv)) (ka_cons (ko (QE.le (qe_mkv0 E0.x_BadForm) leExv0)) (ka_cons (ko (QE.le (qe_mkv0 E0.x_Mixed) leExv0)) (ka_cons (ko (QE.le (qe_mkv0 E0.x_NoQuestion) leExv0)) (ka_cons (ko (QE.le (qe_mkv0 E0.x_Untrue) leExv0)) ka_nil)))))))))))))
    (kss_cons (ks_set (i := 4) sc_law.nd rfl (Or.inl rfl) (knew (kf_cat (ko (ke_var 4)) (ko (knew (kf_lst (ka_cons (ko (QE.le (qe_mkv0 E0.x_NotKnown) leExv0)) (ka_cons (ko (QE.le (qe_mkv0 E0.x_OtherInputs) leExv0)) (ka_cons (ko (QE.le (qe_mkv0 E0.x_NoBack) leExv0)) (ka_cons (ko (QE.le (qe_mkv0 E0.x_NoName) leExv0)) ka_nil))))))))))
    (kss_cons (ks_set (i := 5) sc_law.nd rfl (Or.inl rfl) (knew (kf_lst (ka_cons (ko ke_str) (ka_cons (ko ke_str) (ka_cons (ko ke_str) (ka_cons (ko ke_str) (ka_cons (ko ke_str) (ka_cons (ko ke_str) (ka_cons (ko ke_str) (ka_cons (ko ke_str) ka_nil)))))))))))
    (kss_cons (ks_set (i := 5) sc_law.nd rfl (Or.inl rfl) (knew (kf_cat (ko (ke_var 5)) (ko (knew (kf_lst (ka_cons (ko ke_str) (ka_cons (ko ke_str) (ka_cons (ko ke_str) (ka_cons (ko ke_str) (ka_cons (ko ke_str) (ka_cons (ko ke_str) (ka_cons (ko ke_str) ka_nil)))))))))))))
    (kss_cons (ks_set (i := 5) sc_law.nd rfl (Or.inl rfl) (knew (kf_cat (ko (ke_var 5)) (ko (knew (kf_lst (ka_cons (ko ke_str) (ka_cons (ko ke_str) (ka_cons (ko ke_str) (ka_cons (ko ke_str) ka_nil))))))))))
    (kss_one (ks_for (passes_of rfl) rfl (ki_enum (E0.b_enumerate) (ke_var 4)) (kg_tup rfl (kgs_cons (kg_name (i := 6) sc_law.nd rfl (Or.inr rfl)) (kgs_cons (kg_name (i := 7) sc_law.nd rfl (Or.inl rfl)) kgs_nil)))
     (kss_kil [6, 7, 8] (kss_cons (ks_set (i := 8) sc_law.nd rfl (Or.inl rfl) (ke_if ((kc_lt (ko (ke_var 6)) (ko ke_int)).t _) (knew (kf_lst (ka_cons (ko (ke_var 3)) ka_nil))) (knew (kf_lst ka_nil))))
    (kss_cons (ks_if (PW.pt (kw_or ((kc_ne hr.units (ko (QE.le (qe_methX MX_told_BadStream_BadMember_BadRow_BadTrain_NoEvent_Large_BadNumbers_BadBus_NoInput_NotLater_BadText_BadForm_Mixed_NoQuestion_Untrue_NotKnown_OtherInputs_NoBack_NoName (roomZ_of (hr.mono (by decide))) (takes_of rfl rfl rfl rfl) (ke_var 7)) leMethX)) (ko (ke_add (ko ke_str) (ko (ke_ix (ko (ke_var 5)) (ko (ke_var 6)) (fun _ _ => rfl)))))).t _) (kw_or1 ((kc_ne hr.units (ko (QE.le (qe_call H__law_field (hr.mono (by decide)) (takes_of rfl rfl rfl rfl) (ka_cons (ko (ke_var 7)) ka_nil)) leCall)) (ko (ke_var 8))).t _))))
     (kss_one (ks_ret ke_bl))
     kss_nil)
    (kss_cons (ks_if (PW.pt (kw_or (kt_not (kt_val (QE.le (qe_isX E0.xi (by unfold xvk; simp) (E0.b_isinstance) (ko (ke_var 7)) (pcn_own E0.g_QuietError)) (le1 hk_isX)))) (kw_or1 (kt_not (kt_val (QE.le (qe_isX E0.xi (by unfold xvk; simp) (E0.b_isinstance) (ko (ke_var 7)) (pcn_ty (E0.b_ValueError) (by decide +kernel))) (le1 hk_isX)))))))
     (kss_one (ks_ret ke_bl))
     kss_nil)
    (kss_one (ks_if ((kc_ne hr.units (ko (knew (QF.le (qf_call H__law_classes (hr.mono (by decide)) (takes_of rfl rfl rfl rfl) (ka_cons (ko (ke_var 7)) ka_nil)) leCallO))) (ko (knew (QF.le (qf_lc (own := [("_law_k", 9)]) (tu := false) rfl sc_law.nd (ki_range1 (E0.b_range) (ke_len (E0.b_len) (ko (ke_var 4)))) (blkOk_by (by kernel_rfl)) (fun _ _ _ _ _ => (pg_name (i := 9) sc_law.nd rfl (Or.inl rfl))) (fun _ _ _ _ _ => kts_nil) (fun _ _ _ _ _ => ((kc_eq hr.units (ko (ke_var 9)) (ko (ke_var 6))).e _))) leLc)))).t _)
     (kss_one (ks_ret ke_bl))
     kss_nil))))))))))))))))))
    (kss_one (ks_ret ke_bl)))
end
theorem facts {P : Program} {w : World} {K : PySem.W.Frag} {h : Heap} {mg : Str → Option Value} {f : Addr} (X : K.In h) (G : h.Ns mainGlobals mg) (hfa : mg ("law" : Str) = some (.ref f)) (c : SaysX fa fn ex K) :
    ∃ fd : FuncData, (∀ (s : Shared) (v : Value), BindsTo s fd ⟨[v], []⟩ [("_law_script", v)]) ∧ ∀ base : Heap, K.In base → base.Ns mainGlobals mg → FnOk P w K mg base (L2.CX P w) 2 f fd ["_law_script"] (spT K T_law) := by
  have he := c.e
  unfold ex at he
  obtain ⟨h0, he⟩ := He.ba he
  obtain ⟨h1, he⟩ := He.ba he
  obtain ⟨h2, he⟩ := He.ba he
  obtain ⟨h3, he⟩ := He.ba he
  obtain ⟨h4, he⟩ := He.ba he
  obtain ⟨h5, he⟩ := He.ba he
  obtain ⟨h6, he⟩ := He.ba he
  obtain ⟨h7, he⟩ := He.ba he
  obtain ⟨h8, he⟩ := He.ba he
  obtain ⟨h9, he⟩ := He.ba he
  obtain ⟨h10, he⟩ := He.ba he
  obtain ⟨h11, he⟩ := He.ba he
  obtain ⟨h12, he⟩ := He.ba he
  obtain ⟨h13, he⟩ := He.ba he
  obtain ⟨h14, he⟩ := He.ba he
  obtain ⟨h15, he⟩ := He.ba he
  obtain ⟨h16, he⟩ := He.ba he
  obtain ⟨h17, he⟩ := He.ba he
  obtain ⟨h18, he⟩ := He.ba he
  obtain ⟨h19, he⟩ := He.ba he
  obtain ⟨h20, he⟩ := He.ba he
  obtain ⟨h21, he⟩ := He.ba he
  obtain ⟨h22, he⟩ := He.ba he
  obtain ⟨h23, he⟩ := He.ba he
  obtain ⟨h24, he⟩ := He.ba he
  obtain ⟨h25, he⟩ := He.ba he
  obtain ⟨h26, he⟩ := He.ba he
  obtain ⟨h27, he⟩ := He.ba he
  obtain ⟨h28, he⟩ := He.ba he
  obtain ⟨h29, he⟩ := He.ba he
  obtain ⟨h30, he⟩ := He.ba he
  obtain ⟨h31, he⟩ := He.ba he
  obtain ⟨h32, he⟩ := He.ba he
  obtain ⟨h33, he⟩ := He.ba he
  obtain ⟨h34, he⟩ := He.ba he
  obtain ⟨h35, he⟩ := He.ba he
  obtain ⟨h36, he⟩ := He.ba he
  obtain ⟨h37, he⟩ := He.ba he
  obtain ⟨h38, he⟩ := He.ba he
  obtain ⟨h39, he⟩ := He.ba he
  have h40 := he
  obtain ⟨fdx22, FX22⟩ := c.d.def_ 31 (d := d31) rfl
  obtain ⟨fdx23, FX23⟩ := c.d.def_ 24 (d := d24) rfl
  obtain ⟨fdx24, FX24⟩ := c.d.def_ 27 (d := d27) rfl
  obtain ⟨fdx25, FX25⟩ := c.d.def_ 33 (d := d33) rfl
  obtain ⟨fdx26, FX26⟩ := c.d.def_ 32 (d := d32) rfl
  obtain ⟨fdx27, FX27⟩ := c.d.def_ 26 (d := d26) rfl
  obtain ⟨fdx28, FX28⟩ := c.d.def_ 28 (d := d28) rfl
  obtain ⟨fdx29, FX29⟩ := c.d.def_ 29 (d := d29) rfl
  obtain ⟨fdx30, FX30⟩ := c.d.def_ 34 (d := d34) rfl
  obtain ⟨fdx31, FX31⟩ := c.d.def_ 25 (d := d25) rfl
  obtain ⟨fdx32, FX32⟩ := c.d.def_ 30 (d := d30) rfl
  have E0 : Ws K mg := ⟨He.free_ok X G (c.d.fact 0 (f := .free "ValueError") rfl),
    He.free_ok X G (c.d.fact 1 (f := .free "abs") rfl),
    He.free_ok X G (c.d.fact 2 (f := .free "enumerate") rfl),
    He.free_ok X G (c.d.fact 3 (f := .free "int") rfl),
    He.free_ok X G (c.d.fact 4 (f := .free "isinstance") rfl),
    He.free_ok X G (c.d.fact 5 (f := .free "len") rfl),
    He.free_ok X G (c.d.fact 6 (f := .free "range") rfl),
    He.glo_ok X G (c.d.fact 7 (f := .glo "BadBus") rfl),
    He.glo_ok X G (c.d.fact 8 (f := .glo "BadForm") rfl),
    He.glo_ok X G (c.d.fact 9 (f := .glo "BadMember") rfl),
    He.glo_ok X G (c.d.fact 10 (f := .glo "BadNumbers") rfl),
    He.glo_ok X G (c.d.fact 11 (f := .glo "BadRow") rfl),
    He.glo_ok X G (c.d.fact 12 (f := .glo "BadStream") rfl),
    He.glo_ok X G (c.d.fact 13 (f := .glo "BadText") rfl),
    He.glo_ok X G (c.d.fact 14 (f := .glo "BadTrain") rfl),
    He.glo_ok X G (c.d.fact 15 (f := .glo "Large") rfl),
    He.glo_ok X G (c.d.fact 16 (f := .glo "Mixed") rfl),
    He.glo_ok X G (c.d.fact 17 (f := .glo "NoBack") rfl),
    He.glo_ok X G (c.d.fact 18 (f := .glo "NoEvent") rfl),
    He.glo_ok X G (c.d.fact 19 (f := .glo "NoInput") rfl),
    He.glo_ok X G (c.d.fact 20 (f := .glo "NoName") rfl),
    He.glo_ok X G (c.d.fact 21 (f := .glo "NoQuestion") rfl),
    He.glo_ok X G (c.d.fact 22 (f := .glo "NotKnown") rfl),
    He.glo_ok X G (c.d.fact 23 (f := .glo "NotLater") rfl),
    He.glo_ok X G (c.d.fact 24 (f := .glo "OtherInputs") rfl),
    He.glo_ok X G (c.d.fact 25 (f := .glo "QuietError") rfl),
    He.glo_ok X G (c.d.fact 26 (f := .glo "Untrue") rfl),
    ctB_ok h0,
    xisB_ok h1,
    xmB_ok h2,
    xfB_ok h3,
    xfB_ok h4,
    xfB_ok h5,
    xfB_ok h6,
    xfB_ok h7,
    xfB_ok h8,
    xfB_ok h9,
    xfB_ok h10,
    xfB_ok h11,
    xfB_ok h12,
    xfB_ok h13,
    xfB_ok h14,
    xfB_ok h15,
    xfB_ok h16,
    xfB_ok h17,
    xfB_ok h18,
    xfB_ok h19,
    xfB_ok h20,
    xfB_ok h21,
    xf_mk_count (He.glo_ok X G (c.d.fact 15 (f := .glo "Large") rfl)) h22 (FX22) ⟨_, _, rfl⟩ ⟨_, _, _, _, rfl⟩ rfl,
    xf_mk_index (He.glo_ok X G (c.d.fact 7 (f := .glo "BadBus") rfl)) h23 (FX23) ⟨_, _, rfl⟩ ⟨_, _, _, _, rfl⟩ rfl,
    xf_mk_index (He.glo_ok X G (c.d.fact 11 (f := .glo "BadRow") rfl)) h24 (FX24) ⟨_, _, rfl⟩ ⟨_, _, _, _, rfl⟩ rfl,
    xf_mk_name (He.glo_ok X G (c.d.fact 19 (f := .glo "NoInput") rfl)) h25 (FX25) ⟨_, _, rfl⟩ ⟨_, _, _, _, rfl⟩ rfl,
    xf_mk_number (He.glo_ok X G (c.d.fact 18 (f := .glo "NoEvent") rfl)) h26 (FX26) ⟨_, _, rfl⟩ ⟨_, _, _, _, rfl⟩ rfl,
    xf_mk_place (He.glo_ok X G (c.d.fact 10 (f := .glo "BadNumbers") rfl)) h27 (FX27) ⟨_, _, rfl⟩ ⟨_, _, _, _, rfl⟩ rfl,
    xf_mk_place (He.glo_ok X G (c.d.fact 12 (f := .glo "BadStream") rfl)) h28 (FX28) ⟨_, _, rfl⟩ ⟨_, _, _, _, rfl⟩ rfl,
    xf_mk_place (He.glo_ok X G (c.d.fact 13 (f := .glo "BadText") rfl)) h29 (FX29) ⟨_, _, rfl⟩ ⟨_, _, _, _, rfl⟩ rfl,
    xf_mk_time (He.glo_ok X G (c.d.fact 23 (f := .glo "NotLater") rfl)) h30 (FX30) ⟨_, _, rfl⟩ ⟨_, _, _, _, rfl⟩ rfl,
    xf_mk_what (He.glo_ok X G (c.d.fact 9 (f := .glo "BadMember") rfl)) h31 (FX31) ⟨_, _, rfl⟩ ⟨_, _, _, _, rfl⟩ rfl,
    xf_mk_what (He.glo_ok X G (c.d.fact 14 (f := .glo "BadTrain") rfl)) h32 (FX32) ⟨_, _, rfl⟩ ⟨_, _, _, _, rfl⟩ rfl,
    x0_mk (He.glo_ok X G (c.d.fact 8 (f := .glo "BadForm") rfl)) h33,
    x0_mk (He.glo_ok X G (c.d.fact 16 (f := .glo "Mixed") rfl)) h34,
    x0_mk (He.glo_ok X G (c.d.fact 17 (f := .glo "NoBack") rfl)) h35,
    x0_mk (He.glo_ok X G (c.d.fact 20 (f := .glo "NoName") rfl)) h36,
    x0_mk (He.glo_ok X G (c.d.fact 21 (f := .glo "NoQuestion") rfl)) h37,
    x0_mk (He.glo_ok X G (c.d.fact 22 (f := .glo "NotKnown") rfl)) h38,
    x0_mk (He.glo_ok X G (c.d.fact 24 (f := .glo "OtherInputs") rfl)) h39,
    x0_mk (He.glo_ok X G (c.d.fact 26 (f := .glo "Untrue") rfl)) h40⟩
  obtain ⟨fd0, G0⟩ := c.d.def_ 0 (d := d0) rfl
  have b0 := FunD.bindsN (ps := ["_law_source"]) G0 fun _ _ _ _ _ _ us hl => match us, hl with | [_], _ => rfl
  obtain ⟨fd1, G1⟩ := c.d.def_ 1 (d := d1) rfl
  have b1 := FunD.bindsN (ps := ["_law_state_here", "_law_base"]) G1 fun _ _ _ _ _ _ us hl => match us, hl with | [_, _], _ => rfl
  obtain ⟨fd2, G2⟩ := c.d.def_ 2 (d := d2) rfl
  have b2 := FunD.bindsN (ps := ["_law_error"]) G2 fun _ _ _ _ _ _ us hl => match us, hl with | [_], _ => rfl
  obtain ⟨fd3, G3⟩ := c.d.def_ 3 (d := d3) rfl
  have b3 := FunD.bindsN (ps := ["_law_error"]) G3 fun _ _ _ _ _ _ us hl => match us, hl with | [_], _ => rfl
  obtain ⟨fd4, G4⟩ := c.d.def_ 4 (d := d4) rfl
  have b4 := FunD.bindsN (ps := ["_law_script"]) G4 fun _ _ _ _ _ _ us hl => match us, hl with | [_], _ => rfl
  obtain ⟨fd5, G5⟩ := c.d.def_ 5 (d := d5) rfl
  have b5 := FunD.bindsN (ps := ["self"]) G5 fun _ _ _ _ _ _ us hl => match us, hl with | [_], _ => rfl
  obtain ⟨fd6, G6⟩ := c.d.def_ 6 (d := d6) rfl
  have b6 := FunD.bindsN (ps := ["self"]) G6 fun _ _ _ _ _ _ us hl => match us, hl with | [_], _ => rfl
  obtain ⟨fd7, G7⟩ := c.d.def_ 7 (d := d7) rfl
  have b7 := FunD.bindsN (ps := ["self"]) G7 fun _ _ _ _ _ _ us hl => match us, hl with | [_], _ => rfl
  obtain ⟨fd8, G8⟩ := c.d.def_ 8 (d := d8) rfl
  have b8 := FunD.bindsN (ps := ["self"]) G8 fun _ _ _ _ _ _ us hl => match us, hl with | [_], _ => rfl
  obtain ⟨fd9, G9⟩ := c.d.def_ 9 (d := d9) rfl
  have b9 := FunD.bindsN (ps := ["self"]) G9 fun _ _ _ _ _ _ us hl => match us, hl with | [_], _ => rfl
  obtain ⟨fd10, G10⟩ := c.d.def_ 10 (d := d10) rfl
  have b10 := FunD.bindsN (ps := ["self"]) G10 fun _ _ _ _ _ _ us hl => match us, hl with | [_], _ => rfl
  obtain ⟨fd11, G11⟩ := c.d.def_ 11 (d := d11) rfl
  have b11 := FunD.bindsN (ps := ["self"]) G11 fun _ _ _ _ _ _ us hl => match us, hl with | [_], _ => rfl
  obtain ⟨fd12, G12⟩ := c.d.def_ 12 (d := d12) rfl
  have b12 := FunD.bindsN (ps := ["self"]) G12 fun _ _ _ _ _ _ us hl => match us, hl with | [_], _ => rfl
  obtain ⟨fd13, G13⟩ := c.d.def_ 13 (d := d13) rfl
  have b13 := FunD.bindsN (ps := ["self"]) G13 fun _ _ _ _ _ _ us hl => match us, hl with | [_], _ => rfl
  obtain ⟨fd14, G14⟩ := c.d.def_ 14 (d := d14) rfl
  have b14 := FunD.bindsN (ps := ["self"]) G14 fun _ _ _ _ _ _ us hl => match us, hl with | [_], _ => rfl
  obtain ⟨fd15, G15⟩ := c.d.def_ 15 (d := d15) rfl
  have b15 := FunD.bindsN (ps := ["self"]) G15 fun _ _ _ _ _ _ us hl => match us, hl with | [_], _ => rfl
  obtain ⟨fd16, G16⟩ := c.d.def_ 16 (d := d16) rfl
  have b16 := FunD.bindsN (ps := ["self"]) G16 fun _ _ _ _ _ _ us hl => match us, hl with | [_], _ => rfl
  obtain ⟨fd17, G17⟩ := c.d.def_ 17 (d := d17) rfl
  have b17 := FunD.bindsN (ps := ["self"]) G17 fun _ _ _ _ _ _ us hl => match us, hl with | [_], _ => rfl
  obtain ⟨fd18, G18⟩ := c.d.def_ 18 (d := d18) rfl
  have b18 := FunD.bindsN (ps := ["self"]) G18 fun _ _ _ _ _ _ us hl => match us, hl with | [_], _ => rfl
  obtain ⟨fd19, G19⟩ := c.d.def_ 19 (d := d19) rfl
  have b19 := FunD.bindsN (ps := ["self"]) G19 fun _ _ _ _ _ _ us hl => match us, hl with | [_], _ => rfl
  obtain ⟨fd20, G20⟩ := c.d.def_ 20 (d := d20) rfl
  have b20 := FunD.bindsN (ps := ["self"]) G20 fun _ _ _ _ _ _ us hl => match us, hl with | [_], _ => rfl
  obtain ⟨fd21, G21⟩ := c.d.def_ 21 (d := d21) rfl
  have b21 := FunD.bindsN (ps := ["self"]) G21 fun _ _ _ _ _ _ us hl => match us, hl with | [_], _ => rfl
  obtain ⟨fd22, G22⟩ := c.d.def_ 22 (d := d22) rfl
  have b22 := FunD.bindsN (ps := ["self"]) G22 fun _ _ _ _ _ _ us hl => match us, hl with | [_], _ => rfl
  obtain ⟨fd23, G23⟩ := c.d.def_ 23 (d := d23) rfl
  have b23 := FunD.bindsN (ps := ["self"]) G23 fun _ _ _ _ _ _ us hl => match us, hl with | [_], _ => rfl
  have e := hfa.symm.trans (He.glo_ok X G (c.d.fact 31 (f := .glo "law") rfl))
  cases e
  have bl := FunD.bindsA (ps := ["_law_script"]) G4 fun _ _ _ _ _ _ us hl => match us, hl with | [_], _ => rfl
  refine ⟨fd4, fun s v => bl s [v] rfl, fun base _ _ => ?_⟩
  have MX_told_BadStream : MeX P w K mg base 1 "BadStream" "told" ["self"] (TF F_BadStream_told) := ⟨_, _, (fn_TZ G5 sc_BadStream_told tf_len (q_BadStream_told E0 ) (tf_sem (N := N_BadStream_told) (n := 1) (b := b_BadStream_told))), He.meth_ok (c.d.fact 32 (f := .meth "BadStream" "told") rfl), E0.xc_BadStream, b5⟩
  have MX_told_BadMember : MeX P w K mg base 1 "BadMember" "told" ["self"] (TF F_BadMember_told) := ⟨_, _, (fn_TZ G6 sc_BadMember_told tf_len (q_BadMember_told E0 ) (tf_sem (N := N_BadMember_told) (n := 1) (b := b_BadMember_told))), He.meth_ok (c.d.fact 33 (f := .meth "BadMember" "told") rfl), E0.xc_BadMember, b6⟩
  have MX_told_BadRow : MeX P w K mg base 1 "BadRow" "told" ["self"] (TF F_BadRow_told) := ⟨_, _, (fn_TZ G7 sc_BadRow_told tf_len (q_BadRow_told E0 ) (tf_sem (N := N_BadRow_told) (n := 1) (b := b_BadRow_told))), He.meth_ok (c.d.fact 34 (f := .meth "BadRow" "told") rfl), E0.xc_BadRow, b7⟩
  have MX_told_BadTrain : MeX P w K mg base 1 "BadTrain" "told" ["self"] (TF F_BadTrain_told) := ⟨_, _, (fn_TZ G8 sc_BadTrain_told tf_len (q_BadTrain_told E0 ) (tf_sem (N := N_BadTrain_told) (n := 1) (b := b_BadTrain_told))), He.meth_ok (c.d.fact 35 (f := .meth "BadTrain" "told") rfl), E0.xc_BadTrain, b8⟩
  have MX_told_NoEvent : MeX P w K mg base 1 "NoEvent" "told" ["self"] (TF F_NoEvent_told) := ⟨_, _, (fn_TZ G9 sc_NoEvent_told tf_len (q_NoEvent_told E0 ) (tf_sem (N := N_NoEvent_told) (n := 1) (b := b_NoEvent_told))), He.meth_ok (c.d.fact 36 (f := .meth "NoEvent" "told") rfl), E0.xc_NoEvent, b9⟩
  have MX_told_Large : MeX P w K mg base 1 "Large" "told" ["self"] (TF F_Large_told) := ⟨_, _, (fn_TZ G10 sc_Large_told tf_len (q_Large_told E0 ) (tf_sem (N := N_Large_told) (n := 1) (b := b_Large_told))), He.meth_ok (c.d.fact 37 (f := .meth "Large" "told") rfl), E0.xc_Large, b10⟩
  have MX_told_BadNumbers : MeX P w K mg base 1 "BadNumbers" "told" ["self"] (TF F_BadNumbers_told) := ⟨_, _, (fn_TZ G11 sc_BadNumbers_told tf_len (q_BadNumbers_told E0 ) (tf_sem (N := N_BadNumbers_told) (n := 1) (b := b_BadNumbers_told))), He.meth_ok (c.d.fact 38 (f := .meth "BadNumbers" "told") rfl), E0.xc_BadNumbers, b11⟩
  have MX_told_BadBus : MeX P w K mg base 1 "BadBus" "told" ["self"] (TF F_BadBus_told) := ⟨_, _, (fn_TZ G12 sc_BadBus_told tf_len (q_BadBus_told E0 ) (tf_sem (N := N_BadBus_told) (n := 1) (b := b_BadBus_told))), He.meth_ok (c.d.fact 39 (f := .meth "BadBus" "told") rfl), E0.xc_BadBus, b12⟩
  have MX_told_NoInput : MeX P w K mg base 1 "NoInput" "told" ["self"] (TF F_NoInput_told) := ⟨_, _, (fn_TZ G13 sc_NoInput_told tf_len (q_NoInput_told E0 ) (tf_sem (N := N_NoInput_told) (n := 1) (b := b_NoInput_told))), He.meth_ok (c.d.fact 40 (f := .meth "NoInput" "told") rfl), E0.xc_NoInput, b13⟩
  have MX_told_NotLater : MeX P w K mg base 1 "NotLater" "told" ["self"] (TF F_NotLater_told) := ⟨_, _, (fn_TZ G14 sc_NotLater_told tf_len (q_NotLater_told E0 ) (tf_sem (N := N_NotLater_told) (n := 1) (b := b_NotLater_told))), He.meth_ok (c.d.fact 41 (f := .meth "NotLater" "told") rfl), E0.xc_NotLater, b14⟩
  have MX_told_BadText : MeX P w K mg base 1 "BadText" "told" ["self"] (TF F_BadText_told) := ⟨_, _, (fn_TZ G15 sc_BadText_told tf_len (q_BadText_told E0 ) (tf_sem (N := N_BadText_told) (n := 1) (b := b_BadText_told))), He.meth_ok (c.d.fact 42 (f := .meth "BadText" "told") rfl), E0.xc_BadText, b15⟩
  have MX_told_BadForm : MeX P w K mg base 1 "BadForm" "told" ["self"] (TF F_BadForm_told) := ⟨_, _, (fn_TZ G16 sc_BadForm_told tf_len (q_BadForm_told E0 ) (tf_sem (N := N_BadForm_told) (n := 1) (b := b_BadForm_told))), He.meth_ok (c.d.fact 43 (f := .meth "BadForm" "told") rfl), E0.xc_BadForm, b16⟩
  have MX_told_Mixed : MeX P w K mg base 1 "Mixed" "told" ["self"] (TF F_Mixed_told) := ⟨_, _, (fn_TZ G17 sc_Mixed_told tf_len (q_Mixed_told E0 ) (tf_sem (N := N_Mixed_told) (n := 1) (b := b_Mixed_told))), He.meth_ok (c.d.fact 44 (f := .meth "Mixed" "told") rfl), E0.xc_Mixed, b17⟩
  have MX_told_NoQuestion : MeX P w K mg base 1 "NoQuestion" "told" ["self"] (TF F_NoQuestion_told) := ⟨_, _, (fn_TZ G18 sc_NoQuestion_told tf_len (q_NoQuestion_told E0 ) (tf_sem (N := N_NoQuestion_told) (n := 1) (b := b_NoQuestion_told))), He.meth_ok (c.d.fact 45 (f := .meth "NoQuestion" "told") rfl), E0.xc_NoQuestion, b18⟩
  have MX_told_Untrue : MeX P w K mg base 1 "Untrue" "told" ["self"] (TF F_Untrue_told) := ⟨_, _, (fn_TZ G19 sc_Untrue_told tf_len (q_Untrue_told E0 ) (tf_sem (N := N_Untrue_told) (n := 1) (b := b_Untrue_told))), He.meth_ok (c.d.fact 46 (f := .meth "Untrue" "told") rfl), E0.xc_Untrue, b19⟩
  have MX_told_NotKnown : MeX P w K mg base 1 "NotKnown" "told" ["self"] (TF F_NotKnown_told) := ⟨_, _, (fn_TZ G20 sc_NotKnown_told tf_len (q_NotKnown_told E0 ) (tf_sem (N := N_NotKnown_told) (n := 1) (b := b_NotKnown_told))), He.meth_ok (c.d.fact 47 (f := .meth "NotKnown" "told") rfl), E0.xc_NotKnown, b20⟩
  have MX_told_OtherInputs : MeX P w K mg base 1 "OtherInputs" "told" ["self"] (TF F_OtherInputs_told) := ⟨_, _, (fn_TZ G21 sc_OtherInputs_told tf_len (q_OtherInputs_told E0 ) (tf_sem (N := N_OtherInputs_told) (n := 1) (b := b_OtherInputs_told))), He.meth_ok (c.d.fact 48 (f := .meth "OtherInputs" "told") rfl), E0.xc_OtherInputs, b21⟩
  have MX_told_NoBack : MeX P w K mg base 1 "NoBack" "told" ["self"] (TF F_NoBack_told) := ⟨_, _, (fn_TZ G22 sc_NoBack_told tf_len (q_NoBack_told E0 ) (tf_sem (N := N_NoBack_told) (n := 1) (b := b_NoBack_told))), He.meth_ok (c.d.fact 49 (f := .meth "NoBack" "told") rfl), E0.xc_NoBack, b22⟩
  have MX_told_NoName : MeX P w K mg base 1 "NoName" "told" ["self"] (TF F_NoName_told) := ⟨_, _, (fn_TZ G23 sc_NoName_told tf_len (q_NoName_told E0 ) (tf_sem (N := N_NoName_told) (n := 1) (b := b_NoName_told))), He.meth_ok (c.d.fact 50 (f := .meth "NoName" "told") rfl), E0.xc_NoName, b23⟩
  have MX_told_BadStream_BadMember_BadRow_BadTrain_NoEvent_Large_BadNumbers_BadBus_NoInput_NotLater_BadText_BadForm_Mixed_NoQuestion_Untrue_NotKnown_OtherInputs_NoBack_NoName : ∀ q ∈ TFs [("BadStream", F_BadStream_told), ("BadMember", F_BadMember_told), ("BadRow", F_BadRow_told), ("BadTrain", F_BadTrain_told), ("NoEvent", F_NoEvent_told), ("Large", F_Large_told), ("BadNumbers", F_BadNumbers_told), ("BadBus", F_BadBus_told), ("NoInput", F_NoInput_told), ("NotLater", F_NotLater_told), ("BadText", F_BadText_told), ("BadForm", F_BadForm_told), ("Mixed", F_Mixed_told), ("NoQuestion", F_NoQuestion_told), ("Untrue", F_Untrue_told), ("NotKnown", F_NotKnown_told), ("OtherInputs", F_OtherInputs_told), ("NoBack", F_NoBack_told), ("NoName", F_NoName_told)], MeX P w K mg base 1 q.1 "told" ["self"] q.2 := fun q hq => by
    simp only [TFs, List.map_cons, List.map_nil, List.mem_cons, List.not_mem_nil, or_false] at hq
    rcases hq with rfl | rfl | rfl | rfl | rfl | rfl | rfl | rfl | rfl | rfl | rfl | rfl | rfl | rfl | rfl | rfl | rfl | rfl | rfl
    · exact MX_told_BadStream
    · exact MX_told_BadMember
    · exact MX_told_BadRow
    · exact MX_told_BadTrain
    · exact MX_told_NoEvent
    · exact MX_told_Large
    · exact MX_told_BadNumbers
    · exact MX_told_BadBus
    · exact MX_told_NoInput
    · exact MX_told_NotLater
    · exact MX_told_BadText
    · exact MX_told_BadForm
    · exact MX_told_Mixed
    · exact MX_told_NoQuestion
    · exact MX_told_Untrue
    · exact MX_told_NotKnown
    · exact MX_told_OtherInputs
    · exact MX_told_NoBack
    · exact MX_told_NoName
  have H__law_classes : FnT P w K mg base 1 "_law_classes" ["_law_error"] (TF F__law_classes) := ⟨_, _, (fn_T G2 sc__law_classes tf_len (q__law_classes E0 ) (tf_sem (N := N__law_classes) (n := 1) (b := b__law_classes))), He.glo_ok X G (c.d.fact 29 (f := .glo "_law_classes") rfl), G2.kp, b2⟩
  have H__law_digit : FnT P w K mg base 1 "_law_digit" ["_law_state_here", "_law_base"] (TF F__law_digit) := ⟨_, _, (fn_T G1 sc__law_digit tf_len (q__law_digit E0 ) (tf_sem (N := N__law_digit) (n := 2) (b := b__law_digit))), He.glo_ok X G (c.d.fact 28 (f := .glo "_law_digit") rfl), G1.kp, b1⟩
  have H__law_field : FnT P w K mg base 1 "_law_field" ["_law_error"] (TF F__law_field) := ⟨_, _, (fn_T G3 sc__law_field tf_len (q__law_field E0 ) (tf_sem (N := N__law_field) (n := 1) (b := b__law_field))), He.glo_ok X G (c.d.fact 30 (f := .glo "_law_field") rfl), G3.kp, b3⟩
  have H__law_state : FnT P w K mg base 1 "_law_state" ["_law_source"] (TF F__law_state) := ⟨_, _, (fn_T G0 sc__law_state tf_len (q__law_state E0 ) (tf_sem (N := N__law_state) (n := 1) (b := b__law_state))), He.glo_ok X G (c.d.fact 27 (f := .glo "_law_state") rfl), G0.kp, b0⟩
  exact (fn_T G4 sc_law len_law (q_law E0 MX_told_BadStream_BadMember_BadRow_BadTrain_NoEvent_Large_BadNumbers_BadBus_NoInput_NotLater_BadText_BadForm_Mixed_NoQuestion_Untrue_NotKnown_OtherInputs_NoBack_NoName H__law_classes H__law_digit H__law_field H__law_state) s_law)
end Law
open PySem PySem.W PySem.Calls PyProof.Rows
set_option maxRecDepth 100000 in
set_option maxHeartbeats 0 in
theorem PySem.Challenge.cw_quietrows_k01_errors_holds : PySem.Challenge.rw_quietrows_k01_errors.Holds := by
  w_on; o_law
  refine HandSHeadRun.head_any (r := OpenLaw.row PySem.Challenge.rw_quietrows_k01_errors) (q := view (OpenLaw.row PySem.Challenge.rw_quietrows_k01_errors).prog [27]) (H := Law.hk) (ob := Law.ob) (M := 8000) (loose := Law.names) (d := HandSHeadRun.topDef (OpenLaw.row PySem.Challenge.rw_quietrows_k01_errors).prog 27) (kwd := []) Law.ob_eq
    (by kernel_rfl) (fun s => by kernel_rfl) Law.run (by kernel_rfl) (by kernel_rfl) (by kernel_rfl) (by rfl) (by first | assumption | decide +kernel) (by decide +kernel) ⟨rfl, rfl, rfl, rfl, rfl, by decide +kernel⟩ ?hw ?hc
  case hw => w_witness2
  case hc =>
    refine Att.attach_call (l := PySem.Challenge.rw_quietrows_k01_errors) (n := 63) rfl (by kernel_rfl) fun w sa sb mg mb fa o pm cd doc a vs ns GG Y q1 q2 q3 hmg0 hobj hints hlen hgens => ?_
    obtain ⟨K, KX, c⟩ := Y
    have hmg : mg ("law" : PySem.Str) = some (.ref fa) := by
      have e : (HandSHeadRun.topDef (OpenLaw.row PySem.Challenge.rw_quietrows_k01_errors).prog 27).name = ("law" : PySem.Str) := by kernel_rfl
      rw [← e]
      exact hmg0
    obtain ⟨fd, hbind, hF⟩ := Law.facts (P := (PySem.Challenge.rw_quietrows_k01_errors).prog) (w := w) KX GG.T.g hmg c
    exact L2.law_call (x := "_law_script") KX GG.T.g GG.T.b GG.T.builtins GG.T.nolimit hgens hobj hints (Nat.le_trans hlen (by decide)) ⟨rfl, by decide, by decide⟩ hF hbind (fun H _ hS => TL.law_sp hlen hS) fun H e s' z => TL.cx_false H sb e s' z
