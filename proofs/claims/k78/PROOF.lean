import PyProof.Rows.All
import Wide.All
import OpenK.AllK
import Wide.FinOn
import HandS.ForMost
import HandS.ForExc
import HandS.IsInst
import HandS.Wide
import HandS.Flow
import HandS.ExcField
import HandS.HeadHook2
import HandS.Conv
import KE.KIsAll
import HandS.NoneIn
import KE.GoesMore
import KE.GoesEnum
import KE.KStateDown
import Lean
import HandS.Ends
import HandS.More
import HandS.Head0
import HandS.Head1
import HandS.Head2
import HandS.HeadEnd
import HandS.TryOnly
import HandS.TupAny
import HandS.Zip
import HandS.Deep
import HandS.Style
import HandS.OwnEq
import PyProof.InstNe
import HandS.Small
import HandS.TupLe
import KE.DataCmp
import HandS.Iter
import HandS.Defaults
import KE.KTupSum
import HandS.WideBits
import PyProof.ListMulAny
import PyProof.MaxThree
import PySem.Challenge.RW_quietrows_k78_texts_written_and_read
set_option Elab.async false
set_option linter.all false
set_option maxRecDepth 100000
set_option maxHeartbeats 4000000
namespace TL
open PySem PySem.W PySem.Spec L2
structure CI where
  name : Str
  fields : List Str
  anc : List Str
def bts : List String := ["NoneType", "bool", "int", "str", "list", "tuple", "dict"]
def bsub (t u : String) : Bool := t == u || (t == "bool" && u == "int")
def insB (K : PySem.W.Frag) (C : Addr) : Bool := decide (PySem.W.findIn K (.ref C) "__class__" = some (some (.builtin "object.__class__"))) && (decide (PySem.W.specialIn K (.builtin "object.__class__") "__get__" = some (some (.builtin "getset_descriptor.__get__"))) &&
  (decide (PySem.W.takesIn K (.builtin "object.__class__") = some true) && decide (PySem.W.mroIn K C (.type "object") = some true)))
def ctB (K : PySem.W.Frag) (tb : List CI) (ks : List Str) : Bool :=
  (tb.all fun c => (He.Fa.cls c.name).ok K && (insB K (He.ga K c.name) && ((c.fields.all fun f => (He.Fa.noat c.name f).ok K) && ((ks.all fun k => decide (PySem.W.kitOne K (.ref (He.ga K c.name)) (.ref (He.ga K k)) = some (c.anc.contains k))) &&
    (bts.all fun t => decide (PySem.W.kitOne K (.ref (He.ga K c.name)) (.type t) = some false)))))) &&
  ((bts.all fun t => ks.all fun k => decide (PySem.W.kitOne K (.type t) (.ref (He.ga K k)) = some false)) && (bts.all fun t => bts.all fun u => decide (PySem.W.kitOne K (.type t) (.type u) = some (bsub t u))))
structure XI where
  name : Str
  anc : List Str
def xmB (K : PySem.W.Frag) (xt : List XI) (hs : List Str) (xf : List (Str × Str)) : Bool :=
  (xt.all fun k => hs.all fun h => decide (PySem.W.exmOne K (.ref (He.ga K k.name)) (.ref (He.ga K h)) = some (k.anc.contains h))) &&
  (xf.all fun q => xfB K (He.ga K q.1) && decide (PySem.W.findIn K (.ref (He.ga K q.1)) q.2 = some none))
def exclB (K : PySem.W.Frag) (C : Addr) : Bool := match K.lookup C with
  | some ⟨c, _, .cls cd, sl⟩ => decide (c = .type "type") && (cd.hasDict && (!cd.hasDel && ((match cd.mro with
    | m :: bm => decide (m = .ref C) && PySem.HandSPX.refsVE bm
    | [] => false) && (match sl.toList with
    | [_, _, _, _, k4, _] => decide (k4 = some (.builtin "ValueError.__new__"))
    | _ => false))))
  | _ => false
def xcB (K : PySem.W.Frag) (cn f : Str) : Bool := exclB K (He.ga K cn) && (decide (findIn K (.ref (He.ga K cn)) "__setattr__" = some (some (.builtin "object.__setattr__"))) && (decide (findIn K (.ref (He.ga K cn)) "__getattribute__" = some (some (.builtin "BaseException.__getattribute__"))) &&
  (decide (findIn K (.ref (He.ga K cn)) "__getattr__" = some none) && (decide (findIn K (.ref (He.ga K cn)) f = some none) && (decide (findIn K (.ref (He.ga K cn)) "__init__" = some (some (.ref (He.ma K (He.ga K cn) "__init__")))) && (decide (typeIn K (.ref (He.ma K (He.ga K cn) "__init__")) = some (.type "function")) &&
  (keepIn K (.ref (He.ga K cn)) && (decide (subIn K (.ref (He.ga K cn)) (.type "BaseException") = some true) && (decide (typeIn K (.ref (He.ga K cn)) = some (.type "type")) && hasDictIn K (He.ga K cn))))))))))
def x0B (K : PySem.W.Frag) (cn : Str) : Bool := (He.Fa.exc cn).ok K
def djB (K : PySem.W.Frag) (CL : List Str) : Bool := CL.all fun c => CL.all fun c' => c == c' || He.ga K c != He.ga K c'
def nfB (K : PySem.W.Frag) (tb : List CI) (cs : List Str) : Bool :=
  cs.all fun c => (bts.all fun t => PySem.W.notFirst K (He.ga K c) (.type t)) && (tb.all fun c' => PySem.W.notFirst K (He.ga K c) (.ref (He.ga K c'.name)))
def neB (K : PySem.W.Frag) (cs : List Str) : Bool := cs.all fun c => decide (PySem.W.findIn K (.ref (He.ga K c)) "__ne__" = some (some (.builtin "object.__ne__"))) && decide (PySem.W.mroIn K (He.ga K c) (.type "object") = some true)
def oqB (K : PySem.W.Frag) (tb : List CI) (cs : List Str) : Bool := djB K cs && (nfB K tb cs && neB K cs)
abbrev AlX : Type := He.AlD × Bool
structure SaysX (fa : List He.Fa) (fn : List He.DefD) (ex : PySem.W.Frag → Bool) (K : PySem.W.Frag) : Prop where
  d : He.SaysD fa fn K
  e : ex K = true
def obsL (as : List Addr) (fa : List He.Fa) (fn : List He.DefD) (ex : PySem.W.Frag → Bool) (g : Addr → Option Obj) : AlX := (He.obsD fa fn (He.frG g as), ex (He.frG g as))
def hookL (as : List Addr) (fa : List He.Fa) (fn : List He.DefD) (ex : PySem.W.Frag → Bool) : PySem.W.Hook where
  α := AlX
  obs := fun s => obsL as fa fn ex s.heap.get?
  val := fun _ => (He.valD fn, true)
  says := fun _ h => ∃ K : PySem.W.Frag, K.In h ∧ SaysX fa fn ex K
  of := fun _ _ e => ⟨_, He.frG_in, ⟨congrArg Prod.fst e, congrArg Prod.snd e⟩⟩
  keeps := fun _ _ _ ⟨K, hK, c⟩ k => ⟨K, PySem.W.Frag.In.keeps hK k, c⟩
theorem obsL_eq {as : List Addr} {fa : List He.Fa} {fn : List He.DefD} {ex : PySem.W.Frag → Bool} {g : Addr → Option Obj} {s : Shared} (h : ∀ a, g a = s.heap.get? a) : obsL as fa fn ex g = (hookL as fa fn ex).obs s := by
  have e : g = s.heap.get? := funext h
  rw [e] <;> rfl
end TL
namespace Law
open PySem PySem.Spec L2 TL
def tb : List CI := [⟨"Member", ["q"], ["Member", "Thing"]⟩, ⟨"Last", ["q"], ["Last", "Member", "Thing"]⟩, ⟨"First", ["q"], ["First", "Member", "Thing"]⟩, ⟨"Limit", ["q"], ["Limit", "Member", "Thing"]⟩, ⟨"Delay", ["d"], ["Delay", "Thing"]⟩, ⟨"Row", ["members"], ["Row", "Thing"]⟩, ⟨"Bus", ["steps"], ["Bus", "Thing"]⟩, ⟨"Train", ["first", "head", "block", "rounds", "end"], ["Train", "Thing"]⟩]
def ks : List Str := ["Thing", "Last", "First", "Limit", "Delay"]
def eq0 : List Str := ["Last", "First", "Limit", "Delay"]
def eq1 : List Str := ["Last", "First", "Limit", "Delay", "Row", "Bus", "Train"]
def top (i : Nat) : Stmt := PySem.Challenge.pw_quietrows_k78_texts_written_and_read.main.body.getD i (.Pass ⟨0, 0, 0, 0⟩)
abbrev st__law_state : Stmt := top 54
abbrev st_is_member : Stmt := top 19
abbrev st_Row___init__ : Stmt := inClass (top 21) 0
abbrev st_Member_facts : Stmt := inClass (top 14) 1
abbrev st_Delay_facts : Stmt := inClass (top 18) 2
abbrev st_Last_class_name : Stmt := inClass (top 15) 0
abbrev st_First_class_name : Stmt := inClass (top 16) 0
abbrev st_Limit_class_name : Stmt := inClass (top 17) 0
abbrev st_Delay_class_name : Stmt := inClass (top 18) 1
abbrev st_Thing___eq___0 : Stmt := inClass (top 10) 2
abbrev st_Row_facts : Stmt := inClass (top 21) 2
abbrev st_Bus_facts : Stmt := inClass (top 26) 2
abbrev st_Train_facts : Stmt := inClass (top 29) 2
abbrev st_Row_class_name : Stmt := inClass (top 21) 1
abbrev st_Bus_class_name : Stmt := inClass (top 26) 1
abbrev st_Train_class_name : Stmt := inClass (top 29) 1
abbrev st_Thing___eq___1 : Stmt := inClass (top 10) 2
abbrev st__law_digit : Stmt := top 55
abbrev st_member_text : Stmt := top 39
abbrev st_row_text : Stmt := top 42
abbrev st_is_number : Stmt := top 11
abbrev st_check_stream : Stmt := top 13
abbrev st_stream_text : Stmt := top 46
abbrev st_bus_text : Stmt := top 44
abbrev st_gaps_text : Stmt := top 49
abbrev st_train_text : Stmt := top 50
abbrev st_check_string : Stmt := top 38
abbrev st_is_figures : Stmt := top 36
abbrev st_read_number : Stmt := top 37
abbrev st_pair_from : Stmt := top 40
abbrev st_Member___init__ : Stmt := inClass (top 14) 0
abbrev st_Delay___init__ : Stmt := inClass (top 18) 0
abbrev st_member_from : Stmt := top 41
abbrev st_read_row : Stmt := top 43
abbrev st_is_name : Stmt := top 25
abbrev st_Bus___init__ : Stmt := inClass (top 26) 0
abbrev st_are_gaps : Stmt := top 28
abbrev st_Train___init__ : Stmt := inClass (top 29) 0
abbrev st__law_spoken : Stmt := top 64
abbrev st_numbers_from : Stmt := top 47
abbrev st_read_stream : Stmt := top 48
abbrev st__law_long_right : Stmt := top 69
abbrev st__law_kinds : Stmt := top 56
abbrev st__law_members : Stmt := top 57
abbrev st__law_steps : Stmt := top 61
abbrev st__law_made : Stmt := top 58
abbrev st__law_bus : Stmt := top 62
abbrev st__law_steps_text : Stmt := top 66
abbrev st_read_bus : Stmt := top 45
abbrev st__law_members_text : Stmt := top 65
abbrev st__law_rows_right : Stmt := top 67
abbrev st__law_stream : Stmt := top 59
abbrev st__law_gaps : Stmt := top 63
abbrev st_read_train : Stmt := top 51
abbrev st__law_streams_right : Stmt := top 68
abbrev st_law : Stmt := top 70
def d0 : He.DefD := ⟨("_law_state", none), "_law_state", "_law_state", defArgs st__law_state, defBody st__law_state, defScope st__law_state, [], []⟩
def d1 : He.DefD := ⟨("is_member", none), "is_member", "is_member", defArgs st_is_member, defBody st_is_member, defScope st_is_member, [], []⟩
def d2 : He.DefD := ⟨("_law_digit", none), "_law_digit", "_law_digit", defArgs st__law_digit, defBody st__law_digit, defScope st__law_digit, [], []⟩
def d3 : He.DefD := ⟨("member_text", none), "member_text", "member_text", defArgs st_member_text, defBody st_member_text, defScope st_member_text, [], []⟩
def d4 : He.DefD := ⟨("row_text", none), "row_text", "row_text", defArgs st_row_text, defBody st_row_text, defScope st_row_text, [], []⟩
def d5 : He.DefD := ⟨("is_number", none), "is_number", "is_number", defArgs st_is_number, defBody st_is_number, defScope st_is_number, [], []⟩
def d6 : He.DefD := ⟨("check_stream", none), "check_stream", "check_stream", defArgs st_check_stream, defBody st_check_stream, defScope st_check_stream, [], []⟩
def d7 : He.DefD := ⟨("stream_text", none), "stream_text", "stream_text", defArgs st_stream_text, defBody st_stream_text, defScope st_stream_text, [], []⟩
def d8 : He.DefD := ⟨("bus_text", none), "bus_text", "bus_text", defArgs st_bus_text, defBody st_bus_text, defScope st_bus_text, [], []⟩
def d9 : He.DefD := ⟨("gaps_text", none), "gaps_text", "gaps_text", defArgs st_gaps_text, defBody st_gaps_text, defScope st_gaps_text, [], []⟩
def d10 : He.DefD := ⟨("train_text", none), "train_text", "train_text", defArgs st_train_text, defBody st_train_text, defScope st_train_text, [], []⟩
def d11 : He.DefD := ⟨("check_string", none), "check_string", "check_string", defArgs st_check_string, defBody st_check_string, defScope st_check_string, [], []⟩
def d12 : He.DefD := ⟨("is_figures", none), "is_figures", "is_figures", defArgs st_is_figures, defBody st_is_figures, defScope st_is_figures, [], []⟩
def d13 : He.DefD := ⟨("read_number", none), "read_number", "read_number", defArgs st_read_number, defBody st_read_number, defScope st_read_number, [], []⟩
def d14 : He.DefD := ⟨("pair_from", none), "pair_from", "pair_from", defArgs st_pair_from, defBody st_pair_from, defScope st_pair_from, [], []⟩
def d15 : He.DefD := ⟨("member_from", none), "member_from", "member_from", defArgs st_member_from, defBody st_member_from, defScope st_member_from, [], []⟩
def d16 : He.DefD := ⟨("read_row", none), "read_row", "read_row", defArgs st_read_row, defBody st_read_row, defScope st_read_row, [], []⟩
def d17 : He.DefD := ⟨("is_name", none), "is_name", "is_name", defArgs st_is_name, defBody st_is_name, defScope st_is_name, [], []⟩
def d18 : He.DefD := ⟨("are_gaps", none), "are_gaps", "are_gaps", defArgs st_are_gaps, defBody st_are_gaps, defScope st_are_gaps, [], []⟩
def d19 : He.DefD := ⟨("_law_spoken", none), "_law_spoken", "_law_spoken", defArgs st__law_spoken, defBody st__law_spoken, defScope st__law_spoken, [], []⟩
def d20 : He.DefD := ⟨("numbers_from", none), "numbers_from", "numbers_from", defArgs st_numbers_from, defBody st_numbers_from, defScope st_numbers_from, [], []⟩
def d21 : He.DefD := ⟨("read_stream", none), "read_stream", "read_stream", defArgs st_read_stream, defBody st_read_stream, defScope st_read_stream, [], []⟩
def d22 : He.DefD := ⟨("_law_long_right", none), "_law_long_right", "_law_long_right", defArgs st__law_long_right, defBody st__law_long_right, defScope st__law_long_right, [], []⟩
def d23 : He.DefD := ⟨("_law_kinds", none), "_law_kinds", "_law_kinds", defArgs st__law_kinds, defBody st__law_kinds, defScope st__law_kinds, [], []⟩
def d24 : He.DefD := ⟨("_law_members", none), "_law_members", "_law_members", defArgs st__law_members, defBody st__law_members, defScope st__law_members, [], []⟩
def d25 : He.DefD := ⟨("_law_steps", none), "_law_steps", "_law_steps", defArgs st__law_steps, defBody st__law_steps, defScope st__law_steps, [], []⟩
def d26 : He.DefD := ⟨("_law_made", none), "_law_made", "_law_made", defArgs st__law_made, defBody st__law_made, defScope st__law_made, [], []⟩
def d27 : He.DefD := ⟨("_law_bus", none), "_law_bus", "_law_bus", defArgs st__law_bus, defBody st__law_bus, defScope st__law_bus, [], []⟩
def d28 : He.DefD := ⟨("_law_steps_text", none), "_law_steps_text", "_law_steps_text", defArgs st__law_steps_text, defBody st__law_steps_text, defScope st__law_steps_text, [], []⟩
def d29 : He.DefD := ⟨("read_bus", none), "read_bus", "read_bus", defArgs st_read_bus, defBody st_read_bus, defScope st_read_bus, [], []⟩
def d30 : He.DefD := ⟨("_law_members_text", none), "_law_members_text", "_law_members_text", defArgs st__law_members_text, defBody st__law_members_text, defScope st__law_members_text, [], []⟩
def d31 : He.DefD := ⟨("_law_rows_right", none), "_law_rows_right", "_law_rows_right", defArgs st__law_rows_right, defBody st__law_rows_right, defScope st__law_rows_right, [], []⟩
def d32 : He.DefD := ⟨("_law_stream", none), "_law_stream", "_law_stream", defArgs st__law_stream, defBody st__law_stream, defScope st__law_stream, [], []⟩
def d33 : He.DefD := ⟨("_law_gaps", none), "_law_gaps", "_law_gaps", defArgs st__law_gaps, defBody st__law_gaps, defScope st__law_gaps, [], []⟩
def d34 : He.DefD := ⟨("read_train", none), "read_train", "read_train", defArgs st_read_train, defBody st_read_train, defScope st_read_train, [], []⟩
def d35 : He.DefD := ⟨("_law_streams_right", none), "_law_streams_right", "_law_streams_right", defArgs st__law_streams_right, defBody st__law_streams_right, defScope st__law_streams_right, [], []⟩
def d36 : He.DefD := ⟨("law", none), "law", "law", defArgs st_law, defBody st_law, defScope st_law, [], []⟩
def d37 : He.DefD := ⟨("Bus", some "__init__"), "__init__", "Bus.__init__", defArgs st_Bus___init__, defBody st_Bus___init__, defScope st_Bus___init__, [], []⟩
def d38 : He.DefD := ⟨("Delay", some "__init__"), "__init__", "Delay.__init__", defArgs st_Delay___init__, defBody st_Delay___init__, defScope st_Delay___init__, [], []⟩
def d39 : He.DefD := ⟨("First", some "__init__"), "__init__", "Member.__init__", defArgs st_Member___init__, defBody st_Member___init__, defScope st_Member___init__, [], []⟩
def d40 : He.DefD := ⟨("Last", some "__init__"), "__init__", "Member.__init__", defArgs st_Member___init__, defBody st_Member___init__, defScope st_Member___init__, [], []⟩
def d41 : He.DefD := ⟨("Limit", some "__init__"), "__init__", "Member.__init__", defArgs st_Member___init__, defBody st_Member___init__, defScope st_Member___init__, [], []⟩
def d42 : He.DefD := ⟨("Row", some "__init__"), "__init__", "Row.__init__", defArgs st_Row___init__, defBody st_Row___init__, defScope st_Row___init__, [], []⟩
def d43 : He.DefD := ⟨("Train", some "__init__"), "__init__", "Train.__init__", defArgs st_Train___init__, defBody st_Train___init__, defScope st_Train___init__, [], []⟩
def d44 : He.DefD := ⟨("Last", some "__eq__"), "__eq__", "Thing.__eq__", defArgs st_Thing___eq___0, defBody st_Thing___eq___0, defScope st_Thing___eq___0, [], []⟩
def d45 : He.DefD := ⟨("First", some "__eq__"), "__eq__", "Thing.__eq__", defArgs st_Thing___eq___0, defBody st_Thing___eq___0, defScope st_Thing___eq___0, [], []⟩
def d46 : He.DefD := ⟨("Limit", some "__eq__"), "__eq__", "Thing.__eq__", defArgs st_Thing___eq___0, defBody st_Thing___eq___0, defScope st_Thing___eq___0, [], []⟩
def d47 : He.DefD := ⟨("Delay", some "__eq__"), "__eq__", "Thing.__eq__", defArgs st_Thing___eq___0, defBody st_Thing___eq___0, defScope st_Thing___eq___0, [], []⟩
def d48 : He.DefD := ⟨("Last", some "__eq__"), "__eq__", "Thing.__eq__", defArgs st_Thing___eq___1, defBody st_Thing___eq___1, defScope st_Thing___eq___1, [], []⟩
def d49 : He.DefD := ⟨("First", some "__eq__"), "__eq__", "Thing.__eq__", defArgs st_Thing___eq___1, defBody st_Thing___eq___1, defScope st_Thing___eq___1, [], []⟩
def d50 : He.DefD := ⟨("Limit", some "__eq__"), "__eq__", "Thing.__eq__", defArgs st_Thing___eq___1, defBody st_Thing___eq___1, defScope st_Thing___eq___1, [], []⟩
def d51 : He.DefD := ⟨("Delay", some "__eq__"), "__eq__", "Thing.__eq__", defArgs st_Thing___eq___1, defBody st_Thing___eq___1, defScope st_Thing___eq___1, [], []⟩
def d52 : He.DefD := ⟨("Row", some "__eq__"), "__eq__", "Thing.__eq__", defArgs st_Thing___eq___1, defBody st_Thing___eq___1, defScope st_Thing___eq___1, [], []⟩
def d53 : He.DefD := ⟨("Bus", some "__eq__"), "__eq__", "Thing.__eq__", defArgs st_Thing___eq___1, defBody st_Thing___eq___1, defScope st_Thing___eq___1, [], []⟩
def d54 : He.DefD := ⟨("Train", some "__eq__"), "__eq__", "Thing.__eq__", defArgs st_Thing___eq___1, defBody st_Thing___eq___1, defScope st_Thing___eq___1, [], []⟩
def d55 : He.DefD := ⟨("Last", some "class_name"), "class_name", "Last.class_name", defArgs st_Last_class_name, defBody st_Last_class_name, defScope st_Last_class_name, [], []⟩
def d56 : He.DefD := ⟨("First", some "class_name"), "class_name", "First.class_name", defArgs st_First_class_name, defBody st_First_class_name, defScope st_First_class_name, [], []⟩
def d57 : He.DefD := ⟨("Limit", some "class_name"), "class_name", "Limit.class_name", defArgs st_Limit_class_name, defBody st_Limit_class_name, defScope st_Limit_class_name, [], []⟩
def d58 : He.DefD := ⟨("Delay", some "class_name"), "class_name", "Delay.class_name", defArgs st_Delay_class_name, defBody st_Delay_class_name, defScope st_Delay_class_name, [], []⟩
def d59 : He.DefD := ⟨("Row", some "class_name"), "class_name", "Row.class_name", defArgs st_Row_class_name, defBody st_Row_class_name, defScope st_Row_class_name, [], []⟩
def d60 : He.DefD := ⟨("Bus", some "class_name"), "class_name", "Bus.class_name", defArgs st_Bus_class_name, defBody st_Bus_class_name, defScope st_Bus_class_name, [], []⟩
def d61 : He.DefD := ⟨("Train", some "class_name"), "class_name", "Train.class_name", defArgs st_Train_class_name, defBody st_Train_class_name, defScope st_Train_class_name, [], []⟩
def d62 : He.DefD := ⟨("Last", some "facts"), "facts", "Member.facts", defArgs st_Member_facts, defBody st_Member_facts, defScope st_Member_facts, [], []⟩
def d63 : He.DefD := ⟨("First", some "facts"), "facts", "Member.facts", defArgs st_Member_facts, defBody st_Member_facts, defScope st_Member_facts, [], []⟩
def d64 : He.DefD := ⟨("Limit", some "facts"), "facts", "Member.facts", defArgs st_Member_facts, defBody st_Member_facts, defScope st_Member_facts, [], []⟩
def d65 : He.DefD := ⟨("Delay", some "facts"), "facts", "Delay.facts", defArgs st_Delay_facts, defBody st_Delay_facts, defScope st_Delay_facts, [], []⟩
def d66 : He.DefD := ⟨("Row", some "facts"), "facts", "Row.facts", defArgs st_Row_facts, defBody st_Row_facts, defScope st_Row_facts, [], []⟩
def d67 : He.DefD := ⟨("Bus", some "facts"), "facts", "Bus.facts", defArgs st_Bus_facts, defBody st_Bus_facts, defScope st_Bus_facts, [], []⟩
def d68 : He.DefD := ⟨("Train", some "facts"), "facts", "Train.facts", defArgs st_Train_facts, defBody st_Train_facts, defScope st_Train_facts, [], []⟩
def d69 : He.DefD := ⟨("BadBus", some "__init__"), "__init__", "BadBus.__init__", defArgs (inClass (top 7) 0), defBody (inClass (top 7) 0), defScope (inClass (top 7) 0), [], []⟩
def d70 : He.DefD := ⟨("BadMember", some "__init__"), "__init__", "BadMember.__init__", defArgs (inClass (top 4) 0), defBody (inClass (top 4) 0), defScope (inClass (top 4) 0), [], []⟩
def d71 : He.DefD := ⟨("BadRow", some "__init__"), "__init__", "BadRow.__init__", defArgs (inClass (top 5) 0), defBody (inClass (top 5) 0), defScope (inClass (top 5) 0), [], []⟩
def d72 : He.DefD := ⟨("BadStream", some "__init__"), "__init__", "BadStream.__init__", defArgs (inClass (top 3) 0), defBody (inClass (top 3) 0), defScope (inClass (top 3) 0), [], []⟩
def d73 : He.DefD := ⟨("BadText", some "__init__"), "__init__", "BadText.__init__", defArgs (inClass (top 8) 0), defBody (inClass (top 8) 0), defScope (inClass (top 8) 0), [], []⟩
def d74 : He.DefD := ⟨("BadTrain", some "__init__"), "__init__", "BadTrain.__init__", defArgs (inClass (top 6) 0), defBody (inClass (top 6) 0), defScope (inClass (top 6) 0), [], []⟩
def fn : List He.DefD := [d0, d1, d2, d3, d4, d5, d6, d7, d8, d9, d10, d11, d12, d13, d14, d15, d16, d17, d18, d19, d20, d21, d22, d23, d24, d25, d26, d27, d28, d29, d30, d31, d32, d33, d34, d35, d36, d37, d38, d39, d40, d41, d42, d43, d44, d45, d46, d47, d48, d49, d50, d51, d52, d53, d54, d55, d56, d57, d58, d59, d60, d61, d62, d63, d64, d65, d66, d67, d68, d69, d70, d71, d72, d73, d74]
def fa : List He.Fa := [.free "abs", .free "all", .free "bool", .free "enumerate", .free "int", .free "isinstance", .free "len", .free "list", .free "min", .free "range", .free "str", .free "tuple", .glo "Bus", .glo "Delay", .glo "First", .glo "Last", .glo "Limit", .glo "Row", .glo "Thing", .glo "Train", .glo "_law_state", .glo "is_member", .glo "_law_digit", .glo "member_text", .glo "row_text", .glo "is_number", .glo "check_stream", .glo "stream_text", .glo "bus_text", .glo "gaps_text", .glo "train_text", .glo "check_string", .glo "is_figures", .glo "read_number", .glo "pair_from", .glo "member_from", .glo "read_row", .glo "is_name", .glo "are_gaps", .glo "_law_spoken", .glo "numbers_from", .glo "read_stream", .glo "_law_long_right", .glo "_law_kinds", .glo "_law_members", .glo "_law_steps", .glo "_law_made", .glo "_law_bus", .glo "_law_steps_text", .glo "read_bus", .glo "_law_members_text", .glo "_law_rows_right", .glo "_law_stream", .glo "_law_gaps", .glo "read_train", .glo "_law_streams_right", .glo "law", .str "LETTERS" "abcdefghijklmnopqrstuvwxyz", .int "MOST_LETTERS" 8, .str "FIGURES" "0123456789", .int "MOST_FIGURES" 60, .str "ALL" "all", .str "NONE" "none", .int "PARTS" 5, .mkr "Bus", .mkr "Delay", .mkr "First", .mkr "Last", .mkr "Limit", .mkr "Row", .mkr "Train", .meth "Last" "__eq__", .cls "Last", .meth "First" "__eq__", .cls "First", .meth "Limit" "__eq__", .cls "Limit", .meth "Delay" "__eq__", .cls "Delay", .meth "Row" "__eq__", .cls "Row", .meth "Bus" "__eq__", .cls "Bus", .meth "Train" "__eq__", .cls "Train", .meth "Last" "class_name", .meth "First" "class_name", .meth "Limit" "class_name", .meth "Delay" "class_name", .meth "Row" "class_name", .meth "Bus" "class_name", .meth "Train" "class_name", .meth "Last" "facts", .meth "First" "facts", .meth "Limit" "facts", .meth "Delay" "facts", .meth "Row" "facts", .meth "Bus" "facts", .meth "Train" "facts", .glo "BadBus", .glo "BadMember", .glo "BadRow", .glo "BadStream", .glo "BadText", .glo "BadTrain"]
def ex (K : PySem.W.Frag) : Bool := ctB K tb ks && (oqB K tb eq0 && (oqB K tb eq1 && (xcB K "BadBus" "index" && (xcB K "BadRow" "index" && (xcB K "BadStream" "place" && (xcB K "BadText" "place" && (xcB K "BadMember" "what" && (xcB K "BadTrain" "what"))))))))
def names0 : List PySem.Str := ["_wall", "QuietError", "BadStream", "BadMember", "BadRow", "BadTrain", "BadBus", "BadText", "Thing", "is_number", "check_stream", "Member", "Last", "First", "Limit", "Delay", "is_member", "Row", "LETTERS", "MOST_LETTERS", "is_name", "Bus", "are_gaps", "Train"]
def names1 : List PySem.Str := ["FIGURES", "MOST_FIGURES", "ALL", "NONE", "PARTS", "is_figures", "read_number", "check_string", "member_text", "pair_from", "member_from", "row_text", "read_row", "bus_text", "read_bus", "stream_text", "numbers_from", "read_stream", "gaps_text", "train_text", "read_train", "_law_cell_at", "_law_state", "_law_digit"]
def names2 : List PySem.Str := ["_law_kinds", "_law_members", "_law_made", "_law_stream", "_law_name", "_law_steps", "_law_bus", "_law_gaps", "_law_spoken", "_law_members_text", "_law_steps_text", "_law_rows_right", "_law_streams_right", "_law_long_right"]
def names : List PySem.Str := names0 ++ names1 ++ names2
def adr : List PySem.Addr := [3, 6, 4, 21, 38, 65, 91, 117, 143, 169, 195, 228, 239, 246, 277, 310, 336, 362, 409, 418, 456, 463, 515, 522, 553, 560, 567, 574, 581, 588, 595, 600, 605, 610, 615, 620, 625, 632, 637, 644, 651, 658, 665, 672, 679, 686, 693, 700, 707, 714, 719, 724, 729, 734, 739, 746, 753, 760, 767, 0, 20, 37, 64, 90, 116, 142, 168, 194, 227, 238, 245, 276, 309, 335, 361, 408, 417, 455, 462, 514, 521, 552, 559, 566, 573, 580, 587, 594, 599, 604, 609, 614, 619, 624, 631, 636, 643, 650, 657, 664, 671, 678, 685, 692, 699, 706, 713, 718, 723, 728, 733, 738, 745, 752, 759, 766, 15, 16, 17, 18, 19, 35, 36, 39, 55, 62, 63, 81, 88, 89, 107, 114, 115, 133, 140, 141, 159, 166, 167, 185, 192, 193, 211, 218, 225, 226, 229, 230, 233, 234, 235, 236, 237, 240, 241, 242, 243, 244, 260, 267, 274, 275, 293, 300, 307, 308, 326, 333, 334, 352, 359, 360, 378, 385, 392, 399, 406, 407, 412, 413, 414, 415, 416, 432, 439, 446, 453, 454, 459, 460, 461, 477, 484, 491, 498, 505, 512, 513, 518, 519, 520, 536, 543, 550, 551, 556, 557, 558, 561, 562, 563, 564, 565, 568, 569, 570, 571, 572, 575, 576, 577, 578, 579, 582, 583, 584, 585, 586, 589, 590, 591, 592, 593, 596, 597, 598, 601, 602, 603, 606, 607, 608, 611, 612, 613, 616, 617, 618, 621, 622, 623, 626, 627, 628, 629, 630, 633, 634, 635, 638, 639, 640, 641, 642, 645, 646, 647, 648, 649, 652, 653, 654, 655, 656, 659, 660, 661, 662, 663, 666, 667, 668, 669, 670, 673, 674, 675, 676, 677, 680, 681, 682, 683, 684, 687, 688, 689, 690, 691, 694, 695, 696, 697, 698, 701, 702, 703, 704, 705, 708, 709, 710, 711, 712, 715, 716, 717, 720, 721, 722, 725, 726, 727, 730, 731, 732, 735, 736, 737, 740, 741, 742, 743, 744, 747, 748, 749, 750, 751, 754, 755, 756, 757, 758, 761, 762, 763, 764, 765, 34, 54, 61, 80, 87, 106, 113, 132, 139, 158, 165, 184, 191, 210, 217, 224, 259, 266, 273, 292, 299, 306, 325, 332, 351, 358, 377, 384, 391, 398, 405, 431, 438, 445, 452, 476, 483, 490, 497, 504, 511, 535, 542, 549]
abbrev R : PySem.W.OpenRow := PySem.W.OpenLaw.row PySem.Challenge.rw_quietrows_k78_texts_written_and_read
abbrev hk : PySem.W.Hook := hookL adr fa fn ex
def ob (s : PySem.W.SharedT) : AlX := obsL adr fa fn ex (HandSHeadRun.getT s)
theorem ob_eq (s : PySem.W.SharedT) : ob s = hk.obs s.abs := obsL_eq (HandSHeadRun.getT_eq s)
set_option maxHeartbeats 0 in
theorem run (w : World) : HandSHeadRun.RunEq R (PySem.W.view R.prog [70]) hk ob 8000 names w := by
  intro os
  kernel_rfl
end Law
namespace TL
open PySem PySem.Spec L2

inductive D where
  | non | bl (b : Bool) | int (i : Int) | str (x : Str) | ty (n : String)
  | lst (ds : List D) | tup (ds : List D) | ins (c : Str) (ns : List Str) (ds : List D) | dic (ks : List Key) (ds : List D) | dit (ks : List (List Key)) (ds : List D) | tpo (ds : List D) | tpn (ds : List D)
  | exc (a : Addr) (dd : Option Addr) (ns : List Str) (ds : List D)

mutual
def Rep (K : PySem.W.Frag) (G : Hp) : D → V → Prop
  | .non, v => v = .non
  | .bl b, v => v = .bl b
  | .int i, v => v = .int i
  | .str x, v => v = .str x
  | .ty n, v => v = .ty n
  | .lst ds, v => ∃ a vs, v = .ref a ∧ SqL K G a vs ∧ Reps K G ds vs
  | .tup ds, v => ∃ a vs, v = .ref a ∧ SqT K G a vs ∧ Reps K G ds vs
  | .ins c ns ds, v => ∃ a dx vs, v = .ref a ∧ G a = some (.ins (He.ga K c) dx (ns.zip vs)) ∧ ns.length = vs.length ∧ Reps K G ds vs
  | .dic ks ds, v => ∃ a vs, v = .ref a ∧ G a = some (.dK (ks.zip vs)) ∧ ks.length = vs.length ∧ Reps K G ds vs
  | .dit ks ds, v => ∃ a vs, v = .ref a ∧ G a = some (.dT (ks.zip vs)) ∧ ks.length = vs.length ∧ Reps K G ds vs
  | .tpo ds, v => ∃ a vs, v = .ref a ∧ G a = some (.tup vs) ∧ Reps K G ds vs
  | .tpn ds, v => ∃ a vs, v = .ref a ∧ (∃ o : Obj, o.cls = .type "tuple" ∧ o.dict = none ∧ G a = some (.frz o (.tup vs))) ∧ Reps K G ds vs
  | .exc a dd ns ds, v => v = .ref a ∧ ((dd = none ∧ ns = [] ∧ ds = []) ∨ ∃ p vs, dd = some p ∧ G p = some (.xd (ns.zip vs)) ∧ ns.length = vs.length ∧ Reps K G ds vs)
def Reps (K : PySem.W.Frag) (G : Hp) : List D → List V → Prop
  | [], vs => vs = []
  | d :: ds, vs => ∃ v r, vs = v :: r ∧ Rep K G d v ∧ Reps K G ds r
end

theorem sameT {K : PySem.W.Frag} {H H' : Hp} {a : Addr} {xs : List V} (e : Same H H') (h : SqT K H a xs) : SqT K H' a xs := by
  rcases h with (h | ⟨o, h⟩) | h
  · exact .inl (.inl (e _ _ h))
  · exact .inl (.inr ⟨o, e _ _ h⟩)
  · exact .inr h

mutual
theorem Rep.mono {K : PySem.W.Frag} {G G' : Hp} (s : Same G G') : ∀ (d : D) (v : V), Rep K G d v → Rep K G' d v
  | .non, v, h => h
  | .bl b, v, h => h
  | .int i, v, h => h
  | .str x, v, h => h
  | .ty n, v, h => h
  | .lst ds, v, h => by
    unfold Rep at h ⊢
    obtain ⟨a, vs, e, q, r⟩ := h
    exact ⟨a, vs, e, s.seq q, Reps.mono s ds vs r⟩
  | .tup ds, v, h => by
    unfold Rep at h ⊢
    obtain ⟨a, vs, e, q, r⟩ := h
    exact ⟨a, vs, e, sameT s q, Reps.mono s ds vs r⟩
  | .ins c ns ds, v, h => by
    unfold Rep at h ⊢
    obtain ⟨a, dx, vs, e, q, l, r⟩ := h
    exact ⟨a, dx, vs, e, s _ _ q, l, Reps.mono s ds vs r⟩
  | .dic ks ds, v, h => by
    unfold Rep at h ⊢
    obtain ⟨a, vs, e, q, l, r⟩ := h
    exact ⟨a, vs, e, s _ _ q, l, Reps.mono s ds vs r⟩
  | .dit ks ds, v, h => by
    unfold Rep at h ⊢
    obtain ⟨a, vs, e, q, l, r⟩ := h
    exact ⟨a, vs, e, s _ _ q, l, Reps.mono s ds vs r⟩
  | .tpo ds, v, h => by
    unfold Rep at h ⊢
    obtain ⟨a, vs, e, q, r⟩ := h
    exact ⟨a, vs, e, s _ _ q, Reps.mono s ds vs r⟩
  | .tpn ds, v, h => by
    unfold Rep at h ⊢
    obtain ⟨a, vs, e, ⟨o, q1, q2, q⟩, r⟩ := h
    exact ⟨a, vs, e, ⟨o, q1, q2, s _ _ q⟩, Reps.mono s ds vs r⟩
  | .exc a dd ns ds, v, h => by
    unfold Rep at h ⊢
    obtain ⟨e, h | ⟨p, vs, e2, q, l, r⟩⟩ := h
    · exact ⟨e, .inl h⟩
    · exact ⟨e, .inr ⟨p, vs, e2, s _ _ q, l, Reps.mono s ds vs r⟩⟩
theorem Reps.mono {K : PySem.W.Frag} {G G' : Hp} (s : Same G G') : ∀ (ds : List D) (vs : List V), Reps K G ds vs → Reps K G' ds vs
  | [], vs, h => by
    unfold Reps at h ⊢
    exact h
  | d :: ds, vs, h => by
    unfold Reps at h ⊢
    obtain ⟨v, r, e, q, z⟩ := h
    exact ⟨v, r, e, Rep.mono s d v q, Reps.mono s ds r z⟩
end
section
variable {K : PySem.W.Frag} {G G' : Hp}
theorem Reps.nil : Reps K G [] [] := by unfold Reps; rfl
theorem Reps.cons {d : D} {v : V} {ds : List D} {vs : List V} (h : Rep K G d v) (t : Reps K G ds vs) : Reps K G (d :: ds) (v :: vs) := by
  unfold Reps
  exact ⟨v, vs, rfl, h, t⟩
theorem Reps.length : ∀ {ds : List D} {vs : List V}, Reps K G ds vs → vs.length = ds.length
  | [], vs, h => by
    unfold Reps at h
    rw [h]
    rfl
  | d :: ds, vs, h => by
    unfold Reps at h
    obtain ⟨v, r, e, _, z⟩ := h
    rw [e, List.length_cons, List.length_cons, Reps.length z]
theorem Reps.get : ∀ {ds : List D} {vs : List V} {i : Nat} {d : D}, Reps K G ds vs → ds[i]? = some d → ∃ v, vs[i]? = some v ∧ Rep K G d v
  | [], vs, i, d, h, e => by simp at e
  | d0 :: ds, vs, i, d, h, e => by
    unfold Reps at h
    obtain ⟨v, r, rfl, q, z⟩ := h
    cases i with
    | zero =>
      have e' : d0 = d := by simpa using e
      rw [← e']
      exact ⟨v, rfl, q⟩
    | succ i => exact Reps.get (i := i) z (by simpa using e)
theorem Reps.getV : ∀ {ds : List D} {vs : List V} {i : Nat} {v : V}, Reps K G ds vs → vs[i]? = some v → ∃ d, ds[i]? = some d ∧ Rep K G d v
  | [], vs, i, v, h, e => by
    unfold Reps at h
    rw [h] at e
    simp at e
  | d0 :: ds, vs, i, v, h, e => by
    unfold Reps at h
    obtain ⟨v0, r, rfl, q, z⟩ := h
    cases i with
    | zero =>
      have e' : v0 = v := by simpa using e
      rw [← e']
      exact ⟨d0, rfl, q⟩
    | succ i => exact Reps.getV (i := i) z (by simpa using e)
theorem Reps.append : ∀ {ds es : List D} {vs us : List V}, Reps K G ds vs → Reps K G es us → Reps K G (ds ++ es) (vs ++ us)
  | [], es, vs, us, h, t => by
    unfold Reps at h
    rw [h]
    exact t
  | d :: ds, es, vs, us, h, t => by
    unfold Reps at h
    obtain ⟨v, r, rfl, q, z⟩ := h
    exact Reps.cons q (Reps.append z t)
theorem Reps.take : ∀ {ds : List D} {vs : List V} (n : Nat), Reps K G ds vs → Reps K G (ds.take n) (vs.take n)
  | _, _, 0, _ => by
    rw [List.take_zero, List.take_zero]
    exact Reps.nil
  | [], vs, n + 1, h => by
    unfold Reps at h
    rw [h]
    exact Reps.nil
  | d :: ds, vs, n + 1, h => by
    unfold Reps at h
    obtain ⟨v, r, rfl, q, z⟩ := h
    exact Reps.cons q (Reps.take n z)
theorem Reps.drop : ∀ {ds : List D} {vs : List V} (n : Nat), Reps K G ds vs → Reps K G (ds.drop n) (vs.drop n)
  | _, _, 0, h => h
  | [], vs, n + 1, h => by
    unfold Reps at h
    rw [h]
    exact Reps.nil
  | d :: ds, vs, n + 1, h => by
    unfold Reps at h
    obtain ⟨v, r, rfl, q, z⟩ := h
    exact Reps.drop n z
theorem Reps.set : ∀ {ds : List D} {vs : List V} {d : D} {v : V} (n : Nat), Reps K G ds vs → Rep K G d v → Reps K G (ds.set n d) (vs.set n v)
  | [], vs, d, v, n, h, _ => by
    unfold Reps at h
    rw [h]
    exact Reps.nil
  | d0 :: ds, vs, d, v, 0, h, q => by
    unfold Reps at h
    obtain ⟨v0, r, rfl, _, z⟩ := h
    exact Reps.cons q z
  | d0 :: ds, vs, d, v, n + 1, h, q => by
    unfold Reps at h
    obtain ⟨v0, r, rfl, q0, z⟩ := h
    exact Reps.cons q0 (Reps.set n z q)
theorem Reps.of_ints : ∀ {ns : List Int}, Reps K G (ns.map D.int) (ns.map V.int)
  | [] => Reps.nil
  | n :: ns => Reps.cons rfl Reps.of_ints
end

inductive Sl where
  | no | im (d : D) | ow (b : Bool) (d : D)
abbrev Ev := List Sl
def RepO (K : PySem.W.Frag) (G : Hp) : D → HO → Prop
  | .lst ds, o => ∃ vs, o = .lst vs ∧ Reps K G ds vs
  | .ins c ns ds, o => ∃ dx vs, o = .ins (He.ga K c) dx (ns.zip vs) ∧ ns.length = vs.length ∧ Reps K G ds vs
  | .dic ks ds, o => ∃ vs, o = .dK (ks.zip vs) ∧ ks.length = vs.length ∧ Reps K G ds vs
  | .dit ks ds, o => ∃ vs, o = .dT (ks.zip vs) ∧ ks.length = vs.length ∧ Reps K G ds vs
  | _, _ => False
theorem RepO.mono {K : PySem.W.Frag} {G G' : Hp} (s : Same G G') : ∀ {d : D} {o : HO}, RepO K G d o → RepO K G' d o
  | .lst ds, o, h => let ⟨vs, e, r⟩ := h; ⟨vs, e, Reps.mono s _ _ r⟩
  | .ins c ns ds, o, h => let ⟨dx, vs, e, l, r⟩ := h; ⟨dx, vs, e, l, Reps.mono s _ _ r⟩
  | .dic ks ds, o, h => let ⟨vs, e, l, r⟩ := h; ⟨vs, e, l, Reps.mono s _ _ r⟩
  | .dit ks ds, o, h => let ⟨vs, e, l, r⟩ := h; ⟨vs, e, l, Reps.mono s _ _ r⟩
  | .tpo _, _, h => h.elim
  | .tpn _, _, h => h.elim
  | .non, _, h => h.elim
  | .bl _, _, h => h.elim
  | .int _, _, h => h.elim
  | .str _, _, h => h.elim
  | .ty _, _, h => h.elim
  | .tup _, _, h => h.elim
  | .exc _ _ _ _, _, h => h.elim
theorem RepO.rep {K : PySem.W.Frag} {G : Hp} {p : Addr} {o : HO} (hp : G p = some o) : ∀ {d : D}, RepO K G d o → Rep K G d (.ref p)
  | .lst ds, h => by
    obtain ⟨vs, rfl, r⟩ := h
    unfold Rep
    exact ⟨p, vs, rfl, SqL.of hp, r⟩
  | .ins c ns ds, h => by
    obtain ⟨dx, vs, rfl, l, r⟩ := h
    unfold Rep
    exact ⟨p, dx, vs, rfl, hp, l, r⟩
  | .dic ks ds, h => by
    obtain ⟨vs, rfl, l, r⟩ := h
    unfold Rep
    exact ⟨p, vs, rfl, hp, l, r⟩
  | .dit ks ds, h => by
    obtain ⟨vs, rfl, l, r⟩ := h
    unfold Rep
    exact ⟨p, vs, rfl, hp, l, r⟩
  | .tpo _, h => h.elim
  | .tpn _, h => h.elim
  | .non, h => h.elim
  | .bl _, h => h.elim
  | .int _, h => h.elim
  | .str _, h => h.elim
  | .ty _, h => h.elim
  | .tup _, h => h.elim
  | .exc _ _ _ _, h => h.elim
def RepT (K : PySem.W.Frag) (G H : Hp) : D → V → Prop
  | .lst ds, v => ∃ a vs, v = .ref a ∧ SqL K H a vs ∧ Reps K G ds vs
  | .tup ds, v => ∃ a vs, v = .ref a ∧ SqT K H a vs ∧ Reps K G ds vs ∧ SqT K G a vs
  | .ins c ns ds, v => ∃ a dx vs, v = .ref a ∧ H a = some (.ins (He.ga K c) dx (ns.zip vs)) ∧ ns.length = vs.length ∧ Reps K G ds vs
  | .dic ks ds, v => ∃ a vs, v = .ref a ∧ H a = some (.dK (ks.zip vs)) ∧ ks.length = vs.length ∧ Reps K G ds vs
  | .dit ks ds, v => ∃ a vs, v = .ref a ∧ H a = some (.dT (ks.zip vs)) ∧ ks.length = vs.length ∧ Reps K G ds vs
  | .tpo ds, v => ∃ a vs, v = .ref a ∧ H a = some (.tup vs) ∧ Reps K G ds vs
  | .tpn ds, v => ∃ a vs, v = .ref a ∧ (∃ o : Obj, o.cls = .type "tuple" ∧ o.dict = none ∧ H a = some (.frz o (.tup vs))) ∧ Reps K G ds vs
  | .non, v => v = .non
  | .bl b, v => v = .bl b
  | .int i, v => v = .int i
  | .str x, v => v = .str x
  | .ty n, v => v = .ty n
  | .exc a dd ns ds, v => Rep K G (.exc a dd ns ds) v
theorem Rep.top {K : PySem.W.Frag} {G H : Hp} (s : Same G H) : ∀ {d : D} {v : V}, Rep K G d v → RepT K G H d v
  | .lst ds, v, h => by
    unfold Rep at h
    obtain ⟨a, vs, e, q, r⟩ := h
    exact ⟨a, vs, e, s.seq q, r⟩
  | .tup ds, v, h => by
    unfold Rep at h
    obtain ⟨a, vs, e, q, r⟩ := h
    exact ⟨a, vs, e, sameT s q, r, q⟩
  | .ins c ns ds, v, h => by
    unfold Rep at h
    obtain ⟨a, dx, vs, e, q, l, r⟩ := h
    exact ⟨a, dx, vs, e, s _ _ q, l, r⟩
  | .dic ks ds, v, h => by
    unfold Rep at h
    obtain ⟨a, vs, e, q, l, r⟩ := h
    exact ⟨a, vs, e, s _ _ q, l, r⟩
  | .dit ks ds, v, h => by
    unfold Rep at h
    obtain ⟨a, vs, e, q, l, r⟩ := h
    exact ⟨a, vs, e, s _ _ q, l, r⟩
  | .tpo ds, v, h => by
    unfold Rep at h
    obtain ⟨a, vs, e, q, r⟩ := h
    exact ⟨a, vs, e, s _ _ q, r⟩
  | .tpn ds, v, h => by
    unfold Rep at h
    obtain ⟨a, vs, e, ⟨o, q1, q2, q⟩, r⟩ := h
    exact ⟨a, vs, e, ⟨o, q1, q2, s _ _ q⟩, r⟩
  | .non, _, h => h
  | .bl _, _, h => h
  | .int _, _, h => h
  | .str _, _, h => h
  | .ty _, _, h => h
  | .exc _ _ _ _, _, h => h
theorem RepO.top {K : PySem.W.Frag} {G H : Hp} {p : Addr} {o : HO} (hp : H p = some o) : ∀ {d : D}, RepO K G d o → RepT K G H d (.ref p)
  | .lst ds, h => by
    obtain ⟨vs, rfl, r⟩ := h
    exact ⟨p, vs, rfl, SqL.of hp, r⟩
  | .ins c ns ds, h => by
    obtain ⟨dx, vs, rfl, l, r⟩ := h
    exact ⟨p, dx, vs, rfl, hp, l, r⟩
  | .dic ks ds, h => by
    obtain ⟨vs, rfl, l, r⟩ := h
    exact ⟨p, vs, rfl, hp, l, r⟩
  | .dit ks ds, h => by
    obtain ⟨vs, rfl, l, r⟩ := h
    exact ⟨p, vs, rfl, hp, l, r⟩
  | .tpo _, h => h.elim
  | .tpn _, h => h.elim
  | .non, h => h.elim
  | .bl _, h => h.elim
  | .int _, h => h.elim
  | .str _, h => h.elim
  | .ty _, h => h.elim
  | .tup _, h => h.elim
  | .exc _ _ _ _, h => h.elim

theorem RepO.nt {K : PySem.W.Frag} {G : Hp} {o : HO} : ∀ {d : D}, RepO K G d o → ¬ ∃ vs, o = .tup vs
  | .lst ds, h, ⟨vs, e⟩ => by
    obtain ⟨ws, rfl, _⟩ := h
    cases e
  | .ins c ns ds, h, ⟨vs, e⟩ => by
    obtain ⟨dx, ws, rfl, _⟩ := h
    cases e
  | .dic ks ds, h, ⟨vs, e⟩ => by
    obtain ⟨ws, rfl, _⟩ := h
    cases e
  | .dit ks ds, h, ⟨vs, e⟩ => by
    obtain ⟨ws, rfl, _⟩ := h
    cases e
  | .tpo _, h, _ => h.elim
  | .tpn _, h, _ => h.elim
  | .non, h, _ => h.elim
  | .bl _, h, _ => h.elim
  | .int _, h, _ => h.elim
  | .str _, h, _ => h.elim
  | .ty _, h, _ => h.elim
  | .tup _, h, _ => h.elim
  | .exc _ _ _ _, h, _ => h.elim
structure Fx where
  F : Hp
  R : Nat → Option Addr
structure ER (K : PySem.W.Frag) (x : Fx) (G H : Hp) (σ : St) (env : Ev) : Prop where
  len : σ.length = env.length
  sG : Same G H
  sF : Same x.F H
  dj : ∀ a o, x.F a = some o → G a = none ∨ ∃ vs, o = .tup vs
  im : ∀ (i : Nat) d, env[i]? = some (.im d) → ∃ v, σ[i]? = some (some v) ∧ Rep K G d v
  ow : ∀ (i : Nat) b d, env[i]? = some (.ow b d) → ∃ p o, σ[i]? = some (some (.ref p)) ∧ H p = some o ∧ RepO K G d o ∧ x.F p = none ∧ G p = none
  nd : ∀ (i j : Nat) b c d e p, env[i]? = some (.ow b d) → env[j]? = some (.ow c e) → σ[i]? = some (some (.ref p)) → σ[j]? = some (some (.ref p)) → i = j
  rt : ∀ (i : Nat) p, x.R i = some p → σ[i]? = some (some (.ref p)) ∧ ∃ d, env[i]? = some (.ow true d)
structure Step (G H G' H' : Hp) : Prop where
  g : Same G G'
  h : Same H H'
  gh : Same G' H'
  new : ∀ a o, G' a = some o → G a = none → H a = none
theorem Step.refl {G H : Hp} (s : Same G H) : Step G H G H := ⟨.refl _, .refl _, s, fun a o e q => by rw [q] at e; cases e⟩
theorem same_new {H : Hp} {p : Addr} {o : HO} (h : H p = none) : Same H (upd H p o) := fun b x e => by
  rw [upd_ne (ne_of_none e h)]
  exact e
theorem Step.one {G H : Hp} (s : Same G H) {p : Addr} (o : HO) (hp : H p = none) : Step G H (upd G p o) (upd H p o) where
  g := same_new (s.free hp)
  h := same_new hp
  gh := fun a u e => by
    by_cases hb : a = p
    · subst hb
      rw [upd_same] at e ⊢
      exact e
    · rw [upd_ne hb] at e ⊢
      exact s a u e
  new := fun a u e q => by
    by_cases hb : a = p
    · rw [hb]
      exact hp
    · rw [upd_ne hb, q] at e
      cases e
theorem Step.junk {G H : Hp} (s : Same G H) {p : Addr} (o : HO) (hp : H p = none) : Step G H G (upd H p o) where
  g := .refl _
  h := same_new hp
  gh := s.trans (same_new hp)
  new := fun a u e q => by
    rw [q] at e
    cases e
theorem Step.trans {G H G1 H1 G2 H2 : Hp} (a : Step G H G1 H1) (b : Step G1 H1 G2 H2) : Step G H G2 H2 where
  g := a.g.trans b.g
  h := a.h.trans b.h
  gh := b.gh
  new := fun c o e q => by
    cases z : G1 c with
    | some u => exact a.new c u z q
    | none => exact a.h.free (b.new c o e z)
section
variable {K : PySem.W.Frag} {x : Fx} {G H G' H' : Hp} {σ : St} {env : Ev}
theorem ER.step (r : ER K x G H σ env) (s : Step G H G' H') : ER K x G' H' σ env where
  len := r.len
  sG := s.gh
  sF := r.sF.trans s.h
  dj := fun a o e => by
    rcases r.dj a o e with g | g
    · refine .inl ?_
      cases z : G' a with
      | none => rfl
      | some u =>
        have q := s.new a u z g
        rw [r.sF a o e] at q
        cases q
    · exact .inr g
  im := fun i d e => let ⟨v, e1, q⟩ := r.im i d e; ⟨v, e1, Rep.mono s.g _ _ q⟩
  ow := fun i b d e => by
    obtain ⟨p, o, e1, e2, q, f, g⟩ := r.ow i b d e
    refine ⟨p, o, e1, s.h _ _ e2, RepO.mono s.g q, f, ?_⟩
    cases z : G' p with
    | none => rfl
    | some u =>
      have q := s.new p u z g
      rw [e2] at q
      cases q
  nd := r.nd
  rt := r.rt
theorem ER.lt (r : ER K x G H σ env) {i : Nat} {s : Sl} (e : env[i]? = some s) : i < σ.length := by
  rw [r.len]
  exact (List.getElem?_eq_some_iff.mp e).1
theorem ER.setIm (r : ER K x G H σ env) {i : Nat} {d : D} {v : V} (q : Rep K G d v) (hR : x.R i = none) : ER K x G H (σ.set i (some v)) (env.set i (.im d)) where
  len := by rw [List.length_set, List.length_set, r.len]
  sG := r.sG
  sF := r.sF
  dj := r.dj
  im := fun j e h => by
    by_cases hj : j = i
    · subst hj
      have hl : j < env.length := by
        have := (List.getElem?_eq_some_iff.mp h).1
        rw [List.length_set] at this
        exact this
      rw [List.getElem?_set_self hl] at h
      rw [List.getElem?_set_self (by rw [r.len]; exact hl)]
      cases h
      exact ⟨v, rfl, q⟩
    · rw [List.getElem?_set_ne (Ne.symm hj)] at h ⊢
      exact r.im j e h
  ow := fun j b e h => by
    by_cases hj : j = i
    · subst hj
      have hl : j < env.length := by
        have := (List.getElem?_eq_some_iff.mp h).1
        rw [List.length_set] at this
        exact this
      rw [List.getElem?_set_self hl] at h
      cases h
    · rw [List.getElem?_set_ne (Ne.symm hj)] at h ⊢
      exact r.ow j b e h
  nd := fun j k b1 b2 d1 d2 p h1 h2 h3 h4 => by
    have out : ∀ {j : Nat} {b : Bool} {d1 : D}, (env.set i (.im d))[j]? = some (.ow b d1) → j ≠ i := fun {j b d1} h z => by
      subst z
      have hl : j < env.length := by
        have := (List.getElem?_eq_some_iff.mp h).1
        rw [List.length_set] at this
        exact this
      rw [List.getElem?_set_self hl] at h
      cases h
    have n1 := out h1
    have n2 := out h2
    rw [List.getElem?_set_ne (Ne.symm n1)] at h1 h3
    rw [List.getElem?_set_ne (Ne.symm n2)] at h2 h4
    exact r.nd j k b1 b2 d1 d2 p h1 h2 h3 h4
  rt := fun j p h => by
    have hj : j ≠ i := fun z => by
      rw [z, hR] at h
      cases h
    obtain ⟨h1, d', h2⟩ := r.rt j p h
    rw [List.getElem?_set_ne (Ne.symm hj), List.getElem?_set_ne (Ne.symm hj)]
    exact ⟨h1, d', h2⟩
theorem ER.setOw (r : ER K x G H σ env) {i : Nat} {d : D} {p : Addr} {o : HO} (hp : H p = some o) (q : RepO K G d o) (hF : x.F p = none) (hG : G p = none) (hR : x.R i = none)
    (ho : ∀ (j : Nat) b d', env[j]? = some (.ow b d') → σ[j]? ≠ some (some (.ref p))) : ER K x G H (σ.set i (some (.ref p))) (env.set i (.ow false d)) where
  len := by rw [List.length_set, List.length_set, r.len]
  sG := r.sG
  sF := r.sF
  dj := r.dj
  im := fun j e h => by
    by_cases hj : j = i
    · subst hj
      have hl : j < env.length := by
        have := (List.getElem?_eq_some_iff.mp h).1
        rw [List.length_set] at this
        exact this
      rw [List.getElem?_set_self hl] at h
      cases h
    · rw [List.getElem?_set_ne (Ne.symm hj)] at h ⊢
      exact r.im j e h
  ow := fun j b e h => by
    by_cases hj : j = i
    · subst hj
      have hl : j < env.length := by
        have := (List.getElem?_eq_some_iff.mp h).1
        rw [List.length_set] at this
        exact this
      rw [List.getElem?_set_self hl] at h
      rw [List.getElem?_set_self (by rw [r.len]; exact hl)]
      cases h
      exact ⟨p, o, rfl, hp, q, hF, hG⟩
    · rw [List.getElem?_set_ne (Ne.symm hj)] at h ⊢
      exact r.ow j b e h
  nd := fun j k b1 b2 d1 d2 p' h1 h2 h3 h4 => by
    have at_ : ∀ {j : Nat} {b : Bool} {d1 : D}, (env.set i (.ow false d))[j]? = some (.ow b d1) → (σ.set i (some (.ref p)))[j]? = some (some (.ref p')) → (j = i ∧ p' = p) ∨ (j ≠ i ∧ env[j]? = some (.ow b d1) ∧ σ[j]? = some (some (.ref p'))) := fun {j b d1} h h' => by
      by_cases hj : j = i
      · subst hj
        have hl : j < env.length := by
          have := (List.getElem?_eq_some_iff.mp h).1
          rw [List.length_set] at this
          exact this
        rw [List.getElem?_set_self (by rw [r.len]; exact hl)] at h'
        cases h'
        exact .inl ⟨rfl, rfl⟩
      · rw [List.getElem?_set_ne (Ne.symm hj)] at h h'
        exact .inr ⟨hj, h, h'⟩
    rcases at_ h1 h3 with ⟨e1, f1⟩ | ⟨e1, f1, g1⟩
    · rcases at_ h2 h4 with ⟨e2, f2⟩ | ⟨e2, f2, g2⟩
      · rw [e1, e2]
      · rw [f1] at g2
        exact absurd g2 (ho k b2 d2 f2)
    · rcases at_ h2 h4 with ⟨e2, f2⟩ | ⟨e2, f2, g2⟩
      · rw [f2] at g1
        exact absurd g1 (ho j b1 d1 f1)
      · exact r.nd j k b1 b2 d1 d2 p' f1 f2 g1 g2
  rt := fun j p' h => by
    have hj : j ≠ i := fun z => by
      rw [z, hR] at h
      cases h
    obtain ⟨h1, d', h2⟩ := r.rt j p' h
    rw [List.getElem?_set_ne (Ne.symm hj), List.getElem?_set_ne (Ne.symm hj)]
    exact ⟨h1, d', h2⟩
theorem ER.write (r : ER K x G H σ env) {i : Nat} {rb : Bool} {d d' : D} {p : Addr} {o : HO} (e : env[i]? = some (.ow rb d)) (es : σ[i]? = some (some (.ref p))) (q : RepO K G d' o) : ER K x G (upd H p o) σ (env.set i (.ow rb d')) := by
  obtain ⟨p', o', e1, e2, q0, f, g⟩ := r.ow i rb d e
  have ep : p' = p := by
    rw [es] at e1
    cases e1
    rfl
  subst ep
  have hl : i < env.length := (List.getElem?_eq_some_iff.mp e).1
  have kp : ∀ {b : Addr} {u : HO}, b ≠ p' → H b = some u → upd H p' o b = some u := fun {b u} hb h => by
    rw [upd_ne hb]
    exact h
  refine ⟨by rw [List.length_set, r.len], fun b u h => kp (fun z => ?_) (r.sG b u h), fun b u h => kp (fun z => ?_) (r.sF b u h), r.dj, fun j e' h => ?_, fun j b e' h => ?_, fun j k b1 b2 d1 d2 p1 h1 h2 h3 h4 => ?_, fun j p1 h => ?_⟩
  · rw [z, g] at h
    cases h
  · rw [z, f] at h
    cases h
  · by_cases hj : j = i
    · subst hj
      rw [List.getElem?_set_self hl] at h
      cases h
    · rw [List.getElem?_set_ne (Ne.symm hj)] at h
      exact r.im j e' h
  · by_cases hj : j = i
    · subst hj
      rw [List.getElem?_set_self hl] at h
      cases h
      exact ⟨p', o, es, upd_same, q, f, g⟩
    · rw [List.getElem?_set_ne (Ne.symm hj)] at h
      obtain ⟨p2, o2, z1, z2, z3, z4, z5⟩ := r.ow j b e' h
      refine ⟨p2, o2, z1, kp (fun z => ?_) z2, z3, z4, z5⟩
      subst z
      exact hj (r.nd j i b rb e' d p2 h e z1 es)
  · have at_ : ∀ {j : Nat} {b : Bool} {d1 : D}, (env.set i (.ow rb d'))[j]? = some (.ow b d1) → ∃ b2 d2, env[j]? = some (.ow b2 d2) := fun {j b d1} h => by
      by_cases hj : j = i
      · subst hj
        exact ⟨rb, d, e⟩
      · rw [List.getElem?_set_ne (Ne.symm hj)] at h
        exact ⟨_, _, h⟩
    obtain ⟨_, _, h1⟩ := at_ h1
    obtain ⟨_, _, h2⟩ := at_ h2
    exact r.nd j k _ _ _ _ p1 h1 h2 h3 h4
  · obtain ⟨h1, d2, h2⟩ := r.rt j p1 h
    refine ⟨h1, ?_⟩
    by_cases hj : j = i
    · subst hj
      rw [List.getElem?_set_self hl]
      rw [e] at h2
      cases h2
      exact ⟨_, rfl⟩
    · rw [List.getElem?_set_ne (Ne.symm hj)]
      exact ⟨_, h2⟩
theorem ER.freeze (r : ER K x G H σ env) {i : Nat} {rb : Bool} {d : D} {p : Addr} {o : HO} (e : env[i]? = some (.ow rb d)) (es : σ[i]? = some (some (.ref p))) (hp : H p = some o) (hR : x.R i = none) :
    ER K x (upd G p o) H σ (env.set i (.im d)) ∧ Same G (upd G p o) ∧ Rep K (upd G p o) d (.ref p) := by
  obtain ⟨p', o', e1, e2, q0, f, g⟩ := r.ow i rb d e
  have ep : p' = p := by
    rw [es] at e1
    cases e1
    rfl
  subst ep
  have eo : o' = o := by
    rw [hp] at e2
    cases e2
    rfl
  subst eo
  have hl : i < env.length := (List.getElem?_eq_some_iff.mp e).1
  have sG' : Same G (upd G p' o') := same_new g
  have rp : Rep K (upd G p' o') d (.ref p') := RepO.rep upd_same (RepO.mono sG' q0)
  refine ⟨⟨by rw [List.length_set, r.len], fun b u h => ?_, r.sF, fun b u h => ?_, fun j e' h => ?_, fun j b e' h => ?_, fun j k b1 b2 d1 d2 p1 h1 h2 h3 h4 => ?_, fun j p1 h => ?_⟩, sG', rp⟩
  · by_cases hb : b = p'
    · subst hb
      rw [upd_same] at h
      cases h
      exact hp
    · rw [upd_ne hb] at h
      exact r.sG b u h
  · by_cases hb : b = p'
    · subst hb
      rw [f] at h
      cases h
    · rw [upd_ne hb]
      exact r.dj b u h
  · by_cases hj : j = i
    · subst hj
      rw [List.getElem?_set_self hl] at h
      cases h
      exact ⟨_, es, rp⟩
    · rw [List.getElem?_set_ne (Ne.symm hj)] at h
      obtain ⟨v, z1, z2⟩ := r.im j e' h
      exact ⟨v, z1, Rep.mono sG' _ _ z2⟩
  · by_cases hj : j = i
    · subst hj
      rw [List.getElem?_set_self hl] at h
      cases h
    · rw [List.getElem?_set_ne (Ne.symm hj)] at h
      obtain ⟨p2, o2, z1, z2, z3, z4, z5⟩ := r.ow j b e' h
      refine ⟨p2, o2, z1, z2, RepO.mono sG' z3, z4, ?_⟩
      rw [upd_ne fun z => ?_]
      · exact z5
      · subst z
        exact hj (r.nd j i b rb e' d p2 h e z1 es)
  · have at_ : ∀ {j : Nat} {b : Bool} {d1 : D}, (env.set i (.im d))[j]? = some (.ow b d1) → env[j]? = some (.ow b d1) := fun {j b d1} h => by
      by_cases hj : j = i
      · subst hj
        rw [List.getElem?_set_self hl] at h
        cases h
      · rw [List.getElem?_set_ne (Ne.symm hj)] at h
        exact h
    exact r.nd j k b1 b2 d1 d2 p1 (at_ h1) (at_ h2) h3 h4
  · have hj : j ≠ i := fun z => by
      rw [z, hR] at h
      cases h
    rw [List.getElem?_set_ne (Ne.symm hj)]
    exact r.rt j p1 h
theorem ER.noR (r : ER K x G H σ env) {i : Nat} (h : ∀ d, env[i]? ≠ some (.ow true d)) : x.R i = none := by
  cases z : x.R i with
  | none => rfl
  | some p =>
    obtain ⟨_, d, e⟩ := r.rt i p z
    exact absurd e (h d)
end
end TL

namespace TL
open PySem PySem.Spec L2

structure Xn where
  c : Str
  ns : List Str
  ds : List D
def XRep (K : PySem.W.Frag) (G : Hp) (x : Xn) (cls : Value) (dd : Option Addr) : Prop :=
  cls = .ref (He.ga K x.c) ∧ ((x.ns = [] ∧ x.ds = [] ∧ dd = none) ∨ ∃ a vs, dd = some a ∧ G a = some (.xd (x.ns.zip vs)) ∧ x.ns.length = vs.length ∧ Reps K G x.ds vs)
inductive Hd where
  | im (d : D) | ow (i : Nat)
def hv (env : Ev) : Hd → Option D
  | .im d => some d
  | .ow i => match env[i]? with
    | some (.ow _ d) => some d
    | _ => none
def HR (K : PySem.W.Frag) (G : Hp) (σ : St) : Hd → V → Prop
  | .im d, v => Rep K G d v
  | .ow i, v => σ[i]? = some (some v)
theorem HR.mono {K : PySem.W.Frag} {G G' : Hp} {σ : St} (s : Same G G') : ∀ {h : Hd} {v : V}, HR K G σ h v → HR K G' σ h v
  | .im d, v, q => Rep.mono s d v q
  | .ow i, v, q => q
theorem HR.read {K : PySem.W.Frag} {x : Fx} {G H : Hp} {σ : St} {env : Ev} (r : ER K x G H σ env) : ∀ {h : Hd} {v : V} {d : D}, HR K G σ h v → hv env h = some d → RepT K G H d v
  | .im d, v, d', q, e => by
    cases e
    exact Rep.top r.sG q
  | .ow i, v, d', q, e => by
    have e : (match env[i]? with | some (Sl.ow _ d) => some d | _ => none) = some d' := e
    have q' : σ[i]? = some (some v) := q
    cases z : env[i]? with
    | none =>
      rw [z] at e
      cases e
    | some sl =>
      rw [z] at e
      cases sl with
      | no => cases e
      | im _ => cases e
      | ow b0 d0 =>
        cases e
        obtain ⟨p, o, e1, e2, q2, _, _⟩ := r.ow i b0 d' z
        rw [q'] at e1
        cases e1
        exact RepO.top e2 q2
def hvs (env : Ev) : List Hd → Option (List D)
  | [] => some []
  | h :: t => match hv env h with
    | some d => (match hvs env t with
      | some ds => some (d :: ds)
      | none => none)
    | none => none
def HRs (K : PySem.W.Frag) (G : Hp) (σ : St) : List Hd → List V → Prop
  | [], vs => vs = []
  | h :: t, vs => ∃ v r, vs = v :: r ∧ HR K G σ h v ∧ HRs K G σ t r
def RepTs (K : PySem.W.Frag) (G H : Hp) : List D → List V → Prop
  | [], vs => vs = []
  | d :: t, vs => ∃ v r, vs = v :: r ∧ RepT K G H d v ∧ RepTs K G H t r
theorem HRs.mono {K : PySem.W.Frag} {G G' : Hp} {σ : St} (s : Same G G') : ∀ {hs : List Hd} {vs : List V}, HRs K G σ hs vs → HRs K G' σ hs vs
  | [], vs, q => q
  | h :: t, vs, q => let ⟨v, r, e, q1, q2⟩ := q; ⟨v, r, e, q1.mono s, HRs.mono s q2⟩
theorem HRs.read {K : PySem.W.Frag} {x : Fx} {G H : Hp} {σ : St} {env : Ev} (r : ER K x G H σ env) : ∀ {hs : List Hd} {vs : List V} {ds : List D}, HRs K G σ hs vs → hvs env hs = some ds → RepTs K G H ds vs
  | [], vs, ds, q, e => by
    cases e
    exact q
  | h :: t, vs, ds, q, e => by
    obtain ⟨v, r', rfl, q1, q2⟩ := q
    unfold hvs at e
    cases z : hv env h with
    | none =>
      rw [z] at e
      cases e
    | some d =>
      rw [z] at e
      cases y : hvs env t with
      | none =>
        rw [y] at e
        cases e
      | some ds' =>
        rw [y] at e
        cases e
        exact ⟨v, r', rfl, q1.read r z, HRs.read r q2 y⟩
def ims : List Hd → Option (List D)
  | [] => some []
  | .im d :: t => (match ims t with
    | some ds => some (d :: ds)
    | none => none)
  | .ow _ :: _ => none
theorem HRs.ims {K : PySem.W.Frag} {G : Hp} {σ : St} : ∀ {hs : List Hd} {vs : List V} {ds : List D}, HRs K G σ hs vs → TL.ims hs = some ds → Reps K G ds vs
  | [], vs, ds, q, e => by
    cases e
    unfold Reps
    exact q
  | .im d :: t, vs, ds, q, e => by
    obtain ⟨v, r', rfl, q1, q2⟩ := q
    unfold TL.ims at e
    cases y : TL.ims t with
    | none =>
      rw [y] at e
      cases e
    | some ds' =>
      rw [y] at e
      cases e
      exact Reps.cons q1 (HRs.ims q2 y)
  | .ow i :: t, vs, ds, q, e => by
    unfold TL.ims at e
    cases e

def mo {α : Type} (o : Option α) (f : α → Prop) : Prop := match o with
  | some a => f a
  | none => False
theorem mo_some {α : Type} {o : Option α} {f : α → Prop} (h : mo o f) : ∃ a, o = some a ∧ f a := by
  cases o with
  | none => exact h.elim
  | some a => exact ⟨a, rfl, h⟩
def imAt (env : Ev) (i : Nat) : Option D := match env[i]? with
  | some (.im d) => some d
  | _ => none
def owAt (env : Ev) (i : Nat) : Option D := match env[i]? with
  | some (.ow _ d) => some d
  | _ => none
theorem imAt_some {env : Ev} {i : Nat} {d : D} (h : imAt env i = some d) : env[i]? = some (.im d) := by
  unfold imAt at h
  cases z : env[i]? with
  | none =>
    rw [z] at h
    cases h
  | some sl =>
    rw [z] at h
    cases sl with
    | no => cases h
    | ow _ _ => cases h
    | im d' =>
      cases h
      rfl
theorem owAt_some {env : Ev} {i : Nat} {d : D} (h : owAt env i = some d) : ∃ b, env[i]? = some (.ow b d) := by
  unfold owAt at h
  cases z : env[i]? with
  | none =>
    rw [z] at h
    cases h
  | some sl =>
    rw [z] at h
    cases sl with
    | no => cases h
    | im _ => cases h
    | ow b d' =>
      cases h
      exact ⟨b, rfl⟩
def intOf : D → Option Int
  | .int i => some i
  | _ => none
def blOf : D → Option Bool
  | .bl b => some b
  | _ => none
def strOf : D → Option Str
  | .str x => some x
  | _ => none
theorem intOf_some {d : D} {i : Int} (h : intOf d = some i) : d = .int i := by
  cases d <;> cases h
  rfl
theorem blOf_some {d : D} {b : Bool} (h : blOf d = some b) : d = .bl b := by
  cases d <;> cases h
  rfl
theorem strOf_some {d : D} {b : Str} (h : strOf d = some b) : d = .str b := by
  cases d <;> cases h
  rfl
abbrev XP := Xn → Ev → Prop
abbrev WO := Ev → (Hd → Ev → Prop) → XP → Prop
abbrev WE := Ev → (D → Ev → Prop) → XP → Prop
abbrev WT := Ev → (Bool → Ev → Prop) → XP → Prop
abbrev WA := Ev → (List Hd → Ev → Prop) → XP → Prop
def Xend (K : PySem.W.Frag) (W : WX) (x : Fx) (G : Hp) (σ : St) (X' : XP) : Prop :=
  ∀ e env' cls dd G' H', Same G G' → ER K x G' H' σ env' → XRep K G' e cls dd → X' e env' → W cls dd σ H'
theorem Xend.up {K : PySem.W.Frag} {W : WX} {x : Fx} {G G1 : Hp} {σ : St} {X' : XP} (h : Xend K W x G σ X') (s : Same G G1) : Xend K W x G1 σ X' :=
  fun e env' cls dd G' H' s' => h e env' cls dd G' H' (s.trans s')
def lO (K : PySem.W.Frag) (W : WX) (w : WO) : TE := fun σ H Q => ∃ x G env Q' X', ER K x G H σ env ∧ w env Q' X' ∧
  (∀ h env' v G' H', Same G G' → ER K x G' H' σ env' → HR K G' σ h v → Q' h env' → Q v H') ∧ Xend K W x G σ X'
def lT (K : PySem.W.Frag) (W : WX) (w : WT) : TT := fun σ H Q => ∃ x G env Q' X', ER K x G H σ env ∧ w env Q' X' ∧
  (∀ b env' G' H', Same G G' → ER K x G' H' σ env' → Q' b env' → Q b H') ∧ Xend K W x G σ X'
def lA (K : PySem.W.Frag) (W : WX) (w : WA) : TA := fun σ H Q => ∃ x G env Q' X', ER K x G H σ env ∧ w env Q' X' ∧
  (∀ hs env' vs G' H', Same G G' → ER K x G' H' σ env' → HRs K G' σ hs vs → Q' hs env' → Q vs H') ∧ Xend K W x G σ X'
def lF (K : PySem.W.Frag) (W : WX) (w : WE) : TE := fun σ H Q => ∃ x G env Q' X', ER K x G H σ env ∧ w env Q' X' ∧
  (∀ d env' p o G' H', Same G G' → ER K x G' H' σ env' → H' p = some o → RepO K G' d o → G' p = none → x.F p = none → (∀ (j : Nat) b d', env'[j]? = some (.ow b d') → σ[j]? ≠ some (some (.ref p))) → Q' d env' → Q (.ref p) H') ∧ Xend K W x G σ X'
def imO (w : WE) : WO := fun env Q X => w env (fun d e => Q (.im d) e) X
abbrev QO (X : Cx) (W : WX) (e : Expr) (w : WO) : Prop := PE X e (lO X.K W w)
abbrev QE (X : Cx) (W : WX) (e : Expr) (w : WE) : Prop := PE X e (lO X.K W (imO w))
abbrev QF (X : Cx) (W : WX) (e : Expr) (w : WE) : Prop := PE X e (lF X.K W w)
abbrev QT (X : Cx) (W : WX) (e : Expr) (w : WT) : Prop := PT X e (lT X.K W w)
abbrev QW (X : Cx) (W : WX) (e : Expr) (w : WT) : Prop := PW X e (lT X.K W w)
abbrev QA (X : Cx) (W : WX) (es : List Expr) (w : WA) : Prop := PA X es (lA X.K W w)
theorem _root_.L2.PE.le {X : Cx} {e : Expr} {t t' : TE} (h : PE X e t) (i : ∀ σ H Q, t' σ H Q → t σ H Q) : PE X e t' := ⟨fun pins s σ H Q I hw => h.run pins s σ H Q I (i σ H Q hw)⟩
theorem _root_.L2.PT.le {X : Cx} {e : Expr} {t t' : TT} (h : PT X e t) (i : ∀ σ H Q, t' σ H Q → t σ H Q) : PT X e t' := ⟨fun pins s σ H Q I hw => h.run pins s σ H Q I (i σ H Q hw)⟩
theorem _root_.L2.PW.le {X : Cx} {e : Expr} {t t' : TT} (h : PW X e t) (i : ∀ σ H Q, t' σ H Q → t σ H Q) : PW X e t' := ⟨fun wh pins s σ H Q I hw => h.run wh pins s σ H Q I (i σ H Q hw)⟩
theorem _root_.L2.PA.le {X : Cx} {es : List Expr} {t t' : TA} (h : PA X es t) (i : ∀ σ H Q, t' σ H Q → t σ H Q) : PA X es t' := ⟨fun pos pins s σ H Q I hw => h.run pos pins s σ H Q I (i σ H Q hw)⟩
theorem _root_.L2.PS.le {X : Cx} {st : Stmt} {t t' : TS} (h : PS X st t) (i : ∀ D σ H, t' D σ H → t D σ H) : PS X st t' := ⟨fun pins s σ H D I hw => h.run pins s σ H D I (i D σ H hw)⟩
theorem _root_.L2.PSs.le {X : Cx} {st : List Stmt} {t t' : TS} (h : PSs X st t) (i : ∀ D σ H, t' D σ H → t D σ H) : PSs X st t' := ⟨fun pins s σ H D I hw => h.run pins s σ H D I (i D σ H hw)⟩
theorem _root_.L2.PG.le {X : Cx} {tg : Expr} {t t' : TG} (h : PG X tg t) (i : ∀ v σ H Q, t' v σ H Q → t v σ H Q) : PG X tg t' := ⟨fun pins s σ H v u Q I r hw => h.run pins s σ H v u Q I r (i v σ H Q hw)⟩
theorem _root_.L2.PI.le {X : Cx} {tg iter : Expr} {t t' : TI} (h : PI X tg iter t) (i : ∀ σ H Q, t' σ H Q → t σ H Q) : PI X tg iter t' := ⟨fun pins s σ H Q I hw => h.run pins s σ H Q I (i σ H Q hw)⟩

section
variable {X : Cx} {W : WX} {a b e : Expr} {pos : Pos}
theorem qe_new {w : WE} (h : QF X W e w) : QE X W e w := h.le fun σ H Q ⟨x, G, env, Q', X', r, hw, hn, hx⟩ =>
  ⟨x, G, env, fun d e => Q' (.im d) e, X', r, hw, fun d env' p o G' H' s r' hp q hG hF ho hq => by
    have sG' : Same G' (upd G' p o) := same_new hG
    refine hn (.im d) env' (.ref p) (upd G' p o) H' (s.trans sG') ⟨r'.len, fun b u hb => ?_, r'.sF, fun b u hb => ?_, fun i d' e => ?_, fun i rb d' e => ?_, r'.nd, r'.rt⟩ (RepO.rep upd_same (RepO.mono sG' q)) hq
    · by_cases z : b = p
      · subst z
        rw [upd_same] at hb
        cases hb
        exact hp
      · rw [upd_ne z] at hb
        exact r'.sG b u hb
    · by_cases z : b = p
      · subst z
        rw [hF] at hb
        cases hb
      · rw [upd_ne z]
        exact r'.dj b u hb
    · obtain ⟨v, z1, z2⟩ := r'.im i d' e
      exact ⟨v, z1, Rep.mono sG' _ _ z2⟩
    · obtain ⟨p2, o2, z1, z2, z3, z4, z5⟩ := r'.ow i rb d' e
      refine ⟨p2, o2, z1, z2, RepO.mono sG' z3, z4, ?_⟩
      rw [upd_ne fun z => ?_]
      · exact z5
      · subst z
        exact ho i rb d' e z1, hx⟩

def wVar (i : Nat) : WE := fun env Q _ => mo (imAt env i) fun d => Q d env
def oVar (i : Nat) : WO := fun env Q _ => mo (owAt env i) fun _ => Q (.ow i) env
def wC (d : D) : WE := fun env Q _ => Q d env
theorem qe_var (i : Nat) {n : Str} (hN : X.N[i]? = some n := by rfl) (hvs : Vis X.env.scope n := by first | exact Or.inl rfl | exact Or.inr (Or.inl rfl) | exact Or.inr (Or.inr rfl)) (hd : (n == ("__debug__" : Str)) = false := by decide)
    (hcd : (n == ("__classdict__" : Str)) = false := by decide) : QE X W (.Name n pos) (wVar i) := (pe_var hN hvs hd hcd).le fun σ H Q ⟨x, G, env, Q', X', r, hq, hn, hx⟩ => by
  obtain ⟨d, e, hq⟩ := mo_some hq
  obtain ⟨v, e1, q⟩ := r.im i d (imAt_some e)
  exact ⟨v, e1, hn (.im d) env v G H (.refl _) r q hq⟩
theorem qo_var (i : Nat) {n : Str} (hN : X.N[i]? = some n := by rfl) (hvs : Vis X.env.scope n := by first | exact Or.inl rfl | exact Or.inr (Or.inl rfl) | exact Or.inr (Or.inr rfl)) (hd : (n == ("__debug__" : Str)) = false := by decide)
    (hcd : (n == ("__classdict__" : Str)) = false := by decide) : QO X W (.Name n pos) (oVar i) := (pe_var hN hvs hd hcd).le fun σ H Q ⟨x, G, env, Q', X', r, hq, hn, hx⟩ => by
  obtain ⟨d, e, hq⟩ := mo_some hq
  obtain ⟨b, e⟩ := owAt_some e
  obtain ⟨p, o, e1, _⟩ := r.ow i b d e
  exact ⟨_, e1, hn (.ow i) env _ G H (.refl _) r e1 hq⟩
theorem qe_c {v : V} {d : D} (h : PE X e (tC v)) (hr : ∀ G, Rep X.K G d v) : QE X W e (wC d) := h.le fun σ H Q ⟨x, G, env, Q', X', r, hq, hn, hx⟩ => hn (.im d) env v G H (.refl _) r (hr G) hq
theorem qe_int {i j} : QE X W (.Constant (.int i) j pos) (wC (.int i)) := qe_c pe_int fun _ => rfl
theorem qe_bl {i j} : QE X W (.Constant (.bool i) j pos) (wC (.bl i)) := qe_c pe_bl fun _ => rfl
theorem qe_non {j} : QE X W (.Constant .none j pos) (wC .non) := qe_c pe_non fun _ => rfl
theorem qe_str {i j} : QE X W (.Constant (.str i) j pos) (wC (.str i)) := qe_c pe_str fun _ => rfl
theorem qe_glob {n : Str} {v : V} {u : Value} {d : D} (hg : Gl X n) (hm : X.mg n = some u) (r : RelV v u) (hr : ∀ G, Rep X.K G d v) (hd : (n == ("__debug__" : Str)) = false := by decide) : QE X W (.Name n pos) (wC d) := qe_c (pe_glob hg hm r hd) hr

def Sem1 (K : PySem.W.Frag) (r : V → Hp → VK → Prop) (k : D → (D → Prop) → Prop) : Prop := ∀ (G H : Hp) (d : D) (v : V) (P : D → Prop) (Q : VK), Same G H → RepT K G H d v → k d P →
  (∀ d' v' G' H', Step G H G' H' → Rep K G' d' v' → P d' → Q v' H') → r v H Q
def Sem2 (K : PySem.W.Frag) (r : R2) (k : D → D → (D → Prop) → Prop) : Prop := ∀ (G H : Hp) (d1 d2 : D) (v1 v2 : V) (P : D → Prop) (Q : VK), Same G H → RepT K G H d1 v1 → RepT K G H d2 v2 → k d1 d2 P →
  (∀ d' v' G' H', Step G H G' H' → Rep K G' d' v' → P d' → Q v' H') → r v1 v2 H Q
def SemN (K : PySem.W.Frag) (r : List V → Hp → VK → Prop) (k : List D → (D → Prop) → Prop) : Prop := ∀ (G H : Hp) (ds : List D) (vs : List V) (P : D → Prop) (Q : VK), Same G H → RepTs K G H ds vs → k ds P →
  (∀ d' v' G' H', Step G H G' H' → Rep K G' d' v' → P d' → Q v' H') → r vs H Q
def Sem2F (K : PySem.W.Frag) (r : R2) (k : D → D → (D → Prop) → Prop) : Prop := ∀ (G H : Hp) (d1 d2 : D) (v1 v2 : V) (P : D → Prop) (Q : VK), Same G H → RepT K G H d1 v1 → RepT K G H d2 v2 → k d1 d2 P →
  (∀ d' p o, H p = none → RepO K G d' o → P d' → Q (.ref p) (upd H p o)) → r v1 v2 H Q
def SemNF (K : PySem.W.Frag) (r : List V → Hp → VK → Prop) (k : List D → (D → Prop) → Prop) : Prop := ∀ (G H : Hp) (ds : List D) (vs : List V) (P : D → Prop) (Q : VK), Same G H → RepTs K G H ds vs → k ds P →
  (∀ d' p o, H p = none → RepO K G d' o → P d' → Q (.ref p) (upd H p o)) → r vs H Q
def w1 (k : D → (D → Prop) → Prop) (wa : WO) : WE := fun env Q X => wa env (fun h e => mo (hv e h) fun d => k d fun d' => Q d' e) X
def w2 (k : D → D → (D → Prop) → Prop) (wa wb : WO) : WE := fun env Q X => wa env (fun h1 e1 => wb e1 (fun h2 e2 => mo (hv e2 h1) fun d1 => mo (hv e2 h2) fun d2 => k d1 d2 fun d => Q d e2) X) X
def wN (k : List D → (D → Prop) → Prop) (wa : WA) : WE := fun env Q X => wa env (fun hs e => mo (hvs e hs) fun ds => k ds fun d => Q d e) X
variable {K : PySem.W.Frag} {wa wb : WO}
theorem l1 {r : V → Hp → VK → Prop} {k : D → (D → Prop) → Prop} (hk : Sem1 K r k) (σ : St) (H : Hp) (Q : VK) (h : lO K W (imO (w1 k wa)) σ H Q) : tUn r (lO K W wa) σ H Q := by
  obtain ⟨x, G, env, Q', X', r', hw, hn, hx⟩ := h
  refine ⟨x, G, env, _, X', r', hw, fun h1 e1 v1 G1 H1 s1 r1 q1 hw1 => ?_, hx⟩
  obtain ⟨d, e, kk⟩ := mo_some hw1
  exact hk G1 H1 d v1 _ Q r1.sG (q1.read r1 e) kk fun d' v' G' H' st rp hp => hn (.im d') e1 v' G' H' (s1.trans st.g) (r1.step st) rp hp
theorem l2 {r : R2} {k : D → D → (D → Prop) → Prop} (hk : Sem2 K r k) (σ : St) (H : Hp) (Q : VK) (h : lO K W (imO (w2 k wa wb)) σ H Q) : tOp r (lO K W wa) (lO K W wb) σ H Q := by
  obtain ⟨x, G, env, Q', X', r', hw, hn, hx⟩ := h
  refine ⟨x, G, env, _, X', r', hw, fun h1 e1 v1 G1 H1 s1 r1 q1 hw1 => ⟨x, G1, e1, _, X', r1, hw1, fun h2 e2 v2 G2 H2 s2 r2 q2 hw2 => ?_, hx.up s1⟩, hx⟩
  obtain ⟨d1, y1, hw2⟩ := mo_some hw2
  obtain ⟨d2, y2, kk⟩ := mo_some hw2
  exact hk G2 H2 d1 d2 v1 v2 _ Q r2.sG ((q1.mono s2).read r2 y1) (q2.read r2 y2) kk fun d' v' G' H' st rp hp => hn (.im d') e2 v' G' H' ((s1.trans s2).trans st.g) (r2.step st) rp hp
theorem lN {r : List V → Hp → VK → Prop} {k : List D → (D → Prop) → Prop} {wl : WA} (hk : SemN K r k) (σ : St) (H : Hp) (Q : VK) (h : lO K W (imO (wN k wl)) σ H Q) : tCB r (lA K W wl) σ H Q := by
  obtain ⟨x, G, env, Q', X', r', hw, hn, hx⟩ := h
  refine ⟨x, G, env, _, X', r', hw, fun hs e1 vs G1 H1 s1 r1 q1 hw1 => ?_, hx⟩
  obtain ⟨ds, y1, kk⟩ := mo_some hw1
  exact hk G1 H1 ds vs _ Q r1.sG (q1.read r1 y1) kk fun d' v' G' H' st rp hp => hn (.im d') e1 v' G' H' (s1.trans st.g) (r1.step st) rp hp
theorem fresh_F {x : Fx} {G H : Hp} {σ : St} {env : Ev} (r : ER K x G H σ env) {p : Addr} (hp : H p = none) : x.F p = none ∧ G p = none ∧ ∀ (j : Nat) b d', env[j]? = some (.ow b d') → σ[j]? ≠ some (some (.ref p)) :=
  ⟨r.sF.free hp, r.sG.free hp, fun j b d' e z => by
    obtain ⟨p', o, e1, e2, _⟩ := r.ow j b d' e
    rw [z] at e1
    cases e1
    rw [hp] at e2
    cases e2⟩
theorem l2F {r : R2} {k : D → D → (D → Prop) → Prop} (hk : Sem2F K r k) (σ : St) (H : Hp) (Q : VK) (h : lF K W (w2 k wa wb) σ H Q) : tOp r (lO K W wa) (lO K W wb) σ H Q := by
  obtain ⟨x, G, env, Q', X', r', hw, hn, hx⟩ := h
  refine ⟨x, G, env, _, X', r', hw, fun h1 e1 v1 G1 H1 s1 r1 q1 hw1 => ⟨x, G1, e1, _, X', r1, hw1, fun h2 e2 v2 G2 H2 s2 r2 q2 hw2 => ?_, hx.up s1⟩, hx⟩
  obtain ⟨d1, y1, hw2⟩ := mo_some hw2
  obtain ⟨d2, y2, kk⟩ := mo_some hw2
  refine hk G2 H2 d1 d2 v1 v2 _ Q r2.sG ((q1.mono s2).read r2 y1) (q2.read r2 y2) kk fun d' p o hp rp hq => ?_
  obtain ⟨f1, f2, f3⟩ := fresh_F r2 hp
  exact hn d' e2 p o G2 (upd H2 p o) (s1.trans s2) (r2.step (Step.junk r2.sG o hp)) upd_same rp f2 f1 f3 hq
theorem lNF {r : List V → Hp → VK → Prop} {k : List D → (D → Prop) → Prop} {wl : WA} (hk : SemNF K r k) (σ : St) (H : Hp) (Q : VK) (h : lF K W (wN k wl) σ H Q) : tCB r (lA K W wl) σ H Q := by
  obtain ⟨x, G, env, Q', X', r', hw, hn, hx⟩ := h
  refine ⟨x, G, env, _, X', r', hw, fun hs e1 vs G1 H1 s1 r1 q1 hw1 => ?_, hx⟩
  obtain ⟨ds, y1, kk⟩ := mo_some hw1
  refine hk G1 H1 ds vs _ Q r1.sG (q1.read r1 y1) kk fun d' p o hp rp hq => ?_
  obtain ⟨f1, f2, f3⟩ := fresh_F r1 hp
  exact hn d' e1 p o G1 (upd H1 p o) s1 (r1.step (Step.junk r1.sG o hp)) upd_same rp f2 f1 f3 hq
theorem qe_op {op : Operator} {r : R2} {k : D → D → (D → Prop) → Prop} (ho : OpR X (binaryOp op) r) (hk : Sem2 X.K r k) (ha : QO X W a wa) (hb : QO X W b wb) : QE X W (.BinOp a op b pos) (w2 k wa wb) := (pe_op ho ha hb).le (l2 hk)
theorem qf_op {op : Operator} {r : R2} {k : D → D → (D → Prop) → Prop} (ho : OpR X (binaryOp op) r) (hk : Sem2F X.K r k) (ha : QO X W a wa) (hb : QO X W b wb) : QF X W (.BinOp a op b pos) (w2 k wa wb) := (pe_op ho ha hb).le (l2F hk)
theorem qe_un {op : UnaryOp} {r : V → Hp → VK → Prop} {k : D → (D → Prop) → Prop} (ho : UnR X (unaryOp op) r) (hk : Sem1 X.K r k) (ha : QO X W a wa) : QE X W (.UnaryOp op a pos) (w1 k wa) := (pe_un ho ha).le (l1 hk)
def kI (C : Int → Int → Prop) (g : Int → Int → D) : D → D → (D → Prop) → Prop := fun d1 d2 P => mo (intOf d1) fun i => mo (intOf d2) fun j => C i j ∧ P (g i j)
def kI0 (g : Int → Int → D) : D → D → (D → Prop) → Prop := fun d1 d2 P => mo (intOf d1) fun i => mo (intOf d2) fun j => P (g i j)
theorem sem_rI {C : Int → Int → Prop} {g : Int → Int → V} {g' : Int → Int → D} (hg : ∀ G i j, Rep K G (g' i j) (g i j)) : Sem2 K (rI C g) (kI C g') := fun G H d1 d2 v1 v2 P Q s h1 h2 hk hq => by
  obtain ⟨i, z1, hk⟩ := mo_some hk
  obtain ⟨j, z2, c, p⟩ := mo_some hk
  rw [intOf_some z1] at h1
  rw [intOf_some z2] at h2
  have e1 : v1 = .int i := h1
  have e2 : v2 = .int j := h2
  exact ⟨i, j, e1, e2, c, hq _ _ G H (.refl s) (hg G i j) p⟩
theorem sem_rI0 {g : Int → Int → V} {g' : Int → Int → D} (hg : ∀ G i j, Rep K G (g' i j) (g i j)) : Sem2 K (rI0 g) (kI0 g') := fun G H d1 d2 v1 v2 P Q s h1 h2 hk hq => by
  obtain ⟨i, z1, hk⟩ := mo_some hk
  obtain ⟨j, z2, p⟩ := mo_some hk
  rw [intOf_some z1] at h1
  rw [intOf_some z2] at h2
  have e1 : v1 = .int i := h1
  have e2 : v2 = .int j := h2
  exact ⟨i, j, e1, e2, hq _ _ G H (.refl s) (hg G i j) p⟩
theorem sem_rU {g : Int → V} {g' : Int → D} (hg : ∀ G i, Rep K G (g' i) (g i)) : Sem1 K (rU g) (fun d P => mo (intOf d) fun i => P (g' i)) := fun G H d v P Q s h hk hq => by
  obtain ⟨i, z1, p⟩ := mo_some hk
  rw [intOf_some z1] at h
  exact ⟨i, h, hq _ _ G H (.refl s) (hg G i) p⟩
end
end TL

namespace TL
open PySem PySem.Spec L2
section
variable {X : Cx} {W : WX} {a b c e : Expr} {pos : Pos} {wa wb : WO} {we wf : WE}

def kAdd := kI0 fun i j => .int (i + j)
def kSub := kI0 fun i j => .int (i - j)
def kMul := kI CMul fun i j => .int (i * j)
def kMulW := kI CMulW fun i j => .int (i * j)
def kDivW := kI CDivW fun i j => .int (i / j)
def kMod := kI (fun _ j => 0 < j) fun i j => .int (i % j)
def kPow := kI CPow fun i j => .int (i ^ j.toNat)
def kLt := kI0 fun i j => .bl (decide (i < j))
def kLe := kI0 fun i j => .bl (decide (i ≤ j))
def kGt := kI0 fun i j => .bl (decide (j < i))
def kGe := kI0 fun i j => .bl (decide (j ≤ i))
theorem qe_sub (ha : QO X W a wa) (hb : QO X W b wb) : QE X W (.BinOp a .Sub b pos) (w2 kSub wa wb) := qe_op op_sub (sem_rI0 fun _ _ _ => rfl) ha hb
theorem qe_div (ha : QO X W a wa) (hb : QO X W b wb) : QE X W (.BinOp a .FloorDiv b pos) (w2 kDivW wa wb) := qe_op op_fdivW (sem_rI fun _ _ _ => rfl) ha hb
theorem qe_mod (ha : QO X W a wa) (hb : QO X W b wb) : QE X W (.BinOp a .Mod b pos) (w2 kMod wa wb) := qe_op op_mod (sem_rI fun _ _ _ => rfl) ha hb
theorem qe_pow (ha : QO X W a wa) (hb : QO X W b wb) : QE X W (.BinOp a .Pow b pos) (w2 kPow wa wb) := qe_op op_pow (sem_rI fun _ _ _ => rfl) ha hb
def kNeg : D → (D → Prop) → Prop := fun d P => mo (intOf d) fun i => P (.int (-i))
theorem qe_neg (ha : QO X W a wa) : QE X W (.UnaryOp .USub a pos) (w1 kNeg wa) := qe_un un_neg (sem_rU fun _ _ => rfl) ha

theorem imO_mono {w : WE} {env : Ev} {P : D → Ev → Prop} {X' : XP} (h : w env P X') : imO w env (fun h e => ∃ d, h = .im d ∧ P d e) X' := by
  show w env (fun d e => ∃ d', Hd.im d = .im d' ∧ P d' e) X'
  have e : (fun (d : D) (e : Ev) => ∃ d', Hd.im d = .im d' ∧ P d' e) = P := by
    funext d e
    apply propext
    constructor
    · rintro ⟨d', z, q⟩
      rw [Hd.im.inj z]
      exact q
    · intro q
      exact ⟨d, rfl, q⟩
  rw [e]
  exact h
def wB (w : WE) : WT := fun env Q Xp => w env (fun d e => mo (blOf d) fun k => Q k e) Xp
theorem lB {K : PySem.W.Frag} (σ : St) (H : Hp) (Q : Bool → Hp → Prop) (h : lT K W (wB we) σ H Q) : lO K W (imO we) σ H fun x H' => ∃ k, x = .bl k ∧ Q k H' := by
  obtain ⟨x, G, env, Q', X', r, hw, hn, hx⟩ := h
  refine ⟨x, G, env, _, X', r, imO_mono hw, fun h e v G' H' s r' q hq => ?_, hx⟩
  obtain ⟨d, rfl, hq⟩ := hq
  obtain ⟨k, z, q'⟩ := mo_some hq
  rw [blOf_some z] at q
  have q2 : v = .bl k := q
  exact ⟨k, q2, hn k e G' H' s r' q'⟩
structure QC (X : Cx) (W : WX) (op : CmpOp) (a b : Expr) (w : WE) : Prop where
  e : ∀ pos, QE X W (.Compare a [op] [b] pos) w
  t : ∀ pos, QT X W (.Compare a [op] [b] pos) (wB w)
theorem qc {op : CmpOp} {r : R2} {k : D → D → (D → Prop) → Prop} (ho : OpR X (compareOp op) r) (hk : Sem2 X.K r k) (ha : QO X W a wa) (hb : QO X W b wb) (hm : behindInMarks op b = false) : QC X W op a b (w2 k wa wb) :=
  ⟨fun _ => (pe_cmpR ho ha hb hm).le (l2 hk), fun _ => (pt_cmpR ho ha hb hm).le fun σ H Q h => l2 hk σ H _ (lB σ H Q h)⟩
theorem qc_lt (ha : QO X W a wa) (hb : QO X W b wb) : QC X W .Lt a b (w2 kLt wa wb) := qc op_lt (sem_rI0 fun _ _ _ => rfl) ha hb (nomark _)
theorem qc_le (ha : QO X W a wa) (hb : QO X W b wb) : QC X W .LtE a b (w2 kLe wa wb) := qc op_le (sem_rI0 fun _ _ _ => rfl) ha hb (nomark _)
theorem qc_gt (ha : QO X W a wa) (hb : QO X W b wb) : QC X W .Gt a b (w2 kGt wa wb) := qc op_gt (sem_rI0 fun _ _ _ => rfl) ha hb (nomark _)
theorem qc_ge (ha : QO X W a wa) (hb : QO X W b wb) : QC X W .GtE a b (w2 kGe wa wb) := qc op_ge (sem_rI0 fun _ _ _ => rfl) ha hb (nomark _)

mutual
def pd : D → PyData
  | .non => .none
  | .bl b => .bool b
  | .int i => .int i
  | .str x => .str x
  | .lst ds => .list (pds ds)
  | .tup ds => .tuple (pds ds)
  | .ty _ => .none
  | .ins _ _ _ => .none
  | .dic _ _ => .none
  | .dit _ _ => .none
  | .tpo _ => .none
  | .tpn _ => .none
  | .exc _ _ _ _ => .none
def pds : List D → List PyData
  | [] => []
  | d :: ds => pd d :: pds ds
end
def okD : Nat → D → Bool
  | _, .non => true
  | _, .bl _ => true
  | _, .int _ => true
  | _, .str x => PySem.PyData.strOk x
  | n + 1, .lst ds => ds.all (okD n)
  | n + 1, .tup ds => ds.all (okD n)
  | _, _ => false
def eqD (d e : D) : Bool := PyData.eqv (pd d) (pd e)
theorem lay_all {n : Nat} (h : ∀ d, okD n d = true → (pd d).canLay0 = true ∧ (pd d).depth ≤ n) : ∀ ds : List D, ds.all (okD n) = true → PyData.canLayAll0 (pds ds) = true ∧ PyData.depthAll (pds ds) ≤ n
  | [], _ => by
    unfold pds PyData.canLayAll0 PyData.depthAll
    exact ⟨rfl, Nat.zero_le _⟩
  | d :: ds, q => by
    rw [List.all_cons, Bool.and_eq_true] at q
    obtain ⟨h1, h2⟩ := h d q.1
    obtain ⟨h3, h4⟩ := lay_all h ds q.2
    unfold pds PyData.canLayAll0 PyData.depthAll
    rw [h1, h3]
    exact ⟨rfl, Nat.max_le.mpr ⟨h2, h4⟩⟩
theorem okD_lay : ∀ (n : Nat) (d : D), okD n d = true → (pd d).canLay0 = true ∧ (pd d).depth ≤ n
  | n, .non, _ => by unfold pd PyData.canLay0 PyData.depth; exact ⟨rfl, Nat.zero_le _⟩
  | n, .bl b, _ => by unfold pd PyData.canLay0 PyData.depth; exact ⟨rfl, Nat.zero_le _⟩
  | n, .int b, _ => by unfold pd PyData.canLay0 PyData.depth; exact ⟨rfl, Nat.zero_le _⟩
  | n, .str b, q => by
    have q' : PySem.PyData.strOk b = true := by
      cases n <;> exact q
    unfold pd PyData.canLay0 PyData.depth
    exact ⟨q', Nat.zero_le _⟩
  | 0, .lst ds, q => by cases q
  | 0, .tup ds, q => by cases q
  | n + 1, .lst ds, q => by
    obtain ⟨h1, h2⟩ := lay_all (okD_lay n) ds q
    unfold pd PyData.canLay0 PyData.depth
    exact ⟨h1, Nat.succ_le_succ h2⟩
  | n + 1, .tup ds, q => by
    obtain ⟨h1, h2⟩ := lay_all (okD_lay n) ds q
    unfold pd PyData.canLay0 PyData.depth
    exact ⟨h1, Nat.succ_le_succ h2⟩
  | n, .ty _, q => by cases n <;> cases q
  | n, .ins _ _ _, q => by cases n <;> cases q
  | n, .dic _ _, q => by cases n <;> cases q
  | n, .dit _ _, q => by cases n <;> cases q
  | n, .tpo _, q => by cases n <;> cases q
  | n, .tpn _, q => by cases n <;> cases q
  | n, .exc _ _ _ _, q => by cases n <;> cases q
theorem okD_shaped {n : Nat} {d : D} (hn : n ≤ 64) (h : okD n d = true) : SeqAt.shaped (pd d) = true := by
  obtain ⟨h1, h2⟩ := okD_lay n d h
  unfold SeqAt.shaped
  rw [h1, decide_eq_true (Nat.le_trans h2 hn)]
  rfl
theorem eqD_refl {n : Nat} {d : D} (h : okD n d = true) : eqD d d = true := SeqAt.eqv_refl _ (okD_lay n d h).1
section
variable {K : PySem.W.Frag} {G H : Hp}
theorem dp_all {n : Nat} (ih : ∀ d v, okD n d = true → Rep K G d v → Dp K H v (pd d)) : ∀ (ds : List D) (vs : List V), ds.all (okD n) = true → Reps K G ds vs → DpAll K H vs (pds ds)
  | [], vs, _, h => by
    unfold Reps at h
    rw [h]
    unfold pds
    exact .nil
  | d :: ds, vs, q, h => by
    unfold Reps at h
    obtain ⟨v, r, rfl, h1, h2⟩ := h
    rw [List.all_cons, Bool.and_eq_true] at q
    unfold pds
    exact .cons (ih d v q.1 h1) (dp_all ih ds r q.2 h2)
theorem Rep.dp (s : Same G H) : ∀ (n : Nat) (d : D) (v : V), okD n d = true → Rep K G d v → Dp K H v (pd d)
  | n, .non, v, _, h => by
    have e : v = .non := h
    rw [e]; unfold pd; exact .non
  | n, .bl b, v, _, h => by
    have e : v = .bl b := h
    rw [e]; unfold pd; exact .bl b
  | n, .int b, v, _, h => by
    have e : v = .int b := h
    rw [e]; unfold pd; exact .int b
  | n, .str b, v, _, h => by
    have e : v = .str b := h
    rw [e]; unfold pd; exact .str b
  | 0, .lst ds, v, q, h => by cases q
  | 0, .tup ds, v, q, h => by cases q
  | n + 1, .lst ds, v, q, h => by
    unfold Rep at h
    obtain ⟨a, vs, rfl, h1, h2⟩ := h
    unfold pd
    exact .lst (s.seq h1) (dp_all (Rep.dp s n) ds vs q h2)
  | n + 1, .tup ds, v, q, h => by
    unfold Rep at h
    obtain ⟨a, vs, rfl, h1, h2⟩ := h
    unfold pd
    exact .tup (sameT s h1) (dp_all (Rep.dp s n) ds vs q h2)
  | n, .ty _, v, q, h => by cases n <;> cases q
  | n, .ins _ _ _, v, q, h => by cases n <;> cases q
  | n, .dic _ _, v, q, h => by cases n <;> cases q
  | n, .dit _ _, v, q, h => by cases n <;> cases q
  | n, .tpo _, v, q, h => by cases n <;> cases q
  | n, .tpn _, v, q, h => by cases n <;> cases q
  | n, .exc _ _ _ _, v, q, h => by cases n <;> cases q
theorem RepT.dp (s : Same G H) : ∀ (n : Nat) (d : D) (v : V), okD n d = true → RepT K G H d v → Dp K H v (pd d)
  | n, .non, v, _, h => by
    have e : v = .non := h
    rw [e]; unfold pd; exact .non
  | n, .bl b, v, _, h => by
    have e : v = .bl b := h
    rw [e]; unfold pd; exact .bl b
  | n, .int b, v, _, h => by
    have e : v = .int b := h
    rw [e]; unfold pd; exact .int b
  | n, .str b, v, _, h => by
    have e : v = .str b := h
    rw [e]; unfold pd; exact .str b
  | 0, .lst ds, v, q, h => by cases q
  | 0, .tup ds, v, q, h => by cases q
  | n + 1, .lst ds, v, q, h => by
    obtain ⟨a, vs, rfl, h1, h2⟩ := h
    unfold pd
    exact .lst h1 (dp_all (Rep.dp s n) ds vs q h2)
  | n + 1, .tup ds, v, q, h => by
    obtain ⟨a, vs, rfl, h1, h2, _⟩ := h
    unfold pd
    exact .tup h1 (dp_all (Rep.dp s n) ds vs q h2)
  | n, .ty _, v, q, h => by cases n <;> cases q
  | n, .ins _ _ _, v, q, h => by cases n <;> cases q
  | n, .dic _ _, v, q, h => by cases n <;> cases q
  | n, .dit _ _, v, q, h => by cases n <;> cases q
  | n, .tpo _, v, q, h => by cases n <;> cases q
  | n, .tpn _, v, q, h => by cases n <;> cases q
  | n, .exc _ _ _ _, v, q, h => by cases n <;> cases q
end
def kEq : D → D → (D → Prop) → Prop := fun d1 d2 P => okD 16 d1 = true ∧ okD 16 d2 = true ∧ P (.bl (eqD d1 d2))
def kNe : D → D → (D → Prop) → Prop := fun d1 d2 P => okD 16 d1 = true ∧ okD 16 d2 = true ∧ P (.bl (!eqD d1 d2))
theorem sem_eq {K : PySem.W.Frag} : Sem2 K (rEqD K) kEq := fun G H d1 d2 v1 v2 P Q s h1 h2 hk hq =>
  ⟨pd d1, pd d2, RepT.dp s 16 d1 v1 hk.1 h1, RepT.dp s 16 d2 v2 hk.2.1 h2, okD_shaped (by decide) hk.1, okD_shaped (by decide) hk.2.1, hq (.bl (eqD d1 d2)) _ G H (.refl s) rfl hk.2.2⟩
theorem sem_ne {K : PySem.W.Frag} : Sem2 K (rNeD K) kNe := fun G H d1 d2 v1 v2 P Q s h1 h2 hk hq =>
  ⟨pd d1, pd d2, RepT.dp s 16 d1 v1 hk.1 h1, RepT.dp s 16 d2 v2 hk.2.1 h2, okD_shaped (by decide) hk.1, okD_shaped (by decide) hk.2.1, hq (.bl (!eqD d1 d2)) _ G H (.refl s) rfl hk.2.2⟩
theorem qc_eq (hu : X.A.units + 64 < cLine) (ha : QO X W a wa) (hb : QO X W b wb) : QC X W .Eq a b (w2 kEq wa wb) := qc (op_eqD hu) sem_eq ha hb (nomark _)
theorem qc_ne (hu : X.A.units + 64 < cLine) (ha : QO X W a wa) (hb : QO X W b wb) : QC X W .NotEq a b (w2 kNe wa wb) := qc (op_neD hu) sem_ne ha hb (nomark _)

theorem rep_non {K : PySem.W.Frag} {G H : Hp} : ∀ {d : D} {v : V}, RepT K G H d v → (decide (v = .non) = match d with | .non => true | _ => false)
  | .non, v, h => by
    have e : v = .non := h
    rw [e]; rfl
  | .bl b, v, h => by
    have e : v = .bl b := h
    rw [e]; rfl
  | .int b, v, h => by
    have e : v = .int b := h
    rw [e]; rfl
  | .str b, v, h => by
    have e : v = .str b := h
    rw [e]; rfl
  | .exc a dd ns ds, v, h => by
    have h' : Rep K G (.exc a dd ns ds) v := h
    unfold Rep at h'
    rw [h'.1]; rfl
  | .ty b, v, h => by
    have e : v = .ty b := h
    rw [e]; rfl
  | .lst ds, v, h => by
    obtain ⟨a, vs, rfl, _⟩ := h
    rfl
  | .tup ds, v, h => by
    obtain ⟨a, vs, rfl, _⟩ := h
    rfl
  | .ins c ns ds, v, h => by
    obtain ⟨a, dx, vs, rfl, _⟩ := h
    rfl
  | .dic ks ds, v, h => by
    obtain ⟨a, vs, rfl, _⟩ := h
    rfl
  | .dit ks ds, v, h => by
    obtain ⟨a, vs, rfl, _⟩ := h
    rfl
  | .tpo ds, v, h => by
    obtain ⟨a, vs, rfl, _⟩ := h
    rfl
  | .tpn ds, v, h => by
    obtain ⟨a, vs, rfl, _⟩ := h
    rfl
def isNon : D → Bool
  | .non => true
  | _ => false
def kIsN : D → (D → Prop) → Prop := fun d P => P (.bl (isNon d))
theorem sem_isN {K : PySem.W.Frag} : Sem1 K (fun x H Q => Q (.bl (decide (x = .non))) H) kIsN := fun G H d v P Q s h hk hq => by
  show Q (.bl (decide (v = .non))) H
  rw [rep_non h]
  exact hq (.bl (isNon d)) _ G H (.refl s) (by cases d <;> rfl) hk
theorem qc_isN {j pos'} (ha : QO X W a wa) : QC X W .Is a (.Constant .none j pos') (w1 kIsN wa) :=
  ⟨fun _ => (pe_cmp (pc_isN ha)).le (l1 sem_isN), fun _ => (pt_cmp (pc_isN ha)).le fun σ H Q h => l1 sem_isN σ H _ (lB σ H Q h)⟩
def wAnd (wt wu : WT) : WT := fun env Q Xp => wt env (fun k e => if k = true then wu e Q Xp else Q false e) Xp
def wOr (wt wu : WT) : WT := fun env Q Xp => wt env (fun k e => if k = true then Q true e else wu e Q Xp) Xp
def wNot (wt : WT) : WT := fun env Q Xp => wt env (fun k e => Q (!k) e) Xp
variable {wt wu : WT} {rest : List Expr}
theorem qt_val (h : QE X W e we) (he : ∀ whole, isTrue e X.env whole = (do let v ← whole; standAt e.pos; holding [v] (truthy v)) := by intro _; rfl) : QT X W e (wB we) := (pt_val h he).le lB
theorem lTT {K : PySem.W.Frag} {f : Bool → (Bool → Ev → Prop) → XP → Ev → Prop} {g : Bool → St → Hp → (Bool → Hp → Prop) → Prop} (hf : ∀ k x G env σ H Q' X' (Q : Bool → Hp → Prop), ER K x G H σ env → f k Q' X' env →
      (∀ b env' G' H', Same G G' → ER K x G' H' σ env' → Q' b env' → Q b H') → Xend K W x G σ X' → g k σ H Q) (σ : St) (H : Hp) (Q : Bool → Hp → Prop)
    (h : lT K W (fun env Q' Xp => wt env (fun k e => f k Q' Xp e) Xp) σ H Q) : lT K W wt σ H fun k H1 => g k σ H1 Q := by
  obtain ⟨x, G, env, Q', X', r, hw, hn, hx⟩ := h
  exact ⟨x, G, env, _, X', r, hw, fun k e G' H' s r' q => hf k x G' e σ H' Q' X' Q r' q (fun b env' G2 H2 s2 => hn b env' G2 H2 (s.trans s2)) (hx.up s), hx⟩
theorem qw_and1 (ha : QT X W a wt) : QW X W (.BoolOp .And [a] pos) wt := pw_and1 ha
theorem qw_or1 (ha : QT X W a wt) : QW X W (.BoolOp .Or [a] pos) wt := pw_or1 ha
theorem qw_and (ha : QT X W a wt) (hb : QW X W (.BoolOp .And (b :: rest) pos) wu) : QW X W (.BoolOp .And (a :: b :: rest) pos) (wAnd wt wu) := (pw_and ha hb).le
  (lTT (f := fun k Q' Xp e => if k = true then wu e Q' Xp else Q' false e) (g := fun k σ H Q => if k = true then lT X.K W wu σ H Q else Q false H) (fun k x G env σ H Q' X' Q r q hn hx => by
    cases k with
    | true => exact ⟨x, G, env, Q', X', r, q, hn, hx⟩
    | false => exact hn false env G H (.refl _) r q))
theorem qw_or (ha : QT X W a wt) (hb : QW X W (.BoolOp .Or (b :: rest) pos) wu) : QW X W (.BoolOp .Or (a :: b :: rest) pos) (wOr wt wu) := (pw_or ha hb).le
  (lTT (f := fun k Q' Xp e => if k = true then Q' true e else wu e Q' Xp) (g := fun k σ H Q => if k = true then Q true H else lT X.K W wu σ H Q) (fun k x G env σ H Q' X' Q r q hn hx => by
    cases k with
    | false => exact ⟨x, G, env, Q', X', r, q, hn, hx⟩
    | true => exact hn true env G H (.refl _) r q))
theorem qt_not (ha : QT X W a wt) : QT X W (.UnaryOp .Not a pos) (wNot wt) := (pt_not ha).le
  (lTT (f := fun k Q' _ e => Q' (!k) e) (g := fun k σ H Q => Q (!k) H) fun k x G env σ H Q' X' Q r q hn hx => hn (!k) env G H (.refl _) r q)
def vAnd (wa wb : WE) : WE := fun env Q Xp => wa env (fun d e => mo (blOf d) fun k => if k = true then wb e Q Xp else Q (.bl false) e) Xp
def vOr (wa wb : WE) : WE := fun env Q Xp => wa env (fun d e => mo (blOf d) fun k => if k = true then Q (.bl true) e else wb e Q Xp) Xp
def vNot (wa : WE) : WE := fun env Q Xp => wa env (fun d e => mo (blOf d) fun k => Q (.bl (!k)) e) Xp
theorem qe_one {op} (h : QE X W a we) : QE X W (.BoolOp op [a] pos) we := pe_one h
theorem qe_and (ha : QE X W a we) (hb : QE X W (.BoolOp .And (b :: rest) pos) wf) : QE X W (.BoolOp .And (a :: b :: rest) pos) (vAnd we wf) := (pe_and ha hb).le fun σ H Q h => by
  obtain ⟨x, G, env, Q', X', r, hw, hn, hx⟩ := h
  refine ⟨x, G, env, _, X', r, imO_mono hw, fun h e v G' H' s r' q hq => ?_, hx⟩
  obtain ⟨d, rfl, hq⟩ := hq
  obtain ⟨k, z, q'⟩ := mo_some hq
  rw [blOf_some z] at q
  have q2 : v = .bl k := q
  refine ⟨k, q2, ?_⟩
  cases k with
  | true => exact ⟨x, G', e, Q', X', r', q', fun h e2 v2 G2 H2 s2 => hn h e2 v2 G2 H2 (s.trans s2), hx.up s⟩
  | false => exact hn (.im (.bl false)) e (.bl false) G' H' s r' rfl q'
theorem qe_or (ha : QE X W a we) (hb : QE X W (.BoolOp .Or (b :: rest) pos) wf) : QE X W (.BoolOp .Or (a :: b :: rest) pos) (vOr we wf) := (pe_or ha hb).le fun σ H Q h => by
  obtain ⟨x, G, env, Q', X', r, hw, hn, hx⟩ := h
  refine ⟨x, G, env, _, X', r, imO_mono hw, fun h e v G' H' s r' q hq => ?_, hx⟩
  obtain ⟨d, rfl, hq⟩ := hq
  obtain ⟨k, z, q'⟩ := mo_some hq
  rw [blOf_some z] at q
  have q2 : v = .bl k := q
  refine ⟨k, q2, ?_⟩
  cases k with
  | false => exact ⟨x, G', e, Q', X', r', q', fun h e2 v2 G2 H2 s2 => hn h e2 v2 G2 H2 (s.trans s2), hx.up s⟩
  | true => exact hn (.im (.bl true)) e (.bl true) G' H' s r' rfl q'
theorem qe_not (ha : QE X W a we) : QE X W (.UnaryOp .Not a pos) (vNot we) := (pe_not ha).le fun σ H Q h => by
  obtain ⟨x, G, env, Q', X', r, hw, hn, hx⟩ := h
  refine ⟨x, G, env, _, X', r, imO_mono hw, fun h e v G' H' s r' q hq => ?_, hx⟩
  obtain ⟨d, rfl, hq⟩ := hq
  obtain ⟨k, z, q'⟩ := mo_some hq
  rw [blOf_some z] at q
  have q2 : v = .bl k := q
  exact ⟨k, q2, hn (.im (.bl (!k))) e (.bl (!k)) G' H' s r' rfl q'⟩
def wIfE (wc : WT) (wa wb : WO) : WO := fun env Q Xp => wc env (fun k e => if k = true then wa e Q Xp else wb e Q Xp) Xp
def wIfX (wc : WT) (wa wb : WE) : WE := fun env Q Xp => wc env (fun k e => if k = true then wa e Q Xp else wb e Q Xp) Xp
theorem qo_if {c : Expr} (hc : QT X W c wt) (ha : QO X W a wa) (hb : QO X W b wb) : QO X W (.IfExp c a b pos) (wIfE wt wa wb) := (pe_ifExp hc ha hb).le fun σ H Q h => by
  obtain ⟨x, G, env, Q', X', r, hw, hn, hx⟩ := h
  refine ⟨x, G, env, _, X', r, hw, fun k e G' H' s r' q => ?_, hx⟩
  cases k with
  | true => exact ⟨x, G', e, Q', X', r', q, fun h e2 v2 G2 H2 s2 => hn h e2 v2 G2 H2 (s.trans s2), hx.up s⟩
  | false => exact ⟨x, G', e, Q', X', r', q, fun h e2 v2 G2 H2 s2 => hn h e2 v2 G2 H2 (s.trans s2), hx.up s⟩
theorem qe_if {c : Expr} (hc : QT X W c wt) (ha : QE X W a we) (hb : QE X W b wf) : QE X W (.IfExp c a b pos) (wIfX wt we wf) := qo_if hc ha hb

def aNil : WA := fun env Q _ => Q [] env
def aCons (w : WO) (wl : WA) : WA := fun env Q Xp => w env (fun h e => wl e (fun hs e2 => Q (h :: hs) e2) Xp) Xp
variable {wl : WA} {es : List Expr}
theorem qa_nil : QA X W [] aNil := pa_nil.le fun σ H Q h => by
  obtain ⟨x, G, env, Q', X', r, hw, hn, hx⟩ := h
  exact hn [] env [] G H (.refl _) r rfl hw
theorem qa_cons (ha : QO X W e wa) (hr : QA X W es wl) (hs : starEach (e :: es) X.env = (false, eval e X.env) :: starEach es X.env := by rfl) : QA X W (e :: es) (aCons wa wl) := (pa_cons ha hr hs).le fun σ H Q h => by
  obtain ⟨x, G, env, Q', X', r, hw, hn, hx⟩ := h
  exact ⟨x, G, env, _, X', r, hw, fun h e1 v G1 H1 s1 r1 q1 hw1 => ⟨x, G1, e1, _, X', r1, hw1, fun hs e2 vs G2 H2 s2 r2 q2 hw2 => hn (h :: hs) e2 (v :: vs) G2 H2 (s1.trans s2) r2 ⟨v, vs, rfl, q1.mono s2, q2⟩ hw2, hx.up s1⟩, hx⟩
def wLst (wl : WA) : WE := fun env Q Xp => wl env (fun hs e => mo (ims hs) fun ds => ds.length ≤ 1000000 ∧ Q (.lst ds) e) Xp
def wTup (wl : WA) : WE := fun env Q Xp => wl env (fun hs e => mo (ims hs) fun ds => ds.length ≤ 1000000 ∧ Q (.tup ds) e) Xp
theorem line_le {n : Nat} (h : n ≤ 1000000) : n ≤ sizeLine := by
  rw [sizeLine_eq]
  omega
theorem line_lt {n : Nat} (h : n ≤ 1000000) : n < sizeLine := by
  rw [sizeLine_eq]
  omega
theorem qf_lst (h : QA X W es wl) : QF X W (.List es pos) (wLst wl) := (pe_lst h).le fun σ H Q h => by
  obtain ⟨x, G, env, Q', X', r, hw, hn, hx⟩ := h
  refine ⟨x, G, env, _, X', r, hw, fun hs e vs G' H' s r' q hq => ?_, hx⟩
  obtain ⟨ds, y, hl, hq⟩ := mo_some hq
  have rp := q.ims y
  refine ⟨by rw [rp.length]; exact line_le hl, fun p hp => ?_⟩
  obtain ⟨f1, f2, f3⟩ := fresh_F r' hp
  exact hn (.lst ds) e p (.lst vs) G' (upd H' p (.lst vs)) s (r'.step (Step.junk r'.sG _ hp)) upd_same ⟨vs, rfl, rp⟩ f2 f1 f3 hq
theorem qe_tup {x1} (h : QA X W es wl) : QE X W (.Tuple es x1 pos) (wTup wl) := (pe_tup h).le fun σ H Q h => by
  obtain ⟨x, G, env, Q', X', r, hw, hn, hx⟩ := h
  refine ⟨x, G, env, _, X', r, hw, fun hs e vs G' H' s r' q hq => ?_, hx⟩
  obtain ⟨ds, y, hl, hq⟩ := mo_some hq
  have rp := q.ims y
  refine ⟨by rw [rp.length]; exact line_le hl, fun p hp => ?_⟩
  have st := Step.one r'.sG (.tup vs) hp
  refine hn (.im (.tup ds)) e (.ref p) _ _ (s.trans st.g) (r'.step st) ?_ hq
  show Rep X.K _ (.tup ds) (.ref p)
  unfold Rep
  exact ⟨p, vs, rfl, SqT.of upd_same, Reps.mono st.g _ _ rp⟩
end
end TL

namespace TL
open PySem PySem.Spec L2
section
variable {X : Cx} {W : WX} {a b c e : Expr} {pos p : Pos} {wa wb : WO} {we wf : WE} {wl : WA} {es : List Expr} {K : PySem.W.Frag}

def rCatS (K : PySem.W.Frag) : R2 := fun x y H Q => ∃ l b xs zs, x = .ref l ∧ y = .ref b ∧ SqL K H l xs ∧ SqL K H b zs ∧ xs.length + zs.length ≤ sizeLine ∧ ∀ p, H p = none → Q (.ref p) (upd H p (.lst (xs ++ zs)))
theorem op_catS : OpR X (binaryOp .Add) (rCatS X.K) := by
  intro pins s σ H x y v u Q I rx ry h
  obtain ⟨l, b, xs, zs, rfl, rfl, hH, hB, hz, q⟩ := h
  cases rx
  cases ry
  obtain ⟨its, r, pl, hl⟩ := I.list hH
  obtain ⟨its2, r2, pl2, hl2⟩ := I.list hB
  have e1 := r.length
  have e2 := r2.length
  obtain ⟨⟨c1, dd, dt, sl⟩, n, ho, hc, hd0, hd⟩ := pl
  obtain ⟨⟨c2, dd2, dt2, sl2⟩, n2, ho2, hc2, hd02, hd2⟩ := pl2
  simp only at hc hd hd0 hc2 hd2 hd02
  subst hc hd hd0 hc2 hd2 hd02
  refine PySem.concat_meets ⟨_, ho, rfl⟩ ⟨_, ho2, rfl⟩ PySem.noFill_list_add PySem.seq_list_add PySem.F.slot_list_add PySem.F.entry_list_add (PySem.F.args_list_add_2 _ _) (PyProof.Rows.list_addW l b its.toArray its2.toArray n n2 none none sl sl2 (by rw [List.size_toArray, List.size_toArray]; omega)) ⟨ho, ho2, ?_⟩
  have ea : its.toArray ++ its2.toArray = (its ++ its2).toArray := by simp
  rw [ea]
  exact ⟨.ref _, _, I.lnew (t' := s.toks) (r.append r2) (by rw [List.length_append]; omega), rfl, q _ I.fresh⟩
def lstOf : D → Option (List D)
  | .lst ds => some ds
  | _ => none
def tupOf : D → Option (List D)
  | .tup ds => some ds
  | _ => none
def seqOf : D → Option (List D)
  | .lst ds => some ds
  | .tup ds => some ds
  | _ => none
theorem lstOf_some {d : D} {ds : List D} (h : lstOf d = some ds) : d = .lst ds := by
  cases d <;> cases h
  rfl
theorem tupOf_some {d : D} {ds : List D} (h : tupOf d = some ds) : d = .tup ds := by
  cases d <;> cases h
  rfl
theorem seqOf_some {d : D} {ds : List D} (h : seqOf d = some ds) : d = .lst ds ∨ d = .tup ds := by
  cases d <;> cases h
  · exact .inl rfl
  · exact .inr rfl
def kCat : D → D → (D → Prop) → Prop := fun d1 d2 P => mo (lstOf d1) fun xs => mo (lstOf d2) fun ys => xs.length + ys.length ≤ 1000000 ∧ P (.lst (xs ++ ys))
theorem sem_cat : Sem2F K (rCatS K) kCat := fun G H d1 d2 v1 v2 P Q s h1 h2 hk hq => by
  obtain ⟨xs, z1, hk⟩ := mo_some hk
  obtain ⟨ys, z2, hl, hk⟩ := mo_some hk
  rw [lstOf_some z1] at h1
  rw [lstOf_some z2] at h2
  obtain ⟨a1, vs1, rfl, q1, r1⟩ := h1
  obtain ⟨a2, vs2, rfl, q2, r2⟩ := h2
  exact ⟨a1, a2, vs1, vs2, rfl, rfl, q1, q2, by rw [r1.length, r2.length]; exact line_le hl, fun p hp => hq (.lst (xs ++ ys)) p _ hp ⟨_, rfl, r1.append r2⟩ hk⟩
theorem qf_cat (ha : QO X W a wa) (hb : QO X W b wb) : QF X W (.BinOp a .Add b pos) (w2 kCat wa wb) := qf_op op_catS sem_cat ha hb

theorem atI_map {α β : Type} {R : α → β → Prop} {xs : List α} {ys : List β} (hl : ys.length = xs.length) (h : ∀ (i : Nat) x, xs[i]? = some x → ∃ y, ys[i]? = some y ∧ R x y) {i : Int} {x : α} (e : atI xs i = some x) : ∃ y, atI ys i = some y ∧ R x y := by
  unfold atI at e ⊢
  rw [hl]
  cases z : ixN xs.length i with
  | none =>
    rw [z] at e
    cases e
  | some j =>
    rw [z] at e
    exact h j x e
def kIx : D → D → (D → Prop) → Prop := fun d1 d2 P => mo (seqOf d1) fun ds => mo (intOf d2) fun i => mo (atI ds i) P
theorem sem_ix : Sem2 K (fun x y H Q => rIxL K x y H Q ∨ rIxT K x y H Q) kIx := fun G H d1 d2 v1 v2 P Q s h1 h2 hk hq => by
  obtain ⟨ds, z1, hk⟩ := mo_some hk
  obtain ⟨i, z2, hk⟩ := mo_some hk
  obtain ⟨d, z3, hk⟩ := mo_some hk
  rw [intOf_some z2] at h2
  have e2 : v2 = .int i := h2
  rcases seqOf_some z1 with z1 | z1 <;> rw [z1] at h1
  · obtain ⟨a1, vs1, rfl, q1, r1⟩ := h1
    obtain ⟨v, e, r⟩ := atI_map (R := Rep K G) r1.length (fun j x hj => r1.get hj) z3
    exact .inl ⟨a1, vs1, i, v, rfl, e2, q1, e, hq d v G H (.refl s) r hk⟩
  · obtain ⟨a1, vs1, rfl, q1, r1, _⟩ := h1
    obtain ⟨v, e, r⟩ := atI_map (R := Rep K G) r1.length (fun j x hj => r1.get hj) z3
    exact .inr ⟨a1, vs1, i, v, rfl, e2, q1, e, hq d v G H (.refl s) r hk⟩
theorem qe_ix (ha : QO X W a wa) (hb : QO X W b wb) (hs : PlainIx b) : QE X W (.Subscript a b pos) (w2 kIx wa wb) := (pe_ix (IxR.or ix_list ix_tup) ha hb hs).le (l2 sem_ix)

def cutD (xs : List D) (lo hi : Option Int) : List D := (xs.drop (HT.sIx xs.length 0 lo)).take (HT.sIx xs.length xs.length hi - HT.sIx xs.length 0 lo)
theorem Reps.cut {K : PySem.W.Frag} {G : Hp} {ds : List D} {vs : List V} (r : Reps K G ds vs) (lo hi : Option Int) : Reps K G (cutD ds lo hi) (cutV vs lo hi) := by
  unfold cutD cutV
  rw [r.length]
  exact (r.drop _).take _
abbrev WP := Ev → (Option Int → Ev → Prop) → XP → Prop
def pNone : WP := fun env Q _ => Q none env
def pSome (w : WE) : WP := fun env Q Xp => w env (fun d e => mo (intOf d) fun i => Q (some i) e) Xp
def lP (K : PySem.W.Frag) (W : WX) (w : WP) : TO := fun σ H Q => ∃ x G env Q' X', ER K x G H σ env ∧ w env Q' X' ∧
  (∀ o env' G' H', Same G G' → ER K x G' H' σ env' → Q' o env' → Q o H') ∧ Xend K W x G σ X'
abbrev QP (X : Cx) (W : WX) (e : Option Expr) (w : WP) : Prop := PO X e (lP X.K W w)
theorem _root_.L2.PO.le {X : Cx} {e : Option Expr} {t t' : TO} (h : PO X e t) (i : ∀ σ H Q, t' σ H Q → t σ H Q) : PO X e t' := ⟨fun pins s σ H Q I hw => h.run pins s σ H Q I (i σ H Q hw)⟩
theorem qp_none : QP X W none pNone := po_none.le fun σ H Q h => by
  obtain ⟨x, G, env, Q', X', r, hw, hn, hx⟩ := h
  exact hn none env G H (.refl _) r hw
theorem qp_some (h : QE X W e we) : QP X W (some e) (pSome we) := (po_some h).le fun σ H Q h => by
  obtain ⟨x, G, env, Q', X', r, hw, hn, hx⟩ := h
  refine ⟨x, G, env, _, X', r, imO_mono hw, fun h e v G' H' s r' q hq => ?_, hx⟩
  obtain ⟨d, rfl, hq⟩ := hq
  obtain ⟨i, z, q'⟩ := mo_some hq
  rw [intOf_some z] at q
  have q2 : v = .int i := q
  exact ⟨i, q2, hn (some i) e G' H' s r' q'⟩
def wSl (wa : WO) (pl ph : WP) : WE := fun env Q Xp => wa env (fun h e1 => pl e1 (fun lo e2 => ph e2 (fun hi e3 => mo (hv e3 h) fun d => mo (lstOf d) fun ds => Q (.lst (cutD ds lo hi)) e3) Xp) Xp) Xp
theorem qf_sl {lo hi : Option Expr} {pl ph : WP} {p2 : Pos} (ha : QO X W a wa) (hl : QP X W lo pl) (hh : QP X W hi ph) : QF X W (.Subscript a (.Slice lo hi none p2) pos) (wSl wa pl ph) := (pe_slice sl_list ha hl hh).le fun σ H Q h => by
  obtain ⟨x, G, env, Q', X', r, hw, hn, hx⟩ := h
  refine ⟨x, G, env, _, X', r, hw, fun h e1 v G1 H1 s1 r1 q1 hw1 => ⟨x, G1, e1, _, X', r1, hw1, fun lo' e2 G2 H2 s2 r2 hw2 => ⟨x, G2, e2, _, X', r2, hw2, fun hi' e3 G3 H3 s3 r3 hw3 => ?_, hx.up (s1.trans s2)⟩, hx.up s1⟩, hx⟩
  obtain ⟨d, z1, hw3⟩ := mo_some hw3
  obtain ⟨ds, z2, hw3⟩ := mo_some hw3
  rw [lstOf_some z2] at z1
  obtain ⟨a1, vs1, rfl, q, rr⟩ := ((q1.mono s2).mono s3).read r3 z1
  refine ⟨a1, vs1, rfl, q, fun p hp => ?_⟩
  obtain ⟨f1, f2, f3⟩ := fresh_F r3 hp
  exact hn (.lst (cutD ds lo' hi')) e3 p _ G3 _ ((s1.trans s2).trans s3) (r3.step (Step.junk r3.sG _ hp)) upd_same ⟨_, rfl, rr.cut lo' hi'⟩ f2 f1 f3 hw3

theorem qe_callB {r : List V → Hp → VK → Prop} {k : List D → (D → Prop) → Prop} {id : String} {x : Str} (hc : CallR X (.builtin id) r) (hk : SemN X.K r k) (hg : Gl X x) (hm : X.mg x = none) (hb : bootBuiltins x = some (.builtin id)) (ha : QA X W (e :: es) wl)
    (hn : x ≠ "__name__" := by decide) (hdb : (x == ("__debug__" : Str)) = false := by decide) (he : starEach (e :: es) X.env = (false, eval e X.env) :: starEach es X.env := by rfl) (hpl : (backTo pos (starEach es X.env)).any (·.1) = false := by rfl) :
    QE X W (.Call (.Name x p) (e :: es) [] pos) (wN k wl) := (pe_callB hc hg hm hb ha hn hdb he hpl).le (lN hk)
theorem qe_callTy {r : List V → Hp → VK → Prop} {k : List D → (D → Prop) → Prop} {T : String} {x : Str} (hc : CallR X (.type T) r) (hk : SemN X.K r k) (hg : Gl X x) (hm : X.mg x = none) (hb : bootBuiltins x = some (.type T)) (ha : QA X W (e :: es) wl)
    (hn : x ≠ "__name__" := by decide) (hdb : (x == ("__debug__" : Str)) = false := by decide) (he : starEach (e :: es) X.env = (false, eval e X.env) :: starEach es X.env := by rfl) (hpl : (backTo pos (starEach es X.env)).any (·.1) = false := by rfl) :
    QE X W (.Call (.Name x p) (e :: es) [] pos) (wN k wl) := (pe_callTy hc hg hm hb ha hn hdb he hpl).le (lN hk)
theorem RepTs.one {G H : Hp} {ds : List D} {vs : List V} {d : D} (h : RepTs K G H ds vs) (e : ds = [d]) : ∃ v, vs = [v] ∧ RepT K G H d v := by
  subst e
  obtain ⟨v, r, rfl, q, z⟩ := h
  have z' : r = [] := z
  exact ⟨v, by rw [z'], q⟩
theorem RepTs.two {G H : Hp} {ds : List D} {vs : List V} {d d' : D} (h : RepTs K G H ds vs) (e : ds = [d, d']) : ∃ v v', vs = [v, v'] ∧ RepT K G H d v ∧ RepT K G H d' v' := by
  subst e
  obtain ⟨v, r, rfl, q, z⟩ := h
  obtain ⟨v', rfl, q'⟩ := RepTs.one z rfl
  exact ⟨v, v', rfl, q, q'⟩
def one : List D → Option D
  | [d] => some d
  | _ => none
def two : List D → Option (D × D)
  | [d, d'] => some (d, d')
  | _ => none
theorem one_some {ds : List D} {d : D} (h : one ds = some d) : ds = [d] := by
  unfold one at h
  split at h
  · cases h
    rfl
  · cases h
theorem two_some {ds : List D} {d : D × D} (h : two ds = some d) : ds = [d.1, d.2] := by
  unfold two at h
  split at h
  · cases h
    rfl
  · cases h
def kLen : List D → (D → Prop) → Prop := fun ds P => mo (one ds) fun d => mo (seqOf d) fun xs => P (.int xs.length)
theorem sem_len : SemN K (fun xs H Q => ∃ p ys, xs = [.ref p] ∧ (SqL K H p ys ∨ SqT K H p ys) ∧ Q (.int ys.length) H) kLen := fun G H ds vs P Q s h hk hq => by
  obtain ⟨d, z, hk⟩ := mo_some hk
  obtain ⟨xs, z2, hk⟩ := mo_some hk
  obtain ⟨v, rfl, rt⟩ := h.one (one_some z)
  rcases seqOf_some z2 with z2 | z2 <;> rw [z2] at rt
  · obtain ⟨a, ws, rfl, q, r⟩ := rt
    exact ⟨a, ws, rfl, .inl q, hq (.int xs.length) _ G H (.refl s) (by rw [r.length]; rfl) hk⟩
  · obtain ⟨a, ws, rfl, q, r, _⟩ := rt
    exact ⟨a, ws, rfl, .inr q, hq (.int xs.length) _ G H (.refl s) (by rw [r.length]; rfl) hk⟩
theorem qe_len (hm : X.mg "len" = none) (ha : QO X W e wa) (hg : Gl X "len" := by rfl) (he : starEach [e] X.env = (false, eval e X.env) :: starEach [] X.env := by rfl) (hpl : (backTo pos (starEach [] X.env)).any (·.1) = false := by rfl) :
    QE X W (.Call (.Name "len" p) [e] [] pos) (wN kLen (aCons wa aNil)) := qe_callB call_len_seq sem_len hg hm PySem.boot_len (qa_cons ha qa_nil he) (he := he) (hpl := hpl)
def kAbs : List D → (D → Prop) → Prop := fun ds P => mo (one ds) fun d => mo (intOf d) fun i => P (.int (if i < 0 then -i else i))
theorem qe_abs (hm : X.mg "abs" = none) (ha : QO X W e wa) (hg : Gl X "abs" := by rfl) (he : starEach [e] X.env = (false, eval e X.env) :: starEach [] X.env := by rfl) (hpl : (backTo pos (starEach [] X.env)).any (·.1) = false := by rfl) :
    QE X W (.Call (.Name "abs" p) [e] [] pos) (wN kAbs (aCons wa aNil)) := qe_callB call_abs (fun G H ds vs P Q s h hk hq => by
      obtain ⟨d, z, hk⟩ := mo_some hk
      obtain ⟨i, z2, hk⟩ := mo_some hk
      obtain ⟨v, rfl, rt⟩ := h.one (one_some z)
      rw [intOf_some z2] at rt
      have e : v = .int i := rt
      rw [e]
      exact ⟨i, rfl, hq (.int (if i < 0 then -i else i)) _ G H (.refl s) rfl hk⟩) hg hm (by decide +kernel) (qa_cons ha qa_nil he) (he := he) (hpl := hpl)
def toI : D → Option Int
  | .int i => some i
  | .bl b => some (if b then 1 else 0)
  | _ => none
def kInt : List D → (D → Prop) → Prop := fun ds P => mo (one ds) fun d => mo (toI d) fun i => P (.int i)
theorem qe_intc (hm : X.mg "int" = none) (ha : QO X W e wa) (hg : Gl X "int" := by rfl) (he : starEach [e] X.env = (false, eval e X.env) :: starEach [] X.env := by rfl) (hpl : (backTo pos (starEach [] X.env)).any (·.1) = false := by rfl) :
    QE X W (.Call (.Name "int" p) [e] [] pos) (wN kInt (aCons wa aNil)) := qe_callTy call_int1 (fun G H ds vs P Q s h hk hq => by
      obtain ⟨d, z, hk⟩ := mo_some hk
      obtain ⟨i, z2, hk⟩ := mo_some hk
      obtain ⟨v, rfl, rt⟩ := h.one (one_some z)
      cases d with
      | int j =>
        have e : v = .int j := rt
        rw [e]
        have z3 : j = i := Option.some.inj z2
        subst z3
        exact .inl ⟨j, rfl, hq (.int j) _ G H (.refl s) rfl hk⟩
      | bl b =>
        have e : v = .bl b := rt
        rw [e]
        have z3 : (if b then 1 else 0 : Int) = i := Option.some.inj z2
        subst z3
        exact .inr ⟨b, rfl, hq (.int (if b then 1 else 0)) _ G H (.refl s) rfl hk⟩
      | _ => cases z2) hg hm (by decide +kernel) (qa_cons ha qa_nil he) (he := he) (hpl := hpl)
def kList : List D → (D → Prop) → Prop := fun ds P => mo (one ds) fun d => mo (seqOf d) fun xs => P (.lst xs)
def kTuple : List D → (D → Prop) → Prop := fun ds P => mo (one ds) fun d => mo (seqOf d) fun xs => P (.tup xs)
theorem qe_tuple (hm : X.mg "tuple" = none) (ha : QO X W e wa) (hg : Gl X "tuple" := by rfl) (he : starEach [e] X.env = (false, eval e X.env) :: starEach [] X.env := by rfl) (hpl : (backTo pos (starEach [] X.env)).any (·.1) = false := by rfl) :
    QE X W (.Call (.Name "tuple" p) [e] [] pos) (wN kTuple (aCons wa aNil)) := (pe_callTy call_tuple_of hg hm (by decide +kernel) (qa_cons ha qa_nil he) (he := he) (hpl := hpl)).le fun σ H Q h => by
      obtain ⟨x, G, env, Q', X', r', hw, hn, hx⟩ := h
      refine ⟨x, G, env, fun hs e => mo (hvs e hs) fun ds => kTuple ds fun d => Q' (.im d) e, X', r', hw, fun hs e1 vs G1 H1 s1 r1 q1 hw1 => ?_, hx⟩
      obtain ⟨ds, y1, hk1⟩ := mo_some hw1
      obtain ⟨d, z, hk2⟩ := mo_some hk1
      obtain ⟨xs, z2, hk3⟩ := mo_some hk2
      have hh := one_some z
      subst hh
      cases hs with
      | nil => cases y1
      | cons h t =>
        cases t with
        | cons h2 t2 =>
          exfalso
          unfold hvs at y1
          cases w1 : hv e1 h with
          | none => rw [w1] at y1; cases y1
          | some d1 =>
            rw [w1] at y1
            unfold hvs at y1
            cases w2 : hv e1 h2 with
            | none => rw [w2] at y1; cases y1
            | some d2 =>
              rw [w2] at y1
              cases w3 : hvs e1 t2 with
              | none => rw [w3] at y1; cases y1
              | some d3 => rw [w3] at y1; cases y1
        | nil =>
          obtain ⟨v, r, rfl, hh, z'⟩ := q1
          have z'' : r = [] := z'
          subst z''
          have y2 : hv e1 h = some d := by
            unfold hvs at y1
            cases w1 : hv e1 h with
            | none => rw [w1] at y1; cases y1
            | some d1 =>
              rw [w1] at y1
              cases y1
              rfl
          have rt := hh.read r1 y2
          rcases seqOf_some z2 with z2 | z2
          · rw [z2] at rt
            obtain ⟨a, ws, rfl, q, r⟩ := rt
            refine ⟨a, ws, rfl, .inl ⟨q, fun l hl => ?_⟩⟩
            have st := Step.one r1.sG (.tup ws) hl
            refine hn (.im (.tup xs)) e1 (.ref l) _ _ (s1.trans st.g) (r1.step st) ?_ hk3
            show Rep X.K _ (.tup xs) (.ref l)
            unfold Rep
            exact ⟨l, ws, rfl, SqT.of upd_same, Reps.mono st.g _ _ r⟩
          · subst z2
            have rt2 := rt
            obtain ⟨a, ws, rfl, q, r⟩ := rt
            refine ⟨a, ws, rfl, .inr ⟨q, ?_⟩⟩
            cases h with
            | im d0 =>
              cases y2
              exact hn (.im (.tup xs)) e1 (.ref a) G1 H1 s1 r1 hh hk3
            | ow i =>
              exfalso
              have y3 : owAt e1 i = some (.tup xs) := y2
              obtain ⟨b9, y4⟩ := owAt_some y3
              obtain ⟨_, _, _, _, q9, _⟩ := r1.ow i b9 _ y4
              exact q9
end
end TL

namespace TL
open PySem PySem.Spec L2
section
variable {K : PySem.W.Frag} {x : Fx} {G H G' H' : Hp} {σ : St} {env : Ev} {p : Addr} {o : HO}
theorem ER.hide (r : ER K x G H σ env) (hp : H p = some o) (hG : G p = none) (ho : ∀ (j : Nat) b d', env[j]? = some (.ow b d') → σ[j]? ≠ some (some (.ref p))) : ER K { x with F := upd x.F p o } G H σ env where
  len := r.len
  sG := r.sG
  sF := fun a u e => by
    by_cases z : a = p
    · subst z
      have e' : upd x.F a o a = some u := e
      rw [upd_same] at e'
      cases e'
      exact hp
    · have e' : upd x.F p o a = some u := e
      rw [upd_ne z] at e'
      exact r.sF a u e'
  dj := fun a u e => by
    by_cases z : a = p
    · subst z
      exact .inl hG
    · have e' : upd x.F p o a = some u := e
      rw [upd_ne z] at e'
      exact r.dj a u e'
  im := r.im
  ow := fun i b d e => by
    obtain ⟨p2, o2, z1, z2, z3, z4, z5⟩ := r.ow i b d e
    refine ⟨p2, o2, z1, z2, z3, ?_, z5⟩
    show upd x.F p o p2 = none
    rw [upd_ne fun z => ho i b d e (by rw [← z]; exact z1)]
    exact z4
  nd := r.nd
  rt := r.rt
theorem ER.unhide (r : ER K { x with F := upd x.F p o } G H σ env) (hnt : ¬ ∃ vs, o = .tup vs) (hF : x.F p = none) : ER K x G H σ env ∧ H p = some o ∧ G p = none ∧ (∀ (j : Nat) b d', env[j]? = some (.ow b d') → σ[j]? ≠ some (some (.ref p))) := by
  have sF' : Same x.F H := fun a u e => r.sF a u (by
    show upd x.F p o a = some u
    rw [upd_ne fun z => by rw [z, hF] at e; cases e]
    exact e)
  refine ⟨⟨r.len, r.sG, sF', fun a u e => r.dj a u (by
    show upd x.F p o a = some u
    rw [upd_ne fun z => by rw [z, hF] at e; cases e]
    exact e), r.im, fun i b d e => ?_, r.nd, r.rt⟩, r.sF p o upd_same, (r.dj p o upd_same).resolve_right hnt, fun j b d' e z => ?_⟩
  · obtain ⟨p2, o2, z1, z2, z3, z4, z5⟩ := r.ow i b d e
    have z4' : upd x.F p o p2 = none := z4
    have ne : p2 ≠ p := fun z => by
      rw [z, upd_same] at z4'
      cases z4'
    rw [upd_ne ne] at z4'
    exact ⟨p2, o2, z1, z2, z3, z4', z5⟩
  · obtain ⟨p2, o2, z1, z2, z3, z4, z5⟩ := r.ow j b d' e
    have z4' : upd x.F p o p2 = none := z4
    rw [z] at z1
    cases z1
    rw [upd_same] at z4'
    cases z4'
end

structure En where
  nx : Ev → Prop
  rt : D → Ev → Prop
  ro : D → Ev → Prop := fun _ _ => False
  bk : Ev → Prop := fun _ => False
  ct : Ev → Prop := fun _ => False
  xc : XP := fun _ _ => False
abbrev WS := Ev → En → Prop
structure SEnd (K : PySem.W.Frag) (W : WX) (x : Fx) (G : Hp) (De : Ends) (E' : En) : Prop where
  nx : ∀ env' σ' G' H', Same G G' → ER K x G' H' σ' env' → E'.nx env' → De.nx σ' H'
  rt : ∀ d env' σ' v G' H', Same G G' → ER K x G' H' σ' env' → Rep K G' d v → E'.rt d env' → De.rt v H'
  ro : ∀ d env' σ' p o G' H', Same G G' → ER K x G' H' σ' env' → H' p = some o → RepO K G' d o → G' p = none → x.F p = none → (∀ i, x.R i ≠ some p) → E'.ro d env' → De.rt (.ref p) H'
  bk : ∀ env' σ' G' H', Same G G' → ER K x G' H' σ' env' → E'.bk env' → De.bk σ' H'
  ct : ∀ env' σ' G' H', Same G G' → ER K x G' H' σ' env' → E'.ct env' → De.ct σ' H'
  xc : ∀ e env' cls dd σ' G' H', Same G G' → ER K x G' H' σ' env' → XRep K G' e cls dd → E'.xc e env' → W cls dd σ' H'
def lS (K : PySem.W.Frag) (W : WX) (w : WS) : TS := fun De σ H => ∃ x G env E', ER K x G H σ env ∧ w env E' ∧ SEnd K W x G De E'
abbrev QS (X : Cx) (W : WX) (st : Stmt) (w : WS) : Prop := PS X st (lS X.K W w)
abbrev QSs (X : Cx) (W : WX) (st : List Stmt) (w : WS) : Prop := PSs X st (lS X.K W w)
section
variable {K : PySem.W.Frag} {W : WX} {x : Fx} {G G1 : Hp} {De : Ends} {E' : En}
theorem SEnd.up (h : SEnd K W x G De E') (s : Same G G1) : SEnd K W x G1 De E' where
  nx := fun env' σ' G' H' s' => h.nx env' σ' G' H' (s.trans s')
  rt := fun d env' σ' v G' H' s' => h.rt d env' σ' v G' H' (s.trans s')
  ro := fun d env' σ' p o G' H' s' => h.ro d env' σ' p o G' H' (s.trans s')
  bk := fun env' σ' G' H' s' => h.bk env' σ' G' H' (s.trans s')
  ct := fun env' σ' G' H' s' => h.ct env' σ' G' H' (s.trans s')
  xc := fun e env' cls dd σ' G' H' s' => h.xc e env' cls dd σ' G' H' (s.trans s')
theorem SEnd.xe (h : SEnd K W x G De E') (σ : St) : Xend K W x G σ E'.xc := fun e env' cls dd G' H' s' => h.xc e env' cls dd σ G' H' s'
end
section
variable {X : Cx} {W : WX} {a b c e : Expr} {pos p : Pos} {wa wb : WO} {we wf : WE} {wl : WA} {es : List Expr} {st : Stmt} {rest : List Stmt} {w u : WS} {wt : WT}
def sNext : WS := fun env E => E.nx env
def sSeq (w u : WS) : WS := fun env E => w env { E with nx := fun e => u e E }
theorem qss_nil : QSs X W [] sNext := pss_nil.le fun De σ H h => by
  obtain ⟨x, G, env, E', r, hw, hE⟩ := h
  exact hE.nx env σ G H (.refl _) r hw
theorem qss_cons (h1 : QS X W st w) (h2 : QSs X W rest u) : QSs X W (st :: rest) (sSeq w u) := (pss_cons h1 h2).le fun De σ H h => by
  obtain ⟨x, G, env, E', r, hw, hE⟩ := h
  exact ⟨x, G, env, _, r, hw, ⟨fun env' σ' G' H' s r' q => ⟨x, G', env', E', r', q, hE.up s⟩, hE.rt, hE.ro, hE.bk, hE.ct, hE.xc⟩⟩
theorem qss_one (h1 : QS X W st w) : QSs X W [st] w := pss_one h1
def sDrop (wo : WO) : WS := fun env E => wo env (fun _ e => E.nx e) E.xc
theorem qs_expr (he : QO X W e wa) (hs : swapsWith e none pos.line X.env = pure false := by rfl) : QS X W (.Expr e pos) (sDrop wa) := (ps_expr he hs).le fun De σ H h => by
  obtain ⟨x, G, env, E', r, hw, hE⟩ := h
  exact ⟨x, G, env, _, E'.xc, r, hw, fun h env' v G' H' s r' q hq => hE.nx env' σ G' H' s r' hq, hE.xe σ⟩
def sRet (w : WE) : WS := fun env E => w env (fun d e => E.rt d e) E.xc
theorem qs_ret (he : QE X W e we) : QS X W (.Return (some e) pos) (sRet we) := (ps_ret he).le fun De σ H h => by
  obtain ⟨x, G, env, E', r, hw, hE⟩ := h
  refine ⟨x, G, env, _, E'.xc, r, imO_mono hw, fun h env' v G' H' s r' q hq => ?_, hE.xe σ⟩
  obtain ⟨d, rfl, hq⟩ := hq
  exact hE.rt d env' σ v G' H' s r' q hq
def sRetF (w : WE) : WS := fun env E => w env (fun d e => E.ro d e) E.xc
theorem qs_retF (he : QF X W e we) : QS X W (.Return (some e) pos) (sRetF we) := (ps_ret he).le fun De σ H h => by
  obtain ⟨x, G, env, E', r, hw, hE⟩ := h
  refine ⟨x, G, env, _, E'.xc, r, hw, fun d env' p o G' H' s r' hp q hG hF ho hq => hE.ro d env' σ p o G' H' s r' hp q hG hF (fun i z => ?_) hq, hE.xe σ⟩
  obtain ⟨z1, d2, z2⟩ := r'.rt i p z
  exact ho i true d2 z2 z1
def lowAt (env : Ev) (i : Nat) : Option D := match env[i]? with
  | some (.ow false d) => some d
  | _ => none
theorem lowAt_some {env : Ev} {i : Nat} {d : D} (h : lowAt env i = some d) : env[i]? = some (.ow false d) := by
  unfold lowAt at h
  cases z : env[i]? with
  | none =>
    rw [z] at h
    cases h
  | some sl =>
    rw [z] at h
    cases sl with
    | no => cases h
    | im _ => cases h
    | ow b d' =>
      cases b with
      | true => cases h
      | false =>
        cases h
        rfl
theorem ER.low {K : PySem.W.Frag} {x : Fx} {G H : Hp} {σ : St} {env : Ev} {i : Nat} {d : D} {p : Addr} (r : ER K x G H σ env) (e : env[i]? = some (.ow false d)) (es : σ[i]? = some (some (.ref p))) : ∀ j, x.R j ≠ some p := fun j z => by
  obtain ⟨z1, d2, z2⟩ := r.rt j p z
  have ij := r.nd i j _ _ _ _ p e z2 es z1
  subst ij
  rw [e] at z2
  cases z2
def sRetO (i : Nat) : WS := fun env E => mo (lowAt env i) fun d => E.ro d env
theorem qs_retO (i : Nat) {n : Str} {np : Pos} (hN : X.N[i]? = some n := by rfl) (hvs : Vis X.env.scope n := by first | exact Or.inl rfl | exact Or.inr (Or.inl rfl) | exact Or.inr (Or.inr rfl)) (hd : (n == ("__debug__" : Str)) = false := by decide)
    (hcd : (n == ("__classdict__" : Str)) = false := by decide) : QS X W (.Return (some (.Name n np)) pos) (sRetO i) := (ps_ret (pe_var hN hvs hd hcd)).le fun De σ H h => by
  obtain ⟨x, G, env, E', r, hw, hE⟩ := h
  obtain ⟨d, e, hw⟩ := mo_some hw
  have e := lowAt_some e
  obtain ⟨p, o, e1, e2, q, f, g⟩ := r.ow i _ d e
  exact ⟨_, e1, hE.ro d env σ p o G H (.refl _) r e2 q g f (r.low e e1) hw⟩
def sIf (wt : WT) (w u : WS) : WS := fun env E => wt env (fun k e => if k = true then w e E else u e E) E.xc
theorem qs_if {l1 l2 : List Stmt} (hc : QT X W c wt) (ha : QSs X W l1 w) (hb : QSs X W l2 u) : QS X W (.If c l1 l2 pos) (sIf wt w u) := (ps_if hc ha hb).le fun De σ H h => by
  obtain ⟨x, G, env, E', r, hw, hE⟩ := h
  refine ⟨x, G, env, _, E'.xc, r, hw, fun k e G' H' s r' q => ?_, hE.xe σ⟩
  cases k with
  | true => exact ⟨x, G', e, E', r', q, hE.up s⟩
  | false => exact ⟨x, G', e, E', r', q, hE.up s⟩

def nr (env : Ev) (i : Nat) : Bool := match env[i]? with
  | some (.ow true _) => false
  | _ => true
theorem nr_ok {env : Ev} {i : Nat} (h : nr env i = true) (d : D) : env[i]? ≠ some (.ow true d) := fun e => by
  unfold nr at h
  rw [e] at h
  cases h
abbrev WG := D → Ev → (Ev → Prop) → Prop
abbrev WGs := List D → Ev → (Ev → Prop) → Prop
def lG (K : PySem.W.Frag) (g : WG) : TG := fun v σ H Q => ∃ x G env d Q', ER K x G H σ env ∧ Rep K G d v ∧ g d env Q' ∧ (∀ env' σ' G' H', Same G G' → ER K x G' H' σ' env' → Q' env' → Q σ' H')
def lGs (K : PySem.W.Frag) (g : WGs) : TGs := fun vs σ H Q => ∃ x G env ds Q', ER K x G H σ env ∧ Reps K G ds vs ∧ g ds env Q' ∧ (∀ env' σ' G' H', Same G G' → ER K x G' H' σ' env' → Q' env' → Q σ' H')
theorem _root_.L2.PGs.le {X : Cx} {ts : List Expr} {t t' : TGs} (h : PGs X ts t) (i : ∀ v σ H Q, t' v σ H Q → t v σ H Q) : PGs X ts t' := ⟨fun pins s σ H v u Q I r hw => h.run pins s σ H v u Q I r (i v σ H Q hw)⟩
abbrev QG (X : Cx) (tg : Expr) (g : WG) : Prop := PG X tg (lG X.K g)
abbrev QGs (X : Cx) (ts : List Expr) (g : WGs) : Prop := PGs X ts (lGs X.K g)
def gN (i : Nat) : WG := fun d env Q => nr env i = true ∧ Q (env.set i (.im d))
def gNilD : WGs := fun ds env Q => ds = [] ∧ Q env
def gConsD (g : WG) (u : WGs) : WGs := fun ds env Q => match ds with
  | [] => False
  | d :: r => g d env fun e => u r e Q
def gT (u : WGs) (n : Nat) : WG := fun d env Q => mo (tupOf d) fun ds => ds.length = n ∧ u ds env Q
theorem qg_name {i : Nat} {n : Str} (hN : X.N.Nodup) (hi : X.N[i]? = some n) (hx : Loc X.env.scope n) (hf : X.fn n = true ∨ X.env.scope.names.lookup n = some .local := by first | exact .inl rfl | exact .inr rfl | assumption) : QG X (.Name n pos) (gN i) := (pg_name hN hi hx hf).le fun v σ H Q h => by
  obtain ⟨x, G, env, d, Q', r, q, ⟨hn, hw⟩, hq⟩ := h
  exact hq _ _ G H (.refl _) (r.setIm q (r.noR (nr_ok hn))) hw
theorem qgs_nil : QGs X [] gNilD := pgs_nil.le fun vs σ H Q h => by
  obtain ⟨x, G, env, ds, Q', r, q, ⟨rfl, hw⟩, hq⟩ := h
  unfold Reps at q
  exact ⟨q, hq env σ G H (.refl _) r hw⟩
theorem qgs_cons {g : WG} {gu : WGs} (h1 : QG X e g) (h2 : QGs X es gu) (hs : (assignEach (e :: es) X.env).map (·.2) = assign e X.env :: (assignEach es X.env).map (·.2) := by rfl) : QGs X (e :: es) (gConsD g gu) := (pgs_cons h1 h2 hs).le fun vs σ H Q h => by
  obtain ⟨x, G, env, ds, Q', r, q, hw, hq⟩ := h
  cases ds with
  | nil => exact hw.elim
  | cons d ds =>
    unfold Reps at q
    obtain ⟨v, vr, rfl, q1, q2⟩ := q
    exact ⟨v, vr, rfl, x, G, env, d, _, r, q1, hw, fun env' σ' G' H' s r' hu => ⟨x, G', env', ds, Q', r', Reps.mono s _ _ q2, hu, fun e2 σ2 G2 H2 s2 => hq e2 σ2 G2 H2 (s.trans s2)⟩⟩
theorem qg_tup {k n : Nat} {gu : WGs} (hc : X.calm = true) (h : QGs X es gu) (hn : (assignEach es X.env).length = n := by rfl) (hst : (assignEach es X.env).findIdx? (·.1) = none := by rfl) : QG X (.Tuple es k pos) (gT gu n) := (pg_tup hc h hn hst).le fun v σ H Q h => by
  obtain ⟨x, G, env, d, Q', r, q, hw, hq⟩ := h
  obtain ⟨ds, z, hl, hw⟩ := mo_some hw
  rw [tupOf_some z] at q
  unfold Rep at q
  obtain ⟨a, vs, rfl, q1, q2⟩ := q
  exact ⟨a, vs, rfl, sameT r.sG q1, by rw [q2.length]; exact hl, x, G, env, ds, Q', r, q2, hw, hq⟩

def sAsg (w : WE) (g : WG) : WS := fun env E => w env (fun d e => g d e E.nx) E.xc
theorem qs_asg {tg : Expr} {g : WG} (he : QE X W e we) (hg : QG X tg g) (hs : swapsWithSole [tg] e pos.line X.env = pure false := by rfl) (hw : swappedStores [tg] e X.env = pure none := by rfl)
    (h1 : (assignEach [tg] X.env).map (·.2) = [assign tg X.env] := by rfl) : QS X W (.Assign [tg] e pos) (sAsg we g) := (ps_asg he hg hs hw h1).le fun De σ H h => by
  obtain ⟨x, G, env, E', r, hw, hE⟩ := h
  refine ⟨x, G, env, _, E'.xc, r, imO_mono hw, fun h env' v G' H' s r' q hq => ?_, hE.xe σ⟩
  obtain ⟨d, rfl, hq⟩ := hq
  exact ⟨x, G', env', d, E'.nx, r', q, hq, fun e2 σ2 G2 H2 s2 => hE.nx e2 σ2 G2 H2 (s.trans s2)⟩
theorem qs_set {i : Nat} {n : Str} {pos' : Pos} (hN : X.N.Nodup) (hi : X.N[i]? = some n) (hx : Loc X.env.scope n) (he : QE X W e we) (hs : swapsWith e (some (.Name n pos')) pos.line X.env = pure false := by rfl) (hf : X.fn n = true ∨ X.env.scope.names.lookup n = some .local := by first | exact .inl rfl | exact .inr rfl | assumption) :
    QS X W (.Assign [.Name n pos'] e pos) (sAsg we (gN i)) := (ps_set hN hi hx he hs hf).le fun De σ H h => by
  obtain ⟨x, G, env, E', r, hw, hE⟩ := h
  refine ⟨x, G, env, _, E'.xc, r, imO_mono hw, fun h env' v G' H' s r' q hq => ?_, hE.xe σ⟩
  obtain ⟨d, rfl, hn, hq⟩ := hq
  exact hE.nx _ _ G' H' s (r'.setIm q (r'.noR (nr_ok hn))) hq
def sOwn (w : WE) (i : Nat) : WS := fun env E => w env (fun d e => nr e i = true ∧ E.nx (e.set i (.ow false d))) E.xc
theorem qs_own {i : Nat} {n : Str} {pos' : Pos} (hN : X.N.Nodup) (hi : X.N[i]? = some n) (hx : Loc X.env.scope n) (he : QF X W e we) (hs : swapsWith e (some (.Name n pos')) pos.line X.env = pure false := by rfl) (hf : X.fn n = true ∨ X.env.scope.names.lookup n = some .local := by first | exact .inl rfl | exact .inr rfl | assumption) :
    QS X W (.Assign [.Name n pos'] e pos) (sOwn we i) := (ps_set hN hi hx he hs hf).le fun De σ H h => by
  obtain ⟨x, G, env, E', r, hw, hE⟩ := h
  refine ⟨x, G, env, _, E'.xc, r, hw, fun d env' p o G' H' s r' hp q hG hF ho hq => ?_, hE.xe σ⟩
  exact hE.nx _ _ G' H' s (r'.setOw hp q hF hG (r'.noR (nr_ok hq.1)) ho) hq.2
theorem nr_set {env : Ev} {i j : Nat} {d : D} (h : nr env j = true) : nr (env.set i (.im d)) j = true := by
  by_cases z : i = j
  · subst z
    unfold nr
    by_cases hl : i < env.length
    · rw [List.getElem?_set_self hl]
    · rw [List.getElem?_eq_none (by rw [List.length_set]; omega)]
  · unfold nr
    rw [List.getElem?_set_ne z]
    exact h
end
end TL

namespace TL
open PySem PySem.Spec L2
section
variable {X : Cx} {W : WX} {a b c e : Expr} {pos p : Pos} {wa wb : WO} {we wf : WE} {wl : WA} {es : List Expr} {st : Stmt} {rest : List Stmt} {w u : WS} {wt : WT} {K : PySem.W.Frag}

def putOw (env : Ev) (i : Nat) (d : D) : Ev := match env[i]? with
  | some (.ow b _) => env.set i (.ow b d)
  | _ => env
theorem putOw_eq {env : Ev} {i : Nat} {b : Bool} {d d' : D} (h : env[i]? = some (.ow b d)) : putOw env i d' = env.set i (.ow b d') := by
  unfold putOw
  rw [h]
theorem ER.putOw {x : Fx} {G H : Hp} {σ : St} {env : Ev} (r : ER K x G H σ env) {i : Nat} {b : Bool} {d d' : D} {p : Addr} {o : HO} (e : env[i]? = some (.ow b d)) (es : σ[i]? = some (some (.ref p))) (q : RepO K G d' o) : ER K x G (upd H p o) σ (putOw env i d') := by
  rw [putOw_eq e]
  exact r.write e es q
def SemM (K : PySem.W.Frag) (r : V → List V → Hp → VK → Prop) (k : List D → List D → (D → List D → Prop) → Prop) : Prop := ∀ (G H : Hp) (l : Addr) (xs : List V) (ds as : List D) (vs : List V) (P : D → List D → Prop) (Q : VK),
  Same G H → H l = some (.lst xs) → Reps K G ds xs → Reps K G as vs → k ds as P → (∀ d v ds' xs', Rep K G d v → Reps K G ds' xs' → P d ds' → Q v (upd H l (.lst xs'))) → r (.ref l) vs H Q
def oMeth (k : List D → List D → (D → List D → Prop) → Prop) (i : Nat) (wl : WA) : WE := fun env Q Xp => mo (owAt env i) fun o0 => mo (lstOf o0) fun _ => wl env (fun hs e => mo (ims hs) fun as => mo (owAt e i) fun o => mo (lstOf o) fun ds => k ds as fun d ds' => Q d (putOw e i (.lst ds'))) Xp
theorem lOM {r : V → List V → Hp → VK → Prop} {k : List D → List D → (D → List D → Prop) → Prop} {i : Nat} (hk : SemM K r k) (σ : St) (H : Hp) (Q : VK) (h : lO K W (imO (oMeth k i wl)) σ H Q) : tBM K "list" r (tVar i) (lA K W wl) σ H Q := by
  obtain ⟨x, G, env, Q', X', r0, hw, hn, hx⟩ := h
  obtain ⟨d0, e0, hw⟩ := mo_some hw
  obtain ⟨l0, e00, hw⟩ := mo_some hw
  obtain ⟨b0, e0⟩ := owAt_some e0
  obtain ⟨p0, o0, z1, z2, z3, z4, z5⟩ := r0.ow i b0 d0 e0
  rw [lstOf_some e00] at z3
  obtain ⟨xs0, z6, _⟩ := z3
  rw [z6] at z2
  refine ⟨.ref p0, z1, .inl ⟨rfl, xs0, SqL.of z2⟩, x, G, env, _, X', r0, hw, fun hs e vs G' H' s r' q hq => ?_, hx⟩
  obtain ⟨as, y1, hq⟩ := mo_some hq
  obtain ⟨o1, y2, hq⟩ := mo_some hq
  obtain ⟨ds, y3, hq⟩ := mo_some hq
  obtain ⟨b1, y2⟩ := owAt_some y2
  rw [lstOf_some y3] at y2
  obtain ⟨p1, ob, u1, u2, u3, u4, u5⟩ := r'.ow i b1 _ y2
  rw [z1] at u1
  cases u1
  obtain ⟨xs, rfl, u3⟩ := u3
  refine hk G' H' p0 xs ds as vs _ Q r'.sG u2 u3 (q.ims y1) hq fun d v ds' xs' rd rs hp => ?_
  exact hn (.im d) _ v G' _ s (r'.putOw (d' := .lst ds') y2 z1 ⟨xs', rfl, rs⟩) rd hp
theorem qe_om (i : Nat) {r : V → List V → Hp → VK → Prop} {k : List D → List D → (D → List D → Prop) → Prop} {name : Str} {id : String} {apos : Pos} {n : Str} {np : Pos} (slot : Slot "list" name id) (hty : typeOf (.builtin id) = pure (.type "method_descriptor")) (hm : MtR X id r) (hk : SemM X.K r k)
    (ha : QA X W (e :: es) wl) (hN : X.N[i]? = some n := by rfl) (hvs : Vis X.env.scope n := by first | exact Or.inl rfl | exact Or.inr (Or.inl rfl) | exact Or.inr (Or.inr rfl)) (hd : (n == ("__debug__" : Str)) = false := by decide)
    (hcd : (n == ("__classdict__" : Str)) = false := by decide)
    (hbase : attributeBase (.Name n np) name X.env (eval (.Name n np) X.env) = eval (.Name n np) X.env := by rfl)
    (hfew : ((backTo pos (starEach (e :: es) X.env)).all (fun x => !x.1) && (backToKw pos (keywordEach [] X.env)).all (fun x => x.1.isSome)
      && decide ((e :: es).length + ([] : List Keyword).length + (if ([] : List Keyword).isEmpty then 0 else 1) < 30)) = true := by rfl)
    (hline : (apos.endLine == pos.line) = true := by rfl) (hs : starEach (e :: es) X.env = (false, eval e X.env) :: starEach es X.env := by rfl) (hplain : (backTo pos (starEach es X.env)).any (·.1) = false := by rfl) :
    QE X W (.Call (.Attribute (.Name n np) name apos) (e :: es) [] pos) (oMeth k i wl) :=
  (pe_bm PySem.F.plainAttrs_list slot hty hm (pe_var hN hvs hd hcd) ha hbase hfew hline hs hplain).le (lOM hk)
def mAppend : List D → List D → (D → List D → Prop) → Prop := fun ds as P => mo (one as) fun d => ds.length < 1000000 ∧ P .non (ds ++ [d])
theorem reps_one {G : Hp} {as : List D} {vs : List V} {d : D} (h : Reps K G as vs) (e : as = [d]) : ∃ v, vs = [v] ∧ Rep K G d v := by
  subst e
  unfold Reps at h
  obtain ⟨v, r, rfl, q, z⟩ := h
  unfold Reps at z
  exact ⟨v, by rw [z], q⟩
theorem sem_append : SemM K rAppend mAppend := fun G H l xs ds as vs P Q s hl hx ha hk hq => by
  obtain ⟨d, z, hlen, hk⟩ := mo_some hk
  obtain ⟨v, rfl, rv⟩ := reps_one ha (one_some z)
  exact ⟨l, xs, v, rfl, rfl, hl, by rw [hx.length]; exact line_lt (by omega), hq .non .non (ds ++ [d]) _ rfl (hx.append (Reps.cons rv Reps.nil)) hk⟩
def mPopAt : List D → List D → (D → List D → Prop) → Prop := fun ds as P => mo (one as) fun a => mo (intOf a) fun i => ds.length ≤ 1000000 ∧ mo (seqIndex? i ds.length) fun k => mo (ds[k]?) fun y => P y (ds.eraseIdx k)
theorem Reps.erase {G : Hp} : ∀ {ds : List D} {vs : List V} (n : Nat), Reps K G ds vs → Reps K G (ds.eraseIdx n) (vs.eraseIdx n)
  | [], vs, n, h => by
    unfold Reps at h
    rw [h]
    exact Reps.nil
  | d0 :: ds, vs, 0, h => by
    unfold Reps at h
    obtain ⟨v0, r, rfl, q0, z⟩ := h
    exact z
  | d0 :: ds, vs, n + 1, h => by
    unfold Reps at h
    obtain ⟨v0, r, rfl, q0, z⟩ := h
    exact Reps.cons q0 (Reps.erase n z)
theorem seqIndex_bounds {i : Int} {n k : Nat} (hn : n ≤ 1000000) (h : seqIndex? i n = some k) : -(2 ^ 63) ≤ i ∧ i < 2 ^ 63 := by
  unfold seqIndex? at h
  simp only at h
  split at h <;> split at h
  all_goals first
    | (cases h; done)
    | (rename_i h1 h2
       rw [Bool.and_eq_true, decide_eq_true_iff, decide_eq_true_iff] at h2
       omega)
theorem sem_popAt : SemM K rPopAt mPopAt := fun G H l xs ds as vs P Q s hl hx ha hk hq => by
  obtain ⟨d, z, hk⟩ := mo_some hk
  obtain ⟨i, z2, hlen, hk⟩ := mo_some hk
  obtain ⟨k, z3, hk⟩ := mo_some hk
  obtain ⟨y, z4, hk⟩ := mo_some hk
  obtain ⟨v, rfl, rv⟩ := reps_one ha (one_some z)
  rw [intOf_some z2] at rv
  have ev : v = .int i := rv
  rw [ev]
  obtain ⟨yv, e4, ry⟩ := hx.get z4
  obtain ⟨b1, b2⟩ := seqIndex_bounds hlen z3
  exact ⟨l, xs, i, k, yv, rfl, rfl, hl, b1, b2, by rw [hx.length]; exact z3, e4, hq y yv _ _ ry (hx.erase k) hk⟩
def sSetIx (i : Nat) (wi : WE) (we : WE) : WS := fun env E => we env (fun d e1 => mo (owAt e1 i) fun _ => wi e1 (fun di e2 => mo (intOf di) fun k => mo (owAt e2 i) fun o => mo (lstOf o) fun ds => mo (ixN ds.length k) fun j => E.nx (putOw e2 i (.lst (ds.set j d)))) E.xc) E.xc
theorem qs_setix (i : Nat) {ix : Expr} {wi : WE} {n : Str} {np p2 : Pos} (he : QE X W e we) (hi : QE X W ix wi) (hN : X.N[i]? = some n := by rfl) (hvs : Vis X.env.scope n := by first | exact Or.inl rfl | exact Or.inr (Or.inl rfl) | exact Or.inr (Or.inr rfl)) (hd : (n == ("__debug__" : Str)) = false := by decide)
    (hcd : (n == ("__classdict__" : Str)) = false := by decide)
    (ha : ∀ v, assign (.Subscript (.Name n np) ix p2) X.env v = (do
      let ov ← holding [v] (eval (.Name n np) X.env)
      let iv ← holding [v, ov] (eval ix X.env)
      standAt p2
      holding [v, ov, iv] (setItem ov iv v)
      release [v, ov, iv] []) := by intro _; rfl)
    (hs : swapsWithSole [.Subscript (.Name n np) ix p2] e pos.line X.env = pure false := by rfl) (hw : swappedStores [.Subscript (.Name n np) ix p2] e X.env = pure none := by rfl)
    (h1 : (assignEach [.Subscript (.Name n np) ix p2] X.env).map (·.2) = [assign (.Subscript (.Name n np) ix p2) X.env] := by rfl) :
    QS X W (.Assign [.Subscript (.Name n np) ix p2] e pos) (sSetIx i wi we) := (ps_asg he (pg_sub (pe_var hN hvs hd hcd) hi set_list ha) hs hw h1).le fun De σ H h => by
  obtain ⟨x, G, env, E', r, hw, hE⟩ := h
  refine ⟨x, G, env, _, E'.xc, r, imO_mono hw, fun h e1 v G1 H1 s1 r1 q1 hq => ?_, hE.xe σ⟩
  obtain ⟨d, rfl, hq⟩ := hq
  obtain ⟨o1, y0, hq⟩ := mo_some hq
  obtain ⟨b0, y0⟩ := owAt_some y0
  obtain ⟨p1, ob1, v1, _⟩ := r1.ow i b0 _ y0
  refine ⟨.ref p1, v1, x, G1, e1, _, E'.xc, r1, imO_mono hq, fun h e2 v2 G2 H2 s2 r2 q2 hq => ?_, (hE.up s1).xe σ⟩
  obtain ⟨di, rfl, hq⟩ := hq
  obtain ⟨k, y1, hq⟩ := mo_some hq
  obtain ⟨o, y2, hq⟩ := mo_some hq
  obtain ⟨ds, y3, hq⟩ := mo_some hq
  obtain ⟨j, y4, hq⟩ := mo_some hq
  obtain ⟨b1, y2⟩ := owAt_some y2
  rw [lstOf_some y3] at y2
  obtain ⟨p2, ob, u1, u2, u3, u4, u5⟩ := r2.ow i b1 _ y2
  rw [v1] at u1
  cases u1
  obtain ⟨xs, rfl, u3⟩ := u3
  rw [intOf_some y1] at q2
  have e2' : v2 = .int k := q2
  refine ⟨p1, xs, k, j, rfl, e2', u2, by rw [u3.length]; exact y4, ?_⟩
  exact hE.nx _ σ G2 _ (s1.trans s2) (r2.putOw (d' := .lst (ds.set j d)) y2 v1 ⟨_, rfl, u3.set j (Rep.mono s2 _ _ q1)⟩) hq

abbrev WI := Ev → (List D → Ev → Prop) → XP → Prop
structure Walk (K : PySem.W.Frag) (G F : Hp) (ds : List D) (J : It) : Prop where
  go : ∀ i H, Same G H → Same F H → i < ds.length → J.go i H
  stop : ∀ i H, Same G H → Same F H → ds.length ≤ i → J.stop i H
  yld : ∀ i H v H' d G1, Same G G1 → Same G1 H → Same F H → ds[i]? = some d → J.yld i H v H' → ∃ G2, Step G1 H G2 H' ∧ Rep K G2 d v
def lI (K : PySem.W.Frag) (W : WX) (w : WI) : TI := fun σ H R => ∃ x G env Q' X', ER K x G H σ env ∧ w env Q' X' ∧
  (∀ ds env' G' H' J, Same G G' → ER K x G' H' σ env' → Walk K G' x.F ds J → Q' ds env' → R J H') ∧ Xend K W x G σ X'
abbrev QI (X : Cx) (W : WX) (tg iter : Expr) (w : WI) : Prop := PI X tg iter (lI X.K W w)
def iLst (w : WE) : WI := fun env Q Xp => w env (fun d e => mo (lstOf d) fun ds => Q ds e) Xp
def iTpl (w : WE) : WI := fun env Q Xp => w env (fun d e => mo (tupOf d) fun ds => Q ds e) Xp
theorem walk_list {G F : Hp} {ds : List D} {vs : List V} {q : Addr} (h : SqL K G q vs) (r : Reps K G ds vs) : Walk K G F ds (Itl K q) where
  go := fun i H s _ hi => by
    have hv : i < vs.length := by rw [r.length]; exact hi
    exact ⟨vs, vs[i], s.seq h, List.getElem?_eq_getElem hv⟩
  stop := fun i H s _ hi => ⟨vs, s.seq h, by rw [r.length]; exact hi⟩
  yld := fun i H v H' d G1 s1 s2 _ e y => by
    obtain ⟨rfl, y⟩ := y
    obtain ⟨v', e', q'⟩ := r.get e
    have z := y vs ((s1.trans s2).seq h)
    rw [e'] at z
    cases z
    exact ⟨G1, .refl s2, Rep.mono s1 _ _ q'⟩
theorem walk_tup {G F : Hp} {ds : List D} {vs : List V} {q : Addr} (h : SqT K G q vs) (r : Reps K G ds vs) : Walk K G F ds (Itt K q) where
  go := fun i H s _ hi => by
    have hv : i < vs.length := by rw [r.length]; exact hi
    exact ⟨vs, vs[i], sameT s h, List.getElem?_eq_getElem hv⟩
  stop := fun i H s _ hi => ⟨vs, sameT s h, by rw [r.length]; exact hi⟩
  yld := fun i H v H' d G1 s1 s2 _ e y => by
    obtain ⟨rfl, y⟩ := y
    obtain ⟨v', e', q'⟩ := r.get e
    have z := y vs (sameT (s1.trans s2) h)
    rw [e'] at z
    cases z
    exact ⟨G1, .refl s2, Rep.mono s1 _ _ q'⟩
theorem qi_list {tg : Expr} (h : QE X W e we) : QI X W tg e (iLst we) := (pi_list h).le fun σ H R h => by
  obtain ⟨x, G, env, Q', X', r, hw, hn, hx⟩ := h
  refine ⟨x, G, env, _, X', r, imO_mono hw, fun h env' v G' H' s r' q hq => ?_, hx⟩
  obtain ⟨d, rfl, hq⟩ := hq
  obtain ⟨ds, z, hq⟩ := mo_some hq
  rw [lstOf_some z] at q
  have q' : Rep X.K G' (.lst ds) v := q
  unfold Rep at q'
  obtain ⟨b, vs, rfl, q1, q2⟩ := q'
  exact ⟨b, rfl, ⟨vs, r'.sG.seq q1⟩, hn ds env' G' H' _ s r' (walk_list q1 q2) hq⟩
theorem qi_tup {tg : Expr} (h : QE X W e we) : QI X W tg e (iTpl we) := (pi_tup h).le fun σ H R h => by
  obtain ⟨x, G, env, Q', X', r, hw, hn, hx⟩ := h
  refine ⟨x, G, env, _, X', r, imO_mono hw, fun h env' v G' H' s r' q hq => ?_, hx⟩
  obtain ⟨d, rfl, hq⟩ := hq
  obtain ⟨ds, z, hq⟩ := mo_some hq
  rw [tupOf_some z] at q
  have q' : Rep X.K G' (.tup ds) v := q
  unfold Rep at q'
  obtain ⟨b, vs, rfl, q1, q2⟩ := q'
  exact ⟨b, rfl, ⟨vs, sameT r'.sG q1⟩, hn ds env' G' H' _ s r' (walk_tup q1 q2) hq⟩
def rgD (lo : Int) (n : Nat) : List D := (List.range n).map fun i => .int (lo + (i : Nat))
theorem walk_range {G F : Hp} {lo : Int} {n : Nat} : Walk K G F (rgD lo n) (Itr lo n) where
  go := fun i H s _ hi => by
    unfold rgD at hi
    rw [List.length_map, List.length_range] at hi
    exact hi
  stop := fun i H s _ hi => by
    unfold rgD at hi
    rw [List.length_map, List.length_range] at hi
    exact hi
  yld := fun i H v H' d G1 s1 s2 _ e y => by
    obtain ⟨rfl, rfl⟩ := y
    unfold rgD at e
    rw [List.getElem?_map] at e
    cases z : (List.range n)[i]? with
    | none =>
      rw [z] at e
      cases e
    | some j =>
      rw [z] at e
      have ej : i = j := by
        obtain ⟨h1, h2⟩ := List.getElem?_eq_some_iff.mp z
        rw [List.getElem_range] at h2
        exact h2
      subst ej
      cases e
      exact ⟨G1, .refl s2, rfl⟩
def iR1 (w : WE) : WI := fun env Q Xp => w env (fun d e => mo (intOf d) fun j => (-1000000000000000000 ≤ j ∧ j ≤ 1000000000000000000) ∧ Q (rgD 0 j.toNat) e) Xp
theorem qi_range1 {tg : Expr} (hm : X.mg "range" = none) (ha : QE X W e we) (hg : Gl X "range" := by rfl) (hs : starEach [e] X.env = [(false, eval e X.env)] := by rfl) (hs2 : starEach [e] X.env = (false, eval e X.env) :: starEach [] X.env := by rfl) :
    QI X W tg (.Call (.Name "range" p) [e] [] pos) (iR1 we) := (pi_range1 hg hm (pa_cons ha pa_nil hs2) hs).le fun σ H R h => by
  obtain ⟨x, G, env, Q', X', r, hw, hn, hx⟩ := h
  refine ⟨x, G, env, _, X', r, imO_mono hw, fun h env' v G' H' s r' q hq => ?_, hx⟩
  obtain ⟨d, rfl, hq⟩ := hq
  obtain ⟨j, z, hb, hq⟩ := mo_some hq
  rw [intOf_some z] at q
  have q' : v = .int j := q
  exact ⟨j, by rw [q'], by omega, by omega, hn _ env' G' H' _ s r' walk_range hq⟩
def enD (ds : List D) : List D := (List.range ds.length).zipWith (fun i d => .tup [.int (i : Nat), d]) ds
theorem enD_get {ds : List D} {i : Nat} : (enD ds)[i]? = ds[i]?.map fun d => .tup [.int (i : Nat), d] := by
  unfold enD
  rw [List.getElem?_zipWith]
  by_cases h : i < ds.length
  · rw [List.getElem?_eq_getElem (by rw [List.length_range]; exact h), List.getElem_range, List.getElem?_eq_getElem h]
    rfl
  · rw [List.getElem?_eq_none (by rw [List.length_range]; omega), List.getElem?_eq_none (by omega)]
    rfl
theorem enD_length (ds : List D) : (enD ds).length = ds.length := by
  unfold enD
  rw [List.length_zipWith, List.length_range]
  omega
theorem walk_enum {G F : Hp} {ds : List D} {vs : List V} {q : Addr} (h : SqL K G q vs) (r : Reps K G ds vs) : Walk K G F (enD ds) (Ite K q) where
  go := fun i H s _ hi => by
    have hv : i < vs.length := by rw [r.length, ← enD_length]; exact hi
    exact ⟨vs, vs[i], s.seq h, List.getElem?_eq_getElem hv⟩
  stop := fun i H s _ hi => ⟨vs, s.seq h, by rw [r.length, ← enD_length]; exact hi⟩
  yld := fun i H v H' d G1 s1 s2 _ e y => by
    obtain ⟨T, x, rfl, hT, rfl, y⟩ := y
    rw [enD_get] at e
    cases z : ds[i]? with
    | none =>
      rw [z] at e
      cases e
    | some d0 =>
      rw [z] at e
      cases e
      obtain ⟨v', e', q'⟩ := r.get z
      have z := y vs ((s1.trans s2).seq h)
      rw [e'] at z
      have z' : v' = x := Option.some.inj z
      subst z'
      have st := Step.one s2 (.tup [.int (i : Nat), v']) hT
      refine ⟨_, st, ?_⟩
      unfold Rep
      exact ⟨T, _, rfl, SqT.of upd_same, Reps.cons rfl (Reps.cons (Rep.mono (s1.trans st.g) _ _ q') Reps.nil)⟩
def iEn (w : WE) : WI := fun env Q Xp => w env (fun d e => mo (lstOf d) fun ds => Q (enD ds) e) Xp
theorem qi_enum {elts : List Expr} {kk : Nat} {tpos : Pos} (hm : X.mg "enumerate" = none) (ha : QE X W e we) (hg : Gl X "enumerate" := by rfl) (hs : starEach [e] X.env = [(false, eval e X.env)] := by rfl) (hs2 : starEach [e] X.env = (false, eval e X.env) :: starEach [] X.env := by rfl) :
    QI X W (.Tuple elts kk tpos) (.Call (.Name "enumerate" p) [e] [] pos) (iEn we) := (pi_enum hg hm (pa_cons ha pa_nil hs2) hs).le fun σ H R h => by
  obtain ⟨x, G, env, Q', X', r, hw, hn, hx⟩ := h
  refine ⟨x, G, env, _, X', r, imO_mono hw, fun h env' v G' H' s r' q hq => ?_, hx⟩
  obtain ⟨d, rfl, hq⟩ := hq
  obtain ⟨ds, z, hq⟩ := mo_some hq
  rw [lstOf_some z] at q
  have q' : Rep X.K G' (.lst ds) v := q
  unfold Rep at q'
  obtain ⟨b, vs, rfl, q1, q2⟩ := q'
  exact ⟨b, vs, rfl, r'.sG.seq q1, hn _ env' G' H' _ s r' (walk_enum q1 q2) hq⟩
def sFor (wi : WI) (g : WG) (wb : WS) : WS := fun env E => wi env (fun ds e0 => ∃ I : Nat → Ev → Prop, I 0 e0 ∧ (∀ (i : Nat) d e, ds[i]? = some d → I i e → g d e fun e1 => wb e1 { E with nx := I (i + 1), ct := I (i + 1), bk := E.nx }) ∧ ∀ e, I ds.length e → E.nx e) E.xc
theorem qs_for {tg iter : Expr} {body : List Stmt} {wi : WI} {g : WG} (hp : PassesOwn (model X.prog X.w) X.A X.env X.xe) (hc : X.calm = true) (hi : QI X W tg iter wi) (hg : QG X tg g) (hb : QSs X W body w) (hs : ∀ x, foldedSetIterable iter X.env x = pure x := by intro _; rfl) :
    QS X W (.For tg iter body [] pos) (sFor wi g w) := (ps_for hp hc hi hg hb hs).le fun De σ H h => by
  obtain ⟨x, G, env, E', r, hw, hE⟩ := h
  refine ⟨x, G, env, _, E'.xc, r, hw, fun ds e0 G0 H0 J s0 r0 wk hq => ?_, hE.xe σ⟩
  obtain ⟨I, i0, turn, done⟩ := hq
  refine ⟨fun i m σ' H' => m = ds.length - i ∧ i ≤ ds.length ∧ ∃ G1 e1, Same G0 G1 ∧ ER X.K x G1 H' σ' e1 ∧ I i e1, ⟨ds.length, rfl, Nat.zero_le _, G0, e0, .refl _, r0, i0⟩, ?_⟩
  rintro i m σ1 H1 ⟨rfl, hi, G1, e1, s1, r1, hI⟩
  have sH : Same G0 H1 := s1.trans r1.sG
  by_cases hlt : i < ds.length
  · refine .inr ⟨wk.go i H1 sH r1.sF hlt, fun σ' H' => ∃ G2 e2, Same G1 G2 ∧ ER X.K x G2 H' σ' e2 ∧ I (i + 1) e2, ?_, fun v H2 hy => ?_⟩
    · rintro σ' H' ⟨G2, e2, s2, r2, hI2⟩
      exact ⟨ds.length - (i + 1), by omega, rfl, hlt, G2, e2, s1.trans s2, r2, hI2⟩
    · obtain ⟨G2, st, rp⟩ := wk.yld i H1 v H2 ds[i] G1 s1 r1.sG r1.sF (List.getElem?_eq_getElem hlt) hy
      refine ⟨x, G2, e1, ds[i], _, r1.step st, rp, turn i ds[i] e1 (List.getElem?_eq_getElem hlt) hI, fun e3 σ3 G3 H3 s3 r3 hb => ⟨x, G3, e3, _, r3, hb, ?_⟩⟩
      have s13 : Same G1 G3 := st.g.trans s3
      have hE3 := hE.up ((s0.trans s1).trans s13)
      exact ⟨fun e4 σ4 G4 H4 s4 r4 q => ⟨G4, e4, s13.trans s4, r4, q⟩, hE3.rt, hE3.ro, hE3.nx, fun e4 σ4 G4 H4 s4 r4 q => ⟨G4, e4, s13.trans s4, r4, q⟩, hE3.xc⟩
  · have ei : i = ds.length := by omega
    subst ei
    exact .inl ⟨wk.stop _ H1 sH r1.sF (Nat.le_refl _), hE.nx e1 σ1 G1 H1 (s0.trans s1) r1 (done e1 hI)⟩
end
end TL

namespace TL
open PySem PySem.Spec L2
def setL (σ : St) : List Nat → List V → St
  | i :: is, v :: vs => setL (σ.set i (some v)) is vs
  | _, _ => σ
def setE (e : Ev) : List Nat → List D → Ev
  | i :: is, d :: ds => setE (e.set i (.im d)) is ds
  | _, _ => e
def noE (e : Ev) : List Nat → Ev
  | [] => e
  | i :: is => (noE e is).set i .no
def nrs (e : Ev) (is : List Nat) : Bool := is.all fun i => nr e i
theorem setL_length (σ : St) : ∀ (is : List Nat) (vs : List V), (setL σ is vs).length = σ.length
  | [], _ => rfl
  | _ :: _, [] => rfl
  | i :: is, v :: vs => by
    unfold setL
    rw [setL_length, List.length_set]
theorem setL_get {σ : St} {k : Nat} : ∀ {is : List Nat} {vs : List V}, k ∉ is → (setL σ is vs)[k]? = σ[k]?
  | [], _, _ => rfl
  | _ :: _, [], _ => rfl
  | i :: is, v :: vs, h => by
    unfold setL
    rw [setL_get (fun z => h (List.mem_cons_of_mem _ z)), List.getElem?_set_ne (fun z => h (by rw [z]; exact List.mem_cons_self))]
theorem wipe_get {σ : St} {k : Nat} : ∀ {is : List Nat}, k ∉ is → (wipe σ is)[k]? = σ[k]?
  | [], _ => rfl
  | i :: is, h => by
    unfold wipe
    rw [List.getElem?_set_ne (fun z => h (by rw [z]; exact List.mem_cons_self)), wipe_get (fun z => h (List.mem_cons_of_mem _ z))]
theorem wipe_at {σ : St} {k : Nat} : ∀ {is : List Nat}, k ∈ is → k < σ.length → (wipe σ is)[k]? = some none
  | [], h, _ => by cases h
  | i :: is, h, hl => by
    unfold wipe
    by_cases z : i = k
    · rw [z, List.getElem?_set_self (by rw [wipe_length]; exact hl)]
    · rw [List.getElem?_set_ne z]
      rcases List.mem_cons.mp h with q | q
      · exact absurd q.symm z
      · exact wipe_at q hl
theorem wipe_setL {σ : St} {is : List Nat} {vs : List V} : wipe (setL (wipe σ is) is vs) is = wipe σ is := by
  apply List.ext_getElem?
  intro k
  by_cases h : k ∈ is
  · by_cases hl : k < σ.length
    · rw [wipe_at h (by rw [setL_length, wipe_length]; exact hl), wipe_at h hl]
    · rw [List.getElem?_eq_none (by rw [wipe_length, setL_length, wipe_length]; omega), List.getElem?_eq_none (by rw [wipe_length]; omega)]
  · rw [wipe_get h, setL_get h]
theorem noE_length (e : Ev) : ∀ is : List Nat, (noE e is).length = e.length
  | [] => rfl
  | i :: is => by
    unfold noE
    rw [List.length_set, noE_length]
theorem noE_get {e : Ev} {k : Nat} : ∀ {is : List Nat}, k ∉ is → (noE e is)[k]? = e[k]?
  | [], _ => rfl
  | i :: is, h => by
    unfold noE
    rw [List.getElem?_set_ne (fun z => h (by rw [z]; exact List.mem_cons_self)), noE_get (fun z => h (List.mem_cons_of_mem _ z))]
theorem noE_at {e : Ev} {k : Nat} : ∀ {is : List Nat}, k ∈ is → k < e.length → (noE e is)[k]? = some .no
  | [], h, _ => by cases h
  | i :: is, h, hl => by
    unfold noE
    by_cases z : i = k
    · rw [z, List.getElem?_set_self (by rw [noE_length]; exact hl)]
    · rw [List.getElem?_set_ne z]
      rcases List.mem_cons.mp h with q | q
      · exact absurd q.symm z
      · exact noE_at q hl
theorem nrs_at {e : Ev} {is : List Nat} {i : Nat} (h : nrs e is = true) (hi : i ∈ is) : nr e i = true := List.all_eq_true.mp h i hi
section
variable {K : PySem.W.Frag} {x : Fx} {G H : Hp} {σ σ2 : St} {e : Ev}
theorem ER.reslot (r : ER K x G H σ2 e) {is : List Nat} (hl : σ.length = σ2.length) (hs : ∀ k, k ∉ is → σ[k]? = σ2[k]?) (hn : nrs e is = true) : ER K x G H σ (noE e is) := by
  have out : ∀ {k : Nat} {s : Sl}, (noE e is)[k]? = some s → s ≠ .no → k ∉ is ∧ e[k]? = some s := fun {k s} h hne => by
    by_cases q : k ∈ is
    · have hl' : k < e.length := by
        have := (List.getElem?_eq_some_iff.mp h).1
        rw [noE_length] at this
        exact this
      rw [noE_at q hl'] at h
      exact absurd (Option.some.inj h).symm hne
    · rw [noE_get q] at h
      exact ⟨q, h⟩
  refine ⟨by rw [noE_length, hl, r.len], r.sG, r.sF, r.dj, fun i d h => ?_, fun i b d h => ?_, fun i j b c d1 d2 p h1 h2 h3 h4 => ?_, fun i p h => ?_⟩
  · obtain ⟨q, h⟩ := out h (by intro z; cases z)
    rw [hs i q]
    exact r.im i d h
  · obtain ⟨q, h⟩ := out h (by intro z; cases z)
    rw [hs i q]
    exact r.ow i b d h
  · obtain ⟨q1, h1⟩ := out h1 (by intro z; cases z)
    obtain ⟨q2, h2⟩ := out h2 (by intro z; cases z)
    rw [hs i q1] at h3
    rw [hs j q2] at h4
    exact r.nd i j b c d1 d2 p h1 h2 h3 h4
  · obtain ⟨h1, d, h2⟩ := r.rt i p h
    have q : i ∉ is := fun z => nr_ok (nrs_at hn z) d h2
    rw [hs i q, noE_get q]
    exact ⟨h1, d, h2⟩
theorem ER.setL : ∀ {is : List Nat} {vs : List V} {ds : List D} {σ : St} {e : Ev}, ER K x G H σ e → Reps K G ds vs → nrs e is = true → ER K x G H (setL σ is vs) (setE e is ds)
  | [], vs, ds, σ, e, r, _, _ => by
    unfold TL.setL setE
    exact r
  | i :: is, vs, [], σ, e, r, q, _ => by
    unfold Reps at q
    rw [q]
    unfold TL.setL setE
    exact r
  | i :: is, vs, d :: ds, σ, e, r, q, hn => by
    unfold Reps at q
    obtain ⟨v, vr, rfl, q1, q2⟩ := q
    unfold TL.setL setE
    have h1 : nr e i = true := nrs_at hn List.mem_cons_self
    refine ER.setL (r.setIm q1 (r.noR (nr_ok h1))) q2 ?_
    exact List.all_eq_true.mpr fun j hj => nr_set (nrs_at hn (List.mem_cons_of_mem _ hj))
end
def gNames (K : PySem.W.Frag) : List Nat → TGs
  | [] => gNil
  | i :: is => gCons (gName i) (gNames K is)
theorem gNames_ok {K : PySem.W.Frag} : ∀ {is : List Nat} {vs : List V} {σ : St} {H : Hp} {Q : St → Hp → Prop}, vs.length = is.length → Q (setL σ is vs) H → gNames K is vs σ H Q
  | [], [], σ, H, Q, _, h => ⟨rfl, h⟩
  | i :: is, v :: vs, σ, H, Q, hl, h => ⟨v, vs, rfl, gNames_ok (is := is) (vs := vs) (by simpa using hl) h⟩
def tOne : Bool → Nat → D → Option (List D)
  | true, _, .tup ds => some ds
  | true, _, .lst ds => some ds
  | false, _, d => some [d]
  | _, _, _ => none
section
variable {X : Cx} {W : WX} {a b c e elt tg iter : Expr} {pos p : Pos} {we : WE} {wt : WT} {K : PySem.W.Frag} {ifs : List Expr}
def wYes : WT := fun env Q _ => Q true env
abbrev QTs (X : Cx) (W : WX) (ifs : List Expr) (w : WT) : Prop := PTs X ifs (lT X.K W w)
theorem _root_.L2.PTs.le {X : Cx} {es : List Expr} {t t' : TT} (h : PTs X es t) (i : ∀ σ H Q, t' σ H Q → t σ H Q) : PTs X es t' := ⟨fun pins s σ H Q I hw => h.run pins s σ H Q I (i σ H Q hw)⟩
theorem qts_nil : QTs X W [] wYes := pts_nil.le fun σ H Q h => by
  obtain ⟨x, G, env, Q', X', r, hw, hn, hx⟩ := h
  exact hn true env G H (.refl _) r hw
abbrev W0 : WX := fun _ _ _ _ => False
def wLc (wi : WI) (tu : Bool) (is : List Nat) (wt : WT) (we : WE) : WE := fun env Q Xp => wi env (fun ds e0 => nrs e0 is = true ∧ ∃ I : Nat → List D → Ev → Prop, I 0 [] (noE e0 is) ∧
  (∀ (k : Nat) d acc e, ds[k]? = some d → I k acc e → nrs e is = true ∧ mo (tOne tu 0 d) fun vs => vs.length = is.length ∧ wt (setE e is vs) (fun b e2 => if b = true then we e2 (fun y e3 => nrs e3 is = true ∧ acc.length < 1000000 ∧ I (k + 1) (acc ++ [y]) (noE e3 is)) (fun _ _ => False)
    else nrs e2 is = true ∧ I (k + 1) acc (noE e2 is)) (fun _ _ => False)) ∧ ∀ acc e, I ds.length acc e → Q (.lst acc) e) Xp
def gOf (K : PySem.W.Frag) : Bool → List Nat → TG
  | true, is => fun v σ H Q => gTup K is.length (gNames K is) v σ H Q ∨ gUnl K is.length (gNames K is) v σ H Q
  | false, [i] => gName i
  | false, _ => fun _ _ _ _ => False
theorem pg_tul {X : Cx} {pos : Pos} {es : List Expr} {k : Nat} {t : TGs} {n : Nat} (hc : X.calm = true) (h : PGs X es t)
    (hn : (assignEach es X.env).length = n := by rfl) (hst : (assignEach es X.env).findIdx? (·.1) = none := by rfl) : PG X (.Tuple es k pos) (fun v σ H Q => gTup X.K n t v σ H Q ∨ gUnl X.K n t v σ H Q) := by
  refine ⟨fun pins s σ H v u Q I r hw => ?_⟩
  rcases hw with hw | hw
  · exact (pg_tup hc h hn hst).run pins s σ H v u Q I r hw
  · exact (pg_unl hc h hn hst).run pins s σ H v u Q I r hw
theorem gOf_ok {G H : Hp} {σ : St} {Q : St → Hp → Prop} {tu : Bool} {is : List Nat} {d : D} {v : V} {vs : List D} (s : Same G H) (h : tOne tu 0 d = some vs) (hl : vs.length = is.length) (q : Rep K G d v) (hq : ∀ ws, Reps K G vs ws → Q (setL σ is ws) H) : gOf K tu is v σ H Q := by
  cases tu with
  | true =>
    cases d with
    | tup ds =>
      cases h
      unfold Rep at q
      obtain ⟨a, ws, rfl, q1, q2⟩ := q
      exact .inl ⟨a, ws, rfl, sameT s q1, by rw [q2.length]; exact hl, gNames_ok (by rw [q2.length]; exact hl) (hq ws q2)⟩
    | lst ds =>
      cases h
      unfold Rep at q
      obtain ⟨a, ws, rfl, q1, q2⟩ := q
      exact .inr ⟨a, ws, rfl, s.seq q1, by rw [q2.length]; exact hl, gNames_ok (by rw [q2.length]; exact hl) (hq ws q2)⟩
    | _ => cases h
  | false =>
    have h' : vs = [d] := by
      cases d <;> exact (Option.some.inj h).symm
    subst h'
    cases is with
    | nil => cases hl
    | cons i is =>
      cases is with
      | cons _ _ => cases hl
      | nil => exact hq [v] (Reps.cons q Reps.nil)
theorem lLc_core {tu : Bool} {is : List Nat} {σ : St} {Q : VK} {x : Fx} {G0 H0 : Hp} {e0 : Ev} {ds : List D} {J : It} {Q' : D → Ev → Prop} (r0 : ER K x G0 H0 σ e0) (wk : Walk K G0 x.F ds J)
    (hn : ∀ d env' p o G' H', Same G0 G' → ER K x G' H' σ env' → H' p = some o → RepO K G' d o → G' p = none → x.F p = none → (∀ (j : Nat) b d', env'[j]? = some (.ow b d') → σ[j]? ≠ some (some (.ref p))) → Q' d env' → Q (.ref p) H')
    (hq : nrs e0 is = true ∧ ∃ I : Nat → List D → Ev → Prop, I 0 [] (noE e0 is) ∧
  (∀ (k : Nat) d acc e, ds[k]? = some d → I k acc e → nrs e is = true ∧ mo (tOne tu 0 d) fun vs => vs.length = is.length ∧ wt (setE e is vs) (fun b e2 => if b = true then we e2 (fun y e3 => nrs e3 is = true ∧ acc.length < 1000000 ∧ I (k + 1) (acc ++ [y]) (noE e3 is)) (fun _ _ => False)
    else nrs e2 is = true ∧ I (k + 1) acc (noE e2 is)) (fun _ _ => False)) ∧ ∀ acc e, I ds.length acc e → Q' (.lst acc) e) :
    ∀ Dl, H0 Dl = none → ∃ W : Nat → Nat → Hp → Prop, (∃ m, W 0 m (upd H0 Dl (.lst []))) ∧ ∀ i m H, W i m H →
  (J.stop i H ∧ Q (.ref Dl) H) ∨ (J.go i H ∧ ∃ Nx : Hp → Prop, (∀ H', Nx H' → ∃ m', m' < m ∧ W (i + 1) m' H') ∧ ∀ x H', J.yld i H x H' → gOf K tu is x (wipe σ is) H' fun σ2 H2 => wipe σ2 is = wipe σ is ∧ lT K W0 wt σ2 H2 fun b H3 =>
    if b = true then lO K W0 (imO we) σ2 H3 fun y H4 => ∃ acc, H4 Dl = some (.lst acc) ∧ acc.length < sizeLine ∧ Nx (upd H4 Dl (.lst (acc ++ [y]))) else Nx H3) := by
  intro Dl hD
  obtain ⟨hn0, I, i0, turn, done⟩ := hq
  obtain ⟨f1, f2, f3⟩ := fresh_F r0 hD
  have r00 : ER K x G0 (upd H0 Dl (.lst [])) σ (noE e0 is) := (r0.step (Step.junk r0.sG _ hD)).reslot rfl (fun _ _ => rfl) hn0
  have own0 : ∀ {e : Ev} {σ' : St} {p : Addr} {is : List Nat}, (∀ (j : Nat) b d', e[j]? = some (.ow b d') → σ'[j]? ≠ some (some (.ref p))) → ∀ (j : Nat) b d', (noE e is)[j]? = some (.ow b d') → σ'[j]? ≠ some (some (.ref p)) := fun {e σ' p is} ho j b d' z => by
    by_cases q : j ∈ is
    · have hl' : j < e.length := by
        have := (List.getElem?_eq_some_iff.mp z).1
        rw [noE_length] at this
        exact this
      rw [noE_at q hl'] at z
      cases z
    · rw [noE_get q] at z
      exact ho j b d' z
  refine ⟨fun i m H' => m = ds.length - i ∧ i ≤ ds.length ∧ ∃ G1 e1 accD accV, Same G0 G1 ∧ ER K x G1 H' σ e1 ∧ H' Dl = some (.lst accV) ∧ Reps K G1 accD accV ∧ G1 Dl = none ∧ (∀ (j : Nat) b d', e1[j]? = some (.ow b d') → σ[j]? ≠ some (some (.ref Dl))) ∧ I i accD e1,
    ⟨ds.length, rfl, Nat.zero_le _, G0, _, [], [], .refl _, r00, upd_same, Reps.nil, f2, own0 f3, i0⟩, ?_⟩
  rintro i m H1 ⟨rfl, hi, G1, e1, accD, accV, s1, r1, hD1, ra, hG1, ho1, hI⟩
  have sH : Same G0 H1 := s1.trans r1.sG
  by_cases hlt : i < ds.length
  · refine .inr ⟨wk.go i H1 sH r1.sF hlt, fun H' => ∃ G2 e2 accD' accV', Same G1 G2 ∧ ER K x G2 H' σ e2 ∧ H' Dl = some (.lst accV') ∧ Reps K G2 accD' accV' ∧ G2 Dl = none ∧ (∀ (j : Nat) b d', e2[j]? = some (.ow b d') → σ[j]? ≠ some (some (.ref Dl))) ∧ I (i + 1) accD' e2, ?_, fun v H2 hy => ?_⟩
    · rintro H' ⟨G2, e2, accD', accV', s2, r2, a1, a2, a3, a4, a5⟩
      exact ⟨ds.length - (i + 1), by omega, rfl, hlt, G2, e2, accD', accV', s1.trans s2, r2, a1, a2, a3, a4, a5⟩
    · obtain ⟨G2, st, rp⟩ := wk.yld i H1 v H2 ds[i] G1 s1 r1.sG r1.sF (List.getElem?_eq_getElem hlt) hy
      obtain ⟨hnr, ht⟩ := turn i ds[i] accD e1 (List.getElem?_eq_getElem hlt) hI
      obtain ⟨vs, z1, hl, ht⟩ := mo_some ht
      have r2 := r1.step st
      have hD2 : H2 Dl = some (.lst accV) := st.h _ _ hD1
      have hG2 : G2 Dl = none := by
        cases z : G2 Dl with
        | none => rfl
        | some o =>
          have q := st.new Dl o z hG1
          rw [hD1] at q
          cases q
      -- the list that grows is hidden
      have rh := r2.hide hD2 hG2 ho1
      refine gOf_ok r2.sG z1 hl rp fun ws rw' => ⟨wipe_setL, ?_⟩
      have rw0 : ER K { x with F := upd x.F Dl (.lst accV) } G2 H2 (wipe σ is) (noE e1 is) := rh.reslot (by rw [wipe_length]) (fun k hk => wipe_get hk) hnr
      have rw1 : ER K { x with F := upd x.F Dl (.lst accV) } G2 H2 (setL (wipe σ is) is ws) (setE e1 is vs) := by
        have q := rw0.setL (is := is) rw' (by
          refine List.all_eq_true.mpr fun j hj => ?_
          unfold nr
          by_cases hl' : j < e1.length
          · rw [noE_at hj hl']
          · rw [List.getElem?_eq_none (by rw [noE_length]; omega)])
        have ee : setE (noE e1 is) is vs = setE e1 is vs := by
          clear ht z1 rw' q
          have gen : ∀ (is' : List Nat) (vs : List D) (e e' : Ev), vs.length = is'.length → e.length = e'.length → (∀ k, k ∉ is' → e[k]? = e'[k]?) → setE e is' vs = setE e' is' vs := by
            intro is'
            induction is' with
            | nil =>
              intro vs e e' hl' hle hk
              have : e = e' := List.ext_getElem? fun k => hk k (by simp)
              rw [this]
            | cons i0 is' ih =>
              intro vs e e' hl' hle hk
              cases vs with
              | nil => cases hl'
              | cons d vs =>
                unfold setE
                refine ih vs _ _ (by simpa using hl') (by rw [List.length_set, List.length_set, hle]) fun k hk' => ?_
                by_cases z : i0 = k
                · subst z
                  by_cases hz : i0 < e.length
                  · rw [List.getElem?_set_self hz, List.getElem?_set_self (by rw [← hle]; exact hz)]
                  · rw [List.getElem?_eq_none (by rw [List.length_set]; omega), List.getElem?_eq_none (by rw [List.length_set]; omega)]
                · rw [List.getElem?_set_ne z, List.getElem?_set_ne z]
                  exact hk k fun q => (List.mem_cons.mp q).elim (fun q => z q.symm) hk'
          exact gen is vs _ _ hl (noE_length _ _) fun k hk => noE_get hk
        rw [ee] at q
        exact q
      have back : ∀ {G' H' : Hp} {e' : Ev}, ER K { x with F := upd x.F Dl (.lst accV) } G' H' (setL (wipe σ is) is ws) e' → nrs e' is = true → ER K { x with F := upd x.F Dl (.lst accV) } G' H' σ (noE e' is) := fun {G' H' e'} r' hn' =>
        r'.reslot (by rw [setL_length, wipe_length]) (fun k hk => by rw [setL_get hk, wipe_get hk]) hn'
      refine ⟨_, G2, _, _, fun _ _ => False, rw1, ht, fun b e2 G3 H3 s3 r3 hb => ?_, fun _ _ _ _ _ _ _ _ _ z => z⟩
      cases b with
      | false =>
        obtain ⟨hn3, hI3⟩ := hb
        obtain ⟨r4, a1, a2, a3⟩ := (back r3 hn3).unhide (fun ⟨vs, e⟩ => by cases e) f1
        exact ⟨G3, _, accD, accV, st.g.trans s3, r4, a1, Reps.mono (st.g.trans s3) _ _ ra, a2, a3, hI3⟩
      | true =>
        refine ⟨_, G3, e2, _, fun _ _ => False, r3, imO_mono hb, fun h e3 y G4 H4 s4 r4 q4 hq4 => ?_, fun _ _ _ _ _ _ _ _ _ z => z⟩
        obtain ⟨dy, rfl, hn4, hlen, hI4⟩ := hq4
        obtain ⟨r5, a1, a2, a3⟩ := (back r4 hn4).unhide (fun ⟨vs, e⟩ => by cases e) f1
        have s24 : Same G1 G4 := (st.g.trans s3).trans s4
        have ra4 := Reps.mono s24 _ _ ra
        refine ⟨accV, a1, by rw [ra.length]; exact line_lt (by omega), G4, _, accD ++ [dy], accV ++ [y], s24, ?_, upd_same, ra4.append (Reps.cons q4 Reps.nil), a2, a3, hI4⟩
        have kp : ∀ {b : Addr} {u : HO}, b ≠ Dl → H4 b = some u → upd H4 Dl (.lst (accV ++ [y])) b = some u := fun {b u} hb h => by
          rw [upd_ne hb]
          exact h
        refine ⟨r5.len, fun b u h => kp (fun z => ?_) (r5.sG b u h), fun b u h => kp (fun z => ?_) (r5.sF b u h), r5.dj, r5.im, fun j b d' h => ?_, r5.nd, r5.rt⟩
        · rw [z, a2] at h
          cases h
        · rw [z, f1] at h
          cases h
        · obtain ⟨p2, o2, z1, z2, z3, z4, z5⟩ := r5.ow j b d' h
          exact ⟨p2, o2, z1, kp (fun z => a3 j b d' h (by rw [← z]; exact z1)) z2, z3, z4, z5⟩
  · have ei : i = ds.length := by omega
    subst ei
    exact .inl ⟨wk.stop _ H1 sH r1.sF (Nat.le_refl _), hn (.lst accD) e1 Dl _ G1 H1 s1 r1 hD1 ⟨accV, rfl, ra⟩ hG1 f1 ho1 (done accD e1 hI)⟩
theorem lLc {wi : WI} {tu : Bool} {is : List Nat} (σ : St) (H : Hp) (Q : VK) (h : lF K W (wLc wi tu is wt we) σ H Q) : tLc (lI K W wi) (gOf K tu is) (lT K W0 wt) (lO K W0 (imO we)) is σ H Q := by
  obtain ⟨x, G, env, Q', X', r, hw, hn, hx⟩ := h
  exact ⟨x, G, env, _, X', r, hw, fun ds e0 G0 H0 J s0 r0 wk hq => lLc_core r0 wk (fun d env' p o G' H' s => hn d env' p o G' H' (s0.trans s)) hq, hx⟩
theorem qf_lc {scope : Scope} {own : List (Str × Nat)} {wi : WI} {tu : Bool} (hc : X.calm = true) (hN : X.N.Nodup) (hi : QI X W tg iter wi) (ok : BlkOk X.N X.env.scope scope own)
    (hg : ∀ (s : Shared) (H : Hp) (C : Addr) (cl : List (Str × Addr)) (fp : List Addr), PG (X.blk s H scope (compEnvC scope cl C X.env) fp) tg (gOf X.K tu (own.map (·.2))))
    (ht : ∀ (s : Shared) (H : Hp) (C : Addr) (cl : List (Str × Addr)) (fp : List Addr), QTs (X.blk s H scope (compEnvC scope cl C X.env) fp) W0 ifs wt)
    (he : ∀ (s : Shared) (H : Hp) (C : Addr) (cl : List (Str × Addr)) (fp : List Addr), QE (X.blk s H scope (compEnvC scope cl C X.env) fp) W0 elt we) (hs : ∀ x, foldedSetIterable iter X.env x = pure x := by intro _; rfl) :
    QF X W (.ListComp elt [⟨tg, iter, ifs, 0⟩] scope pos) (wLc wi tu (own.map (·.2)) wt we) := (pe_lc hc hN hi ok hg ht he hs).le lLc
theorem qs_setLc {i : Nat} {y : Str} {py spos : Pos} {scope : Scope} {own : List (Str × Nat)} {wi : WI} {tu : Bool} (hc : X.calm = true) (hN : X.N.Nodup) (hy : X.N[i]? = some y) (hyl : X.env.scope.names.lookup y = some .local)
    (hsw : swapsWith (.ListComp elt [⟨tg, iter, ifs, 0⟩] scope pos) (some (.Name y py)) spos.line X.env = pure true) (hi : QI X W tg iter wi) (ok : BlkOk X.N X.env.scope scope own)
    (hg : ∀ (s : Shared) (H : Hp) (C : Addr) (cl : List (Str × Addr)) (fp : List Addr), PG (X.blk s H scope (compEnvC scope cl C X.env) fp) tg (gOf X.K tu (own.map (·.2))))
    (ht : ∀ (s : Shared) (H : Hp) (C : Addr) (cl : List (Str × Addr)) (fp : List Addr), QTs (X.blk s H scope (compEnvC scope cl C X.env) fp) W0 ifs wt)
    (he : ∀ (s : Shared) (H : Hp) (C : Addr) (cl : List (Str × Addr)) (fp : List Addr), QE (X.blk s H scope (compEnvC scope cl C X.env) fp) W0 elt we) (hs : ∀ x, foldedSetIterable iter X.env x = pure x := by intro _; rfl) :
    PS X (.Assign [.Name y py] (.ListComp elt [⟨tg, iter, ifs, 0⟩] scope pos) spos) (tAsg (lF X.K W (wLc wi tu (own.map (·.2)) wt we)) (gName i)) := (ps_setLc hc hN hy hyl hsw hi ok hg ht he hs).le fun De σ H h => lLc σ H _ h
theorem qs_imLc {st : Stmt} {i : Nat} (h : PS X st (tAsg (lF X.K W we) (gName i))) : QS X W st (sAsg we (gN i)) := h.le fun De σ H h => by
  obtain ⟨x, G, env, E', r, hw, hE⟩ := h
  refine ⟨x, G, env, _, E'.xc, r, hw, fun d env' p o G' H' s r' hp q hG hF ho hq => ?_, hE.xe σ⟩
  obtain ⟨hn, hq⟩ := hq
  have sG' : Same G' (upd G' p o) := same_new hG
  have r2 := r'.setOw hp q hF hG (r'.noR (nr_ok hn)) ho
  by_cases hl : i < env'.length
  · have hl2 : i < σ.length := by rw [r'.len]; exact hl
    obtain ⟨r3, s3, _⟩ := r2.freeze (i := i) (List.getElem?_set_self hl) (List.getElem?_set_self hl2) hp (r'.noR (nr_ok hn))
    rw [List.set_set] at r3
    exact hE.nx _ _ _ H' (s.trans s3) r3 hq
  · have e1 : env'.set i (.im d) = env' := List.set_eq_of_length_le (by omega)
    have e2 : σ.set i (some (.ref p)) = σ := List.set_eq_of_length_le (by rw [r'.len]; omega)
    rw [e1] at hq
    show De.nx (σ.set i (some (.ref p))) H'
    rw [e2]
    exact hE.nx _ _ G' H' s r' hq
end
end TL

namespace TL
open PySem PySem.Spec L2
inductive Cn where
  | ty (n : String) | own (c : Str)
def Cn.val (K : PySem.W.Frag) : Cn → Value
  | .ty n => .type n
  | .own c => .ref (He.ga K c)
def Cn.v (K : PySem.W.Frag) : Cn → V
  | .ty n => .ty n
  | .own c => .ref (He.ga K c)
structure CT (K : PySem.W.Frag) (tb : List CI) (ks : List Str) : Prop where
  cls : ∀ c ∈ tb, Cls K (He.ga K c.name)
  ins : ∀ c ∈ tb, insB K (He.ga K c.name) = true
  fld : ∀ c ∈ tb, ∀ f ∈ c.fields, NoAttr K (He.ga K c.name) f
  oo : ∀ c ∈ tb, ∀ k ∈ ks, PySem.W.kitOne K (.ref (He.ga K c.name)) (.ref (He.ga K k)) = some (c.anc.contains k)
  ot : ∀ c ∈ tb, ∀ t ∈ bts, PySem.W.kitOne K (.ref (He.ga K c.name)) (.type t) = some false
  to : ∀ t ∈ bts, ∀ k ∈ ks, PySem.W.kitOne K (.type t) (.ref (He.ga K k)) = some false
  tt : ∀ t ∈ bts, ∀ u ∈ bts, PySem.W.kitOne K (.type t) (.type u) = some (bsub t u)
theorem ctB_ok {K : PySem.W.Frag} {tb : List CI} {ks : List Str} (h : ctB K tb ks = true) : CT K tb ks := by
  obtain ⟨h1, h2⟩ := He.ba h
  obtain ⟨h2, h3⟩ := He.ba h2
  have g1 := fun c hc => He.ba (List.all_eq_true.mp h1 c hc)
  have g2 := fun c hc => He.ba (g1 c hc).2
  have g3 := fun c hc => He.ba (g2 c hc).2
  have g4 := fun c hc => He.ba (g3 c hc).2
  exact ⟨fun c hc => He.cls_ok (g1 c hc).1, fun c hc => (g2 c hc).1, fun c hc f hf => He.noat_ok (List.all_eq_true.mp (g3 c hc).1 f hf), fun c hc k hk => of_decide_eq_true (List.all_eq_true.mp (g4 c hc).1 k hk),
    fun c hc t ht => of_decide_eq_true (List.all_eq_true.mp (g4 c hc).2 t ht), fun t ht k hk => of_decide_eq_true (List.all_eq_true.mp (List.all_eq_true.mp h2 t ht) k hk), fun t ht u hu => of_decide_eq_true (List.all_eq_true.mp (List.all_eq_true.mp h3 t ht) u hu)⟩
def ciOf (tb : List CI) (c : Str) : Option CI := tb.find? fun k => k.name == c
theorem ciOf_some {tb : List CI} {c : Str} {k : CI} (h : ciOf tb c = some k) : k ∈ tb ∧ k.name = c := by
  unfold ciOf at h
  exact ⟨List.mem_of_find?_eq_some h, by simpa using List.find?_some h⟩
def tagOf (tb : List CI) : D → Option (Sum String CI)
  | .non => some (.inl "NoneType")
  | .bl _ => some (.inl "bool")
  | .int _ => some (.inl "int")
  | .str _ => some (.inl "str")
  | .lst _ => some (.inl "list")
  | .tup _ => some (.inl "tuple")
  | .dic _ _ => some (.inl "dict")
  | .ty _ => none
  | .exc _ _ _ _ => none
  | .dit _ _ => none
  | .tpo _ => none
  | .tpn _ => none
  | .ins c _ _ => (ciOf tb c).map Sum.inr
def isa : Sum String CI → Cn → Bool
  | .inl t, .ty u => bsub t u
  | .inl _, .own _ => false
  | .inr _, .ty _ => false
  | .inr c, .own k => c.anc.contains k
def cnOk (ks : List Str) : Cn → Bool
  | .ty u => bts.contains u
  | .own k => ks.contains k
def tagV (K : PySem.W.Frag) : Sum String CI → Value
  | .inl t => .type t
  | .inr c => .ref (He.ga K c.name)
section
variable {K : PySem.W.Frag} {tb : List CI} {ks : List Str} {G H : Hp}
theorem tag_bts {d : D} {t : String} (h : tagOf tb d = some (.inl t)) : t ∈ bts := by
  cases d with
  | ins c ns ds =>
    have h' : (ciOf tb c).map (Sum.inr : CI → Sum String CI) = some (.inl t) := h
    cases z : ciOf tb c with
    | none =>
      rw [z] at h'
      cases h'
    | some k =>
      rw [z] at h'
      cases h'
  | ty _ => cases h
  | exc _ _ _ _ => cases h
  | dit _ _ => cases h
  | tpo _ => cases h
  | tpn _ => cases h
  | _ =>
    cases h
    decide
theorem tag_ci {d : D} {c : CI} (h : tagOf tb d = some (.inr c)) : c ∈ tb := by
  cases d with
  | ins c' ns ds =>
    have h' : (ciOf tb c').map (Sum.inr : CI → Sum String CI) = some (.inr c) := h
    cases z : ciOf tb c' with
    | none =>
      rw [z] at h'
      cases h'
    | some k =>
      rw [z] at h'
      cases h'
      exact (ciOf_some z).1
  | _ => cases h
theorem CT.kit (T : CT K tb ks) {d : D} {g : Sum String CI} (h : tagOf tb d = some g) : ∀ {c : Cn}, cnOk ks c = true → PySem.W.kitOne K (tagV K g) (c.val K) = some (isa g c) := fun {c} hc => by
  cases g with
  | inl t =>
    cases c with
    | ty u => exact T.tt t (tag_bts h) u (by simpa [cnOk] using hc)
    | own k => exact T.to t (tag_bts h) k (by simpa [cnOk] using hc)
  | inr ci =>
    cases c with
    | ty u => exact T.ot ci (tag_ci h) u (by simpa [cnOk] using hc)
    | own k => exact T.oo ci (tag_ci h) k (by simpa [cnOk] using hc)
theorem CT.any (T : CT K tb ks) {d : D} {g : Sum String CI} (h : tagOf tb d = some g) : ∀ {cs : List Cn}, cs.all (cnOk ks) = true → PySem.W.kitAny K (tagV K g) (cs.map (Cn.val K)) = some (cs.any (isa g))
  | [], _ => rfl
  | c :: cs, hc => by
    rw [List.all_cons, Bool.and_eq_true] at hc
    rw [List.map_cons, List.any_cons]
    unfold PySem.W.kitAny
    rw [T.kit h hc.1]
    cases isa g c with
    | true => rfl
    | false => exact T.any h hc.2
theorem CT.ty (T : CT K tb ks) {d : D} {g : Sum String CI} {v : V} (h : tagOf tb d = some g) (r : RepT K G H d v) : TyX K H v (tagV K g) := by
  cases d with
  | non => cases h; cases (show v = .non from r); exact .base .non
  | bl b => cases h; cases (show v = .bl b from r); exact .base (.bl b)
  | int b => cases h; cases (show v = .int b from r); exact .base (.int b)
  | str b => cases h; cases (show v = .str b from r); exact .base (.str b)
  | ty _ => cases h
  | exc _ _ _ _ => cases h
  | dit _ _ => cases h
  | tpo _ => cases h
  | tpn _ => cases h
  | lst ds =>
    cases h
    obtain ⟨a, vs, rfl, q, _⟩ := r
    rcases q with (q | ⟨o, q⟩) | ⟨o, its, n, q1, q2, _⟩
    · exact .base (.lst q)
    · exact .base (.frz q)
    · exact .kList q1 q2
  | tup ds =>
    cases h
    obtain ⟨a, vs, rfl, q, _⟩ := r
    rcases q with (q | ⟨o, q⟩) | ⟨o, its, n, q1, q2, _⟩
    · exact .base (.tup q)
    · exact .fTuple q
    · exact .kTuple q1 q2
  | dic ks' ds =>
    cases h
    obtain ⟨a, vs, rfl, q, _⟩ := r
    exact .base (.dK q)
  | ins c ns ds =>
    have h' : (ciOf tb c).map (Sum.inr : CI → Sum String CI) = some g := h
    cases z : ciOf tb c with
    | none =>
      rw [z] at h'
      cases h'
    | some k =>
      rw [z] at h'
      have h2 : Sum.inr k = g := Option.some.inj h'
      subst h2
      obtain ⟨z1, z2⟩ := ciOf_some z
      obtain ⟨a, dx, vs, rfl, q, _⟩ := r
      have hi := T.ins k z1
      unfold insB at hi
      obtain ⟨i1, hi⟩ := He.ba hi
      obtain ⟨i2, hi⟩ := He.ba hi
      obtain ⟨i3, i4⟩ := He.ba hi
      rw [← z2] at q
      exact .base (.ins q (T.cls k z1) (of_decide_eq_true i1) (of_decide_eq_true i2) (of_decide_eq_true i3) (of_decide_eq_true i4))
end
theorem Cn.clsV (K : PySem.W.Frag) : ∀ c : Cn, ClsV (c.v K) (c.val K)
  | .ty n => .ty n
  | .own c => .own _
section
variable {X : Cx} {W : WX} {a b c e : Expr} {pos p : Pos} {wa wb : WO} {we wf : WE} {wl : WA} {es : List Expr} {K : PySem.W.Frag} {tb : List CI} {ks : List Str}
def PCn (X : Cx) (e : Expr) (c : Cn) : Prop := PE X e (tC (c.v X.K))
theorem pcn_ty {n : Str} {t : String} (hm : X.mg n = none) (hb : bootBuiltins n = some (.type t)) (hg : Gl X n := by rfl) (hn : n ≠ "__name__" := by decide) (hd : (n == ("__debug__" : Str)) = false := by decide) : PCn X (.Name n pos) (.ty t) := pe_bltn hg hm hb rfl hn hd
theorem pcn_own {n : Str} (hm : X.mg n = some (.ref (He.ga X.K n))) (hg : Gl X n := by rfl) (hd : (n == ("__debug__" : Str)) = false := by decide) : PCn X (.Name n pos) (.own n) := pe_glob hg hm rfl hd
inductive PCns (X : Cx) : List Expr → List Cn → Prop where
  | nil : PCns X [] []
  | cons {e : Expr} {es : List Expr} {c : Cn} {cs : List Cn} (h : PCn X e c) (hs : starEach (e :: es) X.env = (false, eval e X.env) :: starEach es X.env) (t : PCns X es cs) : PCns X (e :: es) (c :: cs)
def kIsi (tb : List CI) (cs : List Cn) : D → (D → Prop) → Prop := fun d P => mo (tagOf tb d) fun g => P (.bl (cs.any (isa g)))
theorem qe_isi {cl : Expr} {cn : Cn} (T : CT X.K tb ks) (hk : cnOk ks cn = true) (hm : X.mg "isinstance" = none) (ha : QO X W e wa) (hc : PCn X cl cn) (hg : Gl X "isinstance" := by rfl)
    (he : starEach [e, cl] X.env = (false, eval e X.env) :: starEach [cl] X.env := by rfl) (he2 : starEach [cl] X.env = (false, eval cl X.env) :: starEach [] X.env := by rfl) (hpl : (backTo pos (starEach [cl] X.env)).any (·.1) = false := by rfl) :
    QE X W (.Call (.Name "isinstance" p) [e, cl] [] pos) (w1 (kIsi tb [cn]) wa) := (pe_callB call_isi hg hm (by decide +kernel) (pa_cons ha (pa_cons hc pa_nil he2) he) (he := he) (hpl := hpl)).le fun σ H Q h => by
  obtain ⟨x, G, env, Q', X', r, hw, hn, hx⟩ := h
  refine ⟨x, G, env, _, X', r, hw, fun h e1 v G1 H1 s1 r1 q1 hq => ?_, hx⟩
  obtain ⟨d, z1, hq⟩ := mo_some hq
  obtain ⟨g, z2, hq⟩ := mo_some hq
  refine ⟨v, cn.v X.K, tagV X.K g, cn.val X.K, isa g cn, rfl, Cn.clsV X.K cn, T.ty z2 (q1.read r1 z1), T.kit z2 hk, ?_⟩
  have ee : [cn].any (isa g) = isa g cn := by
    rw [List.any_cons, List.any_nil, Bool.or_false]
  rw [ee] at hq
  exact hn (.im (.bl (isa g cn))) e1 _ G1 H1 s1 r1 rfl hq
theorem pcns_pa : ∀ {es : List Expr} {cs : List Cn}, PCns X es cs → PA X es (fun σ H Q => Q (cs.map (Cn.v X.K)) H)
  | _, _, .nil => pa_nil
  | _, _, .cons h hs t => pa_cons h (pcns_pa t) hs
theorem paired_cn : ∀ cs : List Cn, Paired ClsV (cs.map (Cn.v K)) (cs.map (Cn.val K))
  | [] => .nil
  | c :: cs => .cons (Cn.clsV K c) (paired_cn cs)
theorem qe_isiT {cls : List Expr} {cns : List Cn} {k1 : Nat} {tp : Pos} (T : CT X.K tb ks) (hk : cns.all (cnOk ks) = true) (hl : cns.length ≤ 100) (hm : X.mg "isinstance" = none) (ha : QO X W e wa) (hc : PCns X cls cns) (hg : Gl X "isinstance" := by rfl)
    (he : starEach [e, .Tuple cls k1 tp] X.env = (false, eval e X.env) :: starEach [.Tuple cls k1 tp] X.env := by rfl) (he2 : starEach [.Tuple cls k1 tp] X.env = (false, eval (.Tuple cls k1 tp) X.env) :: starEach [] X.env := by rfl) (hpl : (backTo pos (starEach [.Tuple cls k1 tp] X.env)).any (·.1) = false := by rfl) :
    QE X W (.Call (.Name "isinstance" p) [e, .Tuple cls k1 tp] [] pos) (w1 (kIsi tb cns) wa) := (pe_callB call_isiT hg hm (by decide +kernel) (pa_cons ha (pa_cons (pe_tup (pcns_pa hc)) pa_nil he2) he) (he := he) (hpl := hpl)).le fun σ H Q h => by
  obtain ⟨x, G, env, Q', X', r, hw, hn, hx⟩ := h
  refine ⟨x, G, env, _, X', r, hw, fun h e1 v G1 H1 s1 r1 q1 hq => ?_, hx⟩
  obtain ⟨d, z1, hq⟩ := mo_some hq
  obtain ⟨g, z2, hq⟩ := mo_some hq
  refine ⟨by rw [List.length_map]; exact line_le (by omega), fun tq htq => ?_⟩
  have st := Step.junk r1.sG (.tup (cns.map (Cn.v X.K))) htq
  have r2 := r1.step st
  exact ⟨v, tq, cns.map (Cn.v X.K), tagV X.K g, cns.map (Cn.val X.K), cns.any (isa g), rfl, upd_same, paired_cn cns, T.ty z2 (q1.read r2 z1), T.any z2 hk, hn (.im (.bl (cns.any (isa g)))) e1 _ G1 _ s1 r2 rfl hq⟩

def fldOf (f : Str) : D → Option D
  | .ins _ ns ds => (ns.zip ds).lookup f
  | _ => none
def fldOk (tb : List CI) (f : Str) : D → Bool
  | .ins c _ _ => match ciOf tb c with
    | some k => k.fields.contains f
    | none => false
  | _ => false
theorem zip_look {K : PySem.W.Frag} {G : Hp} {f : Str} : ∀ {ns : List Str} {ds : List D} {vs : List V} {d : D}, Reps K G ds vs → (ns.zip ds).lookup f = some d → ∃ v, (ns.zip vs).lookup f = some v ∧ Rep K G d v
  | [], ds, vs, d, _, e => by cases e
  | n :: ns, [], vs, d, _, e => by cases e
  | n :: ns, d0 :: ds, vs, d, r, e => by
    unfold Reps at r
    obtain ⟨v, vr, rfl, q1, q2⟩ := r
    rw [List.zip_cons_cons, List.lookup_cons] at e ⊢
    cases z : (f == n) with
    | true =>
      rw [z] at e
      cases e
      exact ⟨v, rfl, q1⟩
    | false =>
      rw [z] at e
      exact zip_look q2 e
def kFld (tb : List CI) (f : Str) : D → (D → Prop) → Prop := fun d P => fldOk tb f d = true ∧ mo (fldOf f d) P
theorem qe_fld {f : Str} (T : CT X.K tb ks) (ha : QO X W e wa) (hb : attributeBase e f X.env (eval e X.env) = eval e X.env := by rfl) : QE X W (.Attribute e f pos) (w1 (kFld tb f) wa) := (pe_fld ha hb).le
  (l1 (r := fun x H Q => ∃ a C dx fs v, x = .ref a ∧ H a = some (.ins C dx fs) ∧ Cls X.K C ∧ NoAttr X.K C f ∧ fs.lookup f = some v ∧ Q v H) fun G H d v P Q s h hk hq => by
    obtain ⟨hok, hk1⟩ := hk
    obtain ⟨d', z, hk2⟩ := mo_some hk1
    cases d with
    | ins c ns ds =>
      obtain ⟨a, dx, vs, rfl, q, hl, rr⟩ := h
      unfold fldOk at hok
      simp only at hok
      cases zc : ciOf tb c with
      | none =>
        rw [zc] at hok
        cases hok
      | some k =>
        rw [zc] at hok
        obtain ⟨k1, k2⟩ := ciOf_some zc
        obtain ⟨v', e', r'⟩ := zip_look rr z
        have hf : f ∈ k.fields := by simpa using hok
        refine ⟨a, _, dx, _, v', rfl, q, ?_, ?_, e', hq d' v' G H (.refl s) r' hk2⟩
        · rw [← k2]
          exact T.cls k k1
        · rw [← k2]
          exact T.fld k k1 f hf
    | _ => cases z)
def putD (f : Str) (d : D) : List Str → List D → List Str × List D
  | n :: ns, d0 :: ds => if n = f then (n :: ns, d :: ds) else (n :: (putD f d ns ds).1, d0 :: (putD f d ns ds).2)
  | _, _ => ([f], [d])
theorem putD_ok {K : PySem.W.Frag} {G : Hp} {f : Str} {d : D} {v : V} (q : Rep K G d v) : ∀ {ns : List Str} {ds : List D} {vs : List V}, ns.length = vs.length → Reps K G ds vs →
    ∃ vs', putF f v (ns.zip vs) = (putD f d ns ds).1.zip vs' ∧ (putD f d ns ds).1.length = vs'.length ∧ Reps K G (putD f d ns ds).2 vs'
  | [], [], vs, hl, r => by
    unfold Reps at r
    rw [r]
    exact ⟨[v], rfl, rfl, Reps.cons q Reps.nil⟩
  | [], d0 :: ds, vs, hl, r => by
    unfold Reps at r
    obtain ⟨v0, vr, rfl, _⟩ := r
    cases hl
  | n :: ns, [], vs, hl, r => by
    unfold Reps at r
    rw [r] at hl
    cases hl
  | n :: ns, d0 :: ds, vs, hl, r => by
    unfold Reps at r
    obtain ⟨v0, vr, rfl, q1, q2⟩ := r
    have hl' : ns.length = vr.length := by simpa using hl
    rw [List.zip_cons_cons]
    unfold putF putD
    by_cases z : n = f
    · rw [if_pos z, if_pos z]
      exact ⟨v :: vr, rfl, hl, Reps.cons q q2⟩
    · rw [if_neg z, if_neg z]
      obtain ⟨vs', e1, e2, e3⟩ := putD_ok q hl' q2
      refine ⟨v0 :: vs', ?_, ?_, Reps.cons q1 e3⟩
      · rw [e1]
        rfl
      · show (putD f d ns ds).1.length + 1 = vs'.length + 1
        rw [e2]
def sFldD (tb : List CI) (i : Nat) (f : Str) (w : WE) : WS := fun env E => w env (fun d e => mo (owAt e i) fun o => match o with
  | .ins c ns ds => fldOk tb f o = true ∧ ns.length < 900 ∧ E.nx (putOw e i (.ins c (putD f d ns ds).1 (putD f d ns ds).2))
  | _ => False) E.xc
theorem qs_fld (i : Nat) {f n : Str} {np pos' : Pos} (T : CT X.K tb ks) (he : QE X W e we) (hs : swapsWith e (some (.Attribute (.Name n np) f pos')) pos.line X.env = pure false := by rfl) (hN : X.N[i]? = some n := by rfl)
    (hvs : Vis X.env.scope n := by first | exact Or.inl rfl | exact Or.inr (Or.inl rfl) | exact Or.inr (Or.inr rfl)) (hd : (n == ("__debug__" : Str)) = false := by decide) (hcd : (n == ("__classdict__" : Str)) = false := by decide) :
    QS X W (.Assign [.Attribute (.Name n np) f pos'] e pos) (sFldD tb i f we) := (ps_fld (pe_var hN hvs hd hcd) he hs).le fun De σ H h => by
  obtain ⟨x, G, env, E', r, hw, hE⟩ := h
  refine ⟨x, G, env, _, E'.xc, r, imO_mono hw, fun h e1 v G1 H1 s1 r1 q1 hq => ?_, hE.xe σ⟩
  obtain ⟨d, rfl, hq⟩ := hq
  obtain ⟨o, y0, hq⟩ := mo_some hq
  obtain ⟨b0, y0⟩ := owAt_some y0
  cases o with
  | ins c ns ds =>
    obtain ⟨hok, hlen, hq⟩ := hq
    obtain ⟨p1, ob, u1, u2, u3, u4, u5⟩ := r1.ow i b0 _ y0
    obtain ⟨dx, vs, rfl, hl, rr⟩ := u3
    unfold fldOk at hok
    simp only at hok
    cases zc : ciOf tb c with
    | none =>
      rw [zc] at hok
      cases hok
    | some k =>
      rw [zc] at hok
      obtain ⟨k1, k2⟩ := ciOf_some zc
      have hf : f ∈ k.fields := by simpa using hok
      obtain ⟨vs', e1', e2', e3'⟩ := putD_ok (f := f) q1 hl rr
      refine ⟨.ref p1, u1, p1, He.ga X.K c, dx, ns.zip vs, rfl, u2, ?_, ?_, ?_, ?_⟩
      · rw [← k2]
        exact T.cls k k1
      · rw [← k2]
        exact T.fld k k1 f hf
      · rw [List.length_zip]
        omega
      · refine hE.nx _ σ G1 _ s1 (r1.putOw (d' := .ins c (putD f d ns ds).1 (putD f d ns ds).2) y0 u1 ⟨dx, vs', ?_, e2', e3'⟩) hq
        rw [e1']
  | _ => exact hq.elim
end
end TL

namespace TL
open PySem PySem.Spec L2
structure Rn where
  rt : D → List Sl → Prop
  ro : D → List Sl → Prop := fun _ _ => False
  xc : Xn → List Sl → Prop := fun _ _ => False
abbrev SpT := List Sl → Rn → Prop
def AR (K : PySem.W.Frag) (x : Fx) (G H : Hp) (vs : List V) (sl : List Sl) : Prop := ER K x G H (vs.map some) sl ∧ ∀ (i : Nat) b d, sl[i]? = some (.ow b d) → b = true ∧ ∃ p, vs[i]? = some (.ref p) ∧ x.R i = some p
def spT (K : PySem.W.Frag) (T : SpT) : Sp := fun vs H Q E => ∃ x G sl R, AR K x G H vs sl ∧ T sl R ∧
  (∀ d sl' v G' H', Same G G' → ER K x G' H' (vs.map some) sl' → Rep K G' d v → R.rt d sl' → Q v H') ∧
  (∀ d sl' p o G' H', Same G G' → ER K x G' H' (vs.map some) sl' → H' p = some o → RepO K G' d o → G' p = none → x.F p = none → (∀ i, x.R i ≠ some p) → R.ro d sl' → Q (.ref p) H') ∧
  (∀ e sl' cls dd G' H', Same G G' → ER K x G' H' (vs.map some) sl' → XRep K G' e cls dd → R.xc e sl' → E cls dd H')
def outs : List Sl → Ev → List Sl
  | .ow _ _ :: sl, e :: env => e :: outs sl env
  | .im d :: sl, _ :: env => .im d :: outs sl env
  | .no :: sl, _ :: env => .no :: outs sl env
  | sl, [] => sl
  | [], _ => []
theorem outs_nil (env : Ev) : outs [] env = [] := by cases env <;> rfl
theorem outs_get : ∀ {sl : List Sl} {env : Ev} {i : Nat}, (outs sl env)[i]? = match sl[i]? with
    | some (.ow b d) => (match env[i]? with
      | some e => some e
      | none => some (.ow b d))
    | o => o
  | [], env, i => by
    rw [outs_nil]
    simp
  | s :: sl, [], i => by
    have e : outs (s :: sl) [] = s :: sl := by cases s <;> rfl
    rw [e]
    cases z : (s :: sl)[i]? with
    | none => rfl
    | some t => cases t <;> simp
  | s :: sl, e :: env, i => by
    cases i with
    | zero => cases s <;> rfl
    | succ i =>
      cases s with
      | no => exact outs_get (sl := sl) (env := env) (i := i)
      | im d => exact outs_get (sl := sl) (env := env) (i := i)
      | ow b d => exact outs_get (sl := sl) (env := env) (i := i)
theorem outs_length : ∀ {sl : List Sl} {env : Ev}, (outs sl env).length = sl.length
  | [], env => by rw [outs_nil]
  | s :: sl, [] => by cases s <;> rfl
  | s :: sl, e :: env => by
    cases s with
    | no => exact congrArg Nat.succ (outs_length (sl := sl) (env := env))
    | im d => exact congrArg Nat.succ (outs_length (sl := sl) (env := env))
    | ow b d => exact congrArg Nat.succ (outs_length (sl := sl) (env := env))
section
variable {K : PySem.W.Frag} {x : Fx} {G H G' H' : Hp} {σ σ' : St} {env env' : Ev} {vs : List V} {sl sl' : List Sl}
theorem AR.start (r : AR K x G H vs sl) (N : List Str) : ER K x G H (start N vs) (sl ++ List.replicate (N.length - sl.length) .no) := by
  obtain ⟨r, _⟩ := r
  have hl : vs.length = sl.length := by
    have := r.len
    rw [List.length_map] at this
    exact this
  have out : ∀ {i : Nat} {s : Sl}, (sl ++ List.replicate (N.length - sl.length) .no)[i]? = some s → s ≠ .no → sl[i]? = some s := fun {i s} h hne => by
    by_cases hi : i < sl.length
    · rw [List.getElem?_append_left hi] at h
      exact h
    · rw [List.getElem?_append_right (by omega), List.getElem?_replicate] at h
      split at h
      · exact absurd (Option.some.inj h).symm hne
      · cases h
  have at_ : ∀ {i : Nat} {u : Option V}, (vs.map some)[i]? = some u → (L2.start N vs)[i]? = some u := fun {i u} h => by
    unfold L2.start
    rw [List.getElem?_append_left (List.getElem?_eq_some_iff.mp h).1]
    exact h
  have at2 : ∀ {i : Nat} {s : Sl} {u : Option V}, sl[i]? = some s → (L2.start N vs)[i]? = some u → (vs.map some)[i]? = some u := fun {i s u} h h' => by
    have hi : i < (vs.map some).length := by
      rw [List.length_map, hl]
      exact (List.getElem?_eq_some_iff.mp h).1
    unfold L2.start at h'
    rw [List.getElem?_append_left hi] at h'
    exact h'
  refine ⟨?_, r.sG, r.sF, r.dj, fun i d h => ?_, fun i b d h => ?_, fun i j b c d e p h1 h2 h3 h4 => ?_, fun i p h => ?_⟩
  · unfold L2.start
    rw [List.length_append, List.length_append, List.length_map, List.length_replicate, List.length_replicate, hl]
  · obtain ⟨v, e1, q⟩ := r.im i d (out h (by intro z; cases z))
    exact ⟨v, at_ e1, q⟩
  · obtain ⟨p, o, e1, q⟩ := r.ow i b d (out h (by intro z; cases z))
    exact ⟨p, o, at_ e1, q⟩
  · have h1 := out h1 (by intro z; cases z)
    have h2 := out h2 (by intro z; cases z)
    exact r.nd i j b c d e p h1 h2 (at2 h1 h3) (at2 h2 h4)
  · obtain ⟨h1, d, h2⟩ := r.rt i p h
    refine ⟨at_ h1, d, ?_⟩
    rw [List.getElem?_append_left (List.getElem?_eq_some_iff.mp h2).1]
    exact h2
theorem AR.ends (r : AR K x G H vs sl) (s : Same G G') (r' : ER K x G' H' σ' env') : ER K x G' H' (vs.map some) (outs sl env') := by
  obtain ⟨r, ro⟩ := r
  have own : ∀ {i : Nat} {b : Bool} {d : D}, sl[i]? = some (.ow b d) → ∃ p d', vs[i]? = some (.ref p) ∧ (vs.map some)[i]? = some (some (.ref p)) ∧ x.R i = some p ∧ σ'[i]? = some (some (.ref p)) ∧ env'[i]? = some (.ow true d') := fun {i b d} h => by
    obtain ⟨_, p, h1, h2⟩ := ro i b d h
    obtain ⟨h3, d', h4⟩ := r'.rt i p h2
    refine ⟨p, d', h1, ?_, h2, h3, h4⟩
    rw [List.getElem?_map, h1]
    rfl
  have out : ∀ {i : Nat} {sv : Sl}, (outs sl env')[i]? = some sv → (∃ d, sv = .im d ∧ sl[i]? = some (.im d)) ∨ (sv = .no) ∨ ∃ b d p d', sl[i]? = some (.ow b d) ∧ sv = .ow true d' ∧ (vs.map some)[i]? = some (some (.ref p)) ∧ x.R i = some p ∧ σ'[i]? = some (some (.ref p)) ∧ env'[i]? = some (.ow true d') := fun {i sv} h => by
    rw [outs_get] at h
    cases z : sl[i]? with
    | none =>
      rw [z] at h
      cases h
    | some s0 =>
      rw [z] at h
      cases s0 with
      | no =>
        cases h
        exact .inr (.inl rfl)
      | im d =>
        cases h
        exact .inl ⟨d, rfl, rfl⟩
      | ow b d =>
        obtain ⟨p, d', h1, h2, h3, h4, h5⟩ := own z
        have h' : (match env'[i]? with | some e => some e | none => some (Sl.ow b d)) = some sv := h
        rw [h5] at h'
        cases h'
        exact .inr (.inr ⟨b, d, p, d', rfl, rfl, h2, h3, h4, h5⟩)
  refine ⟨?_, r'.sG, r'.sF, r'.dj, fun i d h => ?_, fun i b d h => ?_, fun i j b c d e p h1 h2 h3 h4 => ?_, fun i p h => ?_⟩
  · rw [outs_length]
    exact r.len
  · rcases out h with ⟨d', e1, e2⟩ | e1 | ⟨_, _, _, _, _, e1, _⟩
    · cases e1
      obtain ⟨v, z1, z2⟩ := r.im i d e2
      exact ⟨v, z1, Rep.mono s _ _ z2⟩
    · cases e1
    · cases e1
  · rcases out h with ⟨d', e1, e2⟩ | e1 | ⟨b0, d0, p, d', e0, e1, e2, e3, e4, e5⟩
    · cases e1
    · cases e1
    · cases e1
      obtain ⟨p', o, z1, z2⟩ := r'.ow i _ _ e5
      rw [e4] at z1
      cases z1
      exact ⟨p, o, e2, z2⟩
  · rcases out h1 with ⟨d', e1, e2⟩ | e1 | ⟨b0, d0, p0, d', e0, e1, e2, e3, e4, e5⟩
    · cases e1
    · cases e1
    · rcases out h2 with ⟨d2', f1, f2⟩ | f1 | ⟨b2, d2, p2, d2', f0, f1, f2, f3, f4, f5⟩
      · cases f1
      · cases f1
      · rw [e2] at h3
        cases h3
        rw [f2] at h4
        cases h4
        exact r'.nd i j _ _ _ _ p e5 f5 e4 f4
  · obtain ⟨h1, d, h2⟩ := r.rt i p h
    obtain ⟨h3, d', h4⟩ := r'.rt i p h
    refine ⟨h1, d', ?_⟩
    rw [outs_get, h2]
    show (match env'[i]? with | some e => some e | none => _) = _
    rw [h4]
end
def envOf (N : List Str) (sl : List Sl) : Ev := sl ++ List.replicate (N.length - sl.length) .no
def enOf (sl : List Sl) (R : Rn) : En where
  nx := fun e => R.rt .non (outs sl e)
  rt := fun d e => R.rt d (outs sl e)
  ro := fun d e => R.ro d (outs sl e)
  xc := fun x e => R.xc x (outs sl e)
section
variable {P : Program} {w : World} {K : PySem.W.Frag} {mg : Str → Option Value} {base : Heap} {x qual : Str} {params : Arguments} {body : List Stmt} {scope : Scope} {dvs : List V} {kws : List (Str × V)} {f : Addr} {fd : FuncData}
def BodyQ (P : Program) (w : World) (K : PySem.W.Frag) (mg : Str → Option Value) (base : Heap) (k : Nat) (N : List Str) (qual : Str) (scope : Scope) (f : Addr) (body : List Stmt) (wb : WS) : Prop :=
  ∀ (cdv : Value) (A : Around) (outer : List Env) (s : Shared) (H : Hp) (E : XK), Room k (A.deeper (PyProof.Rows.envOfC qual scope s.heap.objs.size f cdv)) → QSs (cxOf (L2.CX P w) P w K mg base N qual scope f cdv A outer s H E) (fun cls d _ H' => E cls d H') body wb
theorem fn_T {N ps : List Str} {k : Nat} {T : SpT} {wb : WS} (F : FunD K x qual params body scope dvs kws f fd) (S : FnScope N ps scope) (len : ∀ sl R, T sl R → sl.length = ps.length) (hb : BodyQ P w K mg base k N qual scope f body wb)
    (sem : ∀ sl R, T sl R → wb (envOf N sl) (enOf sl R)) : FnOk P w K mg base (L2.CX P w) (k + 1) f fd ps (spT K T) := by
  have ln : ∀ vs H Q E, spT K T vs H Q E → vs.length = ps.length := fun vs H Q E h => by
    obtain ⟨x, G, sl, R, ar, hT, _⟩ := h
    have := ar.1.len
    rw [List.length_map] at this
    rw [this, len sl R hT]
  refine F.ok S ln fun cdv A outer s H vs Q E hr h => ⟨_, hb cdv A outer s H E hr, ?_⟩
  obtain ⟨x, G, sl, R, ar, hT, h1, h2, h3⟩ := h
  exact ⟨x, G, envOf N sl, enOf sl R, ar.start N, sem sl R hT, ⟨fun env' σ' G' H' s r q => h1 .non _ .non G' H' s (ar.ends s r) rfl q, fun d env' σ' v G' H' s r rp q => h1 d _ v G' H' s (ar.ends s r) rp q,
    fun d env' σ' p o G' H' s r a1 a2 a3 a4 a5 q => h2 d _ p o G' H' s (ar.ends s r) a1 a2 a3 a4 a5 q, fun _ _ _ _ _ _ q => q.elim, fun _ _ _ _ _ _ q => q.elim, fun e env' cls dd σ' G' H' s r xr q => h3 e _ cls dd G' H' s (ar.ends s r) xr q⟩⟩
end
end TL

namespace TL
open PySem PySem.Spec L2
def slOf (env : Ev) : Hd → Option Sl
  | .im d => some (.im d)
  | .ow j => (match owAt env j with
    | some d => some (.ow true d)
    | none => none)
def slsOf (env : Ev) : List Hd → Option (List Sl)
  | [] => some []
  | h :: t => match slOf env h with
    | some s => (match slsOf env t with
      | some l => some (s :: l)
      | none => none)
    | none => none
def ows : List Hd → List Nat
  | [] => []
  | .ow j :: t => j :: ows t
  | .im _ :: t => ows t
def ndup : List Nat → Bool
  | [] => true
  | i :: t => !t.contains i && ndup t
def backE (env : Ev) : List Hd → List Sl → Ev
  | .ow j :: hs, .ow _ d :: sl => backE (putOw env j d) hs sl
  | _ :: hs, _ :: sl => backE env hs sl
  | _, _ => env
theorem slsOf_get {env : Ev} : ∀ {hs : List Hd} {sl : List Sl} {i : Nat} {h : Hd}, slsOf env hs = some sl → hs[i]? = some h → ∃ s, sl[i]? = some s ∧ slOf env h = some s
  | [], sl, i, h, e, q => by simp at q
  | h0 :: t, sl, i, h, e, q => by
    unfold slsOf at e
    cases z : slOf env h0 with
    | none => rw [z] at e; cases e
    | some s0 =>
      rw [z] at e
      cases y : slsOf env t with
      | none => rw [y] at e; cases e
      | some l =>
        rw [y] at e
        cases e
        cases i with
        | zero =>
          have q' : h0 = h := by simpa using q
          rw [← q']
          exact ⟨s0, rfl, z⟩
        | succ i => exact slsOf_get (i := i) y (by simpa using q)
theorem slsOf_length {env : Ev} : ∀ {hs : List Hd} {sl : List Sl}, slsOf env hs = some sl → sl.length = hs.length
  | [], sl, e => by cases e; rfl
  | h0 :: t, sl, e => by
    unfold slsOf at e
    cases z : slOf env h0 with
    | none => rw [z] at e; cases e
    | some s0 =>
      rw [z] at e
      cases y : slsOf env t with
      | none => rw [y] at e; cases e
      | some l =>
        rw [y] at e
        cases e
        exact congrArg Nat.succ (slsOf_length y)
theorem ows_mem : ∀ {hs : List Hd} {j : Nat}, j ∈ ows hs ↔ Hd.ow j ∈ hs
  | [], j => by simp [ows]
  | .ow k :: t, j => by
    unfold ows
    rw [List.mem_cons, List.mem_cons, ows_mem (hs := t)]
    constructor
    · rintro (rfl | q)
      · exact .inl rfl
      · exact .inr q
    · rintro (q | q)
      · cases q
        exact .inl rfl
      · exact .inr q
  | .im d :: t, j => by
    unfold ows
    rw [List.mem_cons, ows_mem (hs := t)]
    constructor
    · exact fun q => .inr q
    · rintro (q | q)
      · cases q
      · exact q
theorem ows_pos : ∀ {hs : List Hd} {i k j : Nat}, ndup (ows hs) = true → hs[i]? = some (.ow j) → hs[k]? = some (.ow j) → i = k
  | [], i, k, j, _, h, _ => by simp at h
  | .im d :: t, i, k, j, n, h1, h2 => by
    cases i with
    | zero => simp at h1
    | succ i =>
      cases k with
      | zero => simp at h2
      | succ k => exact congrArg Nat.succ (ows_pos (hs := t) n (by simpa using h1) (by simpa using h2))
  | .ow j0 :: t, i, k, j, n, h1, h2 => by
    unfold ows ndup at n
    rw [Bool.and_eq_true] at n
    have nm : j0 ∉ ows t := by simpa using n.1
    cases i with
    | zero =>
      have e1 : j0 = j := by simpa using h1
      cases k with
      | zero => rfl
      | succ k =>
        have h2' : t[k]? = some (.ow j) := by simpa using h2
        rw [e1] at nm
        exact absurd (ows_mem.mpr (List.mem_of_getElem? h2')) nm
    | succ i =>
      have h1' : t[i]? = some (.ow j) := by simpa using h1
      cases k with
      | zero =>
        have e1 : j0 = j := by simpa using h2
        rw [e1] at nm
        exact absurd (ows_mem.mpr (List.mem_of_getElem? h1')) nm
      | succ k => exact congrArg Nat.succ (ows_pos (hs := t) n.2 h1' (by simpa using h2))
theorem putOw_length {env : Ev} {j : Nat} {d : D} : (putOw env j d).length = env.length := by
  unfold putOw
  split
  · rw [List.length_set]
  · rfl
theorem putOw_ne {env : Ev} {j k : Nat} {d : D} (h : k ≠ j) : (putOw env j d)[k]? = env[k]? := by
  unfold putOw
  split
  · rw [List.getElem?_set_ne (Ne.symm h)]
  · rfl
theorem putOw_at {env : Ev} {j : Nat} {b : Bool} {d d' : D} (h : env[j]? = some (.ow b d)) : (putOw env j d')[j]? = some (.ow b d') := by
  rw [putOw_eq h, List.getElem?_set_self (List.getElem?_eq_some_iff.mp h).1]
theorem backE_length : ∀ {hs : List Hd} {sl : List Sl} {env : Ev}, (backE env hs sl).length = env.length
  | [], sl, env => by cases sl <;> rfl
  | h :: hs, [], env => by cases h <;> rfl
  | .ow j :: hs, .ow b d :: sl, env => by
    unfold backE
    rw [backE_length, putOw_length]
  | .ow j :: hs, .im d :: sl, env => by
    unfold backE
    exact backE_length
  | .ow j :: hs, .no :: sl, env => by
    unfold backE
    exact backE_length
  | .im _ :: hs, s :: sl, env => by
    unfold backE
    exact backE_length
theorem backE_out : ∀ {hs : List Hd} {sl : List Sl} {env : Ev} {k : Nat}, Hd.ow k ∉ hs → (backE env hs sl)[k]? = env[k]?
  | [], sl, env, k, _ => by cases sl <;> rfl
  | h :: hs, [], env, k, _ => by cases h <;> rfl
  | .ow j :: hs, .ow b d :: sl, env, k, hn => by
    unfold backE
    rw [backE_out (fun z => hn (List.mem_cons_of_mem _ z)), putOw_ne fun z => hn (by rw [z]; exact List.mem_cons_self)]
  | .ow j :: hs, .im d :: sl, env, k, hn => by
    unfold backE
    exact backE_out fun z => hn (List.mem_cons_of_mem _ z)
  | .ow j :: hs, .no :: sl, env, k, hn => by
    unfold backE
    exact backE_out fun z => hn (List.mem_cons_of_mem _ z)
  | .im _ :: hs, s :: sl, env, k, hn => by
    unfold backE
    exact backE_out fun z => hn (List.mem_cons_of_mem _ z)
theorem backE_at : ∀ {hs : List Hd} {sl : List Sl} {env : Ev} {i k : Nat} {b c : Bool} {d d' : D}, ndup (ows hs) = true → hs[i]? = some (.ow k) → sl[i]? = some (.ow c d') → env[k]? = some (.ow b d) → (backE env hs sl)[k]? = some (.ow b d')
  | [], sl, env, i, k, b, c, d, d', _, h, _, _ => by simp at h
  | h :: hs, [], env, i, k, b, c, d, d', _, _, h2, _ => by simp at h2
  | .ow j :: hs, s :: sl, env, i, k, b, c, d, d', n, h1, h2, h3 => by
    unfold ows ndup at n
    rw [Bool.and_eq_true] at n
    have nm : j ∉ ows hs := by simpa using n.1
    cases i with
    | zero =>
      have e1 : j = k := by simpa using h1
      have e2 : s = .ow c d' := by simpa using h2
      subst e1 e2
      unfold backE
      rw [backE_out (fun z => nm (ows_mem.mpr z))]
      exact putOw_at h3
    | succ i =>
      have h1' : hs[i]? = some (.ow k) := by simpa using h1
      have h2' : sl[i]? = some (.ow c d') := by simpa using h2
      have nk : k ≠ j := fun z => by
        rw [z] at h1'
        exact nm (ows_mem.mpr (List.mem_of_getElem? h1'))
      cases s with
      | ow b0 d0 =>
        unfold backE
        exact backE_at n.2 h1' h2' (by rw [putOw_ne nk]; exact h3)
      | im _ =>
        unfold backE
        exact backE_at n.2 h1' h2' h3
      | no =>
        unfold backE
        exact backE_at n.2 h1' h2' h3
  | .im _ :: hs, s :: sl, env, i, k, b, c, d, d', n, h1, h2, h3 => by
    cases i with
    | zero => simp at h1
    | succ i =>
      unfold backE
      exact backE_at (hs := hs) (i := i) n (by simpa using h1) (by simpa using h2) h3
section
variable {K : PySem.W.Frag} {x : Fx} {G H G' H' : Hp} {σ : St} {env : Ev} {hs : List Hd} {vs : List V} {sl sl' : List Sl}
theorem HRs.get {G : Hp} : ∀ {hs : List Hd} {vs : List V} {i : Nat} {h : Hd}, HRs K G σ hs vs → hs[i]? = some h → ∃ v, vs[i]? = some v ∧ HR K G σ h v
  | [], vs, i, h, _, e => by simp at e
  | h0 :: t, vs, i, h, q, e => by
    obtain ⟨v, r, rfl, q1, q2⟩ := q
    cases i with
    | zero =>
      have e' : h0 = h := by simpa using e
      rw [← e']
      exact ⟨v, rfl, q1⟩
    | succ i => exact HRs.get (i := i) q2 (by simpa using e)
theorem HRs.length {G : Hp} : ∀ {hs : List Hd} {vs : List V}, HRs K G σ hs vs → vs.length = hs.length
  | [], vs, q => by
    have q' : vs = [] := q
    rw [q']
    rfl
  | h0 :: t, vs, q => by
    obtain ⟨v, r, rfl, q1, q2⟩ := q
    exact congrArg Nat.succ (HRs.length q2)
theorem call_frame (r : ER K x G H σ env) (hr : HRs K G σ hs vs) (hsl : slsOf env hs = some sl) (hn : ndup (ows hs) = true) : ∃ x' : Fx, AR K x' G H vs sl ∧
    (∀ G' H' sl', Same G G' → ER K x' G' H' (vs.map some) sl' → ER K x G' H' σ (backE env hs sl')) ∧
    (∀ p, x'.F p = none → (∀ i, x'.R i ≠ some p) → x.F p = none ∧ ∀ (j : Nat) b d, env[j]? = some (.ow b d) → σ[j]? ≠ some (some (.ref p))) := by
  classical
  let own : Addr → Prop := fun a => ∃ (j : Nat) (b : Bool) (d : D), env[j]? = some (.ow b d) ∧ σ[j]? = some (some (.ref a)) ∧ Hd.ow j ∉ hs
  let F' : Hp := fun a => if own a then H a else x.F a
  let R' : Nat → Option Addr := fun i => match hs[i]? with
    | some (.ow j) => (match σ[j]? with
      | some (some (.ref p)) => some p
      | _ => none)
    | _ => none
  have R_of : ∀ {i j : Nat} {p : Addr}, hs[i]? = some (.ow j) → σ[j]? = some (some (.ref p)) → R' i = some p := fun {i j p} h1 h2 => by
    show (match hs[i]? with | some (.ow j) => (match σ[j]? with | some (some (.ref p)) => some p | _ => none) | _ => none) = some p
    rw [h1]
    simp only [h2]
  have R_inv : ∀ {i : Nat} {p : Addr}, R' i = some p → ∃ j, hs[i]? = some (.ow j) ∧ σ[j]? = some (some (.ref p)) := fun {i p} h => by
    have h' : (match hs[i]? with | some (.ow j) => (match σ[j]? with | some (some (.ref p)) => some p | _ => none) | _ => none) = some p := h
    cases z : hs[i]? with
    | none => rw [z] at h'; cases h'
    | some hd =>
      rw [z] at h'
      cases hd with
      | im d => cases h'
      | ow j =>
        refine ⟨j, rfl, ?_⟩
        simp only at h'
        split at h'
        · rename_i p' y
          cases h'
          exact y
        · cases h'
  have F_own : ∀ {a : Addr}, own a → F' a = H a := fun {a} h => if_pos h
  have F_not : ∀ {a : Addr}, ¬ own a → F' a = x.F a := fun {a} h => if_neg h
  -- an owned slot that is handed over
  have pass : ∀ {i j : Nat}, hs[i]? = some (.ow j) → ∃ b d p o, env[j]? = some (.ow b d) ∧ sl[i]? = some (.ow true d) ∧ σ[j]? = some (some (.ref p)) ∧ vs[i]? = some (.ref p) ∧ H p = some o ∧ RepO K G d o ∧ x.F p = none ∧ G p = none ∧ ¬ own p := fun {i j} h => by
    obtain ⟨s, e1, e2⟩ := slsOf_get hsl h
    obtain ⟨v, e3, e4⟩ := hr.get h
    have e2' : (match owAt env j with | some d => some (Sl.ow true d) | none => none) = some s := e2
    cases z : owAt env j with
    | none => rw [z] at e2'; cases e2'
    | some d =>
      rw [z] at e2'
      have e2'' : Sl.ow true d = s := Option.some.inj e2'
      subst e2''
      obtain ⟨b, z⟩ := owAt_some z
      obtain ⟨p, o, a1, a2, a3, a4, a5⟩ := r.ow j b d z
      have e4' : σ[j]? = some (some v) := e4
      rw [a1] at e4'
      have ev : v = .ref p := by
        cases e4'
        rfl
      rw [ev] at e3
      refine ⟨b, d, p, o, z, e1, a1, e3, a2, a3, a4, a5, fun ⟨j', b', d', q1, q2, q3⟩ => ?_⟩
      have := r.nd j j' b b' d d' p z q1 a1 q2
      subst this
      exact q3 (List.mem_of_getElem? h)
  have len : (vs.map some).length = sl.length := by
    rw [List.length_map, hr.length, slsOf_length hsl]
  have slot : ∀ {i : Nat} {s : Sl}, sl[i]? = some s → ∃ h, hs[i]? = some h ∧ slOf env h = some s := fun {i s} h => by
    have hi : i < hs.length := by
      rw [← slsOf_length hsl]
      exact (List.getElem?_eq_some_iff.mp h).1
    obtain ⟨s', e1, e2⟩ := slsOf_get hsl (List.getElem?_eq_getElem hi)
    rw [h] at e1
    cases e1
    exact ⟨_, List.getElem?_eq_getElem hi, e2⟩
  have slotO : ∀ {i : Nat} {b : Bool} {d : D}, sl[i]? = some (.ow b d) → ∃ j, hs[i]? = some (.ow j) := fun {i b d} h => by
    obtain ⟨hd, e1, e2⟩ := slot h
    cases hd with
    | im d' =>
      have e2' : some (Sl.im d') = some (Sl.ow b d) := e2
      cases e2'
    | ow j => exact ⟨j, e1⟩
  have sF' : Same F' H := fun a o e => by
    by_cases h : own a
    · rw [F_own h] at e
      exact e
    · rw [F_not h] at e
      exact r.sF a o e
  have dj' : ∀ a o, F' a = some o → G a = none ∨ ∃ vs, o = .tup vs := fun a o e => by
    by_cases h : own a
    · obtain ⟨j, b, d, q1, q2, _⟩ := h
      obtain ⟨p, _, a1, _, _, _, a5⟩ := r.ow j b d q1
      rw [q2] at a1
      cases a1
      exact .inl a5
    · rw [F_not h] at e
      exact r.dj a o e
  refine ⟨⟨F', R'⟩, ⟨⟨len, r.sG, sF', dj', fun i d h => ?_, fun i b d h => ?_, fun i k b c d e p h1 h2 h3 h4 => ?_, fun i p h => ?_⟩, fun i b d h => ?_⟩, fun G1 H1 sl1 s1 r1 => ?_, fun p hF hR => ?_⟩
  · obtain ⟨hd, e1, e2⟩ := slot h
    cases hd with
    | im d' =>
      have e2' : some (Sl.im d') = some (Sl.im d) := e2
      cases e2'
      obtain ⟨v, e3, e4⟩ := hr.get e1
      refine ⟨v, ?_, e4⟩
      rw [List.getElem?_map, e3]
      rfl
    | ow j =>
      obtain ⟨b, d0, p, o, _, e3, _⟩ := pass e1
      rw [h] at e3
      cases e3
  · obtain ⟨j, e1⟩ := slotO h
    obtain ⟨b0, d0, p, o, a0, a1, a2, a3, a4, a5, a6, a7, a8⟩ := pass e1
    rw [h] at a1
    cases a1
    refine ⟨p, o, ?_, a4, a5, ?_, a7⟩
    · rw [List.getElem?_map, a3]
      rfl
    · show F' p = none
      rw [F_not a8]
      exact a6
  · obtain ⟨j1, e1⟩ := slotO h1
    obtain ⟨j2, e2⟩ := slotO h2
    obtain ⟨b0, d0, p1, o, a0, a1, a2, a3, _⟩ := pass e1
    obtain ⟨b2, d2, p2, o2, c0, c1, c2, c3, _⟩ := pass e2
    rw [List.getElem?_map, a3] at h3
    rw [List.getElem?_map, c3] at h4
    cases h3
    cases h4
    have ej := r.nd j1 j2 b0 b2 d0 d2 p a0 c0 a2 c2
    subst ej
    exact ows_pos hn e1 e2
  · obtain ⟨j, e1, e2⟩ := R_inv h
    obtain ⟨b0, d0, p1, o, a0, a1, a2, a3, _⟩ := pass e1
    rw [e2] at a2
    cases a2
    refine ⟨?_, d0, a1⟩
    rw [List.getElem?_map, a3]
    rfl
  · obtain ⟨j, e1⟩ := slotO h
    obtain ⟨b0, d0, p1, o, a0, a1, a2, a3, _⟩ := pass e1
    rw [h] at a1
    cases a1
    exact ⟨rfl, p1, a3, R_of e1 a2⟩
  · -- behind the call
    have back : ∀ {k : Nat} {b : Bool} {d : D}, env[k]? = some (.ow b d) → Hd.ow k ∈ hs → ∃ (i : Nat) (p : Addr) (d' : D), hs[i]? = some (.ow k) ∧ σ[k]? = some (some (.ref p)) ∧ (vs.map some)[i]? = some (some (.ref p)) ∧ sl1[i]? = some (.ow true d') ∧ (backE env hs sl1)[k]? = some (.ow b d') := fun {k b d} h hm => by
      obtain ⟨i, hi⟩ := List.mem_iff_getElem?.mp hm
      obtain ⟨b0, d0, p, o, a0, a1, a2, a3, _⟩ := pass hi
      obtain ⟨q1, d', q2⟩ := r1.rt i p (R_of hi a2)
      rw [h] at a0
      cases a0
      exact ⟨i, p, d', hi, a2, q1, q2, backE_at hn hi q2 h⟩
    have keep : ∀ {k : Nat}, Hd.ow k ∉ hs → (backE env hs sl1)[k]? = env[k]? := fun {k} h => backE_out h
    have inv : ∀ {k : Nat} {b : Bool} {d : D}, (backE env hs sl1)[k]? = some (.ow b d) → ∃ d0, env[k]? = some (.ow b d0) := fun {k b d} h => by
      by_cases hm : Hd.ow k ∈ hs
      · obtain ⟨i, hi⟩ := List.mem_iff_getElem?.mp hm
        obtain ⟨b0, d0, p, o, a0, _⟩ := pass hi
        obtain ⟨i2, p2, d2, z1, z2, z3, z4, z5⟩ := back a0 hm
        rw [h] at z5
        cases z5
        exact ⟨d0, a0⟩
      · rw [keep hm] at h
        exact ⟨d, h⟩
    have F_keep : ∀ {a : Addr} {o : HO}, x.F a = some o → F' a = some o := fun {a o} e => by
      have no : ¬ own a := fun ⟨j, b, d, q1, q2, _⟩ => by
        obtain ⟨p, _, a1, _, _, a4, _⟩ := r.ow j b d q1
        rw [q2] at a1
        cases a1
        rw [a4] at e
        cases e
      rw [F_not no]
      exact e
    have sF1 : Same x.F H1 := fun a o e => r1.sF a o (F_keep e)
    refine ⟨by rw [backE_length]; exact r.len, r1.sG, sF1, fun a o e => r1.dj a o (F_keep e), fun k d h => ?_, fun k b d h => ?_, fun k k2 b c d e p h1 h2 h3 h4 => ?_, fun k p h => ?_⟩
    · have h' : env[k]? = some (.im d) := by
        by_cases hm : Hd.ow k ∈ hs
        · obtain ⟨i, hi⟩ := List.mem_iff_getElem?.mp hm
          obtain ⟨b0, d0, p, o, a0, _⟩ := pass hi
          obtain ⟨i2, p2, d2, z1, z2, z3, z4, z5⟩ := back a0 hm
          rw [h] at z5
          cases z5
        · rw [keep hm] at h
          exact h
      obtain ⟨v, e1, q⟩ := r.im k d h'
      exact ⟨v, e1, Rep.mono s1 _ _ q⟩
    · obtain ⟨d0, e0⟩ := inv h
      obtain ⟨p, o, a1, a2, a3, a4, a5⟩ := r.ow k b d0 e0
      by_cases hm : Hd.ow k ∈ hs
      · obtain ⟨i, p', d', z1, z2, z3, z4, z5⟩ := back e0 hm
        rw [h] at z5
        cases z5
        rw [a1] at z2
        cases z2
        obtain ⟨p2, o2, y1, y2, y3, y4, y5⟩ := r1.ow i true _ z4
        rw [z3] at y1
        cases y1
        exact ⟨p, o2, a1, y2, y3, a4, y5⟩
      · rw [keep hm, e0] at h
        cases h
        have ho : own p := ⟨k, b, d, e0, a1, hm⟩
        have f1 : F' p = some o := by rw [F_own ho]; exact a2
        exact ⟨p, o, a1, r1.sF p o f1, RepO.mono s1 a3, a4, (r1.dj p o f1).resolve_right a3.nt⟩
    · obtain ⟨d0, e0⟩ := inv h1
      obtain ⟨d2, e2⟩ := inv h2
      exact r.nd k k2 b c d0 d2 p e0 e2 h3 h4
    · obtain ⟨h1, d, h2⟩ := r.rt k p h
      refine ⟨h1, ?_⟩
      by_cases hm : Hd.ow k ∈ hs
      · obtain ⟨i, p', d', z1, z2, z3, z4, z5⟩ := back h2 hm
        exact ⟨d', z5⟩
      · rw [keep hm]
        exact ⟨d, h2⟩
  · have hF' : F' p = none := hF
    have no : ¬ own p := fun ho => by
      have ho2 := ho
      obtain ⟨j, b, d, q1, q2, q3⟩ := ho2
      obtain ⟨p', o, a1, a2, _⟩ := r.ow j b d q1
      rw [q2] at a1
      cases a1
      rw [F_own ho, a2] at hF'
      cases hF'
    rw [F_not no] at hF'
    refine ⟨hF', fun j b d q1 q2 => ?_⟩
    by_cases hm : Hd.ow j ∈ hs
    · obtain ⟨i, hi⟩ := List.mem_iff_getElem?.mp hm
      exact hR i (R_of hi q2)
    · exact no ⟨j, b, d, q1, q2, hm⟩
end
def wCall (T : SpT) (wl : WA) : WE := fun env Q Xp => wl env (fun hs e => ndup (ows hs) = true ∧ mo (slsOf e hs) fun sl => T sl ⟨fun d sl' => Q d (backE e hs sl'), fun _ _ => False, fun y sl' => Xp y (backE e hs sl')⟩) Xp
def wCallF (T : SpT) (wl : WA) : WE := fun env Q Xp => wl env (fun hs e => ndup (ows hs) = true ∧ mo (slsOf e hs) fun sl => T sl ⟨fun _ _ => False, fun d sl' => Q d (backE e hs sl'), fun y sl' => Xp y (backE e hs sl')⟩) Xp
section
variable {X : Cx} {W : WX} {K : PySem.W.Frag} {T : SpT} {wl : WA}
theorem l_call (σ : St) (H : Hp) (Q : VK) (h : lO K W (imO (wCall T wl)) σ H Q) : lA K W wl σ H fun vs H1 => spT K T vs H1 Q (fun cls d H' => W cls d σ H') := by
  obtain ⟨x, G, env, Q', X', r, hw, hn, hx⟩ := h
  refine ⟨x, G, env, fun hs e => ndup (ows hs) = true ∧ mo (slsOf e hs) fun sl => T sl ⟨fun d sl' => Q' (.im d) (backE e hs sl'), fun _ _ => False, fun y sl' => X' y (backE e hs sl')⟩, X', r, hw, fun hs e1 vs G1 H1 s1 r1 q1 hq => ?_, hx⟩
  obtain ⟨nd, hq⟩ := hq
  obtain ⟨sl, z, hT⟩ := mo_some hq
  obtain ⟨x', ar, bk, own⟩ := call_frame r1 q1 z nd
  exact ⟨x', G1, sl, _, ar, hT, fun d sl' v G' H' s r' rp hq => hn (.im d) _ v G' H' (s1.trans s) (bk G' H' sl' s r') rp hq, fun _ _ _ _ _ _ _ _ _ _ _ _ _ z => z.elim,
    fun e sl' cls dd G' H' s r' xr hq => hx e _ cls dd G' H' (s1.trans s) (bk G' H' sl' s r') xr hq⟩
theorem l_callF (σ : St) (H : Hp) (Q : VK) (h : lF K W (wCallF T wl) σ H Q) : lA K W wl σ H fun vs H1 => spT K T vs H1 Q (fun cls d H' => W cls d σ H') := by
  obtain ⟨x, G, env, Q', X', r, hw, hn, hx⟩ := h
  refine ⟨x, G, env, fun hs e => ndup (ows hs) = true ∧ mo (slsOf e hs) fun sl => T sl ⟨fun _ _ => False, fun d sl' => Q' d (backE e hs sl'), fun y sl' => X' y (backE e hs sl')⟩, X', r, hw, fun hs e1 vs G1 H1 s1 r1 q1 hq => ?_, hx⟩
  obtain ⟨nd, hq⟩ := hq
  obtain ⟨sl, zsl, hT⟩ := mo_some hq
  obtain ⟨x', ar, bk, own⟩ := call_frame r1 q1 zsl nd
  refine ⟨x', G1, sl, _, ar, hT, fun _ _ _ _ _ _ _ _ z => z.elim, fun d sl' p o G' H' s r' a1 a2 a3 a4 a5 hq => ?_,
    fun e sl' cls dd G' H' s r' xr hq => hx e _ cls dd G' H' (s1.trans s) (bk G' H' sl' s r') xr hq⟩
  obtain ⟨b1, b2⟩ := own p a4 a5
  refine hn d _ p o G' H' (s1.trans s) (bk G' H' sl' s r') a1 a2 a3 b1 (fun j b d' e z => ?_) hq
  by_cases hm : Hd.ow j ∈ hs
  · obtain ⟨i, hi⟩ := List.mem_iff_getElem?.mp hm
    obtain ⟨sv, e3, e4⟩ := slsOf_get zsl hi
    have e4' : (match owAt e1 j with | some d => some (Sl.ow true d) | none => none) = some sv := e4
    cases y : owAt e1 j with
    | none => rw [y] at e4'; cases e4'
    | some d0 =>
      obtain ⟨b0, y⟩ := owAt_some y
      exact b2 j b0 d0 y z
  · rw [backE_out hm] at e
    exact b2 j b d' e z
end
end TL

namespace TL
open PySem PySem.Spec L2
structure FnT (P : Program) (w : World) (K : PySem.W.Frag) (mg : Str → Option Value) (base : Heap) (k : Nat) (x : Str) (ps : List Str) (T : SpT) : Prop where
  ex : ∃ f fd, FnOk P w K mg base (L2.CX P w) k f fd ps (spT K T) ∧ mg x = some (.ref f) ∧ PySem.W.keepIn K (.ref f) = true ∧ Binds K fd ps []
structure MeT (P : Program) (w : World) (K : PySem.W.Frag) (mg : Str → Option Value) (base : Heap) (k : Nat) (c m : Str) (ps : List Str) (T : SpT) : Prop where
  ex : ∃ f fd, FnOk P w K mg base (L2.CX P w) k f fd ps (spT K T) ∧ Meth K (He.ga K c) m f ∧ Cls K (He.ga K c) ∧ Binds K fd ps []
structure MkT (P : Program) (w : World) (K : PySem.W.Frag) (mg : Str → Option Value) (base : Heap) (k : Nat) (c : Str) (ps : List Str) (T : SpT) : Prop where
  ex : ∃ f fd, FnOk P w K mg base (L2.CX P w) k f fd ps (spT K T) ∧ Mk K (He.ga K c) f ∧ mg c = some (.ref (He.ga K c)) ∧ Binds K fd ps []
section
variable {X : Cx} {W : WX} {K : PySem.W.Frag} {T : SpT} {wl : WA} {k : Nat} {x : Str} {ps : List Str} {e o : Expr} {es : List Expr} {p pos apos : Pos} {wr : WO}
theorem qe_call (F : FnT X.prog X.w X.K X.mg X.base k x ps T) (hr : Room k X.A) (tk : Takes X W) (ha : QA X W (e :: es) wl) (hg : Gl X x := by rfl)
    (hdb : (x == ("__debug__" : Str)) = false := by decide) (he : starEach (e :: es) X.env = (false, eval e X.env) :: starEach es X.env := by rfl) (hpl : (backTo pos (starEach es X.env)).any (·.1) = false := by rfl) :
    QE X W (.Call (.Name x p) (e :: es) [] pos) (wCall T wl) := by
  obtain ⟨f, fd, G, hm, hk, hb⟩ := F.ex
  exact (pe_callS G hr hg hm hk hb (fun σ => passAt tk σ) ha hdb he hpl).le l_call
theorem qf_call (F : FnT X.prog X.w X.K X.mg X.base k x ps T) (hr : Room k X.A) (tk : Takes X W) (ha : QA X W (e :: es) wl) (hg : Gl X x := by rfl)
    (hdb : (x == ("__debug__" : Str)) = false := by decide) (he : starEach (e :: es) X.env = (false, eval e X.env) :: starEach es X.env := by rfl) (hpl : (backTo pos (starEach es X.env)).any (·.1) = false := by rfl) :
    QF X W (.Call (.Name x p) (e :: es) [] pos) (wCallF T wl) := by
  obtain ⟨f, fd, G, hm, hk, hb⟩ := F.ex
  exact (pe_callS G hr hg hm hk hb (fun σ => passAt tk σ) ha hdb he hpl).le l_callF
theorem pe_callS0 {CX : CXT} {f : Addr} {fd : FuncData} {sp : Sp} {E : St → XK} (F : FnOk X.prog X.w X.K X.mg X.base CX k f fd ps sp) (hr : Room k X.A) (hg : Gl X x) (hm : X.mg x = some (.ref f)) (hk : PySem.W.keepIn X.K (.ref f) = true) (hb : Binds X.K fd ps []) (hx : ∀ σ, PassesAt CX X σ (E σ))
    (hdb : (x == ("__debug__" : Str)) = false := by decide) : PE X (.Call (.Name x p) [] [] pos) (tCallS sp E tNil) := by
  refine ⟨fun pins s σ H Q I h => ?_⟩
  refine wpAny_Call_Name_kw (ld_glob I hg hm ?_ hdb)
  exact PySem.W.callWith_K0 I.kIn hk (run_fnS (us := []) F hr hb (hx σ) I .nil h)
theorem lA_nil {w : WE} (σ : St) (H : Hp) (Q : List V → Hp → Prop) (h : lA K W aNil σ H Q) : Q [] H := by
  obtain ⟨x, G, env, Q', X', r, hw, hn, hx⟩ := h
  exact hn [] env [] G H (.refl _) r rfl hw
theorem _root_.L2.PE.ex {ι : Type} {e : Expr} {t : ι → TE} (h : ∀ i, PE X e (t i)) : PE X e (fun σ H Q => ∃ i, t i σ H Q) := ⟨fun pins s σ H Q I hw => let ⟨i, hi⟩ := hw; (h i).run pins s σ H Q I hi⟩
def wMeth (m : Str) (Ts : List (Str × SpT)) (wr : WO) (wl : WA) : WE := fun env Q Xp => wr env (fun h e => mo (hv e h) fun d => match d with
  | .ins c ns _ => ns.contains m = false ∧ mo (Ts.lookup c) fun T => wl e (fun hs e2 => ndup (ows (h :: hs)) = true ∧ mo (slsOf e2 (h :: hs)) fun sl => T sl ⟨fun d sl' => Q d (backE e2 (h :: hs) sl'), fun _ _ => False, fun y sl' => Xp y (backE e2 (h :: hs) sl')⟩) Xp
  | _ => False) Xp
theorem zip_nolook {m : Str} : ∀ {ns : List Str} {vs : List V}, ns.contains m = false → (ns.zip vs).lookup m = none
  | [], _, _ => rfl
  | _ :: _, [], _ => rfl
  | n :: ns, v :: vs, h => by
    rw [List.contains_cons, Bool.or_eq_false_iff] at h
    rw [List.zip_cons_cons, List.lookup_cons, h.1]
    exact zip_nolook h.2
theorem lookup_memT {Ts : List (Str × SpT)} {c : Str} {T : SpT} (h : Ts.lookup c = some T) : (c, T) ∈ Ts := by
  induction Ts with
  | nil => cases h
  | cons q Ts ih =>
    obtain ⟨c0, T0⟩ := q
    rw [List.lookup_cons] at h
    cases z : (c == c0) with
    | true =>
      rw [z] at h
      cases h
      rw [beq_iff_eq.mp z]
      exact List.mem_cons_self
    | false =>
      rw [z] at h
      exact List.mem_cons_of_mem _ (ih h)
theorem l_meth {m : Str} {Ts : List (Str × SpT)} (σ : St) (H : Hp) (Q : VK) (h : lO K W (imO (wMeth m Ts wr wl)) σ H Q) :
    lO K W wr σ H fun x H1 => ∃ q : { q : Str × SpT // q ∈ Ts }, ∃ a dx fs, x = .ref a ∧ H1 a = some (.ins (He.ga K q.1.1) dx fs) ∧ fs.lookup m = none ∧ lA K W wl σ H1 fun vs H2 => spT K q.1.2 (x :: vs) H2 Q (fun cls d H' => W cls d σ H') := by
  obtain ⟨x, G, env, Q', X', r, hw, hn, hx⟩ := h
  refine ⟨x, G, env, fun h e => mo (hv e h) fun d => match d with
    | .ins c ns _ => ns.contains m = false ∧ mo (Ts.lookup c) fun T => wl e (fun hs e2 => ndup (ows (h :: hs)) = true ∧ mo (slsOf e2 (h :: hs)) fun sl => T sl ⟨fun d sl' => Q' (.im d) (backE e2 (h :: hs) sl'), fun _ _ => False, fun y sl' => X' y (backE e2 (h :: hs) sl')⟩) X'
    | _ => False, X', r, hw, fun h e1 v G1 H1 s1 r1 q1 hq => ?_, hx⟩
  obtain ⟨d, z, hq⟩ := mo_some hq
  cases d with
  | ins c ns ds =>
    obtain ⟨hc, hq⟩ := hq
    obtain ⟨T, zT, hq⟩ := mo_some hq
    obtain ⟨a, dx, vs0, rfl, qa, hl, _⟩ := q1.read r1 z
    refine ⟨⟨(c, T), lookup_memT zT⟩, a, dx, _, rfl, qa, zip_nolook hc, x, G1, e1, _, X', r1, hq, fun hs e2 vs G2 H2 s2 r2 q2 hq => ?_, hx.up s1⟩
    obtain ⟨nd, hq⟩ := hq
    obtain ⟨sl, zsl, hT⟩ := mo_some hq
    obtain ⟨x', ar, bk, own⟩ := call_frame (hs := h :: hs) (vs := .ref a :: vs) r2 ⟨_, _, rfl, q1.mono s2, q2⟩ zsl nd
    exact ⟨x', G2, sl, _, ar, hT, fun d sl' v G' H' s r' rp hq => hn (.im d) _ v G' H' ((s1.trans s2).trans s) (bk G' H' sl' s r') rp hq, fun _ _ _ _ _ _ _ _ _ _ _ _ _ z => z.elim,
      fun e sl' cls dd G' H' s r' xr hq => hx e _ cls dd G' H' ((s1.trans s2).trans s) (bk G' H' sl' s r') xr hq⟩
  | _ => exact hq.elim
theorem qe_meth0 {pl : Sem Bool} {m : Str} {Ts : List (Str × SpT)} (he : QO X W o wr) (F : ∀ q ∈ Ts, MeT X.prog X.w X.K X.mg X.base k q.1 m ps q.2) (hr : Room k X.A) (tk : Takes X W)
    (ht : eval (.Call (.Attribute o m apos) [] [] pos) X.env = (do
      let ov ← eval o X.env
      standAt apos.atName
      let (f, first) ← holding [ov] (getMethod ov m pl)
      callWith pos f first (backTo pos (starEach [] X.env)) (backToKw pos (keywordEach [] X.env))) := by rfl) :
    QE X W (.Call (.Attribute o m apos) [] [] pos) (wMeth m Ts wr aNil) := by
  refine PE.le (t := fun σ H Q => lO X.K W wr σ H fun x H1 => ∃ q : { q : Str × SpT // q ∈ Ts }, ∃ a dx fs, x = .ref a ∧ H1 a = some (.ins (He.ga X.K q.1.1) dx fs) ∧ fs.lookup m = none ∧ lA X.K W aNil σ H1 fun vs H2 => spT X.K q.1.2 (x :: vs) H2 Q (fun cls d H' => W cls d σ H')) ?_ l_meth
  refine ⟨fun pins s σ H Q I h => PySem.W.methodCall_KW (pl := pl) (thn (he.run pins s σ H _ I h) fun u s1 ⟨x, H1, I1, rx, q, a, dx, fs, ex, ea, l, hq⟩ => ?_) ht⟩
  obtain ⟨f, fd, G, hm, c, hb⟩ := (F q.1 q.2).ex
  subst ex
  obtain rfl : u = Value.ref a := rx
  exact getmeth_ok I1 ea c hm l (PySem.W.callWith_K0 (first := [.ref a]) I1.kIn hm.kp (run_fnS (E := L2.WE W) (us := [.ref a]) (vs := [.ref a]) G hr hb (passAt tk σ) I1 (.cons rfl .nil) (lA_nil (w := wC .non) σ H1 _ hq)))
theorem run_makeS {CX : CXT} {C f : Addr} {fd : FuncData} {sp : Sp} {E : XK} {pins : List (Addr × Obj)} {σ : St} {H : Hp} {s : Shared} {Q : VK} {us : List Value} {vs : List V} (M : Mk X.K C f) (F : FnOk X.prog X.w X.K X.mg X.base CX k f fd ps sp) (hr : Room (k + 1) X.A) (hb : Binds X.K fd ps [])
    (hx : PassesAt CX X σ E) (I : Inv X pins σ H s) (r : Vals vs us)
    (h : ∀ x dx, H x = none → H dx = none → dx ≠ x → sp (.ref x :: vs) (upd (upd H dx (.own x)) x (.ins C dx [])) (fun v H2 => v = .non ∧ Q (.ref x) H2) E) :
    wpAny (model X.prog X.w) X.A (call (.ref C) us) (EP X pins σ Q) X.xe s := by
  have hq := h (s.heap.objs.size + 1) s.heap.objs.size (I.hok.fresh (Nat.le_succ _)) (I.hok.fresh (Nat.le_refl _)) (Nat.ne_of_lt (Nat.lt_succ_self _))
  have I2 := Inv.made (C := C) I
  have r2 : Vals (V.ref (s.heap.objs.size + 1) :: vs) (Value.ref (s.heap.objs.size + 1) :: us) := .cons rfl r
  have hl : (Value.ref (s.heap.objs.size + 1) :: us).length = ps.length := by
    rw [← r2.length]
    exact F.len _ _ _ _ hq
  have hb' := hb _ (Value.ref (s.heap.objs.size + 1) :: us) I2.kIn (by rw [List.append_nil]; exact hl)
  rw [List.append_nil] at hb'
  refine wpAny_call (make_map (f := f) I.kIn M.makes M.init (beq_iff_eq.mp M.fn) (codeAny_mono (F.run _ X.stack _ _ ⟨Value.ref (s.heap.objs.size + 1) :: us, []⟩ _ _ _ E (hr.make C us []) (I2.env0.make C us []) hb' r2 hq) fun r s' hq' => ?_))
  cases r with
  | error e => exact hx pins _ _ e s' I2 hq'
  | ok fl =>
    cases fl with
    | ret u =>
      obtain ⟨v, H', I3, rv, ev, q3⟩ := I2.after hq'
      subst ev
      exact ⟨rv, ⟨V.ref (s.heap.objs.size + 1), H', I3, rfl, q3⟩⟩
    | next => exact False.elim hq'
    | brk => exact False.elim hq'
    | cont => exact False.elim hq'
end
section
variable {K : PySem.W.Frag} {x : Fx} {G H : Hp} {σ : St} {env : Ev} {p : Addr} {o : HO} {d : D}
theorem ER.push (r : ER K x G H σ env) (hp : H p = some o) (q : RepO K G d o) (hF : x.F p = none) (hG : G p = none) (ho : ∀ (j : Nat) b d', env[j]? = some (.ow b d') → σ[j]? ≠ some (some (.ref p))) (hR : x.R env.length = none) :
    ER K x G H (σ ++ [some (.ref p)]) (env ++ [.ow false d]) := by
  have at_ : ∀ {i : Nat} {s : Sl}, (env ++ [.ow false d])[i]? = some s → (i < env.length ∧ env[i]? = some s ∧ (σ ++ [some (V.ref p)])[i]? = σ[i]?) ∨ (i = env.length ∧ s = .ow false d ∧ (σ ++ [some (V.ref p)])[i]? = some (some (.ref p))) := fun {i s} h => by
    by_cases hi : i < env.length
    · rw [List.getElem?_append_left hi] at h
      exact .inl ⟨hi, h, List.getElem?_append_left (by rw [r.len]; exact hi)⟩
    · rw [List.getElem?_append_right (by omega)] at h
      have hi2 : i - env.length = 0 := by
        have := (List.getElem?_eq_some_iff.mp h).1
        simp at this
        omega
      rw [hi2] at h
      refine .inr ⟨by omega, ?_, ?_⟩
      · simpa using h.symm
      · rw [List.getElem?_append_right (by rw [r.len]; omega), r.len, hi2]
        rfl
  refine ⟨by rw [List.length_append, List.length_append, r.len]; rfl, r.sG, r.sF, r.dj, fun i d' h => ?_, fun i b d' h => ?_, fun i j b c d1 d2 p' h1 h2 h3 h4 => ?_, fun i p' h => ?_⟩
  · rcases at_ h with ⟨_, h, e⟩ | ⟨_, h, _⟩
    · rw [e]
      exact r.im i d' h
    · cases h
  · rcases at_ h with ⟨_, h, e⟩ | ⟨_, h, e⟩
    · rw [e]
      exact r.ow i b d' h
    · cases h
      exact ⟨p, o, e, hp, q, hF, hG⟩
  · rcases at_ h1 with ⟨l1, h1, e1⟩ | ⟨l1, h1, e1⟩ <;> rcases at_ h2 with ⟨l2, h2, e2⟩ | ⟨l2, h2, e2⟩
    · rw [e1] at h3
      rw [e2] at h4
      exact r.nd i j b c d1 d2 p' h1 h2 h3 h4
    · rw [e2] at h4
      cases h4
      rw [e1] at h3
      exact absurd h3 (ho i b d1 h1)
    · rw [e1] at h3
      cases h3
      rw [e2] at h4
      exact absurd h4 (ho j c d2 h2)
    · rw [l1, l2]
  · obtain ⟨h1, d', h2⟩ := r.rt i p' h
    have hi : i < env.length := (List.getElem?_eq_some_iff.mp h2).1
    rw [List.getElem?_append_left (by rw [r.len]; exact hi), List.getElem?_append_left hi]
    exact ⟨h1, d', h2⟩
theorem ER.pop {b : Bool} (r : ER K x G H (σ ++ [some (.ref p)]) (env ++ [.ow b d])) (hl : σ.length = env.length) (hR : x.R env.length = none) :
    ER K x G H σ env ∧ (∃ o, H p = some o ∧ RepO K G d o) ∧ x.F p = none ∧ G p = none ∧ (∀ (j : Nat) b d', env[j]? = some (.ow b d') → σ[j]? ≠ some (some (.ref p))) := by
  have up : ∀ {i : Nat} {s : Sl}, env[i]? = some s → (env ++ [.ow b d])[i]? = some s ∧ (σ ++ [some (V.ref p)])[i]? = σ[i]? := fun {i s} h => by
    have hi : i < env.length := (List.getElem?_eq_some_iff.mp h).1
    exact ⟨by rw [List.getElem?_append_left hi]; exact h, List.getElem?_append_left (by rw [hl]; exact hi)⟩
  have last : (env ++ [.ow b d])[env.length]? = some (.ow b d) := by
    rw [List.getElem?_append_right (Nat.le_refl _), Nat.sub_self]
    rfl
  have lastσ : (σ ++ [some (V.ref p)])[env.length]? = some (some (.ref p)) := by
    rw [List.getElem?_append_right (by omega), hl, Nat.sub_self]
    rfl
  obtain ⟨p', o, z1, z2, z3, z4, z5⟩ := r.ow env.length b d last
  rw [lastσ] at z1
  cases z1
  refine ⟨⟨hl, r.sG, r.sF, r.dj, fun i d' h => ?_, fun i b' d' h => ?_, fun i j b1 c d1 d2 p' h1 h2 h3 h4 => ?_, fun i p' h => ?_⟩, ⟨o, z2, z3⟩, z4, z5, fun j b' d' h z => ?_⟩
  · obtain ⟨u1, u2⟩ := up h
    rw [← u2]
    exact r.im i d' u1
  · obtain ⟨u1, u2⟩ := up h
    rw [← u2]
    exact r.ow i b' d' u1
  · obtain ⟨u1, u2⟩ := up h1
    obtain ⟨u3, u4⟩ := up h2
    exact r.nd i j b1 c d1 d2 p' u1 u3 (by rw [u2]; exact h3) (by rw [u4]; exact h4)
  · obtain ⟨h1, d', h2⟩ := r.rt i p' h
    have hi : i < env.length := by
      have h3 := (List.getElem?_eq_some_iff.mp h2).1
      rw [List.length_append, List.length_singleton] at h3
      have ne : i ≠ env.length := fun z => by
        rw [z, hR] at h
        cases h
      omega
    rw [List.getElem?_append_left hi] at h2
    rw [List.getElem?_append_left (by rw [hl]; exact hi)] at h1
    exact ⟨h1, d', h2⟩
  · obtain ⟨u1, u2⟩ := up h
    have := r.nd j env.length b' b d' d p u1 last (by rw [u2]; exact z) lastσ
    have hj := (List.getElem?_eq_some_iff.mp h).1
    omega
end
end TL

namespace TL
open PySem PySem.Spec L2
def hdO (sl : List Sl) : Option (D × List Sl) := match sl with
  | .ow _ o :: r => some (o, r)
  | _ => none
def wMake (c : Str) (T : SpT) (wl : WA) : WE := fun env Q Xp => wl env (fun hs e => ndup (ows hs) = true ∧ mo (slsOf e hs) fun sl => T (.ow true (.ins c [] []) :: sl) ⟨fun d sl' => d = .non ∧ mo (hdO sl') fun q => Q q.1 (backE e hs q.2), fun _ _ => False, fun y sl' => mo (hdO sl') fun q => Xp y (backE e hs q.2)⟩) Xp
theorem owAt_lt {env : Ev} {j : Nat} {d : D} (h : owAt env j = some d) : j < env.length := by
  obtain ⟨b, h⟩ := owAt_some h
  exact (List.getElem?_eq_some_iff.mp h).1
theorem owAt_app {env : Ev} {s : Sl} {j : Nat} {d : D} (h : owAt env j = some d) : owAt (env ++ [s]) j = some d := by
  have hl := owAt_lt h
  obtain ⟨b, h⟩ := owAt_some h
  unfold owAt
  rw [List.getElem?_append_left hl, h]
theorem slsOf_app {env : Ev} {s : Sl} : ∀ {hs : List Hd} {sl : List Sl}, slsOf env hs = some sl → slsOf (env ++ [s]) hs = some sl ∧ ∀ j ∈ ows hs, j < env.length
  | [], sl, h => ⟨h, fun j hj => by cases hj⟩
  | h0 :: t, sl, h => by
    unfold slsOf at h
    cases z : slOf env h0 with
    | none => rw [z] at h; cases h
    | some s0 =>
      rw [z] at h
      cases y : slsOf env t with
      | none => rw [y] at h; cases h
      | some l =>
        rw [y] at h
        cases h
        obtain ⟨i1, i2⟩ := slsOf_app (s := s) y
        cases h0 with
        | im d =>
          refine ⟨?_, i2⟩
          unfold slsOf
          rw [i1]
          have z' : slOf (env ++ [s]) (.im d) = some s0 := z
          rw [z']
        | ow j =>
          have z' : (match owAt env j with | some d => some (Sl.ow true d) | none => none) = some s0 := z
          cases q : owAt env j with
          | none => rw [q] at z'; cases z'
          | some d =>
            rw [q] at z'
            refine ⟨?_, fun k hk => ?_⟩
            · unfold slsOf
              rw [i1]
              have z2 : slOf (env ++ [s]) (.ow j) = some s0 := by
                show (match owAt (env ++ [s]) j with | some d => some (Sl.ow true d) | none => none) = some s0
                rw [owAt_app q]
                exact z'
              rw [z2]
            · rcases List.mem_cons.mp (show k ∈ j :: ows t from hk) with e | e
              · rw [e]
                exact owAt_lt q
              · exact i2 k e
theorem putOw_app {env : Ev} {s : Sl} {j : Nat} {d : D} (h : j < env.length) : putOw (env ++ [s]) j d = putOw env j d ++ [s] := by
  unfold putOw
  rw [List.getElem?_append_left h]
  cases z : env[j]? with
  | none => rfl
  | some sv =>
    cases sv with
    | no => rfl
    | im _ => rfl
    | ow b d' => exact List.set_append_left _ _ h
theorem backE_app {s : Sl} : ∀ {hs : List Hd} {sl : List Sl} {env : Ev}, (∀ j ∈ ows hs, j < env.length) → backE (env ++ [s]) hs sl = backE env hs sl ++ [s]
  | [], sl, env, _ => by cases sl <;> rfl
  | h :: hs, [], env, _ => by cases h <;> rfl
  | .ow j :: hs, .ow b d :: sl, env, hj => by
    unfold backE
    rw [putOw_app (hj j List.mem_cons_self)]
    exact backE_app fun k hk => by rw [putOw_length]; exact hj k (List.mem_cons_of_mem _ hk)
  | .ow j :: hs, .im d :: sl, env, hj => by
    unfold backE
    exact backE_app fun k hk => hj k (List.mem_cons_of_mem _ hk)
  | .ow j :: hs, .no :: sl, env, hj => by
    unfold backE
    exact backE_app fun k hk => hj k (List.mem_cons_of_mem _ hk)
  | .im _ :: hs, s0 :: sl, env, hj => by
    unfold backE
    exact backE_app fun k hk => hj k hk
section
variable {X : Cx} {W : WX} {K : PySem.W.Frag} {T : SpT} {wl : WA} {k : Nat} {x : Str} {ps : List Str} {e o : Expr} {es : List Expr} {p pos apos : Pos} {wr : WO} {c : Str}
theorem HRs.app {G : Hp} {σ : St} {u : Option V} : ∀ {hs : List Hd} {vs : List V}, HRs K G σ hs vs → HRs K G (σ ++ [u]) hs vs
  | [], vs, q => q
  | .im d :: t, vs, q => let ⟨v, r, e, q1, q2⟩ := q; ⟨v, r, e, q1, HRs.app q2⟩
  | .ow i :: t, vs, q => by
    obtain ⟨v, r, e, q1, q2⟩ := q
    have q1' : σ[i]? = some (some v) := q1
    refine ⟨v, r, e, ?_, HRs.app q2⟩
    show (σ ++ [u])[i]? = some (some v)
    rw [List.getElem?_append_left (List.getElem?_eq_some_iff.mp q1').1]
    exact q1'
theorem l_make (σ : St) (H : Hp) (Q : VK) (h : lF K W (wMake c T wl) σ H Q) : lA K W wl σ H fun vs H1 => ∀ xx dx, H1 xx = none → H1 dx = none → dx ≠ xx →
    spT K T (.ref xx :: vs) (upd (upd H1 dx (.own xx)) xx (.ins (He.ga K c) dx [])) (fun v H2 => v = .non ∧ Q (.ref xx) H2) (fun cls d H' => W cls d σ H') := by
  obtain ⟨x, G, env, Q', X', r, hw, hn, hx⟩ := h
  refine ⟨x, G, env, _, X', r, hw, fun hs e1 vs G1 H1 s1 r1 q1 hq => fun xx dx nx ndx ne => ?_, hx⟩
  obtain ⟨nd, hq⟩ := hq
  obtain ⟨sl, zsl, hT⟩ := mo_some hq
  have st1 := Step.junk r1.sG (.own xx) ndx
  have nx' : upd H1 dx (.own xx) xx = none := by
    rw [upd_ne (Ne.symm ne)]
    exact nx
  have r2 := r1.step st1
  obtain ⟨f1, f2, f3⟩ := fresh_F r2 nx'
  have st2 := Step.junk r2.sG (.ins (He.ga K c) dx []) nx'
  have r3 := r2.step st2
  have hR : x.R e1.length = none := r3.noR fun d z => by
    have := (List.getElem?_eq_some_iff.mp z).1
    omega
  have r4 := r3.push (d := .ins c [] []) upd_same ⟨dx, [], rfl, rfl, Reps.nil⟩ f1 f2 f3 hR
  obtain ⟨y1, y2⟩ := slsOf_app (s := .ow false (.ins c [] [])) zsl
  have at0 : owAt (e1 ++ [.ow false (.ins c [] [])]) e1.length = some (.ins c [] []) := by
    unfold owAt
    rw [List.getElem?_append_right (Nat.le_refl _), Nat.sub_self]
    rfl
  have zs : slsOf (e1 ++ [.ow false (.ins c [] [])]) (.ow e1.length :: hs) = some (.ow true (.ins c [] []) :: sl) := by
    unfold slsOf
    have z2 : slOf (e1 ++ [.ow false (.ins c [] [])]) (.ow e1.length) = some (.ow true (.ins c [] [])) := by
      show (match owAt (e1 ++ [.ow false (.ins c [] [])]) e1.length with | some d => some (Sl.ow true d) | none => none) = _
      rw [at0]
    rw [z2, y1]
  have nd' : ndup (ows (.ow e1.length :: hs)) = true := by
    show (!(ows hs).contains e1.length && ndup (ows hs)) = true
    rw [nd, Bool.and_true]
    have : (ows hs).contains e1.length = false := by
      cases z : (ows hs).contains e1.length with
      | false => rfl
      | true =>
        have := y2 e1.length (by simpa using z)
        omega
    rw [this]
    rfl
  have q2 : HRs K G1 (σ ++ [some (.ref xx)]) (.ow e1.length :: hs) (.ref xx :: vs) := by
    refine ⟨.ref xx, vs, rfl, ?_, q1.app⟩
    show (σ ++ [some (V.ref xx)])[e1.length]? = some (some (.ref xx))
    rw [List.getElem?_append_right (by rw [r1.len]; exact Nat.le_refl _), r1.len, Nat.sub_self]
    rfl
  obtain ⟨x', ar, bk, own⟩ := call_frame r4 q2 zs nd'
  have fin : ∀ {G' H' : Hp} {sl' : List Sl}, Same G1 G' → ER K x' G' H' ((V.ref xx :: vs).map some) sl' → ∃ o0 r0, hdO sl' = some (o0, r0) ∧ ER K x G' H' σ (backE e1 hs r0) ∧ (∃ ob, H' xx = some ob ∧ RepO K G' o0 ob) ∧ x.F xx = none ∧ G' xx = none ∧
      (∀ (j : Nat) b d', (backE e1 hs r0)[j]? = some (.ow b d') → σ[j]? ≠ some (some (.ref xx))) := fun {G' H' sl'} s r' => by
    obtain ⟨_, p0, a1, a2⟩ := ar.2 0 true (.ins c [] []) rfl
    have ep : xx = p0 := by
      have a1' : some (V.ref xx) = some (.ref p0) := a1
      cases a1'
      rfl
    subst ep
    obtain ⟨_, o0, a3⟩ := r'.rt 0 xx a2
    cases sl' with
    | nil => simp at a3
    | cons s0 r0 =>
      have e0 : s0 = .ow true o0 := by simpa using a3
      subst e0
      have r5 := bk G' H' _ s r'
      have eb : backE (e1 ++ [.ow false (.ins c [] [])]) (.ow e1.length :: hs) (.ow true o0 :: r0) = backE e1 hs r0 ++ [.ow false o0] := by
        show backE (putOw (e1 ++ [.ow false (.ins c [] [])]) e1.length o0) hs r0 = _
        have ep2 : putOw (e1 ++ [.ow false (.ins c [] [])]) e1.length o0 = e1 ++ [.ow false o0] := by
          unfold putOw
          rw [List.getElem?_append_right (Nat.le_refl _), Nat.sub_self]
          show (e1 ++ [Sl.ow false (.ins c [] [])]).set e1.length (.ow false o0) = _
          rw [List.set_append_right _ _ (Nat.le_refl _), Nat.sub_self]
          rfl
        rw [ep2, backE_app y2]
      rw [eb] at r5
      obtain ⟨b1, b2, b3, b4, b5⟩ := r5.pop (by rw [backE_length, r1.len]) (by rw [backE_length]; exact hR)
      exact ⟨o0, r0, rfl, b1, b2, b3, b4, b5⟩
  have sG : Same G1 G1 := .refl _
  refine ⟨x', G1, _, _, ar, hT, fun d sl' v G' H' s r' rp hq => ?_, fun _ _ _ _ _ _ _ _ _ _ _ _ _ z => z.elim, fun ex sl' cls dd G' H' s r' xr hq => ?_⟩
  · obtain ⟨rfl, hq⟩ := hq
    obtain ⟨q, z, hq⟩ := mo_some hq
    obtain ⟨o0, r0, z2, b1, ⟨ob, b2, b3⟩, b4, b5, b6⟩ := fin s r'
    rw [z] at z2
    cases z2
    exact ⟨rp, hn o0 _ xx ob G' H' (s1.trans s) b1 b2 b3 b5 b4 b6 hq⟩
  · obtain ⟨q, z, hq⟩ := mo_some hq
    obtain ⟨o0, r0, z2, b1, _⟩ := fin s r'
    rw [z] at z2
    cases z2
    exact hx ex _ cls dd G' H' (s1.trans s) b1 xr hq
theorem qf_make (F : MkT X.prog X.w X.K X.mg X.base k c ps T) (hr : Room (k + 1) X.A) (tk : Takes X W) (ha : QA X W (e :: es) wl) (hg : Gl X c := by rfl)
    (hdb : (c == ("__debug__" : Str)) = false := by decide) (he : starEach (e :: es) X.env = (false, eval e X.env) :: starEach es X.env := by rfl) (hpl : (backTo pos (starEach es X.env)).any (·.1) = false := by rfl) :
    QF X W (.Call (.Name c p) (e :: es) [] pos) (wMake c T wl) := by
  obtain ⟨f, fd, G, M, hm, hb⟩ := F.ex
  refine PE.le (t := fun σ H Q => lA X.K W wl σ H fun vs H1 => ∀ xx dx, H1 xx = none → H1 dx = none → dx ≠ xx → spT X.K T (.ref xx :: vs) (upd (upd H1 dx (.own xx)) xx (.ins (He.ga X.K c) dx [])) (fun v H2 => v = .non ∧ Q (.ref xx) H2) (fun cls d H' => W cls d σ H')) ?_ l_make
  refine ⟨fun pins s σ H Q I h => ?_⟩
  refine wpAny_Call_Name_kw (ld_glob I hg hm ?_ hdb)
  refine PySem.W.callWith_K (h₀ := X.base) I.ok.mod.kin M.kp (thn (ha.run pos pins s σ H _ I h) fun us s1 ⟨vs, H1, I1, r, q⟩ => ⟨I1.kIn, ?_⟩) he hpl
  exact run_makeS M G hr hb (passAt tk σ) I1 r q
end
end TL

namespace TL
open PySem PySem.Spec L2
theorem one_size (v : Value) : [v].length ≤ sizeLine := by
  rw [sizeLine_eq]
  exact (by decide : 1 ≤ 16777216)
theorem ldC {M : Model} {s : Shared} {name : Str} {scope : Scope} {L a : Addr} {cd : Value} {m : Str → Option Value} {x : Str} {pos : Pos} {v : Value} {Q : Value → Shared → Prop} {A : Around} {E : Value → Shared → Prop} (hn : s.heap.Ns L m) (hv : m x = some v) (h : Q v s)
    (hk : scope.kind = .function := by rfl) (hl : (PyProof.Rows.envOfC name scope L a cd).kindOf x = some .local := by rfl) (hd : (x == ("__debug__" : Str)) = false := by decide) :
    wpAny M A (eval (.Name x pos) (PyProof.Rows.envOfC name scope L a cd)) Q E s := wpAny_Name (wpAny_loadName_local hk hl hn hv h) hd
theorem relO_one {v : V} {v' : Value} (n : Str) (r : RelV v v') (f : Str) : RelO (List.lookup f [(n, v)]) (if f = n then some v' else none) := by
  by_cases hw : f = n
  · subst hw
    rw [if_pos rfl]
    have q : List.lookup f [(f, v)] = some v := by simp [List.lookup]
    rw [q]
    exact r
  · rw [if_neg hw]
    have qw : (f == n) = false := by simpa using hw
    have q2 : List.lookup f [(n, v)] = none := by simp [List.lookup, qw]
    rw [q2]
    trivial
section
variable {X : Cx} {W : WX} {K : PySem.W.Frag} {e : Expr} {we : WE} {cn f : Str}
def sRaise (cn f : Str) (w : WE) : WS := fun env E => w env (fun d e => E.xc ⟨cn, [f], [d]⟩ e) E.xc
theorem l_raise (De : Ends) (σ : St) (H : Hp) (h : lS K W (sRaise cn f we) De σ H) : tCons (lO K W (imO we)) tNil σ H fun vs H1 => ∃ v, vs = [v] ∧ ∀ d, H1 d = none → W (.ref (He.ga K cn)) (some d) σ (upd H1 d (.xd [(f, v)])) := by
  obtain ⟨x, G, env, E', r, hw, hE⟩ := h
  refine ⟨x, G, env, _, E'.xc, r, imO_mono hw, fun h e1 v G1 H1 s1 r1 q1 hq => ⟨v, rfl, fun d hd => ?_⟩, hE.xe σ⟩
  obtain ⟨dv, rfl, hq⟩ := hq
  have st := Step.one r1.sG (.xd [(f, v)]) hd
  exact hE.xc _ e1 _ _ σ _ _ (s1.trans st.g) (r1.step st) ⟨rfl, .inr ⟨d, [v], rfl, upd_same, rfl, Reps.cons (Rep.mono st.g _ _ q1) Reps.nil⟩⟩ hq
end
end TL

namespace PySem
open AutoSeq1 (wpAny_loadPart')
theorem meets_enumT (l : Addr) (items : Array Value) (n : Nat) (dct : Option Addr) (sl : Array (Option Value)) :
    Meets (Builtin.«enumerate.__new__» ⟨[.type "enumerate", .ref l], []⟩) (fun _ R s => s.heap.get? l = some { cls := .type "tuple", dict := dct, data := .seq items n, slots := sl } ∧
      R (.ok (.ret (.ref (s.heap.push { cls := .type "tuple_iterator", data := .fields #[.ref l, .int 0 0] }).objs.size)))
        { s with heap := (s.heap.push { cls := .type "tuple_iterator", data := .fields #[.ref l, .int 0 0] }).push { cls := .type "enumerate", data := .fields #[.none, .bool false, .ref s.heap.objs.size, rawInt 0, .none, .none] } }) :=
  .of_wp fun prog w A R s h => by
    obtain ⟨hp, g, d, tk, os⟩ := s; obtain ⟨hl, h⟩ := h
    have hsub := sub_enumerate
    have hL : Heap.IsTuple (Shared.heap ⟨hp, g, d, tk, os⟩) l items := ⟨_, hl, rfl, n, rfl⟩
    wp_walk using wpAny_loadPart' hl
    refine wpAny_stack_any fun st => wpAny_pure ?_
    split
    · rename_i c _ _ _ _ _
      cases (c == Value.type "enumerate")
      · wp_walk using wpAny_loadPart' hl, wpAny_pyIter_tuple hL
        exact ⟨_, rfl, h⟩
      · wp_walk using wpAny_loadPart' hl, wpAny_pyIter_tuple hL
        exact ⟨_, rfl, h⟩
    · wp_walk using wpAny_loadPart' hl, wpAny_pyIter_tuple hL
      exact ⟨_, rfl, h⟩
theorem call_enumT {prog : Program} {w : World} {A : Around} {E : Value → Shared → Prop} {s : Shared} {l : Addr} {items : Array Value} {Q : Value → Shared → Prop} (hL : s.heap.IsTuple l items)
    (h : ∀ h', IsEnum h' (s.heap.objs.size + 1) s.heap.objs.size 0 .none → h'.IsTupleIter s.heap.objs.size l 0 → h'.objs.size = s.heap.objs.size + 2 →
      (∀ b o, s.heap.get? b = some o → h'.get? b = some o) → Q (.ref (s.heap.objs.size + 1)) { s with heap := h' }) :
    wpAny (model prog w) A (call (.type "enumerate") [.ref l]) Q E s := by
  obtain ⟨⟨c, dct, dt, sl⟩, hl, hc, n, hd⟩ := hL
  replace hc : c = .type "tuple" := hc
  replace hd : dt = .seq items n := hd
  subst hc hd
  refine callType_new F.called_enumerate (by decide) (F.typeCall_enumerate_1 _) (F.newCall_enumerate_1 _) (fun obj => F.args_object_init_2 obj _) F.entry_enumerate_new (meets_enumT l items n dct sl) ⟨hl, ?_⟩
  have hz : (s.heap.push { cls := .type "tuple_iterator", data := .fields #[.ref l, .int 0 0] }).objs.size = s.heap.objs.size + 1 := Heap.size_push ..
  show _ ∧ _
  rw [hz]
  have he : IsEnum ((s.heap.push { cls := .type "tuple_iterator", data := .fields #[.ref l, .int 0 0] }).push
      { cls := .type "enumerate", data := .fields #[.none, .bool false, .ref s.heap.objs.size, rawInt 0, .none, .none] }) (s.heap.objs.size + 1) s.heap.objs.size 0 .none := by
    have := Heap.get?_push_size (s.heap.push { cls := .type "tuple_iterator", data := .fields #[.ref l, .int 0 0] })
      (o := { cls := .type "enumerate", data := .fields #[.none, .bool false, .ref s.heap.objs.size, rawInt 0, .none, .none] }) rfl
    rw [hz] at this; exact this
  exact ⟨⟨_, he, rfl⟩, h _ he ⟨_, Heap.get?_push_of_some _ (Heap.get?_push_size _ rfl), rfl, rfl⟩ (by rw [Heap.size_push, hz]) fun b o x => Heap.get?_push_of_some _ (Heap.get?_push_of_some _ x)⟩
end PySem
namespace TL
open PySem PySem.Spec L2
def Itet (K : PySem.W.Frag) (a : Addr) : It :=
  ⟨fun i H => ∃ (xs : List V) (x : V), SqT K H a xs ∧ xs[i]? = some x, fun i H v H' => ∃ T x, v = .ref T ∧ H T = none ∧ H' = upd H T (.tup [.int (i : Nat), x]) ∧ ∀ xs, SqT K H a xs → xs[i]? = some x, fun i H => ∃ xs : List V, SqT K H a xs ∧ xs.length ≤ i⟩
theorem turn_enumT {P : Program} {w : World} {K : PySem.W.Frag} {elts : List Expr} {kk : Nat} {tpos : Pos} (a e it : Addr) :
    Turn P w K (.Tuple elts kk tpos) (Itet K a) [e, it] e (fun i h => (∃ old, IsEnum h e it ((i : Nat) : Int) old) ∧ h.IsTupleIter it a i ∧ e ≠ it) where
  mem := by simp
  obj := fun i h st b hb => by
    obtain ⟨⟨old, he⟩, ⟨o, ho, hc, hd⟩, _⟩ := st
    have e' : b = e ∨ b = it := by simpa using hb
    rcases e' with z | z
    · rw [z]; exact ⟨_, he, fun v q => nomatch q⟩
    · rw [z]; exact ⟨o, ho, fun v q => by rw [hd] at q; cases q⟩
  keep := fun i h h' st k => let ⟨⟨old, he⟩, hi, hne⟩ := st; ⟨⟨old, k e (by simp) _ he⟩, hi.at fun o q => k it (by simp) o q, hne⟩
  item := by
    intro X hP hw hK hc i pins s σ H E I hf st hg
    subst hP hw hK
    obtain ⟨⟨old, he⟩, hit, hne⟩ := st
    obtain ⟨xs, x, hq, hx⟩ := hg
    obtain ⟨its, rv, p, hz⟩ := I.tuple hq
    have p' : s.heap.IsTuple a its.toArray := p
    have hel : e < s.heap.objs.size := Heap.lt_size he
    have hil : it < s.heap.objs.size := by obtain ⟨_, q, _⟩ := hit; exact Heap.lt_size q
    have nai : a ≠ it := fun z => by
      obtain ⟨o1, h1, c1, _⟩ := hit
      obtain ⟨o2, h2, c2, _⟩ := p'
      rw [z, h1] at h2
      cases h2
      rw [c1] at c2
      injection c2 with c3
      exact absurd c3 (by decide)
    have nea : e ≠ a := fun z => by
      obtain ⟨o2, h2, c2, _⟩ := p'
      have h1 := he
      unfold IsEnum at h1
      rw [z, h2] at h1
      cases h1
      injection c2 with c3
      exact absurd c3 (by decide)
    have hlen : i < its.toArray.size := by
      rw [List.size_toArray, ← rv.length]
      exact (List.getElem?_eq_some_iff.mp hx).1
    refine wpAny_pyNext_enum_itemD (Draws.tuple (by show X.A.handled = none; exact I.ok.hd hc) it a nai its.toArray) he ⟨hit, p'⟩ hlen hne (by
      intro z
      rcases List.mem_cons.mp z with z | z
      · exact hne z
      · rcases List.mem_cons.mp z with z | z
        · exact nea z
        · cases z) fun u h' tk hu ho hit' hT hsz hk => ?_
    refine ⟨_, rfl, wpAny_letOwnedTupleGo_enum (s := { s with heap := h', toks := tk + 1 }) ho fun h'' he' sb => ?_⟩
    have ru : RelV x u := by
      obtain ⟨u', e1, e2⟩ := rv.get hx
      have hu' : its[i]? = some u := by simpa using hu
      rw [hu'] at e1
      cases e1
      exact e2
    have hT2 : h''.get? s.heap.objs.size = some { cls := .type "tuple", data := .seq #[.int i tk, u] } := (sb.2 _ (Nat.ne_of_gt hel)).trans hT
    have new : ObjOk X.prog X.w (upd H s.heap.objs.size (.tup [.int (i : Nat), x])) h'' s.heap.objs.size (.tup [.int (i : Nat), x]) :=
      ⟨by show 2 ≤ sizeLine; decide, [.int i tk, u], .cons ⟨_, rfl⟩ (.cons ru .nil), ⟨_, hT2, rfl, _, rfl⟩⟩
    have I1 : Inv X pins σ (upd H s.heap.objs.size (.tup [.int (i : Nat), x])) { s with heap := h'', toks := tk + 1 } :=
      I.turnedNew (ch := [e, it]) (fun b ob hb q => (sb.2 b (fun z => hb (by simp [z]))).trans (hk b ob (fun z => hb (by simp [z])) (fun z => hb (by simp [z])) q)) hf (Nat.le_refl _) new
    refine ⟨.ref s.heap.objs.size, _, I1, rfl, ⟨_, x, rfl, I.hok.fresh (Nat.le_refl _), rfl, fun ys hy => by rw [I.tuple_inj hy hq]; exact hx⟩, ⟨⟨u, ?_⟩, hit'.1.at fun o q => (sb.2 it (Ne.symm hne)).trans q, hne⟩, fun b hb => ?_⟩
    · have e1 : ((i + 1 : Nat) : Int) = (i : Int) + 1 := by omega
      rw [e1]; exact he'
    · have hb' : b < s.heap.objs.size := by
        have e' : b = e ∨ b = it := by simpa using hb
        rcases e' with z | z
        · rw [z]; exact hel
        · rw [z]; exact hil
      rw [upd_ne (Nat.ne_of_lt hb')]
      exact (hf b hb).1
  done := by
    intro X hP hw hK hc i pins s σ H E I hf st hg
    subst hP hw hK
    obtain ⟨⟨old, he⟩, hit, hne⟩ := st
    obtain ⟨xs, hq, hx⟩ := hg
    obtain ⟨its, rv, p, hz⟩ := I.tuple hq
    have p' : s.heap.IsTuple a its.toArray := p
    obtain ⟨f0, f1, f2, f3, f4, f5⟩ := hf it (by simp)
    have hl := rv.length
    have hT : s.TypeIs (.ref e) "enumerate" := ⟨_, he, rfl⟩
    unfold pyNext
    refine wpAny_bind (wpAny_attempt (wpAny_callSpecial?_slot (name := Str.ofString "__next__") hT F.slot_enumerate_next
      (wpAny_call_entry F.slot_enumerate_next hT F.entry_enumerate_next ?_ (F.args_enumerate_next_1 _))))
    show wpAny _ _ (field (.ref e) 2 >>= _) _ _ _
    refine wpAny_bind (wpAny_field he rfl (x := .ref it) rfl ?_)
    refine wpAny_bind (wpAny_nextOf_tuple_end (by show X.A.handled = none; exact I.ok.hd hc) hit p' (by simp; omega) fun h' x he' hx' => ?_)
    obtain ⟨o, ho, hc⟩ := hx'
    refine wpAny_bind (wpAny_isInstance (T := "StopIteration") (b := true) ⟨o, ho, hc⟩ isSubtype_stop ?_)
    exact wpAny_pure ⟨rfl, I.turned (t' := s.toks) (fun b o hb q => he' b o hb q) f0 f1 f3 f4 f5⟩
  self := fun A i s Q E st h => let ⟨⟨_, he⟩, _⟩ := st; wpAny_pyIter_enum he h
section
variable {X : Cx} {W : WX} {a b c e o : Expr} {pos p : Pos} {we wf wg : WE} {K : PySem.W.Frag} {wa : WO}
def iEnumT (K : PySem.W.Frag) (ta : TA) : TI := fun σ H R => ta σ H fun vs H1 => ∃ a xs, vs = [.ref a] ∧ SqT K H1 a xs ∧ R (Itet K a) H1
theorem pi_enumT {ta : TA} {tpos : Pos} {elts : List Expr} {kk : Nat} (hg : Gl X "enumerate") (hm : X.mg "enumerate" = none) (ha : PA X [e] ta) (hs : starEach [e] X.env = [(false, eval e X.env)] := by rfl) :
    PI X (.Tuple elts kk tpos) (.Call (.Name "enumerate" p) [e] [] pos) (iEnumT X.K ta) := by
  refine ⟨fun pins s σ H R I h => ?_⟩
  refine PyProof.Rows.Call_ (ld_blt I hg hm PyProof.Rows.boot_enumerate (PyProof.Rows.callWith_type1 (thn (ha.run pos pins s σ H _ I h) fun us s1 ⟨vs, H1, I1, r1, q1⟩ => ?_) hs rfl))
  obtain ⟨a, xs, ex, hq, q⟩ := q1
  subst ex
  cases r1 with
  | cons r rr =>
    cases rr
    cases r
    obtain ⟨its, rv, p', hz⟩ := I1.tuple hq
    refine call_enumT (show s1.heap.IsTuple a its.toArray from p') fun h' he hit hsz hk => wpAny_pyIter_enum he ?_
    have I2 : Inv X pins σ H1 { s1 with heap := h' } := I1.kept (t' := s1.toks) hk
    refine ⟨s1.heap.objs.size + 1, [s1.heap.objs.size + 1, s1.heap.objs.size], _, _, H1, rfl, I2, turn_enumT a (s1.heap.objs.size + 1) s1.heap.objs.size, ⟨⟨.none, he⟩, hit, Nat.succ_ne_self _⟩, fun b hb => ?_, q⟩
    have e' : b = s1.heap.objs.size + 1 ∨ b = s1.heap.objs.size := by simpa using hb
    have hle : s1.heap.objs.size ≤ b := by
      rcases e' with z | z
      · rw [z]; exact Nat.le_add_right _ _
      · rw [z]; exact Nat.le_refl _
    exact I1.fpOk hle (I1.hok.fresh hle)
theorem walk_enumT {G F : Hp} {ds : List D} {vs : List V} {q : Addr} (h : SqT K G q vs) (r : Reps K G ds vs) : Walk K G F (enD ds) (Itet K q) where
  go := fun i H s _ hi => by
    have hv : i < vs.length := by rw [r.length, ← enD_length]; exact hi
    exact ⟨vs, vs[i], sameT s h, List.getElem?_eq_getElem hv⟩
  stop := fun i H s _ hi => ⟨vs, sameT s h, by rw [r.length, ← enD_length]; exact hi⟩
  yld := fun i H v H' d G1 s1 s2 _ e y => by
    obtain ⟨T, x, rfl, hT, rfl, y⟩ := y
    rw [enD_get] at e
    cases z : ds[i]? with
    | none =>
      rw [z] at e
      cases e
    | some d0 =>
      rw [z] at e
      cases e
      obtain ⟨v', e', q'⟩ := r.get z
      have z := y vs (sameT (s1.trans s2) h)
      rw [e'] at z
      have z' : v' = x := Option.some.inj z
      subst z'
      have st := Step.one s2 (.tup [.int (i : Nat), v']) hT
      refine ⟨_, st, ?_⟩
      unfold Rep
      exact ⟨T, _, rfl, SqT.of upd_same, Reps.cons rfl (Reps.cons (Rep.mono (s1.trans st.g) _ _ q') Reps.nil)⟩
def iEnT (w : WE) : WI := fun env Q Xp => w env (fun d e => mo (tupOf d) fun ds => Q (enD ds) e) Xp
theorem qi_enumT {elts : List Expr} {kk : Nat} {tpos : Pos} (hm : X.mg "enumerate" = none) (ha : QE X W e we) (hg : Gl X "enumerate" := by rfl) (hs : starEach [e] X.env = [(false, eval e X.env)] := by rfl) (hs2 : starEach [e] X.env = (false, eval e X.env) :: starEach [] X.env := by rfl) :
    QI X W (.Tuple elts kk tpos) (.Call (.Name "enumerate" p) [e] [] pos) (iEnT we) := (pi_enumT hg hm (pa_cons ha pa_nil hs2) hs).le fun σ H R h => by
  obtain ⟨x, G, env, Q', X', r, hw, hn, hx⟩ := h
  refine ⟨x, G, env, _, X', r, imO_mono hw, fun h env' v G' H' s r' q hq => ?_, hx⟩
  obtain ⟨d, rfl, hq⟩ := hq
  obtain ⟨ds, z, hq⟩ := mo_some hq
  rw [tupOf_some z] at q
  have q' : Rep X.K G' (.tup ds) v := q
  unfold Rep at q'
  obtain ⟨b, vs, rfl, q1, q2⟩ := q'
  exact ⟨b, vs, rfl, sameT r'.sG q1, hn _ env' G' H' _ s r' (walk_enumT q1 q2) hq⟩
theorem _root_.L2.PI.or {tg iter : Expr} {t t' : TI} (h : PI X tg iter t) (h' : PI X tg iter t') : PI X tg iter (fun σ H R => t σ H R ∨ t' σ H R) := ⟨fun pins s σ H R I hw => hw.elim (h.run pins s σ H R I) (h'.run pins s σ H R I)⟩
def keyOf : D → Option Key
  | .int i => some (.inl i)
  | .str x => some (.inr x)
  | _ => none
def dval (ks : List Key) (ds : List D) (k : Key) : Option D := ((ks.zip ds).find? fun kv => decide (kv.1 = k)).map (·.2)
def dput (ks : List Key) (ds : List D) (k : Key) (d : D) : List Key × List D := if (ks.any fun a => decide (a = k)) = true then (ks, (ks.zip ds).map fun q => if q.1 = k then d else q.2) else (ks ++ [k], ds ++ [d])
end
end TL

namespace TL
open PySem PySem.Spec L2
section
variable {X : Cx} {W : WX} {pos : Pos}
theorem qe_globI {n : Str} {i : Int} (hm : ∃ t, X.mg n = some (.int i t)) (hg : Gl X n := by rfl) (hd : (n == ("__debug__" : Str)) = false := by decide) : QE X W (.Name n pos) (wC (.int i)) := by
  obtain ⟨t, hm⟩ := hm
  exact qe_glob (v := .int i) hg hm ⟨t, rfl⟩ (fun _ => rfl) hd
theorem qe_globS {n : Str} {i : Str} (hm : ∃ t, X.mg n = some (.str i t)) (hg : Gl X n := by rfl) (hd : (n == ("__debug__" : Str)) = false := by decide) : QE X W (.Name n pos) (wC (.str i)) := by
  obtain ⟨t, hm⟩ := hm
  exact qe_glob (v := .str i) hg hm ⟨t, rfl⟩ (fun _ => rfl) hd
end
def T_law : SpT := fun sl R => ∃ ns : List Int, ns.length ≤ 63 ∧ sl = [.im (.lst (ns.map D.int))] ∧ ∀ sl', R.rt (.bl true) sl'
theorem law_sp {K : PySem.W.Frag} {H : Hp} {a : Addr} {ns : List Int} (hl : ns.length ≤ 63) (hS : SqL K H a (ns.map V.int)) : spT K T_law [.ref a] H (fun v _ => v = .bl true) fun _ _ _ => False := by
  refine ⟨⟨fun _ => none, fun _ => none⟩, H, [.im (.lst (ns.map D.int))], ⟨fun d _ => d = .bl true, fun _ _ => False, fun _ _ => False⟩, ⟨⟨rfl, .refl _, fun a o e => (by cases e), fun a o e => (by cases e), fun i d h => ?_, fun i b d h => ?_, fun i j b c d e p h1 => ?_, fun i p h => (by cases h)⟩, fun i b d h => ?_⟩, ⟨ns, hl, rfl, fun _ => rfl⟩, fun d sl' v G' H' s r q h => ?_, fun d sl' p o G' H' s r _ _ _ _ _ h => h.elim, fun e sl' cls dd G' H' s r x h => h.elim⟩
  · cases i with
    | zero =>
      cases h
      refine ⟨.ref a, rfl, ?_⟩
      unfold Rep
      exact ⟨a, _, rfl, hS, Reps.of_ints⟩
    | succ i => simp at h
  · cases i with
    | zero => cases h
    | succ i => simp at h
  · cases i with
    | zero => cases h1
    | succ i => simp at h1
  · cases i with
    | zero => cases h
    | succ i => simp at h
  · have h' : d = .bl true := h
    rw [h'] at q
    exact q
theorem cx_false {P : Program} {w : World} (H : Hp) (s : Shared) (e : Value) (s' : Shared) (h : L2.CX P w [] H s (fun _ _ _ => False) e s') : False := by
  obtain ⟨_, _, _, _, _, _, _, _, _, _, _, _, z⟩ := h
  exact z
end TL

namespace TL
open PySem PySem.Spec L2
theorem eqD_int {i j : Int} : eqD (.int i) (.int j) = decide (i = j) := by
  unfold eqD pd
  first | rfl | (simp [PyData.eqv]) | skip
theorem rgD_len {lo : Int} {n : Nat} : (rgD lo n).length = n := by
  unfold rgD
  rw [List.length_map, List.length_range]
theorem atI_of {α : Type} {ds : List α} {i : Int} {n : Nat} {d : α} (hi : i = n) (h : ds[n]? = some d) : atI ds i = some d := by
  have hn : n < ds.length := (List.getElem?_eq_some_iff.mp h).1
  subst hi
  unfold atI ixN
  rw [if_pos (by omega), if_pos (by omega)]
  exact h
end TL

namespace TL
open PySem PySem.Spec L2
inductive Mb where
  | last (q : Int) | first (q : Int) | limit (q : Int) | delay (q : Int)
  deriving DecidableEq
def zat (ts : List Int) (i : Nat) : Int := ts.getD i 0
def nat' (ns : List Nat) (i : Nat) : Nat := ns.getD i 0
def keptL (q : Int) (ts : List Int) : List Nat := (List.range ts.length).filter fun i => decide (i + 1 = ts.length) || decide (q ≤ zat ts (i + 1) - zat ts i)
def keptF (q : Int) (ts : List Int) : List Nat := (List.range ts.length).filter fun i => decide (i = 0) || decide (q ≤ zat ts i - zat ts (i - 1))
def limS (q : Int) (ts : List Int) (fo : List Nat) (i : Nat) : List Nat := if (fo.isEmpty || decide (q ≤ zat ts i - zat ts (fo.getLast?.getD 0))) = true then fo ++ [i] else fo
def limN (q : Int) (ts : List Int) (n : Nat) : List Nat := (List.range n).foldl (limS q ts) []
def Mb.kept : Mb → List Int → List Nat
  | .last q, ts => keptL q ts
  | .first q, ts => keptF q ts
  | .limit q, ts => limN q ts ts.length
  | .delay _, ts => List.range ts.length
def Mb.ok : Mb → Bool
  | .last q => decide (1 ≤ q)
  | .first q => decide (1 ≤ q)
  | .limit q => decide (1 ≤ q)
  | .delay q => decide (0 ≤ q)
def Mb.tree : Mb → D
  | .last q => .ins "Last" ["q"] [.int q]
  | .first q => .ins "First" ["q"] [.int q]
  | .limit q => .ins "Limit" ["q"] [.int q]
  | .delay q => .ins "Delay" ["d"] [.int q]
def Mb.isLast : Mb → Bool
  | .last _ => true
  | _ => false
def zD (ts : List Int) : D := .lst (ts.map D.int)
theorem zat_get {ts : List Int} {i : Nat} (h : i < ts.length) : ts[i]? = some (zat ts i) := by
  unfold zat
  rw [List.getD_eq_getElem?_getD, List.getElem?_eq_getElem h]
  rfl
theorem nat_get {ts : List Nat} {i : Nat} (h : i < ts.length) : ts[i]? = some (nat' ts i) := by
  unfold nat'
  rw [List.getD_eq_getElem?_getD, List.getElem?_eq_getElem h]
  rfl
theorem zmap_get {ts : List Int} {i : Nat} (h : i < ts.length) : (ts.map D.int)[i]? = some (.int (zat ts i)) := by
  rw [List.getElem?_map, zat_get h]
  rfl
theorem limN_succ {q : Int} {ts : List Int} {n : Nat} : limN q ts (n + 1) = limS q ts (limN q ts n) n := by
  unfold limN
  rw [List.range_succ, List.foldl_append]
  rfl
theorem lim_mem {q : Int} {ts : List Int} : ∀ {n i : Nat}, i ∈ limN q ts n → i < n
  | 0, i, h => by cases h
  | n + 1, i, h => by
    rw [limN_succ] at h
    unfold limS at h
    split at h
    · rcases List.mem_append.mp h with h | h
      · have := lim_mem h
        omega
      · rw [List.mem_singleton] at h
        omega
    · have := lim_mem h
      omega
theorem lim_asc {q : Int} {ts : List Int} : ∀ {n : Nat}, (limN q ts n).Pairwise (· < ·)
  | 0 => .nil
  | n + 1 => by
    rw [limN_succ]
    unfold limS
    split
    · exact List.pairwise_append.mpr ⟨lim_asc, List.pairwise_singleton _ _, fun a ha b hb => by
        rw [List.mem_singleton] at hb
        have := lim_mem ha
        omega⟩
    · exact lim_asc
theorem lim_zero {q : Int} {ts : List Int} : ∀ {n : Nat}, 0 < n → 0 ∈ limN q ts n
  | 0, h => by omega
  | 1, _ => List.mem_singleton.mpr rfl
  | n + 2, _ => by
    have h := lim_zero (q := q) (ts := ts) (n := n + 1) (by omega)
    rw [limN_succ]
    unfold limS
    split
    · exact List.mem_append_left _ h
    · exact h
theorem range_asc (n : Nat) : (List.range n).Pairwise (· < ·) := List.pairwise_lt_range
structure KOk (m : Mb) (n : Nat) (ks : List Nat) : Prop where
  asc : ks.Pairwise (· < ·)
  lt : ∀ k ∈ ks, k < n
  la : m.isLast = true → 0 < n → n - 1 ∈ ks
  fi : m.isLast = false → 0 < n → 0 ∈ ks
theorem Mb.kept_ok (m : Mb) (ts : List Int) : KOk m ts.length (m.kept ts) := by
  cases m with
  | last q =>
    refine ⟨(range_asc _).filter _, fun k h => List.mem_range.mp (List.mem_filter.mp h).1, fun _ h => List.mem_filter.mpr ⟨List.mem_range.mpr (by omega), ?_⟩, fun h => by cases h⟩
    rw [decide_eq_true (by omega), Bool.true_or]
  | first q =>
    refine ⟨(range_asc _).filter _, fun k h => List.mem_range.mp (List.mem_filter.mp h).1, fun h => (by cases h), fun _ h => List.mem_filter.mpr ⟨List.mem_range.mpr h, ?_⟩⟩
    rw [decide_eq_true rfl, Bool.true_or]
  | limit q => exact ⟨lim_asc, fun k h => lim_mem h, fun h => (by cases h), fun _ h => lim_zero h⟩
  | delay q => exact ⟨range_asc _, fun k h => List.mem_range.mp h, fun h => (by cases h), fun _ h => List.mem_range.mpr h⟩
def cntL (l : List Nat) (x : Nat) : Nat := (l.filter fun k => decide (k < x)).length
theorem cntL_zero (l : List Nat) : cntL l 0 = 0 := by
  unfold cntL
  rw [List.filter_eq_nil_iff.mpr (fun a _ => by simp)]
  rfl
theorem cntL_le (l : List Nat) (x : Nat) : cntL l x ≤ l.length := List.length_filter_le _ _
theorem cntL_low {l : List Nat} {a x : Nat} (h : ∀ k ∈ l, a < k) (hx : x ≤ a + 1) : cntL l x = 0 := by
  unfold cntL
  rw [List.filter_eq_nil_iff.mpr (fun k hk => by have := h k hk; simp; omega)]
  rfl
theorem cntL_cons {a x : Nat} {l : List Nat} : cntL (a :: l) x = (if a < x then 1 else 0) + cntL l x := by
  unfold cntL
  by_cases h : a < x
  · rw [List.filter_cons_of_pos (by simpa using h), if_pos h, List.length_cons]
    omega
  · rw [List.filter_cons_of_neg (by simpa using h), if_neg h]
    omega
theorem cnt_get : ∀ {l : List Nat}, l.Pairwise (· < ·) → ∀ {j v : Nat}, l[j]? = some v → cntL l v = j
  | [], _, j, v, h => by simp at h
  | a :: l, p, j, v, h => by
    obtain ⟨p1, p2⟩ := List.pairwise_cons.mp p
    rw [cntL_cons]
    cases j with
    | zero =>
      cases h
      rw [if_neg (by omega), cntL_low p1 (by omega)]
    | succ j =>
      have h' : l[j]? = some v := h
      have := p1 v (List.mem_of_getElem? h')
      rw [if_pos this, cnt_get p2 h']
      omega
theorem cntL_succ : ∀ {l : List Nat}, l.Pairwise (· < ·) → ∀ {x : Nat}, cntL l (x + 1) = cntL l x + if x ∈ l then 1 else 0
  | [], _, x => rfl
  | a :: l, p, x => by
    obtain ⟨p1, p2⟩ := List.pairwise_cons.mp p
    rw [cntL_cons, cntL_cons, cntL_succ p2]
    by_cases z : a < x
    · rw [if_pos z, if_pos (by omega)]
      by_cases y : x ∈ l
      · rw [if_pos y, if_pos (List.mem_cons_of_mem _ y)]
        omega
      · rw [if_neg y, if_neg (by intro q; rcases List.mem_cons.mp q with q | q; omega; exact y q)]
        omega
    · rw [if_neg z]
      by_cases w : a = x
      · subst w
        have : a ∉ l := fun q => by have := p1 a q; omega
        rw [if_pos (by omega), if_neg this, if_pos List.mem_cons_self]
        omega
      · rw [if_neg (by omega)]
        have : x ∉ l := fun q => by have := p1 x q; omega
        rw [if_neg this, if_neg (by intro q; rcases List.mem_cons.mp q with q | q; omega; exact this q)]
        omega
theorem cntL_lt {l : List Nat} {x v : Nat} (h : v ∈ l) (hx : x ≤ v) : cntL l x < l.length := by
  unfold cntL
  exact List.length_filter_lt_length_iff_exists.mpr ⟨v, h, by simp; omega⟩
def plc (m : Mb) (ks : List Nat) (at_ : Nat) : Nat := if m.isLast = true then cntL ks at_ else cntL ks (at_ + 1) - 1
theorem plc_at {m : Mb} {n : Nat} {ks : List Nat} (o : KOk m n ks) {j v : Nat} (h : ks[j]? = some v) : plc m ks v = j := by
  unfold plc
  have hv := List.mem_of_getElem? h
  split
  · exact cnt_get o.asc h
  · rw [cntL_succ o.asc, cnt_get o.asc h, if_pos hv]
    omega
theorem plc_lt {m : Mb} {n : Nat} {ks : List Nat} (o : KOk m n ks) {a : Nat} (h : a < n) : plc m ks a < ks.length := by
  unfold plc
  cases z : m.isLast with
  | true =>
    rw [if_pos rfl]
    exact cntL_lt (o.la z (by omega)) (by omega)
  | false =>
    rw [if_neg (by simp)]
    have h0 := o.fi z (by omega)
    have : 0 < ks.length := List.length_pos_of_mem h0
    have := cntL_le ks (a + 1)
    omega
end TL

namespace TL
open PySem PySem.Spec L2
def rowD (ms : List Mb) : D := .ins "Row" ["members"] [.tup (ms.map Mb.tree)]
def kstep (ts : List Int) (ns : List Nat) (m : Mb) : List Nat := (m.kept (ns.map (zat ts))).map (nat' ns)
def estep (ts : List Int) (p : List Nat × List Nat) (m : Mb) : List Nat × List Nat := (kstep ts p.1 m, p.2.map (plc m (m.kept (p.1.map (zat ts)))))
def ev (ms : List Mb) (ts : List Int) : List Nat × List Nat := ms.foldl (estep ts) (List.range ts.length, List.range ts.length)
structure EvOk (n : Nat) (p : List Nat × List Nat) : Prop where
  len : p.1.length ≤ n
  lt : ∀ x ∈ p.1, x < n
  vlen : p.2.length = n
  vlt : ∀ v ∈ p.2, v < p.1.length
  onto : ∀ (j v : Nat), p.1[j]? = some v → p.2[v]? = some j
theorem EvOk.init (n : Nat) : EvOk n (List.range n, List.range n) := by
  refine ⟨?_, fun x h => List.mem_range.mp h, List.length_range, fun v h => ?_, fun j v h => ?_⟩
  · show (List.range n).length ≤ n
    rw [List.length_range]
    exact Nat.le_refl _
  · show v < (List.range n).length
    rw [List.length_range]
    exact List.mem_range.mp h
  · have h' : (List.range n)[j]? = some v := h
    have hj := (List.getElem?_eq_some_iff.mp h').1
    rw [List.length_range] at hj
    rw [List.getElem?_range hj] at h'
    cases h'
    exact List.getElem?_range hj
theorem asc_len {l : List Nat} {n : Nat} (h : l.Pairwise (· < ·)) (hl : ∀ x ∈ l, x < n) : l.length ≤ n := by
  rcases Nat.eq_zero_or_pos l.length with z | z
  · omega
  · have hg : l[l.length - 1]? = some (nat' l (l.length - 1)) := nat_get (by omega)
    have hc := cnt_get h hg
    have h2 := hl _ (List.mem_of_getElem? hg)
    have : ∀ (x : Nat) (l : List Nat), l.Pairwise (· < ·) → cntL l x ≤ x := fun x l hp => by
      induction x with
      | zero =>
        rw [cntL_zero]
        exact Nat.le_refl _
      | succ x ih =>
        rw [cntL_succ hp]
        split <;> omega
    have := this (nat' l (l.length - 1)) l h
    omega
theorem EvOk.step {ts : List Int} {p : List Nat × List Nat} (o : EvOk ts.length p) (m : Mb) : EvOk ts.length (estep ts p m) := by
  have ko := m.kept_ok (p.1.map (zat ts))
  rw [List.length_map] at ko
  have kl := asc_len ko.asc ko.lt
  have e1 : (estep ts p m).1 = (m.kept (p.1.map (zat ts))).map (nat' p.1) := rfl
  have e2 : (estep ts p m).2 = p.2.map (plc m (m.kept (p.1.map (zat ts)))) := rfl
  refine ⟨?_, fun x h => ?_, ?_, fun v h => ?_, fun j v h => ?_⟩
  · rw [e1, List.length_map]
    have := o.len
    omega
  · rw [e1] at h
    obtain ⟨k, hk, rfl⟩ := List.mem_map.mp h
    exact o.lt _ (List.mem_of_getElem? (nat_get (ko.lt k hk)))
  · rw [e2, List.length_map]
    exact o.vlen
  · rw [e2] at h
    rw [e1, List.length_map]
    obtain ⟨u, hu, rfl⟩ := List.mem_map.mp h
    exact plc_lt ko (o.vlt u hu)
  · rw [e1, List.getElem?_map] at h
    rw [e2, List.getElem?_map]
    cases z : (m.kept (p.1.map (zat ts)))[j]? with
    | none =>
      rw [z] at h
      cases h
    | some k =>
      rw [z] at h
      have hv : nat' p.1 k = v := Option.some.inj h
      have hk := ko.lt k (List.mem_of_getElem? z)
      have := o.onto k v (by rw [← hv]; exact nat_get hk)
      rw [this]
      show some (plc m _ k) = some j
      rw [plc_at ko z]
end TL

namespace TL
open PySem PySem.Spec L2
section
variable {b s : Int} (hs : 0 < s)
include hs
end
end TL

namespace TL
open PySem PySem.Spec L2
structure XM (K : PySem.W.Frag) (xt : List XI) (hs : List Str) (xf : List (Str × Str)) : Prop where
  m : ∀ k ∈ xt, ∀ h ∈ hs, PySem.W.exmOne K (.ref (He.ga K k.name)) (.ref (He.ga K h)) = some (k.anc.contains h)
  f : ∀ q ∈ xf, XfC K (He.ga K q.1) ∧ PySem.W.findIn K (.ref (He.ga K q.1)) q.2 = some none
section
variable {X : Cx} {W Wout : WX} {K : PySem.W.Frag} {xt : List XI} {hs : List Str} {xf : List (Str × Str)} {wb : WS} {ws : Addr → Str → Option Addr → WS} {i : Nat} {h x n : Str} {np pos pos' : Pos} {body suite : List Stmt} {b₀ : Stmt}
end
section
open PySem.W PySem.Calls PyProof.Rows PySem.HandSPX
theorem exclB_ok {K : PySem.W.Frag} {C : Addr} (h : exclB K C = true) : ∃ nm q N bs bm sn sub ab col dd k0 k1 k2 k3 k5, K.lookup C = some (excClassObj nm q C N bs bm true sn sub ab col dd k0 k1 k2 k3 k5 "ValueError.__new__") ∧ PySem.HandSPX.refsVE bm = true := by
  unfold exclB at h
  split at h
  · rename_i c dd cd sl hl
    obtain ⟨h1, ha⟩ := He.ba h
    obtain ⟨h2, hb⟩ := He.ba ha
    obtain ⟨h3, hc⟩ := He.ba hb
    obtain ⟨h4, h5⟩ := He.ba hc
    clear h ha hb hc
    have h1 := of_decide_eq_true h1
    obtain ⟨nm, bs, mro, N, q, hd, sn, sub, ab, col, del⟩ := cd
    dsimp only at h2 h3 h4
    have h3 : del = false := by simpa using h3
    subst h1 h2 h3
    split at h4
    · rename_i m bm
      obtain ⟨h4, h6⟩ := He.ba h4
      have h4 := of_decide_eq_true h4
      subst h4
      obtain ⟨sl⟩ := sl
      split at h5
      · rename_i k0 k1 k2 k3 k4 k5 hs
        have hs : sl = _ := hs
        have h5 := of_decide_eq_true h5
        subst hs h5
        exact ⟨nm, q, N, bs, bm, sn, sub, ab, col, dd, k0, k1, k2, k3, k5, hl, h6⟩
      · cases h5
    · cases h4
  · cases h
end
end TL

namespace TL
open PySem PySem.Spec L2
section
variable {X : Cx} {W : WX} {a b e : Expr} {pos p : Pos} {we wf : WE} {K : PySem.W.Frag}
def wRep (wa wb : WE) : WE := fun env Q Xp => wa env (fun d e1 => wb e1 (fun d' e2 => mo (lstOf d) fun ds => mo (intOf d') fun k => (-1000000 ≤ k ∧ k ≤ 1000000 ∧ ds.length * k.toNat ≤ 1000000) ∧ Q (.lst (List.replicate k.toNat ds).flatten) e2) Xp) Xp
theorem Reps.rep {G : Hp} {ds : List D} {vs : List V} (h : Reps K G ds vs) : ∀ n : Nat, Reps K G (List.replicate n ds).flatten (List.replicate n vs).flatten
  | 0 => Reps.nil
  | n + 1 => by
    rw [List.replicate_succ, List.replicate_succ, List.flatten_cons, List.flatten_cons]
    exact Reps.append h (Reps.rep h n)
theorem qf_rep (ha : QF X W a we) (hb : QE X W b wf) : QF X W (.BinOp a .Mult b pos) (wRep we wf) := (pe_op op_rep ha hb).le fun σ H Q h => by
  obtain ⟨x, G, env, Q', X', r, hw, hn, hx⟩ := h
  refine ⟨x, G, env, _, X', r, hw, fun d e1 p o G1 H1 s1 r1 hp rp hG hF ho hq => ?_, hx⟩
  have rp0 := rp
  refine ⟨{ x with F := upd x.F p o }, G1, e1, _, X', r1.hide hp hG ho, imO_mono hq, fun h e2 v2 G2 H2 s2 r2 q2 hq => ?_, fun e env' cls dd G' H' s' r' => ?_⟩
  · obtain ⟨d', rfl, hq⟩ := hq
    obtain ⟨ds, z1, hq⟩ := mo_some hq
    obtain ⟨k, z2, ⟨b1, b2, b3⟩, hq⟩ := mo_some hq
    obtain ⟨r3, hp3, hG3, ho3⟩ := r2.unhide rp0.nt hF
    rw [lstOf_some z1] at rp
    obtain ⟨vs, rfl, rv⟩ := rp
    rw [intOf_some z2] at q2
    have q2' : v2 = .int k := q2
    refine ⟨p, k, vs, rfl, q2', hp3, by omega, by omega, ?_, fun p2 hp2 => ?_⟩
    · rw [rv.length]
      exact line_le b3
    · obtain ⟨f1, f2, f3⟩ := fresh_F r3 hp2
      exact hn (.lst (List.replicate k.toNat ds).flatten) e2 p2 _ G2 _ (s1.trans s2) (r3.step (Step.junk r3.sG _ hp2)) upd_same ⟨_, rfl, Reps.rep (Reps.mono s2 _ _ rv) k.toNat⟩ f2 f1 f3 hq
  · intro hx' hq'
    exact hx e env' cls dd G' H' (s1.trans s') (r'.unhide rp0.nt hF).1 hx' hq'
end
end TL

namespace TL
open PySem PySem.Spec L2
section
variable {X : Cx} {W : WX} {a b c e e2 : Expr} {pos p : Pos} {wa wb wc : WO} {we wf : WE} {K : PySem.W.Frag}
def kMin2 : List D → (D → Prop) → Prop := fun ds P => mo (two ds) fun q => mo (intOf q.1) fun i => mo (intOf q.2) fun j => P (.int (if j < i then j else i))
theorem qe_min2 (hc : X.calm = true) (hm : X.mg "min" = none) (ha : QO X W e wa) (hb : QO X W e2 wb) (hg : Gl X "min" := by rfl) (he : starEach [e, e2] X.env = (false, eval e X.env) :: starEach [e2] X.env := by rfl) (he2 : starEach [e2] X.env = (false, eval e2 X.env) :: starEach [] X.env := by rfl) (hpl : (backTo pos (starEach [e2] X.env)).any (·.1) = false := by rfl) :
    QE X W (.Call (.Name "min" p) [e, e2] [] pos) (wN kMin2 (aCons wa (aCons wb aNil))) := qe_callB (call_min2 hc) (fun G H ds vs P Q s h hk hq => by
      obtain ⟨⟨d1, d2⟩, z, hka⟩ := mo_some hk
      obtain ⟨i, z2, hkb⟩ := mo_some hka
      obtain ⟨j, z3, hkc⟩ := mo_some hkb
      have e : ds = [d1, d2] := two_some z
      subst e
      obtain ⟨v1, r1, rfl, q1, v2, r2, rfl, q2, q3⟩ := h
      rw [show d1 = .int i from intOf_some z2] at q1
      rw [show d2 = .int j from intOf_some z3] at q2
      have q3 : r2 = [] := q3
      subst q3
      exact ⟨i, j, by rw [show v1 = .int i from q1, show v2 = .int j from q2], hq (.int (if j < i then j else i)) _ G H (.refl s) rfl hkc⟩) hg hm (by decide +kernel) (qa_cons ha (qa_cons hb qa_nil he2) he) (he := he) (hpl := hpl)
def wChain (k k' : D → D → (D → Prop) → Prop) (wa wb wc : WO) : WE := fun env Q X => wa env (fun h1 e1 => wb e1 (fun h2 e2 => mo (hv e2 h1) fun d1 => mo (hv e2 h2) fun d2 => k d1 d2 fun z => mo (blOf z) fun t => if t = true then wc e2 (fun h3 e3 => mo (hv e3 h2) fun d2' => mo (hv e3 h3) fun d3 => k' d2' d3 fun d => Q d e3) X else Q (.bl false) e2) X) X
theorem l_chain {r r' : R2} {k k' : D → D → (D → Prop) → Prop} (hk : Sem2 K r k) (hk' : Sem2 K r' k') (σ : St) (H : Hp) (Q : VK) (h : lO K W (imO (wChain k k' wa wb wc)) σ H Q) : tChain r r' (lO K W wa) (lO K W wb) (lO K W wc) σ H Q := by
  obtain ⟨x, G, env, Q', X', r0, hw, hn, hx⟩ := h
  refine ⟨x, G, env, _, X', r0, hw, fun h1 e1 v1 G1 H1 s1 r1 q1 hw1 => ⟨x, G1, e1, _, X', r1, hw1, fun h2 e2 v2 G2 H2 s2 r2 q2 hw2 => ?_, hx.up s1⟩, hx⟩
  obtain ⟨d1, y1, hw2⟩ := mo_some hw2
  obtain ⟨d2, y2, kk⟩ := mo_some hw2
  refine hk G2 H2 d1 d2 v1 v2 _ _ r2.sG ((q1.mono s2).read r2 y1) (q2.read r2 y2) kk fun d' v' G' H' st rp hp => ?_
  obtain ⟨t, y3, hp⟩ := mo_some hp
  rw [blOf_some y3] at rp
  have e : v' = .bl t := rp
  refine ⟨t, e, ?_⟩
  cases t with
  | false =>
    rw [if_neg Bool.false_ne_true] at hp ⊢
    exact hn (.im (.bl false)) e2 _ G' H' ((s1.trans s2).trans st.g) (r2.step st) rfl hp
  | true =>
    rw [if_pos rfl] at hp ⊢
    refine ⟨x, G', e2, _, X', r2.step st, hp, fun h3 e3 v3 G3 H3 s3 r3 q3 hw3 => ?_, hx.up ((s1.trans s2).trans st.g)⟩
    obtain ⟨d2', y4, hw3⟩ := mo_some hw3
    obtain ⟨d3, y5, kk3⟩ := mo_some hw3
    exact hk' G3 H3 d2' d3 v2 v3 _ Q r3.sG (((q2.mono st.g).mono s3).read r3 y4) (q3.read r3 y5) kk3 fun d4 v4 G4 H4 st4 rp4 hp4 => hn (.im d4) e3 v4 G4 H4 ((((s1.trans s2).trans st.g).trans s3).trans st4.g) (r3.step st4) rp4 hp4
theorem qt_chain {op op' : CmpOp} {r r' : R2} {k k' : D → D → (D → Prop) → Prop} (ho : OpR X (compareOp op) r) (ho' : OpR X (compareOp op') r') (hk : Sem2 X.K r k) (hk' : Sem2 X.K r' k') (ha : QO X W a wa) (hb : QO X W b wb) (hc : QO X W c wc)
    (hm : lastMarks [op, op'] [b, c] = false := by with_unfolding_all rfl) : QT X W (.Compare a [op, op'] [b, c] pos) (wB (wChain k k' wa wb wc)) := (pt_chain ho ho' ha hb hc hm).le fun σ H Q h => by
  obtain ⟨x, G, env, Q', X', r0, hw, hn, hx⟩ := h
  refine l_chain hk hk' σ H _ ⟨x, G, env, _, X', r0, imO_mono hw, fun h e1 v G1 H1 s1 r1 q1 hq => ?_, hx⟩
  obtain ⟨d, rfl, hq⟩ := hq
  obtain ⟨t, y, hq⟩ := mo_some hq
  rw [blOf_some y] at q1
  exact ⟨t, q1, hn t e1 G1 H1 s1 r1 hq⟩
end
end TL

namespace PySem
namespace XF_index
open PySem.W PySem.Calls PyProof.Rows PySem.HandSPX
def iA (p1 p2 : Pos) : Arguments := { posonlyargs := [], args := [{ arg := "self", annotation := none, pos := p1 }, { arg := "index", annotation := none, pos := p2 }], vararg := none, kwonlyargs := [], kw_defaults := [], kwarg := none, defaults := [] }
def iB (q1 q2 q3 q4 : Pos) : List Stmt := [.Assign [.Attribute (.Name "self" q1) "index" q2] (.Name "index" q3) q4]
def iS : Scope := { kind := .function, names := [(PySem.Str.ofString "self", .local), (PySem.Str.ofString "index", .local)], isGenerator := false, isCoroutine := false, more := [] }
structure XTxt (K : Frag) (mg : Str → Option Value) (cn : Str) (C fI : Addr) : Prop where
  gC : mg cn = some (.ref C)
  cls : ∃ nm q N bs bm sn sub ab col dd k0 k1 k2 k3 k5, K.lookup C = some (excClassObj nm q C N bs bm true sn sub ab col dd k0 k1 k2 k3 k5 "ValueError.__new__") ∧ refsVE bm = true
  sa : findIn K (.ref C) "__setattr__" = some (some (.builtin "object.__setattr__"))
  ga : findIn K (.ref C) "__getattribute__" = some (some (.builtin "BaseException.__getattribute__"))
  gg : findIn K (.ref C) "__getattr__" = some none
  noN : findIn K (.ref C) "index" = some none
  iC : findIn K (.ref C) "__init__" = some (some (.ref fI))
  tC : typeIn K (.ref fI) = some (.type "function")
  kC : keepIn K (.ref C) = true
  exC : subIn K (.ref C) (.type "BaseException") = some true
  tyC : typeIn K (.ref C) = some (.type "type")
  hdC : hasDictIn K C = true
  fn : ∃ (qn : Str) (oc : Value) (od : Option Addr) (kV doc pm : Value) (an : Option Addr) (cdv ct : Value) (osl : Array (Option Value)) (p1 p2 q1 q2 q3 q4 : Pos),
    K.lookup fI = some ⟨oc, od, .func (fnOf "__init__" qn (iA p1 p2) (iB q1 q2 q3 q4) iS .none kV doc pm an cdv ct), osl⟩ ∧ codeIn K cdv qn = true
structure InitEnd (h h' : Heap) (x C dx t1 : Addr) (v : Value) : Prop where
  keep : ∀ b o, b ≠ x → h.get? b = some o → h'.get? b = some o
  obj : h'.get? x = some { cls := .ref C, dict := some dx, data := .fields #[.ref t1, .none, .none, .none, .bool false, .none] }
  dbig : h.objs.size ≤ dx
  dne : dx ≠ x
  ns : h'.Ns1 dx (fun y => if y = "index" then some v else none)
structure OwnMade (h h' : Heap) (e C d : Addr) (v : Value) : Prop where
  keep : ∀ b o, h.get? b = some o → h'.get? b = some o
  new : h.objs.size ≤ e
  obj : ∃ oe vs, h'.get? e = some oe ∧ oe.cls = .ref C ∧ oe.dict = some d ∧ oe.data = .fields vs ∧ vs[1]? = some .none
  dbig : h.objs.size ≤ d
  dne : d ≠ e
  ns : h'.Ns1 d (fun y => if y = "index" then some v else none)
section
variable {prog : Program} {w : World} {A : Around} {E : Value → Shared → Prop} {R : Result → Shared → Prop} {s : Shared} {K : Frag} {mg : Str → Option Value} {cn : Str} {C fI : Addr}
theorem x_init (T : XTxt K mg cn C fI) {x t0 : Addr} {v : Value} (X : K.In s.heap) (hlim : s.heap.NoLimit) (hx : s.heap.get? x = some (excO C t0)) (hnx : K.lookup x = none) (hroom : A.depth < recursionLimit)
    (hq : ∀ h' tk dx, InitEnd s.heap h' x C dx t0 v → R (.ok (.ret .none)) { s with heap := h', toks := tk }) :
    codeAny (model prog w) A (.call (.ref fI) ⟨[.ref x, v], []⟩) R s := by
  obtain ⟨qn, oc, od, kV, doc, pm, an, cdv, ct, osl, p1, p2, q1, q2, q3, q4, ho, hcd⟩ := T.fn
  obtain ⟨nm, q, N, bs, bm, sn, sub, ab, col, dd, k0, k1, k2, k3, k5, hC, hbm⟩ := T.cls
  have hcl : clsIn K C = some { name := nm, bases := bs, mro := .ref C :: bm, ns := N, qualname := q, hasDict := true, slotNames := sn, subclasses := sub, abstract := ab, collection := col, hasDel := false } := by unfold clsIn; rw [hC] <;> rfl
  refine Att.call_fn (binds := [("self", .ref x), ("index", v)]) X hlim ho hcd hroom (BindsTo.of_eq (by first | rfl | with_unfolding_all rfl)) (by first | rfl | decide | with_unfolding_all rfl) (fun s₁ IC => ?_) rfl rfl rfl
  obtain ⟨h₁, tk₁, rfl⟩ := IC.toInCall.same
  have k : ∀ b o, s.heap.get? b = some o → h₁.get? b = some o := IC.toInCall.keep
  have hn := IC.toInCall.ns
  have X₁ : K.In h₁ := X.keeps k
  have hx₁ := k _ _ hx
  show wpAny _ _ (execs _ _) _ _ _
  refine wpAny_execs_cons (plainObj_wpAny_Assign_Attribute ?_)
  refine TL.ldC (v := v) hn (by first | rfl | with_unfolding_all rfl | kernel_rfl) (TL.ldC (v := .ref x) hn (by first | rfl | with_unfolding_all rfl | kernel_rfl) ?_)
  refine set_plain X₁ (ox := excO C t0) (od := none) ⟨hx₁, rfl, rfl, trivial⟩ T.sa ?_
  refine exc_osa X₁ hx₁ hcl (show refsVE (.ref C :: bm) = true from hbm) rfl T.noN (fun h₃ tk₃ dx k₃ dn dne hx₃ hn₃ => ?_)
  show wpAny _ _ (execs _ _) _ _ _
  have z : s.heap.objs.size < h₁.objs.size := hn.lt
  exact wpAny_execs_nil (hq h₃ tk₃ dx ⟨fun b o hb e => k₃ b o hb (k b o e), hx₃, Nat.le_of_lt (Nat.lt_of_lt_of_le z dn), dne, hn₃⟩)
theorem x_made (T : XTxt K mg cn C fI) {v : Value} (X : K.In s.heap) (hlim : s.heap.NoLimit) (hroom : A.depth + 1 < recursionLimit)
    (hq : ∀ h' tk e d, OwnMade s.heap h' e C d v → R (.ok (.ret (.ref e))) { s with heap := h', toks := tk }) :
    codeAny (model prog w) A (.call (.ref C) ⟨[v], []⟩) R s := by
  obtain ⟨nm, q, N, bs, bm, sn, sub, ab, col, dd, k0, k1, k2, k3, k5, hC, hbm⟩ := T.cls
  obtain ⟨hp, g, dr, tk, os⟩ := s
  have k : ∀ b o, hp.get? b = some o → ((hp.push (kdv_tup [v])).push (excO C hp.objs.size)).get? b = some o := fun b o e => Heap.get?_push_of_some _ (Heap.get?_push_of_some _ e)
  have hget : ((hp.push (kdv_tup [v])).push (excO C hp.objs.size)).get? (hp.objs.size + 1) = some (excO C hp.objs.size) := by heap_get
  have hnx : K.lookup (hp.objs.size + 1) = none := by
    cases e : K.lookup (hp.objs.size + 1) with
    | none => rfl
    | some o =>
      have z : hp.get? (hp.objs.size + 1) = some o := X _ _ e
      exact absurd (Nat.lt_of_succ_lt (Heap.lt_size z)) (Nat.lt_irrefl _)
  refine call_own F.excBase_ValueError (fun X => refsVE_contains X bm hbm) (X _ _ hC) (looks_findIn X T.iC) (fun self => bind_fn X self T.tC) (TL.one_size v) ?_
  refine x_init (s := ⟨(hp.push (kdv_tup [v])).push (excO C hp.objs.size), g, dr, tk, os⟩) T (X.keeps k) (hlim.keeps k) hget hnx ?_ fun h' tk' dx ⟨k', hx, dn, dne, hns⟩ => ?_
  · show A.depth + 1 < recursionLimit
    exact hroom
  · have old : ∀ b o, hp.get? b = some o → h'.get? b = some o := fun b o e => k' b o (Nat.ne_of_lt (Nat.lt_succ_of_lt (Heap.lt_size e))) (k b o e)
    have z : hp.objs.size + 1 + 1 ≤ dx := by
      first
        | (simpa only [Heap.size_push] using dn)
        | exact dn
        | (have q := dn; rw [Heap.size_push, Heap.size_push] at q; exact q)
    exact ⟨rfl, hq h' tk' (hp.objs.size + 1) dx ⟨old, Nat.le_succ _, ⟨_, _, hx, rfl, rfl, rfl, rfl⟩, Nat.le_trans (Nat.le_trans (Nat.le_succ _) (Nat.le_succ _)) z, dne, hns⟩⟩
end
end XF_index
end PySem
namespace TL
open PySem PySem.Spec L2
section
variable {X : Cx} {W : WX} {cn : Str} {C fI : Addr} {e : Expr} {we : WE}
theorem pmk_index {a : Expr} {ta : TE} {p pos : Pos} {k : Nat} (T : PySem.XF_index.XTxt X.K X.mg cn C fI) (hr : Room k X.A) (ha : PE X a ta) (hg : Gl X cn := by rfl) (hdb : (cn == ("__debug__" : Str)) = false := by decide)
    (he : starEach (a :: []) X.env = (false, eval a X.env) :: starEach [] X.env := by rfl) (hpl : (backTo pos (starEach [] X.env)).any (·.1) = false := by rfl) :
    PMk X (.Call (.Name cn p) [a] [] pos) (fun σ H Q => tCons ta tNil σ H fun vs H1 => ∃ v, vs = [v] ∧ ∀ d, H1 d = none → Q (.ref C) (some d) (upd H1 d (.xd [(("index" : Str), v)]))) := by
  intro pins s σ H Q I h
  refine wpAny_Call_Name_kw (ld_glob I hg T.gC ?_ hdb)
  refine PySem.W.callWith_K (h₀ := X.base) I.ok.mod.kin T.kC (thn ((pa_cons ha pa_nil he).run pos pins s σ H _ I h) fun us s1 hh => ?_) he hpl
  obtain ⟨vs, H1, I1, r1, v, ev, q1⟩ := hh
  subst ev
  refine ⟨I1.kIn, ?_⟩
  cases r1 with
  | cons rv rn =>
    rename_i v' us'
    cases rn
    show wpAny _ _ (call (.ref C) [v']) _ _ _
    have hlim := I1.nolimit
    obtain ⟨hp, g, dr, tk, os⟩ := s1
    refine wpAny_call (PySem.XF_index.x_made T I1.kIn hlim (by have := hr.dp; omega) fun h' tk' e d M => ?_)
    show MkP X pins σ Q (.ref e) ⟨h', g, dr, tk', os⟩
    obtain ⟨oe, fv, hoe, hc, hd, hdat, h1⟩ := M.obj
    have hns := M.ns
    obtain ⟨G', g1, g2⟩ := restrict h' fun b => decide (b ≠ e)
    have gk : ∀ b, b ≠ e → G'.get? b = h'.get? b := fun b hb => g1 b (decide_eq_true hb)
    have ge : G'.get? e = none := g2 e (by simp)
    have old : ∀ b o, hp.get? b = some o → G'.get? b = some o := fun b o q => (gk b (Nat.ne_of_lt (Nat.lt_of_lt_of_le (Heap.lt_size q) M.new))).trans (M.keep b o q)
    have ob : ObjOk X.prog X.w (upd H1 d (.xd [(("index" : Str), v)])) G' d (.xd [(("index" : Str), v)]) :=
      ⟨_, hns.at (fun o q => (gk d M.dne).trans q), fun f => relO_one "index" rv f⟩
    have J : Inv X pins σ (upd H1 d (.xd [(("index" : Str), v)])) ⟨G', g, dr, tk', os⟩ := I1.laid (t' := tk') old M.dbig ob
    refine ⟨e, oe, fv, ⟨G', g, dr, tk', os⟩, _, .ref C, some d, rfl, J, fun b o q => ?_, ge, hoe, ⟨hc, hd⟩, hdat, h1, ?_, rfl, I1.bare, raises_own T.exC T.tyC, q1 d (I1.hok.fresh M.dbig)⟩
    · by_cases hb : b = e
      · have q' : G'.get? b = some o := q
        rw [hb, ge] at q'; cases q'
      · exact (gk b hb).symm.trans q
    · rw [upd_ne (Ne.symm M.dne)]
      exact I1.hok.fresh M.new
theorem qs_raise_index {p pos pos2 : Pos} {k : Nat} (hc : X.calm = true) (T : PySem.XF_index.XTxt X.K X.mg cn (He.ga X.K cn) fI) (hr : Room k X.A) (tk : Takes X W) (ha : QE X W e we) (hg : Gl X cn := by rfl) (hdb : (cn == ("__debug__" : Str)) = false := by decide)
    (he : starEach (e :: []) X.env = (false, eval e X.env) :: starEach [] X.env := by rfl) (hpl : (backTo pos (starEach [] X.env)).any (·.1) = false := by rfl) :
    QS X W (.Raise (some (.Call (.Name cn p) [e] [] pos)) none pos2) (sRaise cn "index" we) := (ps_raise hc tk (pmk_index T hr ha hg hdb he hpl)).le (l_raise)
theorem xf_mk_index {mg : Str → Option Value} {qual : Str} {Ar : Arguments} {B : List Stmt} {S : Scope} {fd : FuncData} (gC : mg cn = some (.ref (He.ga K cn))) (h : xcB K cn "index" = true) (F : FunD K "__init__" qual Ar B S [] [] (He.ma K (He.ga K cn) "__init__") fd)
    (hA : ∃ p1 p2, Ar = PySem.XF_index.iA p1 p2) (hB : ∃ q1 q2 q3 q4, B = PySem.XF_index.iB q1 q2 q3 q4) (hS : S = PySem.XF_index.iS) : PySem.XF_index.XTxt K mg cn (He.ga K cn) (He.ma K (He.ga K cn) "__init__") := by
  unfold xcB at h
  obtain ⟨h1, h⟩ := He.ba h
  obtain ⟨h2, h⟩ := He.ba h
  obtain ⟨h3, h⟩ := He.ba h
  obtain ⟨h4, h⟩ := He.ba h
  obtain ⟨h5, h⟩ := He.ba h
  obtain ⟨h6, h⟩ := He.ba h
  obtain ⟨h7, h⟩ := He.ba h
  obtain ⟨h8, h⟩ := He.ba h
  obtain ⟨h9, h⟩ := He.ba h
  obtain ⟨h10, h11⟩ := He.ba h
  obtain ⟨p1, p2, rfl⟩ := hA
  obtain ⟨q1, q2, q3, q4, rfl⟩ := hB
  subst hS
  obtain ⟨oc, od, dV, kV, doc, pm, an, cdv, ct, osl, e1, e2, e3, e4, _⟩ := F.ex
  have e4 : dV = .none := by
    rcases e4 with e4 | e4
    · exact e4.2
    · exact absurd rfl e4.1
  subst e1 e4
  exact ⟨gC, exclB_ok h1, of_decide_eq_true h2, of_decide_eq_true h3, of_decide_eq_true h4, of_decide_eq_true h5, of_decide_eq_true h6, of_decide_eq_true h7, h8, of_decide_eq_true h9, of_decide_eq_true h10, h11, ⟨qual, oc, od, kV, doc, pm, an, cdv, ct, osl, p1, p2, q1, q2, q3, q4, e2, e3⟩⟩
end
end TL

namespace PySem
namespace XF_place
open PySem.W PySem.Calls PyProof.Rows PySem.HandSPX
def iA (p1 p2 : Pos) : Arguments := { posonlyargs := [], args := [{ arg := "self", annotation := none, pos := p1 }, { arg := "place", annotation := none, pos := p2 }], vararg := none, kwonlyargs := [], kw_defaults := [], kwarg := none, defaults := [] }
def iB (q1 q2 q3 q4 : Pos) : List Stmt := [.Assign [.Attribute (.Name "self" q1) "place" q2] (.Name "place" q3) q4]
def iS : Scope := { kind := .function, names := [(PySem.Str.ofString "self", .local), (PySem.Str.ofString "place", .local)], isGenerator := false, isCoroutine := false, more := [] }
structure XTxt (K : Frag) (mg : Str → Option Value) (cn : Str) (C fI : Addr) : Prop where
  gC : mg cn = some (.ref C)
  cls : ∃ nm q N bs bm sn sub ab col dd k0 k1 k2 k3 k5, K.lookup C = some (excClassObj nm q C N bs bm true sn sub ab col dd k0 k1 k2 k3 k5 "ValueError.__new__") ∧ refsVE bm = true
  sa : findIn K (.ref C) "__setattr__" = some (some (.builtin "object.__setattr__"))
  ga : findIn K (.ref C) "__getattribute__" = some (some (.builtin "BaseException.__getattribute__"))
  gg : findIn K (.ref C) "__getattr__" = some none
  noN : findIn K (.ref C) "place" = some none
  iC : findIn K (.ref C) "__init__" = some (some (.ref fI))
  tC : typeIn K (.ref fI) = some (.type "function")
  kC : keepIn K (.ref C) = true
  exC : subIn K (.ref C) (.type "BaseException") = some true
  tyC : typeIn K (.ref C) = some (.type "type")
  hdC : hasDictIn K C = true
  fn : ∃ (qn : Str) (oc : Value) (od : Option Addr) (kV doc pm : Value) (an : Option Addr) (cdv ct : Value) (osl : Array (Option Value)) (p1 p2 q1 q2 q3 q4 : Pos),
    K.lookup fI = some ⟨oc, od, .func (fnOf "__init__" qn (iA p1 p2) (iB q1 q2 q3 q4) iS .none kV doc pm an cdv ct), osl⟩ ∧ codeIn K cdv qn = true
structure InitEnd (h h' : Heap) (x C dx t1 : Addr) (v : Value) : Prop where
  keep : ∀ b o, b ≠ x → h.get? b = some o → h'.get? b = some o
  obj : h'.get? x = some { cls := .ref C, dict := some dx, data := .fields #[.ref t1, .none, .none, .none, .bool false, .none] }
  dbig : h.objs.size ≤ dx
  dne : dx ≠ x
  ns : h'.Ns1 dx (fun y => if y = "place" then some v else none)
structure OwnMade (h h' : Heap) (e C d : Addr) (v : Value) : Prop where
  keep : ∀ b o, h.get? b = some o → h'.get? b = some o
  new : h.objs.size ≤ e
  obj : ∃ oe vs, h'.get? e = some oe ∧ oe.cls = .ref C ∧ oe.dict = some d ∧ oe.data = .fields vs ∧ vs[1]? = some .none
  dbig : h.objs.size ≤ d
  dne : d ≠ e
  ns : h'.Ns1 d (fun y => if y = "place" then some v else none)
section
variable {prog : Program} {w : World} {A : Around} {E : Value → Shared → Prop} {R : Result → Shared → Prop} {s : Shared} {K : Frag} {mg : Str → Option Value} {cn : Str} {C fI : Addr}
theorem x_init (T : XTxt K mg cn C fI) {x t0 : Addr} {v : Value} (X : K.In s.heap) (hlim : s.heap.NoLimit) (hx : s.heap.get? x = some (excO C t0)) (hnx : K.lookup x = none) (hroom : A.depth < recursionLimit)
    (hq : ∀ h' tk dx, InitEnd s.heap h' x C dx t0 v → R (.ok (.ret .none)) { s with heap := h', toks := tk }) :
    codeAny (model prog w) A (.call (.ref fI) ⟨[.ref x, v], []⟩) R s := by
  obtain ⟨qn, oc, od, kV, doc, pm, an, cdv, ct, osl, p1, p2, q1, q2, q3, q4, ho, hcd⟩ := T.fn
  obtain ⟨nm, q, N, bs, bm, sn, sub, ab, col, dd, k0, k1, k2, k3, k5, hC, hbm⟩ := T.cls
  have hcl : clsIn K C = some { name := nm, bases := bs, mro := .ref C :: bm, ns := N, qualname := q, hasDict := true, slotNames := sn, subclasses := sub, abstract := ab, collection := col, hasDel := false } := by unfold clsIn; rw [hC] <;> rfl
  refine Att.call_fn (binds := [("self", .ref x), ("place", v)]) X hlim ho hcd hroom (BindsTo.of_eq (by first | rfl | with_unfolding_all rfl)) (by first | rfl | decide | with_unfolding_all rfl) (fun s₁ IC => ?_) rfl rfl rfl
  obtain ⟨h₁, tk₁, rfl⟩ := IC.toInCall.same
  have k : ∀ b o, s.heap.get? b = some o → h₁.get? b = some o := IC.toInCall.keep
  have hn := IC.toInCall.ns
  have X₁ : K.In h₁ := X.keeps k
  have hx₁ := k _ _ hx
  show wpAny _ _ (execs _ _) _ _ _
  refine wpAny_execs_cons (plainObj_wpAny_Assign_Attribute ?_)
  refine TL.ldC (v := v) hn (by first | rfl | with_unfolding_all rfl | kernel_rfl) (TL.ldC (v := .ref x) hn (by first | rfl | with_unfolding_all rfl | kernel_rfl) ?_)
  refine set_plain X₁ (ox := excO C t0) (od := none) ⟨hx₁, rfl, rfl, trivial⟩ T.sa ?_
  refine exc_osa X₁ hx₁ hcl (show refsVE (.ref C :: bm) = true from hbm) rfl T.noN (fun h₃ tk₃ dx k₃ dn dne hx₃ hn₃ => ?_)
  show wpAny _ _ (execs _ _) _ _ _
  have z : s.heap.objs.size < h₁.objs.size := hn.lt
  exact wpAny_execs_nil (hq h₃ tk₃ dx ⟨fun b o hb e => k₃ b o hb (k b o e), hx₃, Nat.le_of_lt (Nat.lt_of_lt_of_le z dn), dne, hn₃⟩)
theorem x_made (T : XTxt K mg cn C fI) {v : Value} (X : K.In s.heap) (hlim : s.heap.NoLimit) (hroom : A.depth + 1 < recursionLimit)
    (hq : ∀ h' tk e d, OwnMade s.heap h' e C d v → R (.ok (.ret (.ref e))) { s with heap := h', toks := tk }) :
    codeAny (model prog w) A (.call (.ref C) ⟨[v], []⟩) R s := by
  obtain ⟨nm, q, N, bs, bm, sn, sub, ab, col, dd, k0, k1, k2, k3, k5, hC, hbm⟩ := T.cls
  obtain ⟨hp, g, dr, tk, os⟩ := s
  have k : ∀ b o, hp.get? b = some o → ((hp.push (kdv_tup [v])).push (excO C hp.objs.size)).get? b = some o := fun b o e => Heap.get?_push_of_some _ (Heap.get?_push_of_some _ e)
  have hget : ((hp.push (kdv_tup [v])).push (excO C hp.objs.size)).get? (hp.objs.size + 1) = some (excO C hp.objs.size) := by heap_get
  have hnx : K.lookup (hp.objs.size + 1) = none := by
    cases e : K.lookup (hp.objs.size + 1) with
    | none => rfl
    | some o =>
      have z : hp.get? (hp.objs.size + 1) = some o := X _ _ e
      exact absurd (Nat.lt_of_succ_lt (Heap.lt_size z)) (Nat.lt_irrefl _)
  refine call_own F.excBase_ValueError (fun X => refsVE_contains X bm hbm) (X _ _ hC) (looks_findIn X T.iC) (fun self => bind_fn X self T.tC) (TL.one_size v) ?_
  refine x_init (s := ⟨(hp.push (kdv_tup [v])).push (excO C hp.objs.size), g, dr, tk, os⟩) T (X.keeps k) (hlim.keeps k) hget hnx ?_ fun h' tk' dx ⟨k', hx, dn, dne, hns⟩ => ?_
  · show A.depth + 1 < recursionLimit
    exact hroom
  · have old : ∀ b o, hp.get? b = some o → h'.get? b = some o := fun b o e => k' b o (Nat.ne_of_lt (Nat.lt_succ_of_lt (Heap.lt_size e))) (k b o e)
    have z : hp.objs.size + 1 + 1 ≤ dx := by
      first
        | (simpa only [Heap.size_push] using dn)
        | exact dn
        | (have q := dn; rw [Heap.size_push, Heap.size_push] at q; exact q)
    exact ⟨rfl, hq h' tk' (hp.objs.size + 1) dx ⟨old, Nat.le_succ _, ⟨_, _, hx, rfl, rfl, rfl, rfl⟩, Nat.le_trans (Nat.le_trans (Nat.le_succ _) (Nat.le_succ _)) z, dne, hns⟩⟩
end
end XF_place
end PySem
namespace TL
open PySem PySem.Spec L2
section
variable {X : Cx} {W : WX} {cn : Str} {C fI : Addr} {e : Expr} {we : WE}
theorem pmk_place {a : Expr} {ta : TE} {p pos : Pos} {k : Nat} (T : PySem.XF_place.XTxt X.K X.mg cn C fI) (hr : Room k X.A) (ha : PE X a ta) (hg : Gl X cn := by rfl) (hdb : (cn == ("__debug__" : Str)) = false := by decide)
    (he : starEach (a :: []) X.env = (false, eval a X.env) :: starEach [] X.env := by rfl) (hpl : (backTo pos (starEach [] X.env)).any (·.1) = false := by rfl) :
    PMk X (.Call (.Name cn p) [a] [] pos) (fun σ H Q => tCons ta tNil σ H fun vs H1 => ∃ v, vs = [v] ∧ ∀ d, H1 d = none → Q (.ref C) (some d) (upd H1 d (.xd [(("place" : Str), v)]))) := by
  intro pins s σ H Q I h
  refine wpAny_Call_Name_kw (ld_glob I hg T.gC ?_ hdb)
  refine PySem.W.callWith_K (h₀ := X.base) I.ok.mod.kin T.kC (thn ((pa_cons ha pa_nil he).run pos pins s σ H _ I h) fun us s1 hh => ?_) he hpl
  obtain ⟨vs, H1, I1, r1, v, ev, q1⟩ := hh
  subst ev
  refine ⟨I1.kIn, ?_⟩
  cases r1 with
  | cons rv rn =>
    rename_i v' us'
    cases rn
    show wpAny _ _ (call (.ref C) [v']) _ _ _
    have hlim := I1.nolimit
    obtain ⟨hp, g, dr, tk, os⟩ := s1
    refine wpAny_call (PySem.XF_place.x_made T I1.kIn hlim (by have := hr.dp; omega) fun h' tk' e d M => ?_)
    show MkP X pins σ Q (.ref e) ⟨h', g, dr, tk', os⟩
    obtain ⟨oe, fv, hoe, hc, hd, hdat, h1⟩ := M.obj
    have hns := M.ns
    obtain ⟨G', g1, g2⟩ := restrict h' fun b => decide (b ≠ e)
    have gk : ∀ b, b ≠ e → G'.get? b = h'.get? b := fun b hb => g1 b (decide_eq_true hb)
    have ge : G'.get? e = none := g2 e (by simp)
    have old : ∀ b o, hp.get? b = some o → G'.get? b = some o := fun b o q => (gk b (Nat.ne_of_lt (Nat.lt_of_lt_of_le (Heap.lt_size q) M.new))).trans (M.keep b o q)
    have ob : ObjOk X.prog X.w (upd H1 d (.xd [(("place" : Str), v)])) G' d (.xd [(("place" : Str), v)]) :=
      ⟨_, hns.at (fun o q => (gk d M.dne).trans q), fun f => relO_one "place" rv f⟩
    have J : Inv X pins σ (upd H1 d (.xd [(("place" : Str), v)])) ⟨G', g, dr, tk', os⟩ := I1.laid (t' := tk') old M.dbig ob
    refine ⟨e, oe, fv, ⟨G', g, dr, tk', os⟩, _, .ref C, some d, rfl, J, fun b o q => ?_, ge, hoe, ⟨hc, hd⟩, hdat, h1, ?_, rfl, I1.bare, raises_own T.exC T.tyC, q1 d (I1.hok.fresh M.dbig)⟩
    · by_cases hb : b = e
      · have q' : G'.get? b = some o := q
        rw [hb, ge] at q'; cases q'
      · exact (gk b hb).symm.trans q
    · rw [upd_ne (Ne.symm M.dne)]
      exact I1.hok.fresh M.new
theorem qs_raise_place {p pos pos2 : Pos} {k : Nat} (hc : X.calm = true) (T : PySem.XF_place.XTxt X.K X.mg cn (He.ga X.K cn) fI) (hr : Room k X.A) (tk : Takes X W) (ha : QE X W e we) (hg : Gl X cn := by rfl) (hdb : (cn == ("__debug__" : Str)) = false := by decide)
    (he : starEach (e :: []) X.env = (false, eval e X.env) :: starEach [] X.env := by rfl) (hpl : (backTo pos (starEach [] X.env)).any (·.1) = false := by rfl) :
    QS X W (.Raise (some (.Call (.Name cn p) [e] [] pos)) none pos2) (sRaise cn "place" we) := (ps_raise hc tk (pmk_place T hr ha hg hdb he hpl)).le (l_raise)
theorem xf_mk_place {mg : Str → Option Value} {qual : Str} {Ar : Arguments} {B : List Stmt} {S : Scope} {fd : FuncData} (gC : mg cn = some (.ref (He.ga K cn))) (h : xcB K cn "place" = true) (F : FunD K "__init__" qual Ar B S [] [] (He.ma K (He.ga K cn) "__init__") fd)
    (hA : ∃ p1 p2, Ar = PySem.XF_place.iA p1 p2) (hB : ∃ q1 q2 q3 q4, B = PySem.XF_place.iB q1 q2 q3 q4) (hS : S = PySem.XF_place.iS) : PySem.XF_place.XTxt K mg cn (He.ga K cn) (He.ma K (He.ga K cn) "__init__") := by
  unfold xcB at h
  obtain ⟨h1, h⟩ := He.ba h
  obtain ⟨h2, h⟩ := He.ba h
  obtain ⟨h3, h⟩ := He.ba h
  obtain ⟨h4, h⟩ := He.ba h
  obtain ⟨h5, h⟩ := He.ba h
  obtain ⟨h6, h⟩ := He.ba h
  obtain ⟨h7, h⟩ := He.ba h
  obtain ⟨h8, h⟩ := He.ba h
  obtain ⟨h9, h⟩ := He.ba h
  obtain ⟨h10, h11⟩ := He.ba h
  obtain ⟨p1, p2, rfl⟩ := hA
  obtain ⟨q1, q2, q3, q4, rfl⟩ := hB
  subst hS
  obtain ⟨oc, od, dV, kV, doc, pm, an, cdv, ct, osl, e1, e2, e3, e4, _⟩ := F.ex
  have e4 : dV = .none := by
    rcases e4 with e4 | e4
    · exact e4.2
    · exact absurd rfl e4.1
  subst e1 e4
  exact ⟨gC, exclB_ok h1, of_decide_eq_true h2, of_decide_eq_true h3, of_decide_eq_true h4, of_decide_eq_true h5, of_decide_eq_true h6, of_decide_eq_true h7, h8, of_decide_eq_true h9, of_decide_eq_true h10, h11, ⟨qual, oc, od, kV, doc, pm, an, cdv, ct, osl, p1, p2, q1, q2, q3, q4, e2, e3⟩⟩
end
end TL

namespace PySem
namespace XF_what
open PySem.W PySem.Calls PyProof.Rows PySem.HandSPX
def iA (p1 p2 : Pos) : Arguments := { posonlyargs := [], args := [{ arg := "self", annotation := none, pos := p1 }, { arg := "what", annotation := none, pos := p2 }], vararg := none, kwonlyargs := [], kw_defaults := [], kwarg := none, defaults := [] }
def iB (q1 q2 q3 q4 : Pos) : List Stmt := [.Assign [.Attribute (.Name "self" q1) "what" q2] (.Name "what" q3) q4]
def iS : Scope := { kind := .function, names := [(PySem.Str.ofString "self", .local), (PySem.Str.ofString "what", .local)], isGenerator := false, isCoroutine := false, more := [] }
structure XTxt (K : Frag) (mg : Str → Option Value) (cn : Str) (C fI : Addr) : Prop where
  gC : mg cn = some (.ref C)
  cls : ∃ nm q N bs bm sn sub ab col dd k0 k1 k2 k3 k5, K.lookup C = some (excClassObj nm q C N bs bm true sn sub ab col dd k0 k1 k2 k3 k5 "ValueError.__new__") ∧ refsVE bm = true
  sa : findIn K (.ref C) "__setattr__" = some (some (.builtin "object.__setattr__"))
  ga : findIn K (.ref C) "__getattribute__" = some (some (.builtin "BaseException.__getattribute__"))
  gg : findIn K (.ref C) "__getattr__" = some none
  noN : findIn K (.ref C) "what" = some none
  iC : findIn K (.ref C) "__init__" = some (some (.ref fI))
  tC : typeIn K (.ref fI) = some (.type "function")
  kC : keepIn K (.ref C) = true
  exC : subIn K (.ref C) (.type "BaseException") = some true
  tyC : typeIn K (.ref C) = some (.type "type")
  hdC : hasDictIn K C = true
  fn : ∃ (qn : Str) (oc : Value) (od : Option Addr) (kV doc pm : Value) (an : Option Addr) (cdv ct : Value) (osl : Array (Option Value)) (p1 p2 q1 q2 q3 q4 : Pos),
    K.lookup fI = some ⟨oc, od, .func (fnOf "__init__" qn (iA p1 p2) (iB q1 q2 q3 q4) iS .none kV doc pm an cdv ct), osl⟩ ∧ codeIn K cdv qn = true
structure InitEnd (h h' : Heap) (x C dx t1 : Addr) (v : Value) : Prop where
  keep : ∀ b o, b ≠ x → h.get? b = some o → h'.get? b = some o
  obj : h'.get? x = some { cls := .ref C, dict := some dx, data := .fields #[.ref t1, .none, .none, .none, .bool false, .none] }
  dbig : h.objs.size ≤ dx
  dne : dx ≠ x
  ns : h'.Ns1 dx (fun y => if y = "what" then some v else none)
structure OwnMade (h h' : Heap) (e C d : Addr) (v : Value) : Prop where
  keep : ∀ b o, h.get? b = some o → h'.get? b = some o
  new : h.objs.size ≤ e
  obj : ∃ oe vs, h'.get? e = some oe ∧ oe.cls = .ref C ∧ oe.dict = some d ∧ oe.data = .fields vs ∧ vs[1]? = some .none
  dbig : h.objs.size ≤ d
  dne : d ≠ e
  ns : h'.Ns1 d (fun y => if y = "what" then some v else none)
section
variable {prog : Program} {w : World} {A : Around} {E : Value → Shared → Prop} {R : Result → Shared → Prop} {s : Shared} {K : Frag} {mg : Str → Option Value} {cn : Str} {C fI : Addr}
theorem x_init (T : XTxt K mg cn C fI) {x t0 : Addr} {v : Value} (X : K.In s.heap) (hlim : s.heap.NoLimit) (hx : s.heap.get? x = some (excO C t0)) (hnx : K.lookup x = none) (hroom : A.depth < recursionLimit)
    (hq : ∀ h' tk dx, InitEnd s.heap h' x C dx t0 v → R (.ok (.ret .none)) { s with heap := h', toks := tk }) :
    codeAny (model prog w) A (.call (.ref fI) ⟨[.ref x, v], []⟩) R s := by
  obtain ⟨qn, oc, od, kV, doc, pm, an, cdv, ct, osl, p1, p2, q1, q2, q3, q4, ho, hcd⟩ := T.fn
  obtain ⟨nm, q, N, bs, bm, sn, sub, ab, col, dd, k0, k1, k2, k3, k5, hC, hbm⟩ := T.cls
  have hcl : clsIn K C = some { name := nm, bases := bs, mro := .ref C :: bm, ns := N, qualname := q, hasDict := true, slotNames := sn, subclasses := sub, abstract := ab, collection := col, hasDel := false } := by unfold clsIn; rw [hC] <;> rfl
  refine Att.call_fn (binds := [("self", .ref x), ("what", v)]) X hlim ho hcd hroom (BindsTo.of_eq (by first | rfl | with_unfolding_all rfl)) (by first | rfl | decide | with_unfolding_all rfl) (fun s₁ IC => ?_) rfl rfl rfl
  obtain ⟨h₁, tk₁, rfl⟩ := IC.toInCall.same
  have k : ∀ b o, s.heap.get? b = some o → h₁.get? b = some o := IC.toInCall.keep
  have hn := IC.toInCall.ns
  have X₁ : K.In h₁ := X.keeps k
  have hx₁ := k _ _ hx
  show wpAny _ _ (execs _ _) _ _ _
  refine wpAny_execs_cons (plainObj_wpAny_Assign_Attribute ?_)
  refine TL.ldC (v := v) hn (by first | rfl | with_unfolding_all rfl | kernel_rfl) (TL.ldC (v := .ref x) hn (by first | rfl | with_unfolding_all rfl | kernel_rfl) ?_)
  refine set_plain X₁ (ox := excO C t0) (od := none) ⟨hx₁, rfl, rfl, trivial⟩ T.sa ?_
  refine exc_osa X₁ hx₁ hcl (show refsVE (.ref C :: bm) = true from hbm) rfl T.noN (fun h₃ tk₃ dx k₃ dn dne hx₃ hn₃ => ?_)
  show wpAny _ _ (execs _ _) _ _ _
  have z : s.heap.objs.size < h₁.objs.size := hn.lt
  exact wpAny_execs_nil (hq h₃ tk₃ dx ⟨fun b o hb e => k₃ b o hb (k b o e), hx₃, Nat.le_of_lt (Nat.lt_of_lt_of_le z dn), dne, hn₃⟩)
theorem x_made (T : XTxt K mg cn C fI) {v : Value} (X : K.In s.heap) (hlim : s.heap.NoLimit) (hroom : A.depth + 1 < recursionLimit)
    (hq : ∀ h' tk e d, OwnMade s.heap h' e C d v → R (.ok (.ret (.ref e))) { s with heap := h', toks := tk }) :
    codeAny (model prog w) A (.call (.ref C) ⟨[v], []⟩) R s := by
  obtain ⟨nm, q, N, bs, bm, sn, sub, ab, col, dd, k0, k1, k2, k3, k5, hC, hbm⟩ := T.cls
  obtain ⟨hp, g, dr, tk, os⟩ := s
  have k : ∀ b o, hp.get? b = some o → ((hp.push (kdv_tup [v])).push (excO C hp.objs.size)).get? b = some o := fun b o e => Heap.get?_push_of_some _ (Heap.get?_push_of_some _ e)
  have hget : ((hp.push (kdv_tup [v])).push (excO C hp.objs.size)).get? (hp.objs.size + 1) = some (excO C hp.objs.size) := by heap_get
  have hnx : K.lookup (hp.objs.size + 1) = none := by
    cases e : K.lookup (hp.objs.size + 1) with
    | none => rfl
    | some o =>
      have z : hp.get? (hp.objs.size + 1) = some o := X _ _ e
      exact absurd (Nat.lt_of_succ_lt (Heap.lt_size z)) (Nat.lt_irrefl _)
  refine call_own F.excBase_ValueError (fun X => refsVE_contains X bm hbm) (X _ _ hC) (looks_findIn X T.iC) (fun self => bind_fn X self T.tC) (TL.one_size v) ?_
  refine x_init (s := ⟨(hp.push (kdv_tup [v])).push (excO C hp.objs.size), g, dr, tk, os⟩) T (X.keeps k) (hlim.keeps k) hget hnx ?_ fun h' tk' dx ⟨k', hx, dn, dne, hns⟩ => ?_
  · show A.depth + 1 < recursionLimit
    exact hroom
  · have old : ∀ b o, hp.get? b = some o → h'.get? b = some o := fun b o e => k' b o (Nat.ne_of_lt (Nat.lt_succ_of_lt (Heap.lt_size e))) (k b o e)
    have z : hp.objs.size + 1 + 1 ≤ dx := by
      first
        | (simpa only [Heap.size_push] using dn)
        | exact dn
        | (have q := dn; rw [Heap.size_push, Heap.size_push] at q; exact q)
    exact ⟨rfl, hq h' tk' (hp.objs.size + 1) dx ⟨old, Nat.le_succ _, ⟨_, _, hx, rfl, rfl, rfl, rfl⟩, Nat.le_trans (Nat.le_trans (Nat.le_succ _) (Nat.le_succ _)) z, dne, hns⟩⟩
end
end XF_what
end PySem
namespace TL
open PySem PySem.Spec L2
section
variable {X : Cx} {W : WX} {cn : Str} {C fI : Addr} {e : Expr} {we : WE}
theorem pmk_what {a : Expr} {ta : TE} {p pos : Pos} {k : Nat} (T : PySem.XF_what.XTxt X.K X.mg cn C fI) (hr : Room k X.A) (ha : PE X a ta) (hg : Gl X cn := by rfl) (hdb : (cn == ("__debug__" : Str)) = false := by decide)
    (he : starEach (a :: []) X.env = (false, eval a X.env) :: starEach [] X.env := by rfl) (hpl : (backTo pos (starEach [] X.env)).any (·.1) = false := by rfl) :
    PMk X (.Call (.Name cn p) [a] [] pos) (fun σ H Q => tCons ta tNil σ H fun vs H1 => ∃ v, vs = [v] ∧ ∀ d, H1 d = none → Q (.ref C) (some d) (upd H1 d (.xd [(("what" : Str), v)]))) := by
  intro pins s σ H Q I h
  refine wpAny_Call_Name_kw (ld_glob I hg T.gC ?_ hdb)
  refine PySem.W.callWith_K (h₀ := X.base) I.ok.mod.kin T.kC (thn ((pa_cons ha pa_nil he).run pos pins s σ H _ I h) fun us s1 hh => ?_) he hpl
  obtain ⟨vs, H1, I1, r1, v, ev, q1⟩ := hh
  subst ev
  refine ⟨I1.kIn, ?_⟩
  cases r1 with
  | cons rv rn =>
    rename_i v' us'
    cases rn
    show wpAny _ _ (call (.ref C) [v']) _ _ _
    have hlim := I1.nolimit
    obtain ⟨hp, g, dr, tk, os⟩ := s1
    refine wpAny_call (PySem.XF_what.x_made T I1.kIn hlim (by have := hr.dp; omega) fun h' tk' e d M => ?_)
    show MkP X pins σ Q (.ref e) ⟨h', g, dr, tk', os⟩
    obtain ⟨oe, fv, hoe, hc, hd, hdat, h1⟩ := M.obj
    have hns := M.ns
    obtain ⟨G', g1, g2⟩ := restrict h' fun b => decide (b ≠ e)
    have gk : ∀ b, b ≠ e → G'.get? b = h'.get? b := fun b hb => g1 b (decide_eq_true hb)
    have ge : G'.get? e = none := g2 e (by simp)
    have old : ∀ b o, hp.get? b = some o → G'.get? b = some o := fun b o q => (gk b (Nat.ne_of_lt (Nat.lt_of_lt_of_le (Heap.lt_size q) M.new))).trans (M.keep b o q)
    have ob : ObjOk X.prog X.w (upd H1 d (.xd [(("what" : Str), v)])) G' d (.xd [(("what" : Str), v)]) :=
      ⟨_, hns.at (fun o q => (gk d M.dne).trans q), fun f => relO_one "what" rv f⟩
    have J : Inv X pins σ (upd H1 d (.xd [(("what" : Str), v)])) ⟨G', g, dr, tk', os⟩ := I1.laid (t' := tk') old M.dbig ob
    refine ⟨e, oe, fv, ⟨G', g, dr, tk', os⟩, _, .ref C, some d, rfl, J, fun b o q => ?_, ge, hoe, ⟨hc, hd⟩, hdat, h1, ?_, rfl, I1.bare, raises_own T.exC T.tyC, q1 d (I1.hok.fresh M.dbig)⟩
    · by_cases hb : b = e
      · have q' : G'.get? b = some o := q
        rw [hb, ge] at q'; cases q'
      · exact (gk b hb).symm.trans q
    · rw [upd_ne (Ne.symm M.dne)]
      exact I1.hok.fresh M.new
theorem qs_raise_what {p pos pos2 : Pos} {k : Nat} (hc : X.calm = true) (T : PySem.XF_what.XTxt X.K X.mg cn (He.ga X.K cn) fI) (hr : Room k X.A) (tk : Takes X W) (ha : QE X W e we) (hg : Gl X cn := by rfl) (hdb : (cn == ("__debug__" : Str)) = false := by decide)
    (he : starEach (e :: []) X.env = (false, eval e X.env) :: starEach [] X.env := by rfl) (hpl : (backTo pos (starEach [] X.env)).any (·.1) = false := by rfl) :
    QS X W (.Raise (some (.Call (.Name cn p) [e] [] pos)) none pos2) (sRaise cn "what" we) := (ps_raise hc tk (pmk_what T hr ha hg hdb he hpl)).le (l_raise)
theorem xf_mk_what {mg : Str → Option Value} {qual : Str} {Ar : Arguments} {B : List Stmt} {S : Scope} {fd : FuncData} (gC : mg cn = some (.ref (He.ga K cn))) (h : xcB K cn "what" = true) (F : FunD K "__init__" qual Ar B S [] [] (He.ma K (He.ga K cn) "__init__") fd)
    (hA : ∃ p1 p2, Ar = PySem.XF_what.iA p1 p2) (hB : ∃ q1 q2 q3 q4, B = PySem.XF_what.iB q1 q2 q3 q4) (hS : S = PySem.XF_what.iS) : PySem.XF_what.XTxt K mg cn (He.ga K cn) (He.ma K (He.ga K cn) "__init__") := by
  unfold xcB at h
  obtain ⟨h1, h⟩ := He.ba h
  obtain ⟨h2, h⟩ := He.ba h
  obtain ⟨h3, h⟩ := He.ba h
  obtain ⟨h4, h⟩ := He.ba h
  obtain ⟨h5, h⟩ := He.ba h
  obtain ⟨h6, h⟩ := He.ba h
  obtain ⟨h7, h⟩ := He.ba h
  obtain ⟨h8, h⟩ := He.ba h
  obtain ⟨h9, h⟩ := He.ba h
  obtain ⟨h10, h11⟩ := He.ba h
  obtain ⟨p1, p2, rfl⟩ := hA
  obtain ⟨q1, q2, q3, q4, rfl⟩ := hB
  subst hS
  obtain ⟨oc, od, dV, kV, doc, pm, an, cdv, ct, osl, e1, e2, e3, e4, _⟩ := F.ex
  have e4 : dV = .none := by
    rcases e4 with e4 | e4
    · exact e4.2
    · exact absurd rfl e4.1
  subst e1 e4
  exact ⟨gC, exclB_ok h1, of_decide_eq_true h2, of_decide_eq_true h3, of_decide_eq_true h4, of_decide_eq_true h5, of_decide_eq_true h6, of_decide_eq_true h7, h8, of_decide_eq_true h9, of_decide_eq_true h10, h11, ⟨qual, oc, od, kV, doc, pm, an, cdv, ct, osl, p1, p2, q1, q2, q3, q4, e2, e3⟩⟩
end
end TL

namespace TL
open PySem PySem.Spec L2

inductive Re (α : Type) where
  | ok (a : α) (e : Ev) | xc (x : Xn) (e : Ev) | bad
def Re.on {α : Type} (r : Re α) (Q : α → Ev → Prop) (X : XP) : Prop := match r with
  | .ok a e => Q a e
  | .xc x e => X x e
  | .bad => False
def Re.bd {α β : Type} (r : Re α) (k : α → Ev → Re β) : Re β := match r with
  | .ok a e => k a e
  | .xc x e => .xc x e
  | .bad => .bad
theorem Re.on_bd {α β : Type} {r : Re α} {k : α → Ev → Re β} {Q : β → Ev → Prop} {X : XP} : (r.bd k).on Q X = r.on (fun a e => (k a e).on Q X) X := by
  cases r <;> rfl
def ol {α : Type} (o : Option α) (e : Ev) : Re α := match o with
  | some a => .ok a e
  | none => .bad
theorem on_ol {α : Type} {o : Option α} {e : Ev} {Q : α → Ev → Prop} {X : XP} : (ol o e).on Q X = mo o fun a => Q a e := by
  cases o <;> rfl
abbrev FO := Ev → Re Hd
abbrev FE := Ev → Re D
abbrev FT := Ev → Re Bool
abbrev FA := Ev → Re (List Hd)
abbrev FI := Ev → Re (List D)
abbrev FP := Ev → Re (Option Int)
def wp {α : Type} (f : Ev → Re α) : Ev → (α → Ev → Prop) → XP → Prop := fun env Q X => (f env).on Q X
theorem wp_bd {α β : Type} {f : Ev → Re α} {k : α → Ev → Re β} {env : Ev} {Q : β → Ev → Prop} {X : XP} : wp (fun env => (f env).bd k) env Q X = wp f env (fun a e => (k a e).on Q X) X := Re.on_bd
theorem wp_mono {α : Type} {f : Ev → Re α} {env : Ev} {Q Q' : α → Ev → Prop} {X : XP} (h : wp f env Q X) (i : ∀ a e, Q a e → Q' a e) : wp f env Q' X := by
  unfold wp at h ⊢
  revert h
  cases f env with
  | ok a e => exact i a e
  | xc x e => exact id
  | bad => exact id
def oi (f : FE) : FO := fun env => (f env).bd fun d e => .ok (.im d) e
theorem wp_oi (f : FE) : imO (wp f) = wp (oi f) := by
  funext env Q X
  unfold imO wp oi
  rw [Re.on_bd]
  rfl
section
variable {X : Cx} {W : WX} {a b c e : Expr} {es : List Expr} {pos p : Pos} {st : Stmt} {l : List Stmt}
theorem QO.le {w w' : WO} (h : QO X W e w) (i : ∀ env Q Xp, w' env Q Xp → w env Q Xp) : QO X W e w' := L2.PE.le h fun σ H Q ⟨x, G, env, Q', X', r, hw, hn, hx⟩ => ⟨x, G, env, Q', X', r, i _ _ _ hw, hn, hx⟩
theorem QE.le {w w' : WE} (h : QE X W e w) (i : ∀ env Q Xp, w' env Q Xp → w env Q Xp) : QE X W e w' := QO.le h fun env Q Xp => i env _ Xp
theorem QF.le {w w' : WE} (h : QF X W e w) (i : ∀ env Q Xp, w' env Q Xp → w env Q Xp) : QF X W e w' := L2.PE.le h fun σ H Q ⟨x, G, env, Q', X', r, hw, hn, hx⟩ => ⟨x, G, env, Q', X', r, i _ _ _ hw, hn, hx⟩
theorem QT.le {w w' : WT} (h : QT X W e w) (i : ∀ env Q Xp, w' env Q Xp → w env Q Xp) : QT X W e w' := L2.PT.le h fun σ H Q ⟨x, G, env, Q', X', r, hw, hn, hx⟩ => ⟨x, G, env, Q', X', r, i _ _ _ hw, hn, hx⟩
theorem QW.le {w w' : WT} (h : QW X W e w) (i : ∀ env Q Xp, w' env Q Xp → w env Q Xp) : QW X W e w' := L2.PW.le h fun σ H Q ⟨x, G, env, Q', X', r, hw, hn, hx⟩ => ⟨x, G, env, Q', X', r, i _ _ _ hw, hn, hx⟩
theorem QA.le {w w' : WA} (h : QA X W es w) (i : ∀ env Q Xp, w' env Q Xp → w env Q Xp) : QA X W es w' := L2.PA.le h fun σ H Q ⟨x, G, env, Q', X', r, hw, hn, hx⟩ => ⟨x, G, env, Q', X', r, i _ _ _ hw, hn, hx⟩
theorem QI.le {tg : Expr} {w w' : WI} (h : QI X W tg e w) (i : ∀ env Q Xp, w' env Q Xp → w env Q Xp) : QI X W tg e w' := L2.PI.le h fun σ H Q ⟨x, G, env, Q', X', r, hw, hn, hx⟩ => ⟨x, G, env, Q', X', r, i _ _ _ hw, hn, hx⟩
theorem QP.le {oe : Option Expr} {w w' : WP} (h : QP X W oe w) (i : ∀ env Q Xp, w' env Q Xp → w env Q Xp) : QP X W oe w' := L2.PO.le h fun σ H Q ⟨x, G, env, Q', X', r, hw, hn, hx⟩ => ⟨x, G, env, Q', X', r, i _ _ _ hw, hn, hx⟩
theorem QTs.le {w w' : WT} (h : QTs X W es w) (i : ∀ env Q Xp, w' env Q Xp → w env Q Xp) : QTs X W es w' := L2.PTs.le h fun σ H Q ⟨x, G, env, Q', X', r, hw, hn, hx⟩ => ⟨x, G, env, Q', X', r, i _ _ _ hw, hn, hx⟩
theorem QS.le {w w' : WS} (h : QS X W st w) (i : ∀ env E, w' env E → w env E) : QS X W st w' := L2.PS.le h fun De σ H ⟨x, G, env, E', r, hw, hE⟩ => ⟨x, G, env, E', r, i _ _ hw, hE⟩
theorem QSs.le {w w' : WS} (h : QSs X W l w) (i : ∀ env E, w' env E → w env E) : QSs X W l w' := L2.PSs.le h fun De σ H ⟨x, G, env, E', r, hw, hE⟩ => ⟨x, G, env, E', r, i _ _ hw, hE⟩
theorem QG.le {w w' : WG} (h : QG X e w) (i : ∀ d env Q, w' d env Q → w d env Q) : QG X e w' := L2.PG.le h fun v σ H Q ⟨x, G, env, d, Q', r, rp, hw, hn⟩ => ⟨x, G, env, d, Q', r, rp, i _ _ _ hw, hn⟩
theorem QGs.le {w w' : WGs} (h : QGs X es w) (i : ∀ d env Q, w' d env Q → w d env Q) : QGs X es w' := L2.PGs.le h fun v σ H Q ⟨x, G, env, d, Q', r, rp, hw, hn⟩ => ⟨x, G, env, d, Q', r, rp, i _ _ _ hw, hn⟩
abbrev KO (X : Cx) (W : WX) (e : Expr) (f : FO) : Prop := QO X W e (wp f)
abbrev KE (X : Cx) (W : WX) (e : Expr) (f : FE) : Prop := QE X W e (wp f)
abbrev KF (X : Cx) (W : WX) (e : Expr) (f : FE) : Prop := QF X W e (wp f)
abbrev KT (X : Cx) (W : WX) (e : Expr) (f : FT) : Prop := QT X W e (wp f)
abbrev KW (X : Cx) (W : WX) (e : Expr) (f : FT) : Prop := QW X W e (wp f)
abbrev KA (X : Cx) (W : WX) (es : List Expr) (f : FA) : Prop := QA X W es (wp f)
theorem ko {f : FE} (h : KE X W e f) : KO X W e (oi f) := by
  have h' : QO X W e (imO (wp f)) := h
  rw [wp_oi] at h'
  exact h'
theorem knew {f : FE} (h : KF X W e f) : KE X W e f := qe_new h
def fVar (i : Nat) : FE := fun env => ol (imAt env i) env
def foVar (i : Nat) : FO := fun env => match owAt env i with
  | some _ => .ok (.ow i) env
  | none => .bad
def fC (d : D) : FE := fun env => .ok d env
theorem ke_var (i : Nat) {n : Str} (hN : X.N[i]? = some n := by rfl) (hvs : Vis X.env.scope n := by first | exact Or.inl rfl | exact Or.inr (Or.inl rfl) | exact Or.inr (Or.inr rfl)) (hd : (n == ("__debug__" : Str)) = false := by decide)
    (hcd : (n == ("__classdict__" : Str)) = false := by decide) : KE X W (.Name n pos) (fVar i) := QE.le (qe_var i hN hvs hd hcd) fun env Q Xp h => by
  unfold wp fVar at h
  rw [on_ol] at h
  exact h
theorem ko_var (i : Nat) {n : Str} (hN : X.N[i]? = some n := by rfl) (hvs : Vis X.env.scope n := by first | exact Or.inl rfl | exact Or.inr (Or.inl rfl) | exact Or.inr (Or.inr rfl)) (hd : (n == ("__debug__" : Str)) = false := by decide)
    (hcd : (n == ("__classdict__" : Str)) = false := by decide) : KO X W (.Name n pos) (foVar i) := QO.le (qo_var i hN hvs hd hcd) fun env Q Xp h => by
  unfold wp foVar at h
  unfold oVar
  cases z : owAt env i with
  | none =>
    rw [z] at h
    exact h
  | some d =>
    rw [z] at h
    exact h
theorem ke_c {d : D} (h : QE X W e (wC d)) : KE X W e (fC d) := QE.le h fun env Q Xp h => h
theorem ke_int {i j} : KE X W (.Constant (.int i) j pos) (fC (.int i)) := ke_c qe_int
theorem ke_bl {i j} : KE X W (.Constant (.bool i) j pos) (fC (.bl i)) := ke_c qe_bl
theorem ke_non {j} : KE X W (.Constant .none j pos) (fC .non) := ke_c qe_non
theorem ke_str {i j} : KE X W (.Constant (.str i) j pos) (fC (.str i)) := ke_c qe_str
theorem ke_globI {n : Str} {i : Int} (hm : ∃ t, X.mg n = some (.int i t)) (hg : Gl X n := by rfl) (hd : (n == ("__debug__" : Str)) = false := by decide) : KE X W (.Name n pos) (fC (.int i)) := ke_c (qe_globI hm hg hd)
theorem ke_globS {n : Str} {i : Str} (hm : ∃ t, X.mg n = some (.str i t)) (hg : Gl X n := by rfl) (hd : (n == ("__debug__" : Str)) = false := by decide) : KE X W (.Name n pos) (fC (.str i)) := ke_c (qe_globS hm hg hd)
def f1 (g : D → Option D) (fa : FO) : FE := fun env => (fa env).bd fun h e => match hv e h with
  | some d => ol (g d) e
  | none => .bad
def f2 (g : D → D → Option D) (fa fb : FO) : FE := fun env => (fa env).bd fun h1 e1 => (fb e1).bd fun h2 e2 => match hv e2 h1 with
  | some d1 => (match hv e2 h2 with
    | some d2 => ol (g d1 d2) e2
    | none => .bad)
  | none => .bad
def fN (g : List D → Option D) (fa : FA) : FE := fun env => (fa env).bd fun hs e => match hvs e hs with
  | some ds => ol (g ds) e
  | none => .bad
theorem le1 {k : D → (D → Prop) → Prop} {g : D → Option D} (hk : ∀ d P, mo (g d) P → k d P) {fa : FO} : ∀ env Q Xp, wp (f1 g fa) env Q Xp → w1 k (wp fa) env Q Xp := fun env Q Xp h => by
  have h' : ((fa env).bd _).on Q Xp := h
  rw [Re.on_bd] at h'
  refine wp_mono (f := fa) (env := env) h' fun hd e q => ?_
  cases z : hv e hd with
  | none =>
    rw [z] at q
    exact q
  | some d =>
    rw [z] at q
    dsimp only at q
    rw [on_ol] at q
    exact hk d _ q
theorem le2 {k : D → D → (D → Prop) → Prop} {g : D → D → Option D} (hk : ∀ d d' P, mo (g d d') P → k d d' P) {fa fb : FO} : ∀ env Q Xp, wp (f2 g fa fb) env Q Xp → w2 k (wp fa) (wp fb) env Q Xp := fun env Q Xp h => by
  have h' : ((fa env).bd _).on Q Xp := h
  rw [Re.on_bd] at h'
  refine wp_mono (f := fa) (env := env) h' fun h1 e1 q => ?_
  rw [Re.on_bd] at q
  refine wp_mono (f := fb) (env := e1) q fun h2 e2 q => ?_
  cases z : hv e2 h1 with
  | none =>
    rw [z] at q
    exact q
  | some d1 =>
    rw [z] at q
    dsimp only at q
    cases y : hv e2 h2 with
    | none =>
      rw [y] at q
      exact q
    | some d2 =>
      rw [y] at q
      dsimp only at q
      rw [on_ol] at q
      exact hk d1 d2 _ q
theorem leN {k : List D → (D → Prop) → Prop} {g : List D → Option D} (hk : ∀ d P, mo (g d) P → k d P) {fa : FA} : ∀ env Q Xp, wp (fN g fa) env Q Xp → wN k (wp fa) env Q Xp := fun env Q Xp h => by
  have h' : ((fa env).bd _).on Q Xp := h
  rw [Re.on_bd] at h'
  refine wp_mono (f := fa) (env := env) h' fun hd e q => ?_
  cases z : hvs e hd with
  | none =>
    rw [z] at q
    exact q
  | some d =>
    rw [z] at q
    dsimp only at q
    rw [on_ol] at q
    exact hk d _ q
def gI (c : Int → Int → Bool) (g : Int → Int → D) (d1 d2 : D) : Option D := match d1 with
  | .int i => (match d2 with
    | .int j => if c i j = true then some (g i j) else none
    | _ => none)
  | _ => none
def gI0 (g : Int → Int → D) (d1 d2 : D) : Option D := match d1 with
  | .int i => (match d2 with
    | .int j => some (g i j)
    | _ => none)
  | _ => none
theorem hk_I {c : Int → Int → Bool} {C : Int → Int → Prop} {g : Int → Int → D} (hc : ∀ i j, c i j = true → C i j) : ∀ d d' P, mo (gI c g d d') P → kI C g d d' P := fun d d' P h => by
  cases d with
  | int i =>
    cases d' with
    | int j =>
      have h' : mo (if c i j = true then some (g i j) else none) P := h
      by_cases q : c i j = true
      · rw [if_pos q] at h'
        exact ⟨hc i j q, h'⟩
      · rw [if_neg q] at h'
        exact h'.elim
    | _ => exact h.elim
  | _ => exact h.elim
theorem hk_I0 {g : Int → Int → D} : ∀ d d' P, mo (gI0 g d d') P → kI0 g d d' P := fun d d' P h => by
  cases d with
  | int i =>
    cases d' with
    | int j => exact h
    | _ => exact h.elim
  | _ => exact h.elim
def gSub := gI0 fun i j => .int (i - j)
def mulC (i j : Int) : Bool := decide (-(2 ^ 64) < i ∧ i < 2 ^ 64) || (decide (-(2 ^ 64) < j ∧ j < 2 ^ 64) || decide (i.natAbs.log2 + j.natAbs.log2 < 1000000))
def divC (_ j : Int) : Bool := decide (0 < j) && decide (j.natAbs.log2 < 9000)
def powC (i j : Int) : Bool := decide (0 ≤ j) && (decide (j ≤ 1000000) && decide (i.natAbs < 2 ^ 64))
def gDiv := gI divC fun i j => .int (i / j)
def gMod := gI (fun _ j => decide (0 < j)) fun i j => .int (i % j)
def gPow := gI powC fun i j => .int (i ^ j.toNat)
def gShl := gI powC fun i j => .int (i * 2 ^ j.toNat)
def gLt := gI0 fun i j => .bl (decide (i < j))
def gLe := gI0 fun i j => .bl (decide (i ≤ j))
def gGt := gI0 fun i j => .bl (decide (j < i))
def gGe := gI0 fun i j => .bl (decide (j ≤ i))
variable {fa fb : FO}
theorem powC_ok {i j : Int} (h : powC i j = true) : CPow i j := by
  unfold powC at h
  simp only [Bool.and_eq_true, decide_eq_true_eq] at h
  exact ⟨h.1, h.2.1, h.2.2⟩
theorem divC_ok {i j : Int} (h : divC i j = true) : CDivW i j := by
  unfold divC at h
  simp only [Bool.and_eq_true, decide_eq_true_eq] at h
  exact h
theorem ke_sub (ha : KO X W a fa) (hb : KO X W b fb) : KE X W (.BinOp a .Sub b pos) (f2 gSub fa fb) := QE.le (qe_sub ha hb) (le2 hk_I0)
theorem ke_div (ha : KO X W a fa) (hb : KO X W b fb) : KE X W (.BinOp a .FloorDiv b pos) (f2 gDiv fa fb) := QE.le (qe_div ha hb) (le2 (hk_I fun _ _ => divC_ok))
theorem ke_mod (ha : KO X W a fa) (hb : KO X W b fb) : KE X W (.BinOp a .Mod b pos) (f2 gMod fa fb) := QE.le (qe_mod ha hb) (le2 (hk_I fun _ _ h => of_decide_eq_true h))
theorem ke_pow (ha : KO X W a fa) (hb : KO X W b fb) : KE X W (.BinOp a .Pow b pos) (f2 gPow fa fb) := QE.le (qe_pow ha hb) (le2 (hk_I fun _ _ => powC_ok))
def gNeg (d : D) : Option D := match d with
  | .int i => some (.int (-i))
  | _ => none
theorem ke_neg (ha : KO X W a fa) : KE X W (.UnaryOp .USub a pos) (f1 gNeg fa) := QE.le (qe_neg ha) (le1 fun d P h => by
  cases d with
  | int i => exact h
  | _ => exact h.elim)
def gMul := gI mulC fun i j => .int (i * j)
theorem sem_or {K : PySem.W.Frag} {r r' : R2} {k k' : D → D → (D → Prop) → Prop} (h : Sem2 K r k) (h' : Sem2 K r' k') : Sem2 K (fun x y H Q => r x y H Q ∨ r' x y H Q) (fun d d' P => k d d' P ∨ k' d d' P) := fun G H d1 d2 v1 v2 P Q s h1 h2 hk hq => by
  rcases hk with hk | hk
  · exact .inl (h G H d1 d2 v1 v2 P Q s h1 h2 hk hq)
  · exact .inr (h' G H d1 d2 v1 v2 P Q s h1 h2 hk hq)
theorem ke_mul (ha : KO X W a fa) (hb : KO X W b fb) : KE X W (.BinOp a .Mult b pos) (f2 gMul fa fb) := QE.le (qe_op (OpR.or op_mul op_mulW) (sem_or (k := kMul) (k' := kMulW) (sem_rI fun _ _ _ => rfl) (sem_rI fun _ _ _ => rfl)) ha hb) (le2 fun d d' P h => by
  cases d with
  | int i =>
    cases d' with
    | int j =>
      have h' : mo (if mulC i j = true then some (D.int (i * j)) else none) P := h
      by_cases q : mulC i j = true
      · rw [if_pos q] at h'
        unfold mulC at q
        simp only [Bool.or_eq_true, decide_eq_true_eq] at q
        rcases q with q | q | q
        · exact .inl ⟨.inl q, h'⟩
        · exact .inl ⟨.inr q, h'⟩
        · exact .inr ⟨q, h'⟩
      · rw [if_neg q] at h'
        exact h'.elim
    | _ => exact h.elim
  | _ => exact h.elim)
def fB (f : FE) : FT := fun env => (f env).bd fun d e => ol (blOf d) e
theorem leB {f : FE} : ∀ env Q Xp, wp (fB f) env Q Xp → wB (wp f) env Q Xp := fun env Q Xp h => by
  have h' : ((f env).bd _).on Q Xp := h
  rw [Re.on_bd] at h'
  refine wp_mono (f := f) (env := env) h' fun d e q => ?_
  rw [on_ol] at q
  exact q
structure KC (X : Cx) (W : WX) (op : CmpOp) (a b : Expr) (f : FE) : Prop where
  e : ∀ pos, KE X W (.Compare a [op] [b] pos) f
  t : ∀ pos, KT X W (.Compare a [op] [b] pos) (fB f)
theorem kc {op : CmpOp} {w : WE} {f : FE} (h : QC X W op a b w) (i : ∀ env Q Xp, wp f env Q Xp → w env Q Xp) : KC X W op a b f :=
  ⟨fun pos => QE.le (h.e pos) i, fun pos => QT.le (h.t pos) fun env Q Xp q => i _ _ _ (leB env Q Xp q)⟩
theorem kc_lt (ha : KO X W a fa) (hb : KO X W b fb) : KC X W .Lt a b (f2 gLt fa fb) := kc (qc_lt ha hb) (le2 hk_I0)
theorem kc_le (ha : KO X W a fa) (hb : KO X W b fb) : KC X W .LtE a b (f2 gLe fa fb) := kc (qc_le ha hb) (le2 hk_I0)
theorem kc_gt (ha : KO X W a fa) (hb : KO X W b fb) : KC X W .Gt a b (f2 gGt fa fb) := kc (qc_gt ha hb) (le2 hk_I0)
theorem kc_ge (ha : KO X W a fa) (hb : KO X W b fb) : KC X W .GtE a b (f2 gGe fa fb) := kc (qc_ge ha hb) (le2 hk_I0)
def gEq (d d' : D) : Option D := if (okD 16 d && okD 16 d') = true then some (.bl (eqD d d')) else none
def gNe (d d' : D) : Option D := if (okD 16 d && okD 16 d') = true then some (.bl (!eqD d d')) else none
theorem if_some {b : Bool} {d : D} {P : D → Prop} (h : mo (if b = true then some d else none) P) : b = true ∧ P d := by
  cases b with
  | true => exact ⟨rfl, h⟩
  | false => exact h.elim
theorem kc_eq (hu : X.A.units + 64 < cLine) (ha : KO X W a fa) (hb : KO X W b fb) : KC X W .Eq a b (f2 gEq fa fb) := kc (qc_eq hu ha hb) (le2 fun d d' P h => by
  obtain ⟨q, h⟩ := if_some h
  rw [Bool.and_eq_true] at q
  exact ⟨q.1, q.2, h⟩)
theorem kc_ne (hu : X.A.units + 64 < cLine) (ha : KO X W a fa) (hb : KO X W b fb) : KC X W .NotEq a b (f2 gNe fa fb) := kc (qc_ne hu ha hb) (le2 fun d d' P h => by
  obtain ⟨q, h⟩ := if_some h
  rw [Bool.and_eq_true] at q
  exact ⟨q.1, q.2, h⟩)
def gIsN (d : D) : Option D := some (.bl (isNon d))
def gNotN (d : D) : Option D := some (.bl (!isNon d))
theorem kc_isN {j pos'} (ha : KO X W a fa) : KC X W .Is a (.Constant .none j pos') (f1 gIsN fa) := kc (qc_isN ha) (le1 fun d P h => h)
def fAnd (ft fu : FT) : FT := fun env => (ft env).bd fun k e => if k = true then fu e else .ok false e
def fOr (ft fu : FT) : FT := fun env => (ft env).bd fun k e => if k = true then .ok true e else fu e
def fNot (ft : FT) : FT := fun env => (ft env).bd fun k e => .ok (!k) e
variable {ft fu : FT} {f g : FE} {rest : List Expr}
theorem on_ite {α : Type} {b : Bool} {x y : Re α} {Q : α → Ev → Prop} {Xp : XP} : (if b = true then x else y).on Q Xp = if b = true then x.on Q Xp else y.on Q Xp := by
  cases b <;> rfl
theorem kt_val (h : KE X W e f) (he : ∀ whole, isTrue e X.env whole = (do let v ← whole; standAt e.pos; holding [v] (truthy v)) := by intro _; rfl) : KT X W e (fB f) := QT.le (qt_val h he) leB
theorem leT {ft : FT} {k : Bool → Ev → Re Bool} {q : (Bool → Ev → Prop) → XP → Bool → Ev → Prop} (hq : ∀ Q Xp b e, (k b e).on Q Xp → q Q Xp b e) : ∀ env Q Xp, wp (fun env => (ft env).bd k) env Q Xp → (wp ft) env (q Q Xp) Xp := fun env Q Xp h => by
  rw [wp_bd] at h
  exact wp_mono h fun b e => hq Q Xp b e
theorem kw_and1 (ha : KT X W a ft) : KW X W (.BoolOp .And [a] pos) ft := qw_and1 ha
theorem kw_or1 (ha : KT X W a ft) : KW X W (.BoolOp .Or [a] pos) ft := qw_or1 ha
theorem kw_and (ha : KT X W a ft) (hb : KW X W (.BoolOp .And (b :: rest) pos) fu) : KW X W (.BoolOp .And (a :: b :: rest) pos) (fAnd ft fu) := QW.le (qw_and ha hb) fun env Q Xp h => by
  refine leT (q := fun Q Xp k e => if k = true then wp fu e Q Xp else Q false e) (fun Q Xp b e h => ?_) env Q Xp h
  rw [on_ite] at h
  exact h
theorem kw_or (ha : KT X W a ft) (hb : KW X W (.BoolOp .Or (b :: rest) pos) fu) : KW X W (.BoolOp .Or (a :: b :: rest) pos) (fOr ft fu) := QW.le (qw_or ha hb) fun env Q Xp h => by
  refine leT (q := fun Q Xp k e => if k = true then Q true e else wp fu e Q Xp) (fun Q Xp b e h => ?_) env Q Xp h
  rw [on_ite] at h
  exact h
theorem kt_not (ha : KT X W a ft) : KT X W (.UnaryOp .Not a pos) (fNot ft) := QT.le (qt_not ha) fun env Q Xp h => by
  have h' := h
  unfold fNot at h'
  rw [wp_bd] at h'
  exact h'
def gAnd (fa fb : FE) : FE := fun env => (fa env).bd fun d e => (match blOf d with
  | some k => if k = true then fb e else .ok (.bl false) e
  | none => .bad)
def gOr (fa fb : FE) : FE := fun env => (fa env).bd fun d e => (match blOf d with
  | some k => if k = true then .ok (.bl true) e else fb e
  | none => .bad)
def gNot (fa : FE) : FE := fun env => (fa env).bd fun d e => (match blOf d with
  | some k => .ok (.bl (!k)) e
  | none => .bad)
theorem ke_one {op} (h : KE X W a f) : KE X W (.BoolOp op [a] pos) f := qe_one h
theorem leBl {f : FE} {k : Bool → Ev → Re D} {q : (D → Ev → Prop) → XP → Bool → Ev → Prop} (hq : ∀ Q Xp b e, (k b e).on Q Xp → q Q Xp b e) : ∀ env Q Xp, wp (fun env => (f env).bd fun d e => (match blOf d with | some b => k b e | none => .bad)) env Q Xp → (wp f) env (fun d e => mo (blOf d) fun b => q Q Xp b e) Xp := fun env Q Xp h => by
  rw [wp_bd] at h
  refine wp_mono h fun d e h => ?_
  cases z : blOf d with
  | none =>
    rw [z] at h
    exact h
  | some b =>
    rw [z] at h
    exact hq Q Xp b e h
theorem ke_and (ha : KE X W a f) (hb : KE X W (.BoolOp .And (b :: rest) pos) g) : KE X W (.BoolOp .And (a :: b :: rest) pos) (gAnd f g) := QE.le (qe_and ha hb) fun env Q Xp h => by
  refine leBl (q := fun Q Xp k e => if k = true then wp g e Q Xp else Q (.bl false) e) (fun Q Xp b e h => ?_) env Q Xp h
  rw [on_ite] at h
  exact h
theorem ke_or (ha : KE X W a f) (hb : KE X W (.BoolOp .Or (b :: rest) pos) g) : KE X W (.BoolOp .Or (a :: b :: rest) pos) (gOr f g) := QE.le (qe_or ha hb) fun env Q Xp h => by
  refine leBl (q := fun Q Xp k e => if k = true then Q (.bl true) e else wp g e Q Xp) (fun Q Xp b e h => ?_) env Q Xp h
  rw [on_ite] at h
  exact h
theorem ke_not (ha : KE X W a f) : KE X W (.UnaryOp .Not a pos) (gNot f) := QE.le (qe_not ha) fun env Q Xp h =>
  leBl (k := fun k e => .ok (.bl (!k)) e) (q := fun Q Xp k e => Q (.bl (!k)) e) (fun Q Xp b e h => h) env Q Xp h
def fIf {α : Type} (ft : FT) (fa fb : Ev → Re α) : Ev → Re α := fun env => (ft env).bd fun k e => if k = true then fa e else fb e
theorem leIf {α : Type} {fa fb : Ev → Re α} : ∀ env Q Xp, wp (fIf ft fa fb) env Q Xp → wp ft env (fun k e => if k = true then wp fa e Q Xp else wp fb e Q Xp) Xp := fun env Q Xp h => by
  unfold fIf at h
  rw [wp_bd] at h
  refine wp_mono h fun b e h => ?_
  rw [on_ite] at h
  exact h
theorem ke_if {c : Expr} (hc : KT X W c ft) (ha : KE X W a f) (hb : KE X W b g) : KE X W (.IfExp c a b pos) (fIf ft f g) := QE.le (qe_if hc ha hb) leIf
def fNil : FA := fun env => .ok [] env
def fCons (f : FO) (fl : FA) : FA := fun env => (f env).bd fun h e => (fl e).bd fun hs e2 => .ok (h :: hs) e2
variable {fl : FA}
theorem ka_nil : KA X W [] fNil := QA.le qa_nil fun env Q Xp h => h
theorem ka_cons (ha : KO X W e fa) (hr : KA X W es fl) (hs : starEach (e :: es) X.env = (false, eval e X.env) :: starEach es X.env := by rfl) : KA X W (e :: es) (fCons fa fl) := QA.le (qa_cons ha hr hs) fun env Q Xp h => by
  unfold fCons at h
  rw [wp_bd] at h
  refine wp_mono h fun hd e h => ?_
  rw [Re.on_bd] at h
  exact wp_mono (f := fl) h fun hs e2 h => h
def gSeq (c : List D → D) (ds : List D) : Option D := if ds.length ≤ 1000000 then some (c ds) else none
def fSeq (c : List D → D) (fl : FA) : FE := fun env => (fl env).bd fun hs e => match ims hs with
  | some ds => ol (gSeq c ds) e
  | none => .bad
theorem leSeq {c : List D → D} : ∀ env Q Xp, wp (fSeq c fl) env Q Xp → wp fl env (fun hs e => mo (ims hs) fun ds => ds.length ≤ 1000000 ∧ Q (c ds) e) Xp := fun env Q Xp h => by
  unfold fSeq at h
  rw [wp_bd] at h
  refine wp_mono h fun hs e h => ?_
  cases z : ims hs with
  | none =>
    rw [z] at h
    exact h
  | some ds =>
    rw [z] at h
    have h' : (ol (gSeq c ds) e).on Q Xp := h
    rw [on_ol] at h'
    unfold gSeq at h'
    by_cases q : ds.length ≤ 1000000
    · rw [if_pos q] at h'
      exact ⟨q, h'⟩
    · rw [if_neg q] at h'
      exact h'.elim
def fLst := fSeq D.lst
def fTup := fSeq D.tup
theorem kf_lst (h : KA X W es fl) : KF X W (.List es pos) (fLst fl) := QF.le (qf_lst h) leSeq
theorem ke_tup {x1} (h : KA X W es fl) : KE X W (.Tuple es x1 pos) (fTup fl) := QE.le (qe_tup h) leSeq
end
end TL

namespace TL
open PySem PySem.Spec L2
section
variable {X : Cx} {W : WX} {a b c e : Expr} {es : List Expr} {pos p : Pos} {st : Stmt} {l : List Stmt} {fa fb : FO} {f g : FE} {fl : FA} {ft fu : FT}
theorem Sem2F.sem {K : PySem.W.Frag} {r : R2} {k : D → D → (D → Prop) → Prop} (h : Sem2F K r k) : Sem2 K r k := fun G H d1 d2 v1 v2 P Q s h1 h2 hk hq =>
  h G H d1 d2 v1 v2 P Q s h1 h2 hk fun d' p o hp ro hP => hq d' (.ref p) (upd G p o) (upd H p o) (Step.one s o hp) (RepO.rep upd_same (RepO.mono (same_new (s.free hp)) ro)) hP
def kCatS : D → D → (D → Prop) → Prop := fun d1 d2 P => mo (strOf d1) fun i => mo (strOf d2) fun j => i.length + j.length ≤ 1000000 ∧ P (.str (i ++ j))
theorem sem_catS {K : PySem.W.Frag} : Sem2 K (fun x y H Q => ∃ i j, x = .str i ∧ y = .str j ∧ i.length + j.length ≤ sizeLine ∧ Q (.str (i ++ j)) H) kCatS := fun G H d1 d2 v1 v2 P Q s h1 h2 hk hq => by
  obtain ⟨i, z1, hk⟩ := mo_some hk
  obtain ⟨j, z2, hl, hk⟩ := mo_some hk
  rw [strOf_some z1] at h1
  rw [strOf_some z2] at h2
  exact ⟨i, j, h1, h2, line_le hl, hq (.str (i ++ j)) _ G H (.refl s) rfl hk⟩
def kCatT : D → D → (D → Prop) → Prop := fun d1 d2 P => mo (tupOf d1) fun xs => mo (tupOf d2) fun ys => xs.length + ys.length ≤ 1000000 ∧ P (.tup (xs ++ ys))
theorem sem_catT {K : PySem.W.Frag} : Sem2 K (rCatA K) kCatT := fun G H d1 d2 v1 v2 P Q s h1 h2 hk hq => by
  obtain ⟨xs, z1, hk⟩ := mo_some hk
  obtain ⟨ys, z2, hl, hk⟩ := mo_some hk
  rw [tupOf_some z1] at h1
  rw [tupOf_some z2] at h2
  obtain ⟨p1, vs, rfl, t1, r1, g1⟩ := h1
  obtain ⟨p2, us, rfl, t2, r2, g2⟩ := h2
  have hn : ∀ p, H p = none → Q (.ref p) (upd H p (.tup (vs ++ us))) := fun p hp => by
    refine hq _ _ (upd G p (.tup (vs ++ us))) _ (Step.one s _ hp) ?_ hk
    unfold Rep
    exact ⟨p, vs ++ us, rfl, SqT.of upd_same, Reps.mono (same_new (s.free hp)) _ _ (Reps.append r1 r2)⟩
  have hn2 : ∀ (d' : D) (v : V), Rep K G d' v → d' = .tup (xs ++ ys) → Q v H := fun d' v rp e => hq d' v G H (.refl s) rp (by rw [e]; exact hk)
  have n1 : vs = [] → xs = [] := fun e => by
    have := r1.length
    rw [e] at this
    exact List.eq_nil_of_length_eq_zero this.symm
  have n2 : us = [] → ys = [] := fun e => by
    have := r2.length
    rw [e] at this
    exact List.eq_nil_of_length_eq_zero this.symm
  refine ⟨p1, p2, vs, us, rfl, rfl, t1, t2, ?_, fun e => hn2 (.tup ys) _ ?_ (by rw [n1 e]; rfl), fun _ e => hn2 (.tup xs) _ ?_ (by rw [n2 e, List.append_nil]), fun _ _ => hn⟩
  · rw [r1.length, r2.length]
    exact line_le hl
  · unfold Rep
    exact ⟨p2, us, rfl, g2, r2⟩
  · unfold Rep
    exact ⟨p1, vs, rfl, g1, r1⟩
def gAdd (d1 d2 : D) : Option D := match d1, d2 with
  | .int i, .int j => some (.int (i + j))
  | .str i, .str j => if i.length + j.length ≤ 1000000 then some (.str (i ++ j)) else none
  | .lst xs, .lst ys => if xs.length + ys.length ≤ 1000000 then some (.lst (xs ++ ys)) else none
  | .tup xs, .tup ys => if xs.length + ys.length ≤ 1000000 then some (.tup (xs ++ ys)) else none
  | _, _ => none
theorem if_p {p : Prop} [Decidable p] {d : D} {P : D → Prop} (h : mo (if p then some d else none) P) : p ∧ P d := by
  by_cases q : p
  · rw [if_pos q] at h
    exact ⟨q, h⟩
  · rw [if_neg q] at h
    exact h.elim
theorem ke_add (ha : KO X W a fa) (hb : KO X W b fb) : KE X W (.BinOp a .Add b pos) (f2 gAdd fa fb) :=
  QE.le (qe_op (OpR.or op_add (OpR.or op_add_str (OpR.or op_catS op_catA))) (sem_or (k := kAdd) (sem_rI0 fun _ _ _ => rfl) (sem_or sem_catS (sem_or sem_cat.sem sem_catT))) ha hb) (le2 fun d d' P h => by
    unfold gAdd at h
    split at h
    · exact .inl h
    · exact .inr (.inl (if_p h))
    · exact .inr (.inr (.inl (if_p h)))
    · exact .inr (.inr (.inr (if_p h)))
    · exact h.elim)
def gCat (d1 d2 : D) : Option D := match d1, d2 with
  | .lst xs, .lst ys => if xs.length + ys.length ≤ 1000000 then some (.lst (xs ++ ys)) else none
  | _, _ => none
theorem kf_cat (ha : KO X W a fa) (hb : KO X W b fb) : KF X W (.BinOp a .Add b pos) (f2 gCat fa fb) := QF.le (qf_cat ha hb) (le2 fun d d' P h => by
    unfold gCat at h
    split at h
    · exact if_p h
    · exact h.elim)
def gIx (d1 d2 : D) : Option D := match seqOf d1 with
  | some ds => (match d2 with
    | .int i => atI ds i
    | _ => none)
  | none => none
theorem ke_ix (ha : KO X W a fa) (hb : KO X W b fb) (hs : PlainIx b) : KE X W (.Subscript a b pos) (f2 gIx fa fb) := QE.le (qe_ix ha hb hs) (le2 fun d d' P h => by
  unfold gIx at h
  unfold kIx
  cases z : seqOf d with
  | none =>
    rw [z] at h
    exact h
  | some ds =>
    rw [z] at h
    cases d' with
    | int i => exact h
    | _ => exact h.elim)
def fpNone : FP := fun env => .ok none env
def fpSome (f : FE) : FP := fun env => (f env).bd fun d e => match d with
  | .int i => .ok (some i) e
  | _ => .bad
abbrev KP (X : Cx) (W : WX) (e : Option Expr) (f : FP) : Prop := QP X W e (wp f)
theorem kp_none : KP X W none fpNone := QP.le qp_none fun env Q Xp h => h
theorem kp_some (h : KE X W e f) : KP X W (some e) (fpSome f) := QP.le (qp_some h) fun env Q Xp h => by
  unfold fpSome at h
  rw [wp_bd] at h
  refine wp_mono h fun d e h => ?_
  cases d with
  | int i => exact h
  | _ => exact h.elim
def fSl (fa : FO) (fl fh : FP) : FE := fun env => (fa env).bd fun h e1 => (fl e1).bd fun lo e2 => (fh e2).bd fun hi e3 => match hv e3 h with
  | some (.lst ds) => .ok (.lst (cutD ds lo hi)) e3
  | _ => .bad
theorem kf_sl {lo hi : Option Expr} {pl ph : FP} {p2 : Pos} (ha : KO X W a fa) (hl : KP X W lo pl) (hh : KP X W hi ph) : KF X W (.Subscript a (.Slice lo hi none p2) pos) (fSl fa pl ph) := QF.le (qf_sl ha hl hh) fun env Q Xp h => by
  unfold fSl at h
  rw [wp_bd] at h
  refine wp_mono (f := fa) h fun h1 e1 h => ?_
  rw [Re.on_bd] at h
  refine wp_mono (f := pl) h fun lo e2 h => ?_
  rw [Re.on_bd] at h
  refine wp_mono (f := ph) h fun hi e3 h => ?_
  cases z : hv e3 h1 with
  | none =>
    rw [z] at h
    exact h
  | some d =>
    rw [z] at h
    cases d with
    | lst ds => exact h
    | _ => exact h.elim
def g1' (g : D → Option D) (ds : List D) : Option D := match ds with
  | [d] => g d
  | _ => none
theorem hk1 {g : D → Option D} {k : D → (D → Prop) → Prop} (hk : ∀ d P, mo (g d) P → k d P) : ∀ ds P, mo (g1' g ds) P → mo (one ds) fun d => k d P := fun ds P h => by
  match ds, h with
  | [], h => exact h.elim
  | [d], h => exact hk d P h
  | _ :: _ :: _, h => exact h.elim
theorem wN_nil {k : List D → (D → Prop) → Prop} {env : Ev} {Q : D → Ev → Prop} {Xp : XP} (h : wN k (wp (fCons fa fNil)) env Q Xp) : wN k (aCons (wp fa) aNil) env Q Xp := by
  have h' : wp (fCons fa fNil) env _ Xp := h
  unfold fCons at h'
  rw [wp_bd] at h'
  exact wp_mono (f := fa) h' fun hd e h => h
theorem wN_nil2 {k : List D → (D → Prop) → Prop} {env : Ev} {Q : D → Ev → Prop} {Xp : XP} (h : wN k (wp (fCons fa (fCons fb fNil))) env Q Xp) : wN k (aCons (wp fa) (aCons (wp fb) aNil)) env Q Xp := by
  have h' : wp (fCons fa (fCons fb fNil)) env _ Xp := h
  unfold fCons at h'
  rw [wp_bd] at h'
  refine wp_mono (f := fa) h' fun hd e h => ?_
  rw [Re.on_bd, Re.on_bd] at h
  exact wp_mono (f := fb) h fun hd2 e h => h
def gLen (d : D) : Option D := match seqOf d with
  | some xs => some (.int xs.length)
  | none => none
theorem ke_len (hm : X.mg "len" = none) (ha : KO X W e fa) (hg : Gl X "len" := by rfl) (he : starEach [e] X.env = (false, eval e X.env) :: starEach [] X.env := by rfl) (hpl : (backTo pos (starEach [] X.env)).any (·.1) = false := by rfl) :
    KE X W (.Call (.Name "len" p) [e] [] pos) (fN (g1' gLen) (fCons fa fNil)) := QE.le (qe_len hm ha hg he hpl) fun env Q Xp h => by
  refine wN_nil (leN (k := kLen) (hk1 fun d P h => ?_) env Q Xp h)
  unfold gLen at h
  cases z : seqOf d with
  | none =>
    rw [z] at h
    exact h
  | some xs =>
    rw [z] at h
    exact h
def gAbs (d : D) : Option D := match d with
  | .int i => some (.int (if i < 0 then -i else i))
  | _ => none
theorem ke_abs (hm : X.mg "abs" = none) (ha : KO X W e fa) (hg : Gl X "abs" := by rfl) (he : starEach [e] X.env = (false, eval e X.env) :: starEach [] X.env := by rfl) (hpl : (backTo pos (starEach [] X.env)).any (·.1) = false := by rfl) :
    KE X W (.Call (.Name "abs" p) [e] [] pos) (fN (g1' gAbs) (fCons fa fNil)) := QE.le (qe_abs hm ha hg he hpl) fun env Q Xp h => by
  refine wN_nil (leN (k := kAbs) (hk1 fun d P h => ?_) env Q Xp h)
  cases d with
  | int i => exact h
  | _ => exact h.elim
def gInt (d : D) : Option D := match d with
  | .int i => some (.int i)
  | .bl b => some (.int (if b = true then 1 else 0))
  | _ => none
theorem ke_intc (hm : X.mg "int" = none) (ha : KO X W e fa) (hg : Gl X "int" := by rfl) (he : starEach [e] X.env = (false, eval e X.env) :: starEach [] X.env := by rfl) (hpl : (backTo pos (starEach [] X.env)).any (·.1) = false := by rfl) :
    KE X W (.Call (.Name "int" p) [e] [] pos) (fN (g1' gInt) (fCons fa fNil)) := QE.le (qe_intc hm ha hg he hpl) fun env Q Xp h => by
  refine wN_nil (leN (k := kInt) (hk1 fun d P h => ?_) env Q Xp h)
  cases d with
  | int i => exact h
  | bl b => exact h
  | _ => exact h.elim
def gListOf (d : D) : Option D := match seqOf d with
  | some xs => some (.lst xs)
  | none => none
def gTupOf (d : D) : Option D := match seqOf d with
  | some xs => some (.tup xs)
  | none => none
theorem ke_tuple (hm : X.mg "tuple" = none) (ha : KO X W e fa) (hg : Gl X "tuple" := by rfl) (he : starEach [e] X.env = (false, eval e X.env) :: starEach [] X.env := by rfl) (hpl : (backTo pos (starEach [] X.env)).any (·.1) = false := by rfl) :
    KE X W (.Call (.Name "tuple" p) [e] [] pos) (fN (g1' gTupOf) (fCons fa fNil)) := QE.le (qe_tuple hm ha hg he hpl) fun env Q Xp h => by
  refine wN_nil (leN (k := kTuple) (hk1 fun d P h => ?_) env Q Xp h)
  unfold gTupOf at h
  cases z : seqOf d with
  | none =>
    rw [z] at h
    exact h
  | some xs =>
    rw [z] at h
    exact h
def g2' (g : Int → Int → D) (ds : List D) : Option D := match ds with
  | [d, d'] => gI0 g d d'
  | _ => none
theorem hk2' {g : Int → Int → D} : ∀ ds P, mo (g2' g ds) P → mo (two ds) fun q => mo (intOf q.1) fun i => mo (intOf q.2) fun j => P (g i j) := fun ds P h => by
  match ds, h with
  | [], h => exact h.elim
  | [d], h => exact h.elim
  | [d, d'], h => exact hk_I0 d d' P h
  | _ :: _ :: _ :: _, h => exact h.elim
theorem ke_min2 {e2 : Expr} (hc : X.calm = true) (hm : X.mg "min" = none) (ha : KO X W e fa) (hb : KO X W e2 fb) (hg : Gl X "min" := by rfl) (he : starEach [e, e2] X.env = (false, eval e X.env) :: starEach [e2] X.env := by rfl) (he2 : starEach [e2] X.env = (false, eval e2 X.env) :: starEach [] X.env := by rfl) (hpl : (backTo pos (starEach [e2] X.env)).any (·.1) = false := by rfl) :
    KE X W (.Call (.Name "min" p) [e, e2] [] pos) (fN (g2' fun i j => .int (if j < i then j else i)) (fCons fa (fCons fb fNil))) := QE.le (qe_min2 hc hm ha hb hg he he2 hpl) fun env Q Xp h => wN_nil2 (leN (k := kMin2) hk2' env Q Xp h)
variable {tb : List CI} {ks : List Str}
def gIsi (tb : List CI) (cs : List Cn) (d : D) : Option D := match tagOf tb d with
  | some g => some (.bl (cs.any (isa g)))
  | none => none
theorem hk_isi {cs : List Cn} : ∀ d P, mo (gIsi tb cs d) P → kIsi tb cs d P := fun d P h => by
  unfold gIsi at h
  unfold kIsi
  cases z : tagOf tb d with
  | none =>
    rw [z] at h
    exact h
  | some g =>
    rw [z] at h
    exact h
theorem ke_isi {cl : Expr} {cn : Cn} (T : CT X.K tb ks) (hk : cnOk ks cn = true) (hm : X.mg "isinstance" = none) (ha : KO X W e fa) (hc : PCn X cl cn) (hg : Gl X "isinstance" := by rfl)
    (he : starEach [e, cl] X.env = (false, eval e X.env) :: starEach [cl] X.env := by rfl) (he2 : starEach [cl] X.env = (false, eval cl X.env) :: starEach [] X.env := by rfl) (hpl : (backTo pos (starEach [cl] X.env)).any (·.1) = false := by rfl) :
    KE X W (.Call (.Name "isinstance" p) [e, cl] [] pos) (f1 (gIsi tb [cn]) fa) := QE.le (qe_isi T hk hm ha hc hg he he2 hpl) (le1 hk_isi)
theorem ke_isiT {cls : List Expr} {cns : List Cn} {k1 : Nat} {tp : Pos} (T : CT X.K tb ks) (hk : cns.all (cnOk ks) = true) (hl : cns.length ≤ 100) (hm : X.mg "isinstance" = none) (ha : KO X W e fa) (hc : PCns X cls cns) (hg : Gl X "isinstance" := by rfl)
    (he : starEach [e, .Tuple cls k1 tp] X.env = (false, eval e X.env) :: starEach [.Tuple cls k1 tp] X.env := by rfl) (he2 : starEach [.Tuple cls k1 tp] X.env = (false, eval (.Tuple cls k1 tp) X.env) :: starEach [] X.env := by rfl) (hpl : (backTo pos (starEach [.Tuple cls k1 tp] X.env)).any (·.1) = false := by rfl) :
    KE X W (.Call (.Name "isinstance" p) [e, .Tuple cls k1 tp] [] pos) (f1 (gIsi tb cns) fa) := QE.le (qe_isiT T hk hl hm ha hc hg he he2 hpl) (le1 hk_isi)
def gFld (tb : List CI) (f : Str) (d : D) : Option D := if fldOk tb f d = true then fldOf f d else none
theorem ke_fld {f : Str} (T : CT X.K tb ks) (ha : KO X W e fa) (hb : attributeBase e f X.env (eval e X.env) = eval e X.env := by rfl) : KE X W (.Attribute e f pos) (f1 (gFld tb f) fa) := QE.le (qe_fld T ha hb) (le1 fun d P h => by
  unfold gFld at h
  unfold kFld
  cases z : fldOk tb f d with
  | false =>
    rw [z] at h
    exact h.elim
  | true =>
    rw [z] at h
    exact ⟨rfl, h⟩)
def gLR (d : D) : Option D := match d with
  | .int n => if 0 ≤ n ∧ n ≤ 1000000 then some (.lst (rgD 0 n.toNat)) else none
  | _ => none
def fLR (f : FE) : FE := fun env => (f env).bd fun d e => ol (gLR d) e
def gRep (d d' : D) : Option D := match d, d' with
  | .lst ds, .int k => if -1000000 ≤ k ∧ k ≤ 1000000 ∧ ds.length * k.toNat ≤ 1000000 then some (.lst (List.replicate k.toNat ds).flatten) else none
  | _, _ => none
def fRep (fa fb : FE) : FE := fun env => (fa env).bd fun d e1 => (fb e1).bd fun d' e2 => ol (gRep d d') e2
theorem kf_rep (ha : KF X W a f) (hb : KE X W b g) : KF X W (.BinOp a .Mult b pos) (fRep f g) := QF.le (qf_rep ha hb) fun env Q Xp h => by
  unfold fRep at h
  rw [wp_bd] at h
  refine wp_mono h fun d e h => ?_
  rw [Re.on_bd] at h
  refine wp_mono (f := g) h fun d' e2 h => ?_
  rw [on_ol] at h
  cases d with
  | lst ds =>
    cases d' with
    | int k => exact if_p h
    | _ => exact h.elim
  | _ => exact h.elim
end
end TL

namespace TL
open PySem PySem.Spec L2
inductive Sr where
  | nx (e : Ev) | rt (d : D) (e : Ev) | ro (d : D) (e : Ev) | bk (e : Ev) | ct (e : Ev) | xc (x : Xn) (e : Ev) | bad
def Sr.on (r : Sr) (E : En) : Prop := match r with
  | .nx e => E.nx e
  | .rt d e => E.rt d e
  | .ro d e => E.ro d e
  | .bk e => E.bk e
  | .ct e => E.ct e
  | .xc x e => E.xc x e
  | .bad => False
abbrev FS := Ev → Sr
def ws (f : FS) : WS := fun env E => (f env).on E
def Re.st {α : Type} (r : Re α) (k : α → Ev → Sr) : Sr := match r with
  | .ok a e => k a e
  | .xc x e => .xc x e
  | .bad => .bad
theorem Re.on_st {α : Type} {r : Re α} {k : α → Ev → Sr} {E : En} : (r.st k).on E = r.on (fun a e => (k a e).on E) E.xc := by
  cases r <;> rfl
def Sr.sq (r : Sr) (k : FS) : Sr := match r with
  | .nx e => k e
  | .rt d e => .rt d e
  | .ro d e => .ro d e
  | .bk e => .bk e
  | .ct e => .ct e
  | .xc x e => .xc x e
  | .bad => .bad
theorem Sr.on_sq {r : Sr} {k : FS} {E : En} : (r.sq k).on E = r.on { E with nx := fun e => (k e).on E } := by
  cases r <;> rfl
theorem on_iteS {b : Bool} {x y : Sr} {E : En} : (if b = true then x else y).on E = if b = true then x.on E else y.on E := by
  cases b <;> rfl
section
variable {X : Cx} {W : WX} {a b c e : Expr} {es : List Expr} {pos p : Pos} {st : Stmt} {l : List Stmt} {fa fb : FO} {f g : FE} {fl : FA} {ft fu : FT} {s u : FS} {rest : List Stmt}
abbrev KS (X : Cx) (W : WX) (st : Stmt) (s : FS) : Prop := QS X W st (ws s)
abbrev KSs (X : Cx) (W : WX) (l : List Stmt) (s : FS) : Prop := QSs X W l (ws s)
def cNext : FS := fun env => .nx env
def cSeq (s u : FS) : FS := fun env => (s env).sq u
theorem kss_nil : KSs X W [] cNext := QSs.le qss_nil fun env E h => h
theorem kss_one (h : KS X W st s) : KSs X W [st] s := qss_one h
theorem kss_cons (h1 : KS X W st s) (h2 : KSs X W rest u) : KSs X W (st :: rest) (cSeq s u) := QSs.le (qss_cons h1 h2) fun env E h => by
  unfold ws cSeq at h
  rw [Sr.on_sq] at h
  exact h
def cBreak : FS := fun env => .bk env
def cCont : FS := fun env => .ct env
def cDrop (f : FO) : FS := fun env => (f env).st fun _ e => .nx e
theorem ks_expr (he : KO X W e fa) (hs : swapsWith e none pos.line X.env = pure false := by rfl) : KS X W (.Expr e pos) (cDrop fa) := QS.le (qs_expr he hs) fun env E h => by
  unfold ws cDrop at h
  rw [Re.on_st] at h
  exact h
def cRet (f : FE) : FS := fun env => (f env).st fun d e => .rt d e
theorem ks_ret (he : KE X W e f) : KS X W (.Return (some e) pos) (cRet f) := QS.le (qs_ret he) fun env E h => by
  unfold ws cRet at h
  rw [Re.on_st] at h
  exact h
def cRetF (f : FE) : FS := fun env => (f env).st fun d e => .ro d e
theorem ks_retF (he : KF X W e f) : KS X W (.Return (some e) pos) (cRetF f) := QS.le (qs_retF he) fun env E h => by
  unfold ws cRetF at h
  rw [Re.on_st] at h
  exact h
def cRetO (i : Nat) : FS := fun env => match lowAt env i with
  | some d => .ro d env
  | none => .bad
theorem ks_retO (i : Nat) {n : Str} {np : Pos} (hN : X.N[i]? = some n := by rfl) (hvs : Vis X.env.scope n := by first | exact Or.inl rfl | exact Or.inr (Or.inl rfl) | exact Or.inr (Or.inr rfl)) (hd : (n == ("__debug__" : Str)) = false := by decide)
    (hcd : (n == ("__classdict__" : Str)) = false := by decide) : KS X W (.Return (some (.Name n np)) pos) (cRetO i) := QS.le (qs_retO i hN hvs hd hcd) fun env E h => by
  unfold ws cRetO at h
  unfold sRetO
  cases z : lowAt env i with
  | none =>
    rw [z] at h
    exact h
  | some d =>
    rw [z] at h
    exact h
def cRetN : FS := fun env => .rt .non env
def cIf (ft : FT) (s u : FS) : FS := fun env => (ft env).st fun k e => if k = true then s e else u e
theorem ks_if {l1 l2 : List Stmt} (hc : KT X W c ft) (ha : KSs X W l1 s) (hb : KSs X W l2 u) : KS X W (.If c l1 l2 pos) (cIf ft s u) := QS.le (qs_if hc ha hb) fun env E h => by
  unfold ws cIf at h
  rw [Re.on_st] at h
  refine wp_mono (f := ft) h fun k e h => ?_
  rw [on_iteS] at h
  exact h
abbrev FG := D → Ev → Option Ev
abbrev FGs := List D → Ev → Option Ev
def wg (g : FG) : WG := fun d env Q => mo (g d env) Q
def wgs (g : FGs) : WGs := fun d env Q => mo (g d env) Q
abbrev KG (X : Cx) (e : Expr) (g : FG) : Prop := QG X e (wg g)
abbrev KGs (X : Cx) (es : List Expr) (g : FGs) : Prop := QGs X es (wgs g)
def tN (i : Nat) : FG := fun d env => if nr env i = true then some (env.set i (.im d)) else none
def tNil : FGs := fun ds env => match ds with
  | [] => some env
  | _ => none
def tCons (g : FG) (u : FGs) : FGs := fun ds env => match ds with
  | [] => none
  | d :: r => (g d env).bind (u r)
def tT (u : FGs) (n : Nat) : FG := fun d env => match d with
  | .tup ds => if ds.length = n then u ds env else none
  | _ => none
theorem mo_bind {α β : Type} {o : Option α} {k : α → Option β} {Q : β → Prop} : mo (o.bind k) Q = mo o fun a => mo (k a) Q := by
  cases o <;> rfl
theorem mo_if {α : Type} {p : Prop} [Decidable p] {o : Option α} {P : α → Prop} (h : mo (if p then o else none) P) : p ∧ mo o P := by
  by_cases q : p
  · rw [if_pos q] at h
    exact ⟨q, h⟩
  · rw [if_neg q] at h
    exact h.elim
theorem kg_name {i : Nat} {n : Str} (hN : X.N.Nodup) (hi : X.N[i]? = some n) (hx : Loc X.env.scope n) (hf : X.fn n = true ∨ X.env.scope.names.lookup n = some .local := by first | exact .inl rfl | exact .inr rfl | assumption) : KG X (.Name n pos) (tN i) := QG.le (qg_name hN hi hx hf) fun d env Q h => by
  unfold wg tN at h
  exact mo_if h
theorem kgs_nil : KGs X [] tNil := QGs.le qgs_nil fun ds env Q h => by
  match ds, h with
  | [], h => exact ⟨rfl, h⟩
  | _ :: _, h => exact h.elim
theorem kgs_cons {g : FG} {gu : FGs} (h1 : KG X e g) (h2 : KGs X es gu) (hs : (assignEach (e :: es) X.env).map (·.2) = assign e X.env :: (assignEach es X.env).map (·.2) := by rfl) : KGs X (e :: es) (tCons g gu) := QGs.le (qgs_cons h1 h2 hs) fun ds env Q h => by
  match ds, h with
  | [], h => exact h.elim
  | d :: r, h =>
    have h' : mo ((g d env).bind (gu r)) Q := h
    rw [mo_bind] at h'
    exact h'
theorem kg_tup {k n : Nat} {gu : FGs} (hc : X.calm = true) (h : KGs X es gu) (hn : (assignEach es X.env).length = n := by rfl) (hst : (assignEach es X.env).findIdx? (·.1) = none := by rfl) : KG X (.Tuple es k pos) (tT gu n) := QG.le (qg_tup hc h hn hst) fun d env Q h => by
  cases d with
  | tup ds => exact mo_if h
  | _ => exact h.elim
def ofG (o : Option Ev) : Sr := match o with
  | some e => .nx e
  | none => .bad
def cAsg (f : FE) (g : FG) : FS := fun env => (f env).st fun d e => ofG (g d e)
theorem on_ofG {o : Option Ev} {E : En} : (ofG o).on E = mo o E.nx := by
  cases o <;> rfl
theorem leAsg {gg : FG} : ∀ env E, ws (cAsg f gg) env E → sAsg (wp f) (wg gg) env E := fun env E h => by
  unfold ws cAsg at h
  rw [Re.on_st] at h
  refine wp_mono (f := f) h fun d e h => ?_
  rw [on_ofG] at h
  exact h
theorem ks_asg {tg : Expr} {gg : FG} (he : KE X W e f) (hg : KG X tg gg) (hs : swapsWithSole [tg] e pos.line X.env = pure false := by rfl) (hw : swappedStores [tg] e X.env = pure none := by rfl)
    (h1 : (assignEach [tg] X.env).map (·.2) = [assign tg X.env] := by rfl) : KS X W (.Assign [tg] e pos) (cAsg f gg) := QS.le (qs_asg he hg hs hw h1) leAsg
theorem leAsgN {i : Nat} : ∀ env E, ws (cAsg f (tN i)) env E → sAsg (wp f) (gN i) env E := fun env E h => by
  unfold ws cAsg at h
  rw [Re.on_st] at h
  refine wp_mono (f := f) h fun d e h => ?_
  rw [on_ofG] at h
  exact mo_if h
theorem ks_set {i : Nat} {n : Str} {pos' : Pos} (hN : X.N.Nodup) (hi : X.N[i]? = some n) (hx : Loc X.env.scope n) (he : KE X W e f) (hs : swapsWith e (some (.Name n pos')) pos.line X.env = pure false := by rfl) (hf : X.fn n = true ∨ X.env.scope.names.lookup n = some .local := by first | exact .inl rfl | exact .inr rfl | assumption) :
    KS X W (.Assign [.Name n pos'] e pos) (cAsg f (tN i)) := QS.le (qs_set hN hi hx he hs hf) leAsgN
def setO (e : Ev) (i : Nat) (d : D) : Sr := if nr e i = true then .nx (e.set i (.ow false d)) else .bad
def cOwn (f : FE) (i : Nat) : FS := fun env => (f env).st fun d e => setO e i d
theorem on_if {p : Prop} [Decidable p] {x : Sr} {E : En} (h : (if p then x else .bad).on E) : p ∧ x.on E := by
  by_cases q : p
  · rw [if_pos q] at h
    exact ⟨q, h⟩
  · rw [if_neg q] at h
    exact h.elim
theorem leOwn {i : Nat} : ∀ env E, ws (cOwn f i) env E → sOwn (wp f) i env E := fun env E h => by
  unfold ws cOwn at h
  rw [Re.on_st] at h
  refine wp_mono (f := f) h fun d e h => ?_
  exact on_if h
theorem ks_own {i : Nat} {n : Str} {pos' : Pos} (hN : X.N.Nodup) (hi : X.N[i]? = some n) (hx : Loc X.env.scope n) (he : KF X W e f) (hs : swapsWith e (some (.Name n pos')) pos.line X.env = pure false := by rfl) (hf : X.fn n = true ∨ X.env.scope.names.lookup n = some .local := by first | exact .inl rfl | exact .inr rfl | assumption) :
    KS X W (.Assign [.Name n pos'] e pos) (cOwn f i) := QS.le (qs_own hN hi hx he hs hf) leOwn
def cPar (f g : FE) (i j : Nat) : FS := fun env => (f env).st fun d e1 => (g e1).st fun d' e2 => if nr e2 i = true ∧ nr e2 j = true then .nx ((e2.set i (.im d)).set j (.im d')) else .bad
def cParF (f g : FE) (i j : Nat) : FS := fun env => (f env).st fun d e1 => (g e1).st fun d' e2 => if nr e2 i = true ∧ nr e2 j = true then .nx ((e2.set j (.im d')).set i (.ow false d)) else .bad
def cFrz (i : Nat) (s : FS) : FS := fun env => match lowAt env i with
  | some d => s (env.set i (.im d))
  | none => .bad
def Sr.fg (is : List Nat) (r : Sr) : Sr := match r with
  | .nx e => if nrs e is = true then .nx (noE e is) else .bad
  | .rt d e => if nrs e is = true then .rt d (noE e is) else .bad
  | .ro d e => if nrs e is = true then .ro d (noE e is) else .bad
  | .bk e => if nrs e is = true then .bk (noE e is) else .bad
  | .ct e => if nrs e is = true then .ct (noE e is) else .bad
  | .xc x e => if nrs e is = true then .xc x (noE e is) else .bad
  | .bad => .bad
def En.fg (is : List Nat) (E : En) : En where
  nx := fun e => nrs e is = true ∧ E.nx (noE e is)
  rt := fun d e => nrs e is = true ∧ E.rt d (noE e is)
  ro := fun d e => nrs e is = true ∧ E.ro d (noE e is)
  bk := fun e => nrs e is = true ∧ E.bk (noE e is)
  ct := fun e => nrs e is = true ∧ E.ct (noE e is)
  xc := fun x e => nrs e is = true ∧ E.xc x (noE e is)
theorem Sr.on_fg {is : List Nat} {r : Sr} {E : En} (h : (r.fg is).on E) : r.on (E.fg is) := by
  cases r with
  | bad => exact h
  | _ => exact on_if h
theorem ER.fgt {K : PySem.W.Frag} {x : Fx} {G H : Hp} {σ : St} {e : Ev} {is : List Nat} (r : ER K x G H σ e) (hn : nrs e is = true) : ER K x G H σ (noE e is) := r.reslot rfl (fun _ _ => rfl) hn
theorem SEnd.fg {K : PySem.W.Frag} {x : Fx} {G : Hp} {De : Ends} {E : En} {is : List Nat} (h : SEnd K W x G De E) : SEnd K W x G De (E.fg is) where
  nx := fun env' σ' G' H' s r q => h.nx _ σ' G' H' s (r.fgt q.1) q.2
  rt := fun d env' σ' v G' H' s r rp q => h.rt d _ σ' v G' H' s (r.fgt q.1) rp q.2
  ro := fun d env' σ' p o G' H' s r a1 a2 a3 a4 a5 q => h.ro d _ σ' p o G' H' s (r.fgt q.1) a1 a2 a3 a4 a5 q.2
  bk := fun env' σ' G' H' s r q => h.bk _ σ' G' H' s (r.fgt q.1) q.2
  ct := fun env' σ' G' H' s r q => h.ct _ σ' G' H' s (r.fgt q.1) q.2
  xc := fun e env' cls dd σ' G' H' s r xr q => h.xc e _ cls dd σ' G' H' s (r.fgt q.1) xr q.2
def cKil (is : List Nat) (s : FS) : FS := fun env => (s env).fg is
theorem kss_kil (is : List Nat) {l : List Stmt} (h : KSs X W l s) : KSs X W l (cKil is s) := L2.PSs.le h fun De σ H h => by
  obtain ⟨x, G, env, E', r, hw, hE⟩ := h
  exact ⟨x, G, env, E'.fg is, r, Sr.on_fg hw, hE.fg⟩
def forL (g : FG) (b : FS) : List D → FS
  | [], e => .nx e
  | d :: ds, e => match g d e with
    | none => .bad
    | some e1 => match b e1 with
      | .nx e2 => forL g b ds e2
      | .ct e2 => forL g b ds e2
      | .bk e2 => .nx e2
      | r => r
def cFor (fi : FI) (g : FG) (b : FS) : FS := fun env => (fi env).st fun ds e => forL g b ds e
theorem forL_cons {g : FG} {b : FS} {d : D} {ds : List D} {e : Ev} {E : En} (h : (forL g b (d :: ds) e).on E) : wg g d e fun e1 => ws b e1 { E with nx := fun e2 => (forL g b ds e2).on E, ct := fun e2 => (forL g b ds e2).on E, bk := E.nx } := by
  unfold wg
  have h' : Sr.on (match g d e with | none => .bad | some e1 => match b e1 with | .nx e2 => forL g b ds e2 | .ct e2 => forL g b ds e2 | .bk e2 => .nx e2 | r => r) E := h
  cases z : g d e with
  | none =>
    rw [z] at h'
    exact h'
  | some e1 =>
    rw [z] at h'
    show (b e1).on _
    dsimp only at h'
    cases y : b e1 with
    | bad =>
      rw [y] at h'
      exact h'
    | _ =>
      rw [y] at h'
      exact h'
abbrev KIt (X : Cx) (W : WX) (tg iter : Expr) (f : FI) : Prop := QI X W tg iter (wp f)
theorem ks_for {tg iter : Expr} {body : List Stmt} {fi : FI} {gg : FG} (hp : PassesOwn (model X.prog X.w) X.A X.env X.xe) (hc : X.calm = true) (hi : KIt X W tg iter fi) (hg : KG X tg gg) (hb : KSs X W body s) (hs : ∀ x, foldedSetIterable iter X.env x = pure x := by intro _; rfl) :
    KS X W (.For tg iter body [] pos) (cFor fi gg s) := QS.le (qs_for hp hc hi hg hb hs) fun env E h => by
  unfold ws cFor at h
  rw [Re.on_st] at h
  refine wp_mono (f := fi) h fun ds e0 h => ?_
  refine ⟨fun i e => (forL gg s (ds.drop i) e).on E, h, fun i d e hd hi => ?_, fun e he => ?_⟩
  · have hl : i < ds.length := (List.getElem?_eq_some_iff.mp hd).1
    have ed : ds.drop i = d :: ds.drop (i + 1) := by
      rw [List.drop_eq_getElem_cons hl]
      congr 1
      rw [List.getElem?_eq_getElem hl] at hd
      exact Option.some.inj hd
    have hi' : (forL gg s (ds.drop i) e).on E := hi
    rw [ed] at hi'
    exact forL_cons hi'
  · have he' : (forL gg s (ds.drop ds.length) e).on E := he
    rw [List.drop_length] at he'
    exact he'
def fiBy (k : D → Option (List D)) (f : FE) : FI := fun env => (f env).bd fun d e => ol (k d) e
theorem leBy {k : D → Option (List D)} : ∀ env Q Xp, wp (fiBy k f) env Q Xp → wp f env (fun d e => mo (k d) fun ds => Q ds e) Xp := fun env Q Xp h => by
  unfold fiBy at h
  rw [wp_bd] at h
  refine wp_mono h fun d e h => ?_
  rw [on_ol] at h
  exact h
theorem ki_seq {tg : Expr} (h : KE X W e f) : KIt X W tg e (fiBy seqOf f) := ((qi_list h).or (qi_tup h)).le fun σ H R h => by
  obtain ⟨x, G, env, Q', X', r, hw, hn, hx⟩ := h
  have hw' := leBy _ _ _ hw
  unfold wp at hw'
  cases z : f env with
  | bad =>
    rw [z] at hw'
    exact hw'.elim
  | xc x' e' =>
    rw [z] at hw'
    refine .inl ⟨x, G, env, Q', X', r, ?_, hn, hx⟩
    show (f env).on _ _
    rw [z]
    exact hw'
  | ok d e' =>
    rw [z] at hw'
    obtain ⟨ds, z2, hw'⟩ := mo_some hw'
    rcases seqOf_some z2 with rfl | rfl
    · refine .inl ⟨x, G, env, Q', X', r, ?_, hn, hx⟩
      show (f env).on _ _
      rw [z]
      exact hw'
    · refine .inr ⟨x, G, env, Q', X', r, ?_, hn, hx⟩
      show (f env).on _ _
      rw [z]
      exact hw'
def enOfD (d : D) : Option (List D) := match seqOf d with
  | some ds => some (enD ds)
  | none => none
theorem ki_enum {elts : List Expr} {kk : Nat} {tpos : Pos} (hm : X.mg "enumerate" = none) (ha : KE X W e f) (hg : Gl X "enumerate" := by rfl) (hs : starEach [e] X.env = [(false, eval e X.env)] := by rfl) (hs2 : starEach [e] X.env = (false, eval e X.env) :: starEach [] X.env := by rfl) :
    KIt X W (.Tuple elts kk tpos) (.Call (.Name "enumerate" p) [e] [] pos) (fiBy enOfD f) := ((qi_enum hm ha hg hs hs2).or (qi_enumT hm ha hg hs hs2)).le fun σ H R h => by
  obtain ⟨x, G, env, Q', X', r, hw, hn, hx⟩ := h
  have hw' := leBy _ _ _ hw
  unfold wp at hw'
  cases z : f env with
  | bad =>
    rw [z] at hw'
    exact hw'.elim
  | xc x' e' =>
    rw [z] at hw'
    refine .inl ⟨x, G, env, Q', X', r, ?_, hn, hx⟩
    show (f env).on _ _
    rw [z]
    exact hw'
  | ok d e' =>
    rw [z] at hw'
    have hw2 : mo (enOfD d) fun ds => Q' ds e' := hw'
    unfold enOfD at hw2
    cases y : seqOf d with
    | none =>
      rw [y] at hw2
      exact hw2.elim
    | some ds =>
      rw [y] at hw2
      rcases seqOf_some y with rfl | rfl
      · refine .inl ⟨x, G, env, Q', X', r, ?_, hn, hx⟩
        show (f env).on _ _
        rw [z]
        exact hw2
      · refine .inr ⟨x, G, env, Q', X', r, ?_, hn, hx⟩
        show (f env).on _ _
        rw [z]
        exact hw2
def bnd (j : Int) : Bool := decide (-1000000000000000000 ≤ j) && decide (j ≤ 1000000000000000000)
theorem bnd_ok {j : Int} (h : bnd j = true) : -1000000000000000000 ≤ j ∧ j ≤ 1000000000000000000 := by
  unfold bnd at h
  simpa using h
def rg1 (d : D) : Option (List D) := match d with
  | .int j => if bnd j = true then some (rgD 0 j.toNat) else none
  | _ => none
def rg2 (d d' : D) : Option (List D) := match d, d' with
  | .int i, .int j => if bnd i = true ∧ bnd j = true then some (rgD i (j - i).toNat) else none
  | _, _ => none
theorem ki_range1 {tg : Expr} (hm : X.mg "range" = none) (ha : KE X W e f) (hg : Gl X "range" := by rfl) (hs : starEach [e] X.env = [(false, eval e X.env)] := by rfl) (hs2 : starEach [e] X.env = (false, eval e X.env) :: starEach [] X.env := by rfl) :
    KIt X W tg (.Call (.Name "range" p) [e] [] pos) (fiBy rg1 f) := QI.le (qi_range1 hm ha hg hs hs2) fun env Q Xp h => wp_mono (leBy env Q Xp h) fun d e h => by
  cases d with
  | int j =>
    obtain ⟨q, h⟩ := mo_if h
    exact ⟨bnd_ok q, h⟩
  | _ => exact h.elim
def fiR2 (f g : FE) : FI := fun env => (f env).bd fun d e => (g e).bd fun d' e2 => ol (rg2 d d') e2
end
end TL

namespace TL
open PySem PySem.Spec L2
inductive Fr where
  | rt (d : D) (sl : List Sl) | ro (d : D) (sl : List Sl) | xc (x : Xn) (sl : List Sl) | bad
def Fr.on (r : Fr) (R : Rn) : Prop := match r with
  | .rt d sl => R.rt d sl
  | .ro d sl => R.ro d sl
  | .xc x sl => R.xc x sl
  | .bad => False
abbrev Fn := List Sl → Fr
def TF (F : Fn) : SpT := fun sl R => (F sl).on R
def Sr.fr (r : Sr) (sl : List Sl) : Fr := match r with
  | .nx e => .rt .non (outs sl e)
  | .rt d e => .rt d (outs sl e)
  | .ro d e => .ro d (outs sl e)
  | .xc x e => .xc x (outs sl e)
  | _ => .bad
def fnF (k n : Nat) (b : FS) : Fn := fun sl => if sl.length = n then (b (sl ++ List.replicate (k - sl.length) .no)).fr sl else .bad
theorem tf_len {k n : Nat} {b : FS} : ∀ sl R, TF (fnF k n b) sl R → sl.length = n := fun sl R h => by
  unfold TF fnF at h
  by_cases q : sl.length = n
  · exact q
  · rw [if_neg q] at h
    exact h.elim
theorem tf_sem {N : List Str} {n : Nat} {b : FS} : ∀ sl R, TF (fnF N.length n b) sl R → ws b (envOf N sl) (enOf sl R) := fun sl R h => by
  unfold TF fnF at h
  by_cases q : sl.length = n
  · rw [if_pos q] at h
    unfold ws envOf
    cases z : b (sl ++ List.replicate (N.length - sl.length) .no) with
    | bk e =>
      rw [z] at h
      exact h.elim
    | ct e =>
      rw [z] at h
      exact h.elim
    | _ =>
      rw [z] at h
      exact h
  · rw [if_neg q] at h
    exact h.elim
def callF (F : Fn) (hs : List Hd) (e : Ev) : Re D := if ndup (ows hs) = true then (match slsOf e hs with
    | some sl => (match F sl with
      | .rt d sl' => .ok d (backE e hs sl')
      | .xc x sl' => .xc x (backE e hs sl')
      | _ => .bad)
    | none => .bad) else .bad
def callO (F : Fn) (hs : List Hd) (e : Ev) : Re D := if ndup (ows hs) = true then (match slsOf e hs with
    | some sl => (match F sl with
      | .ro d sl' => .ok d (backE e hs sl')
      | .xc x sl' => .xc x (backE e hs sl')
      | _ => .bad)
    | none => .bad) else .bad
def fCall (F : Fn) (fl : FA) : FE := fun env => (fl env).bd (callF F)
def fCallO (F : Fn) (fl : FA) : FE := fun env => (fl env).bd (callO F)
theorem on_if_re {α : Type} {p : Prop} [Decidable p] {x : Re α} {Q : α → Ev → Prop} {Xp : XP} (h : (if p then x else .bad).on Q Xp) : p ∧ x.on Q Xp := by
  by_cases q : p
  · rw [if_pos q] at h
    exact ⟨q, h⟩
  · rw [if_neg q] at h
    exact h.elim
theorem callF_ok {F : Fn} {hs : List Hd} {e : Ev} {Q : D → Ev → Prop} {Xp : XP} (h : (callF F hs e).on Q Xp) : ndup (ows hs) = true ∧ mo (slsOf e hs) fun sl => TF F sl ⟨fun d sl' => Q d (backE e hs sl'), fun _ _ => False, fun y sl' => Xp y (backE e hs sl')⟩ := by
  obtain ⟨q, h⟩ := on_if_re h
  refine ⟨q, ?_⟩
  cases z : slsOf e hs with
  | none =>
    rw [z] at h
    exact h
  | some sl =>
    rw [z] at h
    show TF F sl _
    unfold TF
    dsimp only at h
    cases y : F sl with
    | ro d sl' =>
      rw [y] at h
      exact h
    | _ =>
      rw [y] at h
      exact h
theorem callO_ok {F : Fn} {hs : List Hd} {e : Ev} {Q : D → Ev → Prop} {Xp : XP} (h : (callO F hs e).on Q Xp) : ndup (ows hs) = true ∧ mo (slsOf e hs) fun sl => TF F sl ⟨fun _ _ => False, fun d sl' => Q d (backE e hs sl'), fun y sl' => Xp y (backE e hs sl')⟩ := by
  obtain ⟨q, h⟩ := on_if_re h
  refine ⟨q, ?_⟩
  cases z : slsOf e hs with
  | none =>
    rw [z] at h
    exact h
  | some sl =>
    rw [z] at h
    show TF F sl _
    unfold TF
    dsimp only at h
    cases y : F sl with
    | rt d sl' =>
      rw [y] at h
      exact h
    | _ =>
      rw [y] at h
      exact h
section
variable {fl : FA} {fr : FO} {F : Fn}
theorem leCall : ∀ env Q Xp, wp (fCall F fl) env Q Xp → wCall (TF F) (wp fl) env Q Xp := fun env Q Xp h => by
  unfold fCall at h
  rw [wp_bd] at h
  exact wp_mono (f := fl) h fun hs e h => callF_ok h
theorem leCallO : ∀ env Q Xp, wp (fCallO F fl) env Q Xp → wCallF (TF F) (wp fl) env Q Xp := fun env Q Xp h => by
  unfold fCallO at h
  rw [wp_bd] at h
  exact wp_mono (f := fl) h fun hs e h => callO_ok h
def methF (m : Str) (Fs : List (Str × Fn)) (fl : FA) (h : Hd) (e : Ev) : Re D := match hv e h with
  | some (.ins c ns _) => if ns.contains m = false then (match Fs.lookup c with
      | some F => (fl e).bd fun hs e2 => callF F (h :: hs) e2
      | none => .bad) else .bad
  | _ => .bad
def fMeth (m : Str) (Fs : List (Str × Fn)) (fr : FO) (fl : FA) : FE := fun env => (fr env).bd (methF m Fs fl)
def TFs (Fs : List (Str × Fn)) : List (Str × SpT) := Fs.map fun q => (q.1, TF q.2)
theorem look_TFs {c : Str} : ∀ {Fs : List (Str × Fn)}, (TFs Fs).lookup c = (Fs.lookup c).map TF
  | [] => rfl
  | (k, F) :: Fs => by
    show List.lookup c ((k, TF F) :: TFs Fs) = _
    rw [List.lookup_cons, List.lookup_cons, look_TFs]
    cases c == k <;> rfl
theorem leMeth {m : Str} {Fs : List (Str × Fn)} {wl : WA} (hl : ∀ env Q Xp, wp fl env Q Xp → wl env Q Xp) : ∀ env Q Xp, wp (fMeth m Fs fr fl) env Q Xp → wMeth m (TFs Fs) (wp fr) wl env Q Xp := fun env Q Xp h => by
  unfold fMeth at h
  rw [wp_bd] at h
  refine wp_mono (f := fr) h fun hd e h => ?_
  unfold methF at h
  cases z : hv e hd with
  | none =>
    rw [z] at h
    exact h
  | some d =>
    rw [z] at h
    cases d with
    | ins c ns ds =>
      obtain ⟨q, h⟩ := on_if_re h
      refine ⟨q, ?_⟩
      show mo ((TFs Fs).lookup c) _
      rw [look_TFs]
      cases y : Fs.lookup c with
      | none =>
        rw [y] at h
        exact h
      | some F =>
        rw [y] at h
        dsimp only at h
        rw [Re.on_bd] at h
        exact hl _ _ _ (wp_mono (f := fl) h fun hs e2 h => callF_ok h)
    | _ => exact h.elim
theorem leMeth0 {m : Str} {Fs : List (Str × Fn)} : ∀ env Q Xp, wp (fMeth m Fs fr fNil) env Q Xp → wMeth m (TFs Fs) (wp fr) aNil env Q Xp := leMeth fun _ _ _ h => h
def makeF (c : Str) (F : Fn) (hs : List Hd) (e : Ev) : Re D := if ndup (ows hs) = true then (match slsOf e hs with
    | some sl => (match F (.ow true (.ins c [] []) :: sl) with
      | .rt .non (.ow _ o :: sl') => .ok o (backE e hs sl')
      | .xc x (.ow _ _ :: sl') => .xc x (backE e hs sl')
      | _ => .bad)
    | none => .bad) else .bad
def fMake (c : Str) (F : Fn) (fl : FA) : FE := fun env => (fl env).bd (makeF c F)
theorem leMake {c : Str} {wl : WA} (hl : ∀ env Q Xp, wp fl env Q Xp → wl env Q Xp) : ∀ env Q Xp, wp (fMake c F fl) env Q Xp → wMake c (TF F) wl env Q Xp := fun env Q Xp h => by
  unfold fMake at h
  rw [wp_bd] at h
  refine hl _ _ _ (wp_mono (f := fl) h fun hs e h => ?_)
  obtain ⟨q, h⟩ := on_if_re h
  refine ⟨q, ?_⟩
  cases z : slsOf e hs with
  | none =>
    rw [z] at h
    exact h
  | some sl =>
    rw [z] at h
    show TF F _ _
    unfold TF
    dsimp only at h
    split at h
    · rename_i y
      rw [y]
      exact ⟨rfl, h⟩
    · rename_i y
      rw [y]
      exact h
    · exact h.elim
theorem leMake1 {c : Str} : ∀ env Q Xp, wp (fMake c F fl) env Q Xp → wMake c (TF F) (wp fl) env Q Xp := leMake fun _ _ _ h => h
end
def lcL (tu : Bool) (is : List Nat) (ft : FT) (fe : FE) : List D → Ev → Re (List D)
  | [], e => .ok [] e
  | d :: ds, e => match tOne tu 0 d with
    | none => .bad
    | some vs => if nrs e is = true ∧ vs.length = is.length then (match ft (setE e is vs) with
      | .ok b e2 => if b = true then (match fe e2 with
          | .ok y e3 => if nrs e3 is = true then (lcL tu is ft fe ds (noE e3 is)).bd fun r e4 => .ok (y :: r) e4 else .bad
          | _ => .bad)
        else if nrs e2 is = true then lcL tu is ft fe ds (noE e2 is) else .bad
      | _ => .bad) else .bad
def lcEnd (r : Re (List D)) : Re D := match r with
  | .ok ds e => if ds.length ≤ 1000000 then .ok (.lst ds) e else .bad
  | _ => .bad
def fLc (fi : FI) (tu : Bool) (is : List Nat) (ft : FT) (fe : FE) : FE := fun env => (fi env).bd fun ds e0 => if nrs e0 is = true then lcEnd (lcL tu is ft fe ds (noE e0 is)) else .bad
section
variable {fi : FI} {tu : Bool} {is : List Nat} {ft : FT} {fe : FE}
theorem leLc : ∀ env Q Xp, wp (fLc fi tu is ft fe) env Q Xp → wLc (wp fi) tu is (wp ft) (wp fe) env Q Xp := fun env Q Xp h => by
  unfold fLc at h
  rw [wp_bd] at h
  refine wp_mono (f := fi) h fun ds e0 h => ?_
  obtain ⟨q, h⟩ := on_if_re h
  refine ⟨q, ?_⟩
  refine ⟨fun k acc e => ∃ r e', lcL tu is ft fe (ds.drop k) e = .ok r e' ∧ (acc ++ r).length ≤ 1000000 ∧ Q (.lst (acc ++ r)) e', ?_, fun k d acc e hd hi => ?_, fun acc e he => ?_⟩
  · cases z : lcL tu is ft fe ds (noE e0 is) with
    | ok r e' =>
      rw [z] at h
      obtain ⟨q, h⟩ := on_if_re h
      exact ⟨r, e', z, q, h⟩
    | xc x e' =>
      rw [z] at h
      exact h.elim
    | bad =>
      rw [z] at h
      exact h.elim
  · obtain ⟨r, e', hr, hn, hq⟩ := hi
    have hl : k < ds.length := (List.getElem?_eq_some_iff.mp hd).1
    have ed : ds.drop k = d :: ds.drop (k + 1) := by
      rw [List.drop_eq_getElem_cons hl]
      congr 1
      rw [List.getElem?_eq_getElem hl] at hd
      exact Option.some.inj hd
    rw [ed] at hr
    unfold lcL at hr
    cases z : tOne tu 0 d with
    | none =>
      rw [z] at hr
      cases hr
    | some vs =>
      rw [z] at hr
      dsimp only at hr
      by_cases c : nrs e is = true ∧ vs.length = is.length
      · rw [if_pos c] at hr
        refine ⟨c.1, c.2, ?_⟩
        show (ft (setE e is vs)).on _ _
        cases y : ft (setE e is vs) with
        | ok b e2 =>
          rw [y] at hr
          dsimp only at hr
          show (if b = true then _ else _)
          cases b with
          | true =>
            rw [if_pos rfl] at hr ⊢
            show (fe e2).on _ _
            cases x : fe e2 with
            | ok y' e3 =>
              rw [x] at hr
              dsimp only at hr
              by_cases c3 : nrs e3 is = true
              · rw [if_pos c3] at hr
                refine ⟨c3, ?_⟩
                cases w : lcL tu is ft fe (ds.drop (k + 1)) (noE e3 is) with
                | ok r2 e4 =>
                  rw [w] at hr
                  have hr' : Re.ok (y' :: r2) e4 = Re.ok r e' := hr
                  cases hr'
                  refine ⟨?_, r2, _, w, ?_, ?_⟩
                  · rw [List.length_append, List.length_cons] at hn
                    omega
                  · rw [List.append_assoc]
                    exact hn
                  · rw [List.append_assoc]
                    exact hq
                | xc x2 e4 =>
                  rw [w] at hr
                  cases hr
                | bad =>
                  rw [w] at hr
                  cases hr
              · rw [if_neg c3] at hr
                cases hr
            | xc x2 e4 =>
              rw [x] at hr
              cases hr
            | bad =>
              rw [x] at hr
              cases hr
          | false =>
            rw [if_neg Bool.false_ne_true] at hr ⊢
            by_cases c3 : nrs e2 is = true
            · rw [if_pos c3] at hr
              exact ⟨c3, r, e', hr, hn, hq⟩
            · rw [if_neg c3] at hr
              cases hr
        | xc x2 e4 =>
          rw [y] at hr
          cases hr
        | bad =>
          rw [y] at hr
          cases hr
      · rw [if_neg c] at hr
        cases hr
  · obtain ⟨r, e', hr, hn, hq⟩ := he
    rw [List.drop_length] at hr
    cases hr
    rw [List.append_nil] at hq
    exact hq
def fYes : FT := fun env => .ok true env
variable {X : Cx} {W : WX} {c e : Expr} {es : List Expr}
abbrev KTs (X : Cx) (W : WX) (ifs : List Expr) (f : FT) : Prop := QTs X W ifs (wp f)
theorem kts_nil : KTs X W [] fYes := QTs.le qts_nil fun env Q Xp h => h
end
section
variable {fl : FA} {f g : FE} {tb : List CI}
def fOm (gm : List D → List D → Option (D × List D)) (i : Nat) (fl : FA) : FE := fun env => match owAt env i with
  | some (.lst _) => (fl env).bd fun hs e => (match ims hs with
    | some as => (match owAt e i with
      | some (.lst ds) => (match gm ds as with
        | some q => .ok q.1 (putOw e i (.lst q.2))
        | none => .bad)
      | _ => .bad)
    | none => .bad)
  | _ => .bad
theorem leOm {k : List D → List D → (D → List D → Prop) → Prop} {gm : List D → List D → Option (D × List D)} {i : Nat} {wl : WA} (hk : ∀ ds as P, mo (gm ds as) (fun q => P q.1 q.2) → k ds as P) (hl : ∀ env Q Xp, wp fl env Q Xp → wl env Q Xp) :
    ∀ env Q Xp, wp (fOm gm i fl) env Q Xp → oMeth k i wl env Q Xp := fun env Q Xp h => by
  unfold wp fOm at h
  unfold oMeth
  cases z : owAt env i with
  | none =>
    rw [z] at h
    exact h.elim
  | some o0 =>
    rw [z] at h
    cases o0 with
    | lst ds0 =>
      dsimp only at h
      rw [Re.on_bd] at h
      refine hl _ _ _ (wp_mono (f := fl) h fun hs e h => ?_)
      cases y : ims hs with
      | none =>
        rw [y] at h
        exact h.elim
      | some as =>
        rw [y] at h
        dsimp only at h
        show mo (owAt e i) _
        cases x : owAt e i with
        | none =>
          rw [x] at h
          exact h.elim
        | some o =>
          rw [x] at h
          cases o with
          | lst ds =>
            dsimp only at h
            show k ds as _
            refine hk ds as _ ?_
            cases w : gm ds as with
            | none =>
              rw [w] at h
              exact h.elim
            | some q =>
              rw [w] at h
              exact h
          | _ => exact h.elim
    | _ => exact h.elim
def mmAppend (ds as : List D) : Option (D × List D) := match as with
  | [d] => if ds.length < 1000000 then some (.non, ds ++ [d]) else none
  | _ => none
theorem hk_append : ∀ ds as P, mo (mmAppend ds as) (fun q => P q.1 q.2) → mAppend ds as P := fun ds as P h => by
  match as, h with
  | [], h => exact h.elim
  | [d], h => exact mo_if h
  | _ :: _ :: _, h => exact h.elim
def mmPopAt (ds as : List D) : Option (D × List D) := match as with
  | [.int i] => if ds.length ≤ 1000000 then (match seqIndex? i ds.length with
    | some k => (match ds[k]? with
      | some y => some (y, ds.eraseIdx k)
      | none => none)
    | none => none) else none
  | _ => none
theorem hk_popAt : ∀ ds as P, mo (mmPopAt ds as) (fun q => P q.1 q.2) → mPopAt ds as P := fun ds as P h => by
  unfold mmPopAt at h
  split at h
  · rename_i i
    obtain ⟨q, h⟩ := mo_if h
    refine ⟨q, ?_⟩
    cases z : seqIndex? i ds.length with
    | none =>
      rw [z] at h
      exact h
    | some k =>
      rw [z] at h
      show mo (ds[k]?) _
      dsimp only at h
      cases y : ds[k]? with
      | none =>
        rw [y] at h
        exact h
      | some d =>
        rw [y] at h
        exact h
  · exact h.elim
def cSetIx (i : Nat) (fi fe : FE) : FS := fun env => (fe env).st fun d e1 => match owAt e1 i with
  | some _ => (fi e1).st fun di e2 => (match di with
    | .int k => (match owAt e2 i with
      | some (.lst ds) => (match ixN ds.length k with
        | some j => .nx (putOw e2 i (.lst (ds.set j d)))
        | none => .bad)
      | _ => .bad)
    | _ => .bad)
  | none => .bad
theorem leSetIx {i : Nat} : ∀ env E, ws (cSetIx i f g) env E → sSetIx i (wp f) (wp g) env E := fun env E h => by
  unfold ws cSetIx at h
  rw [Re.on_st] at h
  refine wp_mono (f := g) h fun d e1 h => ?_
  cases z : owAt e1 i with
  | none =>
    rw [z] at h
    exact h
  | some o =>
    rw [z] at h
    dsimp only at h
    rw [Re.on_st] at h
    refine wp_mono (f := f) h fun di e2 h => ?_
    cases di with
    | int k =>
      dsimp only at h
      show mo (owAt e2 i) _
      cases y : owAt e2 i with
      | none =>
        rw [y] at h
        exact h.elim
      | some o =>
        rw [y] at h
        cases o with
        | lst ds =>
          dsimp only at h
          show mo (ixN ds.length k) _
          cases x : ixN ds.length k with
          | none =>
            rw [x] at h
            exact h.elim
          | some j =>
            rw [x] at h
            exact h
        | _ => exact h.elim
    | _ => exact h.elim
def cFld (tb : List CI) (i : Nat) (fn : Str) (fe : FE) : FS := fun env => (fe env).st fun d e => match owAt e i with
  | some (.ins c ns ds) => if fldOk tb fn (.ins c ns ds) = true ∧ ns.length < 900 then .nx (putOw e i (.ins c (putD fn d ns ds).1 (putD fn d ns ds).2)) else .bad
  | _ => .bad
theorem leFld {i : Nat} {fn : Str} : ∀ env E, ws (cFld tb i fn f) env E → sFldD tb i fn (wp f) env E := fun env E h => by
  unfold ws cFld at h
  rw [Re.on_st] at h
  refine wp_mono (f := f) h fun d e h => ?_
  cases z : owAt e i with
  | none =>
    rw [z] at h
    exact h.elim
  | some o =>
    rw [z] at h
    cases o with
    | ins c ns ds =>
      obtain ⟨q, h⟩ := on_if h
      exact ⟨q.1, q.2, h⟩
    | _ => exact h.elim
def fDic0 : FE := fun env => .ok (.dic [] []) env
def foGet2 (i : Nat) (fk fx : FE) : FE := fun env => match owAt env i with
  | some (.dic _ _) => (fk env).bd fun dk e1 => (fx e1).bd fun dx e2 => (match owAt e2 i with
    | some (.dic ks ds) => (match keyOf dk with
      | some k => .ok ((dval ks ds k).getD dx) e2
      | none => .bad)
    | _ => .bad)
  | _ => .bad
def foGet (i : Nat) (fk : FE) : FE := fun env => match owAt env i with
  | some (.dic _ _) => (fk env).bd fun dk e1 => (match owAt e1 i with
    | some (.dic ks ds) => (match keyOf dk with
      | some k => ol (dval ks ds k) e1
      | none => .bad)
    | _ => .bad)
  | _ => .bad
def cDPut (i : Nat) (fk fe : FE) : FS := fun env => (fe env).st fun d e1 => match owAt e1 i with
  | some (.dic _ _) => (fk e1).st fun dk e2 => (match owAt e2 i with
    | some (.dic ks ds) => (match keyOf dk with
      | some k => if ks.length < 1000000 then .nx (putOw e2 i (.dic (dput ks ds k d).1 (dput ks ds k d).2)) else .bad
      | none => .bad)
    | _ => .bad)
  | _ => .bad
def cRaise (cn fn : Str) (f : FE) : FS := fun env => (f env).st fun d e => .xc ⟨cn, [fn], [d]⟩ e
def cRaise0 (cn : Str) : FS := fun env => .xc ⟨cn, [], []⟩ env
theorem leRaise {cn fn : Str} : ∀ env E, ws (cRaise cn fn f) env E → sRaise cn fn (wp f) env E := fun env E h => by
  unfold ws cRaise at h
  rw [Re.on_st] at h
  exact h
def cNever : FS := fun _ => .bad
def fXf (xf : List (Str × Str)) (a : Addr) (c : Str) (dd : Option Addr) (fn : Str) (i : Nat) : FE := fun env => match imAt env i with
  | some (.exc a' dd' ns ds) => if a' = a ∧ dd' = dd ∧ xf.contains (c, fn) = true then ol ((ns.zip ds).lookup fn) env else .bad
  | _ => .bad
def fChain (k k' : D → D → Option D) (fa fb fc : FO) : FE := fun env => (fa env).bd fun h1 e1 => (fb e1).bd fun h2 e2 => match hv e2 h1 with
  | some d1 => (match hv e2 h2 with
    | some d2 => (match k d1 d2 with
      | some (.bl t) => if t = true then (fc e2).bd fun h3 e3 => (match hv e3 h2 with
          | some d2' => (match hv e3 h3 with
            | some d3 => ol (k' d2' d3) e3
            | none => .bad)
          | none => .bad) else .ok (.bl false) e2
      | _ => .bad)
    | none => .bad)
  | none => .bad
theorem leChain {k k' : D → D → (D → Prop) → Prop} {g g' : D → D → Option D} (hk : ∀ d d' P, mo (g d d') P → k d d' P) (hk' : ∀ d d' P, mo (g' d d') P → k' d d' P) {fa fb fc : FO} : ∀ env Q Xp, wp (fChain g g' fa fb fc) env Q Xp → wChain k k' (wp fa) (wp fb) (wp fc) env Q Xp := fun env Q Xp h => by
  unfold fChain at h
  rw [wp_bd] at h
  refine wp_mono (f := fa) h fun h1 e1 h => ?_
  rw [Re.on_bd] at h
  refine wp_mono (f := fb) h fun h2 e2 h => ?_
  cases z : hv e2 h1 with
  | none =>
    rw [z] at h
    exact h
  | some d1 =>
    rw [z] at h
    dsimp only at h
    show mo (hv e2 h2) _
    cases y : hv e2 h2 with
    | none =>
      rw [y] at h
      exact h
    | some d2 =>
      rw [y] at h
      dsimp only at h
      show k d1 d2 _
      refine hk d1 d2 _ ?_
      cases x : g d1 d2 with
      | none =>
        rw [x] at h
        exact h
      | some t =>
        rw [x] at h
        cases t with
        | bl t =>
          dsimp only at h
          rw [on_ite] at h
          show (if t = true then _ else _)
          cases t with
          | false => exact h
          | true =>
            rw [if_pos rfl] at h ⊢
            rw [Re.on_bd] at h
            refine wp_mono (f := fc) h fun h3 e3 h => ?_
            cases w : hv e3 h2 with
            | none =>
              rw [w] at h
              exact h
            | some d2' =>
              rw [w] at h
              dsimp only at h
              show mo (hv e3 h3) _
              cases v : hv e3 h3 with
              | none =>
                rw [v] at h
                exact h
              | some d3 =>
                rw [v] at h
                dsimp only at h
                rw [on_ol] at h
                exact hk' d2' d3 _ h
        | _ => exact h.elim
theorem leBChain {k k' : D → D → (D → Prop) → Prop} {g g' : D → D → Option D} (hk : ∀ d d' P, mo (g d d') P → k d d' P) (hk' : ∀ d d' P, mo (g' d d') P → k' d d' P) {fa fb fc : FO} : ∀ env Q Xp, wp (fB (fChain g g' fa fb fc)) env Q Xp → wB (wChain k k' (wp fa) (wp fb) (wp fc)) env Q Xp := fun env Q Xp h =>
  leChain hk hk' _ _ _ (leB env Q Xp h)
end
end TL
namespace TL
open PySem PySem.Spec L2
section
variable {X : Cx} {W : WX} {st : Stmt} {s : FS} {i : Nat}
def cPre (is : List Nat) (s : FS) : FS := fun env => if nrs env is = true then s (noE env is) else .bad
theorem qs_le {w w' : WE} (i : ∀ env Q Xp, w' env Q Xp → w env Q Xp) {n : Nat} (h : PS X st (tAsg (lF X.K W w) (gName n))) : PS X st (tAsg (lF X.K W w') (gName n)) := L2.PS.le h fun De σ H h => by
  obtain ⟨x, G, env, Q', X', r, hw, hn, hx⟩ := h
  exact ⟨x, G, env, Q', X', r, i _ _ _ hw, hn, hx⟩
end
end TL

namespace TL
open PySem PySem.Spec L2 RZ PyProof.Rows
section
variable {X : Cx} {W : WX} {a b c e : Expr} {es : List Expr} {pos p : Pos} {st : Stmt} {l : List Stmt} {fa fb fc : FO} {f g : FE} {fl : FA} {ft fu : FT} {K : PySem.W.Frag}
theorem _root_.L2.Room.u65 {k : Nat} {A : Around} (r : Room k A) : A.units + 65 < cLine := by have := r.un; omega
def rInT (K : PySem.W.Frag) : R2 := fun x y H Q => ∃ d ds, Dp K H x d ∧ Dp K H y (.tuple ds) ∧ SeqAt.shaped d = true ∧ SeqAt.shaped (.tuple ds) = true ∧ Q (.bl (ds.any fun z => PyData.eqv z d)) H
def rNotInT (K : PySem.W.Frag) : R2 := fun x y H Q => ∃ d ds, Dp K H x d ∧ Dp K H y (.tuple ds) ∧ SeqAt.shaped d = true ∧ SeqAt.shaped (.tuple ds) = true ∧ Q (.bl (!ds.any fun z => PyData.eqv z d)) H
theorem op_inT (hu : X.A.units + 65 < cLine) : OpR X (compareOp .In) (rInT X.K) := by
  intro pins s σ H x y v u Q I rx ry h
  obtain ⟨d, ds, hd, he, sd, se, q⟩ := h
  obtain ⟨as, r1⟩ := Dp.reads I d x v hd rx
  obtain ⟨bs, r2⟩ := Dp.reads I (.tuple ds) y u he ry
  exact SeqAt.in_tuple_reads r2 r1 (SeqAt.canLay_of_shaped se) (SeqAt.canLay_of_shaped sd) (room_in_shaped sd hu) ⟨.bl _, H, I, rfl, q⟩
theorem op_notInT (hu : X.A.units + 65 < cLine) : OpR X (compareOp .NotIn) (rNotInT X.K) := by
  intro pins s σ H x y v u Q I rx ry h
  obtain ⟨d, ds, hd, he, sd, se, q⟩ := h
  obtain ⟨as, r1⟩ := Dp.reads I d x v hd rx
  obtain ⟨bs, r2⟩ := Dp.reads I (.tuple ds) y u he ry
  exact SeqAt.notIn_tuple_reads r2 r1 (SeqAt.canLay_of_shaped se) (SeqAt.canLay_of_shaped sd) (room_in_shaped sd hu) ⟨.bl _, H, I, rfl, q⟩
def inB (d : D) (ds : List D) : Bool := ds.any fun z => eqD z d
def kInS (neg : Bool) (d1 : D) (d2 : D) (P : D → Prop) : Prop := okD 16 d1 = true ∧ okD 16 d2 = true ∧ mo (lstOf d2) fun ds => P (.bl (neg ^^ inB d1 ds))
def kInU (neg : Bool) (d1 : D) (d2 : D) (P : D → Prop) : Prop := okD 16 d1 = true ∧ okD 16 d2 = true ∧ mo (tupOf d2) fun ds => P (.bl (neg ^^ inB d1 ds))
theorem any_pds (d : D) (ds : List D) : (pds ds).any (fun z => PyData.eqv z (pd d)) = inB d ds := by
  unfold inB
  induction ds with
  | nil =>
    unfold pds
    rfl
  | cons x ds ih =>
    unfold pds
    rw [List.any_cons, List.any_cons, ih]
    rfl
theorem sem_inL : Sem2 K (rInD K) (kInS false) := fun G H d1 d2 v1 v2 P Q s h1 h2 hk hq => by
  obtain ⟨o1, o2, hk⟩ := hk
  obtain ⟨ds, z, hk⟩ := mo_some hk
  rw [lstOf_some z] at h2 o2
  have p2 := RepT.dp s 16 _ _ o2 h2
  have s2 := okD_shaped (by decide) o2
  unfold pd at p2 s2
  refine ⟨pd d1, pds ds, RepT.dp s 16 d1 v1 o1 h1, p2, okD_shaped (by decide) o1, s2, hq _ _ G H (.refl s) ?_ hk⟩
  rw [any_pds, Bool.false_xor]
  rfl
theorem sem_notInL : Sem2 K (rNotInD K) (kInS true) := fun G H d1 d2 v1 v2 P Q s h1 h2 hk hq => by
  obtain ⟨o1, o2, hk⟩ := hk
  obtain ⟨ds, z, hk⟩ := mo_some hk
  rw [lstOf_some z] at h2 o2
  have p2 := RepT.dp s 16 _ _ o2 h2
  have s2 := okD_shaped (by decide) o2
  unfold pd at p2 s2
  refine ⟨pd d1, pds ds, RepT.dp s 16 d1 v1 o1 h1, p2, okD_shaped (by decide) o1, s2, hq _ _ G H (.refl s) ?_ hk⟩
  rw [any_pds, Bool.true_xor]
  rfl
theorem sem_inT : Sem2 K (rInT K) (kInU false) := fun G H d1 d2 v1 v2 P Q s h1 h2 hk hq => by
  obtain ⟨o1, o2, hk⟩ := hk
  obtain ⟨ds, z, hk⟩ := mo_some hk
  rw [tupOf_some z] at h2 o2
  have p2 := RepT.dp s 16 _ _ o2 h2
  have s2 := okD_shaped (by decide) o2
  unfold pd at p2 s2
  refine ⟨pd d1, pds ds, RepT.dp s 16 d1 v1 o1 h1, p2, okD_shaped (by decide) o1, s2, hq _ _ G H (.refl s) ?_ hk⟩
  rw [any_pds, Bool.false_xor]
  rfl
theorem sem_notInT : Sem2 K (rNotInT K) (kInU true) := fun G H d1 d2 v1 v2 P Q s h1 h2 hk hq => by
  obtain ⟨o1, o2, hk⟩ := hk
  obtain ⟨ds, z, hk⟩ := mo_some hk
  rw [tupOf_some z] at h2 o2
  have p2 := RepT.dp s 16 _ _ o2 h2
  have s2 := okD_shaped (by decide) o2
  unfold pd at p2 s2
  refine ⟨pd d1, pds ds, RepT.dp s 16 d1 v1 o1 h1, p2, okD_shaped (by decide) o1, s2, hq _ _ G H (.refl s) ?_ hk⟩
  rw [any_pds, Bool.true_xor]
  rfl
def kInC (neg : Bool) (d1 : D) (d2 : D) (P : D → Prop) : Prop := mo (strOf d2) fun z => ∃ ch : Nat, d1 = .str ⟨#[ch]⟩ ∧ P (.bl (neg ^^ decide (ch ∈ z.cps.toList)))
theorem sem_inC : Sem2 K (fun x y H Q => ∃ (c : Nat) (z : Str), x = .str ⟨#[c]⟩ ∧ y = .str z ∧ Q (.bl (decide (c ∈ z.cps.toList))) H) (kInC false) := fun G H d1 d2 v1 v2 P Q s h1 h2 hk hq => by
  obtain ⟨z, z2, ch, rfl, hk2⟩ := mo_some hk
  rw [strOf_some z2] at h2
  rw [Bool.false_xor] at hk2
  exact ⟨ch, z, h1, h2, hq (.bl _) _ G H (.refl s) rfl hk2⟩
theorem sem_notInC : Sem2 K (fun x y H Q => ∃ (c : Nat) (z : Str), x = .str ⟨#[c]⟩ ∧ y = .str z ∧ Q (.bl (!decide (c ∈ z.cps.toList))) H) (kInC true) := fun G H d1 d2 v1 v2 P Q s h1 h2 hk hq => by
  obtain ⟨z, z2, ch, rfl, hk2⟩ := mo_some hk
  rw [strOf_some z2] at h2
  rw [Bool.true_xor] at hk2
  exact ⟨ch, z, h1, h2, hq (.bl _) _ G H (.refl s) rfl hk2⟩
def gInA (neg : Bool) (d1 d2 : D) : Option D := match d2 with
  | .lst ds => if (okD 16 d1 && okD 16 d2) = true then some (.bl (neg ^^ inB d1 ds)) else none
  | .tup ds => if (okD 16 d1 && okD 16 d2) = true then some (.bl (neg ^^ inB d1 ds)) else none
  | .str z => (match d1 with
    | .str y => (match y.cps.toList with
      | [ch] => some (.bl (neg ^^ decide (ch ∈ z.cps.toList)))
      | _ => none)
    | _ => none)
  | _ => none
def gIn := gInA false
def gNotIn := gInA true
theorem hk_in {neg : Bool} : ∀ d d' P, mo (gInA neg d d') P → kInS neg d d' P ∨ kInU neg d d' P ∨ kInC neg d d' P := fun d d' P h => by
  cases d' with
  | lst ds =>
    obtain ⟨q, h⟩ := if_some h
    rw [Bool.and_eq_true] at q
    exact .inl ⟨q.1, q.2, h⟩
  | tup ds =>
    obtain ⟨q, h⟩ := if_some h
    rw [Bool.and_eq_true] at q
    exact .inr (.inl ⟨q.1, q.2, h⟩)
  | str z =>
    cases d with
    | str y =>
      have h' : mo (match y.cps.toList with | [ch] => some (D.bl (neg ^^ decide (ch ∈ z.cps.toList))) | _ => none) P := h
      split at h'
      · rename_i ch hc
        refine .inr (.inr ⟨ch, ?_, h'⟩)
        obtain ⟨⟨l⟩⟩ := y
        have hc' : l = [ch] := hc
        rw [hc']
      · exact h'.elim
    | _ => exact h.elim
  | _ => exact h.elim
theorem kc_in (hu1 : X.A.units + 65 < cLine) (ha : KO X W a fa) (hb : KO X W b fb) (hm : behindInMarks .In b = false := by first | exact nomark _ | rfl) : KC X W .In a b (f2 gIn fa fb) :=
  kc (qc (OpR.or (op_inD hu1) (OpR.or (op_inT hu1) op_in_sign)) (sem_or sem_inL (sem_or sem_inT sem_inC)) ha hb hm) (le2 hk_in)
theorem kc_notin (hu1 : X.A.units + 65 < cLine) (ha : KO X W a fa) (hb : KO X W b fb) (hm : behindInMarks .NotIn b = false := by first | exact nomark _ | rfl) : KC X W .NotIn a b (f2 gNotIn fa fb) :=
  kc (qc (OpR.or (op_notInD hu1) (OpR.or (op_notInT hu1) op_notIn_sign)) (sem_or sem_notInL (sem_or sem_notInT sem_notInC)) ha hb hm) (le2 hk_in)
def IC (X : Cx) (op : CmpOp) (g : D → D → Option D) : Prop := ∃ r k, OpR X (compareOp op) r ∧ Sem2 X.K r k ∧ ∀ d d' P, mo (g d d') P → k d d' P
theorem ic_le : IC X .LtE gLe := ⟨_, kLe, op_le, sem_rI0 fun _ _ _ => rfl, hk_I0⟩
theorem kt_chain {op op' : CmpOp} {g1 g2 : D → D → Option D} (i1 : IC X op g1) (i2 : IC X op' g2) (ha : KO X W a fa) (hb : KO X W b fb) (hc : KO X W c fc)
    (hm : lastMarks [op, op'] [b, c] = false := by with_unfolding_all rfl) : KT X W (.Compare a [op, op'] [b, c] pos) (fB (fChain g1 g2 fa fb fc)) := by
  obtain ⟨r, k, ho, hk, le⟩ := i1
  obtain ⟨r', k', ho', hk', le'⟩ := i2
  exact QT.le (qt_chain ho ho' hk hk' ha hb hc hm) (leBChain le le')
end
end TL

namespace TL
open PySem PySem.Spec L2
inductive Mv where
  | im (d : D) | fr (d : D)
def Mv.sl : Mv → Sl
  | .im d => .im d
  | .fr d => .ow false d
abbrev WM := Ev → (List Mv → Ev → Prop) → XP → Prop
abbrev FM := Ev → Re (List Mv)
def MR (K : PySem.W.Frag) (x : Fx) (G H : Hp) (σ : St) (env : Ev) : Mv → V → Prop
  | .im d, v => Rep K G d v
  | .fr d, v => ∃ p o, v = .ref p ∧ H p = some o ∧ RepO K G d o ∧ G p = none ∧ x.F p = none ∧ ∀ (j : Nat) b d', env[j]? = some (.ow b d') → σ[j]? ≠ some (some (.ref p))
def frs : List Mv → List V → List Addr
  | .fr _ :: ms, .ref p :: vs => p :: frs ms vs
  | _ :: ms, _ :: vs => frs ms vs
  | _, _ => []
def MRs (K : PySem.W.Frag) (x : Fx) (G H : Hp) (σ : St) (env : Ev) : List Mv → List V → Prop
  | [], vs => vs = []
  | m :: ms, vs => ∃ v r, vs = v :: r ∧ MR K x G H σ env m v ∧ MRs K x G H σ env ms r ∧ ∀ d p, m = .fr d → v = .ref p → p ∉ frs ms r
def lM (K : PySem.W.Frag) (W : WX) (w : WM) : TA := fun σ H Q => ∃ x G env Q' X', ER K x G H σ env ∧ w env Q' X' ∧
  (∀ ms env' vs G' H', Same G G' → ER K x G' H' σ env' → MRs K x G' H' σ env' ms vs → Q' ms env' → Q vs H') ∧ Xend K W x G σ X'
abbrev QM (X : Cx) (W : WX) (es : List Expr) (w : WM) : Prop := PA X es (lM X.K W w)
abbrev KM (X : Cx) (W : WX) (es : List Expr) (f : FM) : Prop := QM X W es (wp f)
section
variable {K : PySem.W.Frag} {x : Fx} {G H : Hp} {σ : St} {env : Ev} {p : Addr} {o : HO}
theorem MR.unhide {m : Mv} {v : V} (h : MR K { x with F := upd x.F p o } G H σ env m v) : MR K x G H σ env m v ∧ ∀ d, m = .fr d → v ≠ .ref p := by
  cases m with
  | im d => exact ⟨h, fun d e => by cases e⟩
  | fr d =>
    obtain ⟨p', o', rfl, h1, h2, h3, h4, h5⟩ := h
    have h4' : upd x.F p o p' = none := h4
    have ne : p' ≠ p := fun z => by
      rw [z, upd_same] at h4'
      cases h4'
    rw [upd_ne ne] at h4'
    exact ⟨⟨p', o', rfl, h1, h2, h3, h4', h5⟩, fun d' e z => ne (by cases z; rfl)⟩
theorem MRs.unhide : ∀ {ms : List Mv} {vs : List V}, MRs K { x with F := upd x.F p o } G H σ env ms vs → MRs K x G H σ env ms vs ∧ p ∉ frs ms vs
  | [], vs, h => by
    have h' : vs = [] := h
    subst h'
    exact ⟨rfl, fun q => by cases q⟩
  | m :: ms, vs, h => by
    obtain ⟨v, r, rfl, h1, h2, h3⟩ := h
    obtain ⟨i1, i2⟩ := MRs.unhide h2
    obtain ⟨j1, j2⟩ := h1.unhide
    refine ⟨⟨v, r, rfl, j1, i1, h3⟩, fun q => ?_⟩
    cases m with
    | im d =>
      have : frs (.im d :: ms) (v :: r) = frs ms r := by cases v <;> rfl
      rw [this] at q
      exact i2 q
    | fr d =>
      obtain ⟨p', _, rfl, _⟩ := j1
      have : frs (.fr d :: ms) (.ref p' :: r) = p' :: frs ms r := rfl
      rw [this] at q
      rcases List.mem_cons.mp q with q | q
      · exact j2 d rfl (by rw [q])
      · exact i2 q
end
section
variable {X : Cx} {W : WX} {a b c e : Expr} {es : List Expr} {pos : Pos} {f g : FE} {fm : FM}
def mNil : FM := fun env => .ok [] env
def mIm (f : FE) (fm : FM) : FM := fun env => (f env).bd fun d e => (fm e).bd fun ms e2 => .ok (.im d :: ms) e2
def mFr (f : FE) (fm : FM) : FM := fun env => (f env).bd fun d e => (fm e).bd fun ms e2 => .ok (.fr d :: ms) e2
theorem km_nil : KM X W [] mNil := pa_nil.le fun σ H Q h => by
  obtain ⟨x, G, env, Q', X', r, hw, hn, hx⟩ := h
  exact hn [] env [] G H (.refl _) r rfl hw
theorem km_im (ha : KE X W e f) (hr : KM X W es fm) (hs : starEach (e :: es) X.env = (false, eval e X.env) :: starEach es X.env := by rfl) : KM X W (e :: es) (mIm f fm) := (pa_cons ha hr hs).le fun σ H Q h => by
  obtain ⟨x, G, env, Q', X', r, hw, hn, hx⟩ := h
  unfold mIm at hw
  rw [wp_bd] at hw
  refine ⟨x, G, env, _, X', r, imO_mono hw, fun h1 e1 v1 G1 H1 s1 r1 q1 hq => ?_, hx⟩
  obtain ⟨d, rfl, hq⟩ := hq
  rw [Re.on_bd] at hq
  refine ⟨x, G1, e1, _, X', r1, hq, fun ms e2 vs G2 H2 s2 r2 q2 hq => ?_, hx.up s1⟩
  exact hn (.im d :: ms) e2 (v1 :: vs) G2 H2 (s1.trans s2) r2 ⟨v1, vs, rfl, Rep.mono s2 _ _ q1, q2, fun d p e => by cases e⟩ hq
theorem km_fr (ha : KF X W e f) (hr : KM X W es fm) (hs : starEach (e :: es) X.env = (false, eval e X.env) :: starEach es X.env := by rfl) : KM X W (e :: es) (mFr f fm) := (pa_cons ha hr hs).le fun σ H Q h => by
  obtain ⟨x, G, env, Q', X', r, hw, hn, hx⟩ := h
  unfold mFr at hw
  rw [wp_bd] at hw
  refine ⟨x, G, env, _, X', r, hw, fun d e1 p o G1 H1 s1 r1 hp rp hG hF ho hq => ?_, hx⟩
  rw [Re.on_bd] at hq
  refine ⟨{ x with F := upd x.F p o }, G1, e1, _, X', r1.hide hp hG ho, hq, fun ms e2 vs G2 H2 s2 r2 q2 hq => ?_, fun e env' cls dd G' H' s' r' hx' hq' => hx e env' cls dd G' H' (s1.trans s') (r'.unhide rp.nt hF).1 hx' hq'⟩
  obtain ⟨r3, hp3, hG3, ho3⟩ := r2.unhide rp.nt hF
  obtain ⟨u1, u2⟩ := q2.unhide
  exact hn (.fr d :: ms) e2 (.ref p :: vs) G2 H2 (s1.trans s2) r3 ⟨.ref p, vs, rfl, ⟨p, o, rfl, hp3, RepO.mono s2 rp, hG3, hF, ho3⟩, u1, fun d' p' _ z => by cases z; exact u2⟩ hq
def setM (e : Ev) : List Nat → List Mv → Ev
  | i :: is, m :: ms => setM (e.set i m.sl) is ms
  | _, _ => e
end
section
variable {K : PySem.W.Frag} {x : Fx} {G H : Hp}
theorem MRs.put {σ : St} {env : Ev} {i : Nat} {u : Option V} {s : Sl} (hs : (∃ d, s = .im d) ∨ ∃ d p, s = .ow false d ∧ u = some (.ref p)) : ∀ {ms : List Mv} {vs : List V}, MRs K x G H σ env ms vs → (∀ p, u = some (.ref p) → (∃ d, s = .ow false d) → p ∉ frs ms vs) → MRs K x G H (σ.set i u) (env.set i s) ms vs
  | [], vs, h, _ => h
  | m :: ms, vs, h, hp => by
    obtain ⟨v, r, rfl, h1, h2, h3⟩ := h
    refine ⟨v, r, rfl, ?_, MRs.put hs h2 (fun p e1 e2 q => hp p e1 e2 ?_), h3⟩
    · cases m with
      | im d => exact h1
      | fr d =>
        obtain ⟨p', o', rfl, a1, a2, a3, a4, a5⟩ := h1
        refine ⟨p', o', rfl, a1, a2, a3, a4, fun j b d' e z => ?_⟩
        by_cases hj : j = i
        · subst hj
          have hl : j < env.length := by
            have := (List.getElem?_eq_some_iff.mp e).1
            rw [List.length_set] at this
            exact this
          have hl2 : j < σ.length := by
            have := (List.getElem?_eq_some_iff.mp z).1
            rw [List.length_set] at this
            exact this
          rw [List.getElem?_set_self hl] at e
          rw [List.getElem?_set_self hl2] at z
          rcases hs with ⟨d2, rfl⟩ | ⟨d2, p2, rfl, rfl⟩
          · cases e
          · cases z
            refine hp p' rfl ⟨d2, rfl⟩ ?_
            show p' ∈ p' :: frs ms r
            exact List.mem_cons_self
        · rw [List.getElem?_set_ne (Ne.symm hj)] at e z
          exact a5 j b d' e z
    · cases m with
      | im d =>
        have : frs (.im d :: ms) (v :: r) = frs ms r := by cases v <;> rfl
        rw [this]
        exact q
      | fr d =>
        obtain ⟨p', _, rfl, _⟩ := h1
        show p ∈ p' :: frs ms r
        exact List.mem_cons_of_mem _ q
theorem er_setM : ∀ {is : List Nat} {ms : List Mv} {vs : List V} {σ : St} {env : Ev}, ER K x G H σ env → MRs K x G H σ env ms vs → nrs env is = true → ER K x G H (setL σ is vs) (setM env is ms)
  | [], ms, vs, σ, env, r, _, _ => r
  | i :: is, [], vs, σ, env, r, q, _ => by
    have q' : vs = [] := q
    subst q'
    exact r
  | i :: is, m :: ms, vs, σ, env, r, q, hn => by
    obtain ⟨v, rs, rfl, h1, h2, h3⟩ := q
    rw [nrs, List.all_cons, Bool.and_eq_true] at hn
    have hnn : ∀ {s : Sl}, (∀ d, s ≠ .ow true d) → nrs (env.set i s) is = true := fun {s} hs => by
      refine List.all_eq_true.mpr fun j hj => ?_
      have := List.all_eq_true.mp hn.2 j hj
      unfold nr at this ⊢
      by_cases z : j = i
      · subst z
        by_cases hl : j < env.length
        · rw [List.getElem?_set_self hl]
          cases s with
          | ow b d =>
            cases b with
            | true => exact absurd rfl (hs d)
            | false => rfl
          | _ => rfl
        · rw [List.getElem?_eq_none (by rw [List.length_set]; omega)]
      · rw [List.getElem?_set_ne (Ne.symm z)]
        exact this
    cases m with
    | im d =>
      have r2 := r.setIm (i := i) h1 (r.noR (nr_ok hn.1))
      show ER K x G H (setL (σ.set i (some v)) is rs) (setM (env.set i (.im d)) is ms)
      exact er_setM r2 (MRs.put (.inl ⟨d, rfl⟩) h2 fun p _ e => by obtain ⟨_, e⟩ := e; cases e) (hnn (s := .im d) fun d' e => by cases e)
    | fr d =>
      obtain ⟨p, o, rfl, a1, a2, a3, a4, a5⟩ := h1
      have r2 := r.setOw (i := i) a1 a2 a4 a3 (r.noR (nr_ok hn.1)) a5
      show ER K x G H (setL (σ.set i (some (.ref p))) is rs) (setM (env.set i (.ow false d)) is ms)
      exact er_setM r2 (MRs.put (.inr ⟨d, p, rfl, rfl⟩) h2 fun p' e _ => by cases e; exact h3 d p rfl rfl) (hnn (s := .ow false d) fun d' e => by cases e)
end
section
variable {X : Cx} {W : WX} {a b c e : Expr} {es ts : List Expr} {pos : Pos} {f g : FE} {fm : FM} {K : PySem.W.Frag}
def cParM (fm : FM) (is : List Nat) : FS := fun env => (fm env).st fun ms e => if ms.length = is.length ∧ nrs e is = true then .nx (setM e is ms) else .bad
theorem MRs.length {x : Fx} {G H : Hp} {σ : St} {env : Ev} : ∀ {ms : List Mv} {vs : List V}, MRs K x G H σ env ms vs → vs.length = ms.length
  | [], vs, h => by
    have h' : vs = [] := h
    rw [h']
    rfl
  | m :: ms, vs, h => by
    obtain ⟨v, r, rfl, _, h2, _⟩ := h
    rw [List.length_cons, List.length_cons, MRs.length h2]
theorem lParM {is : List Nat} {fm : FM} (De : Ends) (σ : St) (H : Hp) (h : lS K W (ws (cParM fm is)) De σ H) : lM K W (wp fm) σ H fun vs H1 => vs.length = is.length ∧ De.nx (setL σ is vs) H1 := by
  obtain ⟨x, G, env, E', r, hw, hE⟩ := h
  unfold ws cParM at hw
  rw [Re.on_st] at hw
  refine ⟨x, G, env, _, E'.xc, r, hw, fun ms e1 vs G1 H1 s1 r1 q1 hq => ?_, hE.xe σ⟩
  obtain ⟨⟨c1, c2⟩, hq⟩ := on_if hq
  exact ⟨by rw [q1.length, c1], hE.nx _ _ G1 H1 s1 (er_setM r1 q1 c2) hq⟩
theorem ks_par2 {i j : Nat} {n m : Str} {px py pt : Pos} {kt k2 pt2} (hc : X.calm = true) (hN : X.N.Nodup) (hi : X.N[i]? = some n) (hj : X.N[j]? = some m) (hij : i ≠ j)
    (hx : X.env.scope.names.lookup n = some .local) (hy : X.env.scope.names.lookup m = some .local) (ha : KM X W [a, b] fm)
    (hw : swappedStores [.Tuple [.Name n px, .Name m py] kt pt] (.Tuple [a, b] k2 pt2) X.env = pure (some [n, m])) (hs : swapsWithSole [.Tuple [.Name n px, .Name m py] kt pt] (.Tuple [a, b] k2 pt2) pos.line X.env = pure false := by rfl) :
    KS X W (.Assign [.Tuple [.Name n px, .Name m py] kt pt] (.Tuple [a, b] k2 pt2) pos) (cParM fm [i, j]) := (ps_par hc hN hi hj hij hx hy ha hw hs).le fun De σ H h => by
  obtain ⟨x, G, env, Q', X', r, hw, hn, hx⟩ := lParM De σ H h
  refine ⟨x, G, env, Q', X', r, hw, fun ms env' vs G' H' s r' q hq => ?_, hx⟩
  obtain ⟨hl, hq⟩ := hn ms env' vs G' H' s r' q hq
  match vs, hl, hq with
  | [v, w], _, hq => exact ⟨v, w, rfl, hq⟩
theorem ks_par3 {i j l : Nat} {n m k : Str} {px py pz pt : Pos} {kt k2 pt2} (hc : X.calm = true) (hN : X.N.Nodup) (hi : X.N[i]? = some n) (hj : X.N[j]? = some m) (hk : X.N[l]? = some k) (hij : i ≠ j) (hil : i ≠ l) (hjl : j ≠ l)
    (hx : X.env.scope.names.lookup n = some .local) (hy : X.env.scope.names.lookup m = some .local) (hz : X.env.scope.names.lookup k = some .local) (ha : KM X W [a, b, c] fm)
    (hw : swappedStores [.Tuple [.Name n px, .Name m py, .Name k pz] kt pt] (.Tuple [a, b, c] k2 pt2) X.env = pure (some [n, m, k])) (hs : swapsWithSole [.Tuple [.Name n px, .Name m py, .Name k pz] kt pt] (.Tuple [a, b, c] k2 pt2) pos.line X.env = pure false := by rfl) :
    KS X W (.Assign [.Tuple [.Name n px, .Name m py, .Name k pz] kt pt] (.Tuple [a, b, c] k2 pt2) pos) (cParM fm [i, j, l]) := (ps_par3 hc hN hi hj hk hij hil hjl hx hy hz ha hw hs).le fun De σ H h => by
  obtain ⟨x, G, env, Q', X', r, hw, hn, hx⟩ := lParM De σ H h
  refine ⟨x, G, env, Q', X', r, hw, fun ms env' vs G' H' s r' q hq => ?_, hx⟩
  obtain ⟨hl, hq⟩ := hn ms env' vs G' H' s r' q hq
  match vs, hl, hq with
  | [v, w, u], _, hq => exact ⟨v, w, u, rfl, hq⟩
end
end TL

namespace TL
open PySem PySem.Spec L2
section
variable {K : PySem.W.Frag} {x : Fx} {G H G' H' : Hp} {σ : St} {env : Ev} {i : Nat} {b : Bool} {d : D} {p : Addr} {o : HO}
def Fx.lend (x : Fx) (i : Nat) (p : Addr) (o : HO) : Fx := ⟨upd x.F p o, fun j => if j = i then none else x.R j⟩
theorem ER.lend (r : ER K x G H σ env) (e : env[i]? = some (.ow b d)) (es : σ[i]? = some (some (.ref p))) (hp : H p = some o) (hG : G p = none) : ER K (x.lend i p o) G H σ (env.set i .no) where
  len := by rw [List.length_set, r.len]
  sG := r.sG
  sF := fun a u h => by
    by_cases z : a = p
    · subst z
      have h' : upd x.F a o a = some u := h
      rw [upd_same] at h'
      cases h'
      exact hp
    · have h' : upd x.F p o a = some u := h
      rw [upd_ne z] at h'
      exact r.sF a u h'
  dj := fun a u h => by
    by_cases z : a = p
    · subst z
      exact .inl hG
    · have h' : upd x.F p o a = some u := h
      rw [upd_ne z] at h'
      exact r.dj a u h'
  im := fun j e' h => by
    by_cases hj : j = i
    · subst hj
      rw [List.getElem?_set_self (List.getElem?_eq_some_iff.mp e).1] at h
      cases h
    · rw [List.getElem?_set_ne (Ne.symm hj)] at h
      exact r.im j e' h
  ow := fun j b' e' h => by
    by_cases hj : j = i
    · subst hj
      rw [List.getElem?_set_self (List.getElem?_eq_some_iff.mp e).1] at h
      cases h
    · rw [List.getElem?_set_ne (Ne.symm hj)] at h
      obtain ⟨p2, o2, z1, z2, z3, z4, z5⟩ := r.ow j b' e' h
      refine ⟨p2, o2, z1, z2, z3, ?_, z5⟩
      show upd x.F p o p2 = none
      rw [upd_ne fun z => hj (r.nd j i b' b e' d p h e (by rw [← z]; exact z1) es)]
      exact z4
  nd := fun j k b1 b2 d1 d2 q h1 h2 h3 h4 => by
    have hj : j ≠ i := fun z => by
      subst z
      rw [List.getElem?_set_self (List.getElem?_eq_some_iff.mp e).1] at h1
      cases h1
    have hk : k ≠ i := fun z => by
      subst z
      rw [List.getElem?_set_self (List.getElem?_eq_some_iff.mp e).1] at h2
      cases h2
    rw [List.getElem?_set_ne (Ne.symm hj)] at h1
    rw [List.getElem?_set_ne (Ne.symm hk)] at h2
    exact r.nd j k b1 b2 d1 d2 q h1 h2 h3 h4
  rt := fun j q h => by
    have h' : (if j = i then none else x.R j) = some q := h
    by_cases hj : j = i
    · rw [if_pos hj] at h'
      cases h'
    · rw [if_neg hj] at h'
      obtain ⟨h1, d', h2⟩ := r.rt j q h'
      exact ⟨h1, d', by rw [List.getElem?_set_ne (Ne.symm hj)]; exact h2⟩
theorem ER.back {env' : Ev} (r0 : ER K x G H σ env) (e : env[i]? = some (.ow b d)) (es : σ[i]? = some (some (.ref p))) (q : RepO K G d o) (hF : x.F p = none) (s : Same G G') (r : ER K (x.lend i p o) G' H' σ env') : ER K x G' H' σ (env'.set i (.ow b d)) := by
  have hp : H' p = some o := r.sF p o (by show upd x.F p o p = _; exact upd_same)
  have hG : G' p = none := (r.dj p o (by show upd x.F p o p = _; exact upd_same)).resolve_right q.nt
  have sF' : Same x.F H' := fun a u h => r.sF a u (by
    show upd x.F p o a = some u
    rw [upd_ne fun z => by rw [z, hF] at h; cases h]
    exact h)
  have own : ∀ {j : Nat} {b' : Bool} {d' : D}, j ≠ i → env'[j]? = some (.ow b' d') → ∃ p2 o2, σ[j]? = some (some (.ref p2)) ∧ H' p2 = some o2 ∧ RepO K G' d' o2 ∧ x.F p2 = none ∧ G' p2 = none ∧ p2 ≠ p := fun {j b' d'} hj h => by
    obtain ⟨p2, o2, z1, z2, z3, z4, z5⟩ := r.ow j b' d' h
    have z4' : upd x.F p o p2 = none := z4
    have ne : p2 ≠ p := fun z => by
      rw [z, upd_same] at z4'
      cases z4'
    rw [upd_ne ne] at z4'
    exact ⟨p2, o2, z1, z2, z3, z4', z5, ne⟩
  have hi : i < env'.length := by
    rw [← r.len]
    exact (List.getElem?_eq_some_iff.mp es).1
  refine ⟨by rw [List.length_set, r.len], r.sG, sF', fun a u h => ?_, fun j d' h => ?_, fun j b' d' h => ?_, fun j k b1 b2 d1 d2 q' h1 h2 h3 h4 => ?_, fun j q' h => ?_⟩
  · exact r.dj a u (by
      show upd x.F p o a = some u
      rw [upd_ne fun z => by rw [z, hF] at h; cases h]
      exact h)
  · by_cases hj : j = i
    · subst hj
      rw [List.getElem?_set_self hi] at h
      cases h
    · rw [List.getElem?_set_ne (Ne.symm hj)] at h
      exact r.im j d' h
  · by_cases hj : j = i
    · subst hj
      rw [List.getElem?_set_self hi] at h
      cases h
      exact ⟨p, o, es, hp, RepO.mono s q, hF, hG⟩
    · rw [List.getElem?_set_ne (Ne.symm hj)] at h
      obtain ⟨p2, o2, z1, z2, z3, z4, z5, _⟩ := own hj h
      exact ⟨p2, o2, z1, z2, z3, z4, z5⟩
  · by_cases hj : j = i
    · by_cases hk : k = i
      · rw [hj, hk]
      · exfalso
        subst hj
        rw [List.getElem?_set_ne (Ne.symm hk)] at h2
        obtain ⟨p2, o2, z1, _, _, _, _, ne⟩ := own hk h2
        rw [es] at h3
        cases h3
        rw [h4] at z1
        cases z1
        exact ne rfl
    · by_cases hk : k = i
      · exfalso
        subst hk
        rw [List.getElem?_set_ne (Ne.symm hj)] at h1
        obtain ⟨p2, o2, z1, _, _, _, _, ne⟩ := own hj h1
        rw [es] at h4
        cases h4
        rw [h3] at z1
        cases z1
        exact ne rfl
      · rw [List.getElem?_set_ne (Ne.symm hj)] at h1
        rw [List.getElem?_set_ne (Ne.symm hk)] at h2
        exact r.nd j k b1 b2 d1 d2 q' h1 h2 h3 h4
  · by_cases hj : j = i
    · subst hj
      obtain ⟨h1, d', h2⟩ := r0.rt j q' h
      rw [e] at h2
      cases h2
      exact ⟨h1, d, List.getElem?_set_self hi⟩
    · obtain ⟨h1, d', h2⟩ := r.rt j q' (by
        show (if j = i then none else x.R j) = some q'
        rw [if_neg hj]
        exact h)
      exact ⟨h1, d', by rw [List.getElem?_set_ne (Ne.symm hj)]; exact h2⟩
theorem walk_own {F : Hp} {ds : List D} {vs : List V} {q : Addr} (h : F q = some (.lst vs)) (r : Reps K G ds vs) : Walk K G F ds (Itl K q) where
  go := fun i H s sF hi => by
    have hv : i < vs.length := by rw [r.length]; exact hi
    exact ⟨vs, vs[i], SqL.of (sF q _ h), List.getElem?_eq_getElem hv⟩
  stop := fun i H s sF hi => ⟨vs, SqL.of (sF q _ h), by rw [r.length]; exact hi⟩
  yld := fun i H v H' d G1 s1 s2 sF e y => by
    obtain ⟨rfl, y⟩ := y
    obtain ⟨v', e', q'⟩ := r.get e
    have z := y vs (SqL.of (sF q _ h))
    rw [e'] at z
    cases z
    exact ⟨G1, .refl s2, Rep.mono s1 _ _ q'⟩
end
theorem bd_ok' {α β : Type} {a : α} {e : Ev} {k : α → Ev → Re β} : (Re.ok a e).bd k = k a e := rfl
def owSl (env : Ev) (i : Nat) : Option (Bool × D) := match env[i]? with
  | some (.ow b d) => some (b, d)
  | _ => none
theorem owSl_some {env : Ev} {i : Nat} {q : Bool × D} (h : owSl env i = some q) : env[i]? = some (.ow q.1 q.2) := by
  unfold owSl at h
  cases z : env[i]? with
  | none =>
    rw [z] at h
    cases h
  | some s =>
    rw [z] at h
    cases s with
    | ow b d =>
      cases h
      rfl
    | _ => cases h
def fLcO (i : Nat) (tu : Bool) (is : List Nat) (ft : FT) (fe : FE) : FE := fun env => match owSl env i with
  | some (b, .lst ds) => if nrs (env.set i .no) is = true then (lcEnd (lcL tu is ft fe ds (noE (env.set i .no) is))).bd fun y e => .ok y (e.set i (.ow b (.lst ds))) else .bad
  | _ => .bad
section
variable {X : Cx} {W : WX} {elt tg : Expr} {pos p : Pos} {ifs : List Expr} {ft : FT} {fe : FE} {K : PySem.W.Frag}
theorem lLcO {i : Nat} {tu : Bool} {is : List Nat} (σ : St) (H : Hp) (Q : VK) (h : lF K W (wp (fLcO i tu is ft fe)) σ H Q) : tLc (iList K (tVar i)) (gOf K tu is) (lT K W0 (wp ft)) (lO K W0 (imO (wp fe))) is σ H Q := by
  obtain ⟨x, G, env, Q', X', r, hw, hn, hx⟩ := h
  unfold wp fLcO at hw
  cases z : owSl env i with
  | none =>
    rw [z] at hw
    exact hw.elim
  | some q =>
    obtain ⟨b, d⟩ := q
    rw [z] at hw
    have e := owSl_some z
    cases d with
    | lst ds =>
      obtain ⟨c0, hw⟩ := on_if_re hw
      obtain ⟨p, o, es, hp, ro, hF, hG⟩ := r.ow i b (.lst ds) e
      obtain ⟨vs, rfl, rv⟩ := ro
      refine ⟨.ref p, es, p, rfl, ⟨vs, SqL.of hp⟩, ?_⟩
      have r1 := r.lend e es hp hG
      refine lLc_core (ds := ds) r1 (walk_own (by show upd x.F p _ p = _; exact upd_same) rv) (Q' := fun d e' => Q' d (e'.set i (.ow b (.lst ds)))) (fun d' env' p' o' G' H' s r' hp' ro' hG' hF' ho' hq => ?_) ⟨c0, ?_⟩
      · have hF2 : upd x.F p (HO.lst vs) p' = none := hF'
        have ne : p' ≠ p := fun z => by
          rw [z, upd_same] at hF2
          cases hF2
        rw [upd_ne ne] at hF2
        refine hn d' _ p' o' G' H' s (ER.back r e es ⟨vs, rfl, rv⟩ hF s r') hp' ro' hG' hF2 (fun j b' d2 h zz => ?_) hq
        by_cases hj : j = i
        · rw [hj, es] at zz
          cases zz
          exact ne rfl
        · rw [List.getElem?_set_ne (Ne.symm hj)] at h
          exact ho' j b' d2 h zz
      · have := leLc (fi := fun env => .ok ds env) (tu := tu) (is := is) (ft := ft) (fe := fe) (env.set i .no) (fun d e' => Q' d (e'.set i (.ow b (.lst ds)))) X' (by
          unfold wp fLc
          rw [bd_ok', if_pos c0]
          rw [Re.on_bd] at hw
          exact hw)
        exact this.2
    | _ => exact hw.elim
theorem kf_lcO {scope : Scope} {own : List (Str × Nat)} {tu : Bool} (i : Nat) {n : Str} {np : Pos} (hc : X.calm = true) (hN : X.N.Nodup) (ok : BlkOk X.N X.env.scope scope own)
    (hg : ∀ (s : Shared) (H : Hp) (C : Addr) (cl : List (Str × Addr)) (fp : List Addr), PG (X.blk s H scope (compEnvC scope cl C X.env) fp) tg (gOf X.K tu (own.map (·.2))))
    (ht : ∀ (s : Shared) (H : Hp) (C : Addr) (cl : List (Str × Addr)) (fp : List Addr), KTs (X.blk s H scope (compEnvC scope cl C X.env) fp) W0 ifs ft)
    (he : ∀ (s : Shared) (H : Hp) (C : Addr) (cl : List (Str × Addr)) (fp : List Addr), KE (X.blk s H scope (compEnvC scope cl C X.env) fp) W0 elt fe)
    (hNi : X.N[i]? = some n := by rfl) (hvs : Vis X.env.scope n := by first | exact Or.inl rfl | exact Or.inr (Or.inl rfl) | exact Or.inr (Or.inr rfl)) (hd : (n == ("__debug__" : Str)) = false := by decide)
    (hcd : (n == ("__classdict__" : Str)) = false := by decide) (hs : ∀ x, foldedSetIterable (.Name n np) X.env x = pure x := by intro _; rfl) :
    KF X W (.ListComp elt [⟨tg, .Name n np, ifs, 0⟩] scope pos) (fLcO i tu (own.map (·.2)) ft fe) := (pe_lc hc hN (pi_list (pe_var hNi hvs hd hcd)) ok hg ht he hs).le lLcO
end
end TL
namespace TL
open PySem PySem.Spec L2
section
variable {X : Cx} {W : WX} {T : SpT} {k : Nat} {x : Str} {ps : List Str} {p pos : Pos} {F : Fn}
theorem qf_call0 (F : FnT X.prog X.w X.K X.mg X.base k x ps T) (hr : Room k X.A) (tk : Takes X W) (hg : Gl X x := by rfl) (hdb : (x == ("__debug__" : Str)) = false := by decide) : QF X W (.Call (.Name x p) [] [] pos) (wCallF T aNil) := by
  obtain ⟨f, fd, G, hm, hk, hb⟩ := F.ex
  exact (pe_callS0 G hr hg hm hk hb (fun σ => passAt tk σ) hdb).le fun σ H Q h => lA_nil (w := wC .non) σ H _ (l_callF σ H Q h)
theorem leCallO0 : ∀ env Q Xp, wp (fCallO F fNil) env Q Xp → wCallF (TF F) aNil env Q Xp := fun env Q Xp h => by
  unfold fCallO at h
  rw [wp_bd] at h
  exact callO_ok h
end
end TL

namespace GB
open PySem PySem.SeqAt GQ
open AutoSeq1 (wpAny_loadPart')
open MeetsSeq MeetsSeq2 MeetsSeq3 SeqRoads2
section
variable {prog : Program} {w : World} {A : Around} {R : Result → Shared → Prop}
def LB (l b : Addr) (N : Nat) (I : Nat → Shared → Prop) (P : Nat → Value → Value → Shared → Prop) : Prop :=
  ∀ i s, I i s → ∃ (items items2 : Array Value) (n n2 : Nat) (dd dd2 : Option Addr) (sl sl2 : Array (Option Value)), s.heap.get? l = some { cls := .type "list", dict := dd, data := .seq items n, slots := sl } ∧ s.heap.get? b = some { cls := .type "list", dict := dd2, data := .seq items2 n2, slots := sl2 } ∧ items.size = N ∧ items2.size = N ∧
    ∀ (h1 : i < items.size) (h2 : i < items2.size), P i items[i] items2[i] s
def TB (prog : Program) (w : World) (A : Around) (E : Value → Shared → Prop) (I : Nat → Shared → Prop) (m : Nat) : Nat → Value → Value → Shared → Prop := fun i x y s =>
  i ≤ m → wpAny (model prog w) A.in1 (eqBool x y) (fun r s' => r = decide (i < m) ∧ I (i + 1) s') E s
theorem eq_loopB (ne : Bool) (l b : Addr) (N m : Nat) (hm : m ≤ N) (I : Nat → Shared → Prop) (hl : LB l b N I (TB prog w A (fun e s' => R (.error e) s') I m))
    (fin : ∀ i s, I i s → R (.ok (.ret (.bool (ne != decide (m = N))))) s) (k : Nat) :
    ∀ i : Nat, m - i = k → i ≤ m → ∀ s, I i s →
      wpAny (model prog w) A.in1 (Builtin.«list.__eq__.loop» ⟨[.ref l, .ref b, rawInt i, rawInt (if ne then 3 else 2)], []⟩) (FinOf prog w A R) (fun e s' => R (.error e) s') s := by
  induction k with
  | zero =>
    intro i hk hi s h
    obtain ⟨items, items2, n, n2, dd, dd2, sl, sl2, hl1, hb1, hs1, hs2, turn⟩ := hl _ _ h
    have hi' : i = m := by omega
    have hR := fin i s h
    by_cases hmN : m = N
    · obtain ⟨hp, g, d, tk, os⟩ := s
      rw [decide_eq_true hmN] at hR
      cases ne
      all_goals
        simp only [Bool.false_eq_true, if_false, if_true]
        wp_walk using wpAny_loadPart' hl1, wpAny_loadPart' hb1
        have hi1 : items[((i : Nat) : Int).toNat]? = none := by simp; omega
        have hi2 : items2[((i : Nat) : Int).toNat]? = none := by simp; omega
        rw [hi1, hi2]
        wp_walk using wpAny_loadPart' hl1, wpAny_loadPart' hb1
      · show R (.ok (.ret (.bool (items.size == items2.size)))) _
        rw [hs1, hs2]
        simpa using hR
      · show R (.ok (.ret (.bool (items.size != items2.size)))) _
        rw [hs1, hs2]
        simpa using hR
    · have hlt : i < items.size := by omega
      have hlt2 : i < items2.size := by omega
      have ht := turn hlt hlt2 (by omega)
      rw [decide_eq_false (by omega : ¬ i < m)] at ht
      have hi1 : items[((i : Nat) : Int).toNat]? = some items[i] := by simp [hlt]
      have hi2 : items2[((i : Nat) : Int).toNat]? = some items2[i] := by simp [hlt2]
      obtain ⟨hp, g, d, tk, os⟩ := s
      cases ne
      all_goals
        simp only [Bool.false_eq_true, if_false, if_true]
        wp_walk using wpAny_loadPart' hl1, wpAny_loadPart' hb1
        rw [hi1, hi2]
        refine wpAny_bind (wpAny_mono ht (fun r s2 h2 => ?_) fun _ _ x => x)
        obtain ⟨hr, h2⟩ := h2
        subst hr
        obtain ⟨jtems, jtems2, o, o2, ee, ee2, tl, tl2, jl1, jb1, js1, js2, _⟩ := hl _ _ h2
        have hR2 := fin _ s2 h2
        rw [decide_eq_false hmN] at hR2
        have hj1 : jtems[((i : Nat) : Int).toNat]? = some (jtems[i]'(by omega)) := by simp
        have hj2 : jtems2[((i : Nat) : Int).toNat]? = some (jtems2[i]'(by omega)) := by simp
        obtain ⟨hp2, g2, d2, tk2, os2⟩ := s2
        wp_walk using wpAny_loadPart' jl1, wpAny_loadPart' jb1
        rw [hj1, hj2]
        wp_walk
        simpa using hR2
  | succ k ih =>
    intro i hk hi s h
    obtain ⟨items, items2, n, n2, dd, dd2, sl, sl2, hl1, hb1, hs1, hs2, turn⟩ := hl _ _ h
    have hlt : i < items.size := by omega
    have hlt2 : i < items2.size := by omega
    have ht := turn hlt hlt2 hi
    rw [decide_eq_true (by omega : i < m)] at ht
    have hi1 : items[((i : Nat) : Int).toNat]? = some items[i] := by simp [hlt]
    have hi2 : items2[((i : Nat) : Int).toNat]? = some items2[i] := by simp [hlt2]
    have hc : ((i : Int) + 1) = ((i + 1 : Nat) : Int) := by omega
    obtain ⟨hp, g, d, tk, os⟩ := s
    cases ne
    all_goals
      simp only [Bool.false_eq_true, if_false, if_true] at ih ⊢
      wp_walk using wpAny_loadPart' hl1, wpAny_loadPart' hb1
      rw [hi1, hi2]
      refine wpAny_bind (wpAny_mono ht (fun r s2 h2 => ?_) fun _ _ x => x)
      obtain ⟨hr, h2⟩ := h2
      subst hr
      have hrec := ih (i + 1) (by omega) (by omega) s2 h2
      obtain ⟨hp2, g2, d2, tk2, os2⟩ := s2
      wp_walk
      rw [hc]
      exact ⟨plainId_quiet plain_eq_loop _, codeAny_builtin entry_eq_loop (by
        rw [Around.under_plainId plain_eq_loop _]
        exact hrec)⟩
def opOf (ne : Bool) : CmpOp := if ne then .NotEq else .Eq
theorem list_B (ne : Bool) (l b : Addr) (N m : Nat) (hm : m ≤ N) (I : Nat → Shared → Prop) (hl : LB l b N I (TB prog w A (fun e s' => R (.error e) s') I m))
    (fin : ∀ i s, I i s → R (.ok (.ret (.bool (ne != decide (m = N))))) s) {s : Shared} (h : I 0 s) :
    wpAny (model prog w) A.in1 ((if ne then Builtin.«list.__ne__» else Builtin.«list.__eq__») ⟨[.ref l, .ref b], []⟩) (FinOf prog w A R) (fun e s' => R (.error e) s') s := by
  obtain ⟨items, items2, n, n2, dd, dd2, sl, sl2, hl1, hb1, hs1, hs2, _⟩ := hl _ _ h
  have hrec := eq_loopB (A := A) (R := R) ne l b N m hm I hl fin _ 0 rfl (Nat.zero_le _) s h
  obtain ⟨hp, g, d, tk, os⟩ := s
  have f3 := AutoSeq1.sub_list_list
  have hne : ¬ (items.size != items2.size) = true := by simp [hs1, hs2]
  cases ne
  all_goals
    simp only [Bool.false_eq_true, if_false, if_true] at hrec ⊢
    wp_walk using wpAny_loadPart' hl1, wpAny_loadPart' hb1
    exact ⟨plainId_quiet plain_eq_loop _, codeAny_builtin entry_eq_loop (by
      rw [Around.under_plainId plain_eq_loop _]
      exact hrec)⟩
theorem list_sz (ne : Bool) (l b : Addr) {items items2 : Array Value} {n n2 : Nat} {dd dd2 : Option Addr} {sl sl2 : Array (Option Value)} {s : Shared} (hl1 : s.heap.get? l = some { cls := .type "list", dict := dd, data := .seq items n, slots := sl }) (hb1 : s.heap.get? b = some { cls := .type "list", dict := dd2, data := .seq items2 n2, slots := sl2 })
    (hz : items.size ≠ items2.size) (fin : R (.ok (.ret (.bool ne))) s) :
    wpAny (model prog w) A.in1 ((if ne then Builtin.«list.__ne__» else Builtin.«list.__eq__») ⟨[.ref l, .ref b], []⟩) (FinOf prog w A R) (fun e s' => R (.error e) s') s := by
  obtain ⟨hp, g, d, tk, os⟩ := s
  have f3 := AutoSeq1.sub_list_list
  have hne : (items.size != items2.size) = true := by simpa using hz
  cases ne
  all_goals
    simp only [Bool.false_eq_true, if_false, if_true]
    wp_walk using wpAny_loadPart' hl1, wpAny_loadPart' hb1
    exact fin
theorem tuple_B (ne : Bool) (l b : Addr) (items items2 : Array Value) (n n2 : Nat) (dd dd2 : Option Addr) (sl sl2 : Array (Option Value)) (m : Nat) (hm1 : m ≤ items.size) (hm2 : m ≤ items2.size) (I : Nat → Shared → Prop)
    (turn : ∀ i (h1 : i < items.size) (h2 : i < items2.size) s, I i s → TB prog w A (fun e s' => R (.error e) s') I m i items[i] items2[i] s)
    (fin : ∀ i s, I i s → R (.ok (.ret (.bool (ne != (decide (m = items.size) && decide (m = items2.size)))))) s) {s : Shared} (hl1 : s.heap.get? l = some { cls := .type "tuple", dict := dd, data := .seq items n, slots := sl }) (hb1 : s.heap.get? b = some { cls := .type "tuple", dict := dd2, data := .seq items2 n2, slots := sl2 }) (h : I 0 s)
    (hmm : m = items.size ∨ m = items2.size ∨ (m < items.size ∧ m < items2.size)) :
    wpAny (model prog w) A.in1 ((if ne then Builtin.«tuple.__ne__» else Builtin.«tuple.__eq__») ⟨[.ref l, .ref b], []⟩) (FinOf prog w A R) (fun e s' => R (.error e) s') s := by
  have f2 := AutoSeq1.sub_tuple_tuple
  have hZ : (items.toList.zip items2.toList).length = min items.size items2.size := by simp
  have h0 := h
  obtain ⟨hp, g, d, tk, os⟩ := s
  cases ne
  all_goals
    simp only [Bool.false_eq_true, if_false, if_true]
    wp_walk using wpAny_loadPart' hl1, wpAny_loadPart' hb1, wpAny_forIn_list _ (fun rest b s' => b.1 = none ∧ ∃ i, rest = (items.toList.zip items2.toList).drop i ∧ i ≤ m ∧ I i s') _
    case turn =>
      rintro ⟨y, x⟩ rest b s' ⟨hb', i, hz, hi, hI⟩
      have hlt : i < (items.toList.zip items2.toList).length := by
        rcases Nat.lt_or_ge i (items.toList.zip items2.toList).length with h' | h'
        · exact h'
        · rw [List.drop_of_length_le h'] at hz; cases hz
      have h1 : i < items.size := by omega
      have h2 : i < items2.size := by omega
      rw [List.drop_eq_getElem_cons hlt] at hz
      injection hz with hyx hrest
      have hy : y = items[i] := by have := congrArg Prod.fst hyx; simpa using this
      have hx : x = items2[i] := by have := congrArg Prod.snd hyx; simpa using this
      subst hy hx
      refine wpAny_bind (wpAny_mono (turn i h1 h2 s' hI hi) (fun r s2 q2 => ?_) fun _ _ x => x)
      obtain ⟨hr, q2⟩ := q2
      by_cases hlm : i < m
      · rw [decide_eq_true hlm] at hr
        subst hr
        wp_walk
        exact ⟨rfl, i + 1, hrest, hlm, q2⟩
      · rw [decide_eq_false hlm] at hr
        subst hr
        have hR2 := fin _ s2 q2
        rw [show (decide (m = items.size) && decide (m = items2.size)) = false from by simp; omega] at hR2
        wp_walk
        simpa using hR2
    case fin =>
      rintro ⟨b1, b2⟩ s' ⟨hb', i, hz, hi, hI⟩
      simp only at hb'
      subst hb'
      have hge : min items.size items2.size ≤ i := by
        rcases Nat.lt_or_ge i (items.toList.zip items2.toList).length with h' | h'
        · rw [List.drop_eq_getElem_cons h'] at hz; cases hz
        · exact hZ ▸ h'
      have hR := fin i s' hI
      rw [show (decide (m = items.size) && decide (m = items2.size)) = (items.size == items2.size) from by
        rw [← Bool.decide_and]
        show decide _ = decide (items.size = items2.size)
        exact decide_eq_decide.mpr (by omega)] at hR
      wp_walk
      cases hq : (items.size == items2.size) <;> rw [hq] at hR <;> simpa [Builtin.Tuple.tupleCompareSizes, bne, hq] using hR
    case h =>
      exact ⟨rfl, 0, rfl, Nat.zero_le _, h0⟩
end
section
variable {prog : Program} {w : World} {A : Around} {E : Value → Shared → Prop} {s : Shared}
theorem rc_listB (ne : Bool) {l b : Addr} {N m : Nat} {Q : Value → Shared → Prop} (hm : m ≤ N) (hu : A.units < cLine) (I : Nat → Shared → Prop) (hl : LB l b N I (TB prog w A E I m))
    (fin : ∀ i s, I i s → Q (.bool (ne != decide (m = N))) s) (h : I 0 s) : wpAny (model prog w) A (richCompare (opOf ne) (.ref l) (.ref b)) Q E s := by
  obtain ⟨items, items2, n, n2, dd, dd2, sl, sl2, hl1, hb1, _, _, _⟩ := hl _ _ h
  have z := list_B (R := wants (fun v s' => v ≠ .notImplemented ∧ Q v s') E) ne l b N m hm I hl (fun i s' q => ⟨(fun x => nomatch x), fin i s' q⟩) h
  cases ne
  · exact wpAny_richCompare_same_room (op := .Eq) ⟨_, hl1, rfl⟩ ⟨_, hb1, rfl⟩ F.slot_list_eq (call_here F.slot_list_eq ⟨_, hl1, rfl⟩ F.entry_list_eq (F.args_list_eq_2 _ _) z) hu
  · exact wpAny_richCompare_same_room (op := .NotEq) ⟨_, hl1, rfl⟩ ⟨_, hb1, rfl⟩ F.slot_list_ne (call_here F.slot_list_ne ⟨_, hl1, rfl⟩ F.entry_list_ne (F.args_list_ne_2 _ _) z) hu
theorem rc_listZ (ne : Bool) {l b : Addr} {Q : Value → Shared → Prop} (hu : A.units < cLine) {items items2 : Array Value} {n n2 : Nat} {dd dd2 : Option Addr} {sl sl2 : Array (Option Value)} (hl1 : s.heap.get? l = some { cls := .type "list", dict := dd, data := .seq items n, slots := sl }) (hb1 : s.heap.get? b = some { cls := .type "list", dict := dd2, data := .seq items2 n2, slots := sl2 })
    (hz : items.size ≠ items2.size) (fin : Q (.bool ne) s) : wpAny (model prog w) A (richCompare (opOf ne) (.ref l) (.ref b)) Q E s := by
  have z := list_sz (prog := prog) (w := w) (A := A) (R := wants (fun v s' => v ≠ .notImplemented ∧ Q v s') E) ne l b hl1 hb1 hz ⟨(fun x => nomatch x), fin⟩
  cases ne
  · exact wpAny_richCompare_same_room (op := .Eq) ⟨_, hl1, rfl⟩ ⟨_, hb1, rfl⟩ F.slot_list_eq (call_here F.slot_list_eq ⟨_, hl1, rfl⟩ F.entry_list_eq (F.args_list_eq_2 _ _) z) hu
  · exact wpAny_richCompare_same_room (op := .NotEq) ⟨_, hl1, rfl⟩ ⟨_, hb1, rfl⟩ F.slot_list_ne (call_here F.slot_list_ne ⟨_, hl1, rfl⟩ F.entry_list_ne (F.args_list_ne_2 _ _) z) hu
theorem rc_tupB (ne : Bool) {l b : Addr} {items items2 : Array Value} {Q : Value → Shared → Prop} {m : Nat} (hm1 : m ≤ items.size) (hm2 : m ≤ items2.size) (hmm : m = items.size ∨ m = items2.size ∨ (m < items.size ∧ m < items2.size)) (hu : A.units < cLine) (I : Nat → Shared → Prop)
    (hl : s.heap.IsTuple l items) (hb : s.heap.IsTuple b items2)
    (turn : ∀ i (h1 : i < items.size) (h2 : i < items2.size) s, I i s → TB prog w A E I m i items[i] items2[i] s)
    (fin : ∀ i s, I i s → Q (.bool (ne != (decide (m = items.size) && decide (m = items2.size)))) s) (h : I 0 s) : wpAny (model prog w) A (richCompare (opOf ne) (.ref l) (.ref b)) Q E s := by
  obtain ⟨⟨cls, dd, data, sl⟩, ho, hc, n, hd⟩ := id hl
  obtain ⟨⟨cls2, dd2, data2, sl2⟩, ho2, hc2, n2, hd2⟩ := id hb
  simp only at hc hd hc2 hd2
  subst hc hd hc2 hd2
  have z := tuple_B (R := wants (fun v s' => v ≠ .notImplemented ∧ Q v s') E) ne l b items items2 n n2 dd dd2 sl sl2 m hm1 hm2 I turn (fun i s' q => ⟨(fun x => nomatch x), fin i s' q⟩) ho ho2 h hmm
  cases ne
  · exact wpAny_richCompare_same_room (op := .Eq) ⟨_, ho, rfl⟩ ⟨_, ho2, rfl⟩ F.slot_tuple_eq (call_here F.slot_tuple_eq ⟨_, ho, rfl⟩ F.entry_tuple_eq (F.args_tuple_eq_2 _ _) z) hu
  · exact wpAny_richCompare_same_room (op := .NotEq) ⟨_, ho, rfl⟩ ⟨_, ho2, rfl⟩ F.slot_tuple_ne (call_here F.slot_tuple_ne ⟨_, ho, rfl⟩ F.entry_tuple_ne (F.args_tuple_ne_2 _ _) z) hu
end
end GB

namespace TL
open PySem PySem.Spec L2
mutual
def mb (CL : List Str) : D → D → Bool
  | .lst ds, e => match e with
    | .lst es => mbs CL ds es
    | .non => false | .bl _ => false | .int _ => false | .str _ => false
    | _ => true
  | .tup ds, e => match e with
    | .tup es => mbs CL ds es
    | .non => false | .bl _ => false | .int _ => false | .str _ => false
    | _ => true
  | .ins c ns ds, e => match e with
    | .ins c' ns' es => (c == c' || !(CL.contains c && CL.contains c')) && (ns == ns') && mbs CL ds es
    | .non => false | .bl _ => false | .int _ => false | .str _ => false
    | _ => true
  | .non, e => match e with
    | .non => true
    | _ => false
  | .bl b, e => match e with
    | .bl b' => b == b'
    | _ => false
  | .int i, e => match e with
    | .int j => i == j
    | _ => false
  | .str i, e => match e with
    | .str j => i == j
    | _ => false
  | _, _ => true
def mbs (CL : List Str) : List D → List D → Bool
  | [], es => es.isEmpty
  | d :: ds, es => match es with
    | [] => false
    | e :: es => mb CL d e && mbs CL ds es
end
def DJ (K : PySem.W.Frag) (CL : List Str) : Prop := ∀ c ∈ CL, ∀ c' ∈ CL, He.ga K c = He.ga K c' → c = c'
section
variable {X : Cx} {pins : List (Addr × Obj)} {σ : St} {H G : Hp} {s : Shared} {CL : List Str}
theorem zip_inj {α β : Type} : ∀ {a a' : List α} {b b' : List β}, a.zip b = a'.zip b' → a.length = b.length → a'.length = b'.length → a = a' ∧ b = b'
  | [], [], b, b', _, h1, h2 => by
    cases b <;> cases b' <;> simp_all
  | x :: a, [], b, b', h, h1, h2 => by
    cases b with
    | nil => simp at h1
    | cons y b => simp at h
  | [], x :: a, b, b', h, h1, h2 => by
    cases b' with
    | nil => simp at h2
    | cons y b => simp at h
  | x :: a, x' :: a', b, b', h, h1, h2 => by
    cases b with
    | nil => simp at h1
    | cons y b =>
      cases b' with
      | nil => simp at h2
      | cons y' b' =>
        simp only [List.zip_cons_cons, List.cons.injEq, Prod.mk.injEq] at h
        obtain ⟨⟨e1, e2⟩, e3⟩ := h
        obtain ⟨z1, z2⟩ := zip_inj e3 (by simpa using h1) (by simpa using h2)
        exact ⟨by rw [e1, z1], by rw [e2, z2]⟩
mutual
theorem mb_ok (I : Inv X pins σ H s) (sG : Same G H) (dj : DJ X.K CL) : ∀ (d e : D) (v : V), Rep X.K G d v → Rep X.K G e v → mb CL d e = true
  | .non, e, v, h, h' => by
    cases (show v = .non from h)
    cases e <;> first | rfl | (unfold Rep at h'; first | (cases h'; done) | (obtain ⟨_, _, q, _⟩ := h'; cases q; done) | (obtain ⟨_, _, _, q, _⟩ := h'; cases q; done) | (obtain ⟨q, _⟩ := h'; cases q; done))
  | .bl b, e, v, h, h' => by
    cases (show v = .bl b from h)
    cases e <;> first | (unfold Rep at h'; first | (cases h'; unfold mb; simp; done) | (cases h'; done) | (obtain ⟨_, _, q, _⟩ := h'; cases q; done) | (obtain ⟨_, _, _, q, _⟩ := h'; cases q; done) | (obtain ⟨q, _⟩ := h'; cases q; done))
  | .int b, e, v, h, h' => by
    cases (show v = .int b from h)
    cases e <;> first | (unfold Rep at h'; first | (cases h'; unfold mb; simp; done) | (cases h'; done) | (obtain ⟨_, _, q, _⟩ := h'; cases q; done) | (obtain ⟨_, _, _, q, _⟩ := h'; cases q; done) | (obtain ⟨q, _⟩ := h'; cases q; done))
  | .str b, e, v, h, h' => by
    cases (show v = .str b from h)
    cases e <;> first | (unfold Rep at h'; first | (cases h'; unfold mb; simp; done) | (cases h'; done) | (obtain ⟨_, _, q, _⟩ := h'; cases q; done) | (obtain ⟨_, _, _, q, _⟩ := h'; cases q; done) | (obtain ⟨q, _⟩ := h'; cases q; done))
  | .ty b, e, v, h, h' => by unfold mb; rfl
  | .dic _ _, e, v, h, h' => by unfold mb; rfl
  | .dit _ _, e, v, h, h' => by unfold mb; rfl
  | .tpo _, e, v, h, h' => by unfold mb; rfl
  | .tpn _, e, v, h, h' => by unfold mb; rfl
  | .exc _ _ _ _, e, v, h, h' => by unfold mb; rfl
  | .lst ds, e, v, h, h' => by
    unfold Rep at h
    obtain ⟨a, vs, rfl, q, r⟩ := h
    cases e with
    | lst es =>
      unfold Rep at h'
      obtain ⟨a', vs', e1, q', r'⟩ := h'
      injection e1 with e1
      subst e1
      have := I.list_inj (sG.seq q) (sG.seq q')
      subst this
      unfold mb
      exact mbs_ok I sG dj ds es vs r r'
    | _ => first | (unfold mb; rfl) | (unfold Rep at h'; cases h'; done)
  | .tup ds, e, v, h, h' => by
    unfold Rep at h
    obtain ⟨a, vs, rfl, q, r⟩ := h
    cases e with
    | tup es =>
      unfold Rep at h'
      obtain ⟨a', vs', e1, q', r'⟩ := h'
      injection e1 with e1
      subst e1
      have := I.tuple_inj (sameT sG q) (sameT sG q')
      subst this
      unfold mb
      exact mbs_ok I sG dj ds es vs r r'
    | _ => first | (unfold mb; rfl) | (unfold Rep at h'; cases h'; done)
  | .ins c ns ds, e, v, h, h' => by
    unfold Rep at h
    obtain ⟨a, dx, vs, rfl, q, l, r⟩ := h
    cases e with
    | ins c' ns' es =>
      unfold Rep at h'
      obtain ⟨a', dx', vs', e1, q', l', r'⟩ := h'
      injection e1 with e1
      subst e1
      rw [q] at q'
      injection q' with q'
      injection q' with k1 k2 k3
      obtain ⟨z1, z2⟩ := zip_inj k3 l l'
      subst z1 z2
      unfold mb
      have : (c == c' || !(CL.contains c && CL.contains c')) = true := by
        cases y : (CL.contains c && CL.contains c') with
        | false => simp
        | true =>
          obtain ⟨y1, y2⟩ := Bool.and_eq_true_iff.mp y
          rw [dj c (List.contains_iff_mem.mp y1) c' (List.contains_iff_mem.mp y2) k1]
          simp
      simp only [this, Bool.true_and, beq_self_eq_true]
      exact mbs_ok I sG dj ds es vs r r'
    | _ => first | (unfold mb; rfl) | (unfold Rep at h'; cases h'; done)
theorem mbs_ok (I : Inv X pins σ H s) (sG : Same G H) (dj : DJ X.K CL) : ∀ (ds es : List D) (vs : List V), Reps X.K G ds vs → Reps X.K G es vs → mbs CL ds es = true
  | [], es, vs, h, h' => by
    unfold Reps at h
    subst h
    cases es with
    | nil => rfl
    | cons e es =>
      unfold Reps at h'
      obtain ⟨_, _, q, _⟩ := h'
      cases q
  | d :: ds, es, vs, h, h' => by
    unfold Reps at h
    obtain ⟨v, r, rfl, q, z⟩ := h
    cases es with
    | nil =>
      unfold Reps at h'
      cases h'
    | cons e es =>
      unfold Reps at h'
      obtain ⟨v', r', e1, q', z'⟩ := h'
      injection e1 with e1 e2
      subst e1 e2
      unfold mbs
      dsimp only
      rw [mb_ok I sG dj d e v q q', mbs_ok I sG dj ds es r z z']
      rfl
end
end
def idn (CL : List Str) (T : D → D → Option Bool) : D → D → Option Bool := fun d e => match T d e with
  | some true => some true
  | some false => if mb CL d e = true then none else some false
  | none => none
def cmpS (T : D → D → Option Bool) : List D → List D → Option Bool
  | [], es => some es.isEmpty
  | d :: ds, es => match es with
    | [] => some false
    | e :: es => match T d e with
      | some true => cmpS T ds es
      | some false => some false
      | none => none
def eqT (CL : List Str) (E : D → D → Option Bool) : Nat → D → D → Option Bool
  | 0, _, _ => none
  | n + 1, d, e => if (okD 16 d && okD 16 e) = true then some (eqD d e) else match d with
    | .lst ds => (match e with
      | .lst es => if ds.length = es.length then cmpS (idn CL (eqT CL E n)) ds es else some false
      | _ => none)
    | .tup ds => (match e with
      | .tup es => cmpS (idn CL (eqT CL E n)) ds es
      | _ => none)
    | .ins _ _ _ => E d e
    | _ => none

def isIns : D → Bool
  | .ins _ _ _ => true
  | _ => false
def AB (X : Cx) (pins : List (Addr × Obj)) (σ : St) (H : Hp) (s' : Shared) : Prop := ∃ H', Inv X pins σ H' s' ∧ Same H H'
def EqB (X : Cx) (n : Nat) (T : D → D → Option Bool) : Prop :=
  ∀ (A : Around) (pins : List (Addr × Obj)) (s : Shared) (σ : St) (H G : Hp) (d e : D) (x y : V) (u v : Value) (b : Bool), Sub X n A → Inv X pins σ H s → Same G H → RelV x u → RelV y v → Rep X.K G d x → Rep X.K G e y → T d e = some b →
    wpAny (model X.prog X.w) A (eqBool u v) (fun r s' => r = b ∧ AB X pins σ H s') X.xe s
def OwB (X : Cx) (ne : Bool) (n : Nat) (E : D → D → Option Bool) : Prop :=
  ∀ (A : Around) (pins : List (Addr × Obj)) (s : Shared) (σ : St) (H G : Hp) (d e : D) (x y : V) (u v : Value) (b : Bool), Sub X n A → Inv X pins σ H s → Same G H → RelV x u → RelV y v → Rep X.K G d x → Rep X.K G e y → isIns d = true → E d e = some b →
    wpAny (model X.prog X.w) A (richCompare (GB.opOf ne) u v) (fun r s' => r = .bool (ne != b) ∧ AB X pins σ H s') X.xe s
def RepU (K : PySem.W.Frag) (G H : Hp) (d e : D) (x y : V) : Prop := if isIns d = true then Rep K G d x ∧ Rep K G e y else RepT K G H d x ∧ RepT K G H e y
theorem RepU.of {K : PySem.W.Frag} {G H : Hp} (s : Same G H) {d e : D} {x y : V} (h : Rep K G d x) (h' : Rep K G e y) : RepU K G H d e x y := by
  unfold RepU
  split
  · exact ⟨h, h'⟩
  · exact ⟨Rep.top s h, Rep.top s h'⟩
theorem RepU.top {K : PySem.W.Frag} {G H : Hp} (s : Same G H) {d e : D} {x y : V} (h : RepU K G H d e x y) : RepT K G H d x ∧ RepT K G H e y := by
  unfold RepU at h
  split at h
  · exact ⟨Rep.top s h.1, Rep.top s h.2⟩
  · exact h
def RcB (X : Cx) (ne : Bool) (n : Nat) (T : D → D → Option Bool) : Prop :=
  ∀ (A : Around) (pins : List (Addr × Obj)) (s : Shared) (σ : St) (H G : Hp) (d e : D) (x y : V) (u v : Value) (b : Bool), Sub X n A → Inv X pins σ H s → Same G H → RelV x u → RelV y v → RepU X.K G H d e x y → T d e = some b →
    wpAny (model X.prog X.w) A (richCompare (GB.opOf ne) u v) (fun r s' => r = .bool (ne != b) ∧ AB X pins σ H s') X.xe s
section
variable {prog : Program} {w : World} {A : Around} {E : Value → Shared → Prop} {s : Shared}
theorem eqBool_refB {l : Addr} {v : Value} {Q : Bool → Shared → Prop} (hne : v ≠ .ref l) (h : wpAny (model prog w) A (richCompare .Eq (.ref l) v) (fun v s' => ∃ r, v = .bool r ∧ Q r s') E s) : wpAny (model prog w) A (eqBool (.ref l) v) Q E s := by
  unfold eqBool
  refine wpAny_holding ?_
  refine wpAny_ite_split (fun hab => absurd (eq_of_beq hab).symm hne) (fun _ => ?_)
  refine wpAny_bind (wpAny_mono h (fun v s' hv => ?_) fun _ _ x => x)
  obtain ⟨r, rfl, q⟩ := hv
  exact wpAny_truthy_bool q
end
section
variable {X : Cx} {CL : List Str} {E : D → D → Option Bool} {n k : Nat}
theorem cmpS_spec {T : D → D → Option Bool} : ∀ {ds es : List D} {b : Bool}, cmpS T ds es = some b → ∃ m : Nat, m ≤ ds.length ∧ m ≤ es.length ∧ (∀ i d e, i < m → ds[i]? = some d → es[i]? = some e → T d e = some true) ∧
    (∀ d e, ds[m]? = some d → es[m]? = some e → T d e = some false) ∧ b = (decide (m = ds.length) && decide (m = es.length)) ∧ (m = ds.length ∨ m = es.length ∨ (m < ds.length ∧ m < es.length))
  | [], es, b, h => by
    unfold cmpS at h
    refine ⟨0, Nat.le_refl _, Nat.zero_le _, fun i d e hi => absurd hi (Nat.not_lt_zero _), fun d e hd => by simp at hd, ?_, .inl rfl⟩
    have := Option.some.inj h
    subst this
    cases es <;> rfl
  | d :: ds, [], b, h => by
    unfold cmpS at h
    refine ⟨0, Nat.zero_le _, Nat.le_refl _, fun i d e hi => absurd hi (Nat.not_lt_zero _), fun d e _ hd => by simp at hd, ?_, .inr (.inl rfl)⟩
    have := Option.some.inj h
    subst this
    rfl
  | d :: ds, e :: es, b, h => by
    unfold cmpS at h
    dsimp only at h
    cases z : T d e with
    | none =>
      rw [z] at h
      cases h
    | some r =>
      rw [z] at h
      cases r with
      | false =>
        have := Option.some.inj h
        subst this
        refine ⟨0, Nat.zero_le _, Nat.zero_le _, fun i d e hi => absurd hi (Nat.not_lt_zero _), fun d' e' h1 h2 => ?_, by simp, .inr (.inr ⟨by simp, by simp⟩)⟩
        have h1 : d = d' := by simpa using h1
        have h2 : e = e' := by simpa using h2
        rw [← h1, ← h2]
        exact z
      | true =>
        obtain ⟨m, m1, m2, m3, m4, m5, m6⟩ := cmpS_spec (ds := ds) (es := es) h
        refine ⟨m + 1, by simpa using m1, by simpa using m2, fun i d' e' hi h1 h2 => ?_, fun d' e' h1 h2 => m4 d' e' (by simpa using h1) (by simpa using h2), by simpa using m5, by simpa using m6⟩
        cases i with
        | zero =>
          have h1 : d = d' := by simpa using h1
          have h2 : e = e' := by simpa using h2
          rw [← h1, ← h2]
          exact z
        | succ i => exact m3 i d' e' (by omega) (by simpa using h1) (by simpa using h2)
theorem turnB {T : D → D → Option Bool} (h : EqB X n T) {A : Around} (sb : Sub X (n + 1) A) {pins : List (Addr × Obj)} {σ : St} {H G : Hp} (sG : Same G H) {ds es : List D} {xs ys : List V} {its its2 : List Value} (rd : Reps X.K G ds xs) (re : Reps X.K G es ys) (r : Vals xs its) (r2 : Vals ys its2) {m : Nat}
    (m3 : ∀ i d e, i < m → ds[i]? = some d → es[i]? = some e → T d e = some true) (m4 : ∀ d e, ds[m]? = some d → es[m]? = some e → T d e = some false)
    (i : Nat) (h1 : i < its.toArray.size) (h2 : i < its2.toArray.size) (s' : Shared) (l : AB X pins σ H s') : GB.TB X.prog X.w A X.xe (fun _ s' => AB X pins σ H s') m i its.toArray[i] its2.toArray[i] s' := by
  intro hi
  obtain ⟨H1, I1, e1⟩ := l
  have g1 : its[i]? = some its.toArray[i] := by
    have h1' : i < its.length := by simpa using h1
    rw [List.getElem?_eq_getElem h1'] <;> simp
  have g2 : its2[i]? = some its2.toArray[i] := by
    have h2' : i < its2.length := by simpa using h2
    rw [List.getElem?_eq_getElem h2'] <;> simp
  have k1 : i < xs.length := by rw [r.length]; simpa using h1
  have k2 : i < ys.length := by rw [r2.length]; simpa using h2
  obtain ⟨u, hu, ru⟩ := r.get (List.getElem?_eq_getElem k1)
  obtain ⟨v, hv, rv⟩ := r2.get (List.getElem?_eq_getElem k2)
  obtain ⟨d, hd, rd'⟩ := rd.getV (List.getElem?_eq_getElem k1)
  obtain ⟨e, he, re'⟩ := re.getV (List.getElem?_eq_getElem k2)
  rw [g1] at hu
  rw [g2] at hv
  rw [Option.some.inj hu, Option.some.inj hv]
  have hT : T d e = some (decide (i < m)) := by
    by_cases q : i < m
    · rw [decide_eq_true q]
      exact m3 i d e q hd he
    · rw [decide_eq_false q]
      have : i = m := by omega
      subst this
      exact m4 d e hd he
  refine wpAny_mono (h A.in1 pins s' σ H1 G d e _ _ u v _ sb.in1 I1 (sG.trans e1) ru rv rd' re' hT) (fun r s2 q => ?_) fun _ _ x => x
  obtain ⟨hr, H2, I2, e2⟩ := q
  exact ⟨hr, H2, I2, e1.trans e2⟩
theorem Reps.len2 {K : PySem.W.Frag} {G : Hp} {ds : List D} {vs : List V} {its : List Value} (h : Reps K G ds vs) (r : Vals vs its) : its.toArray.size = ds.length := by
  rw [List.size_toArray, ← r.length, h.length]
theorem rcB (he : OwB X ne (k + 1) E) (hi : EqB X (k + n) (idn CL (eqT CL E n))) : RcB X ne (k + n + 1) (eqT CL E (n + 1)) := by
  intro A pins s σ H G d e x y u v b sb I sG rx ry rde hT
  obtain ⟨rd, re⟩ := rde.top sG
  unfold eqT at hT
  split at hT
  · rename_i hok
    obtain ⟨o1, o2⟩ := Bool.and_eq_true_iff.mp hok
    have := Option.some.inj hT
    subst this
    obtain ⟨as, r1⟩ := Dp.reads I _ x u (RepT.dp sG 16 d x o1 rd) rx
    obtain ⟨bs, r2⟩ := Dp.reads I _ y v (RepT.dp sG 16 e y o2 re) ry
    have hu : A.units + 64 < cLine := by have := sb.room.un; omega
    cases ne
    · exact SeqAt.compareEq_shaped r1 r2 (okD_shaped (by decide) o1) (okD_shaped (by decide) o2) hu (Q := fun r s' => r = .bool (false != eqD d e) ∧ AB X pins σ H s') ⟨by rw [Bool.false_bne]; rfl, H, I, .refl _⟩
    · exact SeqAt.compareNe_shaped r1 r2 (okD_shaped (by decide) o1) (okD_shaped (by decide) o2) hu (Q := fun r s' => r = .bool (true != eqD d e) ∧ AB X pins σ H s') ⟨by rw [Bool.true_bne]; rfl, H, I, .refl _⟩
  · cases d with
    | lst ds =>
      cases e with
      | lst es =>
        dsimp only at hT
        obtain ⟨a, xs, rfl, q, rs⟩ := rd
        obtain ⟨a', ys, rfl, q', rs'⟩ := re
        cases rx
        cases ry
        split at hT
        · rename_i hlen
          obtain ⟨m, m1, m2, m3, m4, m5, m6⟩ := cmpS_spec hT
          have hb : b = decide (m = ds.length) := by
            rw [m5, ← hlen, Bool.and_self]
          rw [hb]
          refine GB.rc_listB ne (N := ds.length) (m := m) m1 sb.room.units0 (fun _ s' => AB X pins σ H s') (fun i s' q2 => ?_) (fun i s' q2 => ⟨rfl, q2⟩) ⟨H, I, .refl _⟩
          obtain ⟨H1, I1, e1⟩ := id q2
          obtain ⟨its, r, ⟨⟨oc, od, oa, os⟩, k1, ho, hc, hdd, hdt⟩, _⟩ := I1.list (e1.seq q)
          obtain ⟨its2, r2, ⟨⟨oc2, od2, oa2, os2⟩, k2, ho2, hc2, hdd2, hdt2⟩, _⟩ := I1.list (e1.seq q')
          simp only at hc hdt hc2 hdt2
          subst hc hdt hc2 hdt2
          exact ⟨its.toArray, its2.toArray, k1, k2, _, _, _, _, ho, ho2, rs.len2 r, by rw [rs'.len2 r2, hlen], fun h1 h2 => turnB hi sb sG rs rs' r r2 m3 m4 i h1 h2 s' q2⟩
        · rename_i hlen
          have := Option.some.inj hT
          subst this
          obtain ⟨its, r, ⟨⟨oc, od, oa, os⟩, k1, ho, hc, hdd, hdt⟩, _⟩ := I.list q
          obtain ⟨its2, r2, ⟨⟨oc2, od2, oa2, os2⟩, k2, ho2, hc2, hdd2, hdt2⟩, _⟩ := I.list q'
          simp only at hc hdt hc2 hdt2
          subst hc hdt hc2 hdt2
          exact GB.rc_listZ ne sb.room.units0 ho ho2 (by rw [rs.len2 r, rs'.len2 r2]; exact hlen) ⟨by rw [Bool.bne_false], H, I, .refl _⟩
      | _ => cases hT
    | tup ds =>
      cases e with
      | tup es =>
        dsimp only at hT
        obtain ⟨a, xs, rfl, q, rs, _⟩ := rd
        obtain ⟨a', ys, rfl, q', rs', _⟩ := re
        cases rx
        cases ry
        obtain ⟨m, m1, m2, m3, m4, m5, m6⟩ := cmpS_spec hT
        obtain ⟨its, r, z, _⟩ := I.tuple q
        obtain ⟨its2, r2, z2, _⟩ := I.tuple q'
        rw [m5, ← rs.len2 r, ← rs'.len2 r2]
        rw [← rs.len2 r] at m1 m6
        rw [← rs'.len2 r2] at m2 m6
        exact GB.rc_tupB ne m1 m2 m6 sb.room.units0 (fun _ s' => AB X pins σ H s') z z2 (fun i h1 h2 s' q2 => turnB hi sb sG rs rs' r r2 m3 m4 i h1 h2 s' q2) (fun i s' q2 => ⟨rfl, q2⟩) ⟨H, I, .refl _⟩
      | _ => cases hT
    | ins c ns ds =>
      obtain ⟨rd', re'⟩ : Rep X.K G (.ins c ns ds) x ∧ Rep X.K G e y := rde
      exact he A pins s σ H G _ e x y u v b (sb.mono (by omega)) I sG rx ry rd' re' rfl hT
    | _ => cases hT

theorem eqT_ins0 {d e : D} {b : Bool} (h : eqT CL E n d e = some b) : (okD 16 d = true ∧ okD 16 e = true ∧ b = eqD d e) ∨ ∃ z : Nat, ∀ K G x, Rep K G d x → ∃ a, x = V.ref a := by
  cases n with
  | zero => cases h
  | succ n =>
    unfold eqT at h
    split at h
    · rename_i hok
      obtain ⟨o1, o2⟩ := Bool.and_eq_true_iff.mp hok
      exact .inl ⟨o1, o2, (Option.some.inj h).symm⟩
    · refine .inr ⟨0, fun K G x r => ?_⟩
      cases d with
      | lst ds =>
        unfold Rep at r
        obtain ⟨a, _, q, _⟩ := r
        exact ⟨a, q⟩
      | tup ds =>
        unfold Rep at r
        obtain ⟨a, _, q, _⟩ := r
        exact ⟨a, q⟩
      | ins c ns ds =>
        unfold Rep at r
        obtain ⟨a, _, _, q, _⟩ := r
        exact ⟨a, q⟩
      | _ => cases h
theorem eqB_of (dj : DJ X.K CL) (h : RcB X false n (eqT CL E m)) : EqB X n (idn CL (eqT CL E m)) := by
  intro A pins s σ H G d e x y u v b sb I sG rx ry rd re hT
  unfold idn at hT
  have hb : eqT CL E m d e = some b ∧ (b = false → mb CL d e = false) := by
    cases z : eqT CL E m d e with
    | none =>
      rw [z] at hT
      cases hT
    | some r =>
      rw [z] at hT
      cases r with
      | true => exact ⟨hT, fun q => by rw [← Option.some.inj hT] at q; cases q⟩
      | false =>
        dsimp only at hT
        split at hT
        · cases hT
        · rename_i q
          exact ⟨hT, fun _ => Bool.eq_false_iff.mpr q⟩
  obtain ⟨hE, hmb⟩ := hb
  rcases eqT_ins0 hE with ⟨o1, o2, hb⟩ | ⟨_, hr⟩
  · obtain ⟨as, r1⟩ := Dp.reads I _ x u (RepT.dp sG 16 d x o1 (Rep.top sG rd)) rx
    obtain ⟨bs, r2⟩ := Dp.reads I _ y v (RepT.dp sG 16 e y o2 (Rep.top sG re)) ry
    have hu : A.units + 64 < cLine := by have := sb.room.un; omega
    subst hb
    exact SeqAt.eqAt_reads _ _ A s u v as bs r1 r2 (SeqAt.canLay_of_shaped (okD_shaped (by decide) o1)) (SeqAt.canLay_of_shaped (okD_shaped (by decide) o2)) (SeqAt.room_of_shaped (okD_shaped (by decide) o1) hu) X.prog X.w X.xe _ ⟨rfl, H, I, .refl _⟩
  · obtain ⟨a, rfl⟩ := hr _ _ _ rd
    cases rx
    by_cases hv : v = .ref a
    · subst hv
      have : y = .ref a := ry.inj rfl
      subst this
      have hm := mb_ok I sG dj d e _ rd re
      cases b with
      | false =>
        rw [hmb rfl] at hm
        cases hm
      | true => exact SeqAt.EqAt.same (A := A) (s := s) (.ref a) X.prog X.w X.xe _ ⟨rfl, H, I, .refl _⟩
    · refine eqBool_refB hv (wpAny_mono (h A pins s σ H G d e (.ref a) y _ _ b sb I sG rfl ry (RepU.of sG rd re) hE) (fun r s' q => ?_) fun _ _ x => x)
      obtain ⟨hr', q⟩ := q
      exact ⟨b, by rw [hr', Bool.false_bne], rfl, q⟩
theorem eqB_all (dj : DJ X.K CL) (he : OwB X false k E) : ∀ m, EqB X (k + m) (idn CL (eqT CL E m))
  | 0 => eqB_of dj fun A pins s σ H G d e x y u v b sb I sG rx ry rd hT => by cases hT
  | m + 1 => eqB_of dj (rcB (fun A pins s σ H G d e x y u v b sb => he A pins s σ H G d e x y u v b (sb.mono (Nat.le_succ _))) (eqB_all dj he m))
theorem rcB_all (dj : DJ X.K CL) (he : OwB X false k E) (hn : OwB X ne (k + 1) E) (m : Nat) : RcB X ne (k + m + 1) (eqT CL E (m + 1)) := rcB hn (eqB_all dj he m)
end
end TL

namespace TL
open PySem PySem.Spec L2
def ownE (tb : List CI) (cs : List Str) (F : Fn) : D → D → Option Bool := fun d e => match d with
  | .ins c _ _ => if (cs.contains c && (tagOf tb e).isSome) = true then (match F [.im d, .im e] with
    | .rt (.bl b) _ => some b
    | _ => none) else none
  | _ => none
theorem djB_ok {K : PySem.W.Frag} {CL : List Str} (h : djB K CL = true) : DJ K CL := fun c hc c' hc' e => by
  have := List.all_eq_true.mp (List.all_eq_true.mp h c hc) c' hc'
  rw [e] at this
  simpa using this
section
variable {X : Cx} {tb : List CI} {ks cs ps : List Str} {F : Fn} {k : Nat}
theorem nf_tag {K : PySem.W.Frag} (h : nfB K tb cs = true) {c : Str} (hc : c ∈ cs) {e : D} {g : Sum String CI} (hg : tagOf tb e = some g) : PySem.W.notFirst K (He.ga K c) (tagV K g) = true := by
  obtain ⟨h1, h2⟩ := Bool.and_eq_true_iff.mp (List.all_eq_true.mp h c hc)
  cases g with
  | inl t => exact List.all_eq_true.mp h1 t (tag_bts hg)
  | inr ci => exact List.all_eq_true.mp h2 ci (tag_ci hg)
theorem frame2 {K : PySem.W.Frag} {G H : Hp} {d e : D} {x y : V} (sG : Same G H) (rd : Rep K G d x) (re : Rep K G e y) : ∃ fx : Fx, AR K fx G H [x, y] [.im d, .im e] ∧ ∀ G' H' sl', Same G G' → ER K fx G' H' ([x, y].map some) sl' → Same H H' := by
  classical
  refine ⟨⟨fun a => if G a = none then H a else none, fun _ => none⟩, ⟨⟨rfl, sG, fun a o q => ?_, fun a o q => ?_, fun i d' q => ?_, fun i b d' q => ?_, fun i j b c d' e' p q => ?_, fun i p q => by cases q⟩, fun i b d' q => ?_⟩, fun G' H' sl' s r a o q => ?_⟩
  · dsimp only at q
    split at q
    · exact q
    · cases q
  · dsimp only at q
    split at q
    · exact .inl (by assumption)
    · cases q
  · rcases i with _ | _ | i
    · simp at q
      subst q
      exact ⟨x, rfl, rd⟩
    · simp at q
      subst q
      exact ⟨y, rfl, re⟩
    · simp at q
  · rcases i with _ | _ | i <;> simp at q
  · rcases i with _ | _ | i <;> simp at q
  · rcases i with _ | _ | i <;> simp at q
  · by_cases g : G a = none
    · exact r.sF a o (by dsimp only; rw [if_pos g]; exact q)
    · obtain ⟨o', g'⟩ := Option.ne_none_iff_exists'.mp g
      have e1 := sG a o' g'
      rw [q] at e1
      rw [Option.some.inj e1]
      exact r.sG a o' (s a o' g')

theorem own_call (T : CT X.K tb ks) (M : ∀ c ∈ cs, MeT X.prog X.w X.K X.mg X.base k c "__eq__" ps (TF F)) {A : Around} {pins : List (Addr × Obj)} {s : Shared} {σ : St} {H G : Hp} {c : Str} {ns : List Str} {ds : List D} {e : D} {a : Addr} {y : V} {v : Value} {b : Bool}
    (sb : Sub X k A) (I : Inv X pins σ H s) (sG : Same G H) (ry : RelV y v) (rd : Rep X.K G (.ins c ns ds) (.ref a)) (re : Rep X.K G e y) (hE : ownE tb cs F (.ins c ns ds) e = some b) :
    ∃ f g, c ∈ cs ∧ tagOf tb e = some g ∧ Meth X.K (He.ga X.K c) "__eq__" f ∧ wpAny (model X.prog X.w) A (call (.ref f) [.ref a, v]) (fun r s' => r = .bool b ∧ AB X pins σ H s') X.xe s := by
  unfold ownE at hE
  dsimp only at hE
  split at hE
  · rename_i hc
    obtain ⟨hc, ht⟩ := Bool.and_eq_true_iff.mp hc
    have hc := List.contains_iff_mem.mp hc
    obtain ⟨g, hg⟩ := Option.isSome_iff_exists.mp ht
    have hF : ∃ sl, F [.im (.ins c ns ds), .im e] = .rt (.bl b) sl := by
      split at hE
      · rename_i b' sl z
        exact ⟨sl, by rw [z, Option.some.inj hE]⟩
      · cases hE
    obtain ⟨sl, hF⟩ := hF
    obtain ⟨f, fd, Fk, hm, cl, hb⟩ := (M c hc).ex
    refine ⟨f, g, hc, hg, hm, ?_⟩
    have e0 : Env0 X.prog X.w X.K X.mg X.base A X.stack s H := by
      have e := I.env0
      exact ⟨by rw [sb.fr]; exact e.frames, e.mod, e.bs, e.bsz, e.funs, e.frf, e.hok, e.bare⟩
    obtain ⟨fx, ar, bk⟩ := frame2 sG rd re
    have hsp : spT X.K (TF F) [.ref a, y] H (fun v H' => v = .bl b ∧ Same H H') (fun _ _ _ => False) :=
      ⟨fx, G, _, ⟨fun d' sl' => d' = .bl b, fun _ _ => False, fun _ _ => False⟩, ar, by unfold TF; rw [hF]; rfl, fun d' sl' v' G' H' s' r' rp hq => by
        subst hq
        exact ⟨rp, bk G' H' sl' s' r'⟩, fun _ _ _ _ _ _ _ _ _ _ _ _ _ z => z.elim, fun _ _ _ _ _ _ _ _ _ z => z.elim⟩
    have hl := Fk.len _ _ _ _ hsp
    have r2 : Vals [V.ref a, y] [Value.ref a, v] := .cons rfl (.cons ry .nil)
    refine wpAny_call (codeAny_mono (Fk.run A X.stack s H ⟨[.ref a, v], []⟩ [.ref a, v] [.ref a, y] _ _ sb.room e0 (by
      have := hb s [.ref a, v] I.kIn (by simpa using hl)
      simpa using this) r2 hsp) fun r s' hq => ?_)
    cases r with
    | error e =>
      obtain ⟨_, _, _, _, _, _, _, _, _, _, _, _, h⟩ := hq
      exact h.elim
    | ok fl =>
      cases fl with
      | ret w =>
        obtain ⟨z, H', I', rz, ez, ex⟩ := I.after hq
        subst ez
        cases rz
        exact ⟨rfl, H', I', ex⟩
      | next => exact False.elim hq
      | brk => exact False.elim hq
      | cont => exact False.elim hq
  · cases hE
theorem owB_eq (T : CT X.K tb ks) (M : ∀ c ∈ cs, MeT X.prog X.w X.K X.mg X.base k c "__eq__" ps (TF F)) (nf : nfB X.K tb cs = true) : OwB X false k (ownE tb cs F) := by
  intro A pins s σ H G d e x y u v b sb I sG rx ry rd re hI hE
  cases d with
  | ins c ns ds =>
    have rd0 := rd
    unfold Rep at rd
    obtain ⟨a, dx, vs, rfl, q, l, rs⟩ := rd
    cases rx
    obtain ⟨f, g, hc, hg, hm, hw⟩ := own_call T M sb I sG ry rd0 re hE
    obtain ⟨mA, J, _⟩ := ins_get I.hok (sG _ _ q)
    obtain ⟨od, J, _⟩ := J.look
    obtain ⟨m, hFr⟩ := I.fr
    obtain ⟨P, kx, hP, _⟩ := kit_of I ry (T.ty hg (Rep.top sG re))
    refine PySem.W.cmp_K (op := .Eq) (tb := tagV X.K g) sb.room.units0 hFr I.ok.mod.kin J (kx.ty _ _ I.kIn hP) (nf_tag nf hc hg) hm.at_ hm.fn (wpAny_mono hw (fun r s' hq => ?_) fun _ _ x => x)
    obtain ⟨rfl, ab⟩ := hq
    exact ⟨by rw [Bool.false_bne], ab⟩
  | _ => cases hI
section
variable {prog : Program} {w : World} {A : Around} {E : Value → Shared → Prop} {s : Shared} {K : PySem.W.Frag} {x C f : Addr} {ox : Obj} {od : Option Obj} {v : Value}
theorem ne_entry (X : K.In s.heap) (I : PySem.W.InstAt s.heap x ox C od) (hs : PySem.W.findIn K (.ref C) "__eq__" = some (some (.ref f))) (hf : PySem.W.isFn K (.ref f) = true) (hu : A.units < cLine) {Q : Fin → Shared → Prop}
    (hcall : wpAny (model prog w) A (call (.ref f) [.ref x, v]) (fun r s' => ∃ b, r = .bool b ∧ Q (.done (.ret (.bool (!b)))) s') E s) :
    wpAny (model prog w) A (Builtin.«object.__ne__» ⟨[.ref x, v], []⟩) Q E s := by
  unfold Builtin.«object.__ne__»
  repeat (first
    | with_reducible refine wpAny_cRoomFor hu ?_
    | (refine wpAny_bind (m := callSpecialIfBound? (.ref x) (Str.ofString "__eq__") [v])
        (PySem.W.ifBound_K X I hs hf (wpAny_mono hcall (fun r s' hr => by
          obtain ⟨b, rfl, hq⟩ := hr
          repeat (first | exact hq | exact wpAny_pure hq | exact wpAny_truthy_bool hq | (refine wpAny_bind (m := truthy (.bool _)) (wpAny_truthy_bool ?_)) | wp_step)) fun _ _ e => e)))
    | wp_step)
theorem ifBound_objNe {args : List Value} {Q : Option Value → Shared → Prop} (X : K.In s.heap) (I : PySem.W.InstAt s.heap x ox C od) (hs : PySem.W.findIn K (.ref C) "__ne__" = some (some (.builtin "object.__ne__")))
    (h : wpAny (model prog w) A (call (.builtin "object.__ne__") (.ref x :: args)) (fun v => Q (some v)) E s) : wpAny (model prog w) A (callSpecialIfBound? (.ref x) "__ne__" args) Q E s := by
  simp only [callSpecialIfBound?, bindSpecialIfBound?]
  refine wpAny_holding (wpAny_bind (wpAny_bind (wpAny_bind (I.type.here ((PySem.W.looks_findIn X hs).here ?_)))))
  refine wpAny_bind (wpAny_askSetting (wpAny_ite ?_))
  have fin : wpAny (model prog w) A (call (.builtin "object.__ne__") ([.ref x] ++ args) >>= fun v => pure (some v)) Q E s := wpAny_bind (wpAny_mono h (fun v s' h' => wpAny_pure h') fun _ _ h' => h')
  split
  · exact wpAny_bind (wpAny_of_eq (F.cmp_object.ne.bind _) (wpAny_pure (by exact fin)))
  · exact wpAny_tryCatch (wpAny_bind (wpAny_of_eq (F.cmp_object.ne.bind _) (wpAny_pure (by exact fin))))
theorem cmp_N {tb : Value} {Q : Value → Shared → Prop} (hu : A.units + 1 < cLine) (X : K.In s.heap) (I : PySem.W.InstAt s.heap x ox C od) (hb : PySem.W.Looks (model prog w) s.heap (typeOf v) tb) (hn : PySem.W.notFirst K C tb = true)
    (hne : PySem.W.findIn K (.ref C) "__ne__" = some (some (.builtin "object.__ne__"))) (hm : PySem.W.mroIn K C (.type "object") = some true)
    (hs : PySem.W.findIn K (.ref C) "__eq__" = some (some (.ref f))) (hf : PySem.W.isFn K (.ref f) = true)
    (h : wpAny (model prog w) A.in1 (call (.ref f) [.ref x, v]) (fun r s' => ∃ b, r = .bool b ∧ Q (.bool (!b)) s') E s) : wpAny (model prog w) A (richCompare .NotEq (.ref x) v) Q E s := by
  have one : wpAny (model prog w) A (tryCompare (.ref x) "__ne__" v) (fun r s' => ∃ v, r = some v ∧ Q v s') E s := by
    unfold tryCompare
    refine wpAny_bind (ifBound_objNe X I hne (wpAny_call (codeAny_call_builtin F.cmp_object.ne.plain F.cmpEntry_ne (PySem.W.check_slot F.cmpKind_ne F.cmpSplit_ne (I.type.andThen (PySem.W.looks_mroIn X hm)) (F.cmpArgs_ne _ _)
      (ne_entry (A := A.in1) X I hs hf hu (wpAny_mono h (fun r s' hr => ?_) fun _ _ e => e))))))
    obtain ⟨b, rfl, hq⟩ := hr
    exact ⟨b, rfl, wpAny_pure ⟨_, rfl, hq⟩⟩
  unfold richCompare
  simp only [oneThing_ref]
  refine wpAny_holding (wpAny_bind (wpAny_cRoomFor (Nat.lt_of_succ_lt hu) ?_))
  refine wpAny_bind (I.type.here (wpAny_bind (hb.here ?_)))
  split
  · rename_i q
    have e : PySem.W.subIn K tb (.ref C) = some false := by
      rcases Bool.or_eq_true_iff.mp hn with e | e
      · rw [beq_iff_eq.mp e] at q; simp at q
      · exact beq_iff_eq.mp e
    refine wpAny_bind ((PySem.W.looks_subIn X e).here ?_)
    simp only [Bool.false_eq_true, if_false]
    refine wpAny_bind (wpAny_mono one (fun r s' z => ?_) fun _ _ e => e)
    obtain ⟨v, rfl, hq⟩ := z
    exact wpAny_pure hq
  · refine wpAny_bind (wpAny_pure ?_)
    simp only [Bool.false_eq_true, if_false]
    refine wpAny_bind (wpAny_mono one (fun r s' z => ?_) fun _ _ e => e)
    obtain ⟨v, rfl, hq⟩ := z
    exact wpAny_pure hq
end
theorem owB_ne (T : CT X.K tb ks) (M : ∀ c ∈ cs, MeT X.prog X.w X.K X.mg X.base k c "__eq__" ps (TF F)) (nf : nfB X.K tb cs = true) (nn : neB X.K cs = true) : OwB X true (k + 1) (ownE tb cs F) := by
  intro A pins s σ H G d e x y u v b sb I sG rx ry rd re hI hE
  cases d with
  | ins c ns ds =>
    have rd0 := rd
    unfold Rep at rd
    obtain ⟨a, dx, vs, rfl, q, l, rs⟩ := rd
    cases rx
    obtain ⟨f, g, hc, hg, hm, hw⟩ := own_call T M sb.in1 I sG ry rd0 re hE
    obtain ⟨n1, n2⟩ := Bool.and_eq_true_iff.mp (List.all_eq_true.mp nn c hc)
    obtain ⟨mA, J, _⟩ := ins_get I.hok (sG _ _ q)
    obtain ⟨od, J, _⟩ := J.look
    obtain ⟨P, kx, hP, _⟩ := kit_of I ry (T.ty hg (Rep.top sG re))
    refine cmp_N (tb := tagV X.K g) (by have := sb.room.un; omega) I.kIn J (kx.ty _ _ I.kIn hP) (nf_tag nf hc hg) (of_decide_eq_true n1) (of_decide_eq_true n2) hm.at_ hm.fn (wpAny_mono hw (fun r s' hq => ?_) fun _ _ x => x)
    obtain ⟨rfl, ab⟩ := hq
    exact ⟨b, rfl, by rw [Bool.true_bne], ab⟩
  | _ => cases hI
end
end TL

namespace TL
open PySem PySem.Spec L2
def qT (T : D → D → Option Bool) (e : Ev) (h1 h2 : Hd) : Option Bool := match h1 with
  | .im d1 => (match h2 with
    | .im d2 => T d1 d2
    | _ => (hv e h2).bind fun d2 => if isIns d1 = true then none else T d1 d2)
  | _ => (hv e h1).bind fun d1 => (hv e h2).bind fun d2 => if isIns d1 = true then none else T d1 d2
def f2q (ne : Bool) (T : D → D → Option Bool) (fa fb : FO) : FE := fun env => (fa env).bd fun h1 e1 => (fb e1).bd fun h2 e2 => match qT T e2 h1 h2 with
  | some b => .ok (.bl (ne != b)) e2
  | none => .bad
def rOw (K : PySem.W.Frag) (ne : Bool) (T : D → D → Option Bool) : R2 := fun x y H Q => ∃ G d e b, Same G H ∧ RepU K G H d e x y ∧ T d e = some b ∧ ∀ H', Same H H' → Q (.bl (ne != b)) H'
section
variable {X : Cx} {W : WX} {a b : Expr} {fa fb : FO} {T : D → D → Option Bool} {n k m : Nat} {ne : Bool} {tb : List CI} {ks cs ps CL : List Str} {F : Fn}
theorem op_ow (h : RcB X ne n T) (hr : Room n X.A) : OpR X (compareOp (GB.opOf ne)) (rOw X.K ne T) := by
  intro pins s σ H x y v u Q I rx ry hq
  obtain ⟨G, d, e, b, sG, ru, hT, q⟩ := hq
  have h' := h X.A pins s σ H G d e x y v u b ⟨hr, rfl⟩ I sG rx ry ru hT
  have z : wpAny (model X.prog X.w) X.A (richCompare (GB.opOf ne) v u) (EP X pins σ Q) X.xe s := by
    refine wpAny_mono h' (fun r s' z => ?_) fun _ _ x => x
    obtain ⟨rfl, H', I', e'⟩ := z
    exact ⟨.bl (ne != b), H', I', rfl, q H' e'⟩
  cases ne
  · exact z
  · exact z
theorem repU_of {K : PySem.W.Frag} {x : Fx} {G H : Hp} {σ : St} {env : Ev} (r : ER K x G H σ env) {h1 h2 : Hd} {v1 v2 : V} {b : Bool} (q1 : HR K G σ h1 v1) (q2 : HR K G σ h2 v2) (h : qT T env h1 h2 = some b) : ∃ d e, RepU K G H d e v1 v2 ∧ T d e = some b := by
  unfold qT at h
  have two : ∀ {d1 d2 : D}, hv env h1 = some d1 → hv env h2 = some d2 → (if isIns d1 = true then none else T d1 d2) = some b → ∃ d e, RepU K G H d e v1 v2 ∧ T d e = some b := fun {d1 d2} z1 z2 z => by
    split at z
    · cases z
    · rename_i hi
      exact ⟨d1, d2, by unfold RepU; rw [if_neg hi]; exact ⟨q1.read r z1, q2.read r z2⟩, z⟩
  cases h1 with
  | im d1 =>
    cases h2 with
    | im d2 => exact ⟨d1, d2, RepU.of r.sG q1 q2, h⟩
    | ow j =>
      dsimp only at h
      obtain ⟨d2, z2, h⟩ := Option.bind_eq_some_iff.mp h
      exact two rfl z2 h
  | ow i =>
    dsimp only at h
    obtain ⟨d1, z1, h⟩ := Option.bind_eq_some_iff.mp h
    obtain ⟨d2, z2, h⟩ := Option.bind_eq_some_iff.mp h
    exact two z1 z2 h
theorem l2q {K : PySem.W.Frag} (σ : St) (H : Hp) (Q : VK) (h : lO K W (imO (wp (f2q ne T fa fb))) σ H Q) : tOp (rOw K ne T) (lO K W (wp fa)) (lO K W (wp fb)) σ H Q := by
  obtain ⟨x, G, env, Q', X', r', hw, hn, hx⟩ := h
  have hw : ((fa env).bd fun h1 e1 => (fb e1).bd fun h2 e2 => match qT T e2 h1 h2 with | some b => Re.ok (D.bl (ne != b)) e2 | none => .bad).on (fun d e => Q' (.im d) e) X' := hw
  rw [Re.on_bd] at hw
  refine ⟨x, G, env, _, X', r', hw, fun h1 e1 v1 G1 H1 s1 r1 q1 hw1 => ?_, hx⟩
  rw [Re.on_bd] at hw1
  refine ⟨x, G1, e1, _, X', r1, hw1, fun h2 e2 v2 G2 H2 s2 r2 q2 hw2 => ?_, hx.up s1⟩
  cases z : qT T e2 h1 h2 with
  | none =>
    rw [z] at hw2
    exact hw2.elim
  | some b =>
    rw [z] at hw2
    obtain ⟨d, e, ru, hT⟩ := repU_of r2 (q1.mono s2) q2 z
    refine ⟨G2, d, e, b, r2.sG, ru, hT, fun H' sH => ?_⟩
    have st : Step G2 H2 G2 H' := ⟨.refl _, sH, r2.sG.trans sH, fun a o e q => by rw [q] at e; cases e⟩
    exact hn (.im (.bl (ne != b))) e2 _ G2 H' (s1.trans s2) (r2.step st) rfl hw2
theorem kc_ow (h : RcB X ne n T) (hr : Room n X.A) (ha : KO X W a fa) (hb : KO X W b fb) (hm : behindInMarks (GB.opOf ne) b = false) : KC X W (GB.opOf ne) a b (f2q ne T fa fb) :=
  ⟨fun _ => (pe_cmpR (op_ow h hr) ha hb hm).le l2q, fun _ => QT.le (w := wB (wp (f2q ne T fa fb))) ((pt_cmpR (op_ow h hr) ha hb hm).le fun σ H Q h => l2q σ H _ (lB σ H Q h)) leB⟩
abbrev eqO (tb : List CI) (cs : List Str) (F : Fn) : D → D → Option Bool := eqT cs (ownE tb cs F) 6
theorem kc_eqO (T : CT X.K tb ks) (hq : oqB X.K tb cs = true) (M : ∀ q ∈ TFs (cs.map fun c => (c, F)), MeT X.prog X.w X.K X.mg X.base k q.1 "__eq__" ps q.2) (hr : Room (k + 6) X.A) (ha : KO X W a fa) (hb : KO X W b fb) : KC X W .Eq a b (f2q false (eqO tb cs F) fa fb) := by
  obtain ⟨h1, h2⟩ := Bool.and_eq_true_iff.mp hq
  obtain ⟨h2, h3⟩ := Bool.and_eq_true_iff.mp h2
  have M' : ∀ c ∈ cs, MeT X.prog X.w X.K X.mg X.base k c "__eq__" ps (TF F) := fun c hc => M (c, TF F) (by unfold TFs; simp only [List.map_map, List.mem_map]; exact ⟨c, hc, rfl⟩)
  exact kc_ow (ne := false) (rcB_all (djB_ok h1) (owB_eq T M' h2) (fun A pins s σ H G d e x y u v b sb => owB_eq T M' h2 A pins s σ H G d e x y u v b (sb.mono (Nat.le_succ _))) 5) hr ha hb (nomark _)
theorem kc_neO (T : CT X.K tb ks) (hq : oqB X.K tb cs = true) (M : ∀ q ∈ TFs (cs.map fun c => (c, F)), MeT X.prog X.w X.K X.mg X.base k q.1 "__eq__" ps q.2) (hr : Room (k + 6) X.A) (ha : KO X W a fa) (hb : KO X W b fb) : KC X W .NotEq a b (f2q true (eqO tb cs F) fa fb) := by
  obtain ⟨h1, h2⟩ := Bool.and_eq_true_iff.mp hq
  obtain ⟨h2, h3⟩ := Bool.and_eq_true_iff.mp h2
  have M' : ∀ c ∈ cs, MeT X.prog X.w X.K X.mg X.base k c "__eq__" ps (TF F) := fun c hc => M (c, TF F) (by unfold TFs; simp only [List.map_map, List.mem_map]; exact ⟨c, hc, rfl⟩)
  exact kc_ow (ne := true) (rcB_all (djB_ok h1) (owB_eq T M' h2) (owB_ne T M' h2 h3) 5) hr ha hb (nomark _)
theorem ke_eqO {pos : Pos} (T : CT X.K tb ks) (hq : oqB X.K tb cs = true) (M : ∀ q ∈ TFs (cs.map fun c => (c, F)), MeT X.prog X.w X.K X.mg X.base k q.1 "__eq__" ps q.2) (hr : Room (k + 6) X.A) (ha : KO X W a fa) (hb : KO X W b fb) : KE X W (.Compare a [.Eq] [b] pos) (f2q false (eqO tb cs F) fa fb) := (kc_eqO T hq M hr ha hb).e pos
theorem kt_eqO {pos : Pos} (T : CT X.K tb ks) (hq : oqB X.K tb cs = true) (M : ∀ q ∈ TFs (cs.map fun c => (c, F)), MeT X.prog X.w X.K X.mg X.base k q.1 "__eq__" ps q.2) (hr : Room (k + 6) X.A) (ha : KO X W a fa) (hb : KO X W b fb) : KT X W (.Compare a [.Eq] [b] pos) (fB (f2q false (eqO tb cs F) fa fb)) := (kc_eqO T hq M hr ha hb).t pos
theorem kt_neO {pos : Pos} (T : CT X.K tb ks) (hq : oqB X.K tb cs = true) (M : ∀ q ∈ TFs (cs.map fun c => (c, F)), MeT X.prog X.w X.K X.mg X.base k q.1 "__eq__" ps q.2) (hr : Room (k + 6) X.A) (ha : KO X W a fa) (hb : KO X W b fb) : KT X W (.Compare a [.NotEq] [b] pos) (fB (f2q true (eqO tb cs F) fa fb)) := (kc_neO T hq M hr ha hb).t pos
end
section
variable {tb : List CI} {cs : List Str} {F : Fn} {T : D → D → Option Bool}
end
end TL

namespace TL
open PySem PySem.Spec L2
def fDs : List (Key × FE) → Ev → Re (List D)
  | [], env => .ok [] env
  | (_, f) :: r, env => (f env).bd fun d e => (fDs r e).bd fun l e' => .ok (d :: l) e'
def fDisp (ps : List (Key × FE)) : FE := fun env => (fDs ps env).bd fun l e => .ok (.dic (ps.map (·.1)) l) e
section
variable {X : Cx} {W : WX} {K : PySem.W.Frag} {x : Fx} {σ : St}
def gDGet (d e : D) : Option D := match d with
  | .dic ks ds => (keyOf e).bind fun k => dval ks ds k
  | _ => none
end
section
variable {X : Cx} {W : WX} {e : Expr}
end
end TL

namespace TL
open PySem PySem.Spec L2
structure X0Txt (K : PySem.W.Frag) (mg : Str → Option Value) (cn : Str) (C : Addr) : Prop where
  gC : mg cn = some (.ref C)
  q : PySem.W.excIn K C He.veBase "ValueError.__new__" = true
  kC : PySem.W.keepIn K (.ref C) = true
  exC : PySem.W.subIn K (.ref C) (.type "BaseException") = some true
  tyC : PySem.W.typeIn K (.ref C) = some (.type "type")
section
variable {X : Cx} {W : WX} {cn : Str}
end
end TL

namespace TL
open PySem PySem.Spec L2
section
variable {X : Cx} {W : WX} {a b : Expr} {fa fb : FO} {K : PySem.W.Frag}
def gBl (f : Bool → Bool → Bool) (d d' : D) : Option D := match d with
  | .bl i => (match d' with
    | .bl j => some (.bl (f i j))
    | _ => none)
  | _ => none
def gIsB := gBl fun i j => decide (i = j)
def gNotB := gBl fun i j => !decide (i = j)
end
end TL

namespace TL
open PySem PySem.Spec PyProof.Rows L2
def rLR3 : List V → Hp → VK → Prop := fun vs H Q => ∃ (i j c : Int) (n : Nat), ((vs = [.int i, .int j] ∧ c = 1) ∨ vs = [.int i, .int j, .int c]) ∧ RgC i j c n ∧ n ≤ 1000000 ∧ ∀ q, H q = none → Q (.ref q) (upd H q (.lst ((List.range n).map fun k => V.int (i + ((k : Nat) : Int) * c))))
section
variable {X : Cx} {W : WX} {a b c : Expr} {es : List Expr} {p pos p2 pos2 : Pos}
theorem vals_rg3 {i c : Int} {n : Nat} {acc : Array Value} (h : ItemsOf (fun k v => ∃ t, v = .int (i + k * c) t) acc n) : Vals ((List.range n).map fun k => V.int (i + ((k : Nat) : Int) * c)) acc.toList := by
  have e : acc.toList.length = n := by rw [Array.length_toList]; exact h.1
  rw [← e]
  refine vals_of_get acc.toList _ fun j u hj => ?_
  obtain ⟨t, rfl⟩ := h.2 j u (by rw [← hj, Array.getElem?_toList])
  exact ⟨t, rfl⟩
theorem pe_listRgA {ta : TA} (hc : X.calm = true) (hg : Gl X "list") (hl : X.mg "list" = none) (hg2 : Gl X "range") (hm : X.mg "range" = none) (ha : PA X (a :: es) ta)
    (hs : starEach (a :: es) X.env = (false, eval a X.env) :: starEach es X.env := by rfl) (hpl : (backTo pos2 (starEach es X.env)).any (·.1) = false := by rfl)
    (nb : starEach [.Call (.Name "range" p2) (a :: es) [] pos2] X.env = (false, eval (.Call (.Name "range" p2) (a :: es) [] pos2) X.env) :: starEach [] X.env := by rfl) :
    PE X (.Call (.Name "list" p) [.Call (.Name "range" p2) (a :: es) [] pos2] [] pos) (tCB rLR3 ta) := by
  refine ⟨fun pins s σ H Q I h => ?_⟩
  have X1 : wpAny (model X.prog X.w) X.A (eval (.Call (.Name "range" p2) (a :: es) [] pos2) X.env) (fun x s' => ∃ r i j c t u v H' n, x = .ref r ∧ IsRange s'.heap r i j c t u v ∧ Inv X pins σ H' s' ∧ RgC i j c n ∧ n ≤ 1000000 ∧ ∀ q, H' q = none → Q (.ref q) (upd H' q (.lst ((List.range n).map fun k => V.int (i + ((k : Nat) : Int) * c))))) X.xe s := by
    refine Call_ (ld_blt I hg2 hm boot_range (PyProof.Rows.callWith_type1 (thn (ha.run pos2 pins s σ H _ I h) fun us s1 ⟨vs, H1, I1, r1, q1⟩ => ?_) hs hpl))
    obtain ⟨i, j, c, n, e, ok, hn, q⟩ := q1
    rcases e with ⟨e, rfl⟩ | e
    · subst e
      cases r1 with
      | cons r rr =>
        cases rr with
        | cons r' rr =>
          cases rr
          obtain ⟨t, rfl⟩ := r
          obtain ⟨t', rfl⟩ := r'
          exact call_range_2 ⟨_, i, j, 1, _, _, _, H1, n, rfl, IsRange.new _ _ _ _ _ _ _, I1.kept fun b u e => Heap.get?_push_of_some _ e, ok, hn, q⟩
    · subst e
      cases r1 with
      | cons r rr =>
        cases rr with
        | cons r' rr =>
          cases rr with
          | cons r'' rr =>
            cases rr
            obtain ⟨t, rfl⟩ := r
            obtain ⟨t', rfl⟩ := r'
            obtain ⟨t'', rfl⟩ := r''
            refine call_range_3 ok.1 ?_ (.inl (PyProof.noPylong_small ok.2.1))
            exact ⟨_, i, j, c, _, _, _, H1, n, rfl, IsRange.new _ _ _ _ _ _ _, I1.kept (t' := s1.toks) fun b u e => Heap.get?_push_of_some _ e, ok, hn, q⟩
  refine Call_ (ld_blt I hg hl boot_list (PyProof.Rows.callWith_type1 (args_cons (thn X1 fun x s1 ⟨r, i, j, c, t, u, v, H1, n, ex, hr, I1, ok, hn, q⟩ => args_nil ?_) nb) nb))
  subst ex
  refine call_list_range (n := n) (I1.ok.hd hc) hr ok.2.2.1 ok.2.2.2 (by omega) fun h' tk acc c' hk e' hi => ?_
  refine ⟨.ref s1.heap.objs.size, upd H1 s1.heap.objs.size (.lst ((List.range n).map fun k => V.int (i + ((k : Nat) : Int) * c))), I1.laid hk (Nat.le_refl _) (show ObjOk X.prog X.w _ _ _ (.lst ((List.range n).map fun k => V.int (i + ((k : Nat) : Int) * c))) from ⟨?_, acc.toList, c', vals_rg3 hi, ?_⟩), rfl, q _ (I1.hok.fresh (Nat.le_refl _))⟩
  · rw [List.length_map, List.length_range, sizeLine_eq]; omega
  · rw [Array.toArray_toList]; exact e'
def rgN (i j c : Int) : Nat := if i < j then ((j - i - 1) / c + 1).toNat else 0
def rgB (i j c : Int) : Bool := decide (-1000000 ≤ i) && (decide (i ≤ 1000000) && (decide (-1000000 ≤ j) && (decide (j ≤ 1000000) && (decide (j - i ≤ 1000000) && (decide (0 < c) && decide (c ≤ 1000000))))))
def gLR3 (ds : List D) : Option D := match ds with
  | [.int i, .int j] => if rgB i j 1 = true then some (.lst ((List.range (rgN i j 1)).map fun k => D.int (i + ((k : Nat) : Int) * 1))) else none
  | [.int i, .int j, .int c] => if rgB i j c = true then some (.lst ((List.range (rgN i j c)).map fun k => D.int (i + ((k : Nat) : Int) * c))) else none
  | _ => none
theorem rgB_ok {i j c : Int} (h : rgB i j c = true) : RgC i j c (rgN i j c) ∧ rgN i j c ≤ 1000000 := by
  unfold rgB at h
  simp only [Bool.and_eq_true, decide_eq_true_eq] at h
  obtain ⟨h1, h2, h3, h4, h5, h6, h7⟩ := h
  have hsz : Builtin.Range.rangeSize i j c = rgN i j c := by
    unfold Builtin.Range.rangeSize rgN
    rw [if_pos (show c > 0 from h6)]
    split
    · have : 0 ≤ (j - i - 1) / c := Int.ediv_nonneg (by omega) (by omega)
      omega
    · rfl
  have hle : rgN i j c ≤ 1000000 := by
    unfold rgN
    split
    · have : (j - i - 1) / c ≤ j - i - 1 := Int.ediv_le_self _ (by omega)
      omega
    · omega
  refine ⟨⟨by omega, by omega, ?_, hsz⟩, hle⟩
  unfold Builtin.Range.small
  rw [hsz, if_pos (show c > 0 from h6)]
  have fits : ∀ x : Int, -10000000 ≤ x → x ≤ 10000000 → Builtin.Range.rangeFitsLong x = true := fun x a b => by
    unfold Builtin.Range.rangeFitsLong
    rw [decide_eq_true (by omega), decide_eq_true (by omega)]
    rfl
  rw [fits i (by omega) (by omega), fits j (by omega) (by omega), fits c (by omega) (by omega), fits _ (by omega) (by omega), fits (j + (c - 1)) (by omega) (by omega)]
  simp
theorem reps_rg {K : PySem.W.Frag} {G : Hp} {i c : Int} {n : Nat} : Reps K G ((List.range n).map fun k => D.int (i + ((k : Nat) : Int) * c)) ((List.range n).map fun k => V.int (i + ((k : Nat) : Int) * c)) := by
  have e1 : ((List.range n).map fun k => D.int (i + ((k : Nat) : Int) * c)) = ((List.range n).map fun k => i + ((k : Nat) : Int) * c).map D.int := by
    rw [List.map_map]
    rfl
  have e2 : ((List.range n).map fun k => V.int (i + ((k : Nat) : Int) * c)) = ((List.range n).map fun k => i + ((k : Nat) : Int) * c).map V.int := by
    rw [List.map_map]
    rfl
  rw [e1, e2]
  exact Reps.of_ints
theorem sem_LR3 {K : PySem.W.Frag} : SemNF K rLR3 (fun ds P => mo (gLR3 ds) P) := fun G H ds vs P Q s h hk hq => by
  have hk : mo (gLR3 ds) P := hk
  unfold gLR3 at hk
  split at hk
  · rename_i i j _
    obtain ⟨q, hk⟩ := if_some hk
    obtain ⟨ok, hn⟩ := rgB_ok q
    obtain ⟨v1, v2, rfl, q1, q2⟩ := h.two rfl
    exact ⟨i, j, 1, _, .inl ⟨by rw [show v1 = .int i from q1, show v2 = .int j from q2], rfl⟩, ok, hn, fun l hl => hq (.lst ((List.range (rgN i j 1)).map fun k => D.int (i + ((k : Nat) : Int) * 1))) l _ hl ⟨_, rfl, reps_rg⟩ hk⟩
  · rename_i i j c _
    obtain ⟨q, hk⟩ := if_some hk
    obtain ⟨ok, hn⟩ := rgB_ok q
    obtain ⟨v1, r1, rfl, q1, h⟩ := h
    obtain ⟨v2, v3, rfl, q2, q3⟩ := RepTs.two h rfl
    exact ⟨i, j, c, _, .inr (by rw [show v1 = .int i from q1, show v2 = .int j from q2, show v3 = .int c from q3]), ok, hn, fun l hl => hq (.lst ((List.range (rgN i j c)).map fun k => D.int (i + ((k : Nat) : Int) * c))) l _ hl ⟨_, rfl, reps_rg⟩ hk⟩
  · exact hk.elim
def blsOf : List D → Option (List Bool)
  | [] => some []
  | .bl b :: r => (match blsOf r with
    | some l => some (b :: l)
    | none => none)
  | _ => none
theorem blsOf_some : ∀ {ds : List D} {bs : List Bool}, blsOf ds = some bs → ds = bs.map D.bl
  | [], bs, h => by
    cases h
    rfl
  | d :: r, bs, h => by
    cases d with
    | bl b =>
      unfold blsOf at h
      cases z : blsOf r with
      | none =>
        rw [z] at h
        cases h
      | some l =>
        rw [z] at h
        cases h
        rw [blsOf_some z]
        rfl
    | _ => cases h
theorem reps_bls {K : PySem.W.Frag} {G : Hp} : ∀ {bs : List Bool} {vs : List V}, Reps K G (bs.map D.bl) vs → vs = bs.map V.bl
  | [], vs, h => h
  | b :: bs, vs, h => by
    obtain ⟨v, r, rfl, q1, q2⟩ := h
    rw [show v = .bl b from q1, reps_bls q2]
    rfl
def gAll (d : D) : Option D := match d with
  | .lst xs => (match blsOf xs with
    | some bs => some (.bl (bs.all id))
    | none => none)
  | _ => none
theorem ke_all {e : Expr} {fa : FO} (hc : X.calm = true) (hm : X.mg "all" = none) (ha : KO X W e fa) (hg : Gl X "all" := by rfl) (he : starEach [e] X.env = (false, eval e X.env) :: starEach [] X.env := by rfl) (hpl : (backTo pos (starEach [] X.env)).any (·.1) = false := by rfl) :
    KE X W (.Call (.Name "all" p) [e] [] pos) (fN (g1' gAll) (fCons fa fNil)) := QE.le (qe_callB (k := fun ds P => mo (one ds) fun d => mo (gAll d) P) (cr_all hc) (fun G H ds vs P Q s h hk hq => by
      obtain ⟨d, z, hk⟩ := mo_some hk
      obtain ⟨v, rfl, rt⟩ := h.one (one_some z)
      cases d with
      | lst xs =>
        have hk' : mo (match blsOf xs with | some bs => some (D.bl (bs.all id)) | none => none) P := hk
        cases z2 : blsOf xs with
        | none =>
          rw [z2] at hk'
          exact hk'.elim
        | some bs =>
          rw [z2] at hk'
          rw [blsOf_some z2] at rt
          obtain ⟨a, ws, rfl, q, r⟩ := rt
          rw [reps_bls r] at q
          exact ⟨a, bs, rfl, q, hq (.bl (bs.all id)) _ G H (.refl s) rfl hk'⟩
      | _ => exact hk.elim) hg hm (by decide +kernel) (qa_cons ha qa_nil he) (he := he) (hpl := hpl)) fun env Q Xp h => by
  refine wN_nil (leN (k := fun ds P => mo (one ds) fun d => mo (gAll d) P) (hk1 fun d P h => h) env Q Xp h)
theorem kf_listRgA {fl : FA} (hc : X.calm = true) (hl : X.mg "list" = none) (hm : X.mg "range" = none) (ha : KA X W (a :: es) fl) (hg : Gl X "list" := by rfl) (hg2 : Gl X "range" := by rfl)
    (hs : starEach (a :: es) X.env = (false, eval a X.env) :: starEach es X.env := by rfl) (hpl : (backTo pos2 (starEach es X.env)).any (·.1) = false := by rfl)
    (nb : starEach [.Call (.Name "range" p2) (a :: es) [] pos2] X.env = (false, eval (.Call (.Name "range" p2) (a :: es) [] pos2) X.env) :: starEach [] X.env := by rfl) :
    KF X W (.Call (.Name "list" p) [.Call (.Name "range" p2) (a :: es) [] pos2] [] pos) (fN gLR3 fl) :=
  QF.le ((pe_listRgA hc hg hl hg2 hm ha hs hpl nb).le (lNF sem_LR3)) (leN fun ds P h => h)
end
end TL

namespace TL
open PySem PySem.Spec PyProof.Rows L2
def prm {α : Type} (sw : Bool) (l : List α) : List α := match sw with
  | true => l.reverse
  | false => l
def KB (K : PySem.W.Frag) (fd : FuncData) (ps ks : List Str) (sw : Bool) : Prop :=
  ∀ (s : Shared) (ws : List Value), K.In s.heap → ws.length = ps.length → BindsTo s fd ⟨[], ks.zip ws⟩ (ps.zip (prm sw ws))
structure FnTK (P : Program) (w : World) (K : PySem.W.Frag) (mg : Str → Option Value) (base : Heap) (k : Nat) (x : Str) (ps ks : List Str) (sw : Bool) (T : SpT) : Prop where
  ex : ∃ f fd, FnOk P w K mg base (L2.CX P w) k f fd ps (spT K T) ∧ mg x = some (.ref f) ∧ PySem.W.keepIn K (.ref f) = true ∧ KB K fd ps ks sw
theorem _root_.L2.PK.le {X : Cx} {es : List Keyword} {t t' : TA} (h : PK X es t) (i : ∀ σ H Q, t' σ H Q → t σ H Q) : PK X es t' := ⟨fun pos pins s σ H Q I hw => h.run pos pins s σ H Q I (i σ H Q hw)⟩
section
variable {X : Cx} {W : WX} {K : PySem.W.Frag} {T : SpT} {wl : WA} {fl : FA} {fa : FO} {F : Fn} {k : Nat} {x : Str} {ps ks : List Str} {sw : Bool} {e : Expr} {es : List Expr} {kws : List Keyword} {p pos kpos : Pos} {nm : Option Str}
theorem HRs.app2 {G : Hp} {σ : L2.St} : ∀ {hs : List Hd} {vs : List V} {hs' : List Hd} {vs' : List V}, HRs K G σ hs vs → HRs K G σ hs' vs' → HRs K G σ (hs ++ hs') (vs ++ vs')
  | [], vs, hs', vs', q, q' => by
    have e : vs = [] := q
    subst e
    exact q'
  | h :: t, vs, hs', vs', q, q' => by
    obtain ⟨v, r, rfl, q1, q2⟩ := q
    exact ⟨v, r ++ vs', rfl, q1, HRs.app2 q2 q'⟩
theorem HRs.rev {G : Hp} {σ : L2.St} : ∀ {hs : List Hd} {vs : List V}, HRs K G σ hs vs → HRs K G σ hs.reverse vs.reverse
  | [], vs, q => by
    have e : vs = [] := q
    subst e
    rfl
  | h :: t, vs, q => by
    obtain ⟨v, r, rfl, q1, q2⟩ := q
    rw [List.reverse_cons, List.reverse_cons]
    exact HRs.app2 (HRs.rev q2) ⟨v, [], rfl, q1, rfl⟩
theorem HRs.prm {G : Hp} {σ : L2.St} {hs : List Hd} {vs : List V} (q : HRs K G σ hs vs) : HRs K G σ (prm sw hs) (prm sw vs) := by
  cases sw
  · exact q
  · exact q.rev
def fCallK (F : Fn) (sw : Bool) (fl : FA) : FE := fun env => (fl env).bd fun hs e => callF F (prm sw hs) e
def foAny (i : Nat) : FO := fun env => match imAt env i with
  | some d => .ok (.im d) env
  | none => foVar i env
def fAlt (i : Nat) (f g : FE) : FE := fun env => match imAt env i with
  | some _ => f env
  | none => g env
end
end TL

namespace TL
open PySem PySem.Spec PyProof.Rows L2
section
variable {X : Cx} {W : WX} {a e : Expr} {fa : FO} {p pos p2 : Pos}
def fSlT (fa : FO) (fl fh : FP) : FE := fun env => (fa env).bd fun h e1 => (fl e1).bd fun lo e2 => (fh e2).bd fun hi e3 => match hv e3 h with
  | some (.tup ds) => if HT.sIx ds.length 0 lo = 0 ∧ HT.sIx ds.length ds.length hi = ds.length then .bad else .ok (.tup (cutD ds lo hi)) e3
  | _ => .bad
end
end TL

namespace TL
open PySem PySem.Spec L2
section
variable {X : Cx}
variable {K : PySem.W.Frag}
end
end TL

namespace TL
open PySem PySem.Spec L2
section
variable {X : Cx} {W : WX} {a b e : Expr} {fa fb : FO} {p pos p2 apos : Pos} {K : PySem.W.Frag}
def gIxS (d1 d2 : D) : Option D := match d1, d2 with
  | .str z, .int i => (match atI z.cps.toList i with
    | some c => if z.length ≤ 1000000 then some (.str ⟨#[c]⟩) else none
    | none => none)
  | _, _ => none
theorem sem_ixS : Sem2 K rIxS (fun d1 d2 P => mo (gIxS d1 d2) P) := fun G H d1 d2 v1 v2 P Q s h1 h2 hk hq => by
  cases d1 with
  | str z =>
    cases d2 with
    | int i =>
      have e1 : v1 = .str z := h1
      have e2 : v2 = .int i := h2
      subst e1 e2
      have hk' : mo (match atI z.cps.toList i with
        | some c => if z.length ≤ 1000000 then some (D.str ⟨#[c]⟩) else none
        | none => none) P := hk
      cases hc : atI z.cps.toList i with
      | none =>
        rw [hc] at hk'
        exact hk'.elim
      | some c =>
        rw [hc] at hk'
        obtain ⟨hl, hk'⟩ := mo_if hk'
        exact ⟨z, i, c, rfl, rfl, line_le hl, hc, hq (.str ⟨#[c]⟩) _ G H (.refl s) rfl hk'⟩
    | _ => exact hk.elim
  | _ => exact hk.elim
theorem ke_ixS (ha : KO X W a fa) (hb : KO X W b fb) (hs : PlainIx b) : KE X W (.Subscript a b pos) (f2 gIxS fa fb) := QE.le ((pe_ix ix_str ha hb hs).le (l2 sem_ixS)) (le2 fun d d' P h => h)
def gIntT (d : D) : Option D := match d with
  | .str z => (match PySem.intText? z with
    | some n => if z.length ≤ 640 then some (.int n) else none
    | none => none)
  | _ => none
theorem ke_intT (hm : X.mg "int" = none) (ha : KO X W e fa) (hg : Gl X "int" := by rfl) (he : starEach [e] X.env = (false, eval e X.env) :: starEach [] X.env := by rfl) (hpl : (backTo pos (starEach [] X.env)).any (·.1) = false := by rfl) :
    KE X W (.Call (.Name "int" p) [e] [] pos) (fN (g1' gIntT) (fCons fa fNil)) := QE.le (qe_callTy (k := fun ds P => mo (one ds) fun d => mo (gIntT d) P) call_int_str (fun G H ds vs P Q s h hk hq => by
      obtain ⟨d, z, hk⟩ := mo_some hk
      obtain ⟨v, rfl, rt⟩ := h.one (one_some z)
      cases d with
      | str y =>
        have hk' : mo (match PySem.intText? y with
          | some n => if y.length ≤ 640 then some (D.int n) else none
          | none => none) P := hk
        have ev : v = .str y := rt
        subst ev
        cases hc : PySem.intText? y with
        | none =>
          rw [hc] at hk'
          exact hk'.elim
        | some n =>
          rw [hc] at hk'
          obtain ⟨hl, hk'⟩ := mo_if hk'
          exact ⟨y, n, rfl, hc, hl, hq (.int n) _ G H (.refl s) rfl hk'⟩
      | _ => exact hk.elim) hg hm (by decide +kernel) (qa_cons ha qa_nil he) (he := he) (hpl := hpl)) fun env Q Xp h => by
  refine wN_nil (leN (k := fun ds P => mo (one ds) fun d => mo (gIntT d) P) (hk1 fun d P h => h) env Q Xp h)
def fSlS (fa : FO) (fl fh : FP) : FE := fun env => (fa env).bd fun h e1 => (fl e1).bd fun lo e2 => (fh e2).bd fun hi e3 => match hv e3 h with
  | some (.str z) => if z.length ≤ 1000000 then .ok (.str (cutS z lo hi)) e3 else .bad
  | _ => .bad
theorem ke_slS {lo hi : Option Expr} {pl ph : FP} (ha : KO X W a fa) (hl : KP X W lo pl) (hh : KP X W hi ph) : KE X W (.Subscript a (.Slice lo hi none p2) pos) (fSlS fa pl ph) := (pe_slice sl_str ha hl hh).le fun σ H Q h => by
  obtain ⟨x, G, env, Q', X', r, hw, hn, hx⟩ := h
  have hw' : wp fa env (fun h e1 => wp pl e1 (fun lo e2 => wp ph e2 (fun hi e3 => (match hv e3 h with
      | some (.str z) => if z.length ≤ 1000000 then (Re.ok (D.str (cutS z lo hi)) e3 : Re D) else .bad
      | _ => Re.bad).on (fun d e => Q' (.im d) e) X') X') X') X' := by
    have hw2 : wp (fSlS fa pl ph) env (fun d e => Q' (.im d) e) X' := hw
    unfold fSlS at hw2
    rw [wp_bd] at hw2
    refine wp_mono (f := fa) hw2 fun h1 e1 h => ?_
    rw [Re.on_bd] at h
    refine wp_mono (f := pl) h fun lo e2 h => ?_
    rw [Re.on_bd] at h
    exact wp_mono (f := ph) h fun hi e3 h => h
  refine ⟨x, G, env, _, X', r, hw', fun h e1 v G1 H1 s1 r1 q1 hw1 => ⟨x, G1, e1, _, X', r1, hw1, fun lo' e2 G2 H2 s2 r2 hw2 => ⟨x, G2, e2, _, X', r2, hw2, fun hi' e3 G3 H3 s3 r3 hw3 => ?_, hx.up (s1.trans s2)⟩, hx.up s1⟩, hx⟩
  cases z1 : hv e3 h with
  | none =>
    rw [z1] at hw3
    exact hw3.elim
  | some d =>
    rw [z1] at hw3
    cases d with
    | str z =>
      have hw4 : (if z.length ≤ 1000000 then (Re.ok (D.str (cutS z lo' hi')) e3 : Re D) else .bad).on (fun d e => Q' (.im d) e) X' := hw3
      by_cases hc : z.length ≤ 1000000
      · rw [if_pos hc] at hw4
        have ev : v = .str z := ((q1.mono s2).mono s3).read r3 z1
        subst ev
        exact ⟨z, rfl, line_le hc, hn (.im (.str (cutS z lo' hi'))) e3 (.str (cutS z lo' hi')) _ _ ((s1.trans s2).trans s3) r3 rfl hw4⟩
      · rw [if_neg hc] at hw4
        exact hw4.elim
    | _ => exact hw3.elim
def fSplit (fa fb : FO) : FE := fun env => (fa env).bd fun h e1 => match hv e1 h with
  | some (.str z) => (fb e1).bd fun h2 e2 => (match hv e2 h2 with
    | some (.str y) => if (y.length == 0) = false ∧ z.length ≤ 100000 then .ok (.lst ((Txt.split z y).map D.str)) e2 else .bad
    | _ => .bad)
  | _ => .bad
theorem Reps.strs {G : Hp} : ∀ (zs : List Str), Reps K G (zs.map D.str) (zs.map V.str)
  | [] => Reps.nil
  | z :: zs => Reps.cons rfl (Reps.strs zs)
theorem kf_split (ha : KO X W a fa) (hb : KO X W b fb) (hs : starEach [b] X.env = [(false, eval b X.env)] := by rfl) (hbase : attributeBase a "split" X.env (eval a X.env) = eval a X.env := by rfl) (hline : (apos.endLine == pos.line) = true := by rfl) :
    KF X W (.Call (.Attribute a "split" apos) [b] [] pos) (fSplit fa fb) := (pe_m1 PySem.F.slot_str_split PySem.F.type_str_split mt_split ha hb hs hbase hline).le fun σ H Q h => by
  obtain ⟨x, G, env, Q', X', r, hw, hn, hx⟩ := h
  have hw' : wp fa env (fun h e1 => (match hv e1 h with
      | some (.str z) => (fb e1).bd fun h2 e2 => (match hv e2 h2 with
        | some (.str y) => if (y.length == 0) = false ∧ z.length ≤ 100000 then (Re.ok (.lst ((Txt.split z y).map D.str)) e2 : Re D) else .bad
        | _ => .bad)
      | _ => .bad).on Q' X') X' := by
    have hw2 : wp (fSplit fa fb) env Q' X' := hw
    unfold fSplit at hw2
    rw [wp_bd] at hw2
    exact hw2
  refine ⟨x, G, env, _, X', r, hw', fun h e1 v G1 H1 s1 r1 q1 hw1 => ?_, hx⟩
  cases z1 : hv e1 h with
  | none =>
    rw [z1] at hw1
    exact hw1.elim
  | some d =>
    rw [z1] at hw1
    cases d with
    | str z =>
      have ev : v = .str z := q1.read r1 z1
      subst ev
      have hw2 : ((fb e1).bd fun h2 e2 => (match hv e2 h2 with
        | some (.str y) => if (y.length == 0) = false ∧ z.length ≤ 100000 then (Re.ok (.lst ((Txt.split z y).map D.str)) e2 : Re D) else .bad
        | _ => .bad)).on Q' X' := hw1
      rw [Re.on_bd] at hw2
      refine ⟨⟨z, rfl⟩, x, G1, e1, _, X', r1, hw2, fun h2 e2 v2 G2 H2 s2 r2 q2 hw3 => ?_, hx.up s1⟩
      cases z2 : hv e2 h2 with
      | none =>
        rw [z2] at hw3
        exact hw3.elim
      | some d2 =>
        rw [z2] at hw3
        cases d2 with
        | str y =>
          have ev2 : v2 = .str y := q2.read r2 z2
          subst ev2
          have hw4 : (if (y.length == 0) = false ∧ z.length ≤ 100000 then (Re.ok (.lst ((Txt.split z y).map D.str)) e2 : Re D) else .bad).on Q' X' := hw3
          by_cases hc : (y.length == 0) = false ∧ z.length ≤ 100000
          · rw [if_pos hc] at hw4
            refine ⟨z, y, rfl, rfl, hc.1, line_le (by omega), fun q hp => ?_⟩
            obtain ⟨f1, f2, f3⟩ := fresh_F r2 hp
            exact hn (.lst ((Txt.split z y).map D.str)) e2 q (.lst ((Txt.split z y).map V.str)) G2 (upd H2 q _) (s1.trans s2) (r2.step (Step.junk r2.sG _ hp)) upd_same ⟨_, rfl, Reps.strs _⟩ f2 f1 f3 hw4
          · rw [if_neg hc] at hw4
            exact hw4.elim
        | _ => exact hw3.elim
    | _ => exact hw1.elim
end
end TL

namespace TL
open PySem PySem.Spec L2
section
variable {X : Cx} {W : WX} {a b e : Expr} {fa fb : FO} {p pos : Pos} {K : PySem.W.Frag}
def gDivM (d1 d2 : D) : Option D := match d1, d2 with
  | .int i, .int j => if divC i j = true then some (.tup [.int (i / j), .int (i % j)]) else none
  | _, _ => none
def g2m (ds : List D) : Option D := match ds with
  | [d1, d2] => gDivM d1 d2
  | _ => none
theorem g2m_ii {i j : Int} : g2m [.int i, .int j] = if divC i j = true then some (.tup [.int (i / j), .int (i % j)]) else none := rfl
end
end TL

namespace TL
open PySem PySem.Spec L2
section
variable {X : Cx} {W : WX} {a b e : Expr} {es : List Expr} {fa fb : FO} {p pos : Pos} {K : PySem.W.Frag}
def tL (u : FGs) (n : Nat) : FG := fun d env => match d with
  | .lst ds => if ds.length = n then u ds env else none
  | .tup ds => if ds.length = n then u ds env else none
  | _ => none
theorem tLl {u : FGs} {n : Nat} {ds : List D} {e : Ev} : tL u n (.lst ds) e = if ds.length = n then u ds e else none := rfl
end
end TL

namespace TL
open PySem PySem.Spec L2
section
variable {X : Cx} {W : WX} {a b e : Expr} {es : List Expr} {fa fb : FO} {f : FE} {p pos : Pos} {K : PySem.W.Frag}
def gInD (neg : Bool) (d1 d2 : D) : Option D := match d2 with
  | .dic ks ds => (match d1 with
    | .non => some (.bl neg)
    | .int i => some (.bl (neg ^^ (dval ks ds (.inl i)).isSome))
    | .str i => some (.bl (neg ^^ (dval ks ds (.inr i)).isSome))
    | _ => none)
  | _ => none
def rInD (neg : Bool) : R2 := fun x y H Q => (∃ a o, y = .ref a ∧ DGet H a x o ∧ Q (.bl (neg ^^ o.isSome)) H) ∨ ∃ a kvs, y = .ref a ∧ x = .non ∧ Rd H a (.dK kvs) ∧ Q (.bl neg) H
theorem gInD_n {neg : Bool} {ks : List Key} {ds : List D} : gInD neg .non (.dic ks ds) = some (.bl neg) := rfl
theorem gInD_i {neg : Bool} {ks : List Key} {ds : List D} {i : Int} : gInD neg (.int i) (.dic ks ds) = some (.bl (neg ^^ (dval ks ds (.inl i)).isSome)) := rfl
theorem gInD_s {neg : Bool} {ks : List Key} {ds : List D} {i : Str} : gInD neg (.str i) (.dic ks ds) = some (.bl (neg ^^ (dval ks ds (.inr i)).isSome)) := rfl
def cAsg3 (f : FE) (g1 g2 g3 : FG) : FS := fun env => (f env).st fun d e => ofG ((g1 d e).bind fun e1 => (g2 d e1).bind fun e2 => g3 d e2)
def fRev (fa : FO) : FE := fun env => (fa env).bd fun h e1 => match hv e1 h with
  | some (.lst ds) => .ok (.lst ds.reverse) e1
  | _ => .bad
theorem Reps.rev {G : Hp} : ∀ {ds : List D} {vs : List V}, Reps K G ds vs → Reps K G ds.reverse vs.reverse
  | [], vs, h => by
    have e := h.length
    have : vs = [] := List.eq_nil_of_length_eq_zero (by rw [e]; rfl)
    rw [this]
    exact Reps.nil
  | d :: ds, vs, h => by
    obtain ⟨v, r, rfl, q1, q2⟩ := h
    rw [List.reverse_cons, List.reverse_cons]
    exact Reps.append (Reps.rev q2) (Reps.cons q1 Reps.nil)
end
end TL

namespace TL
open PySem PySem.Spec L2
section
variable {X : Cx} {W : WX} {a b e : Expr} {fa fb : FO} {pos : Pos} {K : PySem.W.Frag}
end
end TL

namespace TL
open PySem PySem.Spec L2
section
variable {X : Cx} {K : PySem.W.Frag}
def mmInsert (ds as : List D) : Option (D × List D) := match as with
  | [.int i, d] => if ds.length < 1000000 ∧ 0 ≤ i ∧ i < 1000000 then some (.non, ds.take i.toNat ++ [d] ++ ds.drop i.toNat) else none
  | _ => none
end
section
variable {ds : List D} {d : D} {i : Int}
theorem mmInsertu : mmInsert ds [.int i, d] = if ds.length < 1000000 ∧ 0 ≤ i ∧ i < 1000000 then some (.non, ds.take i.toNat ++ [d] ++ ds.drop i.toNat) else none := rfl
end
end TL

namespace TL
open PySem PySem.Spec L2
section
variable {X : Cx} {W : WX} {K : PySem.W.Frag} {fl : FA} {F : Fn} {k : Nat} {x : Str} {ps ks : List Str} {sw : Bool} {kws : List Keyword} {p pos : Pos} {a b : Expr} {fa fb : FO}
def fCallKO (F : Fn) (sw : Bool) (fl : FA) : FE := fun env => (fl env).bd fun hs e => callO F (prm sw hs) e
end
end TL

namespace TL
open PySem PySem.Spec L2
section
variable {prog : Program} {w : World} {A : Around} {E : Value → Shared → Prop} {s : Shared}
end
section
variable {X : Cx} {W : WX} {K : PySem.W.Frag} {fl : FA} {e : Expr} {es : List Expr} {p pos : Pos}
def mx4 (i j k l : Int) : Int := max (max i j) (max k l)
def g4max (ds : List D) : Option D := match ds with
  | [.int i, .int j, .int k, .int l] => some (.int (mx4 i j k l))
  | _ => none
end
section
variable {i j k l : Int}
theorem g4maxu : g4max [.int i, .int j, .int k, .int l] = some (.int (mx4 i j k l)) := rfl
end
end TL

namespace TL
open PySem PySem.Spec L2
def gLenS (d : D) : Option D := match d with
  | .str z => if z.length ≤ 1000000 then some (.int z.length) else none
  | _ => none
def chOf (d : D) : Option (List D) := match d with
  | .str z => some (z.cps.toList.map fun c => .str ⟨#[c]⟩)
  | _ => none
section
variable {X : Cx} {W : WX} {K : PySem.W.Frag} {e : Expr} {fa : FO} {f : FE} {p pos : Pos}
theorem ke_lenS (hm : X.mg "len" = none) (ha : KO X W e fa) (hg : Gl X "len" := by rfl) (he : starEach [e] X.env = (false, eval e X.env) :: starEach [] X.env := by rfl) (hpl : (backTo pos (starEach [] X.env)).any (·.1) = false := by rfl) :
    KE X W (.Call (.Name "len" p) [e] [] pos) (fN (g1' gLenS) (fCons fa fNil)) := QE.le (qe_callB (k := fun ds P => mo (one ds) fun d => mo (strOf d) fun z => z.length ≤ 1000000 ∧ P (.int z.length)) call_len_str (fun G H ds vs P Q s h hk hq => by
      obtain ⟨d, z, hk⟩ := mo_some hk
      obtain ⟨y, z2, hl, hk⟩ := mo_some hk
      obtain ⟨v, rfl, rt⟩ := h.one (one_some z)
      rw [strOf_some z2] at rt
      have e : v = .str y := rt
      rw [e]
      exact ⟨y, rfl, line_le (by omega), hq (.int y.length) _ G H (.refl s) rfl hk⟩) hg hm PySem.boot_len (qa_cons ha qa_nil he) (he := he) (hpl := hpl)) fun env Q Xp h => by
  refine wN_nil (leN (k := fun ds P => mo (one ds) fun d => mo (strOf d) fun z => z.length ≤ 1000000 ∧ P (.int z.length)) (hk1 fun d P h => ?_) env Q Xp h)
  unfold gLenS at h
  cases d with
  | str z =>
    obtain ⟨c, h⟩ := mo_if h
    exact ⟨c, h⟩
  | _ => exact h.elim
theorem walk_str {G F : Hp} {z : Str} : Walk K G F (z.cps.toList.map fun c => D.str ⟨#[c]⟩) (Its z) where
  go := fun i H s _ hi => by
    rw [List.length_map, Array.length_toList] at hi
    exact hi
  stop := fun i H s _ hi => by
    rw [List.length_map, Array.length_toList] at hi
    exact hi
  yld := fun i H v H' d G1 s1 s2 _ e y => by
    obtain ⟨rfl, c, hc, rfl⟩ := y
    rw [List.getElem?_map, Array.getElem?_toList, hc] at e
    cases e
    exact ⟨G1, .refl s2, rfl⟩
theorem ki_str {tg : Expr} (h : KE X W e f) : KIt X W tg e (fiBy chOf f) := (pi_str h).le fun σ H R h => by
  obtain ⟨x, G, env, Q', X', r, hw, hn, hx⟩ := h
  have hw' := leBy _ _ _ hw
  refine ⟨x, G, env, _, X', r, imO_mono hw', fun h env' v G' H' s r' q hq => ?_, hx⟩
  obtain ⟨d, rfl, hq⟩ := hq
  obtain ⟨ds, z, hq⟩ := mo_some hq
  cases d with
  | str y =>
    cases z
    have q' : v = .str y := q
    exact ⟨y, q', hn _ env' G' H' _ s r' walk_str hq⟩
  | _ => cases z
end
end TL

namespace TL
open PySem PySem.Spec L2
section
variable {X : Cx} {W : WX} {a b e : Expr} {fa fb : FO} {p pos apos : Pos} {K : PySem.W.Frag}
def strsJ : List D → Option (List Str)
  | [] => some []
  | .str z :: ds => (strsJ ds).map (z :: ·)
  | _ :: _ => none
theorem strsJ_some : ∀ {ds : List D} {zs : List Str}, strsJ ds = some zs → ds = zs.map D.str
  | [], zs, h => by
    cases h
    rfl
  | d :: ds, zs, h => by
    cases d with
    | str z =>
      have h' : (strsJ ds).map (z :: ·) = some zs := h
      obtain ⟨ys, h1, rfl⟩ := Option.map_eq_some_iff.mp h'
      rw [strsJ_some h1]
      rfl
    | _ => cases h
theorem strsJ_map : ∀ (zs : List Str), strsJ (zs.map D.str) = some zs
  | [] => rfl
  | z :: zs => by
    show (strsJ (zs.map D.str)).map (z :: ·) = _
    rw [strsJ_map zs]
    rfl
theorem strsJ_inv {G : Hp} : ∀ {zs : List Str} {vs : List V}, Reps K G (zs.map D.str) vs → vs = zs.map V.str
  | [], vs, h => by
    unfold Reps at h
    exact h
  | z :: zs, vs, h => by
    unfold Reps at h
    obtain ⟨v, r, rfl, q, t⟩ := h
    have e : v = .str z := q
    rw [e, strsJ_inv t]
    rfl
def lenZ (zs : List Str) : Nat := (zs.map fun x => x.length).sum
def fJoin (fa fb : FO) : FE := fun env => (fa env).bd fun h e1 => match hv e1 h with
  | some (.str z) => (fb e1).bd fun h2 e2 => (match hv e2 h2 with
    | some d => (match (seqOf d).bind strsJ with
      | some ys => if lenZ ys + ys.length * z.length ≤ 16777216 then .ok (.str (Txt.join z ys)) e2 else .bad
      | none => .bad)
    | none => .bad)
  | _ => .bad
theorem ke_join (ha : KO X W a fa) (hb : KO X W b fb) (hs : starEach [b] X.env = [(false, eval b X.env)] := by rfl) (hbase : attributeBase a "join" X.env (eval a X.env) = eval a X.env := by rfl) (hline : (apos.endLine == pos.line) = true := by rfl) :
    KE X W (.Call (.Attribute a "join" apos) [b] [] pos) (fJoin fa fb) := (pe_m1 PySem.F.slot_str_join PySem.F.type_str_join mt_join ha hb hs hbase hline).le fun σ H Q h => by
  obtain ⟨x, G, env, Q', X', r, hw, hn, hx⟩ := h
  have hw' : wp fa env (fun h e1 => (match hv e1 h with
      | some (.str z) => (fb e1).bd fun h2 e2 => (match hv e2 h2 with
        | some d => (match (seqOf d).bind strsJ with
          | some ys => if lenZ ys + ys.length * z.length ≤ 16777216 then (Re.ok (.str (Txt.join z ys)) e2 : Re D) else .bad
          | none => .bad)
        | none => .bad)
      | _ => .bad).on (fun d e => Q' (.im d) e) X') X' := by
    have hw2 : wp (fJoin fa fb) env (fun d e => Q' (.im d) e) X' := hw
    unfold fJoin at hw2
    rw [wp_bd] at hw2
    exact hw2
  refine ⟨x, G, env, _, X', r, hw', fun h e1 v G1 H1 s1 r1 q1 hw1 => ?_, hx⟩
  cases z1 : hv e1 h with
  | none =>
    rw [z1] at hw1
    exact hw1.elim
  | some d =>
    rw [z1] at hw1
    cases d with
    | str z =>
      have ev : v = .str z := q1.read r1 z1
      subst ev
      have hw2 : ((fb e1).bd fun h2 e2 => (match hv e2 h2 with
        | some d => (match (seqOf d).bind strsJ with
          | some ys => if lenZ ys + ys.length * z.length ≤ 16777216 then (Re.ok (.str (Txt.join z ys)) e2 : Re D) else .bad
          | none => .bad)
        | none => .bad)).on (fun d e => Q' (.im d) e) X' := hw1
      rw [Re.on_bd] at hw2
      refine ⟨⟨z, rfl⟩, x, G1, e1, _, X', r1, hw2, fun h2 e2 v2 G2 H2 s2 r2 q2 hw3 => ?_, hx.up s1⟩
      cases z2 : hv e2 h2 with
      | none =>
        rw [z2] at hw3
        exact hw3.elim
      | some d2 =>
        rw [z2] at hw3
        have rt := q2.read r2 z2
        cases z3 : (seqOf d2).bind strsJ with
        | none =>
          dsimp only at hw3
          rw [z3] at hw3
          exact hw3.elim
        | some ys =>
          dsimp only at hw3
          rw [z3] at hw3
          obtain ⟨ds, z4, z5⟩ := Option.bind_eq_some_iff.mp z3
          have e5 := strsJ_some z5
          have hw4 : (if lenZ ys + ys.length * z.length ≤ 16777216 then (Re.ok (.str (Txt.join z ys)) e2 : Re D) else .bad).on (fun d e => Q' (.im d) e) X' := hw3
          by_cases hc : lenZ ys + ys.length * z.length ≤ 16777216
          · rw [if_pos hc] at hw4
            have fin := hn (.im (.str (Txt.join z ys))) e2 (.str (Txt.join z ys)) G2 H2 (s1.trans s2) r2 rfl hw4
            rcases seqOf_some z4 with z6 | z6
            · rw [z6] at rt
              obtain ⟨p, vs, rfl, q, rr⟩ := rt
              rw [e5] at rr
              rw [strsJ_inv rr] at q
              exact ⟨z, p, ys, rfl, rfl, .inl q, hc, fin⟩
            · rw [z6] at rt
              obtain ⟨p, vs, rfl, q, rr, _⟩ := rt
              rw [e5] at rr
              rw [strsJ_inv rr] at q
              exact ⟨z, p, ys, rfl, rfl, .inr q, hc, fin⟩
          · rw [if_neg hc] at hw4
            exact hw4.elim
    | _ => exact hw1.elim
def fPart (fa fb : FO) : FE := fun env => (fa env).bd fun h e1 => match hv e1 h with
  | some (.str z) => (fb e1).bd fun h2 e2 => (match hv e2 h2 with
    | some (.str y) => if (y.length == 0) = false ∧ z.length ≤ 100000 then .ok (.tup [.str (Txt.partition z y).1, .str (Txt.partition z y).2.1, .str (Txt.partition z y).2.2]) e2 else .bad
    | _ => .bad)
  | _ => .bad
theorem ke_part (ha : KO X W a fa) (hb : KO X W b fb) (hs : starEach [b] X.env = [(false, eval b X.env)] := by rfl) (hbase : attributeBase a "partition" X.env (eval a X.env) = eval a X.env := by rfl) (hline : (apos.endLine == pos.line) = true := by rfl) :
    KE X W (.Call (.Attribute a "partition" apos) [b] [] pos) (fPart fa fb) := (pe_m1 PySem.F.slot_str_partition PySem.F.type_str_partition mt_partition ha hb hs hbase hline).le fun σ H Q h => by
  obtain ⟨x, G, env, Q', X', r, hw, hn, hx⟩ := h
  have hw' : wp fa env (fun h e1 => (match hv e1 h with
      | some (.str z) => (fb e1).bd fun h2 e2 => (match hv e2 h2 with
        | some (.str y) => if (y.length == 0) = false ∧ z.length ≤ 100000 then (Re.ok (.tup [.str (Txt.partition z y).1, .str (Txt.partition z y).2.1, .str (Txt.partition z y).2.2]) e2 : Re D) else .bad
        | _ => .bad)
      | _ => .bad).on (fun d e => Q' (.im d) e) X') X' := by
    have hw2 : wp (fPart fa fb) env (fun d e => Q' (.im d) e) X' := hw
    unfold fPart at hw2
    rw [wp_bd] at hw2
    exact hw2
  refine ⟨x, G, env, _, X', r, hw', fun h e1 v G1 H1 s1 r1 q1 hw1 => ?_, hx⟩
  cases z1 : hv e1 h with
  | none =>
    rw [z1] at hw1
    exact hw1.elim
  | some d =>
    rw [z1] at hw1
    cases d with
    | str z =>
      have ev : v = .str z := q1.read r1 z1
      subst ev
      have hw2 : ((fb e1).bd fun h2 e2 => (match hv e2 h2 with
        | some (.str y) => if (y.length == 0) = false ∧ z.length ≤ 100000 then (Re.ok (.tup [.str (Txt.partition z y).1, .str (Txt.partition z y).2.1, .str (Txt.partition z y).2.2]) e2 : Re D) else .bad
        | _ => .bad)).on (fun d e => Q' (.im d) e) X' := hw1
      rw [Re.on_bd] at hw2
      refine ⟨⟨z, rfl⟩, x, G1, e1, _, X', r1, hw2, fun h2 e2 v2 G2 H2 s2 r2 q2 hw3 => ?_, hx.up s1⟩
      cases z2 : hv e2 h2 with
      | none =>
        rw [z2] at hw3
        exact hw3.elim
      | some d2 =>
        rw [z2] at hw3
        cases d2 with
        | str y =>
          have ev2 : v2 = .str y := q2.read r2 z2
          subst ev2
          have hw4 : (if (y.length == 0) = false ∧ z.length ≤ 100000 then (Re.ok (.tup [.str (Txt.partition z y).1, .str (Txt.partition z y).2.1, .str (Txt.partition z y).2.2]) e2 : Re D) else .bad).on (fun d e => Q' (.im d) e) X' := hw3
          by_cases hc : (y.length == 0) = false ∧ z.length ≤ 100000
          · rw [if_pos hc] at hw4
            refine ⟨z, y, rfl, rfl, hc.1, line_le (by omega), fun q hp => ?_⟩
            have st := Step.one r2.sG (.tup [.str (Txt.partition z y).1, .str (Txt.partition z y).2.1, .str (Txt.partition z y).2.2]) hp
            refine hn (.im (.tup [.str (Txt.partition z y).1, .str (Txt.partition z y).2.1, .str (Txt.partition z y).2.2])) e2 (.ref q) _ _ ((s1.trans s2).trans st.g) (r2.step st) ?_ hw4
            show Rep _ _ _ _
            unfold Rep
            exact ⟨q, _, rfl, SqT.of upd_same, Reps.cons rfl (Reps.cons rfl (Reps.cons rfl Reps.nil))⟩
          · rw [if_neg hc] at hw4
            exact hw4.elim
        | _ => exact hw3.elim
    | _ => exact hw1.elim
def gStrI (d : D) : Option D := match d with
  | .int i => if i.natAbs.log2 < 1920 then some (.str (Str.ofString (toString i))) else none
  | _ => none
theorem ke_strI (hm : X.mg "str" = none) (ha : KO X W e fa) (hg : Gl X "str" := by rfl) (he : starEach [e] X.env = (false, eval e X.env) :: starEach [] X.env := by rfl) (hpl : (backTo pos (starEach [] X.env)).any (·.1) = false := by rfl) :
    KE X W (.Call (.Name "str" p) [e] [] pos) (fN (g1' gStrI) (fCons fa fNil)) := QE.le (qe_callTy (k := fun ds P => mo (one ds) fun d => mo (gStrI d) P) call_str_int (fun G H ds vs P Q s h hk hq => by
      obtain ⟨d, z, hk⟩ := mo_some hk
      obtain ⟨v, rfl, rt⟩ := h.one (one_some z)
      cases d with
      | int y =>
        have hk' : mo (if y.natAbs.log2 < 1920 then some (D.str (Str.ofString (toString y))) else none) P := hk
        have ev : v = .int y := rt
        subst ev
        obtain ⟨hl, hk'⟩ := mo_if hk'
        exact ⟨y, rfl, hl, hq (.str (Str.ofString (toString y))) _ G H (.refl s) rfl hk'⟩
      | _ => exact hk.elim) hg hm (by decide +kernel) (qa_cons ha qa_nil he) (he := he) (hpl := hpl)) fun env Q Xp h => by
  refine wN_nil (leN (k := fun ds P => mo (one ds) fun d => mo (gStrI d) P) (hk1 fun d P h => h) env Q Xp h)
end
end TL

namespace TL
open PySem PySem.Spec L2
section
variable {α β : Type} {a : α} {e : Ev} {x : Xn} {k : α → Ev → Re β} {ks : α → Ev → Sr} {kf : FS} {d d' : D} {i j : Nat}
theorem bd_ok : (Re.ok a e).bd k = k a e := rfl
theorem bd_xc : (Re.xc x e : Re α).bd k = .xc x e := rfl
theorem bd_bad : (Re.bad : Re α).bd k = .bad := rfl
theorem st_ok : (Re.ok a e).st ks = ks a e := rfl
theorem st_xc : (Re.xc x e : Re α).st ks = .xc x e := rfl
theorem st_bad : (Re.bad : Re α).st ks = .bad := rfl
theorem sq_nx : (Sr.nx e).sq kf = kf e := rfl
theorem sq_rt : (Sr.rt d e).sq kf = .rt d e := rfl
theorem sq_ro : (Sr.ro d e).sq kf = .ro d e := rfl
theorem sq_bk : (Sr.bk e).sq kf = .bk e := rfl
theorem sq_ct : (Sr.ct e).sq kf = .ct e := rfl
theorem sq_xc : (Sr.xc x e).sq kf = .xc x e := rfl
theorem sq_bad : Sr.bad.sq kf = .bad := rfl
theorem ol_some : ol (some a) e = .ok a e := rfl
theorem ol_none : ol (none : Option α) e = .bad := rfl
theorem ofG_some : ofG (some e) = .nx e := rfl
theorem ofG_none : ofG none = .bad := rfl
theorem hv_im : hv e (.im d) = some d := rfl
theorem hv_ow0 {b : Bool} {s : Ev} : hv (.ow b d :: s) (.ow 0) = some d := rfl
theorem hv_ow1 {t : Sl} {s : Ev} : hv (t :: s) (.ow (i + 1)) = hv s (.ow i) := rfl
theorem imAt0 {s : Ev} : imAt (.im d :: s) 0 = some d := rfl
theorem imAt1 {t : Sl} {s : Ev} : imAt (t :: s) (i + 1) = imAt s i := rfl
theorem owAt0 {b : Bool} {s : Ev} : owAt (.ow b d :: s) 0 = some d := rfl
theorem owAt1 {t : Sl} {s : Ev} : owAt (t :: s) (i + 1) = owAt s i := rfl
theorem lowAt0 {s : Ev} : lowAt (.ow false d :: s) 0 = some d := rfl
theorem lowAt1 {t : Sl} {s : Ev} : lowAt (t :: s) (i + 1) = lowAt s i := rfl
theorem nr0i {s : Ev} : nr (.im d :: s) 0 = true := rfl
theorem nr0n {s : Ev} : nr (.no :: s) 0 = true := rfl
theorem nr0o {s : Ev} : nr (.ow false d :: s) 0 = true := rfl
theorem nr1 {t : Sl} {s : Ev} : nr (t :: s) (i + 1) = nr s i := rfl
theorem putOw0 {b : Bool} {s : Ev} : putOw (.ow b d :: s) 0 d' = .ow b d' :: s := rfl
theorem putOw1 {t : Sl} {s : Ev} : putOw (t :: s) (i + 1) d = t :: putOw s i d := by
  unfold putOw
  rw [List.getElem?_cons_succ]
  cases s[i]? with
  | none => rfl
  | some u => cases u <;> rfl
theorem noE_nil : noE e [] = e := rfl
theorem noE_cons {is : List Nat} : noE e (i :: is) = (noE e is).set i .no := rfl
theorem nrs_nil : nrs e [] = true := rfl
theorem nrs_cons {is : List Nat} : nrs e (i :: is) = (nr e i && nrs e is) := rfl
theorem setE_nil {ds : List D} : setE e [] ds = e := by unfold setE; rfl
theorem setE_cons {is : List Nat} {ds : List D} : setE e (i :: is) (d :: ds) = setE (e.set i (.im d)) is ds := rfl
theorem tOne_f {n : Nat} : tOne false n d = some [d] := by cases d <;> rfl
theorem tOne_t {n : Nat} {ds : List D} : tOne true n (.tup ds) = some ds := rfl
theorem tOne_l {n : Nat} {ds : List D} : tOne true n (.lst ds) = some ds := rfl
theorem fgu_nx {is : List Nat} : (Sr.nx e).fg is = if nrs e is = true then .nx (noE e is) else .bad := rfl
theorem fgu_rt {is : List Nat} : (Sr.rt d e).fg is = if nrs e is = true then .rt d (noE e is) else .bad := rfl
theorem fgu_xc {is : List Nat} : (Sr.xc x e).fg is = if nrs e is = true then .xc x (noE e is) else .bad := rfl
theorem fgu_ct {is : List Nat} : (Sr.ct e).fg is = if nrs e is = true then .ct (noE e is) else .bad := rfl
theorem fgu_bk {is : List Nat} : (Sr.bk e).fg is = if nrs e is = true then .bk (noE e is) else .bad := rfl
theorem fgu_bad {is : List Nat} : Sr.bad.fg is = .bad := rfl
theorem gModu {m n : Int} : gMod (.int m) (.int n) = if 0 < n then some (.int (m % n)) else none := by
  unfold gMod gI
  dsimp only
  by_cases h : 0 < n
  · rw [if_pos h, if_pos (decide_eq_true h)]
  · rw [if_neg h, if_neg (by simpa using h)]
theorem gMulu {m n : Int} : gMul (.int m) (.int n) = if mulC m n = true then some (.int (m * n)) else none := rfl
theorem gDivu {m n : Int} : gDiv (.int m) (.int n) = if divC m n = true then some (.int (m / n)) else none := rfl
theorem gPowu {m n : Int} : gPow (.int m) (.int n) = if powC m n = true then some (.int (m ^ n.toNat)) else none := rfl
theorem gShlu {m n : Int} : gShl (.int m) (.int n) = if powC m n = true then some (.int (m * 2 ^ n.toNat)) else none := rfl
theorem lcEndu {ds : List D} : lcEnd (.ok ds e) = if ds.length ≤ 1000000 then .ok (.lst ds) e else .bad := rfl
theorem fr_nx {sl : List Sl} : (Sr.nx e).fr sl = .rt .non (outs sl e) := rfl
theorem fr_rt {sl : List Sl} : (Sr.rt d e).fr sl = .rt d (outs sl e) := rfl
theorem fr_ro {sl : List Sl} : (Sr.ro d e).fr sl = .ro d (outs sl e) := rfl
theorem fr_xc {sl : List Sl} : (Sr.xc x e).fr sl = .xc x (outs sl e) := rfl
theorem outs_n {e : Ev} : outs [] e = [] := outs_nil e
theorem outs_o {b : Bool} {sl : List Sl} {t : Sl} : outs (.ow b d :: sl) (t :: e) = t :: outs sl e := rfl
theorem outs_i {sl : List Sl} {t : Sl} : outs (.im d :: sl) (t :: e) = .im d :: outs sl e := rfl
theorem gAdd_i {m n : Int} : gAdd (.int m) (.int n) = some (.int (m + n)) := rfl
theorem gSub_i {m n : Int} : TL.gSub (.int m) (.int n) = some (.int (m - n)) := rfl
theorem gLt_i {m n : Int} : gLt (.int m) (.int n) = some (.bl (decide (m < n))) := rfl
theorem gLe_i {m n : Int} : gLe (.int m) (.int n) = some (.bl (decide (m ≤ n))) := rfl
theorem gGt_i {m n : Int} : gGt (.int m) (.int n) = some (.bl (decide (n < m))) := rfl
theorem gGe_i {m n : Int} : gGe (.int m) (.int n) = some (.bl (decide (n ≤ m))) := rfl
theorem gNeg_i {m : Int} : gNeg (.int m) = some (.int (-m)) := rfl
theorem gAbs_i {m : Int} : gAbs (.int m) = some (.int (if m < 0 then -m else m)) := rfl
theorem gInt_i {m : Int} : gInt (.int m) = some (.int m) := rfl
theorem gInt_b {b : Bool} : gInt (.bl b) = some (.int (if b = true then 1 else 0)) := rfl
theorem blOf_bl {b : Bool} : blOf (.bl b) = some b := rfl
theorem seqOf_l {xs : List D} : seqOf (.lst xs) = some xs := rfl
theorem seqOf_t {xs : List D} : seqOf (.tup xs) = some xs := rfl
theorem gLen_l {xs : List D} : gLen (.lst xs) = some (.int xs.length) := rfl
theorem gLen_t {xs : List D} : gLen (.tup xs) = some (.int xs.length) := rfl
theorem gListOf_l {xs : List D} : gListOf (.lst xs) = some (.lst xs) := rfl
theorem gListOf_t {xs : List D} : gListOf (.tup xs) = some (.lst xs) := rfl
theorem gTupOf_l {xs : List D} : gTupOf (.lst xs) = some (.tup xs) := rfl
theorem gTupOf_t {xs : List D} : gTupOf (.tup xs) = some (.tup xs) := rfl
theorem gIx_l {xs : List D} {n : Int} : gIx (.lst xs) (.int n) = atI xs n := rfl
theorem gIx_t {xs : List D} {n : Int} : gIx (.tup xs) (.int n) = atI xs n := rfl
theorem g1_1 {g : D → Option D} : g1' g [d] = g d := rfl
theorem g2_2 {g : Int → Int → D} {m n : Int} : g2' g [.int m, .int n] = some (g m n) := rfl
theorem ims_n : ims [] = some [] := rfl
theorem ims_c {t : List Hd} : ims (.im d :: t) = (ims t).map (d :: ·) := by
  show (match ims t with | some ds => some (d :: ds) | none => none) = _
  cases ims t <;> rfl
theorem hvs_n : hvs e [] = some [] := rfl
theorem hvs_c {t : List Hd} {h : Hd} : hvs e (h :: t) = (hv e h).bind fun d => (hvs e t).map (d :: ·) := by
  show (match hv e h with | some d => (match hvs e t with | some ds => some (d :: ds) | none => none) | none => none) = _
  cases hv e h with
  | none => rfl
  | some d => cases hvs e t <;> rfl
theorem slsOf_n : slsOf e [] = some [] := rfl
theorem slsOf_ci {t : List Hd} : slsOf e (.im d :: t) = (slsOf e t).map (fun r => Sl.im d :: r) := by
  show (match slsOf e t with | some ds => some (Sl.im d :: ds) | none => none) = _
  cases slsOf e t <;> rfl
theorem slsOf_co {t : List Hd} : slsOf e (.ow i :: t) = (owAt e i).bind fun d => (slsOf e t).map (fun r => Sl.ow true d :: r) := by
  show (match slOf e (.ow i) with | some s => (match slsOf e t with | some ds => some (s :: ds) | none => none) | none => none) = _
  unfold slOf
  dsimp only
  cases owAt e i with
  | none => rfl
  | some d => cases slsOf e t <;> rfl
theorem ows_n : ows [] = [] := rfl
theorem ows_i {t : List Hd} : ows (.im d :: t) = ows t := rfl
theorem ows_o {t : List Hd} : ows (.ow i :: t) = i :: ows t := rfl
theorem ndup_n : ndup [] = true := rfl
theorem ndup_1 : ndup [i] = true := rfl
theorem backE_n {sl : List Sl} : backE e [] sl = e := by cases sl <;> rfl
theorem backE_i {hs : List Hd} {s : Sl} {sl : List Sl} : backE e (.im d :: hs) (s :: sl) = backE e hs sl := rfl
theorem backE_o {hs : List Hd} {b : Bool} {sl : List Sl} : backE e (.ow i :: hs) (.ow b d :: sl) = backE (putOw e i d) hs sl := rfl
theorem tCons_eq {g : FG} {u : FGs} {ds : List D} : TL.tCons g u (d :: ds) e = (g d e).bind (u ds) := rfl
theorem gAdd_lu {xs ys : List D} : gAdd (.lst xs) (.lst ys) = if xs.length + ys.length ≤ 1000000 then some (.lst (xs ++ ys)) else none := rfl
theorem gAdd_tu {xs ys : List D} : gAdd (.tup xs) (.tup ys) = if xs.length + ys.length ≤ 1000000 then some (.tup (xs ++ ys)) else none := rfl
theorem gAdd_su {xs ys : Str} : gAdd (.str xs) (.str ys) = if xs.length + ys.length ≤ 1000000 then some (.str (xs ++ ys)) else none := rfl
theorem gCat_lu {xs ys : List D} : gCat (.lst xs) (.lst ys) = if xs.length + ys.length ≤ 1000000 then some (.lst (xs ++ ys)) else none := rfl
theorem tTu {u : FGs} {n : Nat} {ds : List D} : tT u n (.tup ds) e = if ds.length = n then u ds e else none := rfl
theorem rg1u {n : Int} : rg1 (.int n) = if bnd n = true then some (rgD 0 n.toNat) else none := rfl
theorem rg2u {m n : Int} : rg2 (.int m) (.int n) = if bnd m = true ∧ bnd n = true then some (rgD m (n - m).toNat) else none := rfl
theorem gLRu {n : Int} : gLR (.int n) = if 0 ≤ n ∧ n ≤ 1000000 then some (.lst (rgD 0 n.toNat)) else none := rfl
theorem gRepu {n : Int} {ds : List D} : gRep (.lst ds) (.int n) = if -1000000 ≤ n ∧ n ≤ 1000000 ∧ ds.length * n.toNat ≤ 1000000 then some (.lst (List.replicate n.toNat ds).flatten) else none := rfl
theorem mmAppendu {ds : List D} : mmAppend ds [d] = if ds.length < 1000000 then some (.non, ds ++ [d]) else none := rfl
theorem setM_nil {ms : List Mv} : setM e [] ms = e := by cases ms <;> rfl
theorem setM_im {is : List Nat} {ms : List Mv} : setM e (i :: is) (.im d :: ms) = setM (e.set i (.im d)) is ms := rfl
theorem setM_fr {is : List Nat} {ms : List Mv} : setM e (i :: is) (.fr d :: ms) = setM (e.set i (.ow false d)) is ms := rfl
theorem owSl0 {b : Bool} {s : Ev} : owSl (.ow b d :: s) 0 = some (b, d) := rfl
theorem owSl1 {t : Sl} {s : Ev} : owSl (t :: s) (i + 1) = owSl s i := rfl
theorem tNil_eq : TL.tNil [] e = some e := rfl
theorem enOfD_l {xs : List D} : enOfD (.lst xs) = some (enD xs) := rfl
theorem enOfD_t {xs : List D} : enOfD (.tup xs) = some (enD xs) := rfl
def Fr.re (r : Fr) (hs : List Hd) (e : Ev) : Re D := match r with
  | .rt d sl' => .ok d (backE e hs sl')
  | .xc x sl' => .xc x (backE e hs sl')
  | _ => .bad
def Fr.reO (r : Fr) (hs : List Hd) (e : Ev) : Re D := match r with
  | .ro d sl' => .ok d (backE e hs sl')
  | .xc x sl' => .xc x (backE e hs sl')
  | _ => .bad
theorem re_rt {sl : List Sl} {hs : List Hd} : (Fr.rt d sl).re hs e = .ok d (backE e hs sl) := rfl
theorem re_xc {sl : List Sl} {hs : List Hd} : (Fr.xc x sl).re hs e = .xc x (backE e hs sl) := rfl
theorem reO_ro {sl : List Sl} {hs : List Hd} : (Fr.ro d sl).reO hs e = .ok d (backE e hs sl) := rfl
theorem reO_xc {sl : List Sl} {hs : List Hd} : (Fr.xc x sl).reO hs e = .xc x (backE e hs sl) := rfl
theorem callF_eq {F : Fn} {hs : List Hd} : callF F hs e = if ndup (ows hs) = true then (match slsOf e hs with
    | some sl => (F sl).re hs e
    | none => .bad) else .bad := by
  unfold callF Fr.re
  split
  · cases slsOf e hs with
    | none => rfl
    | some sl => cases F sl <;> rfl
  · rfl
theorem callO_eq {F : Fn} {hs : List Hd} : callO F hs e = if ndup (ows hs) = true then (match slsOf e hs with
    | some sl => (F sl).reO hs e
    | none => .bad) else .bad := by
  unfold callO Fr.reO
  split
  · cases slsOf e hs with
    | none => rfl
    | some sl => cases F sl <;> rfl
  · rfl
def Fr.mk (r : Fr) (hs : List Hd) (e : Ev) : Re D := match r with
  | .rt .non (.ow _ o :: sl') => .ok o (backE e hs sl')
  | .xc x (.ow _ _ :: sl') => .xc x (backE e hs sl')
  | _ => .bad
theorem mk_rt {b : Bool} {o : D} {sl : List Sl} {hs : List Hd} : (Fr.rt .non (.ow b o :: sl)).mk hs e = .ok o (backE e hs sl) := rfl
theorem mk_xc {b : Bool} {o : D} {sl : List Sl} {hs : List Hd} : (Fr.xc x (.ow b o :: sl)).mk hs e = .xc x (backE e hs sl) := rfl
theorem makeF_eq {c : Str} {F : Fn} {hs : List Hd} : makeF c F hs e = if ndup (ows hs) = true then (match slsOf e hs with
    | some sl => (F (.ow true (.ins c [] []) :: sl)).mk hs e
    | none => .bad) else .bad := by
  unfold makeF Fr.mk
  rfl
theorem f1_eq {g : D → Option D} {fa : FO} : f1 g fa e = (fa e).bd fun h e1 => match hv e1 h with | some d => ol (g d) e1 | none => .bad := rfl
theorem divC_of {i j : Int} (h0 : 0 < j) (h : j < 2 ^ 200) : divC i j = true := by
  unfold divC
  rw [decide_eq_true h0, Bool.true_and]
  refine decide_eq_true ?_
  have hj : j.natAbs ≠ 0 := by omega
  have h2 : j.natAbs < 2 ^ 200 := by
    have : (j.natAbs : Int) < ((2 ^ 200 : Nat) : Int) := by
      rw [Int.natAbs_of_nonneg (by omega)]
      exact_mod_cast h
    exact_mod_cast this
  have := (Nat.log2_lt hj).mpr h2
  omega
theorem mulC_l {i j : Int} (h : -(2 ^ 64) < i ∧ i < 2 ^ 64) : mulC i j = true := by
  unfold mulC
  rw [decide_eq_true h, Bool.true_or]
theorem mulC_r {i j : Int} (h : -(2 ^ 64) < j ∧ j < 2 ^ 64) : mulC i j = true := by
  unfold mulC
  rw [decide_eq_true h, Bool.true_or, Bool.or_true]
theorem atI_nat {α : Type} {ds : List α} {n : Nat} {d : α} (h : ds[n]? = some d) : atI ds (n : Int) = some d := atI_of rfl h
end
section
variable {g : FG} {b : FS} {d : D} {ds : List D} {e e1 e2 : Ev}
theorem forL_nil : forL g b [] e = .nx e := rfl
def Sr.lp (r : Sr) (k : FS) : Sr := match r with
  | .nx e2 => k e2
  | .ct e2 => k e2
  | .bk e2 => .nx e2
  | r => r
theorem forL_step : forL g b (d :: ds) e = match g d e with
    | none => .bad
    | some e1 => (b e1).lp (forL g b ds) := by
  show (match g d e with | none => Sr.bad | some e1 => match b e1 with | .nx e2 => forL g b ds e2 | .ct e2 => forL g b ds e2 | .bk e2 => .nx e2 | r => r) = _
  cases g d e with
  | none => rfl
  | some e1 => cases b e1 <;> rfl
theorem lp_nx {k : FS} : (Sr.nx e).lp k = k e := rfl
theorem forL_inv (st : Nat → Ev) (h : ∀ i (hi : i < ds.length), ∃ e1, g ds[i] (st i) = some e1 ∧ (b e1 = .nx (st (i + 1)) ∨ b e1 = .ct (st (i + 1)))) : forL g b ds (st 0) = .nx (st ds.length) := by
  induction ds generalizing st with
  | nil => rfl
  | cons d ds ih =>
    obtain ⟨e1, h1, h2⟩ := h 0 (Nat.zero_lt_succ _)
    rw [forL_step]
    have h1' : g d (st 0) = some e1 := h1
    rw [h1']
    have hr : (b e1).lp (forL g b ds) = forL g b ds (st 1) := by
      rcases h2 with h2 | h2 <;> rw [h2] <;> rfl
    dsimp only
    rw [hr]
    exact ih (fun i => st (i + 1)) fun i hi => h (i + 1) (Nat.succ_lt_succ hi)
theorem forL_go (st : Nat → Ev) (h0 : st 0 = e) (h : ∀ i (hi : i < ds.length), ∃ e1, g ds[i] (st i) = some e1 ∧ (b e1 = .nx (st (i + 1)) ∨ b e1 = .ct (st (i + 1)))) : forL g b ds e = .nx (st ds.length) := by
  rw [← h0]
  exact forL_inv st h
theorem forL_rel {α : Type} {f : α → D} {xs : List α} (I : Nat → Ev → Prop) (h0 : I 0 e) (h : ∀ i (hi : i < xs.length) e, I i e → ∃ e1 e2, g (f xs[i]) e = some e1 ∧ (b e1 = .nx e2 ∨ b e1 = .ct e2) ∧ I (i + 1) e2) : ∃ e', forL g b (xs.map f) e = .nx e' ∧ I xs.length e' := by
  induction xs generalizing I e with
  | nil => exact ⟨e, rfl, h0⟩
  | cons x xs ih =>
    obtain ⟨e1, e2, h1, h2, h3⟩ := h 0 (Nat.zero_lt_succ _) e h0
    have h1' : g (f x) e = some e1 := h1
    obtain ⟨e', q1, q2⟩ := ih (fun i => I (i + 1)) h3 fun i hi e he => h (i + 1) (Nat.succ_lt_succ hi) e he
    refine ⟨e', ?_, q2⟩
    rw [List.map_cons, forL_step, h1']
    dsimp only
    have hr' : (b e1).lp (forL g b (xs.map f)) = forL g b (xs.map f) e2 := by
      rcases h2 with h2 | h2 <;> rw [h2] <;> rfl
    rw [hr']
    exact q1
end
section
variable {tu : Bool} {is : List Nat} {ft : FT} {fe : FE} {e : Ev}
theorem lcL_map {α : Type} {f : α → D} {xs : List α} (vs : α → List D) (p : α → Bool) (y : α → D) (hn : nrs e is = true) (hno : noE e is = e)
    (h1 : ∀ x ∈ xs, tOne tu 0 (f x) = some (vs x) ∧ (vs x).length = is.length ∧ nrs (setE e is (vs x)) is = true ∧ noE (setE e is (vs x)) is = e)
    (h2 : ∀ x ∈ xs, ft (setE e is (vs x)) = .ok (p x) (setE e is (vs x))) (h3 : ∀ x ∈ xs, p x = true → fe (setE e is (vs x)) = .ok (y x) (setE e is (vs x))) :
    lcL tu is ft fe (xs.map f) e = .ok ((xs.filter p).map y) e := by
  induction xs with
  | nil => rfl
  | cons x xs ih =>
    have ih := ih (fun x hx => h1 x (List.mem_cons_of_mem _ hx)) (fun x hx => h2 x (List.mem_cons_of_mem _ hx)) (fun x hx => h3 x (List.mem_cons_of_mem _ hx))
    obtain ⟨a1, a2, a3, a4⟩ := h1 x List.mem_cons_self
    rw [List.map_cons]
    unfold lcL
    rw [a1]
    dsimp only
    rw [if_pos ⟨hn, a2⟩, h2 x List.mem_cons_self]
    dsimp only
    cases hp : p x with
    | false =>
      rw [if_neg Bool.false_ne_true, if_pos a3, a4, ih, List.filter_cons_of_neg (by rw [hp]; exact Bool.false_ne_true)]
    | true =>
      rw [if_pos rfl, h3 x List.mem_cons_self hp]
      dsimp only
      rw [if_pos a3, a4, ih, List.filter_cons_of_pos hp]
      rfl
theorem lcL_all {α : Type} {f : α → D} {xs : List α} (vs : α → List D) (y : α → D) (hn : nrs e is = true) (hno : noE e is = e)
    (h1 : ∀ x ∈ xs, tOne tu 0 (f x) = some (vs x) ∧ (vs x).length = is.length ∧ nrs (setE e is (vs x)) is = true ∧ noE (setE e is (vs x)) is = e)
    (h3 : ∀ x ∈ xs, fe (setE e is (vs x)) = .ok (y x) (setE e is (vs x))) :
    lcL tu is fYes fe (xs.map f) e = .ok (xs.map y) e := by
  have := lcL_map (ft := fYes) vs (fun _ => true) y hn hno h1 (fun x hx => rfl) (fun x hx _ => h3 x hx)
  rw [this]
  congr 2
  exact List.filter_eq_self.mpr fun _ _ => rfl
theorem rgD0 (n : Nat) : rgD 0 n = (List.range n).map fun i => D.int (i : Nat) := by
  unfold rgD
  refine List.map_congr_left fun i _ => ?_
  rw [Int.zero_add]
theorem enD_map {α : Type} {f : α → D} {xs : List α} : enD (xs.map f) = xs.zipIdx.map fun q => .tup [.int (q.2 : Nat), f q.1] := by
  refine List.ext_getElem? fun i => ?_
  rw [enD_get, List.getElem?_map, List.getElem?_map, List.getElem?_zipIdx]
  cases xs[i]? with
  | none => rfl
  | some x =>
    simp
theorem atI_z {ts : List Int} {i : Nat} (h : i < ts.length) : atI (ts.map D.int) (i : Int) = some (.int (zat ts i)) := atI_of rfl (zmap_get h)
end
section
variable {T : D → D → Option Bool} {e : Ev} {d d' : D} {i j : Nat} {ne : Bool} {b : Bool} {fa fb : FO}
def qRe (ne : Bool) (o : Option Bool) (e : Ev) : Re D := match o with
  | some b => .ok (.bl (ne != b)) e
  | none => .bad
theorem f2q_eq : f2q ne T fa fb = fun env => (fa env).bd fun h1 e1 => (fb e1).bd fun h2 e2 => qRe ne (qT T e2 h1 h2) e2 := rfl
theorem qT_ii : qT T e (.im d) (.im d') = T d d' := rfl
theorem qT_oi : qT T e (.ow i) (.im d') = (hv e (.ow i)).bind fun d1 => if isIns d1 = true then none else T d1 d' := rfl
theorem qT_io : qT T e (.im d) (.ow j) = (hv e (.ow j)).bind fun d2 => if isIns d = true then none else T d d2 := rfl
theorem qT_oo : qT T e (.ow i) (.ow j) = (hv e (.ow i)).bind fun d1 => (hv e (.ow j)).bind fun d2 => if isIns d1 = true then none else T d1 d2 := rfl
theorem isIns_l {ds : List D} : isIns (.lst ds) = false := rfl
theorem isIns_t {ds : List D} : isIns (.tup ds) = false := rfl
theorem isIns_i {c : Str} {ns : List Str} {ds : List D} : isIns (.ins c ns ds) = true := rfl
theorem qRe_tt : qRe true (some true) e = .ok (.bl false) e := rfl
theorem qRe_tf : qRe true (some false) e = .ok (.bl true) e := rfl
theorem qRe_ft : qRe false (some true) e = .ok (.bl true) e := rfl
theorem qRe_ff : qRe false (some false) e = .ok (.bl false) e := rfl
theorem fDs_n : fDs [] = fun env => .ok [] env := by
  funext env
  rfl
theorem fDs_c {k : Key} {f : FE} {r : List (Key × FE)} : fDs ((k, f) :: r) = fun env => (f env).bd fun d e => (fDs r e).bd fun l e' => .ok (d :: l) e' := by
  funext env
  rfl
theorem gDGet_s {ks : List Key} {ds : List D} {s : Str} : gDGet (.dic ks ds) (.str s) = dval ks ds (.inr s) := rfl
theorem gDGet_n {ks : List Key} {ds : List D} {s : Int} : gDGet (.dic ks ds) (.int s) = dval ks ds (.inl s) := rfl
theorem cmpS_same {CL : List Str} {T : D → D → Option Bool} : ∀ {ds : List D}, (∀ d ∈ ds, T d d = some true) → cmpS (idn CL T) ds ds = some true
  | [], _ => rfl
  | d :: ds, h => by
    have h1 : idn CL T d d = some true := by
      unfold idn
      rw [h d List.mem_cons_self]
    unfold cmpS
    dsimp only
    rw [h1]
    exact cmpS_same fun d' hd => h d' (List.mem_cons_of_mem _ hd)
theorem eqT_flat {CL : List Str} {E : D → D → Option Bool} {n : Nat} {d e : D} (h : okD 16 d = true) (h' : okD 16 e = true) : eqT CL E (n + 1) d e = some (eqD d e) := by
  unfold eqT
  rw [h, h']
  rfl
theorem eqT_tup {CL : List Str} {E : D → D → Option Bool} {n : Nat} {ds : List D} (h : ∀ d ∈ ds, eqT CL E n d d = some true) : eqT CL E (n + 1) (.tup ds) (.tup ds) = some true := by
  unfold eqT
  split
  · rename_i z
    rw [eqD_refl (Bool.and_eq_true_iff.mp z).1]
  · exact cmpS_same h
theorem okD_ins {n : Nat} {c : Str} {ns : List Str} {ds : List D} : okD n (.ins c ns ds) = false := by cases n <;> rfl
theorem eqT_ins {CL : List Str} {E : D → D → Option Bool} {n : Nat} {c : Str} {ns : List Str} {ds : List D} {e : D} : eqT CL E (n + 1) (.ins c ns ds) e = E (.ins c ns ds) e := by
  unfold eqT
  rw [okD_ins]
  rfl
theorem ownE_of {tb : List CI} {cs : List Str} {F : Fn} {c : Str} {ns : List Str} {ds : List D} {e : D} {b : Bool} {sl : List Sl} (hc : cs.contains c = true) (ht : (tagOf tb e).isSome = true) (h : F [.im (.ins c ns ds), .im e] = .rt (.bl b) sl) : ownE tb cs F (.ins c ns ds) e = some b := by
  unfold ownE
  dsimp only
  rw [hc, ht, h]
  rfl
end
section
variable {i j : Bool}
theorem gIsB_b : gIsB (.bl i) (.bl j) = some (.bl (decide (i = j))) := rfl
theorem gNotB_b : gNotB (.bl i) (.bl j) = some (.bl (!decide (i = j))) := rfl
end
section
variable {i j c : Int}
theorem gLR3_2 : gLR3 [.int i, .int j] = if rgB i j 1 = true then some (.lst ((List.range (rgN i j 1)).map fun k => D.int (i + ((k : Nat) : Int) * 1))) else none := rfl
theorem gLR3_3 : gLR3 [.int i, .int j, .int c] = if rgB i j c = true then some (.lst ((List.range (rgN i j c)).map fun k => D.int (i + ((k : Nat) : Int) * c))) else none := rfl
end
section
variable {d : D} {s : Ev}
theorem imAt0o {b : Bool} : imAt (.ow b d :: s) 0 = none := rfl
theorem imAt0n : imAt (.no :: s) 0 = none := rfl
theorem prm_f {α : Type} {l : List α} : prm false l = l := rfl
theorem prm_t {α : Type} {a b : α} : prm true [a, b] = [b, a] := rfl
end
end TL

namespace TL
open PySem PySem.Spec L2
def RD1 := (And.intro @bd_ok (And.intro @bd_xc (And.intro @bd_bad (And.intro @st_ok (And.intro @st_xc (And.intro @st_bad (And.intro @sq_nx (And.intro @sq_rt (And.intro @sq_ro (And.intro @sq_bk (And.intro @sq_ct (And.intro @sq_xc (And.intro @sq_bad (And.intro @ol_some (And.intro @ol_none (And.intro @ofG_some (And.intro @ofG_none (And.intro @hv_im (And.intro @hv_ow0 (And.intro @hv_ow1 (And.intro @imAt0 (And.intro @imAt1 (And.intro @owAt0 (And.intro @owAt1 (@lowAt0)))))))))))))))))))))))))
def RD2 := (And.intro @lowAt1 (And.intro @nr0i (And.intro @nr0n (And.intro @nr0o (And.intro @nr1 (And.intro @putOw0 (And.intro @putOw1 (And.intro @noE_nil (And.intro @noE_cons (And.intro @nrs_nil (And.intro @nrs_cons (And.intro @setE_nil (And.intro @setE_cons (And.intro @tOne_f (And.intro @tOne_t (And.intro @tOne_l (And.intro @fgu_nx (And.intro @fgu_rt (And.intro @fgu_xc (And.intro @fgu_ct (And.intro @fgu_bk (And.intro @fgu_bad (And.intro @fr_nx (And.intro @fr_rt (@fr_ro)))))))))))))))))))))))))
def RD3 := (And.intro @fr_xc (And.intro @outs_n (And.intro @outs_o (And.intro @outs_i (And.intro @gAdd_i (And.intro @gSub_i (And.intro @gLt_i (And.intro @gLe_i (And.intro @gGt_i (And.intro @gGe_i (And.intro @gModu (And.intro @gMulu (And.intro @gDivu (And.intro @gPowu (And.intro @gShlu (And.intro @gAdd_lu (And.intro @gAdd_tu (And.intro @gAdd_su (And.intro @gCat_lu (And.intro @rg1u (And.intro @rg2u (And.intro @gLRu (And.intro @gRepu (And.intro @mmAppendu (@gNeg_i)))))))))))))))))))))))))
def RD4 := (And.intro @gAbs_i (And.intro @gInt_i (And.intro @gInt_b (And.intro @blOf_bl (And.intro @seqOf_l (And.intro @seqOf_t (And.intro @gLen_l (And.intro @gLen_t (And.intro @gListOf_l (And.intro @gListOf_t (And.intro @gTupOf_l (And.intro @gTupOf_t (And.intro @gIx_l (And.intro @gIx_t (And.intro @g1_1 (And.intro @g2_2 (And.intro @ims_n (And.intro @ims_c (And.intro @hvs_n (And.intro @hvs_c (And.intro @slsOf_n (And.intro @slsOf_ci (And.intro @slsOf_co (And.intro @ows_n (@ows_i)))))))))))))))))))))))))
def RD5 := (And.intro @ows_o (And.intro @ndup_n (And.intro @ndup_1 (And.intro @backE_n (And.intro @backE_i (And.intro @backE_o (And.intro @tTu (And.intro @tCons_eq (And.intro @tNil_eq (And.intro @enOfD_l (And.intro @enOfD_t (And.intro @callF_eq (And.intro @callO_eq (And.intro @re_rt (And.intro @re_xc (And.intro @reO_ro (And.intro @reO_xc (And.intro @mk_rt (And.intro @mk_xc (And.intro @f1_eq (And.intro @lcEndu (And.intro @Bool.true_and (And.intro @Bool.and_true (And.intro @Bool.not_true (@Bool.not_false)))))))))))))))))))))))))
def RD6 := (And.intro @and_self (And.intro @and_true (And.intro @true_and (And.intro @Bool.false_eq_true (And.intro @Bool.true_or (And.intro @Bool.or_true (And.intro @Bool.false_or (And.intro @Bool.or_false (And.intro @Bool.false_and (And.intro @Bool.and_false (And.intro @setM_nil (And.intro @setM_im (And.intro @setM_fr (And.intro @owSl0 (And.intro @owSl1 (And.intro @f2q_eq (And.intro @qT_ii (And.intro @qT_oi (And.intro @qT_io (And.intro @qT_oo (And.intro @isIns_l (And.intro @isIns_t (And.intro @isIns_i (And.intro @qRe_tt (@qRe_tf)))))))))))))))))))))))))
def RD7 := (And.intro @qRe_ft (And.intro @qRe_ff (And.intro @fDs_n (And.intro @fDs_c (And.intro @gDGet_s (And.intro @gDGet_n (And.intro @gIsB_b (And.intro @gNotB_b (And.intro @gLR3_2 (And.intro @gLR3_3 (And.intro @imAt0o (And.intro @imAt0n (And.intro @prm_f (And.intro @prm_t (And.intro @TL.cSeq.eq_1 (And.intro @TL.cIf.eq_1 (And.intro @TL.cRet.eq_1 (And.intro @TL.cRetF.eq_1 (And.intro @TL.cRetO.eq_1 (And.intro @TL.cRetN.eq_1 (And.intro @TL.cAsg.eq_1 (And.intro @TL.cOwn.eq_1 (And.intro @TL.cPar.eq_1 (And.intro @TL.cParF.eq_1 (@TL.cFrz.eq_1)))))))))))))))))))))))))
def RD8 := (And.intro @TL.cDrop.eq_1 (And.intro @TL.cNext.eq_1 (And.intro @TL.cBreak.eq_1 (And.intro @TL.cCont.eq_1 (And.intro @TL.cSetIx.eq_1 (And.intro @TL.cFld.eq_1 (And.intro @TL.cDPut.eq_1 (And.intro @TL.cFor.eq_1 (And.intro @TL.cKil.eq_1 (And.intro @TL.cPre.eq_1 (And.intro @TL.cRaise.eq_1 (And.intro @TL.cRaise0.eq_1 (And.intro @TL.cNever.eq_1 (And.intro @TL.gSeq.eq_1 (And.intro @TL.tN.eq_1 (And.intro @TL.setO.eq_1 (And.intro @TL.oi.eq_1 (And.intro @TL.fVar.eq_1 (And.intro @TL.foVar.eq_1 (And.intro @TL.fC.eq_1 (And.intro @TL.f2.eq_1 (And.intro @TL.fN.eq_1 (And.intro @TL.fB.eq_1 (And.intro @TL.fAnd.eq_1 (@TL.fOr.eq_1)))))))))))))))))))))))))
def RD9 := (And.intro @TL.fNot.eq_1 (And.intro @TL.gAnd.eq_1 (And.intro @TL.gOr.eq_1 (And.intro @TL.gNot.eq_1 (And.intro @TL.fIf.eq_1 (And.intro @TL.fNil.eq_1 (And.intro @TL.fCons.eq_1 (And.intro @TL.fSeq.eq_1 (And.intro @TL.fLst.eq_1 (And.intro @TL.fTup.eq_1 (And.intro @TL.fLR.eq_1 (And.intro @TL.fRep.eq_1 (And.intro @TL.fSl.eq_1 (And.intro @TL.fpNone.eq_1 (And.intro @TL.fpSome.eq_1 (And.intro @TL.fiBy.eq_1 (And.intro @TL.fiR2.eq_1 (And.intro @TL.fCall.eq_1 (And.intro @TL.fCallO.eq_1 (And.intro @TL.fMeth.eq_1 (And.intro @TL.fMake.eq_1 (And.intro @TL.fLc.eq_1 (And.intro @TL.fDic0.eq_1 (And.intro @TL.foGet.eq_1 (@TL.foGet2.eq_1)))))))))))))))))))))))))
def RD10 := (And.intro @TL.fOm.eq_1 (And.intro @TL.fXf.eq_1 (And.intro @TL.fChain.eq_1 (And.intro @TL.fYes.eq_1 (And.intro @TL.gIsN.eq_1 (And.intro @TL.gNotN.eq_1 (And.intro @TL.isNon.eq_1 (And.intro @TL.fnF.eq_1 (And.intro @TL.cParM.eq_1 (And.intro @TL.mNil.eq_1 (And.intro @TL.mIm.eq_1 (And.intro @TL.mFr.eq_1 (And.intro @TL.fLcO.eq_1 (And.intro @TL.fDisp.eq_1 (And.intro @TL.foAny.eq_1 (And.intro @TL.fAlt.eq_1 (And.intro @TL.fCallK.eq_1 (And.intro @TL.fSlT.eq_1 (And.intro @TL.cAsg3.eq_1 (And.intro @TL.fRev.eq_1 (@TL.fCallKO.eq_1)))))))))))))))))))))
end TL

namespace Law
noncomputable section
open PySem PySem.Spec L2 TL
def N__law_state : List Str := ["_law_source"]
def b__law_state : FS := (cSeq (cAsg (fN (g1' gAbs) (fCons (oi (fVar 0)) fNil)) (tN 0))
    (cRetF (fLst (fCons (oi (f2 gMul (oi (fVar 0)) (oi (fN (g1' gInt) (fCons (oi (f2 gGe (oi (fVar 0)) (oi (f2 gPow (oi (fC (.int 10))) (oi (fC (.int 18))))))) fNil))))) (fCons (oi (f2 gAdd (oi (f2 gMod (oi (fN (g1' gInt) (fCons (oi (fVar 0)) fNil))) (oi (fC (.int 2147483629))))) (oi (fC (.int 7))))) (fCons (oi (f2 gMod (oi (fN (g1' gInt) (fCons (oi (fVar 0)) fNil))) (oi (fC (.int 2147483587))))) fNil))))))
def F__law_state : Fn := fnF 1 1 b__law_state
def N_is_member : List Str := ["thing"]
def b_is_member : FS := (cRet (f1 (gIsi tb [(.own "Last"), (.own "First"), (.own "Limit"), (.own "Delay")]) (oi (fVar 0))))
def F_is_member : Fn := fnF 1 1 b_is_member
def lp1_Row___init__ : FS := (cKil [2, 3] (cIf (fNot (fB (fCall F_is_member (fCons (oi (fVar 3)) fNil))))
     (cRaise "BadRow" "index" (fVar 2))
     cNext))
def N_Row___init__ : List Str := ["self", "members", "index", "member"]
def b_Row___init__ : FS := (cSeq (cIf (fNot (fB (f1 (gIsi tb [(.ty "list"), (.ty "tuple")]) (oi (fVar 1)))))
     (cRaise "BadRow" "index" (f1 gNeg (oi (fC (.int 1)))))
     cNext)
    (cSeq (cFld tb 0 "members" (fN (g1' gTupOf) (fCons (oi (fVar 1)) fNil)))
    (cFor (fiBy enOfD (f1 (gFld tb "members") (foVar 0))) (tT (tCons (tN 2) (tCons (tN 3) tNil)) 2)
     lp1_Row___init__)))
def F_Row___init__ : Fn := fnF 4 2 b_Row___init__
def N_Member_facts : List Str := ["self"]
def b_Member_facts : FS := (cRet (fTup (fCons (oi (f1 (gFld tb "q") (oi (fVar 0)))) fNil)))
def F_Member_facts : Fn := fnF 1 1 b_Member_facts
def N_Delay_facts : List Str := ["self"]
def b_Delay_facts : FS := (cRet (fTup (fCons (oi (f1 (gFld tb "d") (oi (fVar 0)))) fNil)))
def F_Delay_facts : Fn := fnF 1 1 b_Delay_facts
def N_Last_class_name : List Str := ["self"]
def b_Last_class_name : FS := (cRet (fC (.str "last")))
def F_Last_class_name : Fn := fnF 1 1 b_Last_class_name
def N_First_class_name : List Str := ["self"]
def b_First_class_name : FS := (cRet (fC (.str "first")))
def F_First_class_name : Fn := fnF 1 1 b_First_class_name
def N_Limit_class_name : List Str := ["self"]
def b_Limit_class_name : FS := (cRet (fC (.str "limit")))
def F_Limit_class_name : Fn := fnF 1 1 b_Limit_class_name
def N_Delay_class_name : List Str := ["self"]
def b_Delay_class_name : FS := (cRet (fC (.str "delay")))
def F_Delay_class_name : Fn := fnF 1 1 b_Delay_class_name
def N_Thing___eq___0 : List Str := ["self", "other"]
def b_Thing___eq___0 : FS := (cSeq (cIf (fOr (fNot (fB (f1 (gIsi tb [(.own "Thing")]) (oi (fVar 1))))) (fB (f2 gNe (oi (fMeth "class_name" [("Last", F_Last_class_name), ("First", F_First_class_name), ("Limit", F_Limit_class_name), ("Delay", F_Delay_class_name)] (oi (fVar 0)) fNil)) (oi (fMeth "class_name" [("Last", F_Last_class_name), ("First", F_First_class_name), ("Limit", F_Limit_class_name), ("Delay", F_Delay_class_name)] (oi (fVar 1)) fNil)))))
     (cRet (fC (.bl false)))
     cNext)
    (cRet (f2 gEq (oi (fMeth "facts" [("Last", F_Member_facts), ("First", F_Member_facts), ("Limit", F_Member_facts), ("Delay", F_Delay_facts)] (oi (fVar 0)) fNil)) (oi (fMeth "facts" [("Last", F_Member_facts), ("First", F_Member_facts), ("Limit", F_Member_facts), ("Delay", F_Delay_facts)] (oi (fVar 1)) fNil)))))
def F_Thing___eq___0 : Fn := fnF 2 2 b_Thing___eq___0
def N_Row_facts : List Str := ["self"]
def b_Row_facts : FS := (cRet (fTup (fCons (oi (f1 (gFld tb "members") (oi (fVar 0)))) fNil)))
def F_Row_facts : Fn := fnF 1 1 b_Row_facts
def N_Bus_facts : List Str := ["self"]
def b_Bus_facts : FS := (cRet (fTup (fCons (oi (f1 (gFld tb "steps") (oi (fVar 0)))) fNil)))
def F_Bus_facts : Fn := fnF 1 1 b_Bus_facts
def N_Train_facts : List Str := ["self"]
def b_Train_facts : FS := (cRet (fTup (fCons (oi (f1 (gFld tb "first") (oi (fVar 0)))) (fCons (oi (f1 (gFld tb "head") (oi (fVar 0)))) (fCons (oi (f1 (gFld tb "block") (oi (fVar 0)))) (fCons (oi (f1 (gFld tb "rounds") (oi (fVar 0)))) (fCons (oi (f1 (gFld tb "end") (oi (fVar 0)))) fNil)))))))
def F_Train_facts : Fn := fnF 1 1 b_Train_facts
def N_Row_class_name : List Str := ["self"]
def b_Row_class_name : FS := (cRet (fC (.str "row")))
def F_Row_class_name : Fn := fnF 1 1 b_Row_class_name
def N_Bus_class_name : List Str := ["self"]
def b_Bus_class_name : FS := (cRet (fC (.str "bus")))
def F_Bus_class_name : Fn := fnF 1 1 b_Bus_class_name
def N_Train_class_name : List Str := ["self"]
def b_Train_class_name : FS := (cRet (fC (.str "train")))
def F_Train_class_name : Fn := fnF 1 1 b_Train_class_name
def N_Thing___eq___1 : List Str := ["self", "other"]
def b_Thing___eq___1 : FS := (cSeq (cIf (fOr (fNot (fB (f1 (gIsi tb [(.own "Thing")]) (oi (fVar 1))))) (fB (f2 gNe (oi (fMeth "class_name" [("Last", F_Last_class_name), ("First", F_First_class_name), ("Limit", F_Limit_class_name), ("Delay", F_Delay_class_name), ("Row", F_Row_class_name), ("Bus", F_Bus_class_name), ("Train", F_Train_class_name)] (oi (fVar 0)) fNil)) (oi (fMeth "class_name" [("Last", F_Last_class_name), ("First", F_First_class_name), ("Limit", F_Limit_class_name), ("Delay", F_Delay_class_name), ("Row", F_Row_class_name), ("Bus", F_Bus_class_name), ("Train", F_Train_class_name)] (oi (fVar 1)) fNil)))))
     (cRet (fC (.bl false)))
     cNext)
    (cRet (f2q false (eqO tb eq0 F_Thing___eq___0) (oi (fMeth "facts" [("Last", F_Member_facts), ("First", F_Member_facts), ("Limit", F_Member_facts), ("Delay", F_Delay_facts), ("Row", F_Row_facts), ("Bus", F_Bus_facts), ("Train", F_Train_facts)] (oi (fVar 0)) fNil)) (oi (fMeth "facts" [("Last", F_Member_facts), ("First", F_Member_facts), ("Limit", F_Member_facts), ("Delay", F_Delay_facts), ("Row", F_Row_facts), ("Bus", F_Bus_facts), ("Train", F_Train_facts)] (oi (fVar 1)) fNil)))))
def F_Thing___eq___1 : Fn := fnF 2 2 b_Thing___eq___1
def N__law_digit : List Str := ["_law_state_here", "_law_base", "_law_found", "_law_mixed"]
def b__law_digit : FS := (cSeq (cIf (fB (f2 gGt (oi (f2 gIx (foVar 0) (oi (fC (.int 0))))) (oi (fC (.int 0)))))
     (cSeq (cAsg (f2 gMod (oi (fN (g1' gInt) (fCons (oi (f2 gIx (foVar 0) (oi (fC (.int 0))))) fNil))) (oi (fVar 1))) (tN 2))
    (cSeq (cSetIx 0 (fC (.int 0)) (f2 gDiv (oi (f2 gIx (foVar 0) (oi (fC (.int 0))))) (oi (fVar 1))))
    (cRet (fVar 2))))
     cNext)
    (cSeq (cAsg (f2 gMul (oi (f2 gIx (foVar 0) (oi (fC (.int 1))))) (oi (f2 gAdd (oi (f2 gDiv (oi (f2 gIx (foVar 0) (oi (fC (.int 1))))) (oi (fC (.int 1009))))) (oi (fC (.int 69621)))))) (tN 3))
    (cSeq (cSetIx 0 (fC (.int 1)) (f2 gAdd (oi (f2 gMod (oi (fN (g1' gInt) (fCons (oi (f2 gAdd (oi (fVar 3)) (oi (f2 gIx (foVar 0) (oi (fC (.int 2))))))) fNil))) (oi (fC (.int 2147483629))))) (oi (fC (.int 7)))))
    (cRet (f2 gMod (oi (fN (g1' gInt) (fCons (oi (f2 gDiv (oi (f2 gIx (foVar 0) (oi (fC (.int 1))))) (oi (fC (.int 97))))) fNil))) (oi (fVar 1)))))))
def F__law_digit : Fn := fnF 4 2 b__law_digit
def N_member_text : List Str := ["member"]
def b_member_text : FS := (cRet (f2 gAdd (oi (f2 gAdd (oi (fMeth "class_name" [("Last", F_Last_class_name), ("First", F_First_class_name), ("Limit", F_Limit_class_name), ("Delay", F_Delay_class_name)] (oi (fVar 0)) fNil)) (oi (fC (.str " "))))) (oi (fN (g1' gStrI) (fCons (oi (f2 gIx (oi (fMeth "facts" [("Last", F_Member_facts), ("First", F_Member_facts), ("Limit", F_Member_facts), ("Delay", F_Delay_facts)] (oi (fVar 0)) fNil)) (oi (fC (.int 0))))) fNil)))))
def F_member_text : Fn := fnF 1 1 b_member_text
def N_row_text : List Str := ["row", "member"]
def b_row_text : FS := (cSeq (cIf (fB (f2q false (eqO tb eq0 F_Thing___eq___0) (oi (f1 (gFld tb "members") (oi (fVar 0)))) (oi (fTup fNil))))
     (cRet (fC (.str "all")))
     cNext)
    (cRet (fJoin (oi (fC (.str ", "))) (oi (fLc (fiBy seqOf (f1 (gFld tb "members") (oi (fVar 0)))) false [1] fYes (fCall F_member_text (fCons (oi (fVar 1)) fNil)))))))
def F_row_text : Fn := fnF 2 1 b_row_text
def N_is_number : List Str := ["thing"]
def b_is_number : FS := (cRet (gAnd (f1 (gIsi tb [(.ty "int")]) (oi (fVar 0))) (gNot (f1 (gIsi tb [(.ty "bool")]) (oi (fVar 0))))))
def F_is_number : Fn := fnF 1 1 b_is_number
def lp1_check_stream : FS := (cKil [1, 2] (cIf (fOr (fNot (fB (fCall F_is_number (fCons (oi (fVar 2)) fNil)))) (fAnd (fB (f2 gGt (oi (fVar 1)) (oi (fC (.int 0))))) (fB (f2 gLe (oi (fVar 2)) (oi (f2 gIx (oi (fVar 0)) (oi (f2 gSub (oi (fVar 1)) (oi (fC (.int 1)))))))))))
     (cRaise "BadStream" "place" (fVar 1))
     cNext))
def N_check_stream : List Str := ["stream", "place", "time"]
def b_check_stream : FS := (cSeq (cIf (fNot (fB (f1 (gIsi tb [(.ty "list"), (.ty "tuple")]) (oi (fVar 0)))))
     (cRaise "BadStream" "place" (f1 gNeg (oi (fC (.int 1)))))
     cNext)
    (cFor (fiBy enOfD (fVar 0)) (tT (tCons (tN 1) (tCons (tN 2) tNil)) 2)
     lp1_check_stream))
def F_check_stream : Fn := fnF 3 1 b_check_stream
def N_stream_text : List Str := ["stream", "time"]
def b_stream_text : FS := (cSeq (cDrop (oi (fCall F_check_stream (fCons (oi (fVar 0)) fNil))))
    (cRet (fIf (fB (f2 gGt (oi (fN (g1' gLen) (fCons (oi (fVar 0)) fNil))) (oi (fC (.int 0))))) (fJoin (oi (fC (.str " "))) (oi (fLc (fiBy seqOf (fVar 0)) false [1] fYes (fN (g1' gStrI) (fCons (oi (fVar 1)) fNil))))) (fC (.str "none")))))
def F_stream_text : Fn := fnF 2 1 b_stream_text
def N_bus_text : List Str := ["bus", "step"]
def b_bus_text : FS := (cRet (fJoin (oi (fC (.str "; "))) (oi (fLc (fiBy seqOf (f1 (gFld tb "steps") (oi (fVar 0)))) false [1] fYes (fIf (fB (f1 (gIsi tb [(.ty "str")]) (oi (fVar 1)))) (fVar 1) (fCall F_member_text (fCons (oi (fVar 1)) fNil)))))))
def F_bus_text : Fn := fnF 2 1 b_bus_text
def N_gaps_text : List Str := ["gaps", "gap"]
def b_gaps_text : FS := (cRet (fIf (fB (f2 gGt (oi (fN (g1' gLen) (fCons (oi (fVar 0)) fNil))) (oi (fC (.int 0))))) (fJoin (oi (fC (.str " "))) (oi (fLc (fiBy seqOf (fVar 0)) false [1] fYes (fN (g1' gStrI) (fCons (oi (fVar 1)) fNil))))) (fC (.str "none"))))
def F_gaps_text : Fn := fnF 2 1 b_gaps_text
def N_train_text : List Str := ["train", "some"]
def b_train_text : FS := (cSeq (cAsg (fLst (fCons (oi (fN (g1' gStrI) (fCons (oi (f1 (gFld tb "first") (oi (fVar 0)))) fNil))) (fCons (oi (fCall F_gaps_text (fCons (oi (f1 (gFld tb "head") (oi (fVar 0)))) fNil))) (fCons (oi (fCall F_gaps_text (fCons (oi (f1 (gFld tb "block") (oi (fVar 0)))) fNil))) (fCons (oi (fN (g1' gStrI) (fCons (oi (f1 (gFld tb "rounds") (oi (fVar 0)))) fNil))) (fCons (oi (fCall F_gaps_text (fCons (oi (f1 (gFld tb "end") (oi (fVar 0)))) fNil))) fNil)))))) (tN 1))
    (cRet (fJoin (oi (fC (.str " | "))) (oi (fVar 1)))))
def F_train_text : Fn := fnF 2 1 b_train_text
def N_check_string : List Str := ["text"]
def b_check_string : FS := (cIf (fNot (fB (f1 (gIsi tb [(.ty "str")]) (oi (fVar 0)))))
     (cRaise "BadText" "place" (fC (.int 0)))
     cNext)
def F_check_string : Fn := fnF 1 1 b_check_string
def N_is_figures : List Str := ["text", "sign"]
def b_is_figures : FS := (cSeq (cIf (fOr (fNot (fB (fChain gLe gLe (oi (fC (.int 1))) (oi (fN (g1' gLenS) (fCons (oi (fVar 0)) fNil))) (oi (fC (.int 60)))))) (fNot (fB (fN (g1' gAll) (fCons (oi (fLc (fiBy chOf (fVar 0)) false [1] fYes (f2 gIn (oi (fVar 1)) (oi (fC (.str "0123456789")))))) fNil)))))
     (cRet (fC (.bl false)))
     cNext)
    (cRet (gOr (f2 gEq (oi (fVar 0)) (oi (fC (.str "0")))) (f2 gNe (oi (f2 gIxS (oi (fVar 0)) (oi (fC (.int 0))))) (oi (fC (.str "0")))))))
def F_is_figures : Fn := fnF 2 1 b_is_figures
def N_read_number : List Str := ["text", "place", "is_below", "figures"]
def b_read_number : FS := (cSeq (cAsg (f2 gEq (oi (fSlS (oi (fVar 0)) fpNone (fpSome (fC (.int 1))))) (oi (fC (.str "-")))) (tN 2))
    (cSeq (cAsg (fIf (fB (fVar 2)) (fSlS (oi (fVar 0)) (fpSome (fC (.int 1))) fpNone) (fVar 0)) (tN 3))
    (cSeq (cIf (fOr (fNot (fB (fCall F_is_figures (fCons (oi (fVar 3)) fNil)))) (fAnd (fB (fVar 2)) (fB (f2 gEq (oi (fVar 3)) (oi (fC (.str "0")))))))
     (cRaise "BadText" "place" (fVar 1))
     cNext)
    (cRet (fN (g1' gIntT) (fCons (oi (fVar 0)) fNil))))))
def F_read_number : Fn := fnF 4 2 b_read_number
def N_pair_from : List Str := ["text", "place", "kind", "blank", "number"]
def b_pair_from : FS := (cSeq (cAsg (fPart (oi (fVar 0)) (oi (fC (.str " ")))) (tT (tCons (tN 2) (tCons (tN 3) (tCons (tN 4) tNil))) 3))
    (cSeq (cIf (fB (f2 gNotIn (oi (fVar 2)) (oi (fTup (fCons (oi (fC (.str "last"))) (fCons (oi (fC (.str "first"))) (fCons (oi (fC (.str "limit"))) (fCons (oi (fC (.str "delay"))) fNil))))))))
     (cRaise "BadText" "place" (fVar 1))
     cNext)
    (cRet (fTup (fCons (oi (fVar 2)) (fCons (oi (fCall F_read_number (fCons (oi (fVar 4)) (fCons (oi (fVar 1)) fNil)))) fNil))))))
def F_pair_from : Fn := fnF 5 2 b_pair_from
def N_Member___init__ : List Str := ["self", "q"]
def b_Member___init__ : FS := (cSeq (cFld tb 0 "q" (fVar 1))
    (cIf (fOr (fNot (fB (fCall F_is_number (fCons (oi (fVar 1)) fNil)))) (fB (f2 gLt (oi (fVar 1)) (oi (fC (.int 1))))))
     (cRaise "BadMember" "what" (fC (.str "q")))
     cNext))
def F_Member___init__ : Fn := fnF 2 2 b_Member___init__
def N_Delay___init__ : List Str := ["self", "d"]
def b_Delay___init__ : FS := (cSeq (cFld tb 0 "d" (fVar 1))
    (cIf (fOr (fNot (fB (fCall F_is_number (fCons (oi (fVar 1)) fNil)))) (fB (f2 gLt (oi (fVar 1)) (oi (fC (.int 0))))))
     (cRaise "BadMember" "what" (fC (.str "d")))
     cNext))
def F_Delay___init__ : Fn := fnF 2 2 b_Delay___init__
def N_member_from : List Str := ["kind", "number"]
def b_member_from : FS := (cSeq (cIf (fB (f2 gEq (oi (fVar 0)) (oi (fC (.str "last")))))
     (cRet (fMake "Last" F_Member___init__ (fCons (oi (fVar 1)) fNil)))
     cNext)
    (cSeq (cIf (fB (f2 gEq (oi (fVar 0)) (oi (fC (.str "first")))))
     (cRet (fMake "First" F_Member___init__ (fCons (oi (fVar 1)) fNil)))
     cNext)
    (cRet (fIf (fB (f2 gEq (oi (fVar 0)) (oi (fC (.str "limit"))))) (fMake "Limit" F_Member___init__ (fCons (oi (fVar 1)) fNil)) (fMake "Delay" F_Delay___init__ (fCons (oi (fVar 1)) fNil))))))
def F_member_from : Fn := fnF 2 2 b_member_from
def N_read_row : List Str := ["text", "pairs", "place", "part", "kind", "number"]
def b_read_row : FS := (cSeq (cDrop (oi (fCall F_check_string (fCons (oi (fVar 0)) fNil))))
    (cSeq (cIf (fB (f2 gEq (oi (fVar 0)) (oi (fC (.str "all")))))
     (cRet (fMake "Row" F_Row___init__ (fCons (oi (fLst fNil)) fNil)))
     cNext)
    (cSeq (cAsg (fLc (fiBy enOfD (fSplit (oi (fVar 0)) (oi (fC (.str ", "))))) true [2, 3] fYes (fCall F_pair_from (fCons (oi (fVar 3)) (fCons (oi (fVar 2)) fNil)))) (tN 1))
    (cRet (fMake "Row" F_Row___init__ (fCons (oi (fLc (fiBy seqOf (fVar 1)) true [4, 5] fYes (fCall F_member_from (fCons (oi (fVar 4)) (fCons (oi (fVar 5)) fNil))))) fNil))))))
def F_read_row : Fn := fnF 6 1 b_read_row
def N_is_name : List Str := ["thing", "letter"]
def b_is_name : FS := (cSeq (cIf (fOr (fNot (fB (f1 (gIsi tb [(.ty "str")]) (oi (fVar 0))))) (fNot (fB (fChain gLe gLe (oi (fC (.int 1))) (oi (fN (g1' gLenS) (fCons (oi (fVar 0)) fNil))) (oi (fC (.int 8)))))))
     (cRet (fC (.bl false)))
     cNext)
    (cRet (fN (g1' gAll) (fCons (oi (fLc (fiBy chOf (fVar 0)) false [1] fYes (f2 gIn (oi (fVar 1)) (oi (fC (.str "abcdefghijklmnopqrstuvwxyz")))))) fNil))))
def F_is_name : Fn := fnF 2 1 b_is_name
def lp1_Bus___init__ : FS := (cKil [3, 4] (cIf (fAnd (fB (fCall F_is_name (fCons (oi (fVar 4)) fNil))) (fB (f2 gNotIn (oi (fVar 4)) (foVar 2))))
     (cDrop (oi (fOm mmAppend 2 (fCons (oi (fVar 4)) fNil))))
     (cIf (fOr (fB (f2 gEq (oi (fVar 3)) (oi (fC (.int 0))))) (fNot (fB (fCall F_is_member (fCons (oi (fVar 4)) fNil)))))
     (cRaise "BadBus" "index" (fVar 3))
     cNext)))
def N_Bus___init__ : List Str := ["self", "steps", "names", "index", "step"]
def b_Bus___init__ : FS := (cSeq (cIf (fOr (fNot (fB (f1 (gIsi tb [(.ty "list"), (.ty "tuple")]) (oi (fVar 1))))) (fB (f2 gEq (oi (fN (g1' gLen) (fCons (oi (fVar 1)) fNil))) (oi (fC (.int 0))))))
     (cRaise "BadBus" "index" (f1 gNeg (oi (fC (.int 1)))))
     cNext)
    (cSeq (cFld tb 0 "steps" (fN (g1' gTupOf) (fCons (oi (fVar 1)) fNil)))
    (cSeq (cOwn (fLst fNil) 2)
    (cFor (fiBy enOfD (f1 (gFld tb "steps") (foVar 0))) (tT (tCons (tN 3) (tCons (tN 4) tNil)) 2)
     lp1_Bus___init__))))
def F_Bus___init__ : Fn := fnF 5 2 b_Bus___init__
def N_are_gaps : List Str := ["thing", "gap"]
def b_are_gaps : FS := (cSeq (cIf (fNot (fB (f1 (gIsi tb [(.ty "list"), (.ty "tuple")]) (oi (fVar 0)))))
     (cRet (fC (.bl false)))
     cNext)
    (cRet (fN (g1' gAll) (fCons (oi (fLc (fiBy seqOf (fVar 0)) false [1] fYes (gAnd (fCall F_is_number (fCons (oi (fVar 1)) fNil)) (f2 gGe (oi (fVar 1)) (oi (fC (.int 1))))))) fNil))))
def F_are_gaps : Fn := fnF 2 1 b_are_gaps
def N_Train___init__ : List Str := ["self", "first", "head", "block", "rounds", "end"]
def b_Train___init__ : FS := (cSeq (cIf (fNot (fB (fCall F_is_number (fCons (oi (fVar 1)) fNil))))
     (cRaise "BadTrain" "what" (fC (.str "first")))
     cNext)
    (cSeq (cIf (fNot (fB (fCall F_are_gaps (fCons (oi (fVar 2)) fNil))))
     (cRaise "BadTrain" "what" (fC (.str "head")))
     cNext)
    (cSeq (cIf (fNot (fB (fCall F_are_gaps (fCons (oi (fVar 3)) fNil))))
     (cRaise "BadTrain" "what" (fC (.str "block")))
     cNext)
    (cSeq (cIf (fOr (fNot (fB (fCall F_is_number (fCons (oi (fVar 4)) fNil)))) (fB (f2 gLt (oi (fVar 4)) (oi (fC (.int 0))))))
     (cRaise "BadTrain" "what" (fC (.str "rounds")))
     cNext)
    (cSeq (cIf (fNot (fB (fCall F_are_gaps (fCons (oi (fVar 5)) fNil))))
     (cRaise "BadTrain" "what" (fC (.str "end")))
     cNext)
    (cSeq (cFld tb 0 "first" (fVar 1))
    (cSeq (cFld tb 0 "head" (fN (g1' gTupOf) (fCons (oi (fVar 2)) fNil)))
    (cSeq (cFld tb 0 "block" (fN (g1' gTupOf) (fCons (oi (fVar 3)) fNil)))
    (cSeq (cFld tb 0 "rounds" (fVar 4))
    (cFld tb 0 "end" (fN (g1' gTupOf) (fCons (oi (fVar 5)) fNil))))))))))))
def F_Train___init__ : Fn := fnF 6 6 b_Train___init__
def N__law_spoken : List Str := ["_law_numbers", "_law_number"]
def b__law_spoken : FS := (cRet (fIf (fB (f2 gNe (oi (fVar 0)) (oi (fLst fNil)))) (fJoin (oi (fC (.str " "))) (oi (fLc (fiBy seqOf (fVar 0)) false [1] fYes (fN (g1' gStrI) (fCons (oi (fVar 1)) fNil))))) (fC (.str "none"))))
def F__law_spoken : Fn := fnF 2 1 b__law_spoken
def N_numbers_from : List Str := ["text", "place", "is_counted", "at", "word"]
def b_numbers_from : FS := (cSeq (cIf (fB (f2 gEq (oi (fVar 0)) (oi (fC (.str "none")))))
     (cRetF (fLst fNil))
     cNext)
    (cRetF (fLc (fiBy enOfD (fSplit (oi (fVar 0)) (oi (fC (.str " "))))) true [3, 4] fYes (fCall F_read_number (fCons (oi (fVar 4)) (fCons (oi (fIf (fB (fVar 2)) (fVar 3) (fVar 1))) fNil))))))
def F_numbers_from : Fn := fnF 5 3 b_numbers_from
def N_read_stream : List Str := ["text", "found"]
def b_read_stream : FS := (cSeq (cDrop (oi (fCall F_check_string (fCons (oi (fVar 0)) fNil))))
    (cSeq (cAsg (fCallO F_numbers_from (fCons (oi (fVar 0)) (fCons (oi (fC (.int 0))) (fCons (oi (fC (.bl true))) fNil)))) (tN 1))
    (cSeq (cDrop (oi (fCall F_check_stream (fCons (oi (fVar 1)) fNil))))
    (cRet (fVar 1)))))
def F_read_stream : Fn := fnF 2 1 b_read_stream
def N__law_long_right : List Str := ["_law_s", "_law_great", "_law_words", "_law_stream_here", "_law_row"]
def b__law_long_right : FS := (cSeq (cAsg (f2 gAdd (oi (f2 gIx (oi (fLst (fCons (oi (f2 gPow (oi (fC (.int 10))) (oi (fC (.int 60))))) (fCons (oi (f2 gPow (oi (fC (.int 10))) (oi (fC (.int 62))))) (fCons (oi (f2 gPow (oi (fC (.int 10))) (oi (fC (.int 63))))) fNil))))) (oi (fCall F__law_digit (fCons (foVar 0) (fCons (oi (fC (.int 3))) fNil)))))) (oi (fCall F__law_digit (fCons (foVar 0) (fCons (oi (f2 gPow (oi (fC (.int 10))) (oi (fC (.int 9))))) fNil))))) (tN 1))
    (cSeq (cIf (fB (f2 gNe (oi (fCall F_row_text (fCons (oi (fMake "Row" F_Row___init__ (fCons (oi (fLst (fCons (oi (fMake "Last" F_Member___init__ (fCons (oi (fVar 1)) fNil))) (fCons (oi (fMake "Delay" F_Delay___init__ (fCons (oi (fC (.int 3))) fNil))) fNil)))) fNil))) fNil))) (oi (f2 gAdd (oi (f2 gAdd (oi (fC (.str "last "))) (oi (fN (g1' gStrI) (fCons (oi (fVar 1)) fNil))))) (oi (fC (.str ", delay 3")))))))
     (cRet (fC (.bl false)))
     cNext)
    (cSeq (cIf (fB (f2 gNe (oi (fCall F_stream_text (fCons (oi (fLst (fCons (oi (f2 gSub (oi (fC (.int 0))) (oi (fVar 1)))) (fCons (oi (fVar 1)) fNil)))) fNil))) (oi (f2 gAdd (oi (f2 gAdd (oi (fN (g1' gStrI) (fCons (oi (f2 gSub (oi (fC (.int 0))) (oi (fVar 1)))) fNil))) (oi (fC (.str " "))))) (oi (fN (g1' gStrI) (fCons (oi (fVar 1)) fNil)))))))
     (cRet (fC (.bl false)))
     cNext)
    (cSeq (cIf (fB (f2 gNe (oi (fCall F_bus_text (fCons (oi (fMake "Bus" F_Bus___init__ (fCons (oi (fLst (fCons (oi (fC (.str "a"))) (fCons (oi (fMake "Limit" F_Member___init__ (fCons (oi (fVar 1)) fNil))) fNil)))) fNil))) fNil))) (oi (f2 gAdd (oi (fC (.str "a; limit "))) (oi (fN (g1' gStrI) (fCons (oi (fVar 1)) fNil)))))))
     (cRet (fC (.bl false)))
     cNext)
    (cSeq (cAsg (fLst (fCons (oi (fN (g1' gStrI) (fCons (oi (fVar 1)) fNil))) (fCons (oi (fC (.str "none"))) (fCons (oi (fN (g1' gStrI) (fCons (oi (fVar 1)) fNil))) (fCons (oi (fN (g1' gStrI) (fCons (oi (fVar 1)) fNil))) (fCons (oi (fC (.str "none"))) fNil)))))) (tN 2))
    (cSeq (cIf (fB (f2 gNe (oi (fCall F_train_text (fCons (oi (fMake "Train" F_Train___init__ (fCons (oi (fVar 1)) (fCons (oi (fLst fNil)) (fCons (oi (fLst (fCons (oi (fVar 1)) fNil))) (fCons (oi (fVar 1)) (fCons (oi (fLst fNil)) fNil))))))) fNil))) (oi (fJoin (oi (fC (.str " | "))) (oi (fVar 2))))))
     (cRet (fC (.bl false)))
     cNext)
    (cSeq (cAsg (fN gLR3 (fCons (oi (f2 gSub (oi (fC (.int 0))) (oi (fCall F__law_digit (fCons (foVar 0) (fCons (oi (fC (.int 99))) fNil)))))) (fCons (oi (fC (.int 1900))) fNil))) (tN 3))
    (cSeq (cIf (fOr (fB (f2 gNe (oi (fCall F_stream_text (fCons (oi (fVar 3)) fNil))) (oi (fCall F__law_spoken (fCons (oi (fVar 3)) fNil))))) (fB (f2 gNe (oi (fCall F_read_stream (fCons (oi (fCall F__law_spoken (fCons (oi (fVar 3)) fNil))) fNil))) (oi (fVar 3)))))
     (cRet (fC (.bl false)))
     cNext)
    (cSeq (cAsg (fMake "Row" F_Row___init__ (fCons (oi (f2 gCat (oi (fRep (fLst (fCons (oi (fMake "Last" F_Member___init__ (fCons (oi (f2 gDiv (oi (fVar 1)) (oi (f2 gPow (oi (fC (.int 10))) (oi (fC (.int 20))))))) fNil))) fNil)) (fC (.int 10)))) (oi (fRep (fLst (fCons (oi (fMake "First" F_Member___init__ (fCons (oi (fC (.int 7))) fNil))) fNil)) (fC (.int 10)))))) fNil)) (tN 4))
    (cRet (f2q false (eqO tb eq1 F_Thing___eq___1) (oi (fCall F_read_row (fCons (oi (fCall F_row_text (fCons (oi (fVar 4)) fNil))) fNil))) (oi (fVar 4)))))))))))))
def F__law_long_right : Fn := fnF 5 1 b__law_long_right
def N__law_kinds : List Str := []
def b__law_kinds : FS := (cRetF (fLst (fCons (oi (fC (.str "last"))) (fCons (oi (fC (.str "first"))) (fCons (oi (fC (.str "limit"))) fNil)))))
def F__law_kinds : Fn := fnF 0 0 b__law_kinds
def lp1__law_members : FS := (cKil [4] (cIf (fB (f2 gEq (oi (fCall F__law_digit (fCons (foVar 0) (fCons (oi (fC (.int 6))) fNil)))) (oi (fC (.int 0)))))
     (cDrop (oi (fOm mmAppend 3 (fCons (oi (fTup (fCons (oi (fC (.str "delay"))) (fCons (oi (fCall F__law_digit (fCons (foVar 0) (fCons (oi (fVar 2)) fNil)))) fNil)))) fNil))))
     (cDrop (oi (fOm mmAppend 3 (fCons (oi (fTup (fCons (oi (f2 gIx (oi (fCallO F__law_kinds fNil)) (oi (fCall F__law_digit (fCons (foVar 0) (fCons (oi (fC (.int 3))) fNil)))))) (fCons (oi (f2 gAdd (oi (fC (.int 1))) (oi (fCall F__law_digit (fCons (foVar 0) (fCons (oi (fVar 2)) fNil)))))) fNil)))) fNil))))))
def N__law_members : List Str := ["_law_s", "_law_many", "_law_most", "_law_found", "_law_turn"]
def b__law_members : FS := (cSeq (cOwn (fLst fNil) 3)
    (cSeq (cFor (fiBy rg1 (fCall F__law_digit (fCons (foVar 0) (fCons (oi (f2 gAdd (oi (fVar 1)) (oi (fC (.int 1))))) fNil)))) (tN 4)
     lp1__law_members)
    (cRetO 3)))
def F__law_members : Fn := fnF 5 3 b__law_members
def lp1__law_steps : FS := (cKil [3] (cIf (fAnd (fB (f2 gEq (oi (fCall F__law_digit (fCons (foVar 0) (fCons (oi (fC (.int 3))) fNil)))) (oi (fC (.int 0))))) (fB (f2 gGt (oi (fN (g1' gLen) (fCons (foVar 1) fNil))) (oi (fC (.int 2))))))
     (cDrop (oi (fOm mmAppend 2 (fCons (oi (fOm mmPopAt 1 (fCons (oi (fCall F__law_digit (fCons (foVar 0) (fCons (oi (fN (g1' gLen) (fCons (foVar 1) fNil))) fNil)))) fNil))) fNil))))
     (cOwn (f2 gCat (foVar 2) (oi (fCallO F__law_members (fCons (foVar 0) (fCons (oi (fC (.int 1))) (fCons (oi (f2 gIx (oi (fLst (fCons (oi (fC (.int 9))) (fCons (oi (f2 gSub (oi (f2 gPow (oi (fC (.int 10))) (oi (fC (.int 60))))) (oi (fC (.int 1))))) fNil)))) (oi (fCall F__law_digit (fCons (foVar 0) (fCons (oi (fC (.int 2))) fNil)))))) fNil)))))) 2)))
def N__law_steps : List Str := ["_law_s", "_law_names", "_law_found", "_law_turn"]
def b__law_steps : FS := (cSeq (cOwn (fLst (fCons (oi (fC (.str "a"))) (fCons (oi (fC (.str "b"))) (fCons (oi (fC (.str "last"))) (fCons (oi (fC (.str "all"))) (fCons (oi (fC (.str "zzzzzzzz"))) (fCons (oi (fC (.str "ab"))) fNil))))))) 1)
    (cSeq (cOwn (fLst (fCons (oi (fOm mmPopAt 1 (fCons (oi (fCall F__law_digit (fCons (foVar 0) (fCons (oi (fC (.int 6))) fNil)))) fNil))) fNil)) 2)
    (cSeq (cFor (fiBy rg1 (fCall F__law_digit (fCons (foVar 0) (fCons (oi (fC (.int 8))) fNil)))) (tN 3)
     lp1__law_steps)
    (cRetO 2))))
def F__law_steps : Fn := fnF 4 1 b__law_steps
def lp1__law_made : FS := (cKil [2, 3] (cIf (fB (f2 gEq (oi (fVar 2)) (oi (fC (.str "last")))))
     (cDrop (oi (fOm mmAppend 1 (fCons (oi (fMake "Last" F_Member___init__ (fCons (oi (fVar 3)) fNil))) fNil))))
     (cIf (fB (f2 gEq (oi (fVar 2)) (oi (fC (.str "first")))))
     (cDrop (oi (fOm mmAppend 1 (fCons (oi (fMake "First" F_Member___init__ (fCons (oi (fVar 3)) fNil))) fNil))))
     (cIf (fB (f2 gEq (oi (fVar 2)) (oi (fC (.str "limit")))))
     (cDrop (oi (fOm mmAppend 1 (fCons (oi (fMake "Limit" F_Member___init__ (fCons (oi (fVar 3)) fNil))) fNil))))
     (cDrop (oi (fOm mmAppend 1 (fCons (oi (fMake "Delay" F_Delay___init__ (fCons (oi (fVar 3)) fNil))) fNil))))))))
def N__law_made : List Str := ["_law_members_here", "_law_found", "_law_kind", "_law_number"]
def b__law_made : FS := (cSeq (cOwn (fLst fNil) 1)
    (cSeq (cFor (fiBy seqOf (fVar 0)) (tT (tCons (tN 2) (tCons (tN 3) tNil)) 2)
     lp1__law_made)
    (cRetO 1)))
def F__law_made : Fn := fnF 4 1 b__law_made
def N__law_bus : List Str := ["_law_steps_here", "_law_step"]
def b__law_bus : FS := (cRet (fMake "Bus" F_Bus___init__ (fCons (oi (fLc (fiBy seqOf (fVar 0)) false [1] fYes (fIf (fB (f1 (gIsi tb [(.ty "str")]) (oi (fVar 1)))) (fVar 1) (f2 gIx (oi (fCallO F__law_made (fCons (oi (fLst (fCons (oi (fVar 1)) fNil))) fNil))) (oi (fC (.int 0))))))) fNil)))
def F__law_bus : Fn := fnF 2 1 b__law_bus
def N__law_steps_text : List Str := ["_law_steps_here", "_law_step"]
def b__law_steps_text : FS := (cRet (fJoin (oi (fC (.str "; "))) (oi (fLc (fiBy seqOf (fVar 0)) false [1] fYes (fIf (fB (f1 (gIsi tb [(.ty "str")]) (oi (fVar 1)))) (fVar 1) (f2 gAdd (oi (f2 gAdd (oi (f2 gIx (oi (fVar 1)) (oi (fC (.int 0))))) (oi (fC (.str " "))))) (oi (fN (g1' gStrI) (fCons (oi (f2 gIx (oi (fVar 1)) (oi (fC (.int 1))))) fNil)))))))))
def F__law_steps_text : Fn := fnF 2 1 b__law_steps_text
def lp1_read_bus : FS := (cKil [2, 3] (cDrop (oi (fOm mmAppend 1 (fCons (oi (fIf (fB (fCall F_is_name (fCons (oi (fVar 3)) fNil))) (fTup (fCons (oi (fVar 3)) (fCons (oi (fC .non)) fNil))) (fCall F_pair_from (fCons (oi (fVar 3)) (fCons (oi (fVar 2)) fNil))))) fNil)))))
def N_read_bus : List Str := ["text", "found", "place", "part", "word", "number"]
def b_read_bus : FS := (cSeq (cDrop (oi (fCall F_check_string (fCons (oi (fVar 0)) fNil))))
    (cSeq (cOwn (fLst fNil) 1)
    (cSeq (cFor (fiBy enOfD (fSplit (oi (fVar 0)) (oi (fC (.str "; "))))) (tT (tCons (tN 2) (tCons (tN 3) tNil)) 2)
     lp1_read_bus)
    (cRet (fMake "Bus" F_Bus___init__ (fCons (oi (fLcO 1 true [4, 5] fYes (fIf (fB (f1 gIsN (oi (fVar 5)))) (fVar 4) (fCall F_member_from (fCons (oi (fVar 4)) (fCons (oi (fVar 5)) fNil)))))) fNil))))))
def F_read_bus : Fn := fnF 6 1 b_read_bus
def N__law_members_text : List Str := ["_law_members_here", "_law_kind", "_law_number"]
def b__law_members_text : FS := (cRetF (fLc (fiBy seqOf (fVar 0)) true [1, 2] fYes (f2 gAdd (oi (f2 gAdd (oi (fVar 1)) (oi (fC (.str " "))))) (oi (fN (g1' gStrI) (fCons (oi (fVar 2)) fNil))))))
def F__law_members_text : Fn := fnF 3 1 b__law_members_text
def N__law_rows_right : List Str := ["_law_s", "_law_members_here", "_law_row", "_law_due", "_law_steps_here", "_law_bus_here"]
def b__law_rows_right : FS := (cSeq (cAsg (fCallO F__law_members (fCons (foVar 0) (fCons (oi (fC (.int 5))) (fCons (oi (f2 gIx (oi (fLst (fCons (oi (fC (.int 9))) (fCons (oi (f2 gPow (oi (fC (.int 10))) (oi (fC (.int 59))))) fNil)))) (oi (fCall F__law_digit (fCons (foVar 0) (fCons (oi (fC (.int 2))) fNil)))))) fNil)))) (tN 1))
    (cSeq (cParM (mIm (fMake "Row" F_Row___init__ (fCons (oi (fCallO F__law_made (fCons (oi (fVar 1)) fNil))) fNil)) (mIm (fIf (fB (f2 gNe (oi (fVar 1)) (oi (fLst fNil)))) (fJoin (oi (fC (.str ", "))) (oi (fCallO F__law_members_text (fCons (oi (fVar 1)) fNil)))) (fC (.str "all"))) mNil)) [2, 3])
    (cSeq (cIf (fOr (fB (f2q true (eqO tb eq1 F_Thing___eq___1) (oi (fCall F_row_text (fCons (oi (fVar 2)) fNil))) (oi (fVar 3)))) (fB (f2q true (eqO tb eq1 F_Thing___eq___1) (oi (fCall F_read_row (fCons (oi (fVar 3)) fNil))) (oi (fVar 2)))))
     (cRet (fC (.bl false)))
     cNext)
    (cSeq (cAsg (fCallO F__law_steps (fCons (foVar 0) fNil)) (tN 4))
    (cSeq (cParM (mIm (fCall F__law_bus (fCons (oi (fVar 4)) fNil)) (mIm (fCall F__law_steps_text (fCons (oi (fVar 4)) fNil)) mNil)) [5, 3])
    (cRet (gAnd (f2q false (eqO tb eq1 F_Thing___eq___1) (oi (fCall F_bus_text (fCons (oi (fVar 5)) fNil))) (oi (fVar 3))) (f2q false (eqO tb eq1 F_Thing___eq___1) (oi (fCall F_read_bus (fCons (oi (fVar 3)) fNil))) (oi (fVar 5))))))))))
def F__law_rows_right : Fn := fnF 6 1 b__law_rows_right
def lp1__law_stream : FS := (cKil [5] (cSeq (cDrop (oi (fOm mmAppend 3 (fCons (oi (fVar 4)) fNil))))
    (cAsg (f2 gAdd (oi (fVar 4)) (oi (f2 gIx (oi (fVar 2)) (oi (fCall F__law_digit (fCons (foVar 0) (fCons (oi (fN (g1' gLen) (fCons (oi (fVar 2)) fNil))) fNil))))))) (tN 4))))
def N__law_stream : List Str := ["_law_s", "_law_many", "_law_gaps_here", "_law_found", "_law_time", "_law_turn"]
def b__law_stream : FS := (cSeq (cParM (mFr (fLst fNil) (mIm (f2 gSub (oi (fCall F__law_digit (fCons (foVar 0) (fCons (oi (fC (.int 41))) fNil)))) (oi (fC (.int 20)))) mNil)) [3, 4])
    (cSeq (cFor (fiBy rg1 (fCall F__law_digit (fCons (foVar 0) (fCons (oi (f2 gAdd (oi (fVar 1)) (oi (fC (.int 1))))) fNil)))) (tN 5)
     lp1__law_stream)
    (cRetO 3)))
def F__law_stream : Fn := fnF 6 3 b__law_stream
def N__law_gaps : List Str := ["_law_s", "_law_turn"]
def b__law_gaps : FS := (cRetF (fLc (fiBy rg1 (fCall F__law_digit (fCons (foVar 0) (fCons (oi (fC (.int 4))) fNil)))) false [1] fYes (f2 gIx (oi (fLst (fCons (oi (fC (.int 1))) (fCons (oi (fC (.int 7))) (fCons (oi (f2 gAdd (oi (f2 gPow (oi (fC (.int 10))) (oi (fC (.int 59))))) (oi (fC (.int 3))))) (fCons (oi (f2 gAdd (oi (fC (.int 1))) (oi (fCall F__law_digit (fCons (foVar 0) (fCons (oi (fC (.int 99))) fNil)))))) fNil)))))) (oi (fCall F__law_digit (fCons (foVar 0) (fCons (oi (fC (.int 4))) fNil)))))))
def F__law_gaps : Fn := fnF 2 1 b__law_gaps
def lp1_read_train : FS := (cKil [3, 4] (cDrop (oi (fOm mmAppend 2 (fCons (oi (fIf (fB (f2 gIn (oi (fVar 3)) (oi (fTup (fCons (oi (fC (.int 0))) (fCons (oi (fC (.int 3))) fNil)))))) (fCall F_read_number (fCons (oi (fVar 4)) (fCons (oi (fVar 3)) fNil))) (fCallO F_numbers_from (fCons (oi (fVar 4)) (fCons (oi (fVar 3)) (fCons (oi (fC (.bl false))) fNil)))))) fNil)))))
def N_read_train : List Str := ["text", "parts", "found", "place", "part"]
def b_read_train : FS := (cSeq (cDrop (oi (fCall F_check_string (fCons (oi (fVar 0)) fNil))))
    (cSeq (cAsg (fSplit (oi (fVar 0)) (oi (fC (.str " | ")))) (tN 1))
    (cSeq (cOwn (fLst fNil) 2)
    (cSeq (cFor (fiBy enOfD (fSl (oi (fVar 1)) fpNone (fpSome (fC (.int 5))))) (tT (tCons (tN 3) (tCons (tN 4) tNil)) 2)
     lp1_read_train)
    (cSeq (cIf (fB (f2 gNe (oi (fN (g1' gLen) (fCons (oi (fVar 1)) fNil))) (oi (fC (.int 5)))))
     (cRaise "BadText" "place" (fN (g2' fun i j => .int (if j < i then j else i)) (fCons (oi (fN (g1' gLen) (fCons (oi (fVar 1)) fNil))) (fCons (oi (fC (.int 5))) fNil))))
     cNext)
    (cRet (fMake "Train" F_Train___init__ (fCons (oi (f2 gIx (foVar 2) (oi (fC (.int 0))))) (fCons (oi (f2 gIx (foVar 2) (oi (fC (.int 1))))) (fCons (oi (f2 gIx (foVar 2) (oi (fC (.int 2))))) (fCons (oi (f2 gIx (foVar 2) (oi (fC (.int 3))))) (fCons (oi (f2 gIx (foVar 2) (oi (fC (.int 4))))) fNil))))))))))))
def F_read_train : Fn := fnF 5 1 b_read_train
def N__law_streams_right : List Str := ["_law_s", "_law_stream_here", "_law_due", "_law_first", "_law_rounds", "_law_head", "_law_block", "_law_end", "_law_train"]
def b__law_streams_right : FS := (cSeq (cAsg (fCallO F__law_stream (fCons (foVar 0) (fCons (oi (fC (.int 8))) (fCons (oi (fLst (fCons (oi (fC (.int 1))) (fCons (oi (fC (.int 5))) (fCons (oi (f2 gPow (oi (fC (.int 10))) (oi (fC (.int 58))))) fNil))))) fNil)))) (tN 1))
    (cSeq (cAsg (fCall F__law_spoken (fCons (oi (fVar 1)) fNil)) (tN 2))
    (cSeq (cIf (fOr (fB (f2 gNe (oi (fCall F_stream_text (fCons (oi (fVar 1)) fNil))) (oi (fVar 2)))) (fOr (fB (f2 gNe (oi (fCall F_stream_text (fCons (oi (fN (g1' gTupOf) (fCons (oi (fVar 1)) fNil))) fNil))) (oi (fVar 2)))) (fB (f2 gNe (oi (fCall F_read_stream (fCons (oi (fVar 2)) fNil))) (oi (fVar 1))))))
     (cRet (fC (.bl false)))
     cNext)
    (cSeq (cIf (fNot (fB (f1 (gIsi tb [(.ty "list")]) (oi (fCall F_read_stream (fCons (oi (fVar 2)) fNil))))))
     (cRet (fC (.bl false)))
     cNext)
    (cSeq (cParM (mIm (f2 gSub (oi (fCall F__law_digit (fCons (foVar 0) (fCons (oi (f2 gPow (oi (fC (.int 10))) (oi (fC (.int 59))))) fNil)))) (oi (f2 gMul (oi (fC (.int 5))) (oi (f2 gPow (oi (fC (.int 10))) (oi (fC (.int 58)))))))) (mIm (f2 gIx (oi (fLst (fCons (oi (fC (.int 0))) (fCons (oi (fC (.int 1))) (fCons (oi (f2 gPow (oi (fC (.int 10))) (oi (fC (.int 30))))) (fCons (oi (fCall F__law_digit (fCons (foVar 0) (fCons (oi (fC (.int 50))) fNil)))) fNil)))))) (oi (fCall F__law_digit (fCons (foVar 0) (fCons (oi (fC (.int 4))) fNil))))) mNil)) [3, 4])
    (cSeq (cParM (mIm (fCallO F__law_gaps (fCons (foVar 0) fNil)) (mIm (fCallO F__law_gaps (fCons (foVar 0) fNil)) (mIm (fCallO F__law_gaps (fCons (foVar 0) fNil)) mNil))) [5, 6, 7])
    (cSeq (cAsg (fMake "Train" F_Train___init__ (fCons (oi (fVar 3)) (fCons (oi (fVar 5)) (fCons (oi (fVar 6)) (fCons (oi (fVar 4)) (fCons (oi (fVar 7)) fNil)))))) (tN 8))
    (cSeq (cAsg (fLst (fCons (oi (fN (g1' gStrI) (fCons (oi (fVar 3)) fNil))) (fCons (oi (fCall F__law_spoken (fCons (oi (fVar 5)) fNil))) (fCons (oi (fCall F__law_spoken (fCons (oi (fVar 6)) fNil))) (fCons (oi (fN (g1' gStrI) (fCons (oi (fVar 4)) fNil))) (fCons (oi (fCall F__law_spoken (fCons (oi (fVar 7)) fNil))) fNil)))))) (tN 2))
    (cRet (gAnd (f2q false (eqO tb eq1 F_Thing___eq___1) (oi (fCall F_train_text (fCons (oi (fVar 8)) fNil))) (oi (fJoin (oi (fC (.str " | "))) (oi (fVar 2))))) (f2q false (eqO tb eq1 F_Thing___eq___1) (oi (fCall F_read_train (fCons (oi (fJoin (oi (fC (.str " | "))) (oi (fVar 2)))) fNil))) (oi (fVar 8)))))))))))))
def F__law_streams_right : Fn := fnF 9 1 b__law_streams_right
def lp1_law : FS := (cKil [3] (cIf (fOr (fNot (fB (fCall F__law_rows_right (fCons (foVar 2) fNil)))) (fNot (fB (fCall F__law_streams_right (fCons (foVar 2) fNil)))))
     (cRet (fC (.bl false)))
     cNext))
def lp2_law : FS := (cKil [1, 2, 3] (cSeq (cOwn (fCallO F__law_state (fCons (oi (fVar 1)) fNil)) 2)
    (cSeq (cFor (fiBy rg1 (fC (.int 6))) (tN 3)
     lp1_law)
    (cIf (fNot (fB (fCall F__law_long_right (fCons (foVar 2) fNil))))
     (cRet (fC (.bl false)))
     cNext))))
def N_law : List Str := ["_law_script", "_law_cell", "_law_s", "_law_turn"]
def b_law : FS := (cSeq (cFor (fiBy seqOf (fSl (oi (f2 gCat (oi (fVar 0)) (oi (fLst (fCons (oi (fC (.int 0))) fNil))))) fpNone (fpSome (fC (.int 3))))) (tN 1)
     lp2_law)
    (cRet (fC (.bl true))))
def F_law : Fn := fnF 4 1 b_law
end
end Law

namespace Law
open PySem PySem.Spec L2 TL
structure Dg where
  a : Int
  b : Int
  c : Int
def dgD (s : Dg) : D := .lst [.int s.a, .int s.b, .int s.c]
structure Dg.ok (s : Dg) : Prop where
  a0 : 0 ≤ s.a
  b0 : 0 ≤ s.b
  b1 : s.b < 4294967296
  c0 : 0 ≤ s.c
  c1 : s.c < 4294967296
theorem F_state (n : Int) : ∃ s : Dg, s.ok ∧ F__law_state [.im (.int n)] = .ro (dgD s) [.im (.int n)] := by
  have hab : 0 ≤ (if n < 0 then -n else n) := by
    split <;> omega
  unfold F__law_state b__law_state
  have hp : powC 10 18 = true := by decide
  simp only [RD1, RD2, RD3, RD4, RD5, RD6, RD7, RD8, RD9, RD10, List.all_cons, List.all_nil, List.length_cons, List.length_nil, List.getElem?_cons_zero, List.getElem?_cons_succ, List.getElem?_nil, List.set_cons_zero, List.set_cons_succ, List.cons_append, List.nil_append, List.replicate_succ, List.replicate_zero, Nat.reduceAdd, Nat.reduceSub, Nat.reduceEqDiff, Nat.reduceLeDiff, Nat.reduceLT, Option.bind_some, Option.bind_none, Option.map_some, Option.map_none, if_true, if_false, ite_true, ite_false, reduceCtorEq, decide_true, decide_false, Int.reducePow, Int.reduceToNat, Int.reduceMul, Int.reduceAdd, Int.reduceSub, Int.reduceNeg, Int.reduceLT, Int.reduceLE, List.map_append, List.map_cons, List.map_nil, g2m_ii, tLl, gInD_n, gInD_i, gInD_s, mmInsertu, g4maxu, hp]
  generalize (if n < 0 then -n else n) = x at hab
  have hm : mulC x (if decide (1000000000000000000 ≤ x) = true then 1 else 0) = true := mulC_r (by split <;> decide)
  simp only [RD1, RD2, RD3, RD4, RD5, RD6, RD7, RD8, RD9, RD10, List.all_cons, List.all_nil, List.length_cons, List.length_nil, List.getElem?_cons_zero, List.getElem?_cons_succ, List.getElem?_nil, List.set_cons_zero, List.set_cons_succ, List.cons_append, List.nil_append, List.replicate_succ, List.replicate_zero, Nat.reduceAdd, Nat.reduceSub, Nat.reduceEqDiff, Nat.reduceLeDiff, Nat.reduceLT, Option.bind_some, Option.bind_none, Option.map_some, Option.map_none, if_true, if_false, ite_true, ite_false, reduceCtorEq, decide_true, decide_false, Int.reducePow, Int.reduceToNat, Int.reduceMul, Int.reduceAdd, Int.reduceSub, Int.reduceNeg, Int.reduceLT, Int.reduceLE, List.map_append, List.map_cons, List.map_nil, g2m_ii, tLl, gInD_n, gInD_i, gInD_s, mmInsertu, g4maxu, hm]
  refine ⟨⟨_, _, _⟩, ⟨?_, ?_, ?_, ?_, ?_⟩, rfl⟩
  · show 0 ≤ x * _
    split <;> omega
  · show 0 ≤ x % _ + 7
    omega
  · show x % 2147483629 + 7 < 4294967296
    omega
  · show 0 ≤ x % _
    omega
  · show x % 2147483587 < 4294967296
    omega
theorem F_digit (s : Dg) (m : Int) (o : s.ok) (h0 : 0 < m) (h1 : m < 2 ^ 200) : ∃ (s' : Dg) (r : Int), s'.ok ∧ 0 ≤ r ∧ r < m ∧ F__law_digit [.ow true (dgD s), .im (.int m)] = .rt (.int r) [.ow true (dgD s'), .im (.int m)] := by
  obtain ⟨a, b, c⟩ := s
  obtain ⟨oa, ob, ob1, oc, oc1⟩ := o
  unfold F__law_digit b__law_digit dgD
  dsimp only at oa ob ob1 oc oc1
  have i0 : ∀ x y z : Int, atI [D.int x, .int y, .int z] 0 = some (.int x) := fun x y z => rfl
  have i1 : ∀ x y z : Int, atI [D.int x, .int y, .int z] 1 = some (.int y) := fun x y z => rfl
  have i2 : ∀ x y z : Int, atI [D.int x, .int y, .int z] 2 = some (.int z) := fun x y z => rfl
  have j0 : ixN 3 0 = some 0 := rfl
  have j1 : ixN 3 1 = some 1 := rfl
  have hd : ∀ x, divC x m = true := fun x => divC_of h0 h1
  simp only [RD1, RD2, RD3, RD4, RD5, RD6, RD7, RD8, RD9, RD10, List.all_cons, List.all_nil, List.length_cons, List.length_nil, List.getElem?_cons_zero, List.getElem?_cons_succ, List.getElem?_nil, List.set_cons_zero, List.set_cons_succ, List.cons_append, List.nil_append, List.replicate_succ, List.replicate_zero, Nat.reduceAdd, Nat.reduceSub, Nat.reduceEqDiff, Nat.reduceLeDiff, Nat.reduceLT, Option.bind_some, Option.bind_none, Option.map_some, Option.map_none, if_true, if_false, ite_true, ite_false, reduceCtorEq, decide_true, decide_false, Int.reducePow, Int.reduceToNat, Int.reduceMul, Int.reduceAdd, Int.reduceSub, Int.reduceNeg, Int.reduceLT, Int.reduceLE, List.map_append, List.map_cons, List.map_nil, g2m_ii, tLl, gInD_n, gInD_i, gInD_s, mmInsertu, g4maxu, i0, i1, i2, j0, j1, h0, hd]
  by_cases ha : 0 < a
  · simp only [RD1, RD2, RD3, RD4, RD5, RD6, RD7, RD8, RD9, RD10, List.all_cons, List.all_nil, List.length_cons, List.length_nil, List.getElem?_cons_zero, List.getElem?_cons_succ, List.getElem?_nil, List.set_cons_zero, List.set_cons_succ, List.cons_append, List.nil_append, List.replicate_succ, List.replicate_zero, Nat.reduceAdd, Nat.reduceSub, Nat.reduceEqDiff, Nat.reduceLeDiff, Nat.reduceLT, Option.bind_some, Option.bind_none, Option.map_some, Option.map_none, if_true, if_false, ite_true, ite_false, reduceCtorEq, decide_true, decide_false, Int.reducePow, Int.reduceToNat, Int.reduceMul, Int.reduceAdd, Int.reduceSub, Int.reduceNeg, Int.reduceLT, Int.reduceLE, List.map_append, List.map_cons, List.map_nil, g2m_ii, tLl, gInD_n, gInD_i, gInD_s, mmInsertu, g4maxu, i0, i1, i2, j0, j1, h0, hd, ha]
    exact ⟨⟨a / m, b, c⟩, a % m, ⟨Int.ediv_nonneg oa (by omega), ob, ob1, oc, oc1⟩, Int.emod_nonneg _ (by omega), Int.emod_lt_of_pos _ h0, rfl⟩
  · have d1 : divC b 1009 = true := divC_of (by decide) (by decide)
    have m1 : mulC b (b / 1009 + 69621) = true := mulC_l ⟨by omega, by omega⟩
    have d2 : ∀ x, divC x 97 = true := fun x => divC_of (by decide) (by decide)
    simp only [RD1, RD2, RD3, RD4, RD5, RD6, RD7, RD8, RD9, RD10, List.all_cons, List.all_nil, List.length_cons, List.length_nil, List.getElem?_cons_zero, List.getElem?_cons_succ, List.getElem?_nil, List.set_cons_zero, List.set_cons_succ, List.cons_append, List.nil_append, List.replicate_succ, List.replicate_zero, Nat.reduceAdd, Nat.reduceSub, Nat.reduceEqDiff, Nat.reduceLeDiff, Nat.reduceLT, Option.bind_some, Option.bind_none, Option.map_some, Option.map_none, if_true, if_false, ite_true, ite_false, reduceCtorEq, decide_true, decide_false, Int.reducePow, Int.reduceToNat, Int.reduceMul, Int.reduceAdd, Int.reduceSub, Int.reduceNeg, Int.reduceLT, Int.reduceLE, List.map_append, List.map_cons, List.map_nil, g2m_ii, tLl, gInD_n, gInD_i, gInD_s, mmInsertu, g4maxu, i0, i1, i2, j0, j1, h0, hd, ha, d1, m1, d2]
    exact ⟨⟨a, (b * (b / 1009 + 69621) + c) % 2147483629 + 7, c⟩, _, ⟨oa, by show 0 ≤ _ % 2147483629 + 7; omega, by show _ % 2147483629 + 7 < 4294967296; omega, oc, oc1⟩, Int.emod_nonneg _ (by omega), Int.emod_lt_of_pos _ h0, rfl⟩

theorem F_number_int (i : Int) : F_is_number [.im (.int i)] = .rt (.bl true) [.im (.int i)] := rfl
theorem asc_at {ts : List Int} (h : ts.Pairwise (· < ·)) {i j : Nat} (hij : i < j) (hj : j < ts.length) : zat ts i < zat ts j := by
  have := List.pairwise_iff_getElem.mp h i j (by omega) hj hij
  unfold zat
  rw [List.getD_eq_getElem?_getD, List.getD_eq_getElem?_getD, List.getElem?_eq_getElem (by omega), List.getElem?_eq_getElem hj]
  exact this
theorem F_check {d : D} {ts : List Int} (hs : seqOf d = some (ts.map D.int)) (h : ts.Pairwise (· < ·)) : F_check_stream [.im d] = .rt .non [.im d] := by
  have hi : gIsi tb [.ty "list", .ty "tuple"] d = some (.bl true) := by
    rcases seqOf_some hs with rfl | rfl <;> rfl
  have hx : ∀ i : Int, gIx d (.int i) = atI (ts.map D.int) i := fun i => by
    unfold gIx
    rw [hs]
  have he : enOfD d = some (enD (ts.map D.int)) := by
    unfold enOfD
    rw [hs]
  unfold F_check_stream b_check_stream
  simp only [RD1, RD2, RD3, RD4, RD5, RD6, RD7, RD8, RD9, RD10, List.all_cons, List.all_nil, List.length_cons, List.length_nil, List.getElem?_cons_zero, List.getElem?_cons_succ, List.getElem?_nil, List.set_cons_zero, List.set_cons_succ, List.cons_append, List.nil_append, List.replicate_succ, List.replicate_zero, Nat.reduceAdd, Nat.reduceSub, Nat.reduceEqDiff, Nat.reduceLeDiff, Nat.reduceLT, Option.bind_some, Option.bind_none, Option.map_some, Option.map_none, if_true, if_false, ite_true, ite_false, reduceCtorEq, decide_true, decide_false, Int.reducePow, Int.reduceToNat, Int.reduceMul, Int.reduceAdd, Int.reduceSub, Int.reduceNeg, Int.reduceLT, Int.reduceLE, List.map_append, List.map_cons, List.map_nil, g2m_ii, tLl, gInD_n, gInD_i, gInD_s, mmInsertu, g4maxu, hi, he]
  rw [forL_inv (fun _ => [.im d, .no, .no])]
  · rfl
  · intro i hl
    rw [enD_length, List.length_map] at hl
    have hg : (enD (ts.map D.int))[i]'(by rw [enD_length, List.length_map]; exact hl) = .tup [.int (i : Nat), .int (zat ts i)] := by
      have := enD_get (ds := ts.map D.int) (i := i)
      rw [zmap_get hl, List.getElem?_eq_getElem (by rw [enD_length, List.length_map]; exact hl)] at this
      exact Option.some.inj this
    rw [hg]
    refine ⟨[.im d, .im (.int (i : Nat)), .im (.int (zat ts i))], by simp only [RD1, RD2, RD3, RD4, RD5, RD6, RD7, RD8, RD9, RD10, List.all_cons, List.all_nil, List.length_cons, List.length_nil, List.getElem?_cons_zero, List.getElem?_cons_succ, List.getElem?_nil, List.set_cons_zero, List.set_cons_succ, List.cons_append, List.nil_append, List.replicate_succ, List.replicate_zero, Nat.reduceAdd, Nat.reduceSub, Nat.reduceEqDiff, Nat.reduceLeDiff, Nat.reduceLT, Option.bind_some, Option.bind_none, Option.map_some, Option.map_none, if_true, if_false, ite_true, ite_false, reduceCtorEq, decide_true, decide_false, Int.reducePow, Int.reduceToNat, Int.reduceMul, Int.reduceAdd, Int.reduceSub, Int.reduceNeg, Int.reduceLT, Int.reduceLE, List.map_append, List.map_cons, List.map_nil, g2m_ii, tLl, gInD_n, gInD_i, gInD_s, mmInsertu, g4maxu], .inl ?_⟩
    unfold lp1_check_stream
    simp only [RD1, RD2, RD3, RD4, RD5, RD6, RD7, RD8, RD9, RD10, List.all_cons, List.all_nil, List.length_cons, List.length_nil, List.getElem?_cons_zero, List.getElem?_cons_succ, List.getElem?_nil, List.set_cons_zero, List.set_cons_succ, List.cons_append, List.nil_append, List.replicate_succ, List.replicate_zero, Nat.reduceAdd, Nat.reduceSub, Nat.reduceEqDiff, Nat.reduceLeDiff, Nat.reduceLT, Option.bind_some, Option.bind_none, Option.map_some, Option.map_none, if_true, if_false, ite_true, ite_false, reduceCtorEq, decide_true, decide_false, Int.reducePow, Int.reduceToNat, Int.reduceMul, Int.reduceAdd, Int.reduceSub, Int.reduceNeg, Int.reduceLT, Int.reduceLE, List.map_append, List.map_cons, List.map_nil, g2m_ii, tLl, gInD_n, gInD_i, gInD_s, mmInsertu, g4maxu, F_number_int]
    by_cases h0 : (0 : Int) < (i : Nat)
    · have e1 : ((i : Int) - 1) = ((i - 1 : Nat) : Int) := by omega
      have e2 : ¬ (zat ts i ≤ zat ts (i - 1)) := by
        have := asc_at h (i := i - 1) (j := i) (by omega) hl
        omega
      simp only [RD1, RD2, RD3, RD4, RD5, RD6, RD7, RD8, RD9, RD10, List.all_cons, List.all_nil, List.length_cons, List.length_nil, List.getElem?_cons_zero, List.getElem?_cons_succ, List.getElem?_nil, List.set_cons_zero, List.set_cons_succ, List.cons_append, List.nil_append, List.replicate_succ, List.replicate_zero, Nat.reduceAdd, Nat.reduceSub, Nat.reduceEqDiff, Nat.reduceLeDiff, Nat.reduceLT, Option.bind_some, Option.bind_none, Option.map_some, Option.map_none, if_true, if_false, ite_true, ite_false, reduceCtorEq, decide_true, decide_false, Int.reducePow, Int.reduceToNat, Int.reduceMul, Int.reduceAdd, Int.reduceSub, Int.reduceNeg, Int.reduceLT, Int.reduceLE, List.map_append, List.map_cons, List.map_nil, g2m_ii, tLl, gInD_n, gInD_i, gInD_s, mmInsertu, g4maxu, h0, hx, e1, atI_z (ts := ts) (i := i - 1) (by omega), e2]
    · simp only [RD1, RD2, RD3, RD4, RD5, RD6, RD7, RD8, RD9, RD10, List.all_cons, List.all_nil, List.length_cons, List.length_nil, List.getElem?_cons_zero, List.getElem?_cons_succ, List.getElem?_nil, List.set_cons_zero, List.set_cons_succ, List.cons_append, List.nil_append, List.replicate_succ, List.replicate_zero, Nat.reduceAdd, Nat.reduceSub, Nat.reduceEqDiff, Nat.reduceLeDiff, Nat.reduceLT, Option.bind_some, Option.bind_none, Option.map_some, Option.map_none, if_true, if_false, ite_true, ite_false, reduceCtorEq, decide_true, decide_false, Int.reducePow, Int.reduceToNat, Int.reduceMul, Int.reduceAdd, Int.reduceSub, Int.reduceNeg, Int.reduceLT, Int.reduceLE, List.map_append, List.map_cons, List.map_nil, g2m_ii, tLl, gInD_n, gInD_i, gInD_s, mmInsertu, g4maxu, h0]
theorem en_at {α : Type} {f : α → D} {xs : List α} {i : Nat} (h : i < xs.length) : (enD (xs.map f))[i]'(by rw [enD_length, List.length_map]; exact h) = .tup [.int (i : Nat), f xs[i]] := by
  have := enD_get (ds := xs.map f) (i := i)
  rw [List.getElem?_map, List.getElem?_eq_getElem h, List.getElem?_eq_getElem (by rw [enD_length, List.length_map]; exact h)] at this
  exact Option.some.inj this
def kindS : Mb → Str
  | .last _ => "last"
  | .first _ => "first"
  | .limit _ => "limit"
  | .delay _ => "delay"
def num : Mb → Int
  | .last q => q
  | .first q => q
  | .limit q => q
  | .delay q => q
def memD (m : Mb) : D := .tup [.str (kindS m), .int (num m)]
def _root_.TL.Mb.isFirst : Mb → Bool
  | .first _ => true
  | _ => false
def _root_.TL.Mb.isLimit : Mb → Bool
  | .limit _ => true
  | _ => false
theorem eqD_str {a b : Str} : eqD (.str a) (.str b) = decide (a = b) := by
  unfold eqD pd
  show PyData.eqv (.str a) (.str b) = _
  unfold PyData.eqv
  by_cases h : a = b
  · rw [h, decide_eq_true rfl]
    exact beq_self_eq_true b
  · rw [decide_eq_false h]
    exact beq_eq_false_iff_ne.mpr h
theorem gEq_str {a b : Str} (h : (PySem.PyData.strOk a && PySem.PyData.strOk b) = true) : gEq (.str a) (.str b) = some (.bl (decide (a = b))) := by
  unfold gEq
  have h' : (okD 16 (.str a) && okD 16 (.str b)) = true := h
  rw [if_pos h', eqD_str]
theorem gNe_str {a b : Str} (h : (PySem.PyData.strOk a && PySem.PyData.strOk b) = true) : gNe (.str a) (.str b) = some (.bl (!decide (a = b))) := by
  unfold gNe
  have h' : (okD 16 (.str a) && okD 16 (.str b)) = true := h
  rw [if_pos h', eqD_str]
theorem eqs {a b : Str} {c : Bool} (h : (PySem.PyData.strOk a && PySem.PyData.strOk b) = true) (h2 : decide (a = b) = c) : gEq (.str a) (.str b) = some (.bl c) := by
  rw [gEq_str h, h2]
theorem eq_last (m : Mb) : gEq (.str (kindS m)) (.str "last") = some (.bl m.isLast) := by
  cases m with
  | last q => exact eqs (a := "last") (b := "last") (c := true) (by decide +kernel) (by decide +kernel)
  | first q => exact eqs (a := "first") (b := "last") (c := false) (by decide +kernel) (by decide +kernel)
  | limit q => exact eqs (a := "limit") (b := "last") (c := false) (by decide +kernel) (by decide +kernel)
  | delay q => exact eqs (a := "delay") (b := "last") (c := false) (by decide +kernel) (by decide +kernel)
theorem eq_first (m : Mb) : gEq (.str (kindS m)) (.str "first") = some (.bl m.isFirst) := by
  cases m with
  | last q => exact eqs (a := "last") (b := "first") (c := false) (by decide +kernel) (by decide +kernel)
  | first q => exact eqs (a := "first") (b := "first") (c := true) (by decide +kernel) (by decide +kernel)
  | limit q => exact eqs (a := "limit") (b := "first") (c := false) (by decide +kernel) (by decide +kernel)
  | delay q => exact eqs (a := "delay") (b := "first") (c := false) (by decide +kernel) (by decide +kernel)
theorem eq_limit (m : Mb) : gEq (.str (kindS m)) (.str "limit") = some (.bl m.isLimit) := by
  cases m with
  | last q => exact eqs (a := "last") (b := "limit") (c := false) (by decide +kernel) (by decide +kernel)
  | first q => exact eqs (a := "first") (b := "limit") (c := false) (by decide +kernel) (by decide +kernel)
  | limit q => exact eqs (a := "limit") (b := "limit") (c := true) (by decide +kernel) (by decide +kernel)
  | delay q => exact eqs (a := "delay") (b := "limit") (c := false) (by decide +kernel) (by decide +kernel)
theorem gEq_int (i j : Int) : gEq (.int i) (.int j) = some (.bl (decide (i = j))) := by
  show some (D.bl (eqD _ _)) = _
  rw [eqD_int]
theorem bnd_of {n : Int} (h : -1000000 ≤ n) (h2 : n ≤ 1000000) : bnd n = true := by
  unfold bnd
  rw [decide_eq_true (by omega), decide_eq_true (by omega)]
  rfl
theorem F_kinds : F__law_kinds [] = .ro (.lst [.str "last", .str "first", .str "limit"]) [] := rfl
def _root_.TL.Mb.in (most : Int) : Mb → Prop
  | .delay q => 0 ≤ q ∧ q < most
  | m => 1 ≤ num m ∧ num m ≤ most
theorem F_members (s : Dg) (many most : Int) (o : s.ok) (h0 : 0 ≤ many) (h1 : many ≤ 1000) (h2 : 0 < most) (h3 : most < 2 ^ 200) : ∃ (s' : Dg) (ms : List Mb), s'.ok ∧ (ms.length : Int) ≤ many ∧ (∀ m ∈ ms, m.in most) ∧
    F__law_members [.ow true (dgD s), .im (.int many), .im (.int most)] = .ro (.lst (ms.map memD)) [.ow true (dgD s'), .im (.int many), .im (.int most)] := by
  obtain ⟨s1, r1, o1, a1, b1, e1⟩ := F_digit s (many + 1) o (by omega) (by omega)
  unfold F__law_members b__law_members
  simp only [RD1, RD2, RD3, RD4, RD5, RD6, RD7, RD8, RD9, RD10, List.all_cons, List.all_nil, List.length_cons, List.length_nil, List.getElem?_cons_zero, List.getElem?_cons_succ, List.getElem?_nil, List.set_cons_zero, List.set_cons_succ, List.cons_append, List.nil_append, List.replicate_succ, List.replicate_zero, Nat.reduceAdd, Nat.reduceSub, Nat.reduceEqDiff, Nat.reduceLeDiff, Nat.reduceLT, Option.bind_some, Option.bind_none, Option.map_some, Option.map_none, if_true, if_false, ite_true, ite_false, reduceCtorEq, decide_true, decide_false, Int.reducePow, Int.reduceToNat, Int.reduceMul, Int.reduceAdd, Int.reduceSub, Int.reduceNeg, Int.reduceLT, Int.reduceLE, List.map_append, List.map_cons, List.map_nil, g2m_ii, tLl, gInD_n, gInD_i, gInD_s, mmInsertu, g4maxu, e1, bnd_of (n := r1) (by omega) (by omega)]
  rw [rgD0]
  obtain ⟨e', he', s2, ms, o2, hl, hm, rfl⟩ := forL_rel (g := tN 4) (f := fun i : Nat => D.int (i : Nat)) (xs := List.range r1.toNat) (e := [.ow true (dgD s1), .im (.int many), .im (.int most), .ow false (.lst []), .no])
      (b := lp1__law_members)
      (fun i e => ∃ (s' : Dg) (ms : List Mb), s'.ok ∧ ms.length = i ∧ (∀ m ∈ ms, m.in most) ∧ e = [.ow true (dgD s'), .im (.int many), .im (.int most), .ow false (.lst (ms.map memD)), .no])
      ⟨s1, [], o1, rfl, (fun m h => by cases h), rfl⟩ (fun i hi e he => by
        obtain ⟨s', ms, o', hl, hm, rfl⟩ := he
        rw [List.length_range] at hi
        rw [List.getElem_range]
        have hll : (ms.map memD).length < 1000000 := by
          rw [List.length_map]
          omega
        have app : ∀ m : Mb, m.in most → (∀ m' ∈ ms ++ [m], m'.in most) ∧ (ms ++ [m]).length = i + 1 := fun m h => ⟨fun m' hm' => by
          rcases List.mem_append.mp hm' with q | q
          · exact hm m' q
          · rw [List.mem_singleton.mp q]
            exact h, by rw [List.length_append, hl]; rfl⟩
        obtain ⟨s2, r2, o2, a2, b2, e2⟩ := F_digit s' 6 o' (by omega) (by omega)
        by_cases h0 : r2 = 0
        · obtain ⟨s3, r3, o3, a3, b3, e3⟩ := F_digit s2 most o2 h2 h3
          obtain ⟨z1, z2⟩ := app (.delay r3) ⟨a3, b3⟩
          refine ⟨[.ow true (dgD s'), .im (.int many), .im (.int most), .ow false (.lst (ms.map memD)), .im (.int (i : Nat))], _, by simp only [RD1, RD2, RD3, RD4, RD5, RD6, RD7, RD8, RD9, RD10, List.all_cons, List.all_nil, List.length_cons, List.length_nil, List.getElem?_cons_zero, List.getElem?_cons_succ, List.getElem?_nil, List.set_cons_zero, List.set_cons_succ, List.cons_append, List.nil_append, List.replicate_succ, List.replicate_zero, Nat.reduceAdd, Nat.reduceSub, Nat.reduceEqDiff, Nat.reduceLeDiff, Nat.reduceLT, Option.bind_some, Option.bind_none, Option.map_some, Option.map_none, if_true, if_false, ite_true, ite_false, reduceCtorEq, decide_true, decide_false, Int.reducePow, Int.reduceToNat, Int.reduceMul, Int.reduceAdd, Int.reduceSub, Int.reduceNeg, Int.reduceLT, Int.reduceLE, List.map_append, List.map_cons, List.map_nil, g2m_ii, tLl, gInD_n, gInD_i, gInD_s, mmInsertu, g4maxu], .inl ?_, s3, ms ++ [.delay r3], o3, z2, z1, rfl⟩
          simp only [RD1, RD2, RD3, RD4, RD5, RD6, RD7, RD8, RD9, RD10, List.all_cons, List.all_nil, List.length_cons, List.length_nil, List.getElem?_cons_zero, List.getElem?_cons_succ, List.getElem?_nil, List.set_cons_zero, List.set_cons_succ, List.cons_append, List.nil_append, List.replicate_succ, List.replicate_zero, Nat.reduceAdd, Nat.reduceSub, Nat.reduceEqDiff, Nat.reduceLeDiff, Nat.reduceLT, Option.bind_some, Option.bind_none, Option.map_some, Option.map_none, if_true, if_false, ite_true, ite_false, reduceCtorEq, decide_true, decide_false, Int.reducePow, Int.reduceToNat, Int.reduceMul, Int.reduceAdd, Int.reduceSub, Int.reduceNeg, Int.reduceLT, Int.reduceLE, List.map_append, List.map_cons, List.map_nil, g2m_ii, tLl, gInD_n, gInD_i, gInD_s, mmInsertu, g4maxu, lp1__law_members, e2, gEq_int, h0, e3, hll]
          rfl
        · obtain ⟨s3, r3, o3, a3, b3, e3⟩ := F_digit s2 3 o2 (by omega) (by omega)
          obtain ⟨s4, r4, o4, a4, b4, e4⟩ := F_digit s3 most o3 h2 h3
          have hk : ∃ m : Mb, m.in most ∧ num m = 1 + r4 ∧ atI [D.str "last", .str "first", .str "limit"] r3 = some (.str (kindS m)) := by
            rcases (by omega : r3 = 0 ∨ r3 = 1 ∨ r3 = 2) with rfl | rfl | rfl
            · exact ⟨.last (1 + r4), ⟨by show 1 ≤ 1 + r4; omega, by show 1 + r4 ≤ most; omega⟩, rfl, rfl⟩
            · exact ⟨.first (1 + r4), ⟨by show 1 ≤ 1 + r4; omega, by show 1 + r4 ≤ most; omega⟩, rfl, rfl⟩
            · exact ⟨.limit (1 + r4), ⟨by show 1 ≤ 1 + r4; omega, by show 1 + r4 ≤ most; omega⟩, rfl, rfl⟩
          obtain ⟨m, hm1, hm2, hm3⟩ := hk
          obtain ⟨z1, z2⟩ := app m hm1
          refine ⟨[.ow true (dgD s'), .im (.int many), .im (.int most), .ow false (.lst (ms.map memD)), .im (.int (i : Nat))], _, by simp only [RD1, RD2, RD3, RD4, RD5, RD6, RD7, RD8, RD9, RD10, List.all_cons, List.all_nil, List.length_cons, List.length_nil, List.getElem?_cons_zero, List.getElem?_cons_succ, List.getElem?_nil, List.set_cons_zero, List.set_cons_succ, List.cons_append, List.nil_append, List.replicate_succ, List.replicate_zero, Nat.reduceAdd, Nat.reduceSub, Nat.reduceEqDiff, Nat.reduceLeDiff, Nat.reduceLT, Option.bind_some, Option.bind_none, Option.map_some, Option.map_none, if_true, if_false, ite_true, ite_false, reduceCtorEq, decide_true, decide_false, Int.reducePow, Int.reduceToNat, Int.reduceMul, Int.reduceAdd, Int.reduceSub, Int.reduceNeg, Int.reduceLT, Int.reduceLE, List.map_append, List.map_cons, List.map_nil, g2m_ii, tLl, gInD_n, gInD_i, gInD_s, mmInsertu, g4maxu], .inl ?_, s4, ms ++ [m], o4, z2, z1, rfl⟩
          simp only [RD1, RD2, RD3, RD4, RD5, RD6, RD7, RD8, RD9, RD10, List.all_cons, List.all_nil, List.length_cons, List.length_nil, List.getElem?_cons_zero, List.getElem?_cons_succ, List.getElem?_nil, List.set_cons_zero, List.set_cons_succ, List.cons_append, List.nil_append, List.replicate_succ, List.replicate_zero, Nat.reduceAdd, Nat.reduceSub, Nat.reduceEqDiff, Nat.reduceLeDiff, Nat.reduceLT, Option.bind_some, Option.bind_none, Option.map_some, Option.map_none, if_true, if_false, ite_true, ite_false, reduceCtorEq, decide_true, decide_false, Int.reducePow, Int.reduceToNat, Int.reduceMul, Int.reduceAdd, Int.reduceSub, Int.reduceNeg, Int.reduceLT, Int.reduceLE, List.map_append, List.map_cons, List.map_nil, g2m_ii, tLl, gInD_n, gInD_i, gInD_s, mmInsertu, g4maxu, lp1__law_members, e2, gEq_int, h0, F_kinds, e3, hm3, e4, hll, memD, hm2])
  rw [he']
  rw [List.length_range] at hl
  refine ⟨s2, ms, o2, by omega, hm, ?_⟩
  simp only [RD1, RD2, RD3, RD4, RD5, RD6, RD7, RD8, RD9, RD10, List.all_cons, List.all_nil, List.length_cons, List.length_nil, List.getElem?_cons_zero, List.getElem?_cons_succ, List.getElem?_nil, List.set_cons_zero, List.set_cons_succ, List.cons_append, List.nil_append, List.replicate_succ, List.replicate_zero, Nat.reduceAdd, Nat.reduceSub, Nat.reduceEqDiff, Nat.reduceLeDiff, Nat.reduceLT, Option.bind_some, Option.bind_none, Option.map_some, Option.map_none, if_true, if_false, ite_true, ite_false, reduceCtorEq, decide_true, decide_false, Int.reducePow, Int.reduceToNat, Int.reduceMul, Int.reduceAdd, Int.reduceSub, Int.reduceNeg, Int.reduceLT, Int.reduceLE, List.map_append, List.map_cons, List.map_nil, g2m_ii, tLl, gInD_n, gInD_i, gInD_s, mmInsertu, g4maxu]
theorem F_init {c : Str} {q : Int} (hc : c = "Last" ∨ c = "First" ∨ c = "Limit") (h : 1 ≤ q) : F_Member___init__ [.ow true (.ins c [] []), .im (.int q)] = .rt .non [.ow true (.ins c ["q"] [.int q]), .im (.int q)] := by
  have hq : ¬ q < 1 := by omega
  unfold F_Member___init__ b_Member___init__
  have hf : fldOk tb "q" (.ins c [] []) = true := by
    rcases hc with rfl | rfl | rfl <;> rfl
  simp only [RD1, RD2, RD3, RD4, RD5, RD6, RD7, RD8, RD9, RD10, List.all_cons, List.all_nil, List.length_cons, List.length_nil, List.getElem?_cons_zero, List.getElem?_cons_succ, List.getElem?_nil, List.set_cons_zero, List.set_cons_succ, List.cons_append, List.nil_append, List.replicate_succ, List.replicate_zero, Nat.reduceAdd, Nat.reduceSub, Nat.reduceEqDiff, Nat.reduceLeDiff, Nat.reduceLT, Option.bind_some, Option.bind_none, Option.map_some, Option.map_none, if_true, if_false, ite_true, ite_false, reduceCtorEq, decide_true, decide_false, Int.reducePow, Int.reduceToNat, Int.reduceMul, Int.reduceAdd, Int.reduceSub, Int.reduceNeg, Int.reduceLT, Int.reduceLE, List.map_append, List.map_cons, List.map_nil, g2m_ii, tLl, gInD_n, gInD_i, gInD_s, mmInsertu, g4maxu, hf, putD, F_number_int, hq]
theorem F_initD {q : Int} (h : 0 ≤ q) : F_Delay___init__ [.ow true (.ins "Delay" [] []), .im (.int q)] = .rt .non [.ow true (.ins "Delay" ["d"] [.int q]), .im (.int q)] := by
  have hq : ¬ q < 0 := by omega
  have hf : fldOk tb "d" (.ins "Delay" [] []) = true := rfl
  unfold F_Delay___init__ b_Delay___init__
  simp only [RD1, RD2, RD3, RD4, RD5, RD6, RD7, RD8, RD9, RD10, List.all_cons, List.all_nil, List.length_cons, List.length_nil, List.getElem?_cons_zero, List.getElem?_cons_succ, List.getElem?_nil, List.set_cons_zero, List.set_cons_succ, List.cons_append, List.nil_append, List.replicate_succ, List.replicate_zero, Nat.reduceAdd, Nat.reduceSub, Nat.reduceEqDiff, Nat.reduceLeDiff, Nat.reduceLT, Option.bind_some, Option.bind_none, Option.map_some, Option.map_none, if_true, if_false, ite_true, ite_false, reduceCtorEq, decide_true, decide_false, Int.reducePow, Int.reduceToNat, Int.reduceMul, Int.reduceAdd, Int.reduceSub, Int.reduceNeg, Int.reduceLT, Int.reduceLE, List.map_append, List.map_cons, List.map_nil, g2m_ii, tLl, gInD_n, gInD_i, gInD_s, mmInsertu, g4maxu, hf, putD, F_number_int, hq]
theorem M_last {q : Int} (h : 1 ≤ q) {e : Ev} : makeF "Last" F_Member___init__ [.im (.int q)] e = .ok (Mb.last q).tree e := by
  simp only [RD1, RD2, RD3, RD4, RD5, RD6, RD7, RD8, RD9, RD10, List.all_cons, List.all_nil, List.length_cons, List.length_nil, List.getElem?_cons_zero, List.getElem?_cons_succ, List.getElem?_nil, List.set_cons_zero, List.set_cons_succ, List.cons_append, List.nil_append, List.replicate_succ, List.replicate_zero, Nat.reduceAdd, Nat.reduceSub, Nat.reduceEqDiff, Nat.reduceLeDiff, Nat.reduceLT, Option.bind_some, Option.bind_none, Option.map_some, Option.map_none, if_true, if_false, ite_true, ite_false, reduceCtorEq, decide_true, decide_false, Int.reducePow, Int.reduceToNat, Int.reduceMul, Int.reduceAdd, Int.reduceSub, Int.reduceNeg, Int.reduceLT, Int.reduceLE, List.map_append, List.map_cons, List.map_nil, g2m_ii, tLl, gInD_n, gInD_i, gInD_s, mmInsertu, g4maxu, makeF_eq, F_init (.inl rfl) h]
  rfl
theorem M_first {q : Int} (h : 1 ≤ q) {e : Ev} : makeF "First" F_Member___init__ [.im (.int q)] e = .ok (Mb.first q).tree e := by
  simp only [RD1, RD2, RD3, RD4, RD5, RD6, RD7, RD8, RD9, RD10, List.all_cons, List.all_nil, List.length_cons, List.length_nil, List.getElem?_cons_zero, List.getElem?_cons_succ, List.getElem?_nil, List.set_cons_zero, List.set_cons_succ, List.cons_append, List.nil_append, List.replicate_succ, List.replicate_zero, Nat.reduceAdd, Nat.reduceSub, Nat.reduceEqDiff, Nat.reduceLeDiff, Nat.reduceLT, Option.bind_some, Option.bind_none, Option.map_some, Option.map_none, if_true, if_false, ite_true, ite_false, reduceCtorEq, decide_true, decide_false, Int.reducePow, Int.reduceToNat, Int.reduceMul, Int.reduceAdd, Int.reduceSub, Int.reduceNeg, Int.reduceLT, Int.reduceLE, List.map_append, List.map_cons, List.map_nil, g2m_ii, tLl, gInD_n, gInD_i, gInD_s, mmInsertu, g4maxu, makeF_eq, F_init (.inr (.inl rfl)) h]
  rfl
theorem M_limit {q : Int} (h : 1 ≤ q) {e : Ev} : makeF "Limit" F_Member___init__ [.im (.int q)] e = .ok (Mb.limit q).tree e := by
  simp only [RD1, RD2, RD3, RD4, RD5, RD6, RD7, RD8, RD9, RD10, List.all_cons, List.all_nil, List.length_cons, List.length_nil, List.getElem?_cons_zero, List.getElem?_cons_succ, List.getElem?_nil, List.set_cons_zero, List.set_cons_succ, List.cons_append, List.nil_append, List.replicate_succ, List.replicate_zero, Nat.reduceAdd, Nat.reduceSub, Nat.reduceEqDiff, Nat.reduceLeDiff, Nat.reduceLT, Option.bind_some, Option.bind_none, Option.map_some, Option.map_none, if_true, if_false, ite_true, ite_false, reduceCtorEq, decide_true, decide_false, Int.reducePow, Int.reduceToNat, Int.reduceMul, Int.reduceAdd, Int.reduceSub, Int.reduceNeg, Int.reduceLT, Int.reduceLE, List.map_append, List.map_cons, List.map_nil, g2m_ii, tLl, gInD_n, gInD_i, gInD_s, mmInsertu, g4maxu, makeF_eq, F_init (.inr (.inr rfl)) h]
  rfl
theorem M_delay {q : Int} (h : 0 ≤ q) {e : Ev} : makeF "Delay" F_Delay___init__ [.im (.int q)] e = .ok (Mb.delay q).tree e := by
  simp only [RD1, RD2, RD3, RD4, RD5, RD6, RD7, RD8, RD9, RD10, List.all_cons, List.all_nil, List.length_cons, List.length_nil, List.getElem?_cons_zero, List.getElem?_cons_succ, List.getElem?_nil, List.set_cons_zero, List.set_cons_succ, List.cons_append, List.nil_append, List.replicate_succ, List.replicate_zero, Nat.reduceAdd, Nat.reduceSub, Nat.reduceEqDiff, Nat.reduceLeDiff, Nat.reduceLT, Option.bind_some, Option.bind_none, Option.map_some, Option.map_none, if_true, if_false, ite_true, ite_false, reduceCtorEq, decide_true, decide_false, Int.reducePow, Int.reduceToNat, Int.reduceMul, Int.reduceAdd, Int.reduceSub, Int.reduceNeg, Int.reduceLT, Int.reduceLE, List.map_append, List.map_cons, List.map_nil, g2m_ii, tLl, gInD_n, gInD_i, gInD_s, mmInsertu, g4maxu, makeF_eq, F_initD h]
  rfl
theorem F_member (m : Mb) : F_is_member [.im m.tree] = .rt (.bl true) [.im m.tree] := by
  cases m <;> rfl
theorem F_row (ms : List Mb) {d : D} (hs : seqOf d = some (ms.map Mb.tree)) : F_Row___init__ [.ow true (.ins "Row" [] []), .im d] = .rt .non [.ow true (rowD ms), .im d] := by
  have hi : gIsi tb [.ty "list", .ty "tuple"] d = some (.bl true) := by
    rcases seqOf_some hs with rfl | rfl <;> rfl
  have ht : gTupOf d = some (.tup (ms.map Mb.tree)) := by
    unfold gTupOf
    rw [hs]
  have hm : gFld tb "members" (rowD ms) = some (.tup (ms.map Mb.tree)) := rfl
  have hr : D.ins "Row" ["members"] [.tup (ms.map Mb.tree)] = rowD ms := rfl
  unfold F_Row___init__ b_Row___init__
  have hf : fldOk tb "members" (.ins "Row" [] []) = true := rfl
  simp only [RD1, RD2, RD3, RD4, RD5, RD6, RD7, RD8, RD9, RD10, List.all_cons, List.all_nil, List.length_cons, List.length_nil, List.getElem?_cons_zero, List.getElem?_cons_succ, List.getElem?_nil, List.set_cons_zero, List.set_cons_succ, List.cons_append, List.nil_append, List.replicate_succ, List.replicate_zero, Nat.reduceAdd, Nat.reduceSub, Nat.reduceEqDiff, Nat.reduceLeDiff, Nat.reduceLT, Option.bind_some, Option.bind_none, Option.map_some, Option.map_none, if_true, if_false, ite_true, ite_false, reduceCtorEq, decide_true, decide_false, Int.reducePow, Int.reduceToNat, Int.reduceMul, Int.reduceAdd, Int.reduceSub, Int.reduceNeg, Int.reduceLT, Int.reduceLE, List.map_append, List.map_cons, List.map_nil, g2m_ii, tLl, gInD_n, gInD_i, gInD_s, mmInsertu, g4maxu, hi, ht, hf, putD, hr, hm]
  rw [forL_go (fun _ => [.ow true (rowD ms), .im d, .no, .no])]
  · simp only [RD1, RD2, RD3, RD4, RD5, RD6, RD7, RD8, RD9, RD10, List.all_cons, List.all_nil, List.length_cons, List.length_nil, List.getElem?_cons_zero, List.getElem?_cons_succ, List.getElem?_nil, List.set_cons_zero, List.set_cons_succ, List.cons_append, List.nil_append, List.replicate_succ, List.replicate_zero, Nat.reduceAdd, Nat.reduceSub, Nat.reduceEqDiff, Nat.reduceLeDiff, Nat.reduceLT, Option.bind_some, Option.bind_none, Option.map_some, Option.map_none, if_true, if_false, ite_true, ite_false, reduceCtorEq, decide_true, decide_false, Int.reducePow, Int.reduceToNat, Int.reduceMul, Int.reduceAdd, Int.reduceSub, Int.reduceNeg, Int.reduceLT, Int.reduceLE, List.map_append, List.map_cons, List.map_nil, g2m_ii, tLl, gInD_n, gInD_i, gInD_s, mmInsertu, g4maxu]
  · rfl
  · intro i hi
    rw [enD_length, List.length_map] at hi
    rw [en_at hi]
    refine ⟨[.ow true (rowD ms), .im d, .im (.int (i : Nat)), .im ms[i].tree], by simp only [RD1, RD2, RD3, RD4, RD5, RD6, RD7, RD8, RD9, RD10, List.all_cons, List.all_nil, List.length_cons, List.length_nil, List.getElem?_cons_zero, List.getElem?_cons_succ, List.getElem?_nil, List.set_cons_zero, List.set_cons_succ, List.cons_append, List.nil_append, List.replicate_succ, List.replicate_zero, Nat.reduceAdd, Nat.reduceSub, Nat.reduceEqDiff, Nat.reduceLeDiff, Nat.reduceLT, Option.bind_some, Option.bind_none, Option.map_some, Option.map_none, if_true, if_false, ite_true, ite_false, reduceCtorEq, decide_true, decide_false, Int.reducePow, Int.reduceToNat, Int.reduceMul, Int.reduceAdd, Int.reduceSub, Int.reduceNeg, Int.reduceLT, Int.reduceLE, List.map_append, List.map_cons, List.map_nil, g2m_ii, tLl, gInD_n, gInD_i, gInD_s, mmInsertu, g4maxu], .inl ?_⟩
    simp only [RD1, RD2, RD3, RD4, RD5, RD6, RD7, RD8, RD9, RD10, List.all_cons, List.all_nil, List.length_cons, List.length_nil, List.getElem?_cons_zero, List.getElem?_cons_succ, List.getElem?_nil, List.set_cons_zero, List.set_cons_succ, List.cons_append, List.nil_append, List.replicate_succ, List.replicate_zero, Nat.reduceAdd, Nat.reduceSub, Nat.reduceEqDiff, Nat.reduceLeDiff, Nat.reduceLT, Option.bind_some, Option.bind_none, Option.map_some, Option.map_none, if_true, if_false, ite_true, ite_false, reduceCtorEq, decide_true, decide_false, Int.reducePow, Int.reduceToNat, Int.reduceMul, Int.reduceAdd, Int.reduceSub, Int.reduceNeg, Int.reduceLT, Int.reduceLE, List.map_append, List.map_cons, List.map_nil, g2m_ii, tLl, gInD_n, gInD_i, gInD_s, mmInsertu, g4maxu, lp1_Row___init__, F_member]
theorem M_row (ms : List Mb) {d : D} (hs : seqOf d = some (ms.map Mb.tree)) {e : Ev} : makeF "Row" F_Row___init__ [.im d] e = .ok (rowD ms) e := by
  simp only [RD1, RD2, RD3, RD4, RD5, RD6, RD7, RD8, RD9, RD10, List.all_cons, List.all_nil, List.length_cons, List.length_nil, List.getElem?_cons_zero, List.getElem?_cons_succ, List.getElem?_nil, List.set_cons_zero, List.set_cons_succ, List.cons_append, List.nil_append, List.replicate_succ, List.replicate_zero, Nat.reduceAdd, Nat.reduceSub, Nat.reduceEqDiff, Nat.reduceLeDiff, Nat.reduceLT, Option.bind_some, Option.bind_none, Option.map_some, Option.map_none, if_true, if_false, ite_true, ite_false, reduceCtorEq, decide_true, decide_false, Int.reducePow, Int.reduceToNat, Int.reduceMul, Int.reduceAdd, Int.reduceSub, Int.reduceNeg, Int.reduceLT, Int.reduceLE, List.map_append, List.map_cons, List.map_nil, g2m_ii, tLl, gInD_n, gInD_i, gInD_s, mmInsertu, g4maxu, makeF_eq, F_row ms hs]
theorem F_made (ms : List Mb) (hl : ms.length ≤ 100000) (hm : ∀ m ∈ ms, m.ok = true) : F__law_made [.im (.lst (ms.map memD))] = .ro (.lst (ms.map Mb.tree)) [.im (.lst (ms.map memD))] := by
  unfold F__law_made b__law_made
  simp only [RD1, RD2, RD3, RD4, RD5, RD6, RD7, RD8, RD9, RD10, List.all_cons, List.all_nil, List.length_cons, List.length_nil, List.getElem?_cons_zero, List.getElem?_cons_succ, List.getElem?_nil, List.set_cons_zero, List.set_cons_succ, List.cons_append, List.nil_append, List.replicate_succ, List.replicate_zero, Nat.reduceAdd, Nat.reduceSub, Nat.reduceEqDiff, Nat.reduceLeDiff, Nat.reduceLT, Option.bind_some, Option.bind_none, Option.map_some, Option.map_none, if_true, if_false, ite_true, ite_false, reduceCtorEq, decide_true, decide_false, Int.reducePow, Int.reduceToNat, Int.reduceMul, Int.reduceAdd, Int.reduceSub, Int.reduceNeg, Int.reduceLT, Int.reduceLE, List.map_append, List.map_cons, List.map_nil, g2m_ii, tLl, gInD_n, gInD_i, gInD_s, mmInsertu, g4maxu]
  rw [forL_go (fun i => [.im (.lst (ms.map memD)), .ow false (.lst ((ms.take i).map Mb.tree)), .no, .no])]
  · rw [List.length_map, List.take_length]
    simp only [RD1, RD2, RD3, RD4, RD5, RD6, RD7, RD8, RD9, RD10, List.all_cons, List.all_nil, List.length_cons, List.length_nil, List.getElem?_cons_zero, List.getElem?_cons_succ, List.getElem?_nil, List.set_cons_zero, List.set_cons_succ, List.cons_append, List.nil_append, List.replicate_succ, List.replicate_zero, Nat.reduceAdd, Nat.reduceSub, Nat.reduceEqDiff, Nat.reduceLeDiff, Nat.reduceLT, Option.bind_some, Option.bind_none, Option.map_some, Option.map_none, if_true, if_false, ite_true, ite_false, reduceCtorEq, decide_true, decide_false, Int.reducePow, Int.reduceToNat, Int.reduceMul, Int.reduceAdd, Int.reduceSub, Int.reduceNeg, Int.reduceLT, Int.reduceLE, List.map_append, List.map_cons, List.map_nil, g2m_ii, tLl, gInD_n, gInD_i, gInD_s, mmInsertu, g4maxu]
  · rfl
  · intro i hi
    rw [List.length_map] at hi
    rw [List.getElem_map]
    refine ⟨[.im (.lst (ms.map memD)), .ow false (.lst ((ms.take i).map Mb.tree)), .im (.str (kindS ms[i])), .im (.int (num ms[i]))], by simp only [RD1, RD2, RD3, RD4, RD5, RD6, RD7, RD8, RD9, RD10, List.all_cons, List.all_nil, List.length_cons, List.length_nil, List.getElem?_cons_zero, List.getElem?_cons_succ, List.getElem?_nil, List.set_cons_zero, List.set_cons_succ, List.cons_append, List.nil_append, List.replicate_succ, List.replicate_zero, Nat.reduceAdd, Nat.reduceSub, Nat.reduceEqDiff, Nat.reduceLeDiff, Nat.reduceLT, Option.bind_some, Option.bind_none, Option.map_some, Option.map_none, if_true, if_false, ite_true, ite_false, reduceCtorEq, decide_true, decide_false, Int.reducePow, Int.reduceToNat, Int.reduceMul, Int.reduceAdd, Int.reduceSub, Int.reduceNeg, Int.reduceLT, Int.reduceLE, List.map_append, List.map_cons, List.map_nil, g2m_ii, tLl, gInD_n, gInD_i, gInD_s, mmInsertu, g4maxu, memD], .inl ?_⟩
    have hll : (ms.take i).length < 1000000 := by
      rw [List.length_take]
      omega
    have hok := hm ms[i] (List.getElem_mem hi)
    have ht : ms.take (i + 1) = ms.take i ++ [ms[i]] := by
      rw [List.take_succ, List.getElem?_eq_getElem hi]
      rfl
    rw [ht]
    generalize ms[i] = m at hok
    unfold lp1__law_made
    cases m with
    | last q =>
      have h1 : 1 ≤ q := of_decide_eq_true hok
      simp only [RD1, RD2, RD3, RD4, RD5, RD6, RD7, RD8, RD9, RD10, List.all_cons, List.all_nil, List.length_cons, List.length_nil, List.getElem?_cons_zero, List.getElem?_cons_succ, List.getElem?_nil, List.set_cons_zero, List.set_cons_succ, List.cons_append, List.nil_append, List.replicate_succ, List.replicate_zero, Nat.reduceAdd, Nat.reduceSub, Nat.reduceEqDiff, Nat.reduceLeDiff, Nat.reduceLT, Option.bind_some, Option.bind_none, Option.map_some, Option.map_none, if_true, if_false, ite_true, ite_false, reduceCtorEq, decide_true, decide_false, Int.reducePow, Int.reduceToNat, Int.reduceMul, Int.reduceAdd, Int.reduceSub, Int.reduceNeg, Int.reduceLT, Int.reduceLE, List.map_append, List.map_cons, List.map_nil, g2m_ii, tLl, gInD_n, gInD_i, gInD_s, mmInsertu, g4maxu, eq_last, Mb.isLast, num, M_last h1, List.length_map, hll]
    | first q =>
      have h1 : 1 ≤ q := of_decide_eq_true hok
      simp only [RD1, RD2, RD3, RD4, RD5, RD6, RD7, RD8, RD9, RD10, List.all_cons, List.all_nil, List.length_cons, List.length_nil, List.getElem?_cons_zero, List.getElem?_cons_succ, List.getElem?_nil, List.set_cons_zero, List.set_cons_succ, List.cons_append, List.nil_append, List.replicate_succ, List.replicate_zero, Nat.reduceAdd, Nat.reduceSub, Nat.reduceEqDiff, Nat.reduceLeDiff, Nat.reduceLT, Option.bind_some, Option.bind_none, Option.map_some, Option.map_none, if_true, if_false, ite_true, ite_false, reduceCtorEq, decide_true, decide_false, Int.reducePow, Int.reduceToNat, Int.reduceMul, Int.reduceAdd, Int.reduceSub, Int.reduceNeg, Int.reduceLT, Int.reduceLE, List.map_append, List.map_cons, List.map_nil, g2m_ii, tLl, gInD_n, gInD_i, gInD_s, mmInsertu, g4maxu, eq_last, Mb.isLast, eq_first, Mb.isFirst, num, M_first h1, List.length_map, hll]
    | limit q =>
      have h1 : 1 ≤ q := of_decide_eq_true hok
      simp only [RD1, RD2, RD3, RD4, RD5, RD6, RD7, RD8, RD9, RD10, List.all_cons, List.all_nil, List.length_cons, List.length_nil, List.getElem?_cons_zero, List.getElem?_cons_succ, List.getElem?_nil, List.set_cons_zero, List.set_cons_succ, List.cons_append, List.nil_append, List.replicate_succ, List.replicate_zero, Nat.reduceAdd, Nat.reduceSub, Nat.reduceEqDiff, Nat.reduceLeDiff, Nat.reduceLT, Option.bind_some, Option.bind_none, Option.map_some, Option.map_none, if_true, if_false, ite_true, ite_false, reduceCtorEq, decide_true, decide_false, Int.reducePow, Int.reduceToNat, Int.reduceMul, Int.reduceAdd, Int.reduceSub, Int.reduceNeg, Int.reduceLT, Int.reduceLE, List.map_append, List.map_cons, List.map_nil, g2m_ii, tLl, gInD_n, gInD_i, gInD_s, mmInsertu, g4maxu, eq_last, Mb.isLast, eq_first, Mb.isFirst, eq_limit, Mb.isLimit, num, M_limit h1, List.length_map, hll]
    | delay q =>
      have h1 : 0 ≤ q := of_decide_eq_true hok
      simp only [RD1, RD2, RD3, RD4, RD5, RD6, RD7, RD8, RD9, RD10, List.all_cons, List.all_nil, List.length_cons, List.length_nil, List.getElem?_cons_zero, List.getElem?_cons_succ, List.getElem?_nil, List.set_cons_zero, List.set_cons_succ, List.cons_append, List.nil_append, List.replicate_succ, List.replicate_zero, Nat.reduceAdd, Nat.reduceSub, Nat.reduceEqDiff, Nat.reduceLeDiff, Nat.reduceLT, Option.bind_some, Option.bind_none, Option.map_some, Option.map_none, if_true, if_false, ite_true, ite_false, reduceCtorEq, decide_true, decide_false, Int.reducePow, Int.reduceToNat, Int.reduceMul, Int.reduceAdd, Int.reduceSub, Int.reduceNeg, Int.reduceLT, Int.reduceLE, List.map_append, List.map_cons, List.map_nil, g2m_ii, tLl, gInD_n, gInD_i, gInD_s, mmInsertu, g4maxu, eq_last, Mb.isLast, eq_first, Mb.isFirst, eq_limit, Mb.isLimit, num, M_delay h1, List.length_map, hll]
theorem in_ok {most : Int} {m : Mb} (h : m.in most) : m.ok = true := by
  cases m with
  | delay q => exact decide_eq_true h.1
  | _ => exact decide_eq_true h.1
theorem asc_snoc {ts : List Int} {t : Int} (h : ts.Pairwise (· < ·)) (h2 : ∀ x ∈ ts, x < t) : (ts ++ [t]).Pairwise (· < ·) :=
  List.pairwise_append.mpr ⟨h, List.pairwise_singleton _ _, fun x hx y hy => by rw [List.mem_singleton.mp hy]; exact h2 x hx⟩
theorem gNe_self {d : D} (h : okD 16 d = true) : gNe d d = some (.bl false) := by
  unfold gNe
  rw [h]
  show some (D.bl (!eqD d d)) = _
  rw [eqD_refl h]
  rfl
theorem gEq_self {d : D} (h : okD 16 d = true) : gEq d d = some (.bl true) := by
  unfold gEq
  rw [h]
  show some (D.bl (eqD d d)) = _
  rw [eqD_refl h]
theorem cut_to (l : List D) (k : Nat) : cutD l none (some (k : Int)) = l.take k := by
  unfold cutD
  rw [HT.sIx_none, HT.sIx_nat, List.drop_zero, Nat.sub_zero]
  rcases Nat.le_total k l.length with h | h
  · rw [Nat.min_eq_left h]
  · rw [Nat.min_eq_right h, List.take_length, List.take_of_length_le h]
theorem cells (ns : List Int) : cutD (ns.map D.int ++ [.int 0]) none (some 3) = ((ns ++ [0]).take 3).map D.int := by
  rw [show (3 : Int) = ((3 : Nat) : Int) from rfl, cut_to, List.map_take, List.map_append]
  rfl

theorem lc_vals {σ α : Type} {fe : FE} {is : List Nat} (ok : σ → Prop) (mk : σ → Ev) (Q : α → Prop) (f : α → D) : ∀ (ds : List D) (s : σ), ok s → (∀ (s : σ) (d : D), ok s → d ∈ ds → ∃ (s' : σ) (x : α) (e3 : Ev), ok s' ∧ Q x ∧ nrs (mk s) is = true ∧ is.length = 1 ∧ fe (setE (mk s) is [d]) = .ok (f x) e3 ∧ nrs e3 is = true ∧ noE e3 is = mk s') →
    ∃ (s' : σ) (xs : List α), ok s' ∧ xs.length = ds.length ∧ (∀ x ∈ xs, Q x) ∧ lcL false is fYes fe ds (mk s) = .ok (xs.map f) (mk s')
  | [], s, o, _ => ⟨s, [], o, rfl, (fun x h => by cases h), rfl⟩
  | d :: ds, s, o, h => by
    obtain ⟨s1, x, e3, o1, q1, n1, l1, f1, n2, z1⟩ := h s d o List.mem_cons_self
    obtain ⟨s2, xs, o2, l2, q2, e2⟩ := lc_vals ok mk Q f ds s1 o1 fun s d o hd => h s d o (List.mem_cons_of_mem _ hd)
    refine ⟨s2, x :: xs, o2, by rw [List.length_cons, List.length_cons, l2], fun y hy => ?_, ?_⟩
    · rcases List.mem_cons.mp hy with rfl | hy
      · exact q1
      · exact q2 y hy
    · unfold lcL
      rw [tOne_f]
      dsimp only
      rw [if_pos ⟨n1, l1.symm⟩]
      show (match Re.ok true (setE (mk s) is [d]) with
        | .ok b e2 => if b = true then (match fe e2 with
            | .ok y e3 => if nrs e3 is = true then (lcL false is fYes fe ds (noE e3 is)).bd fun r e4 => .ok (y :: r) e4 else .bad
            | _ => .bad)
          else if nrs e2 is = true then lcL false is fYes fe ds (noE e2 is) else .bad
        | _ => .bad) = _
      dsimp only
      rw [if_pos rfl, f1]
      dsimp only
      rw [if_pos n2, z1, e2]
      rfl

abbrev sg (z : Str) : List Nat := z.cps.toList
theorem str_ext {x y : Str} (h : sg x = sg y) : x = y := by
  cases x with
  | mk a =>
    cases y with
    | mk b =>
      have : a = b := by
        have h' : a.toList = b.toList := h
        exact Array.ext' h'
      rw [this]
theorem sg_len (z : Str) : (sg z).length = z.length := by
  show z.cps.toList.length = z.cps.size
  exact Array.length_toList
theorem sg_app (x y : Str) : sg (x ++ y) = sg x ++ sg y := Array.toList_append
theorem drop_sg (z : Str) (r : List Nat) : List.drop z.length (sg z ++ r) = r := by
  rw [← sg_len, List.drop_append_of_le_length (Nat.le_refl _), List.drop_of_length_le (Nat.le_refl _), List.nil_append]
theorem sg_join1 (y x : Str) : sg (y.join [x]) = sg x := rfl
theorem sg_join (y x x1 : Str) (xs : List Str) : sg (y.join (x :: x1 :: xs)) = sg x ++ (sg y ++ sg (y.join (x1 :: xs))) := by
  show sg (x ++ y ++ y.join (x1 :: xs)) = _
  rw [sg_app, sg_app, List.append_assoc]
theorem at_sg {x y : Str} {i : Nat} : StrLaws.At x y x.length i ↔ i + y.length ≤ x.length ∧ List.take y.length (List.drop i (sg x)) = sg y := by
  unfold StrLaws.At
  rw [StrLaws.subAt_eq]
  constructor
  · rintro ⟨h1, h2⟩
    exact ⟨h1, by simpa using h2⟩
  · rintro ⟨h1, h2⟩
    exact ⟨h1, by simpa using h2⟩
theorem at_off {x y : Str} {i o c : Nat} (hy : (sg y)[o]? = some c) (h : StrLaws.At x y x.length i) : (sg x)[i + o]? = some c := by
  obtain ⟨_, h2⟩ := at_sg.mp h
  have hol : o < y.length := by
    rw [← sg_len]
    exact (List.getElem?_eq_some_iff.mp hy).1
  rw [← h2, List.getElem?_take, if_pos hol, List.getElem?_drop] at hy
  exact hy
theorem parts_join {x y : Str} {c0 o : Nat} (hy : (sg y)[o]? = some c0) (hu : ∀ j, j < o → (sg y)[j]? ≠ some c0) : ∀ (xs : List Str) (x0 : Str) (a : Nat) (cuts : List Nat) (f : Nat), a ≤ x.length → List.drop a (sg x) = sg (y.join (x0 :: xs)) → (∀ p ∈ x0 :: xs, c0 ∉ sg p) →
    StrLaws.ChainG x y x.length a cuts f → (∀ k : Nat, f ≤ k → ¬ StrLaws.At x y x.length k) → StrLaws.partsFrom x y.length a cuts = x0 :: xs := by
  have hyp : 0 < y.length := by
    have := (List.getElem?_eq_some_iff.mp hy).1
    rw [← sg_len]
    omega
  -- a place within a part is none
  have inside : ∀ {x0 : Str} {r : List Nat} {a c : Nat}, List.drop a (sg x) = sg x0 ++ r → (∀ j, j < o → r[j]? ≠ some c0) → c0 ∉ sg x0 → a ≤ c → c < a + x0.length → ¬ StrLaws.At x y x.length c := fun {x0 r a c} hd hr h0 h1 h2 hat => by
    have hh := at_off hy hat
    have e : (sg x)[c + o]? = (List.drop a (sg x))[c + o - a]? := by
      rw [List.getElem?_drop]
      congr 1
      omega
    rw [e, hd] at hh
    by_cases hlt : c + o - a < (sg x0).length
    · rw [List.getElem?_append_left hlt] at hh
      exact h0 (List.mem_of_getElem? hh)
    · rw [List.getElem?_append_right (Nat.le_of_not_lt hlt)] at hh
      have hl0 : (sg x0).length = x0.length := sg_len x0
      have hj : c + o - a - (sg x0).length < o := by
        have hop : 0 < o := by
          rcases Nat.eq_zero_or_pos o with z | z
          · exfalso
            rw [z] at hlt
            omega
          · exact z
        omega
      exact hr _ hj hh
  intro xs
  induction xs with
  | nil =>
    intro x0 a cuts f ha hd hf hch hno
    rw [sg_join1] at hd
    cases cuts with
    | nil =>
      show [Builtin.Str.strSub x a x.length] = [x0]
      congr 1
      refine str_ext ?_
      show sg (Builtin.Str.strSub x a x.length) = sg x0
      unfold sg
      rw [StrLaws.strSub_toList]
      show List.take (x.length - a) (List.drop a (sg x)) = sg x0
      rw [hd]
      refine List.take_of_length_le ?_
      have : (List.drop a (sg x)).length = x.length - a := by rw [List.length_drop, sg_len]
      rw [← hd, this]
      exact Nat.le_refl _
    | cons c r =>
      obtain ⟨h1, h2, h3, h4⟩ := hch
      exfalso
      have hl : (List.drop a (sg x)).length = x.length - a := by rw [List.length_drop, sg_len]
      rw [hd, sg_len] at hl
      have hb := (at_sg.mp h2).1
      exact inside (r := []) (by rw [hd, List.append_nil]) (fun j _ h => by simp at h) (hf x0 List.mem_cons_self) h1 (by omega) h2
  | cons x1 xs ih =>
    intro x0 a cuts f ha hd hf hch hno
    rw [sg_join] at hd
    have hl : (List.drop a (sg x)).length = x.length - a := by rw [List.length_drop, sg_len]
    rw [hd, List.length_append, List.length_append, sg_len, sg_len] at hl
    have hr : ∀ j, j < o → (sg y ++ sg (y.join (x1 :: xs)))[j]? ≠ some c0 := fun j hj => by
      rw [List.getElem?_append_left (by have := (List.getElem?_eq_some_iff.mp hy).1; omega)]
      exact hu j hj
    have hat : StrLaws.At x y x.length (a + x0.length) := by
      refine at_sg.mpr ⟨by omega, ?_⟩
      rw [← List.drop_drop, hd, drop_sg, List.take_append_of_le_length (by rw [sg_len]; exact Nat.le_refl _)]
      exact List.take_of_length_le (by rw [sg_len]; exact Nat.le_refl _)
    cases cuts with
    | nil =>
      exfalso
      have hfa : f = a := hch
      exact hno (a + x0.length) (by omega) hat
    | cons c r =>
      obtain ⟨h1, h2, h3, h4⟩ := hch
      have hc : c = a + x0.length := by
        rcases Nat.lt_trichotomy c (a + x0.length) with h | h | h
        · exact absurd h2 (inside hd hr (hf x0 List.mem_cons_self) h1 h)
        · exact h
        · exact absurd hat (h3 _ (by omega) h)
      subst hc
      show Builtin.Str.strSub x a (a + x0.length) :: StrLaws.partsFrom x y.length (a + x0.length + y.length) r = x0 :: x1 :: xs
      congr 1
      · refine str_ext ?_
        show (Builtin.Str.strSub x a (a + x0.length)).cps.toList = sg x0
        rw [StrLaws.strSub_toList]
        show List.take (a + x0.length - a) (List.drop a (sg x)) = sg x0
        rw [hd, Nat.add_sub_cancel_left, List.take_append_of_le_length (by rw [sg_len]; exact Nat.le_refl _)]
        exact List.take_of_length_le (by rw [sg_len]; exact Nat.le_refl _)
      · refine ih x1 (a + x0.length + y.length) r f (by omega) ?_ (fun p hp => hf p (List.mem_cons_of_mem _ hp)) h4 hno
        rw [← List.drop_drop, ← List.drop_drop, hd, drop_sg, drop_sg]
theorem kind_ge (x : Str) : 1 ≤ Builtin.Str.strKind x := by
  unfold Builtin.Str.strKind
  split
  · omega
  · split <;> omega
theorem split_join {y : Str} {c0 o : Nat} (hy : (sg y)[o]? = some c0) (hu : ∀ j, j < o → (sg y)[j]? ≠ some c0) (hk : Builtin.Str.strKind y = 1) (x0 : Str) (xs : List Str) (hf : ∀ p ∈ x0 :: xs, c0 ∉ sg p) : Txt.split (y.join (x0 :: xs)) y = x0 :: xs := by
  have hy1 : 1 ≤ y.length := by
    have := (List.getElem?_eq_some_iff.mp hy).1
    rw [← sg_len]
    omega
  generalize hx : y.join (x0 :: xs) = x
  have hdx : List.drop 0 (sg x) = sg (y.join (x0 :: xs)) := by rw [List.drop_zero, hx]
  unfold Txt.split
  by_cases h1 : (decide (x.length < y.length) || decide (Builtin.Str.strKind x < Builtin.Str.strKind y)) = true
  · rw [if_pos h1]
    rw [Bool.or_eq_true, decide_eq_true_eq, decide_eq_true_eq, hk] at h1
    have hlt : x.length < y.length := by
      rcases h1 with h | h
      · exact h
      · have := kind_ge x
        omega
    cases xs with
    | nil =>
      have : x = x0 := str_ext (by rw [← hx]; rfl)
      rw [this]
    | cons x1 xs =>
      exfalso
      have : (sg x).length = x.length := sg_len x
      rw [← hx, sg_join, List.length_append, List.length_append, sg_len, sg_len, sg_len, hx] at this
      omega
  · rw [if_neg h1]
    obtain ⟨f, hch, hno⟩ := StrLaws.occ_tight x y hy1
    have hp := parts_join hy hu xs x0 0 _ f (Nat.zero_le _) hdx hf hch hno
    split
    · rename_i he
      have he' : Builtin.Str.occurrences x y 0 x.length (x.length + 1) = [] := List.isEmpty_iff.mp he
      rw [he'] at hp
      have hp' : [Builtin.Str.strSub x 0 x.length] = x0 :: xs := hp
      have : Builtin.Str.strSub x 0 x.length = x := by
        refine str_ext ?_
        show (Builtin.Str.strSub x 0 x.length).cps.toList = sg x
        rw [StrLaws.strSub_toList]
        show List.take (x.length - 0) (List.drop 0 (sg x)) = sg x
        rw [List.drop_zero, Nat.sub_zero]
        exact List.take_of_length_le (by rw [sg_len]; exact Nat.le_refl _)
      rw [this] at hp'
      exact hp'
    · rw [StrLaws.partsBetween_eq]
      exact hp
theorem txt_join (y : Str) (xs : List Str) : Txt.join y xs = y.join xs := StrLaws.glued_eq_join y xs
theorem part_of {k n : Str} (hk : 32 ∉ sg k) : Txt.partition (k ++ " " ++ n) " " = (k, (" " : Str), n) := by
  have hs : sg (" " : Str) = [32] := by decide +kernel
  have hsl : (" " : Str).length = 1 := by decide +kernel
  generalize hx : k ++ " " ++ n = x
  have hd : sg x = sg k ++ (32 :: sg n) := by rw [← hx, sg_app, sg_app, hs, List.append_assoc]; rfl
  have hxl : x.length = k.length + (1 + n.length) := by rw [← sg_len x, hd, List.length_append, List.length_cons, sg_len, sg_len]; omega
  have hat : StrLaws.At x " " x.length k.length := by
    refine at_sg.mpr ⟨by omega, ?_⟩
    rw [hd, List.drop_append_of_le_length (by rw [sg_len]; exact Nat.le_refl _), List.drop_of_length_le (by rw [sg_len]; exact Nat.le_refl _), hs, hsl]
    rfl
  have hnone : ∀ c, c < k.length → ¬ StrLaws.At x " " x.length c := fun c hc h => by
    have hh := at_off (o := 0) (c := 32) (by rw [hs]; rfl) h
    have hlt : c < (sg k).length := by rw [sg_len]; exact hc
    rw [hd, Nat.add_zero, List.getElem?_append_left hlt] at hh
    exact hk (List.mem_of_getElem? hh)
  unfold Txt.partition
  rcases StrLaws.occ_head x " " 1 (Nat.le_refl _) with ⟨_, h2⟩ | ⟨i, r, h1, h2, h3⟩
  · exact absurd hat (h2 _)
  · have hi : i = k.length := by
      rcases Nat.lt_trichotomy i k.length with h | h | h
      · exact absurd h2 (hnone i h)
      · exact h
      · exact absurd hat (h3 _ h)
    rw [h1]
    subst hi
    dsimp only
    have e1 : Builtin.Str.strSub x 0 k.length = k := by
      refine str_ext ?_
      show (Builtin.Str.strSub x 0 k.length).cps.toList = sg k
      rw [StrLaws.strSub_toList]
      show List.take (k.length - 0) (List.drop 0 (sg x)) = sg k
      rw [List.drop_zero, Nat.sub_zero, hd, List.take_append_of_le_length (by rw [sg_len]; exact Nat.le_refl _)]
      exact List.take_of_length_le (by rw [sg_len]; exact Nat.le_refl _)
    have e2 : Builtin.Str.strSub x (k.length + (" " : Str).length) x.length = n := by
      refine str_ext ?_
      show (Builtin.Str.strSub x (k.length + (" " : Str).length) x.length).cps.toList = sg n
      rw [StrLaws.strSub_toList, hsl]
      show List.take (x.length - (k.length + 1)) (List.drop (k.length + 1) (sg x)) = sg n
      rw [← List.drop_drop, hd, drop_sg]
      show List.take _ (sg n) = sg n
      exact List.take_of_length_le (by rw [sg_len]; omega)
    rw [e1, e2]
theorem join_len (y : Str) : ∀ xs : List Str, (y.join xs).length ≤ lenZ xs + xs.length * y.length
  | [] => Nat.zero_le _
  | [x] => by
    show x.length ≤ (x.length + 0) + (0 + 1) * y.length
    omega
  | x :: x1 :: xs => by
    have ih := join_len y (x1 :: xs)
    have e : (y.join (x :: x1 :: xs)).length = x.length + (y.length + (y.join (x1 :: xs)).length) := by
      rw [← sg_len, sg_join, List.length_append, List.length_append, sg_len, sg_len, sg_len]
    rw [e]
    show x.length + (y.length + _) ≤ (x.length + lenZ (x1 :: xs)) + ((x1 :: xs).length + 1) * y.length
    rw [Nat.succ_mul]
    omega
theorem lenZ_le {xs : List Str} {b : Nat} (h : ∀ x ∈ xs, x.length ≤ b) : lenZ xs ≤ xs.length * b := by
  induction xs with
  | nil => exact Nat.zero_le _
  | cons x xs ih =>
    have h1 := h x List.mem_cons_self
    have h2 := ih fun z hz => h z (List.mem_cons_of_mem _ hz)
    show x.length + lenZ xs ≤ (xs.length + 1) * b
    rw [Nat.succ_mul]
    omega
theorem sg_join_mem {y : Str} {c : Nat} : ∀ {xs : List Str}, c ∈ sg (y.join xs) → c ∈ sg y ∨ ∃ x ∈ xs, c ∈ sg x
  | [], h => by cases h
  | [x], h => .inr ⟨x, List.mem_cons_self, h⟩
  | x :: x1 :: xs, h => by
    rw [sg_join] at h
    rcases List.mem_append.mp h with q | q
    · exact .inr ⟨x, List.mem_cons_self, q⟩
    · rcases List.mem_append.mp q with q | q
      · exact .inl q
      · rcases sg_join_mem q with z | ⟨w, hw, z⟩
        · exact .inl z
        · exact .inr ⟨w, List.mem_cons_of_mem _ hw, z⟩
theorem sg_join_hd {y x : Str} {c : Nat} {xs : List Str} (h : c ∈ sg x) : c ∈ sg (y.join (x :: xs)) := by
  cases xs with
  | nil => exact h
  | cons x1 xs =>
    rw [sg_join]
    exact List.mem_append_left _ h

def zT (i : Int) : Str := Str.ofString (toString i)
def dgs (m : Nat) : List Nat := (Nat.toDigits 10 m).map Char.toNat
theorem dch : ∀ d : Nat, d < 10 → (Nat.digitChar d).toNat = 48 + d := by decide
theorem dgs_small {m : Nat} (h : m < 10) : dgs m = [48 + m] := by
  unfold dgs
  rw [Nat.toDigits_of_lt_base h]
  show [(Nat.digitChar m).toNat] = _
  rw [dch m h]
theorem dgs_big {m : Nat} (h : 10 ≤ m) : dgs m = dgs (m / 10) ++ [48 + m % 10] := by
  unfold dgs
  rw [Nat.toDigits_of_base_le (by decide) h, List.map_append]
  show _ ++ [(Nat.digitChar (m % 10)).toNat] = _
  rw [dch _ (Nat.mod_lt _ (by decide))]
theorem dgs_all : ∀ m : Nat, NumText.AllDigits (dgs m) ∧ dgs m ≠ [] ∧ NumText.digitsVal (dgs m) = m ∧ (m ≠ 0 → ∃ c r, dgs m = c :: r ∧ c ≠ 48) := by
  intro m
  induction m using Nat.strongRecOn with
  | ind m ih =>
    by_cases h : m < 10
    · rw [dgs_small h]
      refine ⟨fun c hc => ?_, by simp, ?_, fun h0 => ⟨_, _, rfl, by omega⟩⟩
      · rw [List.mem_singleton.mp hc]
        omega
      · show 0 * 10 + (48 + m - 48) = m
        omega
    · have h' : 10 ≤ m := by omega
      obtain ⟨i1, i2, i3, i4⟩ := ih (m / 10) (by omega)
      rw [dgs_big h']
      refine ⟨fun c hc => ?_, by simp, ?_, fun _ => ?_⟩
      · rcases List.mem_append.mp hc with q | q
        · exact i1 c q
        · rw [List.mem_singleton.mp q]
          have := Nat.mod_lt m (show 0 < 10 by decide)
          omega
      · rw [NumText.digitsVal_snoc, i3]
        omega
      · obtain ⟨c, r, e, hc⟩ := i4 (by omega)
        exact ⟨c, r ++ [48 + m % 10], by rw [e]; rfl, hc⟩
theorem dgs_len {m k : Nat} (hk : 0 < k) (h : m < 10 ^ k) : (dgs m).length ≤ k := by
  unfold dgs
  rw [List.length_map]
  exact (Nat.length_toDigits_le_iff (by decide) hk).mpr h
theorem sg_nat (m : Nat) : sg (zT (m : Int)) = dgs m := by
  unfold zT sg
  rw [PyProof.Rows.signs_ofString]
  show List.map Char.toNat (m.repr).toList = _
  rw [Nat.toList_repr]
  rfl
theorem sg_neg (m : Nat) : sg (zT (-(m + 1 : Nat) : Int)) = 45 :: dgs (m + 1) := by
  unfold zT sg
  rw [PyProof.Rows.signs_ofString]
  show List.map Char.toNat ("-" ++ (m + 1).repr).toList = _
  rw [String.toList_append, List.map_append, Nat.toList_repr]
  rfl
def figs (i : Int) : List Nat := dgs i.natAbs
theorem sg_zT (i : Int) : sg (zT i) = if i < 0 then 45 :: figs i else figs i := by
  unfold figs
  by_cases h : i < 0
  · rw [if_pos h]
    obtain ⟨m, rfl⟩ : ∃ m : Nat, i = -(m + 1 : Nat) := ⟨(-i - 1).toNat, by omega⟩
    rw [sg_neg]
    congr 2
  · rw [if_neg h]
    obtain ⟨m, rfl⟩ := Int.eq_ofNat_of_zero_le (Int.not_lt.mp h)
    exact sg_nat m
theorem zT_sign {i : Int} {c : Nat} (h : c ∈ sg (zT i)) : c = 45 ∨ 48 ≤ c ∧ c ≤ 57 := by
  rw [sg_zT] at h
  have ha := (dgs_all i.natAbs).1
  split at h
  · rcases List.mem_cons.mp h with q | q
    · exact .inl q
    · exact .inr (ha c q)
  · exact .inr (ha c h)
theorem zT_len {i : Int} {k : Nat} (hk : 0 < k) (h : i.natAbs < 10 ^ k) : (zT i).length ≤ k + 1 := by
  have := dgs_len hk h
  rw [← sg_len, sg_zT]
  split
  · rw [List.length_cons]
    exact Nat.succ_le_succ this
  · exact Nat.le_succ_of_le this
theorem int_zT {i : Int} {k : Nat} (hk : 0 < k) (hk2 : k < 4000) (h : i.natAbs < 10 ^ k) : PySem.intText? (zT i) = some i := by
  have a1 := (dgs_all i.natAbs).1
  have a2 := (dgs_all i.natAbs).2.1
  have a3 := (dgs_all i.natAbs).2.2.1
  have hl := zT_len hk h
  by_cases h0 : i < 0
  · have e := sg_zT i
    rw [if_pos h0] at e
    rw [PySem.intText_neg e a1 a2 (by omega)]
    congr 1
    unfold figs
    rw [a3]
    clear hl h
    omega
  · have e := sg_zT i
    rw [if_neg h0] at e
    have e' : sg (zT i) = dgs i.natAbs := e
    rw [PySem.intText_digits (by show NumText.AllDigits (sg (zT i)); rw [e']; exact a1) (by show sg (zT i) ≠ []; rw [e']; exact a2) (by omega)]
    congr 1
    show ((NumText.digitsVal (sg (zT i)) : Nat) : Int) = i
    rw [e', a3]
    clear hl h
    omega
theorem strOk_of {z : Str} (h : ∀ c ∈ sg z, c < 1114112) : PySem.PyData.strOk z = true := by
  unfold PySem.PyData.strOk
  rw [← Array.all_toList]
  exact List.all_eq_true.mpr fun c hc => decide_eq_true (h c hc)
theorem log_lt {i : Int} {k : Nat} (hk : k ≤ 500) (h : i.natAbs < 10 ^ k) : i.natAbs.log2 < 1920 := by
  by_cases h0 : i.natAbs = 0
  · rw [h0]
    decide
  · refine (Nat.log2_lt h0).mpr (Nat.lt_of_lt_of_le h ?_)
    calc 10 ^ k ≤ 10 ^ 500 := Nat.pow_le_pow_right (by decide) hk
      _ ≤ 2 ^ 1920 := by decide +kernel
theorem strI {i : Int} {k : Nat} (hk : k ≤ 500) (h : i.natAbs < 10 ^ k) : gStrI (.int i) = some (.str (zT i)) := by
  show (if i.natAbs.log2 < 1920 then some (D.str (Str.ofString (toString i))) else none) = _
  rw [if_pos (log_lt hk h)]
  rfl

theorem eqS {a b : Str} (ha : PySem.PyData.strOk a = true) (hb : PySem.PyData.strOk b = true) : gEq (.str a) (.str b) = some (.bl (decide (a = b))) := gEq_str (by rw [ha, hb]; rfl)
theorem neS {a b : Str} (ha : PySem.PyData.strOk a = true) (hb : PySem.PyData.strOk b = true) : gNe (.str a) (.str b) = some (.bl (!decide (a = b))) := gNe_str (by rw [ha, hb]; rfl)
theorem one_ok {c : Nat} (h : c < 1114112) : PySem.PyData.strOk ⟨#[c]⟩ = true := strOk_of fun x hx => by
  have : x ∈ [c] := hx
  rw [List.mem_singleton.mp this]
  exact h
theorem blsOf_t (xs : List Nat) : blsOf (xs.map fun _ => D.bl true) = some (xs.map fun _ => true) := by
  induction xs with
  | nil => rfl
  | cons x xs ih =>
    show (match blsOf (xs.map fun _ => D.bl true) with | some bs => some (true :: bs) | none => none) = _
    rw [ih]
    rfl
theorem all_t (xs : List Nat) : gAll (.lst (xs.map fun _ => D.bl true)) = some (.bl true) := by
  unfold gAll
  dsimp only
  rw [blsOf_t]
  dsimp only
  congr 2
  rw [List.all_map]
  exact List.all_eq_true.mpr fun _ _ => rfl
theorem fig_in {c : Nat} (h : 48 ≤ c ∧ c ≤ 57) : gIn (.str ⟨#[c]⟩) (.str "0123456789") = some (.bl true) := by
  have : ∀ d : Nat, d < 10 → gIn (.str ⟨#[48 + d]⟩) (.str "0123456789") = some (.bl true) := fun d hd => by
    rcases (by omega : d = 0 ∨ d = 1 ∨ d = 2 ∨ d = 3 ∨ d = 4 ∨ d = 5 ∨ d = 6 ∨ d = 7 ∨ d = 8 ∨ d = 9) with rfl | rfl | rfl | rfl | rfl | rfl | rfl | rfl | rfl | rfl <;> kernel_rfl
  have h2 := this (c - 48) (by omega)
  rwa [show 48 + (c - 48) = c from by omega] at h2
theorem ok0 : PySem.PyData.strOk "0" = true := by decide +kernel
theorem sg0 : sg ("0" : Str) = [48] := by decide +kernel
theorem F_figs {z : Str} (ha : NumText.AllDigits (sg z)) (hne : sg z ≠ []) (hl : z.length ≤ 60) (h0 : sg z = [48] ∨ (sg z).head? ≠ some 48) : F_is_figures [.im (.str z)] = .rt (.bl true) [.im (.str z)] := by
  have hlen : gLenS (.str z) = some (.int z.length) := by
    show (if z.length ≤ 1000000 then some (D.int z.length) else none) = _
    rw [if_pos (by omega)]
  have h1 : (1 : Int) ≤ z.length := by
    have : 0 < (sg z).length := List.length_pos_iff.mpr hne
    rw [sg_len] at this
    omega
  have h60 : (z.length : Int) ≤ 60 := by omega
  have hzo : PySem.PyData.strOk z = true := strOk_of fun c hc => by
    have := ha c hc
    omega
  have hch : chOf (.str z) = some ((sg z).map fun c => D.str ⟨#[c]⟩) := rfl
  obtain ⟨c, r, hcr⟩ : ∃ c r, sg z = c :: r := by
    cases h : sg z with
    | nil => exact absurd h hne
    | cons c r => exact ⟨c, r, rfl⟩
  have hc := ha c (by rw [hcr]; exact List.mem_cons_self)
  have hix : gIxS (.str z) (.int 0) = some (.str ⟨#[c]⟩) := by
    show (match atI (sg z) 0 with | some c => if z.length ≤ 1000000 then some (D.str ⟨#[c]⟩) else none | none => none) = _
    rw [hcr, show atI (c :: r) (0 : Int) = some c from TL.atI_nat (n := 0) rfl]
    dsimp only
    rw [if_pos (by omega)]
  have hne0 := neS (one_ok (c := c) (by omega)) ok0
  have heq0 := eqS hzo ok0
  unfold F_is_figures b_is_figures
  simp only [RD1, RD2, RD3, RD4, RD5, RD6, RD7, RD8, RD9, RD10, List.all_cons, List.all_nil, List.length_cons, List.length_nil, List.getElem?_cons_zero, List.getElem?_cons_succ, List.getElem?_nil, List.set_cons_zero, List.set_cons_succ, List.cons_append, List.nil_append, List.replicate_succ, List.replicate_zero, Nat.reduceAdd, Nat.reduceSub, Nat.reduceEqDiff, Nat.reduceLeDiff, Nat.reduceLT, Option.bind_some, Option.bind_none, Option.map_some, Option.map_none, if_true, if_false, ite_true, ite_false, reduceCtorEq, decide_true, decide_false, Int.reducePow, Int.reduceToNat, Int.reduceMul, Int.reduceAdd, Int.reduceSub, Int.reduceNeg, Int.reduceLT, Int.reduceLE, List.map_append, List.map_cons, List.map_nil, g2m_ii, tLl, gInD_n, gInD_i, gInD_s, mmInsertu, g4maxu, hlen, h1, h60, hch]
  rw [lcL_all (fun c : Nat => [D.str ⟨#[c]⟩]) (fun _ => D.bl true) (by simp only [RD1, RD2, RD3, RD4, RD5, RD6, RD7, RD8, RD9, RD10, List.all_cons, List.all_nil, List.length_cons, List.length_nil, List.getElem?_cons_zero, List.getElem?_cons_succ, List.getElem?_nil, List.set_cons_zero, List.set_cons_succ, List.cons_append, List.nil_append, List.replicate_succ, List.replicate_zero, Nat.reduceAdd, Nat.reduceSub, Nat.reduceEqDiff, Nat.reduceLeDiff, Nat.reduceLT, Option.bind_some, Option.bind_none, Option.map_some, Option.map_none, if_true, if_false, ite_true, ite_false, reduceCtorEq, decide_true, decide_false, Int.reducePow, Int.reduceToNat, Int.reduceMul, Int.reduceAdd, Int.reduceSub, Int.reduceNeg, Int.reduceLT, Int.reduceLE, List.map_append, List.map_cons, List.map_nil, g2m_ii, tLl, gInD_n, gInD_i, gInD_s, mmInsertu, g4maxu]) (by simp only [RD1, RD2, RD3, RD4, RD5, RD6, RD7, RD8, RD9, RD10, List.all_cons, List.all_nil, List.length_cons, List.length_nil, List.getElem?_cons_zero, List.getElem?_cons_succ, List.getElem?_nil, List.set_cons_zero, List.set_cons_succ, List.cons_append, List.nil_append, List.replicate_succ, List.replicate_zero, Nat.reduceAdd, Nat.reduceSub, Nat.reduceEqDiff, Nat.reduceLeDiff, Nat.reduceLT, Option.bind_some, Option.bind_none, Option.map_some, Option.map_none, if_true, if_false, ite_true, ite_false, reduceCtorEq, decide_true, decide_false, Int.reducePow, Int.reduceToNat, Int.reduceMul, Int.reduceAdd, Int.reduceSub, Int.reduceNeg, Int.reduceLT, Int.reduceLE, List.map_append, List.map_cons, List.map_nil, g2m_ii, tLl, gInD_n, gInD_i, gInD_s, mmInsertu, g4maxu]) (fun m _ => by simp only [RD1, RD2, RD3, RD4, RD5, RD6, RD7, RD8, RD9, RD10, List.all_cons, List.all_nil, List.length_cons, List.length_nil, List.getElem?_cons_zero, List.getElem?_cons_succ, List.getElem?_nil, List.set_cons_zero, List.set_cons_succ, List.cons_append, List.nil_append, List.replicate_succ, List.replicate_zero, Nat.reduceAdd, Nat.reduceSub, Nat.reduceEqDiff, Nat.reduceLeDiff, Nat.reduceLT, Option.bind_some, Option.bind_none, Option.map_some, Option.map_none, if_true, if_false, ite_true, ite_false, reduceCtorEq, decide_true, decide_false, Int.reducePow, Int.reduceToNat, Int.reduceMul, Int.reduceAdd, Int.reduceSub, Int.reduceNeg, Int.reduceLT, Int.reduceLE, List.map_append, List.map_cons, List.map_nil, g2m_ii, tLl, gInD_n, gInD_i, gInD_s, mmInsertu, g4maxu]) (fun m hm => by
    have := fig_in (ha m hm)
    simp only [RD1, RD2, RD3, RD4, RD5, RD6, RD7, RD8, RD9, RD10, List.all_cons, List.all_nil, List.length_cons, List.length_nil, List.getElem?_cons_zero, List.getElem?_cons_succ, List.getElem?_nil, List.set_cons_zero, List.set_cons_succ, List.cons_append, List.nil_append, List.replicate_succ, List.replicate_zero, Nat.reduceAdd, Nat.reduceSub, Nat.reduceEqDiff, Nat.reduceLeDiff, Nat.reduceLT, Option.bind_some, Option.bind_none, Option.map_some, Option.map_none, if_true, if_false, ite_true, ite_false, reduceCtorEq, decide_true, decide_false, Int.reducePow, Int.reduceToNat, Int.reduceMul, Int.reduceAdd, Int.reduceSub, Int.reduceNeg, Int.reduceLT, Int.reduceLE, List.map_append, List.map_cons, List.map_nil, g2m_ii, tLl, gInD_n, gInD_i, gInD_s, mmInsertu, g4maxu, this])]
  have hl2 : (sg z).length ≤ 1000000 := by rw [sg_len]; omega
  simp only [RD1, RD2, RD3, RD4, RD5, RD6, RD7, RD8, RD9, RD10, List.all_cons, List.all_nil, List.length_cons, List.length_nil, List.getElem?_cons_zero, List.getElem?_cons_succ, List.getElem?_nil, List.set_cons_zero, List.set_cons_succ, List.cons_append, List.nil_append, List.replicate_succ, List.replicate_zero, Nat.reduceAdd, Nat.reduceSub, Nat.reduceEqDiff, Nat.reduceLeDiff, Nat.reduceLT, Option.bind_some, Option.bind_none, Option.map_some, Option.map_none, if_true, if_false, ite_true, ite_false, reduceCtorEq, decide_true, decide_false, Int.reducePow, Int.reduceToNat, Int.reduceMul, Int.reduceAdd, Int.reduceSub, Int.reduceNeg, Int.reduceLT, Int.reduceLE, List.map_append, List.map_cons, List.map_nil, g2m_ii, tLl, gInD_n, gInD_i, gInD_s, mmInsertu, g4maxu, List.length_map, hl2, all_t, heq0, hix, hne0]
  by_cases hz : z = "0"
  · rw [decide_eq_true hz]
    simp only [RD1, RD2, RD3, RD4, RD5, RD6, RD7, RD8, RD9, RD10, List.all_cons, List.all_nil, List.length_cons, List.length_nil, List.getElem?_cons_zero, List.getElem?_cons_succ, List.getElem?_nil, List.set_cons_zero, List.set_cons_succ, List.cons_append, List.nil_append, List.replicate_succ, List.replicate_zero, Nat.reduceAdd, Nat.reduceSub, Nat.reduceEqDiff, Nat.reduceLeDiff, Nat.reduceLT, Option.bind_some, Option.bind_none, Option.map_some, Option.map_none, if_true, if_false, ite_true, ite_false, reduceCtorEq, decide_true, decide_false, Int.reducePow, Int.reduceToNat, Int.reduceMul, Int.reduceAdd, Int.reduceSub, Int.reduceNeg, Int.reduceLT, Int.reduceLE, List.map_append, List.map_cons, List.map_nil, g2m_ii, tLl, gInD_n, gInD_i, gInD_s, mmInsertu, g4maxu]
  · rw [decide_eq_false hz]
    have hcc : (⟨#[c]⟩ : Str) ≠ "0" := fun h => by
      have h1 : sg (⟨#[c]⟩ : Str) = [48] := by rw [h, sg0]
      have h2 : c = 48 := by
        have : [c] = [48] := h1
        exact (List.cons.inj this).1
      rcases h0 with h | h
      · exact hz (str_ext (by rw [h, sg0]))
      · exact h (by rw [hcr, h2]; rfl)
    rw [decide_eq_false hcc]
    simp only [RD1, RD2, RD3, RD4, RD5, RD6, RD7, RD8, RD9, RD10, List.all_cons, List.all_nil, List.length_cons, List.length_nil, List.getElem?_cons_zero, List.getElem?_cons_succ, List.getElem?_nil, List.set_cons_zero, List.set_cons_succ, List.cons_append, List.nil_append, List.replicate_succ, List.replicate_zero, Nat.reduceAdd, Nat.reduceSub, Nat.reduceEqDiff, Nat.reduceLeDiff, Nat.reduceLT, Option.bind_some, Option.bind_none, Option.map_some, Option.map_none, if_true, if_false, ite_true, ite_false, reduceCtorEq, decide_true, decide_false, Int.reducePow, Int.reduceToNat, Int.reduceMul, Int.reduceAdd, Int.reduceSub, Int.reduceNeg, Int.reduceLT, Int.reduceLE, List.map_append, List.map_cons, List.map_nil, g2m_ii, tLl, gInD_n, gInD_i, gInD_s, mmInsertu, g4maxu]
theorem cut1 (z : Str) : sg (cutS z none (some 1)) = (sg z).take 1 := by
  show List.take (HT.sIx z.length z.length (some 1) - HT.sIx z.length 0 none) (List.drop (HT.sIx z.length 0 none) z.cps.toList) = _
  rw [HT.sIx_none, List.drop_zero, Nat.sub_zero, show (some (1 : Int)) = some ((1 : Nat) : Int) from rfl, HT.sIx_nat]
  have hl := sg_len z
  rcases Nat.eq_zero_or_pos z.length with h | h
  · have : sg z = [] := List.length_eq_zero_iff.mp (by rw [hl, h])
    show List.take _ (sg z) = List.take 1 (sg z)
    rw [this]
    simp
  · rw [Nat.min_eq_left h]
theorem cut2 (z : Str) : sg (cutS z (some 1) none) = (sg z).drop 1 := by
  show List.take (HT.sIx z.length z.length none - HT.sIx z.length 0 (some 1)) (List.drop (HT.sIx z.length 0 (some 1)) z.cps.toList) = _
  rw [HT.sIx_none, show (some (1 : Int)) = some ((1 : Nat) : Int) from rfl, HT.sIx_nat]
  have hl := sg_len z
  rcases Nat.eq_zero_or_pos z.length with h | h
  · have : sg z = [] := List.length_eq_zero_iff.mp (by rw [hl, h])
    show List.take _ (List.drop _ (sg z)) = List.drop 1 (sg z)
    rw [this]
    simp
  · rw [Nat.min_eq_left h]
    exact List.take_of_length_le (by show (List.drop 1 (sg z)).length ≤ _; rw [List.length_drop, hl]; exact Nat.le_refl _)
def NumOk (i : Int) : Prop := i.natAbs < 10 ^ 60
theorem minus_ok : PySem.PyData.strOk "-" = true := by decide +kernel
theorem sg_minus : sg ("-" : Str) = [45] := by decide +kernel
theorem zT_len60 {i : Int} (h : NumOk i) : (zT i).length ≤ 61 := zT_len (by decide) h
theorem cut_ok {z : Str} (h : ∀ c ∈ sg z, c < 1114112) {w : Str} (hw : ∀ c ∈ sg w, c ∈ sg z) : PySem.PyData.strOk w = true := strOk_of fun c hc => h c (hw c hc)
theorem sign_lt {i : Int} : ∀ c ∈ sg (zT i), c < 1114112 := fun c hc => by
  rcases zT_sign hc with h | h <;> omega
theorem F_rnum {i : Int} (h : NumOk i) (p : D) : F_read_number [.im (.str (zT i)), .im p] = .rt (.int i) [.im (.str (zT i)), .im p] := by
  have hl := zT_len60 h
  have hl' : (zT i).length ≤ 1000000 := by omega
  have e := sg_zT i
  have a1 := (dgs_all i.natAbs).1
  have a2 := (dgs_all i.natAbs).2.1
  have a4 := (dgs_all i.natAbs).2.2.2
  have hd60 : (figs i).length ≤ 60 := dgs_len (by decide) h
  have hint : gIntT (.str (zT i)) = some (.int i) := by
    show (match PySem.intText? (zT i) with | some n => if (zT i).length ≤ 640 then some (D.int n) else none | none => none) = _
    rw [int_zT (k := 60) (by decide) (by decide) h]
    dsimp only
    rw [if_pos (by omega)]
  have hb := eqS (cut_ok (z := zT i) (w := cutS (zT i) none (some 1)) sign_lt (fun c hc => by rw [cut1] at hc; exact List.mem_of_mem_take hc)) minus_ok
  have hok2 : PySem.PyData.strOk (cutS (zT i) (some 1) none) = true := cut_ok (z := zT i) sign_lt (fun c hc => by rw [cut2] at hc; exact List.mem_of_mem_drop hc)
  unfold F_read_number b_read_number
  by_cases h0 : i < 0
  · rw [if_pos h0] at e
    have h1 : cutS (zT i) none (some 1) = "-" := str_ext (by rw [cut1, e, sg_minus]; rfl)
    have h2 : sg (cutS (zT i) (some 1) none) = figs i := by rw [cut2, e]; rfl
    rw [decide_eq_true h1] at hb
    have hnz : i.natAbs ≠ 0 := by omega
    obtain ⟨c, r, e2, hc⟩ := a4 hnz
    have hf := F_figs (z := cutS (zT i) (some 1) none) (by rw [h2]; exact a1) (by rw [h2]; exact a2) (by rw [← sg_len, h2]; exact hd60) (.inr (by rw [h2]; show (dgs i.natAbs).head? ≠ _; rw [e2]; intro z; exact hc (Option.some.inj z)))
    have hn0 := eqS hok2 ok0
    have hne : cutS (zT i) (some 1) none ≠ "0" := fun z => by
      have z2 : figs i = [48] := by rw [← h2, z, sg0]
      have z3 : dgs i.natAbs = [48] := z2
      rw [e2] at z3
      exact hc (List.cons.inj z3).1
    rw [decide_eq_false hne] at hn0
    simp only [RD1, RD2, RD3, RD4, RD5, RD6, RD7, RD8, RD9, RD10, List.all_cons, List.all_nil, List.length_cons, List.length_nil, List.getElem?_cons_zero, List.getElem?_cons_succ, List.getElem?_nil, List.set_cons_zero, List.set_cons_succ, List.cons_append, List.nil_append, List.replicate_succ, List.replicate_zero, Nat.reduceAdd, Nat.reduceSub, Nat.reduceEqDiff, Nat.reduceLeDiff, Nat.reduceLT, Option.bind_some, Option.bind_none, Option.map_some, Option.map_none, if_true, if_false, ite_true, ite_false, reduceCtorEq, decide_true, decide_false, Int.reducePow, Int.reduceToNat, Int.reduceMul, Int.reduceAdd, Int.reduceSub, Int.reduceNeg, Int.reduceLT, Int.reduceLE, List.map_append, List.map_cons, List.map_nil, g2m_ii, tLl, gInD_n, gInD_i, gInD_s, mmInsertu, g4maxu, fSlS, hl', hb, hf, hn0, hint]
  · rw [if_neg h0] at e
    have e' : sg (zT i) = dgs i.natAbs := e
    have h1 : cutS (zT i) none (some 1) ≠ "-" := fun z => by
      have z2 : (dgs i.natAbs).take 1 = [45] := by rw [← e', ← cut1, z, sg_minus]
      have z3 : 45 ∈ dgs i.natAbs := List.mem_of_mem_take (by rw [z2]; exact List.mem_cons_self)
      have := a1 45 z3
      omega
    rw [decide_eq_false h1] at hb
    have hf := F_figs (z := zT i) (by rw [e']; exact a1) (by rw [e']; exact a2) (by rw [← sg_len, e']; exact hd60) (by
      rw [e']
      by_cases hz : i.natAbs = 0
      · left
        rw [hz]
        rfl
      · right
        obtain ⟨c, r, e2, hc⟩ := a4 hz
        rw [e2]
        intro z
        exact hc (Option.some.inj z))
    simp only [RD1, RD2, RD3, RD4, RD5, RD6, RD7, RD8, RD9, RD10, List.all_cons, List.all_nil, List.length_cons, List.length_nil, List.getElem?_cons_zero, List.getElem?_cons_succ, List.getElem?_nil, List.set_cons_zero, List.set_cons_succ, List.cons_append, List.nil_append, List.replicate_succ, List.replicate_zero, Nat.reduceAdd, Nat.reduceSub, Nat.reduceEqDiff, Nat.reduceLeDiff, Nat.reduceLT, Option.bind_some, Option.bind_none, Option.map_some, Option.map_none, if_true, if_false, ite_true, ite_false, reduceCtorEq, decide_true, decide_false, Int.reducePow, Int.reduceToNat, Int.reduceMul, Int.reduceAdd, Int.reduceSub, Int.reduceNeg, Int.reduceLT, Int.reduceLE, List.map_append, List.map_cons, List.map_nil, g2m_ii, tLl, gInD_n, gInD_i, gInD_s, mmInsertu, g4maxu, fSlS, hl', hb, hf, hint]
def mT (m : Mb) : Str := kindS m ++ (" " : Str) ++ zT (num m)
theorem kS_sign (m : Mb) : ∀ c ∈ sg (kindS m), 97 ≤ c ∧ c ≤ 122 := by
  cases m with
  | last q => exact (by decide +kernel : ∀ c ∈ sg ("last" : Str), 97 ≤ c ∧ c ≤ 122)
  | first q => exact (by decide +kernel : ∀ c ∈ sg ("first" : Str), 97 ≤ c ∧ c ≤ 122)
  | limit q => exact (by decide +kernel : ∀ c ∈ sg ("limit" : Str), 97 ≤ c ∧ c ≤ 122)
  | delay q => exact (by decide +kernel : ∀ c ∈ sg ("delay" : Str), 97 ≤ c ∧ c ≤ 122)
theorem kS_len (m : Mb) : (kindS m).length ≤ 5 ∧ 4 ≤ (kindS m).length := by
  cases m with
  | last q => exact (by decide +kernel : ("last" : Str).length ≤ 5 ∧ 4 ≤ ("last" : Str).length)
  | first q => exact (by decide +kernel : ("first" : Str).length ≤ 5 ∧ 4 ≤ ("first" : Str).length)
  | limit q => exact (by decide +kernel : ("limit" : Str).length ≤ 5 ∧ 4 ≤ ("limit" : Str).length)
  | delay q => exact (by decide +kernel : ("delay" : Str).length ≤ 5 ∧ 4 ≤ ("delay" : Str).length)
theorem sg_blank : sg (" " : Str) = [32] := by decide +kernel
theorem sg_mT (m : Mb) : sg (mT m) = sg (kindS m) ++ (32 :: sg (zT (num m))) := by
  unfold mT
  rw [sg_app, sg_app, sg_blank, List.append_assoc]
  rfl
theorem mT_sign {m : Mb} {c : Nat} (h : c ∈ sg (mT m)) : (97 ≤ c ∧ c ≤ 122) ∨ c = 32 ∨ c = 45 ∨ (48 ≤ c ∧ c ≤ 57) := by
  rw [sg_mT] at h
  rcases List.mem_append.mp h with q | q
  · exact .inl (kS_sign m c q)
  · rcases List.mem_cons.mp q with z | z
    · exact .inr (.inl z)
    · rcases zT_sign z with w | w
      · exact .inr (.inr (.inl w))
      · exact .inr (.inr (.inr w))
theorem mT_len {m : Mb} {k : Nat} (hk : 0 < k) (h : (num m).natAbs < 10 ^ k) : (mT m).length ≤ k + 7 := by
  have h1 := kS_len m
  have h2 := zT_len hk h
  rw [← sg_len, sg_mT, List.length_append, List.length_cons, sg_len, sg_len]
  omega
theorem F_mtext {m : Mb} {k : Nat} (hk0 : 0 < k) (hk : k ≤ 500) (h : (num m).natAbs < 10 ^ k) : F_member_text [.im m.tree] = .rt (.str (mT m)) [.im m.tree] := by
  have h2 : ∀ e, methF "class_name" [("Last", F_Last_class_name), ("First", F_First_class_name), ("Limit", F_Limit_class_name), ("Delay", F_Delay_class_name)] fNil (.im m.tree) e = .ok (.str (kindS m)) e := fun e => by cases m <;> rfl
  have h3 : ∀ e, methF "facts" [("Last", F_Member_facts), ("First", F_Member_facts), ("Limit", F_Member_facts), ("Delay", F_Delay_facts)] fNil (.im m.tree) e = .ok (.tup [.int (num m)]) e := fun e => by cases m <;> rfl
  have h4 := strI hk h
  have h5 := kS_len m
  have h6 := zT_len hk0 h
  have l1 : (kindS m).length + (" " : Str).length ≤ 1000000 := by
    rw [show (" " : Str).length = 1 from by decide +kernel]
    omega
  have l2 : (kindS m ++ (" " : Str)).length + (zT (num m)).length ≤ 1000000 := by
    rw [← sg_len (kindS m ++ (" " : Str)), sg_app, List.length_append, sg_len, sg_blank]
    show _ + 1 + _ ≤ _
    omega
  have hx : gIx (.tup [.int (num m)]) (.int 0) = some (.int (num m)) := rfl
  unfold F_member_text b_member_text
  simp only [RD1, RD2, RD3, RD4, RD5, RD6, RD7, RD8, RD9, RD10, List.all_cons, List.all_nil, List.length_cons, List.length_nil, List.getElem?_cons_zero, List.getElem?_cons_succ, List.getElem?_nil, List.set_cons_zero, List.set_cons_succ, List.cons_append, List.nil_append, List.replicate_succ, List.replicate_zero, Nat.reduceAdd, Nat.reduceSub, Nat.reduceEqDiff, Nat.reduceLeDiff, Nat.reduceLT, Option.bind_some, Option.bind_none, Option.map_some, Option.map_none, if_true, if_false, ite_true, ite_false, reduceCtorEq, decide_true, decide_false, Int.reducePow, Int.reduceToNat, Int.reduceMul, Int.reduceAdd, Int.reduceSub, Int.reduceNeg, Int.reduceLT, Int.reduceLE, List.map_append, List.map_cons, List.map_nil, g2m_ii, tLl, gInD_n, gInD_i, gInD_s, mmInsertu, g4maxu, h2, h3, hx, h4, l1, l2]
  rfl
theorem kS_in (m : Mb) : gNotIn (.str (kindS m)) (.tup [.str "last", .str "first", .str "limit", .str "delay"]) = some (.bl false) := by
  cases m with
  | last q => exact (by kernel_rfl : gNotIn (.str "last") (.tup [.str "last", .str "first", .str "limit", .str "delay"]) = some (.bl false))
  | first q => exact (by kernel_rfl : gNotIn (.str "first") (.tup [.str "last", .str "first", .str "limit", .str "delay"]) = some (.bl false))
  | limit q => exact (by kernel_rfl : gNotIn (.str "limit") (.tup [.str "last", .str "first", .str "limit", .str "delay"]) = some (.bl false))
  | delay q => exact (by kernel_rfl : gNotIn (.str "delay") (.tup [.str "last", .str "first", .str "limit", .str "delay"]) = some (.bl false))
theorem mT_part (m : Mb) : Txt.partition (mT m) " " = (kindS m, (" " : Str), zT (num m)) := by
  unfold mT
  exact part_of fun h => by
    have := kS_sign m 32 h
    omega
theorem F_pair {m : Mb} (h : NumOk (num m)) (p : D) : F_pair_from [.im (.str (mT m)), .im p] = .rt (memD m) [.im (.str (mT m)), .im p] := by
  have h1 := mT_part m
  have hl : (mT m).length ≤ 100000 := by
    have := mT_len (by decide) h
    omega
  have hb : ((" " : Str).length == 0) = false := by decide +kernel
  have h2 := kS_in m
  have h3 := F_rnum h p
  unfold F_pair_from b_pair_from
  simp only [RD1, RD2, RD3, RD4, RD5, RD6, RD7, RD8, RD9, RD10, List.all_cons, List.all_nil, List.length_cons, List.length_nil, List.getElem?_cons_zero, List.getElem?_cons_succ, List.getElem?_nil, List.set_cons_zero, List.set_cons_succ, List.cons_append, List.nil_append, List.replicate_succ, List.replicate_zero, Nat.reduceAdd, Nat.reduceSub, Nat.reduceEqDiff, Nat.reduceLeDiff, Nat.reduceLT, Option.bind_some, Option.bind_none, Option.map_some, Option.map_none, if_true, if_false, ite_true, ite_false, reduceCtorEq, decide_true, decide_false, Int.reducePow, Int.reduceToNat, Int.reduceMul, Int.reduceAdd, Int.reduceSub, Int.reduceNeg, Int.reduceLT, Int.reduceLE, List.map_append, List.map_cons, List.map_nil, g2m_ii, tLl, gInD_n, gInD_i, gInD_s, mmInsertu, g4maxu, fPart, h1, hl, hb, h2, h3]
  rfl
theorem F_mfrom {m : Mb} (h : m.ok = true) : F_member_from [.im (.str (kindS m)), .im (.int (num m))] = .rt m.tree [.im (.str (kindS m)), .im (.int (num m))] := by
  unfold F_member_from b_member_from
  cases m with
  | last q =>
    have h1 : 1 ≤ q := of_decide_eq_true h
    simp only [RD1, RD2, RD3, RD4, RD5, RD6, RD7, RD8, RD9, RD10, List.all_cons, List.all_nil, List.length_cons, List.length_nil, List.getElem?_cons_zero, List.getElem?_cons_succ, List.getElem?_nil, List.set_cons_zero, List.set_cons_succ, List.cons_append, List.nil_append, List.replicate_succ, List.replicate_zero, Nat.reduceAdd, Nat.reduceSub, Nat.reduceEqDiff, Nat.reduceLeDiff, Nat.reduceLT, Option.bind_some, Option.bind_none, Option.map_some, Option.map_none, if_true, if_false, ite_true, ite_false, reduceCtorEq, decide_true, decide_false, Int.reducePow, Int.reduceToNat, Int.reduceMul, Int.reduceAdd, Int.reduceSub, Int.reduceNeg, Int.reduceLT, Int.reduceLE, List.map_append, List.map_cons, List.map_nil, g2m_ii, tLl, gInD_n, gInD_i, gInD_s, mmInsertu, g4maxu, eq_last, Mb.isLast, num, M_last h1]
  | first q =>
    have h1 : 1 ≤ q := of_decide_eq_true h
    simp only [RD1, RD2, RD3, RD4, RD5, RD6, RD7, RD8, RD9, RD10, List.all_cons, List.all_nil, List.length_cons, List.length_nil, List.getElem?_cons_zero, List.getElem?_cons_succ, List.getElem?_nil, List.set_cons_zero, List.set_cons_succ, List.cons_append, List.nil_append, List.replicate_succ, List.replicate_zero, Nat.reduceAdd, Nat.reduceSub, Nat.reduceEqDiff, Nat.reduceLeDiff, Nat.reduceLT, Option.bind_some, Option.bind_none, Option.map_some, Option.map_none, if_true, if_false, ite_true, ite_false, reduceCtorEq, decide_true, decide_false, Int.reducePow, Int.reduceToNat, Int.reduceMul, Int.reduceAdd, Int.reduceSub, Int.reduceNeg, Int.reduceLT, Int.reduceLE, List.map_append, List.map_cons, List.map_nil, g2m_ii, tLl, gInD_n, gInD_i, gInD_s, mmInsertu, g4maxu, eq_last, Mb.isLast, eq_first, Mb.isFirst, num, M_first h1]
  | limit q =>
    have h1 : 1 ≤ q := of_decide_eq_true h
    simp only [RD1, RD2, RD3, RD4, RD5, RD6, RD7, RD8, RD9, RD10, List.all_cons, List.all_nil, List.length_cons, List.length_nil, List.getElem?_cons_zero, List.getElem?_cons_succ, List.getElem?_nil, List.set_cons_zero, List.set_cons_succ, List.cons_append, List.nil_append, List.replicate_succ, List.replicate_zero, Nat.reduceAdd, Nat.reduceSub, Nat.reduceEqDiff, Nat.reduceLeDiff, Nat.reduceLT, Option.bind_some, Option.bind_none, Option.map_some, Option.map_none, if_true, if_false, ite_true, ite_false, reduceCtorEq, decide_true, decide_false, Int.reducePow, Int.reduceToNat, Int.reduceMul, Int.reduceAdd, Int.reduceSub, Int.reduceNeg, Int.reduceLT, Int.reduceLE, List.map_append, List.map_cons, List.map_nil, g2m_ii, tLl, gInD_n, gInD_i, gInD_s, mmInsertu, g4maxu, eq_last, Mb.isLast, eq_first, Mb.isFirst, eq_limit, Mb.isLimit, num, M_limit h1]
  | delay q =>
    have h1 : 0 ≤ q := of_decide_eq_true h
    simp only [RD1, RD2, RD3, RD4, RD5, RD6, RD7, RD8, RD9, RD10, List.all_cons, List.all_nil, List.length_cons, List.length_nil, List.getElem?_cons_zero, List.getElem?_cons_succ, List.getElem?_nil, List.set_cons_zero, List.set_cons_succ, List.cons_append, List.nil_append, List.replicate_succ, List.replicate_zero, Nat.reduceAdd, Nat.reduceSub, Nat.reduceEqDiff, Nat.reduceLeDiff, Nat.reduceLT, Option.bind_some, Option.bind_none, Option.map_some, Option.map_none, if_true, if_false, ite_true, ite_false, reduceCtorEq, decide_true, decide_false, Int.reducePow, Int.reduceToNat, Int.reduceMul, Int.reduceAdd, Int.reduceSub, Int.reduceNeg, Int.reduceLT, Int.reduceLE, List.map_append, List.map_cons, List.map_nil, g2m_ii, tLl, gInD_n, gInD_i, gInD_s, mmInsertu, g4maxu, eq_last, Mb.isLast, eq_first, Mb.isFirst, eq_limit, Mb.isLimit, num, M_delay h1]

def rT (ms : List Mb) : Str := if ms = [] then "all" else (", " : Str).join (ms.map mT)
def nbT (ts : List Int) : Str := if ts = [] then "none" else (" " : Str).join (ts.map zT)
theorem strs_m {α : Type} (f : α → Str) (xs : List α) : strsJ (xs.map fun x => D.str (f x)) = some (xs.map f) := by
  have := strsJ_map (xs.map f)
  rw [List.map_map] at this
  exact this
theorem lenZ_map {α : Type} {f : α → Str} {xs : List α} {b : Nat} (h : ∀ x ∈ xs, (f x).length ≤ b) : lenZ (xs.map f) ≤ xs.length * b := by
  have := lenZ_le (xs := xs.map f) (b := b) fun z hz => by
    obtain ⟨x, hx, rfl⟩ := List.mem_map.mp hz
    exact h x hx
  rw [List.length_map] at this
  exact this
theorem len_cs : (", " : Str).length = 2 := by decide +kernel
theorem len_ss : ("; " : Str).length = 2 := by decide +kernel
theorem len_bl : (" " : Str).length = 1 := by decide +kernel
theorem len_pp : (" | " : Str).length = 3 := by decide +kernel
theorem sg_cs : sg (", " : Str) = [44, 32] := by decide +kernel
theorem sg_ss : sg ("; " : Str) = [59, 32] := by decide +kernel
theorem sg_pp : sg (" | " : Str) = [32, 124, 32] := by decide +kernel
theorem sg_all : sg ("all" : Str) = [97, 108, 108] := by decide +kernel
theorem sg_none : sg ("none" : Str) = [110, 111, 110, 101] := by decide +kernel
theorem all_ok : PySem.PyData.strOk "all" = true := by decide +kernel
theorem none_ok : PySem.PyData.strOk "none" = true := by decide +kernel
theorem rT_sign {ms : List Mb} {c : Nat} (h : c ∈ sg (rT ms)) : c < 1114112 := by
  unfold rT at h
  split at h
  · rw [sg_all] at h
    simp only [List.mem_cons, List.not_mem_nil, or_false] at h
    omega
  · rcases sg_join_mem h with q | ⟨x, hx, q⟩
    · rw [sg_cs] at q
      simp only [List.mem_cons, List.not_mem_nil, or_false] at q
      omega
    · obtain ⟨m, _, rfl⟩ := List.mem_map.mp hx
      have := mT_sign q
      omega
theorem rT_ne {m : Mb} {ms : List Mb} : rT (m :: ms) ≠ "all" := fun h => by
  have h1 : 32 ∈ sg (rT (m :: ms)) := by
    unfold rT
    rw [if_neg (by simp), List.map_cons]
    refine sg_join_hd ?_
    rw [sg_mT]
    exact List.mem_append_right _ List.mem_cons_self
  rw [h, sg_all] at h1
  simp at h1
theorem mems_nil {ms : List Mb} : eqO tb eq0 F_Thing___eq___0 (.tup (ms.map Mb.tree)) (.tup []) = some (decide (ms = [])) := by
  cases ms with
  | nil =>
    have hk : okD 16 (.tup []) = true := rfl
    unfold eqO
    rw [List.map_nil, eqT_flat hk hk, eqD_refl hk]
    rfl
  | cons m ms =>
    have hno : ∀ n, okD (n + 1) (.tup ((m :: ms).map Mb.tree)) = false := fun n => by
      show ((m :: ms).map Mb.tree).all (okD n) = false
      rw [List.map_cons, List.all_cons, show okD n m.tree = false from by cases m <;> exact okD_ins]
      rfl
    unfold eqO
    have : ∀ n, eqT eq0 (ownE tb eq0 F_Thing___eq___0) (n + 1) (.tup ((m :: ms).map Mb.tree)) (.tup []) = some false := fun n => by
      unfold eqT
      rw [hno 15, Bool.false_and, if_neg Bool.false_ne_true]
      rfl
    rw [this]
    rfl
theorem F_rtext {ms : List Mb} {k : Nat} (hk0 : 0 < k) (hk : k ≤ 500) (hl : ms.length ≤ 1000) (h : ∀ m ∈ ms, (num m).natAbs < 10 ^ k) : F_row_text [.im (rowD ms)] = .rt (.str (rT ms)) [.im (rowD ms)] := by
  have hm : gFld tb "members" (rowD ms) = some (.tup (ms.map Mb.tree)) := rfl
  have h1 := mems_nil (ms := ms)
  unfold F_row_text b_row_text
  by_cases h0 : ms = []
  · rw [decide_eq_true h0] at h1
    simp only [RD1, RD2, RD3, RD4, RD5, RD6, RD7, RD8, RD9, RD10, List.all_cons, List.all_nil, List.length_cons, List.length_nil, List.getElem?_cons_zero, List.getElem?_cons_succ, List.getElem?_nil, List.set_cons_zero, List.set_cons_succ, List.cons_append, List.nil_append, List.replicate_succ, List.replicate_zero, Nat.reduceAdd, Nat.reduceSub, Nat.reduceEqDiff, Nat.reduceLeDiff, Nat.reduceLT, Option.bind_some, Option.bind_none, Option.map_some, Option.map_none, if_true, if_false, ite_true, ite_false, reduceCtorEq, decide_true, decide_false, Int.reducePow, Int.reduceToNat, Int.reduceMul, Int.reduceAdd, Int.reduceSub, Int.reduceNeg, Int.reduceLT, Int.reduceLE, List.map_append, List.map_cons, List.map_nil, g2m_ii, tLl, gInD_n, gInD_i, gInD_s, mmInsertu, g4maxu, hm, h1]
    unfold rT
    rw [if_pos h0]
  · rw [decide_eq_false h0] at h1
    have hj : lenZ (ms.map mT) + (ms.map mT).length * (", " : Str).length ≤ 16777216 := by
      have := lenZ_map (f := mT) (xs := ms) (b := k + 7) fun m hm => mT_len hk0 (h m hm)
      have h2 : ms.length * (k + 7) ≤ 1000 * 507 := Nat.mul_le_mul hl (by omega)
      rw [List.length_map, len_cs]
      omega
    have hl2 : ms.length ≤ 1000000 := by omega
    simp only [RD1, RD2, RD3, RD4, RD5, RD6, RD7, RD8, RD9, RD10, List.all_cons, List.all_nil, List.length_cons, List.length_nil, List.getElem?_cons_zero, List.getElem?_cons_succ, List.getElem?_nil, List.set_cons_zero, List.set_cons_succ, List.cons_append, List.nil_append, List.replicate_succ, List.replicate_zero, Nat.reduceAdd, Nat.reduceSub, Nat.reduceEqDiff, Nat.reduceLeDiff, Nat.reduceLT, Option.bind_some, Option.bind_none, Option.map_some, Option.map_none, if_true, if_false, ite_true, ite_false, reduceCtorEq, decide_true, decide_false, Int.reducePow, Int.reduceToNat, Int.reduceMul, Int.reduceAdd, Int.reduceSub, Int.reduceNeg, Int.reduceLT, Int.reduceLE, List.map_append, List.map_cons, List.map_nil, g2m_ii, tLl, gInD_n, gInD_i, gInD_s, mmInsertu, g4maxu, hm, h1, fJoin]
    rw [lcL_all (fun m : Mb => [m.tree]) (fun m => D.str (mT m)) (by simp only [RD1, RD2, RD3, RD4, RD5, RD6, RD7, RD8, RD9, RD10, List.all_cons, List.all_nil, List.length_cons, List.length_nil, List.getElem?_cons_zero, List.getElem?_cons_succ, List.getElem?_nil, List.set_cons_zero, List.set_cons_succ, List.cons_append, List.nil_append, List.replicate_succ, List.replicate_zero, Nat.reduceAdd, Nat.reduceSub, Nat.reduceEqDiff, Nat.reduceLeDiff, Nat.reduceLT, Option.bind_some, Option.bind_none, Option.map_some, Option.map_none, if_true, if_false, ite_true, ite_false, reduceCtorEq, decide_true, decide_false, Int.reducePow, Int.reduceToNat, Int.reduceMul, Int.reduceAdd, Int.reduceSub, Int.reduceNeg, Int.reduceLT, Int.reduceLE, List.map_append, List.map_cons, List.map_nil, g2m_ii, tLl, gInD_n, gInD_i, gInD_s, mmInsertu, g4maxu]) (by simp only [RD1, RD2, RD3, RD4, RD5, RD6, RD7, RD8, RD9, RD10, List.all_cons, List.all_nil, List.length_cons, List.length_nil, List.getElem?_cons_zero, List.getElem?_cons_succ, List.getElem?_nil, List.set_cons_zero, List.set_cons_succ, List.cons_append, List.nil_append, List.replicate_succ, List.replicate_zero, Nat.reduceAdd, Nat.reduceSub, Nat.reduceEqDiff, Nat.reduceLeDiff, Nat.reduceLT, Option.bind_some, Option.bind_none, Option.map_some, Option.map_none, if_true, if_false, ite_true, ite_false, reduceCtorEq, decide_true, decide_false, Int.reducePow, Int.reduceToNat, Int.reduceMul, Int.reduceAdd, Int.reduceSub, Int.reduceNeg, Int.reduceLT, Int.reduceLE, List.map_append, List.map_cons, List.map_nil, g2m_ii, tLl, gInD_n, gInD_i, gInD_s, mmInsertu, g4maxu]) (fun m _ => by simp only [RD1, RD2, RD3, RD4, RD5, RD6, RD7, RD8, RD9, RD10, List.all_cons, List.all_nil, List.length_cons, List.length_nil, List.getElem?_cons_zero, List.getElem?_cons_succ, List.getElem?_nil, List.set_cons_zero, List.set_cons_succ, List.cons_append, List.nil_append, List.replicate_succ, List.replicate_zero, Nat.reduceAdd, Nat.reduceSub, Nat.reduceEqDiff, Nat.reduceLeDiff, Nat.reduceLT, Option.bind_some, Option.bind_none, Option.map_some, Option.map_none, if_true, if_false, ite_true, ite_false, reduceCtorEq, decide_true, decide_false, Int.reducePow, Int.reduceToNat, Int.reduceMul, Int.reduceAdd, Int.reduceSub, Int.reduceNeg, Int.reduceLT, Int.reduceLE, List.map_append, List.map_cons, List.map_nil, g2m_ii, tLl, gInD_n, gInD_i, gInD_s, mmInsertu, g4maxu]) (fun m hm => by simp only [RD1, RD2, RD3, RD4, RD5, RD6, RD7, RD8, RD9, RD10, List.all_cons, List.all_nil, List.length_cons, List.length_nil, List.getElem?_cons_zero, List.getElem?_cons_succ, List.getElem?_nil, List.set_cons_zero, List.set_cons_succ, List.cons_append, List.nil_append, List.replicate_succ, List.replicate_zero, Nat.reduceAdd, Nat.reduceSub, Nat.reduceEqDiff, Nat.reduceLeDiff, Nat.reduceLT, Option.bind_some, Option.bind_none, Option.map_some, Option.map_none, if_true, if_false, ite_true, ite_false, reduceCtorEq, decide_true, decide_false, Int.reducePow, Int.reduceToNat, Int.reduceMul, Int.reduceAdd, Int.reduceSub, Int.reduceNeg, Int.reduceLT, Int.reduceLE, List.map_append, List.map_cons, List.map_nil, g2m_ii, tLl, gInD_n, gInD_i, gInD_s, mmInsertu, g4maxu, F_mtext hk0 hk (h m hm)])]
    simp only [RD1, RD2, RD3, RD4, RD5, RD6, RD7, RD8, RD9, RD10, List.all_cons, List.all_nil, List.length_cons, List.length_nil, List.getElem?_cons_zero, List.getElem?_cons_succ, List.getElem?_nil, List.set_cons_zero, List.set_cons_succ, List.cons_append, List.nil_append, List.replicate_succ, List.replicate_zero, Nat.reduceAdd, Nat.reduceSub, Nat.reduceEqDiff, Nat.reduceLeDiff, Nat.reduceLT, Option.bind_some, Option.bind_none, Option.map_some, Option.map_none, if_true, if_false, ite_true, ite_false, reduceCtorEq, decide_true, decide_false, Int.reducePow, Int.reduceToNat, Int.reduceMul, Int.reduceAdd, Int.reduceSub, Int.reduceNeg, Int.reduceLT, Int.reduceLE, List.map_append, List.map_cons, List.map_nil, g2m_ii, tLl, gInD_n, gInD_i, gInD_s, mmInsertu, g4maxu, List.length_map, hl2, strs_m]
    rw [List.length_map] at hj
    simp only [RD1, RD2, RD3, RD4, RD5, RD6, RD7, RD8, RD9, RD10, List.all_cons, List.all_nil, List.length_cons, List.length_nil, List.getElem?_cons_zero, List.getElem?_cons_succ, List.getElem?_nil, List.set_cons_zero, List.set_cons_succ, List.cons_append, List.nil_append, List.replicate_succ, List.replicate_zero, Nat.reduceAdd, Nat.reduceSub, Nat.reduceEqDiff, Nat.reduceLeDiff, Nat.reduceLT, Option.bind_some, Option.bind_none, Option.map_some, Option.map_none, if_true, if_false, ite_true, ite_false, reduceCtorEq, decide_true, decide_false, Int.reducePow, Int.reduceToNat, Int.reduceMul, Int.reduceAdd, Int.reduceSub, Int.reduceNeg, Int.reduceLT, Int.reduceLE, List.map_append, List.map_cons, List.map_nil, g2m_ii, tLl, gInD_n, gInD_i, gInD_s, mmInsertu, g4maxu, hj]
    unfold rT
    rw [if_neg h0, txt_join]
theorem chk_s (z : Str) : F_check_string [.im (.str z)] = .rt .non [.im (.str z)] := by
  have h1 : gIsi tb [.ty "str"] (.str z) = some (.bl true) := rfl
  unfold F_check_string b_check_string
  simp only [RD1, RD2, RD3, RD4, RD5, RD6, RD7, RD8, RD9, RD10, List.all_cons, List.all_nil, List.length_cons, List.length_nil, List.getElem?_cons_zero, List.getElem?_cons_succ, List.getElem?_nil, List.set_cons_zero, List.set_cons_succ, List.cons_append, List.nil_append, List.replicate_succ, List.replicate_zero, Nat.reduceAdd, Nat.reduceSub, Nat.reduceEqDiff, Nat.reduceLeDiff, Nat.reduceLT, Option.bind_some, Option.bind_none, Option.map_some, Option.map_none, if_true, if_false, ite_true, ite_false, reduceCtorEq, decide_true, decide_false, Int.reducePow, Int.reduceToNat, Int.reduceMul, Int.reduceAdd, Int.reduceSub, Int.reduceNeg, Int.reduceLT, Int.reduceLE, List.map_append, List.map_cons, List.map_nil, g2m_ii, tLl, gInD_n, gInD_i, gInD_s, mmInsertu, g4maxu, h1]
theorem zip_fst {α β : Type} (g : α → β) (xs : List α) : (xs.zipIdx.map fun q => g q.1) = xs.map g := by
  have := congrArg (List.map g) (List.zipIdx_map_fst (l := xs) (i := 0))
  rw [List.map_map] at this
  exact this
theorem F_rrow {ms : List Mb} (hl : ms.length ≤ 1000) (h : ∀ m ∈ ms, NumOk (num m)) (ho : ∀ m ∈ ms, m.ok = true) : F_read_row [.im (.str (rT ms))] = .rt (rowD ms) [.im (.str (rT ms))] := by
  have he := eqS (a := rT ms) (b := "all") (strOk_of fun c hc => rT_sign hc) all_ok
  unfold F_read_row b_read_row
  cases ms with
  | nil =>
    have hr := fun e => M_row [] (d := .lst []) rfl (e := e)
    rw [decide_eq_true (show rT [] = "all" from rfl)] at he
    simp only [RD1, RD2, RD3, RD4, RD5, RD6, RD7, RD8, RD9, RD10, List.all_cons, List.all_nil, List.length_cons, List.length_nil, List.getElem?_cons_zero, List.getElem?_cons_succ, List.getElem?_nil, List.set_cons_zero, List.set_cons_succ, List.cons_append, List.nil_append, List.replicate_succ, List.replicate_zero, Nat.reduceAdd, Nat.reduceSub, Nat.reduceEqDiff, Nat.reduceLeDiff, Nat.reduceLT, Option.bind_some, Option.bind_none, Option.map_some, Option.map_none, if_true, if_false, ite_true, ite_false, reduceCtorEq, decide_true, decide_false, Int.reducePow, Int.reduceToNat, Int.reduceMul, Int.reduceAdd, Int.reduceSub, Int.reduceNeg, Int.reduceLT, Int.reduceLE, List.map_append, List.map_cons, List.map_nil, g2m_ii, tLl, gInD_n, gInD_i, gInD_s, mmInsertu, g4maxu, chk_s, he, hr]
  | cons m ms =>
    rw [decide_eq_false rT_ne] at he
    have hb : ((", " : Str).length == 0) = false := by decide +kernel
    have hrT : rT (m :: ms) = (", " : Str).join (mT m :: ms.map mT) := by
      unfold rT
      rw [if_neg (by simp), List.map_cons]
    have hln : (rT (m :: ms)).length ≤ 100000 := by
      have h1 := lenZ_map (f := mT) (xs := m :: ms) (b := 67) fun x hx => mT_len (by decide) (h x hx)
      have h2 := join_len (", " : Str) ((m :: ms).map mT)
      have h3 : (m :: ms).length * 67 ≤ 1000 * 67 := Nat.mul_le_mul_right _ hl
      rw [List.length_map, len_cs] at h2
      rw [hrT, ← List.map_cons]
      omega
    have hsp : Txt.split (rT (m :: ms)) ", " = (m :: ms).map mT := by
      rw [hrT, split_join (c0 := 44) (o := 0) (by rw [sg_cs]; rfl) (fun j hj => absurd hj (Nat.not_lt_zero _)) (by decide +kernel), List.map_cons]
      intro p hp hc
      rw [← List.map_cons] at hp
      obtain ⟨x, _, rfl⟩ := List.mem_map.mp hp
      have := mT_sign hc
      omega
    have hl2 : (m :: ms).length ≤ 1000000 := by omega
    have hr := fun e => M_row (m :: ms) (d := .lst ((m :: ms).map Mb.tree)) rfl (e := e)
    generalize m :: ms = ns at *
    have hen : enD ((ns.map mT).map D.str) = ns.zipIdx.map fun q => D.tup [.int (q.2 : Nat), .str (mT q.1)] := by
      rw [List.map_map]
      exact enD_map
    simp only [RD1, RD2, RD3, RD4, RD5, RD6, RD7, RD8, RD9, RD10, List.all_cons, List.all_nil, List.length_cons, List.length_nil, List.getElem?_cons_zero, List.getElem?_cons_succ, List.getElem?_nil, List.set_cons_zero, List.set_cons_succ, List.cons_append, List.nil_append, List.replicate_succ, List.replicate_zero, Nat.reduceAdd, Nat.reduceSub, Nat.reduceEqDiff, Nat.reduceLeDiff, Nat.reduceLT, Option.bind_some, Option.bind_none, Option.map_some, Option.map_none, if_true, if_false, ite_true, ite_false, reduceCtorEq, decide_true, decide_false, Int.reducePow, Int.reduceToNat, Int.reduceMul, Int.reduceAdd, Int.reduceSub, Int.reduceNeg, Int.reduceLT, Int.reduceLE, List.map_append, List.map_cons, List.map_nil, g2m_ii, tLl, gInD_n, gInD_i, gInD_s, mmInsertu, g4maxu, chk_s, he, fSplit, hb, hln, hsp, hen]
    rw [lcL_all (fun q : Mb × Nat => [.int (q.2 : Nat), .str (mT q.1)]) (fun q => memD q.1) (by simp only [RD1, RD2, RD3, RD4, RD5, RD6, RD7, RD8, RD9, RD10, List.all_cons, List.all_nil, List.length_cons, List.length_nil, List.getElem?_cons_zero, List.getElem?_cons_succ, List.getElem?_nil, List.set_cons_zero, List.set_cons_succ, List.cons_append, List.nil_append, List.replicate_succ, List.replicate_zero, Nat.reduceAdd, Nat.reduceSub, Nat.reduceEqDiff, Nat.reduceLeDiff, Nat.reduceLT, Option.bind_some, Option.bind_none, Option.map_some, Option.map_none, if_true, if_false, ite_true, ite_false, reduceCtorEq, decide_true, decide_false, Int.reducePow, Int.reduceToNat, Int.reduceMul, Int.reduceAdd, Int.reduceSub, Int.reduceNeg, Int.reduceLT, Int.reduceLE, List.map_append, List.map_cons, List.map_nil, g2m_ii, tLl, gInD_n, gInD_i, gInD_s, mmInsertu, g4maxu]) (by simp only [RD1, RD2, RD3, RD4, RD5, RD6, RD7, RD8, RD9, RD10, List.all_cons, List.all_nil, List.length_cons, List.length_nil, List.getElem?_cons_zero, List.getElem?_cons_succ, List.getElem?_nil, List.set_cons_zero, List.set_cons_succ, List.cons_append, List.nil_append, List.replicate_succ, List.replicate_zero, Nat.reduceAdd, Nat.reduceSub, Nat.reduceEqDiff, Nat.reduceLeDiff, Nat.reduceLT, Option.bind_some, Option.bind_none, Option.map_some, Option.map_none, if_true, if_false, ite_true, ite_false, reduceCtorEq, decide_true, decide_false, Int.reducePow, Int.reduceToNat, Int.reduceMul, Int.reduceAdd, Int.reduceSub, Int.reduceNeg, Int.reduceLT, Int.reduceLE, List.map_append, List.map_cons, List.map_nil, g2m_ii, tLl, gInD_n, gInD_i, gInD_s, mmInsertu, g4maxu]) (fun m _ => by simp only [RD1, RD2, RD3, RD4, RD5, RD6, RD7, RD8, RD9, RD10, List.all_cons, List.all_nil, List.length_cons, List.length_nil, List.getElem?_cons_zero, List.getElem?_cons_succ, List.getElem?_nil, List.set_cons_zero, List.set_cons_succ, List.cons_append, List.nil_append, List.replicate_succ, List.replicate_zero, Nat.reduceAdd, Nat.reduceSub, Nat.reduceEqDiff, Nat.reduceLeDiff, Nat.reduceLT, Option.bind_some, Option.bind_none, Option.map_some, Option.map_none, if_true, if_false, ite_true, ite_false, reduceCtorEq, decide_true, decide_false, Int.reducePow, Int.reduceToNat, Int.reduceMul, Int.reduceAdd, Int.reduceSub, Int.reduceNeg, Int.reduceLT, Int.reduceLE, List.map_append, List.map_cons, List.map_nil, g2m_ii, tLl, gInD_n, gInD_i, gInD_s, mmInsertu, g4maxu]) (fun q hq => by
      have := F_pair (h q.1 (List.fst_mem_of_mem_zipIdx hq)) (.int (q.2 : Nat))
      simp only [RD1, RD2, RD3, RD4, RD5, RD6, RD7, RD8, RD9, RD10, List.all_cons, List.all_nil, List.length_cons, List.length_nil, List.getElem?_cons_zero, List.getElem?_cons_succ, List.getElem?_nil, List.set_cons_zero, List.set_cons_succ, List.cons_append, List.nil_append, List.replicate_succ, List.replicate_zero, Nat.reduceAdd, Nat.reduceSub, Nat.reduceEqDiff, Nat.reduceLeDiff, Nat.reduceLT, Option.bind_some, Option.bind_none, Option.map_some, Option.map_none, if_true, if_false, ite_true, ite_false, reduceCtorEq, decide_true, decide_false, Int.reducePow, Int.reduceToNat, Int.reduceMul, Int.reduceAdd, Int.reduceSub, Int.reduceNeg, Int.reduceLT, Int.reduceLE, List.map_append, List.map_cons, List.map_nil, g2m_ii, tLl, gInD_n, gInD_i, gInD_s, mmInsertu, g4maxu, this])]
    simp only [RD1, RD2, RD3, RD4, RD5, RD6, RD7, RD8, RD9, RD10, List.all_cons, List.all_nil, List.length_cons, List.length_nil, List.getElem?_cons_zero, List.getElem?_cons_succ, List.getElem?_nil, List.set_cons_zero, List.set_cons_succ, List.cons_append, List.nil_append, List.replicate_succ, List.replicate_zero, Nat.reduceAdd, Nat.reduceSub, Nat.reduceEqDiff, Nat.reduceLeDiff, Nat.reduceLT, Option.bind_some, Option.bind_none, Option.map_some, Option.map_none, if_true, if_false, ite_true, ite_false, reduceCtorEq, decide_true, decide_false, Int.reducePow, Int.reduceToNat, Int.reduceMul, Int.reduceAdd, Int.reduceSub, Int.reduceNeg, Int.reduceLT, Int.reduceLE, List.map_append, List.map_cons, List.map_nil, g2m_ii, tLl, gInD_n, gInD_i, gInD_s, mmInsertu, g4maxu, zip_fst memD, List.length_map, List.length_zipIdx, hl2]
    rw [lcL_all (fun m : Mb => [.str (kindS m), .int (num m)]) Mb.tree (by simp only [RD1, RD2, RD3, RD4, RD5, RD6, RD7, RD8, RD9, RD10, List.all_cons, List.all_nil, List.length_cons, List.length_nil, List.getElem?_cons_zero, List.getElem?_cons_succ, List.getElem?_nil, List.set_cons_zero, List.set_cons_succ, List.cons_append, List.nil_append, List.replicate_succ, List.replicate_zero, Nat.reduceAdd, Nat.reduceSub, Nat.reduceEqDiff, Nat.reduceLeDiff, Nat.reduceLT, Option.bind_some, Option.bind_none, Option.map_some, Option.map_none, if_true, if_false, ite_true, ite_false, reduceCtorEq, decide_true, decide_false, Int.reducePow, Int.reduceToNat, Int.reduceMul, Int.reduceAdd, Int.reduceSub, Int.reduceNeg, Int.reduceLT, Int.reduceLE, List.map_append, List.map_cons, List.map_nil, g2m_ii, tLl, gInD_n, gInD_i, gInD_s, mmInsertu, g4maxu]) (by simp only [RD1, RD2, RD3, RD4, RD5, RD6, RD7, RD8, RD9, RD10, List.all_cons, List.all_nil, List.length_cons, List.length_nil, List.getElem?_cons_zero, List.getElem?_cons_succ, List.getElem?_nil, List.set_cons_zero, List.set_cons_succ, List.cons_append, List.nil_append, List.replicate_succ, List.replicate_zero, Nat.reduceAdd, Nat.reduceSub, Nat.reduceEqDiff, Nat.reduceLeDiff, Nat.reduceLT, Option.bind_some, Option.bind_none, Option.map_some, Option.map_none, if_true, if_false, ite_true, ite_false, reduceCtorEq, decide_true, decide_false, Int.reducePow, Int.reduceToNat, Int.reduceMul, Int.reduceAdd, Int.reduceSub, Int.reduceNeg, Int.reduceLT, Int.reduceLE, List.map_append, List.map_cons, List.map_nil, g2m_ii, tLl, gInD_n, gInD_i, gInD_s, mmInsertu, g4maxu]) (fun m _ => by simp only [RD1, RD2, RD3, RD4, RD5, RD6, RD7, RD8, RD9, RD10, List.all_cons, List.all_nil, List.length_cons, List.length_nil, List.getElem?_cons_zero, List.getElem?_cons_succ, List.getElem?_nil, List.set_cons_zero, List.set_cons_succ, List.cons_append, List.nil_append, List.replicate_succ, List.replicate_zero, Nat.reduceAdd, Nat.reduceSub, Nat.reduceEqDiff, Nat.reduceLeDiff, Nat.reduceLT, Option.bind_some, Option.bind_none, Option.map_some, Option.map_none, if_true, if_false, ite_true, ite_false, reduceCtorEq, decide_true, decide_false, Int.reducePow, Int.reduceToNat, Int.reduceMul, Int.reduceAdd, Int.reduceSub, Int.reduceNeg, Int.reduceLT, Int.reduceLE, List.map_append, List.map_cons, List.map_nil, g2m_ii, tLl, gInD_n, gInD_i, gInD_s, mmInsertu, g4maxu, memD]) (fun m hm => by simp only [RD1, RD2, RD3, RD4, RD5, RD6, RD7, RD8, RD9, RD10, List.all_cons, List.all_nil, List.length_cons, List.length_nil, List.getElem?_cons_zero, List.getElem?_cons_succ, List.getElem?_nil, List.set_cons_zero, List.set_cons_succ, List.cons_append, List.nil_append, List.replicate_succ, List.replicate_zero, Nat.reduceAdd, Nat.reduceSub, Nat.reduceEqDiff, Nat.reduceLeDiff, Nat.reduceLT, Option.bind_some, Option.bind_none, Option.map_some, Option.map_none, if_true, if_false, ite_true, ite_false, reduceCtorEq, decide_true, decide_false, Int.reducePow, Int.reduceToNat, Int.reduceMul, Int.reduceAdd, Int.reduceSub, Int.reduceNeg, Int.reduceLT, Int.reduceLE, List.map_append, List.map_cons, List.map_nil, g2m_ii, tLl, gInD_n, gInD_i, gInD_s, mmInsertu, g4maxu, F_mfrom (ho m hm)])]
    simp only [RD1, RD2, RD3, RD4, RD5, RD6, RD7, RD8, RD9, RD10, List.all_cons, List.all_nil, List.length_cons, List.length_nil, List.getElem?_cons_zero, List.getElem?_cons_succ, List.getElem?_nil, List.set_cons_zero, List.set_cons_succ, List.cons_append, List.nil_append, List.replicate_succ, List.replicate_zero, Nat.reduceAdd, Nat.reduceSub, Nat.reduceEqDiff, Nat.reduceLeDiff, Nat.reduceLT, Option.bind_some, Option.bind_none, Option.map_some, Option.map_none, if_true, if_false, ite_true, ite_false, reduceCtorEq, decide_true, decide_false, Int.reducePow, Int.reduceToNat, Int.reduceMul, Int.reduceAdd, Int.reduceSub, Int.reduceNeg, Int.reduceLT, Int.reduceLE, List.map_append, List.map_cons, List.map_nil, g2m_ii, tLl, gInD_n, gInD_i, gInD_s, mmInsertu, g4maxu, List.length_map, hl2, hr]
theorem nbT_sign {ts : List Int} {c : Nat} (h : c ∈ sg (nbT ts)) : (ts = [] ∧ 101 ≤ c ∧ c ≤ 111) ∨ (ts ≠ [] ∧ (c = 32 ∨ c = 45 ∨ (48 ≤ c ∧ c ≤ 57))) := by
  unfold nbT at h
  by_cases h0 : ts = []
  · rw [if_pos h0, sg_none] at h
    refine .inl ⟨h0, ?_⟩
    simp only [List.mem_cons, List.not_mem_nil, or_false] at h
    omega
  · rw [if_neg h0] at h
    refine .inr ⟨h0, ?_⟩
    rcases sg_join_mem h with q | ⟨x, hx, q⟩
    · rw [sg_blank] at q
      exact .inl (List.mem_singleton.mp q)
    · obtain ⟨i, _, rfl⟩ := List.mem_map.mp hx
      rcases zT_sign q with z | z
      · exact .inr (.inl z)
      · exact .inr (.inr z)
theorem nbT_ok (ts : List Int) : PySem.PyData.strOk (nbT ts) = true := strOk_of fun c hc => by
  rcases nbT_sign hc with ⟨_, h⟩ | ⟨_, h⟩ <;> omega
theorem nbT_ne {t : Int} {ts : List Int} : nbT (t :: ts) ≠ "none" := fun h => by
  have h1 : 110 ∈ sg (nbT (t :: ts)) := by
    rw [h, sg_none]
    exact List.mem_cons_self
  rcases nbT_sign h1 with ⟨z, _⟩ | ⟨_, z⟩
  · cases z
  · omega
theorem nbT_len {ts : List Int} {k : Nat} (hk : 0 < k) (h : ∀ t ∈ ts, t.natAbs < 10 ^ k) : (nbT ts).length ≤ ts.length * (k + 2) + 4 := by
  unfold nbT
  split
  · rw [show ("none" : Str).length = 4 from by decide +kernel]
    omega
  · have h1 := lenZ_map (f := zT) (xs := ts) (b := k + 1) fun x hx => zT_len hk (h x hx)
    have h2 := join_len (" " : Str) (ts.map zT)
    rw [List.length_map, len_bl] at h2
    have h3 : ts.length * (k + 2) = ts.length * (k + 1) + ts.length := by rw [Nat.mul_succ]
    omega
theorem F_jn {ts : List Int} {k : Nat} (hk0 : 0 < k) (hk : k ≤ 500) (hl : ts.length ≤ 3000) (h : ∀ t ∈ ts, t.natAbs < 10 ^ k) : lenZ (ts.map zT) + ts.length * (" " : Str).length ≤ 16777216 := by
  have := lenZ_map (f := zT) (xs := ts) (b := k + 1) fun t ht => zT_len hk0 (h t ht)
  have h2 : ts.length * (k + 1) ≤ 3000 * 501 := Nat.mul_le_mul hl (by omega)
  rw [len_bl]
  omega
theorem F_spoken {ts : List Int} {k : Nat} (hk0 : 0 < k) (hk : k ≤ 500) (hl : ts.length ≤ 3000) (h : ∀ t ∈ ts, t.natAbs < 10 ^ k) : F__law_spoken [.im (zD ts)] = .rt (.str (nbT ts)) [.im (zD ts)] := by
  unfold F__law_spoken b__law_spoken
  cases ts with
  | nil =>
    have hn : gNe (.lst []) (.lst []) = some (.bl false) := gNe_self rfl
    simp only [RD1, RD2, RD3, RD4, RD5, RD6, RD7, RD8, RD9, RD10, List.all_cons, List.all_nil, List.length_cons, List.length_nil, List.getElem?_cons_zero, List.getElem?_cons_succ, List.getElem?_nil, List.set_cons_zero, List.set_cons_succ, List.cons_append, List.nil_append, List.replicate_succ, List.replicate_zero, Nat.reduceAdd, Nat.reduceSub, Nat.reduceEqDiff, Nat.reduceLeDiff, Nat.reduceLT, Option.bind_some, Option.bind_none, Option.map_some, Option.map_none, if_true, if_false, ite_true, ite_false, reduceCtorEq, decide_true, decide_false, Int.reducePow, Int.reduceToNat, Int.reduceMul, Int.reduceAdd, Int.reduceSub, Int.reduceNeg, Int.reduceLT, Int.reduceLE, List.map_append, List.map_cons, List.map_nil, g2m_ii, tLl, gInD_n, gInD_i, gInD_s, mmInsertu, g4maxu, zD, hn]
    rfl
  | cons t ts =>
    have hn : gNe (.lst ((t :: ts).map D.int)) (.lst []) = some (.bl true) := by
      have ho : okD 16 (.lst ((t :: ts).map D.int)) = true := List.all_eq_true.mpr fun x hx => by
        obtain ⟨i, _, rfl⟩ := List.mem_map.mp hx
        rfl
      unfold gNe
      rw [ho]
      rfl
    have hj := F_jn hk0 hk hl h
    have hsp : nbT (t :: ts) = Txt.join " " ((t :: ts).map zT) := by
      unfold nbT
      rw [if_neg (by simp), txt_join]
    rw [hsp]
    generalize t :: ts = us at *
    have hl2 : us.length ≤ 1000000 := by omega
    simp only [RD1, RD2, RD3, RD4, RD5, RD6, RD7, RD8, RD9, RD10, List.all_cons, List.all_nil, List.length_cons, List.length_nil, List.getElem?_cons_zero, List.getElem?_cons_succ, List.getElem?_nil, List.set_cons_zero, List.set_cons_succ, List.cons_append, List.nil_append, List.replicate_succ, List.replicate_zero, Nat.reduceAdd, Nat.reduceSub, Nat.reduceEqDiff, Nat.reduceLeDiff, Nat.reduceLT, Option.bind_some, Option.bind_none, Option.map_some, Option.map_none, if_true, if_false, ite_true, ite_false, reduceCtorEq, decide_true, decide_false, Int.reducePow, Int.reduceToNat, Int.reduceMul, Int.reduceAdd, Int.reduceSub, Int.reduceNeg, Int.reduceLT, Int.reduceLE, List.map_append, List.map_cons, List.map_nil, g2m_ii, tLl, gInD_n, gInD_i, gInD_s, mmInsertu, g4maxu, zD, hn, fJoin]
    rw [lcL_all (fun i : Int => [D.int i]) (fun i => D.str (zT i)) (by simp only [RD1, RD2, RD3, RD4, RD5, RD6, RD7, RD8, RD9, RD10, List.all_cons, List.all_nil, List.length_cons, List.length_nil, List.getElem?_cons_zero, List.getElem?_cons_succ, List.getElem?_nil, List.set_cons_zero, List.set_cons_succ, List.cons_append, List.nil_append, List.replicate_succ, List.replicate_zero, Nat.reduceAdd, Nat.reduceSub, Nat.reduceEqDiff, Nat.reduceLeDiff, Nat.reduceLT, Option.bind_some, Option.bind_none, Option.map_some, Option.map_none, if_true, if_false, ite_true, ite_false, reduceCtorEq, decide_true, decide_false, Int.reducePow, Int.reduceToNat, Int.reduceMul, Int.reduceAdd, Int.reduceSub, Int.reduceNeg, Int.reduceLT, Int.reduceLE, List.map_append, List.map_cons, List.map_nil, g2m_ii, tLl, gInD_n, gInD_i, gInD_s, mmInsertu, g4maxu]) (by simp only [RD1, RD2, RD3, RD4, RD5, RD6, RD7, RD8, RD9, RD10, List.all_cons, List.all_nil, List.length_cons, List.length_nil, List.getElem?_cons_zero, List.getElem?_cons_succ, List.getElem?_nil, List.set_cons_zero, List.set_cons_succ, List.cons_append, List.nil_append, List.replicate_succ, List.replicate_zero, Nat.reduceAdd, Nat.reduceSub, Nat.reduceEqDiff, Nat.reduceLeDiff, Nat.reduceLT, Option.bind_some, Option.bind_none, Option.map_some, Option.map_none, if_true, if_false, ite_true, ite_false, reduceCtorEq, decide_true, decide_false, Int.reducePow, Int.reduceToNat, Int.reduceMul, Int.reduceAdd, Int.reduceSub, Int.reduceNeg, Int.reduceLT, Int.reduceLE, List.map_append, List.map_cons, List.map_nil, g2m_ii, tLl, gInD_n, gInD_i, gInD_s, mmInsertu, g4maxu]) (fun m _ => by simp only [RD1, RD2, RD3, RD4, RD5, RD6, RD7, RD8, RD9, RD10, List.all_cons, List.all_nil, List.length_cons, List.length_nil, List.getElem?_cons_zero, List.getElem?_cons_succ, List.getElem?_nil, List.set_cons_zero, List.set_cons_succ, List.cons_append, List.nil_append, List.replicate_succ, List.replicate_zero, Nat.reduceAdd, Nat.reduceSub, Nat.reduceEqDiff, Nat.reduceLeDiff, Nat.reduceLT, Option.bind_some, Option.bind_none, Option.map_some, Option.map_none, if_true, if_false, ite_true, ite_false, reduceCtorEq, decide_true, decide_false, Int.reducePow, Int.reduceToNat, Int.reduceMul, Int.reduceAdd, Int.reduceSub, Int.reduceNeg, Int.reduceLT, Int.reduceLE, List.map_append, List.map_cons, List.map_nil, g2m_ii, tLl, gInD_n, gInD_i, gInD_s, mmInsertu, g4maxu]) (fun i hi => by simp only [RD1, RD2, RD3, RD4, RD5, RD6, RD7, RD8, RD9, RD10, List.all_cons, List.all_nil, List.length_cons, List.length_nil, List.getElem?_cons_zero, List.getElem?_cons_succ, List.getElem?_nil, List.set_cons_zero, List.set_cons_succ, List.cons_append, List.nil_append, List.replicate_succ, List.replicate_zero, Nat.reduceAdd, Nat.reduceSub, Nat.reduceEqDiff, Nat.reduceLeDiff, Nat.reduceLT, Option.bind_some, Option.bind_none, Option.map_some, Option.map_none, if_true, if_false, ite_true, ite_false, reduceCtorEq, decide_true, decide_false, Int.reducePow, Int.reduceToNat, Int.reduceMul, Int.reduceAdd, Int.reduceSub, Int.reduceNeg, Int.reduceLT, Int.reduceLE, List.map_append, List.map_cons, List.map_nil, g2m_ii, tLl, gInD_n, gInD_i, gInD_s, mmInsertu, g4maxu, strI hk (h i hi)])]
    simp only [RD1, RD2, RD3, RD4, RD5, RD6, RD7, RD8, RD9, RD10, List.all_cons, List.all_nil, List.length_cons, List.length_nil, List.getElem?_cons_zero, List.getElem?_cons_succ, List.getElem?_nil, List.set_cons_zero, List.set_cons_succ, List.cons_append, List.nil_append, List.replicate_succ, List.replicate_zero, Nat.reduceAdd, Nat.reduceSub, Nat.reduceEqDiff, Nat.reduceLeDiff, Nat.reduceLT, Option.bind_some, Option.bind_none, Option.map_some, Option.map_none, if_true, if_false, ite_true, ite_false, reduceCtorEq, decide_true, decide_false, Int.reducePow, Int.reduceToNat, Int.reduceMul, Int.reduceAdd, Int.reduceSub, Int.reduceNeg, Int.reduceLT, Int.reduceLE, List.map_append, List.map_cons, List.map_nil, g2m_ii, tLl, gInD_n, gInD_i, gInD_s, mmInsertu, g4maxu, List.length_map, hl2, strs_m, hj]
theorem gt0 {ts : List Int} : decide (0 < (ts.length : Int)) = decide (ts ≠ []) := by
  cases ts with
  | nil => rfl
  | cons t ts =>
    rw [decide_eq_true (by rw [List.length_cons]; omega), decide_eq_true (by simp)]
theorem F_gtext {d : D} {ts : List Int} {k : Nat} (hs : seqOf d = some (ts.map D.int)) (hk0 : 0 < k) (hk : k ≤ 500) (hl : ts.length ≤ 3000) (h : ∀ t ∈ ts, t.natAbs < 10 ^ k) : F_gaps_text [.im d] = .rt (.str (nbT ts)) [.im d] := by
  have hlen : gLen d = some (.int ts.length) := by
    rcases seqOf_some hs with rfl | rfl
    · show some (D.int (List.length _ : Nat)) = _
      rw [List.length_map]
    · show some (D.int (List.length _ : Nat)) = _
      rw [List.length_map]
  have hg := gt0 (ts := ts)
  unfold F_gaps_text b_gaps_text
  by_cases h0 : ts = []
  · rw [decide_eq_false (not_not_intro h0)] at hg
    simp only [RD1, RD2, RD3, RD4, RD5, RD6, RD7, RD8, RD9, RD10, List.all_cons, List.all_nil, List.length_cons, List.length_nil, List.getElem?_cons_zero, List.getElem?_cons_succ, List.getElem?_nil, List.set_cons_zero, List.set_cons_succ, List.cons_append, List.nil_append, List.replicate_succ, List.replicate_zero, Nat.reduceAdd, Nat.reduceSub, Nat.reduceEqDiff, Nat.reduceLeDiff, Nat.reduceLT, Option.bind_some, Option.bind_none, Option.map_some, Option.map_none, if_true, if_false, ite_true, ite_false, reduceCtorEq, decide_true, decide_false, Int.reducePow, Int.reduceToNat, Int.reduceMul, Int.reduceAdd, Int.reduceSub, Int.reduceNeg, Int.reduceLT, Int.reduceLE, List.map_append, List.map_cons, List.map_nil, g2m_ii, tLl, gInD_n, gInD_i, gInD_s, mmInsertu, g4maxu, hlen, hg]
    unfold nbT
    rw [if_pos h0]
  · rw [decide_eq_true h0] at hg
    have hj := F_jn hk0 hk hl h
    have hsp : nbT ts = Txt.join " " (ts.map zT) := by
      unfold nbT
      rw [if_neg h0, txt_join]
    have hl2 : ts.length ≤ 1000000 := by omega
    simp only [RD1, RD2, RD3, RD4, RD5, RD6, RD7, RD8, RD9, RD10, List.all_cons, List.all_nil, List.length_cons, List.length_nil, List.getElem?_cons_zero, List.getElem?_cons_succ, List.getElem?_nil, List.set_cons_zero, List.set_cons_succ, List.cons_append, List.nil_append, List.replicate_succ, List.replicate_zero, Nat.reduceAdd, Nat.reduceSub, Nat.reduceEqDiff, Nat.reduceLeDiff, Nat.reduceLT, Option.bind_some, Option.bind_none, Option.map_some, Option.map_none, if_true, if_false, ite_true, ite_false, reduceCtorEq, decide_true, decide_false, Int.reducePow, Int.reduceToNat, Int.reduceMul, Int.reduceAdd, Int.reduceSub, Int.reduceNeg, Int.reduceLT, Int.reduceLE, List.map_append, List.map_cons, List.map_nil, g2m_ii, tLl, gInD_n, gInD_i, gInD_s, mmInsertu, g4maxu, hlen, hg, fJoin, hs]
    rw [lcL_all (fun i : Int => [D.int i]) (fun i => D.str (zT i)) (by simp only [RD1, RD2, RD3, RD4, RD5, RD6, RD7, RD8, RD9, RD10, List.all_cons, List.all_nil, List.length_cons, List.length_nil, List.getElem?_cons_zero, List.getElem?_cons_succ, List.getElem?_nil, List.set_cons_zero, List.set_cons_succ, List.cons_append, List.nil_append, List.replicate_succ, List.replicate_zero, Nat.reduceAdd, Nat.reduceSub, Nat.reduceEqDiff, Nat.reduceLeDiff, Nat.reduceLT, Option.bind_some, Option.bind_none, Option.map_some, Option.map_none, if_true, if_false, ite_true, ite_false, reduceCtorEq, decide_true, decide_false, Int.reducePow, Int.reduceToNat, Int.reduceMul, Int.reduceAdd, Int.reduceSub, Int.reduceNeg, Int.reduceLT, Int.reduceLE, List.map_append, List.map_cons, List.map_nil, g2m_ii, tLl, gInD_n, gInD_i, gInD_s, mmInsertu, g4maxu]) (by simp only [RD1, RD2, RD3, RD4, RD5, RD6, RD7, RD8, RD9, RD10, List.all_cons, List.all_nil, List.length_cons, List.length_nil, List.getElem?_cons_zero, List.getElem?_cons_succ, List.getElem?_nil, List.set_cons_zero, List.set_cons_succ, List.cons_append, List.nil_append, List.replicate_succ, List.replicate_zero, Nat.reduceAdd, Nat.reduceSub, Nat.reduceEqDiff, Nat.reduceLeDiff, Nat.reduceLT, Option.bind_some, Option.bind_none, Option.map_some, Option.map_none, if_true, if_false, ite_true, ite_false, reduceCtorEq, decide_true, decide_false, Int.reducePow, Int.reduceToNat, Int.reduceMul, Int.reduceAdd, Int.reduceSub, Int.reduceNeg, Int.reduceLT, Int.reduceLE, List.map_append, List.map_cons, List.map_nil, g2m_ii, tLl, gInD_n, gInD_i, gInD_s, mmInsertu, g4maxu]) (fun m _ => by simp only [RD1, RD2, RD3, RD4, RD5, RD6, RD7, RD8, RD9, RD10, List.all_cons, List.all_nil, List.length_cons, List.length_nil, List.getElem?_cons_zero, List.getElem?_cons_succ, List.getElem?_nil, List.set_cons_zero, List.set_cons_succ, List.cons_append, List.nil_append, List.replicate_succ, List.replicate_zero, Nat.reduceAdd, Nat.reduceSub, Nat.reduceEqDiff, Nat.reduceLeDiff, Nat.reduceLT, Option.bind_some, Option.bind_none, Option.map_some, Option.map_none, if_true, if_false, ite_true, ite_false, reduceCtorEq, decide_true, decide_false, Int.reducePow, Int.reduceToNat, Int.reduceMul, Int.reduceAdd, Int.reduceSub, Int.reduceNeg, Int.reduceLT, Int.reduceLE, List.map_append, List.map_cons, List.map_nil, g2m_ii, tLl, gInD_n, gInD_i, gInD_s, mmInsertu, g4maxu]) (fun i hi => by simp only [RD1, RD2, RD3, RD4, RD5, RD6, RD7, RD8, RD9, RD10, List.all_cons, List.all_nil, List.length_cons, List.length_nil, List.getElem?_cons_zero, List.getElem?_cons_succ, List.getElem?_nil, List.set_cons_zero, List.set_cons_succ, List.cons_append, List.nil_append, List.replicate_succ, List.replicate_zero, Nat.reduceAdd, Nat.reduceSub, Nat.reduceEqDiff, Nat.reduceLeDiff, Nat.reduceLT, Option.bind_some, Option.bind_none, Option.map_some, Option.map_none, if_true, if_false, ite_true, ite_false, reduceCtorEq, decide_true, decide_false, Int.reducePow, Int.reduceToNat, Int.reduceMul, Int.reduceAdd, Int.reduceSub, Int.reduceNeg, Int.reduceLT, Int.reduceLE, List.map_append, List.map_cons, List.map_nil, g2m_ii, tLl, gInD_n, gInD_i, gInD_s, mmInsertu, g4maxu, strI hk (h i hi)])]
    simp only [RD1, RD2, RD3, RD4, RD5, RD6, RD7, RD8, RD9, RD10, List.all_cons, List.all_nil, List.length_cons, List.length_nil, List.getElem?_cons_zero, List.getElem?_cons_succ, List.getElem?_nil, List.set_cons_zero, List.set_cons_succ, List.cons_append, List.nil_append, List.replicate_succ, List.replicate_zero, Nat.reduceAdd, Nat.reduceSub, Nat.reduceEqDiff, Nat.reduceLeDiff, Nat.reduceLT, Option.bind_some, Option.bind_none, Option.map_some, Option.map_none, if_true, if_false, ite_true, ite_false, reduceCtorEq, decide_true, decide_false, Int.reducePow, Int.reduceToNat, Int.reduceMul, Int.reduceAdd, Int.reduceSub, Int.reduceNeg, Int.reduceLT, Int.reduceLE, List.map_append, List.map_cons, List.map_nil, g2m_ii, tLl, gInD_n, gInD_i, gInD_s, mmInsertu, g4maxu, List.length_map, hl2, strs_m, hj, hsp]
theorem F_stext {d : D} {ts : List Int} {k : Nat} (hs : seqOf d = some (ts.map D.int)) (ha : ts.Pairwise (· < ·)) (hk0 : 0 < k) (hk : k ≤ 500) (hl : ts.length ≤ 3000) (h : ∀ t ∈ ts, t.natAbs < 10 ^ k) : F_stream_text [.im d] = .rt (.str (nbT ts)) [.im d] := by
  have hlen : gLen d = some (.int ts.length) := by
    rcases seqOf_some hs with rfl | rfl
    · show some (D.int (List.length _ : Nat)) = _
      rw [List.length_map]
    · show some (D.int (List.length _ : Nat)) = _
      rw [List.length_map]
  have hg := gt0 (ts := ts)
  have hc := F_check hs ha
  unfold F_stream_text b_stream_text
  by_cases h0 : ts = []
  · rw [decide_eq_false (not_not_intro h0)] at hg
    simp only [RD1, RD2, RD3, RD4, RD5, RD6, RD7, RD8, RD9, RD10, List.all_cons, List.all_nil, List.length_cons, List.length_nil, List.getElem?_cons_zero, List.getElem?_cons_succ, List.getElem?_nil, List.set_cons_zero, List.set_cons_succ, List.cons_append, List.nil_append, List.replicate_succ, List.replicate_zero, Nat.reduceAdd, Nat.reduceSub, Nat.reduceEqDiff, Nat.reduceLeDiff, Nat.reduceLT, Option.bind_some, Option.bind_none, Option.map_some, Option.map_none, if_true, if_false, ite_true, ite_false, reduceCtorEq, decide_true, decide_false, Int.reducePow, Int.reduceToNat, Int.reduceMul, Int.reduceAdd, Int.reduceSub, Int.reduceNeg, Int.reduceLT, Int.reduceLE, List.map_append, List.map_cons, List.map_nil, g2m_ii, tLl, gInD_n, gInD_i, gInD_s, mmInsertu, g4maxu, hc, hlen, hg]
    unfold nbT
    rw [if_pos h0]
  · rw [decide_eq_true h0] at hg
    have hj := F_jn hk0 hk hl h
    have hsp : nbT ts = Txt.join " " (ts.map zT) := by
      unfold nbT
      rw [if_neg h0, txt_join]
    have hl2 : ts.length ≤ 1000000 := by omega
    simp only [RD1, RD2, RD3, RD4, RD5, RD6, RD7, RD8, RD9, RD10, List.all_cons, List.all_nil, List.length_cons, List.length_nil, List.getElem?_cons_zero, List.getElem?_cons_succ, List.getElem?_nil, List.set_cons_zero, List.set_cons_succ, List.cons_append, List.nil_append, List.replicate_succ, List.replicate_zero, Nat.reduceAdd, Nat.reduceSub, Nat.reduceEqDiff, Nat.reduceLeDiff, Nat.reduceLT, Option.bind_some, Option.bind_none, Option.map_some, Option.map_none, if_true, if_false, ite_true, ite_false, reduceCtorEq, decide_true, decide_false, Int.reducePow, Int.reduceToNat, Int.reduceMul, Int.reduceAdd, Int.reduceSub, Int.reduceNeg, Int.reduceLT, Int.reduceLE, List.map_append, List.map_cons, List.map_nil, g2m_ii, tLl, gInD_n, gInD_i, gInD_s, mmInsertu, g4maxu, hc, hlen, hg, fJoin, hs]
    rw [lcL_all (fun i : Int => [D.int i]) (fun i => D.str (zT i)) (by simp only [RD1, RD2, RD3, RD4, RD5, RD6, RD7, RD8, RD9, RD10, List.all_cons, List.all_nil, List.length_cons, List.length_nil, List.getElem?_cons_zero, List.getElem?_cons_succ, List.getElem?_nil, List.set_cons_zero, List.set_cons_succ, List.cons_append, List.nil_append, List.replicate_succ, List.replicate_zero, Nat.reduceAdd, Nat.reduceSub, Nat.reduceEqDiff, Nat.reduceLeDiff, Nat.reduceLT, Option.bind_some, Option.bind_none, Option.map_some, Option.map_none, if_true, if_false, ite_true, ite_false, reduceCtorEq, decide_true, decide_false, Int.reducePow, Int.reduceToNat, Int.reduceMul, Int.reduceAdd, Int.reduceSub, Int.reduceNeg, Int.reduceLT, Int.reduceLE, List.map_append, List.map_cons, List.map_nil, g2m_ii, tLl, gInD_n, gInD_i, gInD_s, mmInsertu, g4maxu]) (by simp only [RD1, RD2, RD3, RD4, RD5, RD6, RD7, RD8, RD9, RD10, List.all_cons, List.all_nil, List.length_cons, List.length_nil, List.getElem?_cons_zero, List.getElem?_cons_succ, List.getElem?_nil, List.set_cons_zero, List.set_cons_succ, List.cons_append, List.nil_append, List.replicate_succ, List.replicate_zero, Nat.reduceAdd, Nat.reduceSub, Nat.reduceEqDiff, Nat.reduceLeDiff, Nat.reduceLT, Option.bind_some, Option.bind_none, Option.map_some, Option.map_none, if_true, if_false, ite_true, ite_false, reduceCtorEq, decide_true, decide_false, Int.reducePow, Int.reduceToNat, Int.reduceMul, Int.reduceAdd, Int.reduceSub, Int.reduceNeg, Int.reduceLT, Int.reduceLE, List.map_append, List.map_cons, List.map_nil, g2m_ii, tLl, gInD_n, gInD_i, gInD_s, mmInsertu, g4maxu]) (fun m _ => by simp only [RD1, RD2, RD3, RD4, RD5, RD6, RD7, RD8, RD9, RD10, List.all_cons, List.all_nil, List.length_cons, List.length_nil, List.getElem?_cons_zero, List.getElem?_cons_succ, List.getElem?_nil, List.set_cons_zero, List.set_cons_succ, List.cons_append, List.nil_append, List.replicate_succ, List.replicate_zero, Nat.reduceAdd, Nat.reduceSub, Nat.reduceEqDiff, Nat.reduceLeDiff, Nat.reduceLT, Option.bind_some, Option.bind_none, Option.map_some, Option.map_none, if_true, if_false, ite_true, ite_false, reduceCtorEq, decide_true, decide_false, Int.reducePow, Int.reduceToNat, Int.reduceMul, Int.reduceAdd, Int.reduceSub, Int.reduceNeg, Int.reduceLT, Int.reduceLE, List.map_append, List.map_cons, List.map_nil, g2m_ii, tLl, gInD_n, gInD_i, gInD_s, mmInsertu, g4maxu]) (fun i hi => by simp only [RD1, RD2, RD3, RD4, RD5, RD6, RD7, RD8, RD9, RD10, List.all_cons, List.all_nil, List.length_cons, List.length_nil, List.getElem?_cons_zero, List.getElem?_cons_succ, List.getElem?_nil, List.set_cons_zero, List.set_cons_succ, List.cons_append, List.nil_append, List.replicate_succ, List.replicate_zero, Nat.reduceAdd, Nat.reduceSub, Nat.reduceEqDiff, Nat.reduceLeDiff, Nat.reduceLT, Option.bind_some, Option.bind_none, Option.map_some, Option.map_none, if_true, if_false, ite_true, ite_false, reduceCtorEq, decide_true, decide_false, Int.reducePow, Int.reduceToNat, Int.reduceMul, Int.reduceAdd, Int.reduceSub, Int.reduceNeg, Int.reduceLT, Int.reduceLE, List.map_append, List.map_cons, List.map_nil, g2m_ii, tLl, gInD_n, gInD_i, gInD_s, mmInsertu, g4maxu, strI hk (h i hi)])]
    simp only [RD1, RD2, RD3, RD4, RD5, RD6, RD7, RD8, RD9, RD10, List.all_cons, List.all_nil, List.length_cons, List.length_nil, List.getElem?_cons_zero, List.getElem?_cons_succ, List.getElem?_nil, List.set_cons_zero, List.set_cons_succ, List.cons_append, List.nil_append, List.replicate_succ, List.replicate_zero, Nat.reduceAdd, Nat.reduceSub, Nat.reduceEqDiff, Nat.reduceLeDiff, Nat.reduceLT, Option.bind_some, Option.bind_none, Option.map_some, Option.map_none, if_true, if_false, ite_true, ite_false, reduceCtorEq, decide_true, decide_false, Int.reducePow, Int.reduceToNat, Int.reduceMul, Int.reduceAdd, Int.reduceSub, Int.reduceNeg, Int.reduceLT, Int.reduceLE, List.map_append, List.map_cons, List.map_nil, g2m_ii, tLl, gInD_n, gInD_i, gInD_s, mmInsertu, g4maxu, List.length_map, hl2, strs_m, hj, hsp]
theorem F_nfrom {ts : List Int} (p : D) (b : Bool) (h : ∀ t ∈ ts, NumOk t) (hl : (nbT ts).length ≤ 100000) (hl2 : ts.length ≤ 1000000) : F_numbers_from [.im (.str (nbT ts)), .im p, .im (.bl b)] = .ro (zD ts) [.im (.str (nbT ts)), .im p, .im (.bl b)] := by
  have he := eqS (nbT_ok ts) none_ok
  unfold F_numbers_from b_numbers_from
  cases ts with
  | nil =>
    rw [decide_eq_true (show nbT [] = "none" from rfl)] at he
    simp only [RD1, RD2, RD3, RD4, RD5, RD6, RD7, RD8, RD9, RD10, List.all_cons, List.all_nil, List.length_cons, List.length_nil, List.getElem?_cons_zero, List.getElem?_cons_succ, List.getElem?_nil, List.set_cons_zero, List.set_cons_succ, List.cons_append, List.nil_append, List.replicate_succ, List.replicate_zero, Nat.reduceAdd, Nat.reduceSub, Nat.reduceEqDiff, Nat.reduceLeDiff, Nat.reduceLT, Option.bind_some, Option.bind_none, Option.map_some, Option.map_none, if_true, if_false, ite_true, ite_false, reduceCtorEq, decide_true, decide_false, Int.reducePow, Int.reduceToNat, Int.reduceMul, Int.reduceAdd, Int.reduceSub, Int.reduceNeg, Int.reduceLT, Int.reduceLE, List.map_append, List.map_cons, List.map_nil, g2m_ii, tLl, gInD_n, gInD_i, gInD_s, mmInsertu, g4maxu, he]
    rfl
  | cons t ts =>
    rw [decide_eq_false nbT_ne] at he
    have hb : ((" " : Str).length == 0) = false := by decide +kernel
    have hsp : Txt.split (nbT (t :: ts)) " " = (t :: ts).map zT := by
      have : nbT (t :: ts) = (" " : Str).join (zT t :: ts.map zT) := by
        unfold nbT
        rw [if_neg (by simp), List.map_cons]
      rw [this, split_join (c0 := 32) (o := 0) (by rw [sg_blank]; rfl) (fun j hj => absurd hj (Nat.not_lt_zero _)) (by decide +kernel), List.map_cons]
      intro p hp hc
      rw [← List.map_cons] at hp
      obtain ⟨x, _, rfl⟩ := List.mem_map.mp hp
      have := zT_sign hc
      omega
    generalize t :: ts = us at *
    have hen : enD ((us.map zT).map D.str) = us.zipIdx.map fun q => D.tup [.int (q.2 : Nat), .str (zT q.1)] := by
      rw [List.map_map]
      exact enD_map
    simp only [RD1, RD2, RD3, RD4, RD5, RD6, RD7, RD8, RD9, RD10, List.all_cons, List.all_nil, List.length_cons, List.length_nil, List.getElem?_cons_zero, List.getElem?_cons_succ, List.getElem?_nil, List.set_cons_zero, List.set_cons_succ, List.cons_append, List.nil_append, List.replicate_succ, List.replicate_zero, Nat.reduceAdd, Nat.reduceSub, Nat.reduceEqDiff, Nat.reduceLeDiff, Nat.reduceLT, Option.bind_some, Option.bind_none, Option.map_some, Option.map_none, if_true, if_false, ite_true, ite_false, reduceCtorEq, decide_true, decide_false, Int.reducePow, Int.reduceToNat, Int.reduceMul, Int.reduceAdd, Int.reduceSub, Int.reduceNeg, Int.reduceLT, Int.reduceLE, List.map_append, List.map_cons, List.map_nil, g2m_ii, tLl, gInD_n, gInD_i, gInD_s, mmInsertu, g4maxu, he, fSplit, hb, hl, hsp, hen]
    rw [lcL_all (fun q : Int × Nat => [.int (q.2 : Nat), .str (zT q.1)]) (fun q => D.int q.1) (by simp only [RD1, RD2, RD3, RD4, RD5, RD6, RD7, RD8, RD9, RD10, List.all_cons, List.all_nil, List.length_cons, List.length_nil, List.getElem?_cons_zero, List.getElem?_cons_succ, List.getElem?_nil, List.set_cons_zero, List.set_cons_succ, List.cons_append, List.nil_append, List.replicate_succ, List.replicate_zero, Nat.reduceAdd, Nat.reduceSub, Nat.reduceEqDiff, Nat.reduceLeDiff, Nat.reduceLT, Option.bind_some, Option.bind_none, Option.map_some, Option.map_none, if_true, if_false, ite_true, ite_false, reduceCtorEq, decide_true, decide_false, Int.reducePow, Int.reduceToNat, Int.reduceMul, Int.reduceAdd, Int.reduceSub, Int.reduceNeg, Int.reduceLT, Int.reduceLE, List.map_append, List.map_cons, List.map_nil, g2m_ii, tLl, gInD_n, gInD_i, gInD_s, mmInsertu, g4maxu]) (by simp only [RD1, RD2, RD3, RD4, RD5, RD6, RD7, RD8, RD9, RD10, List.all_cons, List.all_nil, List.length_cons, List.length_nil, List.getElem?_cons_zero, List.getElem?_cons_succ, List.getElem?_nil, List.set_cons_zero, List.set_cons_succ, List.cons_append, List.nil_append, List.replicate_succ, List.replicate_zero, Nat.reduceAdd, Nat.reduceSub, Nat.reduceEqDiff, Nat.reduceLeDiff, Nat.reduceLT, Option.bind_some, Option.bind_none, Option.map_some, Option.map_none, if_true, if_false, ite_true, ite_false, reduceCtorEq, decide_true, decide_false, Int.reducePow, Int.reduceToNat, Int.reduceMul, Int.reduceAdd, Int.reduceSub, Int.reduceNeg, Int.reduceLT, Int.reduceLE, List.map_append, List.map_cons, List.map_nil, g2m_ii, tLl, gInD_n, gInD_i, gInD_s, mmInsertu, g4maxu]) (fun m _ => by simp only [RD1, RD2, RD3, RD4, RD5, RD6, RD7, RD8, RD9, RD10, List.all_cons, List.all_nil, List.length_cons, List.length_nil, List.getElem?_cons_zero, List.getElem?_cons_succ, List.getElem?_nil, List.set_cons_zero, List.set_cons_succ, List.cons_append, List.nil_append, List.replicate_succ, List.replicate_zero, Nat.reduceAdd, Nat.reduceSub, Nat.reduceEqDiff, Nat.reduceLeDiff, Nat.reduceLT, Option.bind_some, Option.bind_none, Option.map_some, Option.map_none, if_true, if_false, ite_true, ite_false, reduceCtorEq, decide_true, decide_false, Int.reducePow, Int.reduceToNat, Int.reduceMul, Int.reduceAdd, Int.reduceSub, Int.reduceNeg, Int.reduceLT, Int.reduceLE, List.map_append, List.map_cons, List.map_nil, g2m_ii, tLl, gInD_n, gInD_i, gInD_s, mmInsertu, g4maxu]) (fun q hq => by
      have hq2 := h q.1 (List.fst_mem_of_mem_zipIdx hq)
      cases b with
      | true => simp only [RD1, RD2, RD3, RD4, RD5, RD6, RD7, RD8, RD9, RD10, List.all_cons, List.all_nil, List.length_cons, List.length_nil, List.getElem?_cons_zero, List.getElem?_cons_succ, List.getElem?_nil, List.set_cons_zero, List.set_cons_succ, List.cons_append, List.nil_append, List.replicate_succ, List.replicate_zero, Nat.reduceAdd, Nat.reduceSub, Nat.reduceEqDiff, Nat.reduceLeDiff, Nat.reduceLT, Option.bind_some, Option.bind_none, Option.map_some, Option.map_none, if_true, if_false, ite_true, ite_false, reduceCtorEq, decide_true, decide_false, Int.reducePow, Int.reduceToNat, Int.reduceMul, Int.reduceAdd, Int.reduceSub, Int.reduceNeg, Int.reduceLT, Int.reduceLE, List.map_append, List.map_cons, List.map_nil, g2m_ii, tLl, gInD_n, gInD_i, gInD_s, mmInsertu, g4maxu, F_rnum hq2 (.int (q.2 : Nat))]
      | false => simp only [RD1, RD2, RD3, RD4, RD5, RD6, RD7, RD8, RD9, RD10, List.all_cons, List.all_nil, List.length_cons, List.length_nil, List.getElem?_cons_zero, List.getElem?_cons_succ, List.getElem?_nil, List.set_cons_zero, List.set_cons_succ, List.cons_append, List.nil_append, List.replicate_succ, List.replicate_zero, Nat.reduceAdd, Nat.reduceSub, Nat.reduceEqDiff, Nat.reduceLeDiff, Nat.reduceLT, Option.bind_some, Option.bind_none, Option.map_some, Option.map_none, if_true, if_false, ite_true, ite_false, reduceCtorEq, decide_true, decide_false, Int.reducePow, Int.reduceToNat, Int.reduceMul, Int.reduceAdd, Int.reduceSub, Int.reduceNeg, Int.reduceLT, Int.reduceLE, List.map_append, List.map_cons, List.map_nil, g2m_ii, tLl, gInD_n, gInD_i, gInD_s, mmInsertu, g4maxu, F_rnum hq2 p])]
    simp only [RD1, RD2, RD3, RD4, RD5, RD6, RD7, RD8, RD9, RD10, List.all_cons, List.all_nil, List.length_cons, List.length_nil, List.getElem?_cons_zero, List.getElem?_cons_succ, List.getElem?_nil, List.set_cons_zero, List.set_cons_succ, List.cons_append, List.nil_append, List.replicate_succ, List.replicate_zero, Nat.reduceAdd, Nat.reduceSub, Nat.reduceEqDiff, Nat.reduceLeDiff, Nat.reduceLT, Option.bind_some, Option.bind_none, Option.map_some, Option.map_none, if_true, if_false, ite_true, ite_false, reduceCtorEq, decide_true, decide_false, Int.reducePow, Int.reduceToNat, Int.reduceMul, Int.reduceAdd, Int.reduceSub, Int.reduceNeg, Int.reduceLT, Int.reduceLE, List.map_append, List.map_cons, List.map_nil, g2m_ii, tLl, gInD_n, gInD_i, gInD_s, mmInsertu, g4maxu, zip_fst D.int, List.length_map, List.length_zipIdx, hl2]
    rfl
theorem F_rstream {ts : List Int} (ha : ts.Pairwise (· < ·)) (h : ∀ t ∈ ts, NumOk t) (hl : (nbT ts).length ≤ 100000) (hl2 : ts.length ≤ 1000000) : F_read_stream [.im (.str (nbT ts))] = .rt (zD ts) [.im (.str (nbT ts))] := by
  have h1 := F_nfrom (.int 0) true h hl hl2
  have h2 := F_check (d := zD ts) (ts := ts) rfl ha
  unfold F_read_stream b_read_stream
  simp only [RD1, RD2, RD3, RD4, RD5, RD6, RD7, RD8, RD9, RD10, List.all_cons, List.all_nil, List.length_cons, List.length_nil, List.getElem?_cons_zero, List.getElem?_cons_succ, List.getElem?_nil, List.set_cons_zero, List.set_cons_succ, List.cons_append, List.nil_append, List.replicate_succ, List.replicate_zero, Nat.reduceAdd, Nat.reduceSub, Nat.reduceEqDiff, Nat.reduceLeDiff, Nat.reduceLT, Option.bind_some, Option.bind_none, Option.map_some, Option.map_none, if_true, if_false, ite_true, ite_false, reduceCtorEq, decide_true, decide_false, Int.reducePow, Int.reduceToNat, Int.reduceMul, Int.reduceAdd, Int.reduceSub, Int.reduceNeg, Int.reduceLT, Int.reduceLE, List.map_append, List.map_cons, List.map_nil, g2m_ii, tLl, gInD_n, gInD_i, gInD_s, mmInsertu, g4maxu, chk_s, h1, h2]

def tD (f : Int) (h b : List Int) (r : Int) (e : List Int) : D := .ins "Train" ["first", "head", "block", "rounds", "end"] [.int f, .tup (h.map D.int), .tup (b.map D.int), .int r, .tup (e.map D.int)]
theorem F_gaps {ts : List Int} (hl : ts.length ≤ 1000000) (h : ∀ t ∈ ts, 1 ≤ t) : F_are_gaps [.im (zD ts)] = .rt (.bl true) [.im (zD ts)] := by
  have hi : gIsi tb [.ty "list", .ty "tuple"] (zD ts) = some (.bl true) := rfl
  have hbl : blsOf (ts.map fun _ => D.bl true) = some (ts.map fun _ => true) := by
    induction ts with
    | nil => rfl
    | cons x xs ih =>
      show (match blsOf (xs.map fun _ => D.bl true) with | some bs => some (true :: bs) | none => none) = _
      rw [ih (by rw [List.length_cons] at hl; omega) (fun t ht => h t (List.mem_cons_of_mem _ ht)) rfl]
      rfl
  have ha : gAll (.lst (ts.map fun _ => D.bl true)) = some (.bl true) := by
    unfold gAll
    dsimp only
    rw [hbl]
    dsimp only
    congr 2
    rw [List.all_map]
    exact List.all_eq_true.mpr fun _ _ => rfl
  unfold F_are_gaps b_are_gaps
  simp only [RD1, RD2, RD3, RD4, RD5, RD6, RD7, RD8, RD9, RD10, List.all_cons, List.all_nil, List.length_cons, List.length_nil, List.getElem?_cons_zero, List.getElem?_cons_succ, List.getElem?_nil, List.set_cons_zero, List.set_cons_succ, List.cons_append, List.nil_append, List.replicate_succ, List.replicate_zero, Nat.reduceAdd, Nat.reduceSub, Nat.reduceEqDiff, Nat.reduceLeDiff, Nat.reduceLT, Option.bind_some, Option.bind_none, Option.map_some, Option.map_none, if_true, if_false, ite_true, ite_false, reduceCtorEq, decide_true, decide_false, Int.reducePow, Int.reduceToNat, Int.reduceMul, Int.reduceAdd, Int.reduceSub, Int.reduceNeg, Int.reduceLT, Int.reduceLE, List.map_append, List.map_cons, List.map_nil, g2m_ii, tLl, gInD_n, gInD_i, gInD_s, mmInsertu, g4maxu, hi]
  have hs : zD ts = .lst (ts.map D.int) := rfl
  rw [hs]
  simp only [RD1, RD2, RD3, RD4, RD5, RD6, RD7, RD8, RD9, RD10, List.all_cons, List.all_nil, List.length_cons, List.length_nil, List.getElem?_cons_zero, List.getElem?_cons_succ, List.getElem?_nil, List.set_cons_zero, List.set_cons_succ, List.cons_append, List.nil_append, List.replicate_succ, List.replicate_zero, Nat.reduceAdd, Nat.reduceSub, Nat.reduceEqDiff, Nat.reduceLeDiff, Nat.reduceLT, Option.bind_some, Option.bind_none, Option.map_some, Option.map_none, if_true, if_false, ite_true, ite_false, reduceCtorEq, decide_true, decide_false, Int.reducePow, Int.reduceToNat, Int.reduceMul, Int.reduceAdd, Int.reduceSub, Int.reduceNeg, Int.reduceLT, Int.reduceLE, List.map_append, List.map_cons, List.map_nil, g2m_ii, tLl, gInD_n, gInD_i, gInD_s, mmInsertu, g4maxu]
  rw [lcL_all (fun i : Int => [D.int i]) (fun i => D.bl true) (by simp only [RD1, RD2, RD3, RD4, RD5, RD6, RD7, RD8, RD9, RD10, List.all_cons, List.all_nil, List.length_cons, List.length_nil, List.getElem?_cons_zero, List.getElem?_cons_succ, List.getElem?_nil, List.set_cons_zero, List.set_cons_succ, List.cons_append, List.nil_append, List.replicate_succ, List.replicate_zero, Nat.reduceAdd, Nat.reduceSub, Nat.reduceEqDiff, Nat.reduceLeDiff, Nat.reduceLT, Option.bind_some, Option.bind_none, Option.map_some, Option.map_none, if_true, if_false, ite_true, ite_false, reduceCtorEq, decide_true, decide_false, Int.reducePow, Int.reduceToNat, Int.reduceMul, Int.reduceAdd, Int.reduceSub, Int.reduceNeg, Int.reduceLT, Int.reduceLE, List.map_append, List.map_cons, List.map_nil, g2m_ii, tLl, gInD_n, gInD_i, gInD_s, mmInsertu, g4maxu]) (by simp only [RD1, RD2, RD3, RD4, RD5, RD6, RD7, RD8, RD9, RD10, List.all_cons, List.all_nil, List.length_cons, List.length_nil, List.getElem?_cons_zero, List.getElem?_cons_succ, List.getElem?_nil, List.set_cons_zero, List.set_cons_succ, List.cons_append, List.nil_append, List.replicate_succ, List.replicate_zero, Nat.reduceAdd, Nat.reduceSub, Nat.reduceEqDiff, Nat.reduceLeDiff, Nat.reduceLT, Option.bind_some, Option.bind_none, Option.map_some, Option.map_none, if_true, if_false, ite_true, ite_false, reduceCtorEq, decide_true, decide_false, Int.reducePow, Int.reduceToNat, Int.reduceMul, Int.reduceAdd, Int.reduceSub, Int.reduceNeg, Int.reduceLT, Int.reduceLE, List.map_append, List.map_cons, List.map_nil, g2m_ii, tLl, gInD_n, gInD_i, gInD_s, mmInsertu, g4maxu]) (fun m _ => by simp only [RD1, RD2, RD3, RD4, RD5, RD6, RD7, RD8, RD9, RD10, List.all_cons, List.all_nil, List.length_cons, List.length_nil, List.getElem?_cons_zero, List.getElem?_cons_succ, List.getElem?_nil, List.set_cons_zero, List.set_cons_succ, List.cons_append, List.nil_append, List.replicate_succ, List.replicate_zero, Nat.reduceAdd, Nat.reduceSub, Nat.reduceEqDiff, Nat.reduceLeDiff, Nat.reduceLT, Option.bind_some, Option.bind_none, Option.map_some, Option.map_none, if_true, if_false, ite_true, ite_false, reduceCtorEq, decide_true, decide_false, Int.reducePow, Int.reduceToNat, Int.reduceMul, Int.reduceAdd, Int.reduceSub, Int.reduceNeg, Int.reduceLT, Int.reduceLE, List.map_append, List.map_cons, List.map_nil, g2m_ii, tLl, gInD_n, gInD_i, gInD_s, mmInsertu, g4maxu]) (fun i hi => by
    have h1 : 1 ≤ i := h i hi
    simp only [RD1, RD2, RD3, RD4, RD5, RD6, RD7, RD8, RD9, RD10, List.all_cons, List.all_nil, List.length_cons, List.length_nil, List.getElem?_cons_zero, List.getElem?_cons_succ, List.getElem?_nil, List.set_cons_zero, List.set_cons_succ, List.cons_append, List.nil_append, List.replicate_succ, List.replicate_zero, Nat.reduceAdd, Nat.reduceSub, Nat.reduceEqDiff, Nat.reduceLeDiff, Nat.reduceLT, Option.bind_some, Option.bind_none, Option.map_some, Option.map_none, if_true, if_false, ite_true, ite_false, reduceCtorEq, decide_true, decide_false, Int.reducePow, Int.reduceToNat, Int.reduceMul, Int.reduceAdd, Int.reduceSub, Int.reduceNeg, Int.reduceLT, Int.reduceLE, List.map_append, List.map_cons, List.map_nil, g2m_ii, tLl, gInD_n, gInD_i, gInD_s, mmInsertu, g4maxu, F_number_int, h1])]
  simp only [RD1, RD2, RD3, RD4, RD5, RD6, RD7, RD8, RD9, RD10, List.all_cons, List.all_nil, List.length_cons, List.length_nil, List.getElem?_cons_zero, List.getElem?_cons_succ, List.getElem?_nil, List.set_cons_zero, List.set_cons_succ, List.cons_append, List.nil_append, List.replicate_succ, List.replicate_zero, Nat.reduceAdd, Nat.reduceSub, Nat.reduceEqDiff, Nat.reduceLeDiff, Nat.reduceLT, Option.bind_some, Option.bind_none, Option.map_some, Option.map_none, if_true, if_false, ite_true, ite_false, reduceCtorEq, decide_true, decide_false, Int.reducePow, Int.reduceToNat, Int.reduceMul, Int.reduceAdd, Int.reduceSub, Int.reduceNeg, Int.reduceLT, Int.reduceLE, List.map_append, List.map_cons, List.map_nil, g2m_ii, tLl, gInD_n, gInD_i, gInD_s, mmInsertu, g4maxu, List.length_map, hl, ha]
structure GpOk (ts : List Int) : Prop where
  len : ts.length ≤ 100
  one : ∀ t ∈ ts, 1 ≤ t
theorem M_train {f r : Int} {h b e : List Int} (gh : GpOk h) (gb : GpOk b) (ge : GpOk e) (hr : 0 ≤ r) {ev : Ev} : makeF "Train" F_Train___init__ [.im (.int f), .im (zD h), .im (zD b), .im (.int r), .im (zD e)] ev = .ok (tD f h b r e) ev := by
  have h1 := F_gaps (ts := h) (by have := gh.len; omega) gh.one
  have h2 := F_gaps (ts := b) (by have := gb.len; omega) gb.one
  have h3 := F_gaps (ts := e) (by have := ge.len; omega) ge.one
  have hr' : ¬ r < 0 := by omega
  have f1 : fldOk tb "first" (.ins "Train" [] []) = true := rfl
  have f2 : ∀ a, fldOk tb "head" (.ins "Train" ["first"] [a]) = true := fun _ => rfl
  have f3 : ∀ a b, fldOk tb "block" (.ins "Train" ["first", "head"] [a, b]) = true := fun _ _ => rfl
  have f4 : ∀ a b c, fldOk tb "rounds" (.ins "Train" ["first", "head", "block"] [a, b, c]) = true := fun _ _ _ => rfl
  have f5 : ∀ a b c d, fldOk tb "end" (.ins "Train" ["first", "head", "block", "rounds"] [a, b, c, d]) = true := fun _ _ _ _ => rfl
  have p1 : TL.putD "first" (.int f) [] [] = ((["first"], [D.int f]) : List Str × List D) := rfl
  have p2 : ∀ a d, TL.putD "head" d ["first"] [a] = ((["first", "head"], [a, d]) : List Str × List D) := fun _ _ => rfl
  have p3 : ∀ a b d, TL.putD "block" d ["first", "head"] [a, b] = ((["first", "head", "block"], [a, b, d]) : List Str × List D) := fun _ _ _ => rfl
  have p4 : ∀ a b c d, TL.putD "rounds" d ["first", "head", "block"] [a, b, c] = ((["first", "head", "block", "rounds"], [a, b, c, d]) : List Str × List D) := fun _ _ _ _ => rfl
  have p5 : ∀ a b c z d, TL.putD "end" d ["first", "head", "block", "rounds"] [a, b, c, z] = ((["first", "head", "block", "rounds", "end"], [a, b, c, z, d]) : List Str × List D) := fun _ _ _ _ _ => rfl
  have t1 : ∀ ts : List Int, gTupOf (zD ts) = some (.tup (ts.map D.int)) := fun _ => rfl
  have hF : F_Train___init__ [.ow true (.ins "Train" [] []), .im (.int f), .im (zD h), .im (zD b), .im (.int r), .im (zD e)] = .rt .non [.ow true (tD f h b r e), .im (.int f), .im (zD h), .im (zD b), .im (.int r), .im (zD e)] := by
    unfold F_Train___init__ b_Train___init__
    simp only [RD1, RD2, RD3, RD4, RD5, RD6, RD7, RD8, RD9, RD10, List.all_cons, List.all_nil, List.length_cons, List.length_nil, List.getElem?_cons_zero, List.getElem?_cons_succ, List.getElem?_nil, List.set_cons_zero, List.set_cons_succ, List.cons_append, List.nil_append, List.replicate_succ, List.replicate_zero, Nat.reduceAdd, Nat.reduceSub, Nat.reduceEqDiff, Nat.reduceLeDiff, Nat.reduceLT, Option.bind_some, Option.bind_none, Option.map_some, Option.map_none, if_true, if_false, ite_true, ite_false, reduceCtorEq, decide_true, decide_false, Int.reducePow, Int.reduceToNat, Int.reduceMul, Int.reduceAdd, Int.reduceSub, Int.reduceNeg, Int.reduceLT, Int.reduceLE, List.map_append, List.map_cons, List.map_nil, g2m_ii, tLl, gInD_n, gInD_i, gInD_s, mmInsertu, g4maxu, F_number_int, h1, h2, h3, hr', f1, f2, f3, f4, f5, p1, p2, p3, p4, p5, t1]
    rfl
  simp only [RD1, RD2, RD3, RD4, RD5, RD6, RD7, RD8, RD9, RD10, List.all_cons, List.all_nil, List.length_cons, List.length_nil, List.getElem?_cons_zero, List.getElem?_cons_succ, List.getElem?_nil, List.set_cons_zero, List.set_cons_succ, List.cons_append, List.nil_append, List.replicate_succ, List.replicate_zero, Nat.reduceAdd, Nat.reduceSub, Nat.reduceEqDiff, Nat.reduceLeDiff, Nat.reduceLT, Option.bind_some, Option.bind_none, Option.map_some, Option.map_none, if_true, if_false, ite_true, ite_false, reduceCtorEq, decide_true, decide_false, Int.reducePow, Int.reduceToNat, Int.reduceMul, Int.reduceAdd, Int.reduceSub, Int.reduceNeg, Int.reduceLT, Int.reduceLE, List.map_append, List.map_cons, List.map_nil, g2m_ii, tLl, gInD_n, gInD_i, gInD_s, mmInsertu, g4maxu, makeF_eq, hF]
def trT (f : Int) (h b : List Int) (r : Int) (e : List Int) : Str := (" | " : Str).join [zT f, nbT h, nbT b, zT r, nbT e]
structure TrOk (k : Nat) (f : Int) (h b : List Int) (r : Int) (e : List Int) : Prop where
  gh : GpOk h
  gb : GpOk b
  ge : GpOk e
  r0 : 0 ≤ r
  f1 : f.natAbs < 10 ^ k
  h1 : ∀ t ∈ h, t.natAbs < 10 ^ k
  b1 : ∀ t ∈ b, t.natAbs < 10 ^ k
  r1 : r.natAbs < 10 ^ k
  e1 : ∀ t ∈ e, t.natAbs < 10 ^ k
theorem trT_lenZ {k : Nat} {f : Int} {h b : List Int} {r : Int} {e : List Int} (hk0 : 0 < k) (hk : k ≤ 100) (o : TrOk k f h b r e) : lenZ [zT f, nbT h, nbT b, zT r, nbT e] + [zT f, nbT h, nbT b, zT r, nbT e].length * (" | " : Str).length ≤ 40000 := by
  have a1 := zT_len hk0 o.f1
  have a2 := zT_len hk0 o.r1
  have a3 := nbT_len hk0 o.h1
  have a4 := nbT_len hk0 o.b1
  have a5 := nbT_len hk0 o.e1
  have b3 : h.length * (k + 2) ≤ 100 * 102 := Nat.mul_le_mul o.gh.len (by omega)
  have b4 : b.length * (k + 2) ≤ 100 * 102 := Nat.mul_le_mul o.gb.len (by omega)
  have b5 : e.length * (k + 2) ≤ 100 * 102 := Nat.mul_le_mul o.ge.len (by omega)
  rw [len_pp]
  show ((zT f).length + ((nbT h).length + ((nbT b).length + ((zT r).length + ((nbT e).length + 0))))) + 5 * 3 ≤ 40000
  omega
theorem F_trtext {k : Nat} {f : Int} {h b : List Int} {r : Int} {e : List Int} (hk0 : 0 < k) (hk : k ≤ 100) (o : TrOk k f h b r e) : F_train_text [.im (tD f h b r e)] = .rt (.str (trT f h b r e)) [.im (tD f h b r e)] := by
  have g1 : gFld tb "first" (tD f h b r e) = some (.int f) := rfl
  have g2 : gFld tb "head" (tD f h b r e) = some (.tup (h.map D.int)) := rfl
  have g3 : gFld tb "block" (tD f h b r e) = some (.tup (b.map D.int)) := rfl
  have g4 : gFld tb "rounds" (tD f h b r e) = some (.int r) := rfl
  have g5 : gFld tb "end" (tD f h b r e) = some (.tup (e.map D.int)) := rfl
  have s1 := strI (k := k) (by omega) o.f1
  have s2 := strI (k := k) (by omega) o.r1
  have t1 := F_gtext (d := .tup (h.map D.int)) (ts := h) rfl hk0 (by omega) (by have := o.gh.len; omega) o.h1
  have t2 := F_gtext (d := .tup (b.map D.int)) (ts := b) rfl hk0 (by omega) (by have := o.gb.len; omega) o.b1
  have t3 := F_gtext (d := .tup (e.map D.int)) (ts := e) rfl hk0 (by omega) (by have := o.ge.len; omega) o.e1
  have hs : strsJ [D.str (zT f), .str (nbT h), .str (nbT b), .str (zT r), .str (nbT e)] = some [zT f, nbT h, nbT b, zT r, nbT e] := rfl
  have hl : lenZ [zT f, nbT h, nbT b, zT r, nbT e] + 5 * (" | " : Str).length ≤ 16777216 := by
    have := trT_lenZ hk0 hk o
    have h2 : [zT f, nbT h, nbT b, zT r, nbT e].length = 5 := rfl
    rw [h2] at this
    omega
  unfold F_train_text b_train_text
  simp only [RD1, RD2, RD3, RD4, RD5, RD6, RD7, RD8, RD9, RD10, List.all_cons, List.all_nil, List.length_cons, List.length_nil, List.getElem?_cons_zero, List.getElem?_cons_succ, List.getElem?_nil, List.set_cons_zero, List.set_cons_succ, List.cons_append, List.nil_append, List.replicate_succ, List.replicate_zero, Nat.reduceAdd, Nat.reduceSub, Nat.reduceEqDiff, Nat.reduceLeDiff, Nat.reduceLT, Option.bind_some, Option.bind_none, Option.map_some, Option.map_none, if_true, if_false, ite_true, ite_false, reduceCtorEq, decide_true, decide_false, Int.reducePow, Int.reduceToNat, Int.reduceMul, Int.reduceAdd, Int.reduceSub, Int.reduceNeg, Int.reduceLT, Int.reduceLE, List.map_append, List.map_cons, List.map_nil, g2m_ii, tLl, gInD_n, gInD_i, gInD_s, mmInsertu, g4maxu, g1, g2, g3, g4, g5, s1, s2, t1, t2, t3, fJoin, hs, hl, txt_join]
  rfl
theorem trT_ok (f : Int) (h b : List Int) (r : Int) (e : List Int) : PySem.PyData.strOk (trT f h b r e) = true := strOk_of fun c hc => by
  rcases sg_join_mem hc with q | ⟨x, hx, q⟩
  · rw [sg_pp] at q
    simp only [List.mem_cons, List.not_mem_nil, or_false] at q
    omega
  · simp only [List.mem_cons, List.not_mem_nil, or_false] at hx
    rcases hx with rfl | rfl | rfl | rfl | rfl
    · exact sign_lt c q
    · rcases nbT_sign q with ⟨_, z⟩ | ⟨_, z⟩ <;> omega
    · rcases nbT_sign q with ⟨_, z⟩ | ⟨_, z⟩ <;> omega
    · exact sign_lt c q
    · rcases nbT_sign q with ⟨_, z⟩ | ⟨_, z⟩ <;> omega
theorem F_rtrain {f : Int} {h b : List Int} {r : Int} {e : List Int} (o : TrOk 60 f h b r e) : F_read_train [.im (.str (trT f h b r e))] = .rt (tD f h b r e) [.im (.str (trT f h b r e))] := by
  have hb : ((" | " : Str).length == 0) = false := by decide +kernel
  have hlz := trT_lenZ (by decide) (by decide) o
  have hln : (trT f h b r e).length ≤ 100000 := by
    have h2 := join_len (" | " : Str) [zT f, nbT h, nbT b, zT r, nbT e]
    unfold trT
    omega
  have hsp : Txt.split (trT f h b r e) " | " = [zT f, nbT h, nbT b, zT r, nbT e] := by
    unfold trT
    refine split_join (c0 := 124) (o := 1) (by rw [sg_pp]; rfl) (fun j hj => ?_) (by decide +kernel) _ _ fun p hp hc => ?_
    · have : j = 0 := by omega
      rw [this, sg_pp]
      decide
    · simp only [List.mem_cons, List.not_mem_nil, or_false] at hp
      rcases hp with rfl | rfl | rfl | rfl | rfl
      · have := zT_sign hc; omega
      · rcases nbT_sign hc with ⟨_, z⟩ | ⟨_, z⟩ <;> omega
      · rcases nbT_sign hc with ⟨_, z⟩ | ⟨_, z⟩ <;> omega
      · have := zT_sign hc; omega
      · rcases nbT_sign hc with ⟨_, z⟩ | ⟨_, z⟩ <;> omega
  have sl : ∀ {ts : List Int}, GpOk ts → (∀ t ∈ ts, t.natAbs < 10 ^ 60) → (nbT ts).length ≤ 100000 := fun {ts} g h => by
    have a3 := nbT_len (k := 60) (by decide) h
    have b3 : ts.length * (60 + 2) ≤ 100 * 62 := Nat.mul_le_mul g.len (by omega)
    omega
  have n1 := F_rnum o.f1 (.int 0)
  have n4 := F_rnum o.r1 (.int 3)
  have n2 := F_nfrom (ts := h) (.int 1) false o.h1 (sl o.gh o.h1) (by have := o.gh.len; omega)
  have n3 := F_nfrom (ts := b) (.int 2) false o.b1 (sl o.gb o.b1) (by have := o.gb.len; omega)
  have n5 := F_nfrom (ts := e) (.int 4) false o.e1 (sl o.ge o.e1) (by have := o.ge.len; omega)
  have hcut : cutD [D.str (zT f), .str (nbT h), .str (nbT b), .str (zT r), .str (nbT e)] none (some 5) = [D.str (zT f), .str (nbT h), .str (nbT b), .str (zT r), .str (nbT e)] := by
    rw [show (5 : Int) = ((5 : Nat) : Int) from rfl, cut_to]
    rfl
  have hen : enD [D.str (zT f), .str (nbT h), .str (nbT b), .str (zT r), .str (nbT e)] = [.tup [.int 0, .str (zT f)], .tup [.int 1, .str (nbT h)], .tup [.int 2, .str (nbT b)], .tup [.int 3, .str (zT r)], .tup [.int 4, .str (nbT e)]] := rfl
  have i0 : gIn (.int 0) (.tup [.int 0, .int 3]) = some (.bl true) := rfl
  have i1 : gIn (.int 1) (.tup [.int 0, .int 3]) = some (.bl false) := rfl
  have i2 : gIn (.int 2) (.tup [.int 0, .int 3]) = some (.bl false) := rfl
  have i3 : gIn (.int 3) (.tup [.int 0, .int 3]) = some (.bl true) := rfl
  have i4 : gIn (.int 4) (.tup [.int 0, .int 3]) = some (.bl false) := rfl
  have hz : ∀ ts : List Int, zD ts = .lst (ts.map D.int) := fun _ => rfl
  have x0 : atI [D.int f, zD h, zD b, .int r, zD e] (0 : Int) = some (.int f) := rfl
  have x1 : atI [D.int f, zD h, zD b, .int r, zD e] (1 : Int) = some (zD h) := rfl
  have x2 : atI [D.int f, zD h, zD b, .int r, zD e] (2 : Int) = some (zD b) := rfl
  have x3 : atI [D.int f, zD h, zD b, .int r, zD e] (3 : Int) = some (.int r) := rfl
  have x4 : atI [D.int f, zD h, zD b, .int r, zD e] (4 : Int) = some (zD e) := rfl
  have hmk := fun ev => M_train o.gh o.gb o.ge o.r0 (f := f) (ev := ev)
  unfold F_read_train b_read_train
  have hne : gNe (.int 5) (.int 5) = some (.bl false) := gNe_self rfl
  simp only [RD1, RD2, RD3, RD4, RD5, RD6, RD7, RD8, RD9, RD10, List.all_cons, List.all_nil, List.length_cons, List.length_nil, List.getElem?_cons_zero, List.getElem?_cons_succ, List.getElem?_nil, List.set_cons_zero, List.set_cons_succ, List.cons_append, List.nil_append, List.replicate_succ, List.replicate_zero, Nat.reduceAdd, Nat.reduceSub, Nat.reduceEqDiff, Nat.reduceLeDiff, Nat.reduceLT, Option.bind_some, Option.bind_none, Option.map_some, Option.map_none, if_true, if_false, ite_true, ite_false, reduceCtorEq, decide_true, decide_false, Int.reducePow, Int.reduceToNat, Int.reduceMul, Int.reduceAdd, Int.reduceSub, Int.reduceNeg, Int.reduceLT, Int.reduceLE, List.map_append, List.map_cons, List.map_nil, g2m_ii, tLl, gInD_n, gInD_i, gInD_s, mmInsertu, g4maxu, chk_s, fSplit, hb, hln, hsp, hcut, hen, lp1_read_train]
  simp only [RD1, RD2, RD3, RD4, RD5, RD6, RD7, RD8, RD9, RD10, List.all_cons, List.all_nil, List.length_cons, List.length_nil, List.getElem?_cons_zero, List.getElem?_cons_succ, List.getElem?_nil, List.set_cons_zero, List.set_cons_succ, List.cons_append, List.nil_append, List.replicate_succ, List.replicate_zero, Nat.reduceAdd, Nat.reduceSub, Nat.reduceEqDiff, Nat.reduceLeDiff, Nat.reduceLT, Option.bind_some, Option.bind_none, Option.map_some, Option.map_none, if_true, if_false, ite_true, ite_false, reduceCtorEq, decide_true, decide_false, Int.reducePow, Int.reduceToNat, Int.reduceMul, Int.reduceAdd, Int.reduceSub, Int.reduceNeg, Int.reduceLT, Int.reduceLE, List.map_append, List.map_cons, List.map_nil, g2m_ii, tLl, gInD_n, gInD_i, gInD_s, mmInsertu, g4maxu, forL_step, forL_nil, lp_nx, i0, i1, i2, i3, i4, n1, n2, n3, n4, n5, Int.cast_ofNat_Int, hne, x0, x1, x2, x3, x4, hmk]
theorem tr_self (f : Int) (h b : List Int) (r : Int) (e : List Int) : eqO tb eq1 F_Thing___eq___1 (tD f h b r e) (tD f h b r e) = some true := by
  have h1 : gIsi tb [.own "Thing"] (tD f h b r e) = some (.bl true) := rfl
  have h2 : ∀ ev, methF "class_name" [("Last", F_Last_class_name), ("First", F_First_class_name), ("Limit", F_Limit_class_name), ("Delay", F_Delay_class_name), ("Row", F_Row_class_name), ("Bus", F_Bus_class_name), ("Train", F_Train_class_name)] fNil (.im (tD f h b r e)) ev = .ok (.str "train") ev := fun _ => rfl
  have h3 : ∀ ev, methF "facts" [("Last", F_Member_facts), ("First", F_Member_facts), ("Limit", F_Member_facts), ("Delay", F_Delay_facts), ("Row", F_Row_facts), ("Bus", F_Bus_facts), ("Train", F_Train_facts)] fNil (.im (tD f h b r e)) ev = .ok (.tup [.int f, .tup (h.map D.int), .tup (b.map D.int), .int r, .tup (e.map D.int)]) ev := fun _ => rfl
  have h4 : gNe (.str "train") (.str "train") = some (.bl false) := gNe_self (by decide +kernel : PySem.PyData.strOk "train" = true)
  have ho : okD 16 (.tup [.int f, .tup (h.map D.int), .tup (b.map D.int), .int r, .tup (e.map D.int)]) = true := by
    have key : ∀ ts : List Int, okD 15 (.tup (ts.map D.int)) = true := fun ts => List.all_eq_true.mpr fun x hx => by
      obtain ⟨i, _, rfl⟩ := List.mem_map.mp hx
      rfl
    show List.all [D.int f, .tup (h.map D.int), .tup (b.map D.int), .int r, .tup (e.map D.int)] (okD 15) = true
    simp only [List.all_cons, List.all_nil, key, Bool.and_true]
    rfl
  have h5 : eqO tb eq0 F_Thing___eq___0 (.tup [.int f, .tup (h.map D.int), .tup (b.map D.int), .int r, .tup (e.map D.int)]) (.tup [.int f, .tup (h.map D.int), .tup (b.map D.int), .int r, .tup (e.map D.int)]) = some true := by
    unfold eqO
    rw [eqT_flat ho ho, eqD_refl ho]
  have hF : F_Thing___eq___1 [.im (tD f h b r e), .im (tD f h b r e)] = .rt (.bl true) [.im (tD f h b r e), .im (tD f h b r e)] := by
    unfold F_Thing___eq___1 b_Thing___eq___1
    simp only [RD1, RD2, RD3, RD4, RD5, RD6, RD7, RD8, RD9, RD10, List.all_cons, List.all_nil, List.length_cons, List.length_nil, List.getElem?_cons_zero, List.getElem?_cons_succ, List.getElem?_nil, List.set_cons_zero, List.set_cons_succ, List.cons_append, List.nil_append, List.replicate_succ, List.replicate_zero, Nat.reduceAdd, Nat.reduceSub, Nat.reduceEqDiff, Nat.reduceLeDiff, Nat.reduceLT, Option.bind_some, Option.bind_none, Option.map_some, Option.map_none, if_true, if_false, ite_true, ite_false, reduceCtorEq, decide_true, decide_false, Int.reducePow, Int.reduceToNat, Int.reduceMul, Int.reduceAdd, Int.reduceSub, Int.reduceNeg, Int.reduceLT, Int.reduceLE, List.map_append, List.map_cons, List.map_nil, g2m_ii, tLl, gInD_n, gInD_i, gInD_s, mmInsertu, g4maxu, h1, h2, h3, h4, h5, f2q_eq, qT_ii]
  unfold tD at hF ⊢
  unfold eqO
  rw [eqT_ins]
  exact ownE_of (by rfl) (by rfl) hF

def nmsL : List Str := ["a", "b", "last", "all", "zzzzzzzz", "ab"]
theorem is_nm : ∀ z ∈ nmsL, F_is_name [.im (.str z)] = .rt (.bl true) [.im (.str z)] := fun z hz => by
  unfold nmsL at hz
  simp only [List.mem_cons, List.not_mem_nil, or_false] at hz
  rcases hz with rfl | rfl | rfl | rfl | rfl | rfl <;> rfl
theorem nm_ok : ∀ z ∈ nmsL, PySem.PyData.strOk z = true := fun z hz => by
  unfold nmsL at hz
  simp only [List.mem_cons, List.not_mem_nil, or_false] at hz
  rcases hz with rfl | rfl | rfl | rfl | rfl | rfl <;> decide +kernel
theorem mb_nm (m : Mb) : F_is_name [.im m.tree] = .rt (.bl false) [.im m.tree] := by cases m <;> rfl
theorem mb_mem (m : Mb) : F_is_member [.im m.tree] = .rt (.bl true) [.im m.tree] := by cases m <;> rfl
def Odd (d : D) : Prop := F_is_name [.im d] = .rt (.bl false) [.im d] ∧ F_is_member [.im d] = .rt (.bl false) [.im d]
def Gd (d : D) : Prop := (∃ z ∈ nmsL, d = .str z) ∨ ∃ m : Mb, d = m.tree
def nmsOf : List D → List Str
  | [] => []
  | .str z :: l => z :: nmsOf l
  | _ :: l => nmsOf l
theorem nmsOf_mb (m : Mb) (l : List D) : nmsOf (m.tree :: l) = nmsOf l := by cases m <;> rfl
structure BusOk (ds : List D) : Prop where
  gd : ∀ d ∈ ds, Gd d
  nd : (nmsOf ds).Nodup
  hd : ∃ z r, z ∈ nmsL ∧ ds = .str z :: r
theorem inB_s {z : Str} : ∀ {ns : List Str}, inB (.str z) (ns.map D.str) = decide (z ∈ ns)
  | [] => rfl
  | y :: ns => by
    show (eqD (.str y) (.str z) || inB (.str z) (ns.map D.str)) = _
    rw [inB_s, eqD_str]
    by_cases h : y = z
    · subst h
      rw [decide_eq_true rfl, Bool.true_or, decide_eq_true List.mem_cons_self]
    · rw [decide_eq_false h, Bool.false_or]
      exact decide_eq_decide.mpr ⟨List.mem_cons_of_mem _, fun q => (List.mem_cons.mp q).resolve_left fun w => h w.symm⟩
theorem notin_s {z : Str} {ns : List Str} (hz : z ∈ nmsL) (hn : ∀ y ∈ ns, y ∈ nmsL) : gNotIn (.str z) (.lst (ns.map D.str)) = some (.bl (!decide (z ∈ ns))) := by
  have ho : (okD 16 (.str z) && okD 16 (.lst (ns.map D.str))) = true := by
    have h1 : okD 16 (.str z) = true := nm_ok z hz
    have h2 : okD 16 (.lst (ns.map D.str)) = true := by
      refine List.all_eq_true.mpr fun x hx => ?_
      obtain ⟨y, hy, rfl⟩ := List.mem_map.mp hx
      exact nm_ok y (hn y hy)
    rw [h1, h2]
    rfl
  show (if (okD 16 (.str z) && okD 16 (.lst (ns.map D.str))) = true then some (D.bl (true ^^ inB (.str z) (ns.map D.str))) else none) = _
  rw [if_pos ho, inB_s, Bool.true_xor]
def stB (O S : Sl) (ns : List Str) : Ev := [O, S, .ow false (.lst (ns.map D.str)), .no, .no]
theorem eq_0 {k : Nat} : gEq (.int (k : Nat)) (.int 0) = some (.bl (decide (k = 0))) := by
  rw [gEq_int]
  congr 2
  exact decide_eq_decide.mpr (by omega)
theorem turn_nm {O S : Sl} {ns : List Str} {z : Str} {k : Nat} (hz : z ∈ nmsL) (hn : ∀ y ∈ ns, y ∈ nmsL) (hnew : z ∉ ns) (hl : ns.length ≤ 1000) : lp1_Bus___init__ [O, S, .ow false (.lst (ns.map D.str)), .im (.int (k : Nat)), .im (.str z)] = .nx (stB O S (ns ++ [z])) := by
  have h1 := notin_s hz hn
  rw [decide_eq_false hnew] at h1
  have h2 : (ns.map D.str).length < 1000000 := by
    rw [List.length_map]
    omega
  unfold lp1_Bus___init__ stB
  simp only [RD1, RD2, RD3, RD4, RD5, RD6, RD7, RD8, RD9, RD10, List.all_cons, List.all_nil, List.length_cons, List.length_nil, List.getElem?_cons_zero, List.getElem?_cons_succ, List.getElem?_nil, List.set_cons_zero, List.set_cons_succ, List.cons_append, List.nil_append, List.replicate_succ, List.replicate_zero, Nat.reduceAdd, Nat.reduceSub, Nat.reduceEqDiff, Nat.reduceLeDiff, Nat.reduceLT, Option.bind_some, Option.bind_none, Option.map_some, Option.map_none, if_true, if_false, ite_true, ite_false, reduceCtorEq, decide_true, decide_false, Int.reducePow, Int.reduceToNat, Int.reduceMul, Int.reduceAdd, Int.reduceSub, Int.reduceNeg, Int.reduceLT, Int.reduceLE, List.map_append, List.map_cons, List.map_nil, g2m_ii, tLl, gInD_n, gInD_i, gInD_s, mmInsertu, g4maxu, is_nm z hz, h1, Bool.not_false, h2]
theorem turn_mb {O S : Sl} {ns : List Str} {m : Mb} {k : Nat} (hk : k ≠ 0) : lp1_Bus___init__ [O, S, .ow false (.lst (ns.map D.str)), .im (.int (k : Nat)), .im m.tree] = .nx (stB O S ns) := by
  unfold lp1_Bus___init__ stB
  simp only [RD1, RD2, RD3, RD4, RD5, RD6, RD7, RD8, RD9, RD10, List.all_cons, List.all_nil, List.length_cons, List.length_nil, List.getElem?_cons_zero, List.getElem?_cons_succ, List.getElem?_nil, List.set_cons_zero, List.set_cons_succ, List.cons_append, List.nil_append, List.replicate_succ, List.replicate_zero, Nat.reduceAdd, Nat.reduceSub, Nat.reduceEqDiff, Nat.reduceLeDiff, Nat.reduceLT, Option.bind_some, Option.bind_none, Option.map_some, Option.map_none, if_true, if_false, ite_true, ite_false, reduceCtorEq, decide_true, decide_false, Int.reducePow, Int.reduceToNat, Int.reduceMul, Int.reduceAdd, Int.reduceSub, Int.reduceNeg, Int.reduceLT, Int.reduceLE, List.map_append, List.map_cons, List.map_nil, g2m_ii, tLl, gInD_n, gInD_i, gInD_s, mmInsertu, g4maxu, mb_nm, mb_mem, eq_0, decide_eq_false hk]
inductive BadAt (ns : List Str) (k : Nat) : D → Prop
  | odd {d : D} : Odd d → BadAt ns k d
  | mem {m : Mb} : k = 0 → BadAt ns k m.tree
  | dup {z : Str} : z ∈ ns → k ≠ 0 → BadAt ns k (.str z)
def enZ (l : List D) (k : Nat) : List D := (l.zipIdx k).map fun q => D.tup [.int (q.2 : Nat), q.1]
theorem bind_B {O S : Sl} {ns : List Str} {d : D} {k : Nat} : tT (tCons (tN 3) (tCons (tN 4) tNil)) 2 (D.tup [.int (k : Nat), d]) (stB O S ns) = some [O, S, .ow false (.lst (ns.map D.str)), .im (.int (k : Nat)), .im d] := by
  unfold stB
  simp only [RD1, RD2, RD3, RD4, RD5, RD6, RD7, RD8, RD9, RD10, List.all_cons, List.all_nil, List.length_cons, List.length_nil, List.getElem?_cons_zero, List.getElem?_cons_succ, List.getElem?_nil, List.set_cons_zero, List.set_cons_succ, List.cons_append, List.nil_append, List.replicate_succ, List.replicate_zero, Nat.reduceAdd, Nat.reduceSub, Nat.reduceEqDiff, Nat.reduceLeDiff, Nat.reduceLT, Option.bind_some, Option.bind_none, Option.map_some, Option.map_none, if_true, if_false, ite_true, ite_false, reduceCtorEq, decide_true, decide_false, Int.reducePow, Int.reduceToNat, Int.reduceMul, Int.reduceAdd, Int.reduceSub, Int.reduceNeg, Int.reduceLT, Int.reduceLE, List.map_append, List.map_cons, List.map_nil, g2m_ii, tLl, gInD_n, gInD_i, gInD_s, mmInsertu, g4maxu]
theorem loop_B {O S : Sl} {R : List D} : ∀ (l : List D) (k : Nat) (ns : List Str), (∀ d ∈ l, Gd d) → (∀ y ∈ ns, y ∈ nmsL) → (ns ++ nmsOf l).Nodup → (k = 0 → l = [] ∨ ∃ z r, l = .str z :: r) → ns.length + l.length ≤ 1000 →
    forL (tT (tCons (tN 3) (tCons (tN 4) tNil)) 2) lp1_Bus___init__ (enZ l k ++ R) (stB O S ns) = forL (tT (tCons (tN 3) (tCons (tN 4) tNil)) 2) lp1_Bus___init__ R (stB O S (ns ++ nmsOf l))
  | [], k, ns, _, _, _, _, _ => by
    rw [show nmsOf [] = [] from rfl, List.append_nil]
    rfl
  | d :: l, k, ns, hg, hn, nd, h0, hl => by
    have hg' : ∀ d ∈ l, Gd d := fun d hd => hg d (List.mem_cons_of_mem _ hd)
    rw [List.length_cons] at hl
    have e0 : enZ (d :: l) k ++ R = D.tup [.int (k : Nat), d] :: (enZ l (k + 1) ++ R) := rfl
    rw [e0, forL_step, bind_B]
    dsimp only
    rcases hg d List.mem_cons_self with ⟨z, hz, rfl⟩ | ⟨m, rfl⟩
    · have nd' : (ns ++ z :: nmsOf l).Nodup := nd
      have hnew : z ∉ ns := fun hm => (List.nodup_append.mp nd').2.2 z hm z List.mem_cons_self rfl
      have nd2 : ((ns ++ [z]) ++ nmsOf l).Nodup := by rw [List.append_assoc]; exact nd'
      rw [turn_nm hz hn hnew (by omega), lp_nx, loop_B l (k + 1) (ns ++ [z]) hg' (fun y hy => by
        rcases List.mem_append.mp hy with q | q
        · exact hn y q
        · rw [List.mem_singleton.mp q]; exact hz) nd2 (fun h => absurd h (Nat.succ_ne_zero k)) (by rw [List.length_append]; show ns.length + 1 + l.length ≤ 1000; omega)]
      rw [List.append_assoc]
      rfl
    · have hk : k ≠ 0 := fun h => by
        rcases h0 h with z | ⟨z, r, e⟩
        · cases z
        · have := (List.cons.inj e).1
          cases m <;> cases this
      rw [nmsOf_mb] at nd ⊢
      rw [turn_mb hk, lp_nx, loop_B l (k + 1) ns hg' hn nd (fun h => absurd h (Nat.succ_ne_zero k)) (by omega)]
def busT (ds : List D) : D := .ins "Bus" ["steps"] [.tup ds]
inductive StS (ds : List D) : Sl → D → Prop
  | iml : StS ds (.im (.lst ds)) (.lst ds)
  | imt : StS ds (.im (.tup ds)) (.tup ds)
theorem enD_Z (ds : List D) : enD ds = enZ ds 0 := by
  have := enD_map (f := fun d : D => d) (xs := ds)
  rw [List.map_id'] at this
  exact this
theorem bus_pre {S : Sl} {T d0 : D} {ds r : List D} (hS : StS ds S T) (hds : ds = d0 :: r) : F_Bus___init__ [.ow true (.ins "Bus" [] []), S] = ((forL (tT (tCons (tN 3) (tCons (tN 4) tNil)) 2) lp1_Bus___init__ (enZ ds 0) (stB (.ow true (busT ds)) S [])).fr [.ow true (.ins "Bus" [] []), S]) := by
  have hf : fldOk tb "steps" (.ins "Bus" [] []) = true := rfl
  have hlen : gEq (.int (ds.length : Nat)) (.int 0) = some (.bl false) := by
    rw [gEq_int, decide_eq_false (by rw [hds, List.length_cons]; omega)]
  have hg : gFld tb "steps" (busT ds) = some (.tup ds) := rfl
  have hen : enOfD (.tup ds) = some (enZ ds 0) := by
    show some (enD ds) = _
    rw [enD_Z]
  have hp : D.ins "Bus" ["steps"] [.tup ds] = busT ds := rfl
  have hi1 : gIsi tb [.ty "list", .ty "tuple"] (.lst ds) = some (.bl true) := rfl
  have hi2 : gIsi tb [.ty "list", .ty "tuple"] (.tup ds) = some (.bl true) := rfl
  unfold F_Bus___init__ b_Bus___init__ stB
  cases hS with
  | iml => simp only [RD1, RD2, RD3, RD4, RD5, RD6, RD7, RD8, RD9, RD10, List.all_cons, List.all_nil, List.length_cons, List.length_nil, List.getElem?_cons_zero, List.getElem?_cons_succ, List.getElem?_nil, List.set_cons_zero, List.set_cons_succ, List.cons_append, List.nil_append, List.replicate_succ, List.replicate_zero, Nat.reduceAdd, Nat.reduceSub, Nat.reduceEqDiff, Nat.reduceLeDiff, Nat.reduceLT, Option.bind_some, Option.bind_none, Option.map_some, Option.map_none, if_true, if_false, ite_true, ite_false, reduceCtorEq, decide_true, decide_false, Int.reducePow, Int.reduceToNat, Int.reduceMul, Int.reduceAdd, Int.reduceSub, Int.reduceNeg, Int.reduceLT, Int.reduceLE, List.map_append, List.map_cons, List.map_nil, g2m_ii, tLl, gInD_n, gInD_i, gInD_s, mmInsertu, g4maxu, foAny, hi1, hlen, hf, putD, hp, hg, hen]
  | imt => simp only [RD1, RD2, RD3, RD4, RD5, RD6, RD7, RD8, RD9, RD10, List.all_cons, List.all_nil, List.length_cons, List.length_nil, List.getElem?_cons_zero, List.getElem?_cons_succ, List.getElem?_nil, List.set_cons_zero, List.set_cons_succ, List.cons_append, List.nil_append, List.replicate_succ, List.replicate_zero, Nat.reduceAdd, Nat.reduceSub, Nat.reduceEqDiff, Nat.reduceLeDiff, Nat.reduceLT, Option.bind_some, Option.bind_none, Option.map_some, Option.map_none, if_true, if_false, ite_true, ite_false, reduceCtorEq, decide_true, decide_false, Int.reducePow, Int.reduceToNat, Int.reduceMul, Int.reduceAdd, Int.reduceSub, Int.reduceNeg, Int.reduceLT, Int.reduceLE, List.map_append, List.map_cons, List.map_nil, g2m_ii, tLl, gInD_n, gInD_i, gInD_s, mmInsertu, g4maxu, foAny, hi2, hlen, hf, putD, hp, hg, hen]
theorem F_bus {S : Sl} {T : D} {ds : List D} (hS : StS ds S T) (o : BusOk ds) (hl : ds.length ≤ 1000) : F_Bus___init__ [.ow true (.ins "Bus" [] []), S] = .rt .non [.ow true (busT ds), S] := by
  obtain ⟨z, r, hz, hds⟩ := o.hd
  rw [bus_pre hS hds]
  have e := loop_B (O := .ow true (busT ds)) (S := S) (R := []) ds 0 [] o.gd (fun y h => by cases h) o.nd (fun _ => .inr ⟨z, r, hds⟩) (by simpa using hl)
  rw [List.append_nil] at e
  rw [e]
  unfold stB
  cases hS <;> simp only [RD1, RD2, RD3, RD4, RD5, RD6, RD7, RD8, RD9, RD10, List.all_cons, List.all_nil, List.length_cons, List.length_nil, List.getElem?_cons_zero, List.getElem?_cons_succ, List.getElem?_nil, List.set_cons_zero, List.set_cons_succ, List.cons_append, List.nil_append, List.replicate_succ, List.replicate_zero, Nat.reduceAdd, Nat.reduceSub, Nat.reduceEqDiff, Nat.reduceLeDiff, Nat.reduceLT, Option.bind_some, Option.bind_none, Option.map_some, Option.map_none, if_true, if_false, ite_true, ite_false, reduceCtorEq, decide_true, decide_false, Int.reducePow, Int.reduceToNat, Int.reduceMul, Int.reduceAdd, Int.reduceSub, Int.reduceNeg, Int.reduceLT, Int.reduceLE, List.map_append, List.map_cons, List.map_nil, g2m_ii, tLl, gInD_n, gInD_i, gInD_s, mmInsertu, g4maxu, forL_nil]
abbrev Stp := Sum Str Mb
def stD : Stp → D
  | .inl z => .str z
  | .inr m => m.tree
def stT : Stp → Str
  | .inl z => z
  | .inr m => mT m
def stL : Stp → D
  | .inl z => .str z
  | .inr m => memD m
def stP : Stp → D
  | .inl z => .tup [.str z, .non]
  | .inr m => memD m
def StOk (k : Nat) : Stp → Prop
  | .inl z => z ∈ nmsL
  | .inr m => m.ok = true ∧ (num m).natAbs < 10 ^ k
theorem nm_sign : ∀ z ∈ nmsL, ∀ c ∈ sg z, 97 ≤ c ∧ c ≤ 122 := fun z hz => by
  unfold nmsL at hz
  simp only [List.mem_cons, List.not_mem_nil, or_false] at hz
  rcases hz with rfl | rfl | rfl | rfl | rfl | rfl <;> decide +kernel
theorem nm_len : ∀ z ∈ nmsL, z.length ≤ 8 := fun z hz => by
  unfold nmsL at hz
  simp only [List.mem_cons, List.not_mem_nil, or_false] at hz
  rcases hz with rfl | rfl | rfl | rfl | rfl | rfl <;> decide +kernel
theorem stT_sign {k : Nat} {s : Stp} (o : StOk k s) {c : Nat} (h : c ∈ sg (stT s)) : (97 ≤ c ∧ c ≤ 122) ∨ c = 32 ∨ c = 45 ∨ (48 ≤ c ∧ c ≤ 57) := by
  cases s with
  | inl z => exact .inl (nm_sign z o c h)
  | inr m => exact mT_sign h
theorem stT_len {k : Nat} (hk : 0 < k) {s : Stp} (o : StOk k s) : (stT s).length ≤ k + 8 := by
  cases s with
  | inl z =>
    have : z.length ≤ 8 := nm_len z o
    show z.length ≤ k + 8
    omega
  | inr m =>
    have := mT_len hk o.2
    show (mT m).length ≤ k + 8
    omega
def bT (ss : List Stp) : Str := ("; " : Str).join (ss.map stT)
theorem st_isS (s : Stp) : gIsi tb [.ty "str"] (stD s) = some (.bl s.isLeft) := by
  cases s with
  | inl z => rfl
  | inr m => cases m <;> rfl
theorem st_isL (s : Stp) : gIsi tb [.ty "str"] (stL s) = some (.bl s.isLeft) := by
  cases s <;> rfl
theorem bT_lenZ {k : Nat} (hk : 0 < k) (hk2 : k ≤ 500) {ss : List Stp} (hl : ss.length ≤ 100) (o : ∀ s ∈ ss, StOk k s) : lenZ (ss.map stT) + ss.length * (", " : Str).length ≤ 100 * (k + 10) := by
  have h1 := lenZ_map (f := stT) (xs := ss) (b := k + 8) fun s hs => stT_len hk (o s hs)
  have h2 : ss.length * (k + 8) ≤ 100 * (k + 8) := Nat.mul_le_mul_right _ hl
  rw [len_cs]
  omega
theorem F_btext {k : Nat} (hk0 : 0 < k) (hk : k ≤ 500) {ss : List Stp} (hl : ss.length ≤ 100) (o : ∀ s ∈ ss, StOk k s) : F_bus_text [.im (busT (ss.map stD))] = .rt (.str (bT ss)) [.im (busT (ss.map stD))] := by
  have hm : gFld tb "steps" (busT (ss.map stD)) = some (.tup (ss.map stD)) := rfl
  have hj := bT_lenZ hk0 hk hl o
  have hj2 : lenZ (ss.map stT) + ss.length * ("; " : Str).length ≤ 16777216 := by
    rw [len_ss]
    rw [len_cs] at hj
    have : 100 * (k + 10) ≤ 100 * 510 := Nat.mul_le_mul_left _ (by omega)
    omega
  have hl2 : ss.length ≤ 1000000 := by omega
  unfold F_bus_text b_bus_text
  simp only [RD1, RD2, RD3, RD4, RD5, RD6, RD7, RD8, RD9, RD10, List.all_cons, List.all_nil, List.length_cons, List.length_nil, List.getElem?_cons_zero, List.getElem?_cons_succ, List.getElem?_nil, List.set_cons_zero, List.set_cons_succ, List.cons_append, List.nil_append, List.replicate_succ, List.replicate_zero, Nat.reduceAdd, Nat.reduceSub, Nat.reduceEqDiff, Nat.reduceLeDiff, Nat.reduceLT, Option.bind_some, Option.bind_none, Option.map_some, Option.map_none, if_true, if_false, ite_true, ite_false, reduceCtorEq, decide_true, decide_false, Int.reducePow, Int.reduceToNat, Int.reduceMul, Int.reduceAdd, Int.reduceSub, Int.reduceNeg, Int.reduceLT, Int.reduceLE, List.map_append, List.map_cons, List.map_nil, g2m_ii, tLl, gInD_n, gInD_i, gInD_s, mmInsertu, g4maxu, hm, fJoin]
  rw [lcL_all (fun s : Stp => [stD s]) (fun s => D.str (stT s)) (by simp only [RD1, RD2, RD3, RD4, RD5, RD6, RD7, RD8, RD9, RD10, List.all_cons, List.all_nil, List.length_cons, List.length_nil, List.getElem?_cons_zero, List.getElem?_cons_succ, List.getElem?_nil, List.set_cons_zero, List.set_cons_succ, List.cons_append, List.nil_append, List.replicate_succ, List.replicate_zero, Nat.reduceAdd, Nat.reduceSub, Nat.reduceEqDiff, Nat.reduceLeDiff, Nat.reduceLT, Option.bind_some, Option.bind_none, Option.map_some, Option.map_none, if_true, if_false, ite_true, ite_false, reduceCtorEq, decide_true, decide_false, Int.reducePow, Int.reduceToNat, Int.reduceMul, Int.reduceAdd, Int.reduceSub, Int.reduceNeg, Int.reduceLT, Int.reduceLE, List.map_append, List.map_cons, List.map_nil, g2m_ii, tLl, gInD_n, gInD_i, gInD_s, mmInsertu, g4maxu]) (by simp only [RD1, RD2, RD3, RD4, RD5, RD6, RD7, RD8, RD9, RD10, List.all_cons, List.all_nil, List.length_cons, List.length_nil, List.getElem?_cons_zero, List.getElem?_cons_succ, List.getElem?_nil, List.set_cons_zero, List.set_cons_succ, List.cons_append, List.nil_append, List.replicate_succ, List.replicate_zero, Nat.reduceAdd, Nat.reduceSub, Nat.reduceEqDiff, Nat.reduceLeDiff, Nat.reduceLT, Option.bind_some, Option.bind_none, Option.map_some, Option.map_none, if_true, if_false, ite_true, ite_false, reduceCtorEq, decide_true, decide_false, Int.reducePow, Int.reduceToNat, Int.reduceMul, Int.reduceAdd, Int.reduceSub, Int.reduceNeg, Int.reduceLT, Int.reduceLE, List.map_append, List.map_cons, List.map_nil, g2m_ii, tLl, gInD_n, gInD_i, gInD_s, mmInsertu, g4maxu]) (fun m _ => by simp only [RD1, RD2, RD3, RD4, RD5, RD6, RD7, RD8, RD9, RD10, List.all_cons, List.all_nil, List.length_cons, List.length_nil, List.getElem?_cons_zero, List.getElem?_cons_succ, List.getElem?_nil, List.set_cons_zero, List.set_cons_succ, List.cons_append, List.nil_append, List.replicate_succ, List.replicate_zero, Nat.reduceAdd, Nat.reduceSub, Nat.reduceEqDiff, Nat.reduceLeDiff, Nat.reduceLT, Option.bind_some, Option.bind_none, Option.map_some, Option.map_none, if_true, if_false, ite_true, ite_false, reduceCtorEq, decide_true, decide_false, Int.reducePow, Int.reduceToNat, Int.reduceMul, Int.reduceAdd, Int.reduceSub, Int.reduceNeg, Int.reduceLT, Int.reduceLE, List.map_append, List.map_cons, List.map_nil, g2m_ii, tLl, gInD_n, gInD_i, gInD_s, mmInsertu, g4maxu]) (fun s hs => by
    have h1 := st_isS s
    cases s with
    | inl z => simp only [RD1, RD2, RD3, RD4, RD5, RD6, RD7, RD8, RD9, RD10, List.all_cons, List.all_nil, List.length_cons, List.length_nil, List.getElem?_cons_zero, List.getElem?_cons_succ, List.getElem?_nil, List.set_cons_zero, List.set_cons_succ, List.cons_append, List.nil_append, List.replicate_succ, List.replicate_zero, Nat.reduceAdd, Nat.reduceSub, Nat.reduceEqDiff, Nat.reduceLeDiff, Nat.reduceLT, Option.bind_some, Option.bind_none, Option.map_some, Option.map_none, if_true, if_false, ite_true, ite_false, reduceCtorEq, decide_true, decide_false, Int.reducePow, Int.reduceToNat, Int.reduceMul, Int.reduceAdd, Int.reduceSub, Int.reduceNeg, Int.reduceLT, Int.reduceLE, List.map_append, List.map_cons, List.map_nil, g2m_ii, tLl, gInD_n, gInD_i, gInD_s, mmInsertu, g4maxu, h1, Sum.isLeft]; rfl
    | inr m =>
      have h2 := F_mtext hk0 hk (o _ hs).2
      have h3 : stD (.inr m) = m.tree := rfl
      rw [h3] at h1
      simp only [RD1, RD2, RD3, RD4, RD5, RD6, RD7, RD8, RD9, RD10, List.all_cons, List.all_nil, List.length_cons, List.length_nil, List.getElem?_cons_zero, List.getElem?_cons_succ, List.getElem?_nil, List.set_cons_zero, List.set_cons_succ, List.cons_append, List.nil_append, List.replicate_succ, List.replicate_zero, Nat.reduceAdd, Nat.reduceSub, Nat.reduceEqDiff, Nat.reduceLeDiff, Nat.reduceLT, Option.bind_some, Option.bind_none, Option.map_some, Option.map_none, if_true, if_false, ite_true, ite_false, reduceCtorEq, decide_true, decide_false, Int.reducePow, Int.reduceToNat, Int.reduceMul, Int.reduceAdd, Int.reduceSub, Int.reduceNeg, Int.reduceLT, Int.reduceLE, List.map_append, List.map_cons, List.map_nil, g2m_ii, tLl, gInD_n, gInD_i, gInD_s, mmInsertu, g4maxu, h1, Sum.isLeft, h3, h2]
      rfl)]
  simp only [RD1, RD2, RD3, RD4, RD5, RD6, RD7, RD8, RD9, RD10, List.all_cons, List.all_nil, List.length_cons, List.length_nil, List.getElem?_cons_zero, List.getElem?_cons_succ, List.getElem?_nil, List.set_cons_zero, List.set_cons_succ, List.cons_append, List.nil_append, List.replicate_succ, List.replicate_zero, Nat.reduceAdd, Nat.reduceSub, Nat.reduceEqDiff, Nat.reduceLeDiff, Nat.reduceLT, Option.bind_some, Option.bind_none, Option.map_some, Option.map_none, if_true, if_false, ite_true, ite_false, reduceCtorEq, decide_true, decide_false, Int.reducePow, Int.reduceToNat, Int.reduceMul, Int.reduceAdd, Int.reduceSub, Int.reduceNeg, Int.reduceLT, Int.reduceLE, List.map_append, List.map_cons, List.map_nil, g2m_ii, tLl, gInD_n, gInD_i, gInD_s, mmInsertu, g4maxu, List.length_map, hl2, strs_m, hj2, txt_join]
  rfl
theorem blsOf_m {α : Type} (p : α → Bool) (xs : List α) : blsOf (xs.map fun x => D.bl (p x)) = some (xs.map p) := by
  induction xs with
  | nil => rfl
  | cons x xs ih =>
    show (match blsOf (xs.map fun x => D.bl (p x)) with | some bs => some (p x :: bs) | none => none) = _
    rw [ih]
    rfl
theorem let_in (c : Nat) (w : Str) : gIn (.str ⟨#[c]⟩) (.str w) = some (.bl (decide (c ∈ sg w))) := by
  show some (D.bl (false ^^ decide (c ∈ sg w))) = _
  rw [Bool.false_xor]
theorem F_isname_m {m : Mb} {k : Nat} (hk0 : 0 < k) (hk : k ≤ 500) (h : (num m).natAbs < 10 ^ k) : F_is_name [.im (.str (mT m))] = .rt (.bl false) [.im (.str (mT m))] := by
  have hi : gIsi tb [.ty "str"] (.str (mT m)) = some (.bl true) := rfl
  have hl := mT_len hk0 h
  have hlen : gLenS (.str (mT m)) = some (.int (mT m).length) := by
    show (if (mT m).length ≤ 1000000 then some (D.int (mT m).length) else none) = _
    rw [if_pos (by omega)]
  have h1 : (1 : Int) ≤ (mT m).length := by
    have h2 : 0 < (sg (mT m)).length := by
      rw [sg_mT, List.length_append, List.length_cons]
      omega
    rw [sg_len] at h2
    omega
  have hch : chOf (.str (mT m)) = some ((sg (mT m)).map fun c => D.str ⟨#[c]⟩) := rfl
  unfold F_is_name b_is_name
  by_cases h8 : ((mT m).length : Int) ≤ 8
  · simp only [RD1, RD2, RD3, RD4, RD5, RD6, RD7, RD8, RD9, RD10, List.all_cons, List.all_nil, List.length_cons, List.length_nil, List.getElem?_cons_zero, List.getElem?_cons_succ, List.getElem?_nil, List.set_cons_zero, List.set_cons_succ, List.cons_append, List.nil_append, List.replicate_succ, List.replicate_zero, Nat.reduceAdd, Nat.reduceSub, Nat.reduceEqDiff, Nat.reduceLeDiff, Nat.reduceLT, Option.bind_some, Option.bind_none, Option.map_some, Option.map_none, if_true, if_false, ite_true, ite_false, reduceCtorEq, decide_true, decide_false, Int.reducePow, Int.reduceToNat, Int.reduceMul, Int.reduceAdd, Int.reduceSub, Int.reduceNeg, Int.reduceLT, Int.reduceLE, List.map_append, List.map_cons, List.map_nil, g2m_ii, tLl, gInD_n, gInD_i, gInD_s, mmInsertu, g4maxu, hi, hlen, h1, h8, hch]
    rw [lcL_all (fun c : Nat => [D.str ⟨#[c]⟩]) (fun c => D.bl (decide (c ∈ sg ("abcdefghijklmnopqrstuvwxyz" : Str)))) (by simp only [RD1, RD2, RD3, RD4, RD5, RD6, RD7, RD8, RD9, RD10, List.all_cons, List.all_nil, List.length_cons, List.length_nil, List.getElem?_cons_zero, List.getElem?_cons_succ, List.getElem?_nil, List.set_cons_zero, List.set_cons_succ, List.cons_append, List.nil_append, List.replicate_succ, List.replicate_zero, Nat.reduceAdd, Nat.reduceSub, Nat.reduceEqDiff, Nat.reduceLeDiff, Nat.reduceLT, Option.bind_some, Option.bind_none, Option.map_some, Option.map_none, if_true, if_false, ite_true, ite_false, reduceCtorEq, decide_true, decide_false, Int.reducePow, Int.reduceToNat, Int.reduceMul, Int.reduceAdd, Int.reduceSub, Int.reduceNeg, Int.reduceLT, Int.reduceLE, List.map_append, List.map_cons, List.map_nil, g2m_ii, tLl, gInD_n, gInD_i, gInD_s, mmInsertu, g4maxu]) (by simp only [RD1, RD2, RD3, RD4, RD5, RD6, RD7, RD8, RD9, RD10, List.all_cons, List.all_nil, List.length_cons, List.length_nil, List.getElem?_cons_zero, List.getElem?_cons_succ, List.getElem?_nil, List.set_cons_zero, List.set_cons_succ, List.cons_append, List.nil_append, List.replicate_succ, List.replicate_zero, Nat.reduceAdd, Nat.reduceSub, Nat.reduceEqDiff, Nat.reduceLeDiff, Nat.reduceLT, Option.bind_some, Option.bind_none, Option.map_some, Option.map_none, if_true, if_false, ite_true, ite_false, reduceCtorEq, decide_true, decide_false, Int.reducePow, Int.reduceToNat, Int.reduceMul, Int.reduceAdd, Int.reduceSub, Int.reduceNeg, Int.reduceLT, Int.reduceLE, List.map_append, List.map_cons, List.map_nil, g2m_ii, tLl, gInD_n, gInD_i, gInD_s, mmInsertu, g4maxu]) (fun m _ => by simp only [RD1, RD2, RD3, RD4, RD5, RD6, RD7, RD8, RD9, RD10, List.all_cons, List.all_nil, List.length_cons, List.length_nil, List.getElem?_cons_zero, List.getElem?_cons_succ, List.getElem?_nil, List.set_cons_zero, List.set_cons_succ, List.cons_append, List.nil_append, List.replicate_succ, List.replicate_zero, Nat.reduceAdd, Nat.reduceSub, Nat.reduceEqDiff, Nat.reduceLeDiff, Nat.reduceLT, Option.bind_some, Option.bind_none, Option.map_some, Option.map_none, if_true, if_false, ite_true, ite_false, reduceCtorEq, decide_true, decide_false, Int.reducePow, Int.reduceToNat, Int.reduceMul, Int.reduceAdd, Int.reduceSub, Int.reduceNeg, Int.reduceLT, Int.reduceLE, List.map_append, List.map_cons, List.map_nil, g2m_ii, tLl, gInD_n, gInD_i, gInD_s, mmInsertu, g4maxu]) (fun c _ => by
      have := let_in c "abcdefghijklmnopqrstuvwxyz"
      simp only [RD1, RD2, RD3, RD4, RD5, RD6, RD7, RD8, RD9, RD10, List.all_cons, List.all_nil, List.length_cons, List.length_nil, List.getElem?_cons_zero, List.getElem?_cons_succ, List.getElem?_nil, List.set_cons_zero, List.set_cons_succ, List.cons_append, List.nil_append, List.replicate_succ, List.replicate_zero, Nat.reduceAdd, Nat.reduceSub, Nat.reduceEqDiff, Nat.reduceLeDiff, Nat.reduceLT, Option.bind_some, Option.bind_none, Option.map_some, Option.map_none, if_true, if_false, ite_true, ite_false, reduceCtorEq, decide_true, decide_false, Int.reducePow, Int.reduceToNat, Int.reduceMul, Int.reduceAdd, Int.reduceSub, Int.reduceNeg, Int.reduceLT, Int.reduceLE, List.map_append, List.map_cons, List.map_nil, g2m_ii, tLl, gInD_n, gInD_i, gInD_s, mmInsertu, g4maxu, this])]
    have hl2 : (sg (mT m)).length ≤ 1000000 := by rw [sg_len]; omega
    have hall : gAll (.lst ((sg (mT m)).map fun c => D.bl (decide (c ∈ sg ("abcdefghijklmnopqrstuvwxyz" : Str))))) = some (.bl false) := by
      unfold gAll
      dsimp only
      rw [blsOf_m]
      dsimp only
      congr 2
      rw [List.all_map]
      refine Bool.eq_false_iff.mpr fun z => ?_
      have h32 : 32 ∈ sg (mT m) := by
        rw [sg_mT]
        exact List.mem_append_right _ List.mem_cons_self
      have := List.all_eq_true.mp z 32 h32
      exact absurd this (by decide +kernel)
    simp only [RD1, RD2, RD3, RD4, RD5, RD6, RD7, RD8, RD9, RD10, List.all_cons, List.all_nil, List.length_cons, List.length_nil, List.getElem?_cons_zero, List.getElem?_cons_succ, List.getElem?_nil, List.set_cons_zero, List.set_cons_succ, List.cons_append, List.nil_append, List.replicate_succ, List.replicate_zero, Nat.reduceAdd, Nat.reduceSub, Nat.reduceEqDiff, Nat.reduceLeDiff, Nat.reduceLT, Option.bind_some, Option.bind_none, Option.map_some, Option.map_none, if_true, if_false, ite_true, ite_false, reduceCtorEq, decide_true, decide_false, Int.reducePow, Int.reduceToNat, Int.reduceMul, Int.reduceAdd, Int.reduceSub, Int.reduceNeg, Int.reduceLT, Int.reduceLE, List.map_append, List.map_cons, List.map_nil, g2m_ii, tLl, gInD_n, gInD_i, gInD_s, mmInsertu, g4maxu, List.length_map, hl2, hall]
  · simp only [RD1, RD2, RD3, RD4, RD5, RD6, RD7, RD8, RD9, RD10, List.all_cons, List.all_nil, List.length_cons, List.length_nil, List.getElem?_cons_zero, List.getElem?_cons_succ, List.getElem?_nil, List.set_cons_zero, List.set_cons_succ, List.cons_append, List.nil_append, List.replicate_succ, List.replicate_zero, Nat.reduceAdd, Nat.reduceSub, Nat.reduceEqDiff, Nat.reduceLeDiff, Nat.reduceLT, Option.bind_some, Option.bind_none, Option.map_some, Option.map_none, if_true, if_false, ite_true, ite_false, reduceCtorEq, decide_true, decide_false, Int.reducePow, Int.reduceToNat, Int.reduceMul, Int.reduceAdd, Int.reduceSub, Int.reduceNeg, Int.reduceLT, Int.reduceLE, List.map_append, List.map_cons, List.map_nil, g2m_ii, tLl, gInD_n, gInD_i, gInD_s, mmInsertu, g4maxu, hi, hlen, h1, h8]
theorem F_rbus {ss : List Stp} (hl : ss.length ≤ 100) (o : ∀ s ∈ ss, StOk 60 s) (hb : BusOk (ss.map stD)) : F_read_bus [.im (.str (bT ss))] = .rt (busT (ss.map stD)) [.im (.str (bT ss))] := by
  have hbl : ((("; " : Str)).length == 0) = false := by decide +kernel
  have hj := bT_lenZ (by decide) (by decide) hl o
  have hln : (bT ss).length ≤ 100000 := by
    have h2 := join_len ("; " : Str) (ss.map stT)
    rw [List.length_map, len_ss] at h2
    rw [len_cs] at hj
    unfold bT
    omega
  have hsp : Txt.split (bT ss) "; " = ss.map stT := by
    obtain ⟨z, r, _, hds⟩ := hb.hd
    cases ss with
    | nil => cases hds
    | cons s ss =>
      unfold bT
      rw [List.map_cons]
      refine split_join (c0 := 59) (o := 0) (by rw [sg_ss]; rfl) (fun j hj => absurd hj (Nat.not_lt_zero _)) (by decide +kernel) _ _ fun p hp hc => ?_
      rw [← List.map_cons] at hp
      obtain ⟨x, hx, rfl⟩ := List.mem_map.mp hp
      have := stT_sign (o x hx) hc
      omega
  have hmk : ∀ e, makeF "Bus" F_Bus___init__ [.im (.lst (ss.map stD))] e = .ok (busT (ss.map stD)) e := fun e => by
    have := F_bus (S := .im (.lst (ss.map stD))) .iml hb (by rw [List.length_map]; omega)
    simp only [RD1, RD2, RD3, RD4, RD5, RD6, RD7, RD8, RD9, RD10, List.all_cons, List.all_nil, List.length_cons, List.length_nil, List.getElem?_cons_zero, List.getElem?_cons_succ, List.getElem?_nil, List.set_cons_zero, List.set_cons_succ, List.cons_append, List.nil_append, List.replicate_succ, List.replicate_zero, Nat.reduceAdd, Nat.reduceSub, Nat.reduceEqDiff, Nat.reduceLeDiff, Nat.reduceLT, Option.bind_some, Option.bind_none, Option.map_some, Option.map_none, if_true, if_false, ite_true, ite_false, reduceCtorEq, decide_true, decide_false, Int.reducePow, Int.reduceToNat, Int.reduceMul, Int.reduceAdd, Int.reduceSub, Int.reduceNeg, Int.reduceLT, Int.reduceLE, List.map_append, List.map_cons, List.map_nil, g2m_ii, tLl, gInD_n, gInD_i, gInD_s, mmInsertu, g4maxu, makeF_eq, this]
  have hl2 : ss.length ≤ 1000000 := by omega
  unfold F_read_bus b_read_bus
  simp only [RD1, RD2, RD3, RD4, RD5, RD6, RD7, RD8, RD9, RD10, List.all_cons, List.all_nil, List.length_cons, List.length_nil, List.getElem?_cons_zero, List.getElem?_cons_succ, List.getElem?_nil, List.set_cons_zero, List.set_cons_succ, List.cons_append, List.nil_append, List.replicate_succ, List.replicate_zero, Nat.reduceAdd, Nat.reduceSub, Nat.reduceEqDiff, Nat.reduceLeDiff, Nat.reduceLT, Option.bind_some, Option.bind_none, Option.map_some, Option.map_none, if_true, if_false, ite_true, ite_false, reduceCtorEq, decide_true, decide_false, Int.reducePow, Int.reduceToNat, Int.reduceMul, Int.reduceAdd, Int.reduceSub, Int.reduceNeg, Int.reduceLT, Int.reduceLE, List.map_append, List.map_cons, List.map_nil, g2m_ii, tLl, gInD_n, gInD_i, gInD_s, mmInsertu, g4maxu, chk_s, fSplit, hbl, hln, hsp]
  have hmm : (ss.map stT).map D.str = ss.map fun s => D.str (stT s) := by rw [List.map_map]; rfl
  rw [hmm, forL_go (fun i => [.im (.str (bT ss)), .ow false (.lst ((ss.take i).map stP)), .no, .no, .no, .no])]
  · rw [enD_length, List.length_map, List.take_length]
    simp only [RD1, RD2, RD3, RD4, RD5, RD6, RD7, RD8, RD9, RD10, List.all_cons, List.all_nil, List.length_cons, List.length_nil, List.getElem?_cons_zero, List.getElem?_cons_succ, List.getElem?_nil, List.set_cons_zero, List.set_cons_succ, List.cons_append, List.nil_append, List.replicate_succ, List.replicate_zero, Nat.reduceAdd, Nat.reduceSub, Nat.reduceEqDiff, Nat.reduceLeDiff, Nat.reduceLT, Option.bind_some, Option.bind_none, Option.map_some, Option.map_none, if_true, if_false, ite_true, ite_false, reduceCtorEq, decide_true, decide_false, Int.reducePow, Int.reduceToNat, Int.reduceMul, Int.reduceAdd, Int.reduceSub, Int.reduceNeg, Int.reduceLT, Int.reduceLE, List.map_append, List.map_cons, List.map_nil, g2m_ii, tLl, gInD_n, gInD_i, gInD_s, mmInsertu, g4maxu]
    rw [lcL_all (fun s : Stp => match s with | .inl z => [D.str z, .non] | .inr m => [.str (kindS m), .int (num m)]) stD (by simp only [RD1, RD2, RD3, RD4, RD5, RD6, RD7, RD8, RD9, RD10, List.all_cons, List.all_nil, List.length_cons, List.length_nil, List.getElem?_cons_zero, List.getElem?_cons_succ, List.getElem?_nil, List.set_cons_zero, List.set_cons_succ, List.cons_append, List.nil_append, List.replicate_succ, List.replicate_zero, Nat.reduceAdd, Nat.reduceSub, Nat.reduceEqDiff, Nat.reduceLeDiff, Nat.reduceLT, Option.bind_some, Option.bind_none, Option.map_some, Option.map_none, if_true, if_false, ite_true, ite_false, reduceCtorEq, decide_true, decide_false, Int.reducePow, Int.reduceToNat, Int.reduceMul, Int.reduceAdd, Int.reduceSub, Int.reduceNeg, Int.reduceLT, Int.reduceLE, List.map_append, List.map_cons, List.map_nil, g2m_ii, tLl, gInD_n, gInD_i, gInD_s, mmInsertu, g4maxu]) (by simp only [RD1, RD2, RD3, RD4, RD5, RD6, RD7, RD8, RD9, RD10, List.all_cons, List.all_nil, List.length_cons, List.length_nil, List.getElem?_cons_zero, List.getElem?_cons_succ, List.getElem?_nil, List.set_cons_zero, List.set_cons_succ, List.cons_append, List.nil_append, List.replicate_succ, List.replicate_zero, Nat.reduceAdd, Nat.reduceSub, Nat.reduceEqDiff, Nat.reduceLeDiff, Nat.reduceLT, Option.bind_some, Option.bind_none, Option.map_some, Option.map_none, if_true, if_false, ite_true, ite_false, reduceCtorEq, decide_true, decide_false, Int.reducePow, Int.reduceToNat, Int.reduceMul, Int.reduceAdd, Int.reduceSub, Int.reduceNeg, Int.reduceLT, Int.reduceLE, List.map_append, List.map_cons, List.map_nil, g2m_ii, tLl, gInD_n, gInD_i, gInD_s, mmInsertu, g4maxu]) (fun s _ => by cases s <;> simp only [RD1, RD2, RD3, RD4, RD5, RD6, RD7, RD8, RD9, RD10, List.all_cons, List.all_nil, List.length_cons, List.length_nil, List.getElem?_cons_zero, List.getElem?_cons_succ, List.getElem?_nil, List.set_cons_zero, List.set_cons_succ, List.cons_append, List.nil_append, List.replicate_succ, List.replicate_zero, Nat.reduceAdd, Nat.reduceSub, Nat.reduceEqDiff, Nat.reduceLeDiff, Nat.reduceLT, Option.bind_some, Option.bind_none, Option.map_some, Option.map_none, if_true, if_false, ite_true, ite_false, reduceCtorEq, decide_true, decide_false, Int.reducePow, Int.reduceToNat, Int.reduceMul, Int.reduceAdd, Int.reduceSub, Int.reduceNeg, Int.reduceLT, Int.reduceLE, List.map_append, List.map_cons, List.map_nil, g2m_ii, tLl, gInD_n, gInD_i, gInD_s, mmInsertu, g4maxu, stP, memD]) (fun s hs => by
      cases s with
      | inl z =>
        simp only [RD1, RD2, RD3, RD4, RD5, RD6, RD7, RD8, RD9, RD10, List.all_cons, List.all_nil, List.length_cons, List.length_nil, List.getElem?_cons_zero, List.getElem?_cons_succ, List.getElem?_nil, List.set_cons_zero, List.set_cons_succ, List.cons_append, List.nil_append, List.replicate_succ, List.replicate_zero, Nat.reduceAdd, Nat.reduceSub, Nat.reduceEqDiff, Nat.reduceLeDiff, Nat.reduceLT, Option.bind_some, Option.bind_none, Option.map_some, Option.map_none, if_true, if_false, ite_true, ite_false, reduceCtorEq, decide_true, decide_false, Int.reducePow, Int.reduceToNat, Int.reduceMul, Int.reduceAdd, Int.reduceSub, Int.reduceNeg, Int.reduceLT, Int.reduceLE, List.map_append, List.map_cons, List.map_nil, g2m_ii, tLl, gInD_n, gInD_i, gInD_s, mmInsertu, g4maxu]
        rfl
      | inr m =>
        have hn : TL.isNon (D.int (num m)) = false := rfl
        have h2 := F_mfrom (o _ hs).1
        simp only [RD1, RD2, RD3, RD4, RD5, RD6, RD7, RD8, RD9, RD10, List.all_cons, List.all_nil, List.length_cons, List.length_nil, List.getElem?_cons_zero, List.getElem?_cons_succ, List.getElem?_nil, List.set_cons_zero, List.set_cons_succ, List.cons_append, List.nil_append, List.replicate_succ, List.replicate_zero, Nat.reduceAdd, Nat.reduceSub, Nat.reduceEqDiff, Nat.reduceLeDiff, Nat.reduceLT, Option.bind_some, Option.bind_none, Option.map_some, Option.map_none, if_true, if_false, ite_true, ite_false, reduceCtorEq, decide_true, decide_false, Int.reducePow, Int.reduceToNat, Int.reduceMul, Int.reduceAdd, Int.reduceSub, Int.reduceNeg, Int.reduceLT, Int.reduceLE, List.map_append, List.map_cons, List.map_nil, g2m_ii, tLl, gInD_n, gInD_i, gInD_s, mmInsertu, g4maxu, h2]
        rfl)]
    simp only [RD1, RD2, RD3, RD4, RD5, RD6, RD7, RD8, RD9, RD10, List.all_cons, List.all_nil, List.length_cons, List.length_nil, List.getElem?_cons_zero, List.getElem?_cons_succ, List.getElem?_nil, List.set_cons_zero, List.set_cons_succ, List.cons_append, List.nil_append, List.replicate_succ, List.replicate_zero, Nat.reduceAdd, Nat.reduceSub, Nat.reduceEqDiff, Nat.reduceLeDiff, Nat.reduceLT, Option.bind_some, Option.bind_none, Option.map_some, Option.map_none, if_true, if_false, ite_true, ite_false, reduceCtorEq, decide_true, decide_false, Int.reducePow, Int.reduceToNat, Int.reduceMul, Int.reduceAdd, Int.reduceSub, Int.reduceNeg, Int.reduceLT, Int.reduceLE, List.map_append, List.map_cons, List.map_nil, g2m_ii, tLl, gInD_n, gInD_i, gInD_s, mmInsertu, g4maxu, List.length_map, hl2, hmk]
  · rfl
  · intro i hi
    rw [enD_length, List.length_map] at hi
    rw [en_at (f := fun s : Stp => D.str (stT s)) hi]
    have hll : ((ss.take i).map stP).length < 1000000 := by
      rw [List.length_map, List.length_take]
      omega
    have ht : ss.take (i + 1) = ss.take i ++ [ss[i]] := by
      rw [List.take_succ, List.getElem?_eq_getElem hi]
      rfl
    refine ⟨[.im (.str (bT ss)), .ow false (.lst ((ss.take i).map stP)), .im (.int (i : Nat)), .im (.str (stT ss[i])), .no, .no], by simp only [RD1, RD2, RD3, RD4, RD5, RD6, RD7, RD8, RD9, RD10, List.all_cons, List.all_nil, List.length_cons, List.length_nil, List.getElem?_cons_zero, List.getElem?_cons_succ, List.getElem?_nil, List.set_cons_zero, List.set_cons_succ, List.cons_append, List.nil_append, List.replicate_succ, List.replicate_zero, Nat.reduceAdd, Nat.reduceSub, Nat.reduceEqDiff, Nat.reduceLeDiff, Nat.reduceLT, Option.bind_some, Option.bind_none, Option.map_some, Option.map_none, if_true, if_false, ite_true, ite_false, reduceCtorEq, decide_true, decide_false, Int.reducePow, Int.reduceToNat, Int.reduceMul, Int.reduceAdd, Int.reduceSub, Int.reduceNeg, Int.reduceLT, Int.reduceLE, List.map_append, List.map_cons, List.map_nil, g2m_ii, tLl, gInD_n, gInD_i, gInD_s, mmInsertu, g4maxu], .inl ?_⟩
    have hs := o ss[i] (List.getElem_mem hi)
    rw [ht, List.map_append]
    generalize ss[i] = s at hs
    unfold lp1_read_bus
    cases s with
    | inl z =>
      have h1 := is_nm z hs
      have h2 : stT (.inl z) = z := rfl
      simp only [RD1, RD2, RD3, RD4, RD5, RD6, RD7, RD8, RD9, RD10, List.all_cons, List.all_nil, List.length_cons, List.length_nil, List.getElem?_cons_zero, List.getElem?_cons_succ, List.getElem?_nil, List.set_cons_zero, List.set_cons_succ, List.cons_append, List.nil_append, List.replicate_succ, List.replicate_zero, Nat.reduceAdd, Nat.reduceSub, Nat.reduceEqDiff, Nat.reduceLeDiff, Nat.reduceLT, Option.bind_some, Option.bind_none, Option.map_some, Option.map_none, if_true, if_false, ite_true, ite_false, reduceCtorEq, decide_true, decide_false, Int.reducePow, Int.reduceToNat, Int.reduceMul, Int.reduceAdd, Int.reduceSub, Int.reduceNeg, Int.reduceLT, Int.reduceLE, List.map_append, List.map_cons, List.map_nil, g2m_ii, tLl, gInD_n, gInD_i, gInD_s, mmInsertu, g4maxu, h2, h1, hll]
      rfl
    | inr m =>
      have h1 := F_isname_m (by decide) (by decide) hs.2
      have h2 : stT (.inr m) = mT m := rfl
      have h3 := F_pair hs.2 (.int (i : Nat))
      simp only [RD1, RD2, RD3, RD4, RD5, RD6, RD7, RD8, RD9, RD10, List.all_cons, List.all_nil, List.length_cons, List.length_nil, List.getElem?_cons_zero, List.getElem?_cons_succ, List.getElem?_nil, List.set_cons_zero, List.set_cons_succ, List.cons_append, List.nil_append, List.replicate_succ, List.replicate_zero, Nat.reduceAdd, Nat.reduceSub, Nat.reduceEqDiff, Nat.reduceLeDiff, Nat.reduceLT, Option.bind_some, Option.bind_none, Option.map_some, Option.map_none, if_true, if_false, ite_true, ite_false, reduceCtorEq, decide_true, decide_false, Int.reducePow, Int.reduceToNat, Int.reduceMul, Int.reduceAdd, Int.reduceSub, Int.reduceNeg, Int.reduceLT, Int.reduceLE, List.map_append, List.map_cons, List.map_nil, g2m_ii, tLl, gInD_n, gInD_i, gInD_s, mmInsertu, g4maxu, h2, h1, h3, hll]
      rfl
theorem F_lbus78 {ss : List Stp} (hl : ss.length ≤ 100) (o : ∀ s ∈ ss, StOk 60 s) (hb : BusOk (ss.map stD)) : F__law_bus [.im (.lst (ss.map stL))] = .rt (busT (ss.map stD)) [.im (.lst (ss.map stL))] := by
  have hmk : ∀ e, makeF "Bus" F_Bus___init__ [.im (.lst (ss.map stD))] e = .ok (busT (ss.map stD)) e := fun e => by
    have := F_bus (S := .im (.lst (ss.map stD))) .iml hb (by rw [List.length_map]; omega)
    simp only [RD1, RD2, RD3, RD4, RD5, RD6, RD7, RD8, RD9, RD10, List.all_cons, List.all_nil, List.length_cons, List.length_nil, List.getElem?_cons_zero, List.getElem?_cons_succ, List.getElem?_nil, List.set_cons_zero, List.set_cons_succ, List.cons_append, List.nil_append, List.replicate_succ, List.replicate_zero, Nat.reduceAdd, Nat.reduceSub, Nat.reduceEqDiff, Nat.reduceLeDiff, Nat.reduceLT, Option.bind_some, Option.bind_none, Option.map_some, Option.map_none, if_true, if_false, ite_true, ite_false, reduceCtorEq, decide_true, decide_false, Int.reducePow, Int.reduceToNat, Int.reduceMul, Int.reduceAdd, Int.reduceSub, Int.reduceNeg, Int.reduceLT, Int.reduceLE, List.map_append, List.map_cons, List.map_nil, g2m_ii, tLl, gInD_n, gInD_i, gInD_s, mmInsertu, g4maxu, makeF_eq, this]
  have hl2 : ss.length ≤ 1000000 := by omega
  unfold F__law_bus b__law_bus
  simp only [RD1, RD2, RD3, RD4, RD5, RD6, RD7, RD8, RD9, RD10, List.all_cons, List.all_nil, List.length_cons, List.length_nil, List.getElem?_cons_zero, List.getElem?_cons_succ, List.getElem?_nil, List.set_cons_zero, List.set_cons_succ, List.cons_append, List.nil_append, List.replicate_succ, List.replicate_zero, Nat.reduceAdd, Nat.reduceSub, Nat.reduceEqDiff, Nat.reduceLeDiff, Nat.reduceLT, Option.bind_some, Option.bind_none, Option.map_some, Option.map_none, if_true, if_false, ite_true, ite_false, reduceCtorEq, decide_true, decide_false, Int.reducePow, Int.reduceToNat, Int.reduceMul, Int.reduceAdd, Int.reduceSub, Int.reduceNeg, Int.reduceLT, Int.reduceLE, List.map_append, List.map_cons, List.map_nil, g2m_ii, tLl, gInD_n, gInD_i, gInD_s, mmInsertu, g4maxu]
  rw [lcL_all (fun s : Stp => [stL s]) stD (by simp only [RD1, RD2, RD3, RD4, RD5, RD6, RD7, RD8, RD9, RD10, List.all_cons, List.all_nil, List.length_cons, List.length_nil, List.getElem?_cons_zero, List.getElem?_cons_succ, List.getElem?_nil, List.set_cons_zero, List.set_cons_succ, List.cons_append, List.nil_append, List.replicate_succ, List.replicate_zero, Nat.reduceAdd, Nat.reduceSub, Nat.reduceEqDiff, Nat.reduceLeDiff, Nat.reduceLT, Option.bind_some, Option.bind_none, Option.map_some, Option.map_none, if_true, if_false, ite_true, ite_false, reduceCtorEq, decide_true, decide_false, Int.reducePow, Int.reduceToNat, Int.reduceMul, Int.reduceAdd, Int.reduceSub, Int.reduceNeg, Int.reduceLT, Int.reduceLE, List.map_append, List.map_cons, List.map_nil, g2m_ii, tLl, gInD_n, gInD_i, gInD_s, mmInsertu, g4maxu]) (by simp only [RD1, RD2, RD3, RD4, RD5, RD6, RD7, RD8, RD9, RD10, List.all_cons, List.all_nil, List.length_cons, List.length_nil, List.getElem?_cons_zero, List.getElem?_cons_succ, List.getElem?_nil, List.set_cons_zero, List.set_cons_succ, List.cons_append, List.nil_append, List.replicate_succ, List.replicate_zero, Nat.reduceAdd, Nat.reduceSub, Nat.reduceEqDiff, Nat.reduceLeDiff, Nat.reduceLT, Option.bind_some, Option.bind_none, Option.map_some, Option.map_none, if_true, if_false, ite_true, ite_false, reduceCtorEq, decide_true, decide_false, Int.reducePow, Int.reduceToNat, Int.reduceMul, Int.reduceAdd, Int.reduceSub, Int.reduceNeg, Int.reduceLT, Int.reduceLE, List.map_append, List.map_cons, List.map_nil, g2m_ii, tLl, gInD_n, gInD_i, gInD_s, mmInsertu, g4maxu]) (fun m _ => by simp only [RD1, RD2, RD3, RD4, RD5, RD6, RD7, RD8, RD9, RD10, List.all_cons, List.all_nil, List.length_cons, List.length_nil, List.getElem?_cons_zero, List.getElem?_cons_succ, List.getElem?_nil, List.set_cons_zero, List.set_cons_succ, List.cons_append, List.nil_append, List.replicate_succ, List.replicate_zero, Nat.reduceAdd, Nat.reduceSub, Nat.reduceEqDiff, Nat.reduceLeDiff, Nat.reduceLT, Option.bind_some, Option.bind_none, Option.map_some, Option.map_none, if_true, if_false, ite_true, ite_false, reduceCtorEq, decide_true, decide_false, Int.reducePow, Int.reduceToNat, Int.reduceMul, Int.reduceAdd, Int.reduceSub, Int.reduceNeg, Int.reduceLT, Int.reduceLE, List.map_append, List.map_cons, List.map_nil, g2m_ii, tLl, gInD_n, gInD_i, gInD_s, mmInsertu, g4maxu]) (fun s hs => by
    have h1 := st_isL s
    cases s with
    | inl z => simp only [RD1, RD2, RD3, RD4, RD5, RD6, RD7, RD8, RD9, RD10, List.all_cons, List.all_nil, List.length_cons, List.length_nil, List.getElem?_cons_zero, List.getElem?_cons_succ, List.getElem?_nil, List.set_cons_zero, List.set_cons_succ, List.cons_append, List.nil_append, List.replicate_succ, List.replicate_zero, Nat.reduceAdd, Nat.reduceSub, Nat.reduceEqDiff, Nat.reduceLeDiff, Nat.reduceLT, Option.bind_some, Option.bind_none, Option.map_some, Option.map_none, if_true, if_false, ite_true, ite_false, reduceCtorEq, decide_true, decide_false, Int.reducePow, Int.reduceToNat, Int.reduceMul, Int.reduceAdd, Int.reduceSub, Int.reduceNeg, Int.reduceLT, Int.reduceLE, List.map_append, List.map_cons, List.map_nil, g2m_ii, tLl, gInD_n, gInD_i, gInD_s, mmInsertu, g4maxu, h1, Sum.isLeft]; rfl
    | inr m =>
      have h2 := F_made [m] (by show 1 ≤ 100000; omega) (fun x hx => by rw [List.mem_singleton.mp hx]; exact (o _ hs).1)
      have h3 : stL (.inr m) = memD m := rfl
      have h4 : ([m].map memD) = [memD m] := rfl
      have h5 : ([m].map Mb.tree) = [m.tree] := rfl
      rw [h4, h5] at h2
      have h6 : atI [m.tree] (0 : Int) = some m.tree := rfl
      rw [h3] at h1
      simp only [RD1, RD2, RD3, RD4, RD5, RD6, RD7, RD8, RD9, RD10, List.all_cons, List.all_nil, List.length_cons, List.length_nil, List.getElem?_cons_zero, List.getElem?_cons_succ, List.getElem?_nil, List.set_cons_zero, List.set_cons_succ, List.cons_append, List.nil_append, List.replicate_succ, List.replicate_zero, Nat.reduceAdd, Nat.reduceSub, Nat.reduceEqDiff, Nat.reduceLeDiff, Nat.reduceLT, Option.bind_some, Option.bind_none, Option.map_some, Option.map_none, if_true, if_false, ite_true, ite_false, reduceCtorEq, decide_true, decide_false, Int.reducePow, Int.reduceToNat, Int.reduceMul, Int.reduceAdd, Int.reduceSub, Int.reduceNeg, Int.reduceLT, Int.reduceLE, List.map_append, List.map_cons, List.map_nil, g2m_ii, tLl, gInD_n, gInD_i, gInD_s, mmInsertu, g4maxu, h1, Sum.isLeft, h3, h2, h6]
      rfl)]
  simp only [RD1, RD2, RD3, RD4, RD5, RD6, RD7, RD8, RD9, RD10, List.all_cons, List.all_nil, List.length_cons, List.length_nil, List.getElem?_cons_zero, List.getElem?_cons_succ, List.getElem?_nil, List.set_cons_zero, List.set_cons_succ, List.cons_append, List.nil_append, List.replicate_succ, List.replicate_zero, Nat.reduceAdd, Nat.reduceSub, Nat.reduceEqDiff, Nat.reduceLeDiff, Nat.reduceLT, Option.bind_some, Option.bind_none, Option.map_some, Option.map_none, if_true, if_false, ite_true, ite_false, reduceCtorEq, decide_true, decide_false, Int.reducePow, Int.reduceToNat, Int.reduceMul, Int.reduceAdd, Int.reduceSub, Int.reduceNeg, Int.reduceLT, Int.reduceLE, List.map_append, List.map_cons, List.map_nil, g2m_ii, tLl, gInD_n, gInD_i, gInD_s, mmInsertu, g4maxu, List.length_map, hl2, hmk]
theorem F_lstext {k : Nat} (hk0 : 0 < k) (hk : k ≤ 500) {ss : List Stp} (hl : ss.length ≤ 100) (o : ∀ s ∈ ss, StOk k s) : F__law_steps_text [.im (.lst (ss.map stL))] = .rt (.str (bT ss)) [.im (.lst (ss.map stL))] := by
  have hj := bT_lenZ hk0 hk hl o
  have hj2 : lenZ (ss.map stT) + ss.length * ("; " : Str).length ≤ 16777216 := by
    rw [len_ss]
    rw [len_cs] at hj
    have : 100 * (k + 10) ≤ 100 * 510 := Nat.mul_le_mul_left _ (by omega)
    omega
  have hl2 : ss.length ≤ 1000000 := by omega
  unfold F__law_steps_text b__law_steps_text
  simp only [RD1, RD2, RD3, RD4, RD5, RD6, RD7, RD8, RD9, RD10, List.all_cons, List.all_nil, List.length_cons, List.length_nil, List.getElem?_cons_zero, List.getElem?_cons_succ, List.getElem?_nil, List.set_cons_zero, List.set_cons_succ, List.cons_append, List.nil_append, List.replicate_succ, List.replicate_zero, Nat.reduceAdd, Nat.reduceSub, Nat.reduceEqDiff, Nat.reduceLeDiff, Nat.reduceLT, Option.bind_some, Option.bind_none, Option.map_some, Option.map_none, if_true, if_false, ite_true, ite_false, reduceCtorEq, decide_true, decide_false, Int.reducePow, Int.reduceToNat, Int.reduceMul, Int.reduceAdd, Int.reduceSub, Int.reduceNeg, Int.reduceLT, Int.reduceLE, List.map_append, List.map_cons, List.map_nil, g2m_ii, tLl, gInD_n, gInD_i, gInD_s, mmInsertu, g4maxu, fJoin]
  rw [lcL_all (fun s : Stp => [stL s]) (fun s => D.str (stT s)) (by simp only [RD1, RD2, RD3, RD4, RD5, RD6, RD7, RD8, RD9, RD10, List.all_cons, List.all_nil, List.length_cons, List.length_nil, List.getElem?_cons_zero, List.getElem?_cons_succ, List.getElem?_nil, List.set_cons_zero, List.set_cons_succ, List.cons_append, List.nil_append, List.replicate_succ, List.replicate_zero, Nat.reduceAdd, Nat.reduceSub, Nat.reduceEqDiff, Nat.reduceLeDiff, Nat.reduceLT, Option.bind_some, Option.bind_none, Option.map_some, Option.map_none, if_true, if_false, ite_true, ite_false, reduceCtorEq, decide_true, decide_false, Int.reducePow, Int.reduceToNat, Int.reduceMul, Int.reduceAdd, Int.reduceSub, Int.reduceNeg, Int.reduceLT, Int.reduceLE, List.map_append, List.map_cons, List.map_nil, g2m_ii, tLl, gInD_n, gInD_i, gInD_s, mmInsertu, g4maxu]) (by simp only [RD1, RD2, RD3, RD4, RD5, RD6, RD7, RD8, RD9, RD10, List.all_cons, List.all_nil, List.length_cons, List.length_nil, List.getElem?_cons_zero, List.getElem?_cons_succ, List.getElem?_nil, List.set_cons_zero, List.set_cons_succ, List.cons_append, List.nil_append, List.replicate_succ, List.replicate_zero, Nat.reduceAdd, Nat.reduceSub, Nat.reduceEqDiff, Nat.reduceLeDiff, Nat.reduceLT, Option.bind_some, Option.bind_none, Option.map_some, Option.map_none, if_true, if_false, ite_true, ite_false, reduceCtorEq, decide_true, decide_false, Int.reducePow, Int.reduceToNat, Int.reduceMul, Int.reduceAdd, Int.reduceSub, Int.reduceNeg, Int.reduceLT, Int.reduceLE, List.map_append, List.map_cons, List.map_nil, g2m_ii, tLl, gInD_n, gInD_i, gInD_s, mmInsertu, g4maxu]) (fun m _ => by simp only [RD1, RD2, RD3, RD4, RD5, RD6, RD7, RD8, RD9, RD10, List.all_cons, List.all_nil, List.length_cons, List.length_nil, List.getElem?_cons_zero, List.getElem?_cons_succ, List.getElem?_nil, List.set_cons_zero, List.set_cons_succ, List.cons_append, List.nil_append, List.replicate_succ, List.replicate_zero, Nat.reduceAdd, Nat.reduceSub, Nat.reduceEqDiff, Nat.reduceLeDiff, Nat.reduceLT, Option.bind_some, Option.bind_none, Option.map_some, Option.map_none, if_true, if_false, ite_true, ite_false, reduceCtorEq, decide_true, decide_false, Int.reducePow, Int.reduceToNat, Int.reduceMul, Int.reduceAdd, Int.reduceSub, Int.reduceNeg, Int.reduceLT, Int.reduceLE, List.map_append, List.map_cons, List.map_nil, g2m_ii, tLl, gInD_n, gInD_i, gInD_s, mmInsertu, g4maxu]) (fun s hs => by
    have h1 := st_isL s
    cases s with
    | inl z => simp only [RD1, RD2, RD3, RD4, RD5, RD6, RD7, RD8, RD9, RD10, List.all_cons, List.all_nil, List.length_cons, List.length_nil, List.getElem?_cons_zero, List.getElem?_cons_succ, List.getElem?_nil, List.set_cons_zero, List.set_cons_succ, List.cons_append, List.nil_append, List.replicate_succ, List.replicate_zero, Nat.reduceAdd, Nat.reduceSub, Nat.reduceEqDiff, Nat.reduceLeDiff, Nat.reduceLT, Option.bind_some, Option.bind_none, Option.map_some, Option.map_none, if_true, if_false, ite_true, ite_false, reduceCtorEq, decide_true, decide_false, Int.reducePow, Int.reduceToNat, Int.reduceMul, Int.reduceAdd, Int.reduceSub, Int.reduceNeg, Int.reduceLT, Int.reduceLE, List.map_append, List.map_cons, List.map_nil, g2m_ii, tLl, gInD_n, gInD_i, gInD_s, mmInsertu, g4maxu, h1, Sum.isLeft]; rfl
    | inr m =>
      have h3 : stL (.inr m) = memD m := rfl
      have x0 : gIx (memD m) (.int 0) = some (.str (kindS m)) := rfl
      have x1 : gIx (memD m) (.int 1) = some (.int (num m)) := rfl
      have h4 := strI hk (o _ hs).2
      have h5 := kS_len m
      have h6 := zT_len hk0 (o _ hs).2
      have l1 : (kindS m).length + (" " : Str).length ≤ 1000000 := by
        rw [len_bl]
        omega
      have l2 : (kindS m ++ (" " : Str)).length + (zT (num m)).length ≤ 1000000 := by
        rw [← sg_len (kindS m ++ (" " : Str)), sg_app, List.length_append, sg_len, sg_blank]
        show _ + 1 + _ ≤ _
        omega
      rw [h3] at h1
      simp only [RD1, RD2, RD3, RD4, RD5, RD6, RD7, RD8, RD9, RD10, List.all_cons, List.all_nil, List.length_cons, List.length_nil, List.getElem?_cons_zero, List.getElem?_cons_succ, List.getElem?_nil, List.set_cons_zero, List.set_cons_succ, List.cons_append, List.nil_append, List.replicate_succ, List.replicate_zero, Nat.reduceAdd, Nat.reduceSub, Nat.reduceEqDiff, Nat.reduceLeDiff, Nat.reduceLT, Option.bind_some, Option.bind_none, Option.map_some, Option.map_none, if_true, if_false, ite_true, ite_false, reduceCtorEq, decide_true, decide_false, Int.reducePow, Int.reduceToNat, Int.reduceMul, Int.reduceAdd, Int.reduceSub, Int.reduceNeg, Int.reduceLT, Int.reduceLE, List.map_append, List.map_cons, List.map_nil, g2m_ii, tLl, gInD_n, gInD_i, gInD_s, mmInsertu, g4maxu, h1, Sum.isLeft, h3, x0, x1, h4, l1, l2]
      rfl)]
  simp only [RD1, RD2, RD3, RD4, RD5, RD6, RD7, RD8, RD9, RD10, List.all_cons, List.all_nil, List.length_cons, List.length_nil, List.getElem?_cons_zero, List.getElem?_cons_succ, List.getElem?_nil, List.set_cons_zero, List.set_cons_succ, List.cons_append, List.nil_append, List.replicate_succ, List.replicate_zero, Nat.reduceAdd, Nat.reduceSub, Nat.reduceEqDiff, Nat.reduceLeDiff, Nat.reduceLT, Option.bind_some, Option.bind_none, Option.map_some, Option.map_none, if_true, if_false, ite_true, ite_false, reduceCtorEq, decide_true, decide_false, Int.reducePow, Int.reduceToNat, Int.reduceMul, Int.reduceAdd, Int.reduceSub, Int.reduceNeg, Int.reduceLT, Int.reduceLE, List.map_append, List.map_cons, List.map_nil, g2m_ii, tLl, gInD_n, gInD_i, gInD_s, mmInsertu, g4maxu, List.length_map, hl2, strs_m, hj2, txt_join]
  rfl

theorem flat1 {d : D} (h : okD 16 d = true) : eqO tb eq1 F_Thing___eq___1 d d = some true := by
  unfold eqO
  rw [eqT_flat h h, eqD_refl h]
theorem str1 {z : Str} (h : PySem.PyData.strOk z = true) : eqO tb eq1 F_Thing___eq___1 (.str z) (.str z) = some true := flat1 (by exact h)
theorem kind_self (m : Mb) : gNe (.str (kindS m)) (.str (kindS m)) = some (.bl false) := by
  cases m with
  | last q => exact gNe_self (by decide +kernel : PySem.PyData.strOk "last" = true)
  | first q => exact gNe_self (by decide +kernel : PySem.PyData.strOk "first" = true)
  | limit q => exact gNe_self (by decide +kernel : PySem.PyData.strOk "limit" = true)
  | delay q => exact gNe_self (by decide +kernel : PySem.PyData.strOk "delay" = true)
theorem mb_eq0 (m : Mb) : F_Thing___eq___0 [.im m.tree, .im m.tree] = .rt (.bl true) [.im m.tree, .im m.tree] := by
  have h1 : gIsi tb [.own "Thing"] m.tree = some (.bl true) := by cases m <;> rfl
  have h2 : ∀ e, methF "class_name" [("Last", F_Last_class_name), ("First", F_First_class_name), ("Limit", F_Limit_class_name), ("Delay", F_Delay_class_name)] fNil (.im m.tree) e = .ok (.str (kindS m)) e := fun e => by cases m <;> rfl
  have h3 : ∀ e, methF "facts" [("Last", F_Member_facts), ("First", F_Member_facts), ("Limit", F_Member_facts), ("Delay", F_Delay_facts)] fNil (.im m.tree) e = .ok (.tup [.int (num m)]) e := fun e => by cases m <;> rfl
  have h4 := kind_self m
  have h5 : gEq (.tup [.int (num m)]) (.tup [.int (num m)]) = some (.bl true) := gEq_self rfl
  unfold F_Thing___eq___0 b_Thing___eq___0
  simp only [RD1, RD2, RD3, RD4, RD5, RD6, RD7, RD8, RD9, RD10, List.all_cons, List.all_nil, List.length_cons, List.length_nil, List.getElem?_cons_zero, List.getElem?_cons_succ, List.getElem?_nil, List.set_cons_zero, List.set_cons_succ, List.cons_append, List.nil_append, List.replicate_succ, List.replicate_zero, Nat.reduceAdd, Nat.reduceSub, Nat.reduceEqDiff, Nat.reduceLeDiff, Nat.reduceLT, Option.bind_some, Option.bind_none, Option.map_some, Option.map_none, if_true, if_false, ite_true, ite_false, reduceCtorEq, decide_true, decide_false, Int.reducePow, Int.reduceToNat, Int.reduceMul, Int.reduceAdd, Int.reduceSub, Int.reduceNeg, Int.reduceLT, Int.reduceLE, List.map_append, List.map_cons, List.map_nil, g2m_ii, tLl, gInD_n, gInD_i, gInD_s, mmInsertu, g4maxu, h1, h2, h3, h4, h5]
theorem self0 {n : Nat} {d : D} (h : Gd d) : eqT eq0 (ownE tb eq0 F_Thing___eq___0) (n + 1) d d = some true := by
  rcases h with ⟨z, hz, rfl⟩ | ⟨m, rfl⟩
  · have hs : okD 16 (.str z) = true := nm_ok z hz
    rw [eqT_flat hs hs, eqD_refl hs]
  · have := mb_eq0 m
    cases m <;> (unfold Mb.tree at this ⊢; rw [eqT_ins]; exact ownE_of (by rfl) (by rfl) this)
theorem facts_self {ds : List D} (hg : ∀ d ∈ ds, Gd d) : eqO tb eq0 F_Thing___eq___0 (.tup [.tup ds]) (.tup [.tup ds]) = some true := by
  refine eqT_tup fun d hd => ?_
  rw [List.mem_singleton.mp hd]
  exact eqT_tup fun d hd => self0 (hg d hd)
theorem bus_self {ds : List D} (hg : ∀ d ∈ ds, Gd d) : eqO tb eq1 F_Thing___eq___1 (busT ds) (busT ds) = some true := by
  have h := facts_self hg
  have h1 : gIsi tb [.own "Thing"] (busT ds) = some (.bl true) := rfl
  have h2 : ∀ e, methF "class_name" [("Last", F_Last_class_name), ("First", F_First_class_name), ("Limit", F_Limit_class_name), ("Delay", F_Delay_class_name), ("Row", F_Row_class_name), ("Bus", F_Bus_class_name), ("Train", F_Train_class_name)] fNil (.im (busT ds)) e = .ok (.str "bus") e := fun _ => rfl
  have h3 : ∀ e, methF "facts" [("Last", F_Member_facts), ("First", F_Member_facts), ("Limit", F_Member_facts), ("Delay", F_Delay_facts), ("Row", F_Row_facts), ("Bus", F_Bus_facts), ("Train", F_Train_facts)] fNil (.im (busT ds)) e = .ok (.tup [.tup ds]) e := fun _ => rfl
  have h4 : gNe (.str "bus") (.str "bus") = some (.bl false) := gNe_self (by decide +kernel : PySem.PyData.strOk "bus" = true)
  have hF : F_Thing___eq___1 [.im (busT ds), .im (busT ds)] = .rt (.bl true) [.im (busT ds), .im (busT ds)] := by
    unfold F_Thing___eq___1 b_Thing___eq___1
    simp only [RD1, RD2, RD3, RD4, RD5, RD6, RD7, RD8, RD9, RD10, List.all_cons, List.all_nil, List.length_cons, List.length_nil, List.getElem?_cons_zero, List.getElem?_cons_succ, List.getElem?_nil, List.set_cons_zero, List.set_cons_succ, List.cons_append, List.nil_append, List.replicate_succ, List.replicate_zero, Nat.reduceAdd, Nat.reduceSub, Nat.reduceEqDiff, Nat.reduceLeDiff, Nat.reduceLT, Option.bind_some, Option.bind_none, Option.map_some, Option.map_none, if_true, if_false, ite_true, ite_false, reduceCtorEq, decide_true, decide_false, Int.reducePow, Int.reduceToNat, Int.reduceMul, Int.reduceAdd, Int.reduceSub, Int.reduceNeg, Int.reduceLT, Int.reduceLE, List.map_append, List.map_cons, List.map_nil, g2m_ii, tLl, gInD_n, gInD_i, gInD_s, mmInsertu, g4maxu, h1, h2, h3, h4, h, f2q_eq, qT_ii]
  unfold eqO
  rw [show busT ds = .ins "Bus" ["steps"] [.tup ds] from rfl, eqT_ins]
  exact ownE_of (by rfl) (by rfl) hF
theorem row_self (ms : List Mb) : eqO tb eq1 F_Thing___eq___1 (rowD ms) (rowD ms) = some true := by
  have h := facts_self (ds := ms.map Mb.tree) fun d hd => by
    obtain ⟨m, _, rfl⟩ := List.mem_map.mp hd
    exact .inr ⟨m, rfl⟩
  have h1 : gIsi tb [.own "Thing"] (rowD ms) = some (.bl true) := rfl
  have h2 : ∀ e, methF "class_name" [("Last", F_Last_class_name), ("First", F_First_class_name), ("Limit", F_Limit_class_name), ("Delay", F_Delay_class_name), ("Row", F_Row_class_name), ("Bus", F_Bus_class_name), ("Train", F_Train_class_name)] fNil (.im (rowD ms)) e = .ok (.str "row") e := fun _ => rfl
  have h3 : ∀ e, methF "facts" [("Last", F_Member_facts), ("First", F_Member_facts), ("Limit", F_Member_facts), ("Delay", F_Delay_facts), ("Row", F_Row_facts), ("Bus", F_Bus_facts), ("Train", F_Train_facts)] fNil (.im (rowD ms)) e = .ok (.tup [.tup (ms.map Mb.tree)]) e := fun _ => rfl
  have h4 : gNe (.str "row") (.str "row") = some (.bl false) := gNe_self (by decide +kernel : PySem.PyData.strOk "row" = true)
  have hF : F_Thing___eq___1 [.im (rowD ms), .im (rowD ms)] = .rt (.bl true) [.im (rowD ms), .im (rowD ms)] := by
    unfold F_Thing___eq___1 b_Thing___eq___1
    simp only [RD1, RD2, RD3, RD4, RD5, RD6, RD7, RD8, RD9, RD10, List.all_cons, List.all_nil, List.length_cons, List.length_nil, List.getElem?_cons_zero, List.getElem?_cons_succ, List.getElem?_nil, List.set_cons_zero, List.set_cons_succ, List.cons_append, List.nil_append, List.replicate_succ, List.replicate_zero, Nat.reduceAdd, Nat.reduceSub, Nat.reduceEqDiff, Nat.reduceLeDiff, Nat.reduceLT, Option.bind_some, Option.bind_none, Option.map_some, Option.map_none, if_true, if_false, ite_true, ite_false, reduceCtorEq, decide_true, decide_false, Int.reducePow, Int.reduceToNat, Int.reduceMul, Int.reduceAdd, Int.reduceSub, Int.reduceNeg, Int.reduceLT, Int.reduceLE, List.map_append, List.map_cons, List.map_nil, g2m_ii, tLl, gInD_n, gInD_i, gInD_s, mmInsertu, g4maxu, h1, h2, h3, h4, h, f2q_eq, qT_ii]
  unfold rowD at hF ⊢
  unfold eqO
  rw [eqT_ins]
  exact ownE_of (by rfl) (by rfl) hF
theorem num_in {most : Int} {m : Mb} (h : m.in most) (hm : most < 10 ^ 60) : NumOk (num m) := by
  have key : 0 ≤ num m ∧ num m ≤ most := by
    cases m with
    | delay q => exact ⟨h.1, Int.le_of_lt h.2⟩
    | last q => exact ⟨Int.le_trans (by decide) h.1, h.2⟩
    | first q => exact ⟨Int.le_trans (by decide) h.1, h.2⟩
    | limit q => exact ⟨Int.le_trans (by decide) h.1, h.2⟩
  unfold NumOk
  omega
theorem F_mstext {ms : List Mb} (hl : ms.length ≤ 1000) (h : ∀ m ∈ ms, NumOk (num m)) : F__law_members_text [.im (.lst (ms.map memD))] = .ro (.lst (ms.map fun m => D.str (mT m))) [.im (.lst (ms.map memD))] := by
  have hl2 : ms.length ≤ 1000000 := by omega
  unfold F__law_members_text b__law_members_text
  simp only [RD1, RD2, RD3, RD4, RD5, RD6, RD7, RD8, RD9, RD10, List.all_cons, List.all_nil, List.length_cons, List.length_nil, List.getElem?_cons_zero, List.getElem?_cons_succ, List.getElem?_nil, List.set_cons_zero, List.set_cons_succ, List.cons_append, List.nil_append, List.replicate_succ, List.replicate_zero, Nat.reduceAdd, Nat.reduceSub, Nat.reduceEqDiff, Nat.reduceLeDiff, Nat.reduceLT, Option.bind_some, Option.bind_none, Option.map_some, Option.map_none, if_true, if_false, ite_true, ite_false, reduceCtorEq, decide_true, decide_false, Int.reducePow, Int.reduceToNat, Int.reduceMul, Int.reduceAdd, Int.reduceSub, Int.reduceNeg, Int.reduceLT, Int.reduceLE, List.map_append, List.map_cons, List.map_nil, g2m_ii, tLl, gInD_n, gInD_i, gInD_s, mmInsertu, g4maxu]
  rw [lcL_all (fun m : Mb => [.str (kindS m), .int (num m)]) (fun m => D.str (mT m)) (by simp only [RD1, RD2, RD3, RD4, RD5, RD6, RD7, RD8, RD9, RD10, List.all_cons, List.all_nil, List.length_cons, List.length_nil, List.getElem?_cons_zero, List.getElem?_cons_succ, List.getElem?_nil, List.set_cons_zero, List.set_cons_succ, List.cons_append, List.nil_append, List.replicate_succ, List.replicate_zero, Nat.reduceAdd, Nat.reduceSub, Nat.reduceEqDiff, Nat.reduceLeDiff, Nat.reduceLT, Option.bind_some, Option.bind_none, Option.map_some, Option.map_none, if_true, if_false, ite_true, ite_false, reduceCtorEq, decide_true, decide_false, Int.reducePow, Int.reduceToNat, Int.reduceMul, Int.reduceAdd, Int.reduceSub, Int.reduceNeg, Int.reduceLT, Int.reduceLE, List.map_append, List.map_cons, List.map_nil, g2m_ii, tLl, gInD_n, gInD_i, gInD_s, mmInsertu, g4maxu]) (by simp only [RD1, RD2, RD3, RD4, RD5, RD6, RD7, RD8, RD9, RD10, List.all_cons, List.all_nil, List.length_cons, List.length_nil, List.getElem?_cons_zero, List.getElem?_cons_succ, List.getElem?_nil, List.set_cons_zero, List.set_cons_succ, List.cons_append, List.nil_append, List.replicate_succ, List.replicate_zero, Nat.reduceAdd, Nat.reduceSub, Nat.reduceEqDiff, Nat.reduceLeDiff, Nat.reduceLT, Option.bind_some, Option.bind_none, Option.map_some, Option.map_none, if_true, if_false, ite_true, ite_false, reduceCtorEq, decide_true, decide_false, Int.reducePow, Int.reduceToNat, Int.reduceMul, Int.reduceAdd, Int.reduceSub, Int.reduceNeg, Int.reduceLT, Int.reduceLE, List.map_append, List.map_cons, List.map_nil, g2m_ii, tLl, gInD_n, gInD_i, gInD_s, mmInsertu, g4maxu]) (fun m _ => by simp only [RD1, RD2, RD3, RD4, RD5, RD6, RD7, RD8, RD9, RD10, List.all_cons, List.all_nil, List.length_cons, List.length_nil, List.getElem?_cons_zero, List.getElem?_cons_succ, List.getElem?_nil, List.set_cons_zero, List.set_cons_succ, List.cons_append, List.nil_append, List.replicate_succ, List.replicate_zero, Nat.reduceAdd, Nat.reduceSub, Nat.reduceEqDiff, Nat.reduceLeDiff, Nat.reduceLT, Option.bind_some, Option.bind_none, Option.map_some, Option.map_none, if_true, if_false, ite_true, ite_false, reduceCtorEq, decide_true, decide_false, Int.reducePow, Int.reduceToNat, Int.reduceMul, Int.reduceAdd, Int.reduceSub, Int.reduceNeg, Int.reduceLT, Int.reduceLE, List.map_append, List.map_cons, List.map_nil, g2m_ii, tLl, gInD_n, gInD_i, gInD_s, mmInsertu, g4maxu, memD]) (fun m hm => by
    have h4 := strI (k := 60) (by decide) (h m hm)
    have h5 := kS_len m
    have h6 := zT_len (k := 60) (by decide) (h m hm)
    have l1 : (kindS m).length + (" " : Str).length ≤ 1000000 := by
      rw [len_bl]
      omega
    have l2 : (kindS m ++ (" " : Str)).length + (zT (num m)).length ≤ 1000000 := by
      rw [← sg_len (kindS m ++ (" " : Str)), sg_app, List.length_append, sg_len, sg_blank]
      show _ + 1 + _ ≤ _
      omega
    simp only [RD1, RD2, RD3, RD4, RD5, RD6, RD7, RD8, RD9, RD10, List.all_cons, List.all_nil, List.length_cons, List.length_nil, List.getElem?_cons_zero, List.getElem?_cons_succ, List.getElem?_nil, List.set_cons_zero, List.set_cons_succ, List.cons_append, List.nil_append, List.replicate_succ, List.replicate_zero, Nat.reduceAdd, Nat.reduceSub, Nat.reduceEqDiff, Nat.reduceLeDiff, Nat.reduceLT, Option.bind_some, Option.bind_none, Option.map_some, Option.map_none, if_true, if_false, ite_true, ite_false, reduceCtorEq, decide_true, decide_false, Int.reducePow, Int.reduceToNat, Int.reduceMul, Int.reduceAdd, Int.reduceSub, Int.reduceNeg, Int.reduceLT, Int.reduceLE, List.map_append, List.map_cons, List.map_nil, g2m_ii, tLl, gInD_n, gInD_i, gInD_s, mmInsertu, g4maxu, h4, l1, l2]
    rfl)]
  simp only [RD1, RD2, RD3, RD4, RD5, RD6, RD7, RD8, RD9, RD10, List.all_cons, List.all_nil, List.length_cons, List.length_nil, List.getElem?_cons_zero, List.getElem?_cons_succ, List.getElem?_nil, List.set_cons_zero, List.set_cons_succ, List.cons_append, List.nil_append, List.replicate_succ, List.replicate_zero, Nat.reduceAdd, Nat.reduceSub, Nat.reduceEqDiff, Nat.reduceLeDiff, Nat.reduceLT, Option.bind_some, Option.bind_none, Option.map_some, Option.map_none, if_true, if_false, ite_true, ite_false, reduceCtorEq, decide_true, decide_false, Int.reducePow, Int.reduceToNat, Int.reduceMul, Int.reduceAdd, Int.reduceSub, Int.reduceNeg, Int.reduceLT, Int.reduceLE, List.map_append, List.map_cons, List.map_nil, g2m_ii, tLl, gInD_n, gInD_i, gInD_s, mmInsertu, g4maxu, List.length_map, hl2]
theorem ne_mems (m : Mb) (ms : List Mb) : gNe (.lst ((m :: ms).map memD)) (.lst []) = some (.bl true) := by
  have ho : okD 16 (.lst ((m :: ms).map memD)) = true := List.all_eq_true.mpr fun x hx => by
    obtain ⟨i, _, rfl⟩ := List.mem_map.mp hx
    cases i with
    | last q =>
      show (PySem.PyData.strOk "last" && (true && true)) = true
      decide +kernel
    | first q =>
      show (PySem.PyData.strOk "first" && (true && true)) = true
      decide +kernel
    | limit q =>
      show (PySem.PyData.strOk "limit" && (true && true)) = true
      decide +kernel
    | delay q =>
      show (PySem.PyData.strOk "delay" && (true && true)) = true
      decide +kernel
  unfold gNe
  rw [ho]
  rfl
theorem er_map {α β : Type} (f : α → β) : ∀ (l : List α) (k : Nat), (l.map f).eraseIdx k = (l.eraseIdx k).map f
  | [], k => by cases k <;> rfl
  | a :: l, 0 => rfl
  | a :: l, k + 1 => by
    show f a :: (l.map f).eraseIdx k = f a :: (l.eraseIdx k).map f
    rw [er_map f l k]
theorem er_perm {α : Type} : ∀ (l : List α) (k : Nat) (h : k < l.length), l.Perm (l[k] :: l.eraseIdx k)
  | a :: l, 0, _ => .refl _
  | a :: l, k + 1, h => by
    have hk : k < l.length := by rw [List.length_cons] at h; omega
    exact ((er_perm l k hk).cons a).trans (.swap _ _ _)
theorem pop_at {l : List Str} {k : Nat} (hk : k < l.length) (hl : l.length ≤ 1000) : mmPopAt (l.map D.str) [.int (k : Nat)] = some (.str l[k], (l.eraseIdx k).map D.str) := by
  have hix : seqIndex? ((k : Nat) : Int) (l.map D.str).length = some k := by
    have hk0 : ¬ ((k : Nat) : Int) < 0 := by omega
    have hk1 : (0 ≤ ((k : Nat) : Int) && decide (((k : Nat) : Int) < (l.length : Nat))) = true := by
      rw [Bool.and_eq_true, decide_eq_true_eq, decide_eq_true_eq]
      exact ⟨by omega, by omega⟩
    rw [List.length_map]
    unfold seqIndex?
    simp only [hk0, if_false, hk1, if_true, Int.toNat_natCast]
  show (if (l.map D.str).length ≤ 1000000 then (match seqIndex? ((k : Nat) : Int) (l.map D.str).length with
    | some k => (match (l.map D.str)[k]? with
      | some y => some (y, (l.map D.str).eraseIdx k)
      | none => none)
    | none => none) else none) = _
  rw [if_pos (by rw [List.length_map]; omega), hix]
  dsimp only
  rw [List.getElem?_map, List.getElem?_eq_getElem hk, er_map]
  rfl
def nmS : List Stp → List Str
  | [] => []
  | .inl z :: l => z :: nmS l
  | .inr _ :: l => nmS l
theorem nmS_app : ∀ (a b : List Stp), nmS (a ++ b) = nmS a ++ nmS b
  | [], b => rfl
  | .inl z :: a, b => congrArg _ (nmS_app a b)
  | .inr m :: a, b => nmS_app a b
theorem nmS_mem (ms : List Mb) : nmS (ms.map Sum.inr) = [] := by
  induction ms with
  | nil => rfl
  | cons m ms ih => exact ih
theorem nmS_D : ∀ ss : List Stp, nmsOf (ss.map stD) = nmS ss
  | [] => rfl
  | .inl z :: l => by
    show z :: nmsOf (l.map stD) = z :: nmS l
    rw [nmS_D l]
  | .inr m :: l => by
    show nmsOf (m.tree :: l.map stD) = nmS l
    rw [nmsOf_mb, nmS_D l]
structure StI (L : List Str) (ss : List Stp) (n : Nat) : Prop where
  len : ss.length ≤ n
  ok : ∀ s ∈ ss, StOk 60 s
  nd : (nmS ss ++ L).Nodup
  nL : ∀ z ∈ L, z ∈ nmsL
  hd : ∃ z r, z ∈ nmsL ∧ ss = .inl z :: r
theorem StI.bus {L : List Str} {ss : List Stp} {n : Nat} (h : StI L ss n) : BusOk (ss.map stD) := by
  refine ⟨fun d hd => ?_, ?_, ?_⟩
  · obtain ⟨s, hs, rfl⟩ := List.mem_map.mp hd
    cases s with
    | inl z => exact .inl ⟨z, h.ok _ hs, rfl⟩
    | inr m => exact .inr ⟨m, rfl⟩
  · rw [nmS_D]
    exact (List.nodup_append.mp h.nd).1
  · obtain ⟨z, r, hz, rfl⟩ := h.hd
    exact ⟨z, r.map stD, hz, rfl⟩
theorem nd_pop {A L : List Str} {k : Nat} (hk : k < L.length) (h : (A ++ L).Nodup) : ((A ++ [L[k]]) ++ L.eraseIdx k).Nodup := by
  have hp : ((A ++ [L[k]]) ++ L.eraseIdx k).Perm (A ++ L) := by
    rw [List.append_assoc]
    refine List.Perm.append_left _ ?_
    exact (er_perm L k hk).symm
  exact hp.nodup_iff.mpr h
theorem StI.pop {L : List Str} {ss : List Stp} {n k : Nat} (h : StI L ss n) (hk : k < L.length) : StI (L.eraseIdx k) (ss ++ [.inl L[k]]) (n + 1) := by
  obtain ⟨z, r, hz, e⟩ := h.hd
  refine ⟨by rw [List.length_append]; have := h.len; simp; omega, fun s hs => ?_, ?_, fun y hy => h.nL y (List.mem_of_mem_eraseIdx hy), z, r ++ [.inl L[k]], hz, by rw [e]; rfl⟩
  · rcases List.mem_append.mp hs with q | q
    · exact h.ok s q
    · rw [List.mem_singleton.mp q]
      exact h.nL _ (List.getElem_mem hk)
  · rw [nmS_app]
    exact nd_pop hk h.nd
theorem StI.mems {L : List Str} {ss : List Stp} {n : Nat} (h : StI L ss n) {ms : List Mb} (hl : ms.length ≤ 1) (hm : ∀ m ∈ ms, m.ok = true ∧ NumOk (num m)) : StI L (ss ++ ms.map .inr) (n + 1) := by
  obtain ⟨z, r, hz, e⟩ := h.hd
  refine ⟨by rw [List.length_append, List.length_map]; have := h.len; omega, fun s hs => ?_, ?_, h.nL, z, r ++ ms.map .inr, hz, by rw [e]; rfl⟩
  · rcases List.mem_append.mp hs with q | q
    · exact h.ok s q
    · obtain ⟨m, hm', rfl⟩ := List.mem_map.mp q
      exact hm m hm'
  · rw [nmS_app, nmS_mem, List.append_nil]
    exact h.nd
def eS (s : Dg) (L : List Str) (ss : List Stp) : Ev := [.ow true (dgD s), .ow false (.lst (L.map D.str)), .ow false (.lst (ss.map stL)), .no]
theorem turn_S {s : Dg} {L : List Str} {ss : List Stp} {n : Nat} {t : D} (o : s.ok) (h : StI L ss n) (hn : n ≤ 50) (hL : L.length ≤ 6) : ∃ (s' : Dg) (L' : List Str) (ss' : List Stp), s'.ok ∧ StI L' ss' (n + 1) ∧ L'.length ≤ 6 ∧
    lp1__law_steps [.ow true (dgD s), .ow false (.lst (L.map D.str)), .ow false (.lst (ss.map stL)), .im t] = .nx (eS s' L' ss') := by
  obtain ⟨s1, r1, o1, a1, b1, e1⟩ := F_digit s 3 o (by omega) (by omega)
  have hll : (ss.map stL).length < 1000000 := by rw [List.length_map]; have := h.len; omega
  have hgl : ((L.map D.str).length : Int) = (L.length : Nat) := by rw [List.length_map]
  by_cases hc : r1 = 0 ∧ 2 < L.length
  · obtain ⟨h0, h2⟩ := hc
    obtain ⟨s2, r2, o2, a2, b2, e2⟩ := F_digit s1 (L.length : Nat) o1 (by omega) (by omega)
    obtain ⟨k, rfl⟩ := Int.eq_ofNat_of_zero_le a2
    have hk : k < L.length := by omega
    have hp := pop_at hk (by omega)
    have h2' : (2 : Int) < (L.length : Nat) := by omega
    refine ⟨s2, L.eraseIdx k, ss ++ [.inl L[k]], o2, h.pop hk, by rw [List.length_eraseIdx]; split <;> omega, ?_⟩
    unfold lp1__law_steps eS
    simp only [RD1, RD2, RD3, RD4, RD5, RD6, RD7, RD8, RD9, RD10, List.all_cons, List.all_nil, List.length_cons, List.length_nil, List.getElem?_cons_zero, List.getElem?_cons_succ, List.getElem?_nil, List.set_cons_zero, List.set_cons_succ, List.cons_append, List.nil_append, List.replicate_succ, List.replicate_zero, Nat.reduceAdd, Nat.reduceSub, Nat.reduceEqDiff, Nat.reduceLeDiff, Nat.reduceLT, Option.bind_some, Option.bind_none, Option.map_some, Option.map_none, if_true, if_false, ite_true, ite_false, reduceCtorEq, decide_true, decide_false, Int.reducePow, Int.reduceToNat, Int.reduceMul, Int.reduceAdd, Int.reduceSub, Int.reduceNeg, Int.reduceLT, Int.reduceLE, List.map_append, List.map_cons, List.map_nil, g2m_ii, tLl, gInD_n, gInD_i, gInD_s, mmInsertu, g4maxu, e1, gEq_int, h0, hgl, h2', e2, hp, hll, stL]
  · obtain ⟨s2, r2, o2, a2, b2, e2⟩ := F_digit s1 2 o1 (by omega) (by omega)
    obtain ⟨w, hw, w0, w1⟩ : ∃ w : Int, atI [D.int 9, .int 999999999999999999999999999999999999999999999999999999999999] r2 = some (.int w) ∧ 0 < w ∧ w < 10 ^ 60 := by
      rcases (by omega : r2 = 0 ∨ r2 = 1) with rfl | rfl
      · exact ⟨9, rfl, by decide, by decide⟩
      · exact ⟨_, rfl, by decide, by decide⟩
    have hw2 : w < 2 ^ 200 := by
      have : (10 : Int) ^ 60 < 2 ^ 200 := by decide
      omega
    obtain ⟨s3, ms, o3, l3, m3, e3⟩ := F_members s2 1 w o2 (by omega) (by omega) w0 hw2
    have hp : powC 10 60 = true := by decide
    have hlen2 : (ss.map stL).length + (ms.map memD).length ≤ 1000000 := by
      rw [List.length_map, List.length_map]
      have := h.len
      omega
    refine ⟨s3, L, ss ++ ms.map .inr, o3, h.mems (by omega) (fun m hm => ⟨in_ok (m3 m hm), num_in (m3 m hm) w1⟩), hL, ?_⟩
    have hap : (ss ++ ms.map (Sum.inr : Mb → Stp)).map stL = ss.map stL ++ ms.map memD := by
      rw [List.map_append, List.map_map]
      rfl
    unfold lp1__law_steps eS
    rw [hap]
    by_cases h0 : r1 = 0
    · have h2' : ¬ (2 : Int) < (L.length : Nat) := fun z => hc ⟨h0, by omega⟩
      simp only [RD1, RD2, RD3, RD4, RD5, RD6, RD7, RD8, RD9, RD10, List.all_cons, List.all_nil, List.length_cons, List.length_nil, List.getElem?_cons_zero, List.getElem?_cons_succ, List.getElem?_nil, List.set_cons_zero, List.set_cons_succ, List.cons_append, List.nil_append, List.replicate_succ, List.replicate_zero, Nat.reduceAdd, Nat.reduceSub, Nat.reduceEqDiff, Nat.reduceLeDiff, Nat.reduceLT, Option.bind_some, Option.bind_none, Option.map_some, Option.map_none, if_true, if_false, ite_true, ite_false, reduceCtorEq, decide_true, decide_false, Int.reducePow, Int.reduceToNat, Int.reduceMul, Int.reduceAdd, Int.reduceSub, Int.reduceNeg, Int.reduceLT, Int.reduceLE, List.map_append, List.map_cons, List.map_nil, g2m_ii, tLl, gInD_n, gInD_i, gInD_s, mmInsertu, g4maxu, e1, gEq_int, h0, hgl, h2', e2, hp, hw, e3, hlen2]
    · simp only [RD1, RD2, RD3, RD4, RD5, RD6, RD7, RD8, RD9, RD10, List.all_cons, List.all_nil, List.length_cons, List.length_nil, List.getElem?_cons_zero, List.getElem?_cons_succ, List.getElem?_nil, List.set_cons_zero, List.set_cons_succ, List.cons_append, List.nil_append, List.replicate_succ, List.replicate_zero, Nat.reduceAdd, Nat.reduceSub, Nat.reduceEqDiff, Nat.reduceLeDiff, Nat.reduceLT, Option.bind_some, Option.bind_none, Option.map_some, Option.map_none, if_true, if_false, ite_true, ite_false, reduceCtorEq, decide_true, decide_false, Int.reducePow, Int.reduceToNat, Int.reduceMul, Int.reduceAdd, Int.reduceSub, Int.reduceNeg, Int.reduceLT, Int.reduceLE, List.map_append, List.map_cons, List.map_nil, g2m_ii, tLl, gInD_n, gInD_i, gInD_s, mmInsertu, g4maxu, e1, gEq_int, h0, e2, hp, hw, e3, hlen2]
theorem F_steps78 {s : Dg} (o : s.ok) : ∃ (s' : Dg) (L : List Str) (ss : List Stp), s'.ok ∧ StI L ss 100 ∧ F__law_steps [.ow true (dgD s)] = .ro (.lst (ss.map stL)) [.ow true (dgD s')] := by
  obtain ⟨s1, r1, o1, a1, b1, e1⟩ := F_digit s 6 o (by omega) (by omega)
  obtain ⟨k, rfl⟩ := Int.eq_ofNat_of_zero_le a1
  have hk : k < nmsL.length := by
    show k < 6
    omega
  have hp := pop_at (l := nmsL) hk (by decide)
  have hp' : mmPopAt [D.str "a", .str "b", .str "last", .str "all", .str "zzzzzzzz", .str "ab"] [.int (k : Nat)] = some (.str nmsL[k], (nmsL.eraseIdx k).map D.str) := hp
  obtain ⟨s2, r2, o2, a2, b2, e2⟩ := F_digit s1 8 o1 (by omega) (by omega)
  have hI0 : StI (nmsL.eraseIdx k) [.inl nmsL[k]] 1 := ⟨Nat.le_refl _, fun s hs => by
      rw [List.mem_singleton.mp hs]
      exact List.getElem_mem hk, by
      have := nd_pop (A := []) (L := nmsL) hk (by decide +kernel)
      exact this, fun z hz => List.mem_of_mem_eraseIdx hz, nmsL[k], [], List.getElem_mem hk, rfl⟩
  unfold F__law_steps b__law_steps
  simp only [RD1, RD2, RD3, RD4, RD5, RD6, RD7, RD8, RD9, RD10, List.all_cons, List.all_nil, List.length_cons, List.length_nil, List.getElem?_cons_zero, List.getElem?_cons_succ, List.getElem?_nil, List.set_cons_zero, List.set_cons_succ, List.cons_append, List.nil_append, List.replicate_succ, List.replicate_zero, Nat.reduceAdd, Nat.reduceSub, Nat.reduceEqDiff, Nat.reduceLeDiff, Nat.reduceLT, Option.bind_some, Option.bind_none, Option.map_some, Option.map_none, if_true, if_false, ite_true, ite_false, reduceCtorEq, decide_true, decide_false, Int.reducePow, Int.reduceToNat, Int.reduceMul, Int.reduceAdd, Int.reduceSub, Int.reduceNeg, Int.reduceLT, Int.reduceLE, List.map_append, List.map_cons, List.map_nil, g2m_ii, tLl, gInD_n, gInD_i, gInD_s, mmInsertu, g4maxu, e1, hp', e2, bnd_of (n := r2) (by omega) (by omega)]
  rw [rgD0]
  obtain ⟨e', he', s3, L3, ss3, o3, h3, l3, rfl⟩ := forL_rel (g := tN 3) (f := fun i : Nat => D.int (i : Nat)) (xs := List.range r2.toNat) (b := lp1__law_steps) (e := [.ow true (dgD s2), .ow false (.lst ((nmsL.eraseIdx k).map D.str)), .ow false (.lst [.str nmsL[k]]), .no])
    (fun i e => ∃ (s' : Dg) (L : List Str) (ss : List Stp), s'.ok ∧ StI L ss (i + 1) ∧ L.length ≤ 6 ∧ e = eS s' L ss)
    ⟨s2, _, _, o2, hI0, by rw [List.length_eraseIdx]; split <;> decide, rfl⟩ (fun i hi e he => by
      obtain ⟨s', L, ss, o', h', l', rfl⟩ := he
      rw [List.length_range] at hi
      rw [List.getElem_range]
      obtain ⟨s4, L4, ss4, o4, h4, l4, e4⟩ := turn_S (t := .int (i : Nat)) o' h' (by omega) l'
      exact ⟨_, _, by unfold eS; simp only [RD1, RD2, RD3, RD4, RD5, RD6, RD7, RD8, RD9, RD10, List.all_cons, List.all_nil, List.length_cons, List.length_nil, List.getElem?_cons_zero, List.getElem?_cons_succ, List.getElem?_nil, List.set_cons_zero, List.set_cons_succ, List.cons_append, List.nil_append, List.replicate_succ, List.replicate_zero, Nat.reduceAdd, Nat.reduceSub, Nat.reduceEqDiff, Nat.reduceLeDiff, Nat.reduceLT, Option.bind_some, Option.bind_none, Option.map_some, Option.map_none, if_true, if_false, ite_true, ite_false, reduceCtorEq, decide_true, decide_false, Int.reducePow, Int.reduceToNat, Int.reduceMul, Int.reduceAdd, Int.reduceSub, Int.reduceNeg, Int.reduceLT, Int.reduceLE, List.map_append, List.map_cons, List.map_nil, g2m_ii, tLl, gInD_n, gInD_i, gInD_s, mmInsertu, g4maxu], .inl e4, s4, L4, ss4, o4, h4, l4, rfl⟩)
  rw [he']
  rw [List.length_range] at h3
  refine ⟨s3, L3, ss3, o3, ⟨by have := h3.len; omega, h3.ok, h3.nd, h3.nL, h3.hd⟩, ?_⟩
  unfold eS
  simp only [RD1, RD2, RD3, RD4, RD5, RD6, RD7, RD8, RD9, RD10, List.all_cons, List.all_nil, List.length_cons, List.length_nil, List.getElem?_cons_zero, List.getElem?_cons_succ, List.getElem?_nil, List.set_cons_zero, List.set_cons_succ, List.cons_append, List.nil_append, List.replicate_succ, List.replicate_zero, Nat.reduceAdd, Nat.reduceSub, Nat.reduceEqDiff, Nat.reduceLeDiff, Nat.reduceLT, Option.bind_some, Option.bind_none, Option.map_some, Option.map_none, if_true, if_false, ite_true, ite_false, reduceCtorEq, decide_true, decide_false, Int.reducePow, Int.reduceToNat, Int.reduceMul, Int.reduceAdd, Int.reduceSub, Int.reduceNeg, Int.reduceLT, Int.reduceLE, List.map_append, List.map_cons, List.map_nil, g2m_ii, tLl, gInD_n, gInD_i, gInD_s, mmInsertu, g4maxu]
theorem F_rows_right {s : Dg} (o : s.ok) : ∃ s' : Dg, s'.ok ∧ F__law_rows_right [.ow true (dgD s)] = .rt (.bl true) [.ow true (dgD s')] := by
  obtain ⟨s1, r1, o1, a1, b1, e1⟩ := F_digit s 2 o (by omega) (by omega)
  have hp : powC 10 59 = true := by decide
  obtain ⟨w, hw, w0, w1⟩ : ∃ w : Int, atI [D.int 9, .int 100000000000000000000000000000000000000000000000000000000000] r1 = some (.int w) ∧ 0 < w ∧ w < 10 ^ 60 := by
    rcases (by omega : r1 = 0 ∨ r1 = 1) with rfl | rfl
    · exact ⟨9, rfl, by decide, by decide⟩
    · exact ⟨_, rfl, by decide, by decide⟩
  have hw2 : w < 2 ^ 200 := by
    have : (10 : Int) ^ 60 < 2 ^ 200 := by decide
    omega
  obtain ⟨s2, ms, o2, l2, m2, e2⟩ := F_members s1 5 w o1 (by omega) (by omega) w0 hw2
  obtain ⟨s3, L, ss, o3, hI, e3⟩ := F_steps78 o2
  have hml : ms.length ≤ 5 := by omega
  have hok : ∀ m ∈ ms, m.ok = true := fun m hm => in_ok (m2 m hm)
  have hnu : ∀ m ∈ ms, NumOk (num m) := fun m hm => num_in (m2 m hm) w1
  have hma := F_made ms (by omega) hok
  have hro := fun e => M_row ms (d := .lst (ms.map Mb.tree)) rfl (e := e)
  have hrt := F_rtext (ms := ms) (k := 60) (by decide) (by decide) (by omega) hnu
  have hrr := F_rrow (ms := ms) (by omega) hnu hok
  have hst := F_mstext (ms := ms) (by omega) hnu
  have q1 := str1 (z := rT ms) (strOk_of fun c hc => rT_sign hc)
  have q2 := row_self ms
  have hb := hI.bus
  have hsl := hI.len
  have hbu := F_lbus78 hsl hI.ok hb
  have hbt := F_btext (k := 60) (by decide) (by decide) hsl hI.ok
  have hbs := F_lstext (k := 60) (by decide) (by decide) hsl hI.ok
  have hbr := F_rbus hsl hI.ok hb
  have q3 := str1 (z := bT ss) (strOk_of fun c hc => by
    rcases sg_join_mem hc with q | ⟨x, hx, q⟩
    · rw [sg_ss] at q
      simp only [List.mem_cons, List.not_mem_nil, or_false] at q
      omega
    · obtain ⟨y, hy, rfl⟩ := List.mem_map.mp hx
      have := stT_sign (hI.ok y hy) q
      omega)
  have q4 := bus_self hb.gd
  have hif : ∀ e : Ev, (fIf (fB (f2 gNe (oi (fVar 1)) (oi (fLst fNil)))) (fJoin (oi (fC (.str ", "))) (oi (fCallO F__law_members_text (fCons (oi (fVar 1)) fNil)))) (fC (.str "all"))) [.ow true (dgD s2), .im (.lst (ms.map memD)), .no, .no, .no, .no] = .ok (.str (rT ms)) [.ow true (dgD s2), .im (.lst (ms.map memD)), .no, .no, .no, .no] := fun _ => by
    cases ms with
    | nil =>
      have hn : gNe (.lst []) (.lst []) = some (.bl false) := gNe_self rfl
      simp only [RD1, RD2, RD3, RD4, RD5, RD6, RD7, RD8, RD9, RD10, List.all_cons, List.all_nil, List.length_cons, List.length_nil, List.getElem?_cons_zero, List.getElem?_cons_succ, List.getElem?_nil, List.set_cons_zero, List.set_cons_succ, List.cons_append, List.nil_append, List.replicate_succ, List.replicate_zero, Nat.reduceAdd, Nat.reduceSub, Nat.reduceEqDiff, Nat.reduceLeDiff, Nat.reduceLT, Option.bind_some, Option.bind_none, Option.map_some, Option.map_none, if_true, if_false, ite_true, ite_false, reduceCtorEq, decide_true, decide_false, Int.reducePow, Int.reduceToNat, Int.reduceMul, Int.reduceAdd, Int.reduceSub, Int.reduceNeg, Int.reduceLT, Int.reduceLE, List.map_append, List.map_cons, List.map_nil, g2m_ii, tLl, gInD_n, gInD_i, gInD_s, mmInsertu, g4maxu, hn]
      rfl
    | cons m ms =>
      have hn := ne_mems m ms
      have hj : lenZ ((m :: ms).map mT) + (m :: ms).length * (", " : Str).length ≤ 16777216 := by
        have := lenZ_map (f := mT) (xs := m :: ms) (b := 67) fun x hx => mT_len (by decide) (hnu x hx)
        have h2 : (m :: ms).length * 67 ≤ 5 * 67 := Nat.mul_le_mul_right _ hml
        rw [len_cs]
        omega
      have hrT : rT (m :: ms) = Txt.join ", " ((m :: ms).map mT) := by
        unfold rT
        rw [if_neg (by simp), txt_join]
      rw [hrT]
      generalize m :: ms = ns at *
      simp only [RD1, RD2, RD3, RD4, RD5, RD6, RD7, RD8, RD9, RD10, List.all_cons, List.all_nil, List.length_cons, List.length_nil, List.getElem?_cons_zero, List.getElem?_cons_succ, List.getElem?_nil, List.set_cons_zero, List.set_cons_succ, List.cons_append, List.nil_append, List.replicate_succ, List.replicate_zero, Nat.reduceAdd, Nat.reduceSub, Nat.reduceEqDiff, Nat.reduceLeDiff, Nat.reduceLT, Option.bind_some, Option.bind_none, Option.map_some, Option.map_none, if_true, if_false, ite_true, ite_false, reduceCtorEq, decide_true, decide_false, Int.reducePow, Int.reduceToNat, Int.reduceMul, Int.reduceAdd, Int.reduceSub, Int.reduceNeg, Int.reduceLT, Int.reduceLE, List.map_append, List.map_cons, List.map_nil, g2m_ii, tLl, gInD_n, gInD_i, gInD_s, mmInsertu, g4maxu, hn, hst, fJoin, strs_m, List.length_map, hj]
  refine ⟨s3, o3, ?_⟩
  unfold F__law_rows_right b__law_rows_right
  simp only [RD1, RD2, RD3, RD4, RD5, RD6, RD7, RD8, RD9, RD10, List.all_cons, List.all_nil, List.length_cons, List.length_nil, List.getElem?_cons_zero, List.getElem?_cons_succ, List.getElem?_nil, List.set_cons_zero, List.set_cons_succ, List.cons_append, List.nil_append, List.replicate_succ, List.replicate_zero, Nat.reduceAdd, Nat.reduceSub, Nat.reduceEqDiff, Nat.reduceLeDiff, Nat.reduceLT, Option.bind_some, Option.bind_none, Option.map_some, Option.map_none, if_true, if_false, ite_true, ite_false, reduceCtorEq, decide_true, decide_false, Int.reducePow, Int.reduceToNat, Int.reduceMul, Int.reduceAdd, Int.reduceSub, Int.reduceNeg, Int.reduceLT, Int.reduceLE, List.map_append, List.map_cons, List.map_nil, g2m_ii, tLl, gInD_n, gInD_i, gInD_s, mmInsertu, g4maxu, e1, hp, hw, e2, hma, hro]
  have hif2 := hif []
  simp only [RD1, RD2, RD3, RD4, RD5, RD6, RD7, RD8, RD9, RD10, List.all_cons, List.all_nil, List.length_cons, List.length_nil, List.getElem?_cons_zero, List.getElem?_cons_succ, List.getElem?_nil, List.set_cons_zero, List.set_cons_succ, List.cons_append, List.nil_append, List.replicate_succ, List.replicate_zero, Nat.reduceAdd, Nat.reduceSub, Nat.reduceEqDiff, Nat.reduceLeDiff, Nat.reduceLT, Option.bind_some, Option.bind_none, Option.map_some, Option.map_none, if_true, if_false, ite_true, ite_false, reduceCtorEq, decide_true, decide_false, Int.reducePow, Int.reduceToNat, Int.reduceMul, Int.reduceAdd, Int.reduceSub, Int.reduceNeg, Int.reduceLT, Int.reduceLE, List.map_append, List.map_cons, List.map_nil, g2m_ii, tLl, gInD_n, gInD_i, gInD_s, mmInsertu, g4maxu] at hif2
  simp only [RD1, RD2, RD3, RD4, RD5, RD6, RD7, RD8, RD9, RD10, List.all_cons, List.all_nil, List.length_cons, List.length_nil, List.getElem?_cons_zero, List.getElem?_cons_succ, List.getElem?_nil, List.set_cons_zero, List.set_cons_succ, List.cons_append, List.nil_append, List.replicate_succ, List.replicate_zero, Nat.reduceAdd, Nat.reduceSub, Nat.reduceEqDiff, Nat.reduceLeDiff, Nat.reduceLT, Option.bind_some, Option.bind_none, Option.map_some, Option.map_none, if_true, if_false, ite_true, ite_false, reduceCtorEq, decide_true, decide_false, Int.reducePow, Int.reduceToNat, Int.reduceMul, Int.reduceAdd, Int.reduceSub, Int.reduceNeg, Int.reduceLT, Int.reduceLE, List.map_append, List.map_cons, List.map_nil, g2m_ii, tLl, gInD_n, gInD_i, gInD_s, mmInsertu, g4maxu, hif2, hrt, hrr, q1, q2, e3, hbu, hbs, hbt, hbr, q3, q4]
theorem F_stream78 {s : Dg} (o : s.ok) : ∃ (s' : Dg) (ts : List Int), s'.ok ∧ ts.length ≤ 8 ∧ ts.Pairwise (· < ·) ∧ (∀ t ∈ ts, NumOk t) ∧
    F__law_stream [.ow true (dgD s), .im (.int 8), .im (.lst [.int 1, .int 5, .int 10000000000000000000000000000000000000000000000000000000000])] = .ro (zD ts) [.ow true (dgD s'), .im (.int 8), .im (.lst [.int 1, .int 5, .int 10000000000000000000000000000000000000000000000000000000000])] := by
  obtain ⟨s1, r1, o1, a1, b1, e1⟩ := F_digit s 41 o (by omega) (by omega)
  obtain ⟨s2, r2, o2, a2, b2, e2⟩ := F_digit s1 9 o1 (by omega) (by omega)
  unfold F__law_stream b__law_stream
  simp only [RD1, RD2, RD3, RD4, RD5, RD6, RD7, RD8, RD9, RD10, List.all_cons, List.all_nil, List.length_cons, List.length_nil, List.getElem?_cons_zero, List.getElem?_cons_succ, List.getElem?_nil, List.set_cons_zero, List.set_cons_succ, List.cons_append, List.nil_append, List.replicate_succ, List.replicate_zero, Nat.reduceAdd, Nat.reduceSub, Nat.reduceEqDiff, Nat.reduceLeDiff, Nat.reduceLT, Option.bind_some, Option.bind_none, Option.map_some, Option.map_none, if_true, if_false, ite_true, ite_false, reduceCtorEq, decide_true, decide_false, Int.reducePow, Int.reduceToNat, Int.reduceMul, Int.reduceAdd, Int.reduceSub, Int.reduceNeg, Int.reduceLT, Int.reduceLE, List.map_append, List.map_cons, List.map_nil, g2m_ii, tLl, gInD_n, gInD_i, gInD_s, mmInsertu, g4maxu, e1, e2, bnd_of (n := r2) (by omega) (by omega)]
  rw [rgD0]
  obtain ⟨e', he', s3, ts, t, o3, hl, ha, hb, hlo, ht0, ht1, rfl⟩ := forL_rel (g := tN 5) (f := fun i : Nat => D.int (i : Nat)) (xs := List.range r2.toNat) (e := [.ow true (dgD s2), .im (.int 8), .im (.lst [.int 1, .int 5, .int 10000000000000000000000000000000000000000000000000000000000]), .ow false (.lst []), .im (.int (r1 - 20)), .no])
      (b := lp1__law_stream)
      (fun i e => ∃ (s' : Dg) (ts : List Int) (t : Int), s'.ok ∧ ts.length = i ∧ ts.Pairwise (· < ·) ∧ (∀ x ∈ ts, x < t) ∧ (∀ x ∈ ts, -20 ≤ x) ∧ -20 ≤ t ∧ t ≤ 20 + (i : Nat) * 10000000000000000000000000000000000000000000000000000000000 ∧ e = [.ow true (dgD s'), .im (.int 8), .im (.lst [.int 1, .int 5, .int 10000000000000000000000000000000000000000000000000000000000]), .ow false (zD ts), .im (.int t), .no])
      ⟨s2, [], r1 - 20, o2, rfl, .nil, (fun m h => by cases h), (fun m h => by cases h), by omega, by omega, rfl⟩ (fun i hi e he => by
        obtain ⟨s', ts, t, o', hl, ha, hb, hlo, ht0, ht1, rfl⟩ := he
        rw [List.length_range] at hi
        rw [List.getElem_range]
        have hll : (ts.map D.int).length < 1000000 := by
          rw [List.length_map]
          omega
        obtain ⟨s2, r2, o2, a2, b2, e2⟩ := F_digit s' 3 o' (by omega) (by omega)
        obtain ⟨g, hg, g0, g1⟩ : ∃ g : Int, atI [D.int 1, .int 5, .int 10000000000000000000000000000000000000000000000000000000000] r2 = some (.int g) ∧ 0 < g ∧ g ≤ 10000000000000000000000000000000000000000000000000000000000 := by
          rcases (by omega : r2 = 0 ∨ r2 = 1 ∨ r2 = 2) with rfl | rfl | rfl
          · exact ⟨1, rfl, by decide, by decide⟩
          · exact ⟨5, rfl, by decide, by decide⟩
          · exact ⟨_, rfl, by decide, by decide⟩
        have hz : zD ts = .lst (ts.map D.int) := rfl
        have hz2 : zD (ts ++ [t]) = .lst (ts.map D.int ++ [.int t]) := by
          unfold zD
          rw [List.map_append]
          rfl
        refine ⟨[.ow true (dgD s'), .im (.int 8), .im (.lst [.int 1, .int 5, .int 10000000000000000000000000000000000000000000000000000000000]), .ow false (zD ts), .im (.int t), .im (.int (i : Nat))], _, by simp only [RD1, RD2, RD3, RD4, RD5, RD6, RD7, RD8, RD9, RD10, List.all_cons, List.all_nil, List.length_cons, List.length_nil, List.getElem?_cons_zero, List.getElem?_cons_succ, List.getElem?_nil, List.set_cons_zero, List.set_cons_succ, List.cons_append, List.nil_append, List.replicate_succ, List.replicate_zero, Nat.reduceAdd, Nat.reduceSub, Nat.reduceEqDiff, Nat.reduceLeDiff, Nat.reduceLT, Option.bind_some, Option.bind_none, Option.map_some, Option.map_none, if_true, if_false, ite_true, ite_false, reduceCtorEq, decide_true, decide_false, Int.reducePow, Int.reduceToNat, Int.reduceMul, Int.reduceAdd, Int.reduceSub, Int.reduceNeg, Int.reduceLT, Int.reduceLE, List.map_append, List.map_cons, List.map_nil, g2m_ii, tLl, gInD_n, gInD_i, gInD_s, mmInsertu, g4maxu], .inl ?_, s2, ts ++ [t], t + g, o2, by rw [List.length_append, hl]; rfl, asc_snoc ha hb, fun x hx => ?_, fun x hx => ?_, by omega, ?_, rfl⟩
        · simp only [RD1, RD2, RD3, RD4, RD5, RD6, RD7, RD8, RD9, RD10, List.all_cons, List.all_nil, List.length_cons, List.length_nil, List.getElem?_cons_zero, List.getElem?_cons_succ, List.getElem?_nil, List.set_cons_zero, List.set_cons_succ, List.cons_append, List.nil_append, List.replicate_succ, List.replicate_zero, Nat.reduceAdd, Nat.reduceSub, Nat.reduceEqDiff, Nat.reduceLeDiff, Nat.reduceLT, Option.bind_some, Option.bind_none, Option.map_some, Option.map_none, if_true, if_false, ite_true, ite_false, reduceCtorEq, decide_true, decide_false, Int.reducePow, Int.reduceToNat, Int.reduceMul, Int.reduceAdd, Int.reduceSub, Int.reduceNeg, Int.reduceLT, Int.reduceLE, List.map_append, List.map_cons, List.map_nil, g2m_ii, tLl, gInD_n, gInD_i, gInD_s, mmInsertu, g4maxu, lp1__law_stream, hz, hll, e2, hg, hz2, Int.cast_ofNat_Int]
        · rcases List.mem_append.mp hx with q | q
          · have := hb x q
            omega
          · rw [List.mem_singleton.mp q]
            omega
        · rcases List.mem_append.mp hx with q | q
          · exact hlo x q
          · rw [List.mem_singleton.mp q]
            exact ht0
        · have e3 : ((i + 1 : Nat) : Int) * 10000000000000000000000000000000000000000000000000000000000 = (i : Nat) * 10000000000000000000000000000000000000000000000000000000000 + 10000000000000000000000000000000000000000000000000000000000 := by
            rw [Int.natCast_succ, Int.add_mul, Int.one_mul]
          rw [e3]
          omega)
  rw [he']
  rw [List.length_range] at hl ht1
  refine ⟨s3, ts, o3, by omega, ha, fun x hx => ?_, by simp only [RD1, RD2, RD3, RD4, RD5, RD6, RD7, RD8, RD9, RD10, List.all_cons, List.all_nil, List.length_cons, List.length_nil, List.getElem?_cons_zero, List.getElem?_cons_succ, List.getElem?_nil, List.set_cons_zero, List.set_cons_succ, List.cons_append, List.nil_append, List.replicate_succ, List.replicate_zero, Nat.reduceAdd, Nat.reduceSub, Nat.reduceEqDiff, Nat.reduceLeDiff, Nat.reduceLT, Option.bind_some, Option.bind_none, Option.map_some, Option.map_none, if_true, if_false, ite_true, ite_false, reduceCtorEq, decide_true, decide_false, Int.reducePow, Int.reduceToNat, Int.reduceMul, Int.reduceAdd, Int.reduceSub, Int.reduceNeg, Int.reduceLT, Int.reduceLE, List.map_append, List.map_cons, List.map_nil, g2m_ii, tLl, gInD_n, gInD_i, gInD_s, mmInsertu, g4maxu]⟩
  have h1 := hb x hx
  have h2 := hlo x hx
  have h3 : ((r2.toNat : Nat) : Int) * 10000000000000000000000000000000000000000000000000000000000 ≤ 8 * 10000000000000000000000000000000000000000000000000000000000 := Int.mul_le_mul_of_nonneg_right (by omega) (by decide)
  have h4 : x < 20 + 8 * 10000000000000000000000000000000000000000000000000000000000 := by omega
  unfold NumOk
  clear h1 hb hlo ht1 h3
  omega
theorem F_gaps78 {s : Dg} (o : s.ok) : ∃ (s' : Dg) (ts : List Int), s'.ok ∧ GpOk ts ∧ (∀ t ∈ ts, NumOk t) ∧ F__law_gaps [.ow true (dgD s)] = .ro (zD ts) [.ow true (dgD s')] := by
  obtain ⟨s1, r1, o1, a1, b1, e1⟩ := F_digit s 4 o (by omega) (by omega)
  have hp : powC 10 59 = true := by decide
  obtain ⟨s2, ts, o2, l2, q2, e2⟩ := lc_vals (fe := f2 gIx (oi (fLst (fCons (oi (fC (.int 1))) (fCons (oi (fC (.int 7))) (fCons (oi (f2 gAdd (oi (f2 gPow (oi (fC (.int 10))) (oi (fC (.int 59))))) (oi (fC (.int 3))))) (fCons (oi (f2 gAdd (oi (fC (.int 1))) (oi (fCall F__law_digit (fCons (foVar 0) (fCons (oi (fC (.int 99))) fNil)))))) fNil)))))) (oi (fCall F__law_digit (fCons (foVar 0) (fCons (oi (fC (.int 4))) fNil))))) (is := [1]) Dg.ok
    (fun s => [.ow true (dgD s), .no]) (fun t : Int => 1 ≤ t ∧ t < 10 ^ 60) D.int (rgD 0 r1.toNat) s1 o1 (fun s d o _ => by
      obtain ⟨s3, r3, o3, a3, b3, e3⟩ := F_digit s 99 o (by omega) (by omega)
      obtain ⟨s4, r4, o4, a4, b4, e4⟩ := F_digit s3 4 o3 (by omega) (by omega)
      obtain ⟨g, hg, g0, g1⟩ : ∃ g : Int, atI [D.int 1, .int 7, .int 100000000000000000000000000000000000000000000000000000000003, .int (1 + r3)] r4 = some (.int g) ∧ 1 ≤ g ∧ g < 10 ^ 60 := by
        rcases (by omega : r4 = 0 ∨ r4 = 1 ∨ r4 = 2 ∨ r4 = 3) with rfl | rfl | rfl | rfl
        · exact ⟨1, rfl, by decide, by decide⟩
        · exact ⟨7, rfl, by decide, by decide⟩
        · exact ⟨_, rfl, by decide, by decide⟩
        · exact ⟨1 + r3, rfl, by omega, by have : (200 : Int) < 10 ^ 60 := by decide
                                           omega⟩
      refine ⟨s4, g, [.ow true (dgD s4), .im d], o4, ⟨g0, g1⟩, by simp only [RD1, RD2, RD3, RD4, RD5, RD6, RD7, RD8, RD9, RD10, List.all_cons, List.all_nil, List.length_cons, List.length_nil, List.getElem?_cons_zero, List.getElem?_cons_succ, List.getElem?_nil, List.set_cons_zero, List.set_cons_succ, List.cons_append, List.nil_append, List.replicate_succ, List.replicate_zero, Nat.reduceAdd, Nat.reduceSub, Nat.reduceEqDiff, Nat.reduceLeDiff, Nat.reduceLT, Option.bind_some, Option.bind_none, Option.map_some, Option.map_none, if_true, if_false, ite_true, ite_false, reduceCtorEq, decide_true, decide_false, Int.reducePow, Int.reduceToNat, Int.reduceMul, Int.reduceAdd, Int.reduceSub, Int.reduceNeg, Int.reduceLT, Int.reduceLE, List.map_append, List.map_cons, List.map_nil, g2m_ii, tLl, gInD_n, gInD_i, gInD_s, mmInsertu, g4maxu], rfl, ?_, by simp only [RD1, RD2, RD3, RD4, RD5, RD6, RD7, RD8, RD9, RD10, List.all_cons, List.all_nil, List.length_cons, List.length_nil, List.getElem?_cons_zero, List.getElem?_cons_succ, List.getElem?_nil, List.set_cons_zero, List.set_cons_succ, List.cons_append, List.nil_append, List.replicate_succ, List.replicate_zero, Nat.reduceAdd, Nat.reduceSub, Nat.reduceEqDiff, Nat.reduceLeDiff, Nat.reduceLT, Option.bind_some, Option.bind_none, Option.map_some, Option.map_none, if_true, if_false, ite_true, ite_false, reduceCtorEq, decide_true, decide_false, Int.reducePow, Int.reduceToNat, Int.reduceMul, Int.reduceAdd, Int.reduceSub, Int.reduceNeg, Int.reduceLT, Int.reduceLE, List.map_append, List.map_cons, List.map_nil, g2m_ii, tLl, gInD_n, gInD_i, gInD_s, mmInsertu, g4maxu], by simp only [RD1, RD2, RD3, RD4, RD5, RD6, RD7, RD8, RD9, RD10, List.all_cons, List.all_nil, List.length_cons, List.length_nil, List.getElem?_cons_zero, List.getElem?_cons_succ, List.getElem?_nil, List.set_cons_zero, List.set_cons_succ, List.cons_append, List.nil_append, List.replicate_succ, List.replicate_zero, Nat.reduceAdd, Nat.reduceSub, Nat.reduceEqDiff, Nat.reduceLeDiff, Nat.reduceLT, Option.bind_some, Option.bind_none, Option.map_some, Option.map_none, if_true, if_false, ite_true, ite_false, reduceCtorEq, decide_true, decide_false, Int.reducePow, Int.reduceToNat, Int.reduceMul, Int.reduceAdd, Int.reduceSub, Int.reduceNeg, Int.reduceLT, Int.reduceLE, List.map_append, List.map_cons, List.map_nil, g2m_ii, tLl, gInD_n, gInD_i, gInD_s, mmInsertu, g4maxu]⟩
      simp only [RD1, RD2, RD3, RD4, RD5, RD6, RD7, RD8, RD9, RD10, List.all_cons, List.all_nil, List.length_cons, List.length_nil, List.getElem?_cons_zero, List.getElem?_cons_succ, List.getElem?_nil, List.set_cons_zero, List.set_cons_succ, List.cons_append, List.nil_append, List.replicate_succ, List.replicate_zero, Nat.reduceAdd, Nat.reduceSub, Nat.reduceEqDiff, Nat.reduceLeDiff, Nat.reduceLT, Option.bind_some, Option.bind_none, Option.map_some, Option.map_none, if_true, if_false, ite_true, ite_false, reduceCtorEq, decide_true, decide_false, Int.reducePow, Int.reduceToNat, Int.reduceMul, Int.reduceAdd, Int.reduceSub, Int.reduceNeg, Int.reduceLT, Int.reduceLE, List.map_append, List.map_cons, List.map_nil, g2m_ii, tLl, gInD_n, gInD_i, gInD_s, mmInsertu, g4maxu, hp, e3, e4, hg])
  have hl : ts.length ≤ 3 := by
    rw [l2, rgD_len]
    omega
  refine ⟨s2, ts, o2, ⟨by omega, fun t ht => (q2 t ht).1⟩, fun t ht => ?_, ?_⟩
  · have h1 := (q2 t ht).1
    have h2 := (q2 t ht).2
    unfold NumOk
    omega
  · have hl2 : ts.length ≤ 1000000 := by omega
    unfold fLst at e2
    unfold F__law_gaps b__law_gaps
    simp only [RD1, RD2, RD3, RD4, RD5, RD6, RD7, RD8, RD9, RD10, List.all_cons, List.all_nil, List.length_cons, List.length_nil, List.getElem?_cons_zero, List.getElem?_cons_succ, List.getElem?_nil, List.set_cons_zero, List.set_cons_succ, List.cons_append, List.nil_append, List.replicate_succ, List.replicate_zero, Nat.reduceAdd, Nat.reduceSub, Nat.reduceEqDiff, Nat.reduceLeDiff, Nat.reduceLT, Option.bind_some, Option.bind_none, Option.map_some, Option.map_none, if_true, if_false, ite_true, ite_false, reduceCtorEq, decide_true, decide_false, Int.reducePow, Int.reduceToNat, Int.reduceMul, Int.reduceAdd, Int.reduceSub, Int.reduceNeg, Int.reduceLT, Int.reduceLE, List.map_append, List.map_cons, List.map_nil, g2m_ii, tLl, gInD_n, gInD_i, gInD_s, mmInsertu, g4maxu, e1, bnd_of (n := r1) (by omega) (by omega), e2, List.length_map, hl2]
    rfl
theorem ne_zD (ts : List Int) : gNe (zD ts) (zD ts) = some (.bl false) := gNe_self (List.all_eq_true.mpr fun x hx => by
  obtain ⟨i, _, rfl⟩ := List.mem_map.mp hx
  rfl)
theorem F_streams_right {s : Dg} (o : s.ok) : ∃ s' : Dg, s'.ok ∧ F__law_streams_right [.ow true (dgD s)] = .rt (.bl true) [.ow true (dgD s')] := by
  obtain ⟨s1, ts, o1, l1, p1, n1, e1⟩ := F_stream78 o
  obtain ⟨s2, r2, o2, a2, b2, e2⟩ := F_digit s1 100000000000000000000000000000000000000000000000000000000000 o1 (by omega) (by decide)
  obtain ⟨s3, r3, o3, a3, b3, e3⟩ := F_digit s2 50 o2 (by omega) (by omega)
  obtain ⟨s4, r4, o4, a4, b4, e4⟩ := F_digit s3 4 o3 (by omega) (by omega)
  obtain ⟨s5, gh, o5, g5, n5, e5⟩ := F_gaps78 o4
  obtain ⟨s6, gb, o6, g6, n6, e6⟩ := F_gaps78 o5
  obtain ⟨s7, ge, o7, g7, n7, e7⟩ := F_gaps78 o6
  have hp58 : powC 10 58 = true := by decide
  have hp59 : powC 10 59 = true := by decide
  have hp30 : powC 10 30 = true := by decide
  have hmu : ∀ x : Int, mulC 5 x = true := fun x => mulC_l ⟨by decide, by decide⟩
  obtain ⟨w, hw, w0, w1⟩ : ∃ w : Int, atI [D.int 0, .int 1, .int 1000000000000000000000000000000, .int r3] r4 = some (.int w) ∧ 0 ≤ w ∧ w < 10 ^ 60 := by
    rcases (by omega : r4 = 0 ∨ r4 = 1 ∨ r4 = 2 ∨ r4 = 3) with rfl | rfl | rfl | rfl
    · exact ⟨0, rfl, by decide, by decide⟩
    · exact ⟨1, rfl, by decide, by decide⟩
    · exact ⟨_, rfl, by decide, by decide⟩
    · exact ⟨r3, rfl, a3, by have : (200 : Int) < 10 ^ 60 := by decide
                             omega⟩
  have hsl : (nbT ts).length ≤ 100000 := by
    have a3 := nbT_len (k := 60) (by decide) n1
    have b3 : ts.length * (60 + 2) ≤ 8 * 62 := Nat.mul_le_mul l1 (by omega)
    omega
  have t1 := F_spoken (k := 60) (by decide) (by decide) (by omega) n1
  have t2 := F_stext (d := zD ts) (k := 60) rfl p1 (by decide) (by decide) (by omega) n1
  have t3 := F_stext (d := .tup (ts.map D.int)) (k := 60) rfl p1 (by decide) (by decide) (by omega) n1
  have t4 := F_rstream p1 n1 hsl (by omega)
  have c1 : gNe (.str (nbT ts)) (.str (nbT ts)) = some (.bl false) := gNe_self (by exact nbT_ok ts)
  have c2 := ne_zD ts
  have c3 : gIsi tb [.ty "list"] (zD ts) = some (.bl true) := rfl
  have c4 : gTupOf (zD ts) = some (.tup (ts.map D.int)) := rfl
  have hf : (r2 - 50000000000000000000000000000000000000000000000000000000000).natAbs < 10 ^ 60 := by omega
  have hr : w.natAbs < 10 ^ 60 := by omega
  have ho : TrOk 60 (r2 - 50000000000000000000000000000000000000000000000000000000000) gh gb w ge := ⟨g5, g6, g7, w0, hf, n5, n6, hr, n7⟩
  have m1 := fun ev => M_train (f := r2 - 50000000000000000000000000000000000000000000000000000000000) g5 g6 g7 w0 (ev := ev)
  have u1 := strI (k := 60) (by decide) hf
  have u2 := strI (k := 60) (by decide) hr
  have v1 := F_spoken (ts := gh) (k := 60) (by decide) (by decide) (by have := g5.len; omega) n5
  have v2 := F_spoken (ts := gb) (k := 60) (by decide) (by decide) (by have := g6.len; omega) n6
  have v3 := F_spoken (ts := ge) (k := 60) (by decide) (by decide) (by have := g7.len; omega) n7
  have y1 := F_trtext (k := 60) (by decide) (by decide) ho
  have y2 := F_rtrain ho
  have y3 := str1 (trT_ok (r2 - 50000000000000000000000000000000000000000000000000000000000) gh gb w ge)
  have y4 := tr_self (r2 - 50000000000000000000000000000000000000000000000000000000000) gh gb w ge
  have hs : strsJ [D.str (zT (r2 - 50000000000000000000000000000000000000000000000000000000000)), .str (nbT gh), .str (nbT gb), .str (zT w), .str (nbT ge)] = some [zT (r2 - 50000000000000000000000000000000000000000000000000000000000), nbT gh, nbT gb, zT w, nbT ge] := rfl
  have hl : lenZ [zT (r2 - 50000000000000000000000000000000000000000000000000000000000), nbT gh, nbT gb, zT w, nbT ge] + 5 * (" | " : Str).length ≤ 16777216 := by
    have := trT_lenZ (by decide) (by decide) ho
    have h2 : [zT (r2 - 50000000000000000000000000000000000000000000000000000000000), nbT gh, nbT gb, zT w, nbT ge].length = 5 := rfl
    rw [h2] at this
    omega
  have hjj : Txt.join " | " [zT (r2 - 50000000000000000000000000000000000000000000000000000000000), nbT gh, nbT gb, zT w, nbT ge] = trT (r2 - 50000000000000000000000000000000000000000000000000000000000) gh gb w ge := txt_join _ _
  refine ⟨s7, o7, ?_⟩
  unfold F__law_streams_right b__law_streams_right
  simp only [RD1, RD2, RD3, RD4, RD5, RD6, RD7, RD8, RD9, RD10, List.all_cons, List.all_nil, List.length_cons, List.length_nil, List.getElem?_cons_zero, List.getElem?_cons_succ, List.getElem?_nil, List.set_cons_zero, List.set_cons_succ, List.cons_append, List.nil_append, List.replicate_succ, List.replicate_zero, Nat.reduceAdd, Nat.reduceSub, Nat.reduceEqDiff, Nat.reduceLeDiff, Nat.reduceLT, Option.bind_some, Option.bind_none, Option.map_some, Option.map_none, if_true, if_false, ite_true, ite_false, reduceCtorEq, decide_true, decide_false, Int.reducePow, Int.reduceToNat, Int.reduceMul, Int.reduceAdd, Int.reduceSub, Int.reduceNeg, Int.reduceLT, Int.reduceLE, List.map_append, List.map_cons, List.map_nil, g2m_ii, tLl, gInD_n, gInD_i, gInD_s, mmInsertu, g4maxu, hp58, hp59, hp30, hmu, e1, t1, t2, c1, c4, t3, t4, c2, c3]
  simp only [RD1, RD2, RD3, RD4, RD5, RD6, RD7, RD8, RD9, RD10, List.all_cons, List.all_nil, List.length_cons, List.length_nil, List.getElem?_cons_zero, List.getElem?_cons_succ, List.getElem?_nil, List.set_cons_zero, List.set_cons_succ, List.cons_append, List.nil_append, List.replicate_succ, List.replicate_zero, Nat.reduceAdd, Nat.reduceSub, Nat.reduceEqDiff, Nat.reduceLeDiff, Nat.reduceLT, Option.bind_some, Option.bind_none, Option.map_some, Option.map_none, if_true, if_false, ite_true, ite_false, reduceCtorEq, decide_true, decide_false, Int.reducePow, Int.reduceToNat, Int.reduceMul, Int.reduceAdd, Int.reduceSub, Int.reduceNeg, Int.reduceLT, Int.reduceLE, List.map_append, List.map_cons, List.map_nil, g2m_ii, tLl, gInD_n, gInD_i, gInD_s, mmInsertu, g4maxu, hp58, hp59, hp30, hmu, e2, e3, e4, hw, e5, e6, e7, m1]
  simp only [RD1, RD2, RD3, RD4, RD5, RD6, RD7, RD8, RD9, RD10, List.all_cons, List.all_nil, List.length_cons, List.length_nil, List.getElem?_cons_zero, List.getElem?_cons_succ, List.getElem?_nil, List.set_cons_zero, List.set_cons_succ, List.cons_append, List.nil_append, List.replicate_succ, List.replicate_zero, Nat.reduceAdd, Nat.reduceSub, Nat.reduceEqDiff, Nat.reduceLeDiff, Nat.reduceLT, Option.bind_some, Option.bind_none, Option.map_some, Option.map_none, if_true, if_false, ite_true, ite_false, reduceCtorEq, decide_true, decide_false, Int.reducePow, Int.reduceToNat, Int.reduceMul, Int.reduceAdd, Int.reduceSub, Int.reduceNeg, Int.reduceLT, Int.reduceLE, List.map_append, List.map_cons, List.map_nil, g2m_ii, tLl, gInD_n, gInD_i, gInD_s, mmInsertu, g4maxu, u1, u2, v1, v2, v3, fJoin, hs, hl, hjj, y1, y2, y3, y4]
theorem sg_l5 : sg ("last " : Str) = sg ("last" : Str) ++ [32] := by decide +kernel
theorem sg_d3 : sg (", delay 3" : Str) = sg (", " : Str) ++ (sg ("delay" : Str) ++ (32 :: [51])) := by decide +kernel
theorem sg_al : sg ("a; limit " : Str) = sg ("a" : Str) ++ (sg ("; " : Str) ++ (sg ("limit" : Str) ++ [32])) := by decide +kernel
theorem sg_z3 : sg (zT 3) = [51] := (sg_nat 3).trans (dgs_small (by decide))
theorem long_r (g : Int) : ("last " : Str) ++ zT g ++ (", delay 3" : Str) = rT [.last g, .delay 3] := by
  refine str_ext ?_
  rw [sg_app, sg_app]
  unfold rT
  rw [if_neg (by simp)]
  show _ = sg ((", " : Str).join [mT (.last g), mT (.delay 3)])
  rw [sg_join, sg_join1, sg_mT, sg_mT]
  show sg ("last " : Str) ++ sg (zT g) ++ sg (", delay 3" : Str) = (sg ("last" : Str) ++ 32 :: sg (zT g)) ++ (sg (", " : Str) ++ (sg ("delay" : Str) ++ 32 :: sg (zT 3)))
  rw [sg_l5, sg_d3, sg_z3]
  simp only [List.append_assoc, List.cons_append, List.nil_append]
theorem long_b (g : Int) : ("a; limit " : Str) ++ zT g = bT [.inl "a", .inr (.limit g)] := by
  refine str_ext ?_
  rw [sg_app]
  show _ = sg (("; " : Str).join [("a" : Str), mT (.limit g)])
  rw [sg_join, sg_join1, sg_mT]
  show sg ("a; limit " : Str) ++ sg (zT g) = sg ("a" : Str) ++ (sg ("; " : Str) ++ (sg ("limit" : Str) ++ 32 :: sg (zT g)))
  rw [sg_al]
  simp only [List.append_assoc, List.cons_append, List.nil_append]
theorem ranN (r : Int) (h0 : 0 ≤ r) (h1 : r < 99) : rgB (0 - r) 1900 1 = true ∧ rgN (0 - r) 1900 1 ≤ 2000 := by
  refine ⟨?_, ?_⟩
  · unfold rgB
    simp only [Bool.and_eq_true, decide_eq_true_eq]
    omega
  · unfold rgN
    rw [if_pos (by omega), Int.ediv_one]
    omega
theorem F_long_right {s : Dg} (o : s.ok) : ∃ s' : Dg, s'.ok ∧ F__law_long_right [.ow true (dgD s)] = .rt (.bl true) [.ow true (dgD s')] := by
  obtain ⟨s1, r1, o1, a1, b1, e1⟩ := F_digit s 3 o (by omega) (by omega)
  obtain ⟨s2, r2, o2, a2, b2, e2⟩ := F_digit s1 1000000000 o1 (by omega) (by omega)
  obtain ⟨s3, r3, o3, a3, b3, e3⟩ := F_digit s2 99 o2 (by omega) (by omega)
  have hp60 : powC 10 60 = true := by decide
  have hp62 : powC 10 62 = true := by decide
  have hp63 : powC 10 63 = true := by decide
  have hp9 : powC 10 9 = true := by decide
  have hp20 : powC 10 20 = true := by decide
  obtain ⟨w, hw, w0, w1⟩ : ∃ w : Int, atI [D.int 1000000000000000000000000000000000000000000000000000000000000, .int 100000000000000000000000000000000000000000000000000000000000000, .int 1000000000000000000000000000000000000000000000000000000000000000] r1 = some (.int w) ∧ 1000000000000000000000000000000000000000000000000000000000000 ≤ w ∧ w ≤ 1000000000000000000000000000000000000000000000000000000000000000 := by
    rcases (by omega : r1 = 0 ∨ r1 = 1 ∨ r1 = 2) with rfl | rfl | rfl
    · exact ⟨_, rfl, by decide, by decide⟩
    · exact ⟨_, rfl, by decide, by decide⟩
    · exact ⟨_, rfl, by decide, by decide⟩
  obtain ⟨g, hg⟩ : ∃ g : Int, g = w + r2 := ⟨_, rfl⟩
  have g0 : 1000000000000000000000000000000000000000000000000000000000000 ≤ g := by omega
  have g1 : g ≤ 1000000000000000000000000000000000000000000000000000000000000000 + 1000000000 := by omega
  have gp : 1 ≤ g := by omega
  have ga : g.natAbs < 10 ^ 64 := by omega
  have ga2 : (0 - g).natAbs < 10 ^ 64 := by omega
  have h3a : (3 : Int).natAbs < 10 ^ 64 := by decide
  -- the row
  have m1 := fun e : Ev => M_last (q := g) gp (e := e)
  have m2 := fun e : Ev => M_delay (q := 3) (by omega) (e := e)
  have m3 := fun e : Ev => M_row [.last g, .delay 3] (d := .lst [(Mb.last g).tree, (Mb.delay 3).tree]) rfl (e := e)
  have t1 := F_rtext (ms := [.last g, .delay 3]) (k := 64) (by decide) (by decide) (by show 2 ≤ 1000; omega) (fun m hm => by
    simp only [List.mem_cons, List.not_mem_nil, or_false] at hm
    rcases hm with rfl | rfl
    · exact ga
    · exact h3a)
  have u1 := strI (k := 64) (by decide) ga
  have u2 := strI (k := 64) (by decide) ga2
  have lg := zT_len (k := 64) (by decide) ga
  have lg2 := zT_len (k := 64) (by decide) ga2
  have l1 : ("last " : Str).length + (zT g).length ≤ 1000000 := by
    rw [show ("last " : Str).length = 5 from by decide +kernel]
    omega
  have l2 : (("last " : Str) ++ zT g).length + (", delay 3" : Str).length ≤ 1000000 := by
    rw [← sg_len (("last " : Str) ++ zT g), sg_app, List.length_append, sg_len, sg_len, show ("last " : Str).length = 5 from by decide +kernel, show (", delay 3" : Str).length = 9 from by decide +kernel]
    omega
  have c1 : gNe (.str (rT [.last g, .delay 3])) (.str (rT [.last g, .delay 3])) = some (.bl false) := gNe_self (by exact strOk_of fun c hc => rT_sign hc)
  have q1 := long_r g
  -- the stream
  have t2 := F_stext (d := .lst [.int (0 - g), .int g]) (ts := [0 - g, g]) (k := 64) rfl (by simp; omega) (by decide) (by decide) (by show 2 ≤ 3000; omega) (fun t ht => by
    simp only [List.mem_cons, List.not_mem_nil, or_false] at ht
    rcases ht with rfl | rfl
    · exact ga2
    · exact ga)
  have q2 : zT (0 - g) ++ (" " : Str) ++ zT g = nbT [0 - g, g] := rfl
  have l3 : (zT (0 - g)).length + (" " : Str).length ≤ 1000000 := by
    rw [len_bl]
    omega
  have l4 : (zT (0 - g) ++ (" " : Str)).length + (zT g).length ≤ 1000000 := by
    rw [← sg_len (zT (0 - g) ++ (" " : Str)), sg_app, List.length_append, sg_len, sg_len, len_bl]
    omega
  have c2 : gNe (.str (nbT [0 - g, g])) (.str (nbT [0 - g, g])) = some (.bl false) := gNe_self (by exact nbT_ok _)
  -- the bus
  have hbk : BusOk [D.str "a", (Mb.limit g).tree] := ⟨fun d hd => by
      simp only [List.mem_cons, List.not_mem_nil, or_false] at hd
      rcases hd with rfl | rfl
      · exact .inl ⟨"a", by simp [nmsL], rfl⟩
      · exact .inr ⟨_, rfl⟩, by
      show (["a"] : List Str).Nodup
      simp, "a", [(Mb.limit g).tree], by simp [nmsL], rfl⟩
  have m4 := fun e : Ev => M_limit (q := g) gp (e := e)
  have m5 : ∀ e, makeF "Bus" F_Bus___init__ [.im (.lst [D.str "a", (Mb.limit g).tree])] e = .ok (busT [D.str "a", (Mb.limit g).tree]) e := fun e => by
    have := F_bus (S := .im (.lst [D.str "a", (Mb.limit g).tree])) .iml hbk (by show 2 ≤ 1000; omega)
    simp only [RD1, RD2, RD3, RD4, RD5, RD6, RD7, RD8, RD9, RD10, List.all_cons, List.all_nil, List.length_cons, List.length_nil, List.getElem?_cons_zero, List.getElem?_cons_succ, List.getElem?_nil, List.set_cons_zero, List.set_cons_succ, List.cons_append, List.nil_append, List.replicate_succ, List.replicate_zero, Nat.reduceAdd, Nat.reduceSub, Nat.reduceEqDiff, Nat.reduceLeDiff, Nat.reduceLT, Option.bind_some, Option.bind_none, Option.map_some, Option.map_none, if_true, if_false, ite_true, ite_false, reduceCtorEq, decide_true, decide_false, Int.reducePow, Int.reduceToNat, Int.reduceMul, Int.reduceAdd, Int.reduceSub, Int.reduceNeg, Int.reduceLT, Int.reduceLE, List.map_append, List.map_cons, List.map_nil, g2m_ii, tLl, gInD_n, gInD_i, gInD_s, mmInsertu, g4maxu, makeF_eq, this]
  have sok : ∀ x ∈ [(.inl "a" : Stp), .inr (.limit g)], StOk 64 x := fun x hx => by
    simp only [List.mem_cons, List.not_mem_nil, or_false] at hx
    rcases hx with rfl | rfl
    · exact (by simp [nmsL] : ("a" : Str) ∈ nmsL)
    · exact ⟨decide_eq_true gp, ga⟩
  have t3 : F_bus_text [.im (busT [D.str "a", (Mb.limit g).tree])] = .rt (.str (bT [.inl "a", .inr (.limit g)])) [.im (busT [D.str "a", (Mb.limit g).tree])] := F_btext (k := 64) (ss := [.inl "a", .inr (.limit g)]) (by decide) (by decide) (by show 2 ≤ 100; omega) sok
  have q3 := long_b g
  have l5 : ("a; limit " : Str).length + (zT g).length ≤ 1000000 := by
    rw [show ("a; limit " : Str).length = 9 from by decide +kernel]
    omega
  have c3 : gNe (.str (bT [.inl "a", .inr (.limit g)])) (.str (bT [.inl "a", .inr (.limit g)])) = some (.bl false) := gNe_self (by
    refine strOk_of fun c hc => ?_
    rcases sg_join_mem hc with q | ⟨x, hx, q⟩
    · rw [sg_ss] at q
      simp only [List.mem_cons, List.not_mem_nil, or_false] at q
      omega
    · obtain ⟨y, hy, rfl⟩ := List.mem_map.mp hx
      have := stT_sign (sok y hy) q
      omega)
  -- the train
  have gn : GpOk [] := ⟨by decide, fun t ht => by cases ht⟩
  have gg : GpOk [g] := ⟨by show 1 ≤ 100; omega, fun t ht => by rw [List.mem_singleton.mp ht]; exact gp⟩
  have ho : TrOk 64 g [] [g] g [] := ⟨gn, gg, gn, by omega, ga, (fun t ht => by cases ht), (fun t ht => by rw [List.mem_singleton.mp ht]; exact ga), ga, (fun t ht => by cases ht)⟩
  have m6 : ∀ e : Ev, makeF "Train" F_Train___init__ [.im (.int g), .im (.lst []), .im (.lst [.int g]), .im (.int g), .im (.lst [])] e = .ok (tD g [] [g] g []) e := fun e => M_train (f := g) (r := g) (h := []) (b := [g]) (e := []) gn gg gn (by omega)
  have t4 := F_trtext (k := 64) (by decide) (by decide) ho
  have hs : strsJ [D.str (zT g), .str "none", .str (zT g), .str (zT g), .str "none"] = some [zT g, "none", zT g, zT g, "none"] := rfl
  have hjj : Txt.join " | " [zT g, "none", zT g, zT g, "none"] = trT g [] [g] g [] := txt_join _ _
  have hl : lenZ [zT g, "none", zT g, zT g, "none"] + 5 * (" | " : Str).length ≤ 16777216 := by
    have := trT_lenZ (by decide) (by decide) ho
    have h2 : lenZ [zT g, nbT [], nbT [g], zT g, nbT []] + [zT g, nbT [], nbT [g], zT g, nbT []].length * (" | " : Str).length = lenZ [zT g, "none", zT g, zT g, "none"] + 5 * (" | " : Str).length := rfl
    omega
  have c4 : gNe (.str (trT g [] [g] g [])) (.str (trT g [] [g] g [])) = some (.bl false) := gNe_self (by exact trT_ok _ _ _ _ _)
  -- the long stream
  obtain ⟨rb, rn⟩ := ranN r3 a3 b3
  obtain ⟨ts, hts⟩ : ∃ ts : List Int, ts = (List.range (rgN (0 - r3) 1900 1)).map fun k => (0 - r3) + ((k : Nat) : Int) * 1 := ⟨_, rfl⟩
  have htl : ts.length ≤ 2000 := by rw [hts, List.length_map, List.length_range]; exact rn
  have hta : ts.Pairwise (· < ·) := by
    rw [hts]
    refine List.Pairwise.map _ ?_ List.pairwise_lt_range
    intro a b h
    omega
  have htn : ∀ t ∈ ts, t.natAbs < 10 ^ 4 := fun t ht => by
    rw [hts] at ht
    obtain ⟨k, hk, rfl⟩ := List.mem_map.mp ht
    have := List.mem_range.mp hk
    omega
  have htn2 : ∀ t ∈ ts, NumOk t := fun t ht => Nat.lt_of_lt_of_le (htn t ht) (by decide)
  have hz : D.lst ((List.range (rgN (0 - r3) 1900 1)).map fun k => D.int ((0 - r3) + ((k : Nat) : Int) * 1)) = zD ts := by
    rw [hts]
    unfold zD
    rw [List.map_map]
    rfl
  have t5 := F_stext (d := zD ts) (ts := ts) (k := 4) rfl hta (by decide) (by decide) (by omega) htn
  have t6 := F_spoken (ts := ts) (k := 4) (by decide) (by decide) (by omega) htn
  have hsl : (nbT ts).length ≤ 100000 := by
    have a3 := nbT_len (k := 4) (by decide) htn
    omega
  have t7 := F_rstream hta htn2 hsl (by omega)
  have c5 : gNe (.str (nbT ts)) (.str (nbT ts)) = some (.bl false) := gNe_self (by exact nbT_ok _)
  have c6 := ne_zD ts
  -- the long row
  have dv : divC g 100000000000000000000 = true := divC_of (by decide) (by decide)
  obtain ⟨q, hq⟩ : ∃ q : Int, q = g / 100000000000000000000 := ⟨_, rfl⟩
  have q0 : 1 ≤ q := by omega
  have qa : NumOk q := by
    unfold NumOk
    omega
  have m7 := fun e : Ev => M_last (q := q) q0 (e := e)
  have m8 := fun e : Ev => M_first (q := 7) (by omega) (e := e)
  obtain ⟨ns, hns⟩ : ∃ ns : List Mb, ns = List.replicate 10 (.last q) ++ List.replicate 10 (.first 7) := ⟨_, rfl⟩
  have hnl : ns.length = 20 := by rw [hns]; rfl
  have hnt : [(Mb.last q).tree, (Mb.last q).tree, (Mb.last q).tree, (Mb.last q).tree, (Mb.last q).tree, (Mb.last q).tree, (Mb.last q).tree, (Mb.last q).tree, (Mb.last q).tree, (Mb.last q).tree, (Mb.first 7).tree, (Mb.first 7).tree, (Mb.first 7).tree, (Mb.first 7).tree, (Mb.first 7).tree, (Mb.first 7).tree, (Mb.first 7).tree, (Mb.first 7).tree, (Mb.first 7).tree, (Mb.first 7).tree] = ns.map Mb.tree := by
    rw [hns]
    rfl
  have hno : ∀ m ∈ ns, NumOk (num m) ∧ m.ok = true := fun m hm => by
    rw [hns] at hm
    rcases List.mem_append.mp hm with z | z
    · rw [(List.mem_replicate.mp z).2]
      exact ⟨qa, decide_eq_true q0⟩
    · rw [(List.mem_replicate.mp z).2]
      exact ⟨by show (7 : Int).natAbs < 10 ^ 60; decide, by show decide ((1 : Int) ≤ 7) = true; decide⟩
  have m9 := fun e : Ev => M_row ns (d := .lst (ns.map Mb.tree)) rfl (e := e)
  have t8 := F_rtext (ms := ns) (k := 60) (by decide) (by decide) (by omega) (fun m hm => (hno m hm).1)
  have t9 := F_rrow (ms := ns) (by omega) (fun m hm => (hno m hm).1) (fun m hm => (hno m hm).2)
  have q5 := row_self ns
  refine ⟨s3, o3, ?_⟩
  unfold F__law_long_right b__law_long_right
  have l10 : (1 * 10 ≤ 1000000) = True := by simp
  simp only [RD1, RD2, RD3, RD4, RD5, RD6, RD7, RD8, RD9, RD10, List.all_cons, List.all_nil, List.length_cons, List.length_nil, List.getElem?_cons_zero, List.getElem?_cons_succ, List.getElem?_nil, List.set_cons_zero, List.set_cons_succ, List.cons_append, List.nil_append, List.replicate_succ, List.replicate_zero, Nat.reduceAdd, Nat.reduceSub, Nat.reduceEqDiff, Nat.reduceLeDiff, Nat.reduceLT, Option.bind_some, Option.bind_none, Option.map_some, Option.map_none, if_true, if_false, ite_true, ite_false, reduceCtorEq, decide_true, decide_false, Int.reducePow, Int.reduceToNat, Int.reduceMul, Int.reduceAdd, Int.reduceSub, Int.reduceNeg, Int.reduceLT, Int.reduceLE, List.map_append, List.map_cons, List.map_nil, g2m_ii, tLl, gInD_n, gInD_i, gInD_s, mmInsertu, g4maxu, hp60, hp62, hp63, hp9, e1, hw, e2, ← hg, m1, m2, m3, t1, u1, l1, l2, q1, c1]
  simp only [RD1, RD2, RD3, RD4, RD5, RD6, RD7, RD8, RD9, RD10, List.all_cons, List.all_nil, List.length_cons, List.length_nil, List.getElem?_cons_zero, List.getElem?_cons_succ, List.getElem?_nil, List.set_cons_zero, List.set_cons_succ, List.cons_append, List.nil_append, List.replicate_succ, List.replicate_zero, Nat.reduceAdd, Nat.reduceSub, Nat.reduceEqDiff, Nat.reduceLeDiff, Nat.reduceLT, Option.bind_some, Option.bind_none, Option.map_some, Option.map_none, if_true, if_false, ite_true, ite_false, reduceCtorEq, decide_true, decide_false, Int.reducePow, Int.reduceToNat, Int.reduceMul, Int.reduceAdd, Int.reduceSub, Int.reduceNeg, Int.reduceLT, Int.reduceLE, List.map_append, List.map_cons, List.map_nil, g2m_ii, tLl, gInD_n, gInD_i, gInD_s, mmInsertu, g4maxu, t2, u2, u1, l3, l4, q2, c2, m4, m5, t3, l5, q3, c3]
  simp only [RD1, RD2, RD3, RD4, RD5, RD6, RD7, RD8, RD9, RD10, List.all_cons, List.all_nil, List.length_cons, List.length_nil, List.getElem?_cons_zero, List.getElem?_cons_succ, List.getElem?_nil, List.set_cons_zero, List.set_cons_succ, List.cons_append, List.nil_append, List.replicate_succ, List.replicate_zero, Nat.reduceAdd, Nat.reduceSub, Nat.reduceEqDiff, Nat.reduceLeDiff, Nat.reduceLT, Option.bind_some, Option.bind_none, Option.map_some, Option.map_none, if_true, if_false, ite_true, ite_false, reduceCtorEq, decide_true, decide_false, Int.reducePow, Int.reduceToNat, Int.reduceMul, Int.reduceAdd, Int.reduceSub, Int.reduceNeg, Int.reduceLT, Int.reduceLE, List.map_append, List.map_cons, List.map_nil, g2m_ii, tLl, gInD_n, gInD_i, gInD_s, mmInsertu, g4maxu, fJoin, hs, hjj, hl, m6, t4, c4, e3, rb, hz, t5, t6, t7, c5, c6]
  simp only [RD1, RD2, RD3, RD4, RD5, RD6, RD7, RD8, RD9, RD10, List.all_cons, List.all_nil, List.length_cons, List.length_nil, List.getElem?_cons_zero, List.getElem?_cons_succ, List.getElem?_nil, List.set_cons_zero, List.set_cons_succ, List.cons_append, List.nil_append, List.replicate_succ, List.replicate_zero, Nat.reduceAdd, Nat.reduceSub, Nat.reduceEqDiff, Nat.reduceLeDiff, Nat.reduceLT, Option.bind_some, Option.bind_none, Option.map_some, Option.map_none, if_true, if_false, ite_true, ite_false, reduceCtorEq, decide_true, decide_false, Int.reducePow, Int.reduceToNat, Int.reduceMul, Int.reduceAdd, Int.reduceSub, Int.reduceNeg, Int.reduceLT, Int.reduceLE, List.map_append, List.map_cons, List.map_nil, g2m_ii, tLl, gInD_n, gInD_i, gInD_s, mmInsertu, g4maxu, hp20, dv, ← hq, m7, m8, l10, List.flatten_cons, List.flatten_nil, List.append_nil, hnt, m9, t8, t9, q5]
theorem turn1_law {L : D} {c : Int} {t : D} {s : Dg} (o : s.ok) : ∃ s' : Dg, s'.ok ∧ lp1_law [.im L, .im (.int c), .ow false (dgD s), .im t] = .nx [.im L, .im (.int c), .ow false (dgD s'), .no] := by
  obtain ⟨s1, o1, e1⟩ := F_rows_right o
  obtain ⟨s2, o2, e2⟩ := F_streams_right o1
  refine ⟨s2, o2, ?_⟩
  unfold lp1_law
  simp only [RD1, RD2, RD3, RD4, RD5, RD6, RD7, RD8, RD9, RD10, List.all_cons, List.all_nil, List.length_cons, List.length_nil, List.getElem?_cons_zero, List.getElem?_cons_succ, List.getElem?_nil, List.set_cons_zero, List.set_cons_succ, List.cons_append, List.nil_append, List.replicate_succ, List.replicate_zero, Nat.reduceAdd, Nat.reduceSub, Nat.reduceEqDiff, Nat.reduceLeDiff, Nat.reduceLT, Option.bind_some, Option.bind_none, Option.map_some, Option.map_none, if_true, if_false, ite_true, ite_false, reduceCtorEq, decide_true, decide_false, Int.reducePow, Int.reduceToNat, Int.reduceMul, Int.reduceAdd, Int.reduceSub, Int.reduceNeg, Int.reduceLT, Int.reduceLE, List.map_append, List.map_cons, List.map_nil, g2m_ii, tLl, gInD_n, gInD_i, gInD_s, mmInsertu, g4maxu, e1, e2]
theorem turn2_law {L : D} {c : Int} : lp2_law [.im L, .im (.int c), .no, .no] = .nx [.im L, .no, .no, .no] := by
  obtain ⟨s0, o0, e0⟩ := F_state c
  unfold lp2_law
  simp only [RD1, RD2, RD3, RD4, RD5, RD6, RD7, RD8, RD9, RD10, List.all_cons, List.all_nil, List.length_cons, List.length_nil, List.getElem?_cons_zero, List.getElem?_cons_succ, List.getElem?_nil, List.set_cons_zero, List.set_cons_succ, List.cons_append, List.nil_append, List.replicate_succ, List.replicate_zero, Nat.reduceAdd, Nat.reduceSub, Nat.reduceEqDiff, Nat.reduceLeDiff, Nat.reduceLT, Option.bind_some, Option.bind_none, Option.map_some, Option.map_none, if_true, if_false, ite_true, ite_false, reduceCtorEq, decide_true, decide_false, Int.reducePow, Int.reduceToNat, Int.reduceMul, Int.reduceAdd, Int.reduceSub, Int.reduceNeg, Int.reduceLT, Int.reduceLE, List.map_append, List.map_cons, List.map_nil, g2m_ii, tLl, gInD_n, gInD_i, gInD_s, mmInsertu, g4maxu, e0, bnd_of (n := 6) (by omega) (by omega)]
  rw [rgD0]
  obtain ⟨e', he', s1, o1, rfl⟩ := forL_rel (g := tN 3) (f := fun i : Nat => D.int (i : Nat)) (xs := List.range 6) (b := lp1_law) (e := [.im L, .im (.int c), .ow false (dgD s0), .no])
    (fun _ e => ∃ s' : Dg, s'.ok ∧ e = [.im L, .im (.int c), .ow false (dgD s'), .no])
    ⟨s0, o0, rfl⟩ (fun i hi e he => by
      obtain ⟨s', o', rfl⟩ := he
      rw [List.getElem_range]
      obtain ⟨s2, o2, e2⟩ := turn1_law (L := L) (c := c) (t := .int (i : Nat)) o'
      exact ⟨_, _, by simp only [RD1, RD2, RD3, RD4, RD5, RD6, RD7, RD8, RD9, RD10, List.all_cons, List.all_nil, List.length_cons, List.length_nil, List.getElem?_cons_zero, List.getElem?_cons_succ, List.getElem?_nil, List.set_cons_zero, List.set_cons_succ, List.cons_append, List.nil_append, List.replicate_succ, List.replicate_zero, Nat.reduceAdd, Nat.reduceSub, Nat.reduceEqDiff, Nat.reduceLeDiff, Nat.reduceLT, Option.bind_some, Option.bind_none, Option.map_some, Option.map_none, if_true, if_false, ite_true, ite_false, reduceCtorEq, decide_true, decide_false, Int.reducePow, Int.reduceToNat, Int.reduceMul, Int.reduceAdd, Int.reduceSub, Int.reduceNeg, Int.reduceLT, Int.reduceLE, List.map_append, List.map_cons, List.map_nil, g2m_ii, tLl, gInD_n, gInD_i, gInD_s, mmInsertu, g4maxu], .inl e2, s2, o2, rfl⟩)
  rw [he']
  obtain ⟨s2, o2, e2⟩ := F_long_right o1
  simp only [RD1, RD2, RD3, RD4, RD5, RD6, RD7, RD8, RD9, RD10, List.all_cons, List.all_nil, List.length_cons, List.length_nil, List.getElem?_cons_zero, List.getElem?_cons_succ, List.getElem?_nil, List.set_cons_zero, List.set_cons_succ, List.cons_append, List.nil_append, List.replicate_succ, List.replicate_zero, Nat.reduceAdd, Nat.reduceSub, Nat.reduceEqDiff, Nat.reduceLeDiff, Nat.reduceLT, Option.bind_some, Option.bind_none, Option.map_some, Option.map_none, if_true, if_false, ite_true, ite_false, reduceCtorEq, decide_true, decide_false, Int.reducePow, Int.reduceToNat, Int.reduceMul, Int.reduceAdd, Int.reduceSub, Int.reduceNeg, Int.reduceLT, Int.reduceLE, List.map_append, List.map_cons, List.map_nil, g2m_ii, tLl, gInD_n, gInD_i, gInD_s, mmInsertu, g4maxu, e2]
theorem law_ok (ns : List Int) (h : ns.length ≤ 63) : ∃ sl', F_law [.im (.lst (ns.map D.int))] = .rt (.bl true) sl' := by
  have hl : (ns.map D.int).length + 1 ≤ 1000000 := by
    rw [List.length_map]
    omega
  obtain ⟨cs, hcs⟩ : ∃ cs : List Int, cutD (ns.map D.int ++ [.int 0]) none (some 3) = cs.map D.int := ⟨_, cells ns⟩
  unfold F_law b_law
  simp only [RD1, RD2, RD3, RD4, RD5, RD6, RD7, RD8, RD9, RD10, List.all_cons, List.all_nil, List.length_cons, List.length_nil, List.getElem?_cons_zero, List.getElem?_cons_succ, List.getElem?_nil, List.set_cons_zero, List.set_cons_succ, List.cons_append, List.nil_append, List.replicate_succ, List.replicate_zero, Nat.reduceAdd, Nat.reduceSub, Nat.reduceEqDiff, Nat.reduceLeDiff, Nat.reduceLT, Option.bind_some, Option.bind_none, Option.map_some, Option.map_none, if_true, if_false, ite_true, ite_false, reduceCtorEq, decide_true, decide_false, Int.reducePow, Int.reduceToNat, Int.reduceMul, Int.reduceAdd, Int.reduceSub, Int.reduceNeg, Int.reduceLT, Int.reduceLE, List.map_append, List.map_cons, List.map_nil, g2m_ii, tLl, gInD_n, gInD_i, gInD_s, mmInsertu, g4maxu, hl, hcs]
  rw [forL_go (fun _ => [.im (.lst (ns.map D.int)), .no, .no, .no])]
  · simp only [RD1, RD2, RD3, RD4, RD5, RD6, RD7, RD8, RD9, RD10, List.all_cons, List.all_nil, List.length_cons, List.length_nil, List.getElem?_cons_zero, List.getElem?_cons_succ, List.getElem?_nil, List.set_cons_zero, List.set_cons_succ, List.cons_append, List.nil_append, List.replicate_succ, List.replicate_zero, Nat.reduceAdd, Nat.reduceSub, Nat.reduceEqDiff, Nat.reduceLeDiff, Nat.reduceLT, Option.bind_some, Option.bind_none, Option.map_some, Option.map_none, if_true, if_false, ite_true, ite_false, reduceCtorEq, decide_true, decide_false, Int.reducePow, Int.reduceToNat, Int.reduceMul, Int.reduceAdd, Int.reduceSub, Int.reduceNeg, Int.reduceLT, Int.reduceLE, List.map_append, List.map_cons, List.map_nil, g2m_ii, tLl, gInD_n, gInD_i, gInD_s, mmInsertu, g4maxu]
    exact ⟨_, rfl⟩
  · rfl
  · intro i hi
    rw [List.getElem_map]
    have hi' : i < cs.length := by rw [List.length_map] at hi; exact hi
    exact ⟨[.im (.lst (ns.map D.int)), .im (.int cs[i]), .no, .no], by simp only [RD1, RD2, RD3, RD4, RD5, RD6, RD7, RD8, RD9, RD10, List.all_cons, List.all_nil, List.length_cons, List.length_nil, List.getElem?_cons_zero, List.getElem?_cons_succ, List.getElem?_nil, List.set_cons_zero, List.set_cons_succ, List.cons_append, List.nil_append, List.replicate_succ, List.replicate_zero, Nat.reduceAdd, Nat.reduceSub, Nat.reduceEqDiff, Nat.reduceLeDiff, Nat.reduceLT, Option.bind_some, Option.bind_none, Option.map_some, Option.map_none, if_true, if_false, ite_true, ite_false, reduceCtorEq, decide_true, decide_false, Int.reducePow, Int.reduceToNat, Int.reduceMul, Int.reduceAdd, Int.reduceSub, Int.reduceNeg, Int.reduceLT, Int.reduceLE, List.map_append, List.map_cons, List.map_nil, g2m_ii, tLl, gInD_n, gInD_i, gInD_s, mmInsertu, g4maxu], .inl turn2_law⟩

end Law

namespace Law
open PySem PySem.Spec L2 TL
theorem sc__law_state : FnScope N__law_state ["_law_source"] (defScope st__law_state) := ⟨rfl, rfl, rfl, by decide +kernel, rfl, by decide +kernel, by decide +kernel⟩
theorem sc_is_member : FnScope N_is_member ["thing"] (defScope st_is_member) := ⟨rfl, rfl, rfl, by decide +kernel, rfl, by decide +kernel, by decide +kernel⟩
theorem sc_Row___init__ : FnScope N_Row___init__ ["self", "members"] (defScope st_Row___init__) := ⟨rfl, rfl, rfl, by decide +kernel, rfl, by decide +kernel, by decide +kernel⟩
theorem sc_Member_facts : FnScope N_Member_facts ["self"] (defScope st_Member_facts) := ⟨rfl, rfl, rfl, by decide +kernel, rfl, by decide +kernel, by decide +kernel⟩
theorem sc_Delay_facts : FnScope N_Delay_facts ["self"] (defScope st_Delay_facts) := ⟨rfl, rfl, rfl, by decide +kernel, rfl, by decide +kernel, by decide +kernel⟩
theorem sc_Last_class_name : FnScope N_Last_class_name ["self"] (defScope st_Last_class_name) := ⟨rfl, rfl, rfl, by decide +kernel, rfl, by decide +kernel, by decide +kernel⟩
theorem sc_First_class_name : FnScope N_First_class_name ["self"] (defScope st_First_class_name) := ⟨rfl, rfl, rfl, by decide +kernel, rfl, by decide +kernel, by decide +kernel⟩
theorem sc_Limit_class_name : FnScope N_Limit_class_name ["self"] (defScope st_Limit_class_name) := ⟨rfl, rfl, rfl, by decide +kernel, rfl, by decide +kernel, by decide +kernel⟩
theorem sc_Delay_class_name : FnScope N_Delay_class_name ["self"] (defScope st_Delay_class_name) := ⟨rfl, rfl, rfl, by decide +kernel, rfl, by decide +kernel, by decide +kernel⟩
theorem sc_Thing___eq___0 : FnScope N_Thing___eq___0 ["self", "other"] (defScope st_Thing___eq___0) := ⟨rfl, rfl, rfl, by decide +kernel, rfl, by decide +kernel, by decide +kernel⟩
theorem sc_Row_facts : FnScope N_Row_facts ["self"] (defScope st_Row_facts) := ⟨rfl, rfl, rfl, by decide +kernel, rfl, by decide +kernel, by decide +kernel⟩
theorem sc_Bus_facts : FnScope N_Bus_facts ["self"] (defScope st_Bus_facts) := ⟨rfl, rfl, rfl, by decide +kernel, rfl, by decide +kernel, by decide +kernel⟩
theorem sc_Train_facts : FnScope N_Train_facts ["self"] (defScope st_Train_facts) := ⟨rfl, rfl, rfl, by decide +kernel, rfl, by decide +kernel, by decide +kernel⟩
theorem sc_Row_class_name : FnScope N_Row_class_name ["self"] (defScope st_Row_class_name) := ⟨rfl, rfl, rfl, by decide +kernel, rfl, by decide +kernel, by decide +kernel⟩
theorem sc_Bus_class_name : FnScope N_Bus_class_name ["self"] (defScope st_Bus_class_name) := ⟨rfl, rfl, rfl, by decide +kernel, rfl, by decide +kernel, by decide +kernel⟩
theorem sc_Train_class_name : FnScope N_Train_class_name ["self"] (defScope st_Train_class_name) := ⟨rfl, rfl, rfl, by decide +kernel, rfl, by decide +kernel, by decide +kernel⟩
theorem sc_Thing___eq___1 : FnScope N_Thing___eq___1 ["self", "other"] (defScope st_Thing___eq___1) := ⟨rfl, rfl, rfl, by decide +kernel, rfl, by decide +kernel, by decide +kernel⟩
theorem sc__law_digit : FnScope N__law_digit ["_law_state_here", "_law_base"] (defScope st__law_digit) := ⟨rfl, rfl, rfl, by decide +kernel, rfl, by decide +kernel, by decide +kernel⟩
theorem sc_member_text : FnScope N_member_text ["member"] (defScope st_member_text) := ⟨rfl, rfl, rfl, by decide +kernel, rfl, by decide +kernel, by decide +kernel⟩
theorem sc_row_text : FnScope N_row_text ["row"] (defScope st_row_text) := ⟨rfl, rfl, rfl, by decide +kernel, rfl, by decide +kernel, by decide +kernel⟩
theorem sc_is_number : FnScope N_is_number ["thing"] (defScope st_is_number) := ⟨rfl, rfl, rfl, by decide +kernel, rfl, by decide +kernel, by decide +kernel⟩
theorem sc_check_stream : FnScope N_check_stream ["stream"] (defScope st_check_stream) := ⟨rfl, rfl, rfl, by decide +kernel, rfl, by decide +kernel, by decide +kernel⟩
theorem sc_stream_text : FnScope N_stream_text ["stream"] (defScope st_stream_text) := ⟨rfl, rfl, rfl, by decide +kernel, rfl, by decide +kernel, by decide +kernel⟩
theorem sc_bus_text : FnScope N_bus_text ["bus"] (defScope st_bus_text) := ⟨rfl, rfl, rfl, by decide +kernel, rfl, by decide +kernel, by decide +kernel⟩
theorem sc_gaps_text : FnScope N_gaps_text ["gaps"] (defScope st_gaps_text) := ⟨rfl, rfl, rfl, by decide +kernel, rfl, by decide +kernel, by decide +kernel⟩
theorem sc_train_text : FnScope N_train_text ["train"] (defScope st_train_text) := ⟨rfl, rfl, rfl, by decide +kernel, rfl, by decide +kernel, by decide +kernel⟩
theorem sc_check_string : FnScope N_check_string ["text"] (defScope st_check_string) := ⟨rfl, rfl, rfl, by decide +kernel, rfl, by decide +kernel, by decide +kernel⟩
theorem sc_is_figures : FnScope N_is_figures ["text"] (defScope st_is_figures) := ⟨rfl, rfl, rfl, by decide +kernel, rfl, by decide +kernel, by decide +kernel⟩
theorem sc_read_number : FnScope N_read_number ["text", "place"] (defScope st_read_number) := ⟨rfl, rfl, rfl, by decide +kernel, rfl, by decide +kernel, by decide +kernel⟩
theorem sc_pair_from : FnScope N_pair_from ["text", "place"] (defScope st_pair_from) := ⟨rfl, rfl, rfl, by decide +kernel, rfl, by decide +kernel, by decide +kernel⟩
theorem sc_Member___init__ : FnScope N_Member___init__ ["self", "q"] (defScope st_Member___init__) := ⟨rfl, rfl, rfl, by decide +kernel, rfl, by decide +kernel, by decide +kernel⟩
theorem sc_Delay___init__ : FnScope N_Delay___init__ ["self", "d"] (defScope st_Delay___init__) := ⟨rfl, rfl, rfl, by decide +kernel, rfl, by decide +kernel, by decide +kernel⟩
theorem sc_member_from : FnScope N_member_from ["kind", "number"] (defScope st_member_from) := ⟨rfl, rfl, rfl, by decide +kernel, rfl, by decide +kernel, by decide +kernel⟩
theorem sc_read_row : FnScope N_read_row ["text"] (defScope st_read_row) := ⟨rfl, rfl, rfl, by decide +kernel, rfl, by decide +kernel, by decide +kernel⟩
theorem sc_is_name : FnScope N_is_name ["thing"] (defScope st_is_name) := ⟨rfl, rfl, rfl, by decide +kernel, rfl, by decide +kernel, by decide +kernel⟩
theorem sc_Bus___init__ : FnScope N_Bus___init__ ["self", "steps"] (defScope st_Bus___init__) := ⟨rfl, rfl, rfl, by decide +kernel, rfl, by decide +kernel, by decide +kernel⟩
theorem sc_are_gaps : FnScope N_are_gaps ["thing"] (defScope st_are_gaps) := ⟨rfl, rfl, rfl, by decide +kernel, rfl, by decide +kernel, by decide +kernel⟩
theorem sc_Train___init__ : FnScope N_Train___init__ ["self", "first", "head", "block", "rounds", "end"] (defScope st_Train___init__) := ⟨rfl, rfl, rfl, by decide +kernel, rfl, by decide +kernel, by decide +kernel⟩
theorem sc__law_spoken : FnScope N__law_spoken ["_law_numbers"] (defScope st__law_spoken) := ⟨rfl, rfl, rfl, by decide +kernel, rfl, by decide +kernel, by decide +kernel⟩
theorem sc_numbers_from : FnScope N_numbers_from ["text", "place", "is_counted"] (defScope st_numbers_from) := ⟨rfl, rfl, rfl, by decide +kernel, rfl, by decide +kernel, by decide +kernel⟩
theorem sc_read_stream : FnScope N_read_stream ["text"] (defScope st_read_stream) := ⟨rfl, rfl, rfl, by decide +kernel, rfl, by decide +kernel, by decide +kernel⟩
theorem sc__law_long_right : FnScope N__law_long_right ["_law_s"] (defScope st__law_long_right) := ⟨rfl, rfl, rfl, by decide +kernel, rfl, by decide +kernel, by decide +kernel⟩
theorem sc__law_kinds : FnScope N__law_kinds [] (defScope st__law_kinds) := ⟨rfl, rfl, rfl, by decide +kernel, rfl, by decide +kernel, by decide +kernel⟩
theorem sc__law_members : FnScope N__law_members ["_law_s", "_law_many", "_law_most"] (defScope st__law_members) := ⟨rfl, rfl, rfl, by decide +kernel, rfl, by decide +kernel, by decide +kernel⟩
theorem sc__law_steps : FnScope N__law_steps ["_law_s"] (defScope st__law_steps) := ⟨rfl, rfl, rfl, by decide +kernel, rfl, by decide +kernel, by decide +kernel⟩
theorem sc__law_made : FnScope N__law_made ["_law_members_here"] (defScope st__law_made) := ⟨rfl, rfl, rfl, by decide +kernel, rfl, by decide +kernel, by decide +kernel⟩
theorem sc__law_bus : FnScope N__law_bus ["_law_steps_here"] (defScope st__law_bus) := ⟨rfl, rfl, rfl, by decide +kernel, rfl, by decide +kernel, by decide +kernel⟩
theorem sc__law_steps_text : FnScope N__law_steps_text ["_law_steps_here"] (defScope st__law_steps_text) := ⟨rfl, rfl, rfl, by decide +kernel, rfl, by decide +kernel, by decide +kernel⟩
theorem sc_read_bus : FnScope N_read_bus ["text"] (defScope st_read_bus) := ⟨rfl, rfl, rfl, by decide +kernel, rfl, by decide +kernel, by decide +kernel⟩
theorem sc__law_members_text : FnScope N__law_members_text ["_law_members_here"] (defScope st__law_members_text) := ⟨rfl, rfl, rfl, by decide +kernel, rfl, by decide +kernel, by decide +kernel⟩
theorem sc__law_rows_right : FnScope N__law_rows_right ["_law_s"] (defScope st__law_rows_right) := ⟨rfl, rfl, rfl, by decide +kernel, rfl, by decide +kernel, by decide +kernel⟩
theorem sc__law_stream : FnScope N__law_stream ["_law_s", "_law_many", "_law_gaps_here"] (defScope st__law_stream) := ⟨rfl, rfl, rfl, by decide +kernel, rfl, by decide +kernel, by decide +kernel⟩
theorem sc__law_gaps : FnScope N__law_gaps ["_law_s"] (defScope st__law_gaps) := ⟨rfl, rfl, rfl, by decide +kernel, rfl, by decide +kernel, by decide +kernel⟩
theorem sc_read_train : FnScope N_read_train ["text"] (defScope st_read_train) := ⟨rfl, rfl, rfl, by decide +kernel, rfl, by decide +kernel, by decide +kernel⟩
theorem sc__law_streams_right : FnScope N__law_streams_right ["_law_s"] (defScope st__law_streams_right) := ⟨rfl, rfl, rfl, by decide +kernel, rfl, by decide +kernel, by decide +kernel⟩
theorem sc_law : FnScope N_law ["_law_script"] (defScope st_law) := ⟨rfl, rfl, rfl, by decide +kernel, rfl, by decide +kernel, by decide +kernel⟩
structure Ws (K : PySem.W.Frag) (mg : Str → Option Value) : Prop where
  b_abs : mg "abs" = none
  b_all : mg "all" = none
  b_bool : mg "bool" = none
  b_enumerate : mg "enumerate" = none
  b_int : mg "int" = none
  b_isinstance : mg "isinstance" = none
  b_len : mg "len" = none
  b_list : mg "list" = none
  b_min : mg "min" = none
  b_range : mg "range" = none
  b_str : mg "str" = none
  b_tuple : mg "tuple" = none
  g_Bus : mg "Bus" = some (.ref (He.ga K "Bus"))
  g_Delay : mg "Delay" = some (.ref (He.ga K "Delay"))
  g_First : mg "First" = some (.ref (He.ga K "First"))
  g_Last : mg "Last" = some (.ref (He.ga K "Last"))
  g_Limit : mg "Limit" = some (.ref (He.ga K "Limit"))
  g_Row : mg "Row" = some (.ref (He.ga K "Row"))
  g_Thing : mg "Thing" = some (.ref (He.ga K "Thing"))
  g_Train : mg "Train" = some (.ref (He.ga K "Train"))
  c_LETTERS : ∃ t, mg "LETTERS" = some (.str "abcdefghijklmnopqrstuvwxyz" t)
  c_MOST_LETTERS : ∃ t, mg "MOST_LETTERS" = some (.int 8 t)
  c_FIGURES : ∃ t, mg "FIGURES" = some (.str "0123456789" t)
  c_MOST_FIGURES : ∃ t, mg "MOST_FIGURES" = some (.int 60 t)
  c_ALL : ∃ t, mg "ALL" = some (.str "all" t)
  c_NONE : ∃ t, mg "NONE" = some (.str "none" t)
  c_PARTS : ∃ t, mg "PARTS" = some (.int 5 t)
  ct : CT K tb ks
  oq0 : oqB K tb eq0 = true
  oq1 : oqB K tb eq1 = true
  x_BadBus : PySem.XF_index.XTxt K mg "BadBus" (He.ga K "BadBus") (He.ma K (He.ga K "BadBus") "__init__")
  x_BadRow : PySem.XF_index.XTxt K mg "BadRow" (He.ga K "BadRow") (He.ma K (He.ga K "BadRow") "__init__")
  x_BadStream : PySem.XF_place.XTxt K mg "BadStream" (He.ga K "BadStream") (He.ma K (He.ga K "BadStream") "__init__")
  x_BadText : PySem.XF_place.XTxt K mg "BadText" (He.ga K "BadText") (He.ma K (He.ga K "BadText") "__init__")
  x_BadMember : PySem.XF_what.XTxt K mg "BadMember" (He.ga K "BadMember") (He.ma K (He.ga K "BadMember") "__init__")
  x_BadTrain : PySem.XF_what.XTxt K mg "BadTrain" (He.ga K "BadTrain") (He.ma K (He.ga K "BadTrain") "__init__")
theorem len_law : ∀ sl R, T_law sl R → sl.length = 1 := by
  rintro sl R ⟨ns, _, rfl, _⟩
  rfl
theorem s_law : ∀ sl R, T_law sl R → ws b_law (envOf N_law sl) (enOf sl R) := by
  rintro sl R ⟨ns, hl, rfl, hr⟩
  refine tf_sem (N := N_law) (n := 1) (b := b_law) _ R ?_
  obtain ⟨sl1, e⟩ := law_ok ns hl
  show (F_law _).on R
  rw [e]
  exact hr sl1
section
variable {P : Program} {w : World} {K : PySem.W.Frag} {mg : Str → Option Value} {base : Heap}
theorem q__law_state (E0 : Ws K mg) {f : Addr}  : BodyQ P w K mg base 0 N__law_state "_law_state" (defScope st__law_state) f (defBody st__law_state) (ws b__law_state) := by
  intro cdv A outer s H E hr
  exact (kss_cons (ks_set (i := 0) sc__law_state.nd rfl (Or.inl rfl) (ke_abs (E0.b_abs) (ko (ke_var 0))))
    (kss_one (ks_retF (kf_lst (ka_cons (ko (ke_mul (ko (ke_var 0)) (ko (ke_intc (E0.b_int) (ko ((kc_ge (ko (ke_var 0)) (ko (ke_pow (ko ke_int) (ko ke_int)))).e _)))))) (ka_cons (ko (ke_add (ko (ke_mod (ko (ke_intc (E0.b_int) (ko (ke_var 0)))) (ko ke_int))) (ko ke_int))) (ka_cons (ko (ke_mod (ko (ke_intc (E0.b_int) (ko (ke_var 0)))) (ko ke_int))) ka_nil)))))))
theorem q_is_member (E0 : Ws K mg) {f : Addr}  : BodyQ P w K mg base 0 N_is_member "is_member" (defScope st_is_member) f (defBody st_is_member) (ws b_is_member) := by
  intro cdv A outer s H E hr
  exact (kss_one (ks_ret (ke_isiT E0.ct (by decide +kernel) (by decide) (E0.b_isinstance) (ko (ke_var 0)) (.cons (pcn_own E0.g_Last) rfl (.cons (pcn_own E0.g_First) rfl (.cons (pcn_own E0.g_Limit) rfl (.cons (pcn_own E0.g_Delay) rfl .nil)))))))
theorem q_Row___init__ (E0 : Ws K mg) {f : Addr} (H_is_member : FnT P w K mg base 1 "is_member" ["thing"] (TF F_is_member)) : BodyQ P w K mg base 1 N_Row___init__ "Row.__init__" (defScope st_Row___init__) f (defBody st_Row___init__) (ws b_Row___init__) := by
  intro cdv A outer s H E hr
  exact (kss_cons (ks_if (kt_not (kt_val (ke_isiT E0.ct (by decide +kernel) (by decide) (E0.b_isinstance) (ko (ke_var 1)) (.cons (pcn_ty (E0.b_list) (by decide +kernel)) rfl (.cons (pcn_ty (E0.b_tuple) (by decide +kernel)) rfl .nil)))))
     (kss_one (QS.le (qs_raise_index rfl E0.x_BadRow hr (takes_of rfl rfl rfl rfl) (ke_neg (ko ke_int))) leRaise))
     kss_nil)
    (kss_cons (QS.le (qs_fld 0 E0.ct (ke_tuple (E0.b_tuple) (ko (ke_var 1)))) leFld)
    (kss_one (ks_for (passes_of rfl) rfl (ki_enum (E0.b_enumerate) (ke_fld E0.ct (ko_var 0))) (kg_tup rfl (kgs_cons (kg_name (i := 2) sc_Row___init__.nd rfl (Or.inl rfl)) (kgs_cons (kg_name (i := 3) sc_Row___init__.nd rfl (Or.inl rfl)) kgs_nil)))
     (kss_kil [2, 3] (kss_one (ks_if (kt_not (kt_val (QE.le (qe_call H_is_member (hr.mono (by decide)) (takes_of rfl rfl rfl rfl) (ka_cons (ko (ke_var 3)) ka_nil)) leCall)))
     (kss_one (QS.le (qs_raise_index rfl E0.x_BadRow hr (takes_of rfl rfl rfl rfl) (ke_var 2)) leRaise))
     kss_nil)))))))
theorem q_Member_facts (E0 : Ws K mg) {f : Addr}  : BodyQ P w K mg base 0 N_Member_facts "Member.facts" (defScope st_Member_facts) f (defBody st_Member_facts) (ws b_Member_facts) := by
  intro cdv A outer s H E hr
  exact (kss_one (ks_ret (ke_tup (ka_cons (ko (ke_fld E0.ct (ko (ke_var 0)))) ka_nil))))
theorem q_Delay_facts (E0 : Ws K mg) {f : Addr}  : BodyQ P w K mg base 0 N_Delay_facts "Delay.facts" (defScope st_Delay_facts) f (defBody st_Delay_facts) (ws b_Delay_facts) := by
  intro cdv A outer s H E hr
  exact (kss_one (ks_ret (ke_tup (ka_cons (ko (ke_fld E0.ct (ko (ke_var 0)))) ka_nil))))
theorem q_Last_class_name (E0 : Ws K mg) {f : Addr}  : BodyQ P w K mg base 0 N_Last_class_name "Last.class_name" (defScope st_Last_class_name) f (defBody st_Last_class_name) (ws b_Last_class_name) := by
  intro cdv A outer s H E hr
  exact (kss_one (ks_ret ke_str))
theorem q_First_class_name (E0 : Ws K mg) {f : Addr}  : BodyQ P w K mg base 0 N_First_class_name "First.class_name" (defScope st_First_class_name) f (defBody st_First_class_name) (ws b_First_class_name) := by
  intro cdv A outer s H E hr
  exact (kss_one (ks_ret ke_str))
theorem q_Limit_class_name (E0 : Ws K mg) {f : Addr}  : BodyQ P w K mg base 0 N_Limit_class_name "Limit.class_name" (defScope st_Limit_class_name) f (defBody st_Limit_class_name) (ws b_Limit_class_name) := by
  intro cdv A outer s H E hr
  exact (kss_one (ks_ret ke_str))
theorem q_Delay_class_name (E0 : Ws K mg) {f : Addr}  : BodyQ P w K mg base 0 N_Delay_class_name "Delay.class_name" (defScope st_Delay_class_name) f (defBody st_Delay_class_name) (ws b_Delay_class_name) := by
  intro cdv A outer s H E hr
  exact (kss_one (ks_ret ke_str))
theorem q_Thing___eq___0 (E0 : Ws K mg) {f : Addr} (ME_class_name_Last_First_Limit_Delay : ∀ q ∈ TFs [("Last", F_Last_class_name), ("First", F_First_class_name), ("Limit", F_Limit_class_name), ("Delay", F_Delay_class_name)], MeT P w K mg base 1 q.1 "class_name" ["self"] q.2) (ME_facts_Last_First_Limit_Delay : ∀ q ∈ TFs [("Last", F_Member_facts), ("First", F_Member_facts), ("Limit", F_Member_facts), ("Delay", F_Delay_facts)], MeT P w K mg base 1 q.1 "facts" ["self"] q.2) : BodyQ P w K mg base 1 N_Thing___eq___0 "Thing.__eq__" (defScope st_Thing___eq___0) f (defBody st_Thing___eq___0) (ws b_Thing___eq___0) := by
  intro cdv A outer s H E hr
  exact (kss_cons (ks_if (PW.pt (kw_or (kt_not (kt_val (ke_isi E0.ct (by decide +kernel) (E0.b_isinstance) (ko (ke_var 1)) (pcn_own E0.g_Thing)))) (kw_or1 ((kc_ne hr.units (ko (QE.le (qe_meth0 (ko (ke_var 0)) ME_class_name_Last_First_Limit_Delay (hr.mono (by decide)) (takes_of rfl rfl rfl rfl)) leMeth0)) (ko (QE.le (qe_meth0 (ko (ke_var 1)) ME_class_name_Last_First_Limit_Delay (hr.mono (by decide)) (takes_of rfl rfl rfl rfl)) leMeth0))).t _))))
     (kss_one (ks_ret ke_bl))
     kss_nil)
    (kss_one (ks_ret ((kc_eq hr.units (ko (QE.le (qe_meth0 (ko (ke_var 0)) ME_facts_Last_First_Limit_Delay (hr.mono (by decide)) (takes_of rfl rfl rfl rfl)) leMeth0)) (ko (QE.le (qe_meth0 (ko (ke_var 1)) ME_facts_Last_First_Limit_Delay (hr.mono (by decide)) (takes_of rfl rfl rfl rfl)) leMeth0))).e _))))
theorem q_Row_facts (E0 : Ws K mg) {f : Addr}  : BodyQ P w K mg base 0 N_Row_facts "Row.facts" (defScope st_Row_facts) f (defBody st_Row_facts) (ws b_Row_facts) := by
  intro cdv A outer s H E hr
  exact (kss_one (ks_ret (ke_tup (ka_cons (ko (ke_fld E0.ct (ko (ke_var 0)))) ka_nil))))
theorem q_Bus_facts (E0 : Ws K mg) {f : Addr}  : BodyQ P w K mg base 0 N_Bus_facts "Bus.facts" (defScope st_Bus_facts) f (defBody st_Bus_facts) (ws b_Bus_facts) := by
  intro cdv A outer s H E hr
  exact (kss_one (ks_ret (ke_tup (ka_cons (ko (ke_fld E0.ct (ko (ke_var 0)))) ka_nil))))
theorem q_Train_facts (E0 : Ws K mg) {f : Addr}  : BodyQ P w K mg base 0 N_Train_facts "Train.facts" (defScope st_Train_facts) f (defBody st_Train_facts) (ws b_Train_facts) := by
  intro cdv A outer s H E hr
  exact (kss_one (ks_ret (ke_tup (ka_cons (ko (ke_fld E0.ct (ko (ke_var 0)))) (ka_cons (ko (ke_fld E0.ct (ko (ke_var 0)))) (ka_cons (ko (ke_fld E0.ct (ko (ke_var 0)))) (ka_cons (ko (ke_fld E0.ct (ko (ke_var 0)))) (ka_cons (ko (ke_fld E0.ct (ko (ke_var 0)))) ka_nil))))))))
theorem q_Row_class_name (E0 : Ws K mg) {f : Addr}  : BodyQ P w K mg base 0 N_Row_class_name "Row.class_name" (defScope st_Row_class_name) f (defBody st_Row_class_name) (ws b_Row_class_name) := by
  intro cdv A outer s H E hr
  exact (kss_one (ks_ret ke_str))
theorem q_Bus_class_name (E0 : Ws K mg) {f : Addr}  : BodyQ P w K mg base 0 N_Bus_class_name "Bus.class_name" (defScope st_Bus_class_name) f (defBody st_Bus_class_name) (ws b_Bus_class_name) := by
  intro cdv A outer s H E hr
  exact (kss_one (ks_ret ke_str))
theorem q_Train_class_name (E0 : Ws K mg) {f : Addr}  : BodyQ P w K mg base 0 N_Train_class_name "Train.class_name" (defScope st_Train_class_name) f (defBody st_Train_class_name) (ws b_Train_class_name) := by
  intro cdv A outer s H E hr
  exact (kss_one (ks_ret ke_str))
theorem q_Thing___eq___1 (E0 : Ws K mg) {f : Addr} (ME___eq___0_Last_First_Limit_Delay : ∀ q ∈ TFs [("Last", F_Thing___eq___0), ("First", F_Thing___eq___0), ("Limit", F_Thing___eq___0), ("Delay", F_Thing___eq___0)], MeT P w K mg base 2 q.1 "__eq__" ["self", "other"] q.2) (ME_class_name_Last_First_Limit_Delay_Row_Bus_Train : ∀ q ∈ TFs [("Last", F_Last_class_name), ("First", F_First_class_name), ("Limit", F_Limit_class_name), ("Delay", F_Delay_class_name), ("Row", F_Row_class_name), ("Bus", F_Bus_class_name), ("Train", F_Train_class_name)], MeT P w K mg base 1 q.1 "class_name" ["self"] q.2) (ME_facts_Last_First_Limit_Delay_Row_Bus_Train : ∀ q ∈ TFs [("Last", F_Member_facts), ("First", F_Member_facts), ("Limit", F_Member_facts), ("Delay", F_Delay_facts), ("Row", F_Row_facts), ("Bus", F_Bus_facts), ("Train", F_Train_facts)], MeT P w K mg base 1 q.1 "facts" ["self"] q.2) : BodyQ P w K mg base 8 N_Thing___eq___1 "Thing.__eq__" (defScope st_Thing___eq___1) f (defBody st_Thing___eq___1) (ws b_Thing___eq___1) := by
  intro cdv A outer s H E hr
  exact (kss_cons (ks_if (PW.pt (kw_or (kt_not (kt_val (ke_isi E0.ct (by decide +kernel) (E0.b_isinstance) (ko (ke_var 1)) (pcn_own E0.g_Thing)))) (kw_or1 ((kc_ne hr.units (ko (QE.le (qe_meth0 (ko (ke_var 0)) ME_class_name_Last_First_Limit_Delay_Row_Bus_Train (hr.mono (by decide)) (takes_of rfl rfl rfl rfl)) leMeth0)) (ko (QE.le (qe_meth0 (ko (ke_var 1)) ME_class_name_Last_First_Limit_Delay_Row_Bus_Train (hr.mono (by decide)) (takes_of rfl rfl rfl rfl)) leMeth0))).t _))))
     (kss_one (ks_ret ke_bl))
     kss_nil)
    (kss_one (ks_ret (by exact (ke_eqO (cs := eq0) (F := F_Thing___eq___0) (k := 2) E0.ct E0.oq0 ME___eq___0_Last_First_Limit_Delay (hr.mono (by decide)) (ko (QE.le (qe_meth0 (ko (ke_var 0)) ME_facts_Last_First_Limit_Delay_Row_Bus_Train (hr.mono (by decide)) (takes_of rfl rfl rfl rfl)) leMeth0)) (ko (QE.le (qe_meth0 (ko (ke_var 1)) ME_facts_Last_First_Limit_Delay_Row_Bus_Train (hr.mono (by decide)) (takes_of rfl rfl rfl rfl)) leMeth0)))))))
theorem q__law_digit (E0 : Ws K mg) {f : Addr}  : BodyQ P w K mg base 0 N__law_digit "_law_digit" (defScope st__law_digit) f (defBody st__law_digit) (ws b__law_digit) := by
  intro cdv A outer s H E hr
  exact (kss_cons (ks_if ((kc_gt (ko (ke_ix (ko_var 0) (ko ke_int) (fun _ _ => rfl))) (ko ke_int)).t _)
     (kss_cons (ks_set (i := 2) sc__law_digit.nd rfl (Or.inl rfl) (ke_mod (ko (ke_intc (E0.b_int) (ko (ke_ix (ko_var 0) (ko ke_int) (fun _ _ => rfl))))) (ko (ke_var 1))))
    (kss_cons (QS.le (qs_setix 0 (ke_div (ko (ke_ix (ko_var 0) (ko ke_int) (fun _ _ => rfl))) (ko (ke_var 1))) ke_int) leSetIx)
    (kss_one (ks_ret (ke_var 2)))))
     kss_nil)
    (kss_cons (ks_set (i := 3) sc__law_digit.nd rfl (Or.inl rfl) (ke_mul (ko (ke_ix (ko_var 0) (ko ke_int) (fun _ _ => rfl))) (ko (ke_add (ko (ke_div (ko (ke_ix (ko_var 0) (ko ke_int) (fun _ _ => rfl))) (ko ke_int))) (ko ke_int)))))
    (kss_cons (QS.le (qs_setix 0 (ke_add (ko (ke_mod (ko (ke_intc (E0.b_int) (ko (ke_add (ko (ke_var 3)) (ko (ke_ix (ko_var 0) (ko ke_int) (fun _ _ => rfl))))))) (ko ke_int))) (ko ke_int)) ke_int) leSetIx)
    (kss_one (ks_ret (ke_mod (ko (ke_intc (E0.b_int) (ko (ke_div (ko (ke_ix (ko_var 0) (ko ke_int) (fun _ _ => rfl))) (ko ke_int))))) (ko (ke_var 1))))))))
theorem q_member_text (E0 : Ws K mg) {f : Addr} (ME_class_name_Last_First_Limit_Delay : ∀ q ∈ TFs [("Last", F_Last_class_name), ("First", F_First_class_name), ("Limit", F_Limit_class_name), ("Delay", F_Delay_class_name)], MeT P w K mg base 1 q.1 "class_name" ["self"] q.2) (ME_facts_Last_First_Limit_Delay : ∀ q ∈ TFs [("Last", F_Member_facts), ("First", F_Member_facts), ("Limit", F_Member_facts), ("Delay", F_Delay_facts)], MeT P w K mg base 1 q.1 "facts" ["self"] q.2) : BodyQ P w K mg base 1 N_member_text "member_text" (defScope st_member_text) f (defBody st_member_text) (ws b_member_text) := by
  intro cdv A outer s H E hr
  exact (kss_one (ks_ret (ke_add (ko (ke_add (ko (QE.le (qe_meth0 (ko (ke_var 0)) ME_class_name_Last_First_Limit_Delay (hr.mono (by decide)) (takes_of rfl rfl rfl rfl)) leMeth0)) (ko ke_str))) (ko (ke_strI (E0.b_str) (ko (ke_ix (ko (QE.le (qe_meth0 (ko (ke_var 0)) ME_facts_Last_First_Limit_Delay (hr.mono (by decide)) (takes_of rfl rfl rfl rfl)) leMeth0)) (ko ke_int) (fun _ _ => rfl))))))))
theorem q_row_text (E0 : Ws K mg) {f : Addr} (ME___eq___0_Last_First_Limit_Delay : ∀ q ∈ TFs [("Last", F_Thing___eq___0), ("First", F_Thing___eq___0), ("Limit", F_Thing___eq___0), ("Delay", F_Thing___eq___0)], MeT P w K mg base 2 q.1 "__eq__" ["self", "other"] q.2) (H_member_text : FnT P w K mg base 2 "member_text" ["member"] (TF F_member_text)) : BodyQ P w K mg base 8 N_row_text "row_text" (defScope st_row_text) f (defBody st_row_text) (ws b_row_text) := by
  intro cdv A outer s H E hr
  exact (kss_cons (ks_if (kt_eqO (cs := eq0) (F := F_Thing___eq___0) (k := 2) E0.ct E0.oq0 ME___eq___0_Last_First_Limit_Delay (hr.mono (by decide)) (ko (ke_fld E0.ct (ko (ke_var 0)))) (ko (ke_tup ka_nil)))
     (kss_one (ks_ret (ke_globS E0.c_ALL)))
     kss_nil)
    (kss_one (ks_ret (ke_join (ko ke_str) (ko (knew (QF.le (qf_lc (own := [("member", 1)]) (tu := false) rfl sc_row_text.nd (ki_seq (ke_fld E0.ct (ko (ke_var 0)))) (blkOk_by (by kernel_rfl)) (fun _ _ _ _ _ => (pg_name (i := 1) sc_row_text.nd rfl (Or.inl rfl))) (fun _ _ _ _ _ => kts_nil) (fun _ _ _ _ _ => (QE.le (qe_call H_member_text (hr.mono (by decide)) takes0 (ka_cons (ko (ke_var 1)) ka_nil)) leCall))) leLc)))))))
theorem q_is_number (E0 : Ws K mg) {f : Addr}  : BodyQ P w K mg base 0 N_is_number "is_number" (defScope st_is_number) f (defBody st_is_number) (ws b_is_number) := by
  intro cdv A outer s H E hr
  exact (kss_one (ks_ret (ke_and (ke_isi E0.ct (by decide +kernel) (E0.b_isinstance) (ko (ke_var 0)) (pcn_ty (E0.b_int) (by decide +kernel))) (ke_one (ke_not (ke_isi E0.ct (by decide +kernel) (E0.b_isinstance) (ko (ke_var 0)) (pcn_ty (E0.b_bool) (by decide +kernel))))))))
theorem q_check_stream (E0 : Ws K mg) {f : Addr} (H_is_number : FnT P w K mg base 1 "is_number" ["thing"] (TF F_is_number)) : BodyQ P w K mg base 1 N_check_stream "check_stream" (defScope st_check_stream) f (defBody st_check_stream) (ws b_check_stream) := by
  intro cdv A outer s H E hr
  exact (kss_cons (ks_if (kt_not (kt_val (ke_isiT E0.ct (by decide +kernel) (by decide) (E0.b_isinstance) (ko (ke_var 0)) (.cons (pcn_ty (E0.b_list) (by decide +kernel)) rfl (.cons (pcn_ty (E0.b_tuple) (by decide +kernel)) rfl .nil)))))
     (kss_one (QS.le (qs_raise_place rfl E0.x_BadStream hr (takes_of rfl rfl rfl rfl) (ke_neg (ko ke_int))) leRaise))
     kss_nil)
    (kss_one (ks_for (passes_of rfl) rfl (ki_enum (E0.b_enumerate) (ke_var 0)) (kg_tup rfl (kgs_cons (kg_name (i := 1) sc_check_stream.nd rfl (Or.inl rfl)) (kgs_cons (kg_name (i := 2) sc_check_stream.nd rfl (Or.inl rfl)) kgs_nil)))
     (kss_kil [1, 2] (kss_one (ks_if (PW.pt (kw_or (kt_not (kt_val (QE.le (qe_call H_is_number (hr.mono (by decide)) (takes_of rfl rfl rfl rfl) (ka_cons (ko (ke_var 2)) ka_nil)) leCall))) (kw_or1 (PW.pt (kw_and ((kc_gt (ko (ke_var 1)) (ko ke_int)).t _) (kw_and1 ((kc_le (ko (ke_var 2)) (ko (ke_ix (ko (ke_var 0)) (ko (ke_sub (ko (ke_var 1)) (ko ke_int))) (fun _ _ => rfl)))).t _)))))))
     (kss_one (QS.le (qs_raise_place rfl E0.x_BadStream hr (takes_of rfl rfl rfl rfl) (ke_var 1)) leRaise))
     kss_nil))))))
theorem q_stream_text (E0 : Ws K mg) {f : Addr} (H_check_stream : FnT P w K mg base 2 "check_stream" ["stream"] (TF F_check_stream)) : BodyQ P w K mg base 2 N_stream_text "stream_text" (defScope st_stream_text) f (defBody st_stream_text) (ws b_stream_text) := by
  intro cdv A outer s H E hr
  exact (kss_cons (ks_expr (ko (QE.le (qe_call H_check_stream (hr.mono (by decide)) (takes_of rfl rfl rfl rfl) (ka_cons (ko (ke_var 0)) ka_nil)) leCall)))
    (kss_one (ks_ret (ke_if ((kc_gt (ko (ke_len (E0.b_len) (ko (ke_var 0)))) (ko ke_int)).t _) (ke_join (ko ke_str) (ko (knew (QF.le (qf_lc (own := [("time", 1)]) (tu := false) rfl sc_stream_text.nd (ki_seq (ke_var 0)) (blkOk_by (by kernel_rfl)) (fun _ _ _ _ _ => (pg_name (i := 1) sc_stream_text.nd rfl (Or.inl rfl))) (fun _ _ _ _ _ => kts_nil) (fun _ _ _ _ _ => (ke_strI (E0.b_str) (ko (ke_var 1))))) leLc)))) (ke_globS E0.c_NONE)))))
theorem q_bus_text (E0 : Ws K mg) {f : Addr} (H_member_text : FnT P w K mg base 2 "member_text" ["member"] (TF F_member_text)) : BodyQ P w K mg base 2 N_bus_text "bus_text" (defScope st_bus_text) f (defBody st_bus_text) (ws b_bus_text) := by
  intro cdv A outer s H E hr
  exact (kss_one (ks_ret (ke_join (ko ke_str) (ko (knew (QF.le (qf_lc (own := [("step", 1)]) (tu := false) rfl sc_bus_text.nd (ki_seq (ke_fld E0.ct (ko (ke_var 0)))) (blkOk_by (by kernel_rfl)) (fun _ _ _ _ _ => (pg_name (i := 1) sc_bus_text.nd rfl (Or.inl rfl))) (fun _ _ _ _ _ => kts_nil) (fun _ _ _ _ _ => (ke_if (kt_val (ke_isi E0.ct (by decide +kernel) (E0.b_isinstance) (ko (ke_var 1)) (pcn_ty (E0.b_str) (by decide +kernel)))) (ke_var 1) (QE.le (qe_call H_member_text (hr.mono (by decide)) takes0 (ka_cons (ko (ke_var 1)) ka_nil)) leCall)))) leLc))))))
theorem q_gaps_text (E0 : Ws K mg) {f : Addr}  : BodyQ P w K mg base 0 N_gaps_text "gaps_text" (defScope st_gaps_text) f (defBody st_gaps_text) (ws b_gaps_text) := by
  intro cdv A outer s H E hr
  exact (kss_one (ks_ret (ke_if ((kc_gt (ko (ke_len (E0.b_len) (ko (ke_var 0)))) (ko ke_int)).t _) (ke_join (ko ke_str) (ko (knew (QF.le (qf_lc (own := [("gap", 1)]) (tu := false) rfl sc_gaps_text.nd (ki_seq (ke_var 0)) (blkOk_by (by kernel_rfl)) (fun _ _ _ _ _ => (pg_name (i := 1) sc_gaps_text.nd rfl (Or.inl rfl))) (fun _ _ _ _ _ => kts_nil) (fun _ _ _ _ _ => (ke_strI (E0.b_str) (ko (ke_var 1))))) leLc)))) (ke_globS E0.c_NONE))))
theorem q_train_text (E0 : Ws K mg) {f : Addr} (H_gaps_text : FnT P w K mg base 1 "gaps_text" ["gaps"] (TF F_gaps_text)) : BodyQ P w K mg base 1 N_train_text "train_text" (defScope st_train_text) f (defBody st_train_text) (ws b_train_text) := by
  intro cdv A outer s H E hr
  exact (kss_cons (ks_set (i := 1) sc_train_text.nd rfl (Or.inl rfl) (knew (kf_lst (ka_cons (ko (ke_strI (E0.b_str) (ko (ke_fld E0.ct (ko (ke_var 0)))))) (ka_cons (ko (QE.le (qe_call H_gaps_text (hr.mono (by decide)) (takes_of rfl rfl rfl rfl) (ka_cons (ko (ke_fld E0.ct (ko (ke_var 0)))) ka_nil)) leCall)) (ka_cons (ko (QE.le (qe_call H_gaps_text (hr.mono (by decide)) (takes_of rfl rfl rfl rfl) (ka_cons (ko (ke_fld E0.ct (ko (ke_var 0)))) ka_nil)) leCall)) (ka_cons (ko (ke_strI (E0.b_str) (ko (ke_fld E0.ct (ko (ke_var 0)))))) (ka_cons (ko (QE.le (qe_call H_gaps_text (hr.mono (by decide)) (takes_of rfl rfl rfl rfl) (ka_cons (ko (ke_fld E0.ct (ko (ke_var 0)))) ka_nil)) leCall)) ka_nil))))))))
    (kss_one (ks_ret (ke_join (ko ke_str) (ko (ke_var 1))))))
theorem q_check_string (E0 : Ws K mg) {f : Addr}  : BodyQ P w K mg base 0 N_check_string "check_string" (defScope st_check_string) f (defBody st_check_string) (ws b_check_string) := by
  intro cdv A outer s H E hr
  exact (kss_one (ks_if (kt_not (kt_val (ke_isi E0.ct (by decide +kernel) (E0.b_isinstance) (ko (ke_var 0)) (pcn_ty (E0.b_str) (by decide +kernel)))))
     (kss_one (QS.le (qs_raise_place rfl E0.x_BadText hr (takes_of rfl rfl rfl rfl) ke_int) leRaise))
     kss_nil))
theorem q_is_figures (E0 : Ws K mg) {f : Addr}  : BodyQ P w K mg base 0 N_is_figures "is_figures" (defScope st_is_figures) f (defBody st_is_figures) (ws b_is_figures) := by
  intro cdv A outer s H E hr
  exact (kss_cons (ks_if (PW.pt (kw_or (kt_not (kt_chain ic_le ic_le (ko ke_int) (ko (ke_lenS (E0.b_len) (ko (ke_var 0)))) (ko (ke_globI E0.c_MOST_FIGURES)))) (kw_or1 (kt_not (kt_val (ke_all rfl (E0.b_all) (ko (knew (QF.le (qf_lc (own := [("sign", 1)]) (tu := false) rfl sc_is_figures.nd (ki_str (ke_var 0)) (blkOk_by (by kernel_rfl)) (fun _ _ _ _ _ => (pg_name (i := 1) sc_is_figures.nd rfl (Or.inl rfl))) (fun _ _ _ _ _ => kts_nil) (fun _ _ _ _ _ => ((kc_in hr.u65 (ko (ke_var 1)) (ko (ke_globS E0.c_FIGURES))).e _))) leLc)))))))))
     (kss_one (ks_ret ke_bl))
     kss_nil)
    (kss_one (ks_ret (ke_or ((kc_eq hr.units (ko (ke_var 0)) (ko ke_str)).e _) (ke_one ((kc_ne hr.units (ko (ke_ixS (ko (ke_var 0)) (ko ke_int) (fun _ _ => rfl))) (ko ke_str)).e _))))))
theorem q_read_number (E0 : Ws K mg) {f : Addr} (H_is_figures : FnT P w K mg base 1 "is_figures" ["text"] (TF F_is_figures)) : BodyQ P w K mg base 1 N_read_number "read_number" (defScope st_read_number) f (defBody st_read_number) (ws b_read_number) := by
  intro cdv A outer s H E hr
  exact (kss_cons (ks_set (i := 2) sc_read_number.nd rfl (Or.inl rfl) ((kc_eq hr.units (ko (ke_slS (ko (ke_var 0)) kp_none (kp_some ke_int))) (ko ke_str)).e _))
    (kss_cons (ks_set (i := 3) sc_read_number.nd rfl (Or.inl rfl) (ke_if (kt_val (ke_var 2)) (ke_slS (ko (ke_var 0)) (kp_some ke_int) kp_none) (ke_var 0)))
    (kss_cons (ks_if (PW.pt (kw_or (kt_not (kt_val (QE.le (qe_call H_is_figures (hr.mono (by decide)) (takes_of rfl rfl rfl rfl) (ka_cons (ko (ke_var 3)) ka_nil)) leCall))) (kw_or1 (PW.pt (kw_and (kt_val (ke_var 2)) (kw_and1 ((kc_eq hr.units (ko (ke_var 3)) (ko ke_str)).t _)))))))
     (kss_one (QS.le (qs_raise_place rfl E0.x_BadText hr (takes_of rfl rfl rfl rfl) (ke_var 1)) leRaise))
     kss_nil)
    (kss_one (ks_ret (ke_intT (E0.b_int) (ko (ke_var 0))))))))
theorem q_pair_from (E0 : Ws K mg) {f : Addr} (H_read_number : FnT P w K mg base 2 "read_number" ["text", "place"] (TF F_read_number)) : BodyQ P w K mg base 2 N_pair_from "pair_from" (defScope st_pair_from) f (defBody st_pair_from) (ws b_pair_from) := by
  intro cdv A outer s H E hr
  exact (kss_cons (ks_asg (ke_part (ko (ke_var 0)) (ko ke_str)) (kg_tup rfl (kgs_cons (kg_name (i := 2) sc_pair_from.nd rfl (Or.inl rfl)) (kgs_cons (kg_name (i := 3) sc_pair_from.nd rfl (Or.inl rfl)) (kgs_cons (kg_name (i := 4) sc_pair_from.nd rfl (Or.inl rfl)) kgs_nil)))))
    (kss_cons (ks_if ((kc_notin hr.u65 (ko (ke_var 2)) (ko (ke_tup (ka_cons (ko ke_str) (ka_cons (ko ke_str) (ka_cons (ko ke_str) (ka_cons (ko ke_str) ka_nil))))))).t _)
     (kss_one (QS.le (qs_raise_place rfl E0.x_BadText hr (takes_of rfl rfl rfl rfl) (ke_var 1)) leRaise))
     kss_nil)
    (kss_one (ks_ret (ke_tup (ka_cons (ko (ke_var 2)) (ka_cons (ko (QE.le (qe_call H_read_number (hr.mono (by decide)) (takes_of rfl rfl rfl rfl) (ka_cons (ko (ke_var 4)) (ka_cons (ko (ke_var 1)) ka_nil))) leCall)) ka_nil)))))))
theorem q_Member___init__ (E0 : Ws K mg) {f : Addr} (H_is_number : FnT P w K mg base 1 "is_number" ["thing"] (TF F_is_number)) : BodyQ P w K mg base 1 N_Member___init__ "Member.__init__" (defScope st_Member___init__) f (defBody st_Member___init__) (ws b_Member___init__) := by
  intro cdv A outer s H E hr
  exact (kss_cons (QS.le (qs_fld 0 E0.ct (ke_var 1)) leFld)
    (kss_one (ks_if (PW.pt (kw_or (kt_not (kt_val (QE.le (qe_call H_is_number (hr.mono (by decide)) (takes_of rfl rfl rfl rfl) (ka_cons (ko (ke_var 1)) ka_nil)) leCall))) (kw_or1 ((kc_lt (ko (ke_var 1)) (ko ke_int)).t _))))
     (kss_one (QS.le (qs_raise_what rfl E0.x_BadMember hr (takes_of rfl rfl rfl rfl) ke_str) leRaise))
     kss_nil)))
theorem q_Delay___init__ (E0 : Ws K mg) {f : Addr} (H_is_number : FnT P w K mg base 1 "is_number" ["thing"] (TF F_is_number)) : BodyQ P w K mg base 1 N_Delay___init__ "Delay.__init__" (defScope st_Delay___init__) f (defBody st_Delay___init__) (ws b_Delay___init__) := by
  intro cdv A outer s H E hr
  exact (kss_cons (QS.le (qs_fld 0 E0.ct (ke_var 1)) leFld)
    (kss_one (ks_if (PW.pt (kw_or (kt_not (kt_val (QE.le (qe_call H_is_number (hr.mono (by decide)) (takes_of rfl rfl rfl rfl) (ka_cons (ko (ke_var 1)) ka_nil)) leCall))) (kw_or1 ((kc_lt (ko (ke_var 1)) (ko ke_int)).t _))))
     (kss_one (QS.le (qs_raise_what rfl E0.x_BadMember hr (takes_of rfl rfl rfl rfl) ke_str) leRaise))
     kss_nil)))
theorem q_member_from (E0 : Ws K mg) {f : Addr} (M_Delay : MkT P w K mg base 2 "Delay" ["self", "d"] (TF F_Delay___init__)) (M_First : MkT P w K mg base 2 "First" ["self", "q"] (TF F_Member___init__)) (M_Last : MkT P w K mg base 2 "Last" ["self", "q"] (TF F_Member___init__)) (M_Limit : MkT P w K mg base 2 "Limit" ["self", "q"] (TF F_Member___init__)) : BodyQ P w K mg base 3 N_member_from "member_from" (defScope st_member_from) f (defBody st_member_from) (ws b_member_from) := by
  intro cdv A outer s H E hr
  exact (kss_cons (ks_if ((kc_eq hr.units (ko (ke_var 0)) (ko ke_str)).t _)
     (kss_one (ks_ret (knew (QF.le (qf_make M_Last (hr.mono (by decide)) (takes_of rfl rfl rfl rfl) (ka_cons (ko (ke_var 1)) ka_nil)) leMake1))))
     kss_nil)
    (kss_cons (ks_if ((kc_eq hr.units (ko (ke_var 0)) (ko ke_str)).t _)
     (kss_one (ks_ret (knew (QF.le (qf_make M_First (hr.mono (by decide)) (takes_of rfl rfl rfl rfl) (ka_cons (ko (ke_var 1)) ka_nil)) leMake1))))
     kss_nil)
    (kss_one (ks_ret (ke_if ((kc_eq hr.units (ko (ke_var 0)) (ko ke_str)).t _) (knew (QF.le (qf_make M_Limit (hr.mono (by decide)) (takes_of rfl rfl rfl rfl) (ka_cons (ko (ke_var 1)) ka_nil)) leMake1)) (knew (QF.le (qf_make M_Delay (hr.mono (by decide)) (takes_of rfl rfl rfl rfl) (ka_cons (ko (ke_var 1)) ka_nil)) leMake1)))))))
theorem q_read_row (E0 : Ws K mg) {f : Addr} (M_Row : MkT P w K mg base 2 "Row" ["self", "members"] (TF F_Row___init__)) (H_check_string : FnT P w K mg base 1 "check_string" ["text"] (TF F_check_string)) (H_member_from : FnT P w K mg base 4 "member_from" ["kind", "number"] (TF F_member_from)) (H_pair_from : FnT P w K mg base 3 "pair_from" ["text", "place"] (TF F_pair_from)) : BodyQ P w K mg base 4 N_read_row "read_row" (defScope st_read_row) f (defBody st_read_row) (ws b_read_row) := by
  intro cdv A outer s H E hr
  exact (kss_cons (ks_expr (ko (QE.le (qe_call H_check_string (hr.mono (by decide)) (takes_of rfl rfl rfl rfl) (ka_cons (ko (ke_var 0)) ka_nil)) leCall)))
    (kss_cons (ks_if ((kc_eq hr.units (ko (ke_var 0)) (ko (ke_globS E0.c_ALL))).t _)
     (kss_one (ks_ret (knew (QF.le (qf_make M_Row (hr.mono (by decide)) (takes_of rfl rfl rfl rfl) (ka_cons (ko (knew (kf_lst ka_nil))) ka_nil)) leMake1))))
     kss_nil)
    (kss_cons (QS.le (qs_imLc (qs_le leLc (qs_setLc (i := 1) (own := [("place", 2), ("part", 3)]) (tu := true) rfl sc_read_row.nd rfl rfl (sw_true rfl rfl rfl (by decide +kernel)) (ki_enum (E0.b_enumerate) (knew (kf_split (ko (ke_var 0)) (ko ke_str)))) (blkOk_by (by kernel_rfl)) (fun _ _ _ _ _ => (pg_tul rfl (pgs_cons (pg_name (i := 2) sc_read_row.nd rfl (Or.inl rfl)) (pgs_cons (pg_name (i := 3) sc_read_row.nd rfl (Or.inl rfl)) pgs_nil)))) (fun _ _ _ _ _ => kts_nil) (fun _ _ _ _ _ => (QE.le (qe_call H_pair_from (hr.mono (by decide)) takes0 (ka_cons (ko (ke_var 3)) (ka_cons (ko (ke_var 2)) ka_nil))) leCall))))) leAsgN)
    (kss_one (ks_ret (knew (QF.le (qf_make M_Row (hr.mono (by decide)) (takes_of rfl rfl rfl rfl) (ka_cons (ko (knew (QF.le (qf_lc (own := [("kind", 4), ("number", 5)]) (tu := true) rfl sc_read_row.nd (ki_seq (ke_var 1)) (blkOk_by (by kernel_rfl)) (fun _ _ _ _ _ => (pg_tul rfl (pgs_cons (pg_name (i := 4) sc_read_row.nd rfl (Or.inl rfl)) (pgs_cons (pg_name (i := 5) sc_read_row.nd rfl (Or.inl rfl)) pgs_nil)))) (fun _ _ _ _ _ => kts_nil) (fun _ _ _ _ _ => (QE.le (qe_call H_member_from (hr.mono (by decide)) takes0 (ka_cons (ko (ke_var 4)) (ka_cons (ko (ke_var 5)) ka_nil))) leCall))) leLc))) ka_nil)) leMake1)))))))
theorem q_is_name (E0 : Ws K mg) {f : Addr}  : BodyQ P w K mg base 0 N_is_name "is_name" (defScope st_is_name) f (defBody st_is_name) (ws b_is_name) := by
  intro cdv A outer s H E hr
  exact (kss_cons (ks_if (PW.pt (kw_or (kt_not (kt_val (ke_isi E0.ct (by decide +kernel) (E0.b_isinstance) (ko (ke_var 0)) (pcn_ty (E0.b_str) (by decide +kernel))))) (kw_or1 (kt_not (kt_chain ic_le ic_le (ko ke_int) (ko (ke_lenS (E0.b_len) (ko (ke_var 0)))) (ko (ke_globI E0.c_MOST_LETTERS)))))))
     (kss_one (ks_ret ke_bl))
     kss_nil)
    (kss_one (ks_ret (ke_all rfl (E0.b_all) (ko (knew (QF.le (qf_lc (own := [("letter", 1)]) (tu := false) rfl sc_is_name.nd (ki_str (ke_var 0)) (blkOk_by (by kernel_rfl)) (fun _ _ _ _ _ => (pg_name (i := 1) sc_is_name.nd rfl (Or.inl rfl))) (fun _ _ _ _ _ => kts_nil) (fun _ _ _ _ _ => ((kc_in hr.u65 (ko (ke_var 1)) (ko (ke_globS E0.c_LETTERS))).e _))) leLc)))))))
theorem q_Bus___init__ (E0 : Ws K mg) {f : Addr} (H_is_member : FnT P w K mg base 1 "is_member" ["thing"] (TF F_is_member)) (H_is_name : FnT P w K mg base 1 "is_name" ["thing"] (TF F_is_name)) : BodyQ P w K mg base 1 N_Bus___init__ "Bus.__init__" (defScope st_Bus___init__) f (defBody st_Bus___init__) (ws b_Bus___init__) := by
  intro cdv A outer s H E hr
  exact (kss_cons (ks_if (PW.pt (kw_or (kt_not (kt_val (ke_isiT E0.ct (by decide +kernel) (by decide) (E0.b_isinstance) (ko (ke_var 1)) (.cons (pcn_ty (E0.b_list) (by decide +kernel)) rfl (.cons (pcn_ty (E0.b_tuple) (by decide +kernel)) rfl .nil))))) (kw_or1 ((kc_eq hr.units (ko (ke_len (E0.b_len) (ko (ke_var 1)))) (ko ke_int)).t _))))
     (kss_one (QS.le (qs_raise_index rfl E0.x_BadBus hr (takes_of rfl rfl rfl rfl) (ke_neg (ko ke_int))) leRaise))
     kss_nil)
    (kss_cons (QS.le (qs_fld 0 E0.ct (ke_tuple (E0.b_tuple) (ko (ke_var 1)))) leFld)
    (kss_cons (ks_own (i := 2) sc_Bus___init__.nd rfl (Or.inl rfl) (kf_lst ka_nil))
    (kss_one (ks_for (passes_of rfl) rfl (ki_enum (E0.b_enumerate) (ke_fld E0.ct (ko_var 0))) (kg_tup rfl (kgs_cons (kg_name (i := 3) sc_Bus___init__.nd rfl (Or.inl rfl)) (kgs_cons (kg_name (i := 4) sc_Bus___init__.nd rfl (Or.inl rfl)) kgs_nil)))
     (kss_kil [3, 4] (kss_one (ks_if (PW.pt (kw_and (kt_val (QE.le (qe_call H_is_name (hr.mono (by decide)) (takes_of rfl rfl rfl rfl) (ka_cons (ko (ke_var 4)) ka_nil)) leCall)) (kw_and1 ((kc_notin hr.u65 (ko (ke_var 4)) (ko_var 2)).t _))))
     (kss_one (ks_expr (ko (QE.le (qe_om 2 PySem.F.slot_list_append PySem.F.type_list_append mt_append sem_append (ka_cons (ko (ke_var 4)) ka_nil)) (leOm hk_append fun _ _ _ h => h)))))
     (kss_one (ks_if (PW.pt (kw_or ((kc_eq hr.units (ko (ke_var 3)) (ko ke_int)).t _) (kw_or1 (kt_not (kt_val (QE.le (qe_call H_is_member (hr.mono (by decide)) (takes_of rfl rfl rfl rfl) (ka_cons (ko (ke_var 4)) ka_nil)) leCall))))))
     (kss_one (QS.le (qs_raise_index rfl E0.x_BadBus hr (takes_of rfl rfl rfl rfl) (ke_var 3)) leRaise))
     kss_nil))))))))))
theorem q_are_gaps (E0 : Ws K mg) {f : Addr} (H_is_number : FnT P w K mg base 1 "is_number" ["thing"] (TF F_is_number)) : BodyQ P w K mg base 1 N_are_gaps "are_gaps" (defScope st_are_gaps) f (defBody st_are_gaps) (ws b_are_gaps) := by
  intro cdv A outer s H E hr
  exact (kss_cons (ks_if (kt_not (kt_val (ke_isiT E0.ct (by decide +kernel) (by decide) (E0.b_isinstance) (ko (ke_var 0)) (.cons (pcn_ty (E0.b_list) (by decide +kernel)) rfl (.cons (pcn_ty (E0.b_tuple) (by decide +kernel)) rfl .nil)))))
     (kss_one (ks_ret ke_bl))
     kss_nil)
    (kss_one (ks_ret (ke_all rfl (E0.b_all) (ko (knew (QF.le (qf_lc (own := [("gap", 1)]) (tu := false) rfl sc_are_gaps.nd (ki_seq (ke_var 0)) (blkOk_by (by kernel_rfl)) (fun _ _ _ _ _ => (pg_name (i := 1) sc_are_gaps.nd rfl (Or.inl rfl))) (fun _ _ _ _ _ => kts_nil) (fun _ _ _ _ _ => (ke_and (QE.le (qe_call H_is_number (hr.mono (by decide)) takes0 (ka_cons (ko (ke_var 1)) ka_nil)) leCall) (ke_one ((kc_ge (ko (ke_var 1)) (ko ke_int)).e _))))) leLc)))))))
theorem q_Train___init__ (E0 : Ws K mg) {f : Addr} (H_are_gaps : FnT P w K mg base 2 "are_gaps" ["thing"] (TF F_are_gaps)) (H_is_number : FnT P w K mg base 1 "is_number" ["thing"] (TF F_is_number)) : BodyQ P w K mg base 2 N_Train___init__ "Train.__init__" (defScope st_Train___init__) f (defBody st_Train___init__) (ws b_Train___init__) := by
  intro cdv A outer s H E hr
  exact (kss_cons (ks_if (kt_not (kt_val (QE.le (qe_call H_is_number (hr.mono (by decide)) (takes_of rfl rfl rfl rfl) (ka_cons (ko (ke_var 1)) ka_nil)) leCall)))
     (kss_one (QS.le (qs_raise_what rfl E0.x_BadTrain hr (takes_of rfl rfl rfl rfl) ke_str) leRaise))
     kss_nil)
    (kss_cons (ks_if (kt_not (kt_val (QE.le (qe_call H_are_gaps (hr.mono (by decide)) (takes_of rfl rfl rfl rfl) (ka_cons (ko (ke_var 2)) ka_nil)) leCall)))
     (kss_one (QS.le (qs_raise_what rfl E0.x_BadTrain hr (takes_of rfl rfl rfl rfl) ke_str) leRaise))
     kss_nil)
    (kss_cons (ks_if (kt_not (kt_val (QE.le (qe_call H_are_gaps (hr.mono (by decide)) (takes_of rfl rfl rfl rfl) (ka_cons (ko (ke_var 3)) ka_nil)) leCall)))
     (kss_one (QS.le (qs_raise_what rfl E0.x_BadTrain hr (takes_of rfl rfl rfl rfl) ke_str) leRaise))
     kss_nil)
    (kss_cons (ks_if (PW.pt (kw_or (kt_not (kt_val (QE.le (qe_call H_is_number (hr.mono (by decide)) (takes_of rfl rfl rfl rfl) (ka_cons (ko (ke_var 4)) ka_nil)) leCall))) (kw_or1 ((kc_lt (ko (ke_var 4)) (ko ke_int)).t _))))
     (kss_one (QS.le (qs_raise_what rfl E0.x_BadTrain hr (takes_of rfl rfl rfl rfl) ke_str) leRaise))
     kss_nil)
    (kss_cons (ks_if (kt_not (kt_val (QE.le (qe_call H_are_gaps (hr.mono (by decide)) (takes_of rfl rfl rfl rfl) (ka_cons (ko (ke_var 5)) ka_nil)) leCall)))
     (kss_one (QS.le (qs_raise_what rfl E0.x_BadTrain hr (takes_of rfl rfl rfl rfl) ke_str) leRaise))
     kss_nil)
    (kss_cons (QS.le (qs_fld 0 E0.ct (ke_var 1)) leFld)
    (kss_cons (QS.le (qs_fld 0 E0.ct (ke_tuple (E0.b_tuple) (ko (ke_var 2)))) leFld)
    (kss_cons (QS.le (qs_fld 0 E0.ct (ke_tuple (E0.b_tuple) (ko (ke_var 3)))) leFld)
    (kss_cons (QS.le (qs_fld 0 E0.ct (ke_var 4)) leFld)
    (kss_one (QS.le (qs_fld 0 E0.ct (ke_tuple (E0.b_tuple) (ko (ke_var 5)))) leFld)))))))))))
theorem q__law_spoken (E0 : Ws K mg) {f : Addr}  : BodyQ P w K mg base 0 N__law_spoken "_law_spoken" (defScope st__law_spoken) f (defBody st__law_spoken) (ws b__law_spoken) := by
  intro cdv A outer s H E hr
  exact (kss_one (ks_ret (ke_if ((kc_ne hr.units (ko (ke_var 0)) (ko (knew (kf_lst ka_nil)))).t _) (ke_join (ko ke_str) (ko (knew (QF.le (qf_lc (own := [("_law_number", 1)]) (tu := false) rfl sc__law_spoken.nd (ki_seq (ke_var 0)) (blkOk_by (by kernel_rfl)) (fun _ _ _ _ _ => (pg_name (i := 1) sc__law_spoken.nd rfl (Or.inl rfl))) (fun _ _ _ _ _ => kts_nil) (fun _ _ _ _ _ => (ke_strI (E0.b_str) (ko (ke_var 1))))) leLc)))) ke_str)))
theorem q_numbers_from (E0 : Ws K mg) {f : Addr} (H_read_number : FnT P w K mg base 2 "read_number" ["text", "place"] (TF F_read_number)) : BodyQ P w K mg base 2 N_numbers_from "numbers_from" (defScope st_numbers_from) f (defBody st_numbers_from) (ws b_numbers_from) := by
  intro cdv A outer s H E hr
  exact (kss_cons (ks_if ((kc_eq hr.units (ko (ke_var 0)) (ko (ke_globS E0.c_NONE))).t _)
     (kss_one (ks_retF (kf_lst ka_nil)))
     kss_nil)
    (kss_one (ks_retF (QF.le (qf_lc (own := [("at", 3), ("word", 4)]) (tu := true) rfl sc_numbers_from.nd (ki_enum (E0.b_enumerate) (knew (kf_split (ko (ke_var 0)) (ko ke_str)))) (blkOk_by (by kernel_rfl)) (fun _ _ _ _ _ => (pg_tul rfl (pgs_cons (pg_name (i := 3) sc_numbers_from.nd rfl (Or.inl rfl)) (pgs_cons (pg_name (i := 4) sc_numbers_from.nd rfl (Or.inl rfl)) pgs_nil)))) (fun _ _ _ _ _ => kts_nil) (fun _ _ _ _ _ => (QE.le (qe_call H_read_number (hr.mono (by decide)) takes0 (ka_cons (ko (ke_var 4)) (ka_cons (ko (ke_if (kt_val (ke_var 2)) (ke_var 3) (ke_var 1))) ka_nil))) leCall))) leLc))))
theorem q_read_stream (E0 : Ws K mg) {f : Addr} (H_check_stream : FnT P w K mg base 2 "check_stream" ["stream"] (TF F_check_stream)) (H_check_string : FnT P w K mg base 1 "check_string" ["text"] (TF F_check_string)) (H_numbers_from : FnT P w K mg base 3 "numbers_from" ["text", "place", "is_counted"] (TF F_numbers_from)) : BodyQ P w K mg base 3 N_read_stream "read_stream" (defScope st_read_stream) f (defBody st_read_stream) (ws b_read_stream) := by
  intro cdv A outer s H E hr
  exact (kss_cons (ks_expr (ko (QE.le (qe_call H_check_string (hr.mono (by decide)) (takes_of rfl rfl rfl rfl) (ka_cons (ko (ke_var 0)) ka_nil)) leCall)))
    (kss_cons (ks_set (i := 1) sc_read_stream.nd rfl (Or.inl rfl) (knew (QF.le (qf_call H_numbers_from (hr.mono (by decide)) (takes_of rfl rfl rfl rfl) (ka_cons (ko (ke_var 0)) (ka_cons (ko ke_int) (ka_cons (ko ke_bl) ka_nil)))) leCallO)))
    (kss_cons (ks_expr (ko (QE.le (qe_call H_check_stream (hr.mono (by decide)) (takes_of rfl rfl rfl rfl) (ka_cons (ko (ke_var 1)) ka_nil)) leCall)))
    (kss_one (ks_ret (ke_var 1))))))
theorem q__law_long_right (E0 : Ws K mg) {f : Addr} (ME___eq___1_Last_First_Limit_Delay_Row_Bus_Train : ∀ q ∈ TFs [("Last", F_Thing___eq___1), ("First", F_Thing___eq___1), ("Limit", F_Thing___eq___1), ("Delay", F_Thing___eq___1), ("Row", F_Thing___eq___1), ("Bus", F_Thing___eq___1), ("Train", F_Thing___eq___1)], MeT P w K mg base 9 q.1 "__eq__" ["self", "other"] q.2) (M_Bus : MkT P w K mg base 2 "Bus" ["self", "steps"] (TF F_Bus___init__)) (M_Delay : MkT P w K mg base 2 "Delay" ["self", "d"] (TF F_Delay___init__)) (M_First : MkT P w K mg base 2 "First" ["self", "q"] (TF F_Member___init__)) (M_Last : MkT P w K mg base 2 "Last" ["self", "q"] (TF F_Member___init__)) (M_Limit : MkT P w K mg base 2 "Limit" ["self", "q"] (TF F_Member___init__)) (M_Row : MkT P w K mg base 2 "Row" ["self", "members"] (TF F_Row___init__)) (M_Train : MkT P w K mg base 3 "Train" ["self", "first", "head", "block", "rounds", "end"] (TF F_Train___init__)) (H__law_digit : FnT P w K mg base 1 "_law_digit" ["_law_state_here", "_law_base"] (TF F__law_digit)) (H__law_spoken : FnT P w K mg base 1 "_law_spoken" ["_law_numbers"] (TF F__law_spoken)) (H_bus_text : FnT P w K mg base 3 "bus_text" ["bus"] (TF F_bus_text)) (H_read_row : FnT P w K mg base 5 "read_row" ["text"] (TF F_read_row)) (H_read_stream : FnT P w K mg base 4 "read_stream" ["text"] (TF F_read_stream)) (H_row_text : FnT P w K mg base 9 "row_text" ["row"] (TF F_row_text)) (H_stream_text : FnT P w K mg base 3 "stream_text" ["stream"] (TF F_stream_text)) (H_train_text : FnT P w K mg base 2 "train_text" ["train"] (TF F_train_text)) : BodyQ P w K mg base 15 N__law_long_right "_law_long_right" (defScope st__law_long_right) f (defBody st__law_long_right) (ws b__law_long_right) := by
  intro cdv A outer s H E hr
  exact (kss_cons (ks_set (i := 1) sc__law_long_right.nd rfl (Or.inl rfl) (ke_add (ko (ke_ix (ko (knew (kf_lst (ka_cons (ko (ke_pow (ko ke_int) (ko ke_int))) (ka_cons (ko (ke_pow (ko ke_int) (ko ke_int))) (ka_cons (ko (ke_pow (ko ke_int) (ko ke_int))) ka_nil)))))) (ko (QE.le (qe_call H__law_digit (hr.mono (by decide)) (takes_of rfl rfl rfl rfl) (ka_cons (ko_var 0) (ka_cons (ko ke_int) ka_nil))) leCall)) (fun _ _ => rfl))) (ko (QE.le (qe_call H__law_digit (hr.mono (by decide)) (takes_of rfl rfl rfl rfl) (ka_cons (ko_var 0) (ka_cons (ko (ke_pow (ko ke_int) (ko ke_int))) ka_nil))) leCall))))
    (kss_cons (ks_if ((kc_ne hr.units (ko (QE.le (qe_call H_row_text (hr.mono (by decide)) (takes_of rfl rfl rfl rfl) (ka_cons (ko (knew (QF.le (qf_make M_Row (hr.mono (by decide)) (takes_of rfl rfl rfl rfl) (ka_cons (ko (knew (kf_lst (ka_cons (ko (knew (QF.le (qf_make M_Last (hr.mono (by decide)) (takes_of rfl rfl rfl rfl) (ka_cons (ko (ke_var 1)) ka_nil)) leMake1))) (ka_cons (ko (knew (QF.le (qf_make M_Delay (hr.mono (by decide)) (takes_of rfl rfl rfl rfl) (ka_cons (ko ke_int) ka_nil)) leMake1))) ka_nil))))) ka_nil)) leMake1))) ka_nil)) leCall)) (ko (ke_add (ko (ke_add (ko ke_str) (ko (ke_strI (E0.b_str) (ko (ke_var 1)))))) (ko ke_str)))).t _)
     (kss_one (ks_ret ke_bl))
     kss_nil)
    (kss_cons (ks_if ((kc_ne hr.units (ko (QE.le (qe_call H_stream_text (hr.mono (by decide)) (takes_of rfl rfl rfl rfl) (ka_cons (ko (knew (kf_lst (ka_cons (ko (ke_sub (ko ke_int) (ko (ke_var 1)))) (ka_cons (ko (ke_var 1)) ka_nil))))) ka_nil)) leCall)) (ko (ke_add (ko (ke_add (ko (ke_strI (E0.b_str) (ko (ke_sub (ko ke_int) (ko (ke_var 1)))))) (ko ke_str))) (ko (ke_strI (E0.b_str) (ko (ke_var 1))))))).t _)
     (kss_one (ks_ret ke_bl))
     kss_nil)
    (kss_cons (ks_if ((kc_ne hr.units (ko (QE.le (qe_call H_bus_text (hr.mono (by decide)) (takes_of rfl rfl rfl rfl) (ka_cons (ko (knew (QF.le (qf_make M_Bus (hr.mono (by decide)) (takes_of rfl rfl rfl rfl) (ka_cons (ko (knew (kf_lst (ka_cons (ko ke_str) (ka_cons (ko (knew (QF.le (qf_make M_Limit (hr.mono (by decide)) (takes_of rfl rfl rfl rfl) (ka_cons (ko (ke_var 1)) ka_nil)) leMake1))) ka_nil))))) ka_nil)) leMake1))) ka_nil)) leCall)) (ko (ke_add (ko ke_str) (ko (ke_strI (E0.b_str) (ko (ke_var 1))))))).t _)
     (kss_one (ks_ret ke_bl))
     kss_nil)
    (kss_cons (ks_set (i := 2) sc__law_long_right.nd rfl (Or.inl rfl) (knew (kf_lst (ka_cons (ko (ke_strI (E0.b_str) (ko (ke_var 1)))) (ka_cons (ko ke_str) (ka_cons (ko (ke_strI (E0.b_str) (ko (ke_var 1)))) (ka_cons (ko (ke_strI (E0.b_str) (ko (ke_var 1)))) (ka_cons (ko ke_str) ka_nil))))))))
    (kss_cons (ks_if ((kc_ne hr.units (ko (QE.le (qe_call H_train_text (hr.mono (by decide)) (takes_of rfl rfl rfl rfl) (ka_cons (ko (knew (QF.le (qf_make M_Train (hr.mono (by decide)) (takes_of rfl rfl rfl rfl) (ka_cons (ko (ke_var 1)) (ka_cons (ko (knew (kf_lst ka_nil))) (ka_cons (ko (knew (kf_lst (ka_cons (ko (ke_var 1)) ka_nil)))) (ka_cons (ko (ke_var 1)) (ka_cons (ko (knew (kf_lst ka_nil))) ka_nil)))))) leMake1))) ka_nil)) leCall)) (ko (ke_join (ko ke_str) (ko (ke_var 2))))).t _)
     (kss_one (ks_ret ke_bl))
     kss_nil)
    (kss_cons (ks_set (i := 3) sc__law_long_right.nd rfl (Or.inl rfl) (knew (kf_listRgA rfl (E0.b_list) (E0.b_range) (ka_cons (ko (ke_sub (ko ke_int) (ko (QE.le (qe_call H__law_digit (hr.mono (by decide)) (takes_of rfl rfl rfl rfl) (ka_cons (ko_var 0) (ka_cons (ko ke_int) ka_nil))) leCall)))) (ka_cons (ko ke_int) ka_nil)))))
    (kss_cons (ks_if (PW.pt (kw_or ((kc_ne hr.units (ko (QE.le (qe_call H_stream_text (hr.mono (by decide)) (takes_of rfl rfl rfl rfl) (ka_cons (ko (ke_var 3)) ka_nil)) leCall)) (ko (QE.le (qe_call H__law_spoken (hr.mono (by decide)) (takes_of rfl rfl rfl rfl) (ka_cons (ko (ke_var 3)) ka_nil)) leCall))).t _) (kw_or1 ((kc_ne hr.units (ko (QE.le (qe_call H_read_stream (hr.mono (by decide)) (takes_of rfl rfl rfl rfl) (ka_cons (ko (QE.le (qe_call H__law_spoken (hr.mono (by decide)) (takes_of rfl rfl rfl rfl) (ka_cons (ko (ke_var 3)) ka_nil)) leCall)) ka_nil)) leCall)) (ko (ke_var 3))).t _))))
     (kss_one (ks_ret ke_bl))
     kss_nil)
    (kss_cons (ks_set (i := 4) sc__law_long_right.nd rfl (Or.inl rfl) (knew (QF.le (qf_make M_Row (hr.mono (by decide)) (takes_of rfl rfl rfl rfl) (ka_cons (ko (knew (kf_cat (ko (knew (kf_rep (kf_lst (ka_cons (ko (knew (QF.le (qf_make M_Last (hr.mono (by decide)) (takes_of rfl rfl rfl rfl) (ka_cons (ko (ke_div (ko (ke_var 1)) (ko (ke_pow (ko ke_int) (ko ke_int))))) ka_nil)) leMake1))) ka_nil)) ke_int))) (ko (knew (kf_rep (kf_lst (ka_cons (ko (knew (QF.le (qf_make M_First (hr.mono (by decide)) (takes_of rfl rfl rfl rfl) (ka_cons (ko ke_int) ka_nil)) leMake1))) ka_nil)) ke_int)))))) ka_nil)) leMake1)))
    (kss_one (ks_ret (by exact (ke_eqO (cs := eq1) (F := F_Thing___eq___1) (k := 9) E0.ct E0.oq1 ME___eq___1_Last_First_Limit_Delay_Row_Bus_Train (hr.mono (by decide)) (ko (QE.le (qe_call H_read_row (hr.mono (by decide)) (takes_of rfl rfl rfl rfl) (ka_cons (ko (QE.le (qe_call H_row_text (hr.mono (by decide)) (takes_of rfl rfl rfl rfl) (ka_cons (ko (ke_var 4)) ka_nil)) leCall)) ka_nil)) leCall)) (ko (ke_var 4)))))))))))))))
theorem q__law_kinds (E0 : Ws K mg) {f : Addr}  : BodyQ P w K mg base 0 N__law_kinds "_law_kinds" (defScope st__law_kinds) f (defBody st__law_kinds) (ws b__law_kinds) := by
  intro cdv A outer s H E hr
  exact (kss_one (ks_retF (kf_lst (ka_cons (ko ke_str) (ka_cons (ko ke_str) (ka_cons (ko ke_str) ka_nil))))))
theorem q__law_members (E0 : Ws K mg) {f : Addr} (H__law_digit : FnT P w K mg base 1 "_law_digit" ["_law_state_here", "_law_base"] (TF F__law_digit)) (H__law_kinds : FnT P w K mg base 1 "_law_kinds" [] (TF F__law_kinds)) : BodyQ P w K mg base 1 N__law_members "_law_members" (defScope st__law_members) f (defBody st__law_members) (ws b__law_members) := by
  intro cdv A outer s H E hr
  exact (kss_cons (ks_own (i := 3) sc__law_members.nd rfl (Or.inl rfl) (kf_lst ka_nil))
    (kss_cons (ks_for (passes_of rfl) rfl (ki_range1 (E0.b_range) (QE.le (qe_call H__law_digit (hr.mono (by decide)) (takes_of rfl rfl rfl rfl) (ka_cons (ko_var 0) (ka_cons (ko (ke_add (ko (ke_var 1)) (ko ke_int))) ka_nil))) leCall)) (kg_name (i := 4) sc__law_members.nd rfl (Or.inl rfl))
     (kss_kil [4] (kss_one (ks_if ((kc_eq hr.units (ko (QE.le (qe_call H__law_digit (hr.mono (by decide)) (takes_of rfl rfl rfl rfl) (ka_cons (ko_var 0) (ka_cons (ko ke_int) ka_nil))) leCall)) (ko ke_int)).t _)
     (kss_one (ks_expr (ko (QE.le (qe_om 3 PySem.F.slot_list_append PySem.F.type_list_append mt_append sem_append (ka_cons (ko (ke_tup (ka_cons (ko ke_str) (ka_cons (ko (QE.le (qe_call H__law_digit (hr.mono (by decide)) (takes_of rfl rfl rfl rfl) (ka_cons (ko_var 0) (ka_cons (ko (ke_var 2)) ka_nil))) leCall)) ka_nil)))) ka_nil)) (leOm hk_append fun _ _ _ h => h)))))
     (kss_one (ks_expr (ko (QE.le (qe_om 3 PySem.F.slot_list_append PySem.F.type_list_append mt_append sem_append (ka_cons (ko (ke_tup (ka_cons (ko (ke_ix (ko (knew (QF.le (qf_call0 H__law_kinds (hr.mono (by decide)) (takes_of rfl rfl rfl rfl)) leCallO0))) (ko (QE.le (qe_call H__law_digit (hr.mono (by decide)) (takes_of rfl rfl rfl rfl) (ka_cons (ko_var 0) (ka_cons (ko ke_int) ka_nil))) leCall)) (fun _ _ => rfl))) (ka_cons (ko (ke_add (ko ke_int) (ko (QE.le (qe_call H__law_digit (hr.mono (by decide)) (takes_of rfl rfl rfl rfl) (ka_cons (ko_var 0) (ka_cons (ko (ke_var 2)) ka_nil))) leCall)))) ka_nil)))) ka_nil)) (leOm hk_append fun _ _ _ h => h)))))))))
    (kss_one (ks_retO 3))))
theorem q__law_steps (E0 : Ws K mg) {f : Addr} (H__law_digit : FnT P w K mg base 1 "_law_digit" ["_law_state_here", "_law_base"] (TF F__law_digit)) (H__law_members : FnT P w K mg base 2 "_law_members" ["_law_s", "_law_many", "_law_most"] (TF F__law_members)) : BodyQ P w K mg base 2 N__law_steps "_law_steps" (defScope st__law_steps) f (defBody st__law_steps) (ws b__law_steps) := by
  intro cdv A outer s H E hr
  exact (kss_cons (ks_own (i := 1) sc__law_steps.nd rfl (Or.inl rfl) (kf_lst (ka_cons (ko ke_str) (ka_cons (ko ke_str) (ka_cons (ko ke_str) (ka_cons (ko ke_str) (ka_cons (ko ke_str) (ka_cons (ko ke_str) ka_nil))))))))
    (kss_cons (ks_own (i := 2) sc__law_steps.nd rfl (Or.inl rfl) (kf_lst (ka_cons (ko (QE.le (qe_om 1 PySem.F.slot_list_pop PySem.F.type_list_pop mt_popAt sem_popAt (ka_cons (ko (QE.le (qe_call H__law_digit (hr.mono (by decide)) (takes_of rfl rfl rfl rfl) (ka_cons (ko_var 0) (ka_cons (ko ke_int) ka_nil))) leCall)) ka_nil)) (leOm hk_popAt fun _ _ _ h => h))) ka_nil)))
    (kss_cons (ks_for (passes_of rfl) rfl (ki_range1 (E0.b_range) (QE.le (qe_call H__law_digit (hr.mono (by decide)) (takes_of rfl rfl rfl rfl) (ka_cons (ko_var 0) (ka_cons (ko ke_int) ka_nil))) leCall)) (kg_name (i := 3) sc__law_steps.nd rfl (Or.inl rfl))
     (kss_kil [3] (kss_one (ks_if (PW.pt (kw_and ((kc_eq hr.units (ko (QE.le (qe_call H__law_digit (hr.mono (by decide)) (takes_of rfl rfl rfl rfl) (ka_cons (ko_var 0) (ka_cons (ko ke_int) ka_nil))) leCall)) (ko ke_int)).t _) (kw_and1 ((kc_gt (ko (ke_len (E0.b_len) (ko_var 1))) (ko ke_int)).t _))))
     (kss_one (ks_expr (ko (QE.le (qe_om 2 PySem.F.slot_list_append PySem.F.type_list_append mt_append sem_append (ka_cons (ko (QE.le (qe_om 1 PySem.F.slot_list_pop PySem.F.type_list_pop mt_popAt sem_popAt (ka_cons (ko (QE.le (qe_call H__law_digit (hr.mono (by decide)) (takes_of rfl rfl rfl rfl) (ka_cons (ko_var 0) (ka_cons (ko (ke_len (E0.b_len) (ko_var 1))) ka_nil))) leCall)) ka_nil)) (leOm hk_popAt fun _ _ _ h => h))) ka_nil)) (leOm hk_append fun _ _ _ h => h)))))
     (kss_one (ks_own (i := 2) sc__law_steps.nd rfl (Or.inl rfl) (kf_cat (ko_var 2) (ko (knew (QF.le (qf_call H__law_members (hr.mono (by decide)) (takes_of rfl rfl rfl rfl) (ka_cons (ko_var 0) (ka_cons (ko ke_int) (ka_cons (ko (ke_ix (ko (knew (kf_lst (ka_cons (ko ke_int) (ka_cons (ko (ke_sub (ko (ke_pow (ko ke_int) (ko ke_int))) (ko ke_int))) ka_nil))))) (ko (QE.le (qe_call H__law_digit (hr.mono (by decide)) (takes_of rfl rfl rfl rfl) (ka_cons (ko_var 0) (ka_cons (ko ke_int) ka_nil))) leCall)) (fun _ _ => rfl))) ka_nil)))) leCallO))))))))))
    (kss_one (ks_retO 2)))))
theorem q__law_made (E0 : Ws K mg) {f : Addr} (M_Delay : MkT P w K mg base 2 "Delay" ["self", "d"] (TF F_Delay___init__)) (M_First : MkT P w K mg base 2 "First" ["self", "q"] (TF F_Member___init__)) (M_Last : MkT P w K mg base 2 "Last" ["self", "q"] (TF F_Member___init__)) (M_Limit : MkT P w K mg base 2 "Limit" ["self", "q"] (TF F_Member___init__)) : BodyQ P w K mg base 3 N__law_made "_law_made" (defScope st__law_made) f (defBody st__law_made) (ws b__law_made) := by
  intro cdv A outer s H E hr
  exact (kss_cons (ks_own (i := 1) sc__law_made.nd rfl (Or.inl rfl) (kf_lst ka_nil))
    (kss_cons (ks_for (passes_of rfl) rfl (ki_seq (ke_var 0)) (kg_tup rfl (kgs_cons (kg_name (i := 2) sc__law_made.nd rfl (Or.inl rfl)) (kgs_cons (kg_name (i := 3) sc__law_made.nd rfl (Or.inl rfl)) kgs_nil)))
     (kss_kil [2, 3] (kss_one (ks_if ((kc_eq hr.units (ko (ke_var 2)) (ko ke_str)).t _)
     (kss_one (ks_expr (ko (QE.le (qe_om 1 PySem.F.slot_list_append PySem.F.type_list_append mt_append sem_append (ka_cons (ko (knew (QF.le (qf_make M_Last (hr.mono (by decide)) (takes_of rfl rfl rfl rfl) (ka_cons (ko (ke_var 3)) ka_nil)) leMake1))) ka_nil)) (leOm hk_append fun _ _ _ h => h)))))
     (kss_one (ks_if ((kc_eq hr.units (ko (ke_var 2)) (ko ke_str)).t _)
     (kss_one (ks_expr (ko (QE.le (qe_om 1 PySem.F.slot_list_append PySem.F.type_list_append mt_append sem_append (ka_cons (ko (knew (QF.le (qf_make M_First (hr.mono (by decide)) (takes_of rfl rfl rfl rfl) (ka_cons (ko (ke_var 3)) ka_nil)) leMake1))) ka_nil)) (leOm hk_append fun _ _ _ h => h)))))
     (kss_one (ks_if ((kc_eq hr.units (ko (ke_var 2)) (ko ke_str)).t _)
     (kss_one (ks_expr (ko (QE.le (qe_om 1 PySem.F.slot_list_append PySem.F.type_list_append mt_append sem_append (ka_cons (ko (knew (QF.le (qf_make M_Limit (hr.mono (by decide)) (takes_of rfl rfl rfl rfl) (ka_cons (ko (ke_var 3)) ka_nil)) leMake1))) ka_nil)) (leOm hk_append fun _ _ _ h => h)))))
     (kss_one (ks_expr (ko (QE.le (qe_om 1 PySem.F.slot_list_append PySem.F.type_list_append mt_append sem_append (ka_cons (ko (knew (QF.le (qf_make M_Delay (hr.mono (by decide)) (takes_of rfl rfl rfl rfl) (ka_cons (ko (ke_var 3)) ka_nil)) leMake1))) ka_nil)) (leOm hk_append fun _ _ _ h => h)))))))))))))
    (kss_one (ks_retO 1))))
theorem q__law_bus (E0 : Ws K mg) {f : Addr} (M_Bus : MkT P w K mg base 2 "Bus" ["self", "steps"] (TF F_Bus___init__)) (H__law_made : FnT P w K mg base 4 "_law_made" ["_law_members_here"] (TF F__law_made)) : BodyQ P w K mg base 4 N__law_bus "_law_bus" (defScope st__law_bus) f (defBody st__law_bus) (ws b__law_bus) := by
  intro cdv A outer s H E hr
  exact (kss_one (ks_ret (knew (QF.le (qf_make M_Bus (hr.mono (by decide)) (takes_of rfl rfl rfl rfl) (ka_cons (ko (knew (QF.le (qf_lc (own := [("_law_step", 1)]) (tu := false) rfl sc__law_bus.nd (ki_seq (ke_var 0)) (blkOk_by (by kernel_rfl)) (fun _ _ _ _ _ => (pg_name (i := 1) sc__law_bus.nd rfl (Or.inl rfl))) (fun _ _ _ _ _ => kts_nil) (fun _ _ _ _ _ => (ke_if (kt_val (ke_isi E0.ct (by decide +kernel) (E0.b_isinstance) (ko (ke_var 1)) (pcn_ty (E0.b_str) (by decide +kernel)))) (ke_var 1) (ke_ix (ko (knew (QF.le (qf_call H__law_made (hr.mono (by decide)) takes0 (ka_cons (ko (knew (kf_lst (ka_cons (ko (ke_var 1)) ka_nil)))) ka_nil)) leCallO))) (ko ke_int) (fun _ _ => rfl))))) leLc))) ka_nil)) leMake1))))
theorem q__law_steps_text (E0 : Ws K mg) {f : Addr}  : BodyQ P w K mg base 0 N__law_steps_text "_law_steps_text" (defScope st__law_steps_text) f (defBody st__law_steps_text) (ws b__law_steps_text) := by
  intro cdv A outer s H E hr
  exact (kss_one (ks_ret (ke_join (ko ke_str) (ko (knew (QF.le (qf_lc (own := [("_law_step", 1)]) (tu := false) rfl sc__law_steps_text.nd (ki_seq (ke_var 0)) (blkOk_by (by kernel_rfl)) (fun _ _ _ _ _ => (pg_name (i := 1) sc__law_steps_text.nd rfl (Or.inl rfl))) (fun _ _ _ _ _ => kts_nil) (fun _ _ _ _ _ => (ke_if (kt_val (ke_isi E0.ct (by decide +kernel) (E0.b_isinstance) (ko (ke_var 1)) (pcn_ty (E0.b_str) (by decide +kernel)))) (ke_var 1) (ke_add (ko (ke_add (ko (ke_ix (ko (ke_var 1)) (ko ke_int) (fun _ _ => rfl))) (ko ke_str))) (ko (ke_strI (E0.b_str) (ko (ke_ix (ko (ke_var 1)) (ko ke_int) (fun _ _ => rfl))))))))) leLc))))))
theorem q_read_bus (E0 : Ws K mg) {f : Addr} (M_Bus : MkT P w K mg base 2 "Bus" ["self", "steps"] (TF F_Bus___init__)) (H_check_string : FnT P w K mg base 1 "check_string" ["text"] (TF F_check_string)) (H_is_name : FnT P w K mg base 1 "is_name" ["thing"] (TF F_is_name)) (H_member_from : FnT P w K mg base 4 "member_from" ["kind", "number"] (TF F_member_from)) (H_pair_from : FnT P w K mg base 3 "pair_from" ["text", "place"] (TF F_pair_from)) : BodyQ P w K mg base 4 N_read_bus "read_bus" (defScope st_read_bus) f (defBody st_read_bus) (ws b_read_bus) := by
  intro cdv A outer s H E hr
  exact (kss_cons (ks_expr (ko (QE.le (qe_call H_check_string (hr.mono (by decide)) (takes_of rfl rfl rfl rfl) (ka_cons (ko (ke_var 0)) ka_nil)) leCall)))
    (kss_cons (ks_own (i := 1) sc_read_bus.nd rfl (Or.inl rfl) (kf_lst ka_nil))
    (kss_cons (ks_for (passes_of rfl) rfl (ki_enum (E0.b_enumerate) (knew (kf_split (ko (ke_var 0)) (ko ke_str)))) (kg_tup rfl (kgs_cons (kg_name (i := 2) sc_read_bus.nd rfl (Or.inl rfl)) (kgs_cons (kg_name (i := 3) sc_read_bus.nd rfl (Or.inl rfl)) kgs_nil)))
     (kss_kil [2, 3] (kss_one (ks_expr (ko (QE.le (qe_om 1 PySem.F.slot_list_append PySem.F.type_list_append mt_append sem_append (ka_cons (ko (ke_if (kt_val (QE.le (qe_call H_is_name (hr.mono (by decide)) (takes_of rfl rfl rfl rfl) (ka_cons (ko (ke_var 3)) ka_nil)) leCall)) (ke_tup (ka_cons (ko (ke_var 3)) (ka_cons (ko ke_non) ka_nil))) (QE.le (qe_call H_pair_from (hr.mono (by decide)) (takes_of rfl rfl rfl rfl) (ka_cons (ko (ke_var 3)) (ka_cons (ko (ke_var 2)) ka_nil))) leCall))) ka_nil)) (leOm hk_append fun _ _ _ h => h)))))))
    (kss_one (ks_ret (knew (QF.le (qf_make M_Bus (hr.mono (by decide)) (takes_of rfl rfl rfl rfl) (ka_cons (ko (knew (kf_lcO (own := [("word", 4), ("number", 5)]) (tu := true) 1 rfl sc_read_bus.nd  (blkOk_by (by kernel_rfl)) (fun _ _ _ _ _ => (pg_tul rfl (pgs_cons (pg_name (i := 4) sc_read_bus.nd rfl (Or.inl rfl)) (pgs_cons (pg_name (i := 5) sc_read_bus.nd rfl (Or.inl rfl)) pgs_nil)))) (fun _ _ _ _ _ => kts_nil) (fun _ _ _ _ _ => (ke_if ((kc_isN (ko (ke_var 5))).t _) (ke_var 4) (QE.le (qe_call H_member_from (hr.mono (by decide)) takes0 (ka_cons (ko (ke_var 4)) (ka_cons (ko (ke_var 5)) ka_nil))) leCall)))))) ka_nil)) leMake1)))))))
theorem q__law_members_text (E0 : Ws K mg) {f : Addr}  : BodyQ P w K mg base 0 N__law_members_text "_law_members_text" (defScope st__law_members_text) f (defBody st__law_members_text) (ws b__law_members_text) := by
  intro cdv A outer s H E hr
  exact (kss_one (ks_retF (QF.le (qf_lc (own := [("_law_kind", 1), ("_law_number", 2)]) (tu := true) rfl sc__law_members_text.nd (ki_seq (ke_var 0)) (blkOk_by (by kernel_rfl)) (fun _ _ _ _ _ => (pg_tul rfl (pgs_cons (pg_name (i := 1) sc__law_members_text.nd rfl (Or.inl rfl)) (pgs_cons (pg_name (i := 2) sc__law_members_text.nd rfl (Or.inl rfl)) pgs_nil)))) (fun _ _ _ _ _ => kts_nil) (fun _ _ _ _ _ => (ke_add (ko (ke_add (ko (ke_var 1)) (ko ke_str))) (ko (ke_strI (E0.b_str) (ko (ke_var 2))))))) leLc)))
theorem q__law_rows_right (E0 : Ws K mg) {f : Addr} (ME___eq___1_Last_First_Limit_Delay_Row_Bus_Train : ∀ q ∈ TFs [("Last", F_Thing___eq___1), ("First", F_Thing___eq___1), ("Limit", F_Thing___eq___1), ("Delay", F_Thing___eq___1), ("Row", F_Thing___eq___1), ("Bus", F_Thing___eq___1), ("Train", F_Thing___eq___1)], MeT P w K mg base 9 q.1 "__eq__" ["self", "other"] q.2) (M_Row : MkT P w K mg base 2 "Row" ["self", "members"] (TF F_Row___init__)) (H__law_bus : FnT P w K mg base 5 "_law_bus" ["_law_steps_here"] (TF F__law_bus)) (H__law_digit : FnT P w K mg base 1 "_law_digit" ["_law_state_here", "_law_base"] (TF F__law_digit)) (H__law_made : FnT P w K mg base 4 "_law_made" ["_law_members_here"] (TF F__law_made)) (H__law_members : FnT P w K mg base 2 "_law_members" ["_law_s", "_law_many", "_law_most"] (TF F__law_members)) (H__law_members_text : FnT P w K mg base 1 "_law_members_text" ["_law_members_here"] (TF F__law_members_text)) (H__law_steps : FnT P w K mg base 3 "_law_steps" ["_law_s"] (TF F__law_steps)) (H__law_steps_text : FnT P w K mg base 1 "_law_steps_text" ["_law_steps_here"] (TF F__law_steps_text)) (H_bus_text : FnT P w K mg base 3 "bus_text" ["bus"] (TF F_bus_text)) (H_read_bus : FnT P w K mg base 5 "read_bus" ["text"] (TF F_read_bus)) (H_read_row : FnT P w K mg base 5 "read_row" ["text"] (TF F_read_row)) (H_row_text : FnT P w K mg base 9 "row_text" ["row"] (TF F_row_text)) : BodyQ P w K mg base 15 N__law_rows_right "_law_rows_right" (defScope st__law_rows_right) f (defBody st__law_rows_right) (ws b__law_rows_right) := by
  intro cdv A outer s H E hr
  exact (kss_cons (ks_set (i := 1) sc__law_rows_right.nd rfl (Or.inl rfl) (knew (QF.le (qf_call H__law_members (hr.mono (by decide)) (takes_of rfl rfl rfl rfl) (ka_cons (ko_var 0) (ka_cons (ko ke_int) (ka_cons (ko (ke_ix (ko (knew (kf_lst (ka_cons (ko ke_int) (ka_cons (ko (ke_pow (ko ke_int) (ko ke_int))) ka_nil))))) (ko (QE.le (qe_call H__law_digit (hr.mono (by decide)) (takes_of rfl rfl rfl rfl) (ka_cons (ko_var 0) (ka_cons (ko ke_int) ka_nil))) leCall)) (fun _ _ => rfl))) ka_nil)))) leCallO)))
    (kss_cons (ks_par2 rfl sc__law_rows_right.nd rfl rfl (by decide) rfl rfl (km_im (knew (QF.le (qf_make M_Row (hr.mono (by decide)) (takes_of rfl rfl rfl rfl) (ka_cons (ko (knew (QF.le (qf_call H__law_made (hr.mono (by decide)) (takes_of rfl rfl rfl rfl) (ka_cons (ko (ke_var 1)) ka_nil)) leCallO))) ka_nil)) leMake1)) (km_im (ke_if ((kc_ne hr.units (ko (ke_var 1)) (ko (knew (kf_lst ka_nil)))).t _) (ke_join (ko ke_str) (ko (knew (QF.le (qf_call H__law_members_text (hr.mono (by decide)) (takes_of rfl rfl rfl rfl) (ka_cons (ko (ke_var 1)) ka_nil)) leCallO)))) ke_str) km_nil)) rfl)
    (kss_cons (ks_if (PW.pt (kw_or (kt_neO (cs := eq1) (F := F_Thing___eq___1) (k := 9) E0.ct E0.oq1 ME___eq___1_Last_First_Limit_Delay_Row_Bus_Train (hr.mono (by decide)) (ko (QE.le (qe_call H_row_text (hr.mono (by decide)) (takes_of rfl rfl rfl rfl) (ka_cons (ko (ke_var 2)) ka_nil)) leCall)) (ko (ke_var 3))) (kw_or1 (kt_neO (cs := eq1) (F := F_Thing___eq___1) (k := 9) E0.ct E0.oq1 ME___eq___1_Last_First_Limit_Delay_Row_Bus_Train (hr.mono (by decide)) (ko (QE.le (qe_call H_read_row (hr.mono (by decide)) (takes_of rfl rfl rfl rfl) (ka_cons (ko (ke_var 3)) ka_nil)) leCall)) (ko (ke_var 2))))))
     (kss_one (ks_ret ke_bl))
     kss_nil)
    (kss_cons (ks_set (i := 4) sc__law_rows_right.nd rfl (Or.inl rfl) (knew (QF.le (qf_call H__law_steps (hr.mono (by decide)) (takes_of rfl rfl rfl rfl) (ka_cons (ko_var 0) ka_nil)) leCallO)))
    (kss_cons (ks_par2 rfl sc__law_rows_right.nd rfl rfl (by decide) rfl rfl (km_im (QE.le (qe_call H__law_bus (hr.mono (by decide)) (takes_of rfl rfl rfl rfl) (ka_cons (ko (ke_var 4)) ka_nil)) leCall) (km_im (QE.le (qe_call H__law_steps_text (hr.mono (by decide)) (takes_of rfl rfl rfl rfl) (ka_cons (ko (ke_var 4)) ka_nil)) leCall) km_nil)) rfl)
    (kss_one (ks_ret (ke_and (by exact (ke_eqO (cs := eq1) (F := F_Thing___eq___1) (k := 9) E0.ct E0.oq1 ME___eq___1_Last_First_Limit_Delay_Row_Bus_Train (hr.mono (by decide)) (ko (QE.le (qe_call H_bus_text (hr.mono (by decide)) (takes_of rfl rfl rfl rfl) (ka_cons (ko (ke_var 5)) ka_nil)) leCall)) (ko (ke_var 3)))) (ke_one (by exact (ke_eqO (cs := eq1) (F := F_Thing___eq___1) (k := 9) E0.ct E0.oq1 ME___eq___1_Last_First_Limit_Delay_Row_Bus_Train (hr.mono (by decide)) (ko (QE.le (qe_call H_read_bus (hr.mono (by decide)) (takes_of rfl rfl rfl rfl) (ka_cons (ko (ke_var 3)) ka_nil)) leCall)) (ko (ke_var 5)))))))))))))
theorem q__law_stream (E0 : Ws K mg) {f : Addr} (H__law_digit : FnT P w K mg base 1 "_law_digit" ["_law_state_here", "_law_base"] (TF F__law_digit)) : BodyQ P w K mg base 1 N__law_stream "_law_stream" (defScope st__law_stream) f (defBody st__law_stream) (ws b__law_stream) := by
  intro cdv A outer s H E hr
  exact (kss_cons (ks_par2 rfl sc__law_stream.nd rfl rfl (by decide) rfl rfl (km_fr (kf_lst ka_nil) (km_im (ke_sub (ko (QE.le (qe_call H__law_digit (hr.mono (by decide)) (takes_of rfl rfl rfl rfl) (ka_cons (ko_var 0) (ka_cons (ko ke_int) ka_nil))) leCall)) (ko ke_int)) km_nil)) rfl)
    (kss_cons (ks_for (passes_of rfl) rfl (ki_range1 (E0.b_range) (QE.le (qe_call H__law_digit (hr.mono (by decide)) (takes_of rfl rfl rfl rfl) (ka_cons (ko_var 0) (ka_cons (ko (ke_add (ko (ke_var 1)) (ko ke_int))) ka_nil))) leCall)) (kg_name (i := 5) sc__law_stream.nd rfl (Or.inl rfl))
     (kss_kil [5] (kss_cons (ks_expr (ko (QE.le (qe_om 3 PySem.F.slot_list_append PySem.F.type_list_append mt_append sem_append (ka_cons (ko (ke_var 4)) ka_nil)) (leOm hk_append fun _ _ _ h => h))))
    (kss_one (ks_set (i := 4) sc__law_stream.nd rfl (Or.inl rfl) (ke_add (ko (ke_var 4)) (ko (ke_ix (ko (ke_var 2)) (ko (QE.le (qe_call H__law_digit (hr.mono (by decide)) (takes_of rfl rfl rfl rfl) (ka_cons (ko_var 0) (ka_cons (ko (ke_len (E0.b_len) (ko (ke_var 2)))) ka_nil))) leCall)) (fun _ _ => rfl)))))))))
    (kss_one (ks_retO 3))))
theorem q__law_gaps (E0 : Ws K mg) {f : Addr} (H__law_digit : FnT P w K mg base 1 "_law_digit" ["_law_state_here", "_law_base"] (TF F__law_digit)) : BodyQ P w K mg base 1 N__law_gaps "_law_gaps" (defScope st__law_gaps) f (defBody st__law_gaps) (ws b__law_gaps) := by
  intro cdv A outer s H E hr
  exact (kss_one (ks_retF (QF.le (qf_lc (own := [("_law_turn", 1)]) (tu := false) rfl sc__law_gaps.nd (ki_range1 (E0.b_range) (QE.le (qe_call H__law_digit (hr.mono (by decide)) (takes_of rfl rfl rfl rfl) (ka_cons (ko_var 0) (ka_cons (ko ke_int) ka_nil))) leCall)) (blkOk_by (by kernel_rfl)) (fun _ _ _ _ _ => (pg_name (i := 1) sc__law_gaps.nd rfl (Or.inl rfl))) (fun _ _ _ _ _ => kts_nil) (fun _ _ _ _ _ => (ke_ix (ko (knew (kf_lst (ka_cons (ko ke_int) (ka_cons (ko ke_int) (ka_cons (ko (ke_add (ko (ke_pow (ko ke_int) (ko ke_int))) (ko ke_int))) (ka_cons (ko (ke_add (ko ke_int) (ko (QE.le (qe_call H__law_digit (hr.mono (by decide)) takes0 (ka_cons (ko_var 0) (ka_cons (ko ke_int) ka_nil))) leCall)))) ka_nil))))))) (ko (QE.le (qe_call H__law_digit (hr.mono (by decide)) takes0 (ka_cons (ko_var 0) (ka_cons (ko ke_int) ka_nil))) leCall)) (fun _ _ => rfl)))) leLc)))
theorem q_read_train (E0 : Ws K mg) {f : Addr} (M_Train : MkT P w K mg base 3 "Train" ["self", "first", "head", "block", "rounds", "end"] (TF F_Train___init__)) (H_check_string : FnT P w K mg base 1 "check_string" ["text"] (TF F_check_string)) (H_numbers_from : FnT P w K mg base 3 "numbers_from" ["text", "place", "is_counted"] (TF F_numbers_from)) (H_read_number : FnT P w K mg base 2 "read_number" ["text", "place"] (TF F_read_number)) : BodyQ P w K mg base 4 N_read_train "read_train" (defScope st_read_train) f (defBody st_read_train) (ws b_read_train) := by
  intro cdv A outer s H E hr
  exact (kss_cons (ks_expr (ko (QE.le (qe_call H_check_string (hr.mono (by decide)) (takes_of rfl rfl rfl rfl) (ka_cons (ko (ke_var 0)) ka_nil)) leCall)))
    (kss_cons (ks_set (i := 1) sc_read_train.nd rfl (Or.inl rfl) (knew (kf_split (ko (ke_var 0)) (ko ke_str))))
    (kss_cons (ks_own (i := 2) sc_read_train.nd rfl (Or.inl rfl) (kf_lst ka_nil))
    (kss_cons (ks_for (passes_of rfl) rfl (ki_enum (E0.b_enumerate) (knew (kf_sl (ko (ke_var 1)) kp_none (kp_some (ke_globI E0.c_PARTS))))) (kg_tup rfl (kgs_cons (kg_name (i := 3) sc_read_train.nd rfl (Or.inl rfl)) (kgs_cons (kg_name (i := 4) sc_read_train.nd rfl (Or.inl rfl)) kgs_nil)))
     (kss_kil [3, 4] (kss_one (ks_expr (ko (QE.le (qe_om 2 PySem.F.slot_list_append PySem.F.type_list_append mt_append sem_append (ka_cons (ko (ke_if ((kc_in hr.u65 (ko (ke_var 3)) (ko (ke_tup (ka_cons (ko ke_int) (ka_cons (ko ke_int) ka_nil))))).t _) (QE.le (qe_call H_read_number (hr.mono (by decide)) (takes_of rfl rfl rfl rfl) (ka_cons (ko (ke_var 4)) (ka_cons (ko (ke_var 3)) ka_nil))) leCall) (knew (QF.le (qf_call H_numbers_from (hr.mono (by decide)) (takes_of rfl rfl rfl rfl) (ka_cons (ko (ke_var 4)) (ka_cons (ko (ke_var 3)) (ka_cons (ko ke_bl) ka_nil)))) leCallO)))) ka_nil)) (leOm hk_append fun _ _ _ h => h)))))))
    (kss_cons (ks_if ((kc_ne hr.units (ko (ke_len (E0.b_len) (ko (ke_var 1)))) (ko (ke_globI E0.c_PARTS))).t _)
     (kss_one (QS.le (qs_raise_place rfl E0.x_BadText hr (takes_of rfl rfl rfl rfl) (ke_min2 rfl (E0.b_min) (ko (ke_len (E0.b_len) (ko (ke_var 1)))) (ko (ke_globI E0.c_PARTS)))) leRaise))
     kss_nil)
    (kss_one (ks_ret (knew (QF.le (qf_make M_Train (hr.mono (by decide)) (takes_of rfl rfl rfl rfl) (ka_cons (ko (ke_ix (ko_var 2) (ko ke_int) (fun _ _ => rfl))) (ka_cons (ko (ke_ix (ko_var 2) (ko ke_int) (fun _ _ => rfl))) (ka_cons (ko (ke_ix (ko_var 2) (ko ke_int) (fun _ _ => rfl))) (ka_cons (ko (ke_ix (ko_var 2) (ko ke_int) (fun _ _ => rfl))) (ka_cons (ko (ke_ix (ko_var 2) (ko ke_int) (fun _ _ => rfl))) ka_nil)))))) leMake1)))))))))
theorem q__law_streams_right (E0 : Ws K mg) {f : Addr} (ME___eq___1_Last_First_Limit_Delay_Row_Bus_Train : ∀ q ∈ TFs [("Last", F_Thing___eq___1), ("First", F_Thing___eq___1), ("Limit", F_Thing___eq___1), ("Delay", F_Thing___eq___1), ("Row", F_Thing___eq___1), ("Bus", F_Thing___eq___1), ("Train", F_Thing___eq___1)], MeT P w K mg base 9 q.1 "__eq__" ["self", "other"] q.2) (M_Train : MkT P w K mg base 3 "Train" ["self", "first", "head", "block", "rounds", "end"] (TF F_Train___init__)) (H__law_digit : FnT P w K mg base 1 "_law_digit" ["_law_state_here", "_law_base"] (TF F__law_digit)) (H__law_gaps : FnT P w K mg base 2 "_law_gaps" ["_law_s"] (TF F__law_gaps)) (H__law_spoken : FnT P w K mg base 1 "_law_spoken" ["_law_numbers"] (TF F__law_spoken)) (H__law_stream : FnT P w K mg base 2 "_law_stream" ["_law_s", "_law_many", "_law_gaps_here"] (TF F__law_stream)) (H_read_stream : FnT P w K mg base 4 "read_stream" ["text"] (TF F_read_stream)) (H_read_train : FnT P w K mg base 5 "read_train" ["text"] (TF F_read_train)) (H_stream_text : FnT P w K mg base 3 "stream_text" ["stream"] (TF F_stream_text)) (H_train_text : FnT P w K mg base 2 "train_text" ["train"] (TF F_train_text)) : BodyQ P w K mg base 15 N__law_streams_right "_law_streams_right" (defScope st__law_streams_right) f (defBody st__law_streams_right) (ws b__law_streams_right) := by
  intro cdv A outer s H E hr
  exact (kss_cons (ks_set (i := 1) sc__law_streams_right.nd rfl (Or.inl rfl) (knew (QF.le (qf_call H__law_stream (hr.mono (by decide)) (takes_of rfl rfl rfl rfl) (ka_cons (ko_var 0) (ka_cons (ko ke_int) (ka_cons (ko (knew (kf_lst (ka_cons (ko ke_int) (ka_cons (ko ke_int) (ka_cons (ko (ke_pow (ko ke_int) (ko ke_int))) ka_nil)))))) ka_nil)))) leCallO)))
    (kss_cons (ks_set (i := 2) sc__law_streams_right.nd rfl (Or.inl rfl) (QE.le (qe_call H__law_spoken (hr.mono (by decide)) (takes_of rfl rfl rfl rfl) (ka_cons (ko (ke_var 1)) ka_nil)) leCall))
    (kss_cons (ks_if (PW.pt (kw_or ((kc_ne hr.units (ko (QE.le (qe_call H_stream_text (hr.mono (by decide)) (takes_of rfl rfl rfl rfl) (ka_cons (ko (ke_var 1)) ka_nil)) leCall)) (ko (ke_var 2))).t _) (kw_or ((kc_ne hr.units (ko (QE.le (qe_call H_stream_text (hr.mono (by decide)) (takes_of rfl rfl rfl rfl) (ka_cons (ko (ke_tuple (E0.b_tuple) (ko (ke_var 1)))) ka_nil)) leCall)) (ko (ke_var 2))).t _) (kw_or1 ((kc_ne hr.units (ko (QE.le (qe_call H_read_stream (hr.mono (by decide)) (takes_of rfl rfl rfl rfl) (ka_cons (ko (ke_var 2)) ka_nil)) leCall)) (ko (ke_var 1))).t _)))))
     (kss_one (ks_ret ke_bl))
     kss_nil)
    (kss_cons (ks_if (kt_not (kt_val (ke_isi E0.ct (by decide +kernel) (E0.b_isinstance) (ko (QE.le (qe_call H_read_stream (hr.mono (by decide)) (takes_of rfl rfl rfl rfl) (ka_cons (ko (ke_var 2)) ka_nil)) leCall)) (pcn_ty (E0.b_list) (by decide +kernel)))))
     (kss_one (ks_ret ke_bl))
     kss_nil)
    (kss_cons (ks_par2 rfl sc__law_streams_right.nd rfl rfl (by decide) rfl rfl (km_im (ke_sub (ko (QE.le (qe_call H__law_digit (hr.mono (by decide)) (takes_of rfl rfl rfl rfl) (ka_cons (ko_var 0) (ka_cons (ko (ke_pow (ko ke_int) (ko ke_int))) ka_nil))) leCall)) (ko (ke_mul (ko ke_int) (ko (ke_pow (ko ke_int) (ko ke_int)))))) (km_im (ke_ix (ko (knew (kf_lst (ka_cons (ko ke_int) (ka_cons (ko ke_int) (ka_cons (ko (ke_pow (ko ke_int) (ko ke_int))) (ka_cons (ko (QE.le (qe_call H__law_digit (hr.mono (by decide)) (takes_of rfl rfl rfl rfl) (ka_cons (ko_var 0) (ka_cons (ko ke_int) ka_nil))) leCall)) ka_nil))))))) (ko (QE.le (qe_call H__law_digit (hr.mono (by decide)) (takes_of rfl rfl rfl rfl) (ka_cons (ko_var 0) (ka_cons (ko ke_int) ka_nil))) leCall)) (fun _ _ => rfl)) km_nil)) rfl)
    (kss_cons (ks_par3 rfl sc__law_streams_right.nd rfl rfl rfl (by decide) (by decide) (by decide) rfl rfl rfl (km_im (knew (QF.le (qf_call H__law_gaps (hr.mono (by decide)) (takes_of rfl rfl rfl rfl) (ka_cons (ko_var 0) ka_nil)) leCallO)) (km_im (knew (QF.le (qf_call H__law_gaps (hr.mono (by decide)) (takes_of rfl rfl rfl rfl) (ka_cons (ko_var 0) ka_nil)) leCallO)) (km_im (knew (QF.le (qf_call H__law_gaps (hr.mono (by decide)) (takes_of rfl rfl rfl rfl) (ka_cons (ko_var 0) ka_nil)) leCallO)) km_nil))) rfl)
    (kss_cons (ks_set (i := 8) sc__law_streams_right.nd rfl (Or.inl rfl) (knew (QF.le (qf_make M_Train (hr.mono (by decide)) (takes_of rfl rfl rfl rfl) (ka_cons (ko (ke_var 3)) (ka_cons (ko (ke_var 5)) (ka_cons (ko (ke_var 6)) (ka_cons (ko (ke_var 4)) (ka_cons (ko (ke_var 7)) ka_nil)))))) leMake1)))
    (kss_cons (ks_set (i := 2) sc__law_streams_right.nd rfl (Or.inl rfl) (knew (kf_lst (ka_cons (ko (ke_strI (E0.b_str) (ko (ke_var 3)))) (ka_cons (ko (QE.le (qe_call H__law_spoken (hr.mono (by decide)) (takes_of rfl rfl rfl rfl) (ka_cons (ko (ke_var 5)) ka_nil)) leCall)) (ka_cons (ko (QE.le (qe_call H__law_spoken (hr.mono (by decide)) (takes_of rfl rfl rfl rfl) (ka_cons (ko (ke_var 6)) ka_nil)) leCall)) (ka_cons (ko (ke_strI (E0.b_str) (ko (ke_var 4)))) (ka_cons (ko (QE.le (qe_call H__law_spoken (hr.mono (by decide)) (takes_of rfl rfl rfl rfl) (ka_cons (ko (ke_var 7)) ka_nil)) leCall)) ka_nil))))))))
    (kss_one (ks_ret (ke_and (by exact (ke_eqO (cs := eq1) (F := F_Thing___eq___1) (k := 9) E0.ct E0.oq1 ME___eq___1_Last_First_Limit_Delay_Row_Bus_Train (hr.mono (by decide)) (ko (QE.le (qe_call H_train_text (hr.mono (by decide)) (takes_of rfl rfl rfl rfl) (ka_cons (ko (ke_var 8)) ka_nil)) leCall)) (ko (ke_join (ko ke_str) (ko (ke_var 2)))))) (ke_one (by exact (ke_eqO (cs := eq1) (F := F_Thing___eq___1) (k := 9) E0.ct E0.oq1 ME___eq___1_Last_First_Limit_Delay_Row_Bus_Train (hr.mono (by decide)) (ko (QE.le (qe_call H_read_train (hr.mono (by decide)) (takes_of rfl rfl rfl rfl) (ka_cons (ko (ke_join (ko ke_str) (ko (ke_var 2)))) ka_nil)) leCall)) (ko (ke_var 8))))))))))))))))
theorem q_law (E0 : Ws K mg) {f : Addr} (H__law_long_right : FnT P w K mg base 16 "_law_long_right" ["_law_s"] (TF F__law_long_right)) (H__law_rows_right : FnT P w K mg base 16 "_law_rows_right" ["_law_s"] (TF F__law_rows_right)) (H__law_state : FnT P w K mg base 1 "_law_state" ["_law_source"] (TF F__law_state)) (H__law_streams_right : FnT P w K mg base 16 "_law_streams_right" ["_law_s"] (TF F__law_streams_right)) : BodyQ P w K mg base 16 N_law "law" (defScope st_law) f (defBody st_law) (ws b_law) := by
  intro cdv A outer s H E hr
  exact (kss_cons (ks_for (passes_of rfl) rfl (ki_seq (knew (kf_sl (ko (knew (kf_cat (ko (ke_var 0)) (ko (knew (kf_lst (ka_cons (ko ke_int) ka_nil))))))) kp_none (kp_some ke_int)))) (kg_name (i := 1) sc_law.nd rfl (Or.inl rfl))
     (kss_kil [1, 2, 3] (kss_cons (ks_own (i := 2) sc_law.nd rfl (Or.inl rfl) (QF.le (qf_call H__law_state (hr.mono (by decide)) (takes_of rfl rfl rfl rfl) (ka_cons (ko (ke_var 1)) ka_nil)) leCallO))
    (kss_cons (ks_for (passes_of rfl) rfl (ki_range1 (E0.b_range) ke_int) (kg_name (i := 3) sc_law.nd rfl (Or.inl rfl))
     (kss_kil [3] (kss_one (ks_if (PW.pt (kw_or (kt_not (kt_val (QE.le (qe_call H__law_rows_right (hr.mono (by decide)) (takes_of rfl rfl rfl rfl) (ka_cons (ko_var 2) ka_nil)) leCall))) (kw_or1 (kt_not (kt_val (QE.le (qe_call H__law_streams_right (hr.mono (by decide)) (takes_of rfl rfl rfl rfl) (ka_cons (ko_var 2) ka_nil)) leCall))))))
     (kss_one (ks_ret ke_bl))
     kss_nil))))
    (kss_one (ks_if (kt_not (kt_val (QE.le (qe_call H__law_long_right (hr.mono (by decide)) (takes_of rfl rfl rfl rfl) (ka_cons (ko_var 2) ka_nil)) leCall)))
     (kss_one (ks_ret ke_bl))
     kss_nil))))))
    (kss_one (ks_ret ke_bl)))
end
theorem facts {P : Program} {w : World} {K : PySem.W.Frag} {h : Heap} {mg : Str → Option Value} {f : Addr} (X : K.In h) (G : h.Ns mainGlobals mg) (hfa : mg ("law" : Str) = some (.ref f)) (c : SaysX fa fn ex K) :
    ∃ fd : FuncData, (∀ (s : Shared) (v : Value), BindsTo s fd ⟨[v], []⟩ [("_law_script", v)]) ∧ ∀ base : Heap, K.In base → base.Ns mainGlobals mg → FnOk P w K mg base (L2.CX P w) 17 f fd ["_law_script"] (spT K T_law) := by
  have he := c.e
  unfold ex at he
  obtain ⟨h0, he⟩ := He.ba he
  obtain ⟨h1, he⟩ := He.ba he
  obtain ⟨h2, he⟩ := He.ba he
  obtain ⟨h3, he⟩ := He.ba he
  obtain ⟨h4, he⟩ := He.ba he
  obtain ⟨h5, he⟩ := He.ba he
  obtain ⟨h6, he⟩ := He.ba he
  obtain ⟨h7, he⟩ := He.ba he
  have h8 := he
  obtain ⟨fdx3, FX3⟩ := c.d.def_ 69 (d := d69) rfl
  obtain ⟨fdx4, FX4⟩ := c.d.def_ 71 (d := d71) rfl
  obtain ⟨fdx5, FX5⟩ := c.d.def_ 72 (d := d72) rfl
  obtain ⟨fdx6, FX6⟩ := c.d.def_ 73 (d := d73) rfl
  obtain ⟨fdx7, FX7⟩ := c.d.def_ 70 (d := d70) rfl
  obtain ⟨fdx8, FX8⟩ := c.d.def_ 74 (d := d74) rfl
  have E0 : Ws K mg := ⟨He.free_ok X G (c.d.fact 0 (f := .free "abs") rfl),
    He.free_ok X G (c.d.fact 1 (f := .free "all") rfl),
    He.free_ok X G (c.d.fact 2 (f := .free "bool") rfl),
    He.free_ok X G (c.d.fact 3 (f := .free "enumerate") rfl),
    He.free_ok X G (c.d.fact 4 (f := .free "int") rfl),
    He.free_ok X G (c.d.fact 5 (f := .free "isinstance") rfl),
    He.free_ok X G (c.d.fact 6 (f := .free "len") rfl),
    He.free_ok X G (c.d.fact 7 (f := .free "list") rfl),
    He.free_ok X G (c.d.fact 8 (f := .free "min") rfl),
    He.free_ok X G (c.d.fact 9 (f := .free "range") rfl),
    He.free_ok X G (c.d.fact 10 (f := .free "str") rfl),
    He.free_ok X G (c.d.fact 11 (f := .free "tuple") rfl),
    He.glo_ok X G (c.d.fact 12 (f := .glo "Bus") rfl),
    He.glo_ok X G (c.d.fact 13 (f := .glo "Delay") rfl),
    He.glo_ok X G (c.d.fact 14 (f := .glo "First") rfl),
    He.glo_ok X G (c.d.fact 15 (f := .glo "Last") rfl),
    He.glo_ok X G (c.d.fact 16 (f := .glo "Limit") rfl),
    He.glo_ok X G (c.d.fact 17 (f := .glo "Row") rfl),
    He.glo_ok X G (c.d.fact 18 (f := .glo "Thing") rfl),
    He.glo_ok X G (c.d.fact 19 (f := .glo "Train") rfl),
    He.str_ok X G (c.d.fact 57 (f := .str "LETTERS" "abcdefghijklmnopqrstuvwxyz") rfl),
    He.int_ok X G (c.d.fact 58 (f := .int "MOST_LETTERS" 8) rfl),
    He.str_ok X G (c.d.fact 59 (f := .str "FIGURES" "0123456789") rfl),
    He.int_ok X G (c.d.fact 60 (f := .int "MOST_FIGURES" 60) rfl),
    He.str_ok X G (c.d.fact 61 (f := .str "ALL" "all") rfl),
    He.str_ok X G (c.d.fact 62 (f := .str "NONE" "none") rfl),
    He.int_ok X G (c.d.fact 63 (f := .int "PARTS" 5) rfl),
    ctB_ok h0,
    h1,
    h2,
    xf_mk_index (He.glo_ok X G (c.d.fact 99 (f := .glo "BadBus") rfl)) h3 (FX3) ⟨_, _, rfl⟩ ⟨_, _, _, _, rfl⟩ rfl,
    xf_mk_index (He.glo_ok X G (c.d.fact 101 (f := .glo "BadRow") rfl)) h4 (FX4) ⟨_, _, rfl⟩ ⟨_, _, _, _, rfl⟩ rfl,
    xf_mk_place (He.glo_ok X G (c.d.fact 102 (f := .glo "BadStream") rfl)) h5 (FX5) ⟨_, _, rfl⟩ ⟨_, _, _, _, rfl⟩ rfl,
    xf_mk_place (He.glo_ok X G (c.d.fact 103 (f := .glo "BadText") rfl)) h6 (FX6) ⟨_, _, rfl⟩ ⟨_, _, _, _, rfl⟩ rfl,
    xf_mk_what (He.glo_ok X G (c.d.fact 100 (f := .glo "BadMember") rfl)) h7 (FX7) ⟨_, _, rfl⟩ ⟨_, _, _, _, rfl⟩ rfl,
    xf_mk_what (He.glo_ok X G (c.d.fact 104 (f := .glo "BadTrain") rfl)) h8 (FX8) ⟨_, _, rfl⟩ ⟨_, _, _, _, rfl⟩ rfl⟩
  obtain ⟨fd0, G0⟩ := c.d.def_ 0 (d := d0) rfl
  have b0 := FunD.bindsN (ps := ["_law_source"]) G0 fun _ _ _ _ _ _ us hl => match us, hl with | [_], _ => rfl
  obtain ⟨fd1, G1⟩ := c.d.def_ 1 (d := d1) rfl
  have b1 := FunD.bindsN (ps := ["thing"]) G1 fun _ _ _ _ _ _ us hl => match us, hl with | [_], _ => rfl
  obtain ⟨fd2, G2⟩ := c.d.def_ 2 (d := d2) rfl
  have b2 := FunD.bindsN (ps := ["_law_state_here", "_law_base"]) G2 fun _ _ _ _ _ _ us hl => match us, hl with | [_, _], _ => rfl
  obtain ⟨fd3, G3⟩ := c.d.def_ 3 (d := d3) rfl
  have b3 := FunD.bindsN (ps := ["member"]) G3 fun _ _ _ _ _ _ us hl => match us, hl with | [_], _ => rfl
  obtain ⟨fd4, G4⟩ := c.d.def_ 4 (d := d4) rfl
  have b4 := FunD.bindsN (ps := ["row"]) G4 fun _ _ _ _ _ _ us hl => match us, hl with | [_], _ => rfl
  obtain ⟨fd5, G5⟩ := c.d.def_ 5 (d := d5) rfl
  have b5 := FunD.bindsN (ps := ["thing"]) G5 fun _ _ _ _ _ _ us hl => match us, hl with | [_], _ => rfl
  obtain ⟨fd6, G6⟩ := c.d.def_ 6 (d := d6) rfl
  have b6 := FunD.bindsN (ps := ["stream"]) G6 fun _ _ _ _ _ _ us hl => match us, hl with | [_], _ => rfl
  obtain ⟨fd7, G7⟩ := c.d.def_ 7 (d := d7) rfl
  have b7 := FunD.bindsN (ps := ["stream"]) G7 fun _ _ _ _ _ _ us hl => match us, hl with | [_], _ => rfl
  obtain ⟨fd8, G8⟩ := c.d.def_ 8 (d := d8) rfl
  have b8 := FunD.bindsN (ps := ["bus"]) G8 fun _ _ _ _ _ _ us hl => match us, hl with | [_], _ => rfl
  obtain ⟨fd9, G9⟩ := c.d.def_ 9 (d := d9) rfl
  have b9 := FunD.bindsN (ps := ["gaps"]) G9 fun _ _ _ _ _ _ us hl => match us, hl with | [_], _ => rfl
  obtain ⟨fd10, G10⟩ := c.d.def_ 10 (d := d10) rfl
  have b10 := FunD.bindsN (ps := ["train"]) G10 fun _ _ _ _ _ _ us hl => match us, hl with | [_], _ => rfl
  obtain ⟨fd11, G11⟩ := c.d.def_ 11 (d := d11) rfl
  have b11 := FunD.bindsN (ps := ["text"]) G11 fun _ _ _ _ _ _ us hl => match us, hl with | [_], _ => rfl
  obtain ⟨fd12, G12⟩ := c.d.def_ 12 (d := d12) rfl
  have b12 := FunD.bindsN (ps := ["text"]) G12 fun _ _ _ _ _ _ us hl => match us, hl with | [_], _ => rfl
  obtain ⟨fd13, G13⟩ := c.d.def_ 13 (d := d13) rfl
  have b13 := FunD.bindsN (ps := ["text", "place"]) G13 fun _ _ _ _ _ _ us hl => match us, hl with | [_, _], _ => rfl
  obtain ⟨fd14, G14⟩ := c.d.def_ 14 (d := d14) rfl
  have b14 := FunD.bindsN (ps := ["text", "place"]) G14 fun _ _ _ _ _ _ us hl => match us, hl with | [_, _], _ => rfl
  obtain ⟨fd15, G15⟩ := c.d.def_ 15 (d := d15) rfl
  have b15 := FunD.bindsN (ps := ["kind", "number"]) G15 fun _ _ _ _ _ _ us hl => match us, hl with | [_, _], _ => rfl
  obtain ⟨fd16, G16⟩ := c.d.def_ 16 (d := d16) rfl
  have b16 := FunD.bindsN (ps := ["text"]) G16 fun _ _ _ _ _ _ us hl => match us, hl with | [_], _ => rfl
  obtain ⟨fd17, G17⟩ := c.d.def_ 17 (d := d17) rfl
  have b17 := FunD.bindsN (ps := ["thing"]) G17 fun _ _ _ _ _ _ us hl => match us, hl with | [_], _ => rfl
  obtain ⟨fd18, G18⟩ := c.d.def_ 18 (d := d18) rfl
  have b18 := FunD.bindsN (ps := ["thing"]) G18 fun _ _ _ _ _ _ us hl => match us, hl with | [_], _ => rfl
  obtain ⟨fd19, G19⟩ := c.d.def_ 19 (d := d19) rfl
  have b19 := FunD.bindsN (ps := ["_law_numbers"]) G19 fun _ _ _ _ _ _ us hl => match us, hl with | [_], _ => rfl
  obtain ⟨fd20, G20⟩ := c.d.def_ 20 (d := d20) rfl
  have b20 := FunD.bindsN (ps := ["text", "place", "is_counted"]) G20 fun _ _ _ _ _ _ us hl => match us, hl with | [_, _, _], _ => rfl
  obtain ⟨fd21, G21⟩ := c.d.def_ 21 (d := d21) rfl
  have b21 := FunD.bindsN (ps := ["text"]) G21 fun _ _ _ _ _ _ us hl => match us, hl with | [_], _ => rfl
  obtain ⟨fd22, G22⟩ := c.d.def_ 22 (d := d22) rfl
  have b22 := FunD.bindsN (ps := ["_law_s"]) G22 fun _ _ _ _ _ _ us hl => match us, hl with | [_], _ => rfl
  obtain ⟨fd23, G23⟩ := c.d.def_ 23 (d := d23) rfl
  have b23 := FunD.bindsN (ps := []) G23 fun _ _ _ _ _ _ us hl => match us, hl with | [], _ => rfl
  obtain ⟨fd24, G24⟩ := c.d.def_ 24 (d := d24) rfl
  have b24 := FunD.bindsN (ps := ["_law_s", "_law_many", "_law_most"]) G24 fun _ _ _ _ _ _ us hl => match us, hl with | [_, _, _], _ => rfl
  obtain ⟨fd25, G25⟩ := c.d.def_ 25 (d := d25) rfl
  have b25 := FunD.bindsN (ps := ["_law_s"]) G25 fun _ _ _ _ _ _ us hl => match us, hl with | [_], _ => rfl
  obtain ⟨fd26, G26⟩ := c.d.def_ 26 (d := d26) rfl
  have b26 := FunD.bindsN (ps := ["_law_members_here"]) G26 fun _ _ _ _ _ _ us hl => match us, hl with | [_], _ => rfl
  obtain ⟨fd27, G27⟩ := c.d.def_ 27 (d := d27) rfl
  have b27 := FunD.bindsN (ps := ["_law_steps_here"]) G27 fun _ _ _ _ _ _ us hl => match us, hl with | [_], _ => rfl
  obtain ⟨fd28, G28⟩ := c.d.def_ 28 (d := d28) rfl
  have b28 := FunD.bindsN (ps := ["_law_steps_here"]) G28 fun _ _ _ _ _ _ us hl => match us, hl with | [_], _ => rfl
  obtain ⟨fd29, G29⟩ := c.d.def_ 29 (d := d29) rfl
  have b29 := FunD.bindsN (ps := ["text"]) G29 fun _ _ _ _ _ _ us hl => match us, hl with | [_], _ => rfl
  obtain ⟨fd30, G30⟩ := c.d.def_ 30 (d := d30) rfl
  have b30 := FunD.bindsN (ps := ["_law_members_here"]) G30 fun _ _ _ _ _ _ us hl => match us, hl with | [_], _ => rfl
  obtain ⟨fd31, G31⟩ := c.d.def_ 31 (d := d31) rfl
  have b31 := FunD.bindsN (ps := ["_law_s"]) G31 fun _ _ _ _ _ _ us hl => match us, hl with | [_], _ => rfl
  obtain ⟨fd32, G32⟩ := c.d.def_ 32 (d := d32) rfl
  have b32 := FunD.bindsN (ps := ["_law_s", "_law_many", "_law_gaps_here"]) G32 fun _ _ _ _ _ _ us hl => match us, hl with | [_, _, _], _ => rfl
  obtain ⟨fd33, G33⟩ := c.d.def_ 33 (d := d33) rfl
  have b33 := FunD.bindsN (ps := ["_law_s"]) G33 fun _ _ _ _ _ _ us hl => match us, hl with | [_], _ => rfl
  obtain ⟨fd34, G34⟩ := c.d.def_ 34 (d := d34) rfl
  have b34 := FunD.bindsN (ps := ["text"]) G34 fun _ _ _ _ _ _ us hl => match us, hl with | [_], _ => rfl
  obtain ⟨fd35, G35⟩ := c.d.def_ 35 (d := d35) rfl
  have b35 := FunD.bindsN (ps := ["_law_s"]) G35 fun _ _ _ _ _ _ us hl => match us, hl with | [_], _ => rfl
  obtain ⟨fd36, G36⟩ := c.d.def_ 36 (d := d36) rfl
  have b36 := FunD.bindsN (ps := ["_law_script"]) G36 fun _ _ _ _ _ _ us hl => match us, hl with | [_], _ => rfl
  obtain ⟨fd37, G37⟩ := c.d.def_ 37 (d := d37) rfl
  have b37 := FunD.bindsN (ps := ["self", "steps"]) G37 fun _ _ _ _ _ _ us hl => match us, hl with | [_, _], _ => rfl
  obtain ⟨fd38, G38⟩ := c.d.def_ 38 (d := d38) rfl
  have b38 := FunD.bindsN (ps := ["self", "d"]) G38 fun _ _ _ _ _ _ us hl => match us, hl with | [_, _], _ => rfl
  obtain ⟨fd39, G39⟩ := c.d.def_ 39 (d := d39) rfl
  have b39 := FunD.bindsN (ps := ["self", "q"]) G39 fun _ _ _ _ _ _ us hl => match us, hl with | [_, _], _ => rfl
  obtain ⟨fd40, G40⟩ := c.d.def_ 40 (d := d40) rfl
  have b40 := FunD.bindsN (ps := ["self", "q"]) G40 fun _ _ _ _ _ _ us hl => match us, hl with | [_, _], _ => rfl
  obtain ⟨fd41, G41⟩ := c.d.def_ 41 (d := d41) rfl
  have b41 := FunD.bindsN (ps := ["self", "q"]) G41 fun _ _ _ _ _ _ us hl => match us, hl with | [_, _], _ => rfl
  obtain ⟨fd42, G42⟩ := c.d.def_ 42 (d := d42) rfl
  have b42 := FunD.bindsN (ps := ["self", "members"]) G42 fun _ _ _ _ _ _ us hl => match us, hl with | [_, _], _ => rfl
  obtain ⟨fd43, G43⟩ := c.d.def_ 43 (d := d43) rfl
  have b43 := FunD.bindsN (ps := ["self", "first", "head", "block", "rounds", "end"]) G43 fun _ _ _ _ _ _ us hl => match us, hl with | [_, _, _, _, _, _], _ => rfl
  obtain ⟨fd44, G44⟩ := c.d.def_ 44 (d := d44) rfl
  have b44 := FunD.bindsN (ps := ["self", "other"]) G44 fun _ _ _ _ _ _ us hl => match us, hl with | [_, _], _ => rfl
  obtain ⟨fd45, G45⟩ := c.d.def_ 45 (d := d45) rfl
  have b45 := FunD.bindsN (ps := ["self", "other"]) G45 fun _ _ _ _ _ _ us hl => match us, hl with | [_, _], _ => rfl
  obtain ⟨fd46, G46⟩ := c.d.def_ 46 (d := d46) rfl
  have b46 := FunD.bindsN (ps := ["self", "other"]) G46 fun _ _ _ _ _ _ us hl => match us, hl with | [_, _], _ => rfl
  obtain ⟨fd47, G47⟩ := c.d.def_ 47 (d := d47) rfl
  have b47 := FunD.bindsN (ps := ["self", "other"]) G47 fun _ _ _ _ _ _ us hl => match us, hl with | [_, _], _ => rfl
  obtain ⟨fd48, G48⟩ := c.d.def_ 48 (d := d48) rfl
  have b48 := FunD.bindsN (ps := ["self", "other"]) G48 fun _ _ _ _ _ _ us hl => match us, hl with | [_, _], _ => rfl
  obtain ⟨fd49, G49⟩ := c.d.def_ 49 (d := d49) rfl
  have b49 := FunD.bindsN (ps := ["self", "other"]) G49 fun _ _ _ _ _ _ us hl => match us, hl with | [_, _], _ => rfl
  obtain ⟨fd50, G50⟩ := c.d.def_ 50 (d := d50) rfl
  have b50 := FunD.bindsN (ps := ["self", "other"]) G50 fun _ _ _ _ _ _ us hl => match us, hl with | [_, _], _ => rfl
  obtain ⟨fd51, G51⟩ := c.d.def_ 51 (d := d51) rfl
  have b51 := FunD.bindsN (ps := ["self", "other"]) G51 fun _ _ _ _ _ _ us hl => match us, hl with | [_, _], _ => rfl
  obtain ⟨fd52, G52⟩ := c.d.def_ 52 (d := d52) rfl
  have b52 := FunD.bindsN (ps := ["self", "other"]) G52 fun _ _ _ _ _ _ us hl => match us, hl with | [_, _], _ => rfl
  obtain ⟨fd53, G53⟩ := c.d.def_ 53 (d := d53) rfl
  have b53 := FunD.bindsN (ps := ["self", "other"]) G53 fun _ _ _ _ _ _ us hl => match us, hl with | [_, _], _ => rfl
  obtain ⟨fd54, G54⟩ := c.d.def_ 54 (d := d54) rfl
  have b54 := FunD.bindsN (ps := ["self", "other"]) G54 fun _ _ _ _ _ _ us hl => match us, hl with | [_, _], _ => rfl
  obtain ⟨fd55, G55⟩ := c.d.def_ 55 (d := d55) rfl
  have b55 := FunD.bindsN (ps := ["self"]) G55 fun _ _ _ _ _ _ us hl => match us, hl with | [_], _ => rfl
  obtain ⟨fd56, G56⟩ := c.d.def_ 56 (d := d56) rfl
  have b56 := FunD.bindsN (ps := ["self"]) G56 fun _ _ _ _ _ _ us hl => match us, hl with | [_], _ => rfl
  obtain ⟨fd57, G57⟩ := c.d.def_ 57 (d := d57) rfl
  have b57 := FunD.bindsN (ps := ["self"]) G57 fun _ _ _ _ _ _ us hl => match us, hl with | [_], _ => rfl
  obtain ⟨fd58, G58⟩ := c.d.def_ 58 (d := d58) rfl
  have b58 := FunD.bindsN (ps := ["self"]) G58 fun _ _ _ _ _ _ us hl => match us, hl with | [_], _ => rfl
  obtain ⟨fd59, G59⟩ := c.d.def_ 59 (d := d59) rfl
  have b59 := FunD.bindsN (ps := ["self"]) G59 fun _ _ _ _ _ _ us hl => match us, hl with | [_], _ => rfl
  obtain ⟨fd60, G60⟩ := c.d.def_ 60 (d := d60) rfl
  have b60 := FunD.bindsN (ps := ["self"]) G60 fun _ _ _ _ _ _ us hl => match us, hl with | [_], _ => rfl
  obtain ⟨fd61, G61⟩ := c.d.def_ 61 (d := d61) rfl
  have b61 := FunD.bindsN (ps := ["self"]) G61 fun _ _ _ _ _ _ us hl => match us, hl with | [_], _ => rfl
  obtain ⟨fd62, G62⟩ := c.d.def_ 62 (d := d62) rfl
  have b62 := FunD.bindsN (ps := ["self"]) G62 fun _ _ _ _ _ _ us hl => match us, hl with | [_], _ => rfl
  obtain ⟨fd63, G63⟩ := c.d.def_ 63 (d := d63) rfl
  have b63 := FunD.bindsN (ps := ["self"]) G63 fun _ _ _ _ _ _ us hl => match us, hl with | [_], _ => rfl
  obtain ⟨fd64, G64⟩ := c.d.def_ 64 (d := d64) rfl
  have b64 := FunD.bindsN (ps := ["self"]) G64 fun _ _ _ _ _ _ us hl => match us, hl with | [_], _ => rfl
  obtain ⟨fd65, G65⟩ := c.d.def_ 65 (d := d65) rfl
  have b65 := FunD.bindsN (ps := ["self"]) G65 fun _ _ _ _ _ _ us hl => match us, hl with | [_], _ => rfl
  obtain ⟨fd66, G66⟩ := c.d.def_ 66 (d := d66) rfl
  have b66 := FunD.bindsN (ps := ["self"]) G66 fun _ _ _ _ _ _ us hl => match us, hl with | [_], _ => rfl
  obtain ⟨fd67, G67⟩ := c.d.def_ 67 (d := d67) rfl
  have b67 := FunD.bindsN (ps := ["self"]) G67 fun _ _ _ _ _ _ us hl => match us, hl with | [_], _ => rfl
  obtain ⟨fd68, G68⟩ := c.d.def_ 68 (d := d68) rfl
  have b68 := FunD.bindsN (ps := ["self"]) G68 fun _ _ _ _ _ _ us hl => match us, hl with | [_], _ => rfl
  have e := hfa.symm.trans (He.glo_ok X G (c.d.fact 56 (f := .glo "law") rfl))
  cases e
  have bl := FunD.bindsA (ps := ["_law_script"]) G36 fun _ _ _ _ _ _ us hl => match us, hl with | [_], _ => rfl
  refine ⟨fd36, fun s v => bl s [v] rfl, fun base _ _ => ?_⟩
  have ME_class_name_Last : MeT P w K mg base 1 "Last" "class_name" ["self"] (TF F_Last_class_name) := ⟨_, _, ((fn_T G55 sc_Last_class_name tf_len (q_Last_class_name E0 ) (tf_sem (N := N_Last_class_name) (n := 1) (b := b_Last_class_name)))).mono (by decide), He.meth_ok (c.d.fact 85 (f := .meth "Last" "class_name") rfl), He.cls_ok (c.d.fact 72 (f := .cls "Last") rfl), b55⟩
  have ME_class_name_First : MeT P w K mg base 1 "First" "class_name" ["self"] (TF F_First_class_name) := ⟨_, _, ((fn_T G56 sc_First_class_name tf_len (q_First_class_name E0 ) (tf_sem (N := N_First_class_name) (n := 1) (b := b_First_class_name)))).mono (by decide), He.meth_ok (c.d.fact 86 (f := .meth "First" "class_name") rfl), He.cls_ok (c.d.fact 74 (f := .cls "First") rfl), b56⟩
  have ME_class_name_Limit : MeT P w K mg base 1 "Limit" "class_name" ["self"] (TF F_Limit_class_name) := ⟨_, _, ((fn_T G57 sc_Limit_class_name tf_len (q_Limit_class_name E0 ) (tf_sem (N := N_Limit_class_name) (n := 1) (b := b_Limit_class_name)))).mono (by decide), He.meth_ok (c.d.fact 87 (f := .meth "Limit" "class_name") rfl), He.cls_ok (c.d.fact 76 (f := .cls "Limit") rfl), b57⟩
  have ME_class_name_Delay : MeT P w K mg base 1 "Delay" "class_name" ["self"] (TF F_Delay_class_name) := ⟨_, _, ((fn_T G58 sc_Delay_class_name tf_len (q_Delay_class_name E0 ) (tf_sem (N := N_Delay_class_name) (n := 1) (b := b_Delay_class_name)))).mono (by decide), He.meth_ok (c.d.fact 88 (f := .meth "Delay" "class_name") rfl), He.cls_ok (c.d.fact 78 (f := .cls "Delay") rfl), b58⟩
  have ME_class_name_Last_First_Limit_Delay : ∀ q ∈ TFs [("Last", F_Last_class_name), ("First", F_First_class_name), ("Limit", F_Limit_class_name), ("Delay", F_Delay_class_name)], MeT P w K mg base 1 q.1 "class_name" ["self"] q.2 := fun q hq => by
    simp only [TFs, List.map_cons, List.map_nil, List.mem_cons, List.not_mem_nil, or_false] at hq
    rcases hq with rfl | rfl | rfl | rfl
    · exact ME_class_name_Last
    · exact ME_class_name_First
    · exact ME_class_name_Limit
    · exact ME_class_name_Delay
  have ME_facts_Last : MeT P w K mg base 1 "Last" "facts" ["self"] (TF F_Member_facts) := ⟨_, _, ((fn_T G62 sc_Member_facts tf_len (q_Member_facts E0 ) (tf_sem (N := N_Member_facts) (n := 1) (b := b_Member_facts)))).mono (by decide), He.meth_ok (c.d.fact 92 (f := .meth "Last" "facts") rfl), He.cls_ok (c.d.fact 72 (f := .cls "Last") rfl), b62⟩
  have ME_facts_First : MeT P w K mg base 1 "First" "facts" ["self"] (TF F_Member_facts) := ⟨_, _, ((fn_T G63 sc_Member_facts tf_len (q_Member_facts E0 ) (tf_sem (N := N_Member_facts) (n := 1) (b := b_Member_facts)))).mono (by decide), He.meth_ok (c.d.fact 93 (f := .meth "First" "facts") rfl), He.cls_ok (c.d.fact 74 (f := .cls "First") rfl), b63⟩
  have ME_facts_Limit : MeT P w K mg base 1 "Limit" "facts" ["self"] (TF F_Member_facts) := ⟨_, _, ((fn_T G64 sc_Member_facts tf_len (q_Member_facts E0 ) (tf_sem (N := N_Member_facts) (n := 1) (b := b_Member_facts)))).mono (by decide), He.meth_ok (c.d.fact 94 (f := .meth "Limit" "facts") rfl), He.cls_ok (c.d.fact 76 (f := .cls "Limit") rfl), b64⟩
  have ME_facts_Delay : MeT P w K mg base 1 "Delay" "facts" ["self"] (TF F_Delay_facts) := ⟨_, _, ((fn_T G65 sc_Delay_facts tf_len (q_Delay_facts E0 ) (tf_sem (N := N_Delay_facts) (n := 1) (b := b_Delay_facts)))).mono (by decide), He.meth_ok (c.d.fact 95 (f := .meth "Delay" "facts") rfl), He.cls_ok (c.d.fact 78 (f := .cls "Delay") rfl), b65⟩
  have ME_facts_Last_First_Limit_Delay : ∀ q ∈ TFs [("Last", F_Member_facts), ("First", F_Member_facts), ("Limit", F_Member_facts), ("Delay", F_Delay_facts)], MeT P w K mg base 1 q.1 "facts" ["self"] q.2 := fun q hq => by
    simp only [TFs, List.map_cons, List.map_nil, List.mem_cons, List.not_mem_nil, or_false] at hq
    rcases hq with rfl | rfl | rfl | rfl
    · exact ME_facts_Last
    · exact ME_facts_First
    · exact ME_facts_Limit
    · exact ME_facts_Delay
  have ME___eq___0_Last : MeT P w K mg base 2 "Last" "__eq__" ["self", "other"] (TF F_Thing___eq___0) := ⟨_, _, ((fn_T G44 sc_Thing___eq___0 tf_len (q_Thing___eq___0 E0 ME_class_name_Last_First_Limit_Delay ME_facts_Last_First_Limit_Delay) (tf_sem (N := N_Thing___eq___0) (n := 2) (b := b_Thing___eq___0)))).mono (by decide), He.meth_ok (c.d.fact 71 (f := .meth "Last" "__eq__") rfl), He.cls_ok (c.d.fact 72 (f := .cls "Last") rfl), b44⟩
  have ME___eq___0_First : MeT P w K mg base 2 "First" "__eq__" ["self", "other"] (TF F_Thing___eq___0) := ⟨_, _, ((fn_T G45 sc_Thing___eq___0 tf_len (q_Thing___eq___0 E0 ME_class_name_Last_First_Limit_Delay ME_facts_Last_First_Limit_Delay) (tf_sem (N := N_Thing___eq___0) (n := 2) (b := b_Thing___eq___0)))).mono (by decide), He.meth_ok (c.d.fact 73 (f := .meth "First" "__eq__") rfl), He.cls_ok (c.d.fact 74 (f := .cls "First") rfl), b45⟩
  have ME___eq___0_Limit : MeT P w K mg base 2 "Limit" "__eq__" ["self", "other"] (TF F_Thing___eq___0) := ⟨_, _, ((fn_T G46 sc_Thing___eq___0 tf_len (q_Thing___eq___0 E0 ME_class_name_Last_First_Limit_Delay ME_facts_Last_First_Limit_Delay) (tf_sem (N := N_Thing___eq___0) (n := 2) (b := b_Thing___eq___0)))).mono (by decide), He.meth_ok (c.d.fact 75 (f := .meth "Limit" "__eq__") rfl), He.cls_ok (c.d.fact 76 (f := .cls "Limit") rfl), b46⟩
  have ME___eq___0_Delay : MeT P w K mg base 2 "Delay" "__eq__" ["self", "other"] (TF F_Thing___eq___0) := ⟨_, _, ((fn_T G47 sc_Thing___eq___0 tf_len (q_Thing___eq___0 E0 ME_class_name_Last_First_Limit_Delay ME_facts_Last_First_Limit_Delay) (tf_sem (N := N_Thing___eq___0) (n := 2) (b := b_Thing___eq___0)))).mono (by decide), He.meth_ok (c.d.fact 77 (f := .meth "Delay" "__eq__") rfl), He.cls_ok (c.d.fact 78 (f := .cls "Delay") rfl), b47⟩
  have ME___eq___0_Last_First_Limit_Delay : ∀ q ∈ TFs [("Last", F_Thing___eq___0), ("First", F_Thing___eq___0), ("Limit", F_Thing___eq___0), ("Delay", F_Thing___eq___0)], MeT P w K mg base 2 q.1 "__eq__" ["self", "other"] q.2 := fun q hq => by
    simp only [TFs, List.map_cons, List.map_nil, List.mem_cons, List.not_mem_nil, or_false] at hq
    rcases hq with rfl | rfl | rfl | rfl
    · exact ME___eq___0_Last
    · exact ME___eq___0_First
    · exact ME___eq___0_Limit
    · exact ME___eq___0_Delay
  have ME_class_name_Last : MeT P w K mg base 1 "Last" "class_name" ["self"] (TF F_Last_class_name) := ⟨_, _, ((fn_T G55 sc_Last_class_name tf_len (q_Last_class_name E0 ) (tf_sem (N := N_Last_class_name) (n := 1) (b := b_Last_class_name)))).mono (by decide), He.meth_ok (c.d.fact 85 (f := .meth "Last" "class_name") rfl), He.cls_ok (c.d.fact 72 (f := .cls "Last") rfl), b55⟩
  have ME_class_name_First : MeT P w K mg base 1 "First" "class_name" ["self"] (TF F_First_class_name) := ⟨_, _, ((fn_T G56 sc_First_class_name tf_len (q_First_class_name E0 ) (tf_sem (N := N_First_class_name) (n := 1) (b := b_First_class_name)))).mono (by decide), He.meth_ok (c.d.fact 86 (f := .meth "First" "class_name") rfl), He.cls_ok (c.d.fact 74 (f := .cls "First") rfl), b56⟩
  have ME_class_name_Limit : MeT P w K mg base 1 "Limit" "class_name" ["self"] (TF F_Limit_class_name) := ⟨_, _, ((fn_T G57 sc_Limit_class_name tf_len (q_Limit_class_name E0 ) (tf_sem (N := N_Limit_class_name) (n := 1) (b := b_Limit_class_name)))).mono (by decide), He.meth_ok (c.d.fact 87 (f := .meth "Limit" "class_name") rfl), He.cls_ok (c.d.fact 76 (f := .cls "Limit") rfl), b57⟩
  have ME_class_name_Delay : MeT P w K mg base 1 "Delay" "class_name" ["self"] (TF F_Delay_class_name) := ⟨_, _, ((fn_T G58 sc_Delay_class_name tf_len (q_Delay_class_name E0 ) (tf_sem (N := N_Delay_class_name) (n := 1) (b := b_Delay_class_name)))).mono (by decide), He.meth_ok (c.d.fact 88 (f := .meth "Delay" "class_name") rfl), He.cls_ok (c.d.fact 78 (f := .cls "Delay") rfl), b58⟩
  have ME_class_name_Row : MeT P w K mg base 1 "Row" "class_name" ["self"] (TF F_Row_class_name) := ⟨_, _, ((fn_T G59 sc_Row_class_name tf_len (q_Row_class_name E0 ) (tf_sem (N := N_Row_class_name) (n := 1) (b := b_Row_class_name)))).mono (by decide), He.meth_ok (c.d.fact 89 (f := .meth "Row" "class_name") rfl), He.cls_ok (c.d.fact 80 (f := .cls "Row") rfl), b59⟩
  have ME_class_name_Bus : MeT P w K mg base 1 "Bus" "class_name" ["self"] (TF F_Bus_class_name) := ⟨_, _, ((fn_T G60 sc_Bus_class_name tf_len (q_Bus_class_name E0 ) (tf_sem (N := N_Bus_class_name) (n := 1) (b := b_Bus_class_name)))).mono (by decide), He.meth_ok (c.d.fact 90 (f := .meth "Bus" "class_name") rfl), He.cls_ok (c.d.fact 82 (f := .cls "Bus") rfl), b60⟩
  have ME_class_name_Train : MeT P w K mg base 1 "Train" "class_name" ["self"] (TF F_Train_class_name) := ⟨_, _, ((fn_T G61 sc_Train_class_name tf_len (q_Train_class_name E0 ) (tf_sem (N := N_Train_class_name) (n := 1) (b := b_Train_class_name)))).mono (by decide), He.meth_ok (c.d.fact 91 (f := .meth "Train" "class_name") rfl), He.cls_ok (c.d.fact 84 (f := .cls "Train") rfl), b61⟩
  have ME_class_name_Last_First_Limit_Delay_Row_Bus_Train : ∀ q ∈ TFs [("Last", F_Last_class_name), ("First", F_First_class_name), ("Limit", F_Limit_class_name), ("Delay", F_Delay_class_name), ("Row", F_Row_class_name), ("Bus", F_Bus_class_name), ("Train", F_Train_class_name)], MeT P w K mg base 1 q.1 "class_name" ["self"] q.2 := fun q hq => by
    simp only [TFs, List.map_cons, List.map_nil, List.mem_cons, List.not_mem_nil, or_false] at hq
    rcases hq with rfl | rfl | rfl | rfl | rfl | rfl | rfl
    · exact ME_class_name_Last
    · exact ME_class_name_First
    · exact ME_class_name_Limit
    · exact ME_class_name_Delay
    · exact ME_class_name_Row
    · exact ME_class_name_Bus
    · exact ME_class_name_Train
  have ME_facts_Last : MeT P w K mg base 1 "Last" "facts" ["self"] (TF F_Member_facts) := ⟨_, _, ((fn_T G62 sc_Member_facts tf_len (q_Member_facts E0 ) (tf_sem (N := N_Member_facts) (n := 1) (b := b_Member_facts)))).mono (by decide), He.meth_ok (c.d.fact 92 (f := .meth "Last" "facts") rfl), He.cls_ok (c.d.fact 72 (f := .cls "Last") rfl), b62⟩
  have ME_facts_First : MeT P w K mg base 1 "First" "facts" ["self"] (TF F_Member_facts) := ⟨_, _, ((fn_T G63 sc_Member_facts tf_len (q_Member_facts E0 ) (tf_sem (N := N_Member_facts) (n := 1) (b := b_Member_facts)))).mono (by decide), He.meth_ok (c.d.fact 93 (f := .meth "First" "facts") rfl), He.cls_ok (c.d.fact 74 (f := .cls "First") rfl), b63⟩
  have ME_facts_Limit : MeT P w K mg base 1 "Limit" "facts" ["self"] (TF F_Member_facts) := ⟨_, _, ((fn_T G64 sc_Member_facts tf_len (q_Member_facts E0 ) (tf_sem (N := N_Member_facts) (n := 1) (b := b_Member_facts)))).mono (by decide), He.meth_ok (c.d.fact 94 (f := .meth "Limit" "facts") rfl), He.cls_ok (c.d.fact 76 (f := .cls "Limit") rfl), b64⟩
  have ME_facts_Delay : MeT P w K mg base 1 "Delay" "facts" ["self"] (TF F_Delay_facts) := ⟨_, _, ((fn_T G65 sc_Delay_facts tf_len (q_Delay_facts E0 ) (tf_sem (N := N_Delay_facts) (n := 1) (b := b_Delay_facts)))).mono (by decide), He.meth_ok (c.d.fact 95 (f := .meth "Delay" "facts") rfl), He.cls_ok (c.d.fact 78 (f := .cls "Delay") rfl), b65⟩
  have ME_facts_Row : MeT P w K mg base 1 "Row" "facts" ["self"] (TF F_Row_facts) := ⟨_, _, ((fn_T G66 sc_Row_facts tf_len (q_Row_facts E0 ) (tf_sem (N := N_Row_facts) (n := 1) (b := b_Row_facts)))).mono (by decide), He.meth_ok (c.d.fact 96 (f := .meth "Row" "facts") rfl), He.cls_ok (c.d.fact 80 (f := .cls "Row") rfl), b66⟩
  have ME_facts_Bus : MeT P w K mg base 1 "Bus" "facts" ["self"] (TF F_Bus_facts) := ⟨_, _, ((fn_T G67 sc_Bus_facts tf_len (q_Bus_facts E0 ) (tf_sem (N := N_Bus_facts) (n := 1) (b := b_Bus_facts)))).mono (by decide), He.meth_ok (c.d.fact 97 (f := .meth "Bus" "facts") rfl), He.cls_ok (c.d.fact 82 (f := .cls "Bus") rfl), b67⟩
  have ME_facts_Train : MeT P w K mg base 1 "Train" "facts" ["self"] (TF F_Train_facts) := ⟨_, _, ((fn_T G68 sc_Train_facts tf_len (q_Train_facts E0 ) (tf_sem (N := N_Train_facts) (n := 1) (b := b_Train_facts)))).mono (by decide), He.meth_ok (c.d.fact 98 (f := .meth "Train" "facts") rfl), He.cls_ok (c.d.fact 84 (f := .cls "Train") rfl), b68⟩
  have ME_facts_Last_First_Limit_Delay_Row_Bus_Train : ∀ q ∈ TFs [("Last", F_Member_facts), ("First", F_Member_facts), ("Limit", F_Member_facts), ("Delay", F_Delay_facts), ("Row", F_Row_facts), ("Bus", F_Bus_facts), ("Train", F_Train_facts)], MeT P w K mg base 1 q.1 "facts" ["self"] q.2 := fun q hq => by
    simp only [TFs, List.map_cons, List.map_nil, List.mem_cons, List.not_mem_nil, or_false] at hq
    rcases hq with rfl | rfl | rfl | rfl | rfl | rfl | rfl
    · exact ME_facts_Last
    · exact ME_facts_First
    · exact ME_facts_Limit
    · exact ME_facts_Delay
    · exact ME_facts_Row
    · exact ME_facts_Bus
    · exact ME_facts_Train
  have ME___eq___1_Last : MeT P w K mg base 9 "Last" "__eq__" ["self", "other"] (TF F_Thing___eq___1) := ⟨_, _, ((fn_T G48 sc_Thing___eq___1 tf_len (q_Thing___eq___1 E0 ME___eq___0_Last_First_Limit_Delay ME_class_name_Last_First_Limit_Delay_Row_Bus_Train ME_facts_Last_First_Limit_Delay_Row_Bus_Train) (tf_sem (N := N_Thing___eq___1) (n := 2) (b := b_Thing___eq___1)))).mono (by decide), He.meth_ok (c.d.fact 71 (f := .meth "Last" "__eq__") rfl), He.cls_ok (c.d.fact 72 (f := .cls "Last") rfl), b48⟩
  have ME___eq___1_First : MeT P w K mg base 9 "First" "__eq__" ["self", "other"] (TF F_Thing___eq___1) := ⟨_, _, ((fn_T G49 sc_Thing___eq___1 tf_len (q_Thing___eq___1 E0 ME___eq___0_Last_First_Limit_Delay ME_class_name_Last_First_Limit_Delay_Row_Bus_Train ME_facts_Last_First_Limit_Delay_Row_Bus_Train) (tf_sem (N := N_Thing___eq___1) (n := 2) (b := b_Thing___eq___1)))).mono (by decide), He.meth_ok (c.d.fact 73 (f := .meth "First" "__eq__") rfl), He.cls_ok (c.d.fact 74 (f := .cls "First") rfl), b49⟩
  have ME___eq___1_Limit : MeT P w K mg base 9 "Limit" "__eq__" ["self", "other"] (TF F_Thing___eq___1) := ⟨_, _, ((fn_T G50 sc_Thing___eq___1 tf_len (q_Thing___eq___1 E0 ME___eq___0_Last_First_Limit_Delay ME_class_name_Last_First_Limit_Delay_Row_Bus_Train ME_facts_Last_First_Limit_Delay_Row_Bus_Train) (tf_sem (N := N_Thing___eq___1) (n := 2) (b := b_Thing___eq___1)))).mono (by decide), He.meth_ok (c.d.fact 75 (f := .meth "Limit" "__eq__") rfl), He.cls_ok (c.d.fact 76 (f := .cls "Limit") rfl), b50⟩
  have ME___eq___1_Delay : MeT P w K mg base 9 "Delay" "__eq__" ["self", "other"] (TF F_Thing___eq___1) := ⟨_, _, ((fn_T G51 sc_Thing___eq___1 tf_len (q_Thing___eq___1 E0 ME___eq___0_Last_First_Limit_Delay ME_class_name_Last_First_Limit_Delay_Row_Bus_Train ME_facts_Last_First_Limit_Delay_Row_Bus_Train) (tf_sem (N := N_Thing___eq___1) (n := 2) (b := b_Thing___eq___1)))).mono (by decide), He.meth_ok (c.d.fact 77 (f := .meth "Delay" "__eq__") rfl), He.cls_ok (c.d.fact 78 (f := .cls "Delay") rfl), b51⟩
  have ME___eq___1_Row : MeT P w K mg base 9 "Row" "__eq__" ["self", "other"] (TF F_Thing___eq___1) := ⟨_, _, ((fn_T G52 sc_Thing___eq___1 tf_len (q_Thing___eq___1 E0 ME___eq___0_Last_First_Limit_Delay ME_class_name_Last_First_Limit_Delay_Row_Bus_Train ME_facts_Last_First_Limit_Delay_Row_Bus_Train) (tf_sem (N := N_Thing___eq___1) (n := 2) (b := b_Thing___eq___1)))).mono (by decide), He.meth_ok (c.d.fact 79 (f := .meth "Row" "__eq__") rfl), He.cls_ok (c.d.fact 80 (f := .cls "Row") rfl), b52⟩
  have ME___eq___1_Bus : MeT P w K mg base 9 "Bus" "__eq__" ["self", "other"] (TF F_Thing___eq___1) := ⟨_, _, ((fn_T G53 sc_Thing___eq___1 tf_len (q_Thing___eq___1 E0 ME___eq___0_Last_First_Limit_Delay ME_class_name_Last_First_Limit_Delay_Row_Bus_Train ME_facts_Last_First_Limit_Delay_Row_Bus_Train) (tf_sem (N := N_Thing___eq___1) (n := 2) (b := b_Thing___eq___1)))).mono (by decide), He.meth_ok (c.d.fact 81 (f := .meth "Bus" "__eq__") rfl), He.cls_ok (c.d.fact 82 (f := .cls "Bus") rfl), b53⟩
  have ME___eq___1_Train : MeT P w K mg base 9 "Train" "__eq__" ["self", "other"] (TF F_Thing___eq___1) := ⟨_, _, ((fn_T G54 sc_Thing___eq___1 tf_len (q_Thing___eq___1 E0 ME___eq___0_Last_First_Limit_Delay ME_class_name_Last_First_Limit_Delay_Row_Bus_Train ME_facts_Last_First_Limit_Delay_Row_Bus_Train) (tf_sem (N := N_Thing___eq___1) (n := 2) (b := b_Thing___eq___1)))).mono (by decide), He.meth_ok (c.d.fact 83 (f := .meth "Train" "__eq__") rfl), He.cls_ok (c.d.fact 84 (f := .cls "Train") rfl), b54⟩
  have ME___eq___1_Last_First_Limit_Delay_Row_Bus_Train : ∀ q ∈ TFs [("Last", F_Thing___eq___1), ("First", F_Thing___eq___1), ("Limit", F_Thing___eq___1), ("Delay", F_Thing___eq___1), ("Row", F_Thing___eq___1), ("Bus", F_Thing___eq___1), ("Train", F_Thing___eq___1)], MeT P w K mg base 9 q.1 "__eq__" ["self", "other"] q.2 := fun q hq => by
    simp only [TFs, List.map_cons, List.map_nil, List.mem_cons, List.not_mem_nil, or_false] at hq
    rcases hq with rfl | rfl | rfl | rfl | rfl | rfl | rfl
    · exact ME___eq___1_Last
    · exact ME___eq___1_First
    · exact ME___eq___1_Limit
    · exact ME___eq___1_Delay
    · exact ME___eq___1_Row
    · exact ME___eq___1_Bus
    · exact ME___eq___1_Train
  have H_is_member : FnT P w K mg base 1 "is_member" ["thing"] (TF F_is_member) := ⟨_, _, (fn_T G1 sc_is_member tf_len (q_is_member E0 ) (tf_sem (N := N_is_member) (n := 1) (b := b_is_member))), He.glo_ok X G (c.d.fact 21 (f := .glo "is_member") rfl), G1.kp, b1⟩
  have H_is_name : FnT P w K mg base 1 "is_name" ["thing"] (TF F_is_name) := ⟨_, _, (fn_T G17 sc_is_name tf_len (q_is_name E0 ) (tf_sem (N := N_is_name) (n := 1) (b := b_is_name))), He.glo_ok X G (c.d.fact 37 (f := .glo "is_name") rfl), G17.kp, b17⟩
  have M_Bus : MkT P w K mg base 2 "Bus" ["self", "steps"] (TF F_Bus___init__) := ⟨_, _, (fn_T G37 sc_Bus___init__ tf_len (q_Bus___init__ E0 H_is_member H_is_name) (tf_sem (N := N_Bus___init__) (n := 2) (b := b_Bus___init__))), He.mkr_ok (c.d.fact 64 (f := .mkr "Bus") rfl), E0.g_Bus, b37⟩
  have H_is_number : FnT P w K mg base 1 "is_number" ["thing"] (TF F_is_number) := ⟨_, _, (fn_T G5 sc_is_number tf_len (q_is_number E0 ) (tf_sem (N := N_is_number) (n := 1) (b := b_is_number))), He.glo_ok X G (c.d.fact 25 (f := .glo "is_number") rfl), G5.kp, b5⟩
  have M_Delay : MkT P w K mg base 2 "Delay" ["self", "d"] (TF F_Delay___init__) := ⟨_, _, (fn_T G38 sc_Delay___init__ tf_len (q_Delay___init__ E0 H_is_number) (tf_sem (N := N_Delay___init__) (n := 2) (b := b_Delay___init__))), He.mkr_ok (c.d.fact 65 (f := .mkr "Delay") rfl), E0.g_Delay, b38⟩
  have M_First : MkT P w K mg base 2 "First" ["self", "q"] (TF F_Member___init__) := ⟨_, _, (fn_T G39 sc_Member___init__ tf_len (q_Member___init__ E0 H_is_number) (tf_sem (N := N_Member___init__) (n := 2) (b := b_Member___init__))), He.mkr_ok (c.d.fact 66 (f := .mkr "First") rfl), E0.g_First, b39⟩
  have M_Last : MkT P w K mg base 2 "Last" ["self", "q"] (TF F_Member___init__) := ⟨_, _, (fn_T G40 sc_Member___init__ tf_len (q_Member___init__ E0 H_is_number) (tf_sem (N := N_Member___init__) (n := 2) (b := b_Member___init__))), He.mkr_ok (c.d.fact 67 (f := .mkr "Last") rfl), E0.g_Last, b40⟩
  have M_Limit : MkT P w K mg base 2 "Limit" ["self", "q"] (TF F_Member___init__) := ⟨_, _, (fn_T G41 sc_Member___init__ tf_len (q_Member___init__ E0 H_is_number) (tf_sem (N := N_Member___init__) (n := 2) (b := b_Member___init__))), He.mkr_ok (c.d.fact 68 (f := .mkr "Limit") rfl), E0.g_Limit, b41⟩
  have M_Row : MkT P w K mg base 2 "Row" ["self", "members"] (TF F_Row___init__) := ⟨_, _, (fn_T G42 sc_Row___init__ tf_len (q_Row___init__ E0 H_is_member) (tf_sem (N := N_Row___init__) (n := 2) (b := b_Row___init__))), He.mkr_ok (c.d.fact 69 (f := .mkr "Row") rfl), E0.g_Row, b42⟩
  have H_are_gaps : FnT P w K mg base 2 "are_gaps" ["thing"] (TF F_are_gaps) := ⟨_, _, (fn_T G18 sc_are_gaps tf_len (q_are_gaps E0 H_is_number) (tf_sem (N := N_are_gaps) (n := 1) (b := b_are_gaps))), He.glo_ok X G (c.d.fact 38 (f := .glo "are_gaps") rfl), G18.kp, b18⟩
  have M_Train : MkT P w K mg base 3 "Train" ["self", "first", "head", "block", "rounds", "end"] (TF F_Train___init__) := ⟨_, _, (fn_T G43 sc_Train___init__ tf_len (q_Train___init__ E0 H_are_gaps H_is_number) (tf_sem (N := N_Train___init__) (n := 6) (b := b_Train___init__))), He.mkr_ok (c.d.fact 70 (f := .mkr "Train") rfl), E0.g_Train, b43⟩
  have H__law_digit : FnT P w K mg base 1 "_law_digit" ["_law_state_here", "_law_base"] (TF F__law_digit) := ⟨_, _, (fn_T G2 sc__law_digit tf_len (q__law_digit E0 ) (tf_sem (N := N__law_digit) (n := 2) (b := b__law_digit))), He.glo_ok X G (c.d.fact 22 (f := .glo "_law_digit") rfl), G2.kp, b2⟩
  have H__law_spoken : FnT P w K mg base 1 "_law_spoken" ["_law_numbers"] (TF F__law_spoken) := ⟨_, _, (fn_T G19 sc__law_spoken tf_len (q__law_spoken E0 ) (tf_sem (N := N__law_spoken) (n := 1) (b := b__law_spoken))), He.glo_ok X G (c.d.fact 39 (f := .glo "_law_spoken") rfl), G19.kp, b19⟩
  have H_member_text : FnT P w K mg base 2 "member_text" ["member"] (TF F_member_text) := ⟨_, _, (fn_T G3 sc_member_text tf_len (q_member_text E0 ME_class_name_Last_First_Limit_Delay ME_facts_Last_First_Limit_Delay) (tf_sem (N := N_member_text) (n := 1) (b := b_member_text))), He.glo_ok X G (c.d.fact 23 (f := .glo "member_text") rfl), G3.kp, b3⟩
  have H_bus_text : FnT P w K mg base 3 "bus_text" ["bus"] (TF F_bus_text) := ⟨_, _, (fn_T G8 sc_bus_text tf_len (q_bus_text E0 H_member_text) (tf_sem (N := N_bus_text) (n := 1) (b := b_bus_text))), He.glo_ok X G (c.d.fact 28 (f := .glo "bus_text") rfl), G8.kp, b8⟩
  have H_check_string : FnT P w K mg base 1 "check_string" ["text"] (TF F_check_string) := ⟨_, _, (fn_T G11 sc_check_string tf_len (q_check_string E0 ) (tf_sem (N := N_check_string) (n := 1) (b := b_check_string))), He.glo_ok X G (c.d.fact 31 (f := .glo "check_string") rfl), G11.kp, b11⟩
  have H_member_from : FnT P w K mg base 4 "member_from" ["kind", "number"] (TF F_member_from) := ⟨_, _, (fn_T G15 sc_member_from tf_len (q_member_from E0 M_Delay M_First M_Last M_Limit) (tf_sem (N := N_member_from) (n := 2) (b := b_member_from))), He.glo_ok X G (c.d.fact 35 (f := .glo "member_from") rfl), G15.kp, b15⟩
  have H_is_figures : FnT P w K mg base 1 "is_figures" ["text"] (TF F_is_figures) := ⟨_, _, (fn_T G12 sc_is_figures tf_len (q_is_figures E0 ) (tf_sem (N := N_is_figures) (n := 1) (b := b_is_figures))), He.glo_ok X G (c.d.fact 32 (f := .glo "is_figures") rfl), G12.kp, b12⟩
  have H_read_number : FnT P w K mg base 2 "read_number" ["text", "place"] (TF F_read_number) := ⟨_, _, (fn_T G13 sc_read_number tf_len (q_read_number E0 H_is_figures) (tf_sem (N := N_read_number) (n := 2) (b := b_read_number))), He.glo_ok X G (c.d.fact 33 (f := .glo "read_number") rfl), G13.kp, b13⟩
  have H_pair_from : FnT P w K mg base 3 "pair_from" ["text", "place"] (TF F_pair_from) := ⟨_, _, (fn_T G14 sc_pair_from tf_len (q_pair_from E0 H_read_number) (tf_sem (N := N_pair_from) (n := 2) (b := b_pair_from))), He.glo_ok X G (c.d.fact 34 (f := .glo "pair_from") rfl), G14.kp, b14⟩
  have H_read_row : FnT P w K mg base 5 "read_row" ["text"] (TF F_read_row) := ⟨_, _, (fn_T G16 sc_read_row tf_len (q_read_row E0 M_Row H_check_string H_member_from H_pair_from) (tf_sem (N := N_read_row) (n := 1) (b := b_read_row))), He.glo_ok X G (c.d.fact 36 (f := .glo "read_row") rfl), G16.kp, b16⟩
  have H_check_stream : FnT P w K mg base 2 "check_stream" ["stream"] (TF F_check_stream) := ⟨_, _, (fn_T G6 sc_check_stream tf_len (q_check_stream E0 H_is_number) (tf_sem (N := N_check_stream) (n := 1) (b := b_check_stream))), He.glo_ok X G (c.d.fact 26 (f := .glo "check_stream") rfl), G6.kp, b6⟩
  have H_numbers_from : FnT P w K mg base 3 "numbers_from" ["text", "place", "is_counted"] (TF F_numbers_from) := ⟨_, _, (fn_T G20 sc_numbers_from tf_len (q_numbers_from E0 H_read_number) (tf_sem (N := N_numbers_from) (n := 3) (b := b_numbers_from))), He.glo_ok X G (c.d.fact 40 (f := .glo "numbers_from") rfl), G20.kp, b20⟩
  have H_read_stream : FnT P w K mg base 4 "read_stream" ["text"] (TF F_read_stream) := ⟨_, _, (fn_T G21 sc_read_stream tf_len (q_read_stream E0 H_check_stream H_check_string H_numbers_from) (tf_sem (N := N_read_stream) (n := 1) (b := b_read_stream))), He.glo_ok X G (c.d.fact 41 (f := .glo "read_stream") rfl), G21.kp, b21⟩
  have H_row_text : FnT P w K mg base 9 "row_text" ["row"] (TF F_row_text) := ⟨_, _, (fn_T G4 sc_row_text tf_len (q_row_text E0 ME___eq___0_Last_First_Limit_Delay H_member_text) (tf_sem (N := N_row_text) (n := 1) (b := b_row_text))), He.glo_ok X G (c.d.fact 24 (f := .glo "row_text") rfl), G4.kp, b4⟩
  have H_stream_text : FnT P w K mg base 3 "stream_text" ["stream"] (TF F_stream_text) := ⟨_, _, (fn_T G7 sc_stream_text tf_len (q_stream_text E0 H_check_stream) (tf_sem (N := N_stream_text) (n := 1) (b := b_stream_text))), He.glo_ok X G (c.d.fact 27 (f := .glo "stream_text") rfl), G7.kp, b7⟩
  have H_gaps_text : FnT P w K mg base 1 "gaps_text" ["gaps"] (TF F_gaps_text) := ⟨_, _, (fn_T G9 sc_gaps_text tf_len (q_gaps_text E0 ) (tf_sem (N := N_gaps_text) (n := 1) (b := b_gaps_text))), He.glo_ok X G (c.d.fact 29 (f := .glo "gaps_text") rfl), G9.kp, b9⟩
  have H_train_text : FnT P w K mg base 2 "train_text" ["train"] (TF F_train_text) := ⟨_, _, (fn_T G10 sc_train_text tf_len (q_train_text E0 H_gaps_text) (tf_sem (N := N_train_text) (n := 1) (b := b_train_text))), He.glo_ok X G (c.d.fact 30 (f := .glo "train_text") rfl), G10.kp, b10⟩
  have H__law_long_right : FnT P w K mg base 16 "_law_long_right" ["_law_s"] (TF F__law_long_right) := ⟨_, _, (fn_T G22 sc__law_long_right tf_len (q__law_long_right E0 ME___eq___1_Last_First_Limit_Delay_Row_Bus_Train M_Bus M_Delay M_First M_Last M_Limit M_Row M_Train H__law_digit H__law_spoken H_bus_text H_read_row H_read_stream H_row_text H_stream_text H_train_text) (tf_sem (N := N__law_long_right) (n := 1) (b := b__law_long_right))), He.glo_ok X G (c.d.fact 42 (f := .glo "_law_long_right") rfl), G22.kp, b22⟩
  have H__law_made : FnT P w K mg base 4 "_law_made" ["_law_members_here"] (TF F__law_made) := ⟨_, _, (fn_T G26 sc__law_made tf_len (q__law_made E0 M_Delay M_First M_Last M_Limit) (tf_sem (N := N__law_made) (n := 1) (b := b__law_made))), He.glo_ok X G (c.d.fact 46 (f := .glo "_law_made") rfl), G26.kp, b26⟩
  have H__law_bus : FnT P w K mg base 5 "_law_bus" ["_law_steps_here"] (TF F__law_bus) := ⟨_, _, (fn_T G27 sc__law_bus tf_len (q__law_bus E0 M_Bus H__law_made) (tf_sem (N := N__law_bus) (n := 1) (b := b__law_bus))), He.glo_ok X G (c.d.fact 47 (f := .glo "_law_bus") rfl), G27.kp, b27⟩
  have H__law_kinds : FnT P w K mg base 1 "_law_kinds" [] (TF F__law_kinds) := ⟨_, _, (fn_T G23 sc__law_kinds tf_len (q__law_kinds E0 ) (tf_sem (N := N__law_kinds) (n := 0) (b := b__law_kinds))), He.glo_ok X G (c.d.fact 43 (f := .glo "_law_kinds") rfl), G23.kp, b23⟩
  have H__law_members : FnT P w K mg base 2 "_law_members" ["_law_s", "_law_many", "_law_most"] (TF F__law_members) := ⟨_, _, (fn_T G24 sc__law_members tf_len (q__law_members E0 H__law_digit H__law_kinds) (tf_sem (N := N__law_members) (n := 3) (b := b__law_members))), He.glo_ok X G (c.d.fact 44 (f := .glo "_law_members") rfl), G24.kp, b24⟩
  have H__law_members_text : FnT P w K mg base 1 "_law_members_text" ["_law_members_here"] (TF F__law_members_text) := ⟨_, _, (fn_T G30 sc__law_members_text tf_len (q__law_members_text E0 ) (tf_sem (N := N__law_members_text) (n := 1) (b := b__law_members_text))), He.glo_ok X G (c.d.fact 50 (f := .glo "_law_members_text") rfl), G30.kp, b30⟩
  have H__law_steps : FnT P w K mg base 3 "_law_steps" ["_law_s"] (TF F__law_steps) := ⟨_, _, (fn_T G25 sc__law_steps tf_len (q__law_steps E0 H__law_digit H__law_members) (tf_sem (N := N__law_steps) (n := 1) (b := b__law_steps))), He.glo_ok X G (c.d.fact 45 (f := .glo "_law_steps") rfl), G25.kp, b25⟩
  have H__law_steps_text : FnT P w K mg base 1 "_law_steps_text" ["_law_steps_here"] (TF F__law_steps_text) := ⟨_, _, (fn_T G28 sc__law_steps_text tf_len (q__law_steps_text E0 ) (tf_sem (N := N__law_steps_text) (n := 1) (b := b__law_steps_text))), He.glo_ok X G (c.d.fact 48 (f := .glo "_law_steps_text") rfl), G28.kp, b28⟩
  have H_read_bus : FnT P w K mg base 5 "read_bus" ["text"] (TF F_read_bus) := ⟨_, _, (fn_T G29 sc_read_bus tf_len (q_read_bus E0 M_Bus H_check_string H_is_name H_member_from H_pair_from) (tf_sem (N := N_read_bus) (n := 1) (b := b_read_bus))), He.glo_ok X G (c.d.fact 49 (f := .glo "read_bus") rfl), G29.kp, b29⟩
  have H__law_rows_right : FnT P w K mg base 16 "_law_rows_right" ["_law_s"] (TF F__law_rows_right) := ⟨_, _, (fn_T G31 sc__law_rows_right tf_len (q__law_rows_right E0 ME___eq___1_Last_First_Limit_Delay_Row_Bus_Train M_Row H__law_bus H__law_digit H__law_made H__law_members H__law_members_text H__law_steps H__law_steps_text H_bus_text H_read_bus H_read_row H_row_text) (tf_sem (N := N__law_rows_right) (n := 1) (b := b__law_rows_right))), He.glo_ok X G (c.d.fact 51 (f := .glo "_law_rows_right") rfl), G31.kp, b31⟩
  have H__law_state : FnT P w K mg base 1 "_law_state" ["_law_source"] (TF F__law_state) := ⟨_, _, (fn_T G0 sc__law_state tf_len (q__law_state E0 ) (tf_sem (N := N__law_state) (n := 1) (b := b__law_state))), He.glo_ok X G (c.d.fact 20 (f := .glo "_law_state") rfl), G0.kp, b0⟩
  have H__law_gaps : FnT P w K mg base 2 "_law_gaps" ["_law_s"] (TF F__law_gaps) := ⟨_, _, (fn_T G33 sc__law_gaps tf_len (q__law_gaps E0 H__law_digit) (tf_sem (N := N__law_gaps) (n := 1) (b := b__law_gaps))), He.glo_ok X G (c.d.fact 53 (f := .glo "_law_gaps") rfl), G33.kp, b33⟩
  have H__law_stream : FnT P w K mg base 2 "_law_stream" ["_law_s", "_law_many", "_law_gaps_here"] (TF F__law_stream) := ⟨_, _, (fn_T G32 sc__law_stream tf_len (q__law_stream E0 H__law_digit) (tf_sem (N := N__law_stream) (n := 3) (b := b__law_stream))), He.glo_ok X G (c.d.fact 52 (f := .glo "_law_stream") rfl), G32.kp, b32⟩
  have H_read_train : FnT P w K mg base 5 "read_train" ["text"] (TF F_read_train) := ⟨_, _, (fn_T G34 sc_read_train tf_len (q_read_train E0 M_Train H_check_string H_numbers_from H_read_number) (tf_sem (N := N_read_train) (n := 1) (b := b_read_train))), He.glo_ok X G (c.d.fact 54 (f := .glo "read_train") rfl), G34.kp, b34⟩
  have H__law_streams_right : FnT P w K mg base 16 "_law_streams_right" ["_law_s"] (TF F__law_streams_right) := ⟨_, _, (fn_T G35 sc__law_streams_right tf_len (q__law_streams_right E0 ME___eq___1_Last_First_Limit_Delay_Row_Bus_Train M_Train H__law_digit H__law_gaps H__law_spoken H__law_stream H_read_stream H_read_train H_stream_text H_train_text) (tf_sem (N := N__law_streams_right) (n := 1) (b := b__law_streams_right))), He.glo_ok X G (c.d.fact 55 (f := .glo "_law_streams_right") rfl), G35.kp, b35⟩
  exact (fn_T G36 sc_law len_law (q_law E0 H__law_long_right H__law_rows_right H__law_state H__law_streams_right) s_law)
end Law
open PySem PySem.W PySem.Calls PyProof.Rows
set_option maxRecDepth 100000 in
set_option maxHeartbeats 0 in
theorem PySem.Challenge.cw_quietrows_k78_texts_written_and_read_holds : PySem.Challenge.rw_quietrows_k78_texts_written_and_read.Holds := by
  w_on; o_law
  refine HandSHeadRun.head_any (r := OpenLaw.row PySem.Challenge.rw_quietrows_k78_texts_written_and_read) (q := view (OpenLaw.row PySem.Challenge.rw_quietrows_k78_texts_written_and_read).prog [70]) (H := Law.hk) (ob := Law.ob) (M := 8000) (loose := Law.names) (d := HandSHeadRun.topDef (OpenLaw.row PySem.Challenge.rw_quietrows_k78_texts_written_and_read).prog 70) (kwd := []) Law.ob_eq
    (by kernel_rfl) (fun s => by kernel_rfl) Law.run (by kernel_rfl) (by kernel_rfl) (by kernel_rfl) (by rfl) (by first | assumption | decide +kernel) (by decide +kernel) ⟨rfl, rfl, rfl, rfl, rfl, by decide +kernel⟩ ?hw ?hc
  case hw => w_witness2
  case hc =>
    refine Att.attach_call (l := PySem.Challenge.rw_quietrows_k78_texts_written_and_read) (n := 63) rfl (by kernel_rfl) fun w sa sb mg mb fa o pm cd doc a vs ns GG Y q1 q2 q3 hmg0 hobj hints hlen hgens => ?_
    obtain ⟨K, KX, c⟩ := Y
    have hmg : mg ("law" : PySem.Str) = some (.ref fa) := by
      have e : (HandSHeadRun.topDef (OpenLaw.row PySem.Challenge.rw_quietrows_k78_texts_written_and_read).prog 70).name = ("law" : PySem.Str) := by kernel_rfl
      rw [← e]
      exact hmg0
    obtain ⟨fd, hbind, hF⟩ := Law.facts (P := (PySem.Challenge.rw_quietrows_k78_texts_written_and_read).prog) (w := w) KX GG.T.g hmg c
    exact L2.law_call (x := "_law_script") KX GG.T.g GG.T.b GG.T.builtins GG.T.nolimit hgens hobj hints (Nat.le_trans hlen (by decide)) ⟨rfl, by decide, by decide⟩ hF hbind (fun H _ hS => TL.law_sp hlen hS) fun H e s' z => TL.cx_false H sb e s' z
