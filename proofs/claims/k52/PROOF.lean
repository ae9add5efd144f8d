import PyProof.Rows.All
import Wide.All
import OpenK.AllK
import Wide.FinOn
import HandS.ForMost
import HandS.ForExc
import HandS.IsInst
import HandS.Wide
import HandS.Flow
import HandS.ExcField
import HandS.HeadHook2
import HandS.Conv
import KE.KIsAll
import HandS.NoneIn
import KE.GoesMore
import KE.GoesEnum
import KE.KStateDown
import Lean
import HandS.Ends
import HandS.More
import HandS.Head0
import HandS.Head1
import HandS.Head2
import HandS.HeadEnd
import HandS.TryOnly
import HandS.TupAny
import HandS.Zip
import HandS.Deep
import HandS.Style
import HandS.OwnEq
import PyProof.InstNe
import HandS.Small
import HandS.TupLe
import KE.DataCmp
import HandS.Iter
import HandS.Defaults
import KE.KTupSum
import HandS.WideBits
import PyProof.ListMulAny
import PyProof.MaxThree
import HandS.TryMany
import HandS.Strs
import HandS.NamedTupSort
import PySem.Challenge.RW_quietrows_k52_busses_and_what_is_none
set_option Elab.async false
set_option linter.all false
set_option maxRecDepth 100000
set_option maxHeartbeats 4000000
namespace TL
open PySem PySem.W PySem.Spec L2
/-- no class of cs is an heir of tuple, list, NoneType -/
def rfB (K : PySem.W.Frag) (cs : List Str) : Bool := cs.all fun c => ["tuple", "list", "NoneType"].all fun t => decide (PySem.W.subIn K (.ref (He.ga K c)) (.type t) = some false) && (decide (PySem.W.mroIn K (He.ga K c) (.type t) = some false))
structure CI where
  name : Str
  fields : List Str
  anc : List Str
def bts : List String := ["NoneType", "bool", "int", "str", "list", "tuple", "dict"]
def bsub (t u : String) : Bool := t == u || (t == "bool" && u == "int")
def insB (K : PySem.W.Frag) (C : Addr) : Bool := decide (PySem.W.findIn K (.ref C) "__class__" = some (some (.builtin "object.__class__"))) && (decide (PySem.W.specialIn K (.builtin "object.__class__") "__get__" = some (some (.builtin "getset_descriptor.__get__"))) &&
  (decide (PySem.W.takesIn K (.builtin "object.__class__") = some true) && decide (PySem.W.mroIn K C (.type "object") = some true)))
/-- what the head tells of the classes tb; ks: all classes that are asked for -/
def ctB (K : PySem.W.Frag) (tb : List CI) (ks : List Str) : Bool :=
  (tb.all fun c => (He.Fa.cls c.name).ok K && (insB K (He.ga K c.name) && ((c.fields.all fun f => (He.Fa.noat c.name f).ok K) && ((ks.all fun k => decide (PySem.W.kitOne K (.ref (He.ga K c.name)) (.ref (He.ga K k)) = some (c.anc.contains k))) &&
    (bts.all fun t => decide (PySem.W.kitOne K (.ref (He.ga K c.name)) (.type t) = some false)))))) &&
  ((bts.all fun t => ks.all fun k => decide (PySem.W.kitOne K (.type t) (.ref (He.ga K k)) = some false)) && (bts.all fun t => bts.all fun u => decide (PySem.W.kitOne K (.type t) (.type u) = some (bsub t u))))
structure XI where
  name : Str
  anc : List Str
/-- what is asked of the head: which class is caught by which; which field of which class may be read -/
def xmB (K : PySem.W.Frag) (xt : List XI) (hs : List Str) (xf : List (Str × Str)) : Bool :=
  (xt.all fun k => hs.all fun h => decide (PySem.W.exmOne K (.ref (He.ga K k.name)) (.ref (He.ga K h)) = some (k.anc.contains h))) &&
  (xf.all fun q => xfB K (He.ga K q.1) && decide (PySem.W.findIn K (.ref (He.ga K q.1)) q.2 = some none))
def exclB (K : PySem.W.Frag) (C : Addr) : Bool := match K.lookup C with
  | some ⟨c, _, .cls cd, sl⟩ => decide (c = .type "type") && (cd.hasDict && (!cd.hasDel && ((match cd.mro with
    | m :: bm => decide (m = .ref C) && PySem.HandSPX.refsVE bm
    | [] => false) && (match sl.toList with
    | [_, _, _, _, k4, _] => decide (k4 = some (.builtin "ValueError.__new__"))
    | _ => false))))
  | _ => false
def xcB (K : PySem.W.Frag) (cn f : Str) : Bool := exclB K (He.ga K cn) && (decide (findIn K (.ref (He.ga K cn)) "__setattr__" = some (some (.builtin "object.__setattr__"))) && (decide (findIn K (.ref (He.ga K cn)) "__getattribute__" = some (some (.builtin "BaseException.__getattribute__"))) &&
  (decide (findIn K (.ref (He.ga K cn)) "__getattr__" = some none) && (decide (findIn K (.ref (He.ga K cn)) f = some none) && (decide (findIn K (.ref (He.ga K cn)) "__init__" = some (some (.ref (He.ma K (He.ga K cn) "__init__")))) && (decide (typeIn K (.ref (He.ma K (He.ga K cn) "__init__")) = some (.type "function")) &&
  (keepIn K (.ref (He.ga K cn)) && (decide (subIn K (.ref (He.ga K cn)) (.type "BaseException") = some true) && (decide (typeIn K (.ref (He.ga K cn)) = some (.type "type")) && hasDictIn K (He.ga K cn))))))))))
def x0B (K : PySem.W.Frag) (cn : Str) : Bool := (He.Fa.exc cn).ok K
def djB (K : PySem.W.Frag) (CL : List Str) : Bool := CL.all fun c => CL.all fun c' => c == c' || He.ga K c != He.ga K c'
/-- what the head says: == of these classes goes first; unlike classes lie at unlike places -/
def nfB (K : PySem.W.Frag) (tb : List CI) (cs : List Str) : Bool :=
  cs.all fun c => (bts.all fun t => PySem.W.notFirst K (He.ga K c) (.type t)) && (tb.all fun c' => PySem.W.notFirst K (He.ga K c) (.ref (He.ga K c'.name)))
/-- != goes by object.__ne__ -/
def neB (K : PySem.W.Frag) (cs : List Str) : Bool := cs.all fun c => decide (PySem.W.findIn K (.ref (He.ga K c)) "__ne__" = some (some (.builtin "object.__ne__"))) && decide (PySem.W.mroIn K (He.ga K c) (.type "object") = some true)
/-- what is asked of the head for an own == of the classes cs -/
def oqB (K : PySem.W.Frag) (tb : List CI) (cs : List Str) : Bool := djB K cs && (nfB K tb cs && neB K cs)
abbrev AlX : Type := He.AlD × Bool
structure SaysX (fa : List He.Fa) (fn : List He.DefD) (ex : PySem.W.Frag → Bool) (K : PySem.W.Frag) : Prop where
  d : He.SaysD fa fn K
  e : ex K = true
def obsL (as : List Addr) (fa : List He.Fa) (fn : List He.DefD) (ex : PySem.W.Frag → Bool) (g : Addr → Option Obj) : AlX := (He.obsD fa fn (He.frG g as), ex (He.frG g as))
def hookL (as : List Addr) (fa : List He.Fa) (fn : List He.DefD) (ex : PySem.W.Frag → Bool) : PySem.W.Hook where
  α := AlX
  obs := fun s => obsL as fa fn ex s.heap.get?
  val := fun _ => (He.valD fn, true)
  says := fun _ h => ∃ K : PySem.W.Frag, K.In h ∧ SaysX fa fn ex K
  of := fun _ _ e => ⟨_, He.frG_in, ⟨congrArg Prod.fst e, congrArg Prod.snd e⟩⟩
  keeps := fun _ _ _ ⟨K, hK, c⟩ k => ⟨K, PySem.W.Frag.In.keeps hK k, c⟩
theorem obsL_eq {as : List Addr} {fa : List He.Fa} {fn : List He.DefD} {ex : PySem.W.Frag → Bool} {g : Addr → Option Obj} {s : Shared} (h : ∀ a, g a = s.heap.get? a) : obsL as fa fn ex g = (hookL as fa fn ex).obs s := by
  have e : g = s.heap.get? := funext h
  rw [e] <;> rfl
end TL
namespace Law
open PySem PySem.Spec L2 TL
def xt : List XI := [⟨"QuietError", ["QuietError"]⟩, ⟨"BadMember", ["BadMember", "QuietError"]⟩, ⟨"BadBus", ["BadBus", "QuietError"]⟩]
def xf : List (Str × Str) := [("BadBus", "index")]
def xh : List Str := ["BadBus", "QuietError"]
def tb : List CI := [⟨"Member", ["q"], ["Member", "Thing"]⟩, ⟨"Last", ["q"], ["Last", "Member", "Thing"]⟩, ⟨"First", ["q"], ["First", "Member", "Thing"]⟩, ⟨"Limit", ["q"], ["Limit", "Member", "Thing"]⟩, ⟨"Delay", ["d"], ["Delay", "Thing"]⟩, ⟨"Bus", ["steps"], ["Bus", "Thing"]⟩]
def ks : List Str := ["Thing", "Last", "First", "Limit", "Delay"]
def eq0 : List Str := ["Last", "First", "Limit", "Delay"]
def eq1 : List Str := ["Last", "First", "Limit", "Delay", "Bus"]
def top (i : Nat) : Stmt := PySem.Challenge.pw_quietrows_k52_busses_and_what_is_none.main.body.getD i (.Pass ⟨0, 0, 0, 0⟩)
abbrev st__law_rng : Stmt := top 22
abbrev st__law_cell : Stmt := top 21
abbrev st__law_draw : Stmt := top 23
abbrev st__law_pick : Stmt := top 24
abbrev st_Member_facts : Stmt := inClass (top 9) 1
abbrev st_Delay_facts : Stmt := inClass (top 13) 2
abbrev st_Last_class_name : Stmt := inClass (top 10) 0
abbrev st_First_class_name : Stmt := inClass (top 11) 0
abbrev st_Limit_class_name : Stmt := inClass (top 12) 0
abbrev st_Delay_class_name : Stmt := inClass (top 13) 1
abbrev st_Thing___eq___0 : Stmt := inClass (top 6) 2
abbrev st_is_number : Stmt := top 7
abbrev st_Member___init__ : Stmt := inClass (top 9) 0
abbrev st_Delay___init__ : Stmt := inClass (top 13) 0
abbrev st__law_step : Stmt := top 26
abbrev st__law_steps : Stmt := top 27
abbrev st_is_name : Stmt := top 18
abbrev st_is_member : Stmt := top 14
abbrev st_Bus___init__ : Stmt := inClass (top 19) 0
abbrev st_Bus_facts : Stmt := inClass (top 19) 2
abbrev st_Bus_class_name : Stmt := inClass (top 19) 1
abbrev st_Thing___eq___1 : Stmt := inClass (top 6) 2
abbrev st__law_refused : Stmt := top 28
abbrev st__law_wrong_right : Stmt := top 29
abbrev st_law : Stmt := top 30
def d0 : He.DefD := ⟨("_law_rng", none), "_law_rng", "_law_rng", defArgs st__law_rng, defBody st__law_rng, defScope st__law_rng, [], []⟩
def d1 : He.DefD := ⟨("_law_cell", none), "_law_cell", "_law_cell", defArgs st__law_cell, defBody st__law_cell, defScope st__law_cell, [], []⟩
def d2 : He.DefD := ⟨("_law_draw", none), "_law_draw", "_law_draw", defArgs st__law_draw, defBody st__law_draw, defScope st__law_draw, [], []⟩
def d3 : He.DefD := ⟨("_law_pick", none), "_law_pick", "_law_pick", defArgs st__law_pick, defBody st__law_pick, defScope st__law_pick, [], []⟩
def d4 : He.DefD := ⟨("is_number", none), "is_number", "is_number", defArgs st_is_number, defBody st_is_number, defScope st_is_number, [], []⟩
def d5 : He.DefD := ⟨("_law_step", none), "_law_step", "_law_step", defArgs st__law_step, defBody st__law_step, defScope st__law_step, [], []⟩
def d6 : He.DefD := ⟨("_law_steps", none), "_law_steps", "_law_steps", defArgs st__law_steps, defBody st__law_steps, defScope st__law_steps, [], []⟩
def d7 : He.DefD := ⟨("is_name", none), "is_name", "is_name", defArgs st_is_name, defBody st_is_name, defScope st_is_name, [], []⟩
def d8 : He.DefD := ⟨("is_member", none), "is_member", "is_member", defArgs st_is_member, defBody st_is_member, defScope st_is_member, [], []⟩
def d9 : He.DefD := ⟨("_law_refused", none), "_law_refused", "_law_refused", defArgs st__law_refused, defBody st__law_refused, defScope st__law_refused, [], []⟩
def d10 : He.DefD := ⟨("_law_wrong_right", none), "_law_wrong_right", "_law_wrong_right", defArgs st__law_wrong_right, defBody st__law_wrong_right, defScope st__law_wrong_right, [], []⟩
def d11 : He.DefD := ⟨("law", none), "law", "law", defArgs st_law, defBody st_law, defScope st_law, [], []⟩
def d12 : He.DefD := ⟨("Bus", some "__init__"), "__init__", "Bus.__init__", defArgs st_Bus___init__, defBody st_Bus___init__, defScope st_Bus___init__, [], []⟩
def d13 : He.DefD := ⟨("Delay", some "__init__"), "__init__", "Delay.__init__", defArgs st_Delay___init__, defBody st_Delay___init__, defScope st_Delay___init__, [], []⟩
def d14 : He.DefD := ⟨("First", some "__init__"), "__init__", "Member.__init__", defArgs st_Member___init__, defBody st_Member___init__, defScope st_Member___init__, [], []⟩
def d15 : He.DefD := ⟨("Last", some "__init__"), "__init__", "Member.__init__", defArgs st_Member___init__, defBody st_Member___init__, defScope st_Member___init__, [], []⟩
def d16 : He.DefD := ⟨("Limit", some "__init__"), "__init__", "Member.__init__", defArgs st_Member___init__, defBody st_Member___init__, defScope st_Member___init__, [], []⟩
def d17 : He.DefD := ⟨("Last", some "__eq__"), "__eq__", "Thing.__eq__", defArgs st_Thing___eq___0, defBody st_Thing___eq___0, defScope st_Thing___eq___0, [], []⟩
def d18 : He.DefD := ⟨("First", some "__eq__"), "__eq__", "Thing.__eq__", defArgs st_Thing___eq___0, defBody st_Thing___eq___0, defScope st_Thing___eq___0, [], []⟩
def d19 : He.DefD := ⟨("Limit", some "__eq__"), "__eq__", "Thing.__eq__", defArgs st_Thing___eq___0, defBody st_Thing___eq___0, defScope st_Thing___eq___0, [], []⟩
def d20 : He.DefD := ⟨("Delay", some "__eq__"), "__eq__", "Thing.__eq__", defArgs st_Thing___eq___0, defBody st_Thing___eq___0, defScope st_Thing___eq___0, [], []⟩
def d21 : He.DefD := ⟨("Last", some "__eq__"), "__eq__", "Thing.__eq__", defArgs st_Thing___eq___1, defBody st_Thing___eq___1, defScope st_Thing___eq___1, [], []⟩
def d22 : He.DefD := ⟨("First", some "__eq__"), "__eq__", "Thing.__eq__", defArgs st_Thing___eq___1, defBody st_Thing___eq___1, defScope st_Thing___eq___1, [], []⟩
def d23 : He.DefD := ⟨("Limit", some "__eq__"), "__eq__", "Thing.__eq__", defArgs st_Thing___eq___1, defBody st_Thing___eq___1, defScope st_Thing___eq___1, [], []⟩
def d24 : He.DefD := ⟨("Delay", some "__eq__"), "__eq__", "Thing.__eq__", defArgs st_Thing___eq___1, defBody st_Thing___eq___1, defScope st_Thing___eq___1, [], []⟩
def d25 : He.DefD := ⟨("Bus", some "__eq__"), "__eq__", "Thing.__eq__", defArgs st_Thing___eq___1, defBody st_Thing___eq___1, defScope st_Thing___eq___1, [], []⟩
def d26 : He.DefD := ⟨("Last", some "class_name"), "class_name", "Last.class_name", defArgs st_Last_class_name, defBody st_Last_class_name, defScope st_Last_class_name, [], []⟩
def d27 : He.DefD := ⟨("First", some "class_name"), "class_name", "First.class_name", defArgs st_First_class_name, defBody st_First_class_name, defScope st_First_class_name, [], []⟩
def d28 : He.DefD := ⟨("Limit", some "class_name"), "class_name", "Limit.class_name", defArgs st_Limit_class_name, defBody st_Limit_class_name, defScope st_Limit_class_name, [], []⟩
def d29 : He.DefD := ⟨("Delay", some "class_name"), "class_name", "Delay.class_name", defArgs st_Delay_class_name, defBody st_Delay_class_name, defScope st_Delay_class_name, [], []⟩
def d30 : He.DefD := ⟨("Bus", some "class_name"), "class_name", "Bus.class_name", defArgs st_Bus_class_name, defBody st_Bus_class_name, defScope st_Bus_class_name, [], []⟩
def d31 : He.DefD := ⟨("Last", some "facts"), "facts", "Member.facts", defArgs st_Member_facts, defBody st_Member_facts, defScope st_Member_facts, [], []⟩
def d32 : He.DefD := ⟨("First", some "facts"), "facts", "Member.facts", defArgs st_Member_facts, defBody st_Member_facts, defScope st_Member_facts, [], []⟩
def d33 : He.DefD := ⟨("Limit", some "facts"), "facts", "Member.facts", defArgs st_Member_facts, defBody st_Member_facts, defScope st_Member_facts, [], []⟩
def d34 : He.DefD := ⟨("Delay", some "facts"), "facts", "Delay.facts", defArgs st_Delay_facts, defBody st_Delay_facts, defScope st_Delay_facts, [], []⟩
def d35 : He.DefD := ⟨("Bus", some "facts"), "facts", "Bus.facts", defArgs st_Bus_facts, defBody st_Bus_facts, defScope st_Bus_facts, [], []⟩
def d36 : He.DefD := ⟨("BadBus", some "__init__"), "__init__", "BadBus.__init__", defArgs (inClass (top 4) 0), defBody (inClass (top 4) 0), defScope (inClass (top 4) 0), [], []⟩
def d37 : He.DefD := ⟨("BadMember", some "__init__"), "__init__", "BadMember.__init__", defArgs (inClass (top 3) 0), defBody (inClass (top 3) 0), defScope (inClass (top 3) 0), [], []⟩
def fn : List He.DefD := [d0, d1, d2, d3, d4, d5, d6, d7, d8, d9, d10, d11, d12, d13, d14, d15, d16, d17, d18, d19, d20, d21, d22, d23, d24, d25, d26, d27, d28, d29, d30, d31, d32, d33, d34, d35, d36, d37]
def fa : List He.Fa := [.free "abs", .free "all", .free "bool", .free "enumerate", .free "int", .free "isinstance", .free "len", .free "list", .free "range", .free "str", .free "tuple", .glo "BadBus", .glo "Bus", .glo "Delay", .glo "First", .glo "Last", .glo "Limit", .glo "QuietError", .glo "Thing", .glo "_law_rng", .glo "_law_cell", .glo "_law_draw", .glo "_law_pick", .glo "is_number", .glo "_law_step", .glo "_law_steps", .glo "is_name", .glo "is_member", .glo "_law_refused", .glo "_law_wrong_right", .glo "law", .str "LETTERS" "abcdefghijklmnopqrstuvwxyz", .int "MOST_LETTERS" 8, .mkr "Bus", .mkr "Delay", .mkr "First", .mkr "Last", .mkr "Limit", .meth "Last" "__eq__", .cls "Last", .meth "First" "__eq__", .cls "First", .meth "Limit" "__eq__", .cls "Limit", .meth "Delay" "__eq__", .cls "Delay", .meth "Bus" "__eq__", .cls "Bus", .meth "Last" "class_name", .meth "First" "class_name", .meth "Limit" "class_name", .meth "Delay" "class_name", .meth "Bus" "class_name", .meth "Last" "facts", .meth "First" "facts", .meth "Limit" "facts", .meth "Delay" "facts", .meth "Bus" "facts", .glo "BadMember"]
def ex (K : PySem.W.Frag) : Bool := ctB K tb ks && (oqB K tb eq0 && (oqB K tb eq1 && (rfB K eq1 && (xmB K xt xh xf && (xcB K "BadBus" "index" && (xcB K "BadMember" "what"))))))
def names0 : List PySem.Str := ["_wall", "QuietError", "BadMember", "BadBus", "Thing", "is_number", "Member", "Last", "First", "Limit", "Delay", "is_member", "LETTERS", "MOST_LETTERS", "is_name", "Bus", "_law_cell", "_law_rng", "_law_draw", "_law_pick", "_law_sample", "_law_step", "_law_steps", "_law_refused"]
def names1 : List PySem.Str := ["_law_wrong_right"]
def names : List PySem.Str := names0 ++ names1
def adr : List PySem.Addr := [3, 6, 4, 21, 38, 65, 91, 124, 135, 166, 199, 225, 251, 298, 307, 312, 364, 373, 380, 387, 394, 399, 404, 411, 418, 423, 430, 0, 20, 37, 64, 90, 123, 134, 165, 198, 224, 250, 297, 306, 311, 363, 372, 379, 386, 393, 398, 403, 410, 417, 422, 429, 15, 16, 17, 18, 19, 35, 36, 39, 55, 62, 63, 81, 88, 89, 107, 114, 121, 122, 125, 126, 129, 130, 131, 132, 133, 149, 156, 163, 164, 182, 189, 196, 197, 215, 222, 223, 241, 248, 249, 267, 274, 281, 288, 295, 296, 301, 302, 303, 304, 305, 308, 309, 310, 326, 333, 340, 347, 354, 361, 362, 367, 368, 369, 370, 371, 374, 375, 376, 377, 378, 381, 382, 383, 384, 385, 388, 389, 390, 391, 392, 395, 396, 397, 400, 401, 402, 405, 406, 407, 408, 409, 412, 413, 414, 415, 416, 419, 420, 421, 424, 425, 426, 427, 428, 34, 54, 61, 80, 87, 106, 113, 120, 148, 155, 162, 181, 188, 195, 214, 221, 240, 247, 266, 273, 280, 287, 294, 325, 332, 339, 346, 353, 360]
abbrev R : PySem.W.OpenRow := PySem.W.OpenLaw.row PySem.Challenge.rw_quietrows_k52_busses_and_what_is_none
abbrev hk : PySem.W.Hook := hookL adr fa fn ex
def ob (s : PySem.W.SharedT) : AlX := obsL adr fa fn ex (HandSHeadRun.getT s)
theorem ob_eq (s : PySem.W.SharedT) : ob s = hk.obs s.abs := obsL_eq (HandSHeadRun.getT_eq s)
set_option maxHeartbeats 0 in
theorem run (w : World) : HandSHeadRun.RunEq R (PySem.W.view R.prog [30]) hk ob 8000 names w := by
  intro os
  kernel_rfl
end Law
/-! The tree layer: data as trees, owned slots, over HandS. -/
namespace TL
open PySem PySem.Spec L2

/-! ### trees -/
inductive D where
  | non | bl (b : Bool) | int (i : Int) | str (x : Str) | ty (n : String)
  | lst (ds : List D) | tup (ds : List D) | ins (c : Str) (ns : List Str) (ds : List D) | dic (ks : List Key) (ds : List D) | dit (ks : List (List Key)) (ds : List D) | tpo (ds : List D)
  | exc (a : Addr) (dd : Option Addr) (ns : List Str) (ds : List D)

mutual
def Rep (K : PySem.W.Frag) (G : Hp) : D → V → Prop
  | .non, v => v = .non
  | .bl b, v => v = .bl b
  | .int i, v => v = .int i
  | .str x, v => v = .str x
  | .ty n, v => v = .ty n
  | .lst ds, v => ∃ a vs, v = .ref a ∧ SqL K G a vs ∧ Reps K G ds vs
  | .tup ds, v => ∃ a vs, v = .ref a ∧ SqT K G a vs ∧ Reps K G ds vs
  | .ins c ns ds, v => ∃ a dx vs, v = .ref a ∧ G a = some (.ins (He.ga K c) dx (ns.zip vs)) ∧ ns.length = vs.length ∧ Reps K G ds vs
  | .dic ks ds, v => ∃ a vs, v = .ref a ∧ G a = some (.dK (ks.zip vs)) ∧ ks.length = vs.length ∧ Reps K G ds vs
  | .dit ks ds, v => ∃ a vs, v = .ref a ∧ G a = some (.dT (ks.zip vs)) ∧ ks.length = vs.length ∧ Reps K G ds vs
  | .tpo ds, v => ∃ a vs, v = .ref a ∧ G a = some (.tup vs) ∧ Reps K G ds vs
  | .exc a dd ns ds, v => v = .ref a ∧ ((dd = none ∧ ns = [] ∧ ds = []) ∨ ∃ p vs, dd = some p ∧ G p = some (.xd (ns.zip vs)) ∧ ns.length = vs.length ∧ Reps K G ds vs)
def Reps (K : PySem.W.Frag) (G : Hp) : List D → List V → Prop
  | [], vs => vs = []
  | d :: ds, vs => ∃ v r, vs = v :: r ∧ Rep K G d v ∧ Reps K G ds r
end

theorem sameT {K : PySem.W.Frag} {H H' : Hp} {a : Addr} {xs : List V} (e : Same H H') (h : SqT K H a xs) : SqT K H' a xs := by
  rcases h with (h | ⟨o, h⟩) | h
  · exact .inl (.inl (e _ _ h))
  · exact .inl (.inr ⟨o, e _ _ h⟩)
  · exact .inr h

mutual
theorem Rep.mono {K : PySem.W.Frag} {G G' : Hp} (s : Same G G') : ∀ (d : D) (v : V), Rep K G d v → Rep K G' d v
  | .non, v, h => h
  | .bl b, v, h => h
  | .int i, v, h => h
  | .str x, v, h => h
  | .ty n, v, h => h
  | .lst ds, v, h => by
    unfold Rep at h ⊢
    obtain ⟨a, vs, e, q, r⟩ := h
    exact ⟨a, vs, e, s.seq q, Reps.mono s ds vs r⟩
  | .tup ds, v, h => by
    unfold Rep at h ⊢
    obtain ⟨a, vs, e, q, r⟩ := h
    exact ⟨a, vs, e, sameT s q, Reps.mono s ds vs r⟩
  | .ins c ns ds, v, h => by
    unfold Rep at h ⊢
    obtain ⟨a, dx, vs, e, q, l, r⟩ := h
    exact ⟨a, dx, vs, e, s _ _ q, l, Reps.mono s ds vs r⟩
  | .dic ks ds, v, h => by
    unfold Rep at h ⊢
    obtain ⟨a, vs, e, q, l, r⟩ := h
    exact ⟨a, vs, e, s _ _ q, l, Reps.mono s ds vs r⟩
  | .dit ks ds, v, h => by
    unfold Rep at h ⊢
    obtain ⟨a, vs, e, q, l, r⟩ := h
    exact ⟨a, vs, e, s _ _ q, l, Reps.mono s ds vs r⟩
  | .tpo ds, v, h => by
    unfold Rep at h ⊢
    obtain ⟨a, vs, e, q, r⟩ := h
    exact ⟨a, vs, e, s _ _ q, Reps.mono s ds vs r⟩
  | .exc a dd ns ds, v, h => by
    unfold Rep at h ⊢
    obtain ⟨e, h | ⟨p, vs, e2, q, l, r⟩⟩ := h
    · exact ⟨e, .inl h⟩
    · exact ⟨e, .inr ⟨p, vs, e2, s _ _ q, l, Reps.mono s ds vs r⟩⟩
theorem Reps.mono {K : PySem.W.Frag} {G G' : Hp} (s : Same G G') : ∀ (ds : List D) (vs : List V), Reps K G ds vs → Reps K G' ds vs
  | [], vs, h => by
    unfold Reps at h ⊢
    exact h
  | d :: ds, vs, h => by
    unfold Reps at h ⊢
    obtain ⟨v, r, e, q, z⟩ := h
    exact ⟨v, r, e, Rep.mono s d v q, Reps.mono s ds r z⟩
end
section
variable {K : PySem.W.Frag} {G G' : Hp}
theorem Reps.nil : Reps K G [] [] := by unfold Reps; rfl
theorem Reps.cons {d : D} {v : V} {ds : List D} {vs : List V} (h : Rep K G d v) (t : Reps K G ds vs) : Reps K G (d :: ds) (v :: vs) := by
  unfold Reps
  exact ⟨v, vs, rfl, h, t⟩
theorem Reps.length : ∀ {ds : List D} {vs : List V}, Reps K G ds vs → vs.length = ds.length
  | [], vs, h => by
    unfold Reps at h
    rw [h]
    rfl
  | d :: ds, vs, h => by
    unfold Reps at h
    obtain ⟨v, r, e, _, z⟩ := h
    rw [e, List.length_cons, List.length_cons, Reps.length z]
theorem Reps.get : ∀ {ds : List D} {vs : List V} {i : Nat} {d : D}, Reps K G ds vs → ds[i]? = some d → ∃ v, vs[i]? = some v ∧ Rep K G d v
  | [], vs, i, d, h, e => by simp at e
  | d0 :: ds, vs, i, d, h, e => by
    unfold Reps at h
    obtain ⟨v, r, rfl, q, z⟩ := h
    cases i with
    | zero =>
      have e' : d0 = d := by simpa using e
      rw [← e']
      exact ⟨v, rfl, q⟩
    | succ i => exact Reps.get (i := i) z (by simpa using e)
theorem Reps.getV : ∀ {ds : List D} {vs : List V} {i : Nat} {v : V}, Reps K G ds vs → vs[i]? = some v → ∃ d, ds[i]? = some d ∧ Rep K G d v
  | [], vs, i, v, h, e => by
    unfold Reps at h
    rw [h] at e
    simp at e
  | d0 :: ds, vs, i, v, h, e => by
    unfold Reps at h
    obtain ⟨v0, r, rfl, q, z⟩ := h
    cases i with
    | zero =>
      have e' : v0 = v := by simpa using e
      rw [← e']
      exact ⟨d0, rfl, q⟩
    | succ i => exact Reps.getV (i := i) z (by simpa using e)
theorem Reps.append : ∀ {ds es : List D} {vs us : List V}, Reps K G ds vs → Reps K G es us → Reps K G (ds ++ es) (vs ++ us)
  | [], es, vs, us, h, t => by
    unfold Reps at h
    rw [h]
    exact t
  | d :: ds, es, vs, us, h, t => by
    unfold Reps at h
    obtain ⟨v, r, rfl, q, z⟩ := h
    exact Reps.cons q (Reps.append z t)
theorem Reps.take : ∀ {ds : List D} {vs : List V} (n : Nat), Reps K G ds vs → Reps K G (ds.take n) (vs.take n)
  | _, _, 0, _ => by
    rw [List.take_zero, List.take_zero]
    exact Reps.nil
  | [], vs, n + 1, h => by
    unfold Reps at h
    rw [h]
    exact Reps.nil
  | d :: ds, vs, n + 1, h => by
    unfold Reps at h
    obtain ⟨v, r, rfl, q, z⟩ := h
    exact Reps.cons q (Reps.take n z)
theorem Reps.drop : ∀ {ds : List D} {vs : List V} (n : Nat), Reps K G ds vs → Reps K G (ds.drop n) (vs.drop n)
  | _, _, 0, h => h
  | [], vs, n + 1, h => by
    unfold Reps at h
    rw [h]
    exact Reps.nil
  | d :: ds, vs, n + 1, h => by
    unfold Reps at h
    obtain ⟨v, r, rfl, q, z⟩ := h
    exact Reps.drop n z
theorem Reps.set : ∀ {ds : List D} {vs : List V} {d : D} {v : V} (n : Nat), Reps K G ds vs → Rep K G d v → Reps K G (ds.set n d) (vs.set n v)
  | [], vs, d, v, n, h, _ => by
    unfold Reps at h
    rw [h]
    exact Reps.nil
  | d0 :: ds, vs, d, v, 0, h, q => by
    unfold Reps at h
    obtain ⟨v0, r, rfl, _, z⟩ := h
    exact Reps.cons q z
  | d0 :: ds, vs, d, v, n + 1, h, q => by
    unfold Reps at h
    obtain ⟨v0, r, rfl, q0, z⟩ := h
    exact Reps.cons q0 (Reps.set n z q)
theorem Reps.ints : ∀ {ns : List Int} {vs : List V}, Reps K G (ns.map D.int) vs → vs = ns.map V.int
  | [], vs, h => by
    unfold Reps at h
    exact h
  | n :: ns, vs, h => by
    unfold Reps at h
    obtain ⟨v, r, rfl, q, z⟩ := h
    have e : v = .int n := q
    rw [e, Reps.ints z]
    rfl
theorem Reps.of_ints : ∀ {ns : List Int}, Reps K G (ns.map D.int) (ns.map V.int)
  | [] => Reps.nil
  | n :: ns => Reps.cons rfl Reps.of_ints
end

/-! ### slots -/
inductive Sl where
  | no | im (d : D) | ow (b : Bool) (d : D)
abbrev Ev := List Sl
/-- an owned object's content -/
def RepO (K : PySem.W.Frag) (G : Hp) : D → HO → Prop
  | .lst ds, o => ∃ vs, o = .lst vs ∧ Reps K G ds vs
  | .ins c ns ds, o => ∃ dx vs, o = .ins (He.ga K c) dx (ns.zip vs) ∧ ns.length = vs.length ∧ Reps K G ds vs
  | .dic ks ds, o => ∃ vs, o = .dK (ks.zip vs) ∧ ks.length = vs.length ∧ Reps K G ds vs
  | .dit ks ds, o => ∃ vs, o = .dT (ks.zip vs) ∧ ks.length = vs.length ∧ Reps K G ds vs
  | _, _ => False
theorem RepO.mono {K : PySem.W.Frag} {G G' : Hp} (s : Same G G') : ∀ {d : D} {o : HO}, RepO K G d o → RepO K G' d o
  | .lst ds, o, h => let ⟨vs, e, r⟩ := h; ⟨vs, e, Reps.mono s _ _ r⟩
  | .ins c ns ds, o, h => let ⟨dx, vs, e, l, r⟩ := h; ⟨dx, vs, e, l, Reps.mono s _ _ r⟩
  | .dic ks ds, o, h => let ⟨vs, e, l, r⟩ := h; ⟨vs, e, l, Reps.mono s _ _ r⟩
  | .dit ks ds, o, h => let ⟨vs, e, l, r⟩ := h; ⟨vs, e, l, Reps.mono s _ _ r⟩
  | .tpo _, _, h => h.elim
  | .non, _, h => h.elim
  | .bl _, _, h => h.elim
  | .int _, _, h => h.elim
  | .str _, _, h => h.elim
  | .ty _, _, h => h.elim
  | .tup _, _, h => h.elim
  | .exc _ _ _ _, _, h => h.elim
/-- an owned object is frozen -/
theorem RepO.rep {K : PySem.W.Frag} {G : Hp} {p : Addr} {o : HO} (hp : G p = some o) : ∀ {d : D}, RepO K G d o → Rep K G d (.ref p)
  | .lst ds, h => by
    obtain ⟨vs, rfl, r⟩ := h
    unfold Rep
    exact ⟨p, vs, rfl, SqL.of hp, r⟩
  | .ins c ns ds, h => by
    obtain ⟨dx, vs, rfl, l, r⟩ := h
    unfold Rep
    exact ⟨p, dx, vs, rfl, hp, l, r⟩
  | .dic ks ds, h => by
    obtain ⟨vs, rfl, l, r⟩ := h
    unfold Rep
    exact ⟨p, vs, rfl, hp, l, r⟩
  | .dit ks ds, h => by
    obtain ⟨vs, rfl, l, r⟩ := h
    unfold Rep
    exact ⟨p, vs, rfl, hp, l, r⟩
  | .tpo _, h => h.elim
  | .non, h => h.elim
  | .bl _, h => h.elim
  | .int _, h => h.elim
  | .str _, h => h.elim
  | .ty _, h => h.elim
  | .tup _, h => h.elim
  | .exc _ _ _ _, h => h.elim
/-- the top object read in H, what is below in G -/
def RepT (K : PySem.W.Frag) (G H : Hp) : D → V → Prop
  | .lst ds, v => ∃ a vs, v = .ref a ∧ SqL K H a vs ∧ Reps K G ds vs
  | .tup ds, v => ∃ a vs, v = .ref a ∧ SqT K H a vs ∧ Reps K G ds vs ∧ SqT K G a vs
  | .ins c ns ds, v => ∃ a dx vs, v = .ref a ∧ H a = some (.ins (He.ga K c) dx (ns.zip vs)) ∧ ns.length = vs.length ∧ Reps K G ds vs
  | .dic ks ds, v => ∃ a vs, v = .ref a ∧ H a = some (.dK (ks.zip vs)) ∧ ks.length = vs.length ∧ Reps K G ds vs
  | .dit ks ds, v => ∃ a vs, v = .ref a ∧ H a = some (.dT (ks.zip vs)) ∧ ks.length = vs.length ∧ Reps K G ds vs
  | .tpo ds, v => ∃ a vs, v = .ref a ∧ H a = some (.tup vs) ∧ Reps K G ds vs
  | .non, v => v = .non
  | .bl b, v => v = .bl b
  | .int i, v => v = .int i
  | .str x, v => v = .str x
  | .ty n, v => v = .ty n
  | .exc a dd ns ds, v => Rep K G (.exc a dd ns ds) v
theorem Rep.top {K : PySem.W.Frag} {G H : Hp} (s : Same G H) : ∀ {d : D} {v : V}, Rep K G d v → RepT K G H d v
  | .lst ds, v, h => by
    unfold Rep at h
    obtain ⟨a, vs, e, q, r⟩ := h
    exact ⟨a, vs, e, s.seq q, r⟩
  | .tup ds, v, h => by
    unfold Rep at h
    obtain ⟨a, vs, e, q, r⟩ := h
    exact ⟨a, vs, e, sameT s q, r, q⟩
  | .ins c ns ds, v, h => by
    unfold Rep at h
    obtain ⟨a, dx, vs, e, q, l, r⟩ := h
    exact ⟨a, dx, vs, e, s _ _ q, l, r⟩
  | .dic ks ds, v, h => by
    unfold Rep at h
    obtain ⟨a, vs, e, q, l, r⟩ := h
    exact ⟨a, vs, e, s _ _ q, l, r⟩
  | .dit ks ds, v, h => by
    unfold Rep at h
    obtain ⟨a, vs, e, q, l, r⟩ := h
    exact ⟨a, vs, e, s _ _ q, l, r⟩
  | .tpo ds, v, h => by
    unfold Rep at h
    obtain ⟨a, vs, e, q, r⟩ := h
    exact ⟨a, vs, e, s _ _ q, r⟩
  | .non, _, h => h
  | .bl _, _, h => h
  | .int _, _, h => h
  | .str _, _, h => h
  | .ty _, _, h => h
  | .exc _ _ _ _, _, h => h
theorem RepO.top {K : PySem.W.Frag} {G H : Hp} {p : Addr} {o : HO} (hp : H p = some o) : ∀ {d : D}, RepO K G d o → RepT K G H d (.ref p)
  | .lst ds, h => by
    obtain ⟨vs, rfl, r⟩ := h
    exact ⟨p, vs, rfl, SqL.of hp, r⟩
  | .ins c ns ds, h => by
    obtain ⟨dx, vs, rfl, l, r⟩ := h
    exact ⟨p, dx, vs, rfl, hp, l, r⟩
  | .dic ks ds, h => by
    obtain ⟨vs, rfl, l, r⟩ := h
    exact ⟨p, vs, rfl, hp, l, r⟩
  | .dit ks ds, h => by
    obtain ⟨vs, rfl, l, r⟩ := h
    exact ⟨p, vs, rfl, hp, l, r⟩
  | .tpo _, h => h.elim
  | .non, h => h.elim
  | .bl _, h => h.elim
  | .int _, h => h.elim
  | .str _, h => h.elim
  | .ty _, h => h.elim
  | .tup _, h => h.elim
  | .exc _ _ _ _, h => h.elim

/-- an owned object is no tuple -/
theorem RepO.nt {K : PySem.W.Frag} {G : Hp} {o : HO} : ∀ {d : D}, RepO K G d o → ¬ ∃ vs, o = .tup vs
  | .lst ds, h, ⟨vs, e⟩ => by
    obtain ⟨ws, rfl, _⟩ := h
    cases e
  | .ins c ns ds, h, ⟨vs, e⟩ => by
    obtain ⟨dx, ws, rfl, _⟩ := h
    cases e
  | .dic ks ds, h, ⟨vs, e⟩ => by
    obtain ⟨ws, rfl, _⟩ := h
    cases e
  | .dit ks ds, h, ⟨vs, e⟩ => by
    obtain ⟨ws, rfl, _⟩ := h
    cases e
  | .tpo _, h, _ => h.elim
  | .non, h, _ => h.elim
  | .bl _, h, _ => h.elim
  | .int _, h, _ => h.elim
  | .str _, h, _ => h.elim
  | .ty _, h, _ => h.elim
  | .tup _, h, _ => h.elim
  | .exc _ _ _ _, h, _ => h.elim
/-! ### the state -/
/-- what a def's body keeps: foreign objects F, its own in-out parameters R -/
structure Fx where
  F : Hp
  R : Nat → Option Addr
structure ER (K : PySem.W.Frag) (x : Fx) (G H : Hp) (σ : St) (env : Ev) : Prop where
  len : σ.length = env.length
  sG : Same G H
  sF : Same x.F H
  dj : ∀ a o, x.F a = some o → G a = none ∨ ∃ vs, o = .tup vs
  im : ∀ (i : Nat) d, env[i]? = some (.im d) → ∃ v, σ[i]? = some (some v) ∧ Rep K G d v
  ow : ∀ (i : Nat) b d, env[i]? = some (.ow b d) → ∃ p o, σ[i]? = some (some (.ref p)) ∧ H p = some o ∧ RepO K G d o ∧ x.F p = none ∧ G p = none
  nd : ∀ (i j : Nat) b c d e p, env[i]? = some (.ow b d) → env[j]? = some (.ow c e) → σ[i]? = some (some (.ref p)) → σ[j]? = some (some (.ref p)) → i = j
  rt : ∀ (i : Nat) p, x.R i = some p → σ[i]? = some (some (.ref p)) ∧ ∃ d, env[i]? = some (.ow true d)
/-- new objects alone -/
structure Step (G H G' H' : Hp) : Prop where
  g : Same G G'
  h : Same H H'
  gh : Same G' H'
  new : ∀ a o, G' a = some o → G a = none → H a = none
theorem Step.refl {G H : Hp} (s : Same G H) : Step G H G H := ⟨.refl _, .refl _, s, fun a o e q => by rw [q] at e; cases e⟩
theorem same_new {H : Hp} {p : Addr} {o : HO} (h : H p = none) : Same H (upd H p o) := fun b x e => by
  rw [upd_ne (ne_of_none e h)]
  exact e
theorem Step.one {G H : Hp} (s : Same G H) {p : Addr} (o : HO) (hp : H p = none) : Step G H (upd G p o) (upd H p o) where
  g := same_new (s.free hp)
  h := same_new hp
  gh := fun a u e => by
    by_cases hb : a = p
    · subst hb
      rw [upd_same] at e ⊢
      exact e
    · rw [upd_ne hb] at e ⊢
      exact s a u e
  new := fun a u e q => by
    by_cases hb : a = p
    · rw [hb]
      exact hp
    · rw [upd_ne hb, q] at e
      cases e
/-- a new object that is not (yet) told of -/
theorem Step.junk {G H : Hp} (s : Same G H) {p : Addr} (o : HO) (hp : H p = none) : Step G H G (upd H p o) where
  g := .refl _
  h := same_new hp
  gh := s.trans (same_new hp)
  new := fun a u e q => by
    rw [q] at e
    cases e
theorem Step.trans {G H G1 H1 G2 H2 : Hp} (a : Step G H G1 H1) (b : Step G1 H1 G2 H2) : Step G H G2 H2 where
  g := a.g.trans b.g
  h := a.h.trans b.h
  gh := b.gh
  new := fun c o e q => by
    cases z : G1 c with
    | some u => exact a.new c u z q
    | none => exact a.h.free (b.new c o e z)
section
variable {K : PySem.W.Frag} {x : Fx} {G H G' H' : Hp} {σ : St} {env : Ev}
theorem ER.step (r : ER K x G H σ env) (s : Step G H G' H') : ER K x G' H' σ env where
  len := r.len
  sG := s.gh
  sF := r.sF.trans s.h
  dj := fun a o e => by
    rcases r.dj a o e with g | g
    · refine .inl ?_
      cases z : G' a with
      | none => rfl
      | some u =>
        have q := s.new a u z g
        rw [r.sF a o e] at q
        cases q
    · exact .inr g
  im := fun i d e => let ⟨v, e1, q⟩ := r.im i d e; ⟨v, e1, Rep.mono s.g _ _ q⟩
  ow := fun i b d e => by
    obtain ⟨p, o, e1, e2, q, f, g⟩ := r.ow i b d e
    refine ⟨p, o, e1, s.h _ _ e2, RepO.mono s.g q, f, ?_⟩
    cases z : G' p with
    | none => rfl
    | some u =>
      have q := s.new p u z g
      rw [e2] at q
      cases q
  nd := r.nd
  rt := r.rt
theorem ER.lt (r : ER K x G H σ env) {i : Nat} {s : Sl} (e : env[i]? = some s) : i < σ.length := by
  rw [r.len]
  exact (List.getElem?_eq_some_iff.mp e).1
/-- a slot is set to a tree -/
theorem ER.setIm (r : ER K x G H σ env) {i : Nat} {d : D} {v : V} (q : Rep K G d v) (hR : x.R i = none) : ER K x G H (σ.set i (some v)) (env.set i (.im d)) where
  len := by rw [List.length_set, List.length_set, r.len]
  sG := r.sG
  sF := r.sF
  dj := r.dj
  im := fun j e h => by
    by_cases hj : j = i
    · subst hj
      have hl : j < env.length := by
        have := (List.getElem?_eq_some_iff.mp h).1
        rw [List.length_set] at this
        exact this
      rw [List.getElem?_set_self hl] at h
      rw [List.getElem?_set_self (by rw [r.len]; exact hl)]
      cases h
      exact ⟨v, rfl, q⟩
    · rw [List.getElem?_set_ne (Ne.symm hj)] at h ⊢
      exact r.im j e h
  ow := fun j b e h => by
    by_cases hj : j = i
    · subst hj
      have hl : j < env.length := by
        have := (List.getElem?_eq_some_iff.mp h).1
        rw [List.length_set] at this
        exact this
      rw [List.getElem?_set_self hl] at h
      cases h
    · rw [List.getElem?_set_ne (Ne.symm hj)] at h ⊢
      exact r.ow j b e h
  nd := fun j k b1 b2 d1 d2 p h1 h2 h3 h4 => by
    have out : ∀ {j : Nat} {b : Bool} {d1 : D}, (env.set i (.im d))[j]? = some (.ow b d1) → j ≠ i := fun {j b d1} h z => by
      subst z
      have hl : j < env.length := by
        have := (List.getElem?_eq_some_iff.mp h).1
        rw [List.length_set] at this
        exact this
      rw [List.getElem?_set_self hl] at h
      cases h
    have n1 := out h1
    have n2 := out h2
    rw [List.getElem?_set_ne (Ne.symm n1)] at h1 h3
    rw [List.getElem?_set_ne (Ne.symm n2)] at h2 h4
    exact r.nd j k b1 b2 d1 d2 p h1 h2 h3 h4
  rt := fun j p h => by
    have hj : j ≠ i := fun z => by
      rw [z, hR] at h
      cases h
    obtain ⟨h1, d', h2⟩ := r.rt j p h
    rw [List.getElem?_set_ne (Ne.symm hj), List.getElem?_set_ne (Ne.symm hj)]
    exact ⟨h1, d', h2⟩
/-- .. to an owned object -/
theorem ER.setOw (r : ER K x G H σ env) {i : Nat} {d : D} {p : Addr} {o : HO} (hp : H p = some o) (q : RepO K G d o) (hF : x.F p = none) (hG : G p = none) (hR : x.R i = none)
    (ho : ∀ (j : Nat) b d', env[j]? = some (.ow b d') → σ[j]? ≠ some (some (.ref p))) : ER K x G H (σ.set i (some (.ref p))) (env.set i (.ow false d)) where
  len := by rw [List.length_set, List.length_set, r.len]
  sG := r.sG
  sF := r.sF
  dj := r.dj
  im := fun j e h => by
    by_cases hj : j = i
    · subst hj
      have hl : j < env.length := by
        have := (List.getElem?_eq_some_iff.mp h).1
        rw [List.length_set] at this
        exact this
      rw [List.getElem?_set_self hl] at h
      cases h
    · rw [List.getElem?_set_ne (Ne.symm hj)] at h ⊢
      exact r.im j e h
  ow := fun j b e h => by
    by_cases hj : j = i
    · subst hj
      have hl : j < env.length := by
        have := (List.getElem?_eq_some_iff.mp h).1
        rw [List.length_set] at this
        exact this
      rw [List.getElem?_set_self hl] at h
      rw [List.getElem?_set_self (by rw [r.len]; exact hl)]
      cases h
      exact ⟨p, o, rfl, hp, q, hF, hG⟩
    · rw [List.getElem?_set_ne (Ne.symm hj)] at h ⊢
      exact r.ow j b e h
  nd := fun j k b1 b2 d1 d2 p' h1 h2 h3 h4 => by
    have at_ : ∀ {j : Nat} {b : Bool} {d1 : D}, (env.set i (.ow false d))[j]? = some (.ow b d1) → (σ.set i (some (.ref p)))[j]? = some (some (.ref p')) → (j = i ∧ p' = p) ∨ (j ≠ i ∧ env[j]? = some (.ow b d1) ∧ σ[j]? = some (some (.ref p'))) := fun {j b d1} h h' => by
      by_cases hj : j = i
      · subst hj
        have hl : j < env.length := by
          have := (List.getElem?_eq_some_iff.mp h).1
          rw [List.length_set] at this
          exact this
        rw [List.getElem?_set_self (by rw [r.len]; exact hl)] at h'
        cases h'
        exact .inl ⟨rfl, rfl⟩
      · rw [List.getElem?_set_ne (Ne.symm hj)] at h h'
        exact .inr ⟨hj, h, h'⟩
    rcases at_ h1 h3 with ⟨e1, f1⟩ | ⟨e1, f1, g1⟩
    · rcases at_ h2 h4 with ⟨e2, f2⟩ | ⟨e2, f2, g2⟩
      · rw [e1, e2]
      · rw [f1] at g2
        exact absurd g2 (ho k b2 d2 f2)
    · rcases at_ h2 h4 with ⟨e2, f2⟩ | ⟨e2, f2, g2⟩
      · rw [f2] at g1
        exact absurd g1 (ho j b1 d1 f1)
      · exact r.nd j k b1 b2 d1 d2 p' f1 f2 g1 g2
  rt := fun j p' h => by
    have hj : j ≠ i := fun z => by
      rw [z, hR] at h
      cases h
    obtain ⟨h1, d', h2⟩ := r.rt j p' h
    rw [List.getElem?_set_ne (Ne.symm hj), List.getElem?_set_ne (Ne.symm hj)]
    exact ⟨h1, d', h2⟩
/-- an owned object is changed -/
theorem ER.write (r : ER K x G H σ env) {i : Nat} {rb : Bool} {d d' : D} {p : Addr} {o : HO} (e : env[i]? = some (.ow rb d)) (es : σ[i]? = some (some (.ref p))) (q : RepO K G d' o) : ER K x G (upd H p o) σ (env.set i (.ow rb d')) := by
  obtain ⟨p', o', e1, e2, q0, f, g⟩ := r.ow i rb d e
  have ep : p' = p := by
    rw [es] at e1
    cases e1
    rfl
  subst ep
  have hl : i < env.length := (List.getElem?_eq_some_iff.mp e).1
  have kp : ∀ {b : Addr} {u : HO}, b ≠ p' → H b = some u → upd H p' o b = some u := fun {b u} hb h => by
    rw [upd_ne hb]
    exact h
  refine ⟨by rw [List.length_set, r.len], fun b u h => kp (fun z => ?_) (r.sG b u h), fun b u h => kp (fun z => ?_) (r.sF b u h), r.dj, fun j e' h => ?_, fun j b e' h => ?_, fun j k b1 b2 d1 d2 p1 h1 h2 h3 h4 => ?_, fun j p1 h => ?_⟩
  · rw [z, g] at h
    cases h
  · rw [z, f] at h
    cases h
  · by_cases hj : j = i
    · subst hj
      rw [List.getElem?_set_self hl] at h
      cases h
    · rw [List.getElem?_set_ne (Ne.symm hj)] at h
      exact r.im j e' h
  · by_cases hj : j = i
    · subst hj
      rw [List.getElem?_set_self hl] at h
      cases h
      exact ⟨p', o, es, upd_same, q, f, g⟩
    · rw [List.getElem?_set_ne (Ne.symm hj)] at h
      obtain ⟨p2, o2, z1, z2, z3, z4, z5⟩ := r.ow j b e' h
      refine ⟨p2, o2, z1, kp (fun z => ?_) z2, z3, z4, z5⟩
      subst z
      exact hj (r.nd j i b rb e' d p2 h e z1 es)
  · have at_ : ∀ {j : Nat} {b : Bool} {d1 : D}, (env.set i (.ow rb d'))[j]? = some (.ow b d1) → ∃ b2 d2, env[j]? = some (.ow b2 d2) := fun {j b d1} h => by
      by_cases hj : j = i
      · subst hj
        exact ⟨rb, d, e⟩
      · rw [List.getElem?_set_ne (Ne.symm hj)] at h
        exact ⟨_, _, h⟩
    obtain ⟨_, _, h1⟩ := at_ h1
    obtain ⟨_, _, h2⟩ := at_ h2
    exact r.nd j k _ _ _ _ p1 h1 h2 h3 h4
  · obtain ⟨h1, d2, h2⟩ := r.rt j p1 h
    refine ⟨h1, ?_⟩
    by_cases hj : j = i
    · subst hj
      rw [List.getElem?_set_self hl]
      rw [e] at h2
      cases h2
      exact ⟨_, rfl⟩
    · rw [List.getElem?_set_ne (Ne.symm hj)]
      exact ⟨_, h2⟩
/-- an owned object becomes a tree -/
theorem ER.freeze (r : ER K x G H σ env) {i : Nat} {rb : Bool} {d : D} {p : Addr} {o : HO} (e : env[i]? = some (.ow rb d)) (es : σ[i]? = some (some (.ref p))) (hp : H p = some o) (hR : x.R i = none) :
    ER K x (upd G p o) H σ (env.set i (.im d)) ∧ Same G (upd G p o) ∧ Rep K (upd G p o) d (.ref p) := by
  obtain ⟨p', o', e1, e2, q0, f, g⟩ := r.ow i rb d e
  have ep : p' = p := by
    rw [es] at e1
    cases e1
    rfl
  subst ep
  have eo : o' = o := by
    rw [hp] at e2
    cases e2
    rfl
  subst eo
  have hl : i < env.length := (List.getElem?_eq_some_iff.mp e).1
  have sG' : Same G (upd G p' o') := same_new g
  have rp : Rep K (upd G p' o') d (.ref p') := RepO.rep upd_same (RepO.mono sG' q0)
  refine ⟨⟨by rw [List.length_set, r.len], fun b u h => ?_, r.sF, fun b u h => ?_, fun j e' h => ?_, fun j b e' h => ?_, fun j k b1 b2 d1 d2 p1 h1 h2 h3 h4 => ?_, fun j p1 h => ?_⟩, sG', rp⟩
  · by_cases hb : b = p'
    · subst hb
      rw [upd_same] at h
      cases h
      exact hp
    · rw [upd_ne hb] at h
      exact r.sG b u h
  · by_cases hb : b = p'
    · subst hb
      rw [f] at h
      cases h
    · rw [upd_ne hb]
      exact r.dj b u h
  · by_cases hj : j = i
    · subst hj
      rw [List.getElem?_set_self hl] at h
      cases h
      exact ⟨_, es, rp⟩
    · rw [List.getElem?_set_ne (Ne.symm hj)] at h
      obtain ⟨v, z1, z2⟩ := r.im j e' h
      exact ⟨v, z1, Rep.mono sG' _ _ z2⟩
  · by_cases hj : j = i
    · subst hj
      rw [List.getElem?_set_self hl] at h
      cases h
    · rw [List.getElem?_set_ne (Ne.symm hj)] at h
      obtain ⟨p2, o2, z1, z2, z3, z4, z5⟩ := r.ow j b e' h
      refine ⟨p2, o2, z1, z2, RepO.mono sG' z3, z4, ?_⟩
      rw [upd_ne fun z => ?_]
      · exact z5
      · subst z
        exact hj (r.nd j i b rb e' d p2 h e z1 es)
  · have at_ : ∀ {j : Nat} {b : Bool} {d1 : D}, (env.set i (.im d))[j]? = some (.ow b d1) → env[j]? = some (.ow b d1) := fun {j b d1} h => by
      by_cases hj : j = i
      · subst hj
        rw [List.getElem?_set_self hl] at h
        cases h
      · rw [List.getElem?_set_ne (Ne.symm hj)] at h
        exact h
    exact r.nd j k b1 b2 d1 d2 p1 (at_ h1) (at_ h2) h3 h4
  · have hj : j ≠ i := fun z => by
      rw [z, hR] at h
      cases h
    rw [List.getElem?_set_ne (Ne.symm hj)]
    exact r.rt j p1 h
/-- a slot that is no in-out parameter -/
theorem ER.noR (r : ER K x G H σ env) {i : Nat} (h : ∀ d, env[i]? ≠ some (.ow true d)) : x.R i = none := by
  cases z : x.R i with
  | none => rfl
  | some p =>
    obtain ⟨_, d, e⟩ := r.rt i p z
    exact absurd e (h d)
/-- a slot is forgotten -/
theorem ER.forget (r : ER K x G H σ env) {i : Nat} {v : Option V} (hR : x.R i = none) : ER K x G H (σ.set i v) (env.set i .no) where
  len := by rw [List.length_set, List.length_set, r.len]
  sG := r.sG
  sF := r.sF
  dj := r.dj
  im := fun j e h => by
    by_cases hj : j = i
    · subst hj
      have hl : j < env.length := by
        have := (List.getElem?_eq_some_iff.mp h).1
        rw [List.length_set] at this
        exact this
      rw [List.getElem?_set_self hl] at h
      cases h
    · rw [List.getElem?_set_ne (Ne.symm hj)] at h ⊢
      exact r.im j e h
  ow := fun j b e h => by
    by_cases hj : j = i
    · subst hj
      have hl : j < env.length := by
        have := (List.getElem?_eq_some_iff.mp h).1
        rw [List.length_set] at this
        exact this
      rw [List.getElem?_set_self hl] at h
      cases h
    · rw [List.getElem?_set_ne (Ne.symm hj)] at h ⊢
      exact r.ow j b e h
  nd := fun j k b1 b2 d1 d2 p h1 h2 h3 h4 => by
    have out : ∀ {j : Nat} {b : Bool} {d1 : D}, (env.set i .no)[j]? = some (.ow b d1) → j ≠ i := fun {j b d1} h z => by
      subst z
      have hl : j < env.length := by
        have := (List.getElem?_eq_some_iff.mp h).1
        rw [List.length_set] at this
        exact this
      rw [List.getElem?_set_self hl] at h
      cases h
    have n1 := out h1
    have n2 := out h2
    rw [List.getElem?_set_ne (Ne.symm n1)] at h1 h3
    rw [List.getElem?_set_ne (Ne.symm n2)] at h2 h4
    exact r.nd j k b1 b2 d1 d2 p h1 h2 h3 h4
  rt := fun j p h => by
    have hj : j ≠ i := fun z => by
      rw [z, hR] at h
      cases h
    obtain ⟨h1, d', h2⟩ := r.rt j p h
    rw [List.getElem?_set_ne (Ne.symm hj), List.getElem?_set_ne (Ne.symm hj)]
    exact ⟨h1, d', h2⟩
end
end TL

namespace TL
open PySem PySem.Spec L2

/-! ### exceptions, operands -/
structure Xn where
  c : Str
  ns : List Str
  ds : List D
def XRep (K : PySem.W.Frag) (G : Hp) (x : Xn) (cls : Value) (dd : Option Addr) : Prop :=
  cls = .ref (He.ga K x.c) ∧ ((x.ns = [] ∧ x.ds = [] ∧ dd = none) ∨ ∃ a vs, dd = some a ∧ G a = some (.xd (x.ns.zip vs)) ∧ x.ns.length = vs.length ∧ Reps K G x.ds vs)
inductive Hd where
  | im (d : D) | ow (i : Nat)
def hv (env : Ev) : Hd → Option D
  | .im d => some d
  | .ow i => match env[i]? with
    | some (.ow _ d) => some d
    | _ => none
def HR (K : PySem.W.Frag) (G : Hp) (σ : St) : Hd → V → Prop
  | .im d, v => Rep K G d v
  | .ow i, v => σ[i]? = some (some v)
theorem HR.mono {K : PySem.W.Frag} {G G' : Hp} {σ : St} (s : Same G G') : ∀ {h : Hd} {v : V}, HR K G σ h v → HR K G' σ h v
  | .im d, v, q => Rep.mono s d v q
  | .ow i, v, q => q
theorem HR.read {K : PySem.W.Frag} {x : Fx} {G H : Hp} {σ : St} {env : Ev} (r : ER K x G H σ env) : ∀ {h : Hd} {v : V} {d : D}, HR K G σ h v → hv env h = some d → RepT K G H d v
  | .im d, v, d', q, e => by
    cases e
    exact Rep.top r.sG q
  | .ow i, v, d', q, e => by
    have e : (match env[i]? with | some (Sl.ow _ d) => some d | _ => none) = some d' := e
    have q' : σ[i]? = some (some v) := q
    cases z : env[i]? with
    | none =>
      rw [z] at e
      cases e
    | some sl =>
      rw [z] at e
      cases sl with
      | no => cases e
      | im _ => cases e
      | ow b0 d0 =>
        cases e
        obtain ⟨p, o, e1, e2, q2, _, _⟩ := r.ow i b0 d' z
        rw [q'] at e1
        cases e1
        exact RepO.top e2 q2
def hvs (env : Ev) : List Hd → Option (List D)
  | [] => some []
  | h :: t => match hv env h with
    | some d => (match hvs env t with
      | some ds => some (d :: ds)
      | none => none)
    | none => none
def HRs (K : PySem.W.Frag) (G : Hp) (σ : St) : List Hd → List V → Prop
  | [], vs => vs = []
  | h :: t, vs => ∃ v r, vs = v :: r ∧ HR K G σ h v ∧ HRs K G σ t r
def RepTs (K : PySem.W.Frag) (G H : Hp) : List D → List V → Prop
  | [], vs => vs = []
  | d :: t, vs => ∃ v r, vs = v :: r ∧ RepT K G H d v ∧ RepTs K G H t r
theorem HRs.mono {K : PySem.W.Frag} {G G' : Hp} {σ : St} (s : Same G G') : ∀ {hs : List Hd} {vs : List V}, HRs K G σ hs vs → HRs K G' σ hs vs
  | [], vs, q => q
  | h :: t, vs, q => let ⟨v, r, e, q1, q2⟩ := q; ⟨v, r, e, q1.mono s, HRs.mono s q2⟩
theorem HRs.read {K : PySem.W.Frag} {x : Fx} {G H : Hp} {σ : St} {env : Ev} (r : ER K x G H σ env) : ∀ {hs : List Hd} {vs : List V} {ds : List D}, HRs K G σ hs vs → hvs env hs = some ds → RepTs K G H ds vs
  | [], vs, ds, q, e => by
    cases e
    exact q
  | h :: t, vs, ds, q, e => by
    obtain ⟨v, r', rfl, q1, q2⟩ := q
    unfold hvs at e
    cases z : hv env h with
    | none =>
      rw [z] at e
      cases e
    | some d =>
      rw [z] at e
      cases y : hvs env t with
      | none =>
        rw [y] at e
        cases e
      | some ds' =>
        rw [y] at e
        cases e
        exact ⟨v, r', rfl, q1.read r z, HRs.read r q2 y⟩
/-- all are trees -/
def ims : List Hd → Option (List D)
  | [] => some []
  | .im d :: t => (match ims t with
    | some ds => some (d :: ds)
    | none => none)
  | .ow _ :: _ => none
theorem HRs.ims {K : PySem.W.Frag} {G : Hp} {σ : St} : ∀ {hs : List Hd} {vs : List V} {ds : List D}, HRs K G σ hs vs → TL.ims hs = some ds → Reps K G ds vs
  | [], vs, ds, q, e => by
    cases e
    unfold Reps
    exact q
  | .im d :: t, vs, ds, q, e => by
    obtain ⟨v, r', rfl, q1, q2⟩ := q
    unfold TL.ims at e
    cases y : TL.ims t with
    | none =>
      rw [y] at e
      cases e
    | some ds' =>
      rw [y] at e
      cases e
      exact Reps.cons q1 (HRs.ims q2 y)
  | .ow i :: t, vs, ds, q, e => by
    unfold TL.ims at e
    cases e

/-! ### readings over trees -/
/-- .. of what is there -/
def mo {α : Type} (o : Option α) (f : α → Prop) : Prop := match o with
  | some a => f a
  | none => False
theorem mo_some {α : Type} {o : Option α} {f : α → Prop} (h : mo o f) : ∃ a, o = some a ∧ f a := by
  cases o with
  | none => exact h.elim
  | some a => exact ⟨a, rfl, h⟩
def imAt (env : Ev) (i : Nat) : Option D := match env[i]? with
  | some (.im d) => some d
  | _ => none
def owAt (env : Ev) (i : Nat) : Option D := match env[i]? with
  | some (.ow _ d) => some d
  | _ => none
theorem imAt_some {env : Ev} {i : Nat} {d : D} (h : imAt env i = some d) : env[i]? = some (.im d) := by
  unfold imAt at h
  cases z : env[i]? with
  | none =>
    rw [z] at h
    cases h
  | some sl =>
    rw [z] at h
    cases sl with
    | no => cases h
    | ow _ _ => cases h
    | im d' =>
      cases h
      rfl
theorem owAt_some {env : Ev} {i : Nat} {d : D} (h : owAt env i = some d) : ∃ b, env[i]? = some (.ow b d) := by
  unfold owAt at h
  cases z : env[i]? with
  | none =>
    rw [z] at h
    cases h
  | some sl =>
    rw [z] at h
    cases sl with
    | no => cases h
    | im _ => cases h
    | ow b d' =>
      cases h
      exact ⟨b, rfl⟩
def intOf : D → Option Int
  | .int i => some i
  | _ => none
def blOf : D → Option Bool
  | .bl b => some b
  | _ => none
def strOf : D → Option Str
  | .str x => some x
  | _ => none
theorem intOf_some {d : D} {i : Int} (h : intOf d = some i) : d = .int i := by
  cases d <;> cases h
  rfl
theorem blOf_some {d : D} {b : Bool} (h : blOf d = some b) : d = .bl b := by
  cases d <;> cases h
  rfl
theorem strOf_some {d : D} {b : Str} (h : strOf d = some b) : d = .str b := by
  cases d <;> cases h
  rfl
abbrev XP := Xn → Ev → Prop
abbrev WO := Ev → (Hd → Ev → Prop) → XP → Prop
abbrev WE := Ev → (D → Ev → Prop) → XP → Prop
abbrev WT := Ev → (Bool → Ev → Prop) → XP → Prop
abbrev WA := Ev → (List Hd → Ev → Prop) → XP → Prop
/-- the exceptional end -/
def Xend (K : PySem.W.Frag) (W : WX) (x : Fx) (G : Hp) (σ : St) (X' : XP) : Prop :=
  ∀ e env' cls dd G' H', Same G G' → ER K x G' H' σ env' → XRep K G' e cls dd → X' e env' → W cls dd σ H'
theorem Xend.up {K : PySem.W.Frag} {W : WX} {x : Fx} {G G1 : Hp} {σ : St} {X' : XP} (h : Xend K W x G σ X') (s : Same G G1) : Xend K W x G1 σ X' :=
  fun e env' cls dd G' H' s' => h e env' cls dd G' H' (s.trans s')
def lO (K : PySem.W.Frag) (W : WX) (w : WO) : TE := fun σ H Q => ∃ x G env Q' X', ER K x G H σ env ∧ w env Q' X' ∧
  (∀ h env' v G' H', Same G G' → ER K x G' H' σ env' → HR K G' σ h v → Q' h env' → Q v H') ∧ Xend K W x G σ X'
def lT (K : PySem.W.Frag) (W : WX) (w : WT) : TT := fun σ H Q => ∃ x G env Q' X', ER K x G H σ env ∧ w env Q' X' ∧
  (∀ b env' G' H', Same G G' → ER K x G' H' σ env' → Q' b env' → Q b H') ∧ Xend K W x G σ X'
def lA (K : PySem.W.Frag) (W : WX) (w : WA) : TA := fun σ H Q => ∃ x G env Q' X', ER K x G H σ env ∧ w env Q' X' ∧
  (∀ hs env' vs G' H', Same G G' → ER K x G' H' σ env' → HRs K G' σ hs vs → Q' hs env' → Q vs H') ∧ Xend K W x G σ X'
/-- a new object, still owned by nobody: p -/
def lF (K : PySem.W.Frag) (W : WX) (w : WE) : TE := fun σ H Q => ∃ x G env Q' X', ER K x G H σ env ∧ w env Q' X' ∧
  (∀ d env' p o G' H', Same G G' → ER K x G' H' σ env' → H' p = some o → RepO K G' d o → G' p = none → x.F p = none → (∀ (j : Nat) b d', env'[j]? = some (.ow b d') → σ[j]? ≠ some (some (.ref p))) → Q' d env' → Q (.ref p) H') ∧ Xend K W x G σ X'
def imO (w : WE) : WO := fun env Q X => w env (fun d e => Q (.im d) e) X
abbrev QO (X : Cx) (W : WX) (e : Expr) (w : WO) : Prop := PE X e (lO X.K W w)
abbrev QE (X : Cx) (W : WX) (e : Expr) (w : WE) : Prop := PE X e (lO X.K W (imO w))
abbrev QF (X : Cx) (W : WX) (e : Expr) (w : WE) : Prop := PE X e (lF X.K W w)
abbrev QT (X : Cx) (W : WX) (e : Expr) (w : WT) : Prop := PT X e (lT X.K W w)
abbrev QW (X : Cx) (W : WX) (e : Expr) (w : WT) : Prop := PW X e (lT X.K W w)
abbrev QA (X : Cx) (W : WX) (es : List Expr) (w : WA) : Prop := PA X es (lA X.K W w)
theorem _root_.L2.PE.le {X : Cx} {e : Expr} {t t' : TE} (h : PE X e t) (i : ∀ σ H Q, t' σ H Q → t σ H Q) : PE X e t' := ⟨fun pins s σ H Q I hw => h.run pins s σ H Q I (i σ H Q hw)⟩
theorem _root_.L2.PT.le {X : Cx} {e : Expr} {t t' : TT} (h : PT X e t) (i : ∀ σ H Q, t' σ H Q → t σ H Q) : PT X e t' := ⟨fun pins s σ H Q I hw => h.run pins s σ H Q I (i σ H Q hw)⟩
theorem _root_.L2.PW.le {X : Cx} {e : Expr} {t t' : TT} (h : PW X e t) (i : ∀ σ H Q, t' σ H Q → t σ H Q) : PW X e t' := ⟨fun wh pins s σ H Q I hw => h.run wh pins s σ H Q I (i σ H Q hw)⟩
theorem _root_.L2.PA.le {X : Cx} {es : List Expr} {t t' : TA} (h : PA X es t) (i : ∀ σ H Q, t' σ H Q → t σ H Q) : PA X es t' := ⟨fun pos pins s σ H Q I hw => h.run pos pins s σ H Q I (i σ H Q hw)⟩
theorem _root_.L2.PS.le {X : Cx} {st : Stmt} {t t' : TS} (h : PS X st t) (i : ∀ D σ H, t' D σ H → t D σ H) : PS X st t' := ⟨fun pins s σ H D I hw => h.run pins s σ H D I (i D σ H hw)⟩
theorem _root_.L2.PSs.le {X : Cx} {st : List Stmt} {t t' : TS} (h : PSs X st t) (i : ∀ D σ H, t' D σ H → t D σ H) : PSs X st t' := ⟨fun pins s σ H D I hw => h.run pins s σ H D I (i D σ H hw)⟩
theorem _root_.L2.PG.le {X : Cx} {tg : Expr} {t t' : TG} (h : PG X tg t) (i : ∀ v σ H Q, t' v σ H Q → t v σ H Q) : PG X tg t' := ⟨fun pins s σ H v u Q I r hw => h.run pins s σ H v u Q I r (i v σ H Q hw)⟩
theorem _root_.L2.PI.le {X : Cx} {tg iter : Expr} {t t' : TI} (h : PI X tg iter t) (i : ∀ σ H Q, t' σ H Q → t σ H Q) : PI X tg iter t' := ⟨fun pins s σ H Q I hw => h.run pins s σ H Q I (i σ H Q hw)⟩

section
variable {X : Cx} {W : WX} {a b e : Expr} {pos : Pos}
/-- a new object is frozen at once -/
theorem qe_new {w : WE} (h : QF X W e w) : QE X W e w := h.le fun σ H Q ⟨x, G, env, Q', X', r, hw, hn, hx⟩ =>
  ⟨x, G, env, fun d e => Q' (.im d) e, X', r, hw, fun d env' p o G' H' s r' hp q hG hF ho hq => by
    have sG' : Same G' (upd G' p o) := same_new hG
    refine hn (.im d) env' (.ref p) (upd G' p o) H' (s.trans sG') ⟨r'.len, fun b u hb => ?_, r'.sF, fun b u hb => ?_, fun i d' e => ?_, fun i rb d' e => ?_, r'.nd, r'.rt⟩ (RepO.rep upd_same (RepO.mono sG' q)) hq
    · by_cases z : b = p
      · subst z
        rw [upd_same] at hb
        cases hb
        exact hp
      · rw [upd_ne z] at hb
        exact r'.sG b u hb
    · by_cases z : b = p
      · subst z
        rw [hF] at hb
        cases hb
      · rw [upd_ne z]
        exact r'.dj b u hb
    · obtain ⟨v, z1, z2⟩ := r'.im i d' e
      exact ⟨v, z1, Rep.mono sG' _ _ z2⟩
    · obtain ⟨p2, o2, z1, z2, z3, z4, z5⟩ := r'.ow i rb d' e
      refine ⟨p2, o2, z1, z2, RepO.mono sG' z3, z4, ?_⟩
      rw [upd_ne fun z => ?_]
      · exact z5
      · subst z
        exact ho i rb d' e z1, hx⟩

/-! ### names, constants -/
def wVar (i : Nat) : WE := fun env Q _ => mo (imAt env i) fun d => Q d env
def oVar (i : Nat) : WO := fun env Q _ => mo (owAt env i) fun _ => Q (.ow i) env
def wC (d : D) : WE := fun env Q _ => Q d env
theorem qe_var (i : Nat) {n : Str} (hN : X.N[i]? = some n := by rfl) (hvs : Vis X.env.scope n := by first | exact Or.inl rfl | exact Or.inr (Or.inl rfl) | exact Or.inr (Or.inr rfl)) (hd : (n == ("__debug__" : Str)) = false := by decide)
    (hcd : (n == ("__classdict__" : Str)) = false := by decide) : QE X W (.Name n pos) (wVar i) := (pe_var hN hvs hd hcd).le fun σ H Q ⟨x, G, env, Q', X', r, hq, hn, hx⟩ => by
  obtain ⟨d, e, hq⟩ := mo_some hq
  obtain ⟨v, e1, q⟩ := r.im i d (imAt_some e)
  exact ⟨v, e1, hn (.im d) env v G H (.refl _) r q hq⟩
theorem qo_var (i : Nat) {n : Str} (hN : X.N[i]? = some n := by rfl) (hvs : Vis X.env.scope n := by first | exact Or.inl rfl | exact Or.inr (Or.inl rfl) | exact Or.inr (Or.inr rfl)) (hd : (n == ("__debug__" : Str)) = false := by decide)
    (hcd : (n == ("__classdict__" : Str)) = false := by decide) : QO X W (.Name n pos) (oVar i) := (pe_var hN hvs hd hcd).le fun σ H Q ⟨x, G, env, Q', X', r, hq, hn, hx⟩ => by
  obtain ⟨d, e, hq⟩ := mo_some hq
  obtain ⟨b, e⟩ := owAt_some e
  obtain ⟨p, o, e1, _⟩ := r.ow i b d e
  exact ⟨_, e1, hn (.ow i) env _ G H (.refl _) r e1 hq⟩
theorem qe_c {v : V} {d : D} (h : PE X e (tC v)) (hr : ∀ G, Rep X.K G d v) : QE X W e (wC d) := h.le fun σ H Q ⟨x, G, env, Q', X', r, hq, hn, hx⟩ => hn (.im d) env v G H (.refl _) r (hr G) hq
theorem qe_int {i j} : QE X W (.Constant (.int i) j pos) (wC (.int i)) := qe_c pe_int fun _ => rfl
theorem qe_bl {i j} : QE X W (.Constant (.bool i) j pos) (wC (.bl i)) := qe_c pe_bl fun _ => rfl
theorem qe_non {j} : QE X W (.Constant .none j pos) (wC .non) := qe_c pe_non fun _ => rfl
theorem qe_str {i j} : QE X W (.Constant (.str i) j pos) (wC (.str i)) := qe_c pe_str fun _ => rfl
/-- a module's constant: an int, a text -/
theorem qe_glob {n : Str} {v : V} {u : Value} {d : D} (hg : Gl X n) (hm : X.mg n = some u) (r : RelV v u) (hr : ∀ G, Rep X.K G d v) (hd : (n == ("__debug__" : Str)) = false := by decide) : QE X W (.Name n pos) (wC d) := qe_c (pe_glob hg hm r hd) hr

/-! ### operations on values -/
def Sem1 (K : PySem.W.Frag) (r : V → Hp → VK → Prop) (k : D → (D → Prop) → Prop) : Prop := ∀ (G H : Hp) (d : D) (v : V) (P : D → Prop) (Q : VK), Same G H → RepT K G H d v → k d P →
  (∀ d' v' G' H', Step G H G' H' → Rep K G' d' v' → P d' → Q v' H') → r v H Q
def Sem2 (K : PySem.W.Frag) (r : R2) (k : D → D → (D → Prop) → Prop) : Prop := ∀ (G H : Hp) (d1 d2 : D) (v1 v2 : V) (P : D → Prop) (Q : VK), Same G H → RepT K G H d1 v1 → RepT K G H d2 v2 → k d1 d2 P →
  (∀ d' v' G' H', Step G H G' H' → Rep K G' d' v' → P d' → Q v' H') → r v1 v2 H Q
def SemN (K : PySem.W.Frag) (r : List V → Hp → VK → Prop) (k : List D → (D → Prop) → Prop) : Prop := ∀ (G H : Hp) (ds : List D) (vs : List V) (P : D → Prop) (Q : VK), Same G H → RepTs K G H ds vs → k ds P →
  (∀ d' v' G' H', Step G H G' H' → Rep K G' d' v' → P d' → Q v' H') → r vs H Q
/-- .. with a new object -/
def Sem2F (K : PySem.W.Frag) (r : R2) (k : D → D → (D → Prop) → Prop) : Prop := ∀ (G H : Hp) (d1 d2 : D) (v1 v2 : V) (P : D → Prop) (Q : VK), Same G H → RepT K G H d1 v1 → RepT K G H d2 v2 → k d1 d2 P →
  (∀ d' p o, H p = none → RepO K G d' o → P d' → Q (.ref p) (upd H p o)) → r v1 v2 H Q
def SemNF (K : PySem.W.Frag) (r : List V → Hp → VK → Prop) (k : List D → (D → Prop) → Prop) : Prop := ∀ (G H : Hp) (ds : List D) (vs : List V) (P : D → Prop) (Q : VK), Same G H → RepTs K G H ds vs → k ds P →
  (∀ d' p o, H p = none → RepO K G d' o → P d' → Q (.ref p) (upd H p o)) → r vs H Q
def w1 (k : D → (D → Prop) → Prop) (wa : WO) : WE := fun env Q X => wa env (fun h e => mo (hv e h) fun d => k d fun d' => Q d' e) X
def w2 (k : D → D → (D → Prop) → Prop) (wa wb : WO) : WE := fun env Q X => wa env (fun h1 e1 => wb e1 (fun h2 e2 => mo (hv e2 h1) fun d1 => mo (hv e2 h2) fun d2 => k d1 d2 fun d => Q d e2) X) X
def wN (k : List D → (D → Prop) → Prop) (wa : WA) : WE := fun env Q X => wa env (fun hs e => mo (hvs e hs) fun ds => k ds fun d => Q d e) X
variable {K : PySem.W.Frag} {wa wb : WO}
theorem l1 {r : V → Hp → VK → Prop} {k : D → (D → Prop) → Prop} (hk : Sem1 K r k) (σ : St) (H : Hp) (Q : VK) (h : lO K W (imO (w1 k wa)) σ H Q) : tUn r (lO K W wa) σ H Q := by
  obtain ⟨x, G, env, Q', X', r', hw, hn, hx⟩ := h
  refine ⟨x, G, env, _, X', r', hw, fun h1 e1 v1 G1 H1 s1 r1 q1 hw1 => ?_, hx⟩
  obtain ⟨d, e, kk⟩ := mo_some hw1
  exact hk G1 H1 d v1 _ Q r1.sG (q1.read r1 e) kk fun d' v' G' H' st rp hp => hn (.im d') e1 v' G' H' (s1.trans st.g) (r1.step st) rp hp
theorem l2 {r : R2} {k : D → D → (D → Prop) → Prop} (hk : Sem2 K r k) (σ : St) (H : Hp) (Q : VK) (h : lO K W (imO (w2 k wa wb)) σ H Q) : tOp r (lO K W wa) (lO K W wb) σ H Q := by
  obtain ⟨x, G, env, Q', X', r', hw, hn, hx⟩ := h
  refine ⟨x, G, env, _, X', r', hw, fun h1 e1 v1 G1 H1 s1 r1 q1 hw1 => ⟨x, G1, e1, _, X', r1, hw1, fun h2 e2 v2 G2 H2 s2 r2 q2 hw2 => ?_, hx.up s1⟩, hx⟩
  obtain ⟨d1, y1, hw2⟩ := mo_some hw2
  obtain ⟨d2, y2, kk⟩ := mo_some hw2
  exact hk G2 H2 d1 d2 v1 v2 _ Q r2.sG ((q1.mono s2).read r2 y1) (q2.read r2 y2) kk fun d' v' G' H' st rp hp => hn (.im d') e2 v' G' H' ((s1.trans s2).trans st.g) (r2.step st) rp hp
theorem lN {r : List V → Hp → VK → Prop} {k : List D → (D → Prop) → Prop} {wl : WA} (hk : SemN K r k) (σ : St) (H : Hp) (Q : VK) (h : lO K W (imO (wN k wl)) σ H Q) : tCB r (lA K W wl) σ H Q := by
  obtain ⟨x, G, env, Q', X', r', hw, hn, hx⟩ := h
  refine ⟨x, G, env, _, X', r', hw, fun hs e1 vs G1 H1 s1 r1 q1 hw1 => ?_, hx⟩
  obtain ⟨ds, y1, kk⟩ := mo_some hw1
  exact hk G1 H1 ds vs _ Q r1.sG (q1.read r1 y1) kk fun d' v' G' H' st rp hp => hn (.im d') e1 v' G' H' (s1.trans st.g) (r1.step st) rp hp
theorem fresh_F {x : Fx} {G H : Hp} {σ : St} {env : Ev} (r : ER K x G H σ env) {p : Addr} (hp : H p = none) : x.F p = none ∧ G p = none ∧ ∀ (j : Nat) b d', env[j]? = some (.ow b d') → σ[j]? ≠ some (some (.ref p)) :=
  ⟨r.sF.free hp, r.sG.free hp, fun j b d' e z => by
    obtain ⟨p', o, e1, e2, _⟩ := r.ow j b d' e
    rw [z] at e1
    cases e1
    rw [hp] at e2
    cases e2⟩
theorem l2F {r : R2} {k : D → D → (D → Prop) → Prop} (hk : Sem2F K r k) (σ : St) (H : Hp) (Q : VK) (h : lF K W (w2 k wa wb) σ H Q) : tOp r (lO K W wa) (lO K W wb) σ H Q := by
  obtain ⟨x, G, env, Q', X', r', hw, hn, hx⟩ := h
  refine ⟨x, G, env, _, X', r', hw, fun h1 e1 v1 G1 H1 s1 r1 q1 hw1 => ⟨x, G1, e1, _, X', r1, hw1, fun h2 e2 v2 G2 H2 s2 r2 q2 hw2 => ?_, hx.up s1⟩, hx⟩
  obtain ⟨d1, y1, hw2⟩ := mo_some hw2
  obtain ⟨d2, y2, kk⟩ := mo_some hw2
  refine hk G2 H2 d1 d2 v1 v2 _ Q r2.sG ((q1.mono s2).read r2 y1) (q2.read r2 y2) kk fun d' p o hp rp hq => ?_
  obtain ⟨f1, f2, f3⟩ := fresh_F r2 hp
  exact hn d' e2 p o G2 (upd H2 p o) (s1.trans s2) (r2.step (Step.junk r2.sG o hp)) upd_same rp f2 f1 f3 hq
theorem lNF {r : List V → Hp → VK → Prop} {k : List D → (D → Prop) → Prop} {wl : WA} (hk : SemNF K r k) (σ : St) (H : Hp) (Q : VK) (h : lF K W (wN k wl) σ H Q) : tCB r (lA K W wl) σ H Q := by
  obtain ⟨x, G, env, Q', X', r', hw, hn, hx⟩ := h
  refine ⟨x, G, env, _, X', r', hw, fun hs e1 vs G1 H1 s1 r1 q1 hw1 => ?_, hx⟩
  obtain ⟨ds, y1, kk⟩ := mo_some hw1
  refine hk G1 H1 ds vs _ Q r1.sG (q1.read r1 y1) kk fun d' p o hp rp hq => ?_
  obtain ⟨f1, f2, f3⟩ := fresh_F r1 hp
  exact hn d' e1 p o G1 (upd H1 p o) s1 (r1.step (Step.junk r1.sG o hp)) upd_same rp f2 f1 f3 hq
theorem qe_op {op : Operator} {r : R2} {k : D → D → (D → Prop) → Prop} (ho : OpR X (binaryOp op) r) (hk : Sem2 X.K r k) (ha : QO X W a wa) (hb : QO X W b wb) : QE X W (.BinOp a op b pos) (w2 k wa wb) := (pe_op ho ha hb).le (l2 hk)
theorem qf_op {op : Operator} {r : R2} {k : D → D → (D → Prop) → Prop} (ho : OpR X (binaryOp op) r) (hk : Sem2F X.K r k) (ha : QO X W a wa) (hb : QO X W b wb) : QF X W (.BinOp a op b pos) (w2 k wa wb) := (pe_op ho ha hb).le (l2F hk)
theorem qe_un {op : UnaryOp} {r : V → Hp → VK → Prop} {k : D → (D → Prop) → Prop} (ho : UnR X (unaryOp op) r) (hk : Sem1 X.K r k) (ha : QO X W a wa) : QE X W (.UnaryOp op a pos) (w1 k wa) := (pe_un ho ha).le (l1 hk)
/-! ### ints -/
def kI (C : Int → Int → Prop) (g : Int → Int → D) : D → D → (D → Prop) → Prop := fun d1 d2 P => mo (intOf d1) fun i => mo (intOf d2) fun j => C i j ∧ P (g i j)
def kI0 (g : Int → Int → D) : D → D → (D → Prop) → Prop := fun d1 d2 P => mo (intOf d1) fun i => mo (intOf d2) fun j => P (g i j)
theorem sem_rI {C : Int → Int → Prop} {g : Int → Int → V} {g' : Int → Int → D} (hg : ∀ G i j, Rep K G (g' i j) (g i j)) : Sem2 K (rI C g) (kI C g') := fun G H d1 d2 v1 v2 P Q s h1 h2 hk hq => by
  obtain ⟨i, z1, hk⟩ := mo_some hk
  obtain ⟨j, z2, c, p⟩ := mo_some hk
  rw [intOf_some z1] at h1
  rw [intOf_some z2] at h2
  have e1 : v1 = .int i := h1
  have e2 : v2 = .int j := h2
  exact ⟨i, j, e1, e2, c, hq _ _ G H (.refl s) (hg G i j) p⟩
theorem sem_rI0 {g : Int → Int → V} {g' : Int → Int → D} (hg : ∀ G i j, Rep K G (g' i j) (g i j)) : Sem2 K (rI0 g) (kI0 g') := fun G H d1 d2 v1 v2 P Q s h1 h2 hk hq => by
  obtain ⟨i, z1, hk⟩ := mo_some hk
  obtain ⟨j, z2, p⟩ := mo_some hk
  rw [intOf_some z1] at h1
  rw [intOf_some z2] at h2
  have e1 : v1 = .int i := h1
  have e2 : v2 = .int j := h2
  exact ⟨i, j, e1, e2, hq _ _ G H (.refl s) (hg G i j) p⟩
theorem sem_rU {g : Int → V} {g' : Int → D} (hg : ∀ G i, Rep K G (g' i) (g i)) : Sem1 K (rU g) (fun d P => mo (intOf d) fun i => P (g' i)) := fun G H d v P Q s h hk hq => by
  obtain ⟨i, z1, p⟩ := mo_some hk
  rw [intOf_some z1] at h
  exact ⟨i, h, hq _ _ G H (.refl s) (hg G i) p⟩
end
end TL

namespace TL
open PySem PySem.Spec L2
section
variable {X : Cx} {W : WX} {a b c e : Expr} {pos : Pos} {wa wb : WO} {we wf : WE}

/-! ### ints -/
def kAdd := kI0 fun i j => .int (i + j)
def kSub := kI0 fun i j => .int (i - j)
def kMul := kI CMul fun i j => .int (i * j)
def kMulW := kI CMulW fun i j => .int (i * j)
def kDivW := kI CDivW fun i j => .int (i / j)
def kMod := kI (fun _ j => 0 < j) fun i j => .int (i % j)
def kPow := kI CPow fun i j => .int (i ^ j.toNat)
def kShl := kI CPow fun i j => .int (i * 2 ^ j.toNat)
def kLt := kI0 fun i j => .bl (decide (i < j))
def kLe := kI0 fun i j => .bl (decide (i ≤ j))
def kGt := kI0 fun i j => .bl (decide (j < i))
def kGe := kI0 fun i j => .bl (decide (j ≤ i))
theorem qe_div (ha : QO X W a wa) (hb : QO X W b wb) : QE X W (.BinOp a .FloorDiv b pos) (w2 kDivW wa wb) := qe_op op_fdivW (sem_rI fun _ _ _ => rfl) ha hb
theorem qe_mod (ha : QO X W a wa) (hb : QO X W b wb) : QE X W (.BinOp a .Mod b pos) (w2 kMod wa wb) := qe_op op_mod (sem_rI fun _ _ _ => rfl) ha hb
theorem qe_pow (ha : QO X W a wa) (hb : QO X W b wb) : QE X W (.BinOp a .Pow b pos) (w2 kPow wa wb) := qe_op op_pow (sem_rI fun _ _ _ => rfl) ha hb
def kNeg : D → (D → Prop) → Prop := fun d P => mo (intOf d) fun i => P (.int (-i))
theorem qe_neg (ha : QO X W a wa) : QE X W (.UnaryOp .USub a pos) (w1 kNeg wa) := qe_un un_neg (sem_rU fun _ _ => rfl) ha

/-! ### tests -/
theorem imO_mono {w : WE} {env : Ev} {P : D → Ev → Prop} {X' : XP} (h : w env P X') : imO w env (fun h e => ∃ d, h = .im d ∧ P d e) X' := by
  show w env (fun d e => ∃ d', Hd.im d = .im d' ∧ P d' e) X'
  have e : (fun (d : D) (e : Ev) => ∃ d', Hd.im d = .im d' ∧ P d' e) = P := by
    funext d e
    apply propext
    constructor
    · rintro ⟨d', z, q⟩
      rw [Hd.im.inj z]
      exact q
    · intro q
      exact ⟨d, rfl, q⟩
  rw [e]
  exact h
def wB (w : WE) : WT := fun env Q Xp => w env (fun d e => mo (blOf d) fun k => Q k e) Xp
theorem lB {K : PySem.W.Frag} (σ : St) (H : Hp) (Q : Bool → Hp → Prop) (h : lT K W (wB we) σ H Q) : lO K W (imO we) σ H fun x H' => ∃ k, x = .bl k ∧ Q k H' := by
  obtain ⟨x, G, env, Q', X', r, hw, hn, hx⟩ := h
  refine ⟨x, G, env, _, X', r, imO_mono hw, fun h e v G' H' s r' q hq => ?_, hx⟩
  obtain ⟨d, rfl, hq⟩ := hq
  obtain ⟨k, z, q'⟩ := mo_some hq
  rw [blOf_some z] at q
  have q2 : v = .bl k := q
  exact ⟨k, q2, hn k e G' H' s r' q'⟩
/-- a comparison, as a value and as a test -/
structure QC (X : Cx) (W : WX) (op : CmpOp) (a b : Expr) (w : WE) : Prop where
  e : ∀ pos, QE X W (.Compare a [op] [b] pos) w
  t : ∀ pos, QT X W (.Compare a [op] [b] pos) (wB w)
theorem qc {op : CmpOp} {r : R2} {k : D → D → (D → Prop) → Prop} (ho : OpR X (compareOp op) r) (hk : Sem2 X.K r k) (ha : QO X W a wa) (hb : QO X W b wb) (hm : behindInMarks op b = false) : QC X W op a b (w2 k wa wb) :=
  ⟨fun _ => (pe_cmpR ho ha hb hm).le (l2 hk), fun _ => (pt_cmpR ho ha hb hm).le fun σ H Q h => l2 hk σ H _ (lB σ H Q h)⟩
theorem qc_lt (ha : QO X W a wa) (hb : QO X W b wb) : QC X W .Lt a b (w2 kLt wa wb) := qc op_lt (sem_rI0 fun _ _ _ => rfl) ha hb (nomark _)
theorem qc_ge (ha : QO X W a wa) (hb : QO X W b wb) : QC X W .GtE a b (w2 kGe wa wb) := qc op_ge (sem_rI0 fun _ _ _ => rfl) ha hb (nomark _)

/-! ### == and != of data -/
mutual
def pd : D → PyData
  | .non => .none
  | .bl b => .bool b
  | .int i => .int i
  | .str x => .str x
  | .lst ds => .list (pds ds)
  | .tup ds => .tuple (pds ds)
  | .ty _ => .none
  | .ins _ _ _ => .none
  | .dic _ _ => .none
  | .dit _ _ => .none
  | .tpo _ => .none
  | .exc _ _ _ _ => .none
def pds : List D → List PyData
  | [] => []
  | d :: ds => pd d :: pds ds
end
def okD : Nat → D → Bool
  | _, .non => true
  | _, .bl _ => true
  | _, .int _ => true
  | _, .str x => PySem.PyData.strOk x
  | n + 1, .lst ds => ds.all (okD n)
  | n + 1, .tup ds => ds.all (okD n)
  | _, _ => false
def eqD (d e : D) : Bool := PyData.eqv (pd d) (pd e)
theorem pds_eq (ds : List D) : pds ds = ds.map pd := by
  induction ds with
  | nil => unfold pds; rfl
  | cons d ds ih => unfold pds; rw [ih]; rfl
theorem lay_all {n : Nat} (h : ∀ d, okD n d = true → (pd d).canLay0 = true ∧ (pd d).depth ≤ n) : ∀ ds : List D, ds.all (okD n) = true → PyData.canLayAll0 (pds ds) = true ∧ PyData.depthAll (pds ds) ≤ n
  | [], _ => by
    unfold pds PyData.canLayAll0 PyData.depthAll
    exact ⟨rfl, Nat.zero_le _⟩
  | d :: ds, q => by
    rw [List.all_cons, Bool.and_eq_true] at q
    obtain ⟨h1, h2⟩ := h d q.1
    obtain ⟨h3, h4⟩ := lay_all h ds q.2
    unfold pds PyData.canLayAll0 PyData.depthAll
    rw [h1, h3]
    exact ⟨rfl, Nat.max_le.mpr ⟨h2, h4⟩⟩
theorem okD_lay : ∀ (n : Nat) (d : D), okD n d = true → (pd d).canLay0 = true ∧ (pd d).depth ≤ n
  | n, .non, _ => by unfold pd PyData.canLay0 PyData.depth; exact ⟨rfl, Nat.zero_le _⟩
  | n, .bl b, _ => by unfold pd PyData.canLay0 PyData.depth; exact ⟨rfl, Nat.zero_le _⟩
  | n, .int b, _ => by unfold pd PyData.canLay0 PyData.depth; exact ⟨rfl, Nat.zero_le _⟩
  | n, .str b, q => by
    have q' : PySem.PyData.strOk b = true := by
      cases n <;> exact q
    unfold pd PyData.canLay0 PyData.depth
    exact ⟨q', Nat.zero_le _⟩
  | 0, .lst ds, q => by cases q
  | 0, .tup ds, q => by cases q
  | n + 1, .lst ds, q => by
    obtain ⟨h1, h2⟩ := lay_all (okD_lay n) ds q
    unfold pd PyData.canLay0 PyData.depth
    exact ⟨h1, Nat.succ_le_succ h2⟩
  | n + 1, .tup ds, q => by
    obtain ⟨h1, h2⟩ := lay_all (okD_lay n) ds q
    unfold pd PyData.canLay0 PyData.depth
    exact ⟨h1, Nat.succ_le_succ h2⟩
  | n, .ty _, q => by cases n <;> cases q
  | n, .ins _ _ _, q => by cases n <;> cases q
  | n, .dic _ _, q => by cases n <;> cases q
  | n, .dit _ _, q => by cases n <;> cases q
  | n, .tpo _, q => by cases n <;> cases q
  | n, .exc _ _ _ _, q => by cases n <;> cases q
theorem okD_shaped {n : Nat} {d : D} (hn : n ≤ 64) (h : okD n d = true) : SeqAt.shaped (pd d) = true := by
  obtain ⟨h1, h2⟩ := okD_lay n d h
  unfold SeqAt.shaped
  rw [h1, decide_eq_true (Nat.le_trans h2 hn)]
  rfl
theorem eqD_refl {n : Nat} {d : D} (h : okD n d = true) : eqD d d = true := SeqAt.eqv_refl _ (okD_lay n d h).1
section
variable {K : PySem.W.Frag} {G H : Hp}
theorem dp_all {n : Nat} (ih : ∀ d v, okD n d = true → Rep K G d v → Dp K H v (pd d)) : ∀ (ds : List D) (vs : List V), ds.all (okD n) = true → Reps K G ds vs → DpAll K H vs (pds ds)
  | [], vs, _, h => by
    unfold Reps at h
    rw [h]
    unfold pds
    exact .nil
  | d :: ds, vs, q, h => by
    unfold Reps at h
    obtain ⟨v, r, rfl, h1, h2⟩ := h
    rw [List.all_cons, Bool.and_eq_true] at q
    unfold pds
    exact .cons (ih d v q.1 h1) (dp_all ih ds r q.2 h2)
theorem Rep.dp (s : Same G H) : ∀ (n : Nat) (d : D) (v : V), okD n d = true → Rep K G d v → Dp K H v (pd d)
  | n, .non, v, _, h => by
    have e : v = .non := h
    rw [e]; unfold pd; exact .non
  | n, .bl b, v, _, h => by
    have e : v = .bl b := h
    rw [e]; unfold pd; exact .bl b
  | n, .int b, v, _, h => by
    have e : v = .int b := h
    rw [e]; unfold pd; exact .int b
  | n, .str b, v, _, h => by
    have e : v = .str b := h
    rw [e]; unfold pd; exact .str b
  | 0, .lst ds, v, q, h => by cases q
  | 0, .tup ds, v, q, h => by cases q
  | n + 1, .lst ds, v, q, h => by
    unfold Rep at h
    obtain ⟨a, vs, rfl, h1, h2⟩ := h
    unfold pd
    exact .lst (s.seq h1) (dp_all (Rep.dp s n) ds vs q h2)
  | n + 1, .tup ds, v, q, h => by
    unfold Rep at h
    obtain ⟨a, vs, rfl, h1, h2⟩ := h
    unfold pd
    exact .tup (sameT s h1) (dp_all (Rep.dp s n) ds vs q h2)
  | n, .ty _, v, q, h => by cases n <;> cases q
  | n, .ins _ _ _, v, q, h => by cases n <;> cases q
  | n, .dic _ _, v, q, h => by cases n <;> cases q
  | n, .dit _ _, v, q, h => by cases n <;> cases q
  | n, .tpo _, v, q, h => by cases n <;> cases q
  | n, .exc _ _ _ _, v, q, h => by cases n <;> cases q
theorem RepT.dp (s : Same G H) : ∀ (n : Nat) (d : D) (v : V), okD n d = true → RepT K G H d v → Dp K H v (pd d)
  | n, .non, v, _, h => by
    have e : v = .non := h
    rw [e]; unfold pd; exact .non
  | n, .bl b, v, _, h => by
    have e : v = .bl b := h
    rw [e]; unfold pd; exact .bl b
  | n, .int b, v, _, h => by
    have e : v = .int b := h
    rw [e]; unfold pd; exact .int b
  | n, .str b, v, _, h => by
    have e : v = .str b := h
    rw [e]; unfold pd; exact .str b
  | 0, .lst ds, v, q, h => by cases q
  | 0, .tup ds, v, q, h => by cases q
  | n + 1, .lst ds, v, q, h => by
    obtain ⟨a, vs, rfl, h1, h2⟩ := h
    unfold pd
    exact .lst h1 (dp_all (Rep.dp s n) ds vs q h2)
  | n + 1, .tup ds, v, q, h => by
    obtain ⟨a, vs, rfl, h1, h2, _⟩ := h
    unfold pd
    exact .tup h1 (dp_all (Rep.dp s n) ds vs q h2)
  | n, .ty _, v, q, h => by cases n <;> cases q
  | n, .ins _ _ _, v, q, h => by cases n <;> cases q
  | n, .dic _ _, v, q, h => by cases n <;> cases q
  | n, .dit _ _, v, q, h => by cases n <;> cases q
  | n, .tpo _, v, q, h => by cases n <;> cases q
  | n, .exc _ _ _ _, v, q, h => by cases n <;> cases q
end
/-- depth at most 16 is plenty -/
def kEq : D → D → (D → Prop) → Prop := fun d1 d2 P => okD 16 d1 = true ∧ okD 16 d2 = true ∧ P (.bl (eqD d1 d2))
def kNe : D → D → (D → Prop) → Prop := fun d1 d2 P => okD 16 d1 = true ∧ okD 16 d2 = true ∧ P (.bl (!eqD d1 d2))
theorem sem_eq {K : PySem.W.Frag} : Sem2 K (rEqD K) kEq := fun G H d1 d2 v1 v2 P Q s h1 h2 hk hq =>
  ⟨pd d1, pd d2, RepT.dp s 16 d1 v1 hk.1 h1, RepT.dp s 16 d2 v2 hk.2.1 h2, okD_shaped (by decide) hk.1, okD_shaped (by decide) hk.2.1, hq (.bl (eqD d1 d2)) _ G H (.refl s) rfl hk.2.2⟩
theorem sem_ne {K : PySem.W.Frag} : Sem2 K (rNeD K) kNe := fun G H d1 d2 v1 v2 P Q s h1 h2 hk hq =>
  ⟨pd d1, pd d2, RepT.dp s 16 d1 v1 hk.1 h1, RepT.dp s 16 d2 v2 hk.2.1 h2, okD_shaped (by decide) hk.1, okD_shaped (by decide) hk.2.1, hq (.bl (!eqD d1 d2)) _ G H (.refl s) rfl hk.2.2⟩
theorem qc_eq (hu : X.A.units + 64 < cLine) (ha : QO X W a wa) (hb : QO X W b wb) : QC X W .Eq a b (w2 kEq wa wb) := qc (op_eqD hu) sem_eq ha hb (nomark _)
theorem qc_ne (hu : X.A.units + 64 < cLine) (ha : QO X W a wa) (hb : QO X W b wb) : QC X W .NotEq a b (w2 kNe wa wb) := qc (op_neD hu) sem_ne ha hb (nomark _)

/-! ### is None -/
def isNon : D → Bool
  | .non => true
  | _ => false
def kIsN : D → (D → Prop) → Prop := fun d P => P (.bl (isNon d))
def kNotN : D → (D → Prop) → Prop := fun d P => P (.bl (!isNon d))
/-! ### and, or, not, if .. else -/
def wAnd (wt wu : WT) : WT := fun env Q Xp => wt env (fun k e => if k = true then wu e Q Xp else Q false e) Xp
def wOr (wt wu : WT) : WT := fun env Q Xp => wt env (fun k e => if k = true then Q true e else wu e Q Xp) Xp
def wNot (wt : WT) : WT := fun env Q Xp => wt env (fun k e => Q (!k) e) Xp
variable {wt wu : WT} {rest : List Expr}
theorem qt_val (h : QE X W e we) (he : ∀ whole, isTrue e X.env whole = (do let v ← whole; standAt e.pos; holding [v] (truthy v)) := by intro _; rfl) : QT X W e (wB we) := (pt_val h he).le lB
theorem lTT {K : PySem.W.Frag} {f : Bool → (Bool → Ev → Prop) → XP → Ev → Prop} {g : Bool → St → Hp → (Bool → Hp → Prop) → Prop} (hf : ∀ k x G env σ H Q' X' (Q : Bool → Hp → Prop), ER K x G H σ env → f k Q' X' env →
      (∀ b env' G' H', Same G G' → ER K x G' H' σ env' → Q' b env' → Q b H') → Xend K W x G σ X' → g k σ H Q) (σ : St) (H : Hp) (Q : Bool → Hp → Prop)
    (h : lT K W (fun env Q' Xp => wt env (fun k e => f k Q' Xp e) Xp) σ H Q) : lT K W wt σ H fun k H1 => g k σ H1 Q := by
  obtain ⟨x, G, env, Q', X', r, hw, hn, hx⟩ := h
  exact ⟨x, G, env, _, X', r, hw, fun k e G' H' s r' q => hf k x G' e σ H' Q' X' Q r' q (fun b env' G2 H2 s2 => hn b env' G2 H2 (s.trans s2)) (hx.up s), hx⟩
theorem qw_and1 (ha : QT X W a wt) : QW X W (.BoolOp .And [a] pos) wt := pw_and1 ha
theorem qw_or1 (ha : QT X W a wt) : QW X W (.BoolOp .Or [a] pos) wt := pw_or1 ha
theorem qw_and (ha : QT X W a wt) (hb : QW X W (.BoolOp .And (b :: rest) pos) wu) : QW X W (.BoolOp .And (a :: b :: rest) pos) (wAnd wt wu) := (pw_and ha hb).le
  (lTT (f := fun k Q' Xp e => if k = true then wu e Q' Xp else Q' false e) (g := fun k σ H Q => if k = true then lT X.K W wu σ H Q else Q false H) (fun k x G env σ H Q' X' Q r q hn hx => by
    cases k with
    | true => exact ⟨x, G, env, Q', X', r, q, hn, hx⟩
    | false => exact hn false env G H (.refl _) r q))
theorem qw_or (ha : QT X W a wt) (hb : QW X W (.BoolOp .Or (b :: rest) pos) wu) : QW X W (.BoolOp .Or (a :: b :: rest) pos) (wOr wt wu) := (pw_or ha hb).le
  (lTT (f := fun k Q' Xp e => if k = true then Q' true e else wu e Q' Xp) (g := fun k σ H Q => if k = true then Q true H else lT X.K W wu σ H Q) (fun k x G env σ H Q' X' Q r q hn hx => by
    cases k with
    | false => exact ⟨x, G, env, Q', X', r, q, hn, hx⟩
    | true => exact hn true env G H (.refl _) r q))
theorem qt_not (ha : QT X W a wt) : QT X W (.UnaryOp .Not a pos) (wNot wt) := (pt_not ha).le
  (lTT (f := fun k Q' _ e => Q' (!k) e) (g := fun k σ H Q => Q (!k) H) fun k x G env σ H Q' X' Q r q hn hx => hn (!k) env G H (.refl _) r q)
/-- .. as values -/
def vAnd (wa wb : WE) : WE := fun env Q Xp => wa env (fun d e => mo (blOf d) fun k => if k = true then wb e Q Xp else Q (.bl false) e) Xp
def vOr (wa wb : WE) : WE := fun env Q Xp => wa env (fun d e => mo (blOf d) fun k => if k = true then Q (.bl true) e else wb e Q Xp) Xp
def vNot (wa : WE) : WE := fun env Q Xp => wa env (fun d e => mo (blOf d) fun k => Q (.bl (!k)) e) Xp
theorem qe_one {op} (h : QE X W a we) : QE X W (.BoolOp op [a] pos) we := pe_one h
theorem qe_and (ha : QE X W a we) (hb : QE X W (.BoolOp .And (b :: rest) pos) wf) : QE X W (.BoolOp .And (a :: b :: rest) pos) (vAnd we wf) := (pe_and ha hb).le fun σ H Q h => by
  obtain ⟨x, G, env, Q', X', r, hw, hn, hx⟩ := h
  refine ⟨x, G, env, _, X', r, imO_mono hw, fun h e v G' H' s r' q hq => ?_, hx⟩
  obtain ⟨d, rfl, hq⟩ := hq
  obtain ⟨k, z, q'⟩ := mo_some hq
  rw [blOf_some z] at q
  have q2 : v = .bl k := q
  refine ⟨k, q2, ?_⟩
  cases k with
  | true => exact ⟨x, G', e, Q', X', r', q', fun h e2 v2 G2 H2 s2 => hn h e2 v2 G2 H2 (s.trans s2), hx.up s⟩
  | false => exact hn (.im (.bl false)) e (.bl false) G' H' s r' rfl q'
theorem qe_not (ha : QE X W a we) : QE X W (.UnaryOp .Not a pos) (vNot we) := (pe_not ha).le fun σ H Q h => by
  obtain ⟨x, G, env, Q', X', r, hw, hn, hx⟩ := h
  refine ⟨x, G, env, _, X', r, imO_mono hw, fun h e v G' H' s r' q hq => ?_, hx⟩
  obtain ⟨d, rfl, hq⟩ := hq
  obtain ⟨k, z, q'⟩ := mo_some hq
  rw [blOf_some z] at q
  have q2 : v = .bl k := q
  exact ⟨k, q2, hn (.im (.bl (!k))) e (.bl (!k)) G' H' s r' rfl q'⟩
def wIfE (wc : WT) (wa wb : WO) : WO := fun env Q Xp => wc env (fun k e => if k = true then wa e Q Xp else wb e Q Xp) Xp
def wIfX (wc : WT) (wa wb : WE) : WE := fun env Q Xp => wc env (fun k e => if k = true then wa e Q Xp else wb e Q Xp) Xp
/-! ### argument lists, displays -/
def aNil : WA := fun env Q _ => Q [] env
def aCons (w : WO) (wl : WA) : WA := fun env Q Xp => w env (fun h e => wl e (fun hs e2 => Q (h :: hs) e2) Xp) Xp
variable {wl : WA} {es : List Expr}
theorem qa_nil : QA X W [] aNil := pa_nil.le fun σ H Q h => by
  obtain ⟨x, G, env, Q', X', r, hw, hn, hx⟩ := h
  exact hn [] env [] G H (.refl _) r rfl hw
theorem qa_cons (ha : QO X W e wa) (hr : QA X W es wl) (hs : starEach (e :: es) X.env = (false, eval e X.env) :: starEach es X.env := by rfl) : QA X W (e :: es) (aCons wa wl) := (pa_cons ha hr hs).le fun σ H Q h => by
  obtain ⟨x, G, env, Q', X', r, hw, hn, hx⟩ := h
  exact ⟨x, G, env, _, X', r, hw, fun h e1 v G1 H1 s1 r1 q1 hw1 => ⟨x, G1, e1, _, X', r1, hw1, fun hs e2 vs G2 H2 s2 r2 q2 hw2 => hn (h :: hs) e2 (v :: vs) G2 H2 (s1.trans s2) r2 ⟨v, vs, rfl, q1.mono s2, q2⟩ hw2, hx.up s1⟩, hx⟩
def wLst (wl : WA) : WE := fun env Q Xp => wl env (fun hs e => mo (ims hs) fun ds => ds.length ≤ 1000000 ∧ Q (.lst ds) e) Xp
def wTup (wl : WA) : WE := fun env Q Xp => wl env (fun hs e => mo (ims hs) fun ds => ds.length ≤ 1000000 ∧ Q (.tup ds) e) Xp
theorem line_le {n : Nat} (h : n ≤ 1000000) : n ≤ sizeLine := by
  rw [sizeLine_eq]
  omega
theorem line_lt {n : Nat} (h : n ≤ 1000000) : n < sizeLine := by
  rw [sizeLine_eq]
  omega
theorem qf_lst (h : QA X W es wl) : QF X W (.List es pos) (wLst wl) := (pe_lst h).le fun σ H Q h => by
  obtain ⟨x, G, env, Q', X', r, hw, hn, hx⟩ := h
  refine ⟨x, G, env, _, X', r, hw, fun hs e vs G' H' s r' q hq => ?_, hx⟩
  obtain ⟨ds, y, hl, hq⟩ := mo_some hq
  have rp := q.ims y
  refine ⟨by rw [rp.length]; exact line_le hl, fun p hp => ?_⟩
  obtain ⟨f1, f2, f3⟩ := fresh_F r' hp
  exact hn (.lst ds) e p (.lst vs) G' (upd H' p (.lst vs)) s (r'.step (Step.junk r'.sG _ hp)) upd_same ⟨vs, rfl, rp⟩ f2 f1 f3 hq
theorem qe_tup {x1} (h : QA X W es wl) : QE X W (.Tuple es x1 pos) (wTup wl) := (pe_tup h).le fun σ H Q h => by
  obtain ⟨x, G, env, Q', X', r, hw, hn, hx⟩ := h
  refine ⟨x, G, env, _, X', r, hw, fun hs e vs G' H' s r' q hq => ?_, hx⟩
  obtain ⟨ds, y, hl, hq⟩ := mo_some hq
  have rp := q.ims y
  refine ⟨by rw [rp.length]; exact line_le hl, fun p hp => ?_⟩
  have st := Step.one r'.sG (.tup vs) hp
  refine hn (.im (.tup ds)) e (.ref p) _ _ (s.trans st.g) (r'.step st) ?_ hq
  show Rep X.K _ (.tup ds) (.ref p)
  unfold Rep
  exact ⟨p, vs, rfl, SqT.of upd_same, Reps.mono st.g _ _ rp⟩
end
end TL

namespace TL
open PySem PySem.Spec L2
section
variable {X : Cx} {W : WX} {a b c e : Expr} {pos p : Pos} {wa wb : WO} {we wf : WE} {wl : WA} {es : List Expr} {K : PySem.W.Frag}

/-! ### xs + ys -/
def rCatS (K : PySem.W.Frag) : R2 := fun x y H Q => ∃ l b xs zs, x = .ref l ∧ y = .ref b ∧ SqL K H l xs ∧ SqL K H b zs ∧ xs.length + zs.length ≤ sizeLine ∧ ∀ p, H p = none → Q (.ref p) (upd H p (.lst (xs ++ zs)))
theorem op_catS : OpR X (binaryOp .Add) (rCatS X.K) := by
  intro pins s σ H x y v u Q I rx ry h
  obtain ⟨l, b, xs, zs, rfl, rfl, hH, hB, hz, q⟩ := h
  cases rx
  cases ry
  obtain ⟨its, r, pl, hl⟩ := I.list hH
  obtain ⟨its2, r2, pl2, hl2⟩ := I.list hB
  have e1 := r.length
  have e2 := r2.length
  obtain ⟨⟨c1, dd, dt, sl⟩, n, ho, hc, hd0, hd⟩ := pl
  obtain ⟨⟨c2, dd2, dt2, sl2⟩, n2, ho2, hc2, hd02, hd2⟩ := pl2
  simp only at hc hd hd0 hc2 hd2 hd02
  subst hc hd hd0 hc2 hd2 hd02
  refine PySem.concat_meets ⟨_, ho, rfl⟩ ⟨_, ho2, rfl⟩ PySem.noFill_list_add PySem.seq_list_add PySem.F.slot_list_add PySem.F.entry_list_add (PySem.F.args_list_add_2 _ _) (PyProof.Rows.list_addW l b its.toArray its2.toArray n n2 none none sl sl2 (by rw [List.size_toArray, List.size_toArray]; omega)) ⟨ho, ho2, ?_⟩
  have ea : its.toArray ++ its2.toArray = (its ++ its2).toArray := by simp
  rw [ea]
  exact ⟨.ref _, _, I.lnew (t' := s.toks) (r.append r2) (by rw [List.length_append]; omega), rfl, q _ I.fresh⟩
def lstOf : D → Option (List D)
  | .lst ds => some ds
  | _ => none
def tupOf : D → Option (List D)
  | .tup ds => some ds
  | _ => none
def seqOf : D → Option (List D)
  | .lst ds => some ds
  | .tup ds => some ds
  | _ => none
theorem lstOf_some {d : D} {ds : List D} (h : lstOf d = some ds) : d = .lst ds := by
  cases d <;> cases h
  rfl
theorem tupOf_some {d : D} {ds : List D} (h : tupOf d = some ds) : d = .tup ds := by
  cases d <;> cases h
  rfl
theorem seqOf_some {d : D} {ds : List D} (h : seqOf d = some ds) : d = .lst ds ∨ d = .tup ds := by
  cases d <;> cases h
  · exact .inl rfl
  · exact .inr rfl
def kCat : D → D → (D → Prop) → Prop := fun d1 d2 P => mo (lstOf d1) fun xs => mo (lstOf d2) fun ys => xs.length + ys.length ≤ 1000000 ∧ P (.lst (xs ++ ys))
theorem sem_cat : Sem2F K (rCatS K) kCat := fun G H d1 d2 v1 v2 P Q s h1 h2 hk hq => by
  obtain ⟨xs, z1, hk⟩ := mo_some hk
  obtain ⟨ys, z2, hl, hk⟩ := mo_some hk
  rw [lstOf_some z1] at h1
  rw [lstOf_some z2] at h2
  obtain ⟨a1, vs1, rfl, q1, r1⟩ := h1
  obtain ⟨a2, vs2, rfl, q2, r2⟩ := h2
  exact ⟨a1, a2, vs1, vs2, rfl, rfl, q1, q2, by rw [r1.length, r2.length]; exact line_le hl, fun p hp => hq (.lst (xs ++ ys)) p _ hp ⟨_, rfl, r1.append r2⟩ hk⟩
theorem qf_cat (ha : QO X W a wa) (hb : QO X W b wb) : QF X W (.BinOp a .Add b pos) (w2 kCat wa wb) := qf_op op_catS sem_cat ha hb

/-! ### xs[i] -/
theorem atI_map {α β : Type} {R : α → β → Prop} {xs : List α} {ys : List β} (hl : ys.length = xs.length) (h : ∀ (i : Nat) x, xs[i]? = some x → ∃ y, ys[i]? = some y ∧ R x y) {i : Int} {x : α} (e : atI xs i = some x) : ∃ y, atI ys i = some y ∧ R x y := by
  unfold atI at e ⊢
  rw [hl]
  cases z : ixN xs.length i with
  | none =>
    rw [z] at e
    cases e
  | some j =>
    rw [z] at e
    exact h j x e
def kIx : D → D → (D → Prop) → Prop := fun d1 d2 P => mo (seqOf d1) fun ds => mo (intOf d2) fun i => mo (atI ds i) P
theorem sem_ix : Sem2 K (fun x y H Q => rIxL K x y H Q ∨ rIxT K x y H Q) kIx := fun G H d1 d2 v1 v2 P Q s h1 h2 hk hq => by
  obtain ⟨ds, z1, hk⟩ := mo_some hk
  obtain ⟨i, z2, hk⟩ := mo_some hk
  obtain ⟨d, z3, hk⟩ := mo_some hk
  rw [intOf_some z2] at h2
  have e2 : v2 = .int i := h2
  rcases seqOf_some z1 with z1 | z1 <;> rw [z1] at h1
  · obtain ⟨a1, vs1, rfl, q1, r1⟩ := h1
    obtain ⟨v, e, r⟩ := atI_map (R := Rep K G) r1.length (fun j x hj => r1.get hj) z3
    exact .inl ⟨a1, vs1, i, v, rfl, e2, q1, e, hq d v G H (.refl s) r hk⟩
  · obtain ⟨a1, vs1, rfl, q1, r1, _⟩ := h1
    obtain ⟨v, e, r⟩ := atI_map (R := Rep K G) r1.length (fun j x hj => r1.get hj) z3
    exact .inr ⟨a1, vs1, i, v, rfl, e2, q1, e, hq d v G H (.refl s) r hk⟩
theorem qe_ix (ha : QO X W a wa) (hb : QO X W b wb) (hs : PlainIx b) : QE X W (.Subscript a b pos) (w2 kIx wa wb) := (pe_ix (IxR.or ix_list ix_tup) ha hb hs).le (l2 sem_ix)

/-! ### xs[lo:hi] -/
def cutD (xs : List D) (lo hi : Option Int) : List D := (xs.drop (HT.sIx xs.length 0 lo)).take (HT.sIx xs.length xs.length hi - HT.sIx xs.length 0 lo)
theorem Reps.cut {K : PySem.W.Frag} {G : Hp} {ds : List D} {vs : List V} (r : Reps K G ds vs) (lo hi : Option Int) : Reps K G (cutD ds lo hi) (cutV vs lo hi) := by
  unfold cutD cutV
  rw [r.length]
  exact (r.drop _).take _
abbrev WP := Ev → (Option Int → Ev → Prop) → XP → Prop
def pNone : WP := fun env Q _ => Q none env
def pSome (w : WE) : WP := fun env Q Xp => w env (fun d e => mo (intOf d) fun i => Q (some i) e) Xp
def lP (K : PySem.W.Frag) (W : WX) (w : WP) : TO := fun σ H Q => ∃ x G env Q' X', ER K x G H σ env ∧ w env Q' X' ∧
  (∀ o env' G' H', Same G G' → ER K x G' H' σ env' → Q' o env' → Q o H') ∧ Xend K W x G σ X'
abbrev QP (X : Cx) (W : WX) (e : Option Expr) (w : WP) : Prop := PO X e (lP X.K W w)
theorem _root_.L2.PO.le {X : Cx} {e : Option Expr} {t t' : TO} (h : PO X e t) (i : ∀ σ H Q, t' σ H Q → t σ H Q) : PO X e t' := ⟨fun pins s σ H Q I hw => h.run pins s σ H Q I (i σ H Q hw)⟩
theorem qp_none : QP X W none pNone := po_none.le fun σ H Q h => by
  obtain ⟨x, G, env, Q', X', r, hw, hn, hx⟩ := h
  exact hn none env G H (.refl _) r hw
theorem qp_some (h : QE X W e we) : QP X W (some e) (pSome we) := (po_some h).le fun σ H Q h => by
  obtain ⟨x, G, env, Q', X', r, hw, hn, hx⟩ := h
  refine ⟨x, G, env, _, X', r, imO_mono hw, fun h e v G' H' s r' q hq => ?_, hx⟩
  obtain ⟨d, rfl, hq⟩ := hq
  obtain ⟨i, z, q'⟩ := mo_some hq
  rw [intOf_some z] at q
  have q2 : v = .int i := q
  exact ⟨i, q2, hn (some i) e G' H' s r' q'⟩
def wSl (wa : WO) (pl ph : WP) : WE := fun env Q Xp => wa env (fun h e1 => pl e1 (fun lo e2 => ph e2 (fun hi e3 => mo (hv e3 h) fun d => mo (lstOf d) fun ds => Q (.lst (cutD ds lo hi)) e3) Xp) Xp) Xp
theorem qf_sl {lo hi : Option Expr} {pl ph : WP} {p2 : Pos} (ha : QO X W a wa) (hl : QP X W lo pl) (hh : QP X W hi ph) : QF X W (.Subscript a (.Slice lo hi none p2) pos) (wSl wa pl ph) := (pe_slice sl_list ha hl hh).le fun σ H Q h => by
  obtain ⟨x, G, env, Q', X', r, hw, hn, hx⟩ := h
  refine ⟨x, G, env, _, X', r, hw, fun h e1 v G1 H1 s1 r1 q1 hw1 => ⟨x, G1, e1, _, X', r1, hw1, fun lo' e2 G2 H2 s2 r2 hw2 => ⟨x, G2, e2, _, X', r2, hw2, fun hi' e3 G3 H3 s3 r3 hw3 => ?_, hx.up (s1.trans s2)⟩, hx.up s1⟩, hx⟩
  obtain ⟨d, z1, hw3⟩ := mo_some hw3
  obtain ⟨ds, z2, hw3⟩ := mo_some hw3
  rw [lstOf_some z2] at z1
  obtain ⟨a1, vs1, rfl, q, rr⟩ := ((q1.mono s2).mono s3).read r3 z1
  refine ⟨a1, vs1, rfl, q, fun p hp => ?_⟩
  obtain ⟨f1, f2, f3⟩ := fresh_F r3 hp
  exact hn (.lst (cutD ds lo' hi')) e3 p _ G3 _ ((s1.trans s2).trans s3) (r3.step (Step.junk r3.sG _ hp)) upd_same ⟨_, rfl, rr.cut lo' hi'⟩ f2 f1 f3 hw3

/-! ### calls of built-ins -/
theorem qe_callB {r : List V → Hp → VK → Prop} {k : List D → (D → Prop) → Prop} {id : String} {x : Str} (hc : CallR X (.builtin id) r) (hk : SemN X.K r k) (hg : Gl X x) (hm : X.mg x = none) (hb : bootBuiltins x = some (.builtin id)) (ha : QA X W (e :: es) wl)
    (hn : x ≠ "__name__" := by decide) (hdb : (x == ("__debug__" : Str)) = false := by decide) (he : starEach (e :: es) X.env = (false, eval e X.env) :: starEach es X.env := by rfl) (hpl : (backTo pos (starEach es X.env)).any (·.1) = false := by rfl) :
    QE X W (.Call (.Name x p) (e :: es) [] pos) (wN k wl) := (pe_callB hc hg hm hb ha hn hdb he hpl).le (lN hk)
theorem qe_callTy {r : List V → Hp → VK → Prop} {k : List D → (D → Prop) → Prop} {T : String} {x : Str} (hc : CallR X (.type T) r) (hk : SemN X.K r k) (hg : Gl X x) (hm : X.mg x = none) (hb : bootBuiltins x = some (.type T)) (ha : QA X W (e :: es) wl)
    (hn : x ≠ "__name__" := by decide) (hdb : (x == ("__debug__" : Str)) = false := by decide) (he : starEach (e :: es) X.env = (false, eval e X.env) :: starEach es X.env := by rfl) (hpl : (backTo pos (starEach es X.env)).any (·.1) = false := by rfl) :
    QE X W (.Call (.Name x p) (e :: es) [] pos) (wN k wl) := (pe_callTy hc hg hm hb ha hn hdb he hpl).le (lN hk)
theorem qf_callTy {r : List V → Hp → VK → Prop} {k : List D → (D → Prop) → Prop} {T : String} {x : Str} (hc : CallR X (.type T) r) (hk : SemNF X.K r k) (hg : Gl X x) (hm : X.mg x = none) (hb : bootBuiltins x = some (.type T)) (ha : QA X W (e :: es) wl)
    (hn : x ≠ "__name__" := by decide) (hdb : (x == ("__debug__" : Str)) = false := by decide) (he : starEach (e :: es) X.env = (false, eval e X.env) :: starEach es X.env := by rfl) (hpl : (backTo pos (starEach es X.env)).any (·.1) = false := by rfl) :
    QF X W (.Call (.Name x p) (e :: es) [] pos) (wN k wl) := (pe_callTy hc hg hm hb ha hn hdb he hpl).le (lNF hk)
theorem RepTs.one {G H : Hp} {ds : List D} {vs : List V} {d : D} (h : RepTs K G H ds vs) (e : ds = [d]) : ∃ v, vs = [v] ∧ RepT K G H d v := by
  subst e
  obtain ⟨v, r, rfl, q, z⟩ := h
  have z' : r = [] := z
  exact ⟨v, by rw [z'], q⟩
theorem RepTs.two {G H : Hp} {ds : List D} {vs : List V} {d d' : D} (h : RepTs K G H ds vs) (e : ds = [d, d']) : ∃ v v', vs = [v, v'] ∧ RepT K G H d v ∧ RepT K G H d' v' := by
  subst e
  obtain ⟨v, r, rfl, q, z⟩ := h
  obtain ⟨v', rfl, q'⟩ := RepTs.one z rfl
  exact ⟨v, v', rfl, q, q'⟩
def one : List D → Option D
  | [d] => some d
  | _ => none
def two : List D → Option (D × D)
  | [d, d'] => some (d, d')
  | _ => none
theorem one_some {ds : List D} {d : D} (h : one ds = some d) : ds = [d] := by
  unfold one at h
  split at h
  · cases h
    rfl
  · cases h
def lenOf : D → Option Nat
  | .lst ds => some ds.length
  | .tup ds => some ds.length
  | _ => none
def kLen : List D → (D → Prop) → Prop := fun ds P => mo (one ds) fun d => mo (seqOf d) fun xs => P (.int xs.length)
theorem sem_len : SemN K (fun xs H Q => ∃ p ys, xs = [.ref p] ∧ (SqL K H p ys ∨ SqT K H p ys) ∧ Q (.int ys.length) H) kLen := fun G H ds vs P Q s h hk hq => by
  obtain ⟨d, z, hk⟩ := mo_some hk
  obtain ⟨xs, z2, hk⟩ := mo_some hk
  obtain ⟨v, rfl, rt⟩ := h.one (one_some z)
  rcases seqOf_some z2 with z2 | z2 <;> rw [z2] at rt
  · obtain ⟨a, ws, rfl, q, r⟩ := rt
    exact ⟨a, ws, rfl, .inl q, hq (.int xs.length) _ G H (.refl s) (by rw [r.length]; rfl) hk⟩
  · obtain ⟨a, ws, rfl, q, r, _⟩ := rt
    exact ⟨a, ws, rfl, .inr q, hq (.int xs.length) _ G H (.refl s) (by rw [r.length]; rfl) hk⟩
theorem qe_len (hm : X.mg "len" = none) (ha : QO X W e wa) (hg : Gl X "len" := by rfl) (he : starEach [e] X.env = (false, eval e X.env) :: starEach [] X.env := by rfl) (hpl : (backTo pos (starEach [] X.env)).any (·.1) = false := by rfl) :
    QE X W (.Call (.Name "len" p) [e] [] pos) (wN kLen (aCons wa aNil)) := qe_callB call_len_seq sem_len hg hm PySem.boot_len (qa_cons ha qa_nil he) (he := he) (hpl := hpl)
def kAbs : List D → (D → Prop) → Prop := fun ds P => mo (one ds) fun d => mo (intOf d) fun i => P (.int (if i < 0 then -i else i))
theorem qe_abs (hm : X.mg "abs" = none) (ha : QO X W e wa) (hg : Gl X "abs" := by rfl) (he : starEach [e] X.env = (false, eval e X.env) :: starEach [] X.env := by rfl) (hpl : (backTo pos (starEach [] X.env)).any (·.1) = false := by rfl) :
    QE X W (.Call (.Name "abs" p) [e] [] pos) (wN kAbs (aCons wa aNil)) := qe_callB call_abs (fun G H ds vs P Q s h hk hq => by
      obtain ⟨d, z, hk⟩ := mo_some hk
      obtain ⟨i, z2, hk⟩ := mo_some hk
      obtain ⟨v, rfl, rt⟩ := h.one (one_some z)
      rw [intOf_some z2] at rt
      have e : v = .int i := rt
      rw [e]
      exact ⟨i, rfl, hq (.int (if i < 0 then -i else i)) _ G H (.refl s) rfl hk⟩) hg hm (by decide +kernel) (qa_cons ha qa_nil he) (he := he) (hpl := hpl)
def toI : D → Option Int
  | .int i => some i
  | .bl b => some (if b then 1 else 0)
  | _ => none
def kInt : List D → (D → Prop) → Prop := fun ds P => mo (one ds) fun d => mo (toI d) fun i => P (.int i)
theorem qe_intc (hm : X.mg "int" = none) (ha : QO X W e wa) (hg : Gl X "int" := by rfl) (he : starEach [e] X.env = (false, eval e X.env) :: starEach [] X.env := by rfl) (hpl : (backTo pos (starEach [] X.env)).any (·.1) = false := by rfl) :
    QE X W (.Call (.Name "int" p) [e] [] pos) (wN kInt (aCons wa aNil)) := qe_callTy call_int1 (fun G H ds vs P Q s h hk hq => by
      obtain ⟨d, z, hk⟩ := mo_some hk
      obtain ⟨i, z2, hk⟩ := mo_some hk
      obtain ⟨v, rfl, rt⟩ := h.one (one_some z)
      cases d with
      | int j =>
        have e : v = .int j := rt
        rw [e]
        have z3 : j = i := Option.some.inj z2
        subst z3
        exact .inl ⟨j, rfl, hq (.int j) _ G H (.refl s) rfl hk⟩
      | bl b =>
        have e : v = .bl b := rt
        rw [e]
        have z3 : (if b then 1 else 0 : Int) = i := Option.some.inj z2
        subst z3
        exact .inr ⟨b, rfl, hq (.int (if b then 1 else 0)) _ G H (.refl s) rfl hk⟩
      | _ => cases z2) hg hm (by decide +kernel) (qa_cons ha qa_nil he) (he := he) (hpl := hpl)
def kList : List D → (D → Prop) → Prop := fun ds P => mo (one ds) fun d => mo (seqOf d) fun xs => P (.lst xs)
theorem qf_list (hm : X.mg "list" = none) (ha : QO X W e wa) (hg : Gl X "list" := by rfl) (he : starEach [e] X.env = (false, eval e X.env) :: starEach [] X.env := by rfl) (hpl : (backTo pos (starEach [] X.env)).any (·.1) = false := by rfl) :
    QF X W (.Call (.Name "list" p) [e] [] pos) (wN kList (aCons wa aNil)) := qf_callTy call_list_of (fun G H ds vs P Q s h hk hq => by
      obtain ⟨d, z, hk⟩ := mo_some hk
      obtain ⟨xs, z2, hk⟩ := mo_some hk
      obtain ⟨v, rfl, rt⟩ := h.one (one_some z)
      rcases seqOf_some z2 with z2 | z2 <;> rw [z2] at rt
      · obtain ⟨a, ws, rfl, q, r⟩ := rt
        exact ⟨a, ws, rfl, .inl q, fun l hl => hq (.lst xs) l _ hl ⟨ws, rfl, r⟩ hk⟩
      · obtain ⟨a, ws, rfl, q, r, _⟩ := rt
        exact ⟨a, ws, rfl, .inr q, fun l hl => hq (.lst xs) l _ hl ⟨ws, rfl, r⟩ hk⟩) hg hm (by decide +kernel) (qa_cons ha qa_nil he) (he := he) (hpl := hpl)
def kTuple : List D → (D → Prop) → Prop := fun ds P => mo (one ds) fun d => mo (seqOf d) fun xs => P (.tup xs)
theorem qe_tuple (hm : X.mg "tuple" = none) (ha : QO X W e wa) (hg : Gl X "tuple" := by rfl) (he : starEach [e] X.env = (false, eval e X.env) :: starEach [] X.env := by rfl) (hpl : (backTo pos (starEach [] X.env)).any (·.1) = false := by rfl) :
    QE X W (.Call (.Name "tuple" p) [e] [] pos) (wN kTuple (aCons wa aNil)) := (pe_callTy call_tuple_of hg hm (by decide +kernel) (qa_cons ha qa_nil he) (he := he) (hpl := hpl)).le fun σ H Q h => by
      obtain ⟨x, G, env, Q', X', r', hw, hn, hx⟩ := h
      refine ⟨x, G, env, fun hs e => mo (hvs e hs) fun ds => kTuple ds fun d => Q' (.im d) e, X', r', hw, fun hs e1 vs G1 H1 s1 r1 q1 hw1 => ?_, hx⟩
      obtain ⟨ds, y1, hk1⟩ := mo_some hw1
      obtain ⟨d, z, hk2⟩ := mo_some hk1
      obtain ⟨xs, z2, hk3⟩ := mo_some hk2
      have hh := one_some z
      subst hh
      cases hs with
      | nil => cases y1
      | cons h t =>
        cases t with
        | cons h2 t2 =>
          exfalso
          unfold hvs at y1
          cases w1 : hv e1 h with
          | none => rw [w1] at y1; cases y1
          | some d1 =>
            rw [w1] at y1
            unfold hvs at y1
            cases w2 : hv e1 h2 with
            | none => rw [w2] at y1; cases y1
            | some d2 =>
              rw [w2] at y1
              cases w3 : hvs e1 t2 with
              | none => rw [w3] at y1; cases y1
              | some d3 => rw [w3] at y1; cases y1
        | nil =>
          obtain ⟨v, r, rfl, hh, z'⟩ := q1
          have z'' : r = [] := z'
          subst z''
          have y2 : hv e1 h = some d := by
            unfold hvs at y1
            cases w1 : hv e1 h with
            | none => rw [w1] at y1; cases y1
            | some d1 =>
              rw [w1] at y1
              cases y1
              rfl
          have rt := hh.read r1 y2
          rcases seqOf_some z2 with z2 | z2
          · rw [z2] at rt
            obtain ⟨a, ws, rfl, q, r⟩ := rt
            refine ⟨a, ws, rfl, .inl ⟨q, fun l hl => ?_⟩⟩
            have st := Step.one r1.sG (.tup ws) hl
            refine hn (.im (.tup xs)) e1 (.ref l) _ _ (s1.trans st.g) (r1.step st) ?_ hk3
            show Rep X.K _ (.tup xs) (.ref l)
            unfold Rep
            exact ⟨l, ws, rfl, SqT.of upd_same, Reps.mono st.g _ _ r⟩
          · subst z2
            have rt2 := rt
            obtain ⟨a, ws, rfl, q, r⟩ := rt
            refine ⟨a, ws, rfl, .inr ⟨q, ?_⟩⟩
            cases h with
            | im d0 =>
              cases y2
              exact hn (.im (.tup xs)) e1 (.ref a) G1 H1 s1 r1 hh hk3
            | ow i =>
              exfalso
              have y3 : owAt e1 i = some (.tup xs) := y2
              obtain ⟨b9, y4⟩ := owAt_some y3
              obtain ⟨_, _, _, _, q9, _⟩ := r1.ow i b9 _ y4
              exact q9
/-- sum of a list of ints -/
def intsOf : List D → Option (List Int)
  | [] => some []
  | .int i :: r => (match intsOf r with
    | some l => some (i :: l)
    | none => none)
  | _ :: _ => none
def kSum : List D → (D → Prop) → Prop := fun ds P => mo (one ds) fun d => mo (lstOf d) fun xs => mo (intsOf xs) fun ns => P (.int ns.sum)
end
end TL

namespace TL
open PySem PySem.Spec L2
/-! ### hiding an object -/
section
variable {K : PySem.W.Frag} {x : Fx} {G H G' H' : Hp} {σ : St} {env : Ev} {p : Addr} {o : HO}
theorem ER.hide (r : ER K x G H σ env) (hp : H p = some o) (hG : G p = none) (ho : ∀ (j : Nat) b d', env[j]? = some (.ow b d') → σ[j]? ≠ some (some (.ref p))) : ER K { x with F := upd x.F p o } G H σ env where
  len := r.len
  sG := r.sG
  sF := fun a u e => by
    by_cases z : a = p
    · subst z
      have e' : upd x.F a o a = some u := e
      rw [upd_same] at e'
      cases e'
      exact hp
    · have e' : upd x.F p o a = some u := e
      rw [upd_ne z] at e'
      exact r.sF a u e'
  dj := fun a u e => by
    by_cases z : a = p
    · subst z
      exact .inl hG
    · have e' : upd x.F p o a = some u := e
      rw [upd_ne z] at e'
      exact r.dj a u e'
  im := r.im
  ow := fun i b d e => by
    obtain ⟨p2, o2, z1, z2, z3, z4, z5⟩ := r.ow i b d e
    refine ⟨p2, o2, z1, z2, z3, ?_, z5⟩
    show upd x.F p o p2 = none
    rw [upd_ne fun z => ho i b d e (by rw [← z]; exact z1)]
    exact z4
  nd := r.nd
  rt := r.rt
theorem ER.unhide (r : ER K { x with F := upd x.F p o } G H σ env) (hnt : ¬ ∃ vs, o = .tup vs) (hF : x.F p = none) : ER K x G H σ env ∧ H p = some o ∧ G p = none ∧ (∀ (j : Nat) b d', env[j]? = some (.ow b d') → σ[j]? ≠ some (some (.ref p))) := by
  have sF' : Same x.F H := fun a u e => r.sF a u (by
    show upd x.F p o a = some u
    rw [upd_ne fun z => by rw [z, hF] at e; cases e]
    exact e)
  refine ⟨⟨r.len, r.sG, sF', fun a u e => r.dj a u (by
    show upd x.F p o a = some u
    rw [upd_ne fun z => by rw [z, hF] at e; cases e]
    exact e), r.im, fun i b d e => ?_, r.nd, r.rt⟩, r.sF p o upd_same, (r.dj p o upd_same).resolve_right hnt, fun j b d' e z => ?_⟩
  · obtain ⟨p2, o2, z1, z2, z3, z4, z5⟩ := r.ow i b d e
    have z4' : upd x.F p o p2 = none := z4
    have ne : p2 ≠ p := fun z => by
      rw [z, upd_same] at z4'
      cases z4'
    rw [upd_ne ne] at z4'
    exact ⟨p2, o2, z1, z2, z3, z4', z5⟩
  · obtain ⟨p2, o2, z1, z2, z3, z4, z5⟩ := r.ow j b d' e
    have z4' : upd x.F p o p2 = none := z4
    rw [z] at z1
    cases z1
    rw [upd_same] at z4'
    cases z4'
end

/-! ### statements -/
structure En where
  nx : Ev → Prop
  rt : D → Ev → Prop
  ro : D → Ev → Prop := fun _ _ => False
  bk : Ev → Prop := fun _ => False
  ct : Ev → Prop := fun _ => False
  xc : XP := fun _ _ => False
abbrev WS := Ev → En → Prop
structure SEnd (K : PySem.W.Frag) (W : WX) (x : Fx) (G : Hp) (De : Ends) (E' : En) : Prop where
  nx : ∀ env' σ' G' H', Same G G' → ER K x G' H' σ' env' → E'.nx env' → De.nx σ' H'
  rt : ∀ d env' σ' v G' H', Same G G' → ER K x G' H' σ' env' → Rep K G' d v → E'.rt d env' → De.rt v H'
  ro : ∀ d env' σ' p o G' H', Same G G' → ER K x G' H' σ' env' → H' p = some o → RepO K G' d o → G' p = none → x.F p = none → (∀ i, x.R i ≠ some p) → E'.ro d env' → De.rt (.ref p) H'
  bk : ∀ env' σ' G' H', Same G G' → ER K x G' H' σ' env' → E'.bk env' → De.bk σ' H'
  ct : ∀ env' σ' G' H', Same G G' → ER K x G' H' σ' env' → E'.ct env' → De.ct σ' H'
  xc : ∀ e env' cls dd σ' G' H', Same G G' → ER K x G' H' σ' env' → XRep K G' e cls dd → E'.xc e env' → W cls dd σ' H'
def lS (K : PySem.W.Frag) (W : WX) (w : WS) : TS := fun De σ H => ∃ x G env E', ER K x G H σ env ∧ w env E' ∧ SEnd K W x G De E'
abbrev QS (X : Cx) (W : WX) (st : Stmt) (w : WS) : Prop := PS X st (lS X.K W w)
abbrev QSs (X : Cx) (W : WX) (st : List Stmt) (w : WS) : Prop := PSs X st (lS X.K W w)
section
variable {K : PySem.W.Frag} {W : WX} {x : Fx} {G G1 : Hp} {De : Ends} {E' : En}
theorem SEnd.up (h : SEnd K W x G De E') (s : Same G G1) : SEnd K W x G1 De E' where
  nx := fun env' σ' G' H' s' => h.nx env' σ' G' H' (s.trans s')
  rt := fun d env' σ' v G' H' s' => h.rt d env' σ' v G' H' (s.trans s')
  ro := fun d env' σ' p o G' H' s' => h.ro d env' σ' p o G' H' (s.trans s')
  bk := fun env' σ' G' H' s' => h.bk env' σ' G' H' (s.trans s')
  ct := fun env' σ' G' H' s' => h.ct env' σ' G' H' (s.trans s')
  xc := fun e env' cls dd σ' G' H' s' => h.xc e env' cls dd σ' G' H' (s.trans s')
theorem SEnd.xe (h : SEnd K W x G De E') (σ : St) : Xend K W x G σ E'.xc := fun e env' cls dd G' H' s' => h.xc e env' cls dd σ G' H' s'
end
section
variable {X : Cx} {W : WX} {a b c e : Expr} {pos p : Pos} {wa wb : WO} {we wf : WE} {wl : WA} {es : List Expr} {st : Stmt} {rest : List Stmt} {w u : WS} {wt : WT}
def sNext : WS := fun env E => E.nx env
def sSeq (w u : WS) : WS := fun env E => w env { E with nx := fun e => u e E }
theorem qss_nil : QSs X W [] sNext := pss_nil.le fun De σ H h => by
  obtain ⟨x, G, env, E', r, hw, hE⟩ := h
  exact hE.nx env σ G H (.refl _) r hw
theorem qss_cons (h1 : QS X W st w) (h2 : QSs X W rest u) : QSs X W (st :: rest) (sSeq w u) := (pss_cons h1 h2).le fun De σ H h => by
  obtain ⟨x, G, env, E', r, hw, hE⟩ := h
  exact ⟨x, G, env, _, r, hw, ⟨fun env' σ' G' H' s r' q => ⟨x, G', env', E', r', q, hE.up s⟩, hE.rt, hE.ro, hE.bk, hE.ct, hE.xc⟩⟩
theorem qss_one (h1 : QS X W st w) : QSs X W [st] w := pss_one h1
def sBreak : WS := fun env E => E.bk env
def sCont : WS := fun env E => E.ct env
def sDrop (wo : WO) : WS := fun env E => wo env (fun _ e => E.nx e) E.xc
theorem qs_expr (he : QO X W e wa) (hs : swapsWith e none pos.line X.env = pure false := by rfl) : QS X W (.Expr e pos) (sDrop wa) := (ps_expr he hs).le fun De σ H h => by
  obtain ⟨x, G, env, E', r, hw, hE⟩ := h
  exact ⟨x, G, env, _, E'.xc, r, hw, fun h env' v G' H' s r' q hq => hE.nx env' σ G' H' s r' hq, hE.xe σ⟩
def sRet (w : WE) : WS := fun env E => w env (fun d e => E.rt d e) E.xc
theorem qs_ret (he : QE X W e we) : QS X W (.Return (some e) pos) (sRet we) := (ps_ret he).le fun De σ H h => by
  obtain ⟨x, G, env, E', r, hw, hE⟩ := h
  refine ⟨x, G, env, _, E'.xc, r, imO_mono hw, fun h env' v G' H' s r' q hq => ?_, hE.xe σ⟩
  obtain ⟨d, rfl, hq⟩ := hq
  exact hE.rt d env' σ v G' H' s r' q hq
def sRetF (w : WE) : WS := fun env E => w env (fun d e => E.ro d e) E.xc
theorem qs_retF (he : QF X W e we) : QS X W (.Return (some e) pos) (sRetF we) := (ps_ret he).le fun De σ H h => by
  obtain ⟨x, G, env, E', r, hw, hE⟩ := h
  refine ⟨x, G, env, _, E'.xc, r, hw, fun d env' p o G' H' s r' hp q hG hF ho hq => hE.ro d env' σ p o G' H' s r' hp q hG hF (fun i z => ?_) hq, hE.xe σ⟩
  obtain ⟨z1, d2, z2⟩ := r'.rt i p z
  exact ho i true d2 z2 z1
def lowAt (env : Ev) (i : Nat) : Option D := match env[i]? with
  | some (.ow false d) => some d
  | _ => none
theorem lowAt_some {env : Ev} {i : Nat} {d : D} (h : lowAt env i = some d) : env[i]? = some (.ow false d) := by
  unfold lowAt at h
  cases z : env[i]? with
  | none =>
    rw [z] at h
    cases h
  | some sl =>
    rw [z] at h
    cases sl with
    | no => cases h
    | im _ => cases h
    | ow b d' =>
      cases b with
      | true => cases h
      | false =>
        cases h
        rfl
theorem ER.low {K : PySem.W.Frag} {x : Fx} {G H : Hp} {σ : St} {env : Ev} {i : Nat} {d : D} {p : Addr} (r : ER K x G H σ env) (e : env[i]? = some (.ow false d)) (es : σ[i]? = some (some (.ref p))) : ∀ j, x.R j ≠ some p := fun j z => by
  obtain ⟨z1, d2, z2⟩ := r.rt j p z
  have ij := r.nd i j _ _ _ _ p e z2 es z1
  subst ij
  rw [e] at z2
  cases z2
/-- return an owned local -/
def sRetO (i : Nat) : WS := fun env E => mo (lowAt env i) fun d => E.ro d env
theorem qs_retO (i : Nat) {n : Str} {np : Pos} (hN : X.N[i]? = some n := by rfl) (hvs : Vis X.env.scope n := by first | exact Or.inl rfl | exact Or.inr (Or.inl rfl) | exact Or.inr (Or.inr rfl)) (hd : (n == ("__debug__" : Str)) = false := by decide)
    (hcd : (n == ("__classdict__" : Str)) = false := by decide) : QS X W (.Return (some (.Name n np)) pos) (sRetO i) := (ps_ret (pe_var hN hvs hd hcd)).le fun De σ H h => by
  obtain ⟨x, G, env, E', r, hw, hE⟩ := h
  obtain ⟨d, e, hw⟩ := mo_some hw
  have e := lowAt_some e
  obtain ⟨p, o, e1, e2, q, f, g⟩ := r.ow i _ d e
  exact ⟨_, e1, hE.ro d env σ p o G H (.refl _) r e2 q g f (r.low e e1) hw⟩
def sRetN : WS := fun env E => E.rt .non env
def sIf (wt : WT) (w u : WS) : WS := fun env E => wt env (fun k e => if k = true then w e E else u e E) E.xc
theorem qs_if {l1 l2 : List Stmt} (hc : QT X W c wt) (ha : QSs X W l1 w) (hb : QSs X W l2 u) : QS X W (.If c l1 l2 pos) (sIf wt w u) := (ps_if hc ha hb).le fun De σ H h => by
  obtain ⟨x, G, env, E', r, hw, hE⟩ := h
  refine ⟨x, G, env, _, E'.xc, r, hw, fun k e G' H' s r' q => ?_, hE.xe σ⟩
  cases k with
  | true => exact ⟨x, G', e, E', r', q, hE.up s⟩
  | false => exact ⟨x, G', e, E', r', q, hE.up s⟩

/-! ### targets -/
def nr (env : Ev) (i : Nat) : Bool := match env[i]? with
  | some (.ow true _) => false
  | _ => true
theorem nr_ok {env : Ev} {i : Nat} (h : nr env i = true) (d : D) : env[i]? ≠ some (.ow true d) := fun e => by
  unfold nr at h
  rw [e] at h
  cases h
abbrev WG := D → Ev → (Ev → Prop) → Prop
abbrev WGs := List D → Ev → (Ev → Prop) → Prop
def lG (K : PySem.W.Frag) (g : WG) : TG := fun v σ H Q => ∃ x G env d Q', ER K x G H σ env ∧ Rep K G d v ∧ g d env Q' ∧ (∀ env' σ' G' H', Same G G' → ER K x G' H' σ' env' → Q' env' → Q σ' H')
def lGs (K : PySem.W.Frag) (g : WGs) : TGs := fun vs σ H Q => ∃ x G env ds Q', ER K x G H σ env ∧ Reps K G ds vs ∧ g ds env Q' ∧ (∀ env' σ' G' H', Same G G' → ER K x G' H' σ' env' → Q' env' → Q σ' H')
theorem _root_.L2.PGs.le {X : Cx} {ts : List Expr} {t t' : TGs} (h : PGs X ts t) (i : ∀ v σ H Q, t' v σ H Q → t v σ H Q) : PGs X ts t' := ⟨fun pins s σ H v u Q I r hw => h.run pins s σ H v u Q I r (i v σ H Q hw)⟩
abbrev QG (X : Cx) (tg : Expr) (g : WG) : Prop := PG X tg (lG X.K g)
abbrev QGs (X : Cx) (ts : List Expr) (g : WGs) : Prop := PGs X ts (lGs X.K g)
def gN (i : Nat) : WG := fun d env Q => nr env i = true ∧ Q (env.set i (.im d))
def gNilD : WGs := fun ds env Q => ds = [] ∧ Q env
def gConsD (g : WG) (u : WGs) : WGs := fun ds env Q => match ds with
  | [] => False
  | d :: r => g d env fun e => u r e Q
def gT (u : WGs) (n : Nat) : WG := fun d env Q => mo (tupOf d) fun ds => ds.length = n ∧ u ds env Q
theorem qg_name {i : Nat} {n : Str} (hN : X.N.Nodup) (hi : X.N[i]? = some n) (hx : Loc X.env.scope n) (hf : X.fn n = true ∨ X.env.scope.names.lookup n = some .local := by first | exact .inl rfl | exact .inr rfl | assumption) : QG X (.Name n pos) (gN i) := (pg_name hN hi hx hf).le fun v σ H Q h => by
  obtain ⟨x, G, env, d, Q', r, q, ⟨hn, hw⟩, hq⟩ := h
  exact hq _ _ G H (.refl _) (r.setIm q (r.noR (nr_ok hn))) hw
theorem qgs_nil : QGs X [] gNilD := pgs_nil.le fun vs σ H Q h => by
  obtain ⟨x, G, env, ds, Q', r, q, ⟨rfl, hw⟩, hq⟩ := h
  unfold Reps at q
  exact ⟨q, hq env σ G H (.refl _) r hw⟩
theorem qgs_cons {g : WG} {gu : WGs} (h1 : QG X e g) (h2 : QGs X es gu) (hs : (assignEach (e :: es) X.env).map (·.2) = assign e X.env :: (assignEach es X.env).map (·.2) := by rfl) : QGs X (e :: es) (gConsD g gu) := (pgs_cons h1 h2 hs).le fun vs σ H Q h => by
  obtain ⟨x, G, env, ds, Q', r, q, hw, hq⟩ := h
  cases ds with
  | nil => exact hw.elim
  | cons d ds =>
    unfold Reps at q
    obtain ⟨v, vr, rfl, q1, q2⟩ := q
    exact ⟨v, vr, rfl, x, G, env, d, _, r, q1, hw, fun env' σ' G' H' s r' hu => ⟨x, G', env', ds, Q', r', Reps.mono s _ _ q2, hu, fun e2 σ2 G2 H2 s2 => hq e2 σ2 G2 H2 (s.trans s2)⟩⟩
theorem qg_tup {k n : Nat} {gu : WGs} (hc : X.calm = true) (h : QGs X es gu) (hn : (assignEach es X.env).length = n := by rfl) (hst : (assignEach es X.env).findIdx? (·.1) = none := by rfl) : QG X (.Tuple es k pos) (gT gu n) := (pg_tup hc h hn hst).le fun v σ H Q h => by
  obtain ⟨x, G, env, d, Q', r, q, hw, hq⟩ := h
  obtain ⟨ds, z, hl, hw⟩ := mo_some hw
  rw [tupOf_some z] at q
  unfold Rep at q
  obtain ⟨a, vs, rfl, q1, q2⟩ := q
  exact ⟨a, vs, rfl, sameT r.sG q1, by rw [q2.length]; exact hl, x, G, env, ds, Q', r, q2, hw, hq⟩

/-! ### assignments -/
def sAsg (w : WE) (g : WG) : WS := fun env E => w env (fun d e => g d e E.nx) E.xc
theorem qs_set {i : Nat} {n : Str} {pos' : Pos} (hN : X.N.Nodup) (hi : X.N[i]? = some n) (hx : Loc X.env.scope n) (he : QE X W e we) (hs : swapsWith e (some (.Name n pos')) pos.line X.env = pure false := by rfl) (hf : X.fn n = true ∨ X.env.scope.names.lookup n = some .local := by first | exact .inl rfl | exact .inr rfl | assumption) :
    QS X W (.Assign [.Name n pos'] e pos) (sAsg we (gN i)) := (ps_set hN hi hx he hs hf).le fun De σ H h => by
  obtain ⟨x, G, env, E', r, hw, hE⟩ := h
  refine ⟨x, G, env, _, E'.xc, r, imO_mono hw, fun h env' v G' H' s r' q hq => ?_, hE.xe σ⟩
  obtain ⟨d, rfl, hn, hq⟩ := hq
  exact hE.nx _ _ G' H' s (r'.setIm q (r'.noR (nr_ok hn))) hq
/-- a new object becomes the name's own -/
def sOwn (w : WE) (i : Nat) : WS := fun env E => w env (fun d e => nr e i = true ∧ E.nx (e.set i (.ow false d))) E.xc
theorem qs_own {i : Nat} {n : Str} {pos' : Pos} (hN : X.N.Nodup) (hi : X.N[i]? = some n) (hx : Loc X.env.scope n) (he : QF X W e we) (hs : swapsWith e (some (.Name n pos')) pos.line X.env = pure false := by rfl) (hf : X.fn n = true ∨ X.env.scope.names.lookup n = some .local := by first | exact .inl rfl | exact .inr rfl | assumption) :
    QS X W (.Assign [.Name n pos'] e pos) (sOwn we i) := (ps_set hN hi hx he hs hf).le fun De σ H h => by
  obtain ⟨x, G, env, E', r, hw, hE⟩ := h
  refine ⟨x, G, env, _, E'.xc, r, hw, fun d env' p o G' H' s r' hp q hG hF ho hq => ?_, hE.xe σ⟩
  exact hE.nx _ _ G' H' s (r'.setOw hp q hF hG (r'.noR (nr_ok hq.1)) ho) hq.2
/-- a, b = x, y -/
def sPar (wa wb : WE) (i j : Nat) : WS := fun env E => wa env (fun d e1 => wb e1 (fun d' e2 => nr e2 i = true ∧ nr e2 j = true ∧ E.nx ((e2.set i (.im d)).set j (.im d'))) E.xc) E.xc
theorem nr_set {env : Ev} {i j : Nat} {d : D} (h : nr env j = true) : nr (env.set i (.im d)) j = true := by
  by_cases z : i = j
  · subst z
    unfold nr
    by_cases hl : i < env.length
    · rw [List.getElem?_set_self hl]
    · rw [List.getElem?_eq_none (by rw [List.length_set]; omega)]
  · unfold nr
    rw [List.getElem?_set_ne z]
    exact h
/-- a, b = (a new object), y -/
def sParF (wa wb : WE) (i j : Nat) : WS := fun env E => wa env (fun d e1 => wb e1 (fun d' e2 => nr e2 i = true ∧ nr e2 j = true ∧ E.nx ((e2.set j (.im d')).set i (.ow false d))) E.xc) E.xc
/-- freeze slot i ahead of a statement -/
def sFrz (i : Nat) (w : WS) : WS := fun env E => mo (lowAt env i) fun d => w (env.set i (.im d)) E
end
end TL

namespace TL
open PySem PySem.Spec L2
section
variable {X : Cx} {W : WX} {a b c e : Expr} {pos p : Pos} {wa wb : WO} {we wf : WE} {wl : WA} {es : List Expr} {st : Stmt} {rest : List Stmt} {w u : WS} {wt : WT} {K : PySem.W.Frag}

/-! ### owned lists -/
/-- the slot's content is changed -/
def putOw (env : Ev) (i : Nat) (d : D) : Ev := match env[i]? with
  | some (.ow b _) => env.set i (.ow b d)
  | _ => env
theorem putOw_eq {env : Ev} {i : Nat} {b : Bool} {d d' : D} (h : env[i]? = some (.ow b d)) : putOw env i d' = env.set i (.ow b d') := by
  unfold putOw
  rw [h]
theorem ER.putOw {x : Fx} {G H : Hp} {σ : St} {env : Ev} (r : ER K x G H σ env) {i : Nat} {b : Bool} {d d' : D} {p : Addr} {o : HO} (e : env[i]? = some (.ow b d)) (es : σ[i]? = some (some (.ref p))) (q : RepO K G d' o) : ER K x G (upd H p o) σ (putOw env i d') := by
  rw [putOw_eq e]
  exact r.write e es q
/-- a method of an owned list: the content, the arguments (trees), the answer and the new content -/
def SemM (K : PySem.W.Frag) (r : V → List V → Hp → VK → Prop) (k : List D → List D → (D → List D → Prop) → Prop) : Prop := ∀ (G H : Hp) (l : Addr) (xs : List V) (ds as : List D) (vs : List V) (P : D → List D → Prop) (Q : VK),
  Same G H → H l = some (.lst xs) → Reps K G ds xs → Reps K G as vs → k ds as P → (∀ d v ds' xs', Rep K G d v → Reps K G ds' xs' → P d ds' → Q v (upd H l (.lst xs'))) → r (.ref l) vs H Q
def oMeth (k : List D → List D → (D → List D → Prop) → Prop) (i : Nat) (wl : WA) : WE := fun env Q Xp => mo (owAt env i) fun o0 => mo (lstOf o0) fun _ => wl env (fun hs e => mo (ims hs) fun as => mo (owAt e i) fun o => mo (lstOf o) fun ds => k ds as fun d ds' => Q d (putOw e i (.lst ds'))) Xp
theorem lOM {r : V → List V → Hp → VK → Prop} {k : List D → List D → (D → List D → Prop) → Prop} {i : Nat} (hk : SemM K r k) (σ : St) (H : Hp) (Q : VK) (h : lO K W (imO (oMeth k i wl)) σ H Q) : tBM K "list" r (tVar i) (lA K W wl) σ H Q := by
  obtain ⟨x, G, env, Q', X', r0, hw, hn, hx⟩ := h
  obtain ⟨d0, e0, hw⟩ := mo_some hw
  obtain ⟨l0, e00, hw⟩ := mo_some hw
  obtain ⟨b0, e0⟩ := owAt_some e0
  obtain ⟨p0, o0, z1, z2, z3, z4, z5⟩ := r0.ow i b0 d0 e0
  rw [lstOf_some e00] at z3
  obtain ⟨xs0, z6, _⟩ := z3
  rw [z6] at z2
  refine ⟨.ref p0, z1, .inl ⟨rfl, xs0, SqL.of z2⟩, x, G, env, _, X', r0, hw, fun hs e vs G' H' s r' q hq => ?_, hx⟩
  obtain ⟨as, y1, hq⟩ := mo_some hq
  obtain ⟨o1, y2, hq⟩ := mo_some hq
  obtain ⟨ds, y3, hq⟩ := mo_some hq
  obtain ⟨b1, y2⟩ := owAt_some y2
  rw [lstOf_some y3] at y2
  obtain ⟨p1, ob, u1, u2, u3, u4, u5⟩ := r'.ow i b1 _ y2
  rw [z1] at u1
  cases u1
  obtain ⟨xs, rfl, u3⟩ := u3
  refine hk G' H' p0 xs ds as vs _ Q r'.sG u2 u3 (q.ims y1) hq fun d v ds' xs' rd rs hp => ?_
  exact hn (.im d) _ v G' _ s (r'.putOw (d' := .lst ds') y2 z1 ⟨xs', rfl, rs⟩) rd hp
theorem qe_om (i : Nat) {r : V → List V → Hp → VK → Prop} {k : List D → List D → (D → List D → Prop) → Prop} {name : Str} {id : String} {apos : Pos} {n : Str} {np : Pos} (slot : Slot "list" name id) (hty : typeOf (.builtin id) = pure (.type "method_descriptor")) (hm : MtR X id r) (hk : SemM X.K r k)
    (ha : QA X W (e :: es) wl) (hN : X.N[i]? = some n := by rfl) (hvs : Vis X.env.scope n := by first | exact Or.inl rfl | exact Or.inr (Or.inl rfl) | exact Or.inr (Or.inr rfl)) (hd : (n == ("__debug__" : Str)) = false := by decide)
    (hcd : (n == ("__classdict__" : Str)) = false := by decide)
    (hbase : attributeBase (.Name n np) name X.env (eval (.Name n np) X.env) = eval (.Name n np) X.env := by rfl)
    (hfew : ((backTo pos (starEach (e :: es) X.env)).all (fun x => !x.1) && (backToKw pos (keywordEach [] X.env)).all (fun x => x.1.isSome)
      && decide ((e :: es).length + ([] : List Keyword).length + (if ([] : List Keyword).isEmpty then 0 else 1) < 30)) = true := by rfl)
    (hline : (apos.endLine == pos.line) = true := by rfl) (hs : starEach (e :: es) X.env = (false, eval e X.env) :: starEach es X.env := by rfl) (hplain : (backTo pos (starEach es X.env)).any (·.1) = false := by rfl) :
    QE X W (.Call (.Attribute (.Name n np) name apos) (e :: es) [] pos) (oMeth k i wl) :=
  (pe_bm PySem.F.plainAttrs_list slot hty hm (pe_var hN hvs hd hcd) ha hbase hfew hline hs hplain).le (lOM hk)
def mAppend : List D → List D → (D → List D → Prop) → Prop := fun ds as P => mo (one as) fun d => ds.length < 1000000 ∧ P .non (ds ++ [d])
theorem reps_one {G : Hp} {as : List D} {vs : List V} {d : D} (h : Reps K G as vs) (e : as = [d]) : ∃ v, vs = [v] ∧ Rep K G d v := by
  subst e
  unfold Reps at h
  obtain ⟨v, r, rfl, q, z⟩ := h
  unfold Reps at z
  exact ⟨v, by rw [z], q⟩
theorem sem_append : SemM K rAppend mAppend := fun G H l xs ds as vs P Q s hl hx ha hk hq => by
  obtain ⟨d, z, hlen, hk⟩ := mo_some hk
  obtain ⟨v, rfl, rv⟩ := reps_one ha (one_some z)
  exact ⟨l, xs, v, rfl, rfl, hl, by rw [hx.length]; exact line_lt (by omega), hq .non .non (ds ++ [d]) _ rfl (hx.append (Reps.cons rv Reps.nil)) hk⟩
def mPopAt : List D → List D → (D → List D → Prop) → Prop := fun ds as P => mo (one as) fun a => mo (intOf a) fun i => ds.length ≤ 1000000 ∧ mo (seqIndex? i ds.length) fun k => mo (ds[k]?) fun y => P y (ds.eraseIdx k)
/-- xs[i] = e, xs an owned slot -/
def sSetIx (i : Nat) (wi : WE) (we : WE) : WS := fun env E => we env (fun d e1 => mo (owAt e1 i) fun _ => wi e1 (fun di e2 => mo (intOf di) fun k => mo (owAt e2 i) fun o => mo (lstOf o) fun ds => mo (ixN ds.length k) fun j => E.nx (putOw e2 i (.lst (ds.set j d)))) E.xc) E.xc
theorem qs_setix (i : Nat) {ix : Expr} {wi : WE} {n : Str} {np p2 : Pos} (he : QE X W e we) (hi : QE X W ix wi) (hN : X.N[i]? = some n := by rfl) (hvs : Vis X.env.scope n := by first | exact Or.inl rfl | exact Or.inr (Or.inl rfl) | exact Or.inr (Or.inr rfl)) (hd : (n == ("__debug__" : Str)) = false := by decide)
    (hcd : (n == ("__classdict__" : Str)) = false := by decide)
    (ha : ∀ v, assign (.Subscript (.Name n np) ix p2) X.env v = (do
      let ov ← holding [v] (eval (.Name n np) X.env)
      let iv ← holding [v, ov] (eval ix X.env)
      standAt p2
      holding [v, ov, iv] (setItem ov iv v)
      release [v, ov, iv] []) := by intro _; rfl)
    (hs : swapsWithSole [.Subscript (.Name n np) ix p2] e pos.line X.env = pure false := by rfl) (hw : swappedStores [.Subscript (.Name n np) ix p2] e X.env = pure none := by rfl)
    (h1 : (assignEach [.Subscript (.Name n np) ix p2] X.env).map (·.2) = [assign (.Subscript (.Name n np) ix p2) X.env] := by rfl) :
    QS X W (.Assign [.Subscript (.Name n np) ix p2] e pos) (sSetIx i wi we) := (ps_asg he (pg_sub (pe_var hN hvs hd hcd) hi set_list ha) hs hw h1).le fun De σ H h => by
  obtain ⟨x, G, env, E', r, hw, hE⟩ := h
  refine ⟨x, G, env, _, E'.xc, r, imO_mono hw, fun h e1 v G1 H1 s1 r1 q1 hq => ?_, hE.xe σ⟩
  obtain ⟨d, rfl, hq⟩ := hq
  obtain ⟨o1, y0, hq⟩ := mo_some hq
  obtain ⟨b0, y0⟩ := owAt_some y0
  obtain ⟨p1, ob1, v1, _⟩ := r1.ow i b0 _ y0
  refine ⟨.ref p1, v1, x, G1, e1, _, E'.xc, r1, imO_mono hq, fun h e2 v2 G2 H2 s2 r2 q2 hq => ?_, (hE.up s1).xe σ⟩
  obtain ⟨di, rfl, hq⟩ := hq
  obtain ⟨k, y1, hq⟩ := mo_some hq
  obtain ⟨o, y2, hq⟩ := mo_some hq
  obtain ⟨ds, y3, hq⟩ := mo_some hq
  obtain ⟨j, y4, hq⟩ := mo_some hq
  obtain ⟨b1, y2⟩ := owAt_some y2
  rw [lstOf_some y3] at y2
  obtain ⟨p2, ob, u1, u2, u3, u4, u5⟩ := r2.ow i b1 _ y2
  rw [v1] at u1
  cases u1
  obtain ⟨xs, rfl, u3⟩ := u3
  rw [intOf_some y1] at q2
  have e2' : v2 = .int k := q2
  refine ⟨p1, xs, k, j, rfl, e2', u2, by rw [u3.length]; exact y4, ?_⟩
  exact hE.nx _ σ G2 _ (s1.trans s2) (r2.putOw (d' := .lst (ds.set j d)) y2 v1 ⟨_, rfl, u3.set j (Rep.mono s2 _ _ q1)⟩) hq

/-! ### for -/
abbrev WI := Ev → (List D → Ev → Prop) → XP → Prop
/-- J walks over what stands for ds -/
structure Walk (K : PySem.W.Frag) (G F : Hp) (ds : List D) (J : It) : Prop where
  go : ∀ i H, Same G H → Same F H → i < ds.length → J.go i H
  stop : ∀ i H, Same G H → Same F H → ds.length ≤ i → J.stop i H
  yld : ∀ i H v H' d G1, Same G G1 → Same G1 H → Same F H → ds[i]? = some d → J.yld i H v H' → ∃ G2, Step G1 H G2 H' ∧ Rep K G2 d v
def lI (K : PySem.W.Frag) (W : WX) (w : WI) : TI := fun σ H R => ∃ x G env Q' X', ER K x G H σ env ∧ w env Q' X' ∧
  (∀ ds env' G' H' J, Same G G' → ER K x G' H' σ env' → Walk K G' x.F ds J → Q' ds env' → R J H') ∧ Xend K W x G σ X'
abbrev QI (X : Cx) (W : WX) (tg iter : Expr) (w : WI) : Prop := PI X tg iter (lI X.K W w)
def iSeq (w : WE) : WI := fun env Q Xp => w env (fun d e => mo (seqOf d) fun ds => Q ds e) Xp
def iLst (w : WE) : WI := fun env Q Xp => w env (fun d e => mo (lstOf d) fun ds => Q ds e) Xp
def iTpl (w : WE) : WI := fun env Q Xp => w env (fun d e => mo (tupOf d) fun ds => Q ds e) Xp
theorem walk_list {G F : Hp} {ds : List D} {vs : List V} {q : Addr} (h : SqL K G q vs) (r : Reps K G ds vs) : Walk K G F ds (Itl K q) where
  go := fun i H s _ hi => by
    have hv : i < vs.length := by rw [r.length]; exact hi
    exact ⟨vs, vs[i], s.seq h, List.getElem?_eq_getElem hv⟩
  stop := fun i H s _ hi => ⟨vs, s.seq h, by rw [r.length]; exact hi⟩
  yld := fun i H v H' d G1 s1 s2 _ e y => by
    obtain ⟨rfl, y⟩ := y
    obtain ⟨v', e', q'⟩ := r.get e
    have z := y vs ((s1.trans s2).seq h)
    rw [e'] at z
    cases z
    exact ⟨G1, .refl s2, Rep.mono s1 _ _ q'⟩
theorem walk_tup {G F : Hp} {ds : List D} {vs : List V} {q : Addr} (h : SqT K G q vs) (r : Reps K G ds vs) : Walk K G F ds (Itt K q) where
  go := fun i H s _ hi => by
    have hv : i < vs.length := by rw [r.length]; exact hi
    exact ⟨vs, vs[i], sameT s h, List.getElem?_eq_getElem hv⟩
  stop := fun i H s _ hi => ⟨vs, sameT s h, by rw [r.length]; exact hi⟩
  yld := fun i H v H' d G1 s1 s2 _ e y => by
    obtain ⟨rfl, y⟩ := y
    obtain ⟨v', e', q'⟩ := r.get e
    have z := y vs (sameT (s1.trans s2) h)
    rw [e'] at z
    cases z
    exact ⟨G1, .refl s2, Rep.mono s1 _ _ q'⟩
theorem qi_list {tg : Expr} (h : QE X W e we) : QI X W tg e (iLst we) := (pi_list h).le fun σ H R h => by
  obtain ⟨x, G, env, Q', X', r, hw, hn, hx⟩ := h
  refine ⟨x, G, env, _, X', r, imO_mono hw, fun h env' v G' H' s r' q hq => ?_, hx⟩
  obtain ⟨d, rfl, hq⟩ := hq
  obtain ⟨ds, z, hq⟩ := mo_some hq
  rw [lstOf_some z] at q
  have q' : Rep X.K G' (.lst ds) v := q
  unfold Rep at q'
  obtain ⟨b, vs, rfl, q1, q2⟩ := q'
  exact ⟨b, rfl, ⟨vs, r'.sG.seq q1⟩, hn ds env' G' H' _ s r' (walk_list q1 q2) hq⟩
theorem qi_tup {tg : Expr} (h : QE X W e we) : QI X W tg e (iTpl we) := (pi_tup h).le fun σ H R h => by
  obtain ⟨x, G, env, Q', X', r, hw, hn, hx⟩ := h
  refine ⟨x, G, env, _, X', r, imO_mono hw, fun h env' v G' H' s r' q hq => ?_, hx⟩
  obtain ⟨d, rfl, hq⟩ := hq
  obtain ⟨ds, z, hq⟩ := mo_some hq
  rw [tupOf_some z] at q
  have q' : Rep X.K G' (.tup ds) v := q
  unfold Rep at q'
  obtain ⟨b, vs, rfl, q1, q2⟩ := q'
  exact ⟨b, rfl, ⟨vs, sameT r'.sG q1⟩, hn ds env' G' H' _ s r' (walk_tup q1 q2) hq⟩
def rgD (lo : Int) (n : Nat) : List D := (List.range n).map fun i => .int (lo + (i : Nat))
theorem walk_range {G F : Hp} {lo : Int} {n : Nat} : Walk K G F (rgD lo n) (Itr lo n) where
  go := fun i H s _ hi => by
    unfold rgD at hi
    rw [List.length_map, List.length_range] at hi
    exact hi
  stop := fun i H s _ hi => by
    unfold rgD at hi
    rw [List.length_map, List.length_range] at hi
    exact hi
  yld := fun i H v H' d G1 s1 s2 _ e y => by
    obtain ⟨rfl, rfl⟩ := y
    unfold rgD at e
    rw [List.getElem?_map] at e
    cases z : (List.range n)[i]? with
    | none =>
      rw [z] at e
      cases e
    | some j =>
      rw [z] at e
      have ej : i = j := by
        obtain ⟨h1, h2⟩ := List.getElem?_eq_some_iff.mp z
        rw [List.getElem_range] at h2
        exact h2
      subst ej
      cases e
      exact ⟨G1, .refl s2, rfl⟩
def iR1 (w : WE) : WI := fun env Q Xp => w env (fun d e => mo (intOf d) fun j => (-1000000000000000000 ≤ j ∧ j ≤ 1000000000000000000) ∧ Q (rgD 0 j.toNat) e) Xp
def iR2 (wa wb : WE) : WI := fun env Q Xp => wa env (fun d1 e1 => wb e1 (fun d2 e => mo (intOf d1) fun i => mo (intOf d2) fun j => (-1000000000000000000 ≤ i ∧ i ≤ 1000000000000000000 ∧ -1000000000000000000 ≤ j ∧ j ≤ 1000000000000000000) ∧ Q (rgD i (j - i).toNat) e) Xp) Xp
theorem qi_range1 {tg : Expr} (hm : X.mg "range" = none) (ha : QE X W e we) (hg : Gl X "range" := by rfl) (hs : starEach [e] X.env = [(false, eval e X.env)] := by rfl) (hs2 : starEach [e] X.env = (false, eval e X.env) :: starEach [] X.env := by rfl) :
    QI X W tg (.Call (.Name "range" p) [e] [] pos) (iR1 we) := (pi_range1 hg hm (pa_cons ha pa_nil hs2) hs).le fun σ H R h => by
  obtain ⟨x, G, env, Q', X', r, hw, hn, hx⟩ := h
  refine ⟨x, G, env, _, X', r, imO_mono hw, fun h env' v G' H' s r' q hq => ?_, hx⟩
  obtain ⟨d, rfl, hq⟩ := hq
  obtain ⟨j, z, hb, hq⟩ := mo_some hq
  rw [intOf_some z] at q
  have q' : v = .int j := q
  exact ⟨j, by rw [q'], by omega, by omega, hn _ env' G' H' _ s r' walk_range hq⟩
/-- enumerate of a list -/
def enD (ds : List D) : List D := (List.range ds.length).zipWith (fun i d => .tup [.int (i : Nat), d]) ds
theorem enD_get {ds : List D} {i : Nat} : (enD ds)[i]? = ds[i]?.map fun d => .tup [.int (i : Nat), d] := by
  unfold enD
  rw [List.getElem?_zipWith]
  by_cases h : i < ds.length
  · rw [List.getElem?_eq_getElem (by rw [List.length_range]; exact h), List.getElem_range, List.getElem?_eq_getElem h]
    rfl
  · rw [List.getElem?_eq_none (by rw [List.length_range]; omega), List.getElem?_eq_none (by omega)]
    rfl
theorem enD_length (ds : List D) : (enD ds).length = ds.length := by
  unfold enD
  rw [List.length_zipWith, List.length_range]
  omega
theorem walk_enum {G F : Hp} {ds : List D} {vs : List V} {q : Addr} (h : SqL K G q vs) (r : Reps K G ds vs) : Walk K G F (enD ds) (Ite K q) where
  go := fun i H s _ hi => by
    have hv : i < vs.length := by rw [r.length, ← enD_length]; exact hi
    exact ⟨vs, vs[i], s.seq h, List.getElem?_eq_getElem hv⟩
  stop := fun i H s _ hi => ⟨vs, s.seq h, by rw [r.length, ← enD_length]; exact hi⟩
  yld := fun i H v H' d G1 s1 s2 _ e y => by
    obtain ⟨T, x, rfl, hT, rfl, y⟩ := y
    rw [enD_get] at e
    cases z : ds[i]? with
    | none =>
      rw [z] at e
      cases e
    | some d0 =>
      rw [z] at e
      cases e
      obtain ⟨v', e', q'⟩ := r.get z
      have z := y vs ((s1.trans s2).seq h)
      rw [e'] at z
      have z' : v' = x := Option.some.inj z
      subst z'
      have st := Step.one s2 (.tup [.int (i : Nat), v']) hT
      refine ⟨_, st, ?_⟩
      unfold Rep
      exact ⟨T, _, rfl, SqT.of upd_same, Reps.cons rfl (Reps.cons (Rep.mono (s1.trans st.g) _ _ q') Reps.nil)⟩
def iEn (w : WE) : WI := fun env Q Xp => w env (fun d e => mo (lstOf d) fun ds => Q (enD ds) e) Xp
theorem qi_enum {elts : List Expr} {kk : Nat} {tpos : Pos} (hm : X.mg "enumerate" = none) (ha : QE X W e we) (hg : Gl X "enumerate" := by rfl) (hs : starEach [e] X.env = [(false, eval e X.env)] := by rfl) (hs2 : starEach [e] X.env = (false, eval e X.env) :: starEach [] X.env := by rfl) :
    QI X W (.Tuple elts kk tpos) (.Call (.Name "enumerate" p) [e] [] pos) (iEn we) := (pi_enum hg hm (pa_cons ha pa_nil hs2) hs).le fun σ H R h => by
  obtain ⟨x, G, env, Q', X', r, hw, hn, hx⟩ := h
  refine ⟨x, G, env, _, X', r, imO_mono hw, fun h env' v G' H' s r' q hq => ?_, hx⟩
  obtain ⟨d, rfl, hq⟩ := hq
  obtain ⟨ds, z, hq⟩ := mo_some hq
  rw [lstOf_some z] at q
  have q' : Rep X.K G' (.lst ds) v := q
  unfold Rep at q'
  obtain ⟨b, vs, rfl, q1, q2⟩ := q'
  exact ⟨b, vs, rfl, r'.sG.seq q1, hn _ env' G' H' _ s r' (walk_enum q1 q2) hq⟩
def sFor (wi : WI) (g : WG) (wb : WS) : WS := fun env E => wi env (fun ds e0 => ∃ I : Nat → Ev → Prop, I 0 e0 ∧ (∀ (i : Nat) d e, ds[i]? = some d → I i e → g d e fun e1 => wb e1 { E with nx := I (i + 1), ct := I (i + 1), bk := E.nx }) ∧ ∀ e, I ds.length e → E.nx e) E.xc
theorem qs_for {tg iter : Expr} {body : List Stmt} {wi : WI} {g : WG} (hp : PassesOwn (model X.prog X.w) X.A X.env X.xe) (hc : X.calm = true) (hi : QI X W tg iter wi) (hg : QG X tg g) (hb : QSs X W body w) (hs : ∀ x, foldedSetIterable iter X.env x = pure x := by intro _; rfl) :
    QS X W (.For tg iter body [] pos) (sFor wi g w) := (ps_for hp hc hi hg hb hs).le fun De σ H h => by
  obtain ⟨x, G, env, E', r, hw, hE⟩ := h
  refine ⟨x, G, env, _, E'.xc, r, hw, fun ds e0 G0 H0 J s0 r0 wk hq => ?_, hE.xe σ⟩
  obtain ⟨I, i0, turn, done⟩ := hq
  refine ⟨fun i m σ' H' => m = ds.length - i ∧ i ≤ ds.length ∧ ∃ G1 e1, Same G0 G1 ∧ ER X.K x G1 H' σ' e1 ∧ I i e1, ⟨ds.length, rfl, Nat.zero_le _, G0, e0, .refl _, r0, i0⟩, ?_⟩
  rintro i m σ1 H1 ⟨rfl, hi, G1, e1, s1, r1, hI⟩
  have sH : Same G0 H1 := s1.trans r1.sG
  by_cases hlt : i < ds.length
  · refine .inr ⟨wk.go i H1 sH r1.sF hlt, fun σ' H' => ∃ G2 e2, Same G1 G2 ∧ ER X.K x G2 H' σ' e2 ∧ I (i + 1) e2, ?_, fun v H2 hy => ?_⟩
    · rintro σ' H' ⟨G2, e2, s2, r2, hI2⟩
      exact ⟨ds.length - (i + 1), by omega, rfl, hlt, G2, e2, s1.trans s2, r2, hI2⟩
    · obtain ⟨G2, st, rp⟩ := wk.yld i H1 v H2 ds[i] G1 s1 r1.sG r1.sF (List.getElem?_eq_getElem hlt) hy
      refine ⟨x, G2, e1, ds[i], _, r1.step st, rp, turn i ds[i] e1 (List.getElem?_eq_getElem hlt) hI, fun e3 σ3 G3 H3 s3 r3 hb => ⟨x, G3, e3, _, r3, hb, ?_⟩⟩
      have s13 : Same G1 G3 := st.g.trans s3
      have hE3 := hE.up ((s0.trans s1).trans s13)
      exact ⟨fun e4 σ4 G4 H4 s4 r4 q => ⟨G4, e4, s13.trans s4, r4, q⟩, hE3.rt, hE3.ro, hE3.nx, fun e4 σ4 G4 H4 s4 r4 q => ⟨G4, e4, s13.trans s4, r4, q⟩, hE3.xc⟩
  · have ei : i = ds.length := by omega
    subst ei
    exact .inl ⟨wk.stop _ H1 sH r1.sF (Nat.le_refl _), hE.nx e1 σ1 G1 H1 (s0.trans s1) r1 (done e1 hI)⟩
/-- while: the invariant with its measure -/
def sWhile (wt : WT) (wb : WS) : WS := fun env E => ∃ I : Nat → Ev → Prop, (∃ m, I m env) ∧ ∀ m e, I m e → wt e (fun k e1 => if k = true then wb e1 { E with nx := fun e2 => ∃ m', m' < m ∧ I m' e2, ct := fun e2 => ∃ m', m' < m ∧ I m' e2, bk := E.nx } else E.nx e1) E.xc
end
end TL

namespace TL
open PySem PySem.Spec L2
/-! ### comprehensions -/
def setL (σ : St) : List Nat → List V → St
  | i :: is, v :: vs => setL (σ.set i (some v)) is vs
  | _, _ => σ
def setE (e : Ev) : List Nat → List D → Ev
  | i :: is, d :: ds => setE (e.set i (.im d)) is ds
  | _, _ => e
def noE (e : Ev) : List Nat → Ev
  | [] => e
  | i :: is => (noE e is).set i .no
def nrs (e : Ev) (is : List Nat) : Bool := is.all fun i => nr e i
theorem setL_length (σ : St) : ∀ (is : List Nat) (vs : List V), (setL σ is vs).length = σ.length
  | [], _ => rfl
  | _ :: _, [] => rfl
  | i :: is, v :: vs => by
    unfold setL
    rw [setL_length, List.length_set]
theorem setL_get {σ : St} {k : Nat} : ∀ {is : List Nat} {vs : List V}, k ∉ is → (setL σ is vs)[k]? = σ[k]?
  | [], _, _ => rfl
  | _ :: _, [], _ => rfl
  | i :: is, v :: vs, h => by
    unfold setL
    rw [setL_get (fun z => h (List.mem_cons_of_mem _ z)), List.getElem?_set_ne (fun z => h (by rw [z]; exact List.mem_cons_self))]
theorem wipe_get {σ : St} {k : Nat} : ∀ {is : List Nat}, k ∉ is → (wipe σ is)[k]? = σ[k]?
  | [], _ => rfl
  | i :: is, h => by
    unfold wipe
    rw [List.getElem?_set_ne (fun z => h (by rw [z]; exact List.mem_cons_self)), wipe_get (fun z => h (List.mem_cons_of_mem _ z))]
theorem wipe_at {σ : St} {k : Nat} : ∀ {is : List Nat}, k ∈ is → k < σ.length → (wipe σ is)[k]? = some none
  | [], h, _ => by cases h
  | i :: is, h, hl => by
    unfold wipe
    by_cases z : i = k
    · rw [z, List.getElem?_set_self (by rw [wipe_length]; exact hl)]
    · rw [List.getElem?_set_ne z]
      rcases List.mem_cons.mp h with q | q
      · exact absurd q.symm z
      · exact wipe_at q hl
theorem wipe_setL {σ : St} {is : List Nat} {vs : List V} : wipe (setL (wipe σ is) is vs) is = wipe σ is := by
  apply List.ext_getElem?
  intro k
  by_cases h : k ∈ is
  · by_cases hl : k < σ.length
    · rw [wipe_at h (by rw [setL_length, wipe_length]; exact hl), wipe_at h hl]
    · rw [List.getElem?_eq_none (by rw [wipe_length, setL_length, wipe_length]; omega), List.getElem?_eq_none (by rw [wipe_length]; omega)]
  · rw [wipe_get h, setL_get h]
theorem noE_length (e : Ev) : ∀ is : List Nat, (noE e is).length = e.length
  | [] => rfl
  | i :: is => by
    unfold noE
    rw [List.length_set, noE_length]
theorem noE_get {e : Ev} {k : Nat} : ∀ {is : List Nat}, k ∉ is → (noE e is)[k]? = e[k]?
  | [], _ => rfl
  | i :: is, h => by
    unfold noE
    rw [List.getElem?_set_ne (fun z => h (by rw [z]; exact List.mem_cons_self)), noE_get (fun z => h (List.mem_cons_of_mem _ z))]
theorem noE_at {e : Ev} {k : Nat} : ∀ {is : List Nat}, k ∈ is → k < e.length → (noE e is)[k]? = some .no
  | [], h, _ => by cases h
  | i :: is, h, hl => by
    unfold noE
    by_cases z : i = k
    · rw [z, List.getElem?_set_self (by rw [noE_length]; exact hl)]
    · rw [List.getElem?_set_ne z]
      rcases List.mem_cons.mp h with q | q
      · exact absurd q.symm z
      · exact noE_at q hl
theorem nrs_at {e : Ev} {is : List Nat} {i : Nat} (h : nrs e is = true) (hi : i ∈ is) : nr e i = true := List.all_eq_true.mp h i hi
section
variable {K : PySem.W.Frag} {x : Fx} {G H : Hp} {σ σ2 : St} {e : Ev}
/-- some slots are forgotten, the others are as they were -/
theorem ER.reslot (r : ER K x G H σ2 e) {is : List Nat} (hl : σ.length = σ2.length) (hs : ∀ k, k ∉ is → σ[k]? = σ2[k]?) (hn : nrs e is = true) : ER K x G H σ (noE e is) := by
  have out : ∀ {k : Nat} {s : Sl}, (noE e is)[k]? = some s → s ≠ .no → k ∉ is ∧ e[k]? = some s := fun {k s} h hne => by
    by_cases q : k ∈ is
    · have hl' : k < e.length := by
        have := (List.getElem?_eq_some_iff.mp h).1
        rw [noE_length] at this
        exact this
      rw [noE_at q hl'] at h
      exact absurd (Option.some.inj h).symm hne
    · rw [noE_get q] at h
      exact ⟨q, h⟩
  refine ⟨by rw [noE_length, hl, r.len], r.sG, r.sF, r.dj, fun i d h => ?_, fun i b d h => ?_, fun i j b c d1 d2 p h1 h2 h3 h4 => ?_, fun i p h => ?_⟩
  · obtain ⟨q, h⟩ := out h (by intro z; cases z)
    rw [hs i q]
    exact r.im i d h
  · obtain ⟨q, h⟩ := out h (by intro z; cases z)
    rw [hs i q]
    exact r.ow i b d h
  · obtain ⟨q1, h1⟩ := out h1 (by intro z; cases z)
    obtain ⟨q2, h2⟩ := out h2 (by intro z; cases z)
    rw [hs i q1] at h3
    rw [hs j q2] at h4
    exact r.nd i j b c d1 d2 p h1 h2 h3 h4
  · obtain ⟨h1, d, h2⟩ := r.rt i p h
    have q : i ∉ is := fun z => nr_ok (nrs_at hn z) d h2
    rw [hs i q, noE_get q]
    exact ⟨h1, d, h2⟩
theorem ER.setL : ∀ {is : List Nat} {vs : List V} {ds : List D} {σ : St} {e : Ev}, ER K x G H σ e → Reps K G ds vs → nrs e is = true → ER K x G H (setL σ is vs) (setE e is ds)
  | [], vs, ds, σ, e, r, _, _ => by
    unfold TL.setL setE
    exact r
  | i :: is, vs, [], σ, e, r, q, _ => by
    unfold Reps at q
    rw [q]
    unfold TL.setL setE
    exact r
  | i :: is, vs, d :: ds, σ, e, r, q, hn => by
    unfold Reps at q
    obtain ⟨v, vr, rfl, q1, q2⟩ := q
    unfold TL.setL setE
    have h1 : nr e i = true := nrs_at hn List.mem_cons_self
    refine ER.setL (r.setIm q1 (r.noR (nr_ok h1))) q2 ?_
    exact List.all_eq_true.mpr fun j hj => nr_set (nrs_at hn (List.mem_cons_of_mem _ hj))
end
/-- names alone as the comprehension's target -/
def gNames (K : PySem.W.Frag) : List Nat → TGs
  | [] => gNil
  | i :: is => gCons (gName i) (gNames K is)
theorem gNames_ok {K : PySem.W.Frag} : ∀ {is : List Nat} {vs : List V} {σ : St} {H : Hp} {Q : St → Hp → Prop}, vs.length = is.length → Q (setL σ is vs) H → gNames K is vs σ H Q
  | [], [], σ, H, Q, _, h => ⟨rfl, h⟩
  | i :: is, v :: vs, σ, H, Q, hl, h => ⟨v, vs, rfl, gNames_ok (is := is) (vs := vs) (by simpa using hl) h⟩
def tOne : Bool → Nat → D → Option (List D)
  | true, _, .tup ds => some ds
  | true, _, .lst ds => some ds
  | false, _, d => some [d]
  | _, _, _ => none
section
variable {X : Cx} {W : WX} {a b c e elt tg iter : Expr} {pos p : Pos} {we : WE} {wt : WT} {K : PySem.W.Frag} {ifs : List Expr}
def wYes : WT := fun env Q _ => Q true env
abbrev QTs (X : Cx) (W : WX) (ifs : List Expr) (w : WT) : Prop := PTs X ifs (lT X.K W w)
theorem _root_.L2.PTs.le {X : Cx} {es : List Expr} {t t' : TT} (h : PTs X es t) (i : ∀ σ H Q, t' σ H Q → t σ H Q) : PTs X es t' := ⟨fun pins s σ H Q I hw => h.run pins s σ H Q I (i σ H Q hw)⟩
theorem qts_nil : QTs X W [] wYes := pts_nil.le fun σ H Q h => by
  obtain ⟨x, G, env, Q', X', r, hw, hn, hx⟩ := h
  exact hn true env G H (.refl _) r hw
theorem qts_one (h : QT X W c wt) : QTs X W [c] wt := pts_one h
abbrev W0 : WX := fun _ _ _ _ => False
/-- is: the slots of the target's names; tu: it is a tuple of them -/
def wLc (wi : WI) (tu : Bool) (is : List Nat) (wt : WT) (we : WE) : WE := fun env Q Xp => wi env (fun ds e0 => nrs e0 is = true ∧ ∃ I : Nat → List D → Ev → Prop, I 0 [] (noE e0 is) ∧
  (∀ (k : Nat) d acc e, ds[k]? = some d → I k acc e → nrs e is = true ∧ mo (tOne tu 0 d) fun vs => vs.length = is.length ∧ wt (setE e is vs) (fun b e2 => if b = true then we e2 (fun y e3 => nrs e3 is = true ∧ acc.length < 1000000 ∧ I (k + 1) (acc ++ [y]) (noE e3 is)) (fun _ _ => False)
    else nrs e2 is = true ∧ I (k + 1) acc (noE e2 is)) (fun _ _ => False)) ∧ ∀ acc e, I ds.length acc e → Q (.lst acc) e) Xp
def gOf (K : PySem.W.Frag) : Bool → List Nat → TG
  | true, is => fun v σ H Q => gTup K is.length (gNames K is) v σ H Q ∨ gUnl K is.length (gNames K is) v σ H Q
  | false, [i] => gName i
  | false, _ => fun _ _ _ _ => False
theorem gOf_ok {G H : Hp} {σ : St} {Q : St → Hp → Prop} {tu : Bool} {is : List Nat} {d : D} {v : V} {vs : List D} (s : Same G H) (h : tOne tu 0 d = some vs) (hl : vs.length = is.length) (q : Rep K G d v) (hq : ∀ ws, Reps K G vs ws → Q (setL σ is ws) H) : gOf K tu is v σ H Q := by
  cases tu with
  | true =>
    cases d with
    | tup ds =>
      cases h
      unfold Rep at q
      obtain ⟨a, ws, rfl, q1, q2⟩ := q
      exact .inl ⟨a, ws, rfl, sameT s q1, by rw [q2.length]; exact hl, gNames_ok (by rw [q2.length]; exact hl) (hq ws q2)⟩
    | lst ds =>
      cases h
      unfold Rep at q
      obtain ⟨a, ws, rfl, q1, q2⟩ := q
      exact .inr ⟨a, ws, rfl, s.seq q1, by rw [q2.length]; exact hl, gNames_ok (by rw [q2.length]; exact hl) (hq ws q2)⟩
    | _ => cases h
  | false =>
    have h' : vs = [d] := by
      cases d <;> exact (Option.some.inj h).symm
    subst h'
    cases is with
    | nil => cases hl
    | cons i is =>
      cases is with
      | cons _ _ => cases hl
      | nil => exact hq [v] (Reps.cons q Reps.nil)
theorem lLc_core {tu : Bool} {is : List Nat} {σ : St} {Q : VK} {x : Fx} {G0 H0 : Hp} {e0 : Ev} {ds : List D} {J : It} {Q' : D → Ev → Prop} (r0 : ER K x G0 H0 σ e0) (wk : Walk K G0 x.F ds J)
    (hn : ∀ d env' p o G' H', Same G0 G' → ER K x G' H' σ env' → H' p = some o → RepO K G' d o → G' p = none → x.F p = none → (∀ (j : Nat) b d', env'[j]? = some (.ow b d') → σ[j]? ≠ some (some (.ref p))) → Q' d env' → Q (.ref p) H')
    (hq : nrs e0 is = true ∧ ∃ I : Nat → List D → Ev → Prop, I 0 [] (noE e0 is) ∧
  (∀ (k : Nat) d acc e, ds[k]? = some d → I k acc e → nrs e is = true ∧ mo (tOne tu 0 d) fun vs => vs.length = is.length ∧ wt (setE e is vs) (fun b e2 => if b = true then we e2 (fun y e3 => nrs e3 is = true ∧ acc.length < 1000000 ∧ I (k + 1) (acc ++ [y]) (noE e3 is)) (fun _ _ => False)
    else nrs e2 is = true ∧ I (k + 1) acc (noE e2 is)) (fun _ _ => False)) ∧ ∀ acc e, I ds.length acc e → Q' (.lst acc) e) :
    ∀ Dl, H0 Dl = none → ∃ W : Nat → Nat → Hp → Prop, (∃ m, W 0 m (upd H0 Dl (.lst []))) ∧ ∀ i m H, W i m H →
  (J.stop i H ∧ Q (.ref Dl) H) ∨ (J.go i H ∧ ∃ Nx : Hp → Prop, (∀ H', Nx H' → ∃ m', m' < m ∧ W (i + 1) m' H') ∧ ∀ x H', J.yld i H x H' → gOf K tu is x (wipe σ is) H' fun σ2 H2 => wipe σ2 is = wipe σ is ∧ lT K W0 wt σ2 H2 fun b H3 =>
    if b = true then lO K W0 (imO we) σ2 H3 fun y H4 => ∃ acc, H4 Dl = some (.lst acc) ∧ acc.length < sizeLine ∧ Nx (upd H4 Dl (.lst (acc ++ [y]))) else Nx H3) := by
  intro Dl hD
  obtain ⟨hn0, I, i0, turn, done⟩ := hq
  obtain ⟨f1, f2, f3⟩ := fresh_F r0 hD
  have r00 : ER K x G0 (upd H0 Dl (.lst [])) σ (noE e0 is) := (r0.step (Step.junk r0.sG _ hD)).reslot rfl (fun _ _ => rfl) hn0
  have own0 : ∀ {e : Ev} {σ' : St} {p : Addr} {is : List Nat}, (∀ (j : Nat) b d', e[j]? = some (.ow b d') → σ'[j]? ≠ some (some (.ref p))) → ∀ (j : Nat) b d', (noE e is)[j]? = some (.ow b d') → σ'[j]? ≠ some (some (.ref p)) := fun {e σ' p is} ho j b d' z => by
    by_cases q : j ∈ is
    · have hl' : j < e.length := by
        have := (List.getElem?_eq_some_iff.mp z).1
        rw [noE_length] at this
        exact this
      rw [noE_at q hl'] at z
      cases z
    · rw [noE_get q] at z
      exact ho j b d' z
  refine ⟨fun i m H' => m = ds.length - i ∧ i ≤ ds.length ∧ ∃ G1 e1 accD accV, Same G0 G1 ∧ ER K x G1 H' σ e1 ∧ H' Dl = some (.lst accV) ∧ Reps K G1 accD accV ∧ G1 Dl = none ∧ (∀ (j : Nat) b d', e1[j]? = some (.ow b d') → σ[j]? ≠ some (some (.ref Dl))) ∧ I i accD e1,
    ⟨ds.length, rfl, Nat.zero_le _, G0, _, [], [], .refl _, r00, upd_same, Reps.nil, f2, own0 f3, i0⟩, ?_⟩
  rintro i m H1 ⟨rfl, hi, G1, e1, accD, accV, s1, r1, hD1, ra, hG1, ho1, hI⟩
  have sH : Same G0 H1 := s1.trans r1.sG
  by_cases hlt : i < ds.length
  · refine .inr ⟨wk.go i H1 sH r1.sF hlt, fun H' => ∃ G2 e2 accD' accV', Same G1 G2 ∧ ER K x G2 H' σ e2 ∧ H' Dl = some (.lst accV') ∧ Reps K G2 accD' accV' ∧ G2 Dl = none ∧ (∀ (j : Nat) b d', e2[j]? = some (.ow b d') → σ[j]? ≠ some (some (.ref Dl))) ∧ I (i + 1) accD' e2, ?_, fun v H2 hy => ?_⟩
    · rintro H' ⟨G2, e2, accD', accV', s2, r2, a1, a2, a3, a4, a5⟩
      exact ⟨ds.length - (i + 1), by omega, rfl, hlt, G2, e2, accD', accV', s1.trans s2, r2, a1, a2, a3, a4, a5⟩
    · obtain ⟨G2, st, rp⟩ := wk.yld i H1 v H2 ds[i] G1 s1 r1.sG r1.sF (List.getElem?_eq_getElem hlt) hy
      obtain ⟨hnr, ht⟩ := turn i ds[i] accD e1 (List.getElem?_eq_getElem hlt) hI
      obtain ⟨vs, z1, hl, ht⟩ := mo_some ht
      have r2 := r1.step st
      have hD2 : H2 Dl = some (.lst accV) := st.h _ _ hD1
      have hG2 : G2 Dl = none := by
        cases z : G2 Dl with
        | none => rfl
        | some o =>
          have q := st.new Dl o z hG1
          rw [hD1] at q
          cases q
      -- the list that grows is hidden
      have rh := r2.hide hD2 hG2 ho1
      refine gOf_ok r2.sG z1 hl rp fun ws rw' => ⟨wipe_setL, ?_⟩
      have rw0 : ER K { x with F := upd x.F Dl (.lst accV) } G2 H2 (wipe σ is) (noE e1 is) := rh.reslot (by rw [wipe_length]) (fun k hk => wipe_get hk) hnr
      have rw1 : ER K { x with F := upd x.F Dl (.lst accV) } G2 H2 (setL (wipe σ is) is ws) (setE e1 is vs) := by
        have q := rw0.setL (is := is) rw' (by
          refine List.all_eq_true.mpr fun j hj => ?_
          unfold nr
          by_cases hl' : j < e1.length
          · rw [noE_at hj hl']
          · rw [List.getElem?_eq_none (by rw [noE_length]; omega)])
        have ee : setE (noE e1 is) is vs = setE e1 is vs := by
          clear ht z1 rw' q
          have gen : ∀ (is' : List Nat) (vs : List D) (e e' : Ev), vs.length = is'.length → e.length = e'.length → (∀ k, k ∉ is' → e[k]? = e'[k]?) → setE e is' vs = setE e' is' vs := by
            intro is'
            induction is' with
            | nil =>
              intro vs e e' hl' hle hk
              have : e = e' := List.ext_getElem? fun k => hk k (by simp)
              rw [this]
            | cons i0 is' ih =>
              intro vs e e' hl' hle hk
              cases vs with
              | nil => cases hl'
              | cons d vs =>
                unfold setE
                refine ih vs _ _ (by simpa using hl') (by rw [List.length_set, List.length_set, hle]) fun k hk' => ?_
                by_cases z : i0 = k
                · subst z
                  by_cases hz : i0 < e.length
                  · rw [List.getElem?_set_self hz, List.getElem?_set_self (by rw [← hle]; exact hz)]
                  · rw [List.getElem?_eq_none (by rw [List.length_set]; omega), List.getElem?_eq_none (by rw [List.length_set]; omega)]
                · rw [List.getElem?_set_ne z, List.getElem?_set_ne z]
                  exact hk k fun q => (List.mem_cons.mp q).elim (fun q => z q.symm) hk'
          exact gen is vs _ _ hl (noE_length _ _) fun k hk => noE_get hk
        rw [ee] at q
        exact q
      have back : ∀ {G' H' : Hp} {e' : Ev}, ER K { x with F := upd x.F Dl (.lst accV) } G' H' (setL (wipe σ is) is ws) e' → nrs e' is = true → ER K { x with F := upd x.F Dl (.lst accV) } G' H' σ (noE e' is) := fun {G' H' e'} r' hn' =>
        r'.reslot (by rw [setL_length, wipe_length]) (fun k hk => by rw [setL_get hk, wipe_get hk]) hn'
      refine ⟨_, G2, _, _, fun _ _ => False, rw1, ht, fun b e2 G3 H3 s3 r3 hb => ?_, fun _ _ _ _ _ _ _ _ _ z => z⟩
      cases b with
      | false =>
        obtain ⟨hn3, hI3⟩ := hb
        obtain ⟨r4, a1, a2, a3⟩ := (back r3 hn3).unhide (fun ⟨vs, e⟩ => by cases e) f1
        exact ⟨G3, _, accD, accV, st.g.trans s3, r4, a1, Reps.mono (st.g.trans s3) _ _ ra, a2, a3, hI3⟩
      | true =>
        refine ⟨_, G3, e2, _, fun _ _ => False, r3, imO_mono hb, fun h e3 y G4 H4 s4 r4 q4 hq4 => ?_, fun _ _ _ _ _ _ _ _ _ z => z⟩
        obtain ⟨dy, rfl, hn4, hlen, hI4⟩ := hq4
        obtain ⟨r5, a1, a2, a3⟩ := (back r4 hn4).unhide (fun ⟨vs, e⟩ => by cases e) f1
        have s24 : Same G1 G4 := (st.g.trans s3).trans s4
        have ra4 := Reps.mono s24 _ _ ra
        refine ⟨accV, a1, by rw [ra.length]; exact line_lt (by omega), G4, _, accD ++ [dy], accV ++ [y], s24, ?_, upd_same, ra4.append (Reps.cons q4 Reps.nil), a2, a3, hI4⟩
        have kp : ∀ {b : Addr} {u : HO}, b ≠ Dl → H4 b = some u → upd H4 Dl (.lst (accV ++ [y])) b = some u := fun {b u} hb h => by
          rw [upd_ne hb]
          exact h
        refine ⟨r5.len, fun b u h => kp (fun z => ?_) (r5.sG b u h), fun b u h => kp (fun z => ?_) (r5.sF b u h), r5.dj, r5.im, fun j b d' h => ?_, r5.nd, r5.rt⟩
        · rw [z, a2] at h
          cases h
        · rw [z, f1] at h
          cases h
        · obtain ⟨p2, o2, z1, z2, z3, z4, z5⟩ := r5.ow j b d' h
          exact ⟨p2, o2, z1, kp (fun z => a3 j b d' h (by rw [← z]; exact z1)) z2, z3, z4, z5⟩
  · have ei : i = ds.length := by omega
    subst ei
    exact .inl ⟨wk.stop _ H1 sH r1.sF (Nat.le_refl _), hn (.lst accD) e1 Dl _ G1 H1 s1 r1 hD1 ⟨accV, rfl, ra⟩ hG1 f1 ho1 (done accD e1 hI)⟩
theorem lLc {wi : WI} {tu : Bool} {is : List Nat} (σ : St) (H : Hp) (Q : VK) (h : lF K W (wLc wi tu is wt we) σ H Q) : tLc (lI K W wi) (gOf K tu is) (lT K W0 wt) (lO K W0 (imO we)) is σ H Q := by
  obtain ⟨x, G, env, Q', X', r, hw, hn, hx⟩ := h
  exact ⟨x, G, env, _, X', r, hw, fun ds e0 G0 H0 J s0 r0 wk hq => lLc_core r0 wk (fun d env' p o G' H' s => hn d env' p o G' H' (s0.trans s)) hq, hx⟩
theorem qf_lc {scope : Scope} {own : List (Str × Nat)} {wi : WI} {tu : Bool} (hc : X.calm = true) (hN : X.N.Nodup) (hi : QI X W tg iter wi) (ok : BlkOk X.N X.env.scope scope own)
    (hg : ∀ (s : Shared) (H : Hp) (C : Addr) (cl : List (Str × Addr)) (fp : List Addr), PG (X.blk s H scope (compEnvC scope cl C X.env) fp) tg (gOf X.K tu (own.map (·.2))))
    (ht : ∀ (s : Shared) (H : Hp) (C : Addr) (cl : List (Str × Addr)) (fp : List Addr), QTs (X.blk s H scope (compEnvC scope cl C X.env) fp) W0 ifs wt)
    (he : ∀ (s : Shared) (H : Hp) (C : Addr) (cl : List (Str × Addr)) (fp : List Addr), QE (X.blk s H scope (compEnvC scope cl C X.env) fp) W0 elt we) (hs : ∀ x, foldedSetIterable iter X.env x = pure x := by intro _; rfl) :
    QF X W (.ListComp elt [⟨tg, iter, ifs, 0⟩] scope pos) (wLc wi tu (own.map (·.2)) wt we) := (pe_lc hc hN hi ok hg ht he hs).le lLc
/-- name = [..] -/
theorem qs_setLc {i : Nat} {y : Str} {py spos : Pos} {scope : Scope} {own : List (Str × Nat)} {wi : WI} {tu : Bool} (hc : X.calm = true) (hN : X.N.Nodup) (hy : X.N[i]? = some y) (hyl : X.env.scope.names.lookup y = some .local)
    (hsw : swapsWith (.ListComp elt [⟨tg, iter, ifs, 0⟩] scope pos) (some (.Name y py)) spos.line X.env = pure true) (hi : QI X W tg iter wi) (ok : BlkOk X.N X.env.scope scope own)
    (hg : ∀ (s : Shared) (H : Hp) (C : Addr) (cl : List (Str × Addr)) (fp : List Addr), PG (X.blk s H scope (compEnvC scope cl C X.env) fp) tg (gOf X.K tu (own.map (·.2))))
    (ht : ∀ (s : Shared) (H : Hp) (C : Addr) (cl : List (Str × Addr)) (fp : List Addr), QTs (X.blk s H scope (compEnvC scope cl C X.env) fp) W0 ifs wt)
    (he : ∀ (s : Shared) (H : Hp) (C : Addr) (cl : List (Str × Addr)) (fp : List Addr), QE (X.blk s H scope (compEnvC scope cl C X.env) fp) W0 elt we) (hs : ∀ x, foldedSetIterable iter X.env x = pure x := by intro _; rfl) :
    PS X (.Assign [.Name y py] (.ListComp elt [⟨tg, iter, ifs, 0⟩] scope pos) spos) (tAsg (lF X.K W (wLc wi tu (own.map (·.2)) wt we)) (gName i)) := (ps_setLc hc hN hy hyl hsw hi ok hg ht he hs).le fun De σ H h => lLc σ H _ h
theorem qs_imLc {st : Stmt} {i : Nat} (h : PS X st (tAsg (lF X.K W we) (gName i))) : QS X W st (sAsg we (gN i)) := h.le fun De σ H h => by
  obtain ⟨x, G, env, E', r, hw, hE⟩ := h
  refine ⟨x, G, env, _, E'.xc, r, hw, fun d env' p o G' H' s r' hp q hG hF ho hq => ?_, hE.xe σ⟩
  obtain ⟨hn, hq⟩ := hq
  have sG' : Same G' (upd G' p o) := same_new hG
  have r2 := r'.setOw hp q hF hG (r'.noR (nr_ok hn)) ho
  by_cases hl : i < env'.length
  · have hl2 : i < σ.length := by rw [r'.len]; exact hl
    obtain ⟨r3, s3, _⟩ := r2.freeze (i := i) (List.getElem?_set_self hl) (List.getElem?_set_self hl2) hp (r'.noR (nr_ok hn))
    rw [List.set_set] at r3
    exact hE.nx _ _ _ H' (s.trans s3) r3 hq
  · have e1 : env'.set i (.im d) = env' := List.set_eq_of_length_le (by omega)
    have e2 : σ.set i (some (.ref p)) = σ := List.set_eq_of_length_le (by rw [r'.len]; omega)
    rw [e1] at hq
    show De.nx (σ.set i (some (.ref p))) H'
    rw [e2]
    exact hE.nx _ _ G' H' s r' hq
end
end TL

namespace TL
open PySem PySem.Spec L2
/-! ### classes of the text -/
inductive Cn where
  | ty (n : String) | own (c : Str)
def Cn.val (K : PySem.W.Frag) : Cn → Value
  | .ty n => .type n
  | .own c => .ref (He.ga K c)
def Cn.v (K : PySem.W.Frag) : Cn → V
  | .ty n => .ty n
  | .own c => .ref (He.ga K c)
structure CT (K : PySem.W.Frag) (tb : List CI) (ks : List Str) : Prop where
  cls : ∀ c ∈ tb, Cls K (He.ga K c.name)
  ins : ∀ c ∈ tb, insB K (He.ga K c.name) = true
  fld : ∀ c ∈ tb, ∀ f ∈ c.fields, NoAttr K (He.ga K c.name) f
  oo : ∀ c ∈ tb, ∀ k ∈ ks, PySem.W.kitOne K (.ref (He.ga K c.name)) (.ref (He.ga K k)) = some (c.anc.contains k)
  ot : ∀ c ∈ tb, ∀ t ∈ bts, PySem.W.kitOne K (.ref (He.ga K c.name)) (.type t) = some false
  to : ∀ t ∈ bts, ∀ k ∈ ks, PySem.W.kitOne K (.type t) (.ref (He.ga K k)) = some false
  tt : ∀ t ∈ bts, ∀ u ∈ bts, PySem.W.kitOne K (.type t) (.type u) = some (bsub t u)
theorem ctB_ok {K : PySem.W.Frag} {tb : List CI} {ks : List Str} (h : ctB K tb ks = true) : CT K tb ks := by
  obtain ⟨h1, h2⟩ := He.ba h
  obtain ⟨h2, h3⟩ := He.ba h2
  have g1 := fun c hc => He.ba (List.all_eq_true.mp h1 c hc)
  have g2 := fun c hc => He.ba (g1 c hc).2
  have g3 := fun c hc => He.ba (g2 c hc).2
  have g4 := fun c hc => He.ba (g3 c hc).2
  exact ⟨fun c hc => He.cls_ok (g1 c hc).1, fun c hc => (g2 c hc).1, fun c hc f hf => He.noat_ok (List.all_eq_true.mp (g3 c hc).1 f hf), fun c hc k hk => of_decide_eq_true (List.all_eq_true.mp (g4 c hc).1 k hk),
    fun c hc t ht => of_decide_eq_true (List.all_eq_true.mp (g4 c hc).2 t ht), fun t ht k hk => of_decide_eq_true (List.all_eq_true.mp (List.all_eq_true.mp h2 t ht) k hk), fun t ht u hu => of_decide_eq_true (List.all_eq_true.mp (List.all_eq_true.mp h3 t ht) u hu)⟩
def ciOf (tb : List CI) (c : Str) : Option CI := tb.find? fun k => k.name == c
theorem ciOf_some {tb : List CI} {c : Str} {k : CI} (h : ciOf tb c = some k) : k ∈ tb ∧ k.name = c := by
  unfold ciOf at h
  exact ⟨List.mem_of_find?_eq_some h, by simpa using List.find?_some h⟩
def tagOf (tb : List CI) : D → Option (Sum String CI)
  | .non => some (.inl "NoneType")
  | .bl _ => some (.inl "bool")
  | .int _ => some (.inl "int")
  | .str _ => some (.inl "str")
  | .lst _ => some (.inl "list")
  | .tup _ => some (.inl "tuple")
  | .dic _ _ => some (.inl "dict")
  | .ty _ => none
  | .exc _ _ _ _ => none
  | .dit _ _ => none
  | .tpo _ => none
  | .ins c _ _ => (ciOf tb c).map Sum.inr
def isa : Sum String CI → Cn → Bool
  | .inl t, .ty u => bsub t u
  | .inl _, .own _ => false
  | .inr _, .ty _ => false
  | .inr c, .own k => c.anc.contains k
def cnOk (ks : List Str) : Cn → Bool
  | .ty u => bts.contains u
  | .own k => ks.contains k
def tagV (K : PySem.W.Frag) : Sum String CI → Value
  | .inl t => .type t
  | .inr c => .ref (He.ga K c.name)
section
variable {K : PySem.W.Frag} {tb : List CI} {ks : List Str} {G H : Hp}
theorem tag_bts {d : D} {t : String} (h : tagOf tb d = some (.inl t)) : t ∈ bts := by
  cases d with
  | ins c ns ds =>
    have h' : (ciOf tb c).map (Sum.inr : CI → Sum String CI) = some (.inl t) := h
    cases z : ciOf tb c with
    | none =>
      rw [z] at h'
      cases h'
    | some k =>
      rw [z] at h'
      cases h'
  | ty _ => cases h
  | exc _ _ _ _ => cases h
  | dit _ _ => cases h
  | tpo _ => cases h
  | _ =>
    cases h
    decide
theorem tag_ci {d : D} {c : CI} (h : tagOf tb d = some (.inr c)) : c ∈ tb := by
  cases d with
  | ins c' ns ds =>
    have h' : (ciOf tb c').map (Sum.inr : CI → Sum String CI) = some (.inr c) := h
    cases z : ciOf tb c' with
    | none =>
      rw [z] at h'
      cases h'
    | some k =>
      rw [z] at h'
      cases h'
      exact (ciOf_some z).1
  | _ => cases h
theorem CT.kit (T : CT K tb ks) {d : D} {g : Sum String CI} (h : tagOf tb d = some g) : ∀ {c : Cn}, cnOk ks c = true → PySem.W.kitOne K (tagV K g) (c.val K) = some (isa g c) := fun {c} hc => by
  cases g with
  | inl t =>
    cases c with
    | ty u => exact T.tt t (tag_bts h) u (by simpa [cnOk] using hc)
    | own k => exact T.to t (tag_bts h) k (by simpa [cnOk] using hc)
  | inr ci =>
    cases c with
    | ty u => exact T.ot ci (tag_ci h) u (by simpa [cnOk] using hc)
    | own k => exact T.oo ci (tag_ci h) k (by simpa [cnOk] using hc)
theorem CT.any (T : CT K tb ks) {d : D} {g : Sum String CI} (h : tagOf tb d = some g) : ∀ {cs : List Cn}, cs.all (cnOk ks) = true → PySem.W.kitAny K (tagV K g) (cs.map (Cn.val K)) = some (cs.any (isa g))
  | [], _ => rfl
  | c :: cs, hc => by
    rw [List.all_cons, Bool.and_eq_true] at hc
    rw [List.map_cons, List.any_cons]
    unfold PySem.W.kitAny
    rw [T.kit h hc.1]
    cases isa g c with
    | true => rfl
    | false => exact T.any h hc.2
theorem CT.ty (T : CT K tb ks) {d : D} {g : Sum String CI} {v : V} (h : tagOf tb d = some g) (r : RepT K G H d v) : TyX K H v (tagV K g) := by
  cases d with
  | non => cases h; cases (show v = .non from r); exact .base .non
  | bl b => cases h; cases (show v = .bl b from r); exact .base (.bl b)
  | int b => cases h; cases (show v = .int b from r); exact .base (.int b)
  | str b => cases h; cases (show v = .str b from r); exact .base (.str b)
  | ty _ => cases h
  | exc _ _ _ _ => cases h
  | dit _ _ => cases h
  | tpo _ => cases h
  | lst ds =>
    cases h
    obtain ⟨a, vs, rfl, q, _⟩ := r
    rcases q with (q | ⟨o, q⟩) | ⟨o, its, n, q1, q2, _⟩
    · exact .base (.lst q)
    · exact .base (.frz q)
    · exact .kList q1 q2
  | tup ds =>
    cases h
    obtain ⟨a, vs, rfl, q, _⟩ := r
    rcases q with (q | ⟨o, q⟩) | ⟨o, its, n, q1, q2, _⟩
    · exact .base (.tup q)
    · exact .fTuple q
    · exact .kTuple q1 q2
  | dic ks' ds =>
    cases h
    obtain ⟨a, vs, rfl, q, _⟩ := r
    exact .base (.dK q)
  | ins c ns ds =>
    have h' : (ciOf tb c).map (Sum.inr : CI → Sum String CI) = some g := h
    cases z : ciOf tb c with
    | none =>
      rw [z] at h'
      cases h'
    | some k =>
      rw [z] at h'
      have h2 : Sum.inr k = g := Option.some.inj h'
      subst h2
      obtain ⟨z1, z2⟩ := ciOf_some z
      obtain ⟨a, dx, vs, rfl, q, _⟩ := r
      have hi := T.ins k z1
      unfold insB at hi
      obtain ⟨i1, hi⟩ := He.ba hi
      obtain ⟨i2, hi⟩ := He.ba hi
      obtain ⟨i3, i4⟩ := He.ba hi
      rw [← z2] at q
      exact .base (.ins q (T.cls k z1) (of_decide_eq_true i1) (of_decide_eq_true i2) (of_decide_eq_true i3) (of_decide_eq_true i4))
end
theorem Cn.clsV (K : PySem.W.Frag) : ∀ c : Cn, ClsV (c.v K) (c.val K)
  | .ty n => .ty n
  | .own c => .own _
section
variable {X : Cx} {W : WX} {a b c e : Expr} {pos p : Pos} {wa wb : WO} {we wf : WE} {wl : WA} {es : List Expr} {K : PySem.W.Frag} {tb : List CI} {ks : List Str}
/-- the class that is asked for, as an expression -/
def PCn (X : Cx) (e : Expr) (c : Cn) : Prop := PE X e (tC (c.v X.K))
theorem pcn_ty {n : Str} {t : String} (hm : X.mg n = none) (hb : bootBuiltins n = some (.type t)) (hg : Gl X n := by rfl) (hn : n ≠ "__name__" := by decide) (hd : (n == ("__debug__" : Str)) = false := by decide) : PCn X (.Name n pos) (.ty t) := pe_bltn hg hm hb rfl hn hd
theorem pcn_own {n : Str} (hm : X.mg n = some (.ref (He.ga X.K n))) (hg : Gl X n := by rfl) (hd : (n == ("__debug__" : Str)) = false := by decide) : PCn X (.Name n pos) (.own n) := pe_glob hg hm rfl hd
inductive PCns (X : Cx) : List Expr → List Cn → Prop where
  | nil : PCns X [] []
  | cons {e : Expr} {es : List Expr} {c : Cn} {cs : List Cn} (h : PCn X e c) (hs : starEach (e :: es) X.env = (false, eval e X.env) :: starEach es X.env) (t : PCns X es cs) : PCns X (e :: es) (c :: cs)
def kIsi (tb : List CI) (cs : List Cn) : D → (D → Prop) → Prop := fun d P => mo (tagOf tb d) fun g => P (.bl (cs.any (isa g)))
theorem qe_isi {cl : Expr} {cn : Cn} (T : CT X.K tb ks) (hk : cnOk ks cn = true) (hm : X.mg "isinstance" = none) (ha : QO X W e wa) (hc : PCn X cl cn) (hg : Gl X "isinstance" := by rfl)
    (he : starEach [e, cl] X.env = (false, eval e X.env) :: starEach [cl] X.env := by rfl) (he2 : starEach [cl] X.env = (false, eval cl X.env) :: starEach [] X.env := by rfl) (hpl : (backTo pos (starEach [cl] X.env)).any (·.1) = false := by rfl) :
    QE X W (.Call (.Name "isinstance" p) [e, cl] [] pos) (w1 (kIsi tb [cn]) wa) := (pe_callB call_isi hg hm (by decide +kernel) (pa_cons ha (pa_cons hc pa_nil he2) he) (he := he) (hpl := hpl)).le fun σ H Q h => by
  obtain ⟨x, G, env, Q', X', r, hw, hn, hx⟩ := h
  refine ⟨x, G, env, _, X', r, hw, fun h e1 v G1 H1 s1 r1 q1 hq => ?_, hx⟩
  obtain ⟨d, z1, hq⟩ := mo_some hq
  obtain ⟨g, z2, hq⟩ := mo_some hq
  refine ⟨v, cn.v X.K, tagV X.K g, cn.val X.K, isa g cn, rfl, Cn.clsV X.K cn, T.ty z2 (q1.read r1 z1), T.kit z2 hk, ?_⟩
  have ee : [cn].any (isa g) = isa g cn := by
    rw [List.any_cons, List.any_nil, Bool.or_false]
  rw [ee] at hq
  exact hn (.im (.bl (isa g cn))) e1 _ G1 H1 s1 r1 rfl hq
theorem pcns_pa : ∀ {es : List Expr} {cs : List Cn}, PCns X es cs → PA X es (fun σ H Q => Q (cs.map (Cn.v X.K)) H)
  | _, _, .nil => pa_nil
  | _, _, .cons h hs t => pa_cons h (pcns_pa t) hs
theorem paired_cn : ∀ cs : List Cn, Paired ClsV (cs.map (Cn.v K)) (cs.map (Cn.val K))
  | [] => .nil
  | c :: cs => .cons (Cn.clsV K c) (paired_cn cs)
theorem qe_isiT {cls : List Expr} {cns : List Cn} {k1 : Nat} {tp : Pos} (T : CT X.K tb ks) (hk : cns.all (cnOk ks) = true) (hl : cns.length ≤ 100) (hm : X.mg "isinstance" = none) (ha : QO X W e wa) (hc : PCns X cls cns) (hg : Gl X "isinstance" := by rfl)
    (he : starEach [e, .Tuple cls k1 tp] X.env = (false, eval e X.env) :: starEach [.Tuple cls k1 tp] X.env := by rfl) (he2 : starEach [.Tuple cls k1 tp] X.env = (false, eval (.Tuple cls k1 tp) X.env) :: starEach [] X.env := by rfl) (hpl : (backTo pos (starEach [.Tuple cls k1 tp] X.env)).any (·.1) = false := by rfl) :
    QE X W (.Call (.Name "isinstance" p) [e, .Tuple cls k1 tp] [] pos) (w1 (kIsi tb cns) wa) := (pe_callB call_isiT hg hm (by decide +kernel) (pa_cons ha (pa_cons (pe_tup (pcns_pa hc)) pa_nil he2) he) (he := he) (hpl := hpl)).le fun σ H Q h => by
  obtain ⟨x, G, env, Q', X', r, hw, hn, hx⟩ := h
  refine ⟨x, G, env, _, X', r, hw, fun h e1 v G1 H1 s1 r1 q1 hq => ?_, hx⟩
  obtain ⟨d, z1, hq⟩ := mo_some hq
  obtain ⟨g, z2, hq⟩ := mo_some hq
  refine ⟨by rw [List.length_map]; exact line_le (by omega), fun tq htq => ?_⟩
  have st := Step.junk r1.sG (.tup (cns.map (Cn.v X.K))) htq
  have r2 := r1.step st
  exact ⟨v, tq, cns.map (Cn.v X.K), tagV X.K g, cns.map (Cn.val X.K), cns.any (isa g), rfl, upd_same, paired_cn cns, T.ty z2 (q1.read r2 z1), T.any z2 hk, hn (.im (.bl (cns.any (isa g)))) e1 _ G1 _ s1 r2 rfl hq⟩

/-! ### fields -/
def fldOf (f : Str) : D → Option D
  | .ins _ ns ds => (ns.zip ds).lookup f
  | _ => none
def fldOk (tb : List CI) (f : Str) : D → Bool
  | .ins c _ _ => match ciOf tb c with
    | some k => k.fields.contains f
    | none => false
  | _ => false
theorem zip_look {K : PySem.W.Frag} {G : Hp} {f : Str} : ∀ {ns : List Str} {ds : List D} {vs : List V} {d : D}, Reps K G ds vs → (ns.zip ds).lookup f = some d → ∃ v, (ns.zip vs).lookup f = some v ∧ Rep K G d v
  | [], ds, vs, d, _, e => by cases e
  | n :: ns, [], vs, d, _, e => by cases e
  | n :: ns, d0 :: ds, vs, d, r, e => by
    unfold Reps at r
    obtain ⟨v, vr, rfl, q1, q2⟩ := r
    rw [List.zip_cons_cons, List.lookup_cons] at e ⊢
    cases z : (f == n) with
    | true =>
      rw [z] at e
      cases e
      exact ⟨v, rfl, q1⟩
    | false =>
      rw [z] at e
      exact zip_look q2 e
def kFld (tb : List CI) (f : Str) : D → (D → Prop) → Prop := fun d P => fldOk tb f d = true ∧ mo (fldOf f d) P
theorem qe_fld {f : Str} (T : CT X.K tb ks) (ha : QO X W e wa) (hb : attributeBase e f X.env (eval e X.env) = eval e X.env := by rfl) : QE X W (.Attribute e f pos) (w1 (kFld tb f) wa) := (pe_fld ha hb).le
  (l1 (r := fun x H Q => ∃ a C dx fs v, x = .ref a ∧ H a = some (.ins C dx fs) ∧ Cls X.K C ∧ NoAttr X.K C f ∧ fs.lookup f = some v ∧ Q v H) fun G H d v P Q s h hk hq => by
    obtain ⟨hok, hk1⟩ := hk
    obtain ⟨d', z, hk2⟩ := mo_some hk1
    cases d with
    | ins c ns ds =>
      obtain ⟨a, dx, vs, rfl, q, hl, rr⟩ := h
      unfold fldOk at hok
      simp only at hok
      cases zc : ciOf tb c with
      | none =>
        rw [zc] at hok
        cases hok
      | some k =>
        rw [zc] at hok
        obtain ⟨k1, k2⟩ := ciOf_some zc
        obtain ⟨v', e', r'⟩ := zip_look rr z
        have hf : f ∈ k.fields := by simpa using hok
        refine ⟨a, _, dx, _, v', rfl, q, ?_, ?_, e', hq d' v' G H (.refl s) r' hk2⟩
        · rw [← k2]
          exact T.cls k k1
        · rw [← k2]
          exact T.fld k k1 f hf
    | _ => cases z)
/-- self.f = e, self an owned instance -/
def putD (f : Str) (d : D) : List Str → List D → List Str × List D
  | n :: ns, d0 :: ds => if n = f then (n :: ns, d :: ds) else (n :: (putD f d ns ds).1, d0 :: (putD f d ns ds).2)
  | _, _ => ([f], [d])
theorem putD_ok {K : PySem.W.Frag} {G : Hp} {f : Str} {d : D} {v : V} (q : Rep K G d v) : ∀ {ns : List Str} {ds : List D} {vs : List V}, ns.length = vs.length → Reps K G ds vs →
    ∃ vs', putF f v (ns.zip vs) = (putD f d ns ds).1.zip vs' ∧ (putD f d ns ds).1.length = vs'.length ∧ Reps K G (putD f d ns ds).2 vs'
  | [], [], vs, hl, r => by
    unfold Reps at r
    rw [r]
    exact ⟨[v], rfl, rfl, Reps.cons q Reps.nil⟩
  | [], d0 :: ds, vs, hl, r => by
    unfold Reps at r
    obtain ⟨v0, vr, rfl, _⟩ := r
    cases hl
  | n :: ns, [], vs, hl, r => by
    unfold Reps at r
    rw [r] at hl
    cases hl
  | n :: ns, d0 :: ds, vs, hl, r => by
    unfold Reps at r
    obtain ⟨v0, vr, rfl, q1, q2⟩ := r
    have hl' : ns.length = vr.length := by simpa using hl
    rw [List.zip_cons_cons]
    unfold putF putD
    by_cases z : n = f
    · rw [if_pos z, if_pos z]
      exact ⟨v :: vr, rfl, hl, Reps.cons q q2⟩
    · rw [if_neg z, if_neg z]
      obtain ⟨vs', e1, e2, e3⟩ := putD_ok q hl' q2
      refine ⟨v0 :: vs', ?_, ?_, Reps.cons q1 e3⟩
      · rw [e1]
        rfl
      · show (putD f d ns ds).1.length + 1 = vs'.length + 1
        rw [e2]
def sFldD (tb : List CI) (i : Nat) (f : Str) (w : WE) : WS := fun env E => w env (fun d e => mo (owAt e i) fun o => match o with
  | .ins c ns ds => fldOk tb f o = true ∧ ns.length < 900 ∧ E.nx (putOw e i (.ins c (putD f d ns ds).1 (putD f d ns ds).2))
  | _ => False) E.xc
theorem qs_fld (i : Nat) {f n : Str} {np pos' : Pos} (T : CT X.K tb ks) (he : QE X W e we) (hs : swapsWith e (some (.Attribute (.Name n np) f pos')) pos.line X.env = pure false := by rfl) (hN : X.N[i]? = some n := by rfl)
    (hvs : Vis X.env.scope n := by first | exact Or.inl rfl | exact Or.inr (Or.inl rfl) | exact Or.inr (Or.inr rfl)) (hd : (n == ("__debug__" : Str)) = false := by decide) (hcd : (n == ("__classdict__" : Str)) = false := by decide) :
    QS X W (.Assign [.Attribute (.Name n np) f pos'] e pos) (sFldD tb i f we) := (ps_fld (pe_var hN hvs hd hcd) he hs).le fun De σ H h => by
  obtain ⟨x, G, env, E', r, hw, hE⟩ := h
  refine ⟨x, G, env, _, E'.xc, r, imO_mono hw, fun h e1 v G1 H1 s1 r1 q1 hq => ?_, hE.xe σ⟩
  obtain ⟨d, rfl, hq⟩ := hq
  obtain ⟨o, y0, hq⟩ := mo_some hq
  obtain ⟨b0, y0⟩ := owAt_some y0
  cases o with
  | ins c ns ds =>
    obtain ⟨hok, hlen, hq⟩ := hq
    obtain ⟨p1, ob, u1, u2, u3, u4, u5⟩ := r1.ow i b0 _ y0
    obtain ⟨dx, vs, rfl, hl, rr⟩ := u3
    unfold fldOk at hok
    simp only at hok
    cases zc : ciOf tb c with
    | none =>
      rw [zc] at hok
      cases hok
    | some k =>
      rw [zc] at hok
      obtain ⟨k1, k2⟩ := ciOf_some zc
      have hf : f ∈ k.fields := by simpa using hok
      obtain ⟨vs', e1', e2', e3'⟩ := putD_ok (f := f) q1 hl rr
      refine ⟨.ref p1, u1, p1, He.ga X.K c, dx, ns.zip vs, rfl, u2, ?_, ?_, ?_, ?_⟩
      · rw [← k2]
        exact T.cls k k1
      · rw [← k2]
        exact T.fld k k1 f hf
      · rw [List.length_zip]
        omega
      · refine hE.nx _ σ G1 _ s1 (r1.putOw (d' := .ins c (putD f d ns ds).1 (putD f d ns ds).2) y0 u1 ⟨dx, vs', ?_, e2', e3'⟩) hq
        rw [e1']
  | _ => exact hq.elim
end
end TL

namespace TL
open PySem PySem.Spec L2
/-! ### promises over trees -/
structure Rn where
  rt : D → List Sl → Prop
  ro : D → List Sl → Prop := fun _ _ => False
  xc : Xn → List Sl → Prop := fun _ _ => False
abbrev SpT := List Sl → Rn → Prop
def AR (K : PySem.W.Frag) (x : Fx) (G H : Hp) (vs : List V) (sl : List Sl) : Prop := ER K x G H (vs.map some) sl ∧ ∀ (i : Nat) b d, sl[i]? = some (.ow b d) → b = true ∧ ∃ p, vs[i]? = some (.ref p) ∧ x.R i = some p
def spT (K : PySem.W.Frag) (T : SpT) : Sp := fun vs H Q E => ∃ x G sl R, AR K x G H vs sl ∧ T sl R ∧
  (∀ d sl' v G' H', Same G G' → ER K x G' H' (vs.map some) sl' → Rep K G' d v → R.rt d sl' → Q v H') ∧
  (∀ d sl' p o G' H', Same G G' → ER K x G' H' (vs.map some) sl' → H' p = some o → RepO K G' d o → G' p = none → x.F p = none → (∀ i, x.R i ≠ some p) → R.ro d sl' → Q (.ref p) H') ∧
  (∀ e sl' cls dd G' H', Same G G' → ER K x G' H' (vs.map some) sl' → XRep K G' e cls dd → R.xc e sl' → E cls dd H')
/-- what the caller sees of its arguments behind the call -/
def outs : List Sl → Ev → List Sl
  | .ow _ _ :: sl, e :: env => e :: outs sl env
  | .im d :: sl, _ :: env => .im d :: outs sl env
  | .no :: sl, _ :: env => .no :: outs sl env
  | sl, [] => sl
  | [], _ => []
theorem outs_nil (env : Ev) : outs [] env = [] := by cases env <;> rfl
theorem outs_get : ∀ {sl : List Sl} {env : Ev} {i : Nat}, (outs sl env)[i]? = match sl[i]? with
    | some (.ow b d) => (match env[i]? with
      | some e => some e
      | none => some (.ow b d))
    | o => o
  | [], env, i => by
    rw [outs_nil]
    simp
  | s :: sl, [], i => by
    have e : outs (s :: sl) [] = s :: sl := by cases s <;> rfl
    rw [e]
    cases z : (s :: sl)[i]? with
    | none => rfl
    | some t => cases t <;> simp
  | s :: sl, e :: env, i => by
    cases i with
    | zero => cases s <;> rfl
    | succ i =>
      cases s with
      | no => exact outs_get (sl := sl) (env := env) (i := i)
      | im d => exact outs_get (sl := sl) (env := env) (i := i)
      | ow b d => exact outs_get (sl := sl) (env := env) (i := i)
theorem outs_length : ∀ {sl : List Sl} {env : Ev}, (outs sl env).length = sl.length
  | [], env => by rw [outs_nil]
  | s :: sl, [] => by cases s <;> rfl
  | s :: sl, e :: env => by
    cases s with
    | no => exact congrArg Nat.succ (outs_length (sl := sl) (env := env))
    | im d => exact congrArg Nat.succ (outs_length (sl := sl) (env := env))
    | ow b d => exact congrArg Nat.succ (outs_length (sl := sl) (env := env))
section
variable {K : PySem.W.Frag} {x : Fx} {G H G' H' : Hp} {σ σ' : St} {env env' : Ev} {vs : List V} {sl sl' : List Sl}
/-- at a body's start -/
theorem AR.start (r : AR K x G H vs sl) (N : List Str) : ER K x G H (start N vs) (sl ++ List.replicate (N.length - sl.length) .no) := by
  obtain ⟨r, _⟩ := r
  have hl : vs.length = sl.length := by
    have := r.len
    rw [List.length_map] at this
    exact this
  have out : ∀ {i : Nat} {s : Sl}, (sl ++ List.replicate (N.length - sl.length) .no)[i]? = some s → s ≠ .no → sl[i]? = some s := fun {i s} h hne => by
    by_cases hi : i < sl.length
    · rw [List.getElem?_append_left hi] at h
      exact h
    · rw [List.getElem?_append_right (by omega), List.getElem?_replicate] at h
      split at h
      · exact absurd (Option.some.inj h).symm hne
      · cases h
  have at_ : ∀ {i : Nat} {u : Option V}, (vs.map some)[i]? = some u → (L2.start N vs)[i]? = some u := fun {i u} h => by
    unfold L2.start
    rw [List.getElem?_append_left (List.getElem?_eq_some_iff.mp h).1]
    exact h
  have at2 : ∀ {i : Nat} {s : Sl} {u : Option V}, sl[i]? = some s → (L2.start N vs)[i]? = some u → (vs.map some)[i]? = some u := fun {i s u} h h' => by
    have hi : i < (vs.map some).length := by
      rw [List.length_map, hl]
      exact (List.getElem?_eq_some_iff.mp h).1
    unfold L2.start at h'
    rw [List.getElem?_append_left hi] at h'
    exact h'
  refine ⟨?_, r.sG, r.sF, r.dj, fun i d h => ?_, fun i b d h => ?_, fun i j b c d e p h1 h2 h3 h4 => ?_, fun i p h => ?_⟩
  · unfold L2.start
    rw [List.length_append, List.length_append, List.length_map, List.length_replicate, List.length_replicate, hl]
  · obtain ⟨v, e1, q⟩ := r.im i d (out h (by intro z; cases z))
    exact ⟨v, at_ e1, q⟩
  · obtain ⟨p, o, e1, q⟩ := r.ow i b d (out h (by intro z; cases z))
    exact ⟨p, o, at_ e1, q⟩
  · have h1 := out h1 (by intro z; cases z)
    have h2 := out h2 (by intro z; cases z)
    exact r.nd i j b c d e p h1 h2 (at2 h1 h3) (at2 h2 h4)
  · obtain ⟨h1, d, h2⟩ := r.rt i p h
    refine ⟨at_ h1, d, ?_⟩
    rw [List.getElem?_append_left (List.getElem?_eq_some_iff.mp h2).1]
    exact h2
/-- at its end -/
theorem AR.ends (r : AR K x G H vs sl) (s : Same G G') (r' : ER K x G' H' σ' env') : ER K x G' H' (vs.map some) (outs sl env') := by
  obtain ⟨r, ro⟩ := r
  have own : ∀ {i : Nat} {b : Bool} {d : D}, sl[i]? = some (.ow b d) → ∃ p d', vs[i]? = some (.ref p) ∧ (vs.map some)[i]? = some (some (.ref p)) ∧ x.R i = some p ∧ σ'[i]? = some (some (.ref p)) ∧ env'[i]? = some (.ow true d') := fun {i b d} h => by
    obtain ⟨_, p, h1, h2⟩ := ro i b d h
    obtain ⟨h3, d', h4⟩ := r'.rt i p h2
    refine ⟨p, d', h1, ?_, h2, h3, h4⟩
    rw [List.getElem?_map, h1]
    rfl
  have out : ∀ {i : Nat} {sv : Sl}, (outs sl env')[i]? = some sv → (∃ d, sv = .im d ∧ sl[i]? = some (.im d)) ∨ (sv = .no) ∨ ∃ b d p d', sl[i]? = some (.ow b d) ∧ sv = .ow true d' ∧ (vs.map some)[i]? = some (some (.ref p)) ∧ x.R i = some p ∧ σ'[i]? = some (some (.ref p)) ∧ env'[i]? = some (.ow true d') := fun {i sv} h => by
    rw [outs_get] at h
    cases z : sl[i]? with
    | none =>
      rw [z] at h
      cases h
    | some s0 =>
      rw [z] at h
      cases s0 with
      | no =>
        cases h
        exact .inr (.inl rfl)
      | im d =>
        cases h
        exact .inl ⟨d, rfl, rfl⟩
      | ow b d =>
        obtain ⟨p, d', h1, h2, h3, h4, h5⟩ := own z
        have h' : (match env'[i]? with | some e => some e | none => some (Sl.ow b d)) = some sv := h
        rw [h5] at h'
        cases h'
        exact .inr (.inr ⟨b, d, p, d', rfl, rfl, h2, h3, h4, h5⟩)
  refine ⟨?_, r'.sG, r'.sF, r'.dj, fun i d h => ?_, fun i b d h => ?_, fun i j b c d e p h1 h2 h3 h4 => ?_, fun i p h => ?_⟩
  · rw [outs_length]
    exact r.len
  · rcases out h with ⟨d', e1, e2⟩ | e1 | ⟨_, _, _, _, _, e1, _⟩
    · cases e1
      obtain ⟨v, z1, z2⟩ := r.im i d e2
      exact ⟨v, z1, Rep.mono s _ _ z2⟩
    · cases e1
    · cases e1
  · rcases out h with ⟨d', e1, e2⟩ | e1 | ⟨b0, d0, p, d', e0, e1, e2, e3, e4, e5⟩
    · cases e1
    · cases e1
    · cases e1
      obtain ⟨p', o, z1, z2⟩ := r'.ow i _ _ e5
      rw [e4] at z1
      cases z1
      exact ⟨p, o, e2, z2⟩
  · rcases out h1 with ⟨d', e1, e2⟩ | e1 | ⟨b0, d0, p0, d', e0, e1, e2, e3, e4, e5⟩
    · cases e1
    · cases e1
    · rcases out h2 with ⟨d2', f1, f2⟩ | f1 | ⟨b2, d2, p2, d2', f0, f1, f2, f3, f4, f5⟩
      · cases f1
      · cases f1
      · rw [e2] at h3
        cases h3
        rw [f2] at h4
        cases h4
        exact r'.nd i j _ _ _ _ p e5 f5 e4 f4
  · obtain ⟨h1, d, h2⟩ := r.rt i p h
    obtain ⟨h3, d', h4⟩ := r'.rt i p h
    refine ⟨h1, d', ?_⟩
    rw [outs_get, h2]
    show (match env'[i]? with | some e => some e | none => _) = _
    rw [h4]
end
/-! ### a def's body -/
def envOf (N : List Str) (sl : List Sl) : Ev := sl ++ List.replicate (N.length - sl.length) .no
def enOf (sl : List Sl) (R : Rn) : En where
  nx := fun e => R.rt .non (outs sl e)
  rt := fun d e => R.rt d (outs sl e)
  ro := fun d e => R.ro d (outs sl e)
  xc := fun x e => R.xc x (outs sl e)
section
variable {P : Program} {w : World} {K : PySem.W.Frag} {mg : Str → Option Value} {base : Heap} {x qual : Str} {params : Arguments} {body : List Stmt} {scope : Scope} {dvs : List V} {kws : List (Str × V)} {f : Addr} {fd : FuncData}
/-- the contexts of a def's body -/
def BodyQ (P : Program) (w : World) (K : PySem.W.Frag) (mg : Str → Option Value) (base : Heap) (k : Nat) (N : List Str) (qual : Str) (scope : Scope) (f : Addr) (body : List Stmt) (wb : WS) : Prop :=
  ∀ (cdv : Value) (A : Around) (outer : List Env) (s : Shared) (H : Hp) (E : XK), Room k (A.deeper (PyProof.Rows.envOfC qual scope s.heap.objs.size f cdv)) → QSs (cxOf (L2.CX P w) P w K mg base N qual scope f cdv A outer s H E) (fun cls d _ H' => E cls d H') body wb
theorem fn_T {N ps : List Str} {k : Nat} {T : SpT} {wb : WS} (F : FunD K x qual params body scope dvs kws f fd) (S : FnScope N ps scope) (len : ∀ sl R, T sl R → sl.length = ps.length) (hb : BodyQ P w K mg base k N qual scope f body wb)
    (sem : ∀ sl R, T sl R → wb (envOf N sl) (enOf sl R)) : FnOk P w K mg base (L2.CX P w) (k + 1) f fd ps (spT K T) := by
  have ln : ∀ vs H Q E, spT K T vs H Q E → vs.length = ps.length := fun vs H Q E h => by
    obtain ⟨x, G, sl, R, ar, hT, _⟩ := h
    have := ar.1.len
    rw [List.length_map] at this
    rw [this, len sl R hT]
  refine F.ok S ln fun cdv A outer s H vs Q E hr h => ⟨_, hb cdv A outer s H E hr, ?_⟩
  obtain ⟨x, G, sl, R, ar, hT, h1, h2, h3⟩ := h
  exact ⟨x, G, envOf N sl, enOf sl R, ar.start N, sem sl R hT, ⟨fun env' σ' G' H' s r q => h1 .non _ .non G' H' s (ar.ends s r) rfl q, fun d env' σ' v G' H' s r rp q => h1 d _ v G' H' s (ar.ends s r) rp q,
    fun d env' σ' p o G' H' s r a1 a2 a3 a4 a5 q => h2 d _ p o G' H' s (ar.ends s r) a1 a2 a3 a4 a5 q, fun _ _ _ _ _ _ q => q.elim, fun _ _ _ _ _ _ q => q.elim, fun e env' cls dd σ' G' H' s r xr q => h3 e _ cls dd G' H' s (ar.ends s r) xr q⟩⟩
end
end TL

namespace TL
open PySem PySem.Spec L2
/-! ### calls: the caller's side -/
def slOf (env : Ev) : Hd → Option Sl
  | .im d => some (.im d)
  | .ow j => (match owAt env j with
    | some d => some (.ow true d)
    | none => none)
def slsOf (env : Ev) : List Hd → Option (List Sl)
  | [] => some []
  | h :: t => match slOf env h with
    | some s => (match slsOf env t with
      | some l => some (s :: l)
      | none => none)
    | none => none
def ows : List Hd → List Nat
  | [] => []
  | .ow j :: t => j :: ows t
  | .im _ :: t => ows t
def ndup : List Nat → Bool
  | [] => true
  | i :: t => !t.contains i && ndup t
def backE (env : Ev) : List Hd → List Sl → Ev
  | .ow j :: hs, .ow _ d :: sl => backE (putOw env j d) hs sl
  | _ :: hs, _ :: sl => backE env hs sl
  | _, _ => env
theorem slsOf_get {env : Ev} : ∀ {hs : List Hd} {sl : List Sl} {i : Nat} {h : Hd}, slsOf env hs = some sl → hs[i]? = some h → ∃ s, sl[i]? = some s ∧ slOf env h = some s
  | [], sl, i, h, e, q => by simp at q
  | h0 :: t, sl, i, h, e, q => by
    unfold slsOf at e
    cases z : slOf env h0 with
    | none => rw [z] at e; cases e
    | some s0 =>
      rw [z] at e
      cases y : slsOf env t with
      | none => rw [y] at e; cases e
      | some l =>
        rw [y] at e
        cases e
        cases i with
        | zero =>
          have q' : h0 = h := by simpa using q
          rw [← q']
          exact ⟨s0, rfl, z⟩
        | succ i => exact slsOf_get (i := i) y (by simpa using q)
theorem slsOf_length {env : Ev} : ∀ {hs : List Hd} {sl : List Sl}, slsOf env hs = some sl → sl.length = hs.length
  | [], sl, e => by cases e; rfl
  | h0 :: t, sl, e => by
    unfold slsOf at e
    cases z : slOf env h0 with
    | none => rw [z] at e; cases e
    | some s0 =>
      rw [z] at e
      cases y : slsOf env t with
      | none => rw [y] at e; cases e
      | some l =>
        rw [y] at e
        cases e
        exact congrArg Nat.succ (slsOf_length y)
theorem ows_mem : ∀ {hs : List Hd} {j : Nat}, j ∈ ows hs ↔ Hd.ow j ∈ hs
  | [], j => by simp [ows]
  | .ow k :: t, j => by
    unfold ows
    rw [List.mem_cons, List.mem_cons, ows_mem (hs := t)]
    constructor
    · rintro (rfl | q)
      · exact .inl rfl
      · exact .inr q
    · rintro (q | q)
      · cases q
        exact .inl rfl
      · exact .inr q
  | .im d :: t, j => by
    unfold ows
    rw [List.mem_cons, ows_mem (hs := t)]
    constructor
    · exact fun q => .inr q
    · rintro (q | q)
      · cases q
      · exact q
theorem ows_pos : ∀ {hs : List Hd} {i k j : Nat}, ndup (ows hs) = true → hs[i]? = some (.ow j) → hs[k]? = some (.ow j) → i = k
  | [], i, k, j, _, h, _ => by simp at h
  | .im d :: t, i, k, j, n, h1, h2 => by
    cases i with
    | zero => simp at h1
    | succ i =>
      cases k with
      | zero => simp at h2
      | succ k => exact congrArg Nat.succ (ows_pos (hs := t) n (by simpa using h1) (by simpa using h2))
  | .ow j0 :: t, i, k, j, n, h1, h2 => by
    unfold ows ndup at n
    rw [Bool.and_eq_true] at n
    have nm : j0 ∉ ows t := by simpa using n.1
    cases i with
    | zero =>
      have e1 : j0 = j := by simpa using h1
      cases k with
      | zero => rfl
      | succ k =>
        have h2' : t[k]? = some (.ow j) := by simpa using h2
        rw [e1] at nm
        exact absurd (ows_mem.mpr (List.mem_of_getElem? h2')) nm
    | succ i =>
      have h1' : t[i]? = some (.ow j) := by simpa using h1
      cases k with
      | zero =>
        have e1 : j0 = j := by simpa using h2
        rw [e1] at nm
        exact absurd (ows_mem.mpr (List.mem_of_getElem? h1')) nm
      | succ k => exact congrArg Nat.succ (ows_pos (hs := t) n.2 h1' (by simpa using h2))
theorem putOw_length {env : Ev} {j : Nat} {d : D} : (putOw env j d).length = env.length := by
  unfold putOw
  split
  · rw [List.length_set]
  · rfl
theorem putOw_ne {env : Ev} {j k : Nat} {d : D} (h : k ≠ j) : (putOw env j d)[k]? = env[k]? := by
  unfold putOw
  split
  · rw [List.getElem?_set_ne (Ne.symm h)]
  · rfl
theorem putOw_at {env : Ev} {j : Nat} {b : Bool} {d d' : D} (h : env[j]? = some (.ow b d)) : (putOw env j d')[j]? = some (.ow b d') := by
  rw [putOw_eq h, List.getElem?_set_self (List.getElem?_eq_some_iff.mp h).1]
theorem backE_length : ∀ {hs : List Hd} {sl : List Sl} {env : Ev}, (backE env hs sl).length = env.length
  | [], sl, env => by cases sl <;> rfl
  | h :: hs, [], env => by cases h <;> rfl
  | .ow j :: hs, .ow b d :: sl, env => by
    unfold backE
    rw [backE_length, putOw_length]
  | .ow j :: hs, .im d :: sl, env => by
    unfold backE
    exact backE_length
  | .ow j :: hs, .no :: sl, env => by
    unfold backE
    exact backE_length
  | .im _ :: hs, s :: sl, env => by
    unfold backE
    exact backE_length
theorem backE_out : ∀ {hs : List Hd} {sl : List Sl} {env : Ev} {k : Nat}, Hd.ow k ∉ hs → (backE env hs sl)[k]? = env[k]?
  | [], sl, env, k, _ => by cases sl <;> rfl
  | h :: hs, [], env, k, _ => by cases h <;> rfl
  | .ow j :: hs, .ow b d :: sl, env, k, hn => by
    unfold backE
    rw [backE_out (fun z => hn (List.mem_cons_of_mem _ z)), putOw_ne fun z => hn (by rw [z]; exact List.mem_cons_self)]
  | .ow j :: hs, .im d :: sl, env, k, hn => by
    unfold backE
    exact backE_out fun z => hn (List.mem_cons_of_mem _ z)
  | .ow j :: hs, .no :: sl, env, k, hn => by
    unfold backE
    exact backE_out fun z => hn (List.mem_cons_of_mem _ z)
  | .im _ :: hs, s :: sl, env, k, hn => by
    unfold backE
    exact backE_out fun z => hn (List.mem_cons_of_mem _ z)
theorem backE_at : ∀ {hs : List Hd} {sl : List Sl} {env : Ev} {i k : Nat} {b c : Bool} {d d' : D}, ndup (ows hs) = true → hs[i]? = some (.ow k) → sl[i]? = some (.ow c d') → env[k]? = some (.ow b d) → (backE env hs sl)[k]? = some (.ow b d')
  | [], sl, env, i, k, b, c, d, d', _, h, _, _ => by simp at h
  | h :: hs, [], env, i, k, b, c, d, d', _, _, h2, _ => by simp at h2
  | .ow j :: hs, s :: sl, env, i, k, b, c, d, d', n, h1, h2, h3 => by
    unfold ows ndup at n
    rw [Bool.and_eq_true] at n
    have nm : j ∉ ows hs := by simpa using n.1
    cases i with
    | zero =>
      have e1 : j = k := by simpa using h1
      have e2 : s = .ow c d' := by simpa using h2
      subst e1 e2
      unfold backE
      rw [backE_out (fun z => nm (ows_mem.mpr z))]
      exact putOw_at h3
    | succ i =>
      have h1' : hs[i]? = some (.ow k) := by simpa using h1
      have h2' : sl[i]? = some (.ow c d') := by simpa using h2
      have nk : k ≠ j := fun z => by
        rw [z] at h1'
        exact nm (ows_mem.mpr (List.mem_of_getElem? h1'))
      cases s with
      | ow b0 d0 =>
        unfold backE
        exact backE_at n.2 h1' h2' (by rw [putOw_ne nk]; exact h3)
      | im _ =>
        unfold backE
        exact backE_at n.2 h1' h2' h3
      | no =>
        unfold backE
        exact backE_at n.2 h1' h2' h3
  | .im _ :: hs, s :: sl, env, i, k, b, c, d, d', n, h1, h2, h3 => by
    cases i with
    | zero => simp at h1
    | succ i =>
      unfold backE
      exact backE_at (hs := hs) (i := i) n (by simpa using h1) (by simpa using h2) h3
section
variable {K : PySem.W.Frag} {x : Fx} {G H G' H' : Hp} {σ : St} {env : Ev} {hs : List Hd} {vs : List V} {sl sl' : List Sl}
theorem HRs.get {G : Hp} : ∀ {hs : List Hd} {vs : List V} {i : Nat} {h : Hd}, HRs K G σ hs vs → hs[i]? = some h → ∃ v, vs[i]? = some v ∧ HR K G σ h v
  | [], vs, i, h, _, e => by simp at e
  | h0 :: t, vs, i, h, q, e => by
    obtain ⟨v, r, rfl, q1, q2⟩ := q
    cases i with
    | zero =>
      have e' : h0 = h := by simpa using e
      rw [← e']
      exact ⟨v, rfl, q1⟩
    | succ i => exact HRs.get (i := i) q2 (by simpa using e)
theorem HRs.length {G : Hp} : ∀ {hs : List Hd} {vs : List V}, HRs K G σ hs vs → vs.length = hs.length
  | [], vs, q => by
    have q' : vs = [] := q
    rw [q']
    rfl
  | h0 :: t, vs, q => by
    obtain ⟨v, r, rfl, q1, q2⟩ := q
    exact congrArg Nat.succ (HRs.length q2)
/-- the callee's frame -/
theorem call_frame (r : ER K x G H σ env) (hr : HRs K G σ hs vs) (hsl : slsOf env hs = some sl) (hn : ndup (ows hs) = true) : ∃ x' : Fx, AR K x' G H vs sl ∧
    (∀ G' H' sl', Same G G' → ER K x' G' H' (vs.map some) sl' → ER K x G' H' σ (backE env hs sl')) ∧
    (∀ p, x'.F p = none → (∀ i, x'.R i ≠ some p) → x.F p = none ∧ ∀ (j : Nat) b d, env[j]? = some (.ow b d) → σ[j]? ≠ some (some (.ref p))) := by
  classical
  let own : Addr → Prop := fun a => ∃ (j : Nat) (b : Bool) (d : D), env[j]? = some (.ow b d) ∧ σ[j]? = some (some (.ref a)) ∧ Hd.ow j ∉ hs
  let F' : Hp := fun a => if own a then H a else x.F a
  let R' : Nat → Option Addr := fun i => match hs[i]? with
    | some (.ow j) => (match σ[j]? with
      | some (some (.ref p)) => some p
      | _ => none)
    | _ => none
  have R_of : ∀ {i j : Nat} {p : Addr}, hs[i]? = some (.ow j) → σ[j]? = some (some (.ref p)) → R' i = some p := fun {i j p} h1 h2 => by
    show (match hs[i]? with | some (.ow j) => (match σ[j]? with | some (some (.ref p)) => some p | _ => none) | _ => none) = some p
    rw [h1]
    simp only [h2]
  have R_inv : ∀ {i : Nat} {p : Addr}, R' i = some p → ∃ j, hs[i]? = some (.ow j) ∧ σ[j]? = some (some (.ref p)) := fun {i p} h => by
    have h' : (match hs[i]? with | some (.ow j) => (match σ[j]? with | some (some (.ref p)) => some p | _ => none) | _ => none) = some p := h
    cases z : hs[i]? with
    | none => rw [z] at h'; cases h'
    | some hd =>
      rw [z] at h'
      cases hd with
      | im d => cases h'
      | ow j =>
        refine ⟨j, rfl, ?_⟩
        simp only at h'
        split at h'
        · rename_i p' y
          cases h'
          exact y
        · cases h'
  have F_own : ∀ {a : Addr}, own a → F' a = H a := fun {a} h => if_pos h
  have F_not : ∀ {a : Addr}, ¬ own a → F' a = x.F a := fun {a} h => if_neg h
  -- an owned slot that is handed over
  have pass : ∀ {i j : Nat}, hs[i]? = some (.ow j) → ∃ b d p o, env[j]? = some (.ow b d) ∧ sl[i]? = some (.ow true d) ∧ σ[j]? = some (some (.ref p)) ∧ vs[i]? = some (.ref p) ∧ H p = some o ∧ RepO K G d o ∧ x.F p = none ∧ G p = none ∧ ¬ own p := fun {i j} h => by
    obtain ⟨s, e1, e2⟩ := slsOf_get hsl h
    obtain ⟨v, e3, e4⟩ := hr.get h
    have e2' : (match owAt env j with | some d => some (Sl.ow true d) | none => none) = some s := e2
    cases z : owAt env j with
    | none => rw [z] at e2'; cases e2'
    | some d =>
      rw [z] at e2'
      have e2'' : Sl.ow true d = s := Option.some.inj e2'
      subst e2''
      obtain ⟨b, z⟩ := owAt_some z
      obtain ⟨p, o, a1, a2, a3, a4, a5⟩ := r.ow j b d z
      have e4' : σ[j]? = some (some v) := e4
      rw [a1] at e4'
      have ev : v = .ref p := by
        cases e4'
        rfl
      rw [ev] at e3
      refine ⟨b, d, p, o, z, e1, a1, e3, a2, a3, a4, a5, fun ⟨j', b', d', q1, q2, q3⟩ => ?_⟩
      have := r.nd j j' b b' d d' p z q1 a1 q2
      subst this
      exact q3 (List.mem_of_getElem? h)
  have len : (vs.map some).length = sl.length := by
    rw [List.length_map, hr.length, slsOf_length hsl]
  have slot : ∀ {i : Nat} {s : Sl}, sl[i]? = some s → ∃ h, hs[i]? = some h ∧ slOf env h = some s := fun {i s} h => by
    have hi : i < hs.length := by
      rw [← slsOf_length hsl]
      exact (List.getElem?_eq_some_iff.mp h).1
    obtain ⟨s', e1, e2⟩ := slsOf_get hsl (List.getElem?_eq_getElem hi)
    rw [h] at e1
    cases e1
    exact ⟨_, List.getElem?_eq_getElem hi, e2⟩
  have slotO : ∀ {i : Nat} {b : Bool} {d : D}, sl[i]? = some (.ow b d) → ∃ j, hs[i]? = some (.ow j) := fun {i b d} h => by
    obtain ⟨hd, e1, e2⟩ := slot h
    cases hd with
    | im d' =>
      have e2' : some (Sl.im d') = some (Sl.ow b d) := e2
      cases e2'
    | ow j => exact ⟨j, e1⟩
  have sF' : Same F' H := fun a o e => by
    by_cases h : own a
    · rw [F_own h] at e
      exact e
    · rw [F_not h] at e
      exact r.sF a o e
  have dj' : ∀ a o, F' a = some o → G a = none ∨ ∃ vs, o = .tup vs := fun a o e => by
    by_cases h : own a
    · obtain ⟨j, b, d, q1, q2, _⟩ := h
      obtain ⟨p, _, a1, _, _, _, a5⟩ := r.ow j b d q1
      rw [q2] at a1
      cases a1
      exact .inl a5
    · rw [F_not h] at e
      exact r.dj a o e
  refine ⟨⟨F', R'⟩, ⟨⟨len, r.sG, sF', dj', fun i d h => ?_, fun i b d h => ?_, fun i k b c d e p h1 h2 h3 h4 => ?_, fun i p h => ?_⟩, fun i b d h => ?_⟩, fun G1 H1 sl1 s1 r1 => ?_, fun p hF hR => ?_⟩
  · obtain ⟨hd, e1, e2⟩ := slot h
    cases hd with
    | im d' =>
      have e2' : some (Sl.im d') = some (Sl.im d) := e2
      cases e2'
      obtain ⟨v, e3, e4⟩ := hr.get e1
      refine ⟨v, ?_, e4⟩
      rw [List.getElem?_map, e3]
      rfl
    | ow j =>
      obtain ⟨b, d0, p, o, _, e3, _⟩ := pass e1
      rw [h] at e3
      cases e3
  · obtain ⟨j, e1⟩ := slotO h
    obtain ⟨b0, d0, p, o, a0, a1, a2, a3, a4, a5, a6, a7, a8⟩ := pass e1
    rw [h] at a1
    cases a1
    refine ⟨p, o, ?_, a4, a5, ?_, a7⟩
    · rw [List.getElem?_map, a3]
      rfl
    · show F' p = none
      rw [F_not a8]
      exact a6
  · obtain ⟨j1, e1⟩ := slotO h1
    obtain ⟨j2, e2⟩ := slotO h2
    obtain ⟨b0, d0, p1, o, a0, a1, a2, a3, _⟩ := pass e1
    obtain ⟨b2, d2, p2, o2, c0, c1, c2, c3, _⟩ := pass e2
    rw [List.getElem?_map, a3] at h3
    rw [List.getElem?_map, c3] at h4
    cases h3
    cases h4
    have ej := r.nd j1 j2 b0 b2 d0 d2 p a0 c0 a2 c2
    subst ej
    exact ows_pos hn e1 e2
  · obtain ⟨j, e1, e2⟩ := R_inv h
    obtain ⟨b0, d0, p1, o, a0, a1, a2, a3, _⟩ := pass e1
    rw [e2] at a2
    cases a2
    refine ⟨?_, d0, a1⟩
    rw [List.getElem?_map, a3]
    rfl
  · obtain ⟨j, e1⟩ := slotO h
    obtain ⟨b0, d0, p1, o, a0, a1, a2, a3, _⟩ := pass e1
    rw [h] at a1
    cases a1
    exact ⟨rfl, p1, a3, R_of e1 a2⟩
  · -- behind the call
    have back : ∀ {k : Nat} {b : Bool} {d : D}, env[k]? = some (.ow b d) → Hd.ow k ∈ hs → ∃ (i : Nat) (p : Addr) (d' : D), hs[i]? = some (.ow k) ∧ σ[k]? = some (some (.ref p)) ∧ (vs.map some)[i]? = some (some (.ref p)) ∧ sl1[i]? = some (.ow true d') ∧ (backE env hs sl1)[k]? = some (.ow b d') := fun {k b d} h hm => by
      obtain ⟨i, hi⟩ := List.mem_iff_getElem?.mp hm
      obtain ⟨b0, d0, p, o, a0, a1, a2, a3, _⟩ := pass hi
      obtain ⟨q1, d', q2⟩ := r1.rt i p (R_of hi a2)
      rw [h] at a0
      cases a0
      exact ⟨i, p, d', hi, a2, q1, q2, backE_at hn hi q2 h⟩
    have keep : ∀ {k : Nat}, Hd.ow k ∉ hs → (backE env hs sl1)[k]? = env[k]? := fun {k} h => backE_out h
    have inv : ∀ {k : Nat} {b : Bool} {d : D}, (backE env hs sl1)[k]? = some (.ow b d) → ∃ d0, env[k]? = some (.ow b d0) := fun {k b d} h => by
      by_cases hm : Hd.ow k ∈ hs
      · obtain ⟨i, hi⟩ := List.mem_iff_getElem?.mp hm
        obtain ⟨b0, d0, p, o, a0, _⟩ := pass hi
        obtain ⟨i2, p2, d2, z1, z2, z3, z4, z5⟩ := back a0 hm
        rw [h] at z5
        cases z5
        exact ⟨d0, a0⟩
      · rw [keep hm] at h
        exact ⟨d, h⟩
    have F_keep : ∀ {a : Addr} {o : HO}, x.F a = some o → F' a = some o := fun {a o} e => by
      have no : ¬ own a := fun ⟨j, b, d, q1, q2, _⟩ => by
        obtain ⟨p, _, a1, _, _, a4, _⟩ := r.ow j b d q1
        rw [q2] at a1
        cases a1
        rw [a4] at e
        cases e
      rw [F_not no]
      exact e
    have sF1 : Same x.F H1 := fun a o e => r1.sF a o (F_keep e)
    refine ⟨by rw [backE_length]; exact r.len, r1.sG, sF1, fun a o e => r1.dj a o (F_keep e), fun k d h => ?_, fun k b d h => ?_, fun k k2 b c d e p h1 h2 h3 h4 => ?_, fun k p h => ?_⟩
    · have h' : env[k]? = some (.im d) := by
        by_cases hm : Hd.ow k ∈ hs
        · obtain ⟨i, hi⟩ := List.mem_iff_getElem?.mp hm
          obtain ⟨b0, d0, p, o, a0, _⟩ := pass hi
          obtain ⟨i2, p2, d2, z1, z2, z3, z4, z5⟩ := back a0 hm
          rw [h] at z5
          cases z5
        · rw [keep hm] at h
          exact h
      obtain ⟨v, e1, q⟩ := r.im k d h'
      exact ⟨v, e1, Rep.mono s1 _ _ q⟩
    · obtain ⟨d0, e0⟩ := inv h
      obtain ⟨p, o, a1, a2, a3, a4, a5⟩ := r.ow k b d0 e0
      by_cases hm : Hd.ow k ∈ hs
      · obtain ⟨i, p', d', z1, z2, z3, z4, z5⟩ := back e0 hm
        rw [h] at z5
        cases z5
        rw [a1] at z2
        cases z2
        obtain ⟨p2, o2, y1, y2, y3, y4, y5⟩ := r1.ow i true _ z4
        rw [z3] at y1
        cases y1
        exact ⟨p, o2, a1, y2, y3, a4, y5⟩
      · rw [keep hm, e0] at h
        cases h
        have ho : own p := ⟨k, b, d, e0, a1, hm⟩
        have f1 : F' p = some o := by rw [F_own ho]; exact a2
        exact ⟨p, o, a1, r1.sF p o f1, RepO.mono s1 a3, a4, (r1.dj p o f1).resolve_right a3.nt⟩
    · obtain ⟨d0, e0⟩ := inv h1
      obtain ⟨d2, e2⟩ := inv h2
      exact r.nd k k2 b c d0 d2 p e0 e2 h3 h4
    · obtain ⟨h1, d, h2⟩ := r.rt k p h
      refine ⟨h1, ?_⟩
      by_cases hm : Hd.ow k ∈ hs
      · obtain ⟨i, p', d', z1, z2, z3, z4, z5⟩ := back h2 hm
        exact ⟨d', z5⟩
      · rw [keep hm]
        exact ⟨d, h2⟩
  · have hF' : F' p = none := hF
    have no : ¬ own p := fun ho => by
      have ho2 := ho
      obtain ⟨j, b, d, q1, q2, q3⟩ := ho2
      obtain ⟨p', o, a1, a2, _⟩ := r.ow j b d q1
      rw [q2] at a1
      cases a1
      rw [F_own ho, a2] at hF'
      cases hF'
    rw [F_not no] at hF'
    refine ⟨hF', fun j b d q1 q2 => ?_⟩
    by_cases hm : Hd.ow j ∈ hs
    · obtain ⟨i, hi⟩ := List.mem_iff_getElem?.mp hm
      exact hR i (R_of hi q2)
    · exact no ⟨j, b, d, q1, q2, hm⟩
end
/-- a call, read over trees -/
def wCall (T : SpT) (wl : WA) : WE := fun env Q Xp => wl env (fun hs e => ndup (ows hs) = true ∧ mo (slsOf e hs) fun sl => T sl ⟨fun d sl' => Q d (backE e hs sl'), fun _ _ => False, fun y sl' => Xp y (backE e hs sl')⟩) Xp
def wCallF (T : SpT) (wl : WA) : WE := fun env Q Xp => wl env (fun hs e => ndup (ows hs) = true ∧ mo (slsOf e hs) fun sl => T sl ⟨fun _ _ => False, fun d sl' => Q d (backE e hs sl'), fun y sl' => Xp y (backE e hs sl')⟩) Xp
section
variable {X : Cx} {W : WX} {K : PySem.W.Frag} {T : SpT} {wl : WA}
theorem l_call (σ : St) (H : Hp) (Q : VK) (h : lO K W (imO (wCall T wl)) σ H Q) : lA K W wl σ H fun vs H1 => spT K T vs H1 Q (fun cls d H' => W cls d σ H') := by
  obtain ⟨x, G, env, Q', X', r, hw, hn, hx⟩ := h
  refine ⟨x, G, env, fun hs e => ndup (ows hs) = true ∧ mo (slsOf e hs) fun sl => T sl ⟨fun d sl' => Q' (.im d) (backE e hs sl'), fun _ _ => False, fun y sl' => X' y (backE e hs sl')⟩, X', r, hw, fun hs e1 vs G1 H1 s1 r1 q1 hq => ?_, hx⟩
  obtain ⟨nd, hq⟩ := hq
  obtain ⟨sl, z, hT⟩ := mo_some hq
  obtain ⟨x', ar, bk, own⟩ := call_frame r1 q1 z nd
  exact ⟨x', G1, sl, _, ar, hT, fun d sl' v G' H' s r' rp hq => hn (.im d) _ v G' H' (s1.trans s) (bk G' H' sl' s r') rp hq, fun _ _ _ _ _ _ _ _ _ _ _ _ _ z => z.elim,
    fun e sl' cls dd G' H' s r' xr hq => hx e _ cls dd G' H' (s1.trans s) (bk G' H' sl' s r') xr hq⟩
theorem l_callF (σ : St) (H : Hp) (Q : VK) (h : lF K W (wCallF T wl) σ H Q) : lA K W wl σ H fun vs H1 => spT K T vs H1 Q (fun cls d H' => W cls d σ H') := by
  obtain ⟨x, G, env, Q', X', r, hw, hn, hx⟩ := h
  refine ⟨x, G, env, fun hs e => ndup (ows hs) = true ∧ mo (slsOf e hs) fun sl => T sl ⟨fun _ _ => False, fun d sl' => Q' d (backE e hs sl'), fun y sl' => X' y (backE e hs sl')⟩, X', r, hw, fun hs e1 vs G1 H1 s1 r1 q1 hq => ?_, hx⟩
  obtain ⟨nd, hq⟩ := hq
  obtain ⟨sl, zsl, hT⟩ := mo_some hq
  obtain ⟨x', ar, bk, own⟩ := call_frame r1 q1 zsl nd
  refine ⟨x', G1, sl, _, ar, hT, fun _ _ _ _ _ _ _ _ z => z.elim, fun d sl' p o G' H' s r' a1 a2 a3 a4 a5 hq => ?_,
    fun e sl' cls dd G' H' s r' xr hq => hx e _ cls dd G' H' (s1.trans s) (bk G' H' sl' s r') xr hq⟩
  obtain ⟨b1, b2⟩ := own p a4 a5
  refine hn d _ p o G' H' (s1.trans s) (bk G' H' sl' s r') a1 a2 a3 b1 (fun j b d' e z => ?_) hq
  by_cases hm : Hd.ow j ∈ hs
  · obtain ⟨i, hi⟩ := List.mem_iff_getElem?.mp hm
    obtain ⟨sv, e3, e4⟩ := slsOf_get zsl hi
    have e4' : (match owAt e1 j with | some d => some (Sl.ow true d) | none => none) = some sv := e4
    cases y : owAt e1 j with
    | none => rw [y] at e4'; cases e4'
    | some d0 =>
      obtain ⟨b0, y⟩ := owAt_some y
      exact b2 j b0 d0 y z
  · rw [backE_out hm] at e
    exact b2 j b d' e z
end
end TL

namespace TL
open PySem PySem.Spec L2
/-- a def of the module that keeps T -/
structure FnT (P : Program) (w : World) (K : PySem.W.Frag) (mg : Str → Option Value) (base : Heap) (k : Nat) (x : Str) (ps : List Str) (T : SpT) : Prop where
  ex : ∃ f fd, FnOk P w K mg base (L2.CX P w) k f fd ps (spT K T) ∧ mg x = some (.ref f) ∧ PySem.W.keepIn K (.ref f) = true ∧ Binds K fd ps []
/-- a method of the class c -/
structure MeT (P : Program) (w : World) (K : PySem.W.Frag) (mg : Str → Option Value) (base : Heap) (k : Nat) (c m : Str) (ps : List Str) (T : SpT) : Prop where
  ex : ∃ f fd, FnOk P w K mg base (L2.CX P w) k f fd ps (spT K T) ∧ Meth K (He.ga K c) m f ∧ Cls K (He.ga K c) ∧ Binds K fd ps []
/-- the maker of the class c -/
structure MkT (P : Program) (w : World) (K : PySem.W.Frag) (mg : Str → Option Value) (base : Heap) (k : Nat) (c : Str) (ps : List Str) (T : SpT) : Prop where
  ex : ∃ f fd, FnOk P w K mg base (L2.CX P w) k f fd ps (spT K T) ∧ Mk K (He.ga K c) f ∧ mg c = some (.ref (He.ga K c)) ∧ Binds K fd ps []
section
variable {X : Cx} {W : WX} {K : PySem.W.Frag} {T : SpT} {wl : WA} {k : Nat} {x : Str} {ps : List Str} {e o : Expr} {es : List Expr} {p pos apos : Pos} {wr : WO}
theorem qe_call (F : FnT X.prog X.w X.K X.mg X.base k x ps T) (hr : Room k X.A) (tk : Takes X W) (ha : QA X W (e :: es) wl) (hg : Gl X x := by rfl)
    (hdb : (x == ("__debug__" : Str)) = false := by decide) (he : starEach (e :: es) X.env = (false, eval e X.env) :: starEach es X.env := by rfl) (hpl : (backTo pos (starEach es X.env)).any (·.1) = false := by rfl) :
    QE X W (.Call (.Name x p) (e :: es) [] pos) (wCall T wl) := by
  obtain ⟨f, fd, G, hm, hk, hb⟩ := F.ex
  exact (pe_callS G hr hg hm hk hb (fun σ => passAt tk σ) ha hdb he hpl).le l_call
theorem qf_call (F : FnT X.prog X.w X.K X.mg X.base k x ps T) (hr : Room k X.A) (tk : Takes X W) (ha : QA X W (e :: es) wl) (hg : Gl X x := by rfl)
    (hdb : (x == ("__debug__" : Str)) = false := by decide) (he : starEach (e :: es) X.env = (false, eval e X.env) :: starEach es X.env := by rfl) (hpl : (backTo pos (starEach es X.env)).any (·.1) = false := by rfl) :
    QF X W (.Call (.Name x p) (e :: es) [] pos) (wCallF T wl) := by
  obtain ⟨f, fd, G, hm, hk, hb⟩ := F.ex
  exact (pe_callS G hr hg hm hk hb (fun σ => passAt tk σ) ha hdb he hpl).le l_callF
theorem lA_nil {w : WE} (σ : St) (H : Hp) (Q : List V → Hp → Prop) (h : lA K W aNil σ H Q) : Q [] H := by
  obtain ⟨x, G, env, Q', X', r, hw, hn, hx⟩ := h
  exact hn [] env [] G H (.refl _) r rfl hw
/-! ### methods -/
def tMethS (C : Addr) (m : Str) (sp : Sp) (E : St → XK) (ta : TE) (t : TA) : TE := fun σ H Q => ta σ H fun x H1 => ∃ a dx fs, x = .ref a ∧ H1 a = some (.ins C dx fs) ∧ fs.lookup m = none ∧ t σ H1 fun vs H2 => sp (x :: vs) H2 Q (E σ)
theorem _root_.L2.PE.ex {ι : Type} {e : Expr} {t : ι → TE} (h : ∀ i, PE X e (t i)) : PE X e (fun σ H Q => ∃ i, t i σ H Q) := ⟨fun pins s σ H Q I hw => let ⟨i, hi⟩ := hw; (h i).run pins s σ H Q I hi⟩
/-- the receiver's class picks the promise -/
def wMeth (m : Str) (Ts : List (Str × SpT)) (wr : WO) (wl : WA) : WE := fun env Q Xp => wr env (fun h e => mo (hv e h) fun d => match d with
  | .ins c ns _ => ns.contains m = false ∧ mo (Ts.lookup c) fun T => wl e (fun hs e2 => ndup (ows (h :: hs)) = true ∧ mo (slsOf e2 (h :: hs)) fun sl => T sl ⟨fun d sl' => Q d (backE e2 (h :: hs) sl'), fun _ _ => False, fun y sl' => Xp y (backE e2 (h :: hs) sl')⟩) Xp
  | _ => False) Xp
theorem zip_nolook {m : Str} : ∀ {ns : List Str} {vs : List V}, ns.contains m = false → (ns.zip vs).lookup m = none
  | [], _, _ => rfl
  | _ :: _, [], _ => rfl
  | n :: ns, v :: vs, h => by
    rw [List.contains_cons, Bool.or_eq_false_iff] at h
    rw [List.zip_cons_cons, List.lookup_cons, h.1]
    exact zip_nolook h.2
theorem lookup_memT {Ts : List (Str × SpT)} {c : Str} {T : SpT} (h : Ts.lookup c = some T) : (c, T) ∈ Ts := by
  induction Ts with
  | nil => cases h
  | cons q Ts ih =>
    obtain ⟨c0, T0⟩ := q
    rw [List.lookup_cons] at h
    cases z : (c == c0) with
    | true =>
      rw [z] at h
      cases h
      rw [beq_iff_eq.mp z]
      exact List.mem_cons_self
    | false =>
      rw [z] at h
      exact List.mem_cons_of_mem _ (ih h)
theorem l_meth {m : Str} {Ts : List (Str × SpT)} (σ : St) (H : Hp) (Q : VK) (h : lO K W (imO (wMeth m Ts wr wl)) σ H Q) :
    lO K W wr σ H fun x H1 => ∃ q : { q : Str × SpT // q ∈ Ts }, ∃ a dx fs, x = .ref a ∧ H1 a = some (.ins (He.ga K q.1.1) dx fs) ∧ fs.lookup m = none ∧ lA K W wl σ H1 fun vs H2 => spT K q.1.2 (x :: vs) H2 Q (fun cls d H' => W cls d σ H') := by
  obtain ⟨x, G, env, Q', X', r, hw, hn, hx⟩ := h
  refine ⟨x, G, env, fun h e => mo (hv e h) fun d => match d with
    | .ins c ns _ => ns.contains m = false ∧ mo (Ts.lookup c) fun T => wl e (fun hs e2 => ndup (ows (h :: hs)) = true ∧ mo (slsOf e2 (h :: hs)) fun sl => T sl ⟨fun d sl' => Q' (.im d) (backE e2 (h :: hs) sl'), fun _ _ => False, fun y sl' => X' y (backE e2 (h :: hs) sl')⟩) X'
    | _ => False, X', r, hw, fun h e1 v G1 H1 s1 r1 q1 hq => ?_, hx⟩
  obtain ⟨d, z, hq⟩ := mo_some hq
  cases d with
  | ins c ns ds =>
    obtain ⟨hc, hq⟩ := hq
    obtain ⟨T, zT, hq⟩ := mo_some hq
    obtain ⟨a, dx, vs0, rfl, qa, hl, _⟩ := q1.read r1 z
    refine ⟨⟨(c, T), lookup_memT zT⟩, a, dx, _, rfl, qa, zip_nolook hc, x, G1, e1, _, X', r1, hq, fun hs e2 vs G2 H2 s2 r2 q2 hq => ?_, hx.up s1⟩
    obtain ⟨nd, hq⟩ := hq
    obtain ⟨sl, zsl, hT⟩ := mo_some hq
    obtain ⟨x', ar, bk, own⟩ := call_frame (hs := h :: hs) (vs := .ref a :: vs) r2 ⟨_, _, rfl, q1.mono s2, q2⟩ zsl nd
    exact ⟨x', G2, sl, _, ar, hT, fun d sl' v G' H' s r' rp hq => hn (.im d) _ v G' H' ((s1.trans s2).trans s) (bk G' H' sl' s r') rp hq, fun _ _ _ _ _ _ _ _ _ _ _ _ _ z => z.elim,
      fun e sl' cls dd G' H' s r' xr hq => hx e _ cls dd G' H' ((s1.trans s2).trans s) (bk G' H' sl' s r') xr hq⟩
  | _ => exact hq.elim
theorem qe_meth0 {pl : Sem Bool} {m : Str} {Ts : List (Str × SpT)} (he : QO X W o wr) (F : ∀ q ∈ Ts, MeT X.prog X.w X.K X.mg X.base k q.1 m ps q.2) (hr : Room k X.A) (tk : Takes X W)
    (ht : eval (.Call (.Attribute o m apos) [] [] pos) X.env = (do
      let ov ← eval o X.env
      standAt apos.atName
      let (f, first) ← holding [ov] (getMethod ov m pl)
      callWith pos f first (backTo pos (starEach [] X.env)) (backToKw pos (keywordEach [] X.env))) := by rfl) :
    QE X W (.Call (.Attribute o m apos) [] [] pos) (wMeth m Ts wr aNil) := by
  refine PE.le (t := fun σ H Q => lO X.K W wr σ H fun x H1 => ∃ q : { q : Str × SpT // q ∈ Ts }, ∃ a dx fs, x = .ref a ∧ H1 a = some (.ins (He.ga X.K q.1.1) dx fs) ∧ fs.lookup m = none ∧ lA X.K W aNil σ H1 fun vs H2 => spT X.K q.1.2 (x :: vs) H2 Q (fun cls d H' => W cls d σ H')) ?_ l_meth
  refine ⟨fun pins s σ H Q I h => PySem.W.methodCall_KW (pl := pl) (thn (he.run pins s σ H _ I h) fun u s1 ⟨x, H1, I1, rx, q, a, dx, fs, ex, ea, l, hq⟩ => ?_) ht⟩
  obtain ⟨f, fd, G, hm, c, hb⟩ := (F q.1 q.2).ex
  subst ex
  obtain rfl : u = Value.ref a := rx
  exact getmeth_ok I1 ea c hm l (PySem.W.callWith_K0 (first := [.ref a]) I1.kIn hm.kp (run_fnS (E := L2.WE W) (us := [.ref a]) (vs := [.ref a]) G hr hb (passAt tk σ) I1 (.cons rfl .nil) (lA_nil (w := wC .non) σ H1 _ hq)))
/-! ### makers -/
theorem run_makeS {CX : CXT} {C f : Addr} {fd : FuncData} {sp : Sp} {E : XK} {pins : List (Addr × Obj)} {σ : St} {H : Hp} {s : Shared} {Q : VK} {us : List Value} {vs : List V} (M : Mk X.K C f) (F : FnOk X.prog X.w X.K X.mg X.base CX k f fd ps sp) (hr : Room (k + 1) X.A) (hb : Binds X.K fd ps [])
    (hx : PassesAt CX X σ E) (I : Inv X pins σ H s) (r : Vals vs us)
    (h : ∀ x dx, H x = none → H dx = none → dx ≠ x → sp (.ref x :: vs) (upd (upd H dx (.own x)) x (.ins C dx [])) (fun v H2 => v = .non ∧ Q (.ref x) H2) E) :
    wpAny (model X.prog X.w) X.A (call (.ref C) us) (EP X pins σ Q) X.xe s := by
  have hq := h (s.heap.objs.size + 1) s.heap.objs.size (I.hok.fresh (Nat.le_succ _)) (I.hok.fresh (Nat.le_refl _)) (Nat.ne_of_lt (Nat.lt_succ_self _))
  have I2 := Inv.made (C := C) I
  have r2 : Vals (V.ref (s.heap.objs.size + 1) :: vs) (Value.ref (s.heap.objs.size + 1) :: us) := .cons rfl r
  have hl : (Value.ref (s.heap.objs.size + 1) :: us).length = ps.length := by
    rw [← r2.length]
    exact F.len _ _ _ _ hq
  have hb' := hb _ (Value.ref (s.heap.objs.size + 1) :: us) I2.kIn (by rw [List.append_nil]; exact hl)
  rw [List.append_nil] at hb'
  refine wpAny_call (make_map (f := f) I.kIn M.makes M.init (beq_iff_eq.mp M.fn) (codeAny_mono (F.run _ X.stack _ _ ⟨Value.ref (s.heap.objs.size + 1) :: us, []⟩ _ _ _ E (hr.make C us []) (I2.env0.make C us []) hb' r2 hq) fun r s' hq' => ?_))
  cases r with
  | error e => exact hx pins _ _ e s' I2 hq'
  | ok fl =>
    cases fl with
    | ret u =>
      obtain ⟨v, H', I3, rv, ev, q3⟩ := I2.after hq'
      subst ev
      exact ⟨rv, ⟨V.ref (s.heap.objs.size + 1), H', I3, rfl, q3⟩⟩
    | next => exact False.elim hq'
    | brk => exact False.elim hq'
    | cont => exact False.elim hq'
end
section
variable {K : PySem.W.Frag} {x : Fx} {G H : Hp} {σ : St} {env : Ev} {p : Addr} {o : HO} {d : D}
theorem ER.push (r : ER K x G H σ env) (hp : H p = some o) (q : RepO K G d o) (hF : x.F p = none) (hG : G p = none) (ho : ∀ (j : Nat) b d', env[j]? = some (.ow b d') → σ[j]? ≠ some (some (.ref p))) (hR : x.R env.length = none) :
    ER K x G H (σ ++ [some (.ref p)]) (env ++ [.ow false d]) := by
  have at_ : ∀ {i : Nat} {s : Sl}, (env ++ [.ow false d])[i]? = some s → (i < env.length ∧ env[i]? = some s ∧ (σ ++ [some (V.ref p)])[i]? = σ[i]?) ∨ (i = env.length ∧ s = .ow false d ∧ (σ ++ [some (V.ref p)])[i]? = some (some (.ref p))) := fun {i s} h => by
    by_cases hi : i < env.length
    · rw [List.getElem?_append_left hi] at h
      exact .inl ⟨hi, h, List.getElem?_append_left (by rw [r.len]; exact hi)⟩
    · rw [List.getElem?_append_right (by omega)] at h
      have hi2 : i - env.length = 0 := by
        have := (List.getElem?_eq_some_iff.mp h).1
        simp at this
        omega
      rw [hi2] at h
      refine .inr ⟨by omega, ?_, ?_⟩
      · simpa using h.symm
      · rw [List.getElem?_append_right (by rw [r.len]; omega), r.len, hi2]
        rfl
  refine ⟨by rw [List.length_append, List.length_append, r.len]; rfl, r.sG, r.sF, r.dj, fun i d' h => ?_, fun i b d' h => ?_, fun i j b c d1 d2 p' h1 h2 h3 h4 => ?_, fun i p' h => ?_⟩
  · rcases at_ h with ⟨_, h, e⟩ | ⟨_, h, _⟩
    · rw [e]
      exact r.im i d' h
    · cases h
  · rcases at_ h with ⟨_, h, e⟩ | ⟨_, h, e⟩
    · rw [e]
      exact r.ow i b d' h
    · cases h
      exact ⟨p, o, e, hp, q, hF, hG⟩
  · rcases at_ h1 with ⟨l1, h1, e1⟩ | ⟨l1, h1, e1⟩ <;> rcases at_ h2 with ⟨l2, h2, e2⟩ | ⟨l2, h2, e2⟩
    · rw [e1] at h3
      rw [e2] at h4
      exact r.nd i j b c d1 d2 p' h1 h2 h3 h4
    · rw [e2] at h4
      cases h4
      rw [e1] at h3
      exact absurd h3 (ho i b d1 h1)
    · rw [e1] at h3
      cases h3
      rw [e2] at h4
      exact absurd h4 (ho j c d2 h2)
    · rw [l1, l2]
  · obtain ⟨h1, d', h2⟩ := r.rt i p' h
    have hi : i < env.length := (List.getElem?_eq_some_iff.mp h2).1
    rw [List.getElem?_append_left (by rw [r.len]; exact hi), List.getElem?_append_left hi]
    exact ⟨h1, d', h2⟩
theorem ER.pop {b : Bool} (r : ER K x G H (σ ++ [some (.ref p)]) (env ++ [.ow b d])) (hl : σ.length = env.length) (hR : x.R env.length = none) :
    ER K x G H σ env ∧ (∃ o, H p = some o ∧ RepO K G d o) ∧ x.F p = none ∧ G p = none ∧ (∀ (j : Nat) b d', env[j]? = some (.ow b d') → σ[j]? ≠ some (some (.ref p))) := by
  have up : ∀ {i : Nat} {s : Sl}, env[i]? = some s → (env ++ [.ow b d])[i]? = some s ∧ (σ ++ [some (V.ref p)])[i]? = σ[i]? := fun {i s} h => by
    have hi : i < env.length := (List.getElem?_eq_some_iff.mp h).1
    exact ⟨by rw [List.getElem?_append_left hi]; exact h, List.getElem?_append_left (by rw [hl]; exact hi)⟩
  have last : (env ++ [.ow b d])[env.length]? = some (.ow b d) := by
    rw [List.getElem?_append_right (Nat.le_refl _), Nat.sub_self]
    rfl
  have lastσ : (σ ++ [some (V.ref p)])[env.length]? = some (some (.ref p)) := by
    rw [List.getElem?_append_right (by omega), hl, Nat.sub_self]
    rfl
  obtain ⟨p', o, z1, z2, z3, z4, z5⟩ := r.ow env.length b d last
  rw [lastσ] at z1
  cases z1
  refine ⟨⟨hl, r.sG, r.sF, r.dj, fun i d' h => ?_, fun i b' d' h => ?_, fun i j b1 c d1 d2 p' h1 h2 h3 h4 => ?_, fun i p' h => ?_⟩, ⟨o, z2, z3⟩, z4, z5, fun j b' d' h z => ?_⟩
  · obtain ⟨u1, u2⟩ := up h
    rw [← u2]
    exact r.im i d' u1
  · obtain ⟨u1, u2⟩ := up h
    rw [← u2]
    exact r.ow i b' d' u1
  · obtain ⟨u1, u2⟩ := up h1
    obtain ⟨u3, u4⟩ := up h2
    exact r.nd i j b1 c d1 d2 p' u1 u3 (by rw [u2]; exact h3) (by rw [u4]; exact h4)
  · obtain ⟨h1, d', h2⟩ := r.rt i p' h
    have hi : i < env.length := by
      have h3 := (List.getElem?_eq_some_iff.mp h2).1
      rw [List.length_append, List.length_singleton] at h3
      have ne : i ≠ env.length := fun z => by
        rw [z, hR] at h
        cases h
      omega
    rw [List.getElem?_append_left hi] at h2
    rw [List.getElem?_append_left (by rw [hl]; exact hi)] at h1
    exact ⟨h1, d', h2⟩
  · obtain ⟨u1, u2⟩ := up h
    have := r.nd j env.length b' b d' d p u1 last (by rw [u2]; exact z) lastσ
    have hj := (List.getElem?_eq_some_iff.mp h).1
    omega
end
end TL

namespace TL
open PySem PySem.Spec L2
def hdO (sl : List Sl) : Option (D × List Sl) := match sl with
  | .ow _ o :: r => some (o, r)
  | _ => none
def wMake (c : Str) (T : SpT) (wl : WA) : WE := fun env Q Xp => wl env (fun hs e => ndup (ows hs) = true ∧ mo (slsOf e hs) fun sl => T (.ow true (.ins c [] []) :: sl) ⟨fun d sl' => d = .non ∧ mo (hdO sl') fun q => Q q.1 (backE e hs q.2), fun _ _ => False, fun y sl' => mo (hdO sl') fun q => Xp y (backE e hs q.2)⟩) Xp
theorem owAt_lt {env : Ev} {j : Nat} {d : D} (h : owAt env j = some d) : j < env.length := by
  obtain ⟨b, h⟩ := owAt_some h
  exact (List.getElem?_eq_some_iff.mp h).1
theorem owAt_app {env : Ev} {s : Sl} {j : Nat} {d : D} (h : owAt env j = some d) : owAt (env ++ [s]) j = some d := by
  have hl := owAt_lt h
  obtain ⟨b, h⟩ := owAt_some h
  unfold owAt
  rw [List.getElem?_append_left hl, h]
theorem slsOf_app {env : Ev} {s : Sl} : ∀ {hs : List Hd} {sl : List Sl}, slsOf env hs = some sl → slsOf (env ++ [s]) hs = some sl ∧ ∀ j ∈ ows hs, j < env.length
  | [], sl, h => ⟨h, fun j hj => by cases hj⟩
  | h0 :: t, sl, h => by
    unfold slsOf at h
    cases z : slOf env h0 with
    | none => rw [z] at h; cases h
    | some s0 =>
      rw [z] at h
      cases y : slsOf env t with
      | none => rw [y] at h; cases h
      | some l =>
        rw [y] at h
        cases h
        obtain ⟨i1, i2⟩ := slsOf_app (s := s) y
        cases h0 with
        | im d =>
          refine ⟨?_, i2⟩
          unfold slsOf
          rw [i1]
          have z' : slOf (env ++ [s]) (.im d) = some s0 := z
          rw [z']
        | ow j =>
          have z' : (match owAt env j with | some d => some (Sl.ow true d) | none => none) = some s0 := z
          cases q : owAt env j with
          | none => rw [q] at z'; cases z'
          | some d =>
            rw [q] at z'
            refine ⟨?_, fun k hk => ?_⟩
            · unfold slsOf
              rw [i1]
              have z2 : slOf (env ++ [s]) (.ow j) = some s0 := by
                show (match owAt (env ++ [s]) j with | some d => some (Sl.ow true d) | none => none) = some s0
                rw [owAt_app q]
                exact z'
              rw [z2]
            · rcases List.mem_cons.mp (show k ∈ j :: ows t from hk) with e | e
              · rw [e]
                exact owAt_lt q
              · exact i2 k e
theorem putOw_app {env : Ev} {s : Sl} {j : Nat} {d : D} (h : j < env.length) : putOw (env ++ [s]) j d = putOw env j d ++ [s] := by
  unfold putOw
  rw [List.getElem?_append_left h]
  cases z : env[j]? with
  | none => rfl
  | some sv =>
    cases sv with
    | no => rfl
    | im _ => rfl
    | ow b d' => exact List.set_append_left _ _ h
theorem backE_app {s : Sl} : ∀ {hs : List Hd} {sl : List Sl} {env : Ev}, (∀ j ∈ ows hs, j < env.length) → backE (env ++ [s]) hs sl = backE env hs sl ++ [s]
  | [], sl, env, _ => by cases sl <;> rfl
  | h :: hs, [], env, _ => by cases h <;> rfl
  | .ow j :: hs, .ow b d :: sl, env, hj => by
    unfold backE
    rw [putOw_app (hj j List.mem_cons_self)]
    exact backE_app fun k hk => by rw [putOw_length]; exact hj k (List.mem_cons_of_mem _ hk)
  | .ow j :: hs, .im d :: sl, env, hj => by
    unfold backE
    exact backE_app fun k hk => hj k (List.mem_cons_of_mem _ hk)
  | .ow j :: hs, .no :: sl, env, hj => by
    unfold backE
    exact backE_app fun k hk => hj k (List.mem_cons_of_mem _ hk)
  | .im _ :: hs, s0 :: sl, env, hj => by
    unfold backE
    exact backE_app fun k hk => hj k hk
section
variable {X : Cx} {W : WX} {K : PySem.W.Frag} {T : SpT} {wl : WA} {k : Nat} {x : Str} {ps : List Str} {e o : Expr} {es : List Expr} {p pos apos : Pos} {wr : WO} {c : Str}
theorem HRs.app {G : Hp} {σ : St} {u : Option V} : ∀ {hs : List Hd} {vs : List V}, HRs K G σ hs vs → HRs K G (σ ++ [u]) hs vs
  | [], vs, q => q
  | .im d :: t, vs, q => let ⟨v, r, e, q1, q2⟩ := q; ⟨v, r, e, q1, HRs.app q2⟩
  | .ow i :: t, vs, q => by
    obtain ⟨v, r, e, q1, q2⟩ := q
    have q1' : σ[i]? = some (some v) := q1
    refine ⟨v, r, e, ?_, HRs.app q2⟩
    show (σ ++ [u])[i]? = some (some v)
    rw [List.getElem?_append_left (List.getElem?_eq_some_iff.mp q1').1]
    exact q1'
theorem l_make (σ : St) (H : Hp) (Q : VK) (h : lF K W (wMake c T wl) σ H Q) : lA K W wl σ H fun vs H1 => ∀ xx dx, H1 xx = none → H1 dx = none → dx ≠ xx →
    spT K T (.ref xx :: vs) (upd (upd H1 dx (.own xx)) xx (.ins (He.ga K c) dx [])) (fun v H2 => v = .non ∧ Q (.ref xx) H2) (fun cls d H' => W cls d σ H') := by
  obtain ⟨x, G, env, Q', X', r, hw, hn, hx⟩ := h
  refine ⟨x, G, env, _, X', r, hw, fun hs e1 vs G1 H1 s1 r1 q1 hq => fun xx dx nx ndx ne => ?_, hx⟩
  obtain ⟨nd, hq⟩ := hq
  obtain ⟨sl, zsl, hT⟩ := mo_some hq
  have st1 := Step.junk r1.sG (.own xx) ndx
  have nx' : upd H1 dx (.own xx) xx = none := by
    rw [upd_ne (Ne.symm ne)]
    exact nx
  have r2 := r1.step st1
  obtain ⟨f1, f2, f3⟩ := fresh_F r2 nx'
  have st2 := Step.junk r2.sG (.ins (He.ga K c) dx []) nx'
  have r3 := r2.step st2
  have hR : x.R e1.length = none := r3.noR fun d z => by
    have := (List.getElem?_eq_some_iff.mp z).1
    omega
  have r4 := r3.push (d := .ins c [] []) upd_same ⟨dx, [], rfl, rfl, Reps.nil⟩ f1 f2 f3 hR
  obtain ⟨y1, y2⟩ := slsOf_app (s := .ow false (.ins c [] [])) zsl
  have at0 : owAt (e1 ++ [.ow false (.ins c [] [])]) e1.length = some (.ins c [] []) := by
    unfold owAt
    rw [List.getElem?_append_right (Nat.le_refl _), Nat.sub_self]
    rfl
  have zs : slsOf (e1 ++ [.ow false (.ins c [] [])]) (.ow e1.length :: hs) = some (.ow true (.ins c [] []) :: sl) := by
    unfold slsOf
    have z2 : slOf (e1 ++ [.ow false (.ins c [] [])]) (.ow e1.length) = some (.ow true (.ins c [] [])) := by
      show (match owAt (e1 ++ [.ow false (.ins c [] [])]) e1.length with | some d => some (Sl.ow true d) | none => none) = _
      rw [at0]
    rw [z2, y1]
  have nd' : ndup (ows (.ow e1.length :: hs)) = true := by
    show (!(ows hs).contains e1.length && ndup (ows hs)) = true
    rw [nd, Bool.and_true]
    have : (ows hs).contains e1.length = false := by
      cases z : (ows hs).contains e1.length with
      | false => rfl
      | true =>
        have := y2 e1.length (by simpa using z)
        omega
    rw [this]
    rfl
  have q2 : HRs K G1 (σ ++ [some (.ref xx)]) (.ow e1.length :: hs) (.ref xx :: vs) := by
    refine ⟨.ref xx, vs, rfl, ?_, q1.app⟩
    show (σ ++ [some (V.ref xx)])[e1.length]? = some (some (.ref xx))
    rw [List.getElem?_append_right (by rw [r1.len]; exact Nat.le_refl _), r1.len, Nat.sub_self]
    rfl
  obtain ⟨x', ar, bk, own⟩ := call_frame r4 q2 zs nd'
  have fin : ∀ {G' H' : Hp} {sl' : List Sl}, Same G1 G' → ER K x' G' H' ((V.ref xx :: vs).map some) sl' → ∃ o0 r0, hdO sl' = some (o0, r0) ∧ ER K x G' H' σ (backE e1 hs r0) ∧ (∃ ob, H' xx = some ob ∧ RepO K G' o0 ob) ∧ x.F xx = none ∧ G' xx = none ∧
      (∀ (j : Nat) b d', (backE e1 hs r0)[j]? = some (.ow b d') → σ[j]? ≠ some (some (.ref xx))) := fun {G' H' sl'} s r' => by
    obtain ⟨_, p0, a1, a2⟩ := ar.2 0 true (.ins c [] []) rfl
    have ep : xx = p0 := by
      have a1' : some (V.ref xx) = some (.ref p0) := a1
      cases a1'
      rfl
    subst ep
    obtain ⟨_, o0, a3⟩ := r'.rt 0 xx a2
    cases sl' with
    | nil => simp at a3
    | cons s0 r0 =>
      have e0 : s0 = .ow true o0 := by simpa using a3
      subst e0
      have r5 := bk G' H' _ s r'
      have eb : backE (e1 ++ [.ow false (.ins c [] [])]) (.ow e1.length :: hs) (.ow true o0 :: r0) = backE e1 hs r0 ++ [.ow false o0] := by
        show backE (putOw (e1 ++ [.ow false (.ins c [] [])]) e1.length o0) hs r0 = _
        have ep2 : putOw (e1 ++ [.ow false (.ins c [] [])]) e1.length o0 = e1 ++ [.ow false o0] := by
          unfold putOw
          rw [List.getElem?_append_right (Nat.le_refl _), Nat.sub_self]
          show (e1 ++ [Sl.ow false (.ins c [] [])]).set e1.length (.ow false o0) = _
          rw [List.set_append_right _ _ (Nat.le_refl _), Nat.sub_self]
          rfl
        rw [ep2, backE_app y2]
      rw [eb] at r5
      obtain ⟨b1, b2, b3, b4, b5⟩ := r5.pop (by rw [backE_length, r1.len]) (by rw [backE_length]; exact hR)
      exact ⟨o0, r0, rfl, b1, b2, b3, b4, b5⟩
  have sG : Same G1 G1 := .refl _
  refine ⟨x', G1, _, _, ar, hT, fun d sl' v G' H' s r' rp hq => ?_, fun _ _ _ _ _ _ _ _ _ _ _ _ _ z => z.elim, fun ex sl' cls dd G' H' s r' xr hq => ?_⟩
  · obtain ⟨rfl, hq⟩ := hq
    obtain ⟨q, z, hq⟩ := mo_some hq
    obtain ⟨o0, r0, z2, b1, ⟨ob, b2, b3⟩, b4, b5, b6⟩ := fin s r'
    rw [z] at z2
    cases z2
    exact ⟨rp, hn o0 _ xx ob G' H' (s1.trans s) b1 b2 b3 b5 b4 b6 hq⟩
  · obtain ⟨q, z, hq⟩ := mo_some hq
    obtain ⟨o0, r0, z2, b1, _⟩ := fin s r'
    rw [z] at z2
    cases z2
    exact hx ex _ cls dd G' H' (s1.trans s) b1 xr hq
theorem qf_make (F : MkT X.prog X.w X.K X.mg X.base k c ps T) (hr : Room (k + 1) X.A) (tk : Takes X W) (ha : QA X W (e :: es) wl) (hg : Gl X c := by rfl)
    (hdb : (c == ("__debug__" : Str)) = false := by decide) (he : starEach (e :: es) X.env = (false, eval e X.env) :: starEach es X.env := by rfl) (hpl : (backTo pos (starEach es X.env)).any (·.1) = false := by rfl) :
    QF X W (.Call (.Name c p) (e :: es) [] pos) (wMake c T wl) := by
  obtain ⟨f, fd, G, M, hm, hb⟩ := F.ex
  refine PE.le (t := fun σ H Q => lA X.K W wl σ H fun vs H1 => ∀ xx dx, H1 xx = none → H1 dx = none → dx ≠ xx → spT X.K T (.ref xx :: vs) (upd (upd H1 dx (.own xx)) xx (.ins (He.ga X.K c) dx [])) (fun v H2 => v = .non ∧ Q (.ref xx) H2) (fun cls d H' => W cls d σ H')) ?_ l_make
  refine ⟨fun pins s σ H Q I h => ?_⟩
  refine wpAny_Call_Name_kw (ld_glob I hg hm ?_ hdb)
  refine PySem.W.callWith_K (h₀ := X.base) I.ok.mod.kin M.kp (thn (ha.run pos pins s σ H _ I h) fun us s1 ⟨vs, H1, I1, r, q⟩ => ⟨I1.kIn, ?_⟩) he hpl
  exact run_makeS M G hr hb (passAt tk σ) I1 r q
end
end TL

namespace TL
open PySem PySem.Spec L2
/-! ### raise, try -/
theorem one_size (v : Value) : [v].length ≤ sizeLine := by
  rw [sizeLine_eq]
  exact (by decide : 1 ≤ 16777216)
theorem ldC {M : Model} {s : Shared} {name : Str} {scope : Scope} {L a : Addr} {cd : Value} {m : Str → Option Value} {x : Str} {pos : Pos} {v : Value} {Q : Value → Shared → Prop} {A : Around} {E : Value → Shared → Prop} (hn : s.heap.Ns L m) (hv : m x = some v) (h : Q v s)
    (hk : scope.kind = .function := by rfl) (hl : (PyProof.Rows.envOfC name scope L a cd).kindOf x = some .local := by rfl) (hd : (x == ("__debug__" : Str)) = false := by decide) :
    wpAny M A (eval (.Name x pos) (PyProof.Rows.envOfC name scope L a cd)) Q E s := wpAny_Name (wpAny_loadName_local hk hl hn hv h) hd
theorem relO_one {v : V} {v' : Value} (n : Str) (r : RelV v v') (f : Str) : RelO (List.lookup f [(n, v)]) (if f = n then some v' else none) := by
  by_cases hw : f = n
  · subst hw
    rw [if_pos rfl]
    have q : List.lookup f [(f, v)] = some v := by simp [List.lookup]
    rw [q]
    exact r
  · rw [if_neg hw]
    have qw : (f == n) = false := by simpa using hw
    have q2 : List.lookup f [(n, v)] = none := by simp [List.lookup, qw]
    rw [q2]
    trivial
section
variable {X : Cx} {W : WX} {K : PySem.W.Frag} {e : Expr} {we : WE} {cn f : Str}
def sRaise (cn f : Str) (w : WE) : WS := fun env E => w env (fun d e => E.xc ⟨cn, [f], [d]⟩ e) E.xc
def sRaise0 (cn : Str) : WS := fun env E => E.xc ⟨cn, [], []⟩ env
theorem l_raise (De : Ends) (σ : St) (H : Hp) (h : lS K W (sRaise cn f we) De σ H) : tCons (lO K W (imO we)) tNil σ H fun vs H1 => ∃ v, vs = [v] ∧ ∀ d, H1 d = none → W (.ref (He.ga K cn)) (some d) σ (upd H1 d (.xd [(f, v)])) := by
  obtain ⟨x, G, env, E', r, hw, hE⟩ := h
  refine ⟨x, G, env, _, E'.xc, r, imO_mono hw, fun h e1 v G1 H1 s1 r1 q1 hq => ⟨v, rfl, fun d hd => ?_⟩, hE.xe σ⟩
  obtain ⟨dv, rfl, hq⟩ := hq
  have st := Step.one r1.sG (.xd [(f, v)]) hd
  exact hE.xc _ e1 _ _ σ _ _ (s1.trans st.g) (r1.step st) ⟨rfl, .inr ⟨d, [v], rfl, upd_same, rfl, Reps.cons (Rep.mono st.g _ _ q1) Reps.nil⟩⟩ hq
end
end TL

namespace PySem
open AutoSeq1 (wpAny_loadPart')
theorem meets_enumT (l : Addr) (items : Array Value) (n : Nat) (dct : Option Addr) (sl : Array (Option Value)) :
    Meets (Builtin.«enumerate.__new__» ⟨[.type "enumerate", .ref l], []⟩) (fun _ R s => s.heap.get? l = some { cls := .type "tuple", dict := dct, data := .seq items n, slots := sl } ∧
      R (.ok (.ret (.ref (s.heap.push { cls := .type "tuple_iterator", data := .fields #[.ref l, .int 0 0] }).objs.size)))
        { s with heap := (s.heap.push { cls := .type "tuple_iterator", data := .fields #[.ref l, .int 0 0] }).push { cls := .type "enumerate", data := .fields #[.none, .bool false, .ref s.heap.objs.size, rawInt 0, .none, .none] } }) :=
  .of_wp fun prog w A R s h => by
    obtain ⟨hp, g, d, tk, os⟩ := s; obtain ⟨hl, h⟩ := h
    have hsub := sub_enumerate
    have hL : Heap.IsTuple (Shared.heap ⟨hp, g, d, tk, os⟩) l items := ⟨_, hl, rfl, n, rfl⟩
    wp_walk using wpAny_loadPart' hl
    refine wpAny_stack_any fun st => wpAny_pure ?_
    split
    · rename_i c _ _ _ _ _
      cases (c == Value.type "enumerate")
      · wp_walk using wpAny_loadPart' hl, wpAny_pyIter_tuple hL
        exact ⟨_, rfl, h⟩
      · wp_walk using wpAny_loadPart' hl, wpAny_pyIter_tuple hL
        exact ⟨_, rfl, h⟩
    · wp_walk using wpAny_loadPart' hl, wpAny_pyIter_tuple hL
      exact ⟨_, rfl, h⟩
theorem call_enumT {prog : Program} {w : World} {A : Around} {E : Value → Shared → Prop} {s : Shared} {l : Addr} {items : Array Value} {Q : Value → Shared → Prop} (hL : s.heap.IsTuple l items)
    (h : ∀ h', IsEnum h' (s.heap.objs.size + 1) s.heap.objs.size 0 .none → h'.IsTupleIter s.heap.objs.size l 0 → h'.objs.size = s.heap.objs.size + 2 →
      (∀ b o, s.heap.get? b = some o → h'.get? b = some o) → Q (.ref (s.heap.objs.size + 1)) { s with heap := h' }) :
    wpAny (model prog w) A (call (.type "enumerate") [.ref l]) Q E s := by
  obtain ⟨⟨c, dct, dt, sl⟩, hl, hc, n, hd⟩ := hL
  replace hc : c = .type "tuple" := hc
  replace hd : dt = .seq items n := hd
  subst hc hd
  refine callType_new F.called_enumerate (by decide) (F.typeCall_enumerate_1 _) (F.newCall_enumerate_1 _) (fun obj => F.args_object_init_2 obj _) F.entry_enumerate_new (meets_enumT l items n dct sl) ⟨hl, ?_⟩
  have hz : (s.heap.push { cls := .type "tuple_iterator", data := .fields #[.ref l, .int 0 0] }).objs.size = s.heap.objs.size + 1 := Heap.size_push ..
  show _ ∧ _
  rw [hz]
  have he : IsEnum ((s.heap.push { cls := .type "tuple_iterator", data := .fields #[.ref l, .int 0 0] }).push
      { cls := .type "enumerate", data := .fields #[.none, .bool false, .ref s.heap.objs.size, rawInt 0, .none, .none] }) (s.heap.objs.size + 1) s.heap.objs.size 0 .none := by
    have := Heap.get?_push_size (s.heap.push { cls := .type "tuple_iterator", data := .fields #[.ref l, .int 0 0] })
      (o := { cls := .type "enumerate", data := .fields #[.none, .bool false, .ref s.heap.objs.size, rawInt 0, .none, .none] }) rfl
    rw [hz] at this; exact this
  exact ⟨⟨_, he, rfl⟩, h _ he ⟨_, Heap.get?_push_of_some _ (Heap.get?_push_size _ rfl), rfl, rfl⟩ (by rw [Heap.size_push, hz]) fun b o x => Heap.get?_push_of_some _ (Heap.get?_push_of_some _ x)⟩
end PySem
namespace TL
open PySem PySem.Spec L2
/-- enumerate of a tuple -/
def Itet (K : PySem.W.Frag) (a : Addr) : It :=
  ⟨fun i H => ∃ (xs : List V) (x : V), SqT K H a xs ∧ xs[i]? = some x, fun i H v H' => ∃ T x, v = .ref T ∧ H T = none ∧ H' = upd H T (.tup [.int (i : Nat), x]) ∧ ∀ xs, SqT K H a xs → xs[i]? = some x, fun i H => ∃ xs : List V, SqT K H a xs ∧ xs.length ≤ i⟩
theorem turn_enumT {P : Program} {w : World} {K : PySem.W.Frag} {elts : List Expr} {kk : Nat} {tpos : Pos} (a e it : Addr) :
    Turn P w K (.Tuple elts kk tpos) (Itet K a) [e, it] e (fun i h => (∃ old, IsEnum h e it ((i : Nat) : Int) old) ∧ h.IsTupleIter it a i ∧ e ≠ it) where
  mem := by simp
  obj := fun i h st b hb => by
    obtain ⟨⟨old, he⟩, ⟨o, ho, hc, hd⟩, _⟩ := st
    have e' : b = e ∨ b = it := by simpa using hb
    rcases e' with z | z
    · rw [z]; exact ⟨_, he, fun v q => nomatch q⟩
    · rw [z]; exact ⟨o, ho, fun v q => by rw [hd] at q; cases q⟩
  keep := fun i h h' st k => let ⟨⟨old, he⟩, hi, hne⟩ := st; ⟨⟨old, k e (by simp) _ he⟩, hi.at fun o q => k it (by simp) o q, hne⟩
  item := by
    intro X hP hw hK hc i pins s σ H E I hf st hg
    subst hP hw hK
    obtain ⟨⟨old, he⟩, hit, hne⟩ := st
    obtain ⟨xs, x, hq, hx⟩ := hg
    obtain ⟨its, rv, p, hz⟩ := I.tuple hq
    have p' : s.heap.IsTuple a its.toArray := p
    have hel : e < s.heap.objs.size := Heap.lt_size he
    have hil : it < s.heap.objs.size := by obtain ⟨_, q, _⟩ := hit; exact Heap.lt_size q
    have nai : a ≠ it := fun z => by
      obtain ⟨o1, h1, c1, _⟩ := hit
      obtain ⟨o2, h2, c2, _⟩ := p'
      rw [z, h1] at h2
      cases h2
      rw [c1] at c2
      injection c2 with c3
      exact absurd c3 (by decide)
    have nea : e ≠ a := fun z => by
      obtain ⟨o2, h2, c2, _⟩ := p'
      have h1 := he
      unfold IsEnum at h1
      rw [z, h2] at h1
      cases h1
      injection c2 with c3
      exact absurd c3 (by decide)
    have hlen : i < its.toArray.size := by
      rw [List.size_toArray, ← rv.length]
      exact (List.getElem?_eq_some_iff.mp hx).1
    refine wpAny_pyNext_enum_itemD (Draws.tuple (by show X.A.handled = none; exact I.ok.hd hc) it a nai its.toArray) he ⟨hit, p'⟩ hlen hne (by
      intro z
      rcases List.mem_cons.mp z with z | z
      · exact hne z
      · rcases List.mem_cons.mp z with z | z
        · exact nea z
        · cases z) fun u h' tk hu ho hit' hT hsz hk => ?_
    refine ⟨_, rfl, wpAny_letOwnedTupleGo_enum (s := { s with heap := h', toks := tk + 1 }) ho fun h'' he' sb => ?_⟩
    have ru : RelV x u := by
      obtain ⟨u', e1, e2⟩ := rv.get hx
      have hu' : its[i]? = some u := by simpa using hu
      rw [hu'] at e1
      cases e1
      exact e2
    have hT2 : h''.get? s.heap.objs.size = some { cls := .type "tuple", data := .seq #[.int i tk, u] } := (sb.2 _ (Nat.ne_of_gt hel)).trans hT
    have new : ObjOk X.prog X.w (upd H s.heap.objs.size (.tup [.int (i : Nat), x])) h'' s.heap.objs.size (.tup [.int (i : Nat), x]) :=
      ⟨by show 2 ≤ sizeLine; decide, [.int i tk, u], .cons ⟨_, rfl⟩ (.cons ru .nil), ⟨_, hT2, rfl, _, rfl⟩⟩
    have I1 : Inv X pins σ (upd H s.heap.objs.size (.tup [.int (i : Nat), x])) { s with heap := h'', toks := tk + 1 } :=
      I.turnedNew (ch := [e, it]) (fun b ob hb q => (sb.2 b (fun z => hb (by simp [z]))).trans (hk b ob (fun z => hb (by simp [z])) (fun z => hb (by simp [z])) q)) hf (Nat.le_refl _) new
    refine ⟨.ref s.heap.objs.size, _, I1, rfl, ⟨_, x, rfl, I.hok.fresh (Nat.le_refl _), rfl, fun ys hy => by rw [I.tuple_inj hy hq]; exact hx⟩, ⟨⟨u, ?_⟩, hit'.1.at fun o q => (sb.2 it (Ne.symm hne)).trans q, hne⟩, fun b hb => ?_⟩
    · have e1 : ((i + 1 : Nat) : Int) = (i : Int) + 1 := by omega
      rw [e1]; exact he'
    · have hb' : b < s.heap.objs.size := by
        have e' : b = e ∨ b = it := by simpa using hb
        rcases e' with z | z
        · rw [z]; exact hel
        · rw [z]; exact hil
      rw [upd_ne (Nat.ne_of_lt hb')]
      exact (hf b hb).1
  done := by
    intro X hP hw hK hc i pins s σ H E I hf st hg
    subst hP hw hK
    obtain ⟨⟨old, he⟩, hit, hne⟩ := st
    obtain ⟨xs, hq, hx⟩ := hg
    obtain ⟨its, rv, p, hz⟩ := I.tuple hq
    have p' : s.heap.IsTuple a its.toArray := p
    obtain ⟨f0, f1, f2, f3, f4, f5⟩ := hf it (by simp)
    have hl := rv.length
    have hT : s.TypeIs (.ref e) "enumerate" := ⟨_, he, rfl⟩
    unfold pyNext
    refine wpAny_bind (wpAny_attempt (wpAny_callSpecial?_slot (name := Str.ofString "__next__") hT F.slot_enumerate_next
      (wpAny_call_entry F.slot_enumerate_next hT F.entry_enumerate_next ?_ (F.args_enumerate_next_1 _))))
    show wpAny _ _ (field (.ref e) 2 >>= _) _ _ _
    refine wpAny_bind (wpAny_field he rfl (x := .ref it) rfl ?_)
    refine wpAny_bind (wpAny_nextOf_tuple_end (by show X.A.handled = none; exact I.ok.hd hc) hit p' (by simp; omega) fun h' x he' hx' => ?_)
    obtain ⟨o, ho, hc⟩ := hx'
    refine wpAny_bind (wpAny_isInstance (T := "StopIteration") (b := true) ⟨o, ho, hc⟩ isSubtype_stop ?_)
    exact wpAny_pure ⟨rfl, I.turned (t' := s.toks) (fun b o hb q => he' b o hb q) f0 f1 f3 f4 f5⟩
  self := fun A i s Q E st h => let ⟨⟨_, he⟩, _⟩ := st; wpAny_pyIter_enum he h
section
variable {X : Cx} {W : WX} {a b c e o : Expr} {pos p : Pos} {we wf wg : WE} {K : PySem.W.Frag} {wa : WO}
def iEnumT (K : PySem.W.Frag) (ta : TA) : TI := fun σ H R => ta σ H fun vs H1 => ∃ a xs, vs = [.ref a] ∧ SqT K H1 a xs ∧ R (Itet K a) H1
theorem pi_enumT {ta : TA} {tpos : Pos} {elts : List Expr} {kk : Nat} (hg : Gl X "enumerate") (hm : X.mg "enumerate" = none) (ha : PA X [e] ta) (hs : starEach [e] X.env = [(false, eval e X.env)] := by rfl) :
    PI X (.Tuple elts kk tpos) (.Call (.Name "enumerate" p) [e] [] pos) (iEnumT X.K ta) := by
  refine ⟨fun pins s σ H R I h => ?_⟩
  refine PyProof.Rows.Call_ (ld_blt I hg hm PyProof.Rows.boot_enumerate (PyProof.Rows.callWith_type1 (thn (ha.run pos pins s σ H _ I h) fun us s1 ⟨vs, H1, I1, r1, q1⟩ => ?_) hs rfl))
  obtain ⟨a, xs, ex, hq, q⟩ := q1
  subst ex
  cases r1 with
  | cons r rr =>
    cases rr
    cases r
    obtain ⟨its, rv, p', hz⟩ := I1.tuple hq
    refine call_enumT (show s1.heap.IsTuple a its.toArray from p') fun h' he hit hsz hk => wpAny_pyIter_enum he ?_
    have I2 : Inv X pins σ H1 { s1 with heap := h' } := I1.kept (t' := s1.toks) hk
    refine ⟨s1.heap.objs.size + 1, [s1.heap.objs.size + 1, s1.heap.objs.size], _, _, H1, rfl, I2, turn_enumT a (s1.heap.objs.size + 1) s1.heap.objs.size, ⟨⟨.none, he⟩, hit, Nat.succ_ne_self _⟩, fun b hb => ?_, q⟩
    have e' : b = s1.heap.objs.size + 1 ∨ b = s1.heap.objs.size := by simpa using hb
    have hle : s1.heap.objs.size ≤ b := by
      rcases e' with z | z
      · rw [z]; exact Nat.le_add_right _ _
      · rw [z]; exact Nat.le_refl _
    exact I1.fpOk hle (I1.hok.fresh hle)
theorem walk_enumT {G F : Hp} {ds : List D} {vs : List V} {q : Addr} (h : SqT K G q vs) (r : Reps K G ds vs) : Walk K G F (enD ds) (Itet K q) where
  go := fun i H s _ hi => by
    have hv : i < vs.length := by rw [r.length, ← enD_length]; exact hi
    exact ⟨vs, vs[i], sameT s h, List.getElem?_eq_getElem hv⟩
  stop := fun i H s _ hi => ⟨vs, sameT s h, by rw [r.length, ← enD_length]; exact hi⟩
  yld := fun i H v H' d G1 s1 s2 _ e y => by
    obtain ⟨T, x, rfl, hT, rfl, y⟩ := y
    rw [enD_get] at e
    cases z : ds[i]? with
    | none =>
      rw [z] at e
      cases e
    | some d0 =>
      rw [z] at e
      cases e
      obtain ⟨v', e', q'⟩ := r.get z
      have z := y vs (sameT (s1.trans s2) h)
      rw [e'] at z
      have z' : v' = x := Option.some.inj z
      subst z'
      have st := Step.one s2 (.tup [.int (i : Nat), v']) hT
      refine ⟨_, st, ?_⟩
      unfold Rep
      exact ⟨T, _, rfl, SqT.of upd_same, Reps.cons rfl (Reps.cons (Rep.mono (s1.trans st.g) _ _ q') Reps.nil)⟩
def iEnT (w : WE) : WI := fun env Q Xp => w env (fun d e => mo (tupOf d) fun ds => Q (enD ds) e) Xp
theorem qi_enumT {elts : List Expr} {kk : Nat} {tpos : Pos} (hm : X.mg "enumerate" = none) (ha : QE X W e we) (hg : Gl X "enumerate" := by rfl) (hs : starEach [e] X.env = [(false, eval e X.env)] := by rfl) (hs2 : starEach [e] X.env = (false, eval e X.env) :: starEach [] X.env := by rfl) :
    QI X W (.Tuple elts kk tpos) (.Call (.Name "enumerate" p) [e] [] pos) (iEnT we) := (pi_enumT hg hm (pa_cons ha pa_nil hs2) hs).le fun σ H R h => by
  obtain ⟨x, G, env, Q', X', r, hw, hn, hx⟩ := h
  refine ⟨x, G, env, _, X', r, imO_mono hw, fun h env' v G' H' s r' q hq => ?_, hx⟩
  obtain ⟨d, rfl, hq⟩ := hq
  obtain ⟨ds, z, hq⟩ := mo_some hq
  rw [tupOf_some z] at q
  have q' : Rep X.K G' (.tup ds) v := q
  unfold Rep at q'
  obtain ⟨b, vs, rfl, q1, q2⟩ := q'
  exact ⟨b, vs, rfl, sameT r'.sG q1, hn _ env' G' H' _ s r' (walk_enumT q1 q2) hq⟩
/-- a list or a tuple, whichever it is -/
theorem _root_.L2.PI.or {tg iter : Expr} {t t' : TI} (h : PI X tg iter t) (h' : PI X tg iter t') : PI X tg iter (fun σ H R => t σ H R ∨ t' σ H R) := ⟨fun pins s σ H R I hw => hw.elim (h.run pins s σ H R I) (h'.run pins s σ H R I)⟩
/-- list(range(n)) -/
def wLR (w : WE) : WE := fun env Q Xp => w env (fun d e => mo (intOf d) fun n => (0 ≤ n ∧ n ≤ 1000000) ∧ Q (.lst (rgD 0 n.toNat)) e) Xp
/-! ### owned dicts -/
def keyOf : D → Option Key
  | .int i => some (.inl i)
  | .str x => some (.inr x)
  | _ => none
def dicOf : D → Option (List Key × List D)
  | .dic ks ds => some (ks, ds)
  | _ => none
def dval (ks : List Key) (ds : List D) (k : Key) : Option D := ((ks.zip ds).find? fun kv => decide (kv.1 = k)).map (·.2)
def dput (ks : List Key) (ds : List D) (k : Key) (d : D) : List Key × List D := if (ks.any fun a => decide (a = k)) = true then (ks, (ks.zip ds).map fun q => if q.1 = k then d else q.2) else (ks ++ [k], ds ++ [d])
def wDic0 : WE := fun env Q _ => Q (.dic [] []) env
theorem qf_dic0 : QF X W (.Dict [] [] pos) wDic0 := pe_dnewK.le fun σ H Q h => by
  obtain ⟨x, G, env, Q', X', r, hw, hn, hx⟩ := h
  intro p hp
  obtain ⟨f1, f2, f3⟩ := fresh_F r hp
  exact hn (.dic [] []) env p _ G _ (.refl _) (r.step (Step.junk r.sG _ hp)) upd_same ⟨[], rfl, rfl, Reps.nil⟩ f2 f1 f3 hw
/-- d.get(k, x), d an owned dict -/
def oGet2 (i : Nat) (wk wx : WE) : WE := fun env Q Xp => mo (owAt env i) fun o0 => mo (dicOf o0) fun _ => wk env (fun dk e1 => wx e1 (fun dx e2 => mo (owAt e2 i) fun o => mo (dicOf o) fun q => mo (keyOf dk) fun k => Q ((dval q.1 q.2 k).getD dx) e2) Xp) Xp
/-- d[k], d an owned dict -/
def oGet (i : Nat) (wk : WE) : WE := fun env Q Xp => mo (owAt env i) fun o0 => mo (dicOf o0) fun _ => wk env (fun dk e1 => mo (owAt e1 i) fun o => mo (dicOf o) fun q => mo (keyOf dk) fun k => mo (dval q.1 q.2 k) fun d => Q d e1) Xp
/-- d[k] = e, d an owned dict -/
def sDPutD (i : Nat) (wk we : WE) : WS := fun env E => we env (fun d e1 => mo (owAt e1 i) fun o0 => mo (dicOf o0) fun _ => wk e1 (fun dk e2 => mo (owAt e2 i) fun o => mo (dicOf o) fun q => mo (keyOf dk) fun k => q.1.length < 1000000 ∧ E.nx (putOw e2 i (.dic (dput q.1 q.2 k d).1 (dput q.1 q.2 k d).2))) E.xc) E.xc
end
end TL

namespace TL
open PySem PySem.Spec L2
/-! ### small things -/
section
variable {X : Cx} {W : WX} {pos : Pos}
theorem qe_globI {n : Str} {i : Int} (hm : ∃ t, X.mg n = some (.int i t)) (hg : Gl X n := by rfl) (hd : (n == ("__debug__" : Str)) = false := by decide) : QE X W (.Name n pos) (wC (.int i)) := by
  obtain ⟨t, hm⟩ := hm
  exact qe_glob (v := .int i) hg hm ⟨t, rfl⟩ (fun _ => rfl) hd
theorem qe_globS {n : Str} {i : Str} (hm : ∃ t, X.mg n = some (.str i t)) (hg : Gl X n := by rfl) (hd : (n == ("__debug__" : Str)) = false := by decide) : QE X W (.Name n pos) (wC (.str i)) := by
  obtain ⟨t, hm⟩ := hm
  exact qe_glob (v := .str i) hg hm ⟨t, rfl⟩ (fun _ => rfl) hd
end
/-! ### the head: facts by names, and one Bool more -/
def obsX (n : Nat) (fa : List He.Fa) (fn : List He.DefD) (ex : PySem.W.Frag → Bool) (g : Addr → Option Obj) : AlX := (He.obsD fa fn (He.frG g (He.asD g n)), ex (He.frG g (He.asD g n)))
def hookX (n : Nat) (fa : List He.Fa) (fn : List He.DefD) (ex : PySem.W.Frag → Bool) : PySem.W.Hook where
  α := AlX
  obs := fun s => obsX n fa fn ex s.heap.get?
  val := fun _ => (He.valD fn, true)
  says := fun _ h => ∃ K : PySem.W.Frag, K.In h ∧ SaysX fa fn ex K
  of := fun _ _ e => ⟨_, He.frG_in, ⟨congrArg Prod.fst e, congrArg Prod.snd e⟩⟩
  keeps := fun _ _ _ ⟨K, hK, c⟩ k => ⟨K, PySem.W.Frag.In.keeps hK k, c⟩
/-- the law's promise -/
def T_law : SpT := fun sl R => ∃ ns : List Int, ns.length ≤ 63 ∧ sl = [.im (.lst (ns.map D.int))] ∧ ∀ sl', R.rt (.bl true) sl'
theorem law_sp {K : PySem.W.Frag} {H : Hp} {a : Addr} {ns : List Int} (hl : ns.length ≤ 63) (hS : SqL K H a (ns.map V.int)) : spT K T_law [.ref a] H (fun v _ => v = .bl true) fun _ _ _ => False := by
  refine ⟨⟨fun _ => none, fun _ => none⟩, H, [.im (.lst (ns.map D.int))], ⟨fun d _ => d = .bl true, fun _ _ => False, fun _ _ => False⟩, ⟨⟨rfl, .refl _, fun a o e => (by cases e), fun a o e => (by cases e), fun i d h => ?_, fun i b d h => ?_, fun i j b c d e p h1 => ?_, fun i p h => (by cases h)⟩, fun i b d h => ?_⟩, ⟨ns, hl, rfl, fun _ => rfl⟩, fun d sl' v G' H' s r q h => ?_, fun d sl' p o G' H' s r _ _ _ _ _ h => h.elim, fun e sl' cls dd G' H' s r x h => h.elim⟩
  · cases i with
    | zero =>
      cases h
      refine ⟨.ref a, rfl, ?_⟩
      unfold Rep
      exact ⟨a, _, rfl, hS, Reps.of_ints⟩
    | succ i => simp at h
  · cases i with
    | zero => cases h
    | succ i => simp at h
  · cases i with
    | zero => cases h1
    | succ i => simp at h1
  · cases i with
    | zero => cases h
    | succ i => simp at h
  · have h' : d = .bl true := h
    rw [h'] at q
    exact q
theorem cx_false {P : Program} {w : World} (H : Hp) (s : Shared) (e : Value) (s' : Shared) (h : L2.CX P w [] H s (fun _ _ _ => False) e s') : False := by
  obtain ⟨_, _, _, _, _, _, _, _, _, _, _, _, z⟩ := h
  exact z
end TL

namespace TL
open PySem PySem.Spec L2
/-! ### plain laws of the readings -/
/-- a slot that is no root -/
def nrS (s : Sl) : Bool := nr [s] 0
def lcB (tu : Bool) (is : List Nat) (wt : WT) (we : WE) (Q : D → Ev → Prop) (ds : List D) (e0 : Ev) : Prop := nrs e0 is = true ∧ ∃ I : Nat → List D → Ev → Prop, I 0 [] (noE e0 is) ∧
  (∀ (k : Nat) d acc e, ds[k]? = some d → I k acc e → nrs e is = true ∧ mo (tOne tu 0 d) fun vs => vs.length = is.length ∧ wt (setE e is vs) (fun b e2 => if b = true then we e2 (fun y e3 => nrs e3 is = true ∧ acc.length < 1000000 ∧ I (k + 1) (acc ++ [y]) (noE e3 is)) (fun _ _ => False)
    else nrs e2 is = true ∧ I (k + 1) acc (noE e2 is)) (fun _ _ => False)) ∧ ∀ acc e, I ds.length acc e → Q (.lst acc) e
theorem eqD_int {i j : Int} : eqD (.int i) (.int j) = decide (i = j) := by
  unfold eqD pd
  first | rfl | (simp [PyData.eqv]) | skip
theorem eqD_nil {ds : List D} : eqD (.lst ds) (.lst []) = ds.isEmpty := by
  unfold eqD pd
  cases ds <;> first | rfl | (simp [PyData.eqv, pds]) | skip
theorem atI_of {α : Type} {ds : List α} {i : Int} {n : Nat} {d : α} (hi : i = n) (h : ds[n]? = some d) : atI ds i = some d := by
  have hn : n < ds.length := (List.getElem?_eq_some_iff.mp h).1
  subst hi
  unfold atI ixN
  rw [if_pos (by omega), if_pos (by omega)]
  exact h
end TL

namespace TL
open PySem PySem.Spec L2
/-! ### the rows, plain -/
inductive Mb where
  | last (q : Int) | first (q : Int) | limit (q : Int) | delay (q : Int)
  deriving DecidableEq
def zat (ts : List Int) (i : Nat) : Int := ts.getD i 0
def nat' (ns : List Nat) (i : Nat) : Nat := ns.getD i 0
def keptL (q : Int) (ts : List Int) : List Nat := (List.range ts.length).filter fun i => decide (i + 1 = ts.length) || decide (q ≤ zat ts (i + 1) - zat ts i)
def keptF (q : Int) (ts : List Int) : List Nat := (List.range ts.length).filter fun i => decide (i = 0) || decide (q ≤ zat ts i - zat ts (i - 1))
def limS (q : Int) (ts : List Int) (fo : List Nat) (i : Nat) : List Nat := if (fo.isEmpty || decide (q ≤ zat ts i - zat ts (fo.getLast?.getD 0))) = true then fo ++ [i] else fo
def limN (q : Int) (ts : List Int) (n : Nat) : List Nat := (List.range n).foldl (limS q ts) []
def Mb.kept : Mb → List Int → List Nat
  | .last q, ts => keptL q ts
  | .first q, ts => keptF q ts
  | .limit q, ts => limN q ts ts.length
  | .delay _, ts => List.range ts.length
def Mb.waits : Mb → Int
  | .last q => q
  | .first _ => 0
  | .limit _ => 0
  | .delay q => q
def Mb.ok : Mb → Bool
  | .last q => decide (1 ≤ q)
  | .first q => decide (1 ≤ q)
  | .limit q => decide (1 ≤ q)
  | .delay q => decide (0 ≤ q)
def Mb.tree : Mb → D
  | .last q => .ins "Last" ["q"] [.int q]
  | .first q => .ins "First" ["q"] [.int q]
  | .limit q => .ins "Limit" ["q"] [.int q]
  | .delay q => .ins "Delay" ["d"] [.int q]
def Mb.isLast : Mb → Bool
  | .last _ => true
  | _ => false
def zD (ts : List Int) : D := .lst (ts.map D.int)
def nD (ns : List Nat) : D := .lst (ns.map fun n => D.int (n : Nat))
theorem nat_get {ts : List Nat} {i : Nat} (h : i < ts.length) : ts[i]? = some (nat' ts i) := by
  unfold nat'
  rw [List.getD_eq_getElem?_getD, List.getElem?_eq_getElem h]
  rfl
theorem limN_succ {q : Int} {ts : List Int} {n : Nat} : limN q ts (n + 1) = limS q ts (limN q ts n) n := by
  unfold limN
  rw [List.range_succ, List.foldl_append]
  rfl
theorem lim_mem {q : Int} {ts : List Int} : ∀ {n i : Nat}, i ∈ limN q ts n → i < n
  | 0, i, h => by cases h
  | n + 1, i, h => by
    rw [limN_succ] at h
    unfold limS at h
    split at h
    · rcases List.mem_append.mp h with h | h
      · have := lim_mem h
        omega
      · rw [List.mem_singleton] at h
        omega
    · have := lim_mem h
      omega
theorem lim_asc {q : Int} {ts : List Int} : ∀ {n : Nat}, (limN q ts n).Pairwise (· < ·)
  | 0 => .nil
  | n + 1 => by
    rw [limN_succ]
    unfold limS
    split
    · exact List.pairwise_append.mpr ⟨lim_asc, List.pairwise_singleton _ _, fun a ha b hb => by
        rw [List.mem_singleton] at hb
        have := lim_mem ha
        omega⟩
    · exact lim_asc
theorem lim_zero {q : Int} {ts : List Int} : ∀ {n : Nat}, 0 < n → 0 ∈ limN q ts n
  | 0, h => by omega
  | 1, _ => List.mem_singleton.mpr rfl
  | n + 2, _ => by
    have h := lim_zero (q := q) (ts := ts) (n := n + 1) (by omega)
    rw [limN_succ]
    unfold limS
    split
    · exact List.mem_append_left _ h
    · exact h
theorem range_asc (n : Nat) : (List.range n).Pairwise (· < ·) := List.pairwise_lt_range
/-- what every member's kept gives -/
structure KOk (m : Mb) (n : Nat) (ks : List Nat) : Prop where
  asc : ks.Pairwise (· < ·)
  lt : ∀ k ∈ ks, k < n
  la : m.isLast = true → 0 < n → n - 1 ∈ ks
  fi : m.isLast = false → 0 < n → 0 ∈ ks
theorem Mb.kept_ok (m : Mb) (ts : List Int) : KOk m ts.length (m.kept ts) := by
  cases m with
  | last q =>
    refine ⟨(range_asc _).filter _, fun k h => List.mem_range.mp (List.mem_filter.mp h).1, fun _ h => List.mem_filter.mpr ⟨List.mem_range.mpr (by omega), ?_⟩, fun h => by cases h⟩
    rw [decide_eq_true (by omega), Bool.true_or]
  | first q =>
    refine ⟨(range_asc _).filter _, fun k h => List.mem_range.mp (List.mem_filter.mp h).1, fun h => (by cases h), fun _ h => List.mem_filter.mpr ⟨List.mem_range.mpr h, ?_⟩⟩
    rw [decide_eq_true rfl, Bool.true_or]
  | limit q => exact ⟨lim_asc, fun k h => lim_mem h, fun h => (by cases h), fun _ h => lim_zero h⟩
  | delay q => exact ⟨range_asc _, fun k h => List.mem_range.mp h, fun h => (by cases h), fun _ h => List.mem_range.mpr h⟩
/-! counting in ascending lists -/
def cntL (l : List Nat) (x : Nat) : Nat := (l.filter fun k => decide (k < x)).length
theorem cntL_zero (l : List Nat) : cntL l 0 = 0 := by
  unfold cntL
  rw [List.filter_eq_nil_iff.mpr (fun a _ => by simp)]
  rfl
theorem cntL_le (l : List Nat) (x : Nat) : cntL l x ≤ l.length := List.length_filter_le _ _
theorem cntL_low {l : List Nat} {a x : Nat} (h : ∀ k ∈ l, a < k) (hx : x ≤ a + 1) : cntL l x = 0 := by
  unfold cntL
  rw [List.filter_eq_nil_iff.mpr (fun k hk => by have := h k hk; simp; omega)]
  rfl
theorem cntL_cons {a x : Nat} {l : List Nat} : cntL (a :: l) x = (if a < x then 1 else 0) + cntL l x := by
  unfold cntL
  by_cases h : a < x
  · rw [List.filter_cons_of_pos (by simpa using h), if_pos h, List.length_cons]
    omega
  · rw [List.filter_cons_of_neg (by simpa using h), if_neg h]
    omega
theorem cnt_get : ∀ {l : List Nat}, l.Pairwise (· < ·) → ∀ {j v : Nat}, l[j]? = some v → cntL l v = j
  | [], _, j, v, h => by simp at h
  | a :: l, p, j, v, h => by
    obtain ⟨p1, p2⟩ := List.pairwise_cons.mp p
    rw [cntL_cons]
    cases j with
    | zero =>
      cases h
      rw [if_neg (by omega), cntL_low p1 (by omega)]
    | succ j =>
      have h' : l[j]? = some v := h
      have := p1 v (List.mem_of_getElem? h')
      rw [if_pos this, cnt_get p2 h']
      omega
theorem cntL_succ : ∀ {l : List Nat}, l.Pairwise (· < ·) → ∀ {x : Nat}, cntL l (x + 1) = cntL l x + if x ∈ l then 1 else 0
  | [], _, x => rfl
  | a :: l, p, x => by
    obtain ⟨p1, p2⟩ := List.pairwise_cons.mp p
    rw [cntL_cons, cntL_cons, cntL_succ p2]
    by_cases z : a < x
    · rw [if_pos z, if_pos (by omega)]
      by_cases y : x ∈ l
      · rw [if_pos y, if_pos (List.mem_cons_of_mem _ y)]
        omega
      · rw [if_neg y, if_neg (by intro q; rcases List.mem_cons.mp q with q | q; omega; exact y q)]
        omega
    · rw [if_neg z]
      by_cases w : a = x
      · subst w
        have : a ∉ l := fun q => by have := p1 a q; omega
        rw [if_pos (by omega), if_neg this, if_pos List.mem_cons_self]
        omega
      · rw [if_neg (by omega)]
        have : x ∉ l := fun q => by have := p1 x q; omega
        rw [if_neg this, if_neg (by intro q; rcases List.mem_cons.mp q with q | q; omega; exact this q)]
        omega
theorem cntL_lt {l : List Nat} {x v : Nat} (h : v ∈ l) (hx : x ≤ v) : cntL l x < l.length := by
  unfold cntL
  exact List.length_filter_lt_length_iff_exists.mpr ⟨v, h, by simp; omega⟩
/-- the speaker's place -/
def plc (m : Mb) (ks : List Nat) (at_ : Nat) : Nat := if m.isLast = true then cntL ks at_ else cntL ks (at_ + 1) - 1
theorem plc_at {m : Mb} {n : Nat} {ks : List Nat} (o : KOk m n ks) {j v : Nat} (h : ks[j]? = some v) : plc m ks v = j := by
  unfold plc
  have hv := List.mem_of_getElem? h
  split
  · exact cnt_get o.asc h
  · rw [cntL_succ o.asc, cnt_get o.asc h, if_pos hv]
    omega
theorem plc_lt {m : Mb} {n : Nat} {ks : List Nat} (o : KOk m n ks) {a : Nat} (h : a < n) : plc m ks a < ks.length := by
  unfold plc
  cases z : m.isLast with
  | true =>
    rw [if_pos rfl]
    exact cntL_lt (o.la z (by omega)) (by omega)
  | false =>
    rw [if_neg (by simp)]
    have h0 := o.fi z (by omega)
    have : 0 < ks.length := List.length_pos_of_mem h0
    have := cntL_le ks (a + 1)
    omega
end TL

namespace TL
open PySem PySem.Spec L2
/-! ### rows, plain: kept numbers, told events -/
def late (ms : List Mb) : Int := (ms.map Mb.waits).sum
def rowD (ms : List Mb) : D := .ins "Row" ["members"] [.tup (ms.map Mb.tree)]
def kstep (ts : List Int) (ns : List Nat) (m : Mb) : List Nat := (m.kept (ns.map (zat ts))).map (nat' ns)
def kn (ms : List Mb) (ts : List Int) : List Nat := ms.foldl (kstep ts) (List.range ts.length)
def estep (ts : List Int) (p : List Nat × List Nat) (m : Mb) : List Nat × List Nat := (kstep ts p.1 m, p.2.map (plc m (m.kept (p.1.map (zat ts)))))
def ev (ms : List Mb) (ts : List Int) : List Nat × List Nat := ms.foldl (estep ts) (List.range ts.length, List.range ts.length)
/-- what stands between the turns -/
structure EvOk (n : Nat) (p : List Nat × List Nat) : Prop where
  len : p.1.length ≤ n
  lt : ∀ x ∈ p.1, x < n
  vlen : p.2.length = n
  vlt : ∀ v ∈ p.2, v < p.1.length
  onto : ∀ (j v : Nat), p.1[j]? = some v → p.2[v]? = some j
theorem EvOk.init (n : Nat) : EvOk n (List.range n, List.range n) := by
  refine ⟨?_, fun x h => List.mem_range.mp h, List.length_range, fun v h => ?_, fun j v h => ?_⟩
  · show (List.range n).length ≤ n
    rw [List.length_range]
    exact Nat.le_refl _
  · show v < (List.range n).length
    rw [List.length_range]
    exact List.mem_range.mp h
  · have h' : (List.range n)[j]? = some v := h
    have hj := (List.getElem?_eq_some_iff.mp h').1
    rw [List.length_range] at hj
    rw [List.getElem?_range hj] at h'
    cases h'
    exact List.getElem?_range hj
theorem asc_len {l : List Nat} {n : Nat} (h : l.Pairwise (· < ·)) (hl : ∀ x ∈ l, x < n) : l.length ≤ n := by
  rcases Nat.eq_zero_or_pos l.length with z | z
  · omega
  · have hg : l[l.length - 1]? = some (nat' l (l.length - 1)) := nat_get (by omega)
    have hc := cnt_get h hg
    have h2 := hl _ (List.mem_of_getElem? hg)
    have : ∀ (x : Nat) (l : List Nat), l.Pairwise (· < ·) → cntL l x ≤ x := fun x l hp => by
      induction x with
      | zero =>
        rw [cntL_zero]
        exact Nat.le_refl _
      | succ x ih =>
        rw [cntL_succ hp]
        split <;> omega
    have := this (nat' l (l.length - 1)) l h
    omega
theorem EvOk.step {ts : List Int} {p : List Nat × List Nat} (o : EvOk ts.length p) (m : Mb) : EvOk ts.length (estep ts p m) := by
  have ko := m.kept_ok (p.1.map (zat ts))
  rw [List.length_map] at ko
  have kl := asc_len ko.asc ko.lt
  have e1 : (estep ts p m).1 = (m.kept (p.1.map (zat ts))).map (nat' p.1) := rfl
  have e2 : (estep ts p m).2 = p.2.map (plc m (m.kept (p.1.map (zat ts)))) := rfl
  refine ⟨?_, fun x h => ?_, ?_, fun v h => ?_, fun j v h => ?_⟩
  · rw [e1, List.length_map]
    have := o.len
    omega
  · rw [e1] at h
    obtain ⟨k, hk, rfl⟩ := List.mem_map.mp h
    exact o.lt _ (List.mem_of_getElem? (nat_get (ko.lt k hk)))
  · rw [e2, List.length_map]
    exact o.vlen
  · rw [e2] at h
    rw [e1, List.length_map]
    obtain ⟨u, hu, rfl⟩ := List.mem_map.mp h
    exact plc_lt ko (o.vlt u hu)
  · rw [e1, List.getElem?_map] at h
    rw [e2, List.getElem?_map]
    cases z : (m.kept (p.1.map (zat ts)))[j]? with
    | none =>
      rw [z] at h
      cases h
    | some k =>
      rw [z] at h
      have hv : nat' p.1 k = v := Option.some.inj h
      have hk := ko.lt k (List.mem_of_getElem? z)
      have := o.onto k v (by rw [← hv]; exact nat_get hk)
      rw [this]
      show some (plc m _ k) = some j
      rw [plc_at ko z]
/-! first and last of each voice -/
def fiI (vs : List Nat) (k v : Nat) : Option Nat := (List.range k).find? fun i => decide (nat' vs i = v)
def laI (vs : List Nat) : Nat → Nat → Option Nat
  | 0, _ => none
  | k + 1, v => if nat' vs k = v then some k else laI vs k v
def toldD (n : Nat) (t : Int) (f l : Nat) : D := .ins "Told" ["number", "time", "first", "last"] [.int (n : Nat), .int t, .int (f : Nat), .int (l : Nat)]
def tellK (ms : List Mb) (ts : List Int) (k : Nat) : D :=
  toldD (nat' (ev ms ts).1 k) (zat ts (nat' (ev ms ts).1 k) + late ms) ((fiI (ev ms ts).2 ts.length k).getD 0) ((laI (ev ms ts).2 ts.length k).getD 0)
def tell (ms : List Mb) (ts : List Int) : List D := (List.range (ev ms ts).1.length).map (tellK ms ts)
/-! dicts -/
end TL

namespace TL
open PySem PySem.Spec L2
/-! ### scaling -/
def scI (s q : Int) : Int := if q = 1 then s else q * s
def Mb.sc (s : Int) : Mb → Mb
  | .last q => .last (scI s q)
  | .first q => .first (scI s q)
  | .limit q => .limit (scI s q)
  | .delay q => .delay (scI s q)
def scT (b s : Int) (ts : List Int) : List Int := ts.map fun p => b + s * p
section
variable {b s : Int} (hs : 0 < s)
include hs
end
end TL

namespace TL
open PySem PySem.Spec L2
/-! ### try, except -/
def xiOf (xt : List XI) (c : Str) : Option XI := xt.find? fun k => k.name == c
theorem xiOf_some {xt : List XI} {c : Str} {k : XI} (h : xiOf xt c = some k) : k ∈ xt ∧ k.name = c := by
  unfold xiOf at h
  exact ⟨List.mem_of_find?_eq_some h, by simpa using List.find?_some h⟩
structure XM (K : PySem.W.Frag) (xt : List XI) (hs : List Str) (xf : List (Str × Str)) : Prop where
  m : ∀ k ∈ xt, ∀ h ∈ hs, PySem.W.exmOne K (.ref (He.ga K k.name)) (.ref (He.ga K h)) = some (k.anc.contains h)
  f : ∀ q ∈ xf, XfC K (He.ga K q.1) ∧ PySem.W.findIn K (.ref (He.ga K q.1)) q.2 = some none
theorem xmB_ok {K : PySem.W.Frag} {xt : List XI} {hs : List Str} {xf : List (Str × Str)} (h : xmB K xt hs xf = true) : XM K xt hs xf := by
  unfold xmB at h
  rw [Bool.and_eq_true] at h
  refine ⟨fun k hk c hc => ?_, fun q hq => ?_⟩
  · exact of_decide_eq_true (List.all_eq_true.mp (List.all_eq_true.mp h.1 k hk) c hc)
  · have := List.all_eq_true.mp h.2 q hq
    rw [Bool.and_eq_true] at this
    exact ⟨xfB_ok this.1, of_decide_eq_true this.2⟩
section
variable {X : Cx} {W Wout : WX} {K : PySem.W.Frag} {xt : List XI} {hs : List Str} {xf : List (Str × Str)} {wb : WS} {ws : Addr → Str → Option Addr → WS} {i : Nat} {h x n : Str} {np pos pos' : Pos} {body suite : List Stmt} {b₀ : Stmt}
/-- behind the clause the name is gone -/
def asEn (i : Nat) (E : En) : En := { nx := fun e => nr e i = true ∧ E.nx (e.set i .no), rt := E.rt, bk := fun e => nr e i = true ∧ E.bk (e.set i .no), ct := fun e => nr e i = true ∧ E.ct (e.set i .no) }
def sTryAs (xt : List XI) (h : Str) (i : Nat) (wb : WS) (ws : Addr → Str → Option Addr → WS) : WS := fun env E => wb env { E with xc := fun x e => mo (xiOf xt x.c) fun k => if (k.anc.contains h) = true then nr e i = true ∧ ∀ a dd, ws a x.c dd (e.set i (.im (.exc a dd x.ns x.ds))) (asEn i E) else E.xc x e }
def sTryO (xt : List XI) (h : Str) (wb : WS) (ws : WS) : WS := fun env E => wb env { E with xc := fun x e => mo (xiOf xt x.c) fun k => if (k.anc.contains h) = true then ws e { nx := E.nx, rt := E.rt, bk := E.bk, ct := E.ct } else E.xc x e }
/-- e.f, e the caught exception -/
def wXf (xf : List (Str × Str)) (a : Addr) (c : Str) (dd : Option Addr) (f : Str) (i : Nat) : WE := fun env Q _ => mo (imAt env i) fun t => match t with
  | .exc a' dd' ns ds => a' = a ∧ dd' = dd ∧ xf.contains (c, f) = true ∧ mo ((ns.zip ds).lookup f) fun d => Q d env
  | _ => False
theorem qe_xf (i : Nat) {a : Addr} {oe : Obj} {c f : Str} {d : Option Addr} {pn : List (Addr × Obj)} (M : XM X.K xt hs xf) (hz : L2.Zc (.ref (He.ga X.K c)) d oe) (hv : ∃ vs, oe.data = .fields vs) (hN : X.N[i]? = some n := by rfl)
    (hvs : Vis X.env.scope n := by first | exact Or.inl rfl | exact Or.inr (Or.inl rfl) | exact Or.inr (Or.inr rfl)) (hd : (n == ("__debug__" : Str)) = false := by decide) (hcd : (n == ("__classdict__" : Str)) = false := by decide)
    (hb : attributeBase (.Name n np) f X.env (eval (.Name n np) X.env) = eval (.Name n np) X.env := by rfl) :
    QE (X.suite a ((a, oe) :: pn)) W (.Attribute (.Name n np) f pos) (wXf xf a c d f i) := by
  refine ⟨fun pins s σ H Q I hw => ?_⟩
  obtain ⟨fx, G, env, Q', X', r, hw, hn, hx⟩ := hw
  obtain ⟨t, t1, t2⟩ := mo_some hw
  cases t with
  | exc a' dd' ns ds =>
    obtain ⟨rfl, rfl, t3, t4⟩ := t2
    obtain ⟨y, y1, y2⟩ := mo_some t4
    have hm : env[i]? = some (.im (.exc a' dd' ns ds)) := imAt_some t1
    obtain ⟨v, v1, v2⟩ := r.im i _ hm
    unfold Rep at v2
    obtain ⟨v3, v4⟩ := v2
    obtain ⟨T1, T2⟩ := M.f (c, f) (by simpa using t3)
    rcases v4 with ⟨_, z2, z3⟩ | ⟨p, vs, z1, z2, z3, z4⟩
    · rw [z2] at y1
      cases y1
    · obtain ⟨u, u1, u2⟩ := zip_look z4 y1
      refine (L2.pe_xf (X := X) (te := tVar i) T1 T2 hz hv (pe_var (X := X.suite a' ((a', oe) :: pn)) hN hvs hd hcd) hb).run pins s σ H Q I ⟨v, v1, v3, rfl, p, _, u, z1, r.sG _ _ z2, u1, ?_⟩
      exact hn (.im y) env u G H (.refl _) r u2 y2
  | _ => exact t2.elim
end
/-! ### own exception classes: what is asked of the head -/
section
open PySem.W PySem.Calls PyProof.Rows PySem.HandSPX
theorem exclB_ok {K : PySem.W.Frag} {C : Addr} (h : exclB K C = true) : ∃ nm q N bs bm sn sub ab col dd k0 k1 k2 k3 k5, K.lookup C = some (excClassObj nm q C N bs bm true sn sub ab col dd k0 k1 k2 k3 k5 "ValueError.__new__") ∧ PySem.HandSPX.refsVE bm = true := by
  unfold exclB at h
  split at h
  · rename_i c dd cd sl hl
    obtain ⟨h1, ha⟩ := He.ba h
    obtain ⟨h2, hb⟩ := He.ba ha
    obtain ⟨h3, hc⟩ := He.ba hb
    obtain ⟨h4, h5⟩ := He.ba hc
    clear h ha hb hc
    have h1 := of_decide_eq_true h1
    obtain ⟨nm, bs, mro, N, q, hd, sn, sub, ab, col, del⟩ := cd
    dsimp only at h2 h3 h4
    have h3 : del = false := by simpa using h3
    subst h1 h2 h3
    split at h4
    · rename_i m bm
      obtain ⟨h4, h6⟩ := He.ba h4
      have h4 := of_decide_eq_true h4
      subst h4
      obtain ⟨sl⟩ := sl
      split at h5
      · rename_i k0 k1 k2 k3 k4 k5 hs
        have hs : sl = _ := hs
        have h5 := of_decide_eq_true h5
        subst hs h5
        exact ⟨nm, q, N, bs, bm, sn, sub, ab, col, dd, k0, k1, k2, k3, k5, hl, h6⟩
      · cases h5
    · cases h4
  · cases h
end
end TL

namespace TL
open PySem PySem.Spec L2
/-! ### a new list times an int; a list or a tuple gone through -/
section
variable {X : Cx} {W : WX} {a b e : Expr} {pos p : Pos} {we wf : WE} {K : PySem.W.Frag}
def wRep (wa wb : WE) : WE := fun env Q Xp => wa env (fun d e1 => wb e1 (fun d' e2 => mo (lstOf d) fun ds => mo (intOf d') fun k => (-1000000 ≤ k ∧ k ≤ 1000000 ∧ ds.length * k.toNat ≤ 1000000) ∧ Q (.lst (List.replicate k.toNat ds).flatten) e2) Xp) Xp
theorem Reps.rep {G : Hp} {ds : List D} {vs : List V} (h : Reps K G ds vs) : ∀ n : Nat, Reps K G (List.replicate n ds).flatten (List.replicate n vs).flatten
  | 0 => Reps.nil
  | n + 1 => by
    rw [List.replicate_succ, List.replicate_succ, List.flatten_cons, List.flatten_cons]
    exact Reps.append h (Reps.rep h n)
/-- over what a name has: a list or a tuple -/
def iSeqV (i : Nat) : WI := fun env Q _ => mo (imAt env i) fun d => mo (seqOf d) fun ds => Q ds env
def iEnV (i : Nat) : WI := fun env Q _ => mo (imAt env i) fun d => mo (seqOf d) fun ds => Q (enD ds) env
end
end TL

namespace TL
open PySem PySem.Spec L2
/-! ### max, min -/
section
variable {X : Cx} {W : WX} {a b c e e2 : Expr} {pos p : Pos} {wa wb wc : WO} {we wf : WE} {K : PySem.W.Frag}
def kMax : List D → (D → Prop) → Prop := fun ds P => mo (one ds) fun d => mo (lstOf d) fun xs => mo (intsOf xs) fun ns => 0 < ns.length ∧ ∀ m, m ∈ ns → (∀ y, y ∈ ns → y ≤ m) → P (.int m)
def kMin : List D → (D → Prop) → Prop := fun ds P => mo (one ds) fun d => mo (lstOf d) fun xs => mo (intsOf xs) fun ns => 0 < ns.length ∧ ∀ m, m ∈ ns → (∀ y, y ∈ ns → m ≤ y) → P (.int m)
def kMax2 : List D → (D → Prop) → Prop := fun ds P => mo (two ds) fun q => mo (intOf q.1) fun i => mo (intOf q.2) fun j => P (.int (if j > i then j else i))
def kMin2 : List D → (D → Prop) → Prop := fun ds P => mo (two ds) fun q => mo (intOf q.1) fun i => mo (intOf q.2) fun j => P (.int (if j < i then j else i))
/-! ### a < b < c of ints -/
def wChain (k k' : D → D → (D → Prop) → Prop) (wa wb wc : WO) : WE := fun env Q X => wa env (fun h1 e1 => wb e1 (fun h2 e2 => mo (hv e2 h1) fun d1 => mo (hv e2 h2) fun d2 => k d1 d2 fun z => mo (blOf z) fun t => if t = true then wc e2 (fun h3 e3 => mo (hv e3 h2) fun d2' => mo (hv e3 h3) fun d3 => k' d2' d3 fun d => Q d e3) X else Q (.bl false) e2) X) X
theorem l_chain {r r' : R2} {k k' : D → D → (D → Prop) → Prop} (hk : Sem2 K r k) (hk' : Sem2 K r' k') (σ : St) (H : Hp) (Q : VK) (h : lO K W (imO (wChain k k' wa wb wc)) σ H Q) : tChain r r' (lO K W wa) (lO K W wb) (lO K W wc) σ H Q := by
  obtain ⟨x, G, env, Q', X', r0, hw, hn, hx⟩ := h
  refine ⟨x, G, env, _, X', r0, hw, fun h1 e1 v1 G1 H1 s1 r1 q1 hw1 => ⟨x, G1, e1, _, X', r1, hw1, fun h2 e2 v2 G2 H2 s2 r2 q2 hw2 => ?_, hx.up s1⟩, hx⟩
  obtain ⟨d1, y1, hw2⟩ := mo_some hw2
  obtain ⟨d2, y2, kk⟩ := mo_some hw2
  refine hk G2 H2 d1 d2 v1 v2 _ _ r2.sG ((q1.mono s2).read r2 y1) (q2.read r2 y2) kk fun d' v' G' H' st rp hp => ?_
  obtain ⟨t, y3, hp⟩ := mo_some hp
  rw [blOf_some y3] at rp
  have e : v' = .bl t := rp
  refine ⟨t, e, ?_⟩
  cases t with
  | false =>
    rw [if_neg Bool.false_ne_true] at hp ⊢
    exact hn (.im (.bl false)) e2 _ G' H' ((s1.trans s2).trans st.g) (r2.step st) rfl hp
  | true =>
    rw [if_pos rfl] at hp ⊢
    refine ⟨x, G', e2, _, X', r2.step st, hp, fun h3 e3 v3 G3 H3 s3 r3 q3 hw3 => ?_, hx.up ((s1.trans s2).trans st.g)⟩
    obtain ⟨d2', y4, hw3⟩ := mo_some hw3
    obtain ⟨d3, y5, kk3⟩ := mo_some hw3
    exact hk' G3 H3 d2' d3 v2 v3 _ Q r3.sG (((q2.mono st.g).mono s3).read r3 y4) (q3.read r3 y5) kk3 fun d4 v4 G4 H4 st4 rp4 hp4 => hn (.im d4) e3 v4 G4 H4 ((((s1.trans s2).trans st.g).trans s3).trans st4.g) (r3.step st4) rp4 hp4
theorem qt_chain {op op' : CmpOp} {r r' : R2} {k k' : D → D → (D → Prop) → Prop} (ho : OpR X (compareOp op) r) (ho' : OpR X (compareOp op') r') (hk : Sem2 X.K r k) (hk' : Sem2 X.K r' k') (ha : QO X W a wa) (hb : QO X W b wb) (hc : QO X W c wc)
    (hm : lastMarks [op, op'] [b, c] = false := by with_unfolding_all rfl) : QT X W (.Compare a [op, op'] [b, c] pos) (wB (wChain k k' wa wb wc)) := (pt_chain ho ho' ha hb hc hm).le fun σ H Q h => by
  obtain ⟨x, G, env, Q', X', r0, hw, hn, hx⟩ := h
  refine l_chain hk hk' σ H _ ⟨x, G, env, _, X', r0, imO_mono hw, fun h e1 v G1 H1 s1 r1 q1 hq => ?_, hx⟩
  obtain ⟨d, rfl, hq⟩ := hq
  obtain ⟨t, y, hq⟩ := mo_some hq
  rw [blOf_some y] at q1
  exact ⟨t, q1, hn t e1 G1 H1 s1 r1 hq⟩
end
end TL

namespace PySem
namespace XF_index
open PySem.W PySem.Calls PyProof.Rows PySem.HandSPX
def iA (p1 p2 : Pos) : Arguments := { posonlyargs := [], args := [{ arg := "self", annotation := none, pos := p1 }, { arg := "index", annotation := none, pos := p2 }], vararg := none, kwonlyargs := [], kw_defaults := [], kwarg := none, defaults := [] }
def iB (q1 q2 q3 q4 : Pos) : List Stmt := [.Assign [.Attribute (.Name "self" q1) "index" q2] (.Name "index" q3) q4]
def iS : Scope := { kind := .function, names := [(PySem.Str.ofString "self", .local), (PySem.Str.ofString "index", .local)], isGenerator := false, isCoroutine := false, more := [] }
structure XTxt (K : Frag) (mg : Str → Option Value) (cn : Str) (C fI : Addr) : Prop where
  gC : mg cn = some (.ref C)
  cls : ∃ nm q N bs bm sn sub ab col dd k0 k1 k2 k3 k5, K.lookup C = some (excClassObj nm q C N bs bm true sn sub ab col dd k0 k1 k2 k3 k5 "ValueError.__new__") ∧ refsVE bm = true
  sa : findIn K (.ref C) "__setattr__" = some (some (.builtin "object.__setattr__"))
  ga : findIn K (.ref C) "__getattribute__" = some (some (.builtin "BaseException.__getattribute__"))
  gg : findIn K (.ref C) "__getattr__" = some none
  noN : findIn K (.ref C) "index" = some none
  iC : findIn K (.ref C) "__init__" = some (some (.ref fI))
  tC : typeIn K (.ref fI) = some (.type "function")
  kC : keepIn K (.ref C) = true
  exC : subIn K (.ref C) (.type "BaseException") = some true
  tyC : typeIn K (.ref C) = some (.type "type")
  hdC : hasDictIn K C = true
  fn : ∃ (qn : Str) (oc : Value) (od : Option Addr) (kV doc pm : Value) (an : Option Addr) (cdv ct : Value) (osl : Array (Option Value)) (p1 p2 q1 q2 q3 q4 : Pos),
    K.lookup fI = some ⟨oc, od, .func (fnOf "__init__" qn (iA p1 p2) (iB q1 q2 q3 q4) iS .none kV doc pm an cdv ct), osl⟩ ∧ codeIn K cdv qn = true
structure InitEnd (h h' : Heap) (x C dx t1 : Addr) (v : Value) : Prop where
  keep : ∀ b o, b ≠ x → h.get? b = some o → h'.get? b = some o
  obj : h'.get? x = some { cls := .ref C, dict := some dx, data := .fields #[.ref t1, .none, .none, .none, .bool false, .none] }
  dbig : h.objs.size ≤ dx
  dne : dx ≠ x
  ns : h'.Ns1 dx (fun y => if y = "index" then some v else none)
structure OwnMade (h h' : Heap) (e C d : Addr) (v : Value) : Prop where
  keep : ∀ b o, h.get? b = some o → h'.get? b = some o
  new : h.objs.size ≤ e
  obj : ∃ oe vs, h'.get? e = some oe ∧ oe.cls = .ref C ∧ oe.dict = some d ∧ oe.data = .fields vs ∧ vs[1]? = some .none
  dbig : h.objs.size ≤ d
  dne : d ≠ e
  ns : h'.Ns1 d (fun y => if y = "index" then some v else none)
section
variable {prog : Program} {w : World} {A : Around} {E : Value → Shared → Prop} {R : Result → Shared → Prop} {s : Shared} {K : Frag} {mg : Str → Option Value} {cn : Str} {C fI : Addr}
theorem x_init (T : XTxt K mg cn C fI) {x t0 : Addr} {v : Value} (X : K.In s.heap) (hlim : s.heap.NoLimit) (hx : s.heap.get? x = some (excO C t0)) (hnx : K.lookup x = none) (hroom : A.depth < recursionLimit)
    (hq : ∀ h' tk dx, InitEnd s.heap h' x C dx t0 v → R (.ok (.ret .none)) { s with heap := h', toks := tk }) :
    codeAny (model prog w) A (.call (.ref fI) ⟨[.ref x, v], []⟩) R s := by
  obtain ⟨qn, oc, od, kV, doc, pm, an, cdv, ct, osl, p1, p2, q1, q2, q3, q4, ho, hcd⟩ := T.fn
  obtain ⟨nm, q, N, bs, bm, sn, sub, ab, col, dd, k0, k1, k2, k3, k5, hC, hbm⟩ := T.cls
  have hcl : clsIn K C = some { name := nm, bases := bs, mro := .ref C :: bm, ns := N, qualname := q, hasDict := true, slotNames := sn, subclasses := sub, abstract := ab, collection := col, hasDel := false } := by unfold clsIn; rw [hC] <;> rfl
  refine Att.call_fn (binds := [("self", .ref x), ("index", v)]) X hlim ho hcd hroom (BindsTo.of_eq (by first | rfl | with_unfolding_all rfl)) (by first | rfl | decide | with_unfolding_all rfl) (fun s₁ IC => ?_) rfl rfl rfl
  obtain ⟨h₁, tk₁, rfl⟩ := IC.toInCall.same
  have k : ∀ b o, s.heap.get? b = some o → h₁.get? b = some o := IC.toInCall.keep
  have hn := IC.toInCall.ns
  have X₁ : K.In h₁ := X.keeps k
  have hx₁ := k _ _ hx
  show wpAny _ _ (execs _ _) _ _ _
  refine wpAny_execs_cons (plainObj_wpAny_Assign_Attribute ?_)
  refine TL.ldC (v := v) hn (by first | rfl | with_unfolding_all rfl | kernel_rfl) (TL.ldC (v := .ref x) hn (by first | rfl | with_unfolding_all rfl | kernel_rfl) ?_)
  refine set_plain X₁ (ox := excO C t0) (od := none) ⟨hx₁, rfl, rfl, trivial⟩ T.sa ?_
  refine exc_osa X₁ hx₁ hcl (show refsVE (.ref C :: bm) = true from hbm) rfl T.noN (fun h₃ tk₃ dx k₃ dn dne hx₃ hn₃ => ?_)
  show wpAny _ _ (execs _ _) _ _ _
  have z : s.heap.objs.size < h₁.objs.size := hn.lt
  exact wpAny_execs_nil (hq h₃ tk₃ dx ⟨fun b o hb e => k₃ b o hb (k b o e), hx₃, Nat.le_of_lt (Nat.lt_of_lt_of_le z dn), dne, hn₃⟩)
theorem x_made (T : XTxt K mg cn C fI) {v : Value} (X : K.In s.heap) (hlim : s.heap.NoLimit) (hroom : A.depth + 1 < recursionLimit)
    (hq : ∀ h' tk e d, OwnMade s.heap h' e C d v → R (.ok (.ret (.ref e))) { s with heap := h', toks := tk }) :
    codeAny (model prog w) A (.call (.ref C) ⟨[v], []⟩) R s := by
  obtain ⟨nm, q, N, bs, bm, sn, sub, ab, col, dd, k0, k1, k2, k3, k5, hC, hbm⟩ := T.cls
  obtain ⟨hp, g, dr, tk, os⟩ := s
  have k : ∀ b o, hp.get? b = some o → ((hp.push (kdv_tup [v])).push (excO C hp.objs.size)).get? b = some o := fun b o e => Heap.get?_push_of_some _ (Heap.get?_push_of_some _ e)
  have hget : ((hp.push (kdv_tup [v])).push (excO C hp.objs.size)).get? (hp.objs.size + 1) = some (excO C hp.objs.size) := by heap_get
  have hnx : K.lookup (hp.objs.size + 1) = none := by
    cases e : K.lookup (hp.objs.size + 1) with
    | none => rfl
    | some o =>
      have z : hp.get? (hp.objs.size + 1) = some o := X _ _ e
      exact absurd (Nat.lt_of_succ_lt (Heap.lt_size z)) (Nat.lt_irrefl _)
  refine call_own F.excBase_ValueError (fun X => refsVE_contains X bm hbm) (X _ _ hC) (looks_findIn X T.iC) (fun self => bind_fn X self T.tC) (TL.one_size v) ?_
  refine x_init (s := ⟨(hp.push (kdv_tup [v])).push (excO C hp.objs.size), g, dr, tk, os⟩) T (X.keeps k) (hlim.keeps k) hget hnx ?_ fun h' tk' dx ⟨k', hx, dn, dne, hns⟩ => ?_
  · show A.depth + 1 < recursionLimit
    exact hroom
  · have old : ∀ b o, hp.get? b = some o → h'.get? b = some o := fun b o e => k' b o (Nat.ne_of_lt (Nat.lt_succ_of_lt (Heap.lt_size e))) (k b o e)
    have z : hp.objs.size + 1 + 1 ≤ dx := by
      first
        | (simpa only [Heap.size_push] using dn)
        | exact dn
        | (have q := dn; rw [Heap.size_push, Heap.size_push] at q; exact q)
    exact ⟨rfl, hq h' tk' (hp.objs.size + 1) dx ⟨old, Nat.le_succ _, ⟨_, _, hx, rfl, rfl, rfl, rfl⟩, Nat.le_trans (Nat.le_trans (Nat.le_succ _) (Nat.le_succ _)) z, dne, hns⟩⟩
end
end XF_index
end PySem
namespace TL
open PySem PySem.Spec L2
section
variable {X : Cx} {W : WX} {cn : Str} {C fI : Addr} {e : Expr} {we : WE}
theorem pmk_index {a : Expr} {ta : TE} {p pos : Pos} {k : Nat} (T : PySem.XF_index.XTxt X.K X.mg cn C fI) (hr : Room k X.A) (ha : PE X a ta) (hg : Gl X cn := by rfl) (hdb : (cn == ("__debug__" : Str)) = false := by decide)
    (he : starEach (a :: []) X.env = (false, eval a X.env) :: starEach [] X.env := by rfl) (hpl : (backTo pos (starEach [] X.env)).any (·.1) = false := by rfl) :
    PMk X (.Call (.Name cn p) [a] [] pos) (fun σ H Q => tCons ta tNil σ H fun vs H1 => ∃ v, vs = [v] ∧ ∀ d, H1 d = none → Q (.ref C) (some d) (upd H1 d (.xd [(("index" : Str), v)]))) := by
  intro pins s σ H Q I h
  refine wpAny_Call_Name_kw (ld_glob I hg T.gC ?_ hdb)
  refine PySem.W.callWith_K (h₀ := X.base) I.ok.mod.kin T.kC (thn ((pa_cons ha pa_nil he).run pos pins s σ H _ I h) fun us s1 hh => ?_) he hpl
  obtain ⟨vs, H1, I1, r1, v, ev, q1⟩ := hh
  subst ev
  refine ⟨I1.kIn, ?_⟩
  cases r1 with
  | cons rv rn =>
    rename_i v' us'
    cases rn
    show wpAny _ _ (call (.ref C) [v']) _ _ _
    have hlim := I1.nolimit
    obtain ⟨hp, g, dr, tk, os⟩ := s1
    refine wpAny_call (PySem.XF_index.x_made T I1.kIn hlim (by have := hr.dp; omega) fun h' tk' e d M => ?_)
    show MkP X pins σ Q (.ref e) ⟨h', g, dr, tk', os⟩
    obtain ⟨oe, fv, hoe, hc, hd, hdat, h1⟩ := M.obj
    have hns := M.ns
    obtain ⟨G', g1, g2⟩ := restrict h' fun b => decide (b ≠ e)
    have gk : ∀ b, b ≠ e → G'.get? b = h'.get? b := fun b hb => g1 b (decide_eq_true hb)
    have ge : G'.get? e = none := g2 e (by simp)
    have old : ∀ b o, hp.get? b = some o → G'.get? b = some o := fun b o q => (gk b (Nat.ne_of_lt (Nat.lt_of_lt_of_le (Heap.lt_size q) M.new))).trans (M.keep b o q)
    have ob : ObjOk X.prog X.w (upd H1 d (.xd [(("index" : Str), v)])) G' d (.xd [(("index" : Str), v)]) :=
      ⟨_, hns.at (fun o q => (gk d M.dne).trans q), fun f => relO_one "index" rv f⟩
    have J : Inv X pins σ (upd H1 d (.xd [(("index" : Str), v)])) ⟨G', g, dr, tk', os⟩ := I1.laid (t' := tk') old M.dbig ob
    refine ⟨e, oe, fv, ⟨G', g, dr, tk', os⟩, _, .ref C, some d, rfl, J, fun b o q => ?_, ge, hoe, ⟨hc, hd⟩, hdat, h1, ?_, rfl, I1.bare, raises_own T.exC T.tyC, q1 d (I1.hok.fresh M.dbig)⟩
    · by_cases hb : b = e
      · have q' : G'.get? b = some o := q
        rw [hb, ge] at q'; cases q'
      · exact (gk b hb).symm.trans q
    · rw [upd_ne (Ne.symm M.dne)]
      exact I1.hok.fresh M.new
theorem qs_raise_index {p pos pos2 : Pos} {k : Nat} (hc : X.calm = true) (T : PySem.XF_index.XTxt X.K X.mg cn (He.ga X.K cn) fI) (hr : Room k X.A) (tk : Takes X W) (ha : QE X W e we) (hg : Gl X cn := by rfl) (hdb : (cn == ("__debug__" : Str)) = false := by decide)
    (he : starEach (e :: []) X.env = (false, eval e X.env) :: starEach [] X.env := by rfl) (hpl : (backTo pos (starEach [] X.env)).any (·.1) = false := by rfl) :
    QS X W (.Raise (some (.Call (.Name cn p) [e] [] pos)) none pos2) (sRaise cn "index" we) := (ps_raise hc tk (pmk_index T hr ha hg hdb he hpl)).le (l_raise)
theorem xf_mk_index {mg : Str → Option Value} {qual : Str} {Ar : Arguments} {B : List Stmt} {S : Scope} {fd : FuncData} (gC : mg cn = some (.ref (He.ga K cn))) (h : xcB K cn "index" = true) (F : FunD K "__init__" qual Ar B S [] [] (He.ma K (He.ga K cn) "__init__") fd)
    (hA : ∃ p1 p2, Ar = PySem.XF_index.iA p1 p2) (hB : ∃ q1 q2 q3 q4, B = PySem.XF_index.iB q1 q2 q3 q4) (hS : S = PySem.XF_index.iS) : PySem.XF_index.XTxt K mg cn (He.ga K cn) (He.ma K (He.ga K cn) "__init__") := by
  unfold xcB at h
  obtain ⟨h1, h⟩ := He.ba h
  obtain ⟨h2, h⟩ := He.ba h
  obtain ⟨h3, h⟩ := He.ba h
  obtain ⟨h4, h⟩ := He.ba h
  obtain ⟨h5, h⟩ := He.ba h
  obtain ⟨h6, h⟩ := He.ba h
  obtain ⟨h7, h⟩ := He.ba h
  obtain ⟨h8, h⟩ := He.ba h
  obtain ⟨h9, h⟩ := He.ba h
  obtain ⟨h10, h11⟩ := He.ba h
  obtain ⟨p1, p2, rfl⟩ := hA
  obtain ⟨q1, q2, q3, q4, rfl⟩ := hB
  subst hS
  obtain ⟨oc, od, dV, kV, doc, pm, an, cdv, ct, osl, e1, e2, e3, e4, _⟩ := F.ex
  have e4 : dV = .none := by
    rcases e4 with e4 | e4
    · exact e4.2
    · exact absurd rfl e4.1
  subst e1 e4
  exact ⟨gC, exclB_ok h1, of_decide_eq_true h2, of_decide_eq_true h3, of_decide_eq_true h4, of_decide_eq_true h5, of_decide_eq_true h6, of_decide_eq_true h7, h8, of_decide_eq_true h9, of_decide_eq_true h10, h11, ⟨qual, oc, od, kV, doc, pm, an, cdv, ct, osl, p1, p2, q1, q2, q3, q4, e2, e3⟩⟩
end
end TL

namespace PySem
namespace XF_what
open PySem.W PySem.Calls PyProof.Rows PySem.HandSPX
def iA (p1 p2 : Pos) : Arguments := { posonlyargs := [], args := [{ arg := "self", annotation := none, pos := p1 }, { arg := "what", annotation := none, pos := p2 }], vararg := none, kwonlyargs := [], kw_defaults := [], kwarg := none, defaults := [] }
def iB (q1 q2 q3 q4 : Pos) : List Stmt := [.Assign [.Attribute (.Name "self" q1) "what" q2] (.Name "what" q3) q4]
def iS : Scope := { kind := .function, names := [(PySem.Str.ofString "self", .local), (PySem.Str.ofString "what", .local)], isGenerator := false, isCoroutine := false, more := [] }
structure XTxt (K : Frag) (mg : Str → Option Value) (cn : Str) (C fI : Addr) : Prop where
  gC : mg cn = some (.ref C)
  cls : ∃ nm q N bs bm sn sub ab col dd k0 k1 k2 k3 k5, K.lookup C = some (excClassObj nm q C N bs bm true sn sub ab col dd k0 k1 k2 k3 k5 "ValueError.__new__") ∧ refsVE bm = true
  sa : findIn K (.ref C) "__setattr__" = some (some (.builtin "object.__setattr__"))
  ga : findIn K (.ref C) "__getattribute__" = some (some (.builtin "BaseException.__getattribute__"))
  gg : findIn K (.ref C) "__getattr__" = some none
  noN : findIn K (.ref C) "what" = some none
  iC : findIn K (.ref C) "__init__" = some (some (.ref fI))
  tC : typeIn K (.ref fI) = some (.type "function")
  kC : keepIn K (.ref C) = true
  exC : subIn K (.ref C) (.type "BaseException") = some true
  tyC : typeIn K (.ref C) = some (.type "type")
  hdC : hasDictIn K C = true
  fn : ∃ (qn : Str) (oc : Value) (od : Option Addr) (kV doc pm : Value) (an : Option Addr) (cdv ct : Value) (osl : Array (Option Value)) (p1 p2 q1 q2 q3 q4 : Pos),
    K.lookup fI = some ⟨oc, od, .func (fnOf "__init__" qn (iA p1 p2) (iB q1 q2 q3 q4) iS .none kV doc pm an cdv ct), osl⟩ ∧ codeIn K cdv qn = true
structure InitEnd (h h' : Heap) (x C dx t1 : Addr) (v : Value) : Prop where
  keep : ∀ b o, b ≠ x → h.get? b = some o → h'.get? b = some o
  obj : h'.get? x = some { cls := .ref C, dict := some dx, data := .fields #[.ref t1, .none, .none, .none, .bool false, .none] }
  dbig : h.objs.size ≤ dx
  dne : dx ≠ x
  ns : h'.Ns1 dx (fun y => if y = "what" then some v else none)
structure OwnMade (h h' : Heap) (e C d : Addr) (v : Value) : Prop where
  keep : ∀ b o, h.get? b = some o → h'.get? b = some o
  new : h.objs.size ≤ e
  obj : ∃ oe vs, h'.get? e = some oe ∧ oe.cls = .ref C ∧ oe.dict = some d ∧ oe.data = .fields vs ∧ vs[1]? = some .none
  dbig : h.objs.size ≤ d
  dne : d ≠ e
  ns : h'.Ns1 d (fun y => if y = "what" then some v else none)
section
variable {prog : Program} {w : World} {A : Around} {E : Value → Shared → Prop} {R : Result → Shared → Prop} {s : Shared} {K : Frag} {mg : Str → Option Value} {cn : Str} {C fI : Addr}
theorem x_init (T : XTxt K mg cn C fI) {x t0 : Addr} {v : Value} (X : K.In s.heap) (hlim : s.heap.NoLimit) (hx : s.heap.get? x = some (excO C t0)) (hnx : K.lookup x = none) (hroom : A.depth < recursionLimit)
    (hq : ∀ h' tk dx, InitEnd s.heap h' x C dx t0 v → R (.ok (.ret .none)) { s with heap := h', toks := tk }) :
    codeAny (model prog w) A (.call (.ref fI) ⟨[.ref x, v], []⟩) R s := by
  obtain ⟨qn, oc, od, kV, doc, pm, an, cdv, ct, osl, p1, p2, q1, q2, q3, q4, ho, hcd⟩ := T.fn
  obtain ⟨nm, q, N, bs, bm, sn, sub, ab, col, dd, k0, k1, k2, k3, k5, hC, hbm⟩ := T.cls
  have hcl : clsIn K C = some { name := nm, bases := bs, mro := .ref C :: bm, ns := N, qualname := q, hasDict := true, slotNames := sn, subclasses := sub, abstract := ab, collection := col, hasDel := false } := by unfold clsIn; rw [hC] <;> rfl
  refine Att.call_fn (binds := [("self", .ref x), ("what", v)]) X hlim ho hcd hroom (BindsTo.of_eq (by first | rfl | with_unfolding_all rfl)) (by first | rfl | decide | with_unfolding_all rfl) (fun s₁ IC => ?_) rfl rfl rfl
  obtain ⟨h₁, tk₁, rfl⟩ := IC.toInCall.same
  have k : ∀ b o, s.heap.get? b = some o → h₁.get? b = some o := IC.toInCall.keep
  have hn := IC.toInCall.ns
  have X₁ : K.In h₁ := X.keeps k
  have hx₁ := k _ _ hx
  show wpAny _ _ (execs _ _) _ _ _
  refine wpAny_execs_cons (plainObj_wpAny_Assign_Attribute ?_)
  refine TL.ldC (v := v) hn (by first | rfl | with_unfolding_all rfl | kernel_rfl) (TL.ldC (v := .ref x) hn (by first | rfl | with_unfolding_all rfl | kernel_rfl) ?_)
  refine set_plain X₁ (ox := excO C t0) (od := none) ⟨hx₁, rfl, rfl, trivial⟩ T.sa ?_
  refine exc_osa X₁ hx₁ hcl (show refsVE (.ref C :: bm) = true from hbm) rfl T.noN (fun h₃ tk₃ dx k₃ dn dne hx₃ hn₃ => ?_)
  show wpAny _ _ (execs _ _) _ _ _
  have z : s.heap.objs.size < h₁.objs.size := hn.lt
  exact wpAny_execs_nil (hq h₃ tk₃ dx ⟨fun b o hb e => k₃ b o hb (k b o e), hx₃, Nat.le_of_lt (Nat.lt_of_lt_of_le z dn), dne, hn₃⟩)
theorem x_made (T : XTxt K mg cn C fI) {v : Value} (X : K.In s.heap) (hlim : s.heap.NoLimit) (hroom : A.depth + 1 < recursionLimit)
    (hq : ∀ h' tk e d, OwnMade s.heap h' e C d v → R (.ok (.ret (.ref e))) { s with heap := h', toks := tk }) :
    codeAny (model prog w) A (.call (.ref C) ⟨[v], []⟩) R s := by
  obtain ⟨nm, q, N, bs, bm, sn, sub, ab, col, dd, k0, k1, k2, k3, k5, hC, hbm⟩ := T.cls
  obtain ⟨hp, g, dr, tk, os⟩ := s
  have k : ∀ b o, hp.get? b = some o → ((hp.push (kdv_tup [v])).push (excO C hp.objs.size)).get? b = some o := fun b o e => Heap.get?_push_of_some _ (Heap.get?_push_of_some _ e)
  have hget : ((hp.push (kdv_tup [v])).push (excO C hp.objs.size)).get? (hp.objs.size + 1) = some (excO C hp.objs.size) := by heap_get
  have hnx : K.lookup (hp.objs.size + 1) = none := by
    cases e : K.lookup (hp.objs.size + 1) with
    | none => rfl
    | some o =>
      have z : hp.get? (hp.objs.size + 1) = some o := X _ _ e
      exact absurd (Nat.lt_of_succ_lt (Heap.lt_size z)) (Nat.lt_irrefl _)
  refine call_own F.excBase_ValueError (fun X => refsVE_contains X bm hbm) (X _ _ hC) (looks_findIn X T.iC) (fun self => bind_fn X self T.tC) (TL.one_size v) ?_
  refine x_init (s := ⟨(hp.push (kdv_tup [v])).push (excO C hp.objs.size), g, dr, tk, os⟩) T (X.keeps k) (hlim.keeps k) hget hnx ?_ fun h' tk' dx ⟨k', hx, dn, dne, hns⟩ => ?_
  · show A.depth + 1 < recursionLimit
    exact hroom
  · have old : ∀ b o, hp.get? b = some o → h'.get? b = some o := fun b o e => k' b o (Nat.ne_of_lt (Nat.lt_succ_of_lt (Heap.lt_size e))) (k b o e)
    have z : hp.objs.size + 1 + 1 ≤ dx := by
      first
        | (simpa only [Heap.size_push] using dn)
        | exact dn
        | (have q := dn; rw [Heap.size_push, Heap.size_push] at q; exact q)
    exact ⟨rfl, hq h' tk' (hp.objs.size + 1) dx ⟨old, Nat.le_succ _, ⟨_, _, hx, rfl, rfl, rfl, rfl⟩, Nat.le_trans (Nat.le_trans (Nat.le_succ _) (Nat.le_succ _)) z, dne, hns⟩⟩
end
end XF_what
end PySem
namespace TL
open PySem PySem.Spec L2
section
variable {X : Cx} {W : WX} {cn : Str} {C fI : Addr} {e : Expr} {we : WE}
theorem pmk_what {a : Expr} {ta : TE} {p pos : Pos} {k : Nat} (T : PySem.XF_what.XTxt X.K X.mg cn C fI) (hr : Room k X.A) (ha : PE X a ta) (hg : Gl X cn := by rfl) (hdb : (cn == ("__debug__" : Str)) = false := by decide)
    (he : starEach (a :: []) X.env = (false, eval a X.env) :: starEach [] X.env := by rfl) (hpl : (backTo pos (starEach [] X.env)).any (·.1) = false := by rfl) :
    PMk X (.Call (.Name cn p) [a] [] pos) (fun σ H Q => tCons ta tNil σ H fun vs H1 => ∃ v, vs = [v] ∧ ∀ d, H1 d = none → Q (.ref C) (some d) (upd H1 d (.xd [(("what" : Str), v)]))) := by
  intro pins s σ H Q I h
  refine wpAny_Call_Name_kw (ld_glob I hg T.gC ?_ hdb)
  refine PySem.W.callWith_K (h₀ := X.base) I.ok.mod.kin T.kC (thn ((pa_cons ha pa_nil he).run pos pins s σ H _ I h) fun us s1 hh => ?_) he hpl
  obtain ⟨vs, H1, I1, r1, v, ev, q1⟩ := hh
  subst ev
  refine ⟨I1.kIn, ?_⟩
  cases r1 with
  | cons rv rn =>
    rename_i v' us'
    cases rn
    show wpAny _ _ (call (.ref C) [v']) _ _ _
    have hlim := I1.nolimit
    obtain ⟨hp, g, dr, tk, os⟩ := s1
    refine wpAny_call (PySem.XF_what.x_made T I1.kIn hlim (by have := hr.dp; omega) fun h' tk' e d M => ?_)
    show MkP X pins σ Q (.ref e) ⟨h', g, dr, tk', os⟩
    obtain ⟨oe, fv, hoe, hc, hd, hdat, h1⟩ := M.obj
    have hns := M.ns
    obtain ⟨G', g1, g2⟩ := restrict h' fun b => decide (b ≠ e)
    have gk : ∀ b, b ≠ e → G'.get? b = h'.get? b := fun b hb => g1 b (decide_eq_true hb)
    have ge : G'.get? e = none := g2 e (by simp)
    have old : ∀ b o, hp.get? b = some o → G'.get? b = some o := fun b o q => (gk b (Nat.ne_of_lt (Nat.lt_of_lt_of_le (Heap.lt_size q) M.new))).trans (M.keep b o q)
    have ob : ObjOk X.prog X.w (upd H1 d (.xd [(("what" : Str), v)])) G' d (.xd [(("what" : Str), v)]) :=
      ⟨_, hns.at (fun o q => (gk d M.dne).trans q), fun f => relO_one "what" rv f⟩
    have J : Inv X pins σ (upd H1 d (.xd [(("what" : Str), v)])) ⟨G', g, dr, tk', os⟩ := I1.laid (t' := tk') old M.dbig ob
    refine ⟨e, oe, fv, ⟨G', g, dr, tk', os⟩, _, .ref C, some d, rfl, J, fun b o q => ?_, ge, hoe, ⟨hc, hd⟩, hdat, h1, ?_, rfl, I1.bare, raises_own T.exC T.tyC, q1 d (I1.hok.fresh M.dbig)⟩
    · by_cases hb : b = e
      · have q' : G'.get? b = some o := q
        rw [hb, ge] at q'; cases q'
      · exact (gk b hb).symm.trans q
    · rw [upd_ne (Ne.symm M.dne)]
      exact I1.hok.fresh M.new
theorem qs_raise_what {p pos pos2 : Pos} {k : Nat} (hc : X.calm = true) (T : PySem.XF_what.XTxt X.K X.mg cn (He.ga X.K cn) fI) (hr : Room k X.A) (tk : Takes X W) (ha : QE X W e we) (hg : Gl X cn := by rfl) (hdb : (cn == ("__debug__" : Str)) = false := by decide)
    (he : starEach (e :: []) X.env = (false, eval e X.env) :: starEach [] X.env := by rfl) (hpl : (backTo pos (starEach [] X.env)).any (·.1) = false := by rfl) :
    QS X W (.Raise (some (.Call (.Name cn p) [e] [] pos)) none pos2) (sRaise cn "what" we) := (ps_raise hc tk (pmk_what T hr ha hg hdb he hpl)).le (l_raise)
theorem xf_mk_what {mg : Str → Option Value} {qual : Str} {Ar : Arguments} {B : List Stmt} {S : Scope} {fd : FuncData} (gC : mg cn = some (.ref (He.ga K cn))) (h : xcB K cn "what" = true) (F : FunD K "__init__" qual Ar B S [] [] (He.ma K (He.ga K cn) "__init__") fd)
    (hA : ∃ p1 p2, Ar = PySem.XF_what.iA p1 p2) (hB : ∃ q1 q2 q3 q4, B = PySem.XF_what.iB q1 q2 q3 q4) (hS : S = PySem.XF_what.iS) : PySem.XF_what.XTxt K mg cn (He.ga K cn) (He.ma K (He.ga K cn) "__init__") := by
  unfold xcB at h
  obtain ⟨h1, h⟩ := He.ba h
  obtain ⟨h2, h⟩ := He.ba h
  obtain ⟨h3, h⟩ := He.ba h
  obtain ⟨h4, h⟩ := He.ba h
  obtain ⟨h5, h⟩ := He.ba h
  obtain ⟨h6, h⟩ := He.ba h
  obtain ⟨h7, h⟩ := He.ba h
  obtain ⟨h8, h⟩ := He.ba h
  obtain ⟨h9, h⟩ := He.ba h
  obtain ⟨h10, h11⟩ := He.ba h
  obtain ⟨p1, p2, rfl⟩ := hA
  obtain ⟨q1, q2, q3, q4, rfl⟩ := hB
  subst hS
  obtain ⟨oc, od, dV, kV, doc, pm, an, cdv, ct, osl, e1, e2, e3, e4, _⟩ := F.ex
  have e4 : dV = .none := by
    rcases e4 with e4 | e4
    · exact e4.2
    · exact absurd rfl e4.1
  subst e1 e4
  exact ⟨gC, exclB_ok h1, of_decide_eq_true h2, of_decide_eq_true h3, of_decide_eq_true h4, of_decide_eq_true h5, of_decide_eq_true h6, of_decide_eq_true h7, h8, of_decide_eq_true h9, of_decide_eq_true h10, h11, ⟨qual, oc, od, kV, doc, pm, an, cdv, ct, osl, p1, p2, q1, q2, q3, q4, e2, e3⟩⟩
end
end TL

/-! The functional layer: what an expression or a statement does, as a function of the slots. -/
namespace TL
open PySem PySem.Spec L2

inductive Re (α : Type) where
  | ok (a : α) (e : Ev) | xc (x : Xn) (e : Ev) | bad
def Re.on {α : Type} (r : Re α) (Q : α → Ev → Prop) (X : XP) : Prop := match r with
  | .ok a e => Q a e
  | .xc x e => X x e
  | .bad => False
def Re.bd {α β : Type} (r : Re α) (k : α → Ev → Re β) : Re β := match r with
  | .ok a e => k a e
  | .xc x e => .xc x e
  | .bad => .bad
theorem Re.on_bd {α β : Type} {r : Re α} {k : α → Ev → Re β} {Q : β → Ev → Prop} {X : XP} : (r.bd k).on Q X = r.on (fun a e => (k a e).on Q X) X := by
  cases r <;> rfl
/-- of what is there -/
def ol {α : Type} (o : Option α) (e : Ev) : Re α := match o with
  | some a => .ok a e
  | none => .bad
theorem on_ol {α : Type} {o : Option α} {e : Ev} {Q : α → Ev → Prop} {X : XP} : (ol o e).on Q X = mo o fun a => Q a e := by
  cases o <;> rfl
abbrev FO := Ev → Re Hd
abbrev FE := Ev → Re D
abbrev FT := Ev → Re Bool
abbrev FA := Ev → Re (List Hd)
abbrev FI := Ev → Re (List D)
abbrev FP := Ev → Re (Option Int)
def wp {α : Type} (f : Ev → Re α) : Ev → (α → Ev → Prop) → XP → Prop := fun env Q X => (f env).on Q X
theorem wp_bd {α β : Type} {f : Ev → Re α} {k : α → Ev → Re β} {env : Ev} {Q : β → Ev → Prop} {X : XP} : wp (fun env => (f env).bd k) env Q X = wp f env (fun a e => (k a e).on Q X) X := Re.on_bd
theorem wp_mono {α : Type} {f : Ev → Re α} {env : Ev} {Q Q' : α → Ev → Prop} {X : XP} (h : wp f env Q X) (i : ∀ a e, Q a e → Q' a e) : wp f env Q' X := by
  unfold wp at h ⊢
  revert h
  cases f env with
  | ok a e => exact i a e
  | xc x e => exact id
  | bad => exact id
def oi (f : FE) : FO := fun env => (f env).bd fun d e => .ok (.im d) e
theorem wp_oi (f : FE) : imO (wp f) = wp (oi f) := by
  funext env Q X
  unfold imO wp oi
  rw [Re.on_bd]
  rfl
section
variable {X : Cx} {W : WX} {a b c e : Expr} {es : List Expr} {pos p : Pos} {st : Stmt} {l : List Stmt}
theorem QO.le {w w' : WO} (h : QO X W e w) (i : ∀ env Q Xp, w' env Q Xp → w env Q Xp) : QO X W e w' := L2.PE.le h fun σ H Q ⟨x, G, env, Q', X', r, hw, hn, hx⟩ => ⟨x, G, env, Q', X', r, i _ _ _ hw, hn, hx⟩
theorem QE.le {w w' : WE} (h : QE X W e w) (i : ∀ env Q Xp, w' env Q Xp → w env Q Xp) : QE X W e w' := QO.le h fun env Q Xp => i env _ Xp
theorem QF.le {w w' : WE} (h : QF X W e w) (i : ∀ env Q Xp, w' env Q Xp → w env Q Xp) : QF X W e w' := L2.PE.le h fun σ H Q ⟨x, G, env, Q', X', r, hw, hn, hx⟩ => ⟨x, G, env, Q', X', r, i _ _ _ hw, hn, hx⟩
theorem QT.le {w w' : WT} (h : QT X W e w) (i : ∀ env Q Xp, w' env Q Xp → w env Q Xp) : QT X W e w' := L2.PT.le h fun σ H Q ⟨x, G, env, Q', X', r, hw, hn, hx⟩ => ⟨x, G, env, Q', X', r, i _ _ _ hw, hn, hx⟩
theorem QW.le {w w' : WT} (h : QW X W e w) (i : ∀ env Q Xp, w' env Q Xp → w env Q Xp) : QW X W e w' := L2.PW.le h fun σ H Q ⟨x, G, env, Q', X', r, hw, hn, hx⟩ => ⟨x, G, env, Q', X', r, i _ _ _ hw, hn, hx⟩
theorem QA.le {w w' : WA} (h : QA X W es w) (i : ∀ env Q Xp, w' env Q Xp → w env Q Xp) : QA X W es w' := L2.PA.le h fun σ H Q ⟨x, G, env, Q', X', r, hw, hn, hx⟩ => ⟨x, G, env, Q', X', r, i _ _ _ hw, hn, hx⟩
theorem QI.le {tg : Expr} {w w' : WI} (h : QI X W tg e w) (i : ∀ env Q Xp, w' env Q Xp → w env Q Xp) : QI X W tg e w' := L2.PI.le h fun σ H Q ⟨x, G, env, Q', X', r, hw, hn, hx⟩ => ⟨x, G, env, Q', X', r, i _ _ _ hw, hn, hx⟩
theorem QP.le {oe : Option Expr} {w w' : WP} (h : QP X W oe w) (i : ∀ env Q Xp, w' env Q Xp → w env Q Xp) : QP X W oe w' := L2.PO.le h fun σ H Q ⟨x, G, env, Q', X', r, hw, hn, hx⟩ => ⟨x, G, env, Q', X', r, i _ _ _ hw, hn, hx⟩
theorem QTs.le {w w' : WT} (h : QTs X W es w) (i : ∀ env Q Xp, w' env Q Xp → w env Q Xp) : QTs X W es w' := L2.PTs.le h fun σ H Q ⟨x, G, env, Q', X', r, hw, hn, hx⟩ => ⟨x, G, env, Q', X', r, i _ _ _ hw, hn, hx⟩
theorem QS.le {w w' : WS} (h : QS X W st w) (i : ∀ env E, w' env E → w env E) : QS X W st w' := L2.PS.le h fun De σ H ⟨x, G, env, E', r, hw, hE⟩ => ⟨x, G, env, E', r, i _ _ hw, hE⟩
theorem QSs.le {w w' : WS} (h : QSs X W l w) (i : ∀ env E, w' env E → w env E) : QSs X W l w' := L2.PSs.le h fun De σ H ⟨x, G, env, E', r, hw, hE⟩ => ⟨x, G, env, E', r, i _ _ hw, hE⟩
theorem QG.le {w w' : WG} (h : QG X e w) (i : ∀ d env Q, w' d env Q → w d env Q) : QG X e w' := L2.PG.le h fun v σ H Q ⟨x, G, env, d, Q', r, rp, hw, hn⟩ => ⟨x, G, env, d, Q', r, rp, i _ _ _ hw, hn⟩
theorem QGs.le {w w' : WGs} (h : QGs X es w) (i : ∀ d env Q, w' d env Q → w d env Q) : QGs X es w' := L2.PGs.le h fun v σ H Q ⟨x, G, env, d, Q', r, rp, hw, hn⟩ => ⟨x, G, env, d, Q', r, rp, i _ _ _ hw, hn⟩
/-! the judgements -/
abbrev KO (X : Cx) (W : WX) (e : Expr) (f : FO) : Prop := QO X W e (wp f)
abbrev KE (X : Cx) (W : WX) (e : Expr) (f : FE) : Prop := QE X W e (wp f)
abbrev KF (X : Cx) (W : WX) (e : Expr) (f : FE) : Prop := QF X W e (wp f)
abbrev KT (X : Cx) (W : WX) (e : Expr) (f : FT) : Prop := QT X W e (wp f)
abbrev KW (X : Cx) (W : WX) (e : Expr) (f : FT) : Prop := QW X W e (wp f)
abbrev KA (X : Cx) (W : WX) (es : List Expr) (f : FA) : Prop := QA X W es (wp f)
abbrev KI (X : Cx) (W : WX) (tg e : Expr) (f : FI) : Prop := QI X W tg e (wp f)
theorem ko {f : FE} (h : KE X W e f) : KO X W e (oi f) := by
  have h' : QO X W e (imO (wp f)) := h
  rw [wp_oi] at h'
  exact h'
theorem knew {f : FE} (h : KF X W e f) : KE X W e f := qe_new h
/-! names, constants -/
def fVar (i : Nat) : FE := fun env => ol (imAt env i) env
def foVar (i : Nat) : FO := fun env => match owAt env i with
  | some _ => .ok (.ow i) env
  | none => .bad
def fC (d : D) : FE := fun env => .ok d env
theorem ke_var (i : Nat) {n : Str} (hN : X.N[i]? = some n := by rfl) (hvs : Vis X.env.scope n := by first | exact Or.inl rfl | exact Or.inr (Or.inl rfl) | exact Or.inr (Or.inr rfl)) (hd : (n == ("__debug__" : Str)) = false := by decide)
    (hcd : (n == ("__classdict__" : Str)) = false := by decide) : KE X W (.Name n pos) (fVar i) := QE.le (qe_var i hN hvs hd hcd) fun env Q Xp h => by
  unfold wp fVar at h
  rw [on_ol] at h
  exact h
theorem ko_var (i : Nat) {n : Str} (hN : X.N[i]? = some n := by rfl) (hvs : Vis X.env.scope n := by first | exact Or.inl rfl | exact Or.inr (Or.inl rfl) | exact Or.inr (Or.inr rfl)) (hd : (n == ("__debug__" : Str)) = false := by decide)
    (hcd : (n == ("__classdict__" : Str)) = false := by decide) : KO X W (.Name n pos) (foVar i) := QO.le (qo_var i hN hvs hd hcd) fun env Q Xp h => by
  unfold wp foVar at h
  unfold oVar
  cases z : owAt env i with
  | none =>
    rw [z] at h
    exact h
  | some d =>
    rw [z] at h
    exact h
theorem ke_c {d : D} (h : QE X W e (wC d)) : KE X W e (fC d) := QE.le h fun env Q Xp h => h
theorem ke_int {i j} : KE X W (.Constant (.int i) j pos) (fC (.int i)) := ke_c qe_int
theorem ke_bl {i j} : KE X W (.Constant (.bool i) j pos) (fC (.bl i)) := ke_c qe_bl
theorem ke_non {j} : KE X W (.Constant .none j pos) (fC .non) := ke_c qe_non
theorem ke_str {i j} : KE X W (.Constant (.str i) j pos) (fC (.str i)) := ke_c qe_str
theorem ke_globI {n : Str} {i : Int} (hm : ∃ t, X.mg n = some (.int i t)) (hg : Gl X n := by rfl) (hd : (n == ("__debug__" : Str)) = false := by decide) : KE X W (.Name n pos) (fC (.int i)) := ke_c (qe_globI hm hg hd)
theorem ke_globS {n : Str} {i : Str} (hm : ∃ t, X.mg n = some (.str i t)) (hg : Gl X n := by rfl) (hd : (n == ("__debug__" : Str)) = false := by decide) : KE X W (.Name n pos) (fC (.str i)) := ke_c (qe_globS hm hg hd)
/-! operations -/
def f1 (g : D → Option D) (fa : FO) : FE := fun env => (fa env).bd fun h e => match hv e h with
  | some d => ol (g d) e
  | none => .bad
def f2 (g : D → D → Option D) (fa fb : FO) : FE := fun env => (fa env).bd fun h1 e1 => (fb e1).bd fun h2 e2 => match hv e2 h1 with
  | some d1 => (match hv e2 h2 with
    | some d2 => ol (g d1 d2) e2
    | none => .bad)
  | none => .bad
def fN (g : List D → Option D) (fa : FA) : FE := fun env => (fa env).bd fun hs e => match hvs e hs with
  | some ds => ol (g ds) e
  | none => .bad
theorem le1 {k : D → (D → Prop) → Prop} {g : D → Option D} (hk : ∀ d P, mo (g d) P → k d P) {fa : FO} : ∀ env Q Xp, wp (f1 g fa) env Q Xp → w1 k (wp fa) env Q Xp := fun env Q Xp h => by
  have h' : ((fa env).bd _).on Q Xp := h
  rw [Re.on_bd] at h'
  refine wp_mono (f := fa) (env := env) h' fun hd e q => ?_
  cases z : hv e hd with
  | none =>
    rw [z] at q
    exact q
  | some d =>
    rw [z] at q
    dsimp only at q
    rw [on_ol] at q
    exact hk d _ q
theorem le2 {k : D → D → (D → Prop) → Prop} {g : D → D → Option D} (hk : ∀ d d' P, mo (g d d') P → k d d' P) {fa fb : FO} : ∀ env Q Xp, wp (f2 g fa fb) env Q Xp → w2 k (wp fa) (wp fb) env Q Xp := fun env Q Xp h => by
  have h' : ((fa env).bd _).on Q Xp := h
  rw [Re.on_bd] at h'
  refine wp_mono (f := fa) (env := env) h' fun h1 e1 q => ?_
  rw [Re.on_bd] at q
  refine wp_mono (f := fb) (env := e1) q fun h2 e2 q => ?_
  cases z : hv e2 h1 with
  | none =>
    rw [z] at q
    exact q
  | some d1 =>
    rw [z] at q
    dsimp only at q
    cases y : hv e2 h2 with
    | none =>
      rw [y] at q
      exact q
    | some d2 =>
      rw [y] at q
      dsimp only at q
      rw [on_ol] at q
      exact hk d1 d2 _ q
theorem leN {k : List D → (D → Prop) → Prop} {g : List D → Option D} (hk : ∀ d P, mo (g d) P → k d P) {fa : FA} : ∀ env Q Xp, wp (fN g fa) env Q Xp → wN k (wp fa) env Q Xp := fun env Q Xp h => by
  have h' : ((fa env).bd _).on Q Xp := h
  rw [Re.on_bd] at h'
  refine wp_mono (f := fa) (env := env) h' fun hd e q => ?_
  cases z : hvs e hd with
  | none =>
    rw [z] at q
    exact q
  | some d =>
    rw [z] at q
    dsimp only at q
    rw [on_ol] at q
    exact hk d _ q
def gI (c : Int → Int → Bool) (g : Int → Int → D) (d1 d2 : D) : Option D := match d1 with
  | .int i => (match d2 with
    | .int j => if c i j = true then some (g i j) else none
    | _ => none)
  | _ => none
def gI0 (g : Int → Int → D) (d1 d2 : D) : Option D := match d1 with
  | .int i => (match d2 with
    | .int j => some (g i j)
    | _ => none)
  | _ => none
theorem hk_I {c : Int → Int → Bool} {C : Int → Int → Prop} {g : Int → Int → D} (hc : ∀ i j, c i j = true → C i j) : ∀ d d' P, mo (gI c g d d') P → kI C g d d' P := fun d d' P h => by
  cases d with
  | int i =>
    cases d' with
    | int j =>
      have h' : mo (if c i j = true then some (g i j) else none) P := h
      by_cases q : c i j = true
      · rw [if_pos q] at h'
        exact ⟨hc i j q, h'⟩
      · rw [if_neg q] at h'
        exact h'.elim
    | _ => exact h.elim
  | _ => exact h.elim
theorem hk_I0 {g : Int → Int → D} : ∀ d d' P, mo (gI0 g d d') P → kI0 g d d' P := fun d d' P h => by
  cases d with
  | int i =>
    cases d' with
    | int j => exact h
    | _ => exact h.elim
  | _ => exact h.elim
def gSub := gI0 fun i j => .int (i - j)
def mulC (i j : Int) : Bool := decide (-(2 ^ 64) < i ∧ i < 2 ^ 64) || (decide (-(2 ^ 64) < j ∧ j < 2 ^ 64) || decide (i.natAbs.log2 + j.natAbs.log2 < 1000000))
def divC (_ j : Int) : Bool := decide (0 < j) && decide (j.natAbs.log2 < 9000)
def powC (i j : Int) : Bool := decide (0 ≤ j) && (decide (j ≤ 1000000) && decide (i.natAbs < 2 ^ 64))
def gDiv := gI divC fun i j => .int (i / j)
def gMod := gI (fun _ j => decide (0 < j)) fun i j => .int (i % j)
def gPow := gI powC fun i j => .int (i ^ j.toNat)
def gShl := gI powC fun i j => .int (i * 2 ^ j.toNat)
def gLt := gI0 fun i j => .bl (decide (i < j))
def gLe := gI0 fun i j => .bl (decide (i ≤ j))
def gGt := gI0 fun i j => .bl (decide (j < i))
def gGe := gI0 fun i j => .bl (decide (j ≤ i))
variable {fa fb : FO}
theorem powC_ok {i j : Int} (h : powC i j = true) : CPow i j := by
  unfold powC at h
  simp only [Bool.and_eq_true, decide_eq_true_eq] at h
  exact ⟨h.1, h.2.1, h.2.2⟩
theorem divC_ok {i j : Int} (h : divC i j = true) : CDivW i j := by
  unfold divC at h
  simp only [Bool.and_eq_true, decide_eq_true_eq] at h
  exact h
theorem ke_div (ha : KO X W a fa) (hb : KO X W b fb) : KE X W (.BinOp a .FloorDiv b pos) (f2 gDiv fa fb) := QE.le (qe_div ha hb) (le2 (hk_I fun _ _ => divC_ok))
theorem ke_mod (ha : KO X W a fa) (hb : KO X W b fb) : KE X W (.BinOp a .Mod b pos) (f2 gMod fa fb) := QE.le (qe_mod ha hb) (le2 (hk_I fun _ _ h => of_decide_eq_true h))
theorem ke_pow (ha : KO X W a fa) (hb : KO X W b fb) : KE X W (.BinOp a .Pow b pos) (f2 gPow fa fb) := QE.le (qe_pow ha hb) (le2 (hk_I fun _ _ => powC_ok))
def gNeg (d : D) : Option D := match d with
  | .int i => some (.int (-i))
  | _ => none
theorem ke_neg (ha : KO X W a fa) : KE X W (.UnaryOp .USub a pos) (f1 gNeg fa) := QE.le (qe_neg ha) (le1 fun d P h => by
  cases d with
  | int i => exact h
  | _ => exact h.elim)
/-! products: ints; a list or a tuple times an int is told apart by the printer -/
def gMul := gI mulC fun i j => .int (i * j)
theorem sem_or {K : PySem.W.Frag} {r r' : R2} {k k' : D → D → (D → Prop) → Prop} (h : Sem2 K r k) (h' : Sem2 K r' k') : Sem2 K (fun x y H Q => r x y H Q ∨ r' x y H Q) (fun d d' P => k d d' P ∨ k' d d' P) := fun G H d1 d2 v1 v2 P Q s h1 h2 hk hq => by
  rcases hk with hk | hk
  · exact .inl (h G H d1 d2 v1 v2 P Q s h1 h2 hk hq)
  · exact .inr (h' G H d1 d2 v1 v2 P Q s h1 h2 hk hq)
theorem ke_mul (ha : KO X W a fa) (hb : KO X W b fb) : KE X W (.BinOp a .Mult b pos) (f2 gMul fa fb) := QE.le (qe_op (OpR.or op_mul op_mulW) (sem_or (k := kMul) (k' := kMulW) (sem_rI fun _ _ _ => rfl) (sem_rI fun _ _ _ => rfl)) ha hb) (le2 fun d d' P h => by
  cases d with
  | int i =>
    cases d' with
    | int j =>
      have h' : mo (if mulC i j = true then some (D.int (i * j)) else none) P := h
      by_cases q : mulC i j = true
      · rw [if_pos q] at h'
        unfold mulC at q
        simp only [Bool.or_eq_true, decide_eq_true_eq] at q
        rcases q with q | q | q
        · exact .inl ⟨.inl q, h'⟩
        · exact .inl ⟨.inr q, h'⟩
        · exact .inr ⟨q, h'⟩
      · rw [if_neg q] at h'
        exact h'.elim
    | _ => exact h.elim
  | _ => exact h.elim)
/-! tests -/
def fB (f : FE) : FT := fun env => (f env).bd fun d e => ol (blOf d) e
theorem leB {f : FE} : ∀ env Q Xp, wp (fB f) env Q Xp → wB (wp f) env Q Xp := fun env Q Xp h => by
  have h' : ((f env).bd _).on Q Xp := h
  rw [Re.on_bd] at h'
  refine wp_mono (f := f) (env := env) h' fun d e q => ?_
  rw [on_ol] at q
  exact q
structure KC (X : Cx) (W : WX) (op : CmpOp) (a b : Expr) (f : FE) : Prop where
  e : ∀ pos, KE X W (.Compare a [op] [b] pos) f
  t : ∀ pos, KT X W (.Compare a [op] [b] pos) (fB f)
theorem kc {op : CmpOp} {w : WE} {f : FE} (h : QC X W op a b w) (i : ∀ env Q Xp, wp f env Q Xp → w env Q Xp) : KC X W op a b f :=
  ⟨fun pos => QE.le (h.e pos) i, fun pos => QT.le (h.t pos) fun env Q Xp q => i _ _ _ (leB env Q Xp q)⟩
theorem kc_lt (ha : KO X W a fa) (hb : KO X W b fb) : KC X W .Lt a b (f2 gLt fa fb) := kc (qc_lt ha hb) (le2 hk_I0)
theorem kc_ge (ha : KO X W a fa) (hb : KO X W b fb) : KC X W .GtE a b (f2 gGe fa fb) := kc (qc_ge ha hb) (le2 hk_I0)
def gEq (d d' : D) : Option D := if (okD 16 d && okD 16 d') = true then some (.bl (eqD d d')) else none
def gNe (d d' : D) : Option D := if (okD 16 d && okD 16 d') = true then some (.bl (!eqD d d')) else none
theorem if_some {b : Bool} {d : D} {P : D → Prop} (h : mo (if b = true then some d else none) P) : b = true ∧ P d := by
  cases b with
  | true => exact ⟨rfl, h⟩
  | false => exact h.elim
theorem kc_eq (hu : X.A.units + 64 < cLine) (ha : KO X W a fa) (hb : KO X W b fb) : KC X W .Eq a b (f2 gEq fa fb) := kc (qc_eq hu ha hb) (le2 fun d d' P h => by
  obtain ⟨q, h⟩ := if_some h
  rw [Bool.and_eq_true] at q
  exact ⟨q.1, q.2, h⟩)
theorem kc_ne (hu : X.A.units + 64 < cLine) (ha : KO X W a fa) (hb : KO X W b fb) : KC X W .NotEq a b (f2 gNe fa fb) := kc (qc_ne hu ha hb) (le2 fun d d' P h => by
  obtain ⟨q, h⟩ := if_some h
  rw [Bool.and_eq_true] at q
  exact ⟨q.1, q.2, h⟩)
def gIsN (d : D) : Option D := some (.bl (isNon d))
def gNotN (d : D) : Option D := some (.bl (!isNon d))
def fAnd (ft fu : FT) : FT := fun env => (ft env).bd fun k e => if k = true then fu e else .ok false e
def fOr (ft fu : FT) : FT := fun env => (ft env).bd fun k e => if k = true then .ok true e else fu e
def fNot (ft : FT) : FT := fun env => (ft env).bd fun k e => .ok (!k) e
variable {ft fu : FT} {f g : FE} {rest : List Expr}
theorem on_ite {α : Type} {b : Bool} {x y : Re α} {Q : α → Ev → Prop} {Xp : XP} : (if b = true then x else y).on Q Xp = if b = true then x.on Q Xp else y.on Q Xp := by
  cases b <;> rfl
theorem kt_val (h : KE X W e f) (he : ∀ whole, isTrue e X.env whole = (do let v ← whole; standAt e.pos; holding [v] (truthy v)) := by intro _; rfl) : KT X W e (fB f) := QT.le (qt_val h he) leB
theorem leT {ft : FT} {k : Bool → Ev → Re Bool} {q : (Bool → Ev → Prop) → XP → Bool → Ev → Prop} (hq : ∀ Q Xp b e, (k b e).on Q Xp → q Q Xp b e) : ∀ env Q Xp, wp (fun env => (ft env).bd k) env Q Xp → (wp ft) env (q Q Xp) Xp := fun env Q Xp h => by
  rw [wp_bd] at h
  exact wp_mono h fun b e => hq Q Xp b e
theorem kw_and1 (ha : KT X W a ft) : KW X W (.BoolOp .And [a] pos) ft := qw_and1 ha
theorem kw_or1 (ha : KT X W a ft) : KW X W (.BoolOp .Or [a] pos) ft := qw_or1 ha
theorem kw_and (ha : KT X W a ft) (hb : KW X W (.BoolOp .And (b :: rest) pos) fu) : KW X W (.BoolOp .And (a :: b :: rest) pos) (fAnd ft fu) := QW.le (qw_and ha hb) fun env Q Xp h => by
  refine leT (q := fun Q Xp k e => if k = true then wp fu e Q Xp else Q false e) (fun Q Xp b e h => ?_) env Q Xp h
  rw [on_ite] at h
  exact h
theorem kw_or (ha : KT X W a ft) (hb : KW X W (.BoolOp .Or (b :: rest) pos) fu) : KW X W (.BoolOp .Or (a :: b :: rest) pos) (fOr ft fu) := QW.le (qw_or ha hb) fun env Q Xp h => by
  refine leT (q := fun Q Xp k e => if k = true then Q true e else wp fu e Q Xp) (fun Q Xp b e h => ?_) env Q Xp h
  rw [on_ite] at h
  exact h
theorem kt_not (ha : KT X W a ft) : KT X W (.UnaryOp .Not a pos) (fNot ft) := QT.le (qt_not ha) fun env Q Xp h => by
  have h' := h
  unfold fNot at h'
  rw [wp_bd] at h'
  exact h'
def gAnd (fa fb : FE) : FE := fun env => (fa env).bd fun d e => (match blOf d with
  | some k => if k = true then fb e else .ok (.bl false) e
  | none => .bad)
def gOr (fa fb : FE) : FE := fun env => (fa env).bd fun d e => (match blOf d with
  | some k => if k = true then .ok (.bl true) e else fb e
  | none => .bad)
def gNot (fa : FE) : FE := fun env => (fa env).bd fun d e => (match blOf d with
  | some k => .ok (.bl (!k)) e
  | none => .bad)
theorem ke_one {op} (h : KE X W a f) : KE X W (.BoolOp op [a] pos) f := qe_one h
theorem leBl {f : FE} {k : Bool → Ev → Re D} {q : (D → Ev → Prop) → XP → Bool → Ev → Prop} (hq : ∀ Q Xp b e, (k b e).on Q Xp → q Q Xp b e) : ∀ env Q Xp, wp (fun env => (f env).bd fun d e => (match blOf d with | some b => k b e | none => .bad)) env Q Xp → (wp f) env (fun d e => mo (blOf d) fun b => q Q Xp b e) Xp := fun env Q Xp h => by
  rw [wp_bd] at h
  refine wp_mono h fun d e h => ?_
  cases z : blOf d with
  | none =>
    rw [z] at h
    exact h
  | some b =>
    rw [z] at h
    exact hq Q Xp b e h
theorem ke_and (ha : KE X W a f) (hb : KE X W (.BoolOp .And (b :: rest) pos) g) : KE X W (.BoolOp .And (a :: b :: rest) pos) (gAnd f g) := QE.le (qe_and ha hb) fun env Q Xp h => by
  refine leBl (q := fun Q Xp k e => if k = true then wp g e Q Xp else Q (.bl false) e) (fun Q Xp b e h => ?_) env Q Xp h
  rw [on_ite] at h
  exact h
theorem ke_not (ha : KE X W a f) : KE X W (.UnaryOp .Not a pos) (gNot f) := QE.le (qe_not ha) fun env Q Xp h =>
  leBl (k := fun k e => .ok (.bl (!k)) e) (q := fun Q Xp k e => Q (.bl (!k)) e) (fun Q Xp b e h => h) env Q Xp h
def fIf {α : Type} (ft : FT) (fa fb : Ev → Re α) : Ev → Re α := fun env => (ft env).bd fun k e => if k = true then fa e else fb e
/-! lists, tuples -/
def fNil : FA := fun env => .ok [] env
def fCons (f : FO) (fl : FA) : FA := fun env => (f env).bd fun h e => (fl e).bd fun hs e2 => .ok (h :: hs) e2
variable {fl : FA}
theorem ka_nil : KA X W [] fNil := QA.le qa_nil fun env Q Xp h => h
theorem ka_cons (ha : KO X W e fa) (hr : KA X W es fl) (hs : starEach (e :: es) X.env = (false, eval e X.env) :: starEach es X.env := by rfl) : KA X W (e :: es) (fCons fa fl) := QA.le (qa_cons ha hr hs) fun env Q Xp h => by
  unfold fCons at h
  rw [wp_bd] at h
  refine wp_mono h fun hd e h => ?_
  rw [Re.on_bd] at h
  exact wp_mono (f := fl) h fun hs e2 h => h
def gSeq (c : List D → D) (ds : List D) : Option D := if ds.length ≤ 1000000 then some (c ds) else none
def fSeq (c : List D → D) (fl : FA) : FE := fun env => (fl env).bd fun hs e => match ims hs with
  | some ds => ol (gSeq c ds) e
  | none => .bad
theorem leSeq {c : List D → D} : ∀ env Q Xp, wp (fSeq c fl) env Q Xp → wp fl env (fun hs e => mo (ims hs) fun ds => ds.length ≤ 1000000 ∧ Q (c ds) e) Xp := fun env Q Xp h => by
  unfold fSeq at h
  rw [wp_bd] at h
  refine wp_mono h fun hs e h => ?_
  cases z : ims hs with
  | none =>
    rw [z] at h
    exact h
  | some ds =>
    rw [z] at h
    have h' : (ol (gSeq c ds) e).on Q Xp := h
    rw [on_ol] at h'
    unfold gSeq at h'
    by_cases q : ds.length ≤ 1000000
    · rw [if_pos q] at h'
      exact ⟨q, h'⟩
    · rw [if_neg q] at h'
      exact h'.elim
def fLst := fSeq D.lst
def fTup := fSeq D.tup
theorem kf_lst (h : KA X W es fl) : KF X W (.List es pos) (fLst fl) := QF.le (qf_lst h) leSeq
theorem ke_tup {x1} (h : KA X W es fl) : KE X W (.Tuple es x1 pos) (fTup fl) := QE.le (qe_tup h) leSeq
end
end TL

namespace TL
open PySem PySem.Spec L2
section
variable {X : Cx} {W : WX} {a b c e : Expr} {es : List Expr} {pos p : Pos} {st : Stmt} {l : List Stmt} {fa fb : FO} {f g : FE} {fl : FA} {ft fu : FT}
/-! sums: ints, texts, lists, tuples -/
theorem Sem2F.sem {K : PySem.W.Frag} {r : R2} {k : D → D → (D → Prop) → Prop} (h : Sem2F K r k) : Sem2 K r k := fun G H d1 d2 v1 v2 P Q s h1 h2 hk hq =>
  h G H d1 d2 v1 v2 P Q s h1 h2 hk fun d' p o hp ro hP => hq d' (.ref p) (upd G p o) (upd H p o) (Step.one s o hp) (RepO.rep upd_same (RepO.mono (same_new (s.free hp)) ro)) hP
def kCatS : D → D → (D → Prop) → Prop := fun d1 d2 P => mo (strOf d1) fun i => mo (strOf d2) fun j => i.length + j.length ≤ 1000000 ∧ P (.str (i ++ j))
theorem sem_catS {K : PySem.W.Frag} : Sem2 K (fun x y H Q => ∃ i j, x = .str i ∧ y = .str j ∧ i.length + j.length ≤ sizeLine ∧ Q (.str (i ++ j)) H) kCatS := fun G H d1 d2 v1 v2 P Q s h1 h2 hk hq => by
  obtain ⟨i, z1, hk⟩ := mo_some hk
  obtain ⟨j, z2, hl, hk⟩ := mo_some hk
  rw [strOf_some z1] at h1
  rw [strOf_some z2] at h2
  exact ⟨i, j, h1, h2, line_le hl, hq (.str (i ++ j)) _ G H (.refl s) rfl hk⟩
def kCatT : D → D → (D → Prop) → Prop := fun d1 d2 P => mo (tupOf d1) fun xs => mo (tupOf d2) fun ys => xs.length + ys.length ≤ 1000000 ∧ P (.tup (xs ++ ys))
theorem sem_catT {K : PySem.W.Frag} : Sem2 K (rCatA K) kCatT := fun G H d1 d2 v1 v2 P Q s h1 h2 hk hq => by
  obtain ⟨xs, z1, hk⟩ := mo_some hk
  obtain ⟨ys, z2, hl, hk⟩ := mo_some hk
  rw [tupOf_some z1] at h1
  rw [tupOf_some z2] at h2
  obtain ⟨p1, vs, rfl, t1, r1, g1⟩ := h1
  obtain ⟨p2, us, rfl, t2, r2, g2⟩ := h2
  have hn : ∀ p, H p = none → Q (.ref p) (upd H p (.tup (vs ++ us))) := fun p hp => by
    refine hq _ _ (upd G p (.tup (vs ++ us))) _ (Step.one s _ hp) ?_ hk
    unfold Rep
    exact ⟨p, vs ++ us, rfl, SqT.of upd_same, Reps.mono (same_new (s.free hp)) _ _ (Reps.append r1 r2)⟩
  have hn2 : ∀ (d' : D) (v : V), Rep K G d' v → d' = .tup (xs ++ ys) → Q v H := fun d' v rp e => hq d' v G H (.refl s) rp (by rw [e]; exact hk)
  have n1 : vs = [] → xs = [] := fun e => by
    have := r1.length
    rw [e] at this
    exact List.eq_nil_of_length_eq_zero this.symm
  have n2 : us = [] → ys = [] := fun e => by
    have := r2.length
    rw [e] at this
    exact List.eq_nil_of_length_eq_zero this.symm
  refine ⟨p1, p2, vs, us, rfl, rfl, t1, t2, ?_, fun e => hn2 (.tup ys) _ ?_ (by rw [n1 e]; rfl), fun _ e => hn2 (.tup xs) _ ?_ (by rw [n2 e, List.append_nil]), fun _ _ => hn⟩
  · rw [r1.length, r2.length]
    exact line_le hl
  · unfold Rep
    exact ⟨p2, us, rfl, g2, r2⟩
  · unfold Rep
    exact ⟨p1, vs, rfl, g1, r1⟩
def gAdd (d1 d2 : D) : Option D := match d1, d2 with
  | .int i, .int j => some (.int (i + j))
  | .str i, .str j => if i.length + j.length ≤ 1000000 then some (.str (i ++ j)) else none
  | .lst xs, .lst ys => if xs.length + ys.length ≤ 1000000 then some (.lst (xs ++ ys)) else none
  | .tup xs, .tup ys => if xs.length + ys.length ≤ 1000000 then some (.tup (xs ++ ys)) else none
  | _, _ => none
theorem if_p {p : Prop} [Decidable p] {d : D} {P : D → Prop} (h : mo (if p then some d else none) P) : p ∧ P d := by
  by_cases q : p
  · rw [if_pos q] at h
    exact ⟨q, h⟩
  · rw [if_neg q] at h
    exact h.elim
theorem ke_add (ha : KO X W a fa) (hb : KO X W b fb) : KE X W (.BinOp a .Add b pos) (f2 gAdd fa fb) :=
  QE.le (qe_op (OpR.or op_add (OpR.or op_add_str (OpR.or op_catS op_catA))) (sem_or (k := kAdd) (sem_rI0 fun _ _ _ => rfl) (sem_or sem_catS (sem_or sem_cat.sem sem_catT))) ha hb) (le2 fun d d' P h => by
    unfold gAdd at h
    split at h
    · exact .inl h
    · exact .inr (.inl (if_p h))
    · exact .inr (.inr (.inl (if_p h)))
    · exact .inr (.inr (.inr (if_p h)))
    · exact h.elim)
def gCat (d1 d2 : D) : Option D := match d1, d2 with
  | .lst xs, .lst ys => if xs.length + ys.length ≤ 1000000 then some (.lst (xs ++ ys)) else none
  | _, _ => none
theorem kf_cat (ha : KO X W a fa) (hb : KO X W b fb) : KF X W (.BinOp a .Add b pos) (f2 gCat fa fb) := QF.le (qf_cat ha hb) (le2 fun d d' P h => by
    unfold gCat at h
    split at h
    · exact if_p h
    · exact h.elim)
/-! indexes, slices -/
def gIx (d1 d2 : D) : Option D := match seqOf d1 with
  | some ds => (match d2 with
    | .int i => atI ds i
    | _ => none)
  | none => none
theorem ke_ix (ha : KO X W a fa) (hb : KO X W b fb) (hs : PlainIx b) : KE X W (.Subscript a b pos) (f2 gIx fa fb) := QE.le (qe_ix ha hb hs) (le2 fun d d' P h => by
  unfold gIx at h
  unfold kIx
  cases z : seqOf d with
  | none =>
    rw [z] at h
    exact h
  | some ds =>
    rw [z] at h
    cases d' with
    | int i => exact h
    | _ => exact h.elim)
def fpNone : FP := fun env => .ok none env
def fpSome (f : FE) : FP := fun env => (f env).bd fun d e => match d with
  | .int i => .ok (some i) e
  | _ => .bad
abbrev KP (X : Cx) (W : WX) (e : Option Expr) (f : FP) : Prop := QP X W e (wp f)
theorem kp_none : KP X W none fpNone := QP.le qp_none fun env Q Xp h => h
theorem kp_some (h : KE X W e f) : KP X W (some e) (fpSome f) := QP.le (qp_some h) fun env Q Xp h => by
  unfold fpSome at h
  rw [wp_bd] at h
  refine wp_mono h fun d e h => ?_
  cases d with
  | int i => exact h
  | _ => exact h.elim
def fSl (fa : FO) (fl fh : FP) : FE := fun env => (fa env).bd fun h e1 => (fl e1).bd fun lo e2 => (fh e2).bd fun hi e3 => match hv e3 h with
  | some (.lst ds) => .ok (.lst (cutD ds lo hi)) e3
  | _ => .bad
theorem kf_sl {lo hi : Option Expr} {pl ph : FP} {p2 : Pos} (ha : KO X W a fa) (hl : KP X W lo pl) (hh : KP X W hi ph) : KF X W (.Subscript a (.Slice lo hi none p2) pos) (fSl fa pl ph) := QF.le (qf_sl ha hl hh) fun env Q Xp h => by
  unfold fSl at h
  rw [wp_bd] at h
  refine wp_mono (f := fa) h fun h1 e1 h => ?_
  rw [Re.on_bd] at h
  refine wp_mono (f := pl) h fun lo e2 h => ?_
  rw [Re.on_bd] at h
  refine wp_mono (f := ph) h fun hi e3 h => ?_
  cases z : hv e3 h1 with
  | none =>
    rw [z] at h
    exact h
  | some d =>
    rw [z] at h
    cases d with
    | lst ds => exact h
    | _ => exact h.elim
/-! builtins -/
def g1' (g : D → Option D) (ds : List D) : Option D := match ds with
  | [d] => g d
  | _ => none
theorem hk1 {g : D → Option D} {k : D → (D → Prop) → Prop} (hk : ∀ d P, mo (g d) P → k d P) : ∀ ds P, mo (g1' g ds) P → mo (one ds) fun d => k d P := fun ds P h => by
  match ds, h with
  | [], h => exact h.elim
  | [d], h => exact hk d P h
  | _ :: _ :: _, h => exact h.elim
theorem wN_nil {k : List D → (D → Prop) → Prop} {env : Ev} {Q : D → Ev → Prop} {Xp : XP} (h : wN k (wp (fCons fa fNil)) env Q Xp) : wN k (aCons (wp fa) aNil) env Q Xp := by
  have h' : wp (fCons fa fNil) env _ Xp := h
  unfold fCons at h'
  rw [wp_bd] at h'
  exact wp_mono (f := fa) h' fun hd e h => h
def gLen (d : D) : Option D := match seqOf d with
  | some xs => some (.int xs.length)
  | none => none
theorem ke_len (hm : X.mg "len" = none) (ha : KO X W e fa) (hg : Gl X "len" := by rfl) (he : starEach [e] X.env = (false, eval e X.env) :: starEach [] X.env := by rfl) (hpl : (backTo pos (starEach [] X.env)).any (·.1) = false := by rfl) :
    KE X W (.Call (.Name "len" p) [e] [] pos) (fN (g1' gLen) (fCons fa fNil)) := QE.le (qe_len hm ha hg he hpl) fun env Q Xp h => by
  refine wN_nil (leN (k := kLen) (hk1 fun d P h => ?_) env Q Xp h)
  unfold gLen at h
  cases z : seqOf d with
  | none =>
    rw [z] at h
    exact h
  | some xs =>
    rw [z] at h
    exact h
def gAbs (d : D) : Option D := match d with
  | .int i => some (.int (if i < 0 then -i else i))
  | _ => none
theorem ke_abs (hm : X.mg "abs" = none) (ha : KO X W e fa) (hg : Gl X "abs" := by rfl) (he : starEach [e] X.env = (false, eval e X.env) :: starEach [] X.env := by rfl) (hpl : (backTo pos (starEach [] X.env)).any (·.1) = false := by rfl) :
    KE X W (.Call (.Name "abs" p) [e] [] pos) (fN (g1' gAbs) (fCons fa fNil)) := QE.le (qe_abs hm ha hg he hpl) fun env Q Xp h => by
  refine wN_nil (leN (k := kAbs) (hk1 fun d P h => ?_) env Q Xp h)
  cases d with
  | int i => exact h
  | _ => exact h.elim
def gInt (d : D) : Option D := match d with
  | .int i => some (.int i)
  | .bl b => some (.int (if b = true then 1 else 0))
  | _ => none
theorem ke_intc (hm : X.mg "int" = none) (ha : KO X W e fa) (hg : Gl X "int" := by rfl) (he : starEach [e] X.env = (false, eval e X.env) :: starEach [] X.env := by rfl) (hpl : (backTo pos (starEach [] X.env)).any (·.1) = false := by rfl) :
    KE X W (.Call (.Name "int" p) [e] [] pos) (fN (g1' gInt) (fCons fa fNil)) := QE.le (qe_intc hm ha hg he hpl) fun env Q Xp h => by
  refine wN_nil (leN (k := kInt) (hk1 fun d P h => ?_) env Q Xp h)
  cases d with
  | int i => exact h
  | bl b => exact h
  | _ => exact h.elim
def gListOf (d : D) : Option D := match seqOf d with
  | some xs => some (.lst xs)
  | none => none
def gTupOf (d : D) : Option D := match seqOf d with
  | some xs => some (.tup xs)
  | none => none
theorem kf_list (hm : X.mg "list" = none) (ha : KO X W e fa) (hg : Gl X "list" := by rfl) (he : starEach [e] X.env = (false, eval e X.env) :: starEach [] X.env := by rfl) (hpl : (backTo pos (starEach [] X.env)).any (·.1) = false := by rfl) :
    KF X W (.Call (.Name "list" p) [e] [] pos) (fN (g1' gListOf) (fCons fa fNil)) := QF.le (qf_list hm ha hg he hpl) fun env Q Xp h => by
  refine wN_nil (leN (k := kList) (hk1 fun d P h => ?_) env Q Xp h)
  unfold gListOf at h
  cases z : seqOf d with
  | none =>
    rw [z] at h
    exact h
  | some xs =>
    rw [z] at h
    exact h
theorem ke_tuple (hm : X.mg "tuple" = none) (ha : KO X W e fa) (hg : Gl X "tuple" := by rfl) (he : starEach [e] X.env = (false, eval e X.env) :: starEach [] X.env := by rfl) (hpl : (backTo pos (starEach [] X.env)).any (·.1) = false := by rfl) :
    KE X W (.Call (.Name "tuple" p) [e] [] pos) (fN (g1' gTupOf) (fCons fa fNil)) := QE.le (qe_tuple hm ha hg he hpl) fun env Q Xp h => by
  refine wN_nil (leN (k := kTuple) (hk1 fun d P h => ?_) env Q Xp h)
  unfold gTupOf at h
  cases z : seqOf d with
  | none =>
    rw [z] at h
    exact h
  | some xs =>
    rw [z] at h
    exact h
def gSum (d : D) : Option D := match d with
  | .lst xs => (match intsOf xs with
    | some ns => some (.int ns.sum)
    | none => none)
  | _ => none
def maxI : List Int → Int
  | [] => 0
  | [i] => i
  | i :: t => if maxI t ≤ i then i else maxI t
def minI : List Int → Int
  | [] => 0
  | [i] => i
  | i :: t => if i ≤ minI t then i else minI t
def gMM (m : List Int → Int) (d : D) : Option D := match d with
  | .lst xs => (match intsOf xs with
    | some ns => if ns = [] then none else some (.int (m ns))
    | none => none)
  | _ => none
def g2' (g : Int → Int → D) (ds : List D) : Option D := match ds with
  | [d, d'] => gI0 g d d'
  | _ => none
/-! classes, fields -/
variable {tb : List CI} {ks : List Str}
def gIsi (tb : List CI) (cs : List Cn) (d : D) : Option D := match tagOf tb d with
  | some g => some (.bl (cs.any (isa g)))
  | none => none
theorem hk_isi {cs : List Cn} : ∀ d P, mo (gIsi tb cs d) P → kIsi tb cs d P := fun d P h => by
  unfold gIsi at h
  unfold kIsi
  cases z : tagOf tb d with
  | none =>
    rw [z] at h
    exact h
  | some g =>
    rw [z] at h
    exact h
theorem ke_isi {cl : Expr} {cn : Cn} (T : CT X.K tb ks) (hk : cnOk ks cn = true) (hm : X.mg "isinstance" = none) (ha : KO X W e fa) (hc : PCn X cl cn) (hg : Gl X "isinstance" := by rfl)
    (he : starEach [e, cl] X.env = (false, eval e X.env) :: starEach [cl] X.env := by rfl) (he2 : starEach [cl] X.env = (false, eval cl X.env) :: starEach [] X.env := by rfl) (hpl : (backTo pos (starEach [cl] X.env)).any (·.1) = false := by rfl) :
    KE X W (.Call (.Name "isinstance" p) [e, cl] [] pos) (f1 (gIsi tb [cn]) fa) := QE.le (qe_isi T hk hm ha hc hg he he2 hpl) (le1 hk_isi)
theorem ke_isiT {cls : List Expr} {cns : List Cn} {k1 : Nat} {tp : Pos} (T : CT X.K tb ks) (hk : cns.all (cnOk ks) = true) (hl : cns.length ≤ 100) (hm : X.mg "isinstance" = none) (ha : KO X W e fa) (hc : PCns X cls cns) (hg : Gl X "isinstance" := by rfl)
    (he : starEach [e, .Tuple cls k1 tp] X.env = (false, eval e X.env) :: starEach [.Tuple cls k1 tp] X.env := by rfl) (he2 : starEach [.Tuple cls k1 tp] X.env = (false, eval (.Tuple cls k1 tp) X.env) :: starEach [] X.env := by rfl) (hpl : (backTo pos (starEach [.Tuple cls k1 tp] X.env)).any (·.1) = false := by rfl) :
    KE X W (.Call (.Name "isinstance" p) [e, .Tuple cls k1 tp] [] pos) (f1 (gIsi tb cns) fa) := QE.le (qe_isiT T hk hl hm ha hc hg he he2 hpl) (le1 hk_isi)
def gFld (tb : List CI) (f : Str) (d : D) : Option D := if fldOk tb f d = true then fldOf f d else none
theorem ke_fld {f : Str} (T : CT X.K tb ks) (ha : KO X W e fa) (hb : attributeBase e f X.env (eval e X.env) = eval e X.env := by rfl) : KE X W (.Attribute e f pos) (f1 (gFld tb f) fa) := QE.le (qe_fld T ha hb) (le1 fun d P h => by
  unfold gFld at h
  unfold kFld
  cases z : fldOk tb f d with
  | false =>
    rw [z] at h
    exact h.elim
  | true =>
    rw [z] at h
    exact ⟨rfl, h⟩)
/-! list(range(n)), a new list times an int -/
def gLR (d : D) : Option D := match d with
  | .int n => if 0 ≤ n ∧ n ≤ 1000000 then some (.lst (rgD 0 n.toNat)) else none
  | _ => none
def fLR (f : FE) : FE := fun env => (f env).bd fun d e => ol (gLR d) e
def gRep (d d' : D) : Option D := match d, d' with
  | .lst ds, .int k => if -1000000 ≤ k ∧ k ≤ 1000000 ∧ ds.length * k.toNat ≤ 1000000 then some (.lst (List.replicate k.toNat ds).flatten) else none
  | _, _ => none
def fRep (fa fb : FE) : FE := fun env => (fa env).bd fun d e1 => (fb e1).bd fun d' e2 => ol (gRep d d') e2
end
end TL

namespace TL
open PySem PySem.Spec L2
/-! statements -/
inductive Sr where
  | nx (e : Ev) | rt (d : D) (e : Ev) | ro (d : D) (e : Ev) | bk (e : Ev) | ct (e : Ev) | xc (x : Xn) (e : Ev) | bad
def Sr.on (r : Sr) (E : En) : Prop := match r with
  | .nx e => E.nx e
  | .rt d e => E.rt d e
  | .ro d e => E.ro d e
  | .bk e => E.bk e
  | .ct e => E.ct e
  | .xc x e => E.xc x e
  | .bad => False
abbrev FS := Ev → Sr
def ws (f : FS) : WS := fun env E => (f env).on E
/-- behind an expression -/
def Re.st {α : Type} (r : Re α) (k : α → Ev → Sr) : Sr := match r with
  | .ok a e => k a e
  | .xc x e => .xc x e
  | .bad => .bad
theorem Re.on_st {α : Type} {r : Re α} {k : α → Ev → Sr} {E : En} : (r.st k).on E = r.on (fun a e => (k a e).on E) E.xc := by
  cases r <;> rfl
def Sr.sq (r : Sr) (k : FS) : Sr := match r with
  | .nx e => k e
  | .rt d e => .rt d e
  | .ro d e => .ro d e
  | .bk e => .bk e
  | .ct e => .ct e
  | .xc x e => .xc x e
  | .bad => .bad
theorem Sr.on_sq {r : Sr} {k : FS} {E : En} : (r.sq k).on E = r.on { E with nx := fun e => (k e).on E } := by
  cases r <;> rfl
theorem on_iteS {b : Bool} {x y : Sr} {E : En} : (if b = true then x else y).on E = if b = true then x.on E else y.on E := by
  cases b <;> rfl
section
variable {X : Cx} {W : WX} {a b c e : Expr} {es : List Expr} {pos p : Pos} {st : Stmt} {l : List Stmt} {fa fb : FO} {f g : FE} {fl : FA} {ft fu : FT} {s u : FS} {rest : List Stmt}
abbrev KS (X : Cx) (W : WX) (st : Stmt) (s : FS) : Prop := QS X W st (ws s)
abbrev KSs (X : Cx) (W : WX) (l : List Stmt) (s : FS) : Prop := QSs X W l (ws s)
def cNext : FS := fun env => .nx env
def cSeq (s u : FS) : FS := fun env => (s env).sq u
theorem kss_nil : KSs X W [] cNext := QSs.le qss_nil fun env E h => h
theorem kss_one (h : KS X W st s) : KSs X W [st] s := qss_one h
theorem kss_cons (h1 : KS X W st s) (h2 : KSs X W rest u) : KSs X W (st :: rest) (cSeq s u) := QSs.le (qss_cons h1 h2) fun env E h => by
  unfold ws cSeq at h
  rw [Sr.on_sq] at h
  exact h
def cBreak : FS := fun env => .bk env
def cCont : FS := fun env => .ct env
def cDrop (f : FO) : FS := fun env => (f env).st fun _ e => .nx e
theorem ks_expr (he : KO X W e fa) (hs : swapsWith e none pos.line X.env = pure false := by rfl) : KS X W (.Expr e pos) (cDrop fa) := QS.le (qs_expr he hs) fun env E h => by
  unfold ws cDrop at h
  rw [Re.on_st] at h
  exact h
def cRet (f : FE) : FS := fun env => (f env).st fun d e => .rt d e
theorem ks_ret (he : KE X W e f) : KS X W (.Return (some e) pos) (cRet f) := QS.le (qs_ret he) fun env E h => by
  unfold ws cRet at h
  rw [Re.on_st] at h
  exact h
def cRetF (f : FE) : FS := fun env => (f env).st fun d e => .ro d e
theorem ks_retF (he : KF X W e f) : KS X W (.Return (some e) pos) (cRetF f) := QS.le (qs_retF he) fun env E h => by
  unfold ws cRetF at h
  rw [Re.on_st] at h
  exact h
def cRetO (i : Nat) : FS := fun env => match lowAt env i with
  | some d => .ro d env
  | none => .bad
theorem ks_retO (i : Nat) {n : Str} {np : Pos} (hN : X.N[i]? = some n := by rfl) (hvs : Vis X.env.scope n := by first | exact Or.inl rfl | exact Or.inr (Or.inl rfl) | exact Or.inr (Or.inr rfl)) (hd : (n == ("__debug__" : Str)) = false := by decide)
    (hcd : (n == ("__classdict__" : Str)) = false := by decide) : KS X W (.Return (some (.Name n np)) pos) (cRetO i) := QS.le (qs_retO i hN hvs hd hcd) fun env E h => by
  unfold ws cRetO at h
  unfold sRetO
  cases z : lowAt env i with
  | none =>
    rw [z] at h
    exact h
  | some d =>
    rw [z] at h
    exact h
def cRetN : FS := fun env => .rt .non env
def cIf (ft : FT) (s u : FS) : FS := fun env => (ft env).st fun k e => if k = true then s e else u e
theorem ks_if {l1 l2 : List Stmt} (hc : KT X W c ft) (ha : KSs X W l1 s) (hb : KSs X W l2 u) : KS X W (.If c l1 l2 pos) (cIf ft s u) := QS.le (qs_if hc ha hb) fun env E h => by
  unfold ws cIf at h
  rw [Re.on_st] at h
  refine wp_mono (f := ft) h fun k e h => ?_
  rw [on_iteS] at h
  exact h
/-! targets -/
abbrev FG := D → Ev → Option Ev
abbrev FGs := List D → Ev → Option Ev
def wg (g : FG) : WG := fun d env Q => mo (g d env) Q
def wgs (g : FGs) : WGs := fun d env Q => mo (g d env) Q
abbrev KG (X : Cx) (e : Expr) (g : FG) : Prop := QG X e (wg g)
abbrev KGs (X : Cx) (es : List Expr) (g : FGs) : Prop := QGs X es (wgs g)
def tN (i : Nat) : FG := fun d env => if nr env i = true then some (env.set i (.im d)) else none
def tNil : FGs := fun ds env => match ds with
  | [] => some env
  | _ => none
def tCons (g : FG) (u : FGs) : FGs := fun ds env => match ds with
  | [] => none
  | d :: r => (g d env).bind (u r)
def tT (u : FGs) (n : Nat) : FG := fun d env => match d with
  | .tup ds => if ds.length = n then u ds env else none
  | _ => none
theorem mo_bind {α β : Type} {o : Option α} {k : α → Option β} {Q : β → Prop} : mo (o.bind k) Q = mo o fun a => mo (k a) Q := by
  cases o <;> rfl
theorem mo_if {α : Type} {p : Prop} [Decidable p] {o : Option α} {P : α → Prop} (h : mo (if p then o else none) P) : p ∧ mo o P := by
  by_cases q : p
  · rw [if_pos q] at h
    exact ⟨q, h⟩
  · rw [if_neg q] at h
    exact h.elim
theorem kg_name {i : Nat} {n : Str} (hN : X.N.Nodup) (hi : X.N[i]? = some n) (hx : Loc X.env.scope n) (hf : X.fn n = true ∨ X.env.scope.names.lookup n = some .local := by first | exact .inl rfl | exact .inr rfl | assumption) : KG X (.Name n pos) (tN i) := QG.le (qg_name hN hi hx hf) fun d env Q h => by
  unfold wg tN at h
  exact mo_if h
theorem kgs_nil : KGs X [] tNil := QGs.le qgs_nil fun ds env Q h => by
  match ds, h with
  | [], h => exact ⟨rfl, h⟩
  | _ :: _, h => exact h.elim
theorem kgs_cons {g : FG} {gu : FGs} (h1 : KG X e g) (h2 : KGs X es gu) (hs : (assignEach (e :: es) X.env).map (·.2) = assign e X.env :: (assignEach es X.env).map (·.2) := by rfl) : KGs X (e :: es) (tCons g gu) := QGs.le (qgs_cons h1 h2 hs) fun ds env Q h => by
  match ds, h with
  | [], h => exact h.elim
  | d :: r, h =>
    have h' : mo ((g d env).bind (gu r)) Q := h
    rw [mo_bind] at h'
    exact h'
theorem kg_tup {k n : Nat} {gu : FGs} (hc : X.calm = true) (h : KGs X es gu) (hn : (assignEach es X.env).length = n := by rfl) (hst : (assignEach es X.env).findIdx? (·.1) = none := by rfl) : KG X (.Tuple es k pos) (tT gu n) := QG.le (qg_tup hc h hn hst) fun d env Q h => by
  cases d with
  | tup ds => exact mo_if h
  | _ => exact h.elim
def ofG (o : Option Ev) : Sr := match o with
  | some e => .nx e
  | none => .bad
def cAsg (f : FE) (g : FG) : FS := fun env => (f env).st fun d e => ofG (g d e)
theorem on_ofG {o : Option Ev} {E : En} : (ofG o).on E = mo o E.nx := by
  cases o <;> rfl
theorem leAsgN {i : Nat} : ∀ env E, ws (cAsg f (tN i)) env E → sAsg (wp f) (gN i) env E := fun env E h => by
  unfold ws cAsg at h
  rw [Re.on_st] at h
  refine wp_mono (f := f) h fun d e h => ?_
  rw [on_ofG] at h
  exact mo_if h
theorem ks_set {i : Nat} {n : Str} {pos' : Pos} (hN : X.N.Nodup) (hi : X.N[i]? = some n) (hx : Loc X.env.scope n) (he : KE X W e f) (hs : swapsWith e (some (.Name n pos')) pos.line X.env = pure false := by rfl) (hf : X.fn n = true ∨ X.env.scope.names.lookup n = some .local := by first | exact .inl rfl | exact .inr rfl | assumption) :
    KS X W (.Assign [.Name n pos'] e pos) (cAsg f (tN i)) := QS.le (qs_set hN hi hx he hs hf) leAsgN
def setO (e : Ev) (i : Nat) (d : D) : Sr := if nr e i = true then .nx (e.set i (.ow false d)) else .bad
def cOwn (f : FE) (i : Nat) : FS := fun env => (f env).st fun d e => setO e i d
theorem on_if {p : Prop} [Decidable p] {x : Sr} {E : En} (h : (if p then x else .bad).on E) : p ∧ x.on E := by
  by_cases q : p
  · rw [if_pos q] at h
    exact ⟨q, h⟩
  · rw [if_neg q] at h
    exact h.elim
theorem leOwn {i : Nat} : ∀ env E, ws (cOwn f i) env E → sOwn (wp f) i env E := fun env E h => by
  unfold ws cOwn at h
  rw [Re.on_st] at h
  refine wp_mono (f := f) h fun d e h => ?_
  exact on_if h
theorem ks_own {i : Nat} {n : Str} {pos' : Pos} (hN : X.N.Nodup) (hi : X.N[i]? = some n) (hx : Loc X.env.scope n) (he : KF X W e f) (hs : swapsWith e (some (.Name n pos')) pos.line X.env = pure false := by rfl) (hf : X.fn n = true ∨ X.env.scope.names.lookup n = some .local := by first | exact .inl rfl | exact .inr rfl | assumption) :
    KS X W (.Assign [.Name n pos'] e pos) (cOwn f i) := QS.le (qs_own hN hi hx he hs hf) leOwn
def cPar (f g : FE) (i j : Nat) : FS := fun env => (f env).st fun d e1 => (g e1).st fun d' e2 => if nr e2 i = true ∧ nr e2 j = true then .nx ((e2.set i (.im d)).set j (.im d')) else .bad
def cParF (f g : FE) (i j : Nat) : FS := fun env => (f env).st fun d e1 => (g e1).st fun d' e2 => if nr e2 i = true ∧ nr e2 j = true then .nx ((e2.set j (.im d')).set i (.ow false d)) else .bad
def cFrz (i : Nat) (s : FS) : FS := fun env => match lowAt env i with
  | some d => s (env.set i (.im d))
  | none => .bad
/-! forgetting slots -/
def Sr.fg (is : List Nat) (r : Sr) : Sr := match r with
  | .nx e => if nrs e is = true then .nx (noE e is) else .bad
  | .rt d e => if nrs e is = true then .rt d (noE e is) else .bad
  | .ro d e => if nrs e is = true then .ro d (noE e is) else .bad
  | .bk e => if nrs e is = true then .bk (noE e is) else .bad
  | .ct e => if nrs e is = true then .ct (noE e is) else .bad
  | .xc x e => if nrs e is = true then .xc x (noE e is) else .bad
  | .bad => .bad
def En.fg (is : List Nat) (E : En) : En where
  nx := fun e => nrs e is = true ∧ E.nx (noE e is)
  rt := fun d e => nrs e is = true ∧ E.rt d (noE e is)
  ro := fun d e => nrs e is = true ∧ E.ro d (noE e is)
  bk := fun e => nrs e is = true ∧ E.bk (noE e is)
  ct := fun e => nrs e is = true ∧ E.ct (noE e is)
  xc := fun x e => nrs e is = true ∧ E.xc x (noE e is)
theorem Sr.on_fg {is : List Nat} {r : Sr} {E : En} (h : (r.fg is).on E) : r.on (E.fg is) := by
  cases r with
  | bad => exact h
  | _ => exact on_if h
theorem ER.fgt {K : PySem.W.Frag} {x : Fx} {G H : Hp} {σ : St} {e : Ev} {is : List Nat} (r : ER K x G H σ e) (hn : nrs e is = true) : ER K x G H σ (noE e is) := r.reslot rfl (fun _ _ => rfl) hn
theorem SEnd.fg {K : PySem.W.Frag} {x : Fx} {G : Hp} {De : Ends} {E : En} {is : List Nat} (h : SEnd K W x G De E) : SEnd K W x G De (E.fg is) where
  nx := fun env' σ' G' H' s r q => h.nx _ σ' G' H' s (r.fgt q.1) q.2
  rt := fun d env' σ' v G' H' s r rp q => h.rt d _ σ' v G' H' s (r.fgt q.1) rp q.2
  ro := fun d env' σ' p o G' H' s r a1 a2 a3 a4 a5 q => h.ro d _ σ' p o G' H' s (r.fgt q.1) a1 a2 a3 a4 a5 q.2
  bk := fun env' σ' G' H' s r q => h.bk _ σ' G' H' s (r.fgt q.1) q.2
  ct := fun env' σ' G' H' s r q => h.ct _ σ' G' H' s (r.fgt q.1) q.2
  xc := fun e env' cls dd σ' G' H' s r xr q => h.xc e _ cls dd σ' G' H' s (r.fgt q.1) xr q.2
def cKil (is : List Nat) (s : FS) : FS := fun env => (s env).fg is
theorem kss_kil (is : List Nat) {l : List Stmt} (h : KSs X W l s) : KSs X W l (cKil is s) := L2.PSs.le h fun De σ H h => by
  obtain ⟨x, G, env, E', r, hw, hE⟩ := h
  exact ⟨x, G, env, E'.fg is, r, Sr.on_fg hw, hE.fg⟩
/-! loops -/
def forL (g : FG) (b : FS) : List D → FS
  | [], e => .nx e
  | d :: ds, e => match g d e with
    | none => .bad
    | some e1 => match b e1 with
      | .nx e2 => forL g b ds e2
      | .ct e2 => forL g b ds e2
      | .bk e2 => .nx e2
      | r => r
def cFor (fi : FI) (g : FG) (b : FS) : FS := fun env => (fi env).st fun ds e => forL g b ds e
theorem forL_cons {g : FG} {b : FS} {d : D} {ds : List D} {e : Ev} {E : En} (h : (forL g b (d :: ds) e).on E) : wg g d e fun e1 => ws b e1 { E with nx := fun e2 => (forL g b ds e2).on E, ct := fun e2 => (forL g b ds e2).on E, bk := E.nx } := by
  unfold wg
  have h' : Sr.on (match g d e with | none => .bad | some e1 => match b e1 with | .nx e2 => forL g b ds e2 | .ct e2 => forL g b ds e2 | .bk e2 => .nx e2 | r => r) E := h
  cases z : g d e with
  | none =>
    rw [z] at h'
    exact h'
  | some e1 =>
    rw [z] at h'
    show (b e1).on _
    dsimp only at h'
    cases y : b e1 with
    | bad =>
      rw [y] at h'
      exact h'
    | _ =>
      rw [y] at h'
      exact h'
abbrev KIt (X : Cx) (W : WX) (tg iter : Expr) (f : FI) : Prop := QI X W tg iter (wp f)
theorem ks_for {tg iter : Expr} {body : List Stmt} {fi : FI} {gg : FG} (hp : PassesOwn (model X.prog X.w) X.A X.env X.xe) (hc : X.calm = true) (hi : KIt X W tg iter fi) (hg : KG X tg gg) (hb : KSs X W body s) (hs : ∀ x, foldedSetIterable iter X.env x = pure x := by intro _; rfl) :
    KS X W (.For tg iter body [] pos) (cFor fi gg s) := QS.le (qs_for hp hc hi hg hb hs) fun env E h => by
  unfold ws cFor at h
  rw [Re.on_st] at h
  refine wp_mono (f := fi) h fun ds e0 h => ?_
  refine ⟨fun i e => (forL gg s (ds.drop i) e).on E, h, fun i d e hd hi => ?_, fun e he => ?_⟩
  · have hl : i < ds.length := (List.getElem?_eq_some_iff.mp hd).1
    have ed : ds.drop i = d :: ds.drop (i + 1) := by
      rw [List.drop_eq_getElem_cons hl]
      congr 1
      rw [List.getElem?_eq_getElem hl] at hd
      exact Option.some.inj hd
    have hi' : (forL gg s (ds.drop i) e).on E := hi
    rw [ed] at hi'
    exact forL_cons hi'
  · have he' : (forL gg s (ds.drop ds.length) e).on E := he
    rw [List.drop_length] at he'
    exact he'
def whL (ft : FT) (b : FS) : Nat → FS
  | 0, _ => .bad
  | n + 1, e => (ft e).st fun k e1 => if k = true then (match b e1 with
      | .nx e2 => whL ft b n e2
      | .ct e2 => whL ft b n e2
      | .bk e2 => .nx e2
      | r => r) else .nx e1
def fuel : Nat := 1000000000
def cWhile (ft : FT) (b : FS) : FS := fun env => whL ft b fuel env
/-! what is gone through -/
def fiBy (k : D → Option (List D)) (f : FE) : FI := fun env => (f env).bd fun d e => ol (k d) e
theorem leBy {k : D → Option (List D)} : ∀ env Q Xp, wp (fiBy k f) env Q Xp → wp f env (fun d e => mo (k d) fun ds => Q ds e) Xp := fun env Q Xp h => by
  unfold fiBy at h
  rw [wp_bd] at h
  refine wp_mono h fun d e h => ?_
  rw [on_ol] at h
  exact h
/-- a list or a tuple: both ways of going through -/
theorem ki_seq {tg : Expr} (h : KE X W e f) : KIt X W tg e (fiBy seqOf f) := ((qi_list h).or (qi_tup h)).le fun σ H R h => by
  obtain ⟨x, G, env, Q', X', r, hw, hn, hx⟩ := h
  have hw' := leBy _ _ _ hw
  unfold wp at hw'
  cases z : f env with
  | bad =>
    rw [z] at hw'
    exact hw'.elim
  | xc x' e' =>
    rw [z] at hw'
    refine .inl ⟨x, G, env, Q', X', r, ?_, hn, hx⟩
    show (f env).on _ _
    rw [z]
    exact hw'
  | ok d e' =>
    rw [z] at hw'
    obtain ⟨ds, z2, hw'⟩ := mo_some hw'
    rcases seqOf_some z2 with rfl | rfl
    · refine .inl ⟨x, G, env, Q', X', r, ?_, hn, hx⟩
      show (f env).on _ _
      rw [z]
      exact hw'
    · refine .inr ⟨x, G, env, Q', X', r, ?_, hn, hx⟩
      show (f env).on _ _
      rw [z]
      exact hw'
def enOfD (d : D) : Option (List D) := match seqOf d with
  | some ds => some (enD ds)
  | none => none
theorem ki_enum {elts : List Expr} {kk : Nat} {tpos : Pos} (hm : X.mg "enumerate" = none) (ha : KE X W e f) (hg : Gl X "enumerate" := by rfl) (hs : starEach [e] X.env = [(false, eval e X.env)] := by rfl) (hs2 : starEach [e] X.env = (false, eval e X.env) :: starEach [] X.env := by rfl) :
    KIt X W (.Tuple elts kk tpos) (.Call (.Name "enumerate" p) [e] [] pos) (fiBy enOfD f) := ((qi_enum hm ha hg hs hs2).or (qi_enumT hm ha hg hs hs2)).le fun σ H R h => by
  obtain ⟨x, G, env, Q', X', r, hw, hn, hx⟩ := h
  have hw' := leBy _ _ _ hw
  unfold wp at hw'
  cases z : f env with
  | bad =>
    rw [z] at hw'
    exact hw'.elim
  | xc x' e' =>
    rw [z] at hw'
    refine .inl ⟨x, G, env, Q', X', r, ?_, hn, hx⟩
    show (f env).on _ _
    rw [z]
    exact hw'
  | ok d e' =>
    rw [z] at hw'
    have hw2 : mo (enOfD d) fun ds => Q' ds e' := hw'
    unfold enOfD at hw2
    cases y : seqOf d with
    | none =>
      rw [y] at hw2
      exact hw2.elim
    | some ds =>
      rw [y] at hw2
      rcases seqOf_some y with rfl | rfl
      · refine .inl ⟨x, G, env, Q', X', r, ?_, hn, hx⟩
        show (f env).on _ _
        rw [z]
        exact hw2
      · refine .inr ⟨x, G, env, Q', X', r, ?_, hn, hx⟩
        show (f env).on _ _
        rw [z]
        exact hw2
def bnd (j : Int) : Bool := decide (-1000000000000000000 ≤ j) && decide (j ≤ 1000000000000000000)
theorem bnd_ok {j : Int} (h : bnd j = true) : -1000000000000000000 ≤ j ∧ j ≤ 1000000000000000000 := by
  unfold bnd at h
  simpa using h
def rg1 (d : D) : Option (List D) := match d with
  | .int j => if bnd j = true then some (rgD 0 j.toNat) else none
  | _ => none
def rg2 (d d' : D) : Option (List D) := match d, d' with
  | .int i, .int j => if bnd i = true ∧ bnd j = true then some (rgD i (j - i).toNat) else none
  | _, _ => none
theorem ki_range1 {tg : Expr} (hm : X.mg "range" = none) (ha : KE X W e f) (hg : Gl X "range" := by rfl) (hs : starEach [e] X.env = [(false, eval e X.env)] := by rfl) (hs2 : starEach [e] X.env = (false, eval e X.env) :: starEach [] X.env := by rfl) :
    KIt X W tg (.Call (.Name "range" p) [e] [] pos) (fiBy rg1 f) := QI.le (qi_range1 hm ha hg hs hs2) fun env Q Xp h => wp_mono (leBy env Q Xp h) fun d e h => by
  cases d with
  | int j =>
    obtain ⟨q, h⟩ := mo_if h
    exact ⟨bnd_ok q, h⟩
  | _ => exact h.elim
def fiR2 (f g : FE) : FI := fun env => (f env).bd fun d e => (g e).bd fun d' e2 => ol (rg2 d d') e2
end
end TL

namespace TL
open PySem PySem.Spec L2
/-! functions -/
inductive Fr where
  | rt (d : D) (sl : List Sl) | ro (d : D) (sl : List Sl) | xc (x : Xn) (sl : List Sl) | bad
def Fr.on (r : Fr) (R : Rn) : Prop := match r with
  | .rt d sl => R.rt d sl
  | .ro d sl => R.ro d sl
  | .xc x sl => R.xc x sl
  | .bad => False
abbrev Fn := List Sl → Fr
def TF (F : Fn) : SpT := fun sl R => (F sl).on R
def Sr.fr (r : Sr) (sl : List Sl) : Fr := match r with
  | .nx e => .rt .non (outs sl e)
  | .rt d e => .rt d (outs sl e)
  | .ro d e => .ro d (outs sl e)
  | .xc x e => .xc x (outs sl e)
  | _ => .bad
def fnF (k n : Nat) (b : FS) : Fn := fun sl => if sl.length = n then (b (sl ++ List.replicate (k - sl.length) .no)).fr sl else .bad
theorem tf_len {k n : Nat} {b : FS} : ∀ sl R, TF (fnF k n b) sl R → sl.length = n := fun sl R h => by
  unfold TF fnF at h
  by_cases q : sl.length = n
  · exact q
  · rw [if_neg q] at h
    exact h.elim
theorem tf_sem {N : List Str} {n : Nat} {b : FS} : ∀ sl R, TF (fnF N.length n b) sl R → ws b (envOf N sl) (enOf sl R) := fun sl R h => by
  unfold TF fnF at h
  by_cases q : sl.length = n
  · rw [if_pos q] at h
    unfold ws envOf
    cases z : b (sl ++ List.replicate (N.length - sl.length) .no) with
    | bk e =>
      rw [z] at h
      exact h.elim
    | ct e =>
      rw [z] at h
      exact h.elim
    | _ =>
      rw [z] at h
      exact h
  · rw [if_neg q] at h
    exact h.elim
/-- a call by value -/
def callF (F : Fn) (hs : List Hd) (e : Ev) : Re D := if ndup (ows hs) = true then (match slsOf e hs with
    | some sl => (match F sl with
      | .rt d sl' => .ok d (backE e hs sl')
      | .xc x sl' => .xc x (backE e hs sl')
      | _ => .bad)
    | none => .bad) else .bad
def callO (F : Fn) (hs : List Hd) (e : Ev) : Re D := if ndup (ows hs) = true then (match slsOf e hs with
    | some sl => (match F sl with
      | .ro d sl' => .ok d (backE e hs sl')
      | .xc x sl' => .xc x (backE e hs sl')
      | _ => .bad)
    | none => .bad) else .bad
def fCall (F : Fn) (fl : FA) : FE := fun env => (fl env).bd (callF F)
def fCallO (F : Fn) (fl : FA) : FE := fun env => (fl env).bd (callO F)
theorem on_if_re {α : Type} {p : Prop} [Decidable p] {x : Re α} {Q : α → Ev → Prop} {Xp : XP} (h : (if p then x else .bad).on Q Xp) : p ∧ x.on Q Xp := by
  by_cases q : p
  · rw [if_pos q] at h
    exact ⟨q, h⟩
  · rw [if_neg q] at h
    exact h.elim
theorem callF_ok {F : Fn} {hs : List Hd} {e : Ev} {Q : D → Ev → Prop} {Xp : XP} (h : (callF F hs e).on Q Xp) : ndup (ows hs) = true ∧ mo (slsOf e hs) fun sl => TF F sl ⟨fun d sl' => Q d (backE e hs sl'), fun _ _ => False, fun y sl' => Xp y (backE e hs sl')⟩ := by
  obtain ⟨q, h⟩ := on_if_re h
  refine ⟨q, ?_⟩
  cases z : slsOf e hs with
  | none =>
    rw [z] at h
    exact h
  | some sl =>
    rw [z] at h
    show TF F sl _
    unfold TF
    dsimp only at h
    cases y : F sl with
    | ro d sl' =>
      rw [y] at h
      exact h
    | _ =>
      rw [y] at h
      exact h
theorem callO_ok {F : Fn} {hs : List Hd} {e : Ev} {Q : D → Ev → Prop} {Xp : XP} (h : (callO F hs e).on Q Xp) : ndup (ows hs) = true ∧ mo (slsOf e hs) fun sl => TF F sl ⟨fun _ _ => False, fun d sl' => Q d (backE e hs sl'), fun y sl' => Xp y (backE e hs sl')⟩ := by
  obtain ⟨q, h⟩ := on_if_re h
  refine ⟨q, ?_⟩
  cases z : slsOf e hs with
  | none =>
    rw [z] at h
    exact h
  | some sl =>
    rw [z] at h
    show TF F sl _
    unfold TF
    dsimp only at h
    cases y : F sl with
    | rt d sl' =>
      rw [y] at h
      exact h
    | _ =>
      rw [y] at h
      exact h
section
variable {fl : FA} {fr : FO} {F : Fn}
theorem leCall : ∀ env Q Xp, wp (fCall F fl) env Q Xp → wCall (TF F) (wp fl) env Q Xp := fun env Q Xp h => by
  unfold fCall at h
  rw [wp_bd] at h
  exact wp_mono (f := fl) h fun hs e h => callF_ok h
theorem leCallO : ∀ env Q Xp, wp (fCallO F fl) env Q Xp → wCallF (TF F) (wp fl) env Q Xp := fun env Q Xp h => by
  unfold fCallO at h
  rw [wp_bd] at h
  exact wp_mono (f := fl) h fun hs e h => callO_ok h
/-! methods -/
def methF (m : Str) (Fs : List (Str × Fn)) (fl : FA) (h : Hd) (e : Ev) : Re D := match hv e h with
  | some (.ins c ns _) => if ns.contains m = false then (match Fs.lookup c with
      | some F => (fl e).bd fun hs e2 => callF F (h :: hs) e2
      | none => .bad) else .bad
  | _ => .bad
def fMeth (m : Str) (Fs : List (Str × Fn)) (fr : FO) (fl : FA) : FE := fun env => (fr env).bd (methF m Fs fl)
def TFs (Fs : List (Str × Fn)) : List (Str × SpT) := Fs.map fun q => (q.1, TF q.2)
theorem look_TFs {c : Str} : ∀ {Fs : List (Str × Fn)}, (TFs Fs).lookup c = (Fs.lookup c).map TF
  | [] => rfl
  | (k, F) :: Fs => by
    show List.lookup c ((k, TF F) :: TFs Fs) = _
    rw [List.lookup_cons, List.lookup_cons, look_TFs]
    cases c == k <;> rfl
theorem leMeth {m : Str} {Fs : List (Str × Fn)} {wl : WA} (hl : ∀ env Q Xp, wp fl env Q Xp → wl env Q Xp) : ∀ env Q Xp, wp (fMeth m Fs fr fl) env Q Xp → wMeth m (TFs Fs) (wp fr) wl env Q Xp := fun env Q Xp h => by
  unfold fMeth at h
  rw [wp_bd] at h
  refine wp_mono (f := fr) h fun hd e h => ?_
  unfold methF at h
  cases z : hv e hd with
  | none =>
    rw [z] at h
    exact h
  | some d =>
    rw [z] at h
    cases d with
    | ins c ns ds =>
      obtain ⟨q, h⟩ := on_if_re h
      refine ⟨q, ?_⟩
      show mo ((TFs Fs).lookup c) _
      rw [look_TFs]
      cases y : Fs.lookup c with
      | none =>
        rw [y] at h
        exact h
      | some F =>
        rw [y] at h
        dsimp only at h
        rw [Re.on_bd] at h
        exact hl _ _ _ (wp_mono (f := fl) h fun hs e2 h => callF_ok h)
    | _ => exact h.elim
theorem leMeth0 {m : Str} {Fs : List (Str × Fn)} : ∀ env Q Xp, wp (fMeth m Fs fr fNil) env Q Xp → wMeth m (TFs Fs) (wp fr) aNil env Q Xp := leMeth fun _ _ _ h => h
/-! makers -/
def makeF (c : Str) (F : Fn) (hs : List Hd) (e : Ev) : Re D := if ndup (ows hs) = true then (match slsOf e hs with
    | some sl => (match F (.ow true (.ins c [] []) :: sl) with
      | .rt .non (.ow _ o :: sl') => .ok o (backE e hs sl')
      | .xc x (.ow _ _ :: sl') => .xc x (backE e hs sl')
      | _ => .bad)
    | none => .bad) else .bad
def fMake (c : Str) (F : Fn) (fl : FA) : FE := fun env => (fl env).bd (makeF c F)
theorem leMake {c : Str} {wl : WA} (hl : ∀ env Q Xp, wp fl env Q Xp → wl env Q Xp) : ∀ env Q Xp, wp (fMake c F fl) env Q Xp → wMake c (TF F) wl env Q Xp := fun env Q Xp h => by
  unfold fMake at h
  rw [wp_bd] at h
  refine hl _ _ _ (wp_mono (f := fl) h fun hs e h => ?_)
  obtain ⟨q, h⟩ := on_if_re h
  refine ⟨q, ?_⟩
  cases z : slsOf e hs with
  | none =>
    rw [z] at h
    exact h
  | some sl =>
    rw [z] at h
    show TF F _ _
    unfold TF
    dsimp only at h
    split at h
    · rename_i y
      rw [y]
      exact ⟨rfl, h⟩
    · rename_i y
      rw [y]
      exact h
    · exact h.elim
theorem leMake1 {c : Str} : ∀ env Q Xp, wp (fMake c F fl) env Q Xp → wMake c (TF F) (wp fl) env Q Xp := leMake fun _ _ _ h => h
end
/-! list comprehensions -/
def lcL (tu : Bool) (is : List Nat) (ft : FT) (fe : FE) : List D → Ev → Re (List D)
  | [], e => .ok [] e
  | d :: ds, e => match tOne tu 0 d with
    | none => .bad
    | some vs => if nrs e is = true ∧ vs.length = is.length then (match ft (setE e is vs) with
      | .ok b e2 => if b = true then (match fe e2 with
          | .ok y e3 => if nrs e3 is = true then (lcL tu is ft fe ds (noE e3 is)).bd fun r e4 => .ok (y :: r) e4 else .bad
          | _ => .bad)
        else if nrs e2 is = true then lcL tu is ft fe ds (noE e2 is) else .bad
      | _ => .bad) else .bad
def lcEnd (r : Re (List D)) : Re D := match r with
  | .ok ds e => if ds.length ≤ 1000000 then .ok (.lst ds) e else .bad
  | _ => .bad
def fLc (fi : FI) (tu : Bool) (is : List Nat) (ft : FT) (fe : FE) : FE := fun env => (fi env).bd fun ds e0 => if nrs e0 is = true then lcEnd (lcL tu is ft fe ds (noE e0 is)) else .bad
section
variable {fi : FI} {tu : Bool} {is : List Nat} {ft : FT} {fe : FE}
theorem leLc : ∀ env Q Xp, wp (fLc fi tu is ft fe) env Q Xp → wLc (wp fi) tu is (wp ft) (wp fe) env Q Xp := fun env Q Xp h => by
  unfold fLc at h
  rw [wp_bd] at h
  refine wp_mono (f := fi) h fun ds e0 h => ?_
  obtain ⟨q, h⟩ := on_if_re h
  refine ⟨q, ?_⟩
  refine ⟨fun k acc e => ∃ r e', lcL tu is ft fe (ds.drop k) e = .ok r e' ∧ (acc ++ r).length ≤ 1000000 ∧ Q (.lst (acc ++ r)) e', ?_, fun k d acc e hd hi => ?_, fun acc e he => ?_⟩
  · cases z : lcL tu is ft fe ds (noE e0 is) with
    | ok r e' =>
      rw [z] at h
      obtain ⟨q, h⟩ := on_if_re h
      exact ⟨r, e', z, q, h⟩
    | xc x e' =>
      rw [z] at h
      exact h.elim
    | bad =>
      rw [z] at h
      exact h.elim
  · obtain ⟨r, e', hr, hn, hq⟩ := hi
    have hl : k < ds.length := (List.getElem?_eq_some_iff.mp hd).1
    have ed : ds.drop k = d :: ds.drop (k + 1) := by
      rw [List.drop_eq_getElem_cons hl]
      congr 1
      rw [List.getElem?_eq_getElem hl] at hd
      exact Option.some.inj hd
    rw [ed] at hr
    unfold lcL at hr
    cases z : tOne tu 0 d with
    | none =>
      rw [z] at hr
      cases hr
    | some vs =>
      rw [z] at hr
      dsimp only at hr
      by_cases c : nrs e is = true ∧ vs.length = is.length
      · rw [if_pos c] at hr
        refine ⟨c.1, c.2, ?_⟩
        show (ft (setE e is vs)).on _ _
        cases y : ft (setE e is vs) with
        | ok b e2 =>
          rw [y] at hr
          dsimp only at hr
          show (if b = true then _ else _)
          cases b with
          | true =>
            rw [if_pos rfl] at hr ⊢
            show (fe e2).on _ _
            cases x : fe e2 with
            | ok y' e3 =>
              rw [x] at hr
              dsimp only at hr
              by_cases c3 : nrs e3 is = true
              · rw [if_pos c3] at hr
                refine ⟨c3, ?_⟩
                cases w : lcL tu is ft fe (ds.drop (k + 1)) (noE e3 is) with
                | ok r2 e4 =>
                  rw [w] at hr
                  have hr' : Re.ok (y' :: r2) e4 = Re.ok r e' := hr
                  cases hr'
                  refine ⟨?_, r2, _, w, ?_, ?_⟩
                  · rw [List.length_append, List.length_cons] at hn
                    omega
                  · rw [List.append_assoc]
                    exact hn
                  · rw [List.append_assoc]
                    exact hq
                | xc x2 e4 =>
                  rw [w] at hr
                  cases hr
                | bad =>
                  rw [w] at hr
                  cases hr
              · rw [if_neg c3] at hr
                cases hr
            | xc x2 e4 =>
              rw [x] at hr
              cases hr
            | bad =>
              rw [x] at hr
              cases hr
          | false =>
            rw [if_neg Bool.false_ne_true] at hr ⊢
            by_cases c3 : nrs e2 is = true
            · rw [if_pos c3] at hr
              exact ⟨c3, r, e', hr, hn, hq⟩
            · rw [if_neg c3] at hr
              cases hr
        | xc x2 e4 =>
          rw [y] at hr
          cases hr
        | bad =>
          rw [y] at hr
          cases hr
      · rw [if_neg c] at hr
        cases hr
  · obtain ⟨r, e', hr, hn, hq⟩ := he
    rw [List.drop_length] at hr
    cases hr
    rw [List.append_nil] at hq
    exact hq
def fYes : FT := fun env => .ok true env
variable {X : Cx} {W : WX} {c e : Expr} {es : List Expr}
abbrev KTs (X : Cx) (W : WX) (ifs : List Expr) (f : FT) : Prop := QTs X W ifs (wp f)
theorem kts_nil : KTs X W [] fYes := QTs.le qts_nil fun env Q Xp h => h
theorem kts_one (h : KT X W c ft) : KTs X W [c] ft := qts_one h
end
/-! owned lists, instances, dicts -/
section
variable {fl : FA} {f g : FE} {tb : List CI}
def fOm (gm : List D → List D → Option (D × List D)) (i : Nat) (fl : FA) : FE := fun env => match owAt env i with
  | some (.lst _) => (fl env).bd fun hs e => (match ims hs with
    | some as => (match owAt e i with
      | some (.lst ds) => (match gm ds as with
        | some q => .ok q.1 (putOw e i (.lst q.2))
        | none => .bad)
      | _ => .bad)
    | none => .bad)
  | _ => .bad
theorem leOm {k : List D → List D → (D → List D → Prop) → Prop} {gm : List D → List D → Option (D × List D)} {i : Nat} {wl : WA} (hk : ∀ ds as P, mo (gm ds as) (fun q => P q.1 q.2) → k ds as P) (hl : ∀ env Q Xp, wp fl env Q Xp → wl env Q Xp) :
    ∀ env Q Xp, wp (fOm gm i fl) env Q Xp → oMeth k i wl env Q Xp := fun env Q Xp h => by
  unfold wp fOm at h
  unfold oMeth
  cases z : owAt env i with
  | none =>
    rw [z] at h
    exact h.elim
  | some o0 =>
    rw [z] at h
    cases o0 with
    | lst ds0 =>
      dsimp only at h
      rw [Re.on_bd] at h
      refine hl _ _ _ (wp_mono (f := fl) h fun hs e h => ?_)
      cases y : ims hs with
      | none =>
        rw [y] at h
        exact h.elim
      | some as =>
        rw [y] at h
        dsimp only at h
        show mo (owAt e i) _
        cases x : owAt e i with
        | none =>
          rw [x] at h
          exact h.elim
        | some o =>
          rw [x] at h
          cases o with
          | lst ds =>
            dsimp only at h
            show k ds as _
            refine hk ds as _ ?_
            cases w : gm ds as with
            | none =>
              rw [w] at h
              exact h.elim
            | some q =>
              rw [w] at h
              exact h
          | _ => exact h.elim
    | _ => exact h.elim
def mmAppend (ds as : List D) : Option (D × List D) := match as with
  | [d] => if ds.length < 1000000 then some (.non, ds ++ [d]) else none
  | _ => none
theorem hk_append : ∀ ds as P, mo (mmAppend ds as) (fun q => P q.1 q.2) → mAppend ds as P := fun ds as P h => by
  match as, h with
  | [], h => exact h.elim
  | [d], h => exact mo_if h
  | _ :: _ :: _, h => exact h.elim
def mmPopAt (ds as : List D) : Option (D × List D) := match as with
  | [.int i] => if ds.length ≤ 1000000 then (match seqIndex? i ds.length with
    | some k => (match ds[k]? with
      | some y => some (y, ds.eraseIdx k)
      | none => none)
    | none => none) else none
  | _ => none
/-- xs[i] = e -/
def cSetIx (i : Nat) (fi fe : FE) : FS := fun env => (fe env).st fun d e1 => match owAt e1 i with
  | some _ => (fi e1).st fun di e2 => (match di with
    | .int k => (match owAt e2 i with
      | some (.lst ds) => (match ixN ds.length k with
        | some j => .nx (putOw e2 i (.lst (ds.set j d)))
        | none => .bad)
      | _ => .bad)
    | _ => .bad)
  | none => .bad
theorem leSetIx {i : Nat} : ∀ env E, ws (cSetIx i f g) env E → sSetIx i (wp f) (wp g) env E := fun env E h => by
  unfold ws cSetIx at h
  rw [Re.on_st] at h
  refine wp_mono (f := g) h fun d e1 h => ?_
  cases z : owAt e1 i with
  | none =>
    rw [z] at h
    exact h
  | some o =>
    rw [z] at h
    dsimp only at h
    rw [Re.on_st] at h
    refine wp_mono (f := f) h fun di e2 h => ?_
    cases di with
    | int k =>
      dsimp only at h
      show mo (owAt e2 i) _
      cases y : owAt e2 i with
      | none =>
        rw [y] at h
        exact h.elim
      | some o =>
        rw [y] at h
        cases o with
        | lst ds =>
          dsimp only at h
          show mo (ixN ds.length k) _
          cases x : ixN ds.length k with
          | none =>
            rw [x] at h
            exact h.elim
          | some j =>
            rw [x] at h
            exact h
        | _ => exact h.elim
    | _ => exact h.elim
/-- o.f = e -/
def cFld (tb : List CI) (i : Nat) (fn : Str) (fe : FE) : FS := fun env => (fe env).st fun d e => match owAt e i with
  | some (.ins c ns ds) => if fldOk tb fn (.ins c ns ds) = true ∧ ns.length < 900 then .nx (putOw e i (.ins c (putD fn d ns ds).1 (putD fn d ns ds).2)) else .bad
  | _ => .bad
theorem leFld {i : Nat} {fn : Str} : ∀ env E, ws (cFld tb i fn f) env E → sFldD tb i fn (wp f) env E := fun env E h => by
  unfold ws cFld at h
  rw [Re.on_st] at h
  refine wp_mono (f := f) h fun d e h => ?_
  cases z : owAt e i with
  | none =>
    rw [z] at h
    exact h.elim
  | some o =>
    rw [z] at h
    cases o with
    | ins c ns ds =>
      obtain ⟨q, h⟩ := on_if h
      exact ⟨q.1, q.2, h⟩
    | _ => exact h.elim
def fDic0 : FE := fun env => .ok (.dic [] []) env
theorem leDic0 : ∀ env Q Xp, wp fDic0 env Q Xp → wDic0 env Q Xp := fun _ _ _ h => h
def foGet2 (i : Nat) (fk fx : FE) : FE := fun env => match owAt env i with
  | some (.dic _ _) => (fk env).bd fun dk e1 => (fx e1).bd fun dx e2 => (match owAt e2 i with
    | some (.dic ks ds) => (match keyOf dk with
      | some k => .ok ((dval ks ds k).getD dx) e2
      | none => .bad)
    | _ => .bad)
  | _ => .bad
def foGet (i : Nat) (fk : FE) : FE := fun env => match owAt env i with
  | some (.dic _ _) => (fk env).bd fun dk e1 => (match owAt e1 i with
    | some (.dic ks ds) => (match keyOf dk with
      | some k => ol (dval ks ds k) e1
      | none => .bad)
    | _ => .bad)
  | _ => .bad
def cDPut (i : Nat) (fk fe : FE) : FS := fun env => (fe env).st fun d e1 => match owAt e1 i with
  | some (.dic _ _) => (fk e1).st fun dk e2 => (match owAt e2 i with
    | some (.dic ks ds) => (match keyOf dk with
      | some k => if ks.length < 1000000 then .nx (putOw e2 i (.dic (dput ks ds k d).1 (dput ks ds k d).2)) else .bad
      | none => .bad)
    | _ => .bad)
  | _ => .bad
/-! raise, try -/
def cRaise (cn fn : Str) (f : FE) : FS := fun env => (f env).st fun d e => .xc ⟨cn, [fn], [d]⟩ e
def cRaise0 (cn : Str) : FS := fun env => .xc ⟨cn, [], []⟩ env
theorem leRaise {cn fn : Str} : ∀ env E, ws (cRaise cn fn f) env E → sRaise cn fn (wp f) env E := fun env E h => by
  unfold ws cRaise at h
  rw [Re.on_st] at h
  exact h
def cNever : FS := fun _ => .bad
/-- the same for every place of the exception -/
noncomputable def uni (f : Addr → Option Addr → Sr) : Sr := open Classical in if ∀ a dd, f a dd = f 0 none then f 0 none else .bad
theorem uni_on {f : Addr → Option Addr → Sr} {E : En} (h : (uni f).on E) (a : Addr) (dd : Option Addr) : (f a dd).on E := by
  unfold uni at h
  by_cases q : ∀ a dd, f a dd = f 0 none
  · rw [if_pos q] at h
    rw [q a dd]
    exact h
  · rw [if_neg q] at h
    exact h.elim
theorem uni_eq {f : Addr → Option Addr → Sr} {r : Sr} (h : ∀ a dd, f a dd = r) : uni f = r := by
  unfold uni
  rw [if_pos fun a dd => (h a dd).trans (h 0 none).symm]
  exact h 0 none
/-- no exception leaves a suite -/
def Sr.noX (r : Sr) : Sr := match r with
  | .nx e => .nx e
  | .rt d e => .rt d e
  | .bk e => .bk e
  | .ct e => .ct e
  | _ => .bad
noncomputable def cTryAs (xt : List XI) (h : Str) (i : Nat) (b : FS) (sf : Addr → Str → Option Addr → FS) : FS := fun env => match b env with
  | .xc x e => (match xiOf xt x.c with
    | some k => if (k.anc.contains h) = true then (if nr e i = true then uni fun a dd => ((sf a x.c dd (e.set i (.im (.exc a dd x.ns x.ds)))).fg [i]).noX else .bad) else .xc x e
    | none => .bad)
  | r => r
def cTryO (xt : List XI) (h : Str) (b : FS) (sf : FS) : FS := fun env => match b env with
  | .xc x e => (match xiOf xt x.c with
    | some k => if (k.anc.contains h) = true then (sf e).noX else .xc x e
    | none => .bad)
  | r => r
theorem nr_no {e : Ev} {i : Nat} : nr (noE e [i]) i = true := by
  unfold nr
  by_cases hl : i < e.length
  · rw [noE_at (List.mem_singleton.mpr rfl) hl]
  · rw [List.getElem?_eq_none (by rw [noE_length]; omega)]
theorem no_no {e : Ev} {i : Nat} : (noE e [i]).set i .no = noE e [i] := List.set_set ..
theorem fgX {i : Nat} {r : Sr} {E : En} (h : ((r.fg [i]).noX).on E) : (r.fg [i]).on (asEn i E) := by
  have st : ∀ {P : Ev → Prop} {e : Ev}, P (noE e [i]) → nr (noE e [i]) i = true ∧ P ((noE e [i]).set i .no) := fun {P e} hp => ⟨nr_no, by rw [no_no]; exact hp⟩
  cases r with
  | nx e =>
    have h' : (Sr.noX (if nrs e [i] = true then .nx (noE e [i]) else .bad)).on E := h
    show (if nrs e [i] = true then Sr.nx (noE e [i]) else .bad).on _
    by_cases c : nrs e [i] = true
    · rw [if_pos c] at h' ⊢
      exact st (P := E.nx) h'
    · rw [if_neg c] at h'
      exact h'.elim
  | rt d e =>
    have h' : (Sr.noX (if nrs e [i] = true then .rt d (noE e [i]) else .bad)).on E := h
    show (if nrs e [i] = true then Sr.rt d (noE e [i]) else .bad).on _
    by_cases c : nrs e [i] = true
    · rw [if_pos c] at h' ⊢
      exact h'
    · rw [if_neg c] at h'
      exact h'.elim
  | bk e =>
    have h' : (Sr.noX (if nrs e [i] = true then .bk (noE e [i]) else .bad)).on E := h
    show (if nrs e [i] = true then Sr.bk (noE e [i]) else .bad).on _
    by_cases c : nrs e [i] = true
    · rw [if_pos c] at h' ⊢
      exact st (P := E.bk) h'
    · rw [if_neg c] at h'
      exact h'.elim
  | ct e =>
    have h' : (Sr.noX (if nrs e [i] = true then .ct (noE e [i]) else .bad)).on E := h
    show (if nrs e [i] = true then Sr.ct (noE e [i]) else .bad).on _
    by_cases c : nrs e [i] = true
    · rw [if_pos c] at h' ⊢
      exact st (P := E.ct) h'
    · rw [if_neg c] at h'
      exact h'.elim
  | ro d e =>
    have h' : (Sr.noX (if nrs e [i] = true then .ro d (noE e [i]) else .bad)).on E := h
    by_cases c : nrs e [i] = true
    · rw [if_pos c] at h'
      exact h'.elim
    · rw [if_neg c] at h'
      exact h'.elim
  | xc d e =>
    have h' : (Sr.noX (if nrs e [i] = true then .xc d (noE e [i]) else .bad)).on E := h
    by_cases c : nrs e [i] = true
    · rw [if_pos c] at h'
      exact h'.elim
    · rw [if_neg c] at h'
      exact h'.elim
  | bad => exact h
theorem noX_on {r : Sr} {E : En} (h : r.noX.on E) : r.on { nx := E.nx, rt := E.rt, bk := E.bk, ct := E.ct } := by
  cases r with
  | ro _ _ => exact h.elim
  | xc _ _ => exact h.elim
  | _ => exact h
def fXf (xf : List (Str × Str)) (a : Addr) (c : Str) (dd : Option Addr) (fn : Str) (i : Nat) : FE := fun env => match imAt env i with
  | some (.exc a' dd' ns ds) => if a' = a ∧ dd' = dd ∧ xf.contains (c, fn) = true then ol ((ns.zip ds).lookup fn) env else .bad
  | _ => .bad
theorem leXf {xf : List (Str × Str)} {a : Addr} {c : Str} {dd : Option Addr} {fn : Str} {i : Nat} : ∀ env Q Xp, wp (fXf xf a c dd fn i) env Q Xp → wXf xf a c dd fn i env Q Xp := fun env Q Xp h => by
  unfold wp fXf at h
  unfold wXf
  cases z : imAt env i with
  | none =>
    rw [z] at h
    exact h.elim
  | some t =>
    rw [z] at h
    cases t with
    | exc a' dd' ns ds =>
      obtain ⟨q, h⟩ := on_if_re h
      rw [on_ol] at h
      exact ⟨q.1, q.2.1, q.2.2, h⟩
    | _ => exact h.elim
/-! chained comparisons -/
def fChain (k k' : D → D → Option D) (fa fb fc : FO) : FE := fun env => (fa env).bd fun h1 e1 => (fb e1).bd fun h2 e2 => match hv e2 h1 with
  | some d1 => (match hv e2 h2 with
    | some d2 => (match k d1 d2 with
      | some (.bl t) => if t = true then (fc e2).bd fun h3 e3 => (match hv e3 h2 with
          | some d2' => (match hv e3 h3 with
            | some d3 => ol (k' d2' d3) e3
            | none => .bad)
          | none => .bad) else .ok (.bl false) e2
      | _ => .bad)
    | none => .bad)
  | none => .bad
theorem leChain {k k' : D → D → (D → Prop) → Prop} {g g' : D → D → Option D} (hk : ∀ d d' P, mo (g d d') P → k d d' P) (hk' : ∀ d d' P, mo (g' d d') P → k' d d' P) {fa fb fc : FO} : ∀ env Q Xp, wp (fChain g g' fa fb fc) env Q Xp → wChain k k' (wp fa) (wp fb) (wp fc) env Q Xp := fun env Q Xp h => by
  unfold fChain at h
  rw [wp_bd] at h
  refine wp_mono (f := fa) h fun h1 e1 h => ?_
  rw [Re.on_bd] at h
  refine wp_mono (f := fb) h fun h2 e2 h => ?_
  cases z : hv e2 h1 with
  | none =>
    rw [z] at h
    exact h
  | some d1 =>
    rw [z] at h
    dsimp only at h
    show mo (hv e2 h2) _
    cases y : hv e2 h2 with
    | none =>
      rw [y] at h
      exact h
    | some d2 =>
      rw [y] at h
      dsimp only at h
      show k d1 d2 _
      refine hk d1 d2 _ ?_
      cases x : g d1 d2 with
      | none =>
        rw [x] at h
        exact h
      | some t =>
        rw [x] at h
        cases t with
        | bl t =>
          dsimp only at h
          rw [on_ite] at h
          show (if t = true then _ else _)
          cases t with
          | false => exact h
          | true =>
            rw [if_pos rfl] at h ⊢
            rw [Re.on_bd] at h
            refine wp_mono (f := fc) h fun h3 e3 h => ?_
            cases w : hv e3 h2 with
            | none =>
              rw [w] at h
              exact h
            | some d2' =>
              rw [w] at h
              dsimp only at h
              show mo (hv e3 h3) _
              cases v : hv e3 h3 with
              | none =>
                rw [v] at h
                exact h
              | some d3 =>
                rw [v] at h
                dsimp only at h
                rw [on_ol] at h
                exact hk' d2' d3 _ h
        | _ => exact h.elim
theorem leBChain {k k' : D → D → (D → Prop) → Prop} {g g' : D → D → Option D} (hk : ∀ d d' P, mo (g d d') P → k d d' P) (hk' : ∀ d d' P, mo (g' d d') P → k' d d' P) {fa fb fc : FO} : ∀ env Q Xp, wp (fB (fChain g g' fa fb fc)) env Q Xp → wB (wChain k k' (wp fa) (wp fb) (wp fc)) env Q Xp := fun env Q Xp h =>
  leChain hk hk' _ _ _ (leB env Q Xp h)
end
end TL
namespace TL
open PySem PySem.Spec L2
section
variable {X : Cx} {W : WX} {st : Stmt} {s : FS} {i : Nat}
def cPre (is : List Nat) (s : FS) : FS := fun env => if nrs env is = true then s (noE env is) else .bad
theorem ks_pre (is : List Nat) (h : KS X W st s) : KS X W st (cPre is s) := L2.PS.le h fun De σ H h => by
  obtain ⟨x, G, env, E', r, hw, hE⟩ := h
  obtain ⟨q, hw⟩ := on_if hw
  exact ⟨x, G, noE env is, E', r.fgt q, hw, hE⟩
theorem qs_le {w w' : WE} (i : ∀ env Q Xp, w' env Q Xp → w env Q Xp) {n : Nat} (h : PS X st (tAsg (lF X.K W w) (gName n))) : PS X st (tAsg (lF X.K W w') (gName n)) := L2.PS.le h fun De σ H h => by
  obtain ⟨x, G, env, Q', X', r, hw, hn, hx⟩ := h
  exact ⟨x, G, env, Q', X', r, i _ _ _ hw, hn, hx⟩
end
end TL

namespace TL
open PySem PySem.Spec L2 RZ PyProof.Rows
section
variable {X : Cx} {W : WX} {a b c e : Expr} {es : List Expr} {pos p : Pos} {st : Stmt} {l : List Stmt} {fa fb fc : FO} {f g : FE} {fl : FA} {ft fu : FT} {K : PySem.W.Frag}
/-! zip -/
def zpD (xs ys : List D) : List D := xs.zipWith (fun x y => D.tup [x, y]) ys
def zipD (d d' : D) : Option (List D) := match d, d' with
  | .lst xs, .lst ys => some (zpD xs ys)
  | .tup xs, .tup ys => some (zpD xs ys)
  | _, _ => none
def fiZip (f g : FE) : FI := fun env => (f env).bd fun d e => (g e).bd fun d' e2 => ol (zipD d d') e2
theorem _root_.L2.Room.u65 {k : Nat} {A : Around} (r : Room k A) : A.units + 65 < cLine := by have := r.un; omega
/-! in -/
def rInT (K : PySem.W.Frag) : R2 := fun x y H Q => ∃ d ds, Dp K H x d ∧ Dp K H y (.tuple ds) ∧ SeqAt.shaped d = true ∧ SeqAt.shaped (.tuple ds) = true ∧ Q (.bl (ds.any fun z => PyData.eqv z d)) H
def rNotInT (K : PySem.W.Frag) : R2 := fun x y H Q => ∃ d ds, Dp K H x d ∧ Dp K H y (.tuple ds) ∧ SeqAt.shaped d = true ∧ SeqAt.shaped (.tuple ds) = true ∧ Q (.bl (!ds.any fun z => PyData.eqv z d)) H
theorem op_inT (hu : X.A.units + 65 < cLine) : OpR X (compareOp .In) (rInT X.K) := by
  intro pins s σ H x y v u Q I rx ry h
  obtain ⟨d, ds, hd, he, sd, se, q⟩ := h
  obtain ⟨as, r1⟩ := Dp.reads I d x v hd rx
  obtain ⟨bs, r2⟩ := Dp.reads I (.tuple ds) y u he ry
  exact SeqAt.in_tuple_reads r2 r1 (SeqAt.canLay_of_shaped se) (SeqAt.canLay_of_shaped sd) (room_in_shaped sd hu) ⟨.bl _, H, I, rfl, q⟩
theorem op_notInT (hu : X.A.units + 65 < cLine) : OpR X (compareOp .NotIn) (rNotInT X.K) := by
  intro pins s σ H x y v u Q I rx ry h
  obtain ⟨d, ds, hd, he, sd, se, q⟩ := h
  obtain ⟨as, r1⟩ := Dp.reads I d x v hd rx
  obtain ⟨bs, r2⟩ := Dp.reads I (.tuple ds) y u he ry
  exact SeqAt.notIn_tuple_reads r2 r1 (SeqAt.canLay_of_shaped se) (SeqAt.canLay_of_shaped sd) (room_in_shaped sd hu) ⟨.bl _, H, I, rfl, q⟩
def inB (d : D) (ds : List D) : Bool := ds.any fun z => eqD z d
def kInS (neg : Bool) (d1 : D) (d2 : D) (P : D → Prop) : Prop := okD 16 d1 = true ∧ okD 16 d2 = true ∧ mo (lstOf d2) fun ds => P (.bl (neg ^^ inB d1 ds))
def kInU (neg : Bool) (d1 : D) (d2 : D) (P : D → Prop) : Prop := okD 16 d1 = true ∧ okD 16 d2 = true ∧ mo (tupOf d2) fun ds => P (.bl (neg ^^ inB d1 ds))
theorem any_pds (d : D) (ds : List D) : (pds ds).any (fun z => PyData.eqv z (pd d)) = inB d ds := by
  unfold inB
  induction ds with
  | nil =>
    unfold pds
    rfl
  | cons x ds ih =>
    unfold pds
    rw [List.any_cons, List.any_cons, ih]
    rfl
theorem sem_inL : Sem2 K (rInD K) (kInS false) := fun G H d1 d2 v1 v2 P Q s h1 h2 hk hq => by
  obtain ⟨o1, o2, hk⟩ := hk
  obtain ⟨ds, z, hk⟩ := mo_some hk
  rw [lstOf_some z] at h2 o2
  have p2 := RepT.dp s 16 _ _ o2 h2
  have s2 := okD_shaped (by decide) o2
  unfold pd at p2 s2
  refine ⟨pd d1, pds ds, RepT.dp s 16 d1 v1 o1 h1, p2, okD_shaped (by decide) o1, s2, hq _ _ G H (.refl s) ?_ hk⟩
  rw [any_pds, Bool.false_xor]
  rfl
theorem sem_notInL : Sem2 K (rNotInD K) (kInS true) := fun G H d1 d2 v1 v2 P Q s h1 h2 hk hq => by
  obtain ⟨o1, o2, hk⟩ := hk
  obtain ⟨ds, z, hk⟩ := mo_some hk
  rw [lstOf_some z] at h2 o2
  have p2 := RepT.dp s 16 _ _ o2 h2
  have s2 := okD_shaped (by decide) o2
  unfold pd at p2 s2
  refine ⟨pd d1, pds ds, RepT.dp s 16 d1 v1 o1 h1, p2, okD_shaped (by decide) o1, s2, hq _ _ G H (.refl s) ?_ hk⟩
  rw [any_pds, Bool.true_xor]
  rfl
theorem sem_inT : Sem2 K (rInT K) (kInU false) := fun G H d1 d2 v1 v2 P Q s h1 h2 hk hq => by
  obtain ⟨o1, o2, hk⟩ := hk
  obtain ⟨ds, z, hk⟩ := mo_some hk
  rw [tupOf_some z] at h2 o2
  have p2 := RepT.dp s 16 _ _ o2 h2
  have s2 := okD_shaped (by decide) o2
  unfold pd at p2 s2
  refine ⟨pd d1, pds ds, RepT.dp s 16 d1 v1 o1 h1, p2, okD_shaped (by decide) o1, s2, hq _ _ G H (.refl s) ?_ hk⟩
  rw [any_pds, Bool.false_xor]
  rfl
theorem sem_notInT : Sem2 K (rNotInT K) (kInU true) := fun G H d1 d2 v1 v2 P Q s h1 h2 hk hq => by
  obtain ⟨o1, o2, hk⟩ := hk
  obtain ⟨ds, z, hk⟩ := mo_some hk
  rw [tupOf_some z] at h2 o2
  have p2 := RepT.dp s 16 _ _ o2 h2
  have s2 := okD_shaped (by decide) o2
  unfold pd at p2 s2
  refine ⟨pd d1, pds ds, RepT.dp s 16 d1 v1 o1 h1, p2, okD_shaped (by decide) o1, s2, hq _ _ G H (.refl s) ?_ hk⟩
  rw [any_pds, Bool.true_xor]
  rfl
/-- a sign in a text -/
def kInC (neg : Bool) (d1 : D) (d2 : D) (P : D → Prop) : Prop := mo (strOf d2) fun z => ∃ ch : Nat, d1 = .str ⟨#[ch]⟩ ∧ P (.bl (neg ^^ decide (ch ∈ z.cps.toList)))
theorem sem_inC : Sem2 K (fun x y H Q => ∃ (c : Nat) (z : Str), x = .str ⟨#[c]⟩ ∧ y = .str z ∧ Q (.bl (decide (c ∈ z.cps.toList))) H) (kInC false) := fun G H d1 d2 v1 v2 P Q s h1 h2 hk hq => by
  obtain ⟨z, z2, ch, rfl, hk2⟩ := mo_some hk
  rw [strOf_some z2] at h2
  rw [Bool.false_xor] at hk2
  exact ⟨ch, z, h1, h2, hq (.bl _) _ G H (.refl s) rfl hk2⟩
theorem sem_notInC : Sem2 K (fun x y H Q => ∃ (c : Nat) (z : Str), x = .str ⟨#[c]⟩ ∧ y = .str z ∧ Q (.bl (!decide (c ∈ z.cps.toList))) H) (kInC true) := fun G H d1 d2 v1 v2 P Q s h1 h2 hk hq => by
  obtain ⟨z, z2, ch, rfl, hk2⟩ := mo_some hk
  rw [strOf_some z2] at h2
  rw [Bool.true_xor] at hk2
  exact ⟨ch, z, h1, h2, hq (.bl _) _ G H (.refl s) rfl hk2⟩
def gInA (neg : Bool) (d1 d2 : D) : Option D := match d2 with
  | .lst ds => if (okD 16 d1 && okD 16 d2) = true then some (.bl (neg ^^ inB d1 ds)) else none
  | .tup ds => if (okD 16 d1 && okD 16 d2) = true then some (.bl (neg ^^ inB d1 ds)) else none
  | .str z => (match d1 with
    | .str y => (match y.cps.toList with
      | [ch] => some (.bl (neg ^^ decide (ch ∈ z.cps.toList)))
      | _ => none)
    | _ => none)
  | _ => none
def gIn := gInA false
def gNotIn := gInA true
theorem hk_in {neg : Bool} : ∀ d d' P, mo (gInA neg d d') P → kInS neg d d' P ∨ kInU neg d d' P ∨ kInC neg d d' P := fun d d' P h => by
  cases d' with
  | lst ds =>
    obtain ⟨q, h⟩ := if_some h
    rw [Bool.and_eq_true] at q
    exact .inl ⟨q.1, q.2, h⟩
  | tup ds =>
    obtain ⟨q, h⟩ := if_some h
    rw [Bool.and_eq_true] at q
    exact .inr (.inl ⟨q.1, q.2, h⟩)
  | str z =>
    cases d with
    | str y =>
      have h' : mo (match y.cps.toList with | [ch] => some (D.bl (neg ^^ decide (ch ∈ z.cps.toList))) | _ => none) P := h
      split at h'
      · rename_i ch hc
        refine .inr (.inr ⟨ch, ?_, h'⟩)
        obtain ⟨⟨l⟩⟩ := y
        have hc' : l = [ch] := hc
        rw [hc']
      · exact h'.elim
    | _ => exact h.elim
  | _ => exact h.elim
theorem kc_in (hu1 : X.A.units + 65 < cLine) (ha : KO X W a fa) (hb : KO X W b fb) (hm : behindInMarks .In b = false := by first | exact nomark _ | rfl) : KC X W .In a b (f2 gIn fa fb) :=
  kc (qc (OpR.or (op_inD hu1) (OpR.or (op_inT hu1) op_in_sign)) (sem_or sem_inL (sem_or sem_inT sem_inC)) ha hb hm) (le2 hk_in)
theorem kc_notin (hu1 : X.A.units + 65 < cLine) (ha : KO X W a fa) (hb : KO X W b fb) (hm : behindInMarks .NotIn b = false := by first | exact nomark _ | rfl) : KC X W .NotIn a b (f2 gNotIn fa fb) :=
  kc (qc (OpR.or (op_notInD hu1) (OpR.or (op_notInT hu1) op_notIn_sign)) (sem_or sem_notInL (sem_or sem_notInT sem_notInC)) ha hb hm) (le2 hk_in)
/-! chained comparisons -/
def IC (X : Cx) (op : CmpOp) (g : D → D → Option D) : Prop := ∃ r k, OpR X (compareOp op) r ∧ Sem2 X.K r k ∧ ∀ d d' P, mo (g d d') P → k d d' P
theorem ic_le : IC X .LtE gLe := ⟨_, kLe, op_le, sem_rI0 fun _ _ _ => rfl, hk_I0⟩
theorem kt_chain {op op' : CmpOp} {g1 g2 : D → D → Option D} (i1 : IC X op g1) (i2 : IC X op' g2) (ha : KO X W a fa) (hb : KO X W b fb) (hc : KO X W c fc)
    (hm : lastMarks [op, op'] [b, c] = false := by with_unfolding_all rfl) : KT X W (.Compare a [op, op'] [b, c] pos) (fB (fChain g1 g2 fa fb fc)) := by
  obtain ⟨r, k, ho, hk, le⟩ := i1
  obtain ⟨r', k', ho', hk', le'⟩ := i2
  exact QT.le (qt_chain ho ho' hk hk' ha hb hc hm) (leBChain le le')
end
end TL

namespace TL
open PySem PySem.Spec L2
/-! several values at once, some of them new objects -/
inductive Mv where
  | im (d : D) | fr (d : D)
def Mv.sl : Mv → Sl
  | .im d => .im d
  | .fr d => .ow false d
abbrev WM := Ev → (List Mv → Ev → Prop) → XP → Prop
abbrev FM := Ev → Re (List Mv)
def MR (K : PySem.W.Frag) (x : Fx) (G H : Hp) (σ : St) (env : Ev) : Mv → V → Prop
  | .im d, v => Rep K G d v
  | .fr d, v => ∃ p o, v = .ref p ∧ H p = some o ∧ RepO K G d o ∧ G p = none ∧ x.F p = none ∧ ∀ (j : Nat) b d', env[j]? = some (.ow b d') → σ[j]? ≠ some (some (.ref p))
def frs : List Mv → List V → List Addr
  | .fr _ :: ms, .ref p :: vs => p :: frs ms vs
  | _ :: ms, _ :: vs => frs ms vs
  | _, _ => []
def MRs (K : PySem.W.Frag) (x : Fx) (G H : Hp) (σ : St) (env : Ev) : List Mv → List V → Prop
  | [], vs => vs = []
  | m :: ms, vs => ∃ v r, vs = v :: r ∧ MR K x G H σ env m v ∧ MRs K x G H σ env ms r ∧ ∀ d p, m = .fr d → v = .ref p → p ∉ frs ms r
def lM (K : PySem.W.Frag) (W : WX) (w : WM) : TA := fun σ H Q => ∃ x G env Q' X', ER K x G H σ env ∧ w env Q' X' ∧
  (∀ ms env' vs G' H', Same G G' → ER K x G' H' σ env' → MRs K x G' H' σ env' ms vs → Q' ms env' → Q vs H') ∧ Xend K W x G σ X'
abbrev QM (X : Cx) (W : WX) (es : List Expr) (w : WM) : Prop := PA X es (lM X.K W w)
abbrev KM (X : Cx) (W : WX) (es : List Expr) (f : FM) : Prop := QM X W es (wp f)
section
variable {K : PySem.W.Frag} {x : Fx} {G H : Hp} {σ : St} {env : Ev} {p : Addr} {o : HO}
theorem MR.unhide {m : Mv} {v : V} (h : MR K { x with F := upd x.F p o } G H σ env m v) : MR K x G H σ env m v ∧ ∀ d, m = .fr d → v ≠ .ref p := by
  cases m with
  | im d => exact ⟨h, fun d e => by cases e⟩
  | fr d =>
    obtain ⟨p', o', rfl, h1, h2, h3, h4, h5⟩ := h
    have h4' : upd x.F p o p' = none := h4
    have ne : p' ≠ p := fun z => by
      rw [z, upd_same] at h4'
      cases h4'
    rw [upd_ne ne] at h4'
    exact ⟨⟨p', o', rfl, h1, h2, h3, h4', h5⟩, fun d' e z => ne (by cases z; rfl)⟩
theorem MRs.unhide : ∀ {ms : List Mv} {vs : List V}, MRs K { x with F := upd x.F p o } G H σ env ms vs → MRs K x G H σ env ms vs ∧ p ∉ frs ms vs
  | [], vs, h => by
    have h' : vs = [] := h
    subst h'
    exact ⟨rfl, fun q => by cases q⟩
  | m :: ms, vs, h => by
    obtain ⟨v, r, rfl, h1, h2, h3⟩ := h
    obtain ⟨i1, i2⟩ := MRs.unhide h2
    obtain ⟨j1, j2⟩ := h1.unhide
    refine ⟨⟨v, r, rfl, j1, i1, h3⟩, fun q => ?_⟩
    cases m with
    | im d =>
      have : frs (.im d :: ms) (v :: r) = frs ms r := by cases v <;> rfl
      rw [this] at q
      exact i2 q
    | fr d =>
      obtain ⟨p', _, rfl, _⟩ := j1
      have : frs (.fr d :: ms) (.ref p' :: r) = p' :: frs ms r := rfl
      rw [this] at q
      rcases List.mem_cons.mp q with q | q
      · exact j2 d rfl (by rw [q])
      · exact i2 q
end
section
variable {X : Cx} {W : WX} {a b c e : Expr} {es : List Expr} {pos : Pos} {f g : FE} {fm : FM}
def mNil : FM := fun env => .ok [] env
def mIm (f : FE) (fm : FM) : FM := fun env => (f env).bd fun d e => (fm e).bd fun ms e2 => .ok (.im d :: ms) e2
def mFr (f : FE) (fm : FM) : FM := fun env => (f env).bd fun d e => (fm e).bd fun ms e2 => .ok (.fr d :: ms) e2
/-! storing them -/
def setM (e : Ev) : List Nat → List Mv → Ev
  | i :: is, m :: ms => setM (e.set i m.sl) is ms
  | _, _ => e
end
section
variable {K : PySem.W.Frag} {x : Fx} {G H : Hp}
end
section
variable {X : Cx} {W : WX} {a b c e : Expr} {es ts : List Expr} {pos : Pos} {f g : FE} {fm : FM} {K : PySem.W.Frag}
/-- names = values -/
def cParM (fm : FM) (is : List Nat) : FS := fun env => (fm env).st fun ms e => if ms.length = is.length ∧ nrs e is = true then .nx (setM e is ms) else .bad
theorem MRs.length {x : Fx} {G H : Hp} {σ : St} {env : Ev} : ∀ {ms : List Mv} {vs : List V}, MRs K x G H σ env ms vs → vs.length = ms.length
  | [], vs, h => by
    have h' : vs = [] := h
    rw [h']
    rfl
  | m :: ms, vs, h => by
    obtain ⟨v, r, rfl, _, h2, _⟩ := h
    rw [List.length_cons, List.length_cons, MRs.length h2]
end
end TL

namespace TL
open PySem PySem.Spec L2
/-! a comprehension over an owned list -/
section
variable {K : PySem.W.Frag} {x : Fx} {G H G' H' : Hp} {σ : St} {env : Ev} {i : Nat} {b : Bool} {d : D} {p : Addr} {o : HO}
def Fx.lend (x : Fx) (i : Nat) (p : Addr) (o : HO) : Fx := ⟨upd x.F p o, fun j => if j = i then none else x.R j⟩
theorem ER.lend (r : ER K x G H σ env) (e : env[i]? = some (.ow b d)) (es : σ[i]? = some (some (.ref p))) (hp : H p = some o) (hG : G p = none) : ER K (x.lend i p o) G H σ (env.set i .no) where
  len := by rw [List.length_set, r.len]
  sG := r.sG
  sF := fun a u h => by
    by_cases z : a = p
    · subst z
      have h' : upd x.F a o a = some u := h
      rw [upd_same] at h'
      cases h'
      exact hp
    · have h' : upd x.F p o a = some u := h
      rw [upd_ne z] at h'
      exact r.sF a u h'
  dj := fun a u h => by
    by_cases z : a = p
    · subst z
      exact .inl hG
    · have h' : upd x.F p o a = some u := h
      rw [upd_ne z] at h'
      exact r.dj a u h'
  im := fun j e' h => by
    by_cases hj : j = i
    · subst hj
      rw [List.getElem?_set_self (List.getElem?_eq_some_iff.mp e).1] at h
      cases h
    · rw [List.getElem?_set_ne (Ne.symm hj)] at h
      exact r.im j e' h
  ow := fun j b' e' h => by
    by_cases hj : j = i
    · subst hj
      rw [List.getElem?_set_self (List.getElem?_eq_some_iff.mp e).1] at h
      cases h
    · rw [List.getElem?_set_ne (Ne.symm hj)] at h
      obtain ⟨p2, o2, z1, z2, z3, z4, z5⟩ := r.ow j b' e' h
      refine ⟨p2, o2, z1, z2, z3, ?_, z5⟩
      show upd x.F p o p2 = none
      rw [upd_ne fun z => hj (r.nd j i b' b e' d p h e (by rw [← z]; exact z1) es)]
      exact z4
  nd := fun j k b1 b2 d1 d2 q h1 h2 h3 h4 => by
    have hj : j ≠ i := fun z => by
      subst z
      rw [List.getElem?_set_self (List.getElem?_eq_some_iff.mp e).1] at h1
      cases h1
    have hk : k ≠ i := fun z => by
      subst z
      rw [List.getElem?_set_self (List.getElem?_eq_some_iff.mp e).1] at h2
      cases h2
    rw [List.getElem?_set_ne (Ne.symm hj)] at h1
    rw [List.getElem?_set_ne (Ne.symm hk)] at h2
    exact r.nd j k b1 b2 d1 d2 q h1 h2 h3 h4
  rt := fun j q h => by
    have h' : (if j = i then none else x.R j) = some q := h
    by_cases hj : j = i
    · rw [if_pos hj] at h'
      cases h'
    · rw [if_neg hj] at h'
      obtain ⟨h1, d', h2⟩ := r.rt j q h'
      exact ⟨h1, d', by rw [List.getElem?_set_ne (Ne.symm hj)]; exact h2⟩
theorem ER.back {env' : Ev} (r0 : ER K x G H σ env) (e : env[i]? = some (.ow b d)) (es : σ[i]? = some (some (.ref p))) (q : RepO K G d o) (hF : x.F p = none) (s : Same G G') (r : ER K (x.lend i p o) G' H' σ env') : ER K x G' H' σ (env'.set i (.ow b d)) := by
  have hp : H' p = some o := r.sF p o (by show upd x.F p o p = _; exact upd_same)
  have hG : G' p = none := (r.dj p o (by show upd x.F p o p = _; exact upd_same)).resolve_right q.nt
  have sF' : Same x.F H' := fun a u h => r.sF a u (by
    show upd x.F p o a = some u
    rw [upd_ne fun z => by rw [z, hF] at h; cases h]
    exact h)
  have own : ∀ {j : Nat} {b' : Bool} {d' : D}, j ≠ i → env'[j]? = some (.ow b' d') → ∃ p2 o2, σ[j]? = some (some (.ref p2)) ∧ H' p2 = some o2 ∧ RepO K G' d' o2 ∧ x.F p2 = none ∧ G' p2 = none ∧ p2 ≠ p := fun {j b' d'} hj h => by
    obtain ⟨p2, o2, z1, z2, z3, z4, z5⟩ := r.ow j b' d' h
    have z4' : upd x.F p o p2 = none := z4
    have ne : p2 ≠ p := fun z => by
      rw [z, upd_same] at z4'
      cases z4'
    rw [upd_ne ne] at z4'
    exact ⟨p2, o2, z1, z2, z3, z4', z5, ne⟩
  have hi : i < env'.length := by
    rw [← r.len]
    exact (List.getElem?_eq_some_iff.mp es).1
  refine ⟨by rw [List.length_set, r.len], r.sG, sF', fun a u h => ?_, fun j d' h => ?_, fun j b' d' h => ?_, fun j k b1 b2 d1 d2 q' h1 h2 h3 h4 => ?_, fun j q' h => ?_⟩
  · exact r.dj a u (by
      show upd x.F p o a = some u
      rw [upd_ne fun z => by rw [z, hF] at h; cases h]
      exact h)
  · by_cases hj : j = i
    · subst hj
      rw [List.getElem?_set_self hi] at h
      cases h
    · rw [List.getElem?_set_ne (Ne.symm hj)] at h
      exact r.im j d' h
  · by_cases hj : j = i
    · subst hj
      rw [List.getElem?_set_self hi] at h
      cases h
      exact ⟨p, o, es, hp, RepO.mono s q, hF, hG⟩
    · rw [List.getElem?_set_ne (Ne.symm hj)] at h
      obtain ⟨p2, o2, z1, z2, z3, z4, z5, _⟩ := own hj h
      exact ⟨p2, o2, z1, z2, z3, z4, z5⟩
  · by_cases hj : j = i
    · by_cases hk : k = i
      · rw [hj, hk]
      · exfalso
        subst hj
        rw [List.getElem?_set_ne (Ne.symm hk)] at h2
        obtain ⟨p2, o2, z1, _, _, _, _, ne⟩ := own hk h2
        rw [es] at h3
        cases h3
        rw [h4] at z1
        cases z1
        exact ne rfl
    · by_cases hk : k = i
      · exfalso
        subst hk
        rw [List.getElem?_set_ne (Ne.symm hj)] at h1
        obtain ⟨p2, o2, z1, _, _, _, _, ne⟩ := own hj h1
        rw [es] at h4
        cases h4
        rw [h3] at z1
        cases z1
        exact ne rfl
      · rw [List.getElem?_set_ne (Ne.symm hj)] at h1
        rw [List.getElem?_set_ne (Ne.symm hk)] at h2
        exact r.nd j k b1 b2 d1 d2 q' h1 h2 h3 h4
  · by_cases hj : j = i
    · subst hj
      obtain ⟨h1, d', h2⟩ := r0.rt j q' h
      rw [e] at h2
      cases h2
      exact ⟨h1, d, List.getElem?_set_self hi⟩
    · obtain ⟨h1, d', h2⟩ := r.rt j q' (by
        show (if j = i then none else x.R j) = some q'
        rw [if_neg hj]
        exact h)
      exact ⟨h1, d', by rw [List.getElem?_set_ne (Ne.symm hj)]; exact h2⟩
end
def owSl (env : Ev) (i : Nat) : Option (Bool × D) := match env[i]? with
  | some (.ow b d) => some (b, d)
  | _ => none
/-- .. the slot is hidden while it is gone through -/
def fLcO (i : Nat) (tu : Bool) (is : List Nat) (ft : FT) (fe : FE) : FE := fun env => match owSl env i with
  | some (b, .lst ds) => if nrs (env.set i .no) is = true then (lcEnd (lcL tu is ft fe ds (noE (env.set i .no) is))).bd fun y e => .ok y (e.set i (.ow b (.lst ds))) else .bad
  | _ => .bad
section
variable {X : Cx} {W : WX} {elt tg : Expr} {pos p : Pos} {ifs : List Expr} {ft : FT} {fe : FE} {K : PySem.W.Frag}
end
end TL
namespace TL
open PySem PySem.Spec L2
section
variable {X : Cx} {W : WX} {T : SpT} {k : Nat} {x : Str} {ps : List Str} {p pos : Pos} {F : Fn}
end
end TL

/-! == and != by an own __eq__, with both outcomes. -/
namespace GB
open PySem PySem.SeqAt GQ
open AutoSeq1 (wpAny_loadPart')
open MeetsSeq MeetsSeq2 MeetsSeq3 SeqRoads2
section
variable {prog : Program} {w : World} {A : Around} {R : Result → Shared → Prop}
/-- both lists are there at each turn -/
def LB (l b : Addr) (N : Nat) (I : Nat → Shared → Prop) (P : Nat → Value → Value → Shared → Prop) : Prop :=
  ∀ i s, I i s → ∃ (items items2 : Array Value) (n n2 : Nat) (dd dd2 : Option Addr) (sl sl2 : Array (Option Value)), s.heap.get? l = some { cls := .type "list", dict := dd, data := .seq items n, slots := sl } ∧ s.heap.get? b = some { cls := .type "list", dict := dd2, data := .seq items2 n2, slots := sl2 } ∧ items.size = N ∧ items2.size = N ∧
    ∀ (h1 : i < items.size) (h2 : i < items2.size), P i items[i] items2[i] s
/-- the turn: equal below m, unlike at m -/
def TB (prog : Program) (w : World) (A : Around) (E : Value → Shared → Prop) (I : Nat → Shared → Prop) (m : Nat) : Nat → Value → Value → Shared → Prop := fun i x y s =>
  i ≤ m → wpAny (model prog w) A.in1 (eqBool x y) (fun r s' => r = decide (i < m) ∧ I (i + 1) s') E s
theorem eq_loopB (ne : Bool) (l b : Addr) (N m : Nat) (hm : m ≤ N) (I : Nat → Shared → Prop) (hl : LB l b N I (TB prog w A (fun e s' => R (.error e) s') I m))
    (fin : ∀ i s, I i s → R (.ok (.ret (.bool (ne != decide (m = N))))) s) (k : Nat) :
    ∀ i : Nat, m - i = k → i ≤ m → ∀ s, I i s →
      wpAny (model prog w) A.in1 (Builtin.«list.__eq__.loop» ⟨[.ref l, .ref b, rawInt i, rawInt (if ne then 3 else 2)], []⟩) (FinOf prog w A R) (fun e s' => R (.error e) s') s := by
  induction k with
  | zero =>
    intro i hk hi s h
    obtain ⟨items, items2, n, n2, dd, dd2, sl, sl2, hl1, hb1, hs1, hs2, turn⟩ := hl _ _ h
    have hi' : i = m := by omega
    have hR := fin i s h
    by_cases hmN : m = N
    · obtain ⟨hp, g, d, tk, os⟩ := s
      rw [decide_eq_true hmN] at hR
      cases ne
      all_goals
        simp only [Bool.false_eq_true, if_false, if_true]
        wp_walk using wpAny_loadPart' hl1, wpAny_loadPart' hb1
        have hi1 : items[((i : Nat) : Int).toNat]? = none := by simp; omega
        have hi2 : items2[((i : Nat) : Int).toNat]? = none := by simp; omega
        rw [hi1, hi2]
        wp_walk using wpAny_loadPart' hl1, wpAny_loadPart' hb1
      · show R (.ok (.ret (.bool (items.size == items2.size)))) _
        rw [hs1, hs2]
        simpa using hR
      · show R (.ok (.ret (.bool (items.size != items2.size)))) _
        rw [hs1, hs2]
        simpa using hR
    · have hlt : i < items.size := by omega
      have hlt2 : i < items2.size := by omega
      have ht := turn hlt hlt2 (by omega)
      rw [decide_eq_false (by omega : ¬ i < m)] at ht
      have hi1 : items[((i : Nat) : Int).toNat]? = some items[i] := by simp [hlt]
      have hi2 : items2[((i : Nat) : Int).toNat]? = some items2[i] := by simp [hlt2]
      obtain ⟨hp, g, d, tk, os⟩ := s
      cases ne
      all_goals
        simp only [Bool.false_eq_true, if_false, if_true]
        wp_walk using wpAny_loadPart' hl1, wpAny_loadPart' hb1
        rw [hi1, hi2]
        refine wpAny_bind (wpAny_mono ht (fun r s2 h2 => ?_) fun _ _ x => x)
        obtain ⟨hr, h2⟩ := h2
        subst hr
        obtain ⟨jtems, jtems2, o, o2, ee, ee2, tl, tl2, jl1, jb1, js1, js2, _⟩ := hl _ _ h2
        have hR2 := fin _ s2 h2
        rw [decide_eq_false hmN] at hR2
        have hj1 : jtems[((i : Nat) : Int).toNat]? = some (jtems[i]'(by omega)) := by simp
        have hj2 : jtems2[((i : Nat) : Int).toNat]? = some (jtems2[i]'(by omega)) := by simp
        obtain ⟨hp2, g2, d2, tk2, os2⟩ := s2
        wp_walk using wpAny_loadPart' jl1, wpAny_loadPart' jb1
        rw [hj1, hj2]
        wp_walk
        simpa using hR2
  | succ k ih =>
    intro i hk hi s h
    obtain ⟨items, items2, n, n2, dd, dd2, sl, sl2, hl1, hb1, hs1, hs2, turn⟩ := hl _ _ h
    have hlt : i < items.size := by omega
    have hlt2 : i < items2.size := by omega
    have ht := turn hlt hlt2 hi
    rw [decide_eq_true (by omega : i < m)] at ht
    have hi1 : items[((i : Nat) : Int).toNat]? = some items[i] := by simp [hlt]
    have hi2 : items2[((i : Nat) : Int).toNat]? = some items2[i] := by simp [hlt2]
    have hc : ((i : Int) + 1) = ((i + 1 : Nat) : Int) := by omega
    obtain ⟨hp, g, d, tk, os⟩ := s
    cases ne
    all_goals
      simp only [Bool.false_eq_true, if_false, if_true] at ih ⊢
      wp_walk using wpAny_loadPart' hl1, wpAny_loadPart' hb1
      rw [hi1, hi2]
      refine wpAny_bind (wpAny_mono ht (fun r s2 h2 => ?_) fun _ _ x => x)
      obtain ⟨hr, h2⟩ := h2
      subst hr
      have hrec := ih (i + 1) (by omega) (by omega) s2 h2
      obtain ⟨hp2, g2, d2, tk2, os2⟩ := s2
      wp_walk
      rw [hc]
      exact ⟨plainId_quiet plain_eq_loop _, codeAny_builtin entry_eq_loop (by
        rw [Around.under_plainId plain_eq_loop _]
        exact hrec)⟩
/-- the same for the two operators -/
def opOf (ne : Bool) : CmpOp := if ne then .NotEq else .Eq
theorem list_B (ne : Bool) (l b : Addr) (N m : Nat) (hm : m ≤ N) (I : Nat → Shared → Prop) (hl : LB l b N I (TB prog w A (fun e s' => R (.error e) s') I m))
    (fin : ∀ i s, I i s → R (.ok (.ret (.bool (ne != decide (m = N))))) s) {s : Shared} (h : I 0 s) :
    wpAny (model prog w) A.in1 ((if ne then Builtin.«list.__ne__» else Builtin.«list.__eq__») ⟨[.ref l, .ref b], []⟩) (FinOf prog w A R) (fun e s' => R (.error e) s') s := by
  obtain ⟨items, items2, n, n2, dd, dd2, sl, sl2, hl1, hb1, hs1, hs2, _⟩ := hl _ _ h
  have hrec := eq_loopB (A := A) (R := R) ne l b N m hm I hl fin _ 0 rfl (Nat.zero_le _) s h
  obtain ⟨hp, g, d, tk, os⟩ := s
  have f3 := AutoSeq1.sub_list_list
  have hne : ¬ (items.size != items2.size) = true := by simp [hs1, hs2]
  cases ne
  all_goals
    simp only [Bool.false_eq_true, if_false, if_true] at hrec ⊢
    wp_walk using wpAny_loadPart' hl1, wpAny_loadPart' hb1
    exact ⟨plainId_quiet plain_eq_loop _, codeAny_builtin entry_eq_loop (by
      rw [Around.under_plainId plain_eq_loop _]
      exact hrec)⟩
theorem list_sz (ne : Bool) (l b : Addr) {items items2 : Array Value} {n n2 : Nat} {dd dd2 : Option Addr} {sl sl2 : Array (Option Value)} {s : Shared} (hl1 : s.heap.get? l = some { cls := .type "list", dict := dd, data := .seq items n, slots := sl }) (hb1 : s.heap.get? b = some { cls := .type "list", dict := dd2, data := .seq items2 n2, slots := sl2 })
    (hz : items.size ≠ items2.size) (fin : R (.ok (.ret (.bool ne))) s) :
    wpAny (model prog w) A.in1 ((if ne then Builtin.«list.__ne__» else Builtin.«list.__eq__») ⟨[.ref l, .ref b], []⟩) (FinOf prog w A R) (fun e s' => R (.error e) s') s := by
  obtain ⟨hp, g, d, tk, os⟩ := s
  have f3 := AutoSeq1.sub_list_list
  have hne : (items.size != items2.size) = true := by simpa using hz
  cases ne
  all_goals
    simp only [Bool.false_eq_true, if_false, if_true]
    wp_walk using wpAny_loadPart' hl1, wpAny_loadPart' hb1
    exact fin
theorem tuple_B (ne : Bool) (l b : Addr) (items items2 : Array Value) (n n2 : Nat) (dd dd2 : Option Addr) (sl sl2 : Array (Option Value)) (m : Nat) (hm1 : m ≤ items.size) (hm2 : m ≤ items2.size) (I : Nat → Shared → Prop)
    (turn : ∀ i (h1 : i < items.size) (h2 : i < items2.size) s, I i s → TB prog w A (fun e s' => R (.error e) s') I m i items[i] items2[i] s)
    (fin : ∀ i s, I i s → R (.ok (.ret (.bool (ne != (decide (m = items.size) && decide (m = items2.size)))))) s) {s : Shared} (hl1 : s.heap.get? l = some { cls := .type "tuple", dict := dd, data := .seq items n, slots := sl }) (hb1 : s.heap.get? b = some { cls := .type "tuple", dict := dd2, data := .seq items2 n2, slots := sl2 }) (h : I 0 s)
    (hmm : m = items.size ∨ m = items2.size ∨ (m < items.size ∧ m < items2.size)) :
    wpAny (model prog w) A.in1 ((if ne then Builtin.«tuple.__ne__» else Builtin.«tuple.__eq__») ⟨[.ref l, .ref b], []⟩) (FinOf prog w A R) (fun e s' => R (.error e) s') s := by
  have f2 := AutoSeq1.sub_tuple_tuple
  have hZ : (items.toList.zip items2.toList).length = min items.size items2.size := by simp
  have h0 := h
  obtain ⟨hp, g, d, tk, os⟩ := s
  cases ne
  all_goals
    simp only [Bool.false_eq_true, if_false, if_true]
    wp_walk using wpAny_loadPart' hl1, wpAny_loadPart' hb1, wpAny_forIn_list _ (fun rest b s' => b.1 = none ∧ ∃ i, rest = (items.toList.zip items2.toList).drop i ∧ i ≤ m ∧ I i s') _
    case turn =>
      rintro ⟨y, x⟩ rest b s' ⟨hb', i, hz, hi, hI⟩
      have hlt : i < (items.toList.zip items2.toList).length := by
        rcases Nat.lt_or_ge i (items.toList.zip items2.toList).length with h' | h'
        · exact h'
        · rw [List.drop_of_length_le h'] at hz; cases hz
      have h1 : i < items.size := by omega
      have h2 : i < items2.size := by omega
      rw [List.drop_eq_getElem_cons hlt] at hz
      injection hz with hyx hrest
      have hy : y = items[i] := by have := congrArg Prod.fst hyx; simpa using this
      have hx : x = items2[i] := by have := congrArg Prod.snd hyx; simpa using this
      subst hy hx
      refine wpAny_bind (wpAny_mono (turn i h1 h2 s' hI hi) (fun r s2 q2 => ?_) fun _ _ x => x)
      obtain ⟨hr, q2⟩ := q2
      by_cases hlm : i < m
      · rw [decide_eq_true hlm] at hr
        subst hr
        wp_walk
        exact ⟨rfl, i + 1, hrest, hlm, q2⟩
      · rw [decide_eq_false hlm] at hr
        subst hr
        have hR2 := fin _ s2 q2
        rw [show (decide (m = items.size) && decide (m = items2.size)) = false from by simp; omega] at hR2
        wp_walk
        simpa using hR2
    case fin =>
      rintro ⟨b1, b2⟩ s' ⟨hb', i, hz, hi, hI⟩
      simp only at hb'
      subst hb'
      have hge : min items.size items2.size ≤ i := by
        rcases Nat.lt_or_ge i (items.toList.zip items2.toList).length with h' | h'
        · rw [List.drop_eq_getElem_cons h'] at hz; cases hz
        · exact hZ ▸ h'
      have hR := fin i s' hI
      rw [show (decide (m = items.size) && decide (m = items2.size)) = (items.size == items2.size) from by
        rw [← Bool.decide_and]
        show decide _ = decide (items.size = items2.size)
        exact decide_eq_decide.mpr (by omega)] at hR
      wp_walk
      cases hq : (items.size == items2.size) <;> rw [hq] at hR <;> simpa [Builtin.Tuple.tupleCompareSizes, bne, hq] using hR
    case h =>
      exact ⟨rfl, 0, rfl, Nat.zero_le _, h0⟩
end
section
variable {prog : Program} {w : World} {A : Around} {E : Value → Shared → Prop} {s : Shared}
theorem rc_listB (ne : Bool) {l b : Addr} {N m : Nat} {Q : Value → Shared → Prop} (hm : m ≤ N) (hu : A.units < cLine) (I : Nat → Shared → Prop) (hl : LB l b N I (TB prog w A E I m))
    (fin : ∀ i s, I i s → Q (.bool (ne != decide (m = N))) s) (h : I 0 s) : wpAny (model prog w) A (richCompare (opOf ne) (.ref l) (.ref b)) Q E s := by
  obtain ⟨items, items2, n, n2, dd, dd2, sl, sl2, hl1, hb1, _, _, _⟩ := hl _ _ h
  have z := list_B (R := wants (fun v s' => v ≠ .notImplemented ∧ Q v s') E) ne l b N m hm I hl (fun i s' q => ⟨(fun x => nomatch x), fin i s' q⟩) h
  cases ne
  · exact wpAny_richCompare_same_room (op := .Eq) ⟨_, hl1, rfl⟩ ⟨_, hb1, rfl⟩ F.slot_list_eq (call_here F.slot_list_eq ⟨_, hl1, rfl⟩ F.entry_list_eq (F.args_list_eq_2 _ _) z) hu
  · exact wpAny_richCompare_same_room (op := .NotEq) ⟨_, hl1, rfl⟩ ⟨_, hb1, rfl⟩ F.slot_list_ne (call_here F.slot_list_ne ⟨_, hl1, rfl⟩ F.entry_list_ne (F.args_list_ne_2 _ _) z) hu
theorem rc_listZ (ne : Bool) {l b : Addr} {Q : Value → Shared → Prop} (hu : A.units < cLine) {items items2 : Array Value} {n n2 : Nat} {dd dd2 : Option Addr} {sl sl2 : Array (Option Value)} (hl1 : s.heap.get? l = some { cls := .type "list", dict := dd, data := .seq items n, slots := sl }) (hb1 : s.heap.get? b = some { cls := .type "list", dict := dd2, data := .seq items2 n2, slots := sl2 })
    (hz : items.size ≠ items2.size) (fin : Q (.bool ne) s) : wpAny (model prog w) A (richCompare (opOf ne) (.ref l) (.ref b)) Q E s := by
  have z := list_sz (prog := prog) (w := w) (A := A) (R := wants (fun v s' => v ≠ .notImplemented ∧ Q v s') E) ne l b hl1 hb1 hz ⟨(fun x => nomatch x), fin⟩
  cases ne
  · exact wpAny_richCompare_same_room (op := .Eq) ⟨_, hl1, rfl⟩ ⟨_, hb1, rfl⟩ F.slot_list_eq (call_here F.slot_list_eq ⟨_, hl1, rfl⟩ F.entry_list_eq (F.args_list_eq_2 _ _) z) hu
  · exact wpAny_richCompare_same_room (op := .NotEq) ⟨_, hl1, rfl⟩ ⟨_, hb1, rfl⟩ F.slot_list_ne (call_here F.slot_list_ne ⟨_, hl1, rfl⟩ F.entry_list_ne (F.args_list_ne_2 _ _) z) hu
theorem rc_tupB (ne : Bool) {l b : Addr} {items items2 : Array Value} {Q : Value → Shared → Prop} {m : Nat} (hm1 : m ≤ items.size) (hm2 : m ≤ items2.size) (hmm : m = items.size ∨ m = items2.size ∨ (m < items.size ∧ m < items2.size)) (hu : A.units < cLine) (I : Nat → Shared → Prop)
    (hl : s.heap.IsTuple l items) (hb : s.heap.IsTuple b items2)
    (turn : ∀ i (h1 : i < items.size) (h2 : i < items2.size) s, I i s → TB prog w A E I m i items[i] items2[i] s)
    (fin : ∀ i s, I i s → Q (.bool (ne != (decide (m = items.size) && decide (m = items2.size)))) s) (h : I 0 s) : wpAny (model prog w) A (richCompare (opOf ne) (.ref l) (.ref b)) Q E s := by
  obtain ⟨⟨cls, dd, data, sl⟩, ho, hc, n, hd⟩ := id hl
  obtain ⟨⟨cls2, dd2, data2, sl2⟩, ho2, hc2, n2, hd2⟩ := id hb
  simp only at hc hd hc2 hd2
  subst hc hd hc2 hd2
  have z := tuple_B (R := wants (fun v s' => v ≠ .notImplemented ∧ Q v s') E) ne l b items items2 n n2 dd dd2 sl sl2 m hm1 hm2 I turn (fun i s' q => ⟨(fun x => nomatch x), fin i s' q⟩) ho ho2 h hmm
  cases ne
  · exact wpAny_richCompare_same_room (op := .Eq) ⟨_, ho, rfl⟩ ⟨_, ho2, rfl⟩ F.slot_tuple_eq (call_here F.slot_tuple_eq ⟨_, ho, rfl⟩ F.entry_tuple_eq (F.args_tuple_eq_2 _ _) z) hu
  · exact wpAny_richCompare_same_room (op := .NotEq) ⟨_, ho, rfl⟩ ⟨_, ho2, rfl⟩ F.slot_tuple_ne (call_here F.slot_tuple_ne ⟨_, ho, rfl⟩ F.entry_tuple_ne (F.args_tuple_ne_2 _ _) z) hu
end
end GB

namespace TL
open PySem PySem.Spec L2
/-! ### what == says of trees -/
def flV : D → Option V
  | .non => some .non
  | .bl b => some (.bl b)
  | .int i => some (.int i)
  | .str x => some (.str x)
  | .ty n => some (.ty n)
  | _ => none
mutual
/-- may two trees be of one object (CL: classes at unlike addresses) -/
def mb (CL : List Str) : D → D → Bool
  | .lst ds, e => match e with
    | .lst es => mbs CL ds es
    | .non => false | .bl _ => false | .int _ => false | .str _ => false
    | _ => true
  | .tup ds, e => match e with
    | .tup es => mbs CL ds es
    | .non => false | .bl _ => false | .int _ => false | .str _ => false
    | _ => true
  | .ins c ns ds, e => match e with
    | .ins c' ns' es => (c == c' || !(CL.contains c && CL.contains c')) && (ns == ns') && mbs CL ds es
    | .non => false | .bl _ => false | .int _ => false | .str _ => false
    | _ => true
  | .non, e => match e with
    | .non => true
    | _ => false
  | .bl b, e => match e with
    | .bl b' => b == b'
    | _ => false
  | .int i, e => match e with
    | .int j => i == j
    | _ => false
  | .str i, e => match e with
    | .str j => i == j
    | _ => false
  | _, _ => true
def mbs (CL : List Str) : List D → List D → Bool
  | [], es => es.isEmpty
  | d :: ds, es => match es with
    | [] => false
    | e :: es => mb CL d e && mbs CL ds es
end
/-- the classes CL lie at unlike addresses -/
def DJ (K : PySem.W.Frag) (CL : List Str) : Prop := ∀ c ∈ CL, ∀ c' ∈ CL, He.ga K c = He.ga K c' → c = c'
section
variable {X : Cx} {pins : List (Addr × Obj)} {σ : St} {H G : Hp} {s : Shared} {CL : List Str}
theorem zip_inj {α β : Type} : ∀ {a a' : List α} {b b' : List β}, a.zip b = a'.zip b' → a.length = b.length → a'.length = b'.length → a = a' ∧ b = b'
  | [], [], b, b', _, h1, h2 => by
    cases b <;> cases b' <;> simp_all
  | x :: a, [], b, b', h, h1, h2 => by
    cases b with
    | nil => simp at h1
    | cons y b => simp at h
  | [], x :: a, b, b', h, h1, h2 => by
    cases b' with
    | nil => simp at h2
    | cons y b => simp at h
  | x :: a, x' :: a', b, b', h, h1, h2 => by
    cases b with
    | nil => simp at h1
    | cons y b =>
      cases b' with
      | nil => simp at h2
      | cons y' b' =>
        simp only [List.zip_cons_cons, List.cons.injEq, Prod.mk.injEq] at h
        obtain ⟨⟨e1, e2⟩, e3⟩ := h
        obtain ⟨z1, z2⟩ := zip_inj e3 (by simpa using h1) (by simpa using h2)
        exact ⟨by rw [e1, z1], by rw [e2, z2]⟩
mutual
theorem mb_ok (I : Inv X pins σ H s) (sG : Same G H) (dj : DJ X.K CL) : ∀ (d e : D) (v : V), Rep X.K G d v → Rep X.K G e v → mb CL d e = true
  | .non, e, v, h, h' => by
    cases (show v = .non from h)
    cases e <;> first | rfl | (unfold Rep at h'; first | (cases h'; done) | (obtain ⟨_, _, q, _⟩ := h'; cases q; done) | (obtain ⟨_, _, _, q, _⟩ := h'; cases q; done) | (obtain ⟨q, _⟩ := h'; cases q; done))
  | .bl b, e, v, h, h' => by
    cases (show v = .bl b from h)
    cases e <;> first | (unfold Rep at h'; first | (cases h'; unfold mb; simp; done) | (cases h'; done) | (obtain ⟨_, _, q, _⟩ := h'; cases q; done) | (obtain ⟨_, _, _, q, _⟩ := h'; cases q; done) | (obtain ⟨q, _⟩ := h'; cases q; done))
  | .int b, e, v, h, h' => by
    cases (show v = .int b from h)
    cases e <;> first | (unfold Rep at h'; first | (cases h'; unfold mb; simp; done) | (cases h'; done) | (obtain ⟨_, _, q, _⟩ := h'; cases q; done) | (obtain ⟨_, _, _, q, _⟩ := h'; cases q; done) | (obtain ⟨q, _⟩ := h'; cases q; done))
  | .str b, e, v, h, h' => by
    cases (show v = .str b from h)
    cases e <;> first | (unfold Rep at h'; first | (cases h'; unfold mb; simp; done) | (cases h'; done) | (obtain ⟨_, _, q, _⟩ := h'; cases q; done) | (obtain ⟨_, _, _, q, _⟩ := h'; cases q; done) | (obtain ⟨q, _⟩ := h'; cases q; done))
  | .ty b, e, v, h, h' => by unfold mb; rfl
  | .dic _ _, e, v, h, h' => by unfold mb; rfl
  | .dit _ _, e, v, h, h' => by unfold mb; rfl
  | .tpo _, e, v, h, h' => by unfold mb; rfl
  | .exc _ _ _ _, e, v, h, h' => by unfold mb; rfl
  | .lst ds, e, v, h, h' => by
    unfold Rep at h
    obtain ⟨a, vs, rfl, q, r⟩ := h
    cases e with
    | lst es =>
      unfold Rep at h'
      obtain ⟨a', vs', e1, q', r'⟩ := h'
      injection e1 with e1
      subst e1
      have := I.list_inj (sG.seq q) (sG.seq q')
      subst this
      unfold mb
      exact mbs_ok I sG dj ds es vs r r'
    | _ => first | (unfold mb; rfl) | (unfold Rep at h'; cases h'; done)
  | .tup ds, e, v, h, h' => by
    unfold Rep at h
    obtain ⟨a, vs, rfl, q, r⟩ := h
    cases e with
    | tup es =>
      unfold Rep at h'
      obtain ⟨a', vs', e1, q', r'⟩ := h'
      injection e1 with e1
      subst e1
      have := I.tuple_inj (sameT sG q) (sameT sG q')
      subst this
      unfold mb
      exact mbs_ok I sG dj ds es vs r r'
    | _ => first | (unfold mb; rfl) | (unfold Rep at h'; cases h'; done)
  | .ins c ns ds, e, v, h, h' => by
    unfold Rep at h
    obtain ⟨a, dx, vs, rfl, q, l, r⟩ := h
    cases e with
    | ins c' ns' es =>
      unfold Rep at h'
      obtain ⟨a', dx', vs', e1, q', l', r'⟩ := h'
      injection e1 with e1
      subst e1
      rw [q] at q'
      injection q' with q'
      injection q' with k1 k2 k3
      obtain ⟨z1, z2⟩ := zip_inj k3 l l'
      subst z1 z2
      unfold mb
      have : (c == c' || !(CL.contains c && CL.contains c')) = true := by
        cases y : (CL.contains c && CL.contains c') with
        | false => simp
        | true =>
          obtain ⟨y1, y2⟩ := Bool.and_eq_true_iff.mp y
          rw [dj c (List.contains_iff_mem.mp y1) c' (List.contains_iff_mem.mp y2) k1]
          simp
      simp only [this, Bool.true_and, beq_self_eq_true]
      exact mbs_ok I sG dj ds es vs r r'
    | _ => first | (unfold mb; rfl) | (unfold Rep at h'; cases h'; done)
theorem mbs_ok (I : Inv X pins σ H s) (sG : Same G H) (dj : DJ X.K CL) : ∀ (ds es : List D) (vs : List V), Reps X.K G ds vs → Reps X.K G es vs → mbs CL ds es = true
  | [], es, vs, h, h' => by
    unfold Reps at h
    subst h
    cases es with
    | nil => rfl
    | cons e es =>
      unfold Reps at h'
      obtain ⟨_, _, q, _⟩ := h'
      cases q
  | d :: ds, es, vs, h, h' => by
    unfold Reps at h
    obtain ⟨v, r, rfl, q, z⟩ := h
    cases es with
    | nil =>
      unfold Reps at h'
      cases h'
    | cons e es =>
      unfold Reps at h'
      obtain ⟨v', r', e1, q', z'⟩ := h'
      injection e1 with e1 e2
      subst e1 e2
      unfold mbs
      dsimp only
      rw [mb_ok I sG dj d e v q q', mbs_ok I sG dj ds es r z z']
      rfl
end
end
/-- where one object is compared with itself, only True will do -/
def idn (CL : List Str) (T : D → D → Option Bool) : D → D → Option Bool := fun d e => match T d e with
  | some true => some true
  | some false => if mb CL d e = true then none else some false
  | none => none
def cmpS (T : D → D → Option Bool) : List D → List D → Option Bool
  | [], es => some es.isEmpty
  | d :: ds, es => match es with
    | [] => some false
    | e :: es => match T d e with
      | some true => cmpS T ds es
      | some false => some false
      | none => none
def eqT (CL : List Str) (E : D → D → Option Bool) : Nat → D → D → Option Bool
  | 0, _, _ => none
  | n + 1, d, e => if (okD 16 d && okD 16 e) = true then some (eqD d e) else match d with
    | .lst ds => (match e with
      | .lst es => if ds.length = es.length then cmpS (idn CL (eqT CL E n)) ds es else some false
      | _ => none)
    | .tup ds => (match e with
      | .tup es => cmpS (idn CL (eqT CL E n)) ds es
      | _ => none)
    | .ins _ _ _ => E d e
    | _ => none

def isIns : D → Bool
  | .ins _ _ _ => true
  | _ => false
/-- behind a comparison: the same, and new objects -/
def AB (X : Cx) (pins : List (Addr × Obj)) (σ : St) (H : Hp) (s' : Shared) : Prop := ∃ H', Inv X pins σ H' s' ∧ Same H H'
def EqB (X : Cx) (n : Nat) (T : D → D → Option Bool) : Prop :=
  ∀ (A : Around) (pins : List (Addr × Obj)) (s : Shared) (σ : St) (H G : Hp) (d e : D) (x y : V) (u v : Value) (b : Bool), Sub X n A → Inv X pins σ H s → Same G H → RelV x u → RelV y v → Rep X.K G d x → Rep X.K G e y → T d e = some b →
    wpAny (model X.prog X.w) A (eqBool u v) (fun r s' => r = b ∧ AB X pins σ H s') X.xe s
/-- an own == -/
def OwB (X : Cx) (ne : Bool) (n : Nat) (E : D → D → Option Bool) : Prop :=
  ∀ (A : Around) (pins : List (Addr × Obj)) (s : Shared) (σ : St) (H G : Hp) (d e : D) (x y : V) (u v : Value) (b : Bool), Sub X n A → Inv X pins σ H s → Same G H → RelV x u → RelV y v → Rep X.K G d x → Rep X.K G e y → isIns d = true → E d e = some b →
    wpAny (model X.prog X.w) A (richCompare (GB.opOf ne) u v) (fun r s' => r = .bool (ne != b) ∧ AB X pins σ H s') X.xe s
/-- the top objects: read in H, but an instance and what it is compared with in G -/
def RepU (K : PySem.W.Frag) (G H : Hp) (d e : D) (x y : V) : Prop := if isIns d = true then Rep K G d x ∧ Rep K G e y else RepT K G H d x ∧ RepT K G H e y
theorem RepU.of {K : PySem.W.Frag} {G H : Hp} (s : Same G H) {d e : D} {x y : V} (h : Rep K G d x) (h' : Rep K G e y) : RepU K G H d e x y := by
  unfold RepU
  split
  · exact ⟨h, h'⟩
  · exact ⟨Rep.top s h, Rep.top s h'⟩
theorem RepU.top {K : PySem.W.Frag} {G H : Hp} (s : Same G H) {d e : D} {x y : V} (h : RepU K G H d e x y) : RepT K G H d x ∧ RepT K G H e y := by
  unfold RepU at h
  split at h
  · exact ⟨Rep.top s h.1, Rep.top s h.2⟩
  · exact h
def RcB (X : Cx) (ne : Bool) (n : Nat) (T : D → D → Option Bool) : Prop :=
  ∀ (A : Around) (pins : List (Addr × Obj)) (s : Shared) (σ : St) (H G : Hp) (d e : D) (x y : V) (u v : Value) (b : Bool), Sub X n A → Inv X pins σ H s → Same G H → RelV x u → RelV y v → RepU X.K G H d e x y → T d e = some b →
    wpAny (model X.prog X.w) A (richCompare (GB.opOf ne) u v) (fun r s' => r = .bool (ne != b) ∧ AB X pins σ H s') X.xe s
section
variable {prog : Program} {w : World} {A : Around} {E : Value → Shared → Prop} {s : Shared}
theorem eqBool_refB {l : Addr} {v : Value} {Q : Bool → Shared → Prop} (hne : v ≠ .ref l) (h : wpAny (model prog w) A (richCompare .Eq (.ref l) v) (fun v s' => ∃ r, v = .bool r ∧ Q r s') E s) : wpAny (model prog w) A (eqBool (.ref l) v) Q E s := by
  unfold eqBool
  refine wpAny_holding ?_
  refine wpAny_ite_split (fun hab => absurd (eq_of_beq hab).symm hne) (fun _ => ?_)
  refine wpAny_bind (wpAny_mono h (fun v s' hv => ?_) fun _ _ x => x)
  obtain ⟨r, rfl, q⟩ := hv
  exact wpAny_truthy_bool q
end
section
variable {X : Cx} {CL : List Str} {E : D → D → Option Bool} {n k : Nat}
theorem cmpS_spec {T : D → D → Option Bool} : ∀ {ds es : List D} {b : Bool}, cmpS T ds es = some b → ∃ m : Nat, m ≤ ds.length ∧ m ≤ es.length ∧ (∀ i d e, i < m → ds[i]? = some d → es[i]? = some e → T d e = some true) ∧
    (∀ d e, ds[m]? = some d → es[m]? = some e → T d e = some false) ∧ b = (decide (m = ds.length) && decide (m = es.length)) ∧ (m = ds.length ∨ m = es.length ∨ (m < ds.length ∧ m < es.length))
  | [], es, b, h => by
    unfold cmpS at h
    refine ⟨0, Nat.le_refl _, Nat.zero_le _, fun i d e hi => absurd hi (Nat.not_lt_zero _), fun d e hd => by simp at hd, ?_, .inl rfl⟩
    have := Option.some.inj h
    subst this
    cases es <;> rfl
  | d :: ds, [], b, h => by
    unfold cmpS at h
    refine ⟨0, Nat.zero_le _, Nat.le_refl _, fun i d e hi => absurd hi (Nat.not_lt_zero _), fun d e _ hd => by simp at hd, ?_, .inr (.inl rfl)⟩
    have := Option.some.inj h
    subst this
    rfl
  | d :: ds, e :: es, b, h => by
    unfold cmpS at h
    dsimp only at h
    cases z : T d e with
    | none =>
      rw [z] at h
      cases h
    | some r =>
      rw [z] at h
      cases r with
      | false =>
        have := Option.some.inj h
        subst this
        refine ⟨0, Nat.zero_le _, Nat.zero_le _, fun i d e hi => absurd hi (Nat.not_lt_zero _), fun d' e' h1 h2 => ?_, by simp, .inr (.inr ⟨by simp, by simp⟩)⟩
        have h1 : d = d' := by simpa using h1
        have h2 : e = e' := by simpa using h2
        rw [← h1, ← h2]
        exact z
      | true =>
        obtain ⟨m, m1, m2, m3, m4, m5, m6⟩ := cmpS_spec (ds := ds) (es := es) h
        refine ⟨m + 1, by simpa using m1, by simpa using m2, fun i d' e' hi h1 h2 => ?_, fun d' e' h1 h2 => m4 d' e' (by simpa using h1) (by simpa using h2), by simpa using m5, by simpa using m6⟩
        cases i with
        | zero =>
          have h1 : d = d' := by simpa using h1
          have h2 : e = e' := by simpa using h2
          rw [← h1, ← h2]
          exact z
        | succ i => exact m3 i d' e' (by omega) (by simpa using h1) (by simpa using h2)
/-- the turn of a loop over items -/
theorem turnB {T : D → D → Option Bool} (h : EqB X n T) {A : Around} (sb : Sub X (n + 1) A) {pins : List (Addr × Obj)} {σ : St} {H G : Hp} (sG : Same G H) {ds es : List D} {xs ys : List V} {its its2 : List Value} (rd : Reps X.K G ds xs) (re : Reps X.K G es ys) (r : Vals xs its) (r2 : Vals ys its2) {m : Nat}
    (m3 : ∀ i d e, i < m → ds[i]? = some d → es[i]? = some e → T d e = some true) (m4 : ∀ d e, ds[m]? = some d → es[m]? = some e → T d e = some false)
    (i : Nat) (h1 : i < its.toArray.size) (h2 : i < its2.toArray.size) (s' : Shared) (l : AB X pins σ H s') : GB.TB X.prog X.w A X.xe (fun _ s' => AB X pins σ H s') m i its.toArray[i] its2.toArray[i] s' := by
  intro hi
  obtain ⟨H1, I1, e1⟩ := l
  have g1 : its[i]? = some its.toArray[i] := by
    have h1' : i < its.length := by simpa using h1
    rw [List.getElem?_eq_getElem h1'] <;> simp
  have g2 : its2[i]? = some its2.toArray[i] := by
    have h2' : i < its2.length := by simpa using h2
    rw [List.getElem?_eq_getElem h2'] <;> simp
  have k1 : i < xs.length := by rw [r.length]; simpa using h1
  have k2 : i < ys.length := by rw [r2.length]; simpa using h2
  obtain ⟨u, hu, ru⟩ := r.get (List.getElem?_eq_getElem k1)
  obtain ⟨v, hv, rv⟩ := r2.get (List.getElem?_eq_getElem k2)
  obtain ⟨d, hd, rd'⟩ := rd.getV (List.getElem?_eq_getElem k1)
  obtain ⟨e, he, re'⟩ := re.getV (List.getElem?_eq_getElem k2)
  rw [g1] at hu
  rw [g2] at hv
  rw [Option.some.inj hu, Option.some.inj hv]
  have hT : T d e = some (decide (i < m)) := by
    by_cases q : i < m
    · rw [decide_eq_true q]
      exact m3 i d e q hd he
    · rw [decide_eq_false q]
      have : i = m := by omega
      subst this
      exact m4 d e hd he
  refine wpAny_mono (h A.in1 pins s' σ H1 G d e _ _ u v _ sb.in1 I1 (sG.trans e1) ru rv rd' re' hT) (fun r s2 q => ?_) fun _ _ x => x
  obtain ⟨hr, H2, I2, e2⟩ := q
  exact ⟨hr, H2, I2, e1.trans e2⟩
theorem Reps.len2 {K : PySem.W.Frag} {G : Hp} {ds : List D} {vs : List V} {its : List Value} (h : Reps K G ds vs) (r : Vals vs its) : its.toArray.size = ds.length := by
  rw [List.size_toArray, ← r.length, h.length]
theorem rcB (he : OwB X ne (k + 1) E) (hi : EqB X (k + n) (idn CL (eqT CL E n))) : RcB X ne (k + n + 1) (eqT CL E (n + 1)) := by
  intro A pins s σ H G d e x y u v b sb I sG rx ry rde hT
  obtain ⟨rd, re⟩ := rde.top sG
  unfold eqT at hT
  split at hT
  · rename_i hok
    obtain ⟨o1, o2⟩ := Bool.and_eq_true_iff.mp hok
    have := Option.some.inj hT
    subst this
    obtain ⟨as, r1⟩ := Dp.reads I _ x u (RepT.dp sG 16 d x o1 rd) rx
    obtain ⟨bs, r2⟩ := Dp.reads I _ y v (RepT.dp sG 16 e y o2 re) ry
    have hu : A.units + 64 < cLine := by have := sb.room.un; omega
    cases ne
    · exact SeqAt.compareEq_shaped r1 r2 (okD_shaped (by decide) o1) (okD_shaped (by decide) o2) hu (Q := fun r s' => r = .bool (false != eqD d e) ∧ AB X pins σ H s') ⟨by rw [Bool.false_bne]; rfl, H, I, .refl _⟩
    · exact SeqAt.compareNe_shaped r1 r2 (okD_shaped (by decide) o1) (okD_shaped (by decide) o2) hu (Q := fun r s' => r = .bool (true != eqD d e) ∧ AB X pins σ H s') ⟨by rw [Bool.true_bne]; rfl, H, I, .refl _⟩
  · cases d with
    | lst ds =>
      cases e with
      | lst es =>
        dsimp only at hT
        obtain ⟨a, xs, rfl, q, rs⟩ := rd
        obtain ⟨a', ys, rfl, q', rs'⟩ := re
        cases rx
        cases ry
        split at hT
        · rename_i hlen
          obtain ⟨m, m1, m2, m3, m4, m5, m6⟩ := cmpS_spec hT
          have hb : b = decide (m = ds.length) := by
            rw [m5, ← hlen, Bool.and_self]
          rw [hb]
          refine GB.rc_listB ne (N := ds.length) (m := m) m1 sb.room.units0 (fun _ s' => AB X pins σ H s') (fun i s' q2 => ?_) (fun i s' q2 => ⟨rfl, q2⟩) ⟨H, I, .refl _⟩
          obtain ⟨H1, I1, e1⟩ := id q2
          obtain ⟨its, r, ⟨⟨oc, od, oa, os⟩, k1, ho, hc, hdd, hdt⟩, _⟩ := I1.list (e1.seq q)
          obtain ⟨its2, r2, ⟨⟨oc2, od2, oa2, os2⟩, k2, ho2, hc2, hdd2, hdt2⟩, _⟩ := I1.list (e1.seq q')
          simp only at hc hdt hc2 hdt2
          subst hc hdt hc2 hdt2
          exact ⟨its.toArray, its2.toArray, k1, k2, _, _, _, _, ho, ho2, rs.len2 r, by rw [rs'.len2 r2, hlen], fun h1 h2 => turnB hi sb sG rs rs' r r2 m3 m4 i h1 h2 s' q2⟩
        · rename_i hlen
          have := Option.some.inj hT
          subst this
          obtain ⟨its, r, ⟨⟨oc, od, oa, os⟩, k1, ho, hc, hdd, hdt⟩, _⟩ := I.list q
          obtain ⟨its2, r2, ⟨⟨oc2, od2, oa2, os2⟩, k2, ho2, hc2, hdd2, hdt2⟩, _⟩ := I.list q'
          simp only at hc hdt hc2 hdt2
          subst hc hdt hc2 hdt2
          exact GB.rc_listZ ne sb.room.units0 ho ho2 (by rw [rs.len2 r, rs'.len2 r2]; exact hlen) ⟨by rw [Bool.bne_false], H, I, .refl _⟩
      | _ => cases hT
    | tup ds =>
      cases e with
      | tup es =>
        dsimp only at hT
        obtain ⟨a, xs, rfl, q, rs, _⟩ := rd
        obtain ⟨a', ys, rfl, q', rs', _⟩ := re
        cases rx
        cases ry
        obtain ⟨m, m1, m2, m3, m4, m5, m6⟩ := cmpS_spec hT
        obtain ⟨its, r, z, _⟩ := I.tuple q
        obtain ⟨its2, r2, z2, _⟩ := I.tuple q'
        rw [m5, ← rs.len2 r, ← rs'.len2 r2]
        rw [← rs.len2 r] at m1 m6
        rw [← rs'.len2 r2] at m2 m6
        exact GB.rc_tupB ne m1 m2 m6 sb.room.units0 (fun _ s' => AB X pins σ H s') z z2 (fun i h1 h2 s' q2 => turnB hi sb sG rs rs' r r2 m3 m4 i h1 h2 s' q2) (fun i s' q2 => ⟨rfl, q2⟩) ⟨H, I, .refl _⟩
      | _ => cases hT
    | ins c ns ds =>
      obtain ⟨rd', re'⟩ : Rep X.K G (.ins c ns ds) x ∧ Rep X.K G e y := rde
      exact he A pins s σ H G _ e x y u v b (sb.mono (by omega)) I sG rx ry rd' re' rfl hT
    | _ => cases hT

theorem eqT_ins0 {d e : D} {b : Bool} (h : eqT CL E n d e = some b) : (okD 16 d = true ∧ okD 16 e = true ∧ b = eqD d e) ∨ ∃ z : Nat, ∀ K G x, Rep K G d x → ∃ a, x = V.ref a := by
  cases n with
  | zero => cases h
  | succ n =>
    unfold eqT at h
    split at h
    · rename_i hok
      obtain ⟨o1, o2⟩ := Bool.and_eq_true_iff.mp hok
      exact .inl ⟨o1, o2, (Option.some.inj h).symm⟩
    · refine .inr ⟨0, fun K G x r => ?_⟩
      cases d with
      | lst ds =>
        unfold Rep at r
        obtain ⟨a, _, q, _⟩ := r
        exact ⟨a, q⟩
      | tup ds =>
        unfold Rep at r
        obtain ⟨a, _, q, _⟩ := r
        exact ⟨a, q⟩
      | ins c ns ds =>
        unfold Rep at r
        obtain ⟨a, _, _, q, _⟩ := r
        exact ⟨a, q⟩
      | _ => cases h
theorem eqB_of (dj : DJ X.K CL) (h : RcB X false n (eqT CL E m)) : EqB X n (idn CL (eqT CL E m)) := by
  intro A pins s σ H G d e x y u v b sb I sG rx ry rd re hT
  unfold idn at hT
  have hb : eqT CL E m d e = some b ∧ (b = false → mb CL d e = false) := by
    cases z : eqT CL E m d e with
    | none =>
      rw [z] at hT
      cases hT
    | some r =>
      rw [z] at hT
      cases r with
      | true => exact ⟨hT, fun q => by rw [← Option.some.inj hT] at q; cases q⟩
      | false =>
        dsimp only at hT
        split at hT
        · cases hT
        · rename_i q
          exact ⟨hT, fun _ => Bool.eq_false_iff.mpr q⟩
  obtain ⟨hE, hmb⟩ := hb
  rcases eqT_ins0 hE with ⟨o1, o2, hb⟩ | ⟨_, hr⟩
  · obtain ⟨as, r1⟩ := Dp.reads I _ x u (RepT.dp sG 16 d x o1 (Rep.top sG rd)) rx
    obtain ⟨bs, r2⟩ := Dp.reads I _ y v (RepT.dp sG 16 e y o2 (Rep.top sG re)) ry
    have hu : A.units + 64 < cLine := by have := sb.room.un; omega
    subst hb
    exact SeqAt.eqAt_reads _ _ A s u v as bs r1 r2 (SeqAt.canLay_of_shaped (okD_shaped (by decide) o1)) (SeqAt.canLay_of_shaped (okD_shaped (by decide) o2)) (SeqAt.room_of_shaped (okD_shaped (by decide) o1) hu) X.prog X.w X.xe _ ⟨rfl, H, I, .refl _⟩
  · obtain ⟨a, rfl⟩ := hr _ _ _ rd
    cases rx
    by_cases hv : v = .ref a
    · subst hv
      have : y = .ref a := ry.inj rfl
      subst this
      have hm := mb_ok I sG dj d e _ rd re
      cases b with
      | false =>
        rw [hmb rfl] at hm
        cases hm
      | true => exact SeqAt.EqAt.same (A := A) (s := s) (.ref a) X.prog X.w X.xe _ ⟨rfl, H, I, .refl _⟩
    · refine eqBool_refB hv (wpAny_mono (h A pins s σ H G d e (.ref a) y _ _ b sb I sG rfl ry (RepU.of sG rd re) hE) (fun r s' q => ?_) fun _ _ x => x)
      obtain ⟨hr', q⟩ := q
      exact ⟨b, by rw [hr', Bool.false_bne], rfl, q⟩
theorem eqB_all (dj : DJ X.K CL) (he : OwB X false k E) : ∀ m, EqB X (k + m) (idn CL (eqT CL E m))
  | 0 => eqB_of dj fun A pins s σ H G d e x y u v b sb I sG rx ry rd hT => by cases hT
  | m + 1 => eqB_of dj (rcB (fun A pins s σ H G d e x y u v b sb => he A pins s σ H G d e x y u v b (sb.mono (Nat.le_succ _))) (eqB_all dj he m))
theorem rcB_all (dj : DJ X.K CL) (he : OwB X false k E) (hn : OwB X ne (k + 1) E) (m : Nat) : RcB X ne (k + m + 1) (eqT CL E (m + 1)) := rcB hn (eqB_all dj he m)
end
end TL

namespace TL
open PySem PySem.Spec L2
/-! ### an own == , as a function -/
def ownE (tb : List CI) (cs : List Str) (F : Fn) : D → D → Option Bool := fun d e => match d with
  | .ins c _ _ => if (cs.contains c && (tagOf tb e).isSome) = true then (match F [.im d, .im e] with
    | .rt (.bl b) _ => some b
    | _ => none) else none
  | _ => none
theorem djB_ok {K : PySem.W.Frag} {CL : List Str} (h : djB K CL = true) : DJ K CL := fun c hc c' hc' e => by
  have := List.all_eq_true.mp (List.all_eq_true.mp h c hc) c' hc'
  rw [e] at this
  simpa using this
section
variable {X : Cx} {tb : List CI} {ks cs ps : List Str} {F : Fn} {k : Nat}
theorem nf_tag {K : PySem.W.Frag} (h : nfB K tb cs = true) {c : Str} (hc : c ∈ cs) {e : D} {g : Sum String CI} (hg : tagOf tb e = some g) : PySem.W.notFirst K (He.ga K c) (tagV K g) = true := by
  obtain ⟨h1, h2⟩ := Bool.and_eq_true_iff.mp (List.all_eq_true.mp h c hc)
  cases g with
  | inl t => exact List.all_eq_true.mp h1 t (tag_bts hg)
  | inr ci => exact List.all_eq_true.mp h2 ci (tag_ci hg)
theorem frame2 {K : PySem.W.Frag} {G H : Hp} {d e : D} {x y : V} (sG : Same G H) (rd : Rep K G d x) (re : Rep K G e y) : ∃ fx : Fx, AR K fx G H [x, y] [.im d, .im e] ∧ ∀ G' H' sl', Same G G' → ER K fx G' H' ([x, y].map some) sl' → Same H H' := by
  classical
  refine ⟨⟨fun a => if G a = none then H a else none, fun _ => none⟩, ⟨⟨rfl, sG, fun a o q => ?_, fun a o q => ?_, fun i d' q => ?_, fun i b d' q => ?_, fun i j b c d' e' p q => ?_, fun i p q => by cases q⟩, fun i b d' q => ?_⟩, fun G' H' sl' s r a o q => ?_⟩
  · dsimp only at q
    split at q
    · exact q
    · cases q
  · dsimp only at q
    split at q
    · exact .inl (by assumption)
    · cases q
  · rcases i with _ | _ | i
    · simp at q
      subst q
      exact ⟨x, rfl, rd⟩
    · simp at q
      subst q
      exact ⟨y, rfl, re⟩
    · simp at q
  · rcases i with _ | _ | i <;> simp at q
  · rcases i with _ | _ | i <;> simp at q
  · rcases i with _ | _ | i <;> simp at q
  · by_cases g : G a = none
    · exact r.sF a o (by dsimp only; rw [if_pos g]; exact q)
    · obtain ⟨o', g'⟩ := Option.ne_none_iff_exists'.mp g
      have e1 := sG a o' g'
      rw [q] at e1
      rw [Option.some.inj e1]
      exact r.sG a o' (s a o' g')

/-- the own == is called -/
theorem own_call (T : CT X.K tb ks) (M : ∀ c ∈ cs, MeT X.prog X.w X.K X.mg X.base k c "__eq__" ps (TF F)) {A : Around} {pins : List (Addr × Obj)} {s : Shared} {σ : St} {H G : Hp} {c : Str} {ns : List Str} {ds : List D} {e : D} {a : Addr} {y : V} {v : Value} {b : Bool}
    (sb : Sub X k A) (I : Inv X pins σ H s) (sG : Same G H) (ry : RelV y v) (rd : Rep X.K G (.ins c ns ds) (.ref a)) (re : Rep X.K G e y) (hE : ownE tb cs F (.ins c ns ds) e = some b) :
    ∃ f g, c ∈ cs ∧ tagOf tb e = some g ∧ Meth X.K (He.ga X.K c) "__eq__" f ∧ wpAny (model X.prog X.w) A (call (.ref f) [.ref a, v]) (fun r s' => r = .bool b ∧ AB X pins σ H s') X.xe s := by
  unfold ownE at hE
  dsimp only at hE
  split at hE
  · rename_i hc
    obtain ⟨hc, ht⟩ := Bool.and_eq_true_iff.mp hc
    have hc := List.contains_iff_mem.mp hc
    obtain ⟨g, hg⟩ := Option.isSome_iff_exists.mp ht
    have hF : ∃ sl, F [.im (.ins c ns ds), .im e] = .rt (.bl b) sl := by
      split at hE
      · rename_i b' sl z
        exact ⟨sl, by rw [z, Option.some.inj hE]⟩
      · cases hE
    obtain ⟨sl, hF⟩ := hF
    obtain ⟨f, fd, Fk, hm, cl, hb⟩ := (M c hc).ex
    refine ⟨f, g, hc, hg, hm, ?_⟩
    have e0 : Env0 X.prog X.w X.K X.mg X.base A X.stack s H := by
      have e := I.env0
      exact ⟨by rw [sb.fr]; exact e.frames, e.mod, e.bs, e.bsz, e.funs, e.frf, e.hok, e.bare⟩
    obtain ⟨fx, ar, bk⟩ := frame2 sG rd re
    have hsp : spT X.K (TF F) [.ref a, y] H (fun v H' => v = .bl b ∧ Same H H') (fun _ _ _ => False) :=
      ⟨fx, G, _, ⟨fun d' sl' => d' = .bl b, fun _ _ => False, fun _ _ => False⟩, ar, by unfold TF; rw [hF]; rfl, fun d' sl' v' G' H' s' r' rp hq => by
        subst hq
        exact ⟨rp, bk G' H' sl' s' r'⟩, fun _ _ _ _ _ _ _ _ _ _ _ _ _ z => z.elim, fun _ _ _ _ _ _ _ _ _ z => z.elim⟩
    have hl := Fk.len _ _ _ _ hsp
    have r2 : Vals [V.ref a, y] [Value.ref a, v] := .cons rfl (.cons ry .nil)
    refine wpAny_call (codeAny_mono (Fk.run A X.stack s H ⟨[.ref a, v], []⟩ [.ref a, v] [.ref a, y] _ _ sb.room e0 (by
      have := hb s [.ref a, v] I.kIn (by simpa using hl)
      simpa using this) r2 hsp) fun r s' hq => ?_)
    cases r with
    | error e =>
      obtain ⟨_, _, _, _, _, _, _, _, _, _, _, _, h⟩ := hq
      exact h.elim
    | ok fl =>
      cases fl with
      | ret w =>
        obtain ⟨z, H', I', rz, ez, ex⟩ := I.after hq
        subst ez
        cases rz
        exact ⟨rfl, H', I', ex⟩
      | next => exact False.elim hq
      | brk => exact False.elim hq
      | cont => exact False.elim hq
  · cases hE
theorem owB_eq (T : CT X.K tb ks) (M : ∀ c ∈ cs, MeT X.prog X.w X.K X.mg X.base k c "__eq__" ps (TF F)) (nf : nfB X.K tb cs = true) : OwB X false k (ownE tb cs F) := by
  intro A pins s σ H G d e x y u v b sb I sG rx ry rd re hI hE
  cases d with
  | ins c ns ds =>
    have rd0 := rd
    unfold Rep at rd
    obtain ⟨a, dx, vs, rfl, q, l, rs⟩ := rd
    cases rx
    obtain ⟨f, g, hc, hg, hm, hw⟩ := own_call T M sb I sG ry rd0 re hE
    obtain ⟨mA, J, _⟩ := ins_get I.hok (sG _ _ q)
    obtain ⟨od, J, _⟩ := J.look
    obtain ⟨m, hFr⟩ := I.fr
    obtain ⟨P, kx, hP, _⟩ := kit_of I ry (T.ty hg (Rep.top sG re))
    refine PySem.W.cmp_K (op := .Eq) (tb := tagV X.K g) sb.room.units0 hFr I.ok.mod.kin J (kx.ty _ _ I.kIn hP) (nf_tag nf hc hg) hm.at_ hm.fn (wpAny_mono hw (fun r s' hq => ?_) fun _ _ x => x)
    obtain ⟨rfl, ab⟩ := hq
    exact ⟨by rw [Bool.false_bne], ab⟩
  | _ => cases hI
section
variable {prog : Program} {w : World} {A : Around} {E : Value → Shared → Prop} {s : Shared} {K : PySem.W.Frag} {x C f : Addr} {ox : Obj} {od : Option Obj} {v : Value}
theorem ne_entry (X : K.In s.heap) (I : PySem.W.InstAt s.heap x ox C od) (hs : PySem.W.findIn K (.ref C) "__eq__" = some (some (.ref f))) (hf : PySem.W.isFn K (.ref f) = true) (hu : A.units < cLine) {Q : Fin → Shared → Prop}
    (hcall : wpAny (model prog w) A (call (.ref f) [.ref x, v]) (fun r s' => ∃ b, r = .bool b ∧ Q (.done (.ret (.bool (!b)))) s') E s) :
    wpAny (model prog w) A (Builtin.«object.__ne__» ⟨[.ref x, v], []⟩) Q E s := by
  unfold Builtin.«object.__ne__»
  repeat (first
    | with_reducible refine wpAny_cRoomFor hu ?_
    | (refine wpAny_bind (m := callSpecialIfBound? (.ref x) (Str.ofString "__eq__") [v])
        (PySem.W.ifBound_K X I hs hf (wpAny_mono hcall (fun r s' hr => by
          obtain ⟨b, rfl, hq⟩ := hr
          repeat (first | exact hq | exact wpAny_pure hq | exact wpAny_truthy_bool hq | (refine wpAny_bind (m := truthy (.bool _)) (wpAny_truthy_bool ?_)) | wp_step)) fun _ _ e => e)))
    | wp_step)
theorem ifBound_objNe {args : List Value} {Q : Option Value → Shared → Prop} (X : K.In s.heap) (I : PySem.W.InstAt s.heap x ox C od) (hs : PySem.W.findIn K (.ref C) "__ne__" = some (some (.builtin "object.__ne__")))
    (h : wpAny (model prog w) A (call (.builtin "object.__ne__") (.ref x :: args)) (fun v => Q (some v)) E s) : wpAny (model prog w) A (callSpecialIfBound? (.ref x) "__ne__" args) Q E s := by
  simp only [callSpecialIfBound?, bindSpecialIfBound?]
  refine wpAny_holding (wpAny_bind (wpAny_bind (wpAny_bind (I.type.here ((PySem.W.looks_findIn X hs).here ?_)))))
  refine wpAny_bind (wpAny_askSetting (wpAny_ite ?_))
  have fin : wpAny (model prog w) A (call (.builtin "object.__ne__") ([.ref x] ++ args) >>= fun v => pure (some v)) Q E s := wpAny_bind (wpAny_mono h (fun v s' h' => wpAny_pure h') fun _ _ h' => h')
  split
  · exact wpAny_bind (wpAny_of_eq (F.cmp_object.ne.bind _) (wpAny_pure (by exact fin)))
  · exact wpAny_tryCatch (wpAny_bind (wpAny_of_eq (F.cmp_object.ne.bind _) (wpAny_pure (by exact fin))))
theorem cmp_N {tb : Value} {Q : Value → Shared → Prop} (hu : A.units + 1 < cLine) (X : K.In s.heap) (I : PySem.W.InstAt s.heap x ox C od) (hb : PySem.W.Looks (model prog w) s.heap (typeOf v) tb) (hn : PySem.W.notFirst K C tb = true)
    (hne : PySem.W.findIn K (.ref C) "__ne__" = some (some (.builtin "object.__ne__"))) (hm : PySem.W.mroIn K C (.type "object") = some true)
    (hs : PySem.W.findIn K (.ref C) "__eq__" = some (some (.ref f))) (hf : PySem.W.isFn K (.ref f) = true)
    (h : wpAny (model prog w) A.in1 (call (.ref f) [.ref x, v]) (fun r s' => ∃ b, r = .bool b ∧ Q (.bool (!b)) s') E s) : wpAny (model prog w) A (richCompare .NotEq (.ref x) v) Q E s := by
  have one : wpAny (model prog w) A (tryCompare (.ref x) "__ne__" v) (fun r s' => ∃ v, r = some v ∧ Q v s') E s := by
    unfold tryCompare
    refine wpAny_bind (ifBound_objNe X I hne (wpAny_call (codeAny_call_builtin F.cmp_object.ne.plain F.cmpEntry_ne (PySem.W.check_slot F.cmpKind_ne F.cmpSplit_ne (I.type.andThen (PySem.W.looks_mroIn X hm)) (F.cmpArgs_ne _ _)
      (ne_entry (A := A.in1) X I hs hf hu (wpAny_mono h (fun r s' hr => ?_) fun _ _ e => e))))))
    obtain ⟨b, rfl, hq⟩ := hr
    exact ⟨b, rfl, wpAny_pure ⟨_, rfl, hq⟩⟩
  unfold richCompare
  simp only [oneThing_ref]
  refine wpAny_holding (wpAny_bind (wpAny_cRoomFor (Nat.lt_of_succ_lt hu) ?_))
  refine wpAny_bind (I.type.here (wpAny_bind (hb.here ?_)))
  split
  · rename_i q
    have e : PySem.W.subIn K tb (.ref C) = some false := by
      rcases Bool.or_eq_true_iff.mp hn with e | e
      · rw [beq_iff_eq.mp e] at q; simp at q
      · exact beq_iff_eq.mp e
    refine wpAny_bind ((PySem.W.looks_subIn X e).here ?_)
    simp only [Bool.false_eq_true, if_false]
    refine wpAny_bind (wpAny_mono one (fun r s' z => ?_) fun _ _ e => e)
    obtain ⟨v, rfl, hq⟩ := z
    exact wpAny_pure hq
  · refine wpAny_bind (wpAny_pure ?_)
    simp only [Bool.false_eq_true, if_false]
    refine wpAny_bind (wpAny_mono one (fun r s' z => ?_) fun _ _ e => e)
    obtain ⟨v, rfl, hq⟩ := z
    exact wpAny_pure hq
end
theorem owB_ne (T : CT X.K tb ks) (M : ∀ c ∈ cs, MeT X.prog X.w X.K X.mg X.base k c "__eq__" ps (TF F)) (nf : nfB X.K tb cs = true) (nn : neB X.K cs = true) : OwB X true (k + 1) (ownE tb cs F) := by
  intro A pins s σ H G d e x y u v b sb I sG rx ry rd re hI hE
  cases d with
  | ins c ns ds =>
    have rd0 := rd
    unfold Rep at rd
    obtain ⟨a, dx, vs, rfl, q, l, rs⟩ := rd
    cases rx
    obtain ⟨f, g, hc, hg, hm, hw⟩ := own_call T M sb.in1 I sG ry rd0 re hE
    obtain ⟨n1, n2⟩ := Bool.and_eq_true_iff.mp (List.all_eq_true.mp nn c hc)
    obtain ⟨mA, J, _⟩ := ins_get I.hok (sG _ _ q)
    obtain ⟨od, J, _⟩ := J.look
    obtain ⟨P, kx, hP, _⟩ := kit_of I ry (T.ty hg (Rep.top sG re))
    refine cmp_N (tb := tagV X.K g) (by have := sb.room.un; omega) I.kIn J (kx.ty _ _ I.kIn hP) (nf_tag nf hc hg) (of_decide_eq_true n1) (of_decide_eq_true n2) hm.at_ hm.fn (wpAny_mono hw (fun r s' hq => ?_) fun _ _ x => x)
    obtain ⟨rfl, ab⟩ := hq
    exact ⟨b, rfl, by rw [Bool.true_bne], ab⟩
  | _ => cases hI
end
end TL

namespace TL
open PySem PySem.Spec L2
def qT (T : D → D → Option Bool) (e : Ev) (h1 h2 : Hd) : Option Bool := match h1 with
  | .im d1 => (match h2 with
    | .im d2 => T d1 d2
    | _ => (hv e h2).bind fun d2 => if isIns d1 = true then none else T d1 d2)
  | _ => (hv e h1).bind fun d1 => (hv e h2).bind fun d2 => if isIns d1 = true then none else T d1 d2
def f2q (ne : Bool) (T : D → D → Option Bool) (fa fb : FO) : FE := fun env => (fa env).bd fun h1 e1 => (fb e1).bd fun h2 e2 => match qT T e2 h1 h2 with
  | some b => .ok (.bl (ne != b)) e2
  | none => .bad
def rOw (K : PySem.W.Frag) (ne : Bool) (T : D → D → Option Bool) : R2 := fun x y H Q => ∃ G d e b, Same G H ∧ RepU K G H d e x y ∧ T d e = some b ∧ ∀ H', Same H H' → Q (.bl (ne != b)) H'
section
variable {X : Cx} {W : WX} {a b : Expr} {fa fb : FO} {T : D → D → Option Bool} {n k m : Nat} {ne : Bool} {tb : List CI} {ks cs ps CL : List Str} {F : Fn}
theorem op_ow (h : RcB X ne n T) (hr : Room n X.A) : OpR X (compareOp (GB.opOf ne)) (rOw X.K ne T) := by
  intro pins s σ H x y v u Q I rx ry hq
  obtain ⟨G, d, e, b, sG, ru, hT, q⟩ := hq
  have h' := h X.A pins s σ H G d e x y v u b ⟨hr, rfl⟩ I sG rx ry ru hT
  have z : wpAny (model X.prog X.w) X.A (richCompare (GB.opOf ne) v u) (EP X pins σ Q) X.xe s := by
    refine wpAny_mono h' (fun r s' z => ?_) fun _ _ x => x
    obtain ⟨rfl, H', I', e'⟩ := z
    exact ⟨.bl (ne != b), H', I', rfl, q H' e'⟩
  cases ne
  · exact z
  · exact z
theorem repU_of {K : PySem.W.Frag} {x : Fx} {G H : Hp} {σ : St} {env : Ev} (r : ER K x G H σ env) {h1 h2 : Hd} {v1 v2 : V} {b : Bool} (q1 : HR K G σ h1 v1) (q2 : HR K G σ h2 v2) (h : qT T env h1 h2 = some b) : ∃ d e, RepU K G H d e v1 v2 ∧ T d e = some b := by
  unfold qT at h
  have two : ∀ {d1 d2 : D}, hv env h1 = some d1 → hv env h2 = some d2 → (if isIns d1 = true then none else T d1 d2) = some b → ∃ d e, RepU K G H d e v1 v2 ∧ T d e = some b := fun {d1 d2} z1 z2 z => by
    split at z
    · cases z
    · rename_i hi
      exact ⟨d1, d2, by unfold RepU; rw [if_neg hi]; exact ⟨q1.read r z1, q2.read r z2⟩, z⟩
  cases h1 with
  | im d1 =>
    cases h2 with
    | im d2 => exact ⟨d1, d2, RepU.of r.sG q1 q2, h⟩
    | ow j =>
      dsimp only at h
      obtain ⟨d2, z2, h⟩ := Option.bind_eq_some_iff.mp h
      exact two rfl z2 h
  | ow i =>
    dsimp only at h
    obtain ⟨d1, z1, h⟩ := Option.bind_eq_some_iff.mp h
    obtain ⟨d2, z2, h⟩ := Option.bind_eq_some_iff.mp h
    exact two z1 z2 h
theorem l2q {K : PySem.W.Frag} (σ : St) (H : Hp) (Q : VK) (h : lO K W (imO (wp (f2q ne T fa fb))) σ H Q) : tOp (rOw K ne T) (lO K W (wp fa)) (lO K W (wp fb)) σ H Q := by
  obtain ⟨x, G, env, Q', X', r', hw, hn, hx⟩ := h
  have hw : ((fa env).bd fun h1 e1 => (fb e1).bd fun h2 e2 => match qT T e2 h1 h2 with | some b => Re.ok (D.bl (ne != b)) e2 | none => .bad).on (fun d e => Q' (.im d) e) X' := hw
  rw [Re.on_bd] at hw
  refine ⟨x, G, env, _, X', r', hw, fun h1 e1 v1 G1 H1 s1 r1 q1 hw1 => ?_, hx⟩
  rw [Re.on_bd] at hw1
  refine ⟨x, G1, e1, _, X', r1, hw1, fun h2 e2 v2 G2 H2 s2 r2 q2 hw2 => ?_, hx.up s1⟩
  cases z : qT T e2 h1 h2 with
  | none =>
    rw [z] at hw2
    exact hw2.elim
  | some b =>
    rw [z] at hw2
    obtain ⟨d, e, ru, hT⟩ := repU_of r2 (q1.mono s2) q2 z
    refine ⟨G2, d, e, b, r2.sG, ru, hT, fun H' sH => ?_⟩
    have st : Step G2 H2 G2 H' := ⟨.refl _, sH, r2.sG.trans sH, fun a o e q => by rw [q] at e; cases e⟩
    exact hn (.im (.bl (ne != b))) e2 _ G2 H' (s1.trans s2) (r2.step st) rfl hw2
theorem kc_ow (h : RcB X ne n T) (hr : Room n X.A) (ha : KO X W a fa) (hb : KO X W b fb) (hm : behindInMarks (GB.opOf ne) b = false) : KC X W (GB.opOf ne) a b (f2q ne T fa fb) :=
  ⟨fun _ => (pe_cmpR (op_ow h hr) ha hb hm).le l2q, fun _ => QT.le (w := wB (wp (f2q ne T fa fb))) ((pt_cmpR (op_ow h hr) ha hb hm).le fun σ H Q h => l2q σ H _ (lB σ H Q h)) leB⟩
abbrev eqO (tb : List CI) (cs : List Str) (F : Fn) : D → D → Option Bool := eqT cs (ownE tb cs F) 6
theorem kc_eqO (T : CT X.K tb ks) (hq : oqB X.K tb cs = true) (M : ∀ q ∈ TFs (cs.map fun c => (c, F)), MeT X.prog X.w X.K X.mg X.base k q.1 "__eq__" ps q.2) (hr : Room (k + 6) X.A) (ha : KO X W a fa) (hb : KO X W b fb) : KC X W .Eq a b (f2q false (eqO tb cs F) fa fb) := by
  obtain ⟨h1, h2⟩ := Bool.and_eq_true_iff.mp hq
  obtain ⟨h2, h3⟩ := Bool.and_eq_true_iff.mp h2
  have M' : ∀ c ∈ cs, MeT X.prog X.w X.K X.mg X.base k c "__eq__" ps (TF F) := fun c hc => M (c, TF F) (by unfold TFs; simp only [List.map_map, List.mem_map]; exact ⟨c, hc, rfl⟩)
  exact kc_ow (ne := false) (rcB_all (djB_ok h1) (owB_eq T M' h2) (fun A pins s σ H G d e x y u v b sb => owB_eq T M' h2 A pins s σ H G d e x y u v b (sb.mono (Nat.le_succ _))) 5) hr ha hb (nomark _)
theorem kc_neO (T : CT X.K tb ks) (hq : oqB X.K tb cs = true) (M : ∀ q ∈ TFs (cs.map fun c => (c, F)), MeT X.prog X.w X.K X.mg X.base k q.1 "__eq__" ps q.2) (hr : Room (k + 6) X.A) (ha : KO X W a fa) (hb : KO X W b fb) : KC X W .NotEq a b (f2q true (eqO tb cs F) fa fb) := by
  obtain ⟨h1, h2⟩ := Bool.and_eq_true_iff.mp hq
  obtain ⟨h2, h3⟩ := Bool.and_eq_true_iff.mp h2
  have M' : ∀ c ∈ cs, MeT X.prog X.w X.K X.mg X.base k c "__eq__" ps (TF F) := fun c hc => M (c, TF F) (by unfold TFs; simp only [List.map_map, List.mem_map]; exact ⟨c, hc, rfl⟩)
  exact kc_ow (ne := true) (rcB_all (djB_ok h1) (owB_eq T M' h2) (owB_ne T M' h2 h3) 5) hr ha hb (nomark _)
theorem ke_eqO {pos : Pos} (T : CT X.K tb ks) (hq : oqB X.K tb cs = true) (M : ∀ q ∈ TFs (cs.map fun c => (c, F)), MeT X.prog X.w X.K X.mg X.base k q.1 "__eq__" ps q.2) (hr : Room (k + 6) X.A) (ha : KO X W a fa) (hb : KO X W b fb) : KE X W (.Compare a [.Eq] [b] pos) (f2q false (eqO tb cs F) fa fb) := (kc_eqO T hq M hr ha hb).e pos
theorem kt_neO {pos : Pos} (T : CT X.K tb ks) (hq : oqB X.K tb cs = true) (M : ∀ q ∈ TFs (cs.map fun c => (c, F)), MeT X.prog X.w X.K X.mg X.base k q.1 "__eq__" ps q.2) (hr : Room (k + 6) X.A) (ha : KO X W a fa) (hb : KO X W b fb) : KT X W (.Compare a [.NotEq] [b] pos) (fB (f2q true (eqO tb cs F) fa fb)) := (kc_neO T hq M hr ha hb).t pos
end
/-! ### equations -/
section
variable {tb : List CI} {cs : List Str} {F : Fn} {T : D → D → Option Bool}
end
end TL

namespace TL
open PySem PySem.Spec L2
/-! ### {k: v, ..} -/
def kD : Key → D
  | .inl i => .int i
  | .inr s => .str s
def fDs : List (Key × FE) → Ev → Re (List D)
  | [], env => .ok [] env
  | (_, f) :: r, env => (f env).bd fun d e => (fDs r e).bd fun l e' => .ok (d :: l) e'
def fDisp (ps : List (Key × FE)) : FE := fun env => (fDs ps env).bd fun l e => .ok (.dic (ps.map (·.1)) l) e
section
variable {X : Cx} {W : WX} {K : PySem.W.Frag} {x : Fx} {σ : St}
def trsOf (K : PySem.W.Frag) (W : WX) (ps : List (Key × FE)) : List (TE × TE) := ps.map fun q => (lO K W (imO (wp (fC (kD q.1)))), lO K W (imO (wp q.2)))
/-- the pairs, from the left -/
abbrev KPs (X : Cx) (W : WX) (pos : Pos) (keys : List (Option Expr)) (values : List Expr) (ps : List (Key × FE)) : Prop := PPs X pos keys values (trsOf X.K W ps)
/-! ### d[k] of a dict -/
def gDGet (d e : D) : Option D := match d with
  | .dic ks ds => (keyOf e).bind fun k => dval ks ds k
  | _ => none
def kDGet : D → D → (D → Prop) → Prop := fun d e P => mo (gDGet d e) P
def rDGet : R2 := fun x y H Q => ∃ a v, x = .ref a ∧ DGet H a y (some v) ∧ Q v H
end
/-! ### what is never reached -/
def fBad : FE := fun _ => .bad
section
variable {X : Cx} {W : WX} {e : Expr}
end
end TL

namespace TL
open PySem PySem.Spec L2
/-! ### raise X() -/
structure X0Txt (K : PySem.W.Frag) (mg : Str → Option Value) (cn : Str) (C : Addr) : Prop where
  gC : mg cn = some (.ref C)
  q : PySem.W.excIn K C He.veBase "ValueError.__new__" = true
  kC : PySem.W.keepIn K (.ref C) = true
  exC : PySem.W.subIn K (.ref C) (.type "BaseException") = some true
  tyC : PySem.W.typeIn K (.ref C) = some (.type "type")
section
variable {X : Cx} {W : WX} {cn : Str}
end
end TL

namespace TL
open PySem PySem.Spec L2
/-! ### is and is not, of truth values -/
section
variable {X : Cx} {W : WX} {a b : Expr} {fa fb : FO} {K : PySem.W.Frag}
def gBl (f : Bool → Bool → Bool) (d d' : D) : Option D := match d with
  | .bl i => (match d' with
    | .bl j => some (.bl (f i j))
    | _ => none)
  | _ => none
def gIsB := gBl fun i j => decide (i = j)
def gNotB := gBl fun i j => !decide (i = j)
end
end TL

namespace TL
open PySem PySem.Spec PyProof.Rows L2
/-! ### list(range(a, b)), list(range(a, b, c)) -/
def rLR3 : List V → Hp → VK → Prop := fun vs H Q => ∃ (i j c : Int) (n : Nat), ((vs = [.int i, .int j] ∧ c = 1) ∨ vs = [.int i, .int j, .int c]) ∧ RgC i j c n ∧ n ≤ 1000000 ∧ ∀ q, H q = none → Q (.ref q) (upd H q (.lst ((List.range n).map fun k => V.int (i + ((k : Nat) : Int) * c))))
section
variable {X : Cx} {W : WX} {a b c : Expr} {es : List Expr} {p pos p2 pos2 : Pos}
/-- how many -/
def rgN (i j c : Int) : Nat := if i < j then ((j - i - 1) / c + 1).toNat else 0
def rgB (i j c : Int) : Bool := decide (-1000000 ≤ i) && (decide (i ≤ 1000000) && (decide (-1000000 ≤ j) && (decide (j ≤ 1000000) && (decide (j - i ≤ 1000000) && (decide (0 < c) && decide (c ≤ 1000000))))))
def gLR3 (ds : List D) : Option D := match ds with
  | [.int i, .int j] => if rgB i j 1 = true then some (.lst ((List.range (rgN i j 1)).map fun k => D.int (i + ((k : Nat) : Int) * 1))) else none
  | [.int i, .int j, .int c] => if rgB i j c = true then some (.lst ((List.range (rgN i j c)).map fun k => D.int (i + ((k : Nat) : Int) * c))) else none
  | _ => none
/-! ### all([..]) -/
def blsOf : List D → Option (List Bool)
  | [] => some []
  | .bl b :: r => (match blsOf r with
    | some l => some (b :: l)
    | none => none)
  | _ => none
theorem blsOf_some : ∀ {ds : List D} {bs : List Bool}, blsOf ds = some bs → ds = bs.map D.bl
  | [], bs, h => by
    cases h
    rfl
  | d :: r, bs, h => by
    cases d with
    | bl b =>
      unfold blsOf at h
      cases z : blsOf r with
      | none =>
        rw [z] at h
        cases h
      | some l =>
        rw [z] at h
        cases h
        rw [blsOf_some z]
        rfl
    | _ => cases h
theorem reps_bls {K : PySem.W.Frag} {G : Hp} : ∀ {bs : List Bool} {vs : List V}, Reps K G (bs.map D.bl) vs → vs = bs.map V.bl
  | [], vs, h => h
  | b :: bs, vs, h => by
    obtain ⟨v, r, rfl, q1, q2⟩ := h
    rw [show v = .bl b from q1, reps_bls q2]
    rfl
def gAll (d : D) : Option D := match d with
  | .lst xs => (match blsOf xs with
    | some bs => some (.bl (bs.all id))
    | none => none)
  | _ => none
theorem ke_all {e : Expr} {fa : FO} (hc : X.calm = true) (hm : X.mg "all" = none) (ha : KO X W e fa) (hg : Gl X "all" := by rfl) (he : starEach [e] X.env = (false, eval e X.env) :: starEach [] X.env := by rfl) (hpl : (backTo pos (starEach [] X.env)).any (·.1) = false := by rfl) :
    KE X W (.Call (.Name "all" p) [e] [] pos) (fN (g1' gAll) (fCons fa fNil)) := QE.le (qe_callB (k := fun ds P => mo (one ds) fun d => mo (gAll d) P) (cr_all hc) (fun G H ds vs P Q s h hk hq => by
      obtain ⟨d, z, hk⟩ := mo_some hk
      obtain ⟨v, rfl, rt⟩ := h.one (one_some z)
      cases d with
      | lst xs =>
        have hk' : mo (match blsOf xs with | some bs => some (D.bl (bs.all id)) | none => none) P := hk
        cases z2 : blsOf xs with
        | none =>
          rw [z2] at hk'
          exact hk'.elim
        | some bs =>
          rw [z2] at hk'
          rw [blsOf_some z2] at rt
          obtain ⟨a, ws, rfl, q, r⟩ := rt
          rw [reps_bls r] at q
          exact ⟨a, bs, rfl, q, hq (.bl (bs.all id)) _ G H (.refl s) rfl hk'⟩
      | _ => exact hk.elim) hg hm (by decide +kernel) (qa_cons ha qa_nil he) (he := he) (hpl := hpl)) fun env Q Xp h => by
  refine wN_nil (leN (k := fun ds P => mo (one ds) fun d => mo (gAll d) P) (hk1 fun d P h => h) env Q Xp h)
end
end TL

namespace TL
open PySem PySem.Spec PyProof.Rows L2
/-! ### calls by names: f(k = a, l = b), in the parameters' order or turned round -/
def prm {α : Type} (sw : Bool) (l : List α) : List α := match sw with
  | true => l.reverse
  | false => l
def KB (K : PySem.W.Frag) (fd : FuncData) (ps ks : List Str) (sw : Bool) : Prop :=
  ∀ (s : Shared) (ws : List Value), K.In s.heap → ws.length = ps.length → BindsTo s fd ⟨[], ks.zip ws⟩ (ps.zip (prm sw ws))
structure FnTK (P : Program) (w : World) (K : PySem.W.Frag) (mg : Str → Option Value) (base : Heap) (k : Nat) (x : Str) (ps ks : List Str) (sw : Bool) (T : SpT) : Prop where
  ex : ∃ f fd, FnOk P w K mg base (L2.CX P w) k f fd ps (spT K T) ∧ mg x = some (.ref f) ∧ PySem.W.keepIn K (.ref f) = true ∧ KB K fd ps ks sw
theorem _root_.L2.PK.le {X : Cx} {es : List Keyword} {t t' : TA} (h : PK X es t) (i : ∀ σ H Q, t' σ H Q → t σ H Q) : PK X es t' := ⟨fun pos pins s σ H Q I hw => h.run pos pins s σ H Q I (i σ H Q hw)⟩
section
variable {X : Cx} {W : WX} {K : PySem.W.Frag} {T : SpT} {wl : WA} {fl : FA} {fa : FO} {F : Fn} {k : Nat} {x : Str} {ps ks : List Str} {sw : Bool} {e : Expr} {es : List Expr} {kws : List Keyword} {p pos kpos : Pos} {nm : Option Str}
abbrev KK (X : Cx) (W : WX) (kws : List Keyword) (f : FA) : Prop := PK X kws (lA X.K W (wp f))
theorem HRs.app2 {G : Hp} {σ : L2.St} : ∀ {hs : List Hd} {vs : List V} {hs' : List Hd} {vs' : List V}, HRs K G σ hs vs → HRs K G σ hs' vs' → HRs K G σ (hs ++ hs') (vs ++ vs')
  | [], vs, hs', vs', q, q' => by
    have e : vs = [] := q
    subst e
    exact q'
  | h :: t, vs, hs', vs', q, q' => by
    obtain ⟨v, r, rfl, q1, q2⟩ := q
    exact ⟨v, r ++ vs', rfl, q1, HRs.app2 q2 q'⟩
theorem HRs.rev {G : Hp} {σ : L2.St} : ∀ {hs : List Hd} {vs : List V}, HRs K G σ hs vs → HRs K G σ hs.reverse vs.reverse
  | [], vs, q => by
    have e : vs = [] := q
    subst e
    rfl
  | h :: t, vs, q => by
    obtain ⟨v, r, rfl, q1, q2⟩ := q
    rw [List.reverse_cons, List.reverse_cons]
    exact HRs.app2 (HRs.rev q2) ⟨v, [], rfl, q1, rfl⟩
theorem HRs.prm {G : Hp} {σ : L2.St} {hs : List Hd} {vs : List V} (q : HRs K G σ hs vs) : HRs K G σ (prm sw hs) (prm sw vs) := by
  cases sw
  · exact q
  · exact q.rev
def fCallK (F : Fn) (sw : Bool) (fl : FA) : FE := fun env => (fl env).bd fun hs e => callF F (prm sw hs) e
/-! ### a name that is owned or not -/
def foAny (i : Nat) : FO := fun env => match imAt env i with
  | some d => .ok (.im d) env
  | none => foVar i env
theorem ko_any (i : Nat) {n : Str} (hN : X.N[i]? = some n := by rfl) (hvs : Vis X.env.scope n := by first | exact Or.inl rfl | exact Or.inr (Or.inl rfl) | exact Or.inr (Or.inr rfl)) (hd : (n == ("__debug__" : Str)) = false := by decide)
    (hcd : (n == ("__classdict__" : Str)) = false := by decide) : KO X W (.Name n pos) (foAny i) := by
  refine ⟨fun pins s σ H Q I hw => ?_⟩
  obtain ⟨x, G, env, Q', X', r, hw, hn, hx⟩ := hw
  cases z : imAt env i with
  | none =>
    refine (ko_var (W := W) (pos := pos) i hN hvs hd hcd).run pins s σ H Q I ⟨x, G, env, Q', X', r, ?_, hn, hx⟩
    have hw' : (foAny i env).on Q' X' := hw
    unfold foAny at hw'
    rw [z] at hw'
    exact hw'
  | some d =>
    refine (ke_var (W := W) (pos := pos) i hN hvs hd hcd).run pins s σ H Q I ⟨x, G, env, Q', X', r, ?_, hn, hx⟩
    have hw' : (foAny i env).on Q' X' := hw
    unfold foAny at hw'
    rw [z] at hw'
    show (fVar i env).on (fun d e => Q' (.im d) e) X'
    unfold fVar
    rw [z]
    exact hw'
/-! two ways, by whether a name is owned -/
def fAlt (i : Nat) (f g : FE) : FE := fun env => match imAt env i with
  | some _ => f env
  | none => g env
end
end TL

namespace TL
open PySem PySem.Spec PyProof.Rows L2
section
variable {X : Cx} {W : WX} {a e : Expr} {fa : FO} {p pos p2 : Pos}
/-! ### sum of a tuple -/
def rSumT (K : PySem.W.Frag) : List V → Hp → VK → Prop := fun vs H Q => ∃ (a : Addr) (ns : List Int), vs = [V.ref a] ∧ SqT K H a (ns.map V.int) ∧ Q (.int ns.sum) H
def gSumT (d : D) : Option D := match d with
  | .tup xs => (match intsOf xs with
    | some ns => some (.int ns.sum)
    | none => none)
  | _ => none
/-! ### a slice of a tuple, not the whole of it -/
def fSlT (fa : FO) (fl fh : FP) : FE := fun env => (fa env).bd fun h e1 => (fl e1).bd fun lo e2 => (fh e2).bd fun hi e3 => match hv e3 h with
  | some (.tup ds) => if HT.sIx ds.length 0 lo = 0 ∧ HT.sIx ds.length ds.length hi = ds.length then .bad else .ok (.tup (cutD ds lo hi)) e3
  | _ => .bad
end
end TL

namespace TL
open PySem PySem.Spec L2
section
variable {X : Cx}
def rExtendS (K : PySem.W.Frag) : V → List V → Hp → VK → Prop := fun x vs H Q => ∃ l b xs zs, x = .ref l ∧ vs = [.ref b] ∧ H l = some (.lst xs) ∧ SqL K H b zs ∧ xs.length + zs.length ≤ sizeLine ∧ Q .non (upd H l (.lst (xs ++ zs)))
variable {K : PySem.W.Frag}
/-! ### xs.extend(ys) -/
def mExtend : List D → List D → (D → List D → Prop) → Prop := fun ds as P => mo (one as) fun d => mo (lstOf d) fun zs => ds.length + zs.length ≤ 1000000 ∧ P .non (ds ++ zs)
def mmExtend (ds as : List D) : Option (D × List D) := match as with
  | [.lst zs] => if ds.length + zs.length ≤ 1000000 then some (.non, ds ++ zs) else none
  | _ => none
end
end TL

namespace TL
open PySem PySem.Spec L2
section
variable {X : Cx} {W : WX} {a b e : Expr} {fa fb : FO} {p pos p2 apos : Pos} {K : PySem.W.Frag}
/-! ### z[i], z a text -/
def gIxS (d1 d2 : D) : Option D := match d1, d2 with
  | .str z, .int i => (match atI z.cps.toList i with
    | some c => if z.length ≤ 1000000 then some (.str ⟨#[c]⟩) else none
    | none => none)
  | _, _ => none
/-! ### int(z), z a text -/
def gIntT (d : D) : Option D := match d with
  | .str z => (match PySem.intText? z with
    | some n => if z.length ≤ 640 then some (.int n) else none
    | none => none)
  | _ => none
/-! ### z[lo:hi], z a text -/
def fSlS (fa : FO) (fl fh : FP) : FE := fun env => (fa env).bd fun h e1 => (fl e1).bd fun lo e2 => (fh e2).bd fun hi e3 => match hv e3 h with
  | some (.str z) => if z.length ≤ 1000000 then .ok (.str (cutS z lo hi)) e3 else .bad
  | _ => .bad
/-! ### z.split(y) -/
def fSplit (fa fb : FO) : FE := fun env => (fa env).bd fun h e1 => match hv e1 h with
  | some (.str z) => (fb e1).bd fun h2 e2 => (match hv e2 h2 with
    | some (.str y) => if (y.length == 0) = false ∧ z.length ≤ 100000 then .ok (.lst ((Txt.split z y).map D.str)) e2 else .bad
    | _ => .bad)
  | _ => .bad
end
end TL

namespace TL
open PySem PySem.Spec L2
section
variable {X : Cx} {W : WX} {a b e : Expr} {fa fb : FO} {p pos : Pos} {K : PySem.W.Frag}
/-! ### divmod(i, j) -/
def gDivM (d1 d2 : D) : Option D := match d1, d2 with
  | .int i, .int j => if divC i j = true then some (.tup [.int (i / j), .int (i % j)]) else none
  | _, _ => none
def g2m (ds : List D) : Option D := match ds with
  | [d1, d2] => gDivM d1 d2
  | _ => none
theorem g2m_ii {i j : Int} : g2m [.int i, .int j] = if divC i j = true then some (.tup [.int (i / j), .int (i % j)]) else none := rfl
end
end TL

namespace TL
open PySem PySem.Spec L2
section
variable {X : Cx} {W : WX} {a b e : Expr} {es : List Expr} {fa fb : FO} {p pos : Pos} {K : PySem.W.Frag}
/-! ### a, b = xs, xs a list -/
def tL (u : FGs) (n : Nat) : FG := fun d env => match d with
  | .lst ds => if ds.length = n then u ds env else none
  | .tup ds => if ds.length = n then u ds env else none
  | _ => none
theorem tLl {u : FGs} {n : Nat} {ds : List D} {e : Ev} : tL u n (.lst ds) e = if ds.length = n then u ds e else none := rfl
/-! ### f(e), e a new object that f may change -/
def fCallN (F : Fn) (fe : FE) : FE := fun env => (fe env).bd fun d e => match F [.ow true d] with
  | .rt r _ => .ok r e
  | .xc x _ => .xc x e
  | _ => .bad
end
end TL

namespace TL
open PySem PySem.Spec L2
section
variable {X : Cx} {W : WX} {a b e : Expr} {es : List Expr} {fa fb : FO} {f : FE} {p pos : Pos} {K : PySem.W.Frag}
/-! ### k in d, d a dict; k may be None -/
def gInD (neg : Bool) (d1 d2 : D) : Option D := match d2 with
  | .dic ks ds => (match d1 with
    | .non => some (.bl neg)
    | .int i => some (.bl (neg ^^ (dval ks ds (.inl i)).isSome))
    | .str i => some (.bl (neg ^^ (dval ks ds (.inr i)).isSome))
    | _ => none)
  | _ => none
def rInD (neg : Bool) : R2 := fun x y H Q => (∃ a o, y = .ref a ∧ DGet H a x o ∧ Q (.bl (neg ^^ o.isSome)) H) ∨ ∃ a kvs, y = .ref a ∧ x = .non ∧ Rd H a (.dK kvs) ∧ Q (.bl neg) H
theorem gInD_n {neg : Bool} {ks : List Key} {ds : List D} : gInD neg .non (.dic ks ds) = some (.bl neg) := rfl
theorem gInD_i {neg : Bool} {ks : List Key} {ds : List D} {i : Int} : gInD neg (.int i) (.dic ks ds) = some (.bl (neg ^^ (dval ks ds (.inl i)).isSome)) := rfl
theorem gInD_s {neg : Bool} {ks : List Key} {ds : List D} {i : Str} : gInD neg (.str i) (.dic ks ds) = some (.bl (neg ^^ (dval ks ds (.inr i)).isSome)) := rfl
/-! ### t1 = t2 = t3 = e -/
def cAsg3 (f : FE) (g1 g2 g3 : FG) : FS := fun env => (f env).st fun d e => ofG ((g1 d e).bind fun e1 => (g2 d e1).bind fun e2 => g3 d e2)
/-! ### xs[::-1] -/
def fRev (fa : FO) : FE := fun env => (fa env).bd fun h e1 => match hv e1 h with
  | some (.lst ds) => .ok (.lst ds.reverse) e1
  | _ => .bad
theorem Reps.rev {G : Hp} : ∀ {ds : List D} {vs : List V}, Reps K G ds vs → Reps K G ds.reverse vs.reverse
  | [], vs, h => by
    have e := h.length
    have : vs = [] := List.eq_nil_of_length_eq_zero (by rw [e]; rfl)
    rw [this]
    exact Reps.nil
  | d :: ds, vs, h => by
    obtain ⟨v, r, rfl, q1, q2⟩ := h
    rw [List.reverse_cons, List.reverse_cons]
    exact Reps.append (Reps.rev q2) (Reps.cons q1 Reps.nil)
end
end TL

namespace TL
open PySem PySem.Spec L2
/-! ### the head by a list of addresses -/
section
variable {X : Cx} {W : WX} {a b e : Expr} {fa fb : FO} {pos : Pos} {K : PySem.W.Frag}
/-! ### xs * n, xs any list -/
def rRepS (K : PySem.W.Frag) : R2 := fun x y H Q => ∃ l k xs, x = .ref l ∧ y = .int k ∧ SqL K H l xs ∧ -(2 ^ 63) ≤ k ∧ k < 2 ^ 63 ∧ xs.length * k.toNat ≤ sizeLine ∧ ∀ p, H p = none → Q (.ref p) (upd H p (.lst (List.replicate k.toNat xs).flatten))
end
end TL

/-! xs.insert(i, y). -/
namespace TL
open PySem PySem.Spec L2
section
variable {X : Cx} {K : PySem.W.Frag}
/-! ### xs.insert(i, y) -/
def mmInsert (ds as : List D) : Option (D × List D) := match as with
  | [.int i, d] => if ds.length < 1000000 ∧ 0 ≤ i ∧ i < 1000000 then some (.non, ds.take i.toNat ++ [d] ++ ds.drop i.toNat) else none
  | _ => none
def rInsert : V → List V → Hp → VK → Prop := fun x as H Q => ∃ (a : Addr) (zs : List V) (k : Int) (w : V), x = .ref a ∧ as = [.int k, w] ∧ H a = some (.lst zs) ∧ zs.length < sizeLine ∧ 0 ≤ k ∧ k < 2 ^ 63 ∧ Q .non (upd H a (.lst (zs.take k.toNat ++ [w] ++ zs.drop k.toNat)))
end
section
variable {ds : List D} {d : D} {i : Int}
theorem mmInsertu : mmInsert ds [.int i, d] = if ds.length < 1000000 ∧ 0 ≤ i ∧ i < 1000000 then some (.non, ds.take i.toNat ++ [d] ++ ds.drop i.toNat) else none := rfl
end
end TL

/-! a call by names that returns a new object; == of two empty dicts. -/
namespace TL
open PySem PySem.Spec L2
section
variable {X : Cx} {W : WX} {K : PySem.W.Frag} {fl : FA} {F : Fn} {k : Nat} {x : Str} {ps ks : List Str} {sw : Bool} {kws : List Keyword} {p pos : Pos} {a b : Expr} {fa fb : FO}
def fCallKO (F : Fn) (sw : Bool) (fl : FA) : FE := fun env => (fl env).bd fun hs e => callO F (prm sw hs) e
/-! ### == of things that may be empty dicts -/
def isDic0 : D → Bool
  | .dic [] [] => true
  | _ => false
def kEqDic : D → D → (D → Prop) → Prop := fun d d' P => d = .dic [] [] ∧ d' = .dic [] [] ∧ P (.bl true)
def gEqX (d d' : D) : Option D := if (isDic0 d && isDic0 d') = true then some (.bl true) else gEq d d'
end
end TL

/-! max of four ints. -/
namespace TL
open PySem PySem.Spec L2
section
variable {prog : Program} {w : World} {A : Around} {E : Value → Shared → Prop} {s : Shared}
end
section
variable {X : Cx} {W : WX} {K : PySem.W.Frag} {fl : FA} {e : Expr} {es : List Expr} {p pos : Pos}
def mx4 (i j k l : Int) : Int := max (max i j) (max k l)
def g4max (ds : List D) : Option D := match ds with
  | [.int i, .int j, .int k, .int l] => some (.int (mx4 i j k l))
  | _ => none
def kMax4 : List D → (D → Prop) → Prop := fun ds P => mo (g4max ds) P
end
section
variable {i j k l : Int}
theorem g4maxu : g4max [.int i, .int j, .int k, .int l] = some (.int (mx4 i j k l)) := rfl
end
end TL

/-! len of a text; the signs of a text -/
namespace TL
open PySem PySem.Spec L2
def gLenS (d : D) : Option D := match d with
  | .str z => if z.length ≤ 1000000 then some (.int z.length) else none
  | _ => none
def chOf (d : D) : Option (List D) := match d with
  | .str z => some (z.cps.toList.map fun c => .str ⟨#[c]⟩)
  | _ => none
section
variable {X : Cx} {W : WX} {K : PySem.W.Frag} {e : Expr} {fa : FO} {f : FE} {p pos : Pos}
theorem ke_lenS (hm : X.mg "len" = none) (ha : KO X W e fa) (hg : Gl X "len" := by rfl) (he : starEach [e] X.env = (false, eval e X.env) :: starEach [] X.env := by rfl) (hpl : (backTo pos (starEach [] X.env)).any (·.1) = false := by rfl) :
    KE X W (.Call (.Name "len" p) [e] [] pos) (fN (g1' gLenS) (fCons fa fNil)) := QE.le (qe_callB (k := fun ds P => mo (one ds) fun d => mo (strOf d) fun z => z.length ≤ 1000000 ∧ P (.int z.length)) call_len_str (fun G H ds vs P Q s h hk hq => by
      obtain ⟨d, z, hk⟩ := mo_some hk
      obtain ⟨y, z2, hl, hk⟩ := mo_some hk
      obtain ⟨v, rfl, rt⟩ := h.one (one_some z)
      rw [strOf_some z2] at rt
      have e : v = .str y := rt
      rw [e]
      exact ⟨y, rfl, line_le (by omega), hq (.int y.length) _ G H (.refl s) rfl hk⟩) hg hm PySem.boot_len (qa_cons ha qa_nil he) (he := he) (hpl := hpl)) fun env Q Xp h => by
  refine wN_nil (leN (k := fun ds P => mo (one ds) fun d => mo (strOf d) fun z => z.length ≤ 1000000 ∧ P (.int z.length)) (hk1 fun d P h => ?_) env Q Xp h)
  unfold gLenS at h
  cases d with
  | str z =>
    obtain ⟨c, h⟩ := mo_if h
    exact ⟨c, h⟩
  | _ => exact h.elim
theorem walk_str {G F : Hp} {z : Str} : Walk K G F (z.cps.toList.map fun c => D.str ⟨#[c]⟩) (Its z) where
  go := fun i H s _ hi => by
    rw [List.length_map, Array.length_toList] at hi
    exact hi
  stop := fun i H s _ hi => by
    rw [List.length_map, Array.length_toList] at hi
    exact hi
  yld := fun i H v H' d G1 s1 s2 _ e y => by
    obtain ⟨rfl, c, hc, rfl⟩ := y
    rw [List.getElem?_map, Array.getElem?_toList, hc] at e
    cases e
    exact ⟨G1, .refl s2, rfl⟩
theorem ki_str {tg : Expr} (h : KE X W e f) : KIt X W tg e (fiBy chOf f) := (pi_str h).le fun σ H R h => by
  obtain ⟨x, G, env, Q', X', r, hw, hn, hx⟩ := h
  have hw' := leBy _ _ _ hw
  refine ⟨x, G, env, _, X', r, imO_mono hw', fun h env' v G' H' s r' q hq => ?_, hx⟩
  obtain ⟨d, rfl, hq⟩ := hq
  obtain ⟨ds, z, hq⟩ := mo_some hq
  cases d with
  | str y =>
    cases z
    have q' : v = .str y := q
    exact ⟨y, q', hn _ env' G' H' _ s r' walk_str hq⟩
  | _ => cases z
end
end TL

/-! several except clauses, with and without names -/
namespace L2
open PySem PySem.Spec PyProof.Rows
abbrev ClM := Value × Option Nat × (Addr → Value → Option Addr → TS)
/-- what the clauses wish of an exception of the body, one after the other -/
def wMix (K : PySem.W.Frag) (Wout : WX) (D : Ends) : List ClM → WX
  | [] => Wout
  | (c, none, ts) :: r => fun cls d σ H => ∃ b, PySem.W.exmOne K cls c = some b ∧ (b = true → ∀ a, H a = none → ts a cls d D σ H) ∧ (b = false → wMix K Wout D r cls d σ H)
  | (c, some i, ts) :: r => fun cls d σ H => ∃ b, PySem.W.exmOne K cls c = some b ∧
      (b = true → ∀ a, H a = none → ts a cls d { nx := fun σ' H' => D.nx (σ'.set i none) H', rt := D.rt, bk := fun σ' H' => D.bk (σ'.set i none) H', ct := fun σ' H' => D.ct (σ'.set i none) H' } (σ.set i (some (.ref a))) H) ∧ (b = false → wMix K Wout D r cls d σ H)
inductive HdsMix (X : Cx) : List ExceptHandler → List ClM → Prop
  | nil : HdsMix X [] []
  | only {x : Str} {c : Value} {ts : Addr → Value → Option Addr → TS} {b₀ : Stmt} {suite : List Stmt} {np pos' : Pos} {hds : List ExceptHandler} {l : List ClM} (hc : Names X x c)
      (hsu : ∀ (a : Addr) (oe : Obj) (cls : Value) (d : Option Addr) (pn : List (Addr × Obj)), Zc cls d oe → (∃ vs, oe.data = .fields vs) → PSs (X.suite a ((a, oe) :: pn)) (b₀ :: suite) (ts a cls d)) (r : HdsMix X hds l) :
      HdsMix X (.ExceptHandler (some (.Name x np)) none (b₀ :: suite) pos' :: hds) ((c, none, ts) :: l)
  | as_ {x n : Str} {i : Nat} {c : Value} {ts : Addr → Value → Option Addr → TS} {b₀ : Stmt} {suite : List Stmt} {np pos' : Pos} {hds : List ExceptHandler} {l : List ClM} (hi : X.N[i]? = some n) (hln : X.env.kindOf n = some .local) (hc : Names X x c)
      (hsu : ∀ (a : Addr) (oe : Obj) (cls : Value) (d : Option Addr) (pn : List (Addr × Obj)), Zc cls d oe → (∃ vs, oe.data = .fields vs) → PSs (X.suite a ((a, oe) :: pn)) (b₀ :: suite) (ts a cls d)) (r : HdsMix X hds l) :
      HdsMix X (.ExceptHandler (some (.Name x np)) (some n) (b₀ :: suite) pos' :: hds) ((c, some i, ts) :: l)
section
variable {X : Cx} {body : List Stmt} {h₀ : ExceptHandler} {hds : List ExceptHandler} {l : List ClM} {pos : Pos} {tb : WX → TS} {Wout : WX}
theorem ps_try_mix (hs : X.stack = X.env :: X.outer) (hf : X.env.frame = some X.env.locals) (hN : X.N.Nodup) (tk : Takes X Wout)
    (hb : ∀ (W : WX) (pn : List (Addr × Obj)) (xe : Value → Shared → Prop), Takes (X.tr pn xe) W → PassesOwn (model X.prog X.w) X.A X.env xe → PSs (X.tr pn xe) body (tb W))
    (hh : HdsMix X (h₀ :: hds) l) : PS X (.Try body (h₀ :: hds) [] [] pos) (fun D σ H => tb (wMix X.K Wout D l) D σ H) := by
  refine ⟨fun pins s σ H D I h => ?_⟩
  have ok := I.ok
  have hfr : X.A.frames = some (X.env :: X.outer) := by rw [ok.frames, hs]
  refine wpAny_Try_except ?_
  refine wpAny_mono ((hb (wMix X.K Wout D l) (X.pn ++ pins) (fun e s₁ => wpAny (model X.prog X.w) X.A (noteFrame e X.env) (fun _ s₂ => wpAny (model X.prog X.w) X.A (setFlight e none) (fun _ s₃ =>
    wpAny (model X.prog X.w) X.A (handleBy e X.env (h₀ :: hds)) (SP X pins D) X.xe s₃) X.xe s₂) X.xe s₁) (fun u s' xx => ?_) PassesOwn.looking).run [] s σ H D (I.toTry _) h) (fun f s1 hsp => ?_) (fun e s1 he => he)
  · -- the catch
    obtain ⟨a, B, sI, pins', σ', H', cls, d, rfl, J', nb, up, sky, na, os, ag, w⟩ := xx
    have J : Inv X pins σ' H' sI := J'.ofTry ok
    have sky' : Sky B (X.env :: X.outer) a (Zc cls d) X.env.locals s'.heap := by rw [← hs]; exact sky
    show wpAny (model X.prog X.w) X.A (noteFrame (.ref a) X.env) _ _ _
    refine Sky.land Zc.steady hfr hf sky' fun h3 fl3 up3 => ?_
    have J3 : Inv X pins σ' H' { s' with heap := h3 } := J.landed nb fl3.1 (up.trans up3) os ag
    obtain ⟨oe3, vs3, he3, hz3, hd3⟩ := fl3.there
    have notFr : ∀ {h : Heap} {o : Obj} {vs : Array Value}, h.FunFrames B (X.env :: X.outer) → h.get? a = some o → o.data = .fields vs → a ∉ frs (X.env :: X.outer) := fun {h o vs} ff e dd hm => by
      obtain ⟨_, o', e', hnf⟩ := ff.mem hm
      rw [e] at e'; cases e'
      exact hnf _ dd
    have nfr := notFr fl3.2.2.1 he3 hd3
    have nL : a ≠ X.env.locals := fun z => nfr (List.mem_filterMap.mpr ⟨X.env, List.mem_cons_self, by rw [hf, z]⟩)
    have nF : a ∉ X.fs := fun hm => by
      obtain ⟨e, he, q⟩ := List.mem_filterMap.mp hm
      exact nfr (List.mem_filterMap.mpr ⟨e, List.mem_cons_of_mem _ he, q⟩)
    have S3 := J3.suite he3 hd3 na nL nF
    have LT : PySem.W.Looks (model X.prog X.w) h3 (typeOf (.ref a)) cls := fun A Q E s k q => wpAny_typeOf_ref (k _ _ he3) (by rw [hz3.1]; exact q)
    have test : ∀ {x : Str} {c : Value} {np : Pos} {Q : Value → Shared → Prop} {E : Value → Shared → Prop}, Names X x c → Q c { s' with heap := h3 } → wpAny (model X.prog X.w) (X.A.mark (some (.ref a))) (eval (.Name x np) X.env) Q E { s' with heap := h3 } := fun {x c np Q E} hc q => by
      obtain ⟨hg, hdbg, hm | ⟨hm, hv, hnn⟩⟩ := hc
      · exact ld_glob (X := X.suite a ((a, oe3) :: (X.pn ++ pins))) S3 hg hm q hdbg
      · exact ld_blt (X := X.suite a ((a, oe3) :: (X.pn ++ pins))) S3 hg hm hv q hnn hdbg
    have go : ∀ {hds' : List ExceptHandler} {l' : List ClM}, HdsMix X hds' l' → wMix X.K Wout D l' cls d σ' H' →
        wpAny (model X.prog X.w) X.A (handleBy (.ref a) X.env hds') (SP X pins D) X.xe { s' with heap := h3 } := by
      intro hds' l' hk
      induction hk with
      | nil =>
        intro w
        refine wpAny_handleBy_nil ?_
        obtain ⟨k1, k2, k3, oe, vs, T, oT, ts', he, hz, hd, h1, hr⟩ := id fl3
        unfold PySem.passOn
        refine wpAny_bind (wpAny_field he hd h1 ?_)
        rw [if_neg (show ¬ ((Value.ref T == Value.none) = true) from by simp)]
        have fin : wpAny (model X.prog X.w) X.A (setFlight (.ref a) X.env.frame) (fun _ s4 => wpAny (model X.prog X.w) X.A (throw (.ref a) : Sem Flow) (SP X pins D) X.xe s4) X.xe { s' with heap := h3 } := by
          rw [hf]
          refine HandSPX.setFlight_upZ fl3 fun h4 hh4 up4 => wpAny_throw (tk _ _ ?_)
          exact ⟨a, B, sI, pins, σ', H', cls, d, rfl, J, nb, (up.trans up3).trans up4, .inr (.inr (by rw [hs]; exact hh4)), na, os, ag, w⟩
        first
          | exact wpAny_bind (wpAny_pure (wpAny_bind fin))
          | exact wpAny_bind fin
      | @only x c ts b₀ suite np pos' hds2 l2 hc hsu r ih =>
        intro w
        obtain ⟨b, hb1, hyes, hno⟩ := w
        refine wpAny_handleBy_cons (codeAny_handlers_test ?_) (by intro q; cases q)
        have LM := PySem.W.exm_one (M := model X.prog X.w) (J3.kIn) LT hb1
        refine test hc (LM.here ?_)
        cases b with
        | true =>
          refine codeAny_handlers_suite ?_
          refine HandSPX.lands_againZ fl3 fun h4 fl4 up4 => ?_
          have J4 : Inv X pins σ' H' { s' with heap := h4 } := J.landed nb fl4.1 ((up.trans up3).trans up4) os ag
          obtain ⟨oe4, vs4, he4, hz4, hd4⟩ := fl4.there
          have S4 := J4.suite he4 hd4 na nL nF
          refine wpAny_mono ((hsu a oe4 cls d (X.pn ++ pins) hz4 ⟨_, hd4⟩).run [] _ _ H' _ S4 (hyes rfl a na)) (fun f s6 hsp => ?_) (fun _ _ z => False.elim z)
          cases f with
          | next =>
            obtain ⟨σ6, H6, S6, q6⟩ := hsp
            exact ⟨_, _, S6.unsuite ok, q6⟩
          | brk =>
            obtain ⟨σ6, H6, S6, q6⟩ := hsp
            exact ⟨_, _, S6.unsuite ok, q6⟩
          | cont =>
            obtain ⟨σ6, H6, S6, q6⟩ := hsp
            exact ⟨_, _, S6.unsuite ok, q6⟩
          | ret u =>
            obtain ⟨v6, σ6, H6, S6, r6, q6⟩ := hsp
            exact ⟨_, _, _, S6.unsuite ok, r6, q6⟩
        | false =>
          show wpAny _ X.A (handleBy (.ref a) X.env hds2) _ _ _
          exact ih (hno rfl)
      | @as_ x n i c ts b₀ suite np pos' hds2 l2 hi hln hc hsu r ih =>
        intro w
        obtain ⟨b, hb1, hyes, hno⟩ := w
        have hloc : Loc X.env.scope n := .inl hln
        refine wpAny_handleBy_cons (codeAny_handlers_test ?_) (by intro q; cases q)
        have LM := PySem.W.exm_one (M := model X.prog X.w) (J3.kIn) LT hb1
        refine test hc (LM.here ?_)
        cases b with
        | true =>
          refine codeAny_handlers_suite_as ?_
          refine HandSPX.lands_againZ fl3 fun h4 fl4 up4 => ?_
          have J4 : Inv X pins σ' H' { s' with heap := h4 } := J.landed nb fl4.1 ((up.trans up3).trans up4) os ag
          obtain ⟨oe4, vs4, he4, hz4, hd4⟩ := fl4.there
          have S4 := J4.suite he4 hd4 na nL nF
          refine store_ok (X := X.suite a ((a, oe4) :: (X.pn ++ pins))) (v := .ref a) S4 hN hi hloc rfl (fun s5 S5 => ?_) (.inr hln)
          refine wpAny_mono ((hsu a oe4 cls d (X.pn ++ pins) hz4 ⟨_, hd4⟩).run [] s5 _ H' _ S5 (hyes rfl a na)) (fun f s6 hsp => ?_) (fun _ _ z => False.elim z)
          have end_ : ∀ {σ6 : St} {H6 : Hp} {Q : Shared → Prop}, Inv (X.suite a ((a, oe4) :: (X.pn ++ pins))) [] σ6 H6 s6 → (∀ s7, Inv X pins (σ6.set i none) H6 s7 → Q s7) →
              wpAny (model X.prog X.w) X.A (do bindName X.env n .none; unbindBehindTheSuite X.env n pos') (fun _ s7 => Q s7) X.xe s6 := fun {σ6 H6 Q} S6 hq => gone_ok (S6.unsuite ok) hN hi hln hq
          cases f with
          | next =>
            obtain ⟨σ6, H6, S6, q6⟩ := hsp
            exact end_ S6 fun s7 J7 => ⟨_, _, J7, q6⟩
          | brk =>
            obtain ⟨σ6, H6, S6, q6⟩ := hsp
            exact end_ S6 fun s7 J7 => ⟨_, _, J7, q6⟩
          | cont =>
            obtain ⟨σ6, H6, S6, q6⟩ := hsp
            exact end_ S6 fun s7 J7 => ⟨_, _, J7, q6⟩
          | ret u =>
            obtain ⟨v6, σ6, H6, S6, r6, q6⟩ := hsp
            exact end_ S6 fun s7 J7 => ⟨_, _, _, J7, r6, q6⟩
        | false =>
          show wpAny _ X.A (handleBy (.ref a) X.env hds2) _ _ _
          exact ih (hno rfl)
    exact go hh w
  · cases f with
    | next =>
      obtain ⟨σ', H', J', q⟩ := hsp
      exact wpAny_execs_nil ⟨σ', H', J'.ofTry ok, q⟩
    | brk =>
      obtain ⟨σ', H', J', q⟩ := hsp
      exact ⟨σ', H', J'.ofTry ok, q⟩
    | cont =>
      obtain ⟨σ', H', J', q⟩ := hsp
      exact ⟨σ', H', J'.ofTry ok, q⟩
    | ret u =>
      obtain ⟨v, σ', H', J', r, q⟩ := hsp
      exact ⟨v, σ', H', J'.ofTry ok, r, q⟩
end
end L2
namespace TL
open PySem PySem.Spec L2
abbrev ClT := Str × Option Nat × (Addr → Str → Option Addr → WS)
def xcM (k : XI) (x : Xn) (e : Ev) (E : En) : List ClT → Prop
  | [] => E.xc x e
  | (h, none, ws) :: l => if (k.anc.contains h) = true then ws 0 x.c none e { nx := E.nx, rt := E.rt, bk := E.bk, ct := E.ct } else xcM k x e E l
  | (h, some i, ws) :: l => if (k.anc.contains h) = true then nr e i = true ∧ ∀ a dd, ws a x.c dd (e.set i (.im (.exc a dd x.ns x.ds))) (asEn i E) else xcM k x e E l
def sTryM (xt : List XI) (l : List ClT) (wb : WS) : WS := fun env E => wb env { E with xc := fun x e => mo (xiOf xt x.c) fun k => xcM k x e E l }
inductive HdsT (X : Cx) (hs : List Str) : List ExceptHandler → List ClT → Prop
  | nil : HdsT X hs [] []
  | only {x h : Str} {ws : WS} {b₀ : Stmt} {suite : List Stmt} {np pos' : Pos} {hds : List ExceptHandler} {l : List ClT} (hh : hs.contains h = true) (hc : Names X x (.ref (He.ga X.K h)))
      (hsu : ∀ (a : Addr) (oe : Obj) (pn : List (Addr × Obj)), (∃ vs, oe.data = .fields vs) → QSs (X.suite a ((a, oe) :: pn)) W0 (b₀ :: suite) ws) (r : HdsT X hs hds l) :
      HdsT X hs (.ExceptHandler (some (.Name x np)) none (b₀ :: suite) pos' :: hds) ((h, none, fun _ _ _ => ws) :: l)
  | as_ {x n h : Str} (i : Nat) {ws : Addr → Str → Option Addr → WS} {b₀ : Stmt} {suite : List Stmt} {np pos' : Pos} {hds : List ExceptHandler} {l : List ClT} (hh : hs.contains h = true) (hi : X.N[i]? = some n) (hln : X.env.kindOf n = some .local) (hc : Names X x (.ref (He.ga X.K h)))
      (hsu : ∀ (a : Addr) (oe : Obj) (c : Str) (d : Option Addr) (pn : List (Addr × Obj)), L2.Zc (.ref (He.ga X.K c)) d oe → (∃ vs, oe.data = .fields vs) → QSs (X.suite a ((a, oe) :: pn)) W0 (b₀ :: suite) (ws a c d)) (r : HdsT X hs hds l) :
      HdsT X hs (.ExceptHandler (some (.Name x np)) (some n) (b₀ :: suite) pos' :: hds) ((h, some i, ws) :: l)
def convM (K : PySem.W.Frag) (q : ClT) : L2.ClM := (.ref (He.ga K q.1), q.2.1, fun a cls d De σ H => ∃ c, cls = .ref (He.ga K c) ∧ lS K W0 (q.2.2 a c d) De σ H)
def convO (K : PySem.W.Frag) (q : ClT) : L2.ClM := match q.2.1 with
  | some _ => convM K q
  | none => (.ref (He.ga K q.1), none, fun a cls d De σ H => lS K W0 (q.2.2 0 "" none) De σ H)
section
variable {X : Cx} {W Wout : WX} {xt : List XI} {hs : List Str} {xf : List (Str × Str)} {wb : WS} {body : List Stmt} {h₀ : ExceptHandler} {hds : List ExceptHandler} {l : List ClT} {pos : Pos}
theorem hdsMix_of : ∀ {hds : List ExceptHandler} {l : List ClT}, HdsT X hs hds l → L2.HdsMix X hds (l.map (convO X.K)) := fun {hds l} h => by
  induction h with
  | nil => exact .nil
  | only hh hc hsu r ih => exact .only hc (fun a oe cls d pn hz hv => ⟨fun pins s σ H De I hw => (hsu a oe pn hv).run pins s σ H De I hw⟩) ih
  | as_ i hh hi hln hc hsu r ih =>
    refine .as_ hi hln hc (fun a oe cls d pn hz hv => ⟨fun pins s σ H De I hw => ?_⟩) ih
    obtain ⟨c, rfl, hw⟩ := hw
    exact (hsu a oe c d pn hz hv).run pins s σ H De I hw
/-- the unnamed clauses do not look at the exception -/
def OnlyOk (l : List ClT) : Prop := ∀ q ∈ l, q.2.1 = none → ∀ a c d, q.2.2 a c d = q.2.2 0 "" none
theorem onlyOk_of {hds : List ExceptHandler} {l : List ClT} (h : HdsT X hs hds l) : OnlyOk l ∧ ∀ q ∈ l, hs.contains q.1 = true := by
  induction h with
  | nil => exact ⟨(fun q hq => by cases hq), (fun q hq => by cases hq)⟩
  | only hh hc hsu r ih =>
    refine ⟨fun q hq => ?_, fun q hq => ?_⟩
    · rcases List.mem_cons.mp hq with rfl | hq
      · exact fun _ _ _ _ => rfl
      · exact ih.1 q hq
    · rcases List.mem_cons.mp hq with rfl | hq
      · exact hh
      · exact ih.2 q hq
  | as_ i hh hi hln hc hsu r ih =>
    refine ⟨fun q hq => ?_, fun q hq => ?_⟩
    · rcases List.mem_cons.mp hq with rfl | hq
      · exact fun z => by cases z
      · exact ih.1 q hq
    · rcases List.mem_cons.mp hq with rfl | hq
      · exact hh
      · exact ih.2 q hq
theorem qs_tryM (M : XM X.K xt hs xf) (hst : X.stack = X.env :: X.outer) (hf : X.env.frame = some X.env.locals) (hN : X.N.Nodup) (tk : L2.Takes X Wout)
    (hb : ∀ (W : WX) (pn : List (Addr × Obj)) (xe : Value → Shared → Prop), L2.Takes (X.tr pn xe) W → PassesOwn (model X.prog X.w) X.A X.env xe → QSs (X.tr pn xe) W body wb)
    (hh : HdsT X hs (h₀ :: hds) l) : QS X Wout (.Try body (h₀ :: hds) [] [] pos) (sTryM xt l wb) :=
  (L2.ps_try_mix (tb := fun W => lS X.K W wb) hst hf hN tk hb (hdsMix_of hh)).le fun De σ H hw => by
  obtain ⟨fx, G, env, E', r, hw, hE⟩ := hw
  obtain ⟨oo, oc⟩ := onlyOk_of hh
  refine ⟨fx, G, env, _, r, hw, hE.nx, hE.rt, hE.ro, hE.bk, hE.ct, fun e env' cls dd σ' G' H' s r' xr hx => ?_⟩
  obtain ⟨k, k1, k2⟩ := mo_some hx
  obtain ⟨k3, k4⟩ := xiOf_some k1
  obtain ⟨ec, er⟩ := xr
  clear hh hx hw
  have em : ∀ q ∈ l, PySem.W.exmOne X.K cls (.ref (He.ga X.K q.1)) = some (k.anc.contains q.1) := fun q hq => by
    rw [ec, ← k4]
    exact M.m k k3 q.1 (by simpa using oc q hq)
  clear oc
  induction l with
  | nil => exact hE.xc e env' cls dd σ' G' H' s r' ⟨ec, er⟩ k2
  | cons q l ih =>
    obtain ⟨h, o, ws⟩ := q
    have hem := em _ List.mem_cons_self
    have ih' := ih (fun q hq => oo q (List.mem_cons_of_mem _ hq))
    cases o with
    | none =>
      have hoo := oo _ List.mem_cons_self rfl
      refine ⟨k.anc.contains h, hem, fun hb a ha => ?_, fun hb => ?_⟩
      · have k2' : if (k.anc.contains h) = true then ws 0 e.c none env' { nx := E'.nx, rt := E'.rt, bk := E'.bk, ct := E'.ct } else xcM k e env' E' l := k2
        rw [if_pos hb] at k2'
        have hoo' : ws 0 e.c none = ws 0 "" none := hoo 0 e.c none
        rw [hoo'] at k2'
        refine ⟨fx, G', env', _, r', k2', ?_, ?_, ?_, ?_, ?_, ?_⟩
        · intro env1 σ1 G1 H1 s1 r1 q
          exact hE.nx _ _ G1 H1 (s.trans s1) r1 q
        · intro d env1 σ1 v G1 H1 s1 r1 q q2
          exact hE.rt d _ σ1 v G1 H1 (s.trans s1) r1 q q2
        · intro d env1 σ1 p o G1 H1 s1 r1 _ _ _ _ _ q
          exact q.elim
        · intro env1 σ1 G1 H1 s1 r1 q
          exact hE.bk _ _ G1 H1 (s.trans s1) r1 q
        · intro env1 σ1 G1 H1 s1 r1 q
          exact hE.ct _ _ G1 H1 (s.trans s1) r1 q
        · intro e1 env1 cls1 dd1 σ1 G1 H1 s1 r1 _ q
          exact q.elim
      · have k2' : if (k.anc.contains h) = true then _ else xcM k e env' E' l := k2
        rw [if_neg (by rw [hb]; exact Bool.false_ne_true)] at k2'
        exact ih' k2' fun q hq => em q (List.mem_cons_of_mem _ hq)
    | some i =>
      refine ⟨k.anc.contains h, hem, fun hb a ha => ?_, fun hb => ?_⟩
      · have k2' : if (k.anc.contains h) = true then nr env' i = true ∧ ∀ a dd, ws a e.c dd (env'.set i (.im (.exc a dd e.ns e.ds))) (asEn i E') else xcM k e env' E' l := k2
        rw [if_pos hb] at k2'
        have rp : Rep X.K G' (.exc a dd e.ns e.ds) (.ref a) := by
          unfold Rep
          refine ⟨rfl, ?_⟩
          rcases er with ⟨z1, z2, z3⟩ | z
          · exact .inl ⟨z3, z1, z2⟩
          · exact .inr z
        refine ⟨e.c, ec, fx, G', _, asEn i E', r'.setIm rp (r'.noR (nr_ok k2'.1)), k2'.2 a dd, ?_, ?_, ?_, ?_, ?_, ?_⟩
        · intro env1 σ1 G1 H1 s1 r1 q
          exact hE.nx _ _ G1 H1 (s.trans s1) (r1.forget (r1.noR (nr_ok q.1))) q.2
        · intro d env1 σ1 v G1 H1 s1 r1 q q2
          exact hE.rt d _ σ1 v G1 H1 (s.trans s1) r1 q q2
        · intro d env1 σ1 p o G1 H1 s1 r1 _ _ _ _ _ q
          exact q.elim
        · intro env1 σ1 G1 H1 s1 r1 q
          exact hE.bk _ _ G1 H1 (s.trans s1) (r1.forget (r1.noR (nr_ok q.1))) q.2
        · intro env1 σ1 G1 H1 s1 r1 q
          exact hE.ct _ _ G1 H1 (s.trans s1) (r1.forget (r1.noR (nr_ok q.1))) q.2
        · intro e1 env1 cls1 dd1 σ1 G1 H1 s1 r1 _ q
          exact q.elim
      · have k2' : if (k.anc.contains h) = true then _ else xcM k e env' E' l := k2
        rw [if_neg (by rw [hb]; exact Bool.false_ne_true)] at k2'
        exact ih' k2' fun q hq => em q (List.mem_cons_of_mem _ hq)
/-! as functions -/
abbrev ClF := Str × Option Nat × (Addr → Str → Option Addr → FS)
noncomputable def goM (k : XI) (x : Xn) (e : Ev) : List ClF → Sr
  | [] => .xc x e
  | (h, none, sf) :: l => if (k.anc.contains h) = true then (sf 0 x.c none e).noX else goM k x e l
  | (h, some i, sf) :: l => if (k.anc.contains h) = true then (if nr e i = true then uni fun a dd => ((sf a x.c dd (e.set i (.im (.exc a dd x.ns x.ds)))).fg [i]).noX else .bad) else goM k x e l
noncomputable def cTryM (xt : List XI) (b : FS) (l : List ClF) : FS := fun env => match b env with
  | .xc x e => (match xiOf xt x.c with
    | some k => goM k x e l
    | none => .bad)
  | r => r
def clT (q : ClF) : ClT := match q.2.1 with
  | some i => (q.1, some i, fun a c dd => ws (cKil [i] (q.2.2 a c dd)))
  | none => (q.1, none, fun a c dd => ws (q.2.2 a c dd))
theorem leTryM {l : List ClF} {b : FS} : ∀ env E, ws (cTryM xt b l) env E → sTryM xt (l.map clT) (ws b) env E := fun env E h => by
  unfold ws cTryM at h
  show (b env).on _
  cases z : b env with
  | xc x e =>
    rw [z] at h
    dsimp only at h
    show mo (xiOf xt x.c) _
    cases y : xiOf xt x.c with
    | none =>
      rw [y] at h
      exact h
    | some k =>
      rw [y] at h
      dsimp only at h
      show xcM k x e E (l.map clT)
      clear z
      induction l with
      | nil => exact h
      | cons q l ih =>
        obtain ⟨hh, o, sf⟩ := q
        cases o with
        | none =>
          have h' : (if (k.anc.contains hh) = true then (sf 0 x.c none e).noX else goM k x e l).on E := h
          show if (k.anc.contains hh) = true then _ else xcM k x e E (l.map clT)
          rw [on_iteS] at h'
          cases c : k.anc.contains hh with
          | false =>
            rw [c] at h'
            exact ih h'
          | true =>
            rw [c] at h'
            rw [if_pos rfl] at h' ⊢
            exact noX_on h'
        | some i =>
          have h' : (if (k.anc.contains hh) = true then (if nr e i = true then uni fun a dd => ((sf a x.c dd (e.set i (.im (.exc a dd x.ns x.ds)))).fg [i]).noX else .bad) else goM k x e l).on E := h
          show if (k.anc.contains hh) = true then _ else xcM k x e E (l.map clT)
          rw [on_iteS] at h'
          cases c : k.anc.contains hh with
          | false =>
            rw [c] at h'
            exact ih h'
          | true =>
            rw [c] at h'
            rw [if_pos rfl] at h' ⊢
            obtain ⟨q, h'⟩ := on_if h'
            exact ⟨q, fun a dd => fgX (uni_on h' a dd)⟩
  | bad =>
    rw [z] at h
    exact h
  | _ =>
    rw [z] at h
    exact h
end
end TL

/-! x in t, t.index(x), t a tuple, by an own ==; xs.reverse() -/
namespace GB
open PySem PySem.SeqAt GQ
open AutoSeq1 (wpAny_loadPart')
open MeetsSeq MeetsSeq2 MeetsSeq3 SeqRoads2
section
variable {prog : Program} {w : World} {A : Around} {R : Result → Shared → Prop}
/-- the turn: unlike below m, equal at m -/
def FB (prog : Program) (w : World) (A : Around) (E : Value → Shared → Prop) (I : Nat → Shared → Prop) (m : Nat) (x : Value) : Nat → Value → Shared → Prop := fun i y s =>
  i ≤ m → wpAny (model prog w) A.in1 (eqBool y x) (fun r s' => r = decide (i = m) ∧ I (i + 1) s') E s
theorem tup_inB (l : Addr) (x : Value) (items : Array Value) (n : Nat) (dd : Option Addr) (sl : Array (Option Value)) (m : Nat) (hm : m ≤ items.size) (I : Nat → Shared → Prop)
    (turn : ∀ i (h1 : i < items.size) s, I i s → FB prog w A (fun e s' => R (.error e) s') I m x i items[i] s)
    (fin : ∀ i s, I i s → R (.ok (.ret (.bool (decide (m < items.size))))) s) {s : Shared} (hl1 : s.heap.get? l = some { cls := .type "tuple", dict := dd, data := .seq items n, slots := sl }) (h : I 0 s) :
    wpAny (model prog w) A.in1 (Builtin.«tuple.__contains__» ⟨[.ref l, x], []⟩) (FinOf prog w A R) (fun e s' => R (.error e) s') s := by
  have h0 := h
  obtain ⟨hp, g, d, tk, os⟩ := s
  wp_walk using wpAny_loadPart' hl1, wpAny_forIn_array _ (fun rest b s' => b.1 = none ∧ ∃ i, rest = items.toList.drop i ∧ i ≤ m ∧ I i s') _
  case turn =>
    rintro y rest b s' ⟨hb', i, hz, hi, hI⟩
    have hlt : i < items.toList.length := by
      rcases Nat.lt_or_ge i items.toList.length with h' | h'
      · exact h'
      · rw [List.drop_of_length_le h'] at hz; cases hz
    have h1 : i < items.size := by simpa using hlt
    rw [List.drop_eq_getElem_cons hlt] at hz
    injection hz with hyx hrest
    have hy : y = items[i] := by simpa using hyx
    subst hy
    refine wpAny_bind (wpAny_mono (turn i h1 s' hI hi) (fun r s2 q2 => ?_) fun _ _ x => x)
    obtain ⟨hr, q2⟩ := q2
    by_cases hlm : i = m
    · rw [decide_eq_true hlm] at hr
      subst hr
      have hR2 := fin _ s2 q2
      rw [decide_eq_true (by omega)] at hR2
      wp_walk
      exact hR2
    · rw [decide_eq_false hlm] at hr
      subst hr
      wp_walk
      exact ⟨rfl, i + 1, hrest, by omega, q2⟩
  case fin =>
    rintro ⟨b1, b2⟩ s' ⟨hb', i, hz, hi, hI⟩
    simp only at hb'
    subst hb'
    have hge : items.size ≤ i := by
      rcases Nat.lt_or_ge i items.toList.length with h' | h'
      · rw [List.drop_eq_getElem_cons h'] at hz; cases hz
      · simpa using h'
    have hR := fin i s' hI
    rw [decide_eq_false (by omega)] at hR
    wp_walk
    exact hR
  case h =>
    exact ⟨rfl, 0, rfl, Nat.zero_le _, h0⟩
end
section
variable {prog : Program} {w : World} {A : Around} {E : Value → Shared → Prop} {s : Shared}
theorem in_tupB {l : Addr} {x : Value} {items : Array Value} {Q : Bool → Shared → Prop} {m : Nat} (hm : m ≤ items.size) (I : Nat → Shared → Prop) (hl : s.heap.IsTuple l items)
    (turn : ∀ i (h1 : i < items.size) s, I i s → FB prog w A E I m x i items[i] s)
    (fin : ∀ i s, I i s → Q (decide (m < items.size)) s) (h : I 0 s) : wpAny (model prog w) A (contains (.ref l) x) Q E s := by
  obtain ⟨⟨cls, dd, data, sl⟩, ho, hc, n, hd⟩ := id hl
  simp only at hc hd
  subst hc hd
  have z := tup_inB (R := wants (fun v s' => wpAny (model prog w) A (truthy v) Q E s') E) l x items n dd sl m hm I turn (fun i s' q => wpAny_truthy_bool (fin i s' q)) ho h
  have ti : s.TypeIs (.ref l) "tuple" := ⟨_, ho, rfl⟩
  unfold contains
  refine wpAny_holding ?_
  refine wpAny_bind (wpAny_specialOf ti PyProof.Rows.slot_tuple_contains.lookup ?_)
  rw [if_neg (by decide)]
  exact wpAny_bind (wpAny_callSpecialUnlessNone?_slot (name := Str.ofString "__contains__") ti PyProof.Rows.slot_tuple_contains
    (call_here PyProof.Rows.slot_tuple_contains ti PyProof.Rows.entry_tuple_contains (PyProof.Rows.args_tuple_contains _ _) z))
end
end GB
namespace TL
open PySem PySem.Spec L2
/-- the first place at which x is equal -/
def findT (T : D → D → Option Bool) (x : D) : List D → Option (Option Nat)
  | [] => some none
  | y :: ys => match T y x with
    | some true => some (some 0)
    | some false => (findT T x ys).map (Option.map (· + 1))
    | none => none
theorem findT_spec {T : D → D → Option Bool} {x : D} : ∀ {ds : List D} {r : Option Nat}, findT T x ds = some r → ∃ m : Nat, m ≤ ds.length ∧ r = (if m < ds.length then some m else none) ∧ (∀ i d, i < m → ds[i]? = some d → T d x = some false) ∧ (∀ d, ds[m]? = some d → T d x = some true)
  | [], r, h => ⟨0, Nat.le_refl _, (Option.some.inj h).symm, (fun i d hi => absurd hi (Nat.not_lt_zero _)), (fun d hd => by cases hd)⟩
  | y :: ys, r, h => by
    unfold findT at h
    cases z : T y x with
    | none =>
      rw [z] at h
      cases h
    | some b =>
      rw [z] at h
      cases b with
      | true =>
        refine ⟨0, Nat.zero_le _, ?_, (fun i d hi => absurd hi (Nat.not_lt_zero _)), fun d hd => ?_⟩
        · rw [if_pos (show 0 < (y :: ys).length from Nat.succ_pos _)]
          exact (Option.some.inj h).symm
        · cases hd
          exact z
      | false =>
        dsimp only at h
        cases z2 : findT T x ys with
        | none =>
          rw [z2] at h
          cases h
        | some r2 =>
          rw [z2] at h
          obtain ⟨m, h1, h2, h3, h4⟩ := findT_spec z2
          refine ⟨m + 1, Nat.succ_le_succ h1, ?_, fun i d hi hd => ?_, fun d hd => h4 d hd⟩
          · have := Option.some.inj h
            rw [← this, h2]
            by_cases c : m < ys.length
            · rw [if_pos c, if_pos (show m + 1 < (y :: ys).length from Nat.succ_lt_succ c)]
              rfl
            · rw [if_neg c, if_neg (show ¬ m + 1 < (y :: ys).length from fun w => c (Nat.lt_of_succ_lt_succ w))]
              rfl
          · cases i with
            | zero =>
              cases hd
              exact z
            | succ i => exact h3 i d (by omega) hd
section
variable {X : Cx} {W : WX} {a b : Expr} {fa fb : FO} {T : D → D → Option Bool} {n k m : Nat} {tb : List CI} {ks cs ps CL : List Str} {F : Fn} {E : D → D → Option Bool}
theorem turnF {T : D → D → Option Bool} (h : EqB X n T) {A : Around} (sb : Sub X (n + 1) A) {pins : List (Addr × Obj)} {σ : St} {H G : Hp} (sG : Same G H) {ds : List D} {e : D} {xs : List V} {y : V} {v : Value} {its : List Value} (rd : Reps X.K G ds xs) (re : Rep X.K G e y) (r : Vals xs its) (r2 : RelV y v) {m : Nat}
    (m3 : ∀ i d, i < m → ds[i]? = some d → T d e = some false) (m4 : ∀ d, ds[m]? = some d → T d e = some true)
    (i : Nat) (h1 : i < its.toArray.size) (s' : Shared) (l : AB X pins σ H s') : GB.FB X.prog X.w A X.xe (fun _ s' => AB X pins σ H s') m v i its.toArray[i] s' := by
  intro hi
  obtain ⟨H1, I1, e1⟩ := l
  have g1 : its[i]? = some its.toArray[i] := by
    have h1' : i < its.length := by simpa using h1
    rw [List.getElem?_eq_getElem h1'] <;> simp
  have k1 : i < xs.length := by rw [r.length]; simpa using h1
  obtain ⟨u, hu, ru⟩ := r.get (List.getElem?_eq_getElem k1)
  obtain ⟨d, hd, rd'⟩ := rd.getV (List.getElem?_eq_getElem k1)
  rw [g1] at hu
  rw [Option.some.inj hu]
  have hT : T d e = some (decide (i = m)) := by
    by_cases q : i = m
    · rw [decide_eq_true q]
      subst q
      exact m4 d hd
    · rw [decide_eq_false q]
      exact m3 i d (by omega) hd
  refine wpAny_mono (h A.in1 pins s' σ H1 G d e _ _ u v _ sb.in1 I1 (sG.trans e1) ru r2 rd' re hT) (fun r s2 q => ?_) fun _ _ x => x
  obtain ⟨hr, H2, I2, e2⟩ := q
  exact ⟨hr, H2, I2, e1.trans e2⟩
def rInO (K : PySem.W.Frag) (neg : Bool) (T : D → D → Option Bool) : R2 := fun x y H Q => ∃ G d ds r, Same G H ∧ Rep K G d x ∧ Rep K G (.tup ds) y ∧ findT T d ds = some r ∧ ∀ H', Same H H' → Q (.bl (neg != r.isSome)) H'
theorem op_inO (neg : Bool) (h : EqB X n T) (hr : Room (n + 1) X.A) : OpR X (compareOp (if neg then .NotIn else .In)) (rInO X.K neg T) := by
  intro pins s σ H x y v u Q I rx ry hq
  obtain ⟨G, d, ds, r, sG, rd, rt, hf, q⟩ := hq
  obtain ⟨m, f1, f2, f3, f4⟩ := findT_spec hf
  unfold Rep at rt
  obtain ⟨p, ws, rfl, t1, t2⟩ := rt
  cases ry
  obtain ⟨its, rv, pl, hz⟩ := I.tuple (sameT sG t1)
  have hl : its.toArray.size = ds.length := Reps.len2 t2 rv
  have hc : wpAny (model X.prog X.w) X.A (contains (.ref p) v) (fun b s' => b = r.isSome ∧ AB X pins σ H s') X.xe s := by
    refine GB.in_tupB (m := m) (by omega) (fun _ s' => AB X pins σ H s') pl (fun i h1 s' l => turnF h ⟨hr, rfl⟩ sG t2 rd rv rx f3 f4 i h1 s' l) (fun i s' l => ⟨?_, l⟩) ⟨H, I, .refl _⟩
    rw [f2, hl]
    by_cases c : m < ds.length
    · rw [if_pos c, decide_eq_true c]
      rfl
    · rw [if_neg c, decide_eq_false c]
      rfl
  cases neg with
  | false =>
    show wpAny _ _ (do return Value.bool (← contains (.ref p) v) : Sem Value) _ _ s
    refine wpAny_bind (wpAny_mono hc (fun b s' z => ?_) fun _ _ x => x)
    obtain ⟨rfl, H', I', e'⟩ := z
    exact wpAny_pure ⟨.bl (false != r.isSome), H', I', by cases r <;> rfl, q H' e'⟩
  | true =>
    show wpAny _ _ (do return Value.bool (!(← contains (.ref p) v)) : Sem Value) _ _ s
    refine wpAny_bind (wpAny_mono hc (fun b s' z => ?_) fun _ _ x => x)
    obtain ⟨rfl, H', I', e'⟩ := z
    exact wpAny_pure ⟨.bl (true != r.isSome), H', I', by cases r <;> rfl, q H' e'⟩
def gInO (neg : Bool) (T : D → D → Option Bool) (d1 d2 : D) : Option D := match d2 with
  | .tup ds => (findT T d1 ds).map fun r => .bl (neg != r.isSome)
  | _ => none
def fInO (neg : Bool) (T : D → D → Option Bool) (fa fb : FO) : FE := fun env => (fa env).bd fun h1 e1 => (fb e1).bd fun h2 e2 => match h1 with
  | .im d1 => (match h2 with
    | .im d2 => ol (gInO neg T d1 d2) e2
    | _ => .bad)
  | _ => .bad
theorem l2i {K : PySem.W.Frag} {neg : Bool} (σ : St) (H : Hp) (Q : VK) (h : lO K W (imO (wp (fInO neg T fa fb))) σ H Q) : tOp (rInO K neg T) (lO K W (wp fa)) (lO K W (wp fb)) σ H Q := by
  obtain ⟨x, G, env, Q', X', r', hw, hn, hx⟩ := h
  have hw : ((fa env).bd fun h1 e1 => (fb e1).bd fun h2 e2 => match h1 with | .im d1 => (match h2 with | .im d2 => ol (gInO neg T d1 d2) e2 | _ => .bad) | _ => .bad).on (fun d e => Q' (.im d) e) X' := hw
  rw [Re.on_bd] at hw
  refine ⟨x, G, env, _, X', r', hw, fun h1 e1 v1 G1 H1 s1 r1 q1 hw1 => ?_, hx⟩
  rw [Re.on_bd] at hw1
  refine ⟨x, G1, e1, _, X', r1, hw1, fun h2 e2 v2 G2 H2 s2 r2 q2 hw2 => ?_, hx.up s1⟩
  cases h1 with
  | ow j => exact hw2.elim
  | im d1 =>
    cases h2 with
    | ow j => exact hw2.elim
    | im d2 =>
      dsimp only at hw2
      unfold gInO at hw2
      cases d2 with
      | tup ds =>
        dsimp only at hw2
        cases z : findT T d1 ds with
        | none =>
          rw [z] at hw2
          exact hw2.elim
        | some r =>
          rw [z] at hw2
          have q1' : Rep K G1 d1 v1 := q1
          refine ⟨G2, d1, ds, r, r2.sG, Rep.mono s2 _ _ q1', q2, z, fun H' sH => ?_⟩
          have st : Step G2 H2 G2 H' := ⟨.refl _, sH, r2.sG.trans sH, fun a o e q => by rw [q] at e; cases e⟩
          exact hn (.im (.bl (neg != r.isSome))) e2 _ G2 H' (s1.trans s2) (r2.step st) rfl hw2
      | _ => exact hw2.elim
theorem kc_inW (h : EqB X n T) (hr : Room (n + 1) X.A) (ha : KO X W a fa) (hb : KO X W b fb) (hm : behindInMarks .In b = false) : KC X W .In a b (fInO false T fa fb) :=
  ⟨fun _ => (pe_cmpR (op_inO false h hr) ha hb hm).le l2i, fun _ => QT.le (w := wB (wp (fInO false T fa fb))) ((pt_cmpR (op_inO false h hr) ha hb hm).le fun σ H Q h => l2i σ H _ (lB σ H Q h)) leB⟩
/-! xs.reverse() -/
def fRevM (i : Nat) : FE := fun env => match owAt env i with
  | some (.lst ds) => .ok .non (putOw env i (.lst ds.reverse))
  | _ => .bad
theorem ke_revM (i : Nat) {apos pos : Pos} {n : Str} {np : Pos} (hN : X.N[i]? = some n := by rfl) (hvs : Vis X.env.scope n := by first | exact Or.inl rfl | exact Or.inr (Or.inl rfl) | exact Or.inr (Or.inr rfl)) (hd : (n == ("__debug__" : Str)) = false := by decide)
    (hcd : (n == ("__classdict__" : Str)) = false := by decide) (hbase : attributeBase (.Name n np) "reverse" X.env (eval (.Name n np) X.env) = eval (.Name n np) X.env := by rfl) (hline : (apos.endLine == pos.line) = true := by rfl) :
    KE X W (.Call (.Attribute (.Name n np) "reverse" apos) [] [] pos) (fRevM i) := (pe_bm0 PySem.F.plainAttrs_list PySem.F.slot_list_reverse PySem.F.type_list_reverse mt_reverse (pe_var hN hvs hd hcd) hbase hline).le fun σ H Q h => by
  obtain ⟨x, G, env, Q', X', r0, hw, hn, hx⟩ := h
  have hw : wp (fRevM i) env (fun d e => Q' (.im d) e) X' := hw
  unfold wp fRevM at hw
  cases e0 : owAt env i with
  | none =>
    rw [e0] at hw
    exact hw.elim
  | some o =>
    rw [e0] at hw
    cases o with
    | lst ds =>
      obtain ⟨b0, e0'⟩ := owAt_some e0
      obtain ⟨p0, o0, z1, z2, z3, z4, z5⟩ := r0.ow i b0 _ e0'
      obtain ⟨xs0, rfl, z6⟩ := z3
      refine ⟨.ref p0, z1, .inl ⟨rfl, xs0, SqL.of z2⟩, p0, xs0, rfl, rfl, z2, ?_⟩
      exact hn (.im .non) _ .non G _ (.refl _) (r0.putOw (d' := .lst ds.reverse) e0' z1 ⟨_, rfl, Reps.rev z6⟩) rfl hw
    | _ => exact hw.elim
end
end TL

/-! a tuple, a list, None == an own instance: the instance's own == answers -/
namespace GR
open PySem PySem.SeqAt PySem.Spec GQ PySem.SeqRoads2
open PySem.AutoSeq1 (wpAny_loadPart')
open PySem.MeetsSeq PySem.MeetsSeq2 PySem.MeetsSeq3
theorem tup_decl (l b : Addr) (items : Array Value) (n : Nat) (dd : Option Addr) (sl : Array (Option Value)) :
    Meets (Builtin.«tuple.__eq__» ⟨[.ref l, .ref b], []⟩)
      (fun _ R s => s.heap.get? l = some { cls := .type "tuple", dict := dd, data := .seq items n, slots := sl } ∧ (∀ M : Model, PySem.W.Looks M s.heap (isInstance (.ref b) (.type "tuple")) false) ∧ R (.ok (.ret .notImplemented)) s) :=
  .of_wp fun prog w A R s h => by
    obtain ⟨hp, g, d, tk, os⟩ := s; obtain ⟨hl, hI, h⟩ := h
    have hinst : ∀ (A' : Around) (E' : Value → Shared → Prop) (Q' : Bool → Shared → Prop), Q' false ⟨hp, g, d, tk, os⟩ → wpAny (model prog w) A' (isInstance (.ref b) (.type "tuple")) Q' E' ⟨hp, g, d, tk, os⟩ := fun A' E' Q' q => hI (model prog w) A' Q' E' ⟨hp, g, d, tk, os⟩ (fun _ _ e => e) q
    wp_walk using hinst, wpAny_loadPart' hl
    exact ⟨_, rfl, h⟩
theorem list_decl (l b : Addr) (items : Array Value) (n : Nat) (dd : Option Addr) (sl : Array (Option Value)) :
    Meets (Builtin.«list.__eq__» ⟨[.ref l, .ref b], []⟩)
      (fun _ R s => s.heap.get? l = some { cls := .type "list", dict := dd, data := .seq items n, slots := sl } ∧ (∀ M : Model, PySem.W.Looks M s.heap (isInstance (.ref b) (.type "list")) false) ∧ R (.ok (.ret .notImplemented)) s) :=
  .of_wp fun prog w A R s h => by
    obtain ⟨hp, g, d, tk, os⟩ := s; obtain ⟨hl, hI, h⟩ := h
    have hinst : ∀ (A' : Around) (E' : Value → Shared → Prop) (Q' : Bool → Shared → Prop), Q' false ⟨hp, g, d, tk, os⟩ → wpAny (model prog w) A' (isInstance (.ref b) (.type "list")) Q' E' ⟨hp, g, d, tk, os⟩ := fun A' E' Q' q => hI (model prog w) A' Q' E' ⟨hp, g, d, tk, os⟩ (fun _ _ e => e) q
    wp_walk using hinst, wpAny_loadPart' hl
    exact ⟨_, rfl, h⟩
section
variable {prog : Program} {w : World} {A : Around} {E : Value → Shared → Prop} {s : Shared} {K : PySem.W.Frag} {x C f : Addr} {ox : Obj} {od : Option Obj} {v : Value}
/-- v == x, v of a built-in type that declines, x an own instance -/
theorem cmp_R {T id : String} {Q : Value → Shared → Prop} (hu : A.units < cLine) (X : K.In s.heap) (I : PySem.W.InstAt s.heap x ox C od) (hT : s.TypeIs v T) (h1 : Slot T "__eq__" id) (hne : oneThing? .Eq v (.ref x) = none) (hsub : PySem.W.subIn K (.ref C) (.type T) = some false)
    (hd : ∀ Q' : Value → Shared → Prop, Q' .notImplemented s → wpAny (model prog w) A (call (.builtin id) [v, .ref x]) Q' E s)
    (hs : PySem.W.findIn K (.ref C) "__eq__" = some (some (.ref f))) (hf : PySem.W.isFn K (.ref f) = true)
    (h : wpAny (model prog w) A (call (.ref f) [.ref x, v]) (fun r s' => ∃ b, r = .bool b ∧ Q (.bool b) s') E s) : wpAny (model prog w) A (richCompare .Eq v (.ref x)) Q E s := by
  unfold richCompare
  simp only [hne]
  refine wpAny_holding (wpAny_bind (wpAny_cRoomFor hu ?_))
  refine wpAny_bind (wpAny_typeOf hT (wpAny_bind (I.type.here ?_)))
  have hc : (Value.type T != Value.ref C) = true := rfl
  simp only [hc, if_true]
  refine wpAny_bind ((PySem.W.looks_subIn X hsub).here ?_)
  simp only [Bool.false_eq_true, if_false, Bool.not_false, if_true]
  refine wpAny_bind (m := tryCompare v _ (.ref x)) (wpAny_tryCompare_declines hT h1 (hd _ ⟨rfl, ?_⟩))
  have one : wpAny (model prog w) A (tryCompare (.ref x) "__eq__" v) (fun r s' => ∃ v, r = some v ∧ Q v s') E s := by
    unfold tryCompare
    refine wpAny_bind (PySem.W.ifBound_K X I hs hf (wpAny_mono h (fun r s' hr => ?_) fun _ _ e => e))
    obtain ⟨b, rfl, hq⟩ := hr
    exact wpAny_pure ⟨_, rfl, hq⟩
  refine wpAny_bind (wpAny_mono one (fun r s' z => ?_) fun _ _ e => e)
  obtain ⟨v, rfl, hq⟩ := z
  exact wpAny_pure hq
end
/-! x in xs, xs a list, by an own == -/
section
variable {prog : Program} {w : World} {A : Around} {R : Result → Shared → Prop}
def LB1 (l : Addr) (N : Nat) (I : Nat → Shared → Prop) (P : Nat → Value → Shared → Prop) : Prop :=
  ∀ i s, I i s → ∃ (items : Array Value) (n : Nat) (dd : Option Addr) (sl : Array (Option Value)), s.heap.get? l = some { cls := .type "list", dict := dd, data := .seq items n, slots := sl } ∧ items.size = N ∧ ∀ (h1 : i < items.size), P i items[i] s
theorem cont_loopB (l : Addr) (x : Value) (N m : Nat) (hm : m ≤ N) (I : Nat → Shared → Prop) (hl : LB1 l N I (GB.FB prog w A (fun e s' => R (.error e) s') I m x))
    (fin : ∀ i s, I i s → R (.ok (.ret (.bool (decide (m < N))))) s) (k : Nat) :
    ∀ i : Nat, m - i = k → i ≤ m → ∀ s, I i s →
      wpAny (model prog w) A.in1 (Builtin.«list.__contains__.loop» ⟨[.ref l, x, rawInt i], []⟩) (FinOf prog w A R) (fun e s' => R (.error e) s') s := by
  induction k with
  | zero =>
    intro i hk hi s h
    obtain ⟨items, n, dd, sl, hl1, hs1, turn⟩ := hl _ _ h
    have hi' : i = m := by omega
    have hR := fin i s h
    by_cases hmN : m = N
    · obtain ⟨hp, g, d, tk, os⟩ := s
      rw [decide_eq_false (by omega)] at hR
      wp_walk using wpAny_loadPart' hl1
      have hi1 : items[((i : Nat) : Int).toNat]? = none := by simp; omega
      rw [hi1]
      wp_walk
      exact hR
    · have hlt : i < items.size := by omega
      have ht := turn hlt (by omega)
      rw [decide_eq_true hi'] at ht
      have hi1 : items[((i : Nat) : Int).toNat]? = some items[i] := by simp [hlt]
      obtain ⟨hp, g, d, tk, os⟩ := s
      wp_walk using wpAny_loadPart' hl1
      rw [hi1]
      refine wpAny_bind (wpAny_mono ht (fun r s2 h2 => ?_) fun _ _ x => x)
      obtain ⟨hr, h2⟩ := h2
      subst hr
      have hR2 := fin _ s2 h2
      rw [decide_eq_true (by omega)] at hR2
      obtain ⟨hp2, g2, d2, tk2, os2⟩ := s2
      wp_walk
      exact hR2
  | succ k ih =>
    intro i hk hi s h
    obtain ⟨items, n, dd, sl, hl1, hs1, turn⟩ := hl _ _ h
    have hlt : i < items.size := by omega
    have ht := turn hlt hi
    rw [decide_eq_false (by omega : ¬ i = m)] at ht
    have hi1 : items[((i : Nat) : Int).toNat]? = some items[i] := by simp [hlt]
    have hc : ((i : Int) + 1) = ((i + 1 : Nat) : Int) := by omega
    obtain ⟨hp, g, d, tk, os⟩ := s
    wp_walk using wpAny_loadPart' hl1
    rw [hi1]
    refine wpAny_bind (wpAny_mono ht (fun r s2 h2 => ?_) fun _ _ x => x)
    obtain ⟨hr, h2⟩ := h2
    subst hr
    have hrec := ih (i + 1) (by omega) (by omega) s2 h2
    obtain ⟨hp2, g2, d2, tk2, os2⟩ := s2
    wp_walk
    rw [hc]
    exact ⟨plainId_quiet plain_contains_loop _, codeAny_builtin entry_contains_loop (by
      rw [Around.under_plainId plain_contains_loop _]
      exact hrec)⟩
theorem cont_B (l : Addr) (x : Value) (N m : Nat) (hm : m ≤ N) (I : Nat → Shared → Prop) (hl : LB1 l N I (GB.FB prog w A (fun e s' => R (.error e) s') I m x))
    (fin : ∀ i s, I i s → R (.ok (.ret (.bool (decide (m < N))))) s) {s : Shared} (h : I 0 s) :
    wpAny (model prog w) A.in1 (Builtin.«list.__contains__» ⟨[.ref l, x], []⟩) (FinOf prog w A R) (fun e s' => R (.error e) s') s := by
  obtain ⟨items, n, dd, sl, hl1, hs1, _⟩ := hl _ _ h
  have hrec := cont_loopB (A := A) (R := R) l x N m hm I hl fin _ 0 rfl (Nat.zero_le _) s h
  obtain ⟨hp, g, d, tk, os⟩ := s
  wp_walk using wpAny_loadPart' hl1
  exact ⟨plainId_quiet plain_contains_loop _, codeAny_builtin entry_contains_loop (by
    rw [Around.under_plainId plain_contains_loop _]
    exact hrec)⟩
end
section
variable {prog : Program} {w : World} {A : Around} {E : Value → Shared → Prop} {s : Shared}
theorem in_listB {l : Addr} {x : Value} {Q : Bool → Shared → Prop} {N m : Nat} (hm : m ≤ N) (I : Nat → Shared → Prop)
    (hl : LB1 l N I (GB.FB prog w A E I m x)) (fin : ∀ i s, I i s → Q (decide (m < N)) s) (h : I 0 s) : wpAny (model prog w) A (contains (.ref l) x) Q E s := by
  obtain ⟨items, n, dd, sl, ho, hs1, _⟩ := hl _ _ h
  have z := cont_B (R := wants (fun v s' => wpAny (model prog w) A (truthy v) Q E s') E) l x N m hm I hl (fun i s' q => wpAny_truthy_bool (fin i s' q)) h
  have ti : s.TypeIs (.ref l) "list" := ⟨_, ho, rfl⟩
  unfold contains
  refine wpAny_holding ?_
  refine wpAny_bind (wpAny_specialOf ti PyProof.Rows.slot_list_contains.lookup ?_)
  rw [if_neg (by decide)]
  exact wpAny_bind (wpAny_callSpecialUnlessNone?_slot (name := Str.ofString "__contains__") ti PyProof.Rows.slot_list_contains
    (call_here PyProof.Rows.slot_list_contains ti PyProof.Rows.entry_list_contains (PyProof.Rows.args_list_contains _ _) z))
end
end GR
namespace TL
open PySem PySem.Spec L2
def isRf : D → Bool
  | .tup _ => true
  | .lst _ => true
  | .non => true
  | _ => false
/-- d == e, by e's own == where d is built in -/
def eqR (T E : D → D → Option Bool) (d e : D) : Option Bool := match T d e with
  | some b => some b
  | none => if isRf d = true then E e d else none
section
variable {X : Cx} {tb : List CI} {ks cs ps : List Str} {F : Fn} {n k : Nat} {T : D → D → Option Bool}
theorem eqB_R (T0 : CT X.K tb ks) (M : ∀ c ∈ cs, MeT X.prog X.w X.K X.mg X.base k c "__eq__" ps (TF F)) (rf : rfB X.K cs = true) (h : EqB X n T) (hkn : k + 1 ≤ n) : EqB X n (eqR T (ownE tb cs F)) := by
  intro A pins s σ H G d e x y u v b sb I sG rx ry rd re hT
  unfold eqR at hT
  cases z : T d e with
  | some b' =>
    rw [z] at hT
    exact h A pins s σ H G d e x y u v b sb I sG rx ry rd re (by rw [z]; exact hT)
  | none =>
    rw [z] at hT
    dsimp only at hT
    have hrf : isRf d = true ∧ ownE tb cs F e d = some b := by
      cases c : isRf d with
      | true => rw [c] at hT; exact ⟨rfl, hT⟩
      | false => rw [c] at hT; cases hT
    obtain ⟨hd, hE⟩ := hrf
    cases e with
    | ins c ns es =>
      have re0 := re
      unfold Rep at re
      obtain ⟨a, dx, vs, rfl, q, l, rs⟩ := re
      cases ry
      have sbk : Sub X k A := sb.mono (by omega)
      obtain ⟨f, g, hc, hg, hm, hw⟩ := own_call T0 M sbk I sG rx re0 rd hE
      have hrc := List.all_eq_true.mp rf c hc
      have hr1 : ∀ t ∈ ["tuple", "list", "NoneType"], PySem.W.subIn X.K (.ref (He.ga X.K c)) (.type t) = some false ∧ PySem.W.mroIn X.K (He.ga X.K c) (.type t) = some false := fun t ht => by
        have := List.all_eq_true.mp hrc t ht
        obtain ⟨z1, z2⟩ := Bool.and_eq_true_iff.mp this
        exact ⟨of_decide_eq_true z1, of_decide_eq_true z2⟩
      obtain ⟨mA, J, _⟩ := ins_get I.hok (sG _ _ q)
      obtain ⟨od, J, _⟩ := J.look
      have hu : A.units < cLine := sbk.room.units0
      have hw2 : wpAny (model X.prog X.w) A (call (.ref f) [.ref a, u]) (fun r s' => ∃ b', r = .bool b' ∧ ((fun v s' => ∃ r, v = Value.bool r ∧ r = b ∧ AB X pins σ H s') (.bool b') s')) X.xe s := wpAny_mono hw (fun r s' hq => by
        obtain ⟨rfl, ab⟩ := hq
        exact ⟨b, rfl, b, rfl, rfl, ab⟩) fun _ _ e => e
      cases d with
      | tup ds =>
        unfold Rep at rd
        obtain ⟨p, ws, rfl, t1, t2⟩ := rd
        cases rx
        obtain ⟨its, rv, pl, hz⟩ := I.tuple (sameT sG t1)
        obtain ⟨⟨cls, dd, data, sl⟩, ho, hcl, n0, hdt⟩ := id pl
        simp only at hcl hdt
        subst hcl hdt
        have hne : (Value.ref a) ≠ .ref p := fun z => by
          cases z
          have e1 := J.1
          rw [ho] at e1
          have e2 := J.2
          cases e1
        have hsub := hr1 "tuple" (by simp)
        refine eqBool_refB hne (GR.cmp_R (T := "tuple") hu I.kIn J ⟨_, ho, rfl⟩ PySem.F.slot_tuple_eq (oneThing_ref _ _ _) hsub.1 (fun Q' hq => ?_) hm.at_ hm.fn hw2)
        exact call_meets PySem.F.slot_tuple_eq ⟨_, ho, rfl⟩ PySem.F.entry_tuple_eq (PySem.F.args_tuple_eq_2 _ _) (GR.tup_decl p a its.toArray n0 dd sl) ⟨ho, fun M => J.type.andThen (PySem.W.looks_mroIn I.kIn hsub.2), hq⟩
      | lst ds =>
        unfold Rep at rd
        obtain ⟨p, ws, rfl, t1, t2⟩ := rd
        cases rx
        obtain ⟨its, rv, pl, hz⟩ := I.list (sG.seq t1)
        obtain ⟨⟨cls, dd, data, sl⟩, n0, ho, hcl, hdn, hdt⟩ := id pl
        simp only at hcl hdt
        subst hcl hdt
        have hne : (Value.ref a) ≠ .ref p := fun z => by
          cases z
          have e1 := J.1
          rw [ho] at e1
          have e2 := J.2
          cases e1
        have hsub := hr1 "list" (by simp)
        refine eqBool_refB hne (GR.cmp_R (T := "list") hu I.kIn J ⟨_, ho, rfl⟩ PySem.F.slot_list_eq (oneThing_ref _ _ _) hsub.1 (fun Q' hq => ?_) hm.at_ hm.fn hw2)
        exact call_meets PySem.F.slot_list_eq ⟨_, ho, rfl⟩ PySem.F.entry_list_eq (PySem.F.args_list_eq_2 _ _) (GR.list_decl p a its.toArray n0 dd sl) ⟨ho, fun M => J.type.andThen (PySem.W.looks_mroIn I.kIn hsub.2), hq⟩
      | non =>
        cases (show x = .non from rd)
        cases (show u = .none from rx)
        have hsub := hr1 "NoneType" (by simp)
        unfold eqBool
        refine wpAny_holding ?_
        refine wpAny_ite_split (fun hab => (by cases (eq_of_beq hab))) (fun _ => ?_)
        refine wpAny_bind (wpAny_mono (GR.cmp_R (Q := fun v s' => ∃ r, v = Value.bool r ∧ r = b ∧ AB X pins σ H s') (T := "NoneType") hu I.kIn J rfl PySem.F.slot_NoneType_eq rfl hsub.1 (fun Q' hq => call_gives PySem.F.slot_NoneType_eq rfl PySem.F.entry_NoneType_eq (PySem.F.args_NoneType_eq_2 _ _) (PySem.SeqAt.NoneType___eq___none_ref_0 a) hq) hm.at_ hm.fn hw2) (fun v s' hv => ?_) fun _ _ x => x)
        obtain ⟨r, rfl, q⟩ := hv
        exact wpAny_truthy_bool q
      | _ => cases hd
    | _ => cases hE
end
section
variable {X : Cx} {W : WX} {a b : Expr} {fa fb : FO} {k : Nat} {tb : List CI} {ks cs ps : List Str} {F : Fn}
/-- x in t by an own ==, the left operands built in or own -/
theorem kc_inR (T : CT X.K tb ks) (hq : oqB X.K tb cs = true) (rf : rfB X.K cs = true) (M : ∀ q ∈ TFs (cs.map fun c => (c, F)), MeT X.prog X.w X.K X.mg X.base k q.1 "__eq__" ps q.2) (hr : Room (k + 7) X.A) (ha : KO X W a fa) (hb : KO X W b fb) (hm : behindInMarks .In b = false := by first | exact nomark _ | rfl) : KC X W .In a b (fInO false (eqR (idn cs (eqO tb cs F)) (ownE tb cs F)) fa fb) := by
  obtain ⟨h1, h2⟩ := Bool.and_eq_true_iff.mp hq
  obtain ⟨h2, h3⟩ := Bool.and_eq_true_iff.mp h2
  have M' : ∀ c ∈ cs, MeT X.prog X.w X.K X.mg X.base k c "__eq__" ps (TF F) := fun c hc => M (c, TF F) (by unfold TFs; simp only [List.map_map, List.mem_map]; exact ⟨c, hc, rfl⟩)
  exact kc_inW (eqB_R T M' rf (eqB_all (djB_ok h1) (owB_eq T M' h2) 6) (by omega)) hr ha hb hm
theorem kt_inR {pos : Pos} (T : CT X.K tb ks) (hq : oqB X.K tb cs = true) (rf : rfB X.K cs = true) (M : ∀ q ∈ TFs (cs.map fun c => (c, F)), MeT X.prog X.w X.K X.mg X.base k q.1 "__eq__" ps q.2) (hr : Room (k + 7) X.A) (ha : KO X W a fa) (hb : KO X W b fb) (hm : behindInMarks .In b = false := by first | exact nomark _ | rfl) : KT X W (.Compare a [.In] [b] pos) (fB (fInO false (eqR (idn cs (eqO tb cs F)) (ownE tb cs F)) fa fb)) := (kc_inR T hq rf M hr ha hb hm).t pos
end
section
variable {X : Cx} {W : WX} {a b : Expr} {fa fb : FO} {T : D → D → Option Bool} {n k : Nat} {tb : List CI} {ks cs ps : List Str} {F : Fn}
def rInL (K : PySem.W.Frag) (neg : Bool) (T : D → D → Option Bool) : R2 := fun x y H Q => ∃ G d ds vs p r, Same G H ∧ Rep K G d x ∧ y = V.ref p ∧ SqL K H p vs ∧ Reps K G ds vs ∧ findT T d ds = some r ∧ ∀ H', Same H H' → Q (.bl (neg != r.isSome)) H'
theorem op_inL (neg : Bool) (h : EqB X n T) (hr : Room (n + 1) X.A) : OpR X (compareOp (if neg then .NotIn else .In)) (rInL X.K neg T) := by
  intro pins s σ H x y v u Q I rx ry hq
  obtain ⟨G, d, ds, vs, p, r, sG, rd, rfl, t1, t2, hf, q⟩ := hq
  obtain ⟨m, f1, f2, f3, f4⟩ := findT_spec hf
  cases ry
  have hc : wpAny (model X.prog X.w) X.A (contains (.ref p) v) (fun b s' => b = r.isSome ∧ AB X pins σ H s') X.xe s := by
    refine GR.in_listB (N := ds.length) (m := m) (by omega) (fun _ s' => AB X pins σ H s') (fun i s' l => ?_) (fun i s' l => ⟨?_, l⟩) ⟨H, I, .refl _⟩
    · obtain ⟨H1, I1, e1⟩ := id l
      obtain ⟨its, rv, pl, hz⟩ := I1.list (e1.seq t1)
      obtain ⟨⟨cls, dd, data, sl⟩, n0, ho, hcl, hdn, hdt⟩ := id pl
      simp only at hcl hdt
      subst hcl hdt
      exact ⟨_, _, _, _, ho, Reps.len2 t2 rv, fun h1 => turnF h ⟨hr, rfl⟩ sG t2 rd rv rx f3 f4 i h1 s' l⟩
    · rw [f2]
      by_cases c : m < ds.length
      · rw [if_pos c, decide_eq_true c]
        rfl
      · rw [if_neg c, decide_eq_false c]
        rfl
  cases neg with
  | false =>
    show wpAny _ _ (do return Value.bool (← contains (.ref p) v) : Sem Value) _ _ s
    refine wpAny_bind (wpAny_mono hc (fun b s' z => ?_) fun _ _ x => x)
    obtain ⟨rfl, H', I', e'⟩ := z
    exact wpAny_pure ⟨.bl (false != r.isSome), H', I', by cases r <;> rfl, q H' e'⟩
  | true =>
    show wpAny _ _ (do return Value.bool (!(← contains (.ref p) v)) : Sem Value) _ _ s
    refine wpAny_bind (wpAny_mono hc (fun b s' z => ?_) fun _ _ x => x)
    obtain ⟨rfl, H', I', e'⟩ := z
    exact wpAny_pure ⟨.bl (true != r.isSome), H', I', by cases r <;> rfl, q H' e'⟩
def fInL (neg : Bool) (T : D → D → Option Bool) (fa fb : FO) : FE := fun env => (fa env).bd fun h1 e1 => (fb e1).bd fun h2 e2 => match h1 with
  | .im d1 => (match hv e2 h2 with
    | some (.lst ds) => ol ((findT T d1 ds).map fun r => .bl (neg != r.isSome)) e2
    | _ => .bad)
  | _ => .bad
theorem l2L {K : PySem.W.Frag} {neg : Bool} (σ : St) (H : Hp) (Q : VK) (h : lO K W (imO (wp (fInL neg T fa fb))) σ H Q) : tOp (rInL K neg T) (lO K W (wp fa)) (lO K W (wp fb)) σ H Q := by
  obtain ⟨x, G, env, Q', X', r', hw, hn, hx⟩ := h
  have hw : ((fa env).bd fun h1 e1 => (fb e1).bd fun h2 e2 => match h1 with | .im d1 => (match hv e2 h2 with | some (.lst ds) => ol ((findT T d1 ds).map fun r => D.bl (neg != r.isSome)) e2 | _ => .bad) | _ => .bad).on (fun d e => Q' (.im d) e) X' := hw
  rw [Re.on_bd] at hw
  refine ⟨x, G, env, _, X', r', hw, fun h1 e1 v1 G1 H1 s1 r1 q1 hw1 => ?_, hx⟩
  rw [Re.on_bd] at hw1
  refine ⟨x, G1, e1, _, X', r1, hw1, fun h2 e2 v2 G2 H2 s2 r2 q2 hw2 => ?_, hx.up s1⟩
  cases h1 with
  | ow j => exact hw2.elim
  | im d1 =>
    dsimp only at hw2
    cases z2 : hv e2 h2 with
    | none =>
      rw [z2] at hw2
      exact hw2.elim
    | some d2 =>
      rw [z2] at hw2
      cases d2 with
      | lst ds =>
        dsimp only at hw2
        cases z : findT T d1 ds with
        | none =>
          rw [z] at hw2
          exact hw2.elim
        | some r =>
          rw [z] at hw2
          have q1' : Rep K G1 d1 v1 := q1
          obtain ⟨p, vs, e, t1, t2⟩ := (q2.read r2 z2 : RepT K G2 H2 (.lst ds) v2)
          refine ⟨G2, d1, ds, vs, p, r, r2.sG, Rep.mono s2 _ _ q1', e, t1, t2, z, fun H' sH => ?_⟩
          have st : Step G2 H2 G2 H' := ⟨.refl _, sH, r2.sG.trans sH, fun a o e q => by rw [q] at e; cases e⟩
          exact hn (.im (.bl (neg != r.isSome))) e2 _ G2 H' (s1.trans s2) (r2.step st) rfl hw2
      | _ => exact hw2.elim
theorem kc_notinLW (h : EqB X n T) (hr : Room (n + 1) X.A) (ha : KO X W a fa) (hb : KO X W b fb) (hm : behindInMarks .NotIn b = false) : KC X W .NotIn a b (fInL true T fa fb) :=
  ⟨fun _ => (pe_cmpR (op_inL true h hr) ha hb hm).le l2L, fun _ => QT.le (w := wB (wp (fInL true T fa fb))) ((pt_cmpR (op_inL true h hr) ha hb hm).le fun σ H Q h => l2L σ H _ (lB σ H Q h)) leB⟩
/-- x not in xs by an own == -/
theorem kc_notinL (T : CT X.K tb ks) (hq : oqB X.K tb cs = true) (M : ∀ q ∈ TFs (cs.map fun c => (c, F)), MeT X.prog X.w X.K X.mg X.base k q.1 "__eq__" ps q.2) (hr : Room (k + 7) X.A) (ha : KO X W a fa) (hb : KO X W b fb) (hm : behindInMarks .NotIn b = false := by first | exact nomark _ | rfl) : KC X W .NotIn a b (fInL true (idn cs (eqO tb cs F)) fa fb) := by
  obtain ⟨h1, h2⟩ := Bool.and_eq_true_iff.mp hq
  obtain ⟨h2, h3⟩ := Bool.and_eq_true_iff.mp h2
  have M' : ∀ c ∈ cs, MeT X.prog X.w X.K X.mg X.base k c "__eq__" ps (TF F) := fun c hc => M (c, TF F) (by unfold TFs; simp only [List.map_map, List.mem_map]; exact ⟨c, hc, rfl⟩)
  exact kc_notinLW (eqB_all (djB_ok h1) (owB_eq T M' h2) 6) hr ha hb hm
theorem kt_notinL {pos : Pos} (T : CT X.K tb ks) (hq : oqB X.K tb cs = true) (M : ∀ q ∈ TFs (cs.map fun c => (c, F)), MeT X.prog X.w X.K X.mg X.base k q.1 "__eq__" ps q.2) (hr : Room (k + 7) X.A) (ha : KO X W a fa) (hb : KO X W b fb) (hm : behindInMarks .NotIn b = false := by first | exact nomark _ | rfl) : KT X W (.Compare a [.NotIn] [b] pos) (fB (fInL true (idn cs (eqO tb cs F)) fa fb)) := (kc_notinL T hq M hr ha hb hm).t pos
end
end TL

/-! Equations for simp. -/
namespace TL
open PySem PySem.Spec L2
section
variable {α β : Type} {a : α} {e : Ev} {x : Xn} {k : α → Ev → Re β} {ks : α → Ev → Sr} {kf : FS} {d d' : D} {i j : Nat}
theorem bd_ok : (Re.ok a e).bd k = k a e := rfl
theorem bd_xc : (Re.xc x e : Re α).bd k = .xc x e := rfl
theorem bd_bad : (Re.bad : Re α).bd k = .bad := rfl
theorem st_ok : (Re.ok a e).st ks = ks a e := rfl
theorem st_xc : (Re.xc x e : Re α).st ks = .xc x e := rfl
theorem st_bad : (Re.bad : Re α).st ks = .bad := rfl
theorem sq_nx : (Sr.nx e).sq kf = kf e := rfl
theorem sq_rt : (Sr.rt d e).sq kf = .rt d e := rfl
theorem sq_ro : (Sr.ro d e).sq kf = .ro d e := rfl
theorem sq_bk : (Sr.bk e).sq kf = .bk e := rfl
theorem sq_ct : (Sr.ct e).sq kf = .ct e := rfl
theorem sq_xc : (Sr.xc x e).sq kf = .xc x e := rfl
theorem sq_bad : Sr.bad.sq kf = .bad := rfl
theorem ol_some : ol (some a) e = .ok a e := rfl
theorem ol_none : ol (none : Option α) e = .bad := rfl
theorem ofG_some : ofG (some e) = .nx e := rfl
theorem ofG_none : ofG none = .bad := rfl
theorem hv_im : hv e (.im d) = some d := rfl
theorem hv_ow0 {b : Bool} {s : Ev} : hv (.ow b d :: s) (.ow 0) = some d := rfl
theorem hv_ow1 {t : Sl} {s : Ev} : hv (t :: s) (.ow (i + 1)) = hv s (.ow i) := rfl
theorem imAt0 {s : Ev} : imAt (.im d :: s) 0 = some d := rfl
theorem imAt1 {t : Sl} {s : Ev} : imAt (t :: s) (i + 1) = imAt s i := rfl
theorem owAt0 {b : Bool} {s : Ev} : owAt (.ow b d :: s) 0 = some d := rfl
theorem owAt1 {t : Sl} {s : Ev} : owAt (t :: s) (i + 1) = owAt s i := rfl
theorem lowAt0 {s : Ev} : lowAt (.ow false d :: s) 0 = some d := rfl
theorem lowAt1 {t : Sl} {s : Ev} : lowAt (t :: s) (i + 1) = lowAt s i := rfl
theorem nr0i {s : Ev} : nr (.im d :: s) 0 = true := rfl
theorem nr0n {s : Ev} : nr (.no :: s) 0 = true := rfl
theorem nr0o {s : Ev} : nr (.ow false d :: s) 0 = true := rfl
theorem nr1 {t : Sl} {s : Ev} : nr (t :: s) (i + 1) = nr s i := rfl
theorem putOw0 {b : Bool} {s : Ev} : putOw (.ow b d :: s) 0 d' = .ow b d' :: s := rfl
theorem putOw1 {t : Sl} {s : Ev} : putOw (t :: s) (i + 1) d = t :: putOw s i d := by
  unfold putOw
  rw [List.getElem?_cons_succ]
  cases s[i]? with
  | none => rfl
  | some u => cases u <;> rfl
theorem noE_nil : noE e [] = e := rfl
theorem noE_cons {is : List Nat} : noE e (i :: is) = (noE e is).set i .no := rfl
theorem nrs_nil : nrs e [] = true := rfl
theorem nrs_cons {is : List Nat} : nrs e (i :: is) = (nr e i && nrs e is) := rfl
theorem setE_nil {ds : List D} : setE e [] ds = e := by unfold setE; rfl
theorem setE_cons {is : List Nat} {ds : List D} : setE e (i :: is) (d :: ds) = setE (e.set i (.im d)) is ds := rfl
theorem tOne_f {n : Nat} : tOne false n d = some [d] := by cases d <;> rfl
theorem tOne_t {n : Nat} {ds : List D} : tOne true n (.tup ds) = some ds := rfl
theorem tOne_l {n : Nat} {ds : List D} : tOne true n (.lst ds) = some ds := rfl
theorem fgu_nx {is : List Nat} : (Sr.nx e).fg is = if nrs e is = true then .nx (noE e is) else .bad := rfl
theorem fgu_rt {is : List Nat} : (Sr.rt d e).fg is = if nrs e is = true then .rt d (noE e is) else .bad := rfl
theorem fgu_xc {is : List Nat} : (Sr.xc x e).fg is = if nrs e is = true then .xc x (noE e is) else .bad := rfl
theorem fgu_ct {is : List Nat} : (Sr.ct e).fg is = if nrs e is = true then .ct (noE e is) else .bad := rfl
theorem fgu_bk {is : List Nat} : (Sr.bk e).fg is = if nrs e is = true then .bk (noE e is) else .bad := rfl
theorem fgu_bad {is : List Nat} : Sr.bad.fg is = .bad := rfl
theorem gModu {m n : Int} : gMod (.int m) (.int n) = if 0 < n then some (.int (m % n)) else none := by
  unfold gMod gI
  dsimp only
  by_cases h : 0 < n
  · rw [if_pos h, if_pos (decide_eq_true h)]
  · rw [if_neg h, if_neg (by simpa using h)]
theorem gMulu {m n : Int} : gMul (.int m) (.int n) = if mulC m n = true then some (.int (m * n)) else none := rfl
theorem gDivu {m n : Int} : gDiv (.int m) (.int n) = if divC m n = true then some (.int (m / n)) else none := rfl
theorem gPowu {m n : Int} : gPow (.int m) (.int n) = if powC m n = true then some (.int (m ^ n.toNat)) else none := rfl
theorem gShlu {m n : Int} : gShl (.int m) (.int n) = if powC m n = true then some (.int (m * 2 ^ n.toNat)) else none := rfl
theorem lcEndu {ds : List D} : lcEnd (.ok ds e) = if ds.length ≤ 1000000 then .ok (.lst ds) e else .bad := rfl
theorem fr_nx {sl : List Sl} : (Sr.nx e).fr sl = .rt .non (outs sl e) := rfl
theorem fr_rt {sl : List Sl} : (Sr.rt d e).fr sl = .rt d (outs sl e) := rfl
theorem fr_ro {sl : List Sl} : (Sr.ro d e).fr sl = .ro d (outs sl e) := rfl
theorem fr_xc {sl : List Sl} : (Sr.xc x e).fr sl = .xc x (outs sl e) := rfl
theorem outs_n {e : Ev} : outs [] e = [] := outs_nil e
theorem outs_o {b : Bool} {sl : List Sl} {t : Sl} : outs (.ow b d :: sl) (t :: e) = t :: outs sl e := rfl
theorem outs_i {sl : List Sl} {t : Sl} : outs (.im d :: sl) (t :: e) = .im d :: outs sl e := rfl
theorem gAdd_i {m n : Int} : gAdd (.int m) (.int n) = some (.int (m + n)) := rfl
theorem gSub_i {m n : Int} : TL.gSub (.int m) (.int n) = some (.int (m - n)) := rfl
theorem gLt_i {m n : Int} : gLt (.int m) (.int n) = some (.bl (decide (m < n))) := rfl
theorem gLe_i {m n : Int} : gLe (.int m) (.int n) = some (.bl (decide (m ≤ n))) := rfl
theorem gGt_i {m n : Int} : gGt (.int m) (.int n) = some (.bl (decide (n < m))) := rfl
theorem gGe_i {m n : Int} : gGe (.int m) (.int n) = some (.bl (decide (n ≤ m))) := rfl
theorem gNeg_i {m : Int} : gNeg (.int m) = some (.int (-m)) := rfl
theorem gAbs_i {m : Int} : gAbs (.int m) = some (.int (if m < 0 then -m else m)) := rfl
theorem gInt_i {m : Int} : gInt (.int m) = some (.int m) := rfl
theorem gInt_b {b : Bool} : gInt (.bl b) = some (.int (if b = true then 1 else 0)) := rfl
theorem blOf_bl {b : Bool} : blOf (.bl b) = some b := rfl
theorem seqOf_l {xs : List D} : seqOf (.lst xs) = some xs := rfl
theorem seqOf_t {xs : List D} : seqOf (.tup xs) = some xs := rfl
theorem gLen_l {xs : List D} : gLen (.lst xs) = some (.int xs.length) := rfl
theorem gLen_t {xs : List D} : gLen (.tup xs) = some (.int xs.length) := rfl
theorem gListOf_l {xs : List D} : gListOf (.lst xs) = some (.lst xs) := rfl
theorem gListOf_t {xs : List D} : gListOf (.tup xs) = some (.lst xs) := rfl
theorem gTupOf_l {xs : List D} : gTupOf (.lst xs) = some (.tup xs) := rfl
theorem gTupOf_t {xs : List D} : gTupOf (.tup xs) = some (.tup xs) := rfl
theorem gIx_l {xs : List D} {n : Int} : gIx (.lst xs) (.int n) = atI xs n := rfl
theorem gIx_t {xs : List D} {n : Int} : gIx (.tup xs) (.int n) = atI xs n := rfl
theorem g1_1 {g : D → Option D} : g1' g [d] = g d := rfl
theorem g2_2 {g : Int → Int → D} {m n : Int} : g2' g [.int m, .int n] = some (g m n) := rfl
theorem ims_n : ims [] = some [] := rfl
theorem ims_c {t : List Hd} : ims (.im d :: t) = (ims t).map (d :: ·) := by
  show (match ims t with | some ds => some (d :: ds) | none => none) = _
  cases ims t <;> rfl
theorem hvs_n : hvs e [] = some [] := rfl
theorem hvs_c {t : List Hd} {h : Hd} : hvs e (h :: t) = (hv e h).bind fun d => (hvs e t).map (d :: ·) := by
  show (match hv e h with | some d => (match hvs e t with | some ds => some (d :: ds) | none => none) | none => none) = _
  cases hv e h with
  | none => rfl
  | some d => cases hvs e t <;> rfl
theorem slsOf_n : slsOf e [] = some [] := rfl
theorem slsOf_ci {t : List Hd} : slsOf e (.im d :: t) = (slsOf e t).map (fun r => Sl.im d :: r) := by
  show (match slsOf e t with | some ds => some (Sl.im d :: ds) | none => none) = _
  cases slsOf e t <;> rfl
theorem slsOf_co {t : List Hd} : slsOf e (.ow i :: t) = (owAt e i).bind fun d => (slsOf e t).map (fun r => Sl.ow true d :: r) := by
  show (match slOf e (.ow i) with | some s => (match slsOf e t with | some ds => some (s :: ds) | none => none) | none => none) = _
  unfold slOf
  dsimp only
  cases owAt e i with
  | none => rfl
  | some d => cases slsOf e t <;> rfl
theorem ows_n : ows [] = [] := rfl
theorem ows_i {t : List Hd} : ows (.im d :: t) = ows t := rfl
theorem ows_o {t : List Hd} : ows (.ow i :: t) = i :: ows t := rfl
theorem ndup_n : ndup [] = true := rfl
theorem ndup_1 : ndup [i] = true := rfl
theorem backE_n {sl : List Sl} : backE e [] sl = e := by cases sl <;> rfl
theorem backE_i {hs : List Hd} {s : Sl} {sl : List Sl} : backE e (.im d :: hs) (s :: sl) = backE e hs sl := rfl
theorem backE_o {hs : List Hd} {b : Bool} {sl : List Sl} : backE e (.ow i :: hs) (.ow b d :: sl) = backE (putOw e i d) hs sl := rfl
theorem tCons_eq {g : FG} {u : FGs} {ds : List D} : TL.tCons g u (d :: ds) e = (g d e).bind (u ds) := rfl
theorem gAdd_lu {xs ys : List D} : gAdd (.lst xs) (.lst ys) = if xs.length + ys.length ≤ 1000000 then some (.lst (xs ++ ys)) else none := rfl
theorem gAdd_tu {xs ys : List D} : gAdd (.tup xs) (.tup ys) = if xs.length + ys.length ≤ 1000000 then some (.tup (xs ++ ys)) else none := rfl
theorem gAdd_su {xs ys : Str} : gAdd (.str xs) (.str ys) = if xs.length + ys.length ≤ 1000000 then some (.str (xs ++ ys)) else none := rfl
theorem gCat_lu {xs ys : List D} : gCat (.lst xs) (.lst ys) = if xs.length + ys.length ≤ 1000000 then some (.lst (xs ++ ys)) else none := rfl
theorem tTu {u : FGs} {n : Nat} {ds : List D} : tT u n (.tup ds) e = if ds.length = n then u ds e else none := rfl
theorem rg1u {n : Int} : rg1 (.int n) = if bnd n = true then some (rgD 0 n.toNat) else none := rfl
theorem rg2u {m n : Int} : rg2 (.int m) (.int n) = if bnd m = true ∧ bnd n = true then some (rgD m (n - m).toNat) else none := rfl
theorem gLRu {n : Int} : gLR (.int n) = if 0 ≤ n ∧ n ≤ 1000000 then some (.lst (rgD 0 n.toNat)) else none := rfl
theorem gRepu {n : Int} {ds : List D} : gRep (.lst ds) (.int n) = if -1000000 ≤ n ∧ n ≤ 1000000 ∧ ds.length * n.toNat ≤ 1000000 then some (.lst (List.replicate n.toNat ds).flatten) else none := rfl
theorem mmAppendu {ds : List D} : mmAppend ds [d] = if ds.length < 1000000 then some (.non, ds ++ [d]) else none := rfl
theorem setM_nil {ms : List Mv} : setM e [] ms = e := by cases ms <;> rfl
theorem setM_im {is : List Nat} {ms : List Mv} : setM e (i :: is) (.im d :: ms) = setM (e.set i (.im d)) is ms := rfl
theorem setM_fr {is : List Nat} {ms : List Mv} : setM e (i :: is) (.fr d :: ms) = setM (e.set i (.ow false d)) is ms := rfl
theorem owSl0 {b : Bool} {s : Ev} : owSl (.ow b d :: s) 0 = some (b, d) := rfl
theorem owSl1 {t : Sl} {s : Ev} : owSl (t :: s) (i + 1) = owSl s i := rfl
theorem tNil_eq : TL.tNil [] e = some e := rfl
theorem enOfD_l {xs : List D} : enOfD (.lst xs) = some (enD xs) := rfl
theorem enOfD_t {xs : List D} : enOfD (.tup xs) = some (enD xs) := rfl
/-! calls -/
def Fr.re (r : Fr) (hs : List Hd) (e : Ev) : Re D := match r with
  | .rt d sl' => .ok d (backE e hs sl')
  | .xc x sl' => .xc x (backE e hs sl')
  | _ => .bad
def Fr.reO (r : Fr) (hs : List Hd) (e : Ev) : Re D := match r with
  | .ro d sl' => .ok d (backE e hs sl')
  | .xc x sl' => .xc x (backE e hs sl')
  | _ => .bad
theorem re_rt {sl : List Sl} {hs : List Hd} : (Fr.rt d sl).re hs e = .ok d (backE e hs sl) := rfl
theorem re_xc {sl : List Sl} {hs : List Hd} : (Fr.xc x sl).re hs e = .xc x (backE e hs sl) := rfl
theorem reO_ro {sl : List Sl} {hs : List Hd} : (Fr.ro d sl).reO hs e = .ok d (backE e hs sl) := rfl
theorem reO_xc {sl : List Sl} {hs : List Hd} : (Fr.xc x sl).reO hs e = .xc x (backE e hs sl) := rfl
theorem callF_eq {F : Fn} {hs : List Hd} : callF F hs e = if ndup (ows hs) = true then (match slsOf e hs with
    | some sl => (F sl).re hs e
    | none => .bad) else .bad := by
  unfold callF Fr.re
  split
  · cases slsOf e hs with
    | none => rfl
    | some sl => cases F sl <;> rfl
  · rfl
theorem callO_eq {F : Fn} {hs : List Hd} : callO F hs e = if ndup (ows hs) = true then (match slsOf e hs with
    | some sl => (F sl).reO hs e
    | none => .bad) else .bad := by
  unfold callO Fr.reO
  split
  · cases slsOf e hs with
    | none => rfl
    | some sl => cases F sl <;> rfl
  · rfl
def Fr.mk (r : Fr) (hs : List Hd) (e : Ev) : Re D := match r with
  | .rt .non (.ow _ o :: sl') => .ok o (backE e hs sl')
  | .xc x (.ow _ _ :: sl') => .xc x (backE e hs sl')
  | _ => .bad
theorem mk_rt {b : Bool} {o : D} {sl : List Sl} {hs : List Hd} : (Fr.rt .non (.ow b o :: sl)).mk hs e = .ok o (backE e hs sl) := rfl
theorem mk_xc {b : Bool} {o : D} {sl : List Sl} {hs : List Hd} : (Fr.xc x (.ow b o :: sl)).mk hs e = .xc x (backE e hs sl) := rfl
theorem makeF_eq {c : Str} {F : Fn} {hs : List Hd} : makeF c F hs e = if ndup (ows hs) = true then (match slsOf e hs with
    | some sl => (F (.ow true (.ins c [] []) :: sl)).mk hs e
    | none => .bad) else .bad := by
  unfold makeF Fr.mk
  rfl
theorem f1_eq {g : D → Option D} {fa : FO} : f1 g fa e = (fa e).bd fun h e1 => match hv e1 h with | some d => ol (g d) e1 | none => .bad := rfl
theorem divC_of {i j : Int} (h0 : 0 < j) (h : j < 2 ^ 200) : divC i j = true := by
  unfold divC
  rw [decide_eq_true h0, Bool.true_and]
  refine decide_eq_true ?_
  have hj : j.natAbs ≠ 0 := by omega
  have h2 : j.natAbs < 2 ^ 200 := by
    have : (j.natAbs : Int) < ((2 ^ 200 : Nat) : Int) := by
      rw [Int.natAbs_of_nonneg (by omega)]
      exact_mod_cast h
    exact_mod_cast this
  have := (Nat.log2_lt hj).mpr h2
  omega
theorem mulC_l {i j : Int} (h : -(2 ^ 64) < i ∧ i < 2 ^ 64) : mulC i j = true := by
  unfold mulC
  rw [decide_eq_true h, Bool.true_or]
theorem mulC_r {i j : Int} (h : -(2 ^ 64) < j ∧ j < 2 ^ 64) : mulC i j = true := by
  unfold mulC
  rw [decide_eq_true h, Bool.true_or, Bool.or_true]
theorem atI_nat {α : Type} {ds : List α} {n : Nat} {d : α} (h : ds[n]? = some d) : atI ds (n : Int) = some d := atI_of rfl h
end
/-! loops -/
section
variable {g : FG} {b : FS} {d : D} {ds : List D} {e e1 e2 : Ev}
theorem forL_nil : forL g b [] e = .nx e := rfl
def Sr.lp (r : Sr) (k : FS) : Sr := match r with
  | .nx e2 => k e2
  | .ct e2 => k e2
  | .bk e2 => .nx e2
  | r => r
theorem forL_step : forL g b (d :: ds) e = match g d e with
    | none => .bad
    | some e1 => (b e1).lp (forL g b ds) := by
  show (match g d e with | none => Sr.bad | some e1 => match b e1 with | .nx e2 => forL g b ds e2 | .ct e2 => forL g b ds e2 | .bk e2 => .nx e2 | r => r) = _
  cases g d e with
  | none => rfl
  | some e1 => cases b e1 <;> rfl
theorem lp_nx {k : FS} : (Sr.nx e).lp k = k e := rfl
theorem lp_xc {x : Xn} {k : FS} : (Sr.xc x e).lp k = .xc x e := rfl
/-- a loop whose turns all go on: st i is the state ahead of turn i -/
theorem forL_inv (st : Nat → Ev) (h : ∀ i (hi : i < ds.length), ∃ e1, g ds[i] (st i) = some e1 ∧ (b e1 = .nx (st (i + 1)) ∨ b e1 = .ct (st (i + 1)))) : forL g b ds (st 0) = .nx (st ds.length) := by
  induction ds generalizing st with
  | nil => rfl
  | cons d ds ih =>
    obtain ⟨e1, h1, h2⟩ := h 0 (Nat.zero_lt_succ _)
    rw [forL_step]
    have h1' : g d (st 0) = some e1 := h1
    rw [h1']
    have hr : (b e1).lp (forL g b ds) = forL g b ds (st 1) := by
      rcases h2 with h2 | h2 <;> rw [h2] <;> rfl
    dsimp only
    rw [hr]
    exact ih (fun i => st (i + 1)) fun i hi => h (i + 1) (Nat.succ_lt_succ hi)
theorem forL_go (st : Nat → Ev) (h0 : st 0 = e) (h : ∀ i (hi : i < ds.length), ∃ e1, g ds[i] (st i) = some e1 ∧ (b e1 = .nx (st (i + 1)) ∨ b e1 = .ct (st (i + 1)))) : forL g b ds e = .nx (st ds.length) := by
  rw [← h0]
  exact forL_inv st h
/-- over mapped items, with an invariant -/
theorem forL_rel {α : Type} {f : α → D} {xs : List α} (I : Nat → Ev → Prop) (h0 : I 0 e) (h : ∀ i (hi : i < xs.length) e, I i e → ∃ e1 e2, g (f xs[i]) e = some e1 ∧ (b e1 = .nx e2 ∨ b e1 = .ct e2) ∧ I (i + 1) e2) : ∃ e', forL g b (xs.map f) e = .nx e' ∧ I xs.length e' := by
  induction xs generalizing I e with
  | nil => exact ⟨e, rfl, h0⟩
  | cons x xs ih =>
    obtain ⟨e1, e2, h1, h2, h3⟩ := h 0 (Nat.zero_lt_succ _) e h0
    have h1' : g (f x) e = some e1 := h1
    obtain ⟨e', q1, q2⟩ := ih (fun i => I (i + 1)) h3 fun i hi e he => h (i + 1) (Nat.succ_lt_succ hi) e he
    refine ⟨e', ?_, q2⟩
    rw [List.map_cons, forL_step, h1']
    dsimp only
    have hr' : (b e1).lp (forL g b (xs.map f)) = forL g b (xs.map f) e2 := by
      rcases h2 with h2 | h2 <;> rw [h2] <;> rfl
    rw [hr']
    exact q1
end
/-! comprehensions -/
section
variable {tu : Bool} {is : List Nat} {ft : FT} {fe : FE} {e : Ev}
theorem lcL_map {α : Type} {f : α → D} {xs : List α} (vs : α → List D) (p : α → Bool) (y : α → D) (hn : nrs e is = true) (hno : noE e is = e)
    (h1 : ∀ x ∈ xs, tOne tu 0 (f x) = some (vs x) ∧ (vs x).length = is.length ∧ nrs (setE e is (vs x)) is = true ∧ noE (setE e is (vs x)) is = e)
    (h2 : ∀ x ∈ xs, ft (setE e is (vs x)) = .ok (p x) (setE e is (vs x))) (h3 : ∀ x ∈ xs, p x = true → fe (setE e is (vs x)) = .ok (y x) (setE e is (vs x))) :
    lcL tu is ft fe (xs.map f) e = .ok ((xs.filter p).map y) e := by
  induction xs with
  | nil => rfl
  | cons x xs ih =>
    have ih := ih (fun x hx => h1 x (List.mem_cons_of_mem _ hx)) (fun x hx => h2 x (List.mem_cons_of_mem _ hx)) (fun x hx => h3 x (List.mem_cons_of_mem _ hx))
    obtain ⟨a1, a2, a3, a4⟩ := h1 x List.mem_cons_self
    rw [List.map_cons]
    unfold lcL
    rw [a1]
    dsimp only
    rw [if_pos ⟨hn, a2⟩, h2 x List.mem_cons_self]
    dsimp only
    cases hp : p x with
    | false =>
      rw [if_neg Bool.false_ne_true, if_pos a3, a4, ih, List.filter_cons_of_neg (by rw [hp]; exact Bool.false_ne_true)]
    | true =>
      rw [if_pos rfl, h3 x List.mem_cons_self hp]
      dsimp only
      rw [if_pos a3, a4, ih, List.filter_cons_of_pos hp]
      rfl
theorem rgD0 (n : Nat) : rgD 0 n = (List.range n).map fun i => D.int (i : Nat) := by
  unfold rgD
  refine List.map_congr_left fun i _ => ?_
  rw [Int.zero_add]
theorem enD_map {α : Type} {f : α → D} {xs : List α} : enD (xs.map f) = xs.zipIdx.map fun q => .tup [.int (q.2 : Nat), f q.1] := by
  refine List.ext_getElem? fun i => ?_
  rw [enD_get, List.getElem?_map, List.getElem?_map, List.getElem?_zipIdx]
  cases xs[i]? with
  | none => rfl
  | some x =>
    simp
end
/-! own compares, dict displays -/
section
variable {T : D → D → Option Bool} {e : Ev} {d d' : D} {i j : Nat} {ne : Bool} {b : Bool} {fa fb : FO}
def qRe (ne : Bool) (o : Option Bool) (e : Ev) : Re D := match o with
  | some b => .ok (.bl (ne != b)) e
  | none => .bad
theorem f2q_eq : f2q ne T fa fb = fun env => (fa env).bd fun h1 e1 => (fb e1).bd fun h2 e2 => qRe ne (qT T e2 h1 h2) e2 := rfl
theorem qT_ii : qT T e (.im d) (.im d') = T d d' := rfl
theorem qT_oi : qT T e (.ow i) (.im d') = (hv e (.ow i)).bind fun d1 => if isIns d1 = true then none else T d1 d' := rfl
theorem qT_io : qT T e (.im d) (.ow j) = (hv e (.ow j)).bind fun d2 => if isIns d = true then none else T d d2 := rfl
theorem qT_oo : qT T e (.ow i) (.ow j) = (hv e (.ow i)).bind fun d1 => (hv e (.ow j)).bind fun d2 => if isIns d1 = true then none else T d1 d2 := rfl
theorem isIns_l {ds : List D} : isIns (.lst ds) = false := rfl
theorem isIns_t {ds : List D} : isIns (.tup ds) = false := rfl
theorem isIns_i {c : Str} {ns : List Str} {ds : List D} : isIns (.ins c ns ds) = true := rfl
theorem qRe_tt : qRe true (some true) e = .ok (.bl false) e := rfl
theorem qRe_tf : qRe true (some false) e = .ok (.bl true) e := rfl
theorem qRe_ft : qRe false (some true) e = .ok (.bl true) e := rfl
theorem qRe_ff : qRe false (some false) e = .ok (.bl false) e := rfl
theorem fDs_n : fDs [] = fun env => .ok [] env := by
  funext env
  rfl
theorem fDs_c {k : Key} {f : FE} {r : List (Key × FE)} : fDs ((k, f) :: r) = fun env => (f env).bd fun d e => (fDs r e).bd fun l e' => .ok (d :: l) e' := by
  funext env
  rfl
theorem gDGet_s {ks : List Key} {ds : List D} {s : Str} : gDGet (.dic ks ds) (.str s) = dval ks ds (.inr s) := rfl
theorem gDGet_n {ks : List Key} {ds : List D} {s : Int} : gDGet (.dic ks ds) (.int s) = dval ks ds (.inl s) := rfl
/-- the same on both sides -/
theorem cmpS_same {CL : List Str} {T : D → D → Option Bool} : ∀ {ds : List D}, (∀ d ∈ ds, T d d = some true) → cmpS (idn CL T) ds ds = some true
  | [], _ => rfl
  | d :: ds, h => by
    have h1 : idn CL T d d = some true := by
      unfold idn
      rw [h d List.mem_cons_self]
    unfold cmpS
    dsimp only
    rw [h1]
    exact cmpS_same fun d' hd => h d' (List.mem_cons_of_mem _ hd)
theorem eqT_flat {CL : List Str} {E : D → D → Option Bool} {n : Nat} {d e : D} (h : okD 16 d = true) (h' : okD 16 e = true) : eqT CL E (n + 1) d e = some (eqD d e) := by
  unfold eqT
  rw [h, h']
  rfl
theorem eqT_tup {CL : List Str} {E : D → D → Option Bool} {n : Nat} {ds : List D} (h : ∀ d ∈ ds, eqT CL E n d d = some true) : eqT CL E (n + 1) (.tup ds) (.tup ds) = some true := by
  unfold eqT
  split
  · rename_i z
    rw [eqD_refl (Bool.and_eq_true_iff.mp z).1]
  · exact cmpS_same h
theorem okD_ins {n : Nat} {c : Str} {ns : List Str} {ds : List D} : okD n (.ins c ns ds) = false := by cases n <;> rfl
theorem eqT_ins {CL : List Str} {E : D → D → Option Bool} {n : Nat} {c : Str} {ns : List Str} {ds : List D} {e : D} : eqT CL E (n + 1) (.ins c ns ds) e = E (.ins c ns ds) e := by
  unfold eqT
  rw [okD_ins]
  rfl
theorem ownE_of {tb : List CI} {cs : List Str} {F : Fn} {c : Str} {ns : List Str} {ds : List D} {e : D} {b : Bool} {sl : List Sl} (hc : cs.contains c = true) (ht : (tagOf tb e).isSome = true) (h : F [.im (.ins c ns ds), .im e] = .rt (.bl b) sl) : ownE tb cs F (.ins c ns ds) e = some b := by
  unfold ownE
  dsimp only
  rw [hc, ht, h]
  rfl
end
section
variable {i j : Bool}
theorem gIsB_b : gIsB (.bl i) (.bl j) = some (.bl (decide (i = j))) := rfl
theorem gNotB_b : gNotB (.bl i) (.bl j) = some (.bl (!decide (i = j))) := rfl
end
section
variable {i j c : Int}
theorem gLR3_2 : gLR3 [.int i, .int j] = if rgB i j 1 = true then some (.lst ((List.range (rgN i j 1)).map fun k => D.int (i + ((k : Nat) : Int) * 1))) else none := rfl
theorem gLR3_3 : gLR3 [.int i, .int j, .int c] = if rgB i j c = true then some (.lst ((List.range (rgN i j c)).map fun k => D.int (i + ((k : Nat) : Int) * c))) else none := rfl
end
section
variable {d : D} {s : Ev}
theorem imAt0o {b : Bool} : imAt (.ow b d :: s) 0 = none := rfl
theorem imAt0n : imAt (.no :: s) 0 = none := rfl
theorem prm_f {α : Type} {l : List α} : prm false l = l := rfl
theorem prm_t {α : Type} {a b : α} : prm true [a, b] = [b, a] := rfl
end
end TL

namespace TL
open PySem PySem.Spec L2
def RD1 := (And.intro @bd_ok (And.intro @bd_xc (And.intro @bd_bad (And.intro @st_ok (And.intro @st_xc (And.intro @st_bad (And.intro @sq_nx (And.intro @sq_rt (And.intro @sq_ro (And.intro @sq_bk (And.intro @sq_ct (And.intro @sq_xc (And.intro @sq_bad (And.intro @ol_some (And.intro @ol_none (And.intro @ofG_some (And.intro @ofG_none (And.intro @hv_im (And.intro @hv_ow0 (And.intro @hv_ow1 (And.intro @imAt0 (And.intro @imAt1 (And.intro @owAt0 (And.intro @owAt1 (@lowAt0)))))))))))))))))))))))))
def RD2 := (And.intro @lowAt1 (And.intro @nr0i (And.intro @nr0n (And.intro @nr0o (And.intro @nr1 (And.intro @putOw0 (And.intro @putOw1 (And.intro @noE_nil (And.intro @noE_cons (And.intro @nrs_nil (And.intro @nrs_cons (And.intro @setE_nil (And.intro @setE_cons (And.intro @tOne_f (And.intro @tOne_t (And.intro @tOne_l (And.intro @fgu_nx (And.intro @fgu_rt (And.intro @fgu_xc (And.intro @fgu_ct (And.intro @fgu_bk (And.intro @fgu_bad (And.intro @fr_nx (And.intro @fr_rt (@fr_ro)))))))))))))))))))))))))
def RD3 := (And.intro @fr_xc (And.intro @outs_n (And.intro @outs_o (And.intro @outs_i (And.intro @gAdd_i (And.intro @gSub_i (And.intro @gLt_i (And.intro @gLe_i (And.intro @gGt_i (And.intro @gGe_i (And.intro @gModu (And.intro @gMulu (And.intro @gDivu (And.intro @gPowu (And.intro @gShlu (And.intro @gAdd_lu (And.intro @gAdd_tu (And.intro @gAdd_su (And.intro @gCat_lu (And.intro @rg1u (And.intro @rg2u (And.intro @gLRu (And.intro @gRepu (And.intro @mmAppendu (@gNeg_i)))))))))))))))))))))))))
def RD4 := (And.intro @gAbs_i (And.intro @gInt_i (And.intro @gInt_b (And.intro @blOf_bl (And.intro @seqOf_l (And.intro @seqOf_t (And.intro @gLen_l (And.intro @gLen_t (And.intro @gListOf_l (And.intro @gListOf_t (And.intro @gTupOf_l (And.intro @gTupOf_t (And.intro @gIx_l (And.intro @gIx_t (And.intro @g1_1 (And.intro @g2_2 (And.intro @ims_n (And.intro @ims_c (And.intro @hvs_n (And.intro @hvs_c (And.intro @slsOf_n (And.intro @slsOf_ci (And.intro @slsOf_co (And.intro @ows_n (@ows_i)))))))))))))))))))))))))
def RD5 := (And.intro @ows_o (And.intro @ndup_n (And.intro @ndup_1 (And.intro @backE_n (And.intro @backE_i (And.intro @backE_o (And.intro @tTu (And.intro @tCons_eq (And.intro @tNil_eq (And.intro @enOfD_l (And.intro @enOfD_t (And.intro @callF_eq (And.intro @callO_eq (And.intro @re_rt (And.intro @re_xc (And.intro @reO_ro (And.intro @reO_xc (And.intro @mk_rt (And.intro @mk_xc (And.intro @f1_eq (And.intro @lcEndu (And.intro @Bool.true_and (And.intro @Bool.and_true (And.intro @Bool.not_true (@Bool.not_false)))))))))))))))))))))))))
def RD6 := (And.intro @and_self (And.intro @and_true (And.intro @true_and (And.intro @Bool.false_eq_true (And.intro @Bool.true_or (And.intro @Bool.or_true (And.intro @Bool.false_or (And.intro @Bool.or_false (And.intro @Bool.false_and (And.intro @Bool.and_false (And.intro @setM_nil (And.intro @setM_im (And.intro @setM_fr (And.intro @owSl0 (And.intro @owSl1 (And.intro @f2q_eq (And.intro @qT_ii (And.intro @qT_oi (And.intro @qT_io (And.intro @qT_oo (And.intro @isIns_l (And.intro @isIns_t (And.intro @isIns_i (And.intro @qRe_tt (@qRe_tf)))))))))))))))))))))))))
def RD7 := (And.intro @qRe_ft (And.intro @qRe_ff (And.intro @fDs_n (And.intro @fDs_c (And.intro @gDGet_s (And.intro @gDGet_n (And.intro @gIsB_b (And.intro @gNotB_b (And.intro @gLR3_2 (And.intro @gLR3_3 (And.intro @imAt0o (And.intro @imAt0n (And.intro @prm_f (And.intro @prm_t (And.intro @TL.cSeq.eq_1 (And.intro @TL.cIf.eq_1 (And.intro @TL.cRet.eq_1 (And.intro @TL.cRetF.eq_1 (And.intro @TL.cRetO.eq_1 (And.intro @TL.cRetN.eq_1 (And.intro @TL.cAsg.eq_1 (And.intro @TL.cOwn.eq_1 (And.intro @TL.cPar.eq_1 (And.intro @TL.cParF.eq_1 (@TL.cFrz.eq_1)))))))))))))))))))))))))
def RD8 := (And.intro @TL.cDrop.eq_1 (And.intro @TL.cNext.eq_1 (And.intro @TL.cBreak.eq_1 (And.intro @TL.cCont.eq_1 (And.intro @TL.cSetIx.eq_1 (And.intro @TL.cFld.eq_1 (And.intro @TL.cDPut.eq_1 (And.intro @TL.cFor.eq_1 (And.intro @TL.cKil.eq_1 (And.intro @TL.cPre.eq_1 (And.intro @TL.cRaise.eq_1 (And.intro @TL.cRaise0.eq_1 (And.intro @TL.cNever.eq_1 (And.intro @TL.gSeq.eq_1 (And.intro @TL.tN.eq_1 (And.intro @TL.setO.eq_1 (And.intro @TL.oi.eq_1 (And.intro @TL.fVar.eq_1 (And.intro @TL.foVar.eq_1 (And.intro @TL.fC.eq_1 (And.intro @TL.f2.eq_1 (And.intro @TL.fN.eq_1 (And.intro @TL.fB.eq_1 (And.intro @TL.fAnd.eq_1 (@TL.fOr.eq_1)))))))))))))))))))))))))
def RD9 := (And.intro @TL.fNot.eq_1 (And.intro @TL.gAnd.eq_1 (And.intro @TL.gOr.eq_1 (And.intro @TL.gNot.eq_1 (And.intro @TL.fIf.eq_1 (And.intro @TL.fNil.eq_1 (And.intro @TL.fCons.eq_1 (And.intro @TL.fSeq.eq_1 (And.intro @TL.fLst.eq_1 (And.intro @TL.fTup.eq_1 (And.intro @TL.fLR.eq_1 (And.intro @TL.fRep.eq_1 (And.intro @TL.fSl.eq_1 (And.intro @TL.fpNone.eq_1 (And.intro @TL.fpSome.eq_1 (And.intro @TL.fiBy.eq_1 (And.intro @TL.fiR2.eq_1 (And.intro @TL.fCall.eq_1 (And.intro @TL.fCallO.eq_1 (And.intro @TL.fMeth.eq_1 (And.intro @TL.fMake.eq_1 (And.intro @TL.fLc.eq_1 (And.intro @TL.fDic0.eq_1 (And.intro @TL.foGet.eq_1 (@TL.foGet2.eq_1)))))))))))))))))))))))))
def RD10 := (And.intro @TL.fOm.eq_1 (And.intro @TL.fXf.eq_1 (And.intro @TL.fChain.eq_1 (And.intro @TL.fYes.eq_1 (And.intro @TL.gIsN.eq_1 (And.intro @TL.gNotN.eq_1 (And.intro @TL.isNon.eq_1 (And.intro @TL.fnF.eq_1 (And.intro @TL.cParM.eq_1 (And.intro @TL.mNil.eq_1 (And.intro @TL.mIm.eq_1 (And.intro @TL.mFr.eq_1 (And.intro @TL.fLcO.eq_1 (And.intro @TL.fDisp.eq_1 (And.intro @TL.foAny.eq_1 (And.intro @TL.fAlt.eq_1 (And.intro @TL.fCallK.eq_1 (And.intro @TL.fSlT.eq_1 (And.intro @TL.cAsg3.eq_1 (And.intro @TL.fRev.eq_1 (@TL.fCallKO.eq_1)))))))))))))))))))))
end TL

namespace Law
noncomputable section
open PySem PySem.Spec L2 TL
def N__law_rng : List Str := ["_law_cell_here"]
def b__law_rng : FS := (cRetF (fLst (fCons (oi (fN (g1' gAbs) (fCons (oi (fVar 0)) fNil))) (fCons (oi (f2 gMod (oi (fN (g1' gInt) (fCons (oi (fVar 0)) fNil))) (oi (fC (.int 2147483629))))) (fCons (oi (fC (.int 0))) fNil)))))
def F__law_rng : Fn := fnF 1 1 b__law_rng
def N__law_cell : List Str := ["_law_script", "_law_index"]
def b__law_cell : FS := (cSeq (cIf (fB (f2 gLt (oi (fVar 1)) (oi (fN (g1' gLen) (fCons (oi (fVar 0)) fNil)))))
     (cRet (f2 gIx (oi (fVar 0)) (oi (fVar 1))))
     cNext)
    (cRet (fC (.int 0))))
def F__law_cell : Fn := fnF 2 2 b__law_cell
def N__law_draw : List Str := ["_law_rng_here", "_law_limit", "_law_digit", "_law_mixed"]
def b__law_draw : FS := (cSeq (cIf (fB (f2 gGe (oi (f2 gIx (foVar 0) (oi (fC (.int 0))))) (oi (f2 gPow (oi (fC (.int 10))) (oi (fC (.int 18)))))))
     (cSeq (cAsg (f2 gMod (oi (fN (g1' gInt) (fCons (oi (f2 gIx (foVar 0) (oi (fC (.int 0))))) fNil))) (oi (fVar 1))) (tN 2))
    (cSeq (cSetIx 0 (fC (.int 0)) (f2 gDiv (oi (f2 gIx (foVar 0) (oi (fC (.int 0))))) (oi (fVar 1))))
    (cRet (fVar 2))))
     cNext)
    (cSeq (cSetIx 0 (fC (.int 2)) (f2 gAdd (oi (f2 gIx (foVar 0) (oi (fC (.int 2))))) (oi (fC (.int 1)))))
    (cSeq (cAsg (f2 gMod (oi (fN (g1' gInt) (fCons (oi (f2 gMul (oi (f2 gAdd (oi (f2 gAdd (oi (f2 gIx (foVar 0) (oi (fC (.int 1))))) (oi (f2 gMul (oi (fC (.int 7919))) (oi (f2 gIx (foVar 0) (oi (fC (.int 2))))))))) (oi (fC (.int 1))))) (oi (fC (.int 48271))))) fNil))) (oi (fC (.int 2147483647)))) (tN 3))
    (cSeq (cAsg (f2 gMod (oi (fN (g1' gInt) (fCons (oi (f2 gMul (oi (fVar 3)) (oi (f2 gAdd (oi (f2 gDiv (oi (fVar 3)) (oi (fC (.int 1013))))) (oi (fC (.int 69621))))))) fNil))) (oi (fC (.int 2147483587)))) (tN 3))
    (cRet (f2 gMod (oi (fN (g1' gInt) (fCons (oi (f2 gMod (oi (fN (g1' gInt) (fCons (oi (f2 gAdd (oi (f2 gDiv (oi (fVar 3)) (oi (fC (.int 7))))) (oi (f2 gMul (oi (f2 gMod (oi (fN (g1' gInt) (fCons (oi (fVar 3)) fNil))) (oi (fC (.int 7919))))) (oi (fC (.int 40692))))))) fNil))) (oi (fC (.int 2147483399))))) fNil))) (oi (fVar 1))))))))
def F__law_draw : Fn := fnF 4 2 b__law_draw
def N__law_pick : List Str := ["_law_rng_here", "_law_items"]
def b__law_pick : FS := (cRet (f2 gIx (oi (fVar 1)) (oi (fCall F__law_draw (fCons (foVar 0) (fCons (oi (fN (g1' gLen) (fCons (oi (fVar 1)) fNil))) fNil))))))
def F__law_pick : Fn := fnF 2 2 b__law_pick
def N_Member_facts : List Str := ["self"]
def b_Member_facts : FS := (cRet (fTup (fCons (oi (f1 (gFld tb "q") (oi (fVar 0)))) fNil)))
def F_Member_facts : Fn := fnF 1 1 b_Member_facts
def N_Delay_facts : List Str := ["self"]
def b_Delay_facts : FS := (cRet (fTup (fCons (oi (f1 (gFld tb "d") (oi (fVar 0)))) fNil)))
def F_Delay_facts : Fn := fnF 1 1 b_Delay_facts
def N_Last_class_name : List Str := ["self"]
def b_Last_class_name : FS := (cRet (fC (.str "last")))
def F_Last_class_name : Fn := fnF 1 1 b_Last_class_name
def N_First_class_name : List Str := ["self"]
def b_First_class_name : FS := (cRet (fC (.str "first")))
def F_First_class_name : Fn := fnF 1 1 b_First_class_name
def N_Limit_class_name : List Str := ["self"]
def b_Limit_class_name : FS := (cRet (fC (.str "limit")))
def F_Limit_class_name : Fn := fnF 1 1 b_Limit_class_name
def N_Delay_class_name : List Str := ["self"]
def b_Delay_class_name : FS := (cRet (fC (.str "delay")))
def F_Delay_class_name : Fn := fnF 1 1 b_Delay_class_name
def N_Thing___eq___0 : List Str := ["self", "other"]
def b_Thing___eq___0 : FS := (cSeq (cIf (fOr (fNot (fB (f1 (gIsi tb [(.own "Thing")]) (oi (fVar 1))))) (fB (f2 gNe (oi (fMeth "class_name" [("Last", F_Last_class_name), ("First", F_First_class_name), ("Limit", F_Limit_class_name), ("Delay", F_Delay_class_name)] (oi (fVar 0)) fNil)) (oi (fMeth "class_name" [("Last", F_Last_class_name), ("First", F_First_class_name), ("Limit", F_Limit_class_name), ("Delay", F_Delay_class_name)] (oi (fVar 1)) fNil)))))
     (cRet (fC (.bl false)))
     cNext)
    (cRet (f2 gEq (oi (fMeth "facts" [("Last", F_Member_facts), ("First", F_Member_facts), ("Limit", F_Member_facts), ("Delay", F_Delay_facts)] (oi (fVar 0)) fNil)) (oi (fMeth "facts" [("Last", F_Member_facts), ("First", F_Member_facts), ("Limit", F_Member_facts), ("Delay", F_Delay_facts)] (oi (fVar 1)) fNil)))))
def F_Thing___eq___0 : Fn := fnF 2 2 b_Thing___eq___0
def N_is_number : List Str := ["thing"]
def b_is_number : FS := (cRet (gAnd (f1 (gIsi tb [(.ty "int")]) (oi (fVar 0))) (gNot (f1 (gIsi tb [(.ty "bool")]) (oi (fVar 0))))))
def F_is_number : Fn := fnF 1 1 b_is_number
def N_Member___init__ : List Str := ["self", "q"]
def b_Member___init__ : FS := (cSeq (cFld tb 0 "q" (fVar 1))
    (cIf (fOr (fNot (fB (fCall F_is_number (fCons (oi (fVar 1)) fNil)))) (fB (f2 gLt (oi (fVar 1)) (oi (fC (.int 1))))))
     (cRaise "BadMember" "what" (fC (.str "q")))
     cNext))
def F_Member___init__ : Fn := fnF 2 2 b_Member___init__
def N_Delay___init__ : List Str := ["self", "d"]
def b_Delay___init__ : FS := (cSeq (cFld tb 0 "d" (fVar 1))
    (cIf (fOr (fNot (fB (fCall F_is_number (fCons (oi (fVar 1)) fNil)))) (fB (f2 gLt (oi (fVar 1)) (oi (fC (.int 0))))))
     (cRaise "BadMember" "what" (fC (.str "d")))
     cNext))
def F_Delay___init__ : Fn := fnF 2 2 b_Delay___init__
def N__law_step : List Str := ["_law_rng_here", "_law_names", "_law_left", "_law_name", "_law_quiet"]
def b__law_step : FS := (cSeq (cAsg (fLc (fiBy seqOf (fLst (fCons (oi (fC (.str "a"))) (fCons (oi (fC (.str "b"))) (fCons (oi (fC (.str "zz"))) (fCons (oi (fC (.str "input"))) (fCons (oi (fC (.str "abcdefgh"))) (fCons (oi (fC (.str "last"))) (fCons (oi (fC (.str "x"))) fNil))))))))) false [3] (fB (fInL true (idn eq0 (eqO tb eq0 F_Thing___eq___0)) (oi (fVar 3)) (foAny 1))) (fVar 3)) (tN 2))
    (cSeq (cIf (fAnd (fB (f2 gNe (oi (fVar 2)) (oi (fLst fNil)))) (fB (f2 gEq (oi (fCall F__law_draw (fCons (foVar 0) (fCons (oi (fC (.int 2))) fNil)))) (oi (fC (.int 0))))))
     (cRet (fCall F__law_pick (fCons (foVar 0) (fCons (oi (fVar 2)) fNil))))
     cNext)
    (cSeq (cAsg (fCall F__law_pick (fCons (foVar 0) (fCons (oi (fLst (fCons (oi (fC (.int 1))) (fCons (oi (fC (.int 2))) (fCons (oi (fC (.int 7))) (fCons (oi (f2 gPow (oi (fC (.int 10))) (oi (fC (.int 30))))) fNil)))))) fNil))) (tN 4))
    (cRet (fCall F__law_pick (fCons (foVar 0) (fCons (oi (fLst (fCons (oi (fMake "Last" F_Member___init__ (fCons (oi (fVar 4)) fNil))) (fCons (oi (fMake "First" F_Member___init__ (fCons (oi (fVar 4)) fNil))) (fCons (oi (fMake "Limit" F_Member___init__ (fCons (oi (fVar 4)) fNil))) (fCons (oi (fMake "Delay" F_Delay___init__ (fCons (oi (fVar 4)) fNil))) (fCons (oi (fMake "Delay" F_Delay___init__ (fCons (oi (fC (.int 0))) fNil))) fNil))))))) fNil)))))))
def F__law_step : Fn := fnF 5 2 b__law_step
def lp1__law_steps : FS := (cKil [2] (cDrop (oi (fOm mmAppend 1 (fCons (oi (fCall F__law_step (fCons (foVar 0) (fCons (foVar 1) fNil)))) fNil)))))
def N__law_steps : List Str := ["_law_rng_here", "_law_found", "_law_turn"]
def b__law_steps : FS := (cSeq (cOwn (fLst (fCons (oi (fCall F__law_pick (fCons (foVar 0) (fCons (oi (fLst (fCons (oi (fC (.str "a"))) (fCons (oi (fC (.str "q"))) (fCons (oi (fC (.str "names"))) fNil))))) fNil)))) fNil)) 1)
    (cSeq (cFor (fiBy rg1 (fCall F__law_draw (fCons (foVar 0) (fCons (oi (fC (.int 8))) fNil)))) (tN 2)
     lp1__law_steps)
    (cRetO 1)))
def F__law_steps : Fn := fnF 3 1 b__law_steps
def N_is_name : List Str := ["thing", "letter"]
def b_is_name : FS := (cSeq (cIf (fOr (fNot (fB (f1 (gIsi tb [(.ty "str")]) (oi (fVar 0))))) (fNot (fB (fChain gLe gLe (oi (fC (.int 1))) (oi (fN (g1' gLenS) (fCons (oi (fVar 0)) fNil))) (oi (fC (.int 8)))))))
     (cRet (fC (.bl false)))
     cNext)
    (cRet (fN (g1' gAll) (fCons (oi (fLc (fiBy chOf (fVar 0)) false [1] fYes (f2 gIn (oi (fVar 1)) (oi (fC (.str "abcdefghijklmnopqrstuvwxyz")))))) fNil))))
def F_is_name : Fn := fnF 2 1 b_is_name
def N_is_member : List Str := ["thing"]
def b_is_member : FS := (cRet (f1 (gIsi tb [(.own "Last"), (.own "First"), (.own "Limit"), (.own "Delay")]) (oi (fVar 0))))
def F_is_member : Fn := fnF 1 1 b_is_member
def lp1_Bus___init__ : FS := (cKil [3, 4] (cIf (fAnd (fB (fCall F_is_name (fCons (oi (fVar 4)) fNil))) (fB (f2 gNotIn (oi (fVar 4)) (foVar 2))))
     (cDrop (oi (fOm mmAppend 2 (fCons (oi (fVar 4)) fNil))))
     (cIf (fOr (fB (f2 gEq (oi (fVar 3)) (oi (fC (.int 0))))) (fNot (fB (fCall F_is_member (fCons (oi (fVar 4)) fNil)))))
     (cRaise "BadBus" "index" (fVar 3))
     cNext)))
def N_Bus___init__ : List Str := ["self", "steps", "names", "index", "step"]
def b_Bus___init__ : FS := (cSeq (cIf (fOr (fNot (fB (f1 (gIsi tb [(.ty "list"), (.ty "tuple")]) (foAny 1)))) (fB (f2 gEq (oi (fN (g1' gLen) (fCons (foAny 1) fNil))) (oi (fC (.int 0))))))
     (cRaise "BadBus" "index" (f1 gNeg (oi (fC (.int 1)))))
     cNext)
    (cSeq (cFld tb 0 "steps" (fN (g1' gTupOf) (fCons (foAny 1) fNil)))
    (cSeq (cOwn (fLst fNil) 2)
    (cFor (fiBy enOfD (f1 (gFld tb "steps") (foVar 0))) (tT (tCons (tN 3) (tCons (tN 4) tNil)) 2)
     lp1_Bus___init__))))
def F_Bus___init__ : Fn := fnF 5 2 b_Bus___init__
def N_Bus_facts : List Str := ["self"]
def b_Bus_facts : FS := (cRet (fTup (fCons (oi (f1 (gFld tb "steps") (oi (fVar 0)))) fNil)))
def F_Bus_facts : Fn := fnF 1 1 b_Bus_facts
def N_Bus_class_name : List Str := ["self"]
def b_Bus_class_name : FS := (cRet (fC (.str "bus")))
def F_Bus_class_name : Fn := fnF 1 1 b_Bus_class_name
def N_Thing___eq___1 : List Str := ["self", "other"]
def b_Thing___eq___1 : FS := (cSeq (cIf (fOr (fNot (fB (f1 (gIsi tb [(.own "Thing")]) (oi (fVar 1))))) (fB (f2 gNe (oi (fMeth "class_name" [("Last", F_Last_class_name), ("First", F_First_class_name), ("Limit", F_Limit_class_name), ("Delay", F_Delay_class_name), ("Bus", F_Bus_class_name)] (oi (fVar 0)) fNil)) (oi (fMeth "class_name" [("Last", F_Last_class_name), ("First", F_First_class_name), ("Limit", F_Limit_class_name), ("Delay", F_Delay_class_name), ("Bus", F_Bus_class_name)] (oi (fVar 1)) fNil)))))
     (cRet (fC (.bl false)))
     cNext)
    (cRet (f2q false (eqO tb eq0 F_Thing___eq___0) (oi (fMeth "facts" [("Last", F_Member_facts), ("First", F_Member_facts), ("Limit", F_Member_facts), ("Delay", F_Delay_facts), ("Bus", F_Bus_facts)] (oi (fVar 0)) fNil)) (oi (fMeth "facts" [("Last", F_Member_facts), ("First", F_Member_facts), ("Limit", F_Member_facts), ("Delay", F_Delay_facts), ("Bus", F_Bus_facts)] (oi (fVar 1)) fNil)))))
def F_Thing___eq___1 : Fn := fnF 2 2 b_Thing___eq___1
def N__law_refused : List Str := ["_law_steps_here", "_law_found", "e"]
def b__law_refused : FS := (cSeq (cAsg (fC .non) (tN 1))
    (cSeq (cTryM xt (cDrop (oi (fMake "Bus" F_Bus___init__ (fCons (oi (fVar 0)) fNil))))
     [("BadBus", some 2, fun a1 c1 d1 => (cAsg (fTup (fCons (oi (fC (.str "bus"))) (fCons (oi (fXf xf a1 c1 d1 "index" 2)) fNil))) (tN 1))),
     ("QuietError", none, fun _ _ _ => (cAsg (fC (.str "other")) (tN 1)))])
    (cRet (fVar 1))))
def F__law_refused : Fn := fnF 3 1 b__law_refused
def lp1__law_wrong_right : FS := (cKil [5] (cIf (fB (f2 gNe (oi (fCall F__law_refused (fCons (oi (fVar 5)) fNil))) (oi (fTup (fCons (oi (fC (.str "bus"))) (fCons (oi (fVar 2)) fNil))))))
     (cRet (fC (.bl false)))
     cNext))
def lp2__law_wrong_right : FS := (cKil [5] (cIf (fB (f2 gNe (oi (fCall F__law_refused (fCons (oi (fVar 5)) fNil))) (oi (fTup (fCons (oi (fC (.str "bus"))) (fCons (oi (fN (g1' gLen) (fCons (oi (fVar 1)) fNil))) fNil))))))
     (cRet (fC (.bl false)))
     cNext))
def N__law_wrong_right : List Str := ["_law_rng_here", "_law_steps_here", "_law_at", "_law_strange", "_law_odd", "_law_some", "_law_thing"]
def b__law_wrong_right : FS := (cSeq (cAsg (fCall F__law_draw (fCons (foVar 0) (fCons (oi (f2 gAdd (oi (fN (g1' gLen) (fCons (oi (fVar 1)) fNil))) (oi (fC (.int 1))))) fNil))) (tN 2))
    (cSeq (cAsg (fLst (fCons (oi (fC (.str ""))) (fCons (oi (fC (.str "abcdefghi"))) (fCons (oi (fC (.str "A"))) (fCons (oi (fC (.str "a b"))) (fCons (oi (fC (.str "a1"))) (fCons (oi (fC (.str "a-"))) (fCons (oi (fC .non)) (fCons (oi (fC (.int 5))) (fCons (oi (fC (.bl true))) (fCons (oi (fTup (fCons (oi (fC (.str "a"))) fNil))) (fCons (oi (fLst (fCons (oi (fC (.str "b"))) fNil))) (fCons (oi (fLst fNil)) (fCons (oi (fC (.str "last 3"))) (fCons (oi (fMake "Bus" F_Bus___init__ (fCons (oi (fLst (fCons (oi (fC (.str "a"))) fNil))) fNil))) fNil))))))))))))))) (tN 3))
    (cSeq (cAsg (fCall F__law_pick (fCons (foVar 0) (fCons (oi (fVar 3)) fNil))) (tN 4))
    (cSeq (cPre [5] (cFor (fiBy seqOf (fTup (fCons (oi (f2 gCat (oi (f2 gCat (oi (fSl (oi (fVar 1)) fpNone (fpSome (fVar 2)))) (oi (fLst (fCons (oi (fVar 4)) fNil))))) (oi (fSl (oi (fVar 1)) (fpSome (fVar 2)) fpNone)))) (fCons (oi (fN (g1' gTupOf) (fCons (oi (f2 gCat (oi (fSl (oi (fVar 1)) fpNone (fpSome (fVar 2)))) (oi (fLst (fCons (oi (fVar 4)) fNil))))) fNil))) fNil)))) (tN 5)
     lp1__law_wrong_right))
    (cSeq (cIf (fOr (fB (f2 gNe (oi (fCall F__law_refused (fCons (oi (f2 gCat (oi (fLst (fCons (oi (fMake "Last" F_Member___init__ (fCons (oi (fC (.int 3))) fNil))) fNil))) (oi (fVar 1)))) fNil))) (oi (fTup (fCons (oi (fC (.str "bus"))) (fCons (oi (fC (.int 0))) fNil)))))) (fB (f2 gNe (oi (fCall F__law_refused (fCons (oi (fTup (fCons (oi (fMake "Delay" F_Delay___init__ (fCons (oi (fC (.int 0))) fNil))) fNil))) fNil))) (oi (fTup (fCons (oi (fC (.str "bus"))) (fCons (oi (fC (.int 0))) fNil)))))))
     (cRet (fC (.bl false)))
     cNext)
    (cSeq (cPre [5] (cFor (fiBy seqOf (fTup (fCons (oi (f2 gCat (oi (fVar 1)) (oi (fLst (fCons (oi (f2 gIx (oi (fVar 1)) (oi (fC (.int 0))))) fNil))))) (fCons (oi (f2 gCat (oi (fVar 1)) (oi (fLst (fCons (oi (fVar 4)) (fCons (oi (f2 gIx (oi (fVar 1)) (oi (fC (.int 0))))) fNil)))))) fNil)))) (tN 5)
     lp2__law_wrong_right))
    (cRet (f2 gEq (oi (fLc (fiBy seqOf (fTup (fCons (oi (fLst fNil)) (fCons (oi (fTup fNil)) (fCons (oi (fC .non)) (fCons (oi (fC (.str "a"))) (fCons (oi (fC (.int 7))) (fCons (oi fDic0) fNil)))))))) false [6] (fB (f2 gNe (oi (fCall F__law_refused (fCons (oi (fVar 6)) fNil))) (oi (fTup (fCons (oi (fC (.str "bus"))) (fCons (oi (f1 gNeg (oi (fC (.int 1))))) fNil)))))) (fVar 6))) (oi (fLst fNil))))))))))
def F__law_wrong_right : Fn := fnF 7 2 b__law_wrong_right
def lp1_law : FS := (cKil [3, 4, 5, 6] (cSeq (cAsg (fCallO F__law_steps (fCons (foVar 2) fNil)) (tN 4))
    (cSeq (cOwn (fN (g1' gListOf) (fCons (oi (fVar 4)) fNil)) 5)
    (cSeq (cAsg (fMake "Bus" F_Bus___init__ (fCons (foVar 5) fNil)) (tN 6))
    (cSeq (cDrop (oi (fOm mmAppend 5 (fCons (oi (fC (.str "later"))) fNil))))
    (cSeq (cDrop (oi (fRevM 5)))
    (cSeq (cIf (fOr (fB (f2q true (eqO tb eq1 F_Thing___eq___1) (oi (f1 (gFld tb "steps") (oi (fVar 6)))) (oi (fN (g1' gTupOf) (fCons (oi (fVar 4)) fNil))))) (fOr (fNot (fB (f1 (gIsi tb [(.ty "tuple")]) (oi (f1 (gFld tb "steps") (oi (fVar 6))))))) (fB (f2q true (eqO tb eq1 F_Thing___eq___1) (oi (fVar 6)) (oi (fMake "Bus" F_Bus___init__ (fCons (oi (fN (g1' gTupOf) (fCons (oi (fVar 4)) fNil))) fNil)))))))
     (cRet (fC (.bl false)))
     cNext)
    (cSeq (cIf (fB (fInO false (eqR (idn eq1 (eqO tb eq1 F_Thing___eq___1)) (ownE tb eq1 F_Thing___eq___1)) (oi (fVar 6)) (oi (fTup (fCons (oi (fMake "Bus" F_Bus___init__ (fCons (oi (f2 gCat (oi (fVar 4)) (oi (fLst (fCons (oi (fMake "Last" F_Member___init__ (fCons (oi (fC (.int 2))) fNil))) fNil))))) fNil))) (fCons (oi (fMake "Bus" F_Bus___init__ (fCons (oi (f2 gCat (oi (fLst (fCons (oi (fC (.str "other"))) fNil))) (oi (fSl (oi (fVar 4)) (fpSome (fC (.int 1))) fpNone)))) fNil))) (fCons (oi (fN (g1' gTupOf) (fCons (oi (fVar 4)) fNil))) (fCons (oi (fVar 4)) (fCons (oi (fC .non)) fNil)))))))))
     (cRet (fC (.bl false)))
     cNext)
    (cIf (fNot (fB (fCall F__law_wrong_right (fCons (foVar 2) (fCons (oi (fVar 4)) fNil)))))
     (cRet (fC (.bl false)))
     cNext)))))))))
def lp2_law : FS := (cKil [1, 2, 3, 4, 5, 6] (cSeq (cOwn (fCallO F__law_rng (fCons (oi (fVar 1)) fNil)) 2)
    (cFor (fiBy rg1 (fC (.int 4))) (tN 3)
     lp1_law)))
def N_law : List Str := ["_law_script", "_law_cell_here", "_law_rng_here", "_law_turn", "_law_steps_here", "_law_handed", "_law_found"]
def b_law : FS := (cSeq (cFor (fiBy seqOf (f2 gCat (oi (fLst (fCons (oi (fCall F__law_cell (fCons (oi (fVar 0)) (fCons (oi (fC (.int 0))) fNil)))) fNil))) (oi (fSl (oi (fVar 0)) (fpSome (fC (.int 1))) (fpSome (fC (.int 3))))))) (tN 1)
     lp2_law)
    (cRet (fC (.bl true))))
def F_law : Fn := fnF 7 1 b_law
end
end Law

namespace Law
open PySem PySem.Spec L2 TL
/-! numbers, streams -/
def isNumD : D → Bool
  | .int _ => true
  | _ => false
def tagB (d : D) : Bool := (tagOf tb d).isSome
theorem F_number_int (i : Int) : F_is_number [.im (.int i)] = .rt (.bl true) [.im (.int i)] := rfl
/-! the law's members and streams -/
def kindS : Mb → Str
  | .last _ => "last"
  | .first _ => "first"
  | .limit _ => "limit"
  | .delay _ => "delay"
def num : Mb → Int
  | .last q => q
  | .first q => q
  | .limit q => q
  | .delay q => q
def memD (m : Mb) : D := .tup [.str (kindS m), .int (num m)]
def _root_.TL.Mb.isFirst : Mb → Bool
  | .first _ => true
  | _ => false
def _root_.TL.Mb.isLimit : Mb → Bool
  | .limit _ => true
  | _ => false
def _root_.TL.Mb.isDelay : Mb → Bool
  | .delay _ => true
  | _ => false
theorem eqD_str {a b : Str} : eqD (.str a) (.str b) = decide (a = b) := by
  unfold eqD pd
  show PyData.eqv (.str a) (.str b) = _
  unfold PyData.eqv
  by_cases h : a = b
  · rw [h, decide_eq_true rfl]
    exact beq_self_eq_true b
  · rw [decide_eq_false h]
    exact beq_eq_false_iff_ne.mpr h
theorem gEq_int (i j : Int) : gEq (.int i) (.int j) = some (.bl (decide (i = j))) := by
  show some (D.bl (eqD _ _)) = _
  rw [eqD_int]
theorem bnd_of {n : Int} (h : -1000000 ≤ n) (h2 : n ≤ 1000000) : bnd n = true := by
  unfold bnd
  rw [decide_eq_true (by omega), decide_eq_true (by omega)]
  rfl
/-- a member of the law: its number is within bounds -/
def _root_.TL.Mb.in (most : Int) : Mb → Prop
  | .delay q => 0 ≤ q ∧ q < most
  | m => 1 ≤ num m ∧ num m ≤ most
/-! makers -/
/-! the law's draws -/
structure Rn where
  a : Int
  b : Int
  c : Int
def rnD (s : Rn) : D := .lst [.int s.a, .int s.b, .int s.c]
structure Rn.ok (s : Rn) : Prop where
  a0 : 0 ≤ s.a
theorem F_rng (n : Int) : ∃ s : Rn, s.ok ∧ F__law_rng [.im (.int n)] = .ro (rnD s) [.im (.int n)] := by
  unfold F__law_rng b__law_rng
  simp only [RD1, RD2, RD3, RD4, RD5, RD6, RD7, RD8, RD9, RD10, List.all_cons, List.all_nil, List.length_cons, List.length_nil, List.getElem?_cons_zero, List.getElem?_cons_succ, List.getElem?_nil, List.set_cons_zero, List.set_cons_succ, List.cons_append, List.nil_append, List.replicate_succ, List.replicate_zero, Nat.reduceAdd, Nat.reduceSub, Nat.reduceEqDiff, Nat.reduceLeDiff, Nat.reduceLT, Option.bind_some, Option.bind_none, Option.map_some, Option.map_none, if_true, if_false, ite_true, ite_false, reduceCtorEq, decide_true, decide_false, Int.reducePow, Int.reduceToNat, Int.reduceMul, Int.reduceAdd, Int.reduceSub, Int.reduceNeg, Int.reduceLT, Int.reduceLE, List.map_append, List.map_cons, List.map_nil, g2m_ii, tLl, gInD_n, gInD_i, gInD_s, mmInsertu, g4maxu]
  exact ⟨⟨_, _, _⟩, ⟨by show 0 ≤ (if n < 0 then -n else n); split <;> omega⟩, rfl⟩
theorem F_draw (s : Rn) (m : Int) (o : s.ok) (h0 : 0 < m) (h1 : m < 2 ^ 200) : ∃ (s' : Rn) (r : Int), s'.ok ∧ 0 ≤ r ∧ r < m ∧ F__law_draw [.ow true (rnD s), .im (.int m)] = .rt (.int r) [.ow true (rnD s'), .im (.int m)] := by
  obtain ⟨a, b, c⟩ := s
  obtain ⟨oa⟩ := o
  unfold F__law_draw b__law_draw rnD
  dsimp only at oa
  have hp : powC 10 18 = true := by decide
  have i0 : ∀ x y z : Int, atI [D.int x, .int y, .int z] 0 = some (.int x) := fun x y z => rfl
  have i1 : ∀ x y z : Int, atI [D.int x, .int y, .int z] 1 = some (.int y) := fun x y z => rfl
  have i2 : ∀ x y z : Int, atI [D.int x, .int y, .int z] 2 = some (.int z) := fun x y z => rfl
  have j0 : ixN 3 0 = some 0 := rfl
  have j2 : ixN 3 2 = some 2 := rfl
  have hd : ∀ x, divC x m = true := fun x => divC_of h0 h1
  by_cases ha : 1000000000000000000 ≤ a
  · simp only [RD1, RD2, RD3, RD4, RD5, RD6, RD7, RD8, RD9, RD10, List.all_cons, List.all_nil, List.length_cons, List.length_nil, List.getElem?_cons_zero, List.getElem?_cons_succ, List.getElem?_nil, List.set_cons_zero, List.set_cons_succ, List.cons_append, List.nil_append, List.replicate_succ, List.replicate_zero, Nat.reduceAdd, Nat.reduceSub, Nat.reduceEqDiff, Nat.reduceLeDiff, Nat.reduceLT, Option.bind_some, Option.bind_none, Option.map_some, Option.map_none, if_true, if_false, ite_true, ite_false, reduceCtorEq, decide_true, decide_false, Int.reducePow, Int.reduceToNat, Int.reduceMul, Int.reduceAdd, Int.reduceSub, Int.reduceNeg, Int.reduceLT, Int.reduceLE, List.map_append, List.map_cons, List.map_nil, g2m_ii, tLl, gInD_n, gInD_i, gInD_s, mmInsertu, g4maxu, hp, i0, i1, i2, j0, j2, h0, hd, ha]
    exact ⟨⟨a / m, b, c⟩, a % m, ⟨Int.ediv_nonneg oa (by omega)⟩, Int.emod_nonneg _ (by omega), Int.emod_lt_of_pos _ h0, rfl⟩
  · have m0 : mulC 7919 (c + 1) = true := mulC_l ⟨by decide, by decide⟩
    have m1 : ∀ x, mulC x 48271 = true := fun x => mulC_r ⟨by decide, by decide⟩
    have m4 : ∀ x, mulC x 40692 = true := fun x => mulC_r ⟨by decide, by decide⟩
    have d1 : ∀ x, divC x 1013 = true := fun x => divC_of (by decide) (by decide)
    have d2 : ∀ x, divC x 7 = true := fun x => divC_of (by decide) (by decide)
    have m2 : ∀ x y : Int, mulC (x % 2147483647) y = true := fun x y => mulC_l ⟨by omega, by omega⟩
    simp only [RD1, RD2, RD3, RD4, RD5, RD6, RD7, RD8, RD9, RD10, List.all_cons, List.all_nil, List.length_cons, List.length_nil, List.getElem?_cons_zero, List.getElem?_cons_succ, List.getElem?_nil, List.set_cons_zero, List.set_cons_succ, List.cons_append, List.nil_append, List.replicate_succ, List.replicate_zero, Nat.reduceAdd, Nat.reduceSub, Nat.reduceEqDiff, Nat.reduceLeDiff, Nat.reduceLT, Option.bind_some, Option.bind_none, Option.map_some, Option.map_none, if_true, if_false, ite_true, ite_false, reduceCtorEq, decide_true, decide_false, Int.reducePow, Int.reduceToNat, Int.reduceMul, Int.reduceAdd, Int.reduceSub, Int.reduceNeg, Int.reduceLT, Int.reduceLE, List.map_append, List.map_cons, List.map_nil, g2m_ii, tLl, gInD_n, gInD_i, gInD_s, mmInsertu, g4maxu, hp, i0, i1, i2, j0, j2, h0, hd, ha, m0, m1, m4, d1, d2, m2]
    exact ⟨⟨a, b, c + 1⟩, _, ⟨oa⟩, Int.emod_nonneg _ (by omega), Int.emod_lt_of_pos _ h0, rfl⟩
theorem F_pick (s : Rn) (ds : List D) (o : s.ok) (h0 : 0 < ds.length) (h1 : ds.length < 1000) : ∃ (s' : Rn) (k : Nat) (d : D), s'.ok ∧ ds[k]? = some d ∧ F__law_pick [.ow true (rnD s), .im (.lst ds)] = .rt d [.ow true (rnD s'), .im (.lst ds)] := by
  obtain ⟨s1, r1, o1, a1, b1, e1⟩ := F_draw s (ds.length : Nat) o (by omega) (by omega)
  obtain ⟨k, rfl⟩ := Int.eq_ofNat_of_zero_le a1
  have hk : k < ds.length := by omega
  refine ⟨s1, k, ds[k], o1, List.getElem?_eq_getElem hk, ?_⟩
  have hx : atI ds (k : Int) = some ds[k] := TL.atI_nat (List.getElem?_eq_getElem hk)
  unfold F__law_pick b__law_pick
  simp only [RD1, RD2, RD3, RD4, RD5, RD6, RD7, RD8, RD9, RD10, List.all_cons, List.all_nil, List.length_cons, List.length_nil, List.getElem?_cons_zero, List.getElem?_cons_succ, List.getElem?_nil, List.set_cons_zero, List.set_cons_succ, List.cons_append, List.nil_append, List.replicate_succ, List.replicate_zero, Nat.reduceAdd, Nat.reduceSub, Nat.reduceEqDiff, Nat.reduceLeDiff, Nat.reduceLT, Option.bind_some, Option.bind_none, Option.map_some, Option.map_none, if_true, if_false, ite_true, ite_false, reduceCtorEq, decide_true, decide_false, Int.reducePow, Int.reduceToNat, Int.reduceMul, Int.reduceAdd, Int.reduceSub, Int.reduceNeg, Int.reduceLT, Int.reduceLE, List.map_append, List.map_cons, List.map_nil, g2m_ii, tLl, gInD_n, gInD_i, gInD_s, mmInsertu, g4maxu, e1, hx]
/-! comparing -/
theorem gNe_self {d : D} (h : okD 16 d = true) : gNe d d = some (.bl false) := by
  unfold gNe
  rw [h]
  show some (D.bl (!eqD d d)) = _
  rw [eqD_refl h]
  rfl
theorem gEq_self {d : D} (h : okD 16 d = true) : gEq d d = some (.bl true) := by
  unfold gEq
  rw [h]
  show some (D.bl (eqD d d)) = _
  rw [eqD_refl h]
theorem cut_to (l : List D) (k : Nat) : cutD l none (some (k : Int)) = l.take k := by
  unfold cutD
  rw [HT.sIx_none, HT.sIx_nat, List.drop_zero, Nat.sub_zero]
  rcases Nat.le_total k l.length with h | h
  · rw [Nat.min_eq_left h]
  · rw [Nat.min_eq_right h, List.take_length, List.take_of_length_le h]
/-! names and members of a bus -/
def nmsL : List Str := ["a", "b", "zz", "input", "abcdefgh", "last", "x", "q", "names", "other"]
theorem is_nm : ∀ z ∈ nmsL, F_is_name [.im (.str z)] = .rt (.bl true) [.im (.str z)] := fun z hz => by
  unfold nmsL at hz
  simp only [List.mem_cons, List.not_mem_nil, or_false] at hz
  rcases hz with rfl | rfl | rfl | rfl | rfl | rfl | rfl | rfl | rfl | rfl <;> rfl
theorem nm_ok : ∀ z ∈ nmsL, PySem.PyData.strOk z = true := fun z hz => by
  unfold nmsL at hz
  simp only [List.mem_cons, List.not_mem_nil, or_false] at hz
  rcases hz with rfl | rfl | rfl | rfl | rfl | rfl | rfl | rfl | rfl | rfl <;> decide +kernel
theorem nm_mem (z : Str) : F_is_member [.im (.str z)] = .rt (.bl false) [.im (.str z)] := rfl
theorem mb_nm (m : Mb) : F_is_name [.im m.tree] = .rt (.bl false) [.im m.tree] := by cases m <;> rfl
theorem mb_mem (m : Mb) : F_is_member [.im m.tree] = .rt (.bl true) [.im m.tree] := by cases m <;> rfl
/-- neither a name nor a member -/
def Odd (d : D) : Prop := F_is_name [.im d] = .rt (.bl false) [.im d] ∧ F_is_member [.im d] = .rt (.bl false) [.im d]
def Gd (d : D) : Prop := (∃ z ∈ nmsL, d = .str z) ∨ ∃ m : Mb, d = m.tree
def nmsOf : List D → List Str
  | [] => []
  | .str z :: l => z :: nmsOf l
  | _ :: l => nmsOf l
theorem nmsOf_mb (m : Mb) (l : List D) : nmsOf (m.tree :: l) = nmsOf l := by cases m <;> rfl
theorem nmsOf_app : ∀ (a b : List D), nmsOf (a ++ b) = nmsOf a ++ nmsOf b
  | [], b => rfl
  | d :: a, b => by
    rw [List.cons_append]
    cases d <;> first | exact nmsOf_app a b | exact congrArg _ (nmsOf_app a b)
theorem nmsOf_in : ∀ {l : List D}, (∀ d ∈ l, Gd d) → ∀ z ∈ nmsOf l, z ∈ nmsL
  | [], _, z, h => by cases h
  | d :: l, hg, z, h => by
    rcases hg d List.mem_cons_self with ⟨y, hy, rfl⟩ | ⟨m, rfl⟩
    · rcases List.mem_cons.mp (show z ∈ y :: nmsOf l from h) with e | e
      · rw [e]; exact hy
      · exact nmsOf_in (fun d hd => hg d (List.mem_cons_of_mem _ hd)) z e
    · rw [nmsOf_mb] at h
      exact nmsOf_in (fun d hd => hg d (List.mem_cons_of_mem _ hd)) z h
/-- a bus's steps -/
structure BusOk (ds : List D) : Prop where
  gd : ∀ d ∈ ds, Gd d
  nd : (nmsOf ds).Nodup
  hd : ∃ z r, z ∈ nmsL ∧ ds = .str z :: r
theorem inB_s {z : Str} : ∀ {ns : List Str}, inB (.str z) (ns.map D.str) = decide (z ∈ ns)
  | [] => rfl
  | y :: ns => by
    show (eqD (.str y) (.str z) || inB (.str z) (ns.map D.str)) = _
    rw [inB_s, eqD_str]
    by_cases h : y = z
    · subst h
      rw [decide_eq_true rfl, Bool.true_or, decide_eq_true List.mem_cons_self]
    · rw [decide_eq_false h, Bool.false_or]
      exact decide_eq_decide.mpr ⟨List.mem_cons_of_mem _, fun q => (List.mem_cons.mp q).resolve_left fun w => h w.symm⟩
theorem notin_s {z : Str} {ns : List Str} (hz : z ∈ nmsL) (hn : ∀ y ∈ ns, y ∈ nmsL) : gNotIn (.str z) (.lst (ns.map D.str)) = some (.bl (!decide (z ∈ ns))) := by
  have ho : (okD 16 (.str z) && okD 16 (.lst (ns.map D.str))) = true := by
    have h1 : okD 16 (.str z) = true := nm_ok z hz
    have h2 : okD 16 (.lst (ns.map D.str)) = true := by
      refine List.all_eq_true.mpr fun x hx => ?_
      obtain ⟨y, hy, rfl⟩ := List.mem_map.mp hx
      exact nm_ok y (hn y hy)
    rw [h1, h2]
    rfl
  show (if (okD 16 (.str z) && okD 16 (.lst (ns.map D.str))) = true then some (D.bl (true ^^ inB (.str z) (ns.map D.str))) else none) = _
  rw [if_pos ho, inB_s, Bool.true_xor]
def stB (O S : Sl) (ns : List Str) : Ev := [O, S, .ow false (.lst (ns.map D.str)), .no, .no]
theorem eq_0 {k : Nat} : gEq (.int (k : Nat)) (.int 0) = some (.bl (decide (k = 0))) := by
  rw [gEq_int]
  congr 2
  exact decide_eq_decide.mpr (by omega)
theorem turn_nm {O S : Sl} {ns : List Str} {z : Str} {k : Nat} (hz : z ∈ nmsL) (hn : ∀ y ∈ ns, y ∈ nmsL) (hnew : z ∉ ns) (hl : ns.length ≤ 1000) : lp1_Bus___init__ [O, S, .ow false (.lst (ns.map D.str)), .im (.int (k : Nat)), .im (.str z)] = .nx (stB O S (ns ++ [z])) := by
  have h1 := notin_s hz hn
  rw [decide_eq_false hnew] at h1
  have h2 : (ns.map D.str).length < 1000000 := by
    rw [List.length_map]
    omega
  unfold lp1_Bus___init__ stB
  simp only [RD1, RD2, RD3, RD4, RD5, RD6, RD7, RD8, RD9, RD10, List.all_cons, List.all_nil, List.length_cons, List.length_nil, List.getElem?_cons_zero, List.getElem?_cons_succ, List.getElem?_nil, List.set_cons_zero, List.set_cons_succ, List.cons_append, List.nil_append, List.replicate_succ, List.replicate_zero, Nat.reduceAdd, Nat.reduceSub, Nat.reduceEqDiff, Nat.reduceLeDiff, Nat.reduceLT, Option.bind_some, Option.bind_none, Option.map_some, Option.map_none, if_true, if_false, ite_true, ite_false, reduceCtorEq, decide_true, decide_false, Int.reducePow, Int.reduceToNat, Int.reduceMul, Int.reduceAdd, Int.reduceSub, Int.reduceNeg, Int.reduceLT, Int.reduceLE, List.map_append, List.map_cons, List.map_nil, g2m_ii, tLl, gInD_n, gInD_i, gInD_s, mmInsertu, g4maxu, is_nm z hz, h1, Bool.not_false, h2]
theorem turn_mb {O S : Sl} {ns : List Str} {m : Mb} {k : Nat} (hk : k ≠ 0) : lp1_Bus___init__ [O, S, .ow false (.lst (ns.map D.str)), .im (.int (k : Nat)), .im m.tree] = .nx (stB O S ns) := by
  unfold lp1_Bus___init__ stB
  simp only [RD1, RD2, RD3, RD4, RD5, RD6, RD7, RD8, RD9, RD10, List.all_cons, List.all_nil, List.length_cons, List.length_nil, List.getElem?_cons_zero, List.getElem?_cons_succ, List.getElem?_nil, List.set_cons_zero, List.set_cons_succ, List.cons_append, List.nil_append, List.replicate_succ, List.replicate_zero, Nat.reduceAdd, Nat.reduceSub, Nat.reduceEqDiff, Nat.reduceLeDiff, Nat.reduceLT, Option.bind_some, Option.bind_none, Option.map_some, Option.map_none, if_true, if_false, ite_true, ite_false, reduceCtorEq, decide_true, decide_false, Int.reducePow, Int.reduceToNat, Int.reduceMul, Int.reduceAdd, Int.reduceSub, Int.reduceNeg, Int.reduceLT, Int.reduceLE, List.map_append, List.map_cons, List.map_nil, g2m_ii, tLl, gInD_n, gInD_i, gInD_s, mmInsertu, g4maxu, mb_nm, mb_mem, eq_0, decide_eq_false hk]
def badB (k : Int) : Xn := ⟨"BadBus", ["index"], [.int k]⟩
/-- not to be taken at place k -/
inductive BadAt (ns : List Str) (k : Nat) : D → Prop
  | odd {d : D} : Odd d → BadAt ns k d
  | mem {m : Mb} : k = 0 → BadAt ns k m.tree
  | dup {z : Str} : z ∈ ns → k ≠ 0 → BadAt ns k (.str z)
theorem turn_bad {O S : Sl} {ns : List Str} {d : D} {k : Nat} (hn : ∀ y ∈ ns, y ∈ nmsL) (h : BadAt ns k d) : lp1_Bus___init__ [O, S, .ow false (.lst (ns.map D.str)), .im (.int (k : Nat)), .im d] = .xc (badB k) (stB O S ns) := by
  unfold lp1_Bus___init__ stB badB
  cases h with
  | odd h =>
    by_cases hk : k = 0
    · simp only [RD1, RD2, RD3, RD4, RD5, RD6, RD7, RD8, RD9, RD10, List.all_cons, List.all_nil, List.length_cons, List.length_nil, List.getElem?_cons_zero, List.getElem?_cons_succ, List.getElem?_nil, List.set_cons_zero, List.set_cons_succ, List.cons_append, List.nil_append, List.replicate_succ, List.replicate_zero, Nat.reduceAdd, Nat.reduceSub, Nat.reduceEqDiff, Nat.reduceLeDiff, Nat.reduceLT, Option.bind_some, Option.bind_none, Option.map_some, Option.map_none, if_true, if_false, ite_true, ite_false, reduceCtorEq, decide_true, decide_false, Int.reducePow, Int.reduceToNat, Int.reduceMul, Int.reduceAdd, Int.reduceSub, Int.reduceNeg, Int.reduceLT, Int.reduceLE, List.map_append, List.map_cons, List.map_nil, g2m_ii, tLl, gInD_n, gInD_i, gInD_s, mmInsertu, g4maxu, h.1, h.2, eq_0, decide_eq_true hk]
    · simp only [RD1, RD2, RD3, RD4, RD5, RD6, RD7, RD8, RD9, RD10, List.all_cons, List.all_nil, List.length_cons, List.length_nil, List.getElem?_cons_zero, List.getElem?_cons_succ, List.getElem?_nil, List.set_cons_zero, List.set_cons_succ, List.cons_append, List.nil_append, List.replicate_succ, List.replicate_zero, Nat.reduceAdd, Nat.reduceSub, Nat.reduceEqDiff, Nat.reduceLeDiff, Nat.reduceLT, Option.bind_some, Option.bind_none, Option.map_some, Option.map_none, if_true, if_false, ite_true, ite_false, reduceCtorEq, decide_true, decide_false, Int.reducePow, Int.reduceToNat, Int.reduceMul, Int.reduceAdd, Int.reduceSub, Int.reduceNeg, Int.reduceLT, Int.reduceLE, List.map_append, List.map_cons, List.map_nil, g2m_ii, tLl, gInD_n, gInD_i, gInD_s, mmInsertu, g4maxu, h.1, h.2, eq_0, decide_eq_false hk]
  | mem hk => simp only [RD1, RD2, RD3, RD4, RD5, RD6, RD7, RD8, RD9, RD10, List.all_cons, List.all_nil, List.length_cons, List.length_nil, List.getElem?_cons_zero, List.getElem?_cons_succ, List.getElem?_nil, List.set_cons_zero, List.set_cons_succ, List.cons_append, List.nil_append, List.replicate_succ, List.replicate_zero, Nat.reduceAdd, Nat.reduceSub, Nat.reduceEqDiff, Nat.reduceLeDiff, Nat.reduceLT, Option.bind_some, Option.bind_none, Option.map_some, Option.map_none, if_true, if_false, ite_true, ite_false, reduceCtorEq, decide_true, decide_false, Int.reducePow, Int.reduceToNat, Int.reduceMul, Int.reduceAdd, Int.reduceSub, Int.reduceNeg, Int.reduceLT, Int.reduceLE, List.map_append, List.map_cons, List.map_nil, g2m_ii, tLl, gInD_n, gInD_i, gInD_s, mmInsertu, g4maxu, mb_nm, mb_mem, eq_0, decide_eq_true hk]
  | dup hz hk =>
    have h1 := notin_s (hn _ hz) hn
    rw [decide_eq_true hz] at h1
    simp only [RD1, RD2, RD3, RD4, RD5, RD6, RD7, RD8, RD9, RD10, List.all_cons, List.all_nil, List.length_cons, List.length_nil, List.getElem?_cons_zero, List.getElem?_cons_succ, List.getElem?_nil, List.set_cons_zero, List.set_cons_succ, List.cons_append, List.nil_append, List.replicate_succ, List.replicate_zero, Nat.reduceAdd, Nat.reduceSub, Nat.reduceEqDiff, Nat.reduceLeDiff, Nat.reduceLT, Option.bind_some, Option.bind_none, Option.map_some, Option.map_none, if_true, if_false, ite_true, ite_false, reduceCtorEq, decide_true, decide_false, Int.reducePow, Int.reduceToNat, Int.reduceMul, Int.reduceAdd, Int.reduceSub, Int.reduceNeg, Int.reduceLT, Int.reduceLE, List.map_append, List.map_cons, List.map_nil, g2m_ii, tLl, gInD_n, gInD_i, gInD_s, mmInsertu, g4maxu, is_nm _ (hn _ hz), h1, Bool.not_true, nm_mem, eq_0, decide_eq_false hk]
def enZ (l : List D) (k : Nat) : List D := (l.zipIdx k).map fun q => D.tup [.int (q.2 : Nat), q.1]
theorem bind_B {O S : Sl} {ns : List Str} {d : D} {k : Nat} : tT (tCons (tN 3) (tCons (tN 4) tNil)) 2 (D.tup [.int (k : Nat), d]) (stB O S ns) = some [O, S, .ow false (.lst (ns.map D.str)), .im (.int (k : Nat)), .im d] := by
  unfold stB
  simp only [RD1, RD2, RD3, RD4, RD5, RD6, RD7, RD8, RD9, RD10, List.all_cons, List.all_nil, List.length_cons, List.length_nil, List.getElem?_cons_zero, List.getElem?_cons_succ, List.getElem?_nil, List.set_cons_zero, List.set_cons_succ, List.cons_append, List.nil_append, List.replicate_succ, List.replicate_zero, Nat.reduceAdd, Nat.reduceSub, Nat.reduceEqDiff, Nat.reduceLeDiff, Nat.reduceLT, Option.bind_some, Option.bind_none, Option.map_some, Option.map_none, if_true, if_false, ite_true, ite_false, reduceCtorEq, decide_true, decide_false, Int.reducePow, Int.reduceToNat, Int.reduceMul, Int.reduceAdd, Int.reduceSub, Int.reduceNeg, Int.reduceLT, Int.reduceLE, List.map_append, List.map_cons, List.map_nil, g2m_ii, tLl, gInD_n, gInD_i, gInD_s, mmInsertu, g4maxu]
theorem loop_B {O S : Sl} {R : List D} : ∀ (l : List D) (k : Nat) (ns : List Str), (∀ d ∈ l, Gd d) → (∀ y ∈ ns, y ∈ nmsL) → (ns ++ nmsOf l).Nodup → (k = 0 → l = [] ∨ ∃ z r, l = .str z :: r) → ns.length + l.length ≤ 1000 →
    forL (tT (tCons (tN 3) (tCons (tN 4) tNil)) 2) lp1_Bus___init__ (enZ l k ++ R) (stB O S ns) = forL (tT (tCons (tN 3) (tCons (tN 4) tNil)) 2) lp1_Bus___init__ R (stB O S (ns ++ nmsOf l))
  | [], k, ns, _, _, _, _, _ => by
    rw [show nmsOf [] = [] from rfl, List.append_nil]
    rfl
  | d :: l, k, ns, hg, hn, nd, h0, hl => by
    have hg' : ∀ d ∈ l, Gd d := fun d hd => hg d (List.mem_cons_of_mem _ hd)
    rw [List.length_cons] at hl
    have e0 : enZ (d :: l) k ++ R = D.tup [.int (k : Nat), d] :: (enZ l (k + 1) ++ R) := rfl
    rw [e0, forL_step, bind_B]
    dsimp only
    rcases hg d List.mem_cons_self with ⟨z, hz, rfl⟩ | ⟨m, rfl⟩
    · have nd' : (ns ++ z :: nmsOf l).Nodup := nd
      have hnew : z ∉ ns := fun hm => (List.nodup_append.mp nd').2.2 z hm z List.mem_cons_self rfl
      have nd2 : ((ns ++ [z]) ++ nmsOf l).Nodup := by rw [List.append_assoc]; exact nd'
      rw [turn_nm hz hn hnew (by omega), lp_nx, loop_B l (k + 1) (ns ++ [z]) hg' (fun y hy => by
        rcases List.mem_append.mp hy with q | q
        · exact hn y q
        · rw [List.mem_singleton.mp q]; exact hz) nd2 (fun h => absurd h (Nat.succ_ne_zero k)) (by rw [List.length_append]; show ns.length + 1 + l.length ≤ 1000; omega)]
      rw [List.append_assoc]
      rfl
    · have hk : k ≠ 0 := fun h => by
        rcases h0 h with z | ⟨z, r, e⟩
        · cases z
        · have := (List.cons.inj e).1
          cases m <;> cases this
      rw [nmsOf_mb] at nd ⊢
      rw [turn_mb hk, lp_nx, loop_B l (k + 1) ns hg' hn nd (fun h => absurd h (Nat.succ_ne_zero k)) (by omega)]
def busT (ds : List D) : D := .ins "Bus" ["steps"] [.tup ds]
/-- steps: a list or a tuple, handed or owned -/
inductive StS (ds : List D) : Sl → D → Prop
  | iml : StS ds (.im (.lst ds)) (.lst ds)
  | imt : StS ds (.im (.tup ds)) (.tup ds)
  | owl : StS ds (.ow true (.lst ds)) (.lst ds)
theorem enD_Z (ds : List D) : enD ds = enZ ds 0 := by
  have := enD_map (f := fun d : D => d) (xs := ds)
  rw [List.map_id'] at this
  exact this
theorem bus_pre {S : Sl} {T d0 : D} {ds r : List D} (hS : StS ds S T) (hds : ds = d0 :: r) : F_Bus___init__ [.ow true (.ins "Bus" [] []), S] = ((forL (tT (tCons (tN 3) (tCons (tN 4) tNil)) 2) lp1_Bus___init__ (enZ ds 0) (stB (.ow true (busT ds)) S [])).fr [.ow true (.ins "Bus" [] []), S]) := by
  have hf : fldOk tb "steps" (.ins "Bus" [] []) = true := rfl
  have hlen : gEq (.int (ds.length : Nat)) (.int 0) = some (.bl false) := by
    rw [gEq_int, decide_eq_false (by rw [hds, List.length_cons]; omega)]
  have hg : gFld tb "steps" (busT ds) = some (.tup ds) := rfl
  have hen : enOfD (.tup ds) = some (enZ ds 0) := by
    show some (enD ds) = _
    rw [enD_Z]
  have hp : D.ins "Bus" ["steps"] [.tup ds] = busT ds := rfl
  have hi1 : gIsi tb [.ty "list", .ty "tuple"] (.lst ds) = some (.bl true) := rfl
  have hi2 : gIsi tb [.ty "list", .ty "tuple"] (.tup ds) = some (.bl true) := rfl
  unfold F_Bus___init__ b_Bus___init__ stB
  cases hS with
  | iml => simp only [RD1, RD2, RD3, RD4, RD5, RD6, RD7, RD8, RD9, RD10, List.all_cons, List.all_nil, List.length_cons, List.length_nil, List.getElem?_cons_zero, List.getElem?_cons_succ, List.getElem?_nil, List.set_cons_zero, List.set_cons_succ, List.cons_append, List.nil_append, List.replicate_succ, List.replicate_zero, Nat.reduceAdd, Nat.reduceSub, Nat.reduceEqDiff, Nat.reduceLeDiff, Nat.reduceLT, Option.bind_some, Option.bind_none, Option.map_some, Option.map_none, if_true, if_false, ite_true, ite_false, reduceCtorEq, decide_true, decide_false, Int.reducePow, Int.reduceToNat, Int.reduceMul, Int.reduceAdd, Int.reduceSub, Int.reduceNeg, Int.reduceLT, Int.reduceLE, List.map_append, List.map_cons, List.map_nil, g2m_ii, tLl, gInD_n, gInD_i, gInD_s, mmInsertu, g4maxu, foAny, hi1, hlen, hf, putD, hp, hg, hen]
  | imt => simp only [RD1, RD2, RD3, RD4, RD5, RD6, RD7, RD8, RD9, RD10, List.all_cons, List.all_nil, List.length_cons, List.length_nil, List.getElem?_cons_zero, List.getElem?_cons_succ, List.getElem?_nil, List.set_cons_zero, List.set_cons_succ, List.cons_append, List.nil_append, List.replicate_succ, List.replicate_zero, Nat.reduceAdd, Nat.reduceSub, Nat.reduceEqDiff, Nat.reduceLeDiff, Nat.reduceLT, Option.bind_some, Option.bind_none, Option.map_some, Option.map_none, if_true, if_false, ite_true, ite_false, reduceCtorEq, decide_true, decide_false, Int.reducePow, Int.reduceToNat, Int.reduceMul, Int.reduceAdd, Int.reduceSub, Int.reduceNeg, Int.reduceLT, Int.reduceLE, List.map_append, List.map_cons, List.map_nil, g2m_ii, tLl, gInD_n, gInD_i, gInD_s, mmInsertu, g4maxu, foAny, hi2, hlen, hf, putD, hp, hg, hen]
  | owl => simp only [RD1, RD2, RD3, RD4, RD5, RD6, RD7, RD8, RD9, RD10, List.all_cons, List.all_nil, List.length_cons, List.length_nil, List.getElem?_cons_zero, List.getElem?_cons_succ, List.getElem?_nil, List.set_cons_zero, List.set_cons_succ, List.cons_append, List.nil_append, List.replicate_succ, List.replicate_zero, Nat.reduceAdd, Nat.reduceSub, Nat.reduceEqDiff, Nat.reduceLeDiff, Nat.reduceLT, Option.bind_some, Option.bind_none, Option.map_some, Option.map_none, if_true, if_false, ite_true, ite_false, reduceCtorEq, decide_true, decide_false, Int.reducePow, Int.reduceToNat, Int.reduceMul, Int.reduceAdd, Int.reduceSub, Int.reduceNeg, Int.reduceLT, Int.reduceLE, List.map_append, List.map_cons, List.map_nil, g2m_ii, tLl, gInD_n, gInD_i, gInD_s, mmInsertu, g4maxu, foAny, hi1, hlen, hf, putD, hp, hg, hen]
theorem F_bus {S : Sl} {T : D} {ds : List D} (hS : StS ds S T) (o : BusOk ds) (hl : ds.length ≤ 1000) : F_Bus___init__ [.ow true (.ins "Bus" [] []), S] = .rt .non [.ow true (busT ds), S] := by
  obtain ⟨z, r, hz, hds⟩ := o.hd
  rw [bus_pre hS hds]
  have e := loop_B (O := .ow true (busT ds)) (S := S) (R := []) ds 0 [] o.gd (fun y h => by cases h) o.nd (fun _ => .inr ⟨z, r, hds⟩) (by simpa using hl)
  rw [List.append_nil] at e
  rw [e]
  unfold stB
  cases hS <;> simp only [RD1, RD2, RD3, RD4, RD5, RD6, RD7, RD8, RD9, RD10, List.all_cons, List.all_nil, List.length_cons, List.length_nil, List.getElem?_cons_zero, List.getElem?_cons_succ, List.getElem?_nil, List.set_cons_zero, List.set_cons_succ, List.cons_append, List.nil_append, List.replicate_succ, List.replicate_zero, Nat.reduceAdd, Nat.reduceSub, Nat.reduceEqDiff, Nat.reduceLeDiff, Nat.reduceLT, Option.bind_some, Option.bind_none, Option.map_some, Option.map_none, if_true, if_false, ite_true, ite_false, reduceCtorEq, decide_true, decide_false, Int.reducePow, Int.reduceToNat, Int.reduceMul, Int.reduceAdd, Int.reduceSub, Int.reduceNeg, Int.reduceLT, Int.reduceLE, List.map_append, List.map_cons, List.map_nil, g2m_ii, tLl, gInD_n, gInD_i, gInD_s, mmInsertu, g4maxu, forL_nil]
theorem F_busx {S : Sl} {T : D} {ds bad r0 : List D} {d : D} (hds : ds = bad ++ d :: r0) (hS : StS ds S T) (gd : ∀ d ∈ bad, Gd d) (nd : (nmsOf bad).Nodup) (h0 : bad = [] ∨ ∃ z r, bad = .str z :: r) (hl : bad.length ≤ 900) (hb : BadAt (nmsOf bad) bad.length d) :
    F_Bus___init__ [.ow true (.ins "Bus" [] []), S] = .xc (badB (bad.length : Nat)) [.ow true (busT ds), S] := by
  have hne : ∃ d0 r, ds = d0 :: r := by
    rw [hds]
    cases bad with
    | nil => exact ⟨_, _, rfl⟩
    | cons x b => exact ⟨_, _, rfl⟩
  obtain ⟨d0, r, hne⟩ := hne
  rw [bus_pre hS hne]
  have ez : enZ ds 0 = enZ bad 0 ++ (D.tup [.int (bad.length : Nat), d] :: enZ r0 (bad.length + 1)) := by
    unfold enZ
    rw [hds, List.zipIdx_append, List.map_append, Nat.zero_add, List.zipIdx_cons]
    rfl
  have e := loop_B (O := .ow true (busT ds)) (S := S) (R := D.tup [.int (bad.length : Nat), d] :: enZ r0 (bad.length + 1)) bad 0 [] gd (fun y h => by cases h) nd (fun _ => h0) (by simp; omega)
  rw [ez, e, forL_step, bind_B]
  dsimp only
  rw [List.nil_append, turn_bad (nmsOf_in gd) hb]
  unfold stB
  cases hS <;> simp only [RD1, RD2, RD3, RD4, RD5, RD6, RD7, RD8, RD9, RD10, List.all_cons, List.all_nil, List.length_cons, List.length_nil, List.getElem?_cons_zero, List.getElem?_cons_succ, List.getElem?_nil, List.set_cons_zero, List.set_cons_succ, List.cons_append, List.nil_append, List.replicate_succ, List.replicate_zero, Nat.reduceAdd, Nat.reduceSub, Nat.reduceEqDiff, Nat.reduceLeDiff, Nat.reduceLT, Option.bind_some, Option.bind_none, Option.map_some, Option.map_none, if_true, if_false, ite_true, ite_false, reduceCtorEq, decide_true, decide_false, Int.reducePow, Int.reduceToNat, Int.reduceMul, Int.reduceAdd, Int.reduceSub, Int.reduceNeg, Int.reduceLT, Int.reduceLE, List.map_append, List.map_cons, List.map_nil, g2m_ii, tLl, gInD_n, gInD_i, gInD_s, mmInsertu, g4maxu, lp_xc]

/-! steps that are drawn -/
theorem F_init3 {c : Str} {q : Int} (hc : c = "Last" ∨ c = "First" ∨ c = "Limit") (h : 1 ≤ q) : F_Member___init__ [.ow true (.ins c [] []), .im (.int q)] = .rt .non [.ow true (.ins c ["q"] [.int q]), .im (.int q)] := by
  have hq : ¬ q < 1 := by omega
  unfold F_Member___init__ b_Member___init__
  have hf : fldOk tb "q" (.ins c [] []) = true := by
    rcases hc with rfl | rfl | rfl <;> rfl
  simp only [RD1, RD2, RD3, RD4, RD5, RD6, RD7, RD8, RD9, RD10, List.all_cons, List.all_nil, List.length_cons, List.length_nil, List.getElem?_cons_zero, List.getElem?_cons_succ, List.getElem?_nil, List.set_cons_zero, List.set_cons_succ, List.cons_append, List.nil_append, List.replicate_succ, List.replicate_zero, Nat.reduceAdd, Nat.reduceSub, Nat.reduceEqDiff, Nat.reduceLeDiff, Nat.reduceLT, Option.bind_some, Option.bind_none, Option.map_some, Option.map_none, if_true, if_false, ite_true, ite_false, reduceCtorEq, decide_true, decide_false, Int.reducePow, Int.reduceToNat, Int.reduceMul, Int.reduceAdd, Int.reduceSub, Int.reduceNeg, Int.reduceLT, Int.reduceLE, List.map_append, List.map_cons, List.map_nil, g2m_ii, tLl, gInD_n, gInD_i, gInD_s, mmInsertu, g4maxu, hf, putD, F_number_int, hq]
theorem N_last {q : Int} (h : 1 ≤ q) {e : Ev} : makeF "Last" F_Member___init__ [.im (.int q)] e = .ok (Mb.last q).tree e := by
  simp only [RD1, RD2, RD3, RD4, RD5, RD6, RD7, RD8, RD9, RD10, List.all_cons, List.all_nil, List.length_cons, List.length_nil, List.getElem?_cons_zero, List.getElem?_cons_succ, List.getElem?_nil, List.set_cons_zero, List.set_cons_succ, List.cons_append, List.nil_append, List.replicate_succ, List.replicate_zero, Nat.reduceAdd, Nat.reduceSub, Nat.reduceEqDiff, Nat.reduceLeDiff, Nat.reduceLT, Option.bind_some, Option.bind_none, Option.map_some, Option.map_none, if_true, if_false, ite_true, ite_false, reduceCtorEq, decide_true, decide_false, Int.reducePow, Int.reduceToNat, Int.reduceMul, Int.reduceAdd, Int.reduceSub, Int.reduceNeg, Int.reduceLT, Int.reduceLE, List.map_append, List.map_cons, List.map_nil, g2m_ii, tLl, gInD_n, gInD_i, gInD_s, mmInsertu, g4maxu, makeF_eq, F_init3 (.inl rfl) h]
  rfl
theorem N_first {q : Int} (h : 1 ≤ q) {e : Ev} : makeF "First" F_Member___init__ [.im (.int q)] e = .ok (Mb.first q).tree e := by
  simp only [RD1, RD2, RD3, RD4, RD5, RD6, RD7, RD8, RD9, RD10, List.all_cons, List.all_nil, List.length_cons, List.length_nil, List.getElem?_cons_zero, List.getElem?_cons_succ, List.getElem?_nil, List.set_cons_zero, List.set_cons_succ, List.cons_append, List.nil_append, List.replicate_succ, List.replicate_zero, Nat.reduceAdd, Nat.reduceSub, Nat.reduceEqDiff, Nat.reduceLeDiff, Nat.reduceLT, Option.bind_some, Option.bind_none, Option.map_some, Option.map_none, if_true, if_false, ite_true, ite_false, reduceCtorEq, decide_true, decide_false, Int.reducePow, Int.reduceToNat, Int.reduceMul, Int.reduceAdd, Int.reduceSub, Int.reduceNeg, Int.reduceLT, Int.reduceLE, List.map_append, List.map_cons, List.map_nil, g2m_ii, tLl, gInD_n, gInD_i, gInD_s, mmInsertu, g4maxu, makeF_eq, F_init3 (.inr (.inl rfl)) h]
  rfl
theorem N_limit {q : Int} (h : 1 ≤ q) {e : Ev} : makeF "Limit" F_Member___init__ [.im (.int q)] e = .ok (Mb.limit q).tree e := by
  simp only [RD1, RD2, RD3, RD4, RD5, RD6, RD7, RD8, RD9, RD10, List.all_cons, List.all_nil, List.length_cons, List.length_nil, List.getElem?_cons_zero, List.getElem?_cons_succ, List.getElem?_nil, List.set_cons_zero, List.set_cons_succ, List.cons_append, List.nil_append, List.replicate_succ, List.replicate_zero, Nat.reduceAdd, Nat.reduceSub, Nat.reduceEqDiff, Nat.reduceLeDiff, Nat.reduceLT, Option.bind_some, Option.bind_none, Option.map_some, Option.map_none, if_true, if_false, ite_true, ite_false, reduceCtorEq, decide_true, decide_false, Int.reducePow, Int.reduceToNat, Int.reduceMul, Int.reduceAdd, Int.reduceSub, Int.reduceNeg, Int.reduceLT, Int.reduceLE, List.map_append, List.map_cons, List.map_nil, g2m_ii, tLl, gInD_n, gInD_i, gInD_s, mmInsertu, g4maxu, makeF_eq, F_init3 (.inr (.inr rfl)) h]
  rfl
theorem N_delay {q : Int} (h : 0 ≤ q) {e : Ev} : makeF "Delay" F_Delay___init__ [.im (.int q)] e = .ok (Mb.delay q).tree e := by
  have hq : ¬ q < 0 := by omega
  have hf : fldOk tb "d" (.ins "Delay" [] []) = true := rfl
  have hi : F_Delay___init__ [.ow true (.ins "Delay" [] []), .im (.int q)] = .rt .non [.ow true (.ins "Delay" ["d"] [.int q]), .im (.int q)] := by
    unfold F_Delay___init__ b_Delay___init__
    simp only [RD1, RD2, RD3, RD4, RD5, RD6, RD7, RD8, RD9, RD10, List.all_cons, List.all_nil, List.length_cons, List.length_nil, List.getElem?_cons_zero, List.getElem?_cons_succ, List.getElem?_nil, List.set_cons_zero, List.set_cons_succ, List.cons_append, List.nil_append, List.replicate_succ, List.replicate_zero, Nat.reduceAdd, Nat.reduceSub, Nat.reduceEqDiff, Nat.reduceLeDiff, Nat.reduceLT, Option.bind_some, Option.bind_none, Option.map_some, Option.map_none, if_true, if_false, ite_true, ite_false, reduceCtorEq, decide_true, decide_false, Int.reducePow, Int.reduceToNat, Int.reduceMul, Int.reduceAdd, Int.reduceSub, Int.reduceNeg, Int.reduceLT, Int.reduceLE, List.map_append, List.map_cons, List.map_nil, g2m_ii, tLl, gInD_n, gInD_i, gInD_s, mmInsertu, g4maxu, hf, putD, F_number_int, hq]
  simp only [RD1, RD2, RD3, RD4, RD5, RD6, RD7, RD8, RD9, RD10, List.all_cons, List.all_nil, List.length_cons, List.length_nil, List.getElem?_cons_zero, List.getElem?_cons_succ, List.getElem?_nil, List.set_cons_zero, List.set_cons_succ, List.cons_append, List.nil_append, List.replicate_succ, List.replicate_zero, Nat.reduceAdd, Nat.reduceSub, Nat.reduceEqDiff, Nat.reduceLeDiff, Nat.reduceLT, Option.bind_some, Option.bind_none, Option.map_some, Option.map_none, if_true, if_false, ite_true, ite_false, reduceCtorEq, decide_true, decide_false, Int.reducePow, Int.reduceToNat, Int.reduceMul, Int.reduceAdd, Int.reduceSub, Int.reduceNeg, Int.reduceLT, Int.reduceLE, List.map_append, List.map_cons, List.map_nil, g2m_ii, tLl, gInD_n, gInD_i, gInD_s, mmInsertu, g4maxu, makeF_eq, hi]
  rfl
abbrev T0 : D → D → Option Bool := idn eq0 (eqO tb eq0 F_Thing___eq___0)
theorem T0_ss {w z : Str} (hw : PySem.PyData.strOk w = true) (hz : PySem.PyData.strOk z = true) : T0 (.str w) (.str z) = some (decide (w = z)) := by
  have h : eqO tb eq0 F_Thing___eq___0 (.str w) (.str z) = some (decide (w = z)) := by
    unfold eqO
    rw [eqT_flat (show okD 16 (.str w) = true from hw) (show okD 16 (.str z) = true from hz), eqD_str]
  unfold T0 idn
  rw [h]
  by_cases c : w = z
  · rw [decide_eq_true c]
  · rw [decide_eq_false c]
    have : mb eq0 (.str w) (.str z) = false := by
      unfold mb
      exact beq_eq_false_iff_ne.mpr c
    dsimp only
    rw [this]
    rfl
theorem T0_ms (m : Mb) (z : Str) : T0 m.tree (.str z) = some false := by
  have hF : F_Thing___eq___0 [.im m.tree, .im (.str z)] = .rt (.bl false) [.im m.tree, .im (.str z)] := by cases m <;> rfl
  have h : eqO tb eq0 F_Thing___eq___0 m.tree (.str z) = some false := by
    unfold eqO
    cases m <;> (unfold Mb.tree at hF ⊢; rw [eqT_ins]; exact ownE_of (by rfl) (by rfl) hF)
  unfold T0 idn
  rw [h]
  have : mb eq0 m.tree (.str z) = false := by cases m <;> (unfold Mb.tree mb; rfl)
  dsimp only
  rw [this]
  rfl
theorem find_nm {z : Str} (hz : z ∈ nmsL) : ∀ {ds : List D}, (∀ d ∈ ds, Gd d) → ∃ r, findT T0 (.str z) ds = some r ∧ r.isSome = decide (z ∈ nmsOf ds)
  | [], _ => ⟨none, rfl, rfl⟩
  | d :: ds, hg => by
    obtain ⟨r, h1, h2⟩ := find_nm hz (ds := ds) fun d hd => hg d (List.mem_cons_of_mem _ hd)
    rcases hg d List.mem_cons_self with ⟨w, hw, rfl⟩ | ⟨m, rfl⟩
    · unfold findT
      rw [T0_ss (nm_ok w hw) (nm_ok z hz)]
      by_cases c : w = z
      · subst c
        rw [decide_eq_true rfl]
        exact ⟨some 0, rfl, (decide_eq_true (show w ∈ w :: nmsOf ds from List.mem_cons_self)).symm⟩
      · rw [decide_eq_false c]
        dsimp only
        rw [h1]
        refine ⟨r.map (· + 1), rfl, ?_⟩
        rw [Option.isSome_map, h2]
        exact decide_eq_decide.mpr ⟨fun h => List.mem_cons_of_mem _ h, fun h => (List.mem_cons.mp (show z ∈ w :: nmsOf ds from h)).resolve_left fun e => c e.symm⟩
    · unfold findT
      rw [T0_ms]
      dsimp only
      rw [h1, nmsOf_mb]
      exact ⟨r.map (· + 1), rfl, by rw [Option.isSome_map, h2]⟩
theorem gNe_sn {ns : List Str} (hn : ∀ y ∈ ns, y ∈ nmsL) : gNe (.lst (ns.map D.str)) (.lst []) = some (.bl (!ns.isEmpty)) := by
  have h2 : okD 16 (.lst (ns.map D.str)) = true := by
    refine List.all_eq_true.mpr fun x hx => ?_
    obtain ⟨y, hy, rfl⟩ := List.mem_map.mp hx
    exact nm_ok y (hn y hy)
  unfold gNe
  rw [h2]
  show some (D.bl (!eqD (.lst _) (.lst []))) = _
  rw [eqD_nil]
  cases ns <;> rfl
def sevN : List Str := ["a", "b", "zz", "input", "abcdefgh", "last", "x"]
theorem sev_in : ∀ z ∈ sevN, z ∈ nmsL ∧ z ≠ "other" := fun z hz => by
  unfold sevN at hz
  simp only [List.mem_cons, List.not_mem_nil, or_false] at hz
  rcases hz with rfl | rfl | rfl | rfl | rfl | rfl | rfl <;> exact ⟨by decide +kernel, by decide +kernel⟩
theorem F_step (s : Rn) (o : s.ok) {ds : List D} (hg : ∀ d ∈ ds, Gd d) : ∃ (s' : Rn) (d : D), s'.ok ∧ Gd d ∧ (∀ z, d = .str z → z ∉ nmsOf ds ∧ z ≠ "other") ∧ F__law_step [.ow true (rnD s), .ow true (.lst ds)] = .rt d [.ow true (rnD s'), .ow true (.lst ds)] := by
  have hlc : lcL false [3] (fB (fInL true T0 (oi (fVar 3)) (foAny 1))) (fVar 3) (sevN.map D.str) [.ow true (rnD s), .ow true (.lst ds), .no, .no, .no] = .ok ((sevN.filter fun z => !decide (z ∈ nmsOf ds)).map D.str) [.ow true (rnD s), .ow true (.lst ds), .no, .no, .no] := by
    refine lcL_map (fun z => [D.str z]) (fun z => !decide (z ∈ nmsOf ds)) D.str (by simp only [RD1, RD2, RD3, RD4, RD5, RD6, RD7, RD8, RD9, RD10, List.all_cons, List.all_nil, List.length_cons, List.length_nil, List.getElem?_cons_zero, List.getElem?_cons_succ, List.getElem?_nil, List.set_cons_zero, List.set_cons_succ, List.cons_append, List.nil_append, List.replicate_succ, List.replicate_zero, Nat.reduceAdd, Nat.reduceSub, Nat.reduceEqDiff, Nat.reduceLeDiff, Nat.reduceLT, Option.bind_some, Option.bind_none, Option.map_some, Option.map_none, if_true, if_false, ite_true, ite_false, reduceCtorEq, decide_true, decide_false, Int.reducePow, Int.reduceToNat, Int.reduceMul, Int.reduceAdd, Int.reduceSub, Int.reduceNeg, Int.reduceLT, Int.reduceLE, List.map_append, List.map_cons, List.map_nil, g2m_ii, tLl, gInD_n, gInD_i, gInD_s, mmInsertu, g4maxu]) (by simp only [RD1, RD2, RD3, RD4, RD5, RD6, RD7, RD8, RD9, RD10, List.all_cons, List.all_nil, List.length_cons, List.length_nil, List.getElem?_cons_zero, List.getElem?_cons_succ, List.getElem?_nil, List.set_cons_zero, List.set_cons_succ, List.cons_append, List.nil_append, List.replicate_succ, List.replicate_zero, Nat.reduceAdd, Nat.reduceSub, Nat.reduceEqDiff, Nat.reduceLeDiff, Nat.reduceLT, Option.bind_some, Option.bind_none, Option.map_some, Option.map_none, if_true, if_false, ite_true, ite_false, reduceCtorEq, decide_true, decide_false, Int.reducePow, Int.reduceToNat, Int.reduceMul, Int.reduceAdd, Int.reduceSub, Int.reduceNeg, Int.reduceLT, Int.reduceLE, List.map_append, List.map_cons, List.map_nil, g2m_ii, tLl, gInD_n, gInD_i, gInD_s, mmInsertu, g4maxu]) (fun z _ => by simp only [RD1, RD2, RD3, RD4, RD5, RD6, RD7, RD8, RD9, RD10, List.all_cons, List.all_nil, List.length_cons, List.length_nil, List.getElem?_cons_zero, List.getElem?_cons_succ, List.getElem?_nil, List.set_cons_zero, List.set_cons_succ, List.cons_append, List.nil_append, List.replicate_succ, List.replicate_zero, Nat.reduceAdd, Nat.reduceSub, Nat.reduceEqDiff, Nat.reduceLeDiff, Nat.reduceLT, Option.bind_some, Option.bind_none, Option.map_some, Option.map_none, if_true, if_false, ite_true, ite_false, reduceCtorEq, decide_true, decide_false, Int.reducePow, Int.reduceToNat, Int.reduceMul, Int.reduceAdd, Int.reduceSub, Int.reduceNeg, Int.reduceLT, Int.reduceLE, List.map_append, List.map_cons, List.map_nil, g2m_ii, tLl, gInD_n, gInD_i, gInD_s, mmInsertu, g4maxu]) (fun z hz => ?_) (fun z _ _ => by simp only [RD1, RD2, RD3, RD4, RD5, RD6, RD7, RD8, RD9, RD10, List.all_cons, List.all_nil, List.length_cons, List.length_nil, List.getElem?_cons_zero, List.getElem?_cons_succ, List.getElem?_nil, List.set_cons_zero, List.set_cons_succ, List.cons_append, List.nil_append, List.replicate_succ, List.replicate_zero, Nat.reduceAdd, Nat.reduceSub, Nat.reduceEqDiff, Nat.reduceLeDiff, Nat.reduceLT, Option.bind_some, Option.bind_none, Option.map_some, Option.map_none, if_true, if_false, ite_true, ite_false, reduceCtorEq, decide_true, decide_false, Int.reducePow, Int.reduceToNat, Int.reduceMul, Int.reduceAdd, Int.reduceSub, Int.reduceNeg, Int.reduceLT, Int.reduceLE, List.map_append, List.map_cons, List.map_nil, g2m_ii, tLl, gInD_n, gInD_i, gInD_s, mmInsertu, g4maxu])
    obtain ⟨r, h1, h2⟩ := find_nm (sev_in z hz).1 hg
    simp only [RD1, RD2, RD3, RD4, RD5, RD6, RD7, RD8, RD9, RD10, List.all_cons, List.all_nil, List.length_cons, List.length_nil, List.getElem?_cons_zero, List.getElem?_cons_succ, List.getElem?_nil, List.set_cons_zero, List.set_cons_succ, List.cons_append, List.nil_append, List.replicate_succ, List.replicate_zero, Nat.reduceAdd, Nat.reduceSub, Nat.reduceEqDiff, Nat.reduceLeDiff, Nat.reduceLT, Option.bind_some, Option.bind_none, Option.map_some, Option.map_none, if_true, if_false, ite_true, ite_false, reduceCtorEq, decide_true, decide_false, Int.reducePow, Int.reduceToNat, Int.reduceMul, Int.reduceAdd, Int.reduceSub, Int.reduceNeg, Int.reduceLT, Int.reduceLE, List.map_append, List.map_cons, List.map_nil, g2m_ii, tLl, gInD_n, gInD_i, gInD_s, mmInsertu, g4maxu, fInL, foAny, h1, h2, Bool.true_bne, Option.map_some]
  have hin : ∀ y ∈ sevN.filter fun z => !decide (z ∈ nmsOf ds), y ∈ sevN ∧ y ∉ nmsOf ds := fun y hy => by
    obtain ⟨h1, h2⟩ := List.mem_filter.mp hy
    exact ⟨h1, by simpa using h2⟩
  have hll : (sevN.filter fun z => !decide (z ∈ nmsOf ds)).length ≤ 7 := List.length_filter_le _ _
  generalize hL : (sevN.filter fun z => !decide (z ∈ nmsOf ds)) = L at hlc hin hll
  have hl6 : (L.map D.str).length ≤ 1000000 := by rw [List.length_map]; omega
  have hne := gNe_sn (ns := L) fun y hy => (sev_in y (hin y hy).1).1
  have hsv : sevN.map D.str = [.str "a", .str "b", .str "zz", .str "input", .str "abcdefgh", .str "last", .str "x"] := rfl
  rw [hsv] at hlc
  have hp : powC 10 30 = true := by decide
  have tail : ∀ s1 : Rn, s1.ok → ∃ (s' : Rn) (q : Int) (m : Mb), s'.ok ∧ (∃ s2 : Rn, F__law_pick [.ow true (rnD s1), .im (.lst [.int 1, .int 2, .int 7, .int 1000000000000000000000000000000])] = .rt (.int q) [.ow true (rnD s2), .im (.lst [.int 1, .int 2, .int 7, .int 1000000000000000000000000000000])] ∧ F__law_pick [.ow true (rnD s2), .im (.lst [(Mb.last q).tree, (Mb.first q).tree, (Mb.limit q).tree, (Mb.delay q).tree, (Mb.delay 0).tree])] = .rt m.tree [.ow true (rnD s'), .im (.lst [(Mb.last q).tree, (Mb.first q).tree, (Mb.limit q).tree, (Mb.delay q).tree, (Mb.delay 0).tree])]) ∧ 1 ≤ q := fun s1 o1 => by
    obtain ⟨s2, k, d, o2, hk, e2⟩ := F_pick s1 [.int 1, .int 2, .int 7, .int 1000000000000000000000000000000] o1 (by simp) (by simp)
    obtain ⟨q, rfl, hq⟩ : ∃ q, d = .int q ∧ 1 ≤ q := by
      rcases k with _ | _ | _ | _ | k
      · cases hk; exact ⟨_, rfl, by decide⟩
      · cases hk; exact ⟨_, rfl, by decide⟩
      · cases hk; exact ⟨_, rfl, by decide⟩
      · cases hk; exact ⟨_, rfl, by decide⟩
      · cases hk
    obtain ⟨s3, k3, d3, o3, hk3, e3⟩ := F_pick s2 [(Mb.last q).tree, (Mb.first q).tree, (Mb.limit q).tree, (Mb.delay q).tree, (Mb.delay 0).tree] o2 (by simp) (by simp)
    obtain ⟨m, rfl⟩ : ∃ m : Mb, d3 = m.tree := by
      rcases k3 with _ | _ | _ | _ | _ | k3
      · cases hk3; exact ⟨_, rfl⟩
      · cases hk3; exact ⟨_, rfl⟩
      · cases hk3; exact ⟨_, rfl⟩
      · cases hk3; exact ⟨_, rfl⟩
      · cases hk3; exact ⟨_, rfl⟩
      · cases hk3
    exact ⟨s3, q, m, o3, ⟨s2, e2, e3⟩, hq⟩
  unfold F__law_step b__law_step
  simp only [RD1, RD2, RD3, RD4, RD5, RD6, RD7, RD8, RD9, RD10, List.all_cons, List.all_nil, List.length_cons, List.length_nil, List.getElem?_cons_zero, List.getElem?_cons_succ, List.getElem?_nil, List.set_cons_zero, List.set_cons_succ, List.cons_append, List.nil_append, List.replicate_succ, List.replicate_zero, Nat.reduceAdd, Nat.reduceSub, Nat.reduceEqDiff, Nat.reduceLeDiff, Nat.reduceLT, Option.bind_some, Option.bind_none, Option.map_some, Option.map_none, if_true, if_false, ite_true, ite_false, reduceCtorEq, decide_true, decide_false, Int.reducePow, Int.reduceToNat, Int.reduceMul, Int.reduceAdd, Int.reduceSub, Int.reduceNeg, Int.reduceLT, Int.reduceLE, List.map_append, List.map_cons, List.map_nil, g2m_ii, tLl, gInD_n, gInD_i, gInD_s, mmInsertu, g4maxu, hlc, hl6, hne]
  cases hE : L.isEmpty with
  | true =>
    obtain ⟨s', q, m, o', ⟨s2, e2, e3⟩, hq⟩ := tail s o
    refine ⟨s', m.tree, o', .inr ⟨m, rfl⟩, (fun z h => by cases m <;> cases h), ?_⟩
    simp only [RD1, RD2, RD3, RD4, RD5, RD6, RD7, RD8, RD9, RD10, List.all_cons, List.all_nil, List.length_cons, List.length_nil, List.getElem?_cons_zero, List.getElem?_cons_succ, List.getElem?_nil, List.set_cons_zero, List.set_cons_succ, List.cons_append, List.nil_append, List.replicate_succ, List.replicate_zero, Nat.reduceAdd, Nat.reduceSub, Nat.reduceEqDiff, Nat.reduceLeDiff, Nat.reduceLT, Option.bind_some, Option.bind_none, Option.map_some, Option.map_none, if_true, if_false, ite_true, ite_false, reduceCtorEq, decide_true, decide_false, Int.reducePow, Int.reduceToNat, Int.reduceMul, Int.reduceAdd, Int.reduceSub, Int.reduceNeg, Int.reduceLT, Int.reduceLE, List.map_append, List.map_cons, List.map_nil, g2m_ii, tLl, gInD_n, gInD_i, gInD_s, mmInsertu, g4maxu, Bool.not_true, hp, e2, N_last hq, N_first hq, N_limit hq, N_delay (show 0 ≤ q by omega), N_delay (Int.le_refl 0), e3]
  | false =>
    obtain ⟨s1, r1, o1, a1, b1, e1⟩ := F_draw s 2 o (by omega) (by omega)
    by_cases hr : r1 = 0
    · obtain ⟨s2, k, d, o2, hk, e2⟩ := F_pick s1 (L.map D.str) o1 (by
        rw [List.length_map]
        cases L with
        | nil => cases hE
        | cons x l => exact Nat.succ_pos _) (by rw [List.length_map]; omega)
      rw [List.getElem?_map] at hk
      cases hz : L[k]? with
      | none =>
        rw [hz] at hk
        cases hk
      | some z =>
        rw [hz] at hk
        cases hk
        have hzL := List.mem_of_getElem? hz
        refine ⟨s2, .str z, o2, .inl ⟨z, (sev_in z (hin z hzL).1).1, rfl⟩, (fun y h => by
          cases h
          exact ⟨(hin z hzL).2, (sev_in z (hin z hzL).1).2⟩), ?_⟩
        simp only [RD1, RD2, RD3, RD4, RD5, RD6, RD7, RD8, RD9, RD10, List.all_cons, List.all_nil, List.length_cons, List.length_nil, List.getElem?_cons_zero, List.getElem?_cons_succ, List.getElem?_nil, List.set_cons_zero, List.set_cons_succ, List.cons_append, List.nil_append, List.replicate_succ, List.replicate_zero, Nat.reduceAdd, Nat.reduceSub, Nat.reduceEqDiff, Nat.reduceLeDiff, Nat.reduceLT, Option.bind_some, Option.bind_none, Option.map_some, Option.map_none, if_true, if_false, ite_true, ite_false, reduceCtorEq, decide_true, decide_false, Int.reducePow, Int.reduceToNat, Int.reduceMul, Int.reduceAdd, Int.reduceSub, Int.reduceNeg, Int.reduceLT, Int.reduceLE, List.map_append, List.map_cons, List.map_nil, g2m_ii, tLl, gInD_n, gInD_i, gInD_s, mmInsertu, g4maxu, Bool.not_false, e1, gEq_int, decide_eq_true hr, e2]
    · obtain ⟨s', q, m, o', ⟨s2, e2, e3⟩, hq⟩ := tail s1 o1
      refine ⟨s', m.tree, o', .inr ⟨m, rfl⟩, (fun z h => by cases m <;> cases h), ?_⟩
      simp only [RD1, RD2, RD3, RD4, RD5, RD6, RD7, RD8, RD9, RD10, List.all_cons, List.all_nil, List.length_cons, List.length_nil, List.getElem?_cons_zero, List.getElem?_cons_succ, List.getElem?_nil, List.set_cons_zero, List.set_cons_succ, List.cons_append, List.nil_append, List.replicate_succ, List.replicate_zero, Nat.reduceAdd, Nat.reduceSub, Nat.reduceEqDiff, Nat.reduceLeDiff, Nat.reduceLT, Option.bind_some, Option.bind_none, Option.map_some, Option.map_none, if_true, if_false, ite_true, ite_false, reduceCtorEq, decide_true, decide_false, Int.reducePow, Int.reduceToNat, Int.reduceMul, Int.reduceAdd, Int.reduceSub, Int.reduceNeg, Int.reduceLT, Int.reduceLE, List.map_append, List.map_cons, List.map_nil, g2m_ii, tLl, gInD_n, gInD_i, gInD_s, mmInsertu, g4maxu, Bool.not_false, e1, gEq_int, decide_eq_false hr, hp, e2, N_last hq, N_first hq, N_limit hq, N_delay (show 0 ≤ q by omega), N_delay (Int.le_refl 0), e3]

/-! steps, wrong steps -/
theorem cut_from (l : List D) (k : Nat) : cutD l (some (k : Int)) none = l.drop k := by
  unfold cutD
  rw [HT.sIx_none, HT.sIx_nat]
  rcases Nat.le_total k l.length with h | h
  · rw [Nat.min_eq_left h, List.take_of_length_le (by rw [List.length_drop]; exact Nat.le_refl _)]
  · rw [Nat.min_eq_right h, List.drop_of_length_le (Nat.le_refl _), List.drop_of_length_le h, List.take_nil]
theorem bus_snoc {ds : List D} {d : D} (o : BusOk ds) (g : Gd d) (h : ∀ z, d = .str z → z ∉ nmsOf ds) : BusOk (ds ++ [d]) := by
  refine ⟨fun x hx => ?_, ?_, ?_⟩
  · rcases List.mem_append.mp hx with q | q
    · exact o.gd x q
    · rw [List.mem_singleton.mp q]; exact g
  · rw [nmsOf_app]
    rcases g with ⟨z, hz, rfl⟩ | ⟨m, rfl⟩
    · refine List.nodup_append.mpr ⟨o.nd, List.nodup_cons.mpr ⟨List.not_mem_nil, List.nodup_nil⟩, fun a ha b hb e => ?_⟩
      rw [List.mem_singleton.mp (show b ∈ [z] from hb)] at e
      exact h z rfl (by rw [← e]; exact ha)
    · rw [nmsOf_mb, show nmsOf [] = [] from rfl, List.append_nil]
      exact o.nd
  · obtain ⟨z, r, hz, e⟩ := o.hd
    exact ⟨z, r ++ [d], hz, by rw [e]; rfl⟩
structure StepsOk (ds : List D) : Prop where
  ok : BusOk ds
  ot : ("other" : Str) ∉ nmsOf ds
  ln : ds.length ≤ 8
theorem F_steps (s : Rn) (o : s.ok) : ∃ (s' : Rn) (ds : List D), s'.ok ∧ StepsOk ds ∧ F__law_steps [.ow true (rnD s)] = .ro (.lst ds) [.ow true (rnD s')] := by
  obtain ⟨s1, k, d, o1, hk, e1⟩ := F_pick s [.str "a", .str "q", .str "names"] o (by simp) (by simp)
  obtain ⟨z, rfl, hz, hzo⟩ : ∃ z, d = .str z ∧ z ∈ nmsL ∧ z ≠ "other" := by
    rcases k with _ | _ | _ | k
    · cases hk; exact ⟨_, rfl, by decide +kernel, by decide +kernel⟩
    · cases hk; exact ⟨_, rfl, by decide +kernel, by decide +kernel⟩
    · cases hk; exact ⟨_, rfl, by decide +kernel, by decide +kernel⟩
    · cases hk
  obtain ⟨s2, r2, o2, a2, b2, e2⟩ := F_draw s1 8 o1 (by omega) (by omega)
  have ok0 : BusOk [.str z] := ⟨fun d hd => by
    rw [List.mem_singleton.mp hd]
    exact .inl ⟨z, hz, rfl⟩, List.nodup_cons.mpr ⟨List.not_mem_nil, List.nodup_nil⟩, ⟨z, [], hz, rfl⟩⟩
  have hot : ("other" : Str) ∉ nmsOf [.str z] := fun h => hzo (List.mem_singleton.mp (show ("other" : Str) ∈ [z] from h)).symm
  unfold F__law_steps b__law_steps
  simp only [RD1, RD2, RD3, RD4, RD5, RD6, RD7, RD8, RD9, RD10, List.all_cons, List.all_nil, List.length_cons, List.length_nil, List.getElem?_cons_zero, List.getElem?_cons_succ, List.getElem?_nil, List.set_cons_zero, List.set_cons_succ, List.cons_append, List.nil_append, List.replicate_succ, List.replicate_zero, Nat.reduceAdd, Nat.reduceSub, Nat.reduceEqDiff, Nat.reduceLeDiff, Nat.reduceLT, Option.bind_some, Option.bind_none, Option.map_some, Option.map_none, if_true, if_false, ite_true, ite_false, reduceCtorEq, decide_true, decide_false, Int.reducePow, Int.reduceToNat, Int.reduceMul, Int.reduceAdd, Int.reduceSub, Int.reduceNeg, Int.reduceLT, Int.reduceLE, List.map_append, List.map_cons, List.map_nil, g2m_ii, tLl, gInD_n, gInD_i, gInD_s, mmInsertu, g4maxu, e1, e2, bnd_of (n := r2) (by omega) (by omega)]
  rw [rgD0]
  obtain ⟨e', he', s3, ds, o3, k3, h3, l3, rfl⟩ := forL_rel (g := tN 2) (f := fun i : Nat => D.int (i : Nat)) (xs := List.range r2.toNat) (b := lp1__law_steps) (e := [.ow true (rnD s2), .ow false (.lst [.str z]), .no])
    (fun i e => ∃ (s' : Rn) (ds : List D), s'.ok ∧ BusOk ds ∧ ("other" : Str) ∉ nmsOf ds ∧ ds.length = i + 1 ∧ e = [.ow true (rnD s'), .ow false (.lst ds), .no])
    ⟨s2, [.str z], o2, ok0, hot, rfl, rfl⟩ (fun i hi e he => by
      obtain ⟨s, ds, o, k, h, l, rfl⟩ := he
      rw [List.length_range] at hi
      rw [List.getElem_range]
      obtain ⟨s4, d, o4, g4, n4, e4⟩ := F_step s o k.gd
      have hl : ds.length < 1000000 := by omega
      refine ⟨[.ow true (rnD s), .ow false (.lst ds), .im (.int (i : Nat))], _, by simp only [RD1, RD2, RD3, RD4, RD5, RD6, RD7, RD8, RD9, RD10, List.all_cons, List.all_nil, List.length_cons, List.length_nil, List.getElem?_cons_zero, List.getElem?_cons_succ, List.getElem?_nil, List.set_cons_zero, List.set_cons_succ, List.cons_append, List.nil_append, List.replicate_succ, List.replicate_zero, Nat.reduceAdd, Nat.reduceSub, Nat.reduceEqDiff, Nat.reduceLeDiff, Nat.reduceLT, Option.bind_some, Option.bind_none, Option.map_some, Option.map_none, if_true, if_false, ite_true, ite_false, reduceCtorEq, decide_true, decide_false, Int.reducePow, Int.reduceToNat, Int.reduceMul, Int.reduceAdd, Int.reduceSub, Int.reduceNeg, Int.reduceLT, Int.reduceLE, List.map_append, List.map_cons, List.map_nil, g2m_ii, tLl, gInD_n, gInD_i, gInD_s, mmInsertu, g4maxu], .inl ?_, s4, ds ++ [d], o4, bus_snoc k g4 (fun z hz => (n4 z hz).1), ?_, by rw [List.length_append, l]; rfl, rfl⟩
      · unfold lp1__law_steps
        simp only [RD1, RD2, RD3, RD4, RD5, RD6, RD7, RD8, RD9, RD10, List.all_cons, List.all_nil, List.length_cons, List.length_nil, List.getElem?_cons_zero, List.getElem?_cons_succ, List.getElem?_nil, List.set_cons_zero, List.set_cons_succ, List.cons_append, List.nil_append, List.replicate_succ, List.replicate_zero, Nat.reduceAdd, Nat.reduceSub, Nat.reduceEqDiff, Nat.reduceLeDiff, Nat.reduceLT, Option.bind_some, Option.bind_none, Option.map_some, Option.map_none, if_true, if_false, ite_true, ite_false, reduceCtorEq, decide_true, decide_false, Int.reducePow, Int.reduceToNat, Int.reduceMul, Int.reduceAdd, Int.reduceSub, Int.reduceNeg, Int.reduceLT, Int.reduceLE, List.map_append, List.map_cons, List.map_nil, g2m_ii, tLl, gInD_n, gInD_i, gInD_s, mmInsertu, g4maxu, e4, hl, show ndup [0, 1] = true from rfl]
      · rw [nmsOf_app]
        intro hm
        rcases List.mem_append.mp hm with q | q
        · exact h q
        · rcases g4 with ⟨z, hz, rfl⟩ | ⟨m, rfl⟩
          · exact (n4 z rfl).2 (List.mem_singleton.mp (show ("other" : Str) ∈ [z] from q)).symm
          · rw [nmsOf_mb] at q
            cases q)
  rw [he']
  rw [List.length_range] at l3
  refine ⟨s3, ds, o3, ⟨k3, h3, by omega⟩, ?_⟩
  simp only [RD1, RD2, RD3, RD4, RD5, RD6, RD7, RD8, RD9, RD10, List.all_cons, List.all_nil, List.length_cons, List.length_nil, List.getElem?_cons_zero, List.getElem?_cons_succ, List.getElem?_nil, List.set_cons_zero, List.set_cons_succ, List.cons_append, List.nil_append, List.replicate_succ, List.replicate_zero, Nat.reduceAdd, Nat.reduceSub, Nat.reduceEqDiff, Nat.reduceLeDiff, Nat.reduceLT, Option.bind_some, Option.bind_none, Option.map_some, Option.map_none, if_true, if_false, ite_true, ite_false, reduceCtorEq, decide_true, decide_false, Int.reducePow, Int.reduceToNat, Int.reduceMul, Int.reduceAdd, Int.reduceSub, Int.reduceNeg, Int.reduceLT, Int.reduceLE, List.map_append, List.map_cons, List.map_nil, g2m_ii, tLl, gInD_n, gInD_i, gInD_s, mmInsertu, g4maxu]
theorem F_ref {d : D} {k : Int} {o : D} (h : F_Bus___init__ [.ow true (.ins "Bus" [] []), .im d] = .xc (badB k) [.ow true o, .im d]) : F__law_refused [.im d] = .rt (.tup [.str "bus", .int k]) [.im d] := by
  have hx : ((["index"] : List Str).zip [D.int k]).lookup ("index" : Str) = some (.int k) := rfl
  have hc : xf.contains (("BadBus" : Str), ("index" : Str)) = true := rfl
  have hk : xiOf xt "BadBus" = some ⟨"BadBus", ["BadBus", "QuietError"]⟩ := rfl
  have hcn : (["BadBus", "QuietError"] : List Str).contains "BadBus" = true := rfl
  unfold F__law_refused b__law_refused
  simp only [RD1, RD2, RD3, RD4, RD5, RD6, RD7, RD8, RD9, RD10, List.all_cons, List.all_nil, List.length_cons, List.length_nil, List.getElem?_cons_zero, List.getElem?_cons_succ, List.getElem?_nil, List.set_cons_zero, List.set_cons_succ, List.cons_append, List.nil_append, List.replicate_succ, List.replicate_zero, Nat.reduceAdd, Nat.reduceSub, Nat.reduceEqDiff, Nat.reduceLeDiff, Nat.reduceLT, Option.bind_some, Option.bind_none, Option.map_some, Option.map_none, if_true, if_false, ite_true, ite_false, reduceCtorEq, decide_true, decide_false, Int.reducePow, Int.reduceToNat, Int.reduceMul, Int.reduceAdd, Int.reduceSub, Int.reduceNeg, Int.reduceLT, Int.reduceLE, List.map_append, List.map_cons, List.map_nil, g2m_ii, tLl, gInD_n, gInD_i, gInD_s, mmInsertu, g4maxu, cTryM, makeF_eq, h, badB, hk, goM, hcn, fXf, hx, hc, and_self]
  rw [show (uni fun _ _ => (Sr.nx [.im d, .im (.tup [.str "bus", .int k]), .no]).noX) = Sr.nx [.im d, .im (.tup [.str "bus", .int k]), .no] from uni_eq fun _ _ => rfl]
  simp only [RD1, RD2, RD3, RD4, RD5, RD6, RD7, RD8, RD9, RD10, List.all_cons, List.all_nil, List.length_cons, List.length_nil, List.getElem?_cons_zero, List.getElem?_cons_succ, List.getElem?_nil, List.set_cons_zero, List.set_cons_succ, List.cons_append, List.nil_append, List.replicate_succ, List.replicate_zero, Nat.reduceAdd, Nat.reduceSub, Nat.reduceEqDiff, Nat.reduceLeDiff, Nat.reduceLT, Option.bind_some, Option.bind_none, Option.map_some, Option.map_none, if_true, if_false, ite_true, ite_false, reduceCtorEq, decide_true, decide_false, Int.reducePow, Int.reduceToNat, Int.reduceMul, Int.reduceAdd, Int.reduceSub, Int.reduceNeg, Int.reduceLT, Int.reduceLE, List.map_append, List.map_cons, List.map_nil, g2m_ii, tLl, gInD_n, gInD_i, gInD_s, mmInsertu, g4maxu]

/-! wrong steps are refused -/
def bxD (k : Int) : D := .tup [.str "bus", .int k]
def ts2 (d : D) (ds : List D) : D := d
theorem ref_bad {x : D} {bad r0 ds : List D} {d : D} (hx : x = .lst ds ∨ x = .tup ds) (hds : ds = bad ++ d :: r0) (gd : ∀ d ∈ bad, Gd d) (nd : (nmsOf bad).Nodup) (h0 : bad = [] ∨ ∃ z r, bad = .str z :: r) (hl : bad.length ≤ 900) (hb : BadAt (nmsOf bad) bad.length d) :
    F__law_refused [.im x] = .rt (bxD (bad.length : Nat)) [.im x] := by
  rcases hx with rfl | rfl
  · exact F_ref (F_busx hds .iml gd nd h0 hl hb)
  · exact F_ref (F_busx hds .imt gd nd h0 hl hb)
theorem take_ok {ds : List D} (o : BusOk ds) (k : Nat) : (∀ d ∈ ds.take k, Gd d) ∧ (nmsOf (ds.take k)).Nodup ∧ (ds.take k = [] ∨ ∃ z r, ds.take k = .str z :: r) := by
  refine ⟨fun d hd => o.gd d (List.mem_of_mem_take hd), ?_, ?_⟩
  · have h := o.nd
    rw [← List.take_append_drop k ds, nmsOf_app] at h
    exact (List.nodup_append.mp h).1
  · obtain ⟨z, r, _, e⟩ := o.hd
    cases k with
    | zero => exact .inl rfl
    | succ k => exact .inr ⟨z, r.take k, by rw [e]; rfl⟩
def strange : List D := [.str "", .str "abcdefghi", .str "A", .str "a b", .str "a1", .str "a-", .non, .int 5, .bl true, .tup [.str "a"], .lst [.str "b"], .lst [], .str "last 3", busT [.str "a"]]
theorem str_odd : ∀ {k : Nat} {d : D}, strange[k]? = some d → Odd d := fun {k d} h => by
  unfold strange at h
  rcases k with _ | _ | _ | _ | _ | _ | _ | _ | _ | _ | _ | _ | _ | _ | k
  · cases h; exact ⟨rfl, rfl⟩
  · cases h; exact ⟨rfl, rfl⟩
  · cases h; exact ⟨rfl, rfl⟩
  · cases h; exact ⟨rfl, rfl⟩
  · cases h; exact ⟨rfl, rfl⟩
  · cases h; exact ⟨rfl, rfl⟩
  · cases h; exact ⟨rfl, rfl⟩
  · cases h; exact ⟨rfl, rfl⟩
  · cases h; exact ⟨rfl, rfl⟩
  · cases h; exact ⟨rfl, rfl⟩
  · cases h; exact ⟨rfl, rfl⟩
  · cases h; exact ⟨rfl, rfl⟩
  · cases h; exact ⟨rfl, rfl⟩
  · cases h; exact ⟨rfl, rfl⟩
  · cases h
theorem ref_no : ∀ x ∈ [D.lst [], .tup [], .non, .str "a", .int 7, .dic [] []], F__law_refused [.im x] = .rt (bxD (-1)) [.im x] := fun x hx => by
  have hb : F_Bus___init__ [.ow true (.ins "Bus" [] []), .im x] = .xc (badB (-1)) [.ow true (.ins "Bus" [] []), .im x] := by
    simp only [List.mem_cons, List.not_mem_nil, or_false] at hx
    rcases hx with rfl | rfl | rfl | rfl | rfl | rfl <;> rfl
  exact F_ref hb
theorem bx_ne (k : Int) : gNe (bxD k) (bxD k) = some (.bl false) := gNe_self (by
  have : PySem.PyData.strOk ("bus" : Str) = true := by decide +kernel
  show (okD 15 (.str "bus") && (okD 15 (.int k) && true)) = true
  exact Bool.and_eq_true_iff.mpr ⟨this, rfl⟩)
theorem F_wrong (s : Rn) (o : s.ok) {ds : List D} (k : StepsOk ds) : ∃ s' : Rn, s'.ok ∧ F__law_wrong_right [.ow true (rnD s), .im (.lst ds)] = .rt (.bl true) [.ow true (rnD s'), .im (.lst ds)] := by
  have hl := k.ln
  have ok := k.ok
  obtain ⟨s1, r1, o1, a1, b1, e1⟩ := F_draw s ((ds.length : Nat) + 1) o (by omega) (by omega)
  obtain ⟨n, rfl⟩ := Int.eq_ofNat_of_zero_le a1
  have hn : n ≤ ds.length := by omega
  obtain ⟨s2, j, odd, o2, hj, e2⟩ := F_pick s1 strange o1 (by decide) (by decide)
  have hodd := str_odd hj
  obtain ⟨t1, t2, t3⟩ := take_ok ok n
  have htl : (ds.take n).length = n := by rw [List.length_take]; omega
  have hBad : BadAt (nmsOf (ds.take n)) (ds.take n).length odd := .odd hodd
  have q1 := ref_bad (x := .lst (ds.take n ++ [odd] ++ ds.drop n)) (r0 := ds.drop n) (.inl rfl) (by rw [List.append_assoc]; rfl) t1 t2 t3 (by omega) hBad
  have q2 := ref_bad (x := .tup (ds.take n ++ [odd])) (r0 := []) (.inr rfl) rfl t1 t2 t3 (by omega) hBad
  rw [htl] at q1 q2
  have q3 : F__law_refused [.im (.lst ((Mb.last 3).tree :: ds))] = .rt (bxD 0) [.im (.lst ((Mb.last 3).tree :: ds))] := ref_bad (x := .lst ((Mb.last 3).tree :: ds)) (bad := []) (r0 := ds) (d := (Mb.last 3).tree) (.inl rfl) rfl (fun d h => by cases h) List.nodup_nil (.inl rfl) (by simp) (.mem rfl)
  have q4 : F__law_refused [.im (.tup [(Mb.delay 0).tree])] = .rt (bxD 0) [.im (.tup [(Mb.delay 0).tree])] := ref_bad (x := .tup [(Mb.delay 0).tree]) (bad := []) (r0 := []) (d := (Mb.delay 0).tree) (.inr rfl) rfl (fun d h => by cases h) List.nodup_nil (.inl rfl) (by simp) (.mem rfl)
  obtain ⟨z, r, hz, hds⟩ := ok.hd
  have hzin : z ∈ nmsOf ds := by rw [hds]; exact List.mem_cons_self
  have hne : ds.length ≠ 0 := by rw [hds]; exact Nat.succ_ne_zero _
  have q5 := ref_bad (x := .lst (ds ++ [.str z])) (bad := ds) (r0 := []) (.inl rfl) rfl ok.gd ok.nd (.inr ⟨z, r, hds⟩) (by omega) (.dup hzin hne)
  have q6 := ref_bad (x := .lst (ds ++ [odd, .str z])) (bad := ds) (r0 := [.str z]) (.inl rfl) rfl ok.gd ok.nd (.inr ⟨z, r, hds⟩) (by omega) (.odd hodd)
  have hix : atI ds 0 = some (.str z) := by rw [hds]; exact atI_of (n := 0) rfl rfl
  have c1 : (ds.take n).length + 1 ≤ 1000000 := by omega
  have c2 : (ds.take n ++ [odd]).length + (ds.drop n).length ≤ 1000000 := by rw [List.length_append, List.length_drop, htl]; show n + 1 + (ds.length - n) ≤ 1000000; omega
  have c3 : 1 + ds.length ≤ 1000000 := by omega
  have c4 : ds.length + 1 ≤ 1000000 := by omega
  have c5 : ds.length + 2 ≤ 1000000 := by omega
  have hbus : F_Bus___init__ [.ow true (.ins "Bus" [] []), .im (.lst [.str "a"])] = .rt .non [.ow true (busT [.str "a"]), .im (.lst [.str "a"])] := F_bus .iml ⟨fun d hd => by
    rw [List.mem_singleton.mp hd]
    exact .inl ⟨_, by decide +kernel, rfl⟩, List.nodup_cons.mpr ⟨List.not_mem_nil, List.nodup_nil⟩, ⟨"a", [], by decide +kernel, rfl⟩⟩ (by simp)
  have hb0 : ∀ i : Int, D.tup [.str "bus", .int i] = bxD i := fun _ => rfl
  have hlc : lcL false [6] (fB (f2 gNe (oi (fCall F__law_refused (fCons (oi (fVar 6)) fNil))) (oi (fSeq D.tup (fCons (oi (fC (.str "bus"))) (fCons (oi (f1 gNeg (oi (fC (.int 1))))) fNil)))))) (fVar 6) [D.lst [], .tup [], .non, .str "a", .int 7, .dic [] []] [.ow true (rnD s2), .im (.lst ds), .im (.int (n : Nat)), .im (.lst strange), .im odd, .no, .no] = .ok [] [.ow true (rnD s2), .im (.lst ds), .im (.int (n : Nat)), .im (.lst strange), .im odd, .no, .no] := by
    have := lcL_map (tu := false) (is := [6]) (ft := fB (f2 gNe (oi (fCall F__law_refused (fCons (oi (fVar 6)) fNil))) (oi (fSeq D.tup (fCons (oi (fC (.str "bus"))) (fCons (oi (f1 gNeg (oi (fC (.int 1))))) fNil)))))) (fe := fVar 6) (e := [.ow true (rnD s2), .im (.lst ds), .im (.int (n : Nat)), .im (.lst strange), .im odd, .no, .no]) (f := fun d : D => d) (xs := [D.lst [], .tup [], .non, .str "a", .int 7, .dic [] []]) (fun x => [x]) (fun _ => false) (fun x => x) (by simp only [RD1, RD2, RD3, RD4, RD5, RD6, RD7, RD8, RD9, RD10, List.all_cons, List.all_nil, List.length_cons, List.length_nil, List.getElem?_cons_zero, List.getElem?_cons_succ, List.getElem?_nil, List.set_cons_zero, List.set_cons_succ, List.cons_append, List.nil_append, List.replicate_succ, List.replicate_zero, Nat.reduceAdd, Nat.reduceSub, Nat.reduceEqDiff, Nat.reduceLeDiff, Nat.reduceLT, Option.bind_some, Option.bind_none, Option.map_some, Option.map_none, if_true, if_false, ite_true, ite_false, reduceCtorEq, decide_true, decide_false, Int.reducePow, Int.reduceToNat, Int.reduceMul, Int.reduceAdd, Int.reduceSub, Int.reduceNeg, Int.reduceLT, Int.reduceLE, List.map_append, List.map_cons, List.map_nil, g2m_ii, tLl, gInD_n, gInD_i, gInD_s, mmInsertu, g4maxu]) (by simp only [RD1, RD2, RD3, RD4, RD5, RD6, RD7, RD8, RD9, RD10, List.all_cons, List.all_nil, List.length_cons, List.length_nil, List.getElem?_cons_zero, List.getElem?_cons_succ, List.getElem?_nil, List.set_cons_zero, List.set_cons_succ, List.cons_append, List.nil_append, List.replicate_succ, List.replicate_zero, Nat.reduceAdd, Nat.reduceSub, Nat.reduceEqDiff, Nat.reduceLeDiff, Nat.reduceLT, Option.bind_some, Option.bind_none, Option.map_some, Option.map_none, if_true, if_false, ite_true, ite_false, reduceCtorEq, decide_true, decide_false, Int.reducePow, Int.reduceToNat, Int.reduceMul, Int.reduceAdd, Int.reduceSub, Int.reduceNeg, Int.reduceLT, Int.reduceLE, List.map_append, List.map_cons, List.map_nil, g2m_ii, tLl, gInD_n, gInD_i, gInD_s, mmInsertu, g4maxu]) (fun x _ => by simp only [RD1, RD2, RD3, RD4, RD5, RD6, RD7, RD8, RD9, RD10, List.all_cons, List.all_nil, List.length_cons, List.length_nil, List.getElem?_cons_zero, List.getElem?_cons_succ, List.getElem?_nil, List.set_cons_zero, List.set_cons_succ, List.cons_append, List.nil_append, List.replicate_succ, List.replicate_zero, Nat.reduceAdd, Nat.reduceSub, Nat.reduceEqDiff, Nat.reduceLeDiff, Nat.reduceLT, Option.bind_some, Option.bind_none, Option.map_some, Option.map_none, if_true, if_false, ite_true, ite_false, reduceCtorEq, decide_true, decide_false, Int.reducePow, Int.reduceToNat, Int.reduceMul, Int.reduceAdd, Int.reduceSub, Int.reduceNeg, Int.reduceLT, Int.reduceLE, List.map_append, List.map_cons, List.map_nil, g2m_ii, tLl, gInD_n, gInD_i, gInD_s, mmInsertu, g4maxu]) (fun x hx => by simp only [RD1, RD2, RD3, RD4, RD5, RD6, RD7, RD8, RD9, RD10, List.all_cons, List.all_nil, List.length_cons, List.length_nil, List.getElem?_cons_zero, List.getElem?_cons_succ, List.getElem?_nil, List.set_cons_zero, List.set_cons_succ, List.cons_append, List.nil_append, List.replicate_succ, List.replicate_zero, Nat.reduceAdd, Nat.reduceSub, Nat.reduceEqDiff, Nat.reduceLeDiff, Nat.reduceLT, Option.bind_some, Option.bind_none, Option.map_some, Option.map_none, if_true, if_false, ite_true, ite_false, reduceCtorEq, decide_true, decide_false, Int.reducePow, Int.reduceToNat, Int.reduceMul, Int.reduceAdd, Int.reduceSub, Int.reduceNeg, Int.reduceLT, Int.reduceLE, List.map_append, List.map_cons, List.map_nil, g2m_ii, tLl, gInD_n, gInD_i, gInD_s, mmInsertu, g4maxu, ref_no x hx, hb0, bx_ne]) (fun x _ h => by cases h)
    rw [List.map_id'] at this
    rw [this]
    rfl
  have hq : gEq (.lst []) (.lst []) = some (.bl true) := rfl
  refine ⟨s2, o2, ?_⟩
  have hstr : D.lst [.str "", .str "abcdefghi", .str "A", .str "a b", .str "a1", .str "a-", .non, .int 5, .bl true, .tup [.str "a"], .lst [.str "b"], .lst [], .str "last 3", busT [.str "a"]] = .lst strange := rfl
  unfold F__law_wrong_right b__law_wrong_right
  simp only [RD1, RD2, RD3, RD4, RD5, RD6, RD7, RD8, RD9, RD10, List.all_cons, List.all_nil, List.length_cons, List.length_nil, List.getElem?_cons_zero, List.getElem?_cons_succ, List.getElem?_nil, List.set_cons_zero, List.set_cons_succ, List.cons_append, List.nil_append, List.replicate_succ, List.replicate_zero, Nat.reduceAdd, Nat.reduceSub, Nat.reduceEqDiff, Nat.reduceLeDiff, Nat.reduceLT, Option.bind_some, Option.bind_none, Option.map_some, Option.map_none, if_true, if_false, ite_true, ite_false, reduceCtorEq, decide_true, decide_false, Int.reducePow, Int.reduceToNat, Int.reduceMul, Int.reduceAdd, Int.reduceSub, Int.reduceNeg, Int.reduceLT, Int.reduceLE, List.map_append, List.map_cons, List.map_nil, g2m_ii, tLl, gInD_n, gInD_i, gInD_s, mmInsertu, g4maxu, e1, makeF_eq, hbus, hstr, e2, cut_to, cut_from, c1, c2, forL_step, forL_nil]
  simp only [RD1, RD2, RD3, RD4, RD5, RD6, RD7, RD8, RD9, RD10, List.all_cons, List.all_nil, List.length_cons, List.length_nil, List.getElem?_cons_zero, List.getElem?_cons_succ, List.getElem?_nil, List.set_cons_zero, List.set_cons_succ, List.cons_append, List.nil_append, List.replicate_succ, List.replicate_zero, Nat.reduceAdd, Nat.reduceSub, Nat.reduceEqDiff, Nat.reduceLeDiff, Nat.reduceLT, Option.bind_some, Option.bind_none, Option.map_some, Option.map_none, if_true, if_false, ite_true, ite_false, reduceCtorEq, decide_true, decide_false, Int.reducePow, Int.reduceToNat, Int.reduceMul, Int.reduceAdd, Int.reduceSub, Int.reduceNeg, Int.reduceLT, Int.reduceLE, List.map_append, List.map_cons, List.map_nil, g2m_ii, tLl, gInD_n, gInD_i, gInD_s, mmInsertu, g4maxu, lp1__law_wrong_right, q1, q2, hb0, bx_ne, lp_nx, N_last (show (1 : Int) ≤ 3 by decide), N_delay (Int.le_refl 0), c3, c4, c5, q3, q4, q5, q6, hix, forL_step, forL_nil, lp2__law_wrong_right, makeF_eq]
  simp only [RD1, RD2, RD3, RD4, RD5, RD6, RD7, RD8, RD9, RD10, List.all_cons, List.all_nil, List.length_cons, List.length_nil, List.getElem?_cons_zero, List.getElem?_cons_succ, List.getElem?_nil, List.set_cons_zero, List.set_cons_succ, List.cons_append, List.nil_append, List.replicate_succ, List.replicate_zero, Nat.reduceAdd, Nat.reduceSub, Nat.reduceEqDiff, Nat.reduceLeDiff, Nat.reduceLT, Option.bind_some, Option.bind_none, Option.map_some, Option.map_none, if_true, if_false, ite_true, ite_false, reduceCtorEq, decide_true, decide_false, Int.reducePow, Int.reduceToNat, Int.reduceMul, Int.reduceAdd, Int.reduceSub, Int.reduceNeg, Int.reduceLT, Int.reduceLE, List.map_append, List.map_cons, List.map_nil, g2m_ii, tLl, gInD_n, gInD_i, gInD_s, mmInsertu, g4maxu, hlc, hq]

/-! k52 -/
theorem pd_tup (xs : List D) : pd (.tup xs) = .tuple (xs.map pd) := by
  rw [← pds_eq]
  simp only [pd]
theorem pd_lst (xs : List D) : pd (.lst xs) = .list (xs.map pd) := by
  rw [← pds_eq]
  simp only [pd]
theorem eqD_tl {xs ys : List D} : eqD (.tup xs) (.tup ys) = eqD (.lst xs) (.lst ys) := by
  unfold eqD
  rw [pd_tup, pd_tup, pd_lst, pd_lst]
  simp only [PyData.eqv]
theorem eqD_lc {x y : D} {xs ys : List D} : eqD (.lst (x :: xs)) (.lst (y :: ys)) = (eqD x y && eqD (.lst xs) (.lst ys)) := by
  unfold eqD
  rw [pd_lst, pd_lst, pd_lst, pd_lst]
  simp only [List.map_cons, PyData.eqv, PyData.eqvAll]
abbrev E1 : D → D → Option Bool := ownE tb eq1 F_Thing___eq___1
theorem mb_self1 (m : Mb) : F_Thing___eq___1 [.im m.tree, .im m.tree] = .rt (.bl true) [.im m.tree, .im m.tree] := by
  have h1 : gIsi tb [.own "Thing"] m.tree = some (.bl true) := by cases m <;> rfl
  have h2 : ∀ e, methF "class_name" [("Last", F_Last_class_name), ("First", F_First_class_name), ("Limit", F_Limit_class_name), ("Delay", F_Delay_class_name), ("Bus", F_Bus_class_name)] fNil (.im m.tree) e = .ok (.str (kindS m)) e := fun e => by cases m <;> rfl
  have h3 : ∀ e, methF "facts" [("Last", F_Member_facts), ("First", F_Member_facts), ("Limit", F_Member_facts), ("Delay", F_Delay_facts), ("Bus", F_Bus_facts)] fNil (.im m.tree) e = .ok (.tup [.int (num m)]) e := fun e => by cases m <;> rfl
  have h4 : gNe (.str (kindS m)) (.str (kindS m)) = some (.bl false) := by
    cases m with
    | last q => exact gNe_self (by decide +kernel : PySem.PyData.strOk "last" = true)
    | first q => exact gNe_self (by decide +kernel : PySem.PyData.strOk "first" = true)
    | limit q => exact gNe_self (by decide +kernel : PySem.PyData.strOk "limit" = true)
    | delay q => exact gNe_self (by decide +kernel : PySem.PyData.strOk "delay" = true)
  have h5 : eqO tb eq0 F_Thing___eq___0 (.tup [.int (num m)]) (.tup [.int (num m)]) = some true := by
    have hk : okD 16 (.tup [.int (num m)]) = true := rfl
    unfold eqO
    rw [eqT_flat hk hk, eqD_refl hk]
  unfold F_Thing___eq___1 b_Thing___eq___1
  simp only [RD1, RD2, RD3, RD4, RD5, RD6, RD7, RD8, RD9, RD10, List.all_cons, List.all_nil, List.length_cons, List.length_nil, List.getElem?_cons_zero, List.getElem?_cons_succ, List.getElem?_nil, List.set_cons_zero, List.set_cons_succ, List.cons_append, List.nil_append, List.replicate_succ, List.replicate_zero, Nat.reduceAdd, Nat.reduceSub, Nat.reduceEqDiff, Nat.reduceLeDiff, Nat.reduceLT, Option.bind_some, Option.bind_none, Option.map_some, Option.map_none, if_true, if_false, ite_true, ite_false, reduceCtorEq, decide_true, decide_false, Int.reducePow, Int.reduceToNat, Int.reduceMul, Int.reduceAdd, Int.reduceSub, Int.reduceNeg, Int.reduceLT, Int.reduceLE, List.map_append, List.map_cons, List.map_nil, g2m_ii, tLl, gInD_n, gInD_i, gInD_s, mmInsertu, g4maxu, h1, h2, h3, h4, h5, f2q_eq, qT_ii]
theorem mb_self0 (m : Mb) : F_Thing___eq___0 [.im m.tree, .im m.tree] = .rt (.bl true) [.im m.tree, .im m.tree] := by
  have h1 : gIsi tb [.own "Thing"] m.tree = some (.bl true) := by cases m <;> rfl
  have h2 : ∀ e, methF "class_name" [("Last", F_Last_class_name), ("First", F_First_class_name), ("Limit", F_Limit_class_name), ("Delay", F_Delay_class_name)] fNil (.im m.tree) e = .ok (.str (kindS m)) e := fun e => by cases m <;> rfl
  have h3 : ∀ e, methF "facts" [("Last", F_Member_facts), ("First", F_Member_facts), ("Limit", F_Member_facts), ("Delay", F_Delay_facts)] fNil (.im m.tree) e = .ok (.tup [.int (num m)]) e := fun e => by cases m <;> rfl
  have h4 : gNe (.str (kindS m)) (.str (kindS m)) = some (.bl false) := by
    cases m with
    | last q => exact gNe_self (by decide +kernel : PySem.PyData.strOk "last" = true)
    | first q => exact gNe_self (by decide +kernel : PySem.PyData.strOk "first" = true)
    | limit q => exact gNe_self (by decide +kernel : PySem.PyData.strOk "limit" = true)
    | delay q => exact gNe_self (by decide +kernel : PySem.PyData.strOk "delay" = true)
  have h5 : gEq (.tup [.int (num m)]) (.tup [.int (num m)]) = some (.bl true) := gEq_self rfl
  unfold F_Thing___eq___0 b_Thing___eq___0
  simp only [RD1, RD2, RD3, RD4, RD5, RD6, RD7, RD8, RD9, RD10, List.all_cons, List.all_nil, List.length_cons, List.length_nil, List.getElem?_cons_zero, List.getElem?_cons_succ, List.getElem?_nil, List.set_cons_zero, List.set_cons_succ, List.cons_append, List.nil_append, List.replicate_succ, List.replicate_zero, Nat.reduceAdd, Nat.reduceSub, Nat.reduceEqDiff, Nat.reduceLeDiff, Nat.reduceLT, Option.bind_some, Option.bind_none, Option.map_some, Option.map_none, if_true, if_false, ite_true, ite_false, reduceCtorEq, decide_true, decide_false, Int.reducePow, Int.reduceToNat, Int.reduceMul, Int.reduceAdd, Int.reduceSub, Int.reduceNeg, Int.reduceLT, Int.reduceLE, List.map_append, List.map_cons, List.map_nil, g2m_ii, tLl, gInD_n, gInD_i, gInD_s, mmInsertu, g4maxu, h1, h2, h3, h4, h5]
theorem self0 {n : Nat} {d : D} (h : Gd d) : eqT eq0 (ownE tb eq0 F_Thing___eq___0) (n + 1) d d = some true := by
  rcases h with ⟨z, hz, rfl⟩ | ⟨m, rfl⟩
  · have hs : okD 16 (.str z) = true := nm_ok z hz
    rw [eqT_flat hs hs, eqD_refl hs]
  · have := mb_self0 m
    cases m <;> (unfold Mb.tree at this ⊢; rw [eqT_ins]; exact ownE_of (by rfl) (by rfl) this)
theorem self1 {n : Nat} {d : D} (h : Gd d) : eqT eq1 E1 (n + 1) d d = some true := by
  rcases h with ⟨z, hz, rfl⟩ | ⟨m, rfl⟩
  · have hs : okD 16 (.str z) = true := nm_ok z hz
    rw [eqT_flat hs hs, eqD_refl hs]
  · have := mb_self1 m
    cases m <;> (unfold Mb.tree at this ⊢; rw [eqT_ins]; exact ownE_of (by rfl) (by rfl) this)
theorem steps_self {ds : List D} (hg : ∀ d ∈ ds, Gd d) : eqO tb eq1 F_Thing___eq___1 (.tup ds) (.tup ds) = some true := eqT_tup fun d hd => self1 (hg d hd)
theorem facts_self {ds : List D} (hg : ∀ d ∈ ds, Gd d) : eqO tb eq0 F_Thing___eq___0 (.tup [.tup ds]) (.tup [.tup ds]) = some true := by
  refine eqT_tup fun d hd => ?_
  rw [List.mem_singleton.mp hd]
  exact eqT_tup fun d hd => self0 (hg d hd)
theorem bus_cmp {ds es : List D} {b : Bool} (h : eqO tb eq0 F_Thing___eq___0 (.tup [.tup ds]) (.tup [.tup es]) = some b) : F_Thing___eq___1 [.im (busT ds), .im (busT es)] = .rt (.bl b) [.im (busT ds), .im (busT es)] := by
  have h1 : gIsi tb [.own "Thing"] (busT es) = some (.bl true) := rfl
  have h2 : ∀ (ds : List D) e, methF "class_name" [("Last", F_Last_class_name), ("First", F_First_class_name), ("Limit", F_Limit_class_name), ("Delay", F_Delay_class_name), ("Bus", F_Bus_class_name)] fNil (.im (busT ds)) e = .ok (.str "bus") e := fun _ _ => rfl
  have h3 : ∀ (ds : List D) e, methF "facts" [("Last", F_Member_facts), ("First", F_Member_facts), ("Limit", F_Member_facts), ("Delay", F_Delay_facts), ("Bus", F_Bus_facts)] fNil (.im (busT ds)) e = .ok (.tup [.tup ds]) e := fun _ _ => rfl
  have h4 : gNe (.str "bus") (.str "bus") = some (.bl false) := gNe_self (by decide +kernel : PySem.PyData.strOk "bus" = true)
  unfold F_Thing___eq___1 b_Thing___eq___1
  cases b <;> simp only [RD1, RD2, RD3, RD4, RD5, RD6, RD7, RD8, RD9, RD10, List.all_cons, List.all_nil, List.length_cons, List.length_nil, List.getElem?_cons_zero, List.getElem?_cons_succ, List.getElem?_nil, List.set_cons_zero, List.set_cons_succ, List.cons_append, List.nil_append, List.replicate_succ, List.replicate_zero, Nat.reduceAdd, Nat.reduceSub, Nat.reduceEqDiff, Nat.reduceLeDiff, Nat.reduceLT, Option.bind_some, Option.bind_none, Option.map_some, Option.map_none, if_true, if_false, ite_true, ite_false, reduceCtorEq, decide_true, decide_false, Int.reducePow, Int.reduceToNat, Int.reduceMul, Int.reduceAdd, Int.reduceSub, Int.reduceNeg, Int.reduceLT, Int.reduceLE, List.map_append, List.map_cons, List.map_nil, g2m_ii, tLl, gInD_n, gInD_i, gInD_s, mmInsertu, g4maxu, h1, h2, h3, h4, h, f2q_eq, qT_ii]
theorem bus_E {ds es : List D} {b : Bool} (h : eqO tb eq0 F_Thing___eq___0 (.tup [.tup ds]) (.tup [.tup es]) = some b) : E1 (busT ds) (busT es) = some b := ownE_of (by rfl) (by rfl) (bus_cmp h)
theorem bus_eqO {ds es : List D} {b : Bool} (h : eqO tb eq0 F_Thing___eq___0 (.tup [.tup ds]) (.tup [.tup es]) = some b) : eqO tb eq1 F_Thing___eq___1 (busT ds) (busT es) = some b := by
  unfold eqO
  rw [show busT ds = .ins "Bus" ["steps"] [.tup ds] from rfl, eqT_ins]
  exact bus_E h
abbrev E0f : D → D → Option Bool := ownE tb eq0 F_Thing___eq___0
theorem tup_false {n : Nat} {A B : List D} (h : cmpS (idn eq0 (eqT eq0 E0f n)) A B = some false) (hf : eqD (.lst A) (.lst B) = false) : eqT eq0 E0f (n + 1) (.tup A) (.tup B) = some false := by
  unfold eqT
  split
  · rw [eqD_tl, hf]
  · exact h
theorem tup1_false {n : Nat} {A B : List D} (h : cmpS (idn eq0 (eqT eq0 E0f n)) A B = some false) (hm : mb eq0 (.tup A) (.tup B) = false) (hf : eqD (.lst A) (.lst B) = false) : eqT eq0 E0f (n + 2) (.tup [.tup A]) (.tup [.tup B]) = some false := by
  have h1 := tup_false h hf
  have h2 : idn eq0 (eqT eq0 E0f (n + 1)) (.tup A) (.tup B) = some false := by
    unfold idn
    rw [h1]
    dsimp only
    rw [hm]
    rfl
  refine tup_false ?_ ?_
  · unfold cmpS
    dsimp only
    rw [h2]
  · rw [eqD_lc, eqD_tl, hf]
    rfl
theorem cmp_more {T : D → D → Option Bool} {x : D} : ∀ {ds : List D}, (∀ d ∈ ds, T d d = some true) → cmpS T (ds ++ [x]) ds = some false
  | [], _ => rfl
  | d :: ds, h => by
    rw [List.cons_append]
    unfold cmpS
    dsimp only
    rw [h d List.mem_cons_self]
    exact cmp_more fun d hd => h d (List.mem_cons_of_mem _ hd)
theorem mb_more {CL : List Str} {x : D} : ∀ {ds : List D}, mbs CL (ds ++ [x]) ds = false
  | [] => rfl
  | d :: ds => by
    rw [List.cons_append]
    unfold mbs
    dsimp only
    rw [mb_more, Bool.and_false]
theorem eqD_more {x : D} : ∀ {ds : List D}, eqD (.lst (ds ++ [x])) (.lst ds) = false
  | [] => by
    unfold eqD
    rw [pd_lst, pd_lst]
    rfl
  | d :: ds => by
    rw [List.cons_append, eqD_lc, eqD_more, Bool.and_false]
theorem more_ne {ds : List D} {x : D} (hg : ∀ d ∈ ds, Gd d) : eqO tb eq0 F_Thing___eq___0 (.tup [.tup (ds ++ [x])]) (.tup [.tup ds]) = some false := by
  refine tup1_false (n := 4) (cmp_more fun d hd => ?_) ?_ eqD_more
  · unfold idn
    rw [self0 (hg d hd)]
  · unfold mb
    exact mb_more
theorem head_ne {w z : Str} {r r' : List D} (hw : w ∈ nmsL) (hz : z ∈ nmsL) (h : w ≠ z) : eqO tb eq0 F_Thing___eq___0 (.tup [.tup (.str w :: r)]) (.tup [.tup (.str z :: r')]) = some false := by
  have hmb : mb eq0 (.str w) (.str z) = false := by
    unfold mb
    exact beq_eq_false_iff_ne.mpr h
  refine tup1_false (n := 4) ?_ ?_ ?_
  · have : idn eq0 (eqT eq0 E0f 4) (.str w) (.str z) = some false := by
      unfold idn
      rw [eqT_flat (show okD 16 (.str w) = true from nm_ok w hw) (show okD 16 (.str z) = true from nm_ok z hz), eqD_str, decide_eq_false h]
      dsimp only
      rw [hmb]
      rfl
    unfold cmpS
    dsimp only
    rw [this]
  · unfold mb mbs
    dsimp only
    rw [hmb]
    rfl
  · rw [eqD_lc, eqD_str, decide_eq_false h]
    rfl
abbrev T1 : D → D → Option Bool := eqR (idn eq1 (eqO tb eq1 F_Thing___eq___1)) E1
theorem T1_bus {ds es : List D} (h : eqO tb eq0 F_Thing___eq___0 (.tup [.tup ds]) (.tup [.tup es]) = some false) (hm : mb eq1 (.tup ds) (.tup es) = false) : T1 (busT ds) (busT es) = some false := by
  have h1 := bus_eqO h
  have hm2 : mb eq1 (busT ds) (busT es) = false := by
    unfold busT mb mbs
    dsimp only
    rw [hm, Bool.false_and, Bool.and_false]
  unfold T1 eqR idn
  rw [h1]
  dsimp only
  rw [hm2]
  rfl
theorem T1_rf {es : List D} {d : D} (hd : isRf d = true) (hg : gIsi tb [.own "Thing"] d = some (.bl false)) (ht : (tagOf tb d).isSome = true) (hq : ∀ n, eqT eq1 E1 n d (busT es) = none) : T1 d (busT es) = some false := by
  have hF : F_Thing___eq___1 [.im (busT es), .im d] = .rt (.bl false) [.im (busT es), .im d] := by
    unfold F_Thing___eq___1 b_Thing___eq___1
    simp only [RD1, RD2, RD3, RD4, RD5, RD6, RD7, RD8, RD9, RD10, List.all_cons, List.all_nil, List.length_cons, List.length_nil, List.getElem?_cons_zero, List.getElem?_cons_succ, List.getElem?_nil, List.set_cons_zero, List.set_cons_succ, List.cons_append, List.nil_append, List.replicate_succ, List.replicate_zero, Nat.reduceAdd, Nat.reduceSub, Nat.reduceEqDiff, Nat.reduceLeDiff, Nat.reduceLT, Option.bind_some, Option.bind_none, Option.map_some, Option.map_none, if_true, if_false, ite_true, ite_false, reduceCtorEq, decide_true, decide_false, Int.reducePow, Int.reduceToNat, Int.reduceMul, Int.reduceAdd, Int.reduceSub, Int.reduceNeg, Int.reduceLT, Int.reduceLE, List.map_append, List.map_cons, List.map_nil, g2m_ii, tLl, gInD_n, gInD_i, gInD_s, mmInsertu, g4maxu, hg]
  have hE : E1 (busT es) d = some false := ownE_of (by rfl) ht hF
  have h0 : eqO tb eq1 F_Thing___eq___1 d (busT es) = none := hq _
  unfold T1 eqR idn
  rw [h0]
  dsimp only
  rw [if_pos hd, hE]
theorem eqT_rf {es : List D} {d : D} (hd : isRf d = true) : ∀ n, eqT eq1 E1 n d (busT es) = none
  | 0 => rfl
  | n + 1 => by
    have hb : okD 16 (busT es) = false := okD_ins
    unfold eqT
    rw [hb, Bool.and_false, if_neg Bool.false_ne_true]
    cases d <;> first | rfl | cases hd
theorem law_ok (ns : List Int) (h : ns.length ≤ 63) : ∃ sl', F_law [.im (.lst (ns.map D.int))] = .rt (.bl true) sl' := by
  obtain ⟨c0, hc0⟩ : ∃ c : Int, F__law_cell [.im (.lst (ns.map D.int)), .im (.int 0)] = .rt (.int c) [.im (.lst (ns.map D.int)), .im (.int 0)] := by
    cases ns with
    | nil => exact ⟨0, rfl⟩
    | cons a l =>
      refine ⟨a, ?_⟩
      have h0 : ((0 : Int) < (((a :: l).map D.int).length : Nat)) := by rw [List.map_cons, List.length_cons]; omega
      have hx : atI ((a :: l).map D.int) 0 = some (.int a) := atI_of (n := 0) rfl rfl
      generalize (a :: l).map D.int = Z at h0 hx
      unfold F__law_cell b__law_cell
      simp only [RD1, RD2, RD3, RD4, RD5, RD6, RD7, RD8, RD9, RD10, List.all_cons, List.all_nil, List.length_cons, List.length_nil, List.getElem?_cons_zero, List.getElem?_cons_succ, List.getElem?_nil, List.set_cons_zero, List.set_cons_succ, List.cons_append, List.nil_append, List.replicate_succ, List.replicate_zero, Nat.reduceAdd, Nat.reduceSub, Nat.reduceEqDiff, Nat.reduceLeDiff, Nat.reduceLT, Option.bind_some, Option.bind_none, Option.map_some, Option.map_none, if_true, if_false, ite_true, ite_false, reduceCtorEq, decide_true, decide_false, Int.reducePow, Int.reduceToNat, Int.reduceMul, Int.reduceAdd, Int.reduceSub, Int.reduceNeg, Int.reduceLT, Int.reduceLE, List.map_append, List.map_cons, List.map_nil, g2m_ii, tLl, gInD_n, gInD_i, gInD_s, mmInsertu, g4maxu, h0, hx]
  obtain ⟨cs, hcs, hcl⟩ : ∃ cs : List Int, cutD (ns.map D.int) (some 1) (some 3) = cs.map D.int ∧ cs.length ≤ 63 := by
    refine ⟨(ns.drop (HT.sIx (ns.map D.int).length 0 (some 1))).take (HT.sIx (ns.map D.int).length (ns.map D.int).length (some 3) - HT.sIx (ns.map D.int).length 0 (some 1)), ?_, ?_⟩
    · unfold cutD
      rw [← List.map_drop, ← List.map_take]
    · rw [List.length_take, List.length_drop]
      omega
  have hcl2 : 1 + cs.length ≤ 1000000 := by omega
  unfold F_law b_law
  simp only [RD1, RD2, RD3, RD4, RD5, RD6, RD7, RD8, RD9, RD10, List.all_cons, List.all_nil, List.length_cons, List.length_nil, List.getElem?_cons_zero, List.getElem?_cons_succ, List.getElem?_nil, List.set_cons_zero, List.set_cons_succ, List.cons_append, List.nil_append, List.replicate_succ, List.replicate_zero, Nat.reduceAdd, Nat.reduceSub, Nat.reduceEqDiff, Nat.reduceLeDiff, Nat.reduceLT, Option.bind_some, Option.bind_none, Option.map_some, Option.map_none, if_true, if_false, ite_true, ite_false, reduceCtorEq, decide_true, decide_false, Int.reducePow, Int.reduceToNat, Int.reduceMul, Int.reduceAdd, Int.reduceSub, Int.reduceNeg, Int.reduceLT, Int.reduceLE, List.map_append, List.map_cons, List.map_nil, g2m_ii, tLl, gInD_n, gInD_i, gInD_s, mmInsertu, g4maxu, hc0, hcs, List.length_map, hcl2]
  have hmm : D.int c0 :: cs.map D.int = (c0 :: cs).map D.int := rfl
  rw [hmm, forL_go (fun _ => [.im (.lst (ns.map D.int)), .no, .no, .no, .no, .no, .no])]
  · simp only [RD1, RD2, RD3, RD4, RD5, RD6, RD7, RD8, RD9, RD10, List.all_cons, List.all_nil, List.length_cons, List.length_nil, List.getElem?_cons_zero, List.getElem?_cons_succ, List.getElem?_nil, List.set_cons_zero, List.set_cons_succ, List.cons_append, List.nil_append, List.replicate_succ, List.replicate_zero, Nat.reduceAdd, Nat.reduceSub, Nat.reduceEqDiff, Nat.reduceLeDiff, Nat.reduceLT, Option.bind_some, Option.bind_none, Option.map_some, Option.map_none, if_true, if_false, ite_true, ite_false, reduceCtorEq, decide_true, decide_false, Int.reducePow, Int.reduceToNat, Int.reduceMul, Int.reduceAdd, Int.reduceSub, Int.reduceNeg, Int.reduceLT, Int.reduceLE, List.map_append, List.map_cons, List.map_nil, g2m_ii, tLl, gInD_n, gInD_i, gInD_s, mmInsertu, g4maxu]
    exact ⟨_, rfl⟩
  · rfl
  · intro i hi
    rw [List.getElem_map]
    generalize (c0 :: cs)[i]'(by rw [List.length_map] at hi; exact hi) = c
    obtain ⟨s0, o0, e0⟩ := F_rng c
    refine ⟨[.im (.lst (ns.map D.int)), .im (.int c), .no, .no, .no, .no, .no], by simp only [RD1, RD2, RD3, RD4, RD5, RD6, RD7, RD8, RD9, RD10, List.all_cons, List.all_nil, List.length_cons, List.length_nil, List.getElem?_cons_zero, List.getElem?_cons_succ, List.getElem?_nil, List.set_cons_zero, List.set_cons_succ, List.cons_append, List.nil_append, List.replicate_succ, List.replicate_zero, Nat.reduceAdd, Nat.reduceSub, Nat.reduceEqDiff, Nat.reduceLeDiff, Nat.reduceLT, Option.bind_some, Option.bind_none, Option.map_some, Option.map_none, if_true, if_false, ite_true, ite_false, reduceCtorEq, decide_true, decide_false, Int.reducePow, Int.reduceToNat, Int.reduceMul, Int.reduceAdd, Int.reduceSub, Int.reduceNeg, Int.reduceLT, Int.reduceLE, List.map_append, List.map_cons, List.map_nil, g2m_ii, tLl, gInD_n, gInD_i, gInD_s, mmInsertu, g4maxu], .inl ?_⟩
    have b4 : bnd 4 = true := rfl
    obtain ⟨e', he', s', o', rfl⟩ := forL_rel (g := tN 3) (f := fun i : Nat => D.int (i : Nat)) (xs := List.range 4) (b := lp1_law) (e := [.im (.lst (ns.map D.int)), .im (.int c), .ow false (rnD s0), .no, .no, .no, .no])
      (fun _ e => ∃ s' : Rn, s'.ok ∧ e = [.im (.lst (ns.map D.int)), .im (.int c), .ow false (rnD s'), .no, .no, .no, .no])
      ⟨s0, o0, rfl⟩ (fun k hk e he => by
        obtain ⟨s, o, rfl⟩ := he
        rw [List.getElem_range]
        obtain ⟨s1, ds, o1, st, e1⟩ := F_steps s o
        obtain ⟨s2, o2, e2⟩ := F_wrong s1 o1 st
        have ok := st.ok
        have hl := st.ln
        obtain ⟨z, r, hz, hds⟩ := ok.hd
        have okm : BusOk (ds ++ [(Mb.last 2).tree]) := bus_snoc ok (.inr ⟨_, rfl⟩) (fun z h => by cases h)
        have hnm : nmsOf ds = z :: nmsOf r := by rw [hds]; rfl
        have hzo : ("other" : Str) ≠ z := fun e => st.ot (by rw [hnm, e]; exact List.mem_cons_self)
        have ho : ("other" : Str) ∈ nmsL := by decide +kernel
        have oko : BusOk (.str "other" :: r) := by
          refine ⟨fun d hd => ?_, ?_, ⟨"other", r, ho, rfl⟩⟩
          · rcases List.mem_cons.mp hd with q | q
            · rw [q]; exact .inl ⟨_, ho, rfl⟩
            · exact ok.gd d (by rw [hds]; exact List.mem_cons_of_mem _ q)
          · have h1 := ok.nd
            rw [hnm] at h1
            refine List.nodup_cons.mpr ⟨fun hm => st.ot (by rw [hnm]; exact List.mem_cons_of_mem _ hm), (List.nodup_cons.mp h1).2⟩
        have hrl : r.length ≤ 8 := by
          rw [hds, List.length_cons] at hl
          omega
        have f1 := F_bus (.owl : StS ds _ _) ok (by omega)
        have f2' := F_bus (.imt : StS ds _ _) ok (by omega)
        have f3 := F_bus (.iml : StS (ds ++ [(Mb.last 2).tree]) _ _) okm (by rw [List.length_append]; show ds.length + 1 ≤ 1000; omega)
        have f4 := F_bus (.iml : StS (.str "other" :: r) _ _) oko (by rw [List.length_cons]; omega)
        have hcut : cutD ds (some 1) none = r := by
          rw [show (some (1 : Int)) = some ((1 : Nat) : Int) from rfl, cut_from, hds]
          rfl
        have q1 := steps_self ok.gd
        have q2 := bus_eqO (facts_self ok.gd)
        have k1 : T1 (busT (ds ++ [(Mb.last 2).tree])) (busT ds) = some false := T1_bus (more_ne ok.gd) (by unfold mb; exact mb_more)
        have k2 : T1 (busT (.str "other" :: r)) (busT ds) = some false := by
          rw [hds]
          refine T1_bus (head_ne ho hz hzo) ?_
          unfold mb mbs
          dsimp only
          have : mb eq1 (.str "other") (.str z) = false := by
            unfold mb
            exact beq_eq_false_iff_ne.mpr hzo
          rw [this]
          rfl
        have k3 : T1 (.tup ds) (busT ds) = some false := T1_rf rfl rfl rfl (eqT_rf rfl)
        have k4 : T1 (.lst ds) (busT ds) = some false := T1_rf rfl rfl rfl (eqT_rf rfl)
        have k5 : T1 .non (busT ds) = some false := T1_rf rfl rfl rfl (eqT_rf rfl)
        have hfind : findT T1 (busT ds) [busT (ds ++ [(Mb.last 2).tree]), busT (.str "other" :: r), .tup ds, .lst ds, .non] = some none := by
          simp only [findT, k1, k2, k3, k4, k5, Option.map_some, Option.map_none]
        have c1 : ds.length < 1000000 := by omega
        have c2 : ds.length + 1 ≤ 1000000 := by omega
        have c3 : 1 + r.length ≤ 1000000 := by omega
        have fi : F_Member___init__ [.ow true (.ins "Last" [] []), .im (.int 2)] = .rt .non [.ow true (.ins "Last" ["q"] [.int 2]), .im (.int 2)] := F_init3 (.inl rfl) (by decide)
        have hlt : D.ins "Last" ["q"] [.int 2] = (Mb.last 2).tree := rfl
        have hfl : gFld tb "steps" (busT ds) = some (.tup ds) := rfl
        have hit : gIsi tb [.ty "tuple"] (.tup ds) = some (.bl true) := rfl
        refine ⟨[.im (.lst (ns.map D.int)), .im (.int c), .ow false (rnD s), .im (.int (k : Nat)), .no, .no, .no], _, by simp only [RD1, RD2, RD3, RD4, RD5, RD6, RD7, RD8, RD9, RD10, List.all_cons, List.all_nil, List.length_cons, List.length_nil, List.getElem?_cons_zero, List.getElem?_cons_succ, List.getElem?_nil, List.set_cons_zero, List.set_cons_succ, List.cons_append, List.nil_append, List.replicate_succ, List.replicate_zero, Nat.reduceAdd, Nat.reduceSub, Nat.reduceEqDiff, Nat.reduceLeDiff, Nat.reduceLT, Option.bind_some, Option.bind_none, Option.map_some, Option.map_none, if_true, if_false, ite_true, ite_false, reduceCtorEq, decide_true, decide_false, Int.reducePow, Int.reduceToNat, Int.reduceMul, Int.reduceAdd, Int.reduceSub, Int.reduceNeg, Int.reduceLT, Int.reduceLE, List.map_append, List.map_cons, List.map_nil, g2m_ii, tLl, gInD_n, gInD_i, gInD_s, mmInsertu, g4maxu], .inl ?_, s2, o2, rfl⟩
        unfold lp1_law
        simp only [RD1, RD2, RD3, RD4, RD5, RD6, RD7, RD8, RD9, RD10, List.all_cons, List.all_nil, List.length_cons, List.length_nil, List.getElem?_cons_zero, List.getElem?_cons_succ, List.getElem?_nil, List.set_cons_zero, List.set_cons_succ, List.cons_append, List.nil_append, List.replicate_succ, List.replicate_zero, Nat.reduceAdd, Nat.reduceSub, Nat.reduceEqDiff, Nat.reduceLeDiff, Nat.reduceLT, Option.bind_some, Option.bind_none, Option.map_some, Option.map_none, if_true, if_false, ite_true, ite_false, reduceCtorEq, decide_true, decide_false, Int.reducePow, Int.reduceToNat, Int.reduceMul, Int.reduceAdd, Int.reduceSub, Int.reduceNeg, Int.reduceLT, Int.reduceLE, List.map_append, List.map_cons, List.map_nil, g2m_ii, tLl, gInD_n, gInD_i, gInD_s, mmInsertu, g4maxu, e1, makeF_eq, f1, c1, fRevM, hfl, hit, q1, q2, f2', f2q_eq, qT_ii, fi, hlt, c2, c3, f3, f4, hcut, fInO, gInO, hfind, Option.isSome_none, Bool.bne_false, e2])
    unfold lp2_law
    simp only [RD1, RD2, RD3, RD4, RD5, RD6, RD7, RD8, RD9, RD10, List.all_cons, List.all_nil, List.length_cons, List.length_nil, List.getElem?_cons_zero, List.getElem?_cons_succ, List.getElem?_nil, List.set_cons_zero, List.set_cons_succ, List.cons_append, List.nil_append, List.replicate_succ, List.replicate_zero, Nat.reduceAdd, Nat.reduceSub, Nat.reduceEqDiff, Nat.reduceLeDiff, Nat.reduceLT, Option.bind_some, Option.bind_none, Option.map_some, Option.map_none, if_true, if_false, ite_true, ite_false, reduceCtorEq, decide_true, decide_false, Int.reducePow, Int.reduceToNat, Int.reduceMul, Int.reduceAdd, Int.reduceSub, Int.reduceNeg, Int.reduceLT, Int.reduceLE, List.map_append, List.map_cons, List.map_nil, g2m_ii, tLl, gInD_n, gInD_i, gInD_s, mmInsertu, g4maxu, e0, b4]
    rw [show rgD 0 4 = (List.range 4).map fun i : Nat => D.int (i : Nat) from by rw [rgD0]]
    rw [he']
    simp only [RD1, RD2, RD3, RD4, RD5, RD6, RD7, RD8, RD9, RD10, List.all_cons, List.all_nil, List.length_cons, List.length_nil, List.getElem?_cons_zero, List.getElem?_cons_succ, List.getElem?_nil, List.set_cons_zero, List.set_cons_succ, List.cons_append, List.nil_append, List.replicate_succ, List.replicate_zero, Nat.reduceAdd, Nat.reduceSub, Nat.reduceEqDiff, Nat.reduceLeDiff, Nat.reduceLT, Option.bind_some, Option.bind_none, Option.map_some, Option.map_none, if_true, if_false, ite_true, ite_false, reduceCtorEq, decide_true, decide_false, Int.reducePow, Int.reduceToNat, Int.reduceMul, Int.reduceAdd, Int.reduceSub, Int.reduceNeg, Int.reduceLT, Int.reduceLE, List.map_append, List.map_cons, List.map_nil, g2m_ii, tLl, gInD_n, gInD_i, gInD_s, mmInsertu, g4maxu]

end Law

namespace Law
open PySem PySem.Spec L2 TL
theorem sc__law_rng : FnScope N__law_rng ["_law_cell_here"] (defScope st__law_rng) := ⟨rfl, rfl, rfl, by decide +kernel, rfl, by decide +kernel, by decide +kernel⟩
theorem sc__law_cell : FnScope N__law_cell ["_law_script", "_law_index"] (defScope st__law_cell) := ⟨rfl, rfl, rfl, by decide +kernel, rfl, by decide +kernel, by decide +kernel⟩
theorem sc__law_draw : FnScope N__law_draw ["_law_rng_here", "_law_limit"] (defScope st__law_draw) := ⟨rfl, rfl, rfl, by decide +kernel, rfl, by decide +kernel, by decide +kernel⟩
theorem sc__law_pick : FnScope N__law_pick ["_law_rng_here", "_law_items"] (defScope st__law_pick) := ⟨rfl, rfl, rfl, by decide +kernel, rfl, by decide +kernel, by decide +kernel⟩
theorem sc_Member_facts : FnScope N_Member_facts ["self"] (defScope st_Member_facts) := ⟨rfl, rfl, rfl, by decide +kernel, rfl, by decide +kernel, by decide +kernel⟩
theorem sc_Delay_facts : FnScope N_Delay_facts ["self"] (defScope st_Delay_facts) := ⟨rfl, rfl, rfl, by decide +kernel, rfl, by decide +kernel, by decide +kernel⟩
theorem sc_Last_class_name : FnScope N_Last_class_name ["self"] (defScope st_Last_class_name) := ⟨rfl, rfl, rfl, by decide +kernel, rfl, by decide +kernel, by decide +kernel⟩
theorem sc_First_class_name : FnScope N_First_class_name ["self"] (defScope st_First_class_name) := ⟨rfl, rfl, rfl, by decide +kernel, rfl, by decide +kernel, by decide +kernel⟩
theorem sc_Limit_class_name : FnScope N_Limit_class_name ["self"] (defScope st_Limit_class_name) := ⟨rfl, rfl, rfl, by decide +kernel, rfl, by decide +kernel, by decide +kernel⟩
theorem sc_Delay_class_name : FnScope N_Delay_class_name ["self"] (defScope st_Delay_class_name) := ⟨rfl, rfl, rfl, by decide +kernel, rfl, by decide +kernel, by decide +kernel⟩
theorem sc_Thing___eq___0 : FnScope N_Thing___eq___0 ["self", "other"] (defScope st_Thing___eq___0) := ⟨rfl, rfl, rfl, by decide +kernel, rfl, by decide +kernel, by decide +kernel⟩
theorem sc_is_number : FnScope N_is_number ["thing"] (defScope st_is_number) := ⟨rfl, rfl, rfl, by decide +kernel, rfl, by decide +kernel, by decide +kernel⟩
theorem sc_Member___init__ : FnScope N_Member___init__ ["self", "q"] (defScope st_Member___init__) := ⟨rfl, rfl, rfl, by decide +kernel, rfl, by decide +kernel, by decide +kernel⟩
theorem sc_Delay___init__ : FnScope N_Delay___init__ ["self", "d"] (defScope st_Delay___init__) := ⟨rfl, rfl, rfl, by decide +kernel, rfl, by decide +kernel, by decide +kernel⟩
theorem sc__law_step : FnScope N__law_step ["_law_rng_here", "_law_names"] (defScope st__law_step) := ⟨rfl, rfl, rfl, by decide +kernel, rfl, by decide +kernel, by decide +kernel⟩
theorem sc__law_steps : FnScope N__law_steps ["_law_rng_here"] (defScope st__law_steps) := ⟨rfl, rfl, rfl, by decide +kernel, rfl, by decide +kernel, by decide +kernel⟩
theorem sc_is_name : FnScope N_is_name ["thing"] (defScope st_is_name) := ⟨rfl, rfl, rfl, by decide +kernel, rfl, by decide +kernel, by decide +kernel⟩
theorem sc_is_member : FnScope N_is_member ["thing"] (defScope st_is_member) := ⟨rfl, rfl, rfl, by decide +kernel, rfl, by decide +kernel, by decide +kernel⟩
theorem sc_Bus___init__ : FnScope N_Bus___init__ ["self", "steps"] (defScope st_Bus___init__) := ⟨rfl, rfl, rfl, by decide +kernel, rfl, by decide +kernel, by decide +kernel⟩
theorem sc_Bus_facts : FnScope N_Bus_facts ["self"] (defScope st_Bus_facts) := ⟨rfl, rfl, rfl, by decide +kernel, rfl, by decide +kernel, by decide +kernel⟩
theorem sc_Bus_class_name : FnScope N_Bus_class_name ["self"] (defScope st_Bus_class_name) := ⟨rfl, rfl, rfl, by decide +kernel, rfl, by decide +kernel, by decide +kernel⟩
theorem sc_Thing___eq___1 : FnScope N_Thing___eq___1 ["self", "other"] (defScope st_Thing___eq___1) := ⟨rfl, rfl, rfl, by decide +kernel, rfl, by decide +kernel, by decide +kernel⟩
theorem sc__law_refused : FnScope N__law_refused ["_law_steps_here"] (defScope st__law_refused) := ⟨rfl, rfl, rfl, by decide +kernel, rfl, by decide +kernel, by decide +kernel⟩
theorem sc__law_wrong_right : FnScope N__law_wrong_right ["_law_rng_here", "_law_steps_here"] (defScope st__law_wrong_right) := ⟨rfl, rfl, rfl, by decide +kernel, rfl, by decide +kernel, by decide +kernel⟩
theorem sc_law : FnScope N_law ["_law_script"] (defScope st_law) := ⟨rfl, rfl, rfl, by decide +kernel, rfl, by decide +kernel, by decide +kernel⟩
structure Ws (K : PySem.W.Frag) (mg : Str → Option Value) : Prop where
  b_abs : mg "abs" = none
  b_all : mg "all" = none
  b_bool : mg "bool" = none
  b_enumerate : mg "enumerate" = none
  b_int : mg "int" = none
  b_isinstance : mg "isinstance" = none
  b_len : mg "len" = none
  b_list : mg "list" = none
  b_range : mg "range" = none
  b_str : mg "str" = none
  b_tuple : mg "tuple" = none
  g_BadBus : mg "BadBus" = some (.ref (He.ga K "BadBus"))
  g_Bus : mg "Bus" = some (.ref (He.ga K "Bus"))
  g_Delay : mg "Delay" = some (.ref (He.ga K "Delay"))
  g_First : mg "First" = some (.ref (He.ga K "First"))
  g_Last : mg "Last" = some (.ref (He.ga K "Last"))
  g_Limit : mg "Limit" = some (.ref (He.ga K "Limit"))
  g_QuietError : mg "QuietError" = some (.ref (He.ga K "QuietError"))
  g_Thing : mg "Thing" = some (.ref (He.ga K "Thing"))
  c_LETTERS : ∃ t, mg "LETTERS" = some (.str "abcdefghijklmnopqrstuvwxyz" t)
  c_MOST_LETTERS : ∃ t, mg "MOST_LETTERS" = some (.int 8 t)
  ct : CT K tb ks
  oq0 : oqB K tb eq0 = true
  oq1 : oqB K tb eq1 = true
  rf1 : rfB K eq1 = true
  xm : XM K xt xh xf
  x_BadBus : PySem.XF_index.XTxt K mg "BadBus" (He.ga K "BadBus") (He.ma K (He.ga K "BadBus") "__init__")
  x_BadMember : PySem.XF_what.XTxt K mg "BadMember" (He.ga K "BadMember") (He.ma K (He.ga K "BadMember") "__init__")
theorem len_law : ∀ sl R, T_law sl R → sl.length = 1 := by
  rintro sl R ⟨ns, _, rfl, _⟩
  rfl
theorem s_law : ∀ sl R, T_law sl R → ws b_law (envOf N_law sl) (enOf sl R) := by
  rintro sl R ⟨ns, hl, rfl, hr⟩
  refine tf_sem (N := N_law) (n := 1) (b := b_law) _ R ?_
  obtain ⟨sl1, e⟩ := law_ok ns hl
  show (F_law _).on R
  rw [e]
  exact hr sl1
section
variable {P : Program} {w : World} {K : PySem.W.Frag} {mg : Str → Option Value} {base : Heap}
theorem q__law_rng (E0 : Ws K mg) {f : Addr}  : BodyQ P w K mg base 0 N__law_rng "_law_rng" (defScope st__law_rng) f (defBody st__law_rng) (ws b__law_rng) := by
  intro cdv A outer s H E hr
  exact (kss_one (ks_retF (kf_lst (ka_cons (ko (ke_abs (E0.b_abs) (ko (ke_var 0)))) (ka_cons (ko (ke_mod (ko (ke_intc (E0.b_int) (ko (ke_var 0)))) (ko ke_int))) (ka_cons (ko ke_int) ka_nil))))))
theorem q__law_cell (E0 : Ws K mg) {f : Addr}  : BodyQ P w K mg base 0 N__law_cell "_law_cell" (defScope st__law_cell) f (defBody st__law_cell) (ws b__law_cell) := by
  intro cdv A outer s H E hr
  exact (kss_cons (ks_if ((kc_lt (ko (ke_var 1)) (ko (ke_len (E0.b_len) (ko (ke_var 0))))).t _)
     (kss_one (ks_ret (ke_ix (ko (ke_var 0)) (ko (ke_var 1)) (fun _ _ => rfl))))
     kss_nil)
    (kss_one (ks_ret ke_int)))
theorem q__law_draw (E0 : Ws K mg) {f : Addr}  : BodyQ P w K mg base 0 N__law_draw "_law_draw" (defScope st__law_draw) f (defBody st__law_draw) (ws b__law_draw) := by
  intro cdv A outer s H E hr
  exact (kss_cons (ks_if ((kc_ge (ko (ke_ix (ko_var 0) (ko ke_int) (fun _ _ => rfl))) (ko (ke_pow (ko ke_int) (ko ke_int)))).t _)
     (kss_cons (ks_set (i := 2) sc__law_draw.nd rfl (Or.inl rfl) (ke_mod (ko (ke_intc (E0.b_int) (ko (ke_ix (ko_var 0) (ko ke_int) (fun _ _ => rfl))))) (ko (ke_var 1))))
    (kss_cons (QS.le (qs_setix 0 (ke_div (ko (ke_ix (ko_var 0) (ko ke_int) (fun _ _ => rfl))) (ko (ke_var 1))) ke_int) leSetIx)
    (kss_one (ks_ret (ke_var 2)))))
     kss_nil)
    (kss_cons (QS.le (qs_setix 0 (ke_add (ko (ke_ix (ko_var 0) (ko ke_int) (fun _ _ => rfl))) (ko ke_int)) ke_int) leSetIx)
    (kss_cons (ks_set (i := 3) sc__law_draw.nd rfl (Or.inl rfl) (ke_mod (ko (ke_intc (E0.b_int) (ko (ke_mul (ko (ke_add (ko (ke_add (ko (ke_ix (ko_var 0) (ko ke_int) (fun _ _ => rfl))) (ko (ke_mul (ko ke_int) (ko (ke_ix (ko_var 0) (ko ke_int) (fun _ _ => rfl))))))) (ko ke_int))) (ko ke_int))))) (ko ke_int)))
    (kss_cons (ks_set (i := 3) sc__law_draw.nd rfl (Or.inl rfl) (ke_mod (ko (ke_intc (E0.b_int) (ko (ke_mul (ko (ke_var 3)) (ko (ke_add (ko (ke_div (ko (ke_var 3)) (ko ke_int))) (ko ke_int))))))) (ko ke_int)))
    (kss_one (ks_ret (ke_mod (ko (ke_intc (E0.b_int) (ko (ke_mod (ko (ke_intc (E0.b_int) (ko (ke_add (ko (ke_div (ko (ke_var 3)) (ko ke_int))) (ko (ke_mul (ko (ke_mod (ko (ke_intc (E0.b_int) (ko (ke_var 3)))) (ko ke_int))) (ko ke_int))))))) (ko ke_int))))) (ko (ke_var 1)))))))))
theorem q__law_pick (E0 : Ws K mg) {f : Addr} (H__law_draw : FnT P w K mg base 1 "_law_draw" ["_law_rng_here", "_law_limit"] (TF F__law_draw)) : BodyQ P w K mg base 1 N__law_pick "_law_pick" (defScope st__law_pick) f (defBody st__law_pick) (ws b__law_pick) := by
  intro cdv A outer s H E hr
  exact (kss_one (ks_ret (ke_ix (ko (ke_var 1)) (ko (QE.le (qe_call H__law_draw (hr.mono (by decide)) (takes_of rfl rfl rfl rfl) (ka_cons (ko_var 0) (ka_cons (ko (ke_len (E0.b_len) (ko (ke_var 1)))) ka_nil))) leCall)) (fun _ _ => rfl))))
theorem q_Member_facts (E0 : Ws K mg) {f : Addr}  : BodyQ P w K mg base 0 N_Member_facts "Member.facts" (defScope st_Member_facts) f (defBody st_Member_facts) (ws b_Member_facts) := by
  intro cdv A outer s H E hr
  exact (kss_one (ks_ret (ke_tup (ka_cons (ko (ke_fld E0.ct (ko (ke_var 0)))) ka_nil))))
theorem q_Delay_facts (E0 : Ws K mg) {f : Addr}  : BodyQ P w K mg base 0 N_Delay_facts "Delay.facts" (defScope st_Delay_facts) f (defBody st_Delay_facts) (ws b_Delay_facts) := by
  intro cdv A outer s H E hr
  exact (kss_one (ks_ret (ke_tup (ka_cons (ko (ke_fld E0.ct (ko (ke_var 0)))) ka_nil))))
theorem q_Last_class_name (E0 : Ws K mg) {f : Addr}  : BodyQ P w K mg base 0 N_Last_class_name "Last.class_name" (defScope st_Last_class_name) f (defBody st_Last_class_name) (ws b_Last_class_name) := by
  intro cdv A outer s H E hr
  exact (kss_one (ks_ret ke_str))
theorem q_First_class_name (E0 : Ws K mg) {f : Addr}  : BodyQ P w K mg base 0 N_First_class_name "First.class_name" (defScope st_First_class_name) f (defBody st_First_class_name) (ws b_First_class_name) := by
  intro cdv A outer s H E hr
  exact (kss_one (ks_ret ke_str))
theorem q_Limit_class_name (E0 : Ws K mg) {f : Addr}  : BodyQ P w K mg base 0 N_Limit_class_name "Limit.class_name" (defScope st_Limit_class_name) f (defBody st_Limit_class_name) (ws b_Limit_class_name) := by
  intro cdv A outer s H E hr
  exact (kss_one (ks_ret ke_str))
theorem q_Delay_class_name (E0 : Ws K mg) {f : Addr}  : BodyQ P w K mg base 0 N_Delay_class_name "Delay.class_name" (defScope st_Delay_class_name) f (defBody st_Delay_class_name) (ws b_Delay_class_name) := by
  intro cdv A outer s H E hr
  exact (kss_one (ks_ret ke_str))
theorem q_Thing___eq___0 (E0 : Ws K mg) {f : Addr} (ME_class_name_Last_First_Limit_Delay : ∀ q ∈ TFs [("Last", F_Last_class_name), ("First", F_First_class_name), ("Limit", F_Limit_class_name), ("Delay", F_Delay_class_name)], MeT P w K mg base 1 q.1 "class_name" ["self"] q.2) (ME_facts_Last_First_Limit_Delay : ∀ q ∈ TFs [("Last", F_Member_facts), ("First", F_Member_facts), ("Limit", F_Member_facts), ("Delay", F_Delay_facts)], MeT P w K mg base 1 q.1 "facts" ["self"] q.2) : BodyQ P w K mg base 1 N_Thing___eq___0 "Thing.__eq__" (defScope st_Thing___eq___0) f (defBody st_Thing___eq___0) (ws b_Thing___eq___0) := by
  intro cdv A outer s H E hr
  exact (kss_cons (ks_if (PW.pt (kw_or (kt_not (kt_val (ke_isi E0.ct (by decide +kernel) (E0.b_isinstance) (ko (ke_var 1)) (pcn_own E0.g_Thing)))) (kw_or1 ((kc_ne hr.units (ko (QE.le (qe_meth0 (ko (ke_var 0)) ME_class_name_Last_First_Limit_Delay (hr.mono (by decide)) (takes_of rfl rfl rfl rfl)) leMeth0)) (ko (QE.le (qe_meth0 (ko (ke_var 1)) ME_class_name_Last_First_Limit_Delay (hr.mono (by decide)) (takes_of rfl rfl rfl rfl)) leMeth0))).t _))))
     (kss_one (ks_ret ke_bl))
     kss_nil)
    (kss_one (ks_ret ((kc_eq hr.units (ko (QE.le (qe_meth0 (ko (ke_var 0)) ME_facts_Last_First_Limit_Delay (hr.mono (by decide)) (takes_of rfl rfl rfl rfl)) leMeth0)) (ko (QE.le (qe_meth0 (ko (ke_var 1)) ME_facts_Last_First_Limit_Delay (hr.mono (by decide)) (takes_of rfl rfl rfl rfl)) leMeth0))).e _))))
theorem q_is_number (E0 : Ws K mg) {f : Addr}  : BodyQ P w K mg base 0 N_is_number "is_number" (defScope st_is_number) f (defBody st_is_number) (ws b_is_number) := by
  intro cdv A outer s H E hr
  exact (kss_one (ks_ret (ke_and (ke_isi E0.ct (by decide +kernel) (E0.b_isinstance) (ko (ke_var 0)) (pcn_ty (E0.b_int) (by decide +kernel))) (ke_one (ke_not (ke_isi E0.ct (by decide +kernel) (E0.b_isinstance) (ko (ke_var 0)) (pcn_ty (E0.b_bool) (by decide +kernel))))))))
theorem q_Member___init__ (E0 : Ws K mg) {f : Addr} (H_is_number : FnT P w K mg base 1 "is_number" ["thing"] (TF F_is_number)) : BodyQ P w K mg base 1 N_Member___init__ "Member.__init__" (defScope st_Member___init__) f (defBody st_Member___init__) (ws b_Member___init__) := by
  intro cdv A outer s H E hr
  exact (kss_cons (QS.le (qs_fld 0 E0.ct (ke_var 1)) leFld)
    (kss_one (ks_if (PW.pt (kw_or (kt_not (kt_val (QE.le (qe_call H_is_number (hr.mono (by decide)) (takes_of rfl rfl rfl rfl) (ka_cons (ko (ke_var 1)) ka_nil)) leCall))) (kw_or1 ((kc_lt (ko (ke_var 1)) (ko ke_int)).t _))))
     (kss_one (QS.le (qs_raise_what rfl E0.x_BadMember hr (takes_of rfl rfl rfl rfl) ke_str) leRaise))
     kss_nil)))
theorem q_Delay___init__ (E0 : Ws K mg) {f : Addr} (H_is_number : FnT P w K mg base 1 "is_number" ["thing"] (TF F_is_number)) : BodyQ P w K mg base 1 N_Delay___init__ "Delay.__init__" (defScope st_Delay___init__) f (defBody st_Delay___init__) (ws b_Delay___init__) := by
  intro cdv A outer s H E hr
  exact (kss_cons (QS.le (qs_fld 0 E0.ct (ke_var 1)) leFld)
    (kss_one (ks_if (PW.pt (kw_or (kt_not (kt_val (QE.le (qe_call H_is_number (hr.mono (by decide)) (takes_of rfl rfl rfl rfl) (ka_cons (ko (ke_var 1)) ka_nil)) leCall))) (kw_or1 ((kc_lt (ko (ke_var 1)) (ko ke_int)).t _))))
     (kss_one (QS.le (qs_raise_what rfl E0.x_BadMember hr (takes_of rfl rfl rfl rfl) ke_str) leRaise))
     kss_nil)))
theorem q__law_step (E0 : Ws K mg) {f : Addr} (ME___eq___0_Last_First_Limit_Delay : ∀ q ∈ TFs [("Last", F_Thing___eq___0), ("First", F_Thing___eq___0), ("Limit", F_Thing___eq___0), ("Delay", F_Thing___eq___0)], MeT P w K mg base 2 q.1 "__eq__" ["self", "other"] q.2) (M_Delay : MkT P w K mg base 2 "Delay" ["self", "d"] (TF F_Delay___init__)) (M_First : MkT P w K mg base 2 "First" ["self", "q"] (TF F_Member___init__)) (M_Last : MkT P w K mg base 2 "Last" ["self", "q"] (TF F_Member___init__)) (M_Limit : MkT P w K mg base 2 "Limit" ["self", "q"] (TF F_Member___init__)) (H__law_draw : FnT P w K mg base 1 "_law_draw" ["_law_rng_here", "_law_limit"] (TF F__law_draw)) (H__law_pick : FnT P w K mg base 2 "_law_pick" ["_law_rng_here", "_law_items"] (TF F__law_pick)) : BodyQ P w K mg base 9 N__law_step "_law_step" (defScope st__law_step) f (defBody st__law_step) (ws b__law_step) := by
  intro cdv A outer s H E hr
  exact (kss_cons (QS.le (qs_imLc (qs_le leLc (qs_setLc (i := 2) (own := [("_law_name", 3)]) (tu := false) rfl sc__law_step.nd rfl rfl (sw_true rfl rfl rfl (by decide +kernel)) (ki_seq (knew (kf_lst (ka_cons (ko ke_str) (ka_cons (ko ke_str) (ka_cons (ko ke_str) (ka_cons (ko ke_str) (ka_cons (ko ke_str) (ka_cons (ko ke_str) (ka_cons (ko ke_str) ka_nil)))))))))) (blkOk_by (by kernel_rfl)) (fun _ _ _ _ _ => (pg_name (i := 3) sc__law_step.nd rfl (Or.inl rfl))) (fun _ _ _ _ _ => (kts_one (kt_notinL (cs := eq0) (F := F_Thing___eq___0) (k := 2) E0.ct E0.oq0 ME___eq___0_Last_First_Limit_Delay (hr.mono (by decide)) (ko (ke_var 3)) (ko_any 1)))) (fun _ _ _ _ _ => (ke_var 3))))) leAsgN)
    (kss_cons (ks_if (PW.pt (kw_and ((kc_ne hr.units (ko (ke_var 2)) (ko (knew (kf_lst ka_nil)))).t _) (kw_and1 ((kc_eq hr.units (ko (QE.le (qe_call H__law_draw (hr.mono (by decide)) (takes_of rfl rfl rfl rfl) (ka_cons (ko_var 0) (ka_cons (ko ke_int) ka_nil))) leCall)) (ko ke_int)).t _))))
     (kss_one (ks_ret (QE.le (qe_call H__law_pick (hr.mono (by decide)) (takes_of rfl rfl rfl rfl) (ka_cons (ko_var 0) (ka_cons (ko (ke_var 2)) ka_nil))) leCall)))
     kss_nil)
    (kss_cons (ks_set (i := 4) sc__law_step.nd rfl (Or.inl rfl) (QE.le (qe_call H__law_pick (hr.mono (by decide)) (takes_of rfl rfl rfl rfl) (ka_cons (ko_var 0) (ka_cons (ko (knew (kf_lst (ka_cons (ko ke_int) (ka_cons (ko ke_int) (ka_cons (ko ke_int) (ka_cons (ko (ke_pow (ko ke_int) (ko ke_int))) ka_nil))))))) ka_nil))) leCall))
    (kss_one (ks_ret (QE.le (qe_call H__law_pick (hr.mono (by decide)) (takes_of rfl rfl rfl rfl) (ka_cons (ko_var 0) (ka_cons (ko (knew (kf_lst (ka_cons (ko (knew (QF.le (qf_make M_Last (hr.mono (by decide)) (takes_of rfl rfl rfl rfl) (ka_cons (ko (ke_var 4)) ka_nil)) leMake1))) (ka_cons (ko (knew (QF.le (qf_make M_First (hr.mono (by decide)) (takes_of rfl rfl rfl rfl) (ka_cons (ko (ke_var 4)) ka_nil)) leMake1))) (ka_cons (ko (knew (QF.le (qf_make M_Limit (hr.mono (by decide)) (takes_of rfl rfl rfl rfl) (ka_cons (ko (ke_var 4)) ka_nil)) leMake1))) (ka_cons (ko (knew (QF.le (qf_make M_Delay (hr.mono (by decide)) (takes_of rfl rfl rfl rfl) (ka_cons (ko (ke_var 4)) ka_nil)) leMake1))) (ka_cons (ko (knew (QF.le (qf_make M_Delay (hr.mono (by decide)) (takes_of rfl rfl rfl rfl) (ka_cons (ko ke_int) ka_nil)) leMake1))) ka_nil)))))))) ka_nil))) leCall))))))
theorem q__law_steps (E0 : Ws K mg) {f : Addr} (H__law_draw : FnT P w K mg base 1 "_law_draw" ["_law_rng_here", "_law_limit"] (TF F__law_draw)) (H__law_pick : FnT P w K mg base 2 "_law_pick" ["_law_rng_here", "_law_items"] (TF F__law_pick)) (H__law_step : FnT P w K mg base 10 "_law_step" ["_law_rng_here", "_law_names"] (TF F__law_step)) : BodyQ P w K mg base 10 N__law_steps "_law_steps" (defScope st__law_steps) f (defBody st__law_steps) (ws b__law_steps) := by
  intro cdv A outer s H E hr
  exact (kss_cons (ks_own (i := 1) sc__law_steps.nd rfl (Or.inl rfl) (kf_lst (ka_cons (ko (QE.le (qe_call H__law_pick (hr.mono (by decide)) (takes_of rfl rfl rfl rfl) (ka_cons (ko_var 0) (ka_cons (ko (knew (kf_lst (ka_cons (ko ke_str) (ka_cons (ko ke_str) (ka_cons (ko ke_str) ka_nil)))))) ka_nil))) leCall)) ka_nil)))
    (kss_cons (ks_for (passes_of rfl) rfl (ki_range1 (E0.b_range) (QE.le (qe_call H__law_draw (hr.mono (by decide)) (takes_of rfl rfl rfl rfl) (ka_cons (ko_var 0) (ka_cons (ko ke_int) ka_nil))) leCall)) (kg_name (i := 2) sc__law_steps.nd rfl (Or.inl rfl))
     (kss_kil [2] (kss_one (ks_expr (ko (QE.le (qe_om 1 PySem.F.slot_list_append PySem.F.type_list_append mt_append sem_append (ka_cons (ko (QE.le (qe_call H__law_step (hr.mono (by decide)) (takes_of rfl rfl rfl rfl) (ka_cons (ko_var 0) (ka_cons (ko_var 1) ka_nil))) leCall)) ka_nil)) (leOm hk_append fun _ _ _ h => h)))))))
    (kss_one (ks_retO 1))))
theorem q_is_name (E0 : Ws K mg) {f : Addr}  : BodyQ P w K mg base 0 N_is_name "is_name" (defScope st_is_name) f (defBody st_is_name) (ws b_is_name) := by
  intro cdv A outer s H E hr
  exact (kss_cons (ks_if (PW.pt (kw_or (kt_not (kt_val (ke_isi E0.ct (by decide +kernel) (E0.b_isinstance) (ko (ke_var 0)) (pcn_ty (E0.b_str) (by decide +kernel))))) (kw_or1 (kt_not (kt_chain ic_le ic_le (ko ke_int) (ko (ke_lenS (E0.b_len) (ko (ke_var 0)))) (ko (ke_globI E0.c_MOST_LETTERS)))))))
     (kss_one (ks_ret ke_bl))
     kss_nil)
    (kss_one (ks_ret (ke_all rfl (E0.b_all) (ko (knew (QF.le (qf_lc (own := [("letter", 1)]) (tu := false) rfl sc_is_name.nd (ki_str (ke_var 0)) (blkOk_by (by kernel_rfl)) (fun _ _ _ _ _ => (pg_name (i := 1) sc_is_name.nd rfl (Or.inl rfl))) (fun _ _ _ _ _ => kts_nil) (fun _ _ _ _ _ => ((kc_in hr.u65 (ko (ke_var 1)) (ko (ke_globS E0.c_LETTERS))).e _))) leLc)))))))
theorem q_is_member (E0 : Ws K mg) {f : Addr}  : BodyQ P w K mg base 0 N_is_member "is_member" (defScope st_is_member) f (defBody st_is_member) (ws b_is_member) := by
  intro cdv A outer s H E hr
  exact (kss_one (ks_ret (ke_isiT E0.ct (by decide +kernel) (by decide) (E0.b_isinstance) (ko (ke_var 0)) (.cons (pcn_own E0.g_Last) rfl (.cons (pcn_own E0.g_First) rfl (.cons (pcn_own E0.g_Limit) rfl (.cons (pcn_own E0.g_Delay) rfl .nil)))))))
theorem q_Bus___init__ (E0 : Ws K mg) {f : Addr} (H_is_member : FnT P w K mg base 1 "is_member" ["thing"] (TF F_is_member)) (H_is_name : FnT P w K mg base 1 "is_name" ["thing"] (TF F_is_name)) : BodyQ P w K mg base 1 N_Bus___init__ "Bus.__init__" (defScope st_Bus___init__) f (defBody st_Bus___init__) (ws b_Bus___init__) := by
  intro cdv A outer s H E hr
  exact (kss_cons (ks_if (PW.pt (kw_or (kt_not (kt_val (ke_isiT E0.ct (by decide +kernel) (by decide) (E0.b_isinstance) (ko_any 1) (.cons (pcn_ty (E0.b_list) (by decide +kernel)) rfl (.cons (pcn_ty (E0.b_tuple) (by decide +kernel)) rfl .nil))))) (kw_or1 ((kc_eq hr.units (ko (ke_len (E0.b_len) (ko_any 1))) (ko ke_int)).t _))))
     (kss_one (QS.le (qs_raise_index rfl E0.x_BadBus hr (takes_of rfl rfl rfl rfl) (ke_neg (ko ke_int))) leRaise))
     kss_nil)
    (kss_cons (QS.le (qs_fld 0 E0.ct (ke_tuple (E0.b_tuple) (ko_any 1))) leFld)
    (kss_cons (ks_own (i := 2) sc_Bus___init__.nd rfl (Or.inl rfl) (kf_lst ka_nil))
    (kss_one (ks_for (passes_of rfl) rfl (ki_enum (E0.b_enumerate) (ke_fld E0.ct (ko_var 0))) (kg_tup rfl (kgs_cons (kg_name (i := 3) sc_Bus___init__.nd rfl (Or.inl rfl)) (kgs_cons (kg_name (i := 4) sc_Bus___init__.nd rfl (Or.inl rfl)) kgs_nil)))
     (kss_kil [3, 4] (kss_one (ks_if (PW.pt (kw_and (kt_val (QE.le (qe_call H_is_name (hr.mono (by decide)) (takes_of rfl rfl rfl rfl) (ka_cons (ko (ke_var 4)) ka_nil)) leCall)) (kw_and1 ((kc_notin hr.u65 (ko (ke_var 4)) (ko_var 2)).t _))))
     (kss_one (ks_expr (ko (QE.le (qe_om 2 PySem.F.slot_list_append PySem.F.type_list_append mt_append sem_append (ka_cons (ko (ke_var 4)) ka_nil)) (leOm hk_append fun _ _ _ h => h)))))
     (kss_one (ks_if (PW.pt (kw_or ((kc_eq hr.units (ko (ke_var 3)) (ko ke_int)).t _) (kw_or1 (kt_not (kt_val (QE.le (qe_call H_is_member (hr.mono (by decide)) (takes_of rfl rfl rfl rfl) (ka_cons (ko (ke_var 4)) ka_nil)) leCall))))))
     (kss_one (QS.le (qs_raise_index rfl E0.x_BadBus hr (takes_of rfl rfl rfl rfl) (ke_var 3)) leRaise))
     kss_nil))))))))))
theorem q_Bus_facts (E0 : Ws K mg) {f : Addr}  : BodyQ P w K mg base 0 N_Bus_facts "Bus.facts" (defScope st_Bus_facts) f (defBody st_Bus_facts) (ws b_Bus_facts) := by
  intro cdv A outer s H E hr
  exact (kss_one (ks_ret (ke_tup (ka_cons (ko (ke_fld E0.ct (ko (ke_var 0)))) ka_nil))))
theorem q_Bus_class_name (E0 : Ws K mg) {f : Addr}  : BodyQ P w K mg base 0 N_Bus_class_name "Bus.class_name" (defScope st_Bus_class_name) f (defBody st_Bus_class_name) (ws b_Bus_class_name) := by
  intro cdv A outer s H E hr
  exact (kss_one (ks_ret ke_str))
theorem q_Thing___eq___1 (E0 : Ws K mg) {f : Addr} (ME___eq___0_Last_First_Limit_Delay : ∀ q ∈ TFs [("Last", F_Thing___eq___0), ("First", F_Thing___eq___0), ("Limit", F_Thing___eq___0), ("Delay", F_Thing___eq___0)], MeT P w K mg base 2 q.1 "__eq__" ["self", "other"] q.2) (ME_class_name_Last_First_Limit_Delay_Bus : ∀ q ∈ TFs [("Last", F_Last_class_name), ("First", F_First_class_name), ("Limit", F_Limit_class_name), ("Delay", F_Delay_class_name), ("Bus", F_Bus_class_name)], MeT P w K mg base 1 q.1 "class_name" ["self"] q.2) (ME_facts_Last_First_Limit_Delay_Bus : ∀ q ∈ TFs [("Last", F_Member_facts), ("First", F_Member_facts), ("Limit", F_Member_facts), ("Delay", F_Delay_facts), ("Bus", F_Bus_facts)], MeT P w K mg base 1 q.1 "facts" ["self"] q.2) : BodyQ P w K mg base 8 N_Thing___eq___1 "Thing.__eq__" (defScope st_Thing___eq___1) f (defBody st_Thing___eq___1) (ws b_Thing___eq___1) := by
  intro cdv A outer s H E hr
  exact (kss_cons (ks_if (PW.pt (kw_or (kt_not (kt_val (ke_isi E0.ct (by decide +kernel) (E0.b_isinstance) (ko (ke_var 1)) (pcn_own E0.g_Thing)))) (kw_or1 ((kc_ne hr.units (ko (QE.le (qe_meth0 (ko (ke_var 0)) ME_class_name_Last_First_Limit_Delay_Bus (hr.mono (by decide)) (takes_of rfl rfl rfl rfl)) leMeth0)) (ko (QE.le (qe_meth0 (ko (ke_var 1)) ME_class_name_Last_First_Limit_Delay_Bus (hr.mono (by decide)) (takes_of rfl rfl rfl rfl)) leMeth0))).t _))))
     (kss_one (ks_ret ke_bl))
     kss_nil)
    (kss_one (ks_ret (by exact (ke_eqO (cs := eq0) (F := F_Thing___eq___0) (k := 2) E0.ct E0.oq0 ME___eq___0_Last_First_Limit_Delay (hr.mono (by decide)) (ko (QE.le (qe_meth0 (ko (ke_var 0)) ME_facts_Last_First_Limit_Delay_Bus (hr.mono (by decide)) (takes_of rfl rfl rfl rfl)) leMeth0)) (ko (QE.le (qe_meth0 (ko (ke_var 1)) ME_facts_Last_First_Limit_Delay_Bus (hr.mono (by decide)) (takes_of rfl rfl rfl rfl)) leMeth0)))))))
theorem q__law_refused (E0 : Ws K mg) {f : Addr} (M_Bus : MkT P w K mg base 2 "Bus" ["self", "steps"] (TF F_Bus___init__)) : BodyQ P w K mg base 3 N__law_refused "_law_refused" (defScope st__law_refused) f (defBody st__law_refused) (ws b__law_refused) := by
  intro cdv A outer s H E hr
  exact (kss_cons (ks_set (i := 1) sc__law_refused.nd rfl (Or.inl rfl) ke_non)
    (kss_cons (QS.le (qs_tryM E0.xm rfl rfl sc__law_refused.nd (takes_of rfl rfl rfl rfl) (fun W1 pn1 xe1 tk1 po1 => (kss_one (ks_expr (ko (knew (QF.le (qf_make M_Bus (hr.mono (by decide)) tk1 (ka_cons (ko (ke_var 0)) ka_nil)) leMake1)))))) (.as_ 2 (h := "BadBus") (by decide) rfl rfl ⟨rfl, by decide, .inl E0.g_BadBus⟩ (fun a1 oe1 c1 d1 pn1 zc1 fs1 => kss_kil [2] (kss_one (ks_set (i := 1) sc__law_refused.nd rfl (Or.inl rfl) (ke_tup (ka_cons (ko ke_str) (ka_cons (ko (QE.le (qe_xf 2 E0.xm zc1 fs1) leXf)) ka_nil)))))) (.only (h := "QuietError") (by decide) ⟨rfl, by decide, .inl E0.g_QuietError⟩ (fun a1 oe1 pn1 fs1 => (kss_one (ks_set (i := 1) sc__law_refused.nd rfl (Or.inl rfl) ke_str))) .nil))) leTryM)
    (kss_one (ks_ret (ke_var 1)))))
theorem q__law_wrong_right (E0 : Ws K mg) {f : Addr} (M_Bus : MkT P w K mg base 2 "Bus" ["self", "steps"] (TF F_Bus___init__)) (M_Delay : MkT P w K mg base 2 "Delay" ["self", "d"] (TF F_Delay___init__)) (M_Last : MkT P w K mg base 2 "Last" ["self", "q"] (TF F_Member___init__)) (H__law_draw : FnT P w K mg base 1 "_law_draw" ["_law_rng_here", "_law_limit"] (TF F__law_draw)) (H__law_pick : FnT P w K mg base 2 "_law_pick" ["_law_rng_here", "_law_items"] (TF F__law_pick)) (H__law_refused : FnT P w K mg base 4 "_law_refused" ["_law_steps_here"] (TF F__law_refused)) : BodyQ P w K mg base 4 N__law_wrong_right "_law_wrong_right" (defScope st__law_wrong_right) f (defBody st__law_wrong_right) (ws b__law_wrong_right) := by
  intro cdv A outer s H E hr
  exact (kss_cons (ks_set (i := 2) sc__law_wrong_right.nd rfl (Or.inl rfl) (QE.le (qe_call H__law_draw (hr.mono (by decide)) (takes_of rfl rfl rfl rfl) (ka_cons (ko_var 0) (ka_cons (ko (ke_add (ko (ke_len (E0.b_len) (ko (ke_var 1)))) (ko ke_int))) ka_nil))) leCall))
    (kss_cons (ks_set (i := 3) sc__law_wrong_right.nd rfl (Or.inl rfl) (knew (kf_lst (ka_cons (ko ke_str) (ka_cons (ko ke_str) (ka_cons (ko ke_str) (ka_cons (ko ke_str) (ka_cons (ko ke_str) (ka_cons (ko ke_str) (ka_cons (ko ke_non) (ka_cons (ko ke_int) (ka_cons (ko ke_bl) (ka_cons (ko (ke_tup (ka_cons (ko ke_str) ka_nil))) (ka_cons (ko (knew (kf_lst (ka_cons (ko ke_str) ka_nil)))) (ka_cons (ko (knew (kf_lst ka_nil))) (ka_cons (ko ke_str) (ka_cons (ko (knew (QF.le (qf_make M_Bus (hr.mono (by decide)) (takes_of rfl rfl rfl rfl) (ka_cons (ko (knew (kf_lst (ka_cons (ko ke_str) ka_nil)))) ka_nil)) leMake1))) ka_nil)))))))))))))))))
    (kss_cons (ks_set (i := 4) sc__law_wrong_right.nd rfl (Or.inl rfl) (QE.le (qe_call H__law_pick (hr.mono (by decide)) (takes_of rfl rfl rfl rfl) (ka_cons (ko_var 0) (ka_cons (ko (ke_var 3)) ka_nil))) leCall))
    (kss_cons (ks_pre [5] (ks_for (passes_of rfl) rfl (ki_seq (ke_tup (ka_cons (ko (knew (kf_cat (ko (knew (kf_cat (ko (knew (kf_sl (ko (ke_var 1)) kp_none (kp_some (ke_var 2))))) (ko (knew (kf_lst (ka_cons (ko (ke_var 4)) ka_nil))))))) (ko (knew (kf_sl (ko (ke_var 1)) (kp_some (ke_var 2)) kp_none)))))) (ka_cons (ko (ke_tuple (E0.b_tuple) (ko (knew (kf_cat (ko (knew (kf_sl (ko (ke_var 1)) kp_none (kp_some (ke_var 2))))) (ko (knew (kf_lst (ka_cons (ko (ke_var 4)) ka_nil))))))))) ka_nil)))) (kg_name (i := 5) sc__law_wrong_right.nd rfl (Or.inl rfl))
     (kss_kil [5] (kss_one (ks_if ((kc_ne hr.units (ko (QE.le (qe_call H__law_refused (hr.mono (by decide)) (takes_of rfl rfl rfl rfl) (ka_cons (ko (ke_var 5)) ka_nil)) leCall)) (ko (ke_tup (ka_cons (ko ke_str) (ka_cons (ko (ke_var 2)) ka_nil))))).t _)
     (kss_one (ks_ret ke_bl))
     kss_nil)))))
    (kss_cons (ks_if (PW.pt (kw_or ((kc_ne hr.units (ko (QE.le (qe_call H__law_refused (hr.mono (by decide)) (takes_of rfl rfl rfl rfl) (ka_cons (ko (knew (kf_cat (ko (knew (kf_lst (ka_cons (ko (knew (QF.le (qf_make M_Last (hr.mono (by decide)) (takes_of rfl rfl rfl rfl) (ka_cons (ko ke_int) ka_nil)) leMake1))) ka_nil)))) (ko (ke_var 1))))) ka_nil)) leCall)) (ko (ke_tup (ka_cons (ko ke_str) (ka_cons (ko ke_int) ka_nil))))).t _) (kw_or1 ((kc_ne hr.units (ko (QE.le (qe_call H__law_refused (hr.mono (by decide)) (takes_of rfl rfl rfl rfl) (ka_cons (ko (ke_tup (ka_cons (ko (knew (QF.le (qf_make M_Delay (hr.mono (by decide)) (takes_of rfl rfl rfl rfl) (ka_cons (ko ke_int) ka_nil)) leMake1))) ka_nil))) ka_nil)) leCall)) (ko (ke_tup (ka_cons (ko ke_str) (ka_cons (ko ke_int) ka_nil))))).t _))))
     (kss_one (ks_ret ke_bl))
     kss_nil)
    (kss_cons (ks_pre [5] (ks_for (passes_of rfl) rfl (ki_seq (ke_tup (ka_cons (ko (knew (kf_cat (ko (ke_var 1)) (ko (knew (kf_lst (ka_cons (ko (ke_ix (ko (ke_var 1)) (ko ke_int) (fun _ _ => rfl))) ka_nil))))))) (ka_cons (ko (knew (kf_cat (ko (ke_var 1)) (ko (knew (kf_lst (ka_cons (ko (ke_var 4)) (ka_cons (ko (ke_ix (ko (ke_var 1)) (ko ke_int) (fun _ _ => rfl))) ka_nil)))))))) ka_nil)))) (kg_name (i := 5) sc__law_wrong_right.nd rfl (Or.inl rfl))
     (kss_kil [5] (kss_one (ks_if ((kc_ne hr.units (ko (QE.le (qe_call H__law_refused (hr.mono (by decide)) (takes_of rfl rfl rfl rfl) (ka_cons (ko (ke_var 5)) ka_nil)) leCall)) (ko (ke_tup (ka_cons (ko ke_str) (ka_cons (ko (ke_len (E0.b_len) (ko (ke_var 1)))) ka_nil))))).t _)
     (kss_one (ks_ret ke_bl))
     kss_nil)))))
    (kss_one (ks_ret ((kc_eq hr.units (ko (knew (QF.le (qf_lc (own := [("_law_thing", 6)]) (tu := false) rfl sc__law_wrong_right.nd (ki_seq (ke_tup (ka_cons (ko (knew (kf_lst ka_nil))) (ka_cons (ko (ke_tup ka_nil)) (ka_cons (ko ke_non) (ka_cons (ko ke_str) (ka_cons (ko ke_int) (ka_cons (ko (knew (QF.le qf_dic0 leDic0))) ka_nil)))))))) (blkOk_by (by kernel_rfl)) (fun _ _ _ _ _ => (pg_name (i := 6) sc__law_wrong_right.nd rfl (Or.inl rfl))) (fun _ _ _ _ _ => (kts_one ((kc_ne hr.units (ko (QE.le (qe_call H__law_refused (hr.mono (by decide)) takes0 (ka_cons (ko (ke_var 6)) ka_nil)) leCall)) (ko (ke_tup (ka_cons (ko ke_str) (ka_cons (ko (ke_neg (ko ke_int))) ka_nil))))).t _))) (fun _ _ _ _ _ => (ke_var 6))) leLc))) (ko (knew (kf_lst ka_nil)))).e _)))))))))
theorem q_law (E0 : Ws K mg) {f : Addr} (ME___eq___1_Last_First_Limit_Delay_Bus : ∀ q ∈ TFs [("Last", F_Thing___eq___1), ("First", F_Thing___eq___1), ("Limit", F_Thing___eq___1), ("Delay", F_Thing___eq___1), ("Bus", F_Thing___eq___1)], MeT P w K mg base 9 q.1 "__eq__" ["self", "other"] q.2) (M_Bus : MkT P w K mg base 2 "Bus" ["self", "steps"] (TF F_Bus___init__)) (M_Last : MkT P w K mg base 2 "Last" ["self", "q"] (TF F_Member___init__)) (H__law_cell : FnT P w K mg base 1 "_law_cell" ["_law_script", "_law_index"] (TF F__law_cell)) (H__law_rng : FnT P w K mg base 1 "_law_rng" ["_law_cell_here"] (TF F__law_rng)) (H__law_steps : FnT P w K mg base 11 "_law_steps" ["_law_rng_here"] (TF F__law_steps)) (H__law_wrong_right : FnT P w K mg base 5 "_law_wrong_right" ["_law_rng_here", "_law_steps_here"] (TF F__law_wrong_right)) : BodyQ P w K mg base 16 N_law "law" (defScope st_law) f (defBody st_law) (ws b_law) := by
  intro cdv A outer s H E hr
  exact (kss_cons (ks_for (passes_of rfl) rfl (ki_seq (knew (kf_cat (ko (knew (kf_lst (ka_cons (ko (QE.le (qe_call H__law_cell (hr.mono (by decide)) (takes_of rfl rfl rfl rfl) (ka_cons (ko (ke_var 0)) (ka_cons (ko ke_int) ka_nil))) leCall)) ka_nil)))) (ko (knew (kf_sl (ko (ke_var 0)) (kp_some ke_int) (kp_some ke_int))))))) (kg_name (i := 1) sc_law.nd rfl (Or.inl rfl))
     (kss_kil [1, 2, 3, 4, 5, 6] (kss_cons (ks_own (i := 2) sc_law.nd rfl (Or.inl rfl) (QF.le (qf_call H__law_rng (hr.mono (by decide)) (takes_of rfl rfl rfl rfl) (ka_cons (ko (ke_var 1)) ka_nil)) leCallO))
    (kss_one (ks_for (passes_of rfl) rfl (ki_range1 (E0.b_range) ke_int) (kg_name (i := 3) sc_law.nd rfl (Or.inl rfl))
     (kss_kil [3, 4, 5, 6] (kss_cons (ks_set (i := 4) sc_law.nd rfl (Or.inl rfl) (knew (QF.le (qf_call H__law_steps (hr.mono (by decide)) (takes_of rfl rfl rfl rfl) (ka_cons (ko_var 2) ka_nil)) leCallO)))
    (kss_cons (ks_own (i := 5) sc_law.nd rfl (Or.inl rfl) (kf_list (E0.b_list) (ko (ke_var 4))))
    (kss_cons (ks_set (i := 6) sc_law.nd rfl (Or.inl rfl) (knew (QF.le (qf_make M_Bus (hr.mono (by decide)) (takes_of rfl rfl rfl rfl) (ka_cons (ko_var 5) ka_nil)) leMake1)))
    (kss_cons (ks_expr (ko (QE.le (qe_om 5 PySem.F.slot_list_append PySem.F.type_list_append mt_append sem_append (ka_cons (ko ke_str) ka_nil)) (leOm hk_append fun _ _ _ h => h))))
    (kss_cons (ks_expr (ko (ke_revM 5)))
    (kss_cons (ks_if (PW.pt (kw_or (kt_neO (cs := eq1) (F := F_Thing___eq___1) (k := 9) E0.ct E0.oq1 ME___eq___1_Last_First_Limit_Delay_Bus (hr.mono (by decide)) (ko (ke_fld E0.ct (ko (ke_var 6)))) (ko (ke_tuple (E0.b_tuple) (ko (ke_var 4))))) (kw_or (kt_not (kt_val (ke_isi E0.ct (by decide +kernel) (E0.b_isinstance) (ko (ke_fld E0.ct (ko (ke_var 6)))) (pcn_ty (E0.b_tuple) (by decide +kernel))))) (kw_or1 (kt_neO (cs := eq1) (F := F_Thing___eq___1) (k := 9) E0.ct E0.oq1 ME___eq___1_Last_First_Limit_Delay_Bus (hr.mono (by decide)) (ko (ke_var 6)) (ko (knew (QF.le (qf_make M_Bus (hr.mono (by decide)) (takes_of rfl rfl rfl rfl) (ka_cons (ko (ke_tuple (E0.b_tuple) (ko (ke_var 4)))) ka_nil)) leMake1))))))))
     (kss_one (ks_ret ke_bl))
     kss_nil)
    (kss_cons (ks_if (kt_inR (cs := eq1) (F := F_Thing___eq___1) (k := 9) E0.ct E0.oq1 E0.rf1 ME___eq___1_Last_First_Limit_Delay_Bus (hr.mono (by decide)) (ko (ke_var 6)) (ko (ke_tup (ka_cons (ko (knew (QF.le (qf_make M_Bus (hr.mono (by decide)) (takes_of rfl rfl rfl rfl) (ka_cons (ko (knew (kf_cat (ko (ke_var 4)) (ko (knew (kf_lst (ka_cons (ko (knew (QF.le (qf_make M_Last (hr.mono (by decide)) (takes_of rfl rfl rfl rfl) (ka_cons (ko ke_int) ka_nil)) leMake1))) ka_nil))))))) ka_nil)) leMake1))) (ka_cons (ko (knew (QF.le (qf_make M_Bus (hr.mono (by decide)) (takes_of rfl rfl rfl rfl) (ka_cons (ko (knew (kf_cat (ko (knew (kf_lst (ka_cons (ko ke_str) ka_nil)))) (ko (knew (kf_sl (ko (ke_var 4)) (kp_some ke_int) kp_none)))))) ka_nil)) leMake1))) (ka_cons (ko (ke_tuple (E0.b_tuple) (ko (ke_var 4)))) (ka_cons (ko (ke_var 4)) (ka_cons (ko ke_non) ka_nil))))))))
     (kss_one (ks_ret ke_bl))
     kss_nil)
    (kss_one (ks_if (kt_not (kt_val (QE.le (qe_call H__law_wrong_right (hr.mono (by decide)) (takes_of rfl rfl rfl rfl) (ka_cons (ko_var 2) (ka_cons (ko (ke_var 4)) ka_nil))) leCall)))
     (kss_one (ks_ret ke_bl))
     kss_nil)))))))))))))))
    (kss_one (ks_ret ke_bl)))
end
theorem facts {P : Program} {w : World} {K : PySem.W.Frag} {h : Heap} {mg : Str → Option Value} {f : Addr} (X : K.In h) (G : h.Ns mainGlobals mg) (hfa : mg ("law" : Str) = some (.ref f)) (c : SaysX fa fn ex K) :
    ∃ fd : FuncData, (∀ (s : Shared) (v : Value), BindsTo s fd ⟨[v], []⟩ [("_law_script", v)]) ∧ ∀ base : Heap, K.In base → base.Ns mainGlobals mg → FnOk P w K mg base (L2.CX P w) 17 f fd ["_law_script"] (spT K T_law) := by
  have he := c.e
  unfold ex at he
  obtain ⟨h0, he⟩ := He.ba he
  obtain ⟨h1, he⟩ := He.ba he
  obtain ⟨h2, he⟩ := He.ba he
  obtain ⟨h3, he⟩ := He.ba he
  obtain ⟨h4, he⟩ := He.ba he
  obtain ⟨h5, he⟩ := He.ba he
  have h6 := he
  obtain ⟨fdx5, FX5⟩ := c.d.def_ 36 (d := d36) rfl
  obtain ⟨fdx6, FX6⟩ := c.d.def_ 37 (d := d37) rfl
  have E0 : Ws K mg := ⟨He.free_ok X G (c.d.fact 0 (f := .free "abs") rfl),
    He.free_ok X G (c.d.fact 1 (f := .free "all") rfl),
    He.free_ok X G (c.d.fact 2 (f := .free "bool") rfl),
    He.free_ok X G (c.d.fact 3 (f := .free "enumerate") rfl),
    He.free_ok X G (c.d.fact 4 (f := .free "int") rfl),
    He.free_ok X G (c.d.fact 5 (f := .free "isinstance") rfl),
    He.free_ok X G (c.d.fact 6 (f := .free "len") rfl),
    He.free_ok X G (c.d.fact 7 (f := .free "list") rfl),
    He.free_ok X G (c.d.fact 8 (f := .free "range") rfl),
    He.free_ok X G (c.d.fact 9 (f := .free "str") rfl),
    He.free_ok X G (c.d.fact 10 (f := .free "tuple") rfl),
    He.glo_ok X G (c.d.fact 11 (f := .glo "BadBus") rfl),
    He.glo_ok X G (c.d.fact 12 (f := .glo "Bus") rfl),
    He.glo_ok X G (c.d.fact 13 (f := .glo "Delay") rfl),
    He.glo_ok X G (c.d.fact 14 (f := .glo "First") rfl),
    He.glo_ok X G (c.d.fact 15 (f := .glo "Last") rfl),
    He.glo_ok X G (c.d.fact 16 (f := .glo "Limit") rfl),
    He.glo_ok X G (c.d.fact 17 (f := .glo "QuietError") rfl),
    He.glo_ok X G (c.d.fact 18 (f := .glo "Thing") rfl),
    He.str_ok X G (c.d.fact 31 (f := .str "LETTERS" "abcdefghijklmnopqrstuvwxyz") rfl),
    He.int_ok X G (c.d.fact 32 (f := .int "MOST_LETTERS" 8) rfl),
    ctB_ok h0,
    h1,
    h2,
    h3,
    xmB_ok h4,
    xf_mk_index (He.glo_ok X G (c.d.fact 11 (f := .glo "BadBus") rfl)) h5 (FX5) ⟨_, _, rfl⟩ ⟨_, _, _, _, rfl⟩ rfl,
    xf_mk_what (He.glo_ok X G (c.d.fact 58 (f := .glo "BadMember") rfl)) h6 (FX6) ⟨_, _, rfl⟩ ⟨_, _, _, _, rfl⟩ rfl⟩
  obtain ⟨fd0, G0⟩ := c.d.def_ 0 (d := d0) rfl
  have b0 := FunD.bindsN (ps := ["_law_cell_here"]) G0 fun _ _ _ _ _ _ us hl => match us, hl with | [_], _ => rfl
  obtain ⟨fd1, G1⟩ := c.d.def_ 1 (d := d1) rfl
  have b1 := FunD.bindsN (ps := ["_law_script", "_law_index"]) G1 fun _ _ _ _ _ _ us hl => match us, hl with | [_, _], _ => rfl
  obtain ⟨fd2, G2⟩ := c.d.def_ 2 (d := d2) rfl
  have b2 := FunD.bindsN (ps := ["_law_rng_here", "_law_limit"]) G2 fun _ _ _ _ _ _ us hl => match us, hl with | [_, _], _ => rfl
  obtain ⟨fd3, G3⟩ := c.d.def_ 3 (d := d3) rfl
  have b3 := FunD.bindsN (ps := ["_law_rng_here", "_law_items"]) G3 fun _ _ _ _ _ _ us hl => match us, hl with | [_, _], _ => rfl
  obtain ⟨fd4, G4⟩ := c.d.def_ 4 (d := d4) rfl
  have b4 := FunD.bindsN (ps := ["thing"]) G4 fun _ _ _ _ _ _ us hl => match us, hl with | [_], _ => rfl
  obtain ⟨fd5, G5⟩ := c.d.def_ 5 (d := d5) rfl
  have b5 := FunD.bindsN (ps := ["_law_rng_here", "_law_names"]) G5 fun _ _ _ _ _ _ us hl => match us, hl with | [_, _], _ => rfl
  obtain ⟨fd6, G6⟩ := c.d.def_ 6 (d := d6) rfl
  have b6 := FunD.bindsN (ps := ["_law_rng_here"]) G6 fun _ _ _ _ _ _ us hl => match us, hl with | [_], _ => rfl
  obtain ⟨fd7, G7⟩ := c.d.def_ 7 (d := d7) rfl
  have b7 := FunD.bindsN (ps := ["thing"]) G7 fun _ _ _ _ _ _ us hl => match us, hl with | [_], _ => rfl
  obtain ⟨fd8, G8⟩ := c.d.def_ 8 (d := d8) rfl
  have b8 := FunD.bindsN (ps := ["thing"]) G8 fun _ _ _ _ _ _ us hl => match us, hl with | [_], _ => rfl
  obtain ⟨fd9, G9⟩ := c.d.def_ 9 (d := d9) rfl
  have b9 := FunD.bindsN (ps := ["_law_steps_here"]) G9 fun _ _ _ _ _ _ us hl => match us, hl with | [_], _ => rfl
  obtain ⟨fd10, G10⟩ := c.d.def_ 10 (d := d10) rfl
  have b10 := FunD.bindsN (ps := ["_law_rng_here", "_law_steps_here"]) G10 fun _ _ _ _ _ _ us hl => match us, hl with | [_, _], _ => rfl
  obtain ⟨fd11, G11⟩ := c.d.def_ 11 (d := d11) rfl
  have b11 := FunD.bindsN (ps := ["_law_script"]) G11 fun _ _ _ _ _ _ us hl => match us, hl with | [_], _ => rfl
  obtain ⟨fd12, G12⟩ := c.d.def_ 12 (d := d12) rfl
  have b12 := FunD.bindsN (ps := ["self", "steps"]) G12 fun _ _ _ _ _ _ us hl => match us, hl with | [_, _], _ => rfl
  obtain ⟨fd13, G13⟩ := c.d.def_ 13 (d := d13) rfl
  have b13 := FunD.bindsN (ps := ["self", "d"]) G13 fun _ _ _ _ _ _ us hl => match us, hl with | [_, _], _ => rfl
  obtain ⟨fd14, G14⟩ := c.d.def_ 14 (d := d14) rfl
  have b14 := FunD.bindsN (ps := ["self", "q"]) G14 fun _ _ _ _ _ _ us hl => match us, hl with | [_, _], _ => rfl
  obtain ⟨fd15, G15⟩ := c.d.def_ 15 (d := d15) rfl
  have b15 := FunD.bindsN (ps := ["self", "q"]) G15 fun _ _ _ _ _ _ us hl => match us, hl with | [_, _], _ => rfl
  obtain ⟨fd16, G16⟩ := c.d.def_ 16 (d := d16) rfl
  have b16 := FunD.bindsN (ps := ["self", "q"]) G16 fun _ _ _ _ _ _ us hl => match us, hl with | [_, _], _ => rfl
  obtain ⟨fd17, G17⟩ := c.d.def_ 17 (d := d17) rfl
  have b17 := FunD.bindsN (ps := ["self", "other"]) G17 fun _ _ _ _ _ _ us hl => match us, hl with | [_, _], _ => rfl
  obtain ⟨fd18, G18⟩ := c.d.def_ 18 (d := d18) rfl
  have b18 := FunD.bindsN (ps := ["self", "other"]) G18 fun _ _ _ _ _ _ us hl => match us, hl with | [_, _], _ => rfl
  obtain ⟨fd19, G19⟩ := c.d.def_ 19 (d := d19) rfl
  have b19 := FunD.bindsN (ps := ["self", "other"]) G19 fun _ _ _ _ _ _ us hl => match us, hl with | [_, _], _ => rfl
  obtain ⟨fd20, G20⟩ := c.d.def_ 20 (d := d20) rfl
  have b20 := FunD.bindsN (ps := ["self", "other"]) G20 fun _ _ _ _ _ _ us hl => match us, hl with | [_, _], _ => rfl
  obtain ⟨fd21, G21⟩ := c.d.def_ 21 (d := d21) rfl
  have b21 := FunD.bindsN (ps := ["self", "other"]) G21 fun _ _ _ _ _ _ us hl => match us, hl with | [_, _], _ => rfl
  obtain ⟨fd22, G22⟩ := c.d.def_ 22 (d := d22) rfl
  have b22 := FunD.bindsN (ps := ["self", "other"]) G22 fun _ _ _ _ _ _ us hl => match us, hl with | [_, _], _ => rfl
  obtain ⟨fd23, G23⟩ := c.d.def_ 23 (d := d23) rfl
  have b23 := FunD.bindsN (ps := ["self", "other"]) G23 fun _ _ _ _ _ _ us hl => match us, hl with | [_, _], _ => rfl
  obtain ⟨fd24, G24⟩ := c.d.def_ 24 (d := d24) rfl
  have b24 := FunD.bindsN (ps := ["self", "other"]) G24 fun _ _ _ _ _ _ us hl => match us, hl with | [_, _], _ => rfl
  obtain ⟨fd25, G25⟩ := c.d.def_ 25 (d := d25) rfl
  have b25 := FunD.bindsN (ps := ["self", "other"]) G25 fun _ _ _ _ _ _ us hl => match us, hl with | [_, _], _ => rfl
  obtain ⟨fd26, G26⟩ := c.d.def_ 26 (d := d26) rfl
  have b26 := FunD.bindsN (ps := ["self"]) G26 fun _ _ _ _ _ _ us hl => match us, hl with | [_], _ => rfl
  obtain ⟨fd27, G27⟩ := c.d.def_ 27 (d := d27) rfl
  have b27 := FunD.bindsN (ps := ["self"]) G27 fun _ _ _ _ _ _ us hl => match us, hl with | [_], _ => rfl
  obtain ⟨fd28, G28⟩ := c.d.def_ 28 (d := d28) rfl
  have b28 := FunD.bindsN (ps := ["self"]) G28 fun _ _ _ _ _ _ us hl => match us, hl with | [_], _ => rfl
  obtain ⟨fd29, G29⟩ := c.d.def_ 29 (d := d29) rfl
  have b29 := FunD.bindsN (ps := ["self"]) G29 fun _ _ _ _ _ _ us hl => match us, hl with | [_], _ => rfl
  obtain ⟨fd30, G30⟩ := c.d.def_ 30 (d := d30) rfl
  have b30 := FunD.bindsN (ps := ["self"]) G30 fun _ _ _ _ _ _ us hl => match us, hl with | [_], _ => rfl
  obtain ⟨fd31, G31⟩ := c.d.def_ 31 (d := d31) rfl
  have b31 := FunD.bindsN (ps := ["self"]) G31 fun _ _ _ _ _ _ us hl => match us, hl with | [_], _ => rfl
  obtain ⟨fd32, G32⟩ := c.d.def_ 32 (d := d32) rfl
  have b32 := FunD.bindsN (ps := ["self"]) G32 fun _ _ _ _ _ _ us hl => match us, hl with | [_], _ => rfl
  obtain ⟨fd33, G33⟩ := c.d.def_ 33 (d := d33) rfl
  have b33 := FunD.bindsN (ps := ["self"]) G33 fun _ _ _ _ _ _ us hl => match us, hl with | [_], _ => rfl
  obtain ⟨fd34, G34⟩ := c.d.def_ 34 (d := d34) rfl
  have b34 := FunD.bindsN (ps := ["self"]) G34 fun _ _ _ _ _ _ us hl => match us, hl with | [_], _ => rfl
  obtain ⟨fd35, G35⟩ := c.d.def_ 35 (d := d35) rfl
  have b35 := FunD.bindsN (ps := ["self"]) G35 fun _ _ _ _ _ _ us hl => match us, hl with | [_], _ => rfl
  have e := hfa.symm.trans (He.glo_ok X G (c.d.fact 30 (f := .glo "law") rfl))
  cases e
  have bl := FunD.bindsA (ps := ["_law_script"]) G11 fun _ _ _ _ _ _ us hl => match us, hl with | [_], _ => rfl
  refine ⟨fd11, fun s v => bl s [v] rfl, fun base _ _ => ?_⟩
  have ME_class_name_Last : MeT P w K mg base 1 "Last" "class_name" ["self"] (TF F_Last_class_name) := ⟨_, _, ((fn_T G26 sc_Last_class_name tf_len (q_Last_class_name E0 ) (tf_sem (N := N_Last_class_name) (n := 1) (b := b_Last_class_name)))).mono (by decide), He.meth_ok (c.d.fact 48 (f := .meth "Last" "class_name") rfl), He.cls_ok (c.d.fact 39 (f := .cls "Last") rfl), b26⟩
  have ME_class_name_First : MeT P w K mg base 1 "First" "class_name" ["self"] (TF F_First_class_name) := ⟨_, _, ((fn_T G27 sc_First_class_name tf_len (q_First_class_name E0 ) (tf_sem (N := N_First_class_name) (n := 1) (b := b_First_class_name)))).mono (by decide), He.meth_ok (c.d.fact 49 (f := .meth "First" "class_name") rfl), He.cls_ok (c.d.fact 41 (f := .cls "First") rfl), b27⟩
  have ME_class_name_Limit : MeT P w K mg base 1 "Limit" "class_name" ["self"] (TF F_Limit_class_name) := ⟨_, _, ((fn_T G28 sc_Limit_class_name tf_len (q_Limit_class_name E0 ) (tf_sem (N := N_Limit_class_name) (n := 1) (b := b_Limit_class_name)))).mono (by decide), He.meth_ok (c.d.fact 50 (f := .meth "Limit" "class_name") rfl), He.cls_ok (c.d.fact 43 (f := .cls "Limit") rfl), b28⟩
  have ME_class_name_Delay : MeT P w K mg base 1 "Delay" "class_name" ["self"] (TF F_Delay_class_name) := ⟨_, _, ((fn_T G29 sc_Delay_class_name tf_len (q_Delay_class_name E0 ) (tf_sem (N := N_Delay_class_name) (n := 1) (b := b_Delay_class_name)))).mono (by decide), He.meth_ok (c.d.fact 51 (f := .meth "Delay" "class_name") rfl), He.cls_ok (c.d.fact 45 (f := .cls "Delay") rfl), b29⟩
  have ME_class_name_Last_First_Limit_Delay : ∀ q ∈ TFs [("Last", F_Last_class_name), ("First", F_First_class_name), ("Limit", F_Limit_class_name), ("Delay", F_Delay_class_name)], MeT P w K mg base 1 q.1 "class_name" ["self"] q.2 := fun q hq => by
    simp only [TFs, List.map_cons, List.map_nil, List.mem_cons, List.not_mem_nil, or_false] at hq
    rcases hq with rfl | rfl | rfl | rfl
    · exact ME_class_name_Last
    · exact ME_class_name_First
    · exact ME_class_name_Limit
    · exact ME_class_name_Delay
  have ME_facts_Last : MeT P w K mg base 1 "Last" "facts" ["self"] (TF F_Member_facts) := ⟨_, _, ((fn_T G31 sc_Member_facts tf_len (q_Member_facts E0 ) (tf_sem (N := N_Member_facts) (n := 1) (b := b_Member_facts)))).mono (by decide), He.meth_ok (c.d.fact 53 (f := .meth "Last" "facts") rfl), He.cls_ok (c.d.fact 39 (f := .cls "Last") rfl), b31⟩
  have ME_facts_First : MeT P w K mg base 1 "First" "facts" ["self"] (TF F_Member_facts) := ⟨_, _, ((fn_T G32 sc_Member_facts tf_len (q_Member_facts E0 ) (tf_sem (N := N_Member_facts) (n := 1) (b := b_Member_facts)))).mono (by decide), He.meth_ok (c.d.fact 54 (f := .meth "First" "facts") rfl), He.cls_ok (c.d.fact 41 (f := .cls "First") rfl), b32⟩
  have ME_facts_Limit : MeT P w K mg base 1 "Limit" "facts" ["self"] (TF F_Member_facts) := ⟨_, _, ((fn_T G33 sc_Member_facts tf_len (q_Member_facts E0 ) (tf_sem (N := N_Member_facts) (n := 1) (b := b_Member_facts)))).mono (by decide), He.meth_ok (c.d.fact 55 (f := .meth "Limit" "facts") rfl), He.cls_ok (c.d.fact 43 (f := .cls "Limit") rfl), b33⟩
  have ME_facts_Delay : MeT P w K mg base 1 "Delay" "facts" ["self"] (TF F_Delay_facts) := ⟨_, _, ((fn_T G34 sc_Delay_facts tf_len (q_Delay_facts E0 ) (tf_sem (N := N_Delay_facts) (n := 1) (b := b_Delay_facts)))).mono (by decide), He.meth_ok (c.d.fact 56 (f := .meth "Delay" "facts") rfl), He.cls_ok (c.d.fact 45 (f := .cls "Delay") rfl), b34⟩
  have ME_facts_Last_First_Limit_Delay : ∀ q ∈ TFs [("Last", F_Member_facts), ("First", F_Member_facts), ("Limit", F_Member_facts), ("Delay", F_Delay_facts)], MeT P w K mg base 1 q.1 "facts" ["self"] q.2 := fun q hq => by
    simp only [TFs, List.map_cons, List.map_nil, List.mem_cons, List.not_mem_nil, or_false] at hq
    rcases hq with rfl | rfl | rfl | rfl
    · exact ME_facts_Last
    · exact ME_facts_First
    · exact ME_facts_Limit
    · exact ME_facts_Delay
  have ME___eq___0_Last : MeT P w K mg base 2 "Last" "__eq__" ["self", "other"] (TF F_Thing___eq___0) := ⟨_, _, ((fn_T G17 sc_Thing___eq___0 tf_len (q_Thing___eq___0 E0 ME_class_name_Last_First_Limit_Delay ME_facts_Last_First_Limit_Delay) (tf_sem (N := N_Thing___eq___0) (n := 2) (b := b_Thing___eq___0)))).mono (by decide), He.meth_ok (c.d.fact 38 (f := .meth "Last" "__eq__") rfl), He.cls_ok (c.d.fact 39 (f := .cls "Last") rfl), b17⟩
  have ME___eq___0_First : MeT P w K mg base 2 "First" "__eq__" ["self", "other"] (TF F_Thing___eq___0) := ⟨_, _, ((fn_T G18 sc_Thing___eq___0 tf_len (q_Thing___eq___0 E0 ME_class_name_Last_First_Limit_Delay ME_facts_Last_First_Limit_Delay) (tf_sem (N := N_Thing___eq___0) (n := 2) (b := b_Thing___eq___0)))).mono (by decide), He.meth_ok (c.d.fact 40 (f := .meth "First" "__eq__") rfl), He.cls_ok (c.d.fact 41 (f := .cls "First") rfl), b18⟩
  have ME___eq___0_Limit : MeT P w K mg base 2 "Limit" "__eq__" ["self", "other"] (TF F_Thing___eq___0) := ⟨_, _, ((fn_T G19 sc_Thing___eq___0 tf_len (q_Thing___eq___0 E0 ME_class_name_Last_First_Limit_Delay ME_facts_Last_First_Limit_Delay) (tf_sem (N := N_Thing___eq___0) (n := 2) (b := b_Thing___eq___0)))).mono (by decide), He.meth_ok (c.d.fact 42 (f := .meth "Limit" "__eq__") rfl), He.cls_ok (c.d.fact 43 (f := .cls "Limit") rfl), b19⟩
  have ME___eq___0_Delay : MeT P w K mg base 2 "Delay" "__eq__" ["self", "other"] (TF F_Thing___eq___0) := ⟨_, _, ((fn_T G20 sc_Thing___eq___0 tf_len (q_Thing___eq___0 E0 ME_class_name_Last_First_Limit_Delay ME_facts_Last_First_Limit_Delay) (tf_sem (N := N_Thing___eq___0) (n := 2) (b := b_Thing___eq___0)))).mono (by decide), He.meth_ok (c.d.fact 44 (f := .meth "Delay" "__eq__") rfl), He.cls_ok (c.d.fact 45 (f := .cls "Delay") rfl), b20⟩
  have ME___eq___0_Last_First_Limit_Delay : ∀ q ∈ TFs [("Last", F_Thing___eq___0), ("First", F_Thing___eq___0), ("Limit", F_Thing___eq___0), ("Delay", F_Thing___eq___0)], MeT P w K mg base 2 q.1 "__eq__" ["self", "other"] q.2 := fun q hq => by
    simp only [TFs, List.map_cons, List.map_nil, List.mem_cons, List.not_mem_nil, or_false] at hq
    rcases hq with rfl | rfl | rfl | rfl
    · exact ME___eq___0_Last
    · exact ME___eq___0_First
    · exact ME___eq___0_Limit
    · exact ME___eq___0_Delay
  have ME_class_name_Last : MeT P w K mg base 1 "Last" "class_name" ["self"] (TF F_Last_class_name) := ⟨_, _, ((fn_T G26 sc_Last_class_name tf_len (q_Last_class_name E0 ) (tf_sem (N := N_Last_class_name) (n := 1) (b := b_Last_class_name)))).mono (by decide), He.meth_ok (c.d.fact 48 (f := .meth "Last" "class_name") rfl), He.cls_ok (c.d.fact 39 (f := .cls "Last") rfl), b26⟩
  have ME_class_name_First : MeT P w K mg base 1 "First" "class_name" ["self"] (TF F_First_class_name) := ⟨_, _, ((fn_T G27 sc_First_class_name tf_len (q_First_class_name E0 ) (tf_sem (N := N_First_class_name) (n := 1) (b := b_First_class_name)))).mono (by decide), He.meth_ok (c.d.fact 49 (f := .meth "First" "class_name") rfl), He.cls_ok (c.d.fact 41 (f := .cls "First") rfl), b27⟩
  have ME_class_name_Limit : MeT P w K mg base 1 "Limit" "class_name" ["self"] (TF F_Limit_class_name) := ⟨_, _, ((fn_T G28 sc_Limit_class_name tf_len (q_Limit_class_name E0 ) (tf_sem (N := N_Limit_class_name) (n := 1) (b := b_Limit_class_name)))).mono (by decide), He.meth_ok (c.d.fact 50 (f := .meth "Limit" "class_name") rfl), He.cls_ok (c.d.fact 43 (f := .cls "Limit") rfl), b28⟩
  have ME_class_name_Delay : MeT P w K mg base 1 "Delay" "class_name" ["self"] (TF F_Delay_class_name) := ⟨_, _, ((fn_T G29 sc_Delay_class_name tf_len (q_Delay_class_name E0 ) (tf_sem (N := N_Delay_class_name) (n := 1) (b := b_Delay_class_name)))).mono (by decide), He.meth_ok (c.d.fact 51 (f := .meth "Delay" "class_name") rfl), He.cls_ok (c.d.fact 45 (f := .cls "Delay") rfl), b29⟩
  have ME_class_name_Bus : MeT P w K mg base 1 "Bus" "class_name" ["self"] (TF F_Bus_class_name) := ⟨_, _, ((fn_T G30 sc_Bus_class_name tf_len (q_Bus_class_name E0 ) (tf_sem (N := N_Bus_class_name) (n := 1) (b := b_Bus_class_name)))).mono (by decide), He.meth_ok (c.d.fact 52 (f := .meth "Bus" "class_name") rfl), He.cls_ok (c.d.fact 47 (f := .cls "Bus") rfl), b30⟩
  have ME_class_name_Last_First_Limit_Delay_Bus : ∀ q ∈ TFs [("Last", F_Last_class_name), ("First", F_First_class_name), ("Limit", F_Limit_class_name), ("Delay", F_Delay_class_name), ("Bus", F_Bus_class_name)], MeT P w K mg base 1 q.1 "class_name" ["self"] q.2 := fun q hq => by
    simp only [TFs, List.map_cons, List.map_nil, List.mem_cons, List.not_mem_nil, or_false] at hq
    rcases hq with rfl | rfl | rfl | rfl | rfl
    · exact ME_class_name_Last
    · exact ME_class_name_First
    · exact ME_class_name_Limit
    · exact ME_class_name_Delay
    · exact ME_class_name_Bus
  have ME_facts_Last : MeT P w K mg base 1 "Last" "facts" ["self"] (TF F_Member_facts) := ⟨_, _, ((fn_T G31 sc_Member_facts tf_len (q_Member_facts E0 ) (tf_sem (N := N_Member_facts) (n := 1) (b := b_Member_facts)))).mono (by decide), He.meth_ok (c.d.fact 53 (f := .meth "Last" "facts") rfl), He.cls_ok (c.d.fact 39 (f := .cls "Last") rfl), b31⟩
  have ME_facts_First : MeT P w K mg base 1 "First" "facts" ["self"] (TF F_Member_facts) := ⟨_, _, ((fn_T G32 sc_Member_facts tf_len (q_Member_facts E0 ) (tf_sem (N := N_Member_facts) (n := 1) (b := b_Member_facts)))).mono (by decide), He.meth_ok (c.d.fact 54 (f := .meth "First" "facts") rfl), He.cls_ok (c.d.fact 41 (f := .cls "First") rfl), b32⟩
  have ME_facts_Limit : MeT P w K mg base 1 "Limit" "facts" ["self"] (TF F_Member_facts) := ⟨_, _, ((fn_T G33 sc_Member_facts tf_len (q_Member_facts E0 ) (tf_sem (N := N_Member_facts) (n := 1) (b := b_Member_facts)))).mono (by decide), He.meth_ok (c.d.fact 55 (f := .meth "Limit" "facts") rfl), He.cls_ok (c.d.fact 43 (f := .cls "Limit") rfl), b33⟩
  have ME_facts_Delay : MeT P w K mg base 1 "Delay" "facts" ["self"] (TF F_Delay_facts) := ⟨_, _, ((fn_T G34 sc_Delay_facts tf_len (q_Delay_facts E0 ) (tf_sem (N := N_Delay_facts) (n := 1) (b := b_Delay_facts)))).mono (by decide), He.meth_ok (c.d.fact 56 (f := .meth "Delay" "facts") rfl), He.cls_ok (c.d.fact 45 (f := .cls "Delay") rfl), b34⟩
  have ME_facts_Bus : MeT P w K mg base 1 "Bus" "facts" ["self"] (TF F_Bus_facts) := ⟨_, _, ((fn_T G35 sc_Bus_facts tf_len (q_Bus_facts E0 ) (tf_sem (N := N_Bus_facts) (n := 1) (b := b_Bus_facts)))).mono (by decide), He.meth_ok (c.d.fact 57 (f := .meth "Bus" "facts") rfl), He.cls_ok (c.d.fact 47 (f := .cls "Bus") rfl), b35⟩
  have ME_facts_Last_First_Limit_Delay_Bus : ∀ q ∈ TFs [("Last", F_Member_facts), ("First", F_Member_facts), ("Limit", F_Member_facts), ("Delay", F_Delay_facts), ("Bus", F_Bus_facts)], MeT P w K mg base 1 q.1 "facts" ["self"] q.2 := fun q hq => by
    simp only [TFs, List.map_cons, List.map_nil, List.mem_cons, List.not_mem_nil, or_false] at hq
    rcases hq with rfl | rfl | rfl | rfl | rfl
    · exact ME_facts_Last
    · exact ME_facts_First
    · exact ME_facts_Limit
    · exact ME_facts_Delay
    · exact ME_facts_Bus
  have ME___eq___1_Last : MeT P w K mg base 9 "Last" "__eq__" ["self", "other"] (TF F_Thing___eq___1) := ⟨_, _, ((fn_T G21 sc_Thing___eq___1 tf_len (q_Thing___eq___1 E0 ME___eq___0_Last_First_Limit_Delay ME_class_name_Last_First_Limit_Delay_Bus ME_facts_Last_First_Limit_Delay_Bus) (tf_sem (N := N_Thing___eq___1) (n := 2) (b := b_Thing___eq___1)))).mono (by decide), He.meth_ok (c.d.fact 38 (f := .meth "Last" "__eq__") rfl), He.cls_ok (c.d.fact 39 (f := .cls "Last") rfl), b21⟩
  have ME___eq___1_First : MeT P w K mg base 9 "First" "__eq__" ["self", "other"] (TF F_Thing___eq___1) := ⟨_, _, ((fn_T G22 sc_Thing___eq___1 tf_len (q_Thing___eq___1 E0 ME___eq___0_Last_First_Limit_Delay ME_class_name_Last_First_Limit_Delay_Bus ME_facts_Last_First_Limit_Delay_Bus) (tf_sem (N := N_Thing___eq___1) (n := 2) (b := b_Thing___eq___1)))).mono (by decide), He.meth_ok (c.d.fact 40 (f := .meth "First" "__eq__") rfl), He.cls_ok (c.d.fact 41 (f := .cls "First") rfl), b22⟩
  have ME___eq___1_Limit : MeT P w K mg base 9 "Limit" "__eq__" ["self", "other"] (TF F_Thing___eq___1) := ⟨_, _, ((fn_T G23 sc_Thing___eq___1 tf_len (q_Thing___eq___1 E0 ME___eq___0_Last_First_Limit_Delay ME_class_name_Last_First_Limit_Delay_Bus ME_facts_Last_First_Limit_Delay_Bus) (tf_sem (N := N_Thing___eq___1) (n := 2) (b := b_Thing___eq___1)))).mono (by decide), He.meth_ok (c.d.fact 42 (f := .meth "Limit" "__eq__") rfl), He.cls_ok (c.d.fact 43 (f := .cls "Limit") rfl), b23⟩
  have ME___eq___1_Delay : MeT P w K mg base 9 "Delay" "__eq__" ["self", "other"] (TF F_Thing___eq___1) := ⟨_, _, ((fn_T G24 sc_Thing___eq___1 tf_len (q_Thing___eq___1 E0 ME___eq___0_Last_First_Limit_Delay ME_class_name_Last_First_Limit_Delay_Bus ME_facts_Last_First_Limit_Delay_Bus) (tf_sem (N := N_Thing___eq___1) (n := 2) (b := b_Thing___eq___1)))).mono (by decide), He.meth_ok (c.d.fact 44 (f := .meth "Delay" "__eq__") rfl), He.cls_ok (c.d.fact 45 (f := .cls "Delay") rfl), b24⟩
  have ME___eq___1_Bus : MeT P w K mg base 9 "Bus" "__eq__" ["self", "other"] (TF F_Thing___eq___1) := ⟨_, _, ((fn_T G25 sc_Thing___eq___1 tf_len (q_Thing___eq___1 E0 ME___eq___0_Last_First_Limit_Delay ME_class_name_Last_First_Limit_Delay_Bus ME_facts_Last_First_Limit_Delay_Bus) (tf_sem (N := N_Thing___eq___1) (n := 2) (b := b_Thing___eq___1)))).mono (by decide), He.meth_ok (c.d.fact 46 (f := .meth "Bus" "__eq__") rfl), He.cls_ok (c.d.fact 47 (f := .cls "Bus") rfl), b25⟩
  have ME___eq___1_Last_First_Limit_Delay_Bus : ∀ q ∈ TFs [("Last", F_Thing___eq___1), ("First", F_Thing___eq___1), ("Limit", F_Thing___eq___1), ("Delay", F_Thing___eq___1), ("Bus", F_Thing___eq___1)], MeT P w K mg base 9 q.1 "__eq__" ["self", "other"] q.2 := fun q hq => by
    simp only [TFs, List.map_cons, List.map_nil, List.mem_cons, List.not_mem_nil, or_false] at hq
    rcases hq with rfl | rfl | rfl | rfl | rfl
    · exact ME___eq___1_Last
    · exact ME___eq___1_First
    · exact ME___eq___1_Limit
    · exact ME___eq___1_Delay
    · exact ME___eq___1_Bus
  have H_is_member : FnT P w K mg base 1 "is_member" ["thing"] (TF F_is_member) := ⟨_, _, (fn_T G8 sc_is_member tf_len (q_is_member E0 ) (tf_sem (N := N_is_member) (n := 1) (b := b_is_member))), He.glo_ok X G (c.d.fact 27 (f := .glo "is_member") rfl), G8.kp, b8⟩
  have H_is_name : FnT P w K mg base 1 "is_name" ["thing"] (TF F_is_name) := ⟨_, _, (fn_T G7 sc_is_name tf_len (q_is_name E0 ) (tf_sem (N := N_is_name) (n := 1) (b := b_is_name))), He.glo_ok X G (c.d.fact 26 (f := .glo "is_name") rfl), G7.kp, b7⟩
  have M_Bus : MkT P w K mg base 2 "Bus" ["self", "steps"] (TF F_Bus___init__) := ⟨_, _, (fn_T G12 sc_Bus___init__ tf_len (q_Bus___init__ E0 H_is_member H_is_name) (tf_sem (N := N_Bus___init__) (n := 2) (b := b_Bus___init__))), He.mkr_ok (c.d.fact 33 (f := .mkr "Bus") rfl), E0.g_Bus, b12⟩
  have H_is_number : FnT P w K mg base 1 "is_number" ["thing"] (TF F_is_number) := ⟨_, _, (fn_T G4 sc_is_number tf_len (q_is_number E0 ) (tf_sem (N := N_is_number) (n := 1) (b := b_is_number))), He.glo_ok X G (c.d.fact 23 (f := .glo "is_number") rfl), G4.kp, b4⟩
  have M_Last : MkT P w K mg base 2 "Last" ["self", "q"] (TF F_Member___init__) := ⟨_, _, (fn_T G15 sc_Member___init__ tf_len (q_Member___init__ E0 H_is_number) (tf_sem (N := N_Member___init__) (n := 2) (b := b_Member___init__))), He.mkr_ok (c.d.fact 36 (f := .mkr "Last") rfl), E0.g_Last, b15⟩
  have H__law_cell : FnT P w K mg base 1 "_law_cell" ["_law_script", "_law_index"] (TF F__law_cell) := ⟨_, _, (fn_T G1 sc__law_cell tf_len (q__law_cell E0 ) (tf_sem (N := N__law_cell) (n := 2) (b := b__law_cell))), He.glo_ok X G (c.d.fact 20 (f := .glo "_law_cell") rfl), G1.kp, b1⟩
  have H__law_rng : FnT P w K mg base 1 "_law_rng" ["_law_cell_here"] (TF F__law_rng) := ⟨_, _, (fn_T G0 sc__law_rng tf_len (q__law_rng E0 ) (tf_sem (N := N__law_rng) (n := 1) (b := b__law_rng))), He.glo_ok X G (c.d.fact 19 (f := .glo "_law_rng") rfl), G0.kp, b0⟩
  have H__law_draw : FnT P w K mg base 1 "_law_draw" ["_law_rng_here", "_law_limit"] (TF F__law_draw) := ⟨_, _, (fn_T G2 sc__law_draw tf_len (q__law_draw E0 ) (tf_sem (N := N__law_draw) (n := 2) (b := b__law_draw))), He.glo_ok X G (c.d.fact 21 (f := .glo "_law_draw") rfl), G2.kp, b2⟩
  have H__law_pick : FnT P w K mg base 2 "_law_pick" ["_law_rng_here", "_law_items"] (TF F__law_pick) := ⟨_, _, (fn_T G3 sc__law_pick tf_len (q__law_pick E0 H__law_draw) (tf_sem (N := N__law_pick) (n := 2) (b := b__law_pick))), He.glo_ok X G (c.d.fact 22 (f := .glo "_law_pick") rfl), G3.kp, b3⟩
  have M_Delay : MkT P w K mg base 2 "Delay" ["self", "d"] (TF F_Delay___init__) := ⟨_, _, (fn_T G13 sc_Delay___init__ tf_len (q_Delay___init__ E0 H_is_number) (tf_sem (N := N_Delay___init__) (n := 2) (b := b_Delay___init__))), He.mkr_ok (c.d.fact 34 (f := .mkr "Delay") rfl), E0.g_Delay, b13⟩
  have M_First : MkT P w K mg base 2 "First" ["self", "q"] (TF F_Member___init__) := ⟨_, _, (fn_T G14 sc_Member___init__ tf_len (q_Member___init__ E0 H_is_number) (tf_sem (N := N_Member___init__) (n := 2) (b := b_Member___init__))), He.mkr_ok (c.d.fact 35 (f := .mkr "First") rfl), E0.g_First, b14⟩
  have M_Limit : MkT P w K mg base 2 "Limit" ["self", "q"] (TF F_Member___init__) := ⟨_, _, (fn_T G16 sc_Member___init__ tf_len (q_Member___init__ E0 H_is_number) (tf_sem (N := N_Member___init__) (n := 2) (b := b_Member___init__))), He.mkr_ok (c.d.fact 37 (f := .mkr "Limit") rfl), E0.g_Limit, b16⟩
  have H__law_step : FnT P w K mg base 10 "_law_step" ["_law_rng_here", "_law_names"] (TF F__law_step) := ⟨_, _, (fn_T G5 sc__law_step tf_len (q__law_step E0 ME___eq___0_Last_First_Limit_Delay M_Delay M_First M_Last M_Limit H__law_draw H__law_pick) (tf_sem (N := N__law_step) (n := 2) (b := b__law_step))), He.glo_ok X G (c.d.fact 24 (f := .glo "_law_step") rfl), G5.kp, b5⟩
  have H__law_steps : FnT P w K mg base 11 "_law_steps" ["_law_rng_here"] (TF F__law_steps) := ⟨_, _, (fn_T G6 sc__law_steps tf_len (q__law_steps E0 H__law_draw H__law_pick H__law_step) (tf_sem (N := N__law_steps) (n := 1) (b := b__law_steps))), He.glo_ok X G (c.d.fact 25 (f := .glo "_law_steps") rfl), G6.kp, b6⟩
  have H__law_refused : FnT P w K mg base 4 "_law_refused" ["_law_steps_here"] (TF F__law_refused) := ⟨_, _, (fn_T G9 sc__law_refused tf_len (q__law_refused E0 M_Bus) (tf_sem (N := N__law_refused) (n := 1) (b := b__law_refused))), He.glo_ok X G (c.d.fact 28 (f := .glo "_law_refused") rfl), G9.kp, b9⟩
  have H__law_wrong_right : FnT P w K mg base 5 "_law_wrong_right" ["_law_rng_here", "_law_steps_here"] (TF F__law_wrong_right) := ⟨_, _, (fn_T G10 sc__law_wrong_right tf_len (q__law_wrong_right E0 M_Bus M_Delay M_Last H__law_draw H__law_pick H__law_refused) (tf_sem (N := N__law_wrong_right) (n := 2) (b := b__law_wrong_right))), He.glo_ok X G (c.d.fact 29 (f := .glo "_law_wrong_right") rfl), G10.kp, b10⟩
  exact (fn_T G11 sc_law len_law (q_law E0 ME___eq___1_Last_First_Limit_Delay_Bus M_Bus M_Last H__law_cell H__law_rng H__law_steps H__law_wrong_right) s_law)
end Law
open PySem PySem.W PySem.Calls PyProof.Rows
set_option maxRecDepth 100000 in
set_option maxHeartbeats 0 in
theorem PySem.Challenge.cw_quietrows_k52_busses_and_what_is_none_holds : PySem.Challenge.rw_quietrows_k52_busses_and_what_is_none.Holds := by
  w_on; o_law
  refine HandSHeadRun.head_any (r := OpenLaw.row PySem.Challenge.rw_quietrows_k52_busses_and_what_is_none) (q := view (OpenLaw.row PySem.Challenge.rw_quietrows_k52_busses_and_what_is_none).prog [30]) (H := Law.hk) (ob := Law.ob) (M := 8000) (loose := Law.names) (d := HandSHeadRun.topDef (OpenLaw.row PySem.Challenge.rw_quietrows_k52_busses_and_what_is_none).prog 30) (kwd := []) Law.ob_eq
    (by kernel_rfl) (fun s => by kernel_rfl) Law.run (by kernel_rfl) (by kernel_rfl) (by kernel_rfl) (by rfl) (by first | assumption | decide +kernel) (by decide +kernel) ⟨rfl, rfl, rfl, rfl, rfl, by decide +kernel⟩ ?hw ?hc
  case hw => w_witness2
  case hc =>
    refine Att.attach_call (l := PySem.Challenge.rw_quietrows_k52_busses_and_what_is_none) (n := 63) rfl (by kernel_rfl) fun w sa sb mg mb fa o pm cd doc a vs ns GG Y q1 q2 q3 hmg0 hobj hints hlen hgens => ?_
    obtain ⟨K, KX, c⟩ := Y
    have hmg : mg ("law" : PySem.Str) = some (.ref fa) := by
      have e : (HandSHeadRun.topDef (OpenLaw.row PySem.Challenge.rw_quietrows_k52_busses_and_what_is_none).prog 30).name = ("law" : PySem.Str) := by kernel_rfl
      rw [← e]
      exact hmg0
    obtain ⟨fd, hbind, hF⟩ := Law.facts (P := (PySem.Challenge.rw_quietrows_k52_busses_and_what_is_none).prog) (w := w) KX GG.T.g hmg c
    exact L2.law_call (x := "_law_script") KX GG.T.g GG.T.b GG.T.builtins GG.T.nolimit hgens hobj hints (Nat.le_trans hlen (by decide)) ⟨rfl, by decide, by decide⟩ hF hbind (fun H _ hS => TL.law_sp hlen hS) fun H e s' z => TL.cx_false H sb e s' z
