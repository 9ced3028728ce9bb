import PyProof.Rows.All
import Wide.All
import OpenK.AllK
import Wide.FinOn
import KE.KStateDown
import HandS.ForMost
import HandS.Exc
import HandS.TryOnly
import HandS.ExcOwn
import HandS.WordsExc
import HandS.ExcInit
import HandS.ExcField
import HandS.ExcIs
import HandS.IsInst
import HandS.Defaults
import HandS.HeadHook1
import HandS.HeadHook2
import PySem.Challenge.RW_fewcounters_k63_whole_what_is_let_by
import PySem.Str
import HandS.WordsDict
import HandS.SetKeys
import HandS.Text
import HandS.Iter
import HandS.ExcValue
import KE.KExcIs
import HandS.Zip
import HandS.Wide
import HandS.Conv
import HandS.More
import HandS.Head0
import HandS.Head1
import HandS.Head2
import HandS.HeadEnd
import HandS.Ends
set_option Elab.async false
set_option linter.all false
set_option maxRecDepth 100000
set_option maxHeartbeats 4000000
namespace Fc
open PySem PySem.Spec PyProof.Rows L2 He
/-! what the top leaves, by name (printed by gen_txt.py) -/
def top (i : Nat) : Stmt := PySem.Challenge.pw_fewcounters_k63_whole_what_is_let_by.main.body.getD i (.Pass ⟨0, 0, 0, 0⟩)
abbrev FnP (K : PySem.W.Frag) (x q : Str) (st : Stmt) (f : Addr) (fd : FuncData) : Prop := FunD K x q (defArgs st) (defBody st) (defScope st) [] [] f fd
/-- isinstance of a NoProgram, class by class -/
def kits : List (Str × Bool) := [("NoText", false), ("NoProgram", true), ("NoAnswer", false), ("NoChoice", false), ("NoPlan", false), ("NoLog", false), ("NoChain", false), ("NoCode", false), ("NoCounts", false), ("NoGuess", false), ("NoLoose", false), ("NoMarks", false), ("NoName", false), ("NoRow", false), ("NoRun", false), ("NoWay", false), ("NoWeb", false)]
/-- NoProgram's class object -/
def oexB (K : PySem.W.Frag) (C : Addr) : Bool := match K.lookup C with
  | some ⟨.type "type", _, .cls cd, sl⟩ => (match cd.mro, sl.toList with
    | .ref C' :: bm, [_, _, _, _, some (.builtin n), _] => C' == C && n == "ValueError.__new__" && !cd.hasDel && cd.hasDict && PySem.HandSPX.refsVE bm
    | _, _ => false)
  | _ => false
def ceB (K : PySem.W.Frag) (C : Addr) : Bool := match PySem.W.findCls K (.ref C) (.type "type") "__init__" with
  | some (.val v) => decide (v = .builtin "ValueError.__init__")
  | _ => false
def exB (K : PySem.W.Frag) : Bool :=
  oexB K (ga K "NoProgram") && (ceB K (ga K "CountError") && (PySem.W.readsIn K (ga K "CountError") (.type "type") && (decide (PySem.W.specialIn K (.ref (ga K "CountError")) "__getattribute__" = some (some (.builtin "type.__getattribute__"))) &&
  (decide (PySem.W.findIn K (.ref (ga K "NoProgram")) "__setattr__" = some (some (.builtin "object.__setattr__"))) && (decide (PySem.W.subIn K (.ref (ga K "NoProgram")) (.type "BaseException") = some true) && (decide (PySem.W.typeIn K (.ref (ga K "NoProgram")) = some (.type "type")) &&
  (decide (PySem.W.findIn K (.ref (ga K "NoProgram")) "__init__" = some (some (.ref (ma K (ga K "NoProgram") "__init__")))) && (decide (PySem.W.typeIn K (.ref (ma K (ga K "NoProgram") "__init__")) = some (.type "function")) && (decide (PySem.W.findIn K (.ref (ga K "NoProgram")) "word" = some none) &&
  (xfB K (ga K "NoProgram") && (decide (PySem.W.findIn K (.ref (ga K "NoProgram")) "__class__" = some (some (.builtin "object.__class__"))) && (decide (PySem.W.specialIn K (.builtin "object.__class__") "__get__" = some (some (.builtin "getset_descriptor.__get__"))) &&
  (decide (PySem.W.takesIn K (.builtin "object.__class__") = some true) && (decide (PySem.W.mroIn K (ga K "NoProgram") (.type "object") = some true) && (decide (PySem.W.kitOne K (.ref (ga K "NoProgram")) (.type "ValueError") = some true) &&
  (kits.all fun p => decide (PySem.W.kitOne K (.ref (ga K "NoProgram")) (.ref (ga K p.1)) = some p.2)))))))))))))))))
structure Txt (K : PySem.W.Frag) (mg : Str → Option Value) : Prop where
  z_len : mg "len" = none
  z_range : mg "range" = none
  z_min : mg "min" = none
  z_int : mg "int" = none
  z_isinstance : mg "isinstance" = none
  z_str : mg "str" = none
  z_bool : mg "bool" = none
  z_enumerate : mg "enumerate" = none
  z_zip : mg "zip" = none
  z_sum : mg "sum" = none
  z_list : mg "list" = none
  z_ValueError : mg "ValueError" = none
  z_tuple : mg "tuple" = none
  z_set : mg "set" = none
  z_dict : mg "dict" = none
  z_max : mg "max" = none
  z_all : mg "all" = none
  z_any : mg "any" = none
  g_CountError : mg "CountError" = some (.ref (ga K "CountError"))
  k_CountError : PySem.W.keepIn K (.ref (ga K "CountError")) = true
  g_NoWeb : mg "NoWeb" = some (.ref (ga K "NoWeb"))
  k_NoWeb : PySem.W.keepIn K (.ref (ga K "NoWeb")) = true
  g_NoRun : mg "NoRun" = some (.ref (ga K "NoRun"))
  k_NoRun : PySem.W.keepIn K (.ref (ga K "NoRun")) = true
  g_NoCounts : mg "NoCounts" = some (.ref (ga K "NoCounts"))
  k_NoCounts : PySem.W.keepIn K (.ref (ga K "NoCounts")) = true
  g_NoChoice : mg "NoChoice" = some (.ref (ga K "NoChoice"))
  k_NoChoice : PySem.W.keepIn K (.ref (ga K "NoChoice")) = true
  g_NoGuess : mg "NoGuess" = some (.ref (ga K "NoGuess"))
  k_NoGuess : PySem.W.keepIn K (.ref (ga K "NoGuess")) = true
  g_NoMarks : mg "NoMarks" = some (.ref (ga K "NoMarks"))
  k_NoMarks : PySem.W.keepIn K (.ref (ga K "NoMarks")) = true
  g_NoLoose : mg "NoLoose" = some (.ref (ga K "NoLoose"))
  k_NoLoose : PySem.W.keepIn K (.ref (ga K "NoLoose")) = true
  g_NoWay : mg "NoWay" = some (.ref (ga K "NoWay"))
  k_NoWay : PySem.W.keepIn K (.ref (ga K "NoWay")) = true
  g_NoChain : mg "NoChain" = some (.ref (ga K "NoChain"))
  k_NoChain : PySem.W.keepIn K (.ref (ga K "NoChain")) = true
  g_NoText : mg "NoText" = some (.ref (ga K "NoText"))
  k_NoText : PySem.W.keepIn K (.ref (ga K "NoText")) = true
  g_NoProgram : mg "NoProgram" = some (.ref (ga K "NoProgram"))
  k_NoProgram : PySem.W.keepIn K (.ref (ga K "NoProgram")) = true
  g_NoCode : mg "NoCode" = some (.ref (ga K "NoCode"))
  k_NoCode : PySem.W.keepIn K (.ref (ga K "NoCode")) = true
  g_NoAnswer : mg "NoAnswer" = some (.ref (ga K "NoAnswer"))
  k_NoAnswer : PySem.W.keepIn K (.ref (ga K "NoAnswer")) = true
  g_NoPlan : mg "NoPlan" = some (.ref (ga K "NoPlan"))
  k_NoPlan : PySem.W.keepIn K (.ref (ga K "NoPlan")) = true
  g_NoLog : mg "NoLog" = some (.ref (ga K "NoLog"))
  k_NoLog : PySem.W.keepIn K (.ref (ga K "NoLog")) = true
  g_NoRow : mg "NoRow" = some (.ref (ga K "NoRow"))
  k_NoRow : PySem.W.keepIn K (.ref (ga K "NoRow")) = true
  g_NoName : mg "NoName" = some (.ref (ga K "NoName"))
  k_NoName : PySem.W.keepIn K (.ref (ga K "NoName")) = true
  g_Fork : mg "Fork" = some (.ref (ga K "Fork"))
  k_Fork : PySem.W.keepIn K (.ref (ga K "Fork")) = true
  g_Spots : mg "Spots" = some (.ref (ga K "Spots"))
  k_Spots : PySem.W.keepIn K (.ref (ga K "Spots")) = true
  g_Reader : mg "Reader" = some (.ref (ga K "Reader"))
  k_Reader : PySem.W.keepIn K (.ref (ga K "Reader")) = true
  g_is_name : mg "is_name" = some (.ref (ga K "is_name"))
  k_is_name : PySem.W.keepIn K (.ref (ga K "is_name")) = true
  g_taken_of : mg "taken_of" = some (.ref (ga K "taken_of"))
  k_taken_of : PySem.W.keepIn K (.ref (ga K "taken_of")) = true
  g_drawn_of : mg "drawn_of" = some (.ref (ga K "drawn_of"))
  k_drawn_of : PySem.W.keepIn K (.ref (ga K "drawn_of")) = true
  g_row_too_many : mg "row_too_many" = some (.ref (ga K "row_too_many"))
  k_row_too_many : PySem.W.keepIn K (.ref (ga K "row_too_many")) = true
  g_faults_of : mg "faults_of" = some (.ref (ga K "faults_of"))
  k_faults_of : PySem.W.keepIn K (.ref (ga K "faults_of")) = true
  g_let_by : mg "let_by" = some (.ref (ga K "let_by"))
  k_let_by : PySem.W.keepIn K (.ref (ga K "let_by")) = true
  g_looked : mg "looked" = some (.ref (ga K "looked"))
  k_looked : PySem.W.keepIn K (.ref (ga K "looked")) = true
  g__law_mixed : mg "_law_mixed" = some (.ref (ga K "_law_mixed"))
  k__law_mixed : PySem.W.keepIn K (.ref (ga K "_law_mixed")) = true
  g__law_pull : mg "_law_pull" = some (.ref (ga K "_law_pull"))
  k__law_pull : PySem.W.keepIn K (.ref (ga K "_law_pull")) = true
  g__law_name : mg "_law_name" = some (.ref (ga K "_law_name"))
  k__law_name : PySem.W.keepIn K (.ref (ga K "_law_name")) = true
  g__law_passes : mg "_law_passes" = some (.ref (ga K "_law_passes"))
  k__law_passes : PySem.W.keepIn K (.ref (ga K "_law_passes")) = true
  g__law_thing : mg "_law_thing" = some (.ref (ga K "_law_thing"))
  k__law_thing : PySem.W.keepIn K (.ref (ga K "_law_thing")) = true
  g__law_list : mg "_law_list" = some (.ref (ga K "_law_list"))
  k__law_list : PySem.W.keepIn K (.ref (ga K "_law_list")) = true
  g__law_drawn : mg "_law_drawn" = some (.ref (ga K "_law_drawn"))
  k__law_drawn : PySem.W.keepIn K (.ref (ga K "_law_drawn")) = true
  g__law_called : mg "_law_called" = some (.ref (ga K "_law_called"))
  k__law_called : PySem.W.keepIn K (.ref (ga K "_law_called")) = true
  g__law_words : mg "_law_words" = some (.ref (ga K "_law_words"))
  k__law_words : PySem.W.keepIn K (.ref (ga K "_law_words")) = true
  g__law_text : mg "_law_text" = some (.ref (ga K "_law_text"))
  k__law_text : PySem.W.keepIn K (.ref (ga K "_law_text")) = true
  g__law_class : mg "_law_class" = some (.ref (ga K "_law_class"))
  k__law_class : PySem.W.keepIn K (.ref (ga K "_law_class")) = true
  g__law_whole : mg "_law_whole" = some (.ref (ga K "_law_whole"))
  k__law_whole : PySem.W.keepIn K (.ref (ga K "_law_whole")) = true
  g__law_caught : mg "_law_caught" = some (.ref (ga K "_law_caught"))
  k__law_caught : PySem.W.keepIn K (.ref (ga K "_law_caught")) = true
  g__law_look : mg "_law_look" = some (.ref (ga K "_law_look"))
  k__law_look : PySem.W.keepIn K (.ref (ga K "_law_look")) = true
  g__law_faults : mg "_law_faults" = some (.ref (ga K "_law_faults"))
  k__law_faults : PySem.W.keepIn K (.ref (ga K "_law_faults")) = true
  g__law_many : mg "_law_many" = some (.ref (ga K "_law_many"))
  k__law_many : PySem.W.keepIn K (.ref (ga K "_law_many")) = true
  g__law_things : mg "_law_things" = some (.ref (ga K "_law_things"))
  k__law_things : PySem.W.keepIn K (.ref (ga K "_law_things")) = true
  g__law_uncalled : mg "_law_uncalled" = some (.ref (ga K "_law_uncalled"))
  k__law_uncalled : PySem.W.keepIn K (.ref (ga K "_law_uncalled")) = true
  g__law_nested : mg "_law_nested" = some (.ref (ga K "_law_nested"))
  k__law_nested : PySem.W.keepIn K (.ref (ga K "_law_nested")) = true
  g__law_filled : mg "_law_filled" = some (.ref (ga K "_law_filled"))
  k__law_filled : PySem.W.keepIn K (.ref (ga K "_law_filled")) = true
  g__law_bent : mg "_law_bent" = some (.ref (ga K "_law_bent"))
  k__law_bent : PySem.W.keepIn K (.ref (ga K "_law_bent")) = true
  g_law : mg "law" = some (.ref (ga K "law"))
  k_law : PySem.W.keepIn K (.ref (ga K "law")) = true
  i_LONGEST : ∃ t, mg "LONGEST" = some (.int 8 t)
  i_MOST_ROWS : ∃ t, mg "MOST_ROWS" = some (.int 30 t)
  i_MOST_PLACES : ∃ t, mg "MOST_PLACES" = some (.int 16 t)
  i_MOST_PARTS : ∃ t, mg "MOST_PARTS" = some (.int 4 t)
  s_LETTERS : ∃ t, mg "LETTERS" = some (.str "abcdefghijklmnopqrstuvwxyz" t)
  c_Fork : Cls K (ga K "Fork")
  mk_Fork : Mk K (ga K "Fork") (ma K (ga K "Fork") "__init__")
  m_Fork___init__ : Meth K (ga K "Fork") "__init__" (ma K (ga K "Fork") "__init__")
  n_Fork_word : NoAttr K (ga K "Fork") "word"
  n_Fork_start : NoAttr K (ga K "Fork") "start"
  n_Fork_other : NoAttr K (ga K "Fork") "other"
  n_Fork_alive : NoAttr K (ga K "Fork") "alive"
  n_Fork_passed : NoAttr K (ga K "Fork") "passed"
  n_Fork_passes : NoAttr K (ga K "Fork") "passes"
  c_Spots : Cls K (ga K "Spots")
  mk_Spots : Mk K (ga K "Spots") (ma K (ga K "Spots") "__init__")
  m_Spots___init__ : Meth K (ga K "Spots") "__init__" (ma K (ga K "Spots") "__init__")
  m_Spots_fresh : Meth K (ga K "Spots") "fresh" (ma K (ga K "Spots") "fresh")
  m_Spots_root : Meth K (ga K "Spots") "root" (ma K (ga K "Spots") "root")
  m_Spots_put_together : Meth K (ga K "Spots") "put_together" (ma K (ga K "Spots") "put_together")
  m_Spots_stands : Meth K (ga K "Spots") "stands" (ma K (ga K "Spots") "stands")
  m_Spots_gone : Meth K (ga K "Spots") "gone" (ma K (ga K "Spots") "gone")
  m_Spots_asked : Meth K (ga K "Spots") "asked" (ma K (ga K "Spots") "asked")
  m_Spots_turned : Meth K (ga K "Spots") "turned" (ma K (ga K "Spots") "turned")
  m_Spots_left : Meth K (ga K "Spots") "left" (ma K (ga K "Spots") "left")
  m_Spots_innermost : Meth K (ga K "Spots") "innermost" (ma K (ga K "Spots") "innermost")
  m_Spots_closed : Meth K (ga K "Spots") "closed" (ma K (ga K "Spots") "closed")
  m_Spots_take : Meth K (ga K "Spots") "take" (ma K (ga K "Spots") "take")
  m_Spots_places : Meth K (ga K "Spots") "places" (ma K (ga K "Spots") "places")
  n_Spots_joined : NoAttr K (ga K "Spots") "joined"
  n_Spots_rows : NoAttr K (ga K "Spots") "rows"
  n_Spots_here : NoAttr K (ga K "Spots") "here"
  n_Spots_alive : NoAttr K (ga K "Spots") "alive"
  n_Spots_forks : NoAttr K (ga K "Spots") "forks"
  n_Spots_dead : NoAttr K (ga K "Spots") "dead"
  n_Spots_whole : NoAttr K (ga K "Spots") "whole"
  c_Reader : Cls K (ga K "Reader")
  mk_Reader : Mk K (ga K "Reader") (ma K (ga K "Reader") "__init__")
  m_Reader___init__ : Meth K (ga K "Reader") "__init__" (ma K (ga K "Reader") "__init__")
  m_Reader_named : Meth K (ga K "Reader") "named" (ma K (ga K "Reader") "named")
  m_Reader_bare : Meth K (ga K "Reader") "bare" (ma K (ga K "Reader") "bare")
  m_Reader_take : Meth K (ga K "Reader") "take" (ma K (ga K "Reader") "take")
  n_Reader_words : NoAttr K (ga K "Reader") "words"
  n_Reader_at : NoAttr K (ga K "Reader") "at"
  n_Reader_opened : NoAttr K (ga K "Reader") "opened"
  n_Reader_taken : NoAttr K (ga K "Reader") "taken"
  x_caught : PySem.W.exmOne K (.ref (ga K "NoProgram")) (.ref (ga K "CountError")) = some true
  d_Fork___init__ : ∃ fd, FnP K "__init__" "Fork.__init__" (inClass (top 20) 0) (ma K (ga K "Fork") "__init__") fd
  d_Spots___init__ : ∃ fd, FnP K "__init__" "Spots.__init__" (inClass (top 21) 0) (ma K (ga K "Spots") "__init__") fd
  d_Spots_fresh : ∃ fd, FnP K "fresh" "Spots.fresh" (inClass (top 21) 1) (ma K (ga K "Spots") "fresh") fd
  d_Spots_root : ∃ fd, FnP K "root" "Spots.root" (inClass (top 21) 2) (ma K (ga K "Spots") "root") fd
  d_Spots_put_together : ∃ fd, FnP K "put_together" "Spots.put_together" (inClass (top 21) 3) (ma K (ga K "Spots") "put_together") fd
  d_Spots_stands : ∃ fd, FnP K "stands" "Spots.stands" (inClass (top 21) 4) (ma K (ga K "Spots") "stands") fd
  d_Spots_gone : ∃ fd, FnP K "gone" "Spots.gone" (inClass (top 21) 5) (ma K (ga K "Spots") "gone") fd
  d_Spots_asked : ∃ fd, FnP K "asked" "Spots.asked" (inClass (top 21) 6) (ma K (ga K "Spots") "asked") fd
  d_Spots_turned : ∃ fd, FnP K "turned" "Spots.turned" (inClass (top 21) 7) (ma K (ga K "Spots") "turned") fd
  d_Spots_left : ∃ fd, FnP K "left" "Spots.left" (inClass (top 21) 8) (ma K (ga K "Spots") "left") fd
  d_Spots_innermost : ∃ fd, FnP K "innermost" "Spots.innermost" (inClass (top 21) 9) (ma K (ga K "Spots") "innermost") fd
  d_Spots_closed : ∃ fd, FnP K "closed" "Spots.closed" (inClass (top 21) 10) (ma K (ga K "Spots") "closed") fd
  d_Spots_take : ∃ fd, FnP K "take" "Spots.take" (inClass (top 21) 11) (ma K (ga K "Spots") "take") fd
  d_Spots_places : ∃ fd, FnP K "places" "Spots.places" (inClass (top 21) 12) (ma K (ga K "Spots") "places") fd
  d_Reader___init__ : ∃ fd, FnP K "__init__" "Reader.__init__" (inClass (top 29) 0) (ma K (ga K "Reader") "__init__") fd
  d_Reader_named : ∃ fd, FnP K "named" "Reader.named" (inClass (top 29) 1) (ma K (ga K "Reader") "named") fd
  d_Reader_bare : ∃ fd, FnP K "bare" "Reader.bare" (inClass (top 29) 2) (ma K (ga K "Reader") "bare") fd
  d_Reader_take : ∃ fd, FnP K "take" "Reader.take" (inClass (top 29) 3) (ma K (ga K "Reader") "take") fd
  d_NoProgram : ∃ fd, FnP K "__init__" "NoProgram.__init__" (inClass (top 12) 0) (ma K (ga K "NoProgram") "__init__") fd
  d_is_name : ∃ fd, FnP K "is_name" "is_name" (top 28) (ga K "is_name") fd
  d_taken_of : ∃ fd, FnP K "taken_of" "taken_of" (top 30) (ga K "taken_of") fd
  d_drawn_of : ∃ fd, FnP K "drawn_of" "drawn_of" (top 31) (ga K "drawn_of") fd
  d_row_too_many : ∃ fd, FnP K "row_too_many" "row_too_many" (top 32) (ga K "row_too_many") fd
  d_faults_of : ∃ fd, FnP K "faults_of" "faults_of" (top 33) (ga K "faults_of") fd
  d_let_by : ∃ fd, FnP K "let_by" "let_by" (top 34) (ga K "let_by") fd
  d_looked : ∃ fd, FnP K "looked" "looked" (top 35) (ga K "looked") fd
  d__law_mixed : ∃ fd, FnP K "_law_mixed" "_law_mixed" (top 37) (ga K "_law_mixed") fd
  d__law_pull : ∃ fd, FnP K "_law_pull" "_law_pull" (top 38) (ga K "_law_pull") fd
  d__law_name : ∃ fd, FnP K "_law_name" "_law_name" (top 39) (ga K "_law_name") fd
  d__law_passes : ∃ fd, FnP K "_law_passes" "_law_passes" (top 40) (ga K "_law_passes") fd
  d__law_thing : ∃ fd, FnP K "_law_thing" "_law_thing" (top 41) (ga K "_law_thing") fd
  d__law_list : ∃ fd, FnP K "_law_list" "_law_list" (top 42) (ga K "_law_list") fd
  d__law_drawn : ∃ fd, FnP K "_law_drawn" "_law_drawn" (top 43) (ga K "_law_drawn") fd
  d__law_called : ∃ fd, FnP K "_law_called" "_law_called" (top 44) (ga K "_law_called") fd
  d__law_words : ∃ fd, FnP K "_law_words" "_law_words" (top 45) (ga K "_law_words") fd
  d__law_text : ∃ fd, FnP K "_law_text" "_law_text" (top 46) (ga K "_law_text") fd
  d__law_class : ∃ fd, FnP K "_law_class" "_law_class" (top 47) (ga K "_law_class") fd
  d__law_whole : ∃ fd, FnP K "_law_whole" "_law_whole" (top 48) (ga K "_law_whole") fd
  d__law_caught : ∃ fd, FnP K "_law_caught" "_law_caught" (top 49) (ga K "_law_caught") fd
  d__law_look : ∃ fd, FnP K "_law_look" "_law_look" (top 50) (ga K "_law_look") fd
  d__law_faults : ∃ fd, FnP K "_law_faults" "_law_faults" (top 51) (ga K "_law_faults") fd
  d__law_many : ∃ fd, FnP K "_law_many" "_law_many" (top 52) (ga K "_law_many") fd
  d__law_things : ∃ fd, FnP K "_law_things" "_law_things" (top 53) (ga K "_law_things") fd
  d__law_uncalled : ∃ fd, FnP K "_law_uncalled" "_law_uncalled" (top 54) (ga K "_law_uncalled") fd
  d__law_nested : ∃ fd, FnP K "_law_nested" "_law_nested" (top 55) (ga K "_law_nested") fd
  d__law_filled : ∃ fd, FnP K "_law_filled" "_law_filled" (top 56) (ga K "_law_filled") fd
  d__law_bent : ∃ fd, FnP K "_law_bent" "_law_bent" (top 57) (ga K "_law_bent") fd
  d_law : ∃ fd, FnP K "law" "law" (top 58) (ga K "law") fd
  ex : exB K = true
end Fc

set_option Elab.async false
set_option linter.all false
namespace Fc
open PySem
/-! the plain law, 1: programs as trees, their words, their steps; how they are read -/
abbrev wPart : Str := "part"
abbrev wEnd : Str := "end"
abbrev wDo : Str := "do"
abbrev wCall : Str := "call"
abbrev wIf : Str := "if"
abbrev wElse : Str := "else"
abbrev wWhile : Str := "while"
abbrev wLeave : Str := "leave"
abbrev wBack : Str := "back"
/-- what a call names: the number of a part, or a name -/
inductive Cl where
  | ix (i : Nat)
  | nm (n : Str)
/-- a list of things: first thing, rest -/
inductive L where
  | nil
  | lv (r : L)
  | bk (r : L)
  | dO (n : Str) (r : L)
  | ca (c : Cl) (r : L)
  | fi (n : Str) (a b r : L)
  | wh (n : Str) (a r : L)
def Cl.name (ns : List Str) : Cl → Str
  | .ix i => ns.getD i ⟨#[]⟩
  | .nm n => n
structure Step where
  w : Str
  k : Nat
  n : Str
  deriving DecidableEq
/-- one to eight small letters -/
def Nm (n : Str) : Prop := 1 ≤ n.cps.size ∧ n.cps.size ≤ 8 ∧ ∀ c ∈ n.cps.toList, 97 ≤ c ∧ c ≤ 122
/-- how many words -/
def wl : L → Nat
  | .nil => 0
  | .lv r => wl r + 1
  | .bk r => wl r + 1
  | .dO _ r => wl r + 2
  | .ca _ r => wl r + 2
  | .fi _ a b r => wl a + wl b + wl r + 4
  | .wh _ a r => wl a + wl r + 3
def wds (ns : List Str) : L → List Str
  | .nil => []
  | .lv r => wLeave :: wds ns r
  | .bk r => wBack :: wds ns r
  | .dO n r => wDo :: n :: wds ns r
  | .ca c r => wCall :: c.name ns :: wds ns r
  | .fi n a b r => wIf :: n :: (wds ns a ++ (wElse :: (wds ns b ++ (wEnd :: wds ns r))))
  | .wh n a r => wWhile :: n :: (wds ns a ++ (wEnd :: wds ns r))
theorem wds_len (ns : List Str) : ∀ l : L, (wds ns l).length = wl l := by
  intro l
  induction l with
  | nil => rfl
  | lv r ih => simp [wds, wl, ih]
  | bk r ih => simp [wds, wl, ih]
  | dO n r ih => simp [wds, wl, ih]
  | ca c r ih => simp [wds, wl, ih]
  | fi n a b r iha ihb ihr => simp [wds, wl, iha, ihb, ihr]; omega
  | wh n a r iha ihr => simp [wds, wl, iha, ihr]; omega
def stp (ns : List Str) : L → Nat → List Step
  | .nil, _ => []
  | .lv r, k => ⟨wLeave, k, ⟨#[]⟩⟩ :: stp ns r (k + 1)
  | .bk r, k => ⟨wBack, k, ⟨#[]⟩⟩ :: stp ns r (k + 1)
  | .dO n r, k => ⟨wDo, k, n⟩ :: stp ns r (k + 2)
  | .ca c r, k => ⟨wCall, k, c.name ns⟩ :: stp ns r (k + 2)
  | .fi n a b r, k => ⟨wIf, k, n⟩ :: (stp ns a (k + 2) ++ (⟨wElse, k + 2 + wl a, ⟨#[]⟩⟩ :: (stp ns b (k + 3 + wl a) ++ (⟨wEnd, k + 3 + wl a + wl b, wElse⟩ :: stp ns r (k + 4 + wl a + wl b)))))
  | .wh n a r, k => ⟨wWhile, k, n⟩ :: (stp ns a (k + 2) ++ (⟨wEnd, k + 2 + wl a, wWhile⟩ :: stp ns r (k + 3 + wl a)))
/-- names are names; a leave stands in a while; calls by number are of parts -/
def Wf (m : Nat) : L → Bool → Prop
  | .nil, _ => True
  | .lv r, w => w = true ∧ Wf m r w
  | .bk r, w => Wf m r w
  | .dO n r, w => Nm n ∧ Wf m r w
  | .ca c r, w => (match c with | .ix i => i < m | .nm n => Nm n) ∧ Wf m r w
  | .fi n a b r, w => Nm n ∧ Wf m a w ∧ Wf m b w ∧ Wf m r w
  | .wh n a r, w => Nm n ∧ Wf m a true ∧ Wf m r w
theorem Cl.ok {ns : List Str} {m : Nat} (hm : m = ns.length) (hn : ∀ n ∈ ns, Nm n) : ∀ c : Cl, (match c with | .ix i => i < m | .nm n => Nm n) → Nm (c.name ns)
  | .ix i, h => by
    have h2 : i < ns.length := by rw [← hm]; exact h
    have e : ns.getD i ⟨#[]⟩ = ns[i] := by simp [List.getD, h2]
    show Nm (ns.getD i ⟨#[]⟩)
    rw [e]
    exact hn _ (List.getElem_mem h2)
  | .nm n, h => h
/-! ### the reader -/
/-- one step of the reader: at a word, with what stands open -/
inductive Tk (ws : List Str) : Nat → List Str → Nat → List Str → Step → Prop
  | part {k : Nat} {n : Str} : ws[k]? = some wPart → ws[k + 1]? = some n → Nm n → Tk ws k [] (k + 2) [wPart] ⟨wPart, k, n⟩
  | ask {k : Nat} {w n : Str} {op : List Str} : ws[k]? = some w → (w = wIf ∨ w = wWhile) → ws[k + 1]? = some n → Nm n → op ≠ [] → Tk ws k op (k + 2) (op ++ [w]) ⟨w, k, n⟩
  | go {k : Nat} {w n : Str} {op : List Str} : ws[k]? = some w → (w = wDo ∨ w = wCall) → ws[k + 1]? = some n → Nm n → op ≠ [] → Tk ws k op (k + 2) op ⟨w, k, n⟩
  | els {k : Nat} {op : List Str} : ws[k]? = some wElse → Tk ws k (op ++ [wIf]) (k + 1) (op ++ [wElse]) ⟨wElse, k, ⟨#[]⟩⟩
  | en {k : Nat} {x : Str} {op : List Str} : ws[k]? = some wEnd → (x = wPart ∨ x = wElse ∨ x = wWhile) → Tk ws k (op ++ [x]) (k + 1) op ⟨wEnd, k, x⟩
  | bk {k : Nat} {op : List Str} : ws[k]? = some wBack → op ≠ [] → Tk ws k op (k + 1) op ⟨wBack, k, ⟨#[]⟩⟩
  | lv {k : Nat} {op : List Str} : ws[k]? = some wLeave → wWhile ∈ op → Tk ws k op (k + 1) op ⟨wLeave, k, ⟨#[]⟩⟩
theorem Tk.lt {ws : List Str} {k k' : Nat} {op op' : List Str} {s : Step} (h : Tk ws k op k' op' s) : k < ws.length ∧ k < k' ∧ k' ≤ ws.length := by
  have key : ∀ {i : Nat} {x : Str}, ws[i]? = some x → i < ws.length := fun h => (List.getElem?_eq_some_iff.mp h).1
  cases h with
  | part a b _ => exact ⟨key a, by omega, key b⟩
  | ask a _ b _ _ => exact ⟨key a, by omega, key b⟩
  | go a _ b _ _ => exact ⟨key a, by omega, key b⟩
  | els a => exact ⟨key a, by omega, key a⟩
  | en a _ => exact ⟨key a, by omega, key a⟩
  | bk a _ => exact ⟨key a, by omega, key a⟩
  | lv a _ => exact ⟨key a, by omega, key a⟩
/-- what is still to be read -/
inductive Rds (ws : List Str) : Nat → List Str → List Step → Prop
  | done : Rds ws ws.length [] []
  | more {k k' : Nat} {op op' : List Str} {s : Step} {r : List Step} : Tk ws k op k' op' s → Rds ws k' op' r → Rds ws k op (s :: r)
theorem at_pre {pre : List Str} {x : Str} {post : List Str} : (pre ++ x :: post)[pre.length]? = some x := by simp
theorem at_pre1 {pre : List Str} {x y : Str} {post : List Str} : (pre ++ x :: y :: post)[pre.length + 1]? = some y := by simp
theorem rds_list {ns : List Str} {m : Nat} (hm : m = ns.length) (hn : ∀ n ∈ ns, Nm n) : ∀ (l : L) (w : Bool) (ws pre post op : List Str) (rest : List Step), Wf m l w → (w = true → wWhile ∈ op) → op ≠ [] → ws = pre ++ (wds ns l ++ post) →
    Rds ws (pre.length + wl l) op rest → Rds ws pre.length op (stp ns l pre.length ++ rest) := by
  intro l
  induction l with
  | nil => intro w ws pre post op rest _ _ _ _ h; exact h
  | lv r ih =>
    intro w ws pre post op rest hw hop ho e h
    obtain ⟨h1, h2⟩ := hw
    have e1 : ws = pre ++ wLeave :: (wds ns r ++ post) := e
    have e2 : ws = (pre ++ [wLeave]) ++ (wds ns r ++ post) := by rw [e1]; simp
    have hl : (pre ++ [wLeave]).length = pre.length + 1 := by simp
    have z := ih w ws (pre ++ [wLeave]) post op rest h2 hop ho e2 (by rw [hl, Nat.add_assoc, Nat.add_comm 1]; exact h)
    rw [hl] at z
    exact .more (.lv (by rw [e1]; exact at_pre) (hop h1)) z
  | bk r ih =>
    intro w ws pre post op rest hw hop ho e h
    have e1 : ws = pre ++ wBack :: (wds ns r ++ post) := e
    have e2 : ws = (pre ++ [wBack]) ++ (wds ns r ++ post) := by rw [e1]; simp
    have hl : (pre ++ [wBack]).length = pre.length + 1 := by simp
    have z := ih w ws (pre ++ [wBack]) post op rest hw hop ho e2 (by rw [hl, Nat.add_assoc, Nat.add_comm 1]; exact h)
    rw [hl] at z
    exact .more (.bk (by rw [e1]; exact at_pre) ho) z
  | dO n r ih =>
    intro w ws pre post op rest hw hop ho e h
    obtain ⟨h1, h2⟩ := hw
    have e1 : ws = pre ++ wDo :: n :: (wds ns r ++ post) := e
    have e2 : ws = (pre ++ [wDo, n]) ++ (wds ns r ++ post) := by rw [e1]; simp
    have hl : (pre ++ [wDo, n]).length = pre.length + 2 := by simp
    have z := ih w ws (pre ++ [wDo, n]) post op rest h2 hop ho e2 (by rw [hl, Nat.add_assoc, Nat.add_comm 2]; exact h)
    rw [hl] at z
    exact .more (.go (by rw [e1]; exact at_pre) (.inl rfl) (by rw [e1]; exact at_pre1) h1 ho) z
  | ca c r ih =>
    intro w ws pre post op rest hw hop ho e h
    obtain ⟨h1, h2⟩ := hw
    have e1 : ws = pre ++ wCall :: c.name ns :: (wds ns r ++ post) := e
    have e2 : ws = (pre ++ [wCall, c.name ns]) ++ (wds ns r ++ post) := by rw [e1]; simp
    have hl : (pre ++ [wCall, c.name ns]).length = pre.length + 2 := by simp
    have z := ih w ws (pre ++ [wCall, c.name ns]) post op rest h2 hop ho e2 (by rw [hl, Nat.add_assoc, Nat.add_comm 2]; exact h)
    rw [hl] at z
    exact .more (.go (by rw [e1]; exact at_pre) (.inr rfl) (by rw [e1]; exact at_pre1) (Cl.ok hm hn c h1) ho) z
  | fi n a b r iha ihb ihr =>
    intro w ws pre post op rest hw hop ho e h
    obtain ⟨h1, h2, h3, h4⟩ := hw
    have e1 : ws = pre ++ wIf :: n :: ((wds ns a ++ (wElse :: (wds ns b ++ (wEnd :: wds ns r)))) ++ post) := e
    have ea : ws = (pre ++ [wIf, n]) ++ (wds ns a ++ (wElse :: (wds ns b ++ (wEnd :: (wds ns r ++ post))))) := by rw [e1]; simp
    have eb : ws = (pre ++ [wIf, n] ++ wds ns a ++ [wElse]) ++ (wds ns b ++ (wEnd :: (wds ns r ++ post))) := by rw [e1]; simp
    have er : ws = (pre ++ [wIf, n] ++ wds ns a ++ [wElse] ++ wds ns b ++ [wEnd]) ++ (wds ns r ++ post) := by rw [e1]; simp
    have la : (pre ++ [wIf, n]).length = pre.length + 2 := by simp
    have lb : (pre ++ [wIf, n] ++ wds ns a ++ [wElse]).length = pre.length + 3 + wl a := by simp [wds_len]; omega
    have lr : (pre ++ [wIf, n] ++ wds ns a ++ [wElse] ++ wds ns b ++ [wEnd]).length = pre.length + 4 + wl a + wl b := by simp [wds_len]; omega
    have zr := ihr w ws _ post op rest h4 hop ho er (by rw [lr]; refine Eq.mp ?_ h; congr 1; simp only [wl]; omega)
    rw [lr] at zr
    have zb := ihb w ws _ (wEnd :: (wds ns r ++ post)) (op ++ [wElse]) (⟨wEnd, pre.length + 3 + wl a + wl b, wElse⟩ :: (stp ns r (pre.length + 4 + wl a + wl b) ++ rest)) h3 (fun q => List.mem_append_left _ (hop q)) (by simp) eb (by
      rw [lb]
      refine .more (.en ?_ (.inr (.inl rfl))) ?_
      · have q : ws = (pre ++ [wIf, n] ++ wds ns a ++ [wElse] ++ wds ns b) ++ (wEnd :: (wds ns r ++ post)) := by rw [e1]; simp
        have lq : (pre ++ [wIf, n] ++ wds ns a ++ [wElse] ++ wds ns b).length = pre.length + 3 + wl a + wl b := by simp [wds_len]; omega
        rw [← lq, q]
        exact at_pre
      · refine Eq.mp ?_ zr; congr 1; omega)
    rw [lb] at zb
    have za := iha w ws _ (wElse :: (wds ns b ++ (wEnd :: (wds ns r ++ post)))) (op ++ [wIf]) (⟨wElse, pre.length + 2 + wl a, ⟨#[]⟩⟩ :: (stp ns b (pre.length + 3 + wl a) ++ (⟨wEnd, pre.length + 3 + wl a + wl b, wElse⟩ :: (stp ns r (pre.length + 4 + wl a + wl b) ++ rest)))) h2 (fun q => List.mem_append_left _ (hop q)) (by simp) ea (by
      rw [la]
      refine .more (.els ?_) ?_
      · have q : ws = (pre ++ [wIf, n] ++ wds ns a) ++ (wElse :: (wds ns b ++ (wEnd :: (wds ns r ++ post)))) := by rw [e1]; simp
        have lq : (pre ++ [wIf, n] ++ wds ns a).length = pre.length + 2 + wl a := by simp [wds_len]; omega
        rw [← lq, q]
        exact at_pre
      · refine Eq.mp ?_ zb; congr 1; omega)
    rw [la] at za
    have fin := Rds.more (ws := ws) (.ask (op := op) (k := pre.length) (w := wIf) (n := n) (by rw [e1]; exact at_pre) (.inl rfl) (by rw [e1]; exact at_pre1) h1 ho) za
    simpa [stp, List.append_assoc] using fin
  | wh n a r iha ihr =>
    intro w ws pre post op rest hw hop ho e h
    obtain ⟨h1, h2, h4⟩ := hw
    have e1 : ws = pre ++ wWhile :: n :: ((wds ns a ++ (wEnd :: wds ns r)) ++ post) := e
    have ea : ws = (pre ++ [wWhile, n]) ++ (wds ns a ++ (wEnd :: (wds ns r ++ post))) := by rw [e1]; simp
    have er : ws = (pre ++ [wWhile, n] ++ wds ns a ++ [wEnd]) ++ (wds ns r ++ post) := by rw [e1]; simp
    have la : (pre ++ [wWhile, n]).length = pre.length + 2 := by simp
    have lr : (pre ++ [wWhile, n] ++ wds ns a ++ [wEnd]).length = pre.length + 3 + wl a := by simp [wds_len]; omega
    have zr := ihr w ws _ post op rest h4 hop ho er (by rw [lr]; refine Eq.mp ?_ h; congr 1; simp only [wl]; omega)
    rw [lr] at zr
    have za := iha true ws _ (wEnd :: (wds ns r ++ post)) (op ++ [wWhile]) (⟨wEnd, pre.length + 2 + wl a, wWhile⟩ :: (stp ns r (pre.length + 3 + wl a) ++ rest)) h2 (fun q => by simp) (by simp) ea (by
      rw [la]
      refine .more (.en ?_ (.inr (.inr rfl))) ?_
      · have q : ws = (pre ++ [wWhile, n] ++ wds ns a) ++ (wEnd :: (wds ns r ++ post)) := by rw [e1]; simp
        have lq : (pre ++ [wWhile, n] ++ wds ns a).length = pre.length + 2 + wl a := by simp [wds_len]; omega
        rw [← lq, q]
        exact at_pre
      · refine Eq.mp ?_ zr; congr 1; omega)
    rw [la] at za
    have fin := Rds.more (ws := ws) (.ask (op := op) (k := pre.length) (w := wWhile) (n := n) (by rw [e1]; exact at_pre) (.inr rfl) (by rw [e1]; exact at_pre1) h1 ho) za
    simpa [stp, List.append_assoc] using fin
/-! ### a whole program -/
def pwl (l : L) : Nat := wl l + 3
def pwds (ns : List Str) : List (Str × L) → List Str
  | [] => []
  | p :: r => wPart :: p.1 :: (wds ns p.2 ++ (wEnd :: pwds ns r))
def pstp (ns : List Str) : List (Str × L) → Nat → List Step
  | [], _ => []
  | p :: r, k => ⟨wPart, k, p.1⟩ :: (stp ns p.2 (k + 2) ++ (⟨wEnd, k + 2 + wl p.2, wPart⟩ :: pstp ns r (k + pwl p.2)))
theorem rds_prog {ns : List Str} {m : Nat} (hm : m = ns.length) (hn : ∀ n ∈ ns, Nm n) : ∀ (ps : List (Str × L)) (ws pre : List Str), (∀ p ∈ ps, Nm p.1 ∧ Wf m p.2 false) → ws = pre ++ pwds ns ps → Rds ws pre.length [] (pstp ns ps pre.length) := by
  intro ps
  induction ps with
  | nil =>
    intro ws pre _ e
    have e2 : ws.length = pre.length := by rw [e]; simp [pwds]
    show Rds ws pre.length [] []
    rw [← e2]
    exact .done
  | cons p r ih =>
    intro ws pre hp e
    obtain ⟨h1, h2⟩ := hp p (List.mem_cons_self ..)
    have e1 : ws = pre ++ wPart :: p.1 :: (wds ns p.2 ++ (wEnd :: pwds ns r)) := e
    have el : ws = (pre ++ [wPart, p.1]) ++ (wds ns p.2 ++ (wEnd :: pwds ns r)) := by rw [e1]; simp
    have er : ws = (pre ++ [wPart, p.1] ++ wds ns p.2 ++ [wEnd]) ++ pwds ns r := by rw [e1]; simp
    have ll : (pre ++ [wPart, p.1]).length = pre.length + 2 := by simp
    have lr : (pre ++ [wPart, p.1] ++ wds ns p.2 ++ [wEnd]).length = pre.length + pwl p.2 := by simp [wds_len, pwl]
    have zr := ih ws _ (fun q hq => hp q (List.mem_cons_of_mem _ hq)) er
    rw [lr] at zr
    have za := rds_list hm hn p.2 false ws _ (wEnd :: pwds ns r) [wPart] (⟨wEnd, pre.length + 2 + wl p.2, wPart⟩ :: pstp ns r (pre.length + pwl p.2)) h2 (fun q => nomatch q) (by simp) el (by
      rw [ll]
      refine .more (.en (op := []) ?_ (.inl rfl)) ?_
      · have q : ws = (pre ++ [wPart, p.1] ++ wds ns p.2) ++ (wEnd :: pwds ns r) := by rw [e1]; simp
        have lq : (pre ++ [wPart, p.1] ++ wds ns p.2).length = pre.length + 2 + wl p.2 := by simp [wds_len]; omega
        rw [← lq, q]
        exact at_pre
      · refine Eq.mp ?_ zr; congr 1; simp only [pwl]; omega)
    rw [ll] at za
    exact .more (.part (by rw [e1]; exact at_pre) (by rw [e1]; exact at_pre1) h1) za
end Fc

set_option Elab.async false
set_option linter.all false
namespace Fc
open PySem
/-! the plain law, 2: spots, which of them are one; a list's steps over them -/
abbrev wYes : Str := "yes"
abbrev wNo : Str := "no"
structure Row where
  w : Str
  n : Str
  k : Nat
  s : Nat
  g : Nat
structure Fk where
  w : Str
  s : Nat
  o : Nat
  alive : Bool
  passed : Option Nat
  passes : Bool
structure Sx where
  n : Nat
  rep : Nat → Nat
  rows : List Row
  here : Option Nat
  alive : Bool
  forks : List Fk
  dead : List Nat
  whole : Bool
def Sx.new : Sx := ⟨2, fun s => s, [], some 0, true, [], [], true⟩
/-- the spot where one stands, a fresh one where there is none -/
def Sx.spot (S : Sx) : Nat := S.here.getD S.n
def Sx.std (S : Sx) : Sx := match S.here with
  | some _ => S
  | none => { S with n := S.n + 1, here := some S.n }
def Sx.un (S : Sx) (a b : Nat) : Sx := { S with rep := fun s => if S.rep s = S.rep a then S.rep b else S.rep s }
def Sx.gone (S : Sx) (w n : Str) (k : Nat) : Sx := { S.std with n := S.std.n + 1, here := some S.std.n, rows := S.rows ++ [⟨w, n, k, S.spot, S.std.n⟩] }
def Sx.asked (S : Sx) (w n : Str) (k : Nat) : Sx := { S.std with n := S.std.n + 2, here := some S.std.n, rows := S.rows ++ [⟨wYes, n, k, S.spot, S.std.n⟩, ⟨wNo, n, k, S.spot, S.std.n + 1⟩], forks := S.forks ++ [⟨w, S.spot, S.std.n + 1, S.alive, none, false⟩] }
def Sx.left (S : Sx) (g : Nat) : Sx := { S.std.un S.spot g with here := none, alive := false }
def Sx.mark (S : Sx) (w : Str) (k : Nat) : Sx := if S.alive = true then S else { S with dead := S.dead ++ [k], whole := S.whole && decide (w = wLeave ∨ w = wBack) }
/-- the spot behind the innermost while -/
def inn (F : List Fk) : Option Nat := ((F.filter fun f => decide (f.w = wWhile)).getLast?).map (·.o)
/-- one with the goal, if one stands -/
def Sx.join (S : Sx) (g : Nat) : Sx := match S.here with
  | some h => S.un h g
  | none => S
/-- the end of an if: f its fork -/
def Sx.shut (S : Sx) (f : Fk) : Sx := match S.here, f.passed with
  | none, p => { S with here := p }
  | some h, some p => S.un p h
  | some _, none => S
/-- what a step does -/
inductive Tks : Sx → Step → Sx → Prop
  | gone {S : Sx} {w n : Str} {k : Nat} : (w = wDo ∨ w = wCall) → Tks S ⟨w, k, n⟩ ((S.mark w k).gone w n k)
  | asked {S : Sx} {w n : Str} {k : Nat} : (w = wIf ∨ w = wWhile) → Tks S ⟨w, k, n⟩ ((S.mark w k).asked w n k)
  | turned {S : Sx} {n : Str} {k : Nat} {F : List Fk} {f : Fk} : S.forks = F ++ [f] → Tks S ⟨wElse, k, n⟩ { S with forks := F ++ [{ f with passed := S.here, passes := S.alive }], here := some f.o, alive := f.alive }
  | leave {S : Sx} {n : Str} {k g : Nat} : inn S.forks = some g → Tks S ⟨wLeave, k, n⟩ ((S.mark wLeave k).left g)
  | back {S : Sx} {n : Str} {k : Nat} : Tks S ⟨wBack, k, n⟩ ((S.mark wBack k).left 1)
  | endp {S : Sx} {k : Nat} : Tks S ⟨wEnd, k, wPart⟩ (S.join 1)
  | endw {S : Sx} {k : Nat} {F : List Fk} {f : Fk} : S.forks = F ++ [f] → Tks S ⟨wEnd, k, wWhile⟩ { S.join f.s with forks := F, here := some f.o, alive := f.alive }
  | endi {S : Sx} {k : Nat} {F : List Fk} {f : Fk} : S.forks = F ++ [f] → Tks S ⟨wEnd, k, wElse⟩ { S.shut f with forks := F, alive := S.alive || f.passes }
inductive Run : Sx → List Step → Sx → Prop
  | nil {S : Sx} : Run S [] S
  | cons {S S1 S2 : Sx} {s : Step} {r : List Step} : Tks S s S1 → Run S1 r S2 → Run S (s :: r) S2
theorem Run.app {S S1 S2 : Sx} {a b : List Step} (h : Run S a S1) (g : Run S1 b S2) : Run S (a ++ b) S2 := by
  induction h with
  | nil => exact g
  | cons t _ ih => exact .cons t (ih g)
/-! ### what always holds -/
structure Sx.Ok (S : Sx) : Prop where
  two : 2 ≤ S.n
  lt : ∀ s, s < S.n → S.rep s < S.n
  hi : ∀ s, S.n ≤ s → S.rep s = s
  idem : ∀ s, S.rep (S.rep s) = S.rep s
  hr : ∀ h, S.here = some h → h < S.n
  fk : ∀ f ∈ S.forks, f.s < S.n ∧ f.o < S.n ∧ ∀ p, f.passed = some p → p < S.n
  rw : ∀ r ∈ S.rows, r.s < S.n ∧ r.g < S.n
/-- a spot that stands in a row, or begin or end -/
def InR (R : List Row) (t : Nat) : Prop := t = 0 ∨ t = 1 ∨ ∃ r ∈ R, t = r.s ∨ t = r.g
def Sx.Cov (S : Sx) : Prop := ∀ s, s < S.n → ∃ t, InR S.rows t ∧ S.rep s = S.rep t
theorem InR.mono {R R' : List Row} {t : Nat} (h : InR R t) (s : ∀ r ∈ R, r ∈ R') : InR R' t := by
  rcases h with h | h | ⟨r, hr, h⟩
  · exact .inl h
  · exact .inr (.inl h)
  · exact .inr (.inr ⟨r, s r hr, h⟩)
theorem InR.left {R R' : List Row} {t : Nat} (h : InR R t) : InR (R ++ R') t := h.mono fun _ hr => List.mem_append_left _ hr
section
variable {S : Sx}
theorem std_some {h : Nat} (e : S.here = some h) : S.std = S ∧ S.spot = h := by
  unfold Sx.std Sx.spot
  rw [e]
  exact ⟨rfl, rfl⟩
theorem std_none (e : S.here = none) : S.std = { S with n := S.n + 1, here := some S.n } ∧ S.spot = S.n := by
  unfold Sx.std Sx.spot
  rw [e]
  exact ⟨rfl, rfl⟩
theorem std_rep : S.std.rep = S.rep := by
  unfold Sx.std
  cases S.here <;> rfl
theorem std_rows : S.std.rows = S.rows := by
  unfold Sx.std
  cases S.here <;> rfl
theorem std_forks : S.std.forks = S.forks := by
  unfold Sx.std
  cases S.here <;> rfl
theorem std_alive : S.std.alive = S.alive := by
  unfold Sx.std
  cases S.here <;> rfl
theorem std_dead : S.std.dead = S.dead := by
  unfold Sx.std
  cases S.here <;> rfl
theorem std_whole : S.std.whole = S.whole := by
  unfold Sx.std
  cases S.here <;> rfl
theorem std_here : S.std.here = some S.spot := by
  unfold Sx.std Sx.spot
  cases e : S.here with
  | none => rfl
  | some h => exact e
theorem std_le : S.n ≤ S.std.n := by
  unfold Sx.std
  cases S.here with
  | none => exact Nat.le_succ _
  | some h => exact Nat.le_refl _
theorem spot_lt (o : S.Ok) : S.spot < S.std.n := by
  cases e : S.here with
  | none =>
    rw [(std_none e).1, (std_none e).2]
    exact Nat.lt_succ_self _
  | some h =>
    rw [(std_some e).1, (std_some e).2]
    exact o.hr h e
theorem std_ok (o : S.Ok) : S.std.Ok := by
  cases e : S.here with
  | some h => rw [(std_some e).1]; exact o
  | none =>
    rw [(std_none e).1]
    refine ⟨Nat.le_succ_of_le o.two, fun s hs => ?_, fun s hs => o.hi s (Nat.le_of_succ_le hs), o.idem, fun h eh => ?_, fun f hf => ?_, fun r hr => ?_⟩
    · by_cases q : s < S.n
      · exact Nat.lt_succ_of_lt (o.lt s q)
      · show S.rep s < S.n + 1
        have hs' : s < S.n + 1 := hs
        rw [o.hi s (by omega)]
        exact hs
    · cases eh
      exact Nat.lt_succ_self _
    · obtain ⟨a, b, c⟩ := o.fk f hf
      exact ⟨Nat.lt_succ_of_lt a, Nat.lt_succ_of_lt b, fun p hp => Nat.lt_succ_of_lt (c p hp)⟩
    · obtain ⟨a, b⟩ := o.rw r hr
      exact ⟨Nat.lt_succ_of_lt a, Nat.lt_succ_of_lt b⟩
/-- a spot more, everything else of use as it was -/
theorem Sx.Ok.more (o : S.Ok) {T : Sx} {j : Nat} (en : T.n = S.n + j) (er : T.rep = S.rep) (hr : ∀ h, T.here = some h → h < T.n) (fk : ∀ f ∈ T.forks, f.s < T.n ∧ f.o < T.n ∧ ∀ p, f.passed = some p → p < T.n) (rw_ : ∀ r ∈ T.rows, r.s < T.n ∧ r.g < T.n) : T.Ok := by
  refine ⟨by rw [en]; exact Nat.le_trans o.two (Nat.le_add_right _ _), fun s hs => ?_, fun s hs => ?_, fun s => ?_, hr, fk, rw_⟩
  · rw [er]
    by_cases q : s < S.n
    · have z := o.lt s q
      omega
    · rw [o.hi s (by omega)]
      exact hs
  · rw [er]
    exact o.hi s (by omega)
  · rw [er]
    exact o.idem s
theorem un_ok (o : S.Ok) {a b : Nat} (ha : a < S.n) (hb : b < S.n) : (S.un a b).Ok := by
  refine ⟨o.two, fun s hs => ?_, fun s hs => ?_, fun s => ?_, o.hr, o.fk, o.rw⟩
  · show (if S.rep s = S.rep a then S.rep b else S.rep s) < S.n
    split
    · exact o.lt b hb
    · exact o.lt s hs
  · have hs' : S.n ≤ s := hs
    show (if S.rep s = S.rep a then S.rep b else S.rep s) = s
    have h1 := o.hi s hs'
    have h2 := o.lt a ha
    rw [if_neg (by omega), h1]
  · show (if S.rep (if S.rep s = S.rep a then S.rep b else S.rep s) = S.rep a then S.rep b else S.rep (if S.rep s = S.rep a then S.rep b else S.rep s)) = (if S.rep s = S.rep a then S.rep b else S.rep s)
    by_cases h1 : S.rep s = S.rep a
    · rw [if_pos h1, o.idem]
      by_cases h2 : S.rep b = S.rep a
      · rw [if_pos h2]
      · rw [if_neg h2]
    · rw [if_neg h1, o.idem, if_neg h1]
theorem mark_same (S : Sx) (w : Str) (k : Nat) : (S.mark w k).n = S.n ∧ (S.mark w k).rep = S.rep ∧ (S.mark w k).rows = S.rows ∧ (S.mark w k).here = S.here ∧ (S.mark w k).alive = S.alive ∧ (S.mark w k).forks = S.forks := by
  unfold Sx.mark
  split
  · exact ⟨rfl, rfl, rfl, rfl, rfl, rfl⟩
  · exact ⟨rfl, rfl, rfl, rfl, rfl, rfl⟩
theorem mark_ok (o : S.Ok) (w : Str) (k : Nat) : (S.mark w k).Ok := by
  obtain ⟨h1, h2, h3, h4, h5, h6⟩ := mark_same S w k
  exact ⟨by rw [h1]; exact o.two, by rw [h1, h2]; exact o.lt, by rw [h1, h2]; exact o.hi, by rw [h2]; exact o.idem, by rw [h1, h4]; exact o.hr, by rw [h1, h6]; exact o.fk, by rw [h1, h3]; exact o.rw⟩
theorem mark_cov (c : S.Cov) (w : Str) (k : Nat) : (S.mark w k).Cov := by
  obtain ⟨h1, h2, h3, h4, h5, h6⟩ := mark_same S w k
  unfold Sx.Cov
  rw [h1, h2, h3]
  exact c
theorem gone_ok (o : S.Ok) (w n : Str) (k : Nat) : (S.gone w n k).Ok := by
  have o1 := std_ok o
  have hs := spot_lt o
  refine o1.more (j := 1) rfl rfl (fun h e => ?_) (fun f hf => ?_) fun r hr => ?_
  · cases e
    exact Nat.lt_succ_self _
  · obtain ⟨a, b, c⟩ := o1.fk f hf
    exact ⟨Nat.lt_succ_of_lt a, Nat.lt_succ_of_lt b, fun p hp => Nat.lt_succ_of_lt (c p hp)⟩
  · rcases List.mem_append.mp hr with hr | hr
    · obtain ⟨a, b⟩ := o1.rw r (by rw [std_rows]; exact hr)
      exact ⟨Nat.lt_succ_of_lt a, Nat.lt_succ_of_lt b⟩
    · rw [List.mem_singleton.mp hr]
      exact ⟨Nat.lt_succ_of_lt hs, Nat.lt_succ_self _⟩
theorem asked_ok (o : S.Ok) (w n : Str) (k : Nat) : (S.asked w n k).Ok := by
  have o1 := std_ok o
  have hs := spot_lt o
  have up : ∀ {x : Nat}, x < S.std.n → x < S.std.n + 2 := fun h => Nat.lt_of_lt_of_le h (Nat.le_add_right _ _)
  refine o1.more (j := 2) rfl rfl (fun h e => ?_) (fun f hf => ?_) fun r hr => ?_
  · cases e
    show S.std.n < S.std.n + 2
    omega
  · rcases List.mem_append.mp hf with hf | hf
    · obtain ⟨a, b, c⟩ := o1.fk f (by rw [std_forks]; exact hf)
      exact ⟨up a, up b, fun p hp => up (c p hp)⟩
    · rw [List.mem_singleton.mp hf]
      exact ⟨up hs, Nat.lt_succ_self _, fun p hp => nomatch hp⟩
  · rcases List.mem_append.mp hr with hr | hr
    · obtain ⟨a, b⟩ := o1.rw r (by rw [std_rows]; exact hr)
      exact ⟨up a, up b⟩
    · rcases List.mem_cons.mp hr with hr | hr
      · rw [hr]
        exact ⟨up hs, Nat.lt_succ_of_lt (Nat.lt_succ_self _)⟩
      · rw [List.mem_singleton.mp hr]
        exact ⟨up hs, Nat.lt_succ_self _⟩
theorem left_ok (o : S.Ok) {g : Nat} (hg : g < S.n) : (S.left g).Ok := by
  have o1 := un_ok (std_ok o) (spot_lt o) (Nat.lt_of_lt_of_le hg std_le)
  exact ⟨o1.two, o1.lt, o1.hi, o1.idem, (fun h e => nomatch e), o1.fk, o1.rw⟩
theorem join_ok (o : S.Ok) {g : Nat} (hg : g < S.n) : (S.join g).Ok := by
  unfold Sx.join
  cases e : S.here with
  | none => exact o
  | some h => exact un_ok o (o.hr h e) hg
theorem join_n {g : Nat} : (S.join g).n = S.n := by
  unfold Sx.join
  cases S.here <;> rfl
/-! ### each spot is one with a row's -/
theorem un_cov (c : S.Cov) {a b : Nat} : (S.un a b).Cov := fun s hs => by
  obtain ⟨t, h1, h2⟩ := c s hs
  refine ⟨t, h1, ?_⟩
  show (if S.rep s = S.rep a then S.rep b else S.rep s) = (if S.rep t = S.rep a then S.rep b else S.rep t)
  rw [h2]
theorem std_cov (c : S.Cov) {R : List Row} (hs : InR R S.spot) (hR : ∀ r ∈ S.rows, r ∈ R) : ∀ s, s < S.std.n → ∃ t, InR R t ∧ S.rep s = S.rep t := fun s h => by
  by_cases q : s < S.n
  · obtain ⟨t, h1, h2⟩ := c s q
    exact ⟨t, h1.mono hR, h2⟩
  · cases e : S.here with
    | some x =>
      rw [(std_some e).1] at h
      exact absurd h q
    | none =>
      have h2 : s < S.n + 1 := by rw [(std_none e).1] at h; exact h
      have h3 : s = S.spot := by rw [(std_none e).2]; omega
      exact ⟨S.spot, hs, by rw [h3]⟩
theorem gone_cov (c : S.Cov) (w n : Str) (k : Nat) : (S.gone w n k).Cov := fun s hs => by
  have hs' : s < S.std.n + 1 := hs
  have e : (S.gone w n k).rep = S.rep := std_rep
  rw [e]
  by_cases q : s < S.std.n
  · exact std_cov c (R := (S.gone w n k).rows) (.inr (.inr ⟨⟨w, n, k, S.spot, S.std.n⟩, List.mem_append_right _ (List.mem_singleton.mpr rfl), .inl rfl⟩)) (fun r hr => List.mem_append_left _ hr) s q
  · have h3 : s = S.std.n := by omega
    exact ⟨S.std.n, .inr (.inr ⟨⟨w, n, k, S.spot, S.std.n⟩, List.mem_append_right _ (List.mem_singleton.mpr rfl), .inr rfl⟩), by rw [h3]⟩
theorem asked_cov (c : S.Cov) (w n : Str) (k : Nat) : (S.asked w n k).Cov := fun s hs => by
  have hs' : s < S.std.n + 2 := hs
  have e : (S.asked w n k).rep = S.rep := std_rep
  rw [e]
  by_cases q : s < S.std.n
  · exact std_cov c (R := (S.asked w n k).rows) (.inr (.inr ⟨⟨wYes, n, k, S.spot, S.std.n⟩, List.mem_append_right _ (List.mem_cons_self ..), .inl rfl⟩)) (fun r hr => List.mem_append_left _ hr) s q
  · by_cases q2 : s = S.std.n
    · exact ⟨S.std.n, .inr (.inr ⟨⟨wYes, n, k, S.spot, S.std.n⟩, List.mem_append_right _ (List.mem_cons_self ..), .inr rfl⟩), by rw [q2]⟩
    · have h3 : s = S.std.n + 1 := by omega
      exact ⟨S.std.n + 1, .inr (.inr ⟨⟨wNo, n, k, S.spot, S.std.n + 1⟩, List.mem_append_right _ (List.mem_cons_of_mem _ (List.mem_singleton.mpr rfl)), .inr rfl⟩), by rw [h3]⟩
theorem left_cov (c : S.Cov) {g : Nat} (hg : g < S.n) : (S.left g).Cov := fun s hs => by
  have er : ∀ s, (S.left g).rep s = if S.rep s = S.rep S.spot then S.rep g else S.rep s := fun s => by
    show (if S.std.rep s = S.std.rep S.spot then S.std.rep g else S.std.rep s) = _
    rw [std_rep]
  have hrw : (S.left g).rows = S.rows := std_rows
  rw [hrw]
  have main : ∀ s, s < S.n → ∃ t, InR S.rows t ∧ (S.left g).rep s = (S.left g).rep t := fun s hs => by
    obtain ⟨t, h1, h2⟩ := c s hs
    exact ⟨t, h1, by rw [er, er, h2]⟩
  by_cases q : s < S.n
  · exact main s q
  · cases e : S.here with
    | some x =>
      have hs' : s < S.std.n := hs
      rw [(std_some e).1] at hs'
      exact absurd hs' q
    | none =>
      have hs' : s < S.std.n := hs
      have h2 : s < S.n + 1 := by rw [(std_none e).1] at hs'; exact hs'
      have h3 : s = S.spot := by rw [(std_none e).2]; omega
      obtain ⟨t, h4, h5⟩ := main g hg
      refine ⟨t, h4, ?_⟩
      rw [← h5, er, er, h3, if_pos rfl]
      split
      · rfl
      · rfl
theorem join_cov (c : S.Cov) {g : Nat} : (S.join g).Cov := by
  unfold Sx.join
  cases S.here with
  | none => exact c
  | some h => exact un_cov c
end
/-! ### how many there are -/
def cnt (f : Nat → Nat) : Nat → Nat
  | 0 => 0
  | n + 1 => cnt f n + if f n = n then 1 else 0
theorem cnt_congr {f g : Nat → Nat} : ∀ {n : Nat}, (∀ s, s < n → (f s = s ↔ g s = s)) → cnt f n = cnt g n
  | 0, _ => rfl
  | n + 1, h => by
    have h1 := cnt_congr (n := n) fun s hs => h s (Nat.lt_succ_of_lt hs)
    have h2 := h n (Nat.lt_succ_self n)
    show cnt f n + _ = cnt g n + _
    rw [h1]
    by_cases q : f n = n
    · rw [if_pos q, if_pos (h2.mp q)]
    · rw [if_neg q, if_neg fun z => q (h2.mpr z)]
theorem cnt_less {f g : Nat → Nat} {r : Nat} : ∀ {n : Nat}, (∀ s, s < n → (g s = s ↔ f s = s ∧ s ≠ r)) → r < n → f r = r → cnt g n + 1 = cnt f n
  | 0, _, h, _ => absurd h (Nat.not_lt_zero _)
  | n + 1, h, hr, e => by
    have h2 := h n (Nat.lt_succ_self n)
    show cnt g n + _ + 1 = cnt f n + _
    by_cases q : n = r
    · have h1 : cnt g n = cnt f n := cnt_congr fun s hs => ⟨fun z => ((h s (Nat.lt_succ_of_lt hs)).mp z).1, fun z => (h s (Nat.lt_succ_of_lt hs)).mpr ⟨z, by omega⟩⟩
      rw [h1, if_neg fun z => (h2.mp z).2 q, if_pos (by rw [q]; exact e)]
    · have h1 := cnt_less (n := n) (fun s hs => h s (Nat.lt_succ_of_lt hs)) (by omega) e
      by_cases z : f n = n
      · rw [if_pos (h2.mpr ⟨z, q⟩), if_pos z]
        omega
      · rw [if_neg fun y => z (h2.mp y).1, if_neg z]
        omega
theorem cnt_list {f : Nat → Nat} : ∀ {n : Nat} {l : List Nat}, l.Nodup → (∀ x, x ∈ l ↔ x < n ∧ f x = x) → l.length = cnt f n
  | 0, l, _, h => by
    cases l with
    | nil => rfl
    | cons a r => exact absurd ((h a).mp (List.mem_cons_self ..)).1 (Nat.not_lt_zero _)
  | n + 1, l, nd, h => by
    by_cases q : f n = n
    · have hm : n ∈ l := (h n).mpr ⟨Nat.lt_succ_self n, q⟩
      have h1 : (l.erase n).length = cnt f n := cnt_list (nd.erase n) fun x => by
        rw [nd.mem_erase_iff]
        constructor
        · rintro ⟨a, b⟩
          obtain ⟨c, d⟩ := (h x).mp b
          exact ⟨by omega, d⟩
        · rintro ⟨a, b⟩
          exact ⟨by omega, (h x).mpr ⟨by omega, b⟩⟩
      rw [List.length_erase_of_mem hm] at h1
      have h2 := List.length_pos_of_mem hm
      show l.length = cnt f n + _
      rw [if_pos q]
      omega
    · have h1 : l.length = cnt f n := cnt_list nd fun x => by
        rw [h x]
        constructor
        · rintro ⟨a, b⟩
          refine ⟨?_, b⟩
          by_cases e : x = n
          · rw [e] at b
            exact absurd b q
          · omega
        · rintro ⟨a, b⟩
          exact ⟨by omega, b⟩
      show l.length = cnt f n + _
      rw [if_neg q]
      exact h1
/-- how many spots there are, one for all that are one -/
def Sx.cc (S : Sx) : Nat := cnt S.rep S.n
def nn (h : Option Nat) : Nat := match h with
  | none => 1
  | some _ => 0
/-- apart: no two of these are one -/
def Ap (S : Sx) (A : List Nat) : Prop := (A.map S.rep).Nodup
section
variable {S : Sx}
theorem cc_std (o : S.Ok) : S.std.cc = S.cc + nn S.here := by
  cases e : S.here with
  | some h => rw [(std_some e).1]; rfl
  | none =>
    rw [(std_none e).1]
    show cnt S.rep S.n + _ = cnt S.rep S.n + 1
    rw [if_pos (o.hi S.n (Nat.le_refl _))]
theorem cc_un (o : S.Ok) {a b : Nat} (ha : a < S.n) (hne : S.rep a ≠ S.rep b) : (S.un a b).cc + 1 = S.cc := by
  refine cnt_less (r := S.rep a) (fun s hs => ?_) (o.lt a ha) (o.idem a)
  show (if S.rep s = S.rep a then S.rep b else S.rep s) = s ↔ _
  by_cases q : S.rep s = S.rep a
  · rw [if_pos q]
    constructor
    · intro e
      have z := o.idem b
      rw [e, q] at z
      exact absurd (z.trans e.symm) hne
    · rintro ⟨h1, h2⟩
      rw [h1] at q
      exact absurd q h2
  · rw [if_neg q]
    constructor
    · intro e
      refine ⟨e, fun z => q ?_⟩
      rw [z, o.idem]
    · exact fun h => h.1
theorem ap_un {a b : Nat} {A : List Nat} (h : Ap S (a :: A)) : Ap (S.un a b) A := by
  have h' : (S.rep a :: A.map S.rep).Nodup := h
  obtain ⟨h1, h2⟩ := List.nodup_cons.mp h'
  have e : A.map (S.un a b).rep = A.map S.rep := by
    refine List.map_congr_left fun x hx => ?_
    show (if S.rep x = S.rep a then S.rep b else S.rep x) = S.rep x
    rw [if_neg fun z => h1 (by rw [← z]; exact List.mem_map_of_mem hx)]
  unfold Ap
  rw [e]
  exact h2
theorem ap_ne {a b : Nat} {A : List Nat} (h : Ap S (a :: A)) (hb : b ∈ A) : S.rep a ≠ S.rep b := fun e => by
  have h' : (S.rep a :: A.map S.rep).Nodup := h
  exact (List.nodup_cons.mp h').1 (by rw [e]; exact List.mem_map_of_mem hb)
theorem Ap.perm {A B : List Nat} (h : Ap S A) (p : A.Perm B) : Ap S B := (p.map S.rep).nodup_iff.mp h
theorem Ap.tail {a : Nat} {A : List Nat} (h : Ap S (a :: A)) : Ap S A := by
  have h' : (S.rep a :: A.map S.rep).Nodup := h
  exact (List.nodup_cons.mp h').2
/-- a new spot is apart -/
theorem ap_new (o : S.Ok) {A : List Nat} (h : Ap S A) (hl : ∀ a ∈ A, a < S.n) {m : Nat} (hm : S.n ≤ m) : Ap S (m :: A) := by
  refine List.nodup_cons.mpr ⟨fun z => ?_, h⟩
  obtain ⟨a, ha, e⟩ := List.mem_map.mp z
  have h1 := o.lt a (hl a ha)
  have h2 := o.hi m hm
  omega
theorem ap_std (o : S.Ok) {A : List Nat} (h : Ap S (S.here.toList ++ A)) (hl : ∀ a ∈ A, a < S.n) : Ap S (S.spot :: A) := by
  cases e : S.here with
  | some x =>
    rw [(std_some e).2]
    rw [e] at h
    exact h
  | none =>
    rw [(std_none e).2]
    rw [e] at h
    exact ap_new o h hl (Nat.le_refl _)
end
end Fc

set_option Elab.async false
set_option linter.all false
set_option maxHeartbeats 4000000
namespace Fc
open PySem
/-! the plain law, 3: what a list's steps do over the spots -/
def things : L → Nat
  | .nil => 0
  | .lv r => things r
  | .bk r => things r
  | .dO _ r => things r + 1
  | .ca _ r => things r + 1
  | .fi _ a b r => things a + things b + things r + 1
  | .wh _ a r => things a + things r + 1
/-- whether one comes through -/
def alv : L → Bool → Bool
  | .nil, a => a
  | .lv r, _ => alv r false
  | .bk r, _ => alv r false
  | .dO _ r, a => alv r a
  | .ca _ r, a => alv r a
  | .fi _ x y r, a => alv r (alv x a || alv y a)
  | .wh _ _ r, a => alv r a
def mk (a : Bool) (k : Nat) : List Nat := if a = true then [] else [k]
/-- the words to which no run comes -/
def ded : L → Nat → Bool → List Nat
  | .nil, _, _ => []
  | .lv r, k, a => mk a k ++ ded r (k + 1) false
  | .bk r, k, a => mk a k ++ ded r (k + 1) false
  | .dO _ r, k, a => mk a k ++ ded r (k + 2) a
  | .ca _ r, k, a => mk a k ++ ded r (k + 2) a
  | .fi _ x y r, k, a => mk a k ++ (ded x (k + 2) a ++ (ded y (k + 3 + wl x) a ++ ded r (k + 4 + wl x + wl y) (alv x a || alv y a)))
  | .wh _ x r, k, a => mk a k ++ (ded x (k + 2) a ++ ded r (k + 3 + wl x) a)
/-- .. of things with rows -/
def dth : L → Nat → Bool → List Nat
  | .nil, _, _ => []
  | .lv r, k, _ => dth r (k + 1) false
  | .bk r, k, _ => dth r (k + 1) false
  | .dO _ r, k, a => mk a k ++ dth r (k + 2) a
  | .ca _ r, k, a => mk a k ++ dth r (k + 2) a
  | .fi _ x y r, k, a => mk a k ++ (dth x (k + 2) a ++ (dth y (k + 3 + wl x) a ++ dth r (k + 4 + wl x + wl y) (alv x a || alv y a)))
  | .wh _ x r, k, a => mk a k ++ (dth x (k + 2) a ++ dth r (k + 3 + wl x) a)
/-- the calls: names, their words' numbers -/
def cas (ns : List Str) : L → Nat → List (Str × Nat)
  | .nil, _ => []
  | .lv r, k => cas ns r (k + 1)
  | .bk r, k => cas ns r (k + 1)
  | .dO _ r, k => cas ns r (k + 2)
  | .ca c r, k => (c.name ns, k) :: cas ns r (k + 2)
  | .fi _ x y r, k => cas ns x (k + 2) ++ (cas ns y (k + 3 + wl x) ++ cas ns r (k + 4 + wl x + wl y))
  | .wh _ x r, k => cas ns x (k + 2) ++ cas ns r (k + 3 + wl x)
def rowCas (R : List Row) : List (Str × Nat) := R.filterMap fun r => if r.w = wCall then some (r.n, r.k) else none
/-- it begins with a thing with rows -/
def hd : L → Bool
  | .nil => false
  | .lv _ => false
  | .bk _ => false
  | _ => true
theorem isE_app {α : Type} (a b : List α) : (a ++ b).isEmpty = (a.isEmpty && b.isEmpty) := by cases a <;> rfl
theorem mark_dead (S : Sx) (w : Str) (k : Nat) : (S.mark w k).dead = S.dead ++ mk S.alive k := by
  unfold Sx.mark mk
  cases S.alive with
  | true => simp
  | false => simp
theorem mark_whole {S : Sx} {w : Str} {k : Nat} (hw : ¬ (w = wLeave ∨ w = wBack)) : (S.mark w k).whole = (S.whole && (mk S.alive k).isEmpty) := by
  unfold Sx.mark mk
  cases S.alive with
  | true => simp
  | false => simp [hw]
theorem mark_whole1 {S : Sx} {w : Str} {k : Nat} (hw : w = wLeave ∨ w = wBack) : (S.mark w k).whole = S.whole := by
  unfold Sx.mark
  split
  · rfl
  · simp [hw]
theorem rowCas_app (A B : List Row) : rowCas (A ++ B) = rowCas A ++ rowCas B := List.filterMap_append
theorem d_yes : ¬ (wYes = wCall) := by decide +kernel
theorem d_no : ¬ (wNo = wCall) := by decide +kernel
theorem d_do : ¬ (wDo = wCall) := by decide +kernel
theorem d_do2 : ¬ (wDo = wLeave ∨ wDo = wBack) := by decide +kernel
theorem d_ca2 : ¬ (wCall = wLeave ∨ wCall = wBack) := by decide +kernel
theorem d_if2 : ¬ (wIf = wLeave ∨ wIf = wBack) := by decide +kernel
theorem d_wh2 : ¬ (wWhile = wLeave ∨ wWhile = wBack) := by decide +kernel
theorem d_ifwh : ¬ (wIf = wWhile) := by decide +kernel
theorem d_elwh : ¬ (wElse = wWhile) := by decide +kernel
theorem cc_gone {S : Sx} (o : S.Ok) {w n : Str} {k : Nat} : (S.gone w n k).cc = S.std.cc + 1 := by
  show cnt S.std.rep S.std.n + (if S.std.rep S.std.n = S.std.n then 1 else 0) = cnt S.std.rep S.std.n + 1
  rw [if_pos ((std_ok o).hi _ (Nat.le_refl _))]
theorem cc_asked {S : Sx} (o : S.Ok) {w n : Str} {k : Nat} : (S.asked w n k).cc = S.std.cc + 2 := by
  show cnt S.std.rep S.std.n + (if S.std.rep S.std.n = S.std.n then 1 else 0) + (if S.std.rep (S.std.n + 1) = S.std.n + 1 then 1 else 0) = cnt S.std.rep S.std.n + 2
  rw [if_pos ((std_ok o).hi _ (Nat.le_refl _)), if_pos ((std_ok o).hi _ (Nat.le_succ _))]
/-- what stands behind a list's steps -/
structure After (ns : List Str) (S S' : Sx) (l : L) (k : Nat) (Z : List Nat) : Prop where
  run : Run S (stp ns l k) S'
  ok : S'.Ok
  cov : S'.Cov
  le : S.n ≤ S'.n
  forks : S'.forks = S.forks
  alive : S'.alive = alv l S.alive
  dead : S'.dead = S.dead ++ ded l k S.alive
  whole : S'.whole = (S.whole && (dth l k S.alive).isEmpty)
  cas : rowCas S'.rows = rowCas S.rows ++ cas ns l k
  ap : Ap S' (S'.here.toList ++ Z)
  cc : S'.cc + nn S'.here = S.cc + nn S.here + things l
  sp : hd l = true → Ap S' (S'.here.toList ++ S.spot :: Z)
  mono : ∀ a b, S.rep a = S.rep b → S'.rep a = S'.rep b
  bkf : (∃ r, l = .bk r) → S'.rep S.spot = S'.rep 1
theorem un_mono {S : Sx} {x y : Nat} : ∀ a b, S.rep a = S.rep b → (S.un x y).rep a = (S.un x y).rep b := fun a b h => by
  show (if S.rep a = S.rep x then S.rep y else S.rep a) = (if S.rep b = S.rep x then S.rep y else S.rep b)
  rw [h]
theorem left_mono {S : Sx} {g : Nat} : ∀ a b, S.rep a = S.rep b → (S.left g).rep a = (S.left g).rep b := fun a b h =>
  un_mono (S := S.std) a b (by rw [std_rep]; exact h)
theorem left_one {S : Sx} {g : Nat} : (S.left g).rep S.spot = (S.left g).rep g := by
  show (if S.std.rep S.spot = S.std.rep S.spot then S.std.rep g else S.std.rep S.spot) = (if S.std.rep g = S.std.rep S.spot then S.std.rep g else S.std.rep g)
  rw [if_pos rfl]
  split <;> rfl
theorem inn_push {F : List Fk} {f : Fk} (h : f.w = wWhile) : inn (F ++ [f]) = some f.o := by
  unfold inn
  rw [List.filter_append]
  have e : List.filter (fun f => decide (f.w = wWhile)) [f] = [f] := by simp [h]
  rw [e]
  simp
theorem inn_pass {F : List Fk} {f : Fk} (h : ¬ f.w = wWhile) : inn (F ++ [f]) = inn F := by
  unfold inn
  rw [List.filter_append]
  have e : List.filter (fun f => decide (f.w = wWhile)) [f] = [] := by simp [h]
  rw [e]
  simp
/-- behind a row's step, a list's steps, from the spot behind the row -/
theorem ap_weak {S : Sx} {o : List Nat} {a : Nat} {Z : List Nat} (h : Ap S (o ++ a :: Z)) : Ap S (o ++ Z) :=
  (h.perm (B := a :: (o ++ Z)) List.perm_middle).tail
theorem run_list {ns : List Str} {m : Nat} : ∀ (l : L) (w : Bool) (S : Sx) (k : Nat) (Z : List Nat), Wf m l w → S.Ok → S.Cov → (w = true → ∃ g, inn S.forks = some g ∧ g ∈ Z) → 1 ∈ Z → (∀ z ∈ Z, z < S.n) → Ap S (S.here.toList ++ Z) → ∃ S', After ns S S' l k Z := by
  intro l
  induction l with
  | nil =>
    intro w S k Z _ o c _ _ _ ap
    exact ⟨S, .nil, o, c, Nat.le_refl _, rfl, rfl, by simp [ded], by simp [dth], by simp [cas], ap, rfl, (fun h => nomatch h), fun _ _ h => h, fun ⟨_, h⟩ => nomatch h⟩
  | lv r ih =>
    intro w S k Z hw o c hg h1 hz ap
    obtain ⟨hw1, hw2⟩ := hw
    obtain ⟨g, hg1, hg2⟩ := hg hw1
    obtain ⟨e1, e2, e3, e4, e5, e6⟩ := mark_same S wLeave k
    have oM := mark_ok o wLeave k
    have cM := mark_cov c wLeave k
    have hgn : g < (S.mark wLeave k).n := by rw [e1]; exact hz g hg2
    have aM : Ap (S.mark wLeave k) ((S.mark wLeave k).spot :: Z) := ap_std oM (by unfold Ap; rw [e2, e4]; exact ap) (by rw [e1]; exact hz)
    have aS : Ap (S.mark wLeave k).std ((S.mark wLeave k).spot :: Z) := by unfold Ap; rw [std_rep]; exact aM
    have aL : Ap ((S.mark wLeave k).left g) Z := ap_un aS
    have ccL : ((S.mark wLeave k).left g).cc + 1 = S.cc + nn S.here := by
      have z1 := cc_un (std_ok oM) (spot_lt oM) (b := g) (ap_ne aS hg2)
      have z2 := cc_std oM
      have z3 : (S.mark wLeave k).cc = S.cc := by unfold Sx.cc; rw [e1, e2]
      rw [z2, z3, e4] at z1
      exact z1
    obtain ⟨S', A⟩ := ih w ((S.mark wLeave k).left g) (k + 1) Z hw2 (left_ok oM hgn) (left_cov cM hgn) (fun q => ⟨g, by show inn (S.mark wLeave k).std.forks = _; rw [std_forks, e6]; exact hg1, hg2⟩) h1
      (fun z hz' => Nat.lt_of_lt_of_le (by rw [e1]; exact hz z hz') std_le) aL
    refine ⟨S', .cons (.leave hg1) A.run, A.ok, A.cov, Nat.le_trans (by rw [← e1]; exact std_le) A.le, ?_, A.alive, ?_, ?_, ?_, A.ap, ?_, (fun h => nomatch h), fun a b h => A.mono a b (left_mono a b (by rw [e2]; exact h)), fun ⟨_, h⟩ => nomatch h⟩
    · rw [A.forks]
      show (S.mark wLeave k).std.forks = _
      rw [std_forks, e6]
    · rw [A.dead]
      show (S.mark wLeave k).std.dead ++ ded r (k + 1) false = _
      rw [std_dead, mark_dead, List.append_assoc] <;> rfl
    · rw [A.whole]
      show ((S.mark wLeave k).std.whole && (dth r (k + 1) false).isEmpty) = _
      rw [std_whole, mark_whole1 (.inl rfl)] <;> rfl
    · rw [A.cas]
      show rowCas (S.mark wLeave k).std.rows ++ _ = _
      rw [std_rows, e3] <;> rfl
    · have z := A.cc
      have q : nn ((S.mark wLeave k).left g).here = 1 := rfl
      rw [q] at z
      show S'.cc + nn S'.here = S.cc + nn S.here + things r
      omega
  | bk r ih =>
    intro w S k Z hw o c hg h1 hz ap
    obtain ⟨e1, e2, e3, e4, e5, e6⟩ := mark_same S wBack k
    have oM := mark_ok o wBack k
    have es : (S.mark wBack k).spot = S.spot := by unfold Sx.spot; rw [e4, e1]
    have cM := mark_cov c wBack k
    have hgn : 1 < (S.mark wBack k).n := by rw [e1]; exact hz 1 h1
    have aM : Ap (S.mark wBack k) ((S.mark wBack k).spot :: Z) := ap_std oM (by unfold Ap; rw [e2, e4]; exact ap) (by rw [e1]; exact hz)
    have aS : Ap (S.mark wBack k).std ((S.mark wBack k).spot :: Z) := by unfold Ap; rw [std_rep]; exact aM
    have aL : Ap ((S.mark wBack k).left 1) Z := ap_un aS
    have ccL : ((S.mark wBack k).left 1).cc + 1 = S.cc + nn S.here := by
      have z1 := cc_un (std_ok oM) (spot_lt oM) (b := 1) (ap_ne aS h1)
      have z2 := cc_std oM
      have z3 : (S.mark wBack k).cc = S.cc := by unfold Sx.cc; rw [e1, e2]
      rw [z2, z3, e4] at z1
      exact z1
    obtain ⟨S', A⟩ := ih w ((S.mark wBack k).left 1) (k + 1) Z hw (left_ok oM hgn) (left_cov cM hgn) (fun q => by
        obtain ⟨g, hg1, hg2⟩ := hg q
        exact ⟨g, by show inn (S.mark wBack k).std.forks = _; rw [std_forks, e6]; exact hg1, hg2⟩) h1
      (fun z hz' => Nat.lt_of_lt_of_le (by rw [e1]; exact hz z hz') std_le) aL
    refine ⟨S', .cons .back A.run, A.ok, A.cov, Nat.le_trans (by rw [← e1]; exact std_le) A.le, ?_, A.alive, ?_, ?_, ?_, A.ap, ?_, (fun h => nomatch h), fun a b h => A.mono a b (left_mono a b (by rw [e2]; exact h)), fun _ => A.mono _ _ (by rw [← es]; exact left_one)⟩
    · rw [A.forks]
      show (S.mark wBack k).std.forks = _
      rw [std_forks, e6]
    · rw [A.dead]
      show (S.mark wBack k).std.dead ++ ded r (k + 1) false = _
      rw [std_dead, mark_dead, List.append_assoc] <;> rfl
    · rw [A.whole]
      show ((S.mark wBack k).std.whole && (dth r (k + 1) false).isEmpty) = _
      rw [std_whole, mark_whole1 (.inr rfl)] <;> rfl
    · rw [A.cas]
      show rowCas (S.mark wBack k).std.rows ++ _ = _
      rw [std_rows, e3] <;> rfl
    · have z := A.cc
      have q : nn ((S.mark wBack k).left 1).here = 1 := rfl
      rw [q] at z
      show S'.cc + nn S'.here = S.cc + nn S.here + things r
      omega
  | dO n r ih =>
    intro w S k Z hw o c hg h1 hz ap
    obtain ⟨_, hw2⟩ := hw
    obtain ⟨e1, e2, e3, e4, e5, e6⟩ := mark_same S wDo k
    have oM := mark_ok o wDo k
    have cM := mark_cov c wDo k
    have es : (S.mark wDo k).spot = S.spot := by unfold Sx.spot; rw [e4, e1]
    have aM : Ap (S.mark wDo k) (S.spot :: Z) := by rw [← es]; exact ap_std oM (by unfold Ap; rw [e2, e4]; exact ap) (by rw [e1]; exact hz)
    have aS : Ap (S.mark wDo k).std (S.spot :: Z) := by unfold Ap; rw [std_rep]; exact aM
    have hz2 : ∀ z ∈ S.spot :: Z, z < (S.mark wDo k).std.n := fun z hz' => by
      rcases List.mem_cons.mp hz' with q | q
      · rw [q, ← es]; exact spot_lt oM
      · exact Nat.lt_of_lt_of_le (by rw [e1]; exact hz z q) std_le
    have aG : Ap ((S.mark wDo k).gone wDo n k) ((S.mark wDo k).std.n :: S.spot :: Z) := ap_new (std_ok oM) aS hz2 (Nat.le_refl _)
    have eG : ((S.mark wDo k).gone wDo n k).rep = S.rep := by
      show (S.mark wDo k).std.rep = _
      rw [std_rep, e2]
    have ccG : ((S.mark wDo k).gone wDo n k).cc = S.cc + nn S.here + 1 := by
      have z2 := cc_std oM
      have z3 : (S.mark wDo k).cc = S.cc := by unfold Sx.cc; rw [e1, e2]
      rw [z3, e4] at z2
      rw [← z2]
      exact cc_gone oM
    obtain ⟨S', A⟩ := ih w ((S.mark wDo k).gone wDo n k) (k + 2) (S.spot :: Z) hw2 (gone_ok oM _ _ _) (gone_cov cM _ _ _) (fun q => by
        obtain ⟨g, hg1, hg2⟩ := hg q
        exact ⟨g, by show inn (S.mark wDo k).std.forks = _; rw [std_forks, e6]; exact hg1, List.mem_cons_of_mem _ hg2⟩) (List.mem_cons_of_mem _ h1)
      (fun z hz' => Nat.lt_succ_of_lt (hz2 z hz')) aG
    refine ⟨S', .cons (.gone (.inl rfl)) A.run, A.ok, A.cov, Nat.le_trans (Nat.le_trans (by rw [← e1]; exact std_le) (Nat.le_succ _)) A.le, ?_, ?_, ?_, ?_, ?_, ap_weak A.ap, ?_, (fun _ => A.ap), fun a b h => A.mono a b (by rw [eG]; exact h), fun ⟨_, h⟩ => nomatch h⟩
    · rw [A.forks]
      show (S.mark wDo k).std.forks = _
      rw [std_forks, e6]
    · rw [A.alive]
      show alv r (S.mark wDo k).std.alive = _
      rw [std_alive, e5] <;> rfl
    · rw [A.dead]
      show (S.mark wDo k).std.dead ++ ded r (k + 2) (S.mark wDo k).std.alive = _
      rw [std_dead, std_alive, e5, mark_dead, List.append_assoc] <;> rfl
    · rw [A.whole]
      show ((S.mark wDo k).std.whole && (dth r (k + 2) (S.mark wDo k).std.alive).isEmpty) = (S.whole && (mk S.alive k ++ dth r (k + 2) S.alive).isEmpty)
      rw [std_whole, std_alive, e5, mark_whole d_do2, isE_app, Bool.and_assoc]
    · rw [A.cas]
      show rowCas ((S.mark wDo k).rows ++ _) ++ _ = _
      rw [rowCas_app, e3]
      have q : rowCas [⟨wDo, n, k, (S.mark wDo k).spot, (S.mark wDo k).std.n⟩] = [] := by simp [rowCas, d_do]
      rw [q, List.append_nil] <;> rfl
    · have z := A.cc
      have q : nn ((S.mark wDo k).gone wDo n k).here = 0 := rfl
      rw [q, ccG] at z
      show S'.cc + nn S'.here = S.cc + nn S.here + (things r + 1)
      omega
  | ca ca r ih =>
    intro w S k Z hw o c hg h1 hz ap
    obtain ⟨_, hw2⟩ := hw
    obtain ⟨e1, e2, e3, e4, e5, e6⟩ := mark_same S wCall k
    have oM := mark_ok o wCall k
    have cM := mark_cov c wCall k
    have es : (S.mark wCall k).spot = S.spot := by unfold Sx.spot; rw [e4, e1]
    have aM : Ap (S.mark wCall k) (S.spot :: Z) := by rw [← es]; exact ap_std oM (by unfold Ap; rw [e2, e4]; exact ap) (by rw [e1]; exact hz)
    have aS : Ap (S.mark wCall k).std (S.spot :: Z) := by unfold Ap; rw [std_rep]; exact aM
    have hz2 : ∀ z ∈ S.spot :: Z, z < (S.mark wCall k).std.n := fun z hz' => by
      rcases List.mem_cons.mp hz' with q | q
      · rw [q, ← es]; exact spot_lt oM
      · exact Nat.lt_of_lt_of_le (by rw [e1]; exact hz z q) std_le
    have aG : Ap ((S.mark wCall k).gone wCall (ca.name ns) k) ((S.mark wCall k).std.n :: S.spot :: Z) := ap_new (std_ok oM) aS hz2 (Nat.le_refl _)
    have eG : ((S.mark wCall k).gone wCall (ca.name ns) k).rep = S.rep := by
      show (S.mark wCall k).std.rep = _
      rw [std_rep, e2]
    have ccG : ((S.mark wCall k).gone wCall (ca.name ns) k).cc = S.cc + nn S.here + 1 := by
      have z2 := cc_std oM
      have z3 : (S.mark wCall k).cc = S.cc := by unfold Sx.cc; rw [e1, e2]
      rw [z3, e4] at z2
      rw [← z2]
      exact cc_gone oM
    obtain ⟨S', A⟩ := ih w ((S.mark wCall k).gone wCall (ca.name ns) k) (k + 2) (S.spot :: Z) hw2 (gone_ok oM _ _ _) (gone_cov cM _ _ _) (fun q => by
        obtain ⟨g, hg1, hg2⟩ := hg q
        exact ⟨g, by show inn (S.mark wCall k).std.forks = _; rw [std_forks, e6]; exact hg1, List.mem_cons_of_mem _ hg2⟩) (List.mem_cons_of_mem _ h1)
      (fun z hz' => Nat.lt_succ_of_lt (hz2 z hz')) aG
    refine ⟨S', .cons (.gone (.inr rfl)) A.run, A.ok, A.cov, Nat.le_trans (Nat.le_trans (by rw [← e1]; exact std_le) (Nat.le_succ _)) A.le, ?_, ?_, ?_, ?_, ?_, ap_weak A.ap, ?_, (fun _ => A.ap), fun a b h => A.mono a b (by rw [eG]; exact h), fun ⟨_, h⟩ => nomatch h⟩
    · rw [A.forks]
      show (S.mark wCall k).std.forks = _
      rw [std_forks, e6]
    · rw [A.alive]
      show alv r (S.mark wCall k).std.alive = _
      rw [std_alive, e5] <;> rfl
    · rw [A.dead]
      show (S.mark wCall k).std.dead ++ ded r (k + 2) (S.mark wCall k).std.alive = _
      rw [std_dead, std_alive, e5, mark_dead, List.append_assoc] <;> rfl
    · rw [A.whole]
      show ((S.mark wCall k).std.whole && (dth r (k + 2) (S.mark wCall k).std.alive).isEmpty) = (S.whole && (mk S.alive k ++ dth r (k + 2) S.alive).isEmpty)
      rw [std_whole, std_alive, e5, mark_whole d_ca2, isE_app, Bool.and_assoc]
    · rw [A.cas]
      show rowCas ((S.mark wCall k).rows ++ _) ++ _ = _
      rw [rowCas_app, e3]
      have q : rowCas [⟨wCall, ca.name ns, k, (S.mark wCall k).spot, (S.mark wCall k).std.n⟩] = [(ca.name ns, k)] := by simp [rowCas]
      rw [q, List.append_assoc] <;> rfl
    · have z := A.cc
      have q : nn ((S.mark wCall k).gone wCall (ca.name ns) k).here = 0 := rfl
      rw [q, ccG] at z
      show S'.cc + nn S'.here = S.cc + nn S.here + (things r + 1)
      omega
  | fi n a b r iha ihb ihr =>
    intro w S k Z hw o c hg h1 hz ap
    obtain ⟨_, hwa, hwb, hwr⟩ := hw
    obtain ⟨e1, e2, e3, e4, e5, e6⟩ := mark_same S wIf k
    have oM := mark_ok o wIf k
    have cM := mark_cov c wIf k
    have es : (S.mark wIf k).spot = S.spot := by unfold Sx.spot; rw [e4, e1]
    have aM : Ap (S.mark wIf k) (S.spot :: Z) := by rw [← es]; exact ap_std oM (by unfold Ap; rw [e2, e4]; exact ap) (by rw [e1]; exact hz)
    have aS : Ap (S.mark wIf k).std (S.spot :: Z) := by unfold Ap; rw [std_rep]; exact aM
    have hz2 : ∀ z ∈ S.spot :: Z, z < (S.mark wIf k).std.n := fun z hz' => by
      rcases List.mem_cons.mp hz' with q | q
      · rw [q, ← es]; exact spot_lt oM
      · exact Nat.lt_of_lt_of_le (by rw [e1]; exact hz z q) std_le
    have oS := std_ok oM
    -- asked
    generalize hm : (S.mark wIf k).std.n = m at hz2
    have oA : ((S.mark wIf k).asked wIf n k).Ok := asked_ok oM _ _ _
    have cA : ((S.mark wIf k).asked wIf n k).Cov := asked_cov cM _ _ _
    have lA : S.n ≤ m := by rw [← hm, ← e1]; exact std_le
    have hA : ((S.mark wIf k).asked wIf n k).here = some m := by rw [← hm] <;> rfl
    have nA : ((S.mark wIf k).asked wIf n k).n = m + 2 := by rw [← hm] <;> rfl
    have fA : ((S.mark wIf k).asked wIf n k).forks = S.forks ++ [⟨wIf, S.spot, m + 1, S.alive, none, false⟩] := by
      show (S.mark wIf k).forks ++ [⟨wIf, (S.mark wIf k).spot, (S.mark wIf k).std.n + 1, (S.mark wIf k).alive, none, false⟩] = _
      rw [e6, es, hm, e5]
    have vA : ((S.mark wIf k).asked wIf n k).alive = S.alive := by
      show (S.mark wIf k).std.alive = _
      rw [std_alive, e5]
    have dA : ((S.mark wIf k).asked wIf n k).dead = S.dead ++ mk S.alive k := by
      show (S.mark wIf k).std.dead = _
      rw [std_dead, mark_dead]
    have wA : ((S.mark wIf k).asked wIf n k).whole = (S.whole && (mk S.alive k).isEmpty) := by
      show (S.mark wIf k).std.whole = _
      rw [std_whole, mark_whole d_if2]
    have rA : rowCas ((S.mark wIf k).asked wIf n k).rows = rowCas S.rows := by
      show rowCas ((S.mark wIf k).rows ++ _) = _
      rw [rowCas_app, e3]
      have q : rowCas [⟨wYes, n, k, (S.mark wIf k).spot, (S.mark wIf k).std.n⟩, ⟨wNo, n, k, (S.mark wIf k).spot, (S.mark wIf k).std.n + 1⟩] = [] := by simp [rowCas, d_yes, d_no]
      rw [q, List.append_nil]
    have aA : Ap ((S.mark wIf k).asked wIf n k) (m :: (m + 1) :: S.spot :: Z) := by
      have z1 : Ap (S.mark wIf k).std ((m + 1) :: S.spot :: Z) := ap_new oS aS (by rw [hm]; exact hz2) (by rw [hm]; exact Nat.le_succ _)
      have z2 : Ap ((S.mark wIf k).std) (m :: (m + 1) :: S.spot :: Z) := by
        refine List.nodup_cons.mpr ⟨fun q => ?_, z1⟩
        obtain ⟨x, hx, ex⟩ := List.mem_map.mp q
        have r0 := oS.hi m (by rw [hm]; exact Nat.le_refl _)
        rcases List.mem_cons.mp hx with hx | hx
        · have r1 := oS.hi (m + 1) (by rw [hm]; exact Nat.le_succ _)
          rw [hx] at ex
          omega
        · have r1 := oS.lt x (by rw [hm]; exact hz2 x hx)
          rw [hm] at r1
          omega
      exact z2
    have ccA : ((S.mark wIf k).asked wIf n k).cc = S.cc + nn S.here + 2 := by
      have z2 := cc_std oM
      have z3 : (S.mark wIf k).cc = S.cc := by unfold Sx.cc; rw [e1, e2]
      rw [z3, e4] at z2
      rw [← z2]
      exact cc_asked oM
    have pA : ((S.mark wIf k).asked wIf n k).rep = S.rep := by
      show (S.mark wIf k).std.rep = _
      rw [std_rep, e2]
    have zA : ∀ z ∈ S.spot :: Z, z < m + 2 := fun z hz' => Nat.lt_of_lt_of_le (hz2 z hz') (Nat.le_add_right _ _)
    generalize hSA : (S.mark wIf k).asked wIf n k = SA at oA cA hA nA fA vA dA wA rA aA ccA pA
    -- the first list
    obtain ⟨S2, A2⟩ := iha w SA (k + 2) ((m + 1) :: S.spot :: Z) hwa oA cA (fun q => by
        obtain ⟨g, hg1, hg2⟩ := hg q
        exact ⟨g, by rw [fA, inn_pass (by exact d_ifwh)]; exact hg1, List.mem_cons_of_mem _ (List.mem_cons_of_mem _ hg2)⟩) (List.mem_cons_of_mem _ (List.mem_cons_of_mem _ h1))
      (fun z hz' => by
        rw [nA]
        rcases List.mem_cons.mp hz' with q | q
        · rw [q]; exact Nat.lt_succ_self _
        · exact zA z q) (by rw [hA]; exact aA)
    have f2 : S2.forks = S.forks ++ [⟨wIf, S.spot, m + 1, S.alive, none, false⟩] := A2.forks.trans fA
    have le2 : m + 2 ≤ S2.n := by rw [← nA]; exact A2.le
    -- turned
    generalize hS3 : ({ S2 with forks := S.forks ++ [{ (⟨wIf, S.spot, m + 1, S.alive, none, false⟩ : Fk) with passed := S2.here, passes := S2.alive }], here := some (m + 1), alive := S.alive } : Sx) = S3
    have t3 : Tks S2 ⟨wElse, k + 2 + wl a, ⟨#[]⟩⟩ S3 := by rw [← hS3]; exact Tks.turned f2
    have n3 : S3.n = S2.n := by rw [← hS3]
    have p3 : S3.rep = S2.rep := by rw [← hS3]
    have o3 : S3.Ok := by
      have q := A2.ok
      rw [← hS3]
      refine ⟨q.two, q.lt, q.hi, q.idem, fun h e => ?_, fun f hf => ?_, q.rw⟩
      · cases e
        show m + 1 < S2.n
        omega
      · rcases List.mem_append.mp hf with hf | hf
        · exact q.fk f (by rw [f2]; exact List.mem_append_left _ hf)
        · rw [List.mem_singleton.mp hf]
          refine ⟨?_, ?_, fun p hp => q.hr p hp⟩
          · show S.spot < S2.n
            exact Nat.lt_of_lt_of_le (zA _ (List.mem_cons_self ..)) le2
          · show m + 1 < S2.n
            omega
    have c3 : S3.Cov := by
      rw [← hS3]
      exact A2.cov
    have a3 : Ap S3 (S3.here.toList ++ (S2.here.toList ++ S.spot :: Z)) := by
      have q : Ap S2 ((m + 1) :: (S2.here.toList ++ S.spot :: Z)) := A2.ap.perm List.perm_middle
      rw [← hS3]
      exact q
    have hz3 : ∀ z ∈ S2.here.toList ++ S.spot :: Z, z < S3.n := fun z hz' => by
      rw [n3]
      rcases List.mem_append.mp hz' with q | q
      · cases e : S2.here with
        | none => rw [e] at q; cases q
        | some x =>
          rw [e] at q
          rw [List.mem_singleton.mp q]
          exact A2.ok.hr x e
      · exact Nat.lt_of_lt_of_le (zA z q) le2
    -- the second list
    obtain ⟨S4, A4⟩ := ihb w S3 (k + 3 + wl a) (S2.here.toList ++ S.spot :: Z) hwb o3 c3 (fun q => by
        obtain ⟨g, hg1, hg2⟩ := hg q
        exact ⟨g, by rw [← hS3]; show inn (S.forks ++ [_]) = _; rw [inn_pass (by exact d_ifwh)]; exact hg1, List.mem_append_right _ (List.mem_cons_of_mem _ hg2)⟩) (List.mem_append_right _ (List.mem_cons_of_mem _ h1)) hz3 a3
    have f4 : S4.forks = S.forks ++ [{ (⟨wIf, S.spot, m + 1, S.alive, none, false⟩ : Fk) with passed := S2.here, passes := S2.alive }] := by rw [A4.forks, ← hS3]
    have le4 : S2.n ≤ S4.n := by rw [← n3]; exact A4.le
    have cc3 : S3.cc = S2.cc := by rw [← hS3] <;> rfl
    have nn3 : nn S3.here = 0 := by rw [← hS3] <;> rfl
    have nnA : nn SA.here = 0 := by rw [hA] <;> rfl
    have q2 := A2.cc
    have q4 := A4.cc
    rw [nnA, ccA] at q2
    rw [cc3, nn3] at q4
    -- closed
    have key : ∃ S5 : Sx, Tks S4 ⟨wEnd, k + 3 + wl a + wl b, wElse⟩ S5 ∧ S5.Ok ∧ S5.Cov ∧ S5.n = S4.n ∧ S5.forks = S.forks ∧ S5.alive = (S4.alive || S2.alive) ∧ S5.dead = S4.dead ∧ S5.whole = S4.whole ∧ S5.rows = S4.rows ∧
        Ap S5 (S5.here.toList ++ S.spot :: Z) ∧ S5.cc + nn S5.here = S.cc + nn S.here + (things a + things b + 1) ∧ (∀ a b, S4.rep a = S4.rep b → S5.rep a = S5.rep b) := by
      refine ⟨_, Tks.endi f4, ?_⟩
      have fko : ∀ f ∈ S.forks, f.s < S4.n ∧ f.o < S4.n ∧ ∀ p, f.passed = some p → p < S4.n := fun f hf => A4.ok.fk f (by rw [f4]; exact List.mem_append_left _ hf)
      cases e4 : S4.here with
      | none =>
        have sh : S4.shut { (⟨wIf, S.spot, m + 1, S.alive, none, false⟩ : Fk) with passed := S2.here, passes := S2.alive } = { S4 with here := S2.here } := by
          unfold Sx.shut
          rw [e4]
        rw [sh]
        refine ⟨⟨A4.ok.two, A4.ok.lt, A4.ok.hi, A4.ok.idem, fun h e => Nat.lt_of_lt_of_le (A2.ok.hr h e) le4, fko, A4.ok.rw⟩, A4.cov, rfl, rfl, rfl, rfl, rfl, rfl, ?_, ?_, fun _ _ h => h⟩
        · have q := A4.ap
          rw [e4] at q
          exact q
        · show S4.cc + nn S2.here = _
          rw [e4] at q4
          have : nn (none : Option Nat) = 1 := rfl
          omega
      | some x =>
        cases e2' : S2.here with
        | none =>
          have sh : S4.shut { (⟨wIf, S.spot, m + 1, S.alive, none, false⟩ : Fk) with passed := none, passes := S2.alive } = S4 := by
            unfold Sx.shut
            rw [e4]
          rw [sh]
          refine ⟨⟨A4.ok.two, A4.ok.lt, A4.ok.hi, A4.ok.idem, A4.ok.hr, fko, A4.ok.rw⟩, A4.cov, rfl, rfl, rfl, rfl, rfl, rfl, ?_, ?_, fun _ _ h => h⟩
          · have q := A4.ap
            rw [e2'] at q
            exact q
          · show S4.cc + nn S4.here = _
            rw [e2'] at q2
            have : nn (none : Option Nat) = 1 := rfl
            omega
        | some p =>
          have sh : S4.shut { (⟨wIf, S.spot, m + 1, S.alive, none, false⟩ : Fk) with passed := some p, passes := S2.alive } = S4.un p x := by
            unfold Sx.shut
            rw [e4]
          rw [sh]
          have hp : p < S4.n := Nat.lt_of_lt_of_le (A2.ok.hr p e2') le4
          have hx : x < S4.n := A4.ok.hr x e4
          have oU := un_ok A4.ok hp hx
          have q := A4.ap
          rw [e4, e2'] at q
          have q5 : Ap S4 (p :: x :: S.spot :: Z) := q.perm (List.Perm.swap ..)
          have ne := ap_ne q5 (List.mem_cons_self ..)
          have cU := cc_un A4.ok hp ne
          refine ⟨⟨oU.two, oU.lt, oU.hi, oU.idem, oU.hr, fko, oU.rw⟩, un_cov A4.cov, rfl, rfl, rfl, rfl, rfl, rfl, ?_, ?_, un_mono⟩
          · have q6 := ap_un (b := x) q5
            show Ap (S4.un p x) (S4.here.toList ++ S.spot :: Z)
            rw [e4]
            exact q6
          · show (S4.un p x).cc + nn S4.here = _
            have n0 : nn S4.here = 0 := by rw [e4] <;> rfl
            have n1 : nn S2.here = 0 := by rw [e2'] <;> rfl
            omega
    obtain ⟨S5, t5, o5, c5, n5, f5, v5, d5, w5, r5, a5, cc5, m5⟩ := key
    have hz5 : ∀ z ∈ S.spot :: Z, z < S5.n := fun z hz' => by
      rw [n5]
      exact Nat.lt_of_lt_of_le (zA z hz') (Nat.le_trans le2 le4)
    obtain ⟨S6, A6⟩ := ihr w S5 (k + 4 + wl a + wl b) (S.spot :: Z) hwr o5 c5 (fun q => by
        obtain ⟨g, hg1, hg2⟩ := hg q
        exact ⟨g, by rw [f5]; exact hg1, List.mem_cons_of_mem _ hg2⟩) (List.mem_cons_of_mem _ h1) hz5 a5
    have tA : Tks S ⟨wIf, k, n⟩ SA := by rw [← hSA]; exact Tks.asked (.inl rfl)
    have v2 : S2.alive = alv a S.alive := by rw [A2.alive, vA]
    have v3 : S3.alive = S.alive := by rw [← hS3]
    have v4 : S4.alive = alv b S.alive := by rw [A4.alive, v3]
    have v5' : S5.alive = (alv a S.alive || alv b S.alive) := by rw [v5, v2, v4, Bool.or_comm]
    have d3 : S3.dead = S2.dead := by rw [← hS3]
    have w3 : S3.whole = S2.whole := by rw [← hS3]
    have r3 : S3.rows = S2.rows := by rw [← hS3]
    refine ⟨S6, ?_, A6.ok, A6.cov, ?_, ?_, ?_, ?_, ?_, ?_, ap_weak A6.ap, ?_, (fun _ => A6.ap), fun a b h => A6.mono a b (m5 a b (A4.mono a b (by rw [p3]; exact A2.mono a b (by rw [pA]; exact h)))), fun ⟨_, h⟩ => nomatch h⟩
    · exact .cons tA (A2.run.app (.cons t3 (A4.run.app (.cons t5 A6.run))))
    · have z6 := A6.le
      omega
    · rw [A6.forks, f5]
    · rw [A6.alive, v5'] <;> rfl
    · rw [A6.dead, d5, A4.dead, d3, A2.dead, dA, v5', v3, vA]
      simp only [ded, List.append_assoc]
    · rw [A6.whole, w5, A4.whole, w3, A2.whole, wA, v5', v3, vA]
      simp only [dth, isE_app, Bool.and_assoc]
    · rw [A6.cas, r5, A4.cas, r3, A2.cas, rA]
      simp only [cas, List.append_assoc]
    · have z6 := A6.cc
      show S6.cc + nn S6.here = S.cc + nn S.here + (things a + things b + things r + 1)
      omega
  | wh n a r iha ihr =>
    intro w S k Z hw o c hg h1 hz ap
    obtain ⟨_, hwa, hwr⟩ := hw
    obtain ⟨e1, e2, e3, e4, e5, e6⟩ := mark_same S wWhile k
    have oM := mark_ok o wWhile k
    have cM := mark_cov c wWhile k
    have es : (S.mark wWhile k).spot = S.spot := by unfold Sx.spot; rw [e4, e1]
    have aM : Ap (S.mark wWhile k) (S.spot :: Z) := by rw [← es]; exact ap_std oM (by unfold Ap; rw [e2, e4]; exact ap) (by rw [e1]; exact hz)
    have aS : Ap (S.mark wWhile k).std (S.spot :: Z) := by unfold Ap; rw [std_rep]; exact aM
    have hz2 : ∀ z ∈ S.spot :: Z, z < (S.mark wWhile k).std.n := fun z hz' => by
      rcases List.mem_cons.mp hz' with q | q
      · rw [q, ← es]; exact spot_lt oM
      · exact Nat.lt_of_lt_of_le (by rw [e1]; exact hz z q) std_le
    have oS := std_ok oM
    generalize hm : (S.mark wWhile k).std.n = m at hz2
    have oA : ((S.mark wWhile k).asked wWhile n k).Ok := asked_ok oM _ _ _
    have cA : ((S.mark wWhile k).asked wWhile n k).Cov := asked_cov cM _ _ _
    have lA : S.n ≤ m := by rw [← hm, ← e1]; exact std_le
    have hA : ((S.mark wWhile k).asked wWhile n k).here = some m := by rw [← hm] <;> rfl
    have nA : ((S.mark wWhile k).asked wWhile n k).n = m + 2 := by rw [← hm] <;> rfl
    have fA : ((S.mark wWhile k).asked wWhile n k).forks = S.forks ++ [⟨wWhile, S.spot, m + 1, S.alive, none, false⟩] := by
      show (S.mark wWhile k).forks ++ [⟨wWhile, (S.mark wWhile k).spot, (S.mark wWhile k).std.n + 1, (S.mark wWhile k).alive, none, false⟩] = _
      rw [e6, es, hm, e5]
    have vA : ((S.mark wWhile k).asked wWhile n k).alive = S.alive := by
      show (S.mark wWhile k).std.alive = _
      rw [std_alive, e5]
    have dA : ((S.mark wWhile k).asked wWhile n k).dead = S.dead ++ mk S.alive k := by
      show (S.mark wWhile k).std.dead = _
      rw [std_dead, mark_dead]
    have wA : ((S.mark wWhile k).asked wWhile n k).whole = (S.whole && (mk S.alive k).isEmpty) := by
      show (S.mark wWhile k).std.whole = _
      rw [std_whole, mark_whole d_wh2]
    have rA : rowCas ((S.mark wWhile k).asked wWhile n k).rows = rowCas S.rows := by
      show rowCas ((S.mark wWhile k).rows ++ _) = _
      rw [rowCas_app, e3]
      have q : rowCas [⟨wYes, n, k, (S.mark wWhile k).spot, (S.mark wWhile k).std.n⟩, ⟨wNo, n, k, (S.mark wWhile k).spot, (S.mark wWhile k).std.n + 1⟩] = [] := by simp [rowCas, d_yes, d_no]
      rw [q, List.append_nil]
    have aA : Ap ((S.mark wWhile k).asked wWhile n k) (m :: (m + 1) :: S.spot :: Z) := by
      have z1 : Ap (S.mark wWhile k).std ((m + 1) :: S.spot :: Z) := ap_new oS aS (by rw [hm]; exact hz2) (by rw [hm]; exact Nat.le_succ _)
      have z2 : Ap ((S.mark wWhile k).std) (m :: (m + 1) :: S.spot :: Z) := by
        refine List.nodup_cons.mpr ⟨fun q => ?_, z1⟩
        obtain ⟨x, hx, ex⟩ := List.mem_map.mp q
        have r0 := oS.hi m (by rw [hm]; exact Nat.le_refl _)
        rcases List.mem_cons.mp hx with hx | hx
        · have r1 := oS.hi (m + 1) (by rw [hm]; exact Nat.le_succ _)
          rw [hx] at ex
          omega
        · have r1 := oS.lt x (by rw [hm]; exact hz2 x hx)
          rw [hm] at r1
          omega
      exact z2
    have ccA : ((S.mark wWhile k).asked wWhile n k).cc = S.cc + nn S.here + 2 := by
      have z2 := cc_std oM
      have z3 : (S.mark wWhile k).cc = S.cc := by unfold Sx.cc; rw [e1, e2]
      rw [z3, e4] at z2
      rw [← z2]
      exact cc_asked oM
    have pA : ((S.mark wWhile k).asked wWhile n k).rep = S.rep := by
      show (S.mark wWhile k).std.rep = _
      rw [std_rep, e2]
    have zA : ∀ z ∈ S.spot :: Z, z < m + 2 := fun z hz' => Nat.lt_of_lt_of_le (hz2 z hz') (Nat.le_add_right _ _)
    generalize hSA : (S.mark wWhile k).asked wWhile n k = SA at oA cA hA nA fA vA dA wA rA aA ccA pA
    obtain ⟨S2, A2⟩ := iha true SA (k + 2) ((m + 1) :: S.spot :: Z) hwa oA cA (fun q => ⟨m + 1, by rw [fA, inn_push rfl], List.mem_cons_self ..⟩) (List.mem_cons_of_mem _ (List.mem_cons_of_mem _ h1))
      (fun z hz' => by
        rw [nA]
        rcases List.mem_cons.mp hz' with q | q
        · rw [q]; exact Nat.lt_succ_self _
        · exact zA z q) (by rw [hA]; exact aA)
    have f2 : S2.forks = S.forks ++ [⟨wWhile, S.spot, m + 1, S.alive, none, false⟩] := A2.forks.trans fA
    have le2 : m + 2 ≤ S2.n := by rw [← nA]; exact A2.le
    have nnA : nn SA.here = 0 := by rw [hA] <;> rfl
    have q2 := A2.cc
    rw [nnA, ccA] at q2
    have sn : S.spot < S2.n := Nat.lt_of_lt_of_le (zA _ (List.mem_cons_self ..)) le2
    have key : ∃ S5 : Sx, Tks S2 ⟨wEnd, k + 2 + wl a, wWhile⟩ S5 ∧ S5.Ok ∧ S5.Cov ∧ S5.n = S2.n ∧ S5.forks = S.forks ∧ S5.alive = S.alive ∧ S5.dead = S2.dead ∧ S5.whole = S2.whole ∧ S5.rows = S2.rows ∧
        Ap S5 (S5.here.toList ++ S.spot :: Z) ∧ S5.cc + nn S5.here = S.cc + nn S.here + (things a + 1) ∧ (∀ a b, S2.rep a = S2.rep b → S5.rep a = S5.rep b) := by
      refine ⟨_, Tks.endw f2, ?_⟩
      have fko : ∀ f ∈ S.forks, f.s < S2.n ∧ f.o < S2.n ∧ ∀ p, f.passed = some p → p < S2.n := fun f hf => A2.ok.fk f (by rw [f2]; exact List.mem_append_left _ hf)
      cases e2' : S2.here with
      | none =>
        have sh : S2.join S.spot = S2 := by
          unfold Sx.join
          rw [e2']
        show Sx.Ok { S2.join S.spot with forks := S.forks, here := some (m + 1), alive := S.alive } ∧ _
        rw [sh]
        refine ⟨⟨A2.ok.two, A2.ok.lt, A2.ok.hi, A2.ok.idem, fun h e => ?_, fko, A2.ok.rw⟩, A2.cov, rfl, rfl, rfl, rfl, rfl, rfl, ?_, ?_, fun _ _ h => h⟩
        · cases e
          show m + 1 < S2.n
          omega
        · have q := A2.ap
          rw [e2'] at q
          exact q
        · show S2.cc + 0 = _
          rw [e2'] at q2
          have : nn (none : Option Nat) = 1 := rfl
          omega
      | some x =>
        have sh : S2.join S.spot = S2.un x S.spot := by
          unfold Sx.join
          rw [e2']
        show Sx.Ok { S2.join S.spot with forks := S.forks, here := some (m + 1), alive := S.alive } ∧ _
        rw [sh]
        have hx : x < S2.n := A2.ok.hr x e2'
        have oU := un_ok A2.ok hx sn
        have q := A2.ap
        rw [e2'] at q
        have ne := ap_ne (A := (m + 1) :: S.spot :: Z) q (List.mem_cons_of_mem _ (List.mem_cons_self ..))
        have cU := cc_un A2.ok hx ne
        refine ⟨⟨oU.two, oU.lt, oU.hi, oU.idem, fun h e => ?_, fko, oU.rw⟩, un_cov A2.cov, rfl, rfl, rfl, rfl, rfl, rfl, ?_, ?_, fun a b h => un_mono a b h⟩
        · cases e
          show m + 1 < S2.n
          omega
        · exact ap_un (b := S.spot) (A := (m + 1) :: S.spot :: Z) q
        · show (S2.un x S.spot).cc + 0 = _
          rw [e2'] at q2
          have : nn (some x) = 0 := rfl
          omega
    obtain ⟨S5, t5, o5, c5, n5, f5, v5, d5, w5, r5, a5, cc5, m5⟩ := key
    have hz5 : ∀ z ∈ S.spot :: Z, z < S5.n := fun z hz' => by
      rw [n5]
      exact Nat.lt_of_lt_of_le (zA z hz') le2
    obtain ⟨S6, A6⟩ := ihr w S5 (k + 3 + wl a) (S.spot :: Z) hwr o5 c5 (fun q => by
        obtain ⟨g, hg1, hg2⟩ := hg q
        exact ⟨g, by rw [f5]; exact hg1, List.mem_cons_of_mem _ hg2⟩) (List.mem_cons_of_mem _ h1) hz5 a5
    have tA : Tks S ⟨wWhile, k, n⟩ SA := by rw [← hSA]; exact Tks.asked (.inr rfl)
    refine ⟨S6, ?_, A6.ok, A6.cov, ?_, ?_, ?_, ?_, ?_, ?_, ap_weak A6.ap, ?_, (fun _ => A6.ap), fun a b h => A6.mono a b (m5 a b (A2.mono a b (by rw [pA]; exact h))), fun ⟨_, h⟩ => nomatch h⟩
    · exact .cons tA (A2.run.app (.cons t5 A6.run))
    · have z6 := A6.le
      omega
    · rw [A6.forks, f5]
    · rw [A6.alive, v5] <;> rfl
    · rw [A6.dead, d5, A2.dead, dA, v5, vA]
      simp only [ded, List.append_assoc]
    · rw [A6.whole, w5, A2.whole, wA, v5, vA]
      simp only [dth, isE_app, Bool.and_assoc]
    · rw [A6.cas, r5, A2.cas, rA]
      simp only [cas, List.append_assoc]
    · have z6 := A6.cc
      show S6.cc + nn S6.here = S.cc + nn S.here + (things a + things r + 1)
      omega
end Fc

set_option Elab.async false
set_option linter.all false
set_option maxHeartbeats 4000000
namespace Fc
open PySem
/-! the plain law, 4: a whole program's faults, reckoned by both -/
/-- no row, or begun by a back -/
def bare : L → Bool
  | .nil => true
  | .bk _ => true
  | _ => false
structure Dr where
  n : Str
  k : Nat
  S : Sx
/-- what is known of a part's spots -/
structure PartOk (ns : List Str) (p : Str × L) (k : Nat) (d : Dr) : Prop where
  en : d.n = p.1
  ek : d.k = k
  ok : d.S.Ok
  cov : d.S.Cov
  dead : d.S.dead = ded p.2 (k + 2) true
  whole : d.S.whole = (dth p.2 (k + 2) true).isEmpty
  cas : rowCas d.S.rows = cas ns p.2 (k + 2)
  one : d.S.rep 0 = d.S.rep 1 ↔ bare p.2 = true
  cc : d.S.cc = things p.2 + 1
theorem new_ok : Sx.new.Ok := ⟨Nat.le_refl _, fun _ h => h, fun _ _ => rfl, fun _ => rfl, fun h e => by cases e; decide, fun _ h => (nomatch h), fun _ h => (nomatch h)⟩
theorem new_cov : Sx.new.Cov := fun s h => by
  have h' : s < 2 := h
  refine ⟨s, ?_, rfl⟩
  by_cases q : s = 0
  · exact .inl q
  · exact .inr (.inl (by omega))
theorem part_run {ns : List Str} {m : Nat} (p : Str × L) (k : Nat) (hw : Wf m p.2 false) : ∃ S1 S2, Run Sx.new (stp ns p.2 (k + 2)) S1 ∧ Tks S1 ⟨wEnd, k + 2 + wl p.2, wPart⟩ S2 ∧ PartOk ns p k ⟨p.1, k, S2⟩ := by
  obtain ⟨S', A⟩ := run_list (ns := ns) p.2 false Sx.new (k + 2) [1] hw new_ok new_cov (fun h => nomatch h) (List.mem_singleton.mpr rfl) (fun z hz => by rw [List.mem_singleton.mp hz]; decide) (by show ([0, 1] : List Nat).Nodup; decide)
  have h1 : 1 < S'.n := Nat.lt_of_lt_of_le (by decide : 1 < 2) A.le
  refine ⟨S', S'.join 1, A.run, .endp, rfl, rfl, join_ok A.ok h1, join_cov A.cov, ?_, ?_, ?_, ?_, ?_⟩
  · show (S'.join 1).dead = _
    have e : (S'.join 1).dead = S'.dead := by
      unfold Sx.join
      cases S'.here <;> rfl
    rw [e, A.dead] <;> rfl
  · show (S'.join 1).whole = _
    have e : (S'.join 1).whole = S'.whole := by
      unfold Sx.join
      cases S'.here <;> rfl
    rw [e, A.whole] <;> rfl
  · show rowCas (S'.join 1).rows = _
    have e : (S'.join 1).rows = S'.rows := by
      unfold Sx.join
      cases S'.here <;> rfl
    rw [e, A.cas] <;> rfl
  · show (S'.join 1).rep 0 = (S'.join 1).rep 1 ↔ _
    have yes : S'.rep 0 = S'.rep 1 → (S'.join 1).rep 0 = (S'.join 1).rep 1 := fun h => by
      unfold Sx.join
      cases S'.here with
      | none => exact h
      | some x => exact un_mono 0 1 h
    have no : hd p.2 = true → ¬ (S'.join 1).rep 0 = (S'.join 1).rep 1 := fun h => by
      have q := A.sp h
      have q2 : Ap S' (S'.here.toList ++ [0, 1]) := q
      have fin : Ap (S'.join 1) [0, 1] := by
        unfold Sx.join
        cases e : S'.here with
        | none =>
          rw [e] at q2
          exact q2
        | some x =>
          rw [e] at q2
          exact ap_un q2
      exact ap_ne fin (List.mem_singleton.mpr rfl)
    cases hp : p.2 with
    | nil =>
      refine ⟨fun _ => rfl, fun _ => ?_⟩
      rw [hp] at A
      have r := A.run
      have e : S' = Sx.new := by
        cases r
        rfl
      rw [e]
      rfl
    | lv r =>
      rw [hp] at hw
      exact nomatch hw.1
    | bk r => exact ⟨fun _ => rfl, fun _ => yes (A.bkf ⟨r, hp⟩)⟩
    | dO n r => exact ⟨fun h => absurd h (no (by rw [hp] <;> rfl)), fun h => nomatch h⟩
    | ca c r => exact ⟨fun h => absurd h (no (by rw [hp] <;> rfl)), fun h => nomatch h⟩
    | fi n a b r => exact ⟨fun h => absurd h (no (by rw [hp] <;> rfl)), fun h => nomatch h⟩
    | wh n a r => exact ⟨fun h => absurd h (no (by rw [hp] <;> rfl)), fun h => nomatch h⟩
  · show (S'.join 1).cc = _
    have q := A.cc
    have n0 : Sx.new.cc = 2 := by decide
    have n1 : nn Sx.new.here = 0 := rfl
    rw [n0, n1] at q
    unfold Sx.join
    cases e : S'.here with
    | none =>
      rw [e] at q
      have : nn (none : Option Nat) = 1 := rfl
      show S'.cc = _
      omega
    | some x =>
      have a := A.ap
      rw [e] at q a
      have : nn (some x) = 0 := rfl
      have z := cc_un A.ok (A.ok.hr x e) (ap_ne (A := [1]) a (List.mem_singleton.mpr rfl))
      show (S'.un x 1).cc = _
      omega
/-- the places' number -/
theorem places_len {S : Sx} (o : S.Ok) (c : S.Cov) {l : List Nat} (nd : l.Nodup) (h : ∀ x, x ∈ l ↔ ∃ t, InR S.rows t ∧ x = S.rep t) : l.length = S.cc := by
  refine cnt_list nd fun x => ?_
  rw [h x]
  have inr : ∀ t, InR S.rows t → t < S.n := fun t ht => by
    have z := o.two
    rcases ht with rfl | rfl | ⟨r, hr, e | e⟩
    · omega
    · omega
    · rw [e]; exact (o.rw r hr).1
    · rw [e]; exact (o.rw r hr).2
  constructor
  · rintro ⟨t, ht, rfl⟩
    exact ⟨o.lt t (inr t ht), o.idem t⟩
  · rintro ⟨hx, e⟩
    obtain ⟨t, ht, e2⟩ := c x hx
    exact ⟨t, ht, by rw [← e2, e]⟩
/-! ### the parts drawn -/
inductive Drs : List Dr → List Step → List Dr → Prop
  | nil {ds : List Dr} : Drs ds [] ds
  | part {ds out : List Dr} {n : Str} {k : Nat} {r : List Step} : Drs (ds ++ [⟨n, k, Sx.new⟩]) r out → Drs ds (⟨wPart, k, n⟩ :: r) out
  | take {ds out : List Dr} {n : Str} {k : Nat} {S S' : Sx} {s : Step} {r : List Step} : Tks S s S' → Drs (ds ++ [⟨n, k, S'⟩]) r out → Drs (ds ++ [⟨n, k, S⟩]) (s :: r) out
theorem drs_run {ds out : List Dr} {n : Str} {k : Nat} {S S' : Sx} {a r : List Step} (h : Run S a S') (g : Drs (ds ++ [⟨n, k, S'⟩]) r out) : Drs (ds ++ [⟨n, k, S⟩]) (a ++ r) out := by
  induction h with
  | nil => exact g
  | cons t _ ih => exact .take t (ih g)
/-- the parts, one by one -/
inductive PartsOk (ns : List Str) : List (Str × L) → Nat → List Dr → Prop
  | nil {k : Nat} : PartsOk ns [] k []
  | cons {p : Str × L} {r : List (Str × L)} {k : Nat} {d : Dr} {ds : List Dr} : PartOk ns p k d → PartsOk ns r (k + pwl p.2) ds → PartsOk ns (p :: r) k (d :: ds)
theorem drs_prog {ns : List Str} {m : Nat} : ∀ (ps : List (Str × L)) (k : Nat) (ds : List Dr), (∀ p ∈ ps, Wf m p.2 false) → ∃ out, Drs ds (pstp ns ps k) (ds ++ out) ∧ PartsOk ns ps k out
  | [], k, ds, _ => ⟨[], by rw [List.append_nil]; exact .nil, .nil⟩
  | p :: r, k, ds, h => by
    obtain ⟨S1, S2, r1, t2, po⟩ := part_run (ns := ns) p k (h p (List.mem_cons_self ..))
    obtain ⟨out, g, q⟩ := drs_prog r (k + pwl p.2) (ds ++ [⟨p.1, k, S2⟩]) fun x hx => h x (List.mem_cons_of_mem _ hx)
    refine ⟨⟨p.1, k, S2⟩ :: out, .part ?_, .cons po q⟩
    rw [List.append_assoc] at g
    exact drs_run r1 (.take t2 g)
/-! ### rows, row by row -/
def wt (w : Str) : Nat := (if w = wDo ∨ w = wCall then 1 else 0) + (if w = wIf ∨ w = wWhile then 2 else 0)
/-- the words of the rows -/
def rws : L → Nat → List Nat
  | .nil, _ => []
  | .lv r, k => rws r (k + 1)
  | .bk r, k => rws r (k + 1)
  | .dO _ r, k => k :: rws r (k + 2)
  | .ca _ r, k => k :: rws r (k + 2)
  | .fi _ x y r, k => k :: k :: (rws x (k + 2) ++ (rws y (k + 3 + wl x) ++ rws r (k + 4 + wl x + wl y)))
  | .wh _ x r, k => k :: k :: (rws x (k + 2) ++ rws r (k + 3 + wl x))
def prws : List (Str × L) → Nat → List Nat
  | [], _ => []
  | p :: r, k => rws p.2 (k + 2) ++ prws r (k + pwl p.2)
def srw (st : List Step) : List Nat := st.flatMap fun s => List.replicate (wt s.w) s.k
theorem wt_leave : wt wLeave = 0 := by decide +kernel
theorem wt_back : wt wBack = 0 := by decide +kernel
theorem wt_do : wt wDo = 1 := by decide +kernel
theorem wt_call : wt wCall = 1 := by decide +kernel
theorem wt_if : wt wIf = 2 := by decide +kernel
theorem wt_while : wt wWhile = 2 := by decide +kernel
theorem wt_else : wt wElse = 0 := by decide +kernel
theorem wt_end : wt wEnd = 0 := by decide +kernel
theorem wt_part : wt wPart = 0 := by decide +kernel
theorem srw_cons (s : Step) (r : List Step) : srw (s :: r) = List.replicate (wt s.w) s.k ++ srw r := List.flatMap_cons
theorem srw_app (a b : List Step) : srw (a ++ b) = srw a ++ srw b := List.flatMap_append
theorem srw_stp (ns : List Str) : ∀ (l : L) (k : Nat), srw (stp ns l k) = rws l k := by
  intro l
  induction l with
  | nil => intro k; rfl
  | lv r ih => intro k; rw [stp, srw_cons, ih]; show List.replicate (wt wLeave) k ++ _ = _; rw [wt_leave] <;> rfl
  | bk r ih => intro k; rw [stp, srw_cons, ih]; show List.replicate (wt wBack) k ++ _ = _; rw [wt_back] <;> rfl
  | dO n r ih => intro k; rw [stp, srw_cons, ih]; show List.replicate (wt wDo) k ++ _ = _; rw [wt_do] <;> rfl
  | ca c r ih => intro k; rw [stp, srw_cons, ih]; show List.replicate (wt wCall) k ++ _ = _; rw [wt_call] <;> rfl
  | fi n a b r iha ihb ihr =>
    intro k
    rw [stp, srw_cons, srw_app, srw_cons, srw_app, srw_cons, iha, ihb, ihr]
    show List.replicate (wt wIf) k ++ (_ ++ (List.replicate (wt wElse) _ ++ (_ ++ (List.replicate (wt wEnd) _ ++ _)))) = _
    rw [wt_if, wt_else, wt_end] <;> rfl
  | wh n a r iha ihr =>
    intro k
    rw [stp, srw_cons, srw_app, srw_cons, iha, ihr]
    show List.replicate (wt wWhile) k ++ (_ ++ (List.replicate (wt wEnd) _ ++ _)) = _
    rw [wt_while, wt_end] <;> rfl
theorem srw_pstp (ns : List Str) : ∀ (ps : List (Str × L)) (k : Nat), srw (pstp ns ps k) = prws ps k
  | [], _ => rfl
  | p :: r, k => by
    rw [pstp, srw_cons, srw_app, srw_cons, srw_stp, srw_pstp ns r]
    show List.replicate (wt wPart) k ++ (_ ++ (List.replicate (wt wEnd) _ ++ _)) = _
    rw [wt_part, wt_end] <;> rfl
/-- the first row too many, by steps -/
def rtm : List Step → Nat → List Nat
  | [], _ => []
  | s :: r, m => if 30 < m + wt s.w then [s.k] else rtm r (m + wt s.w)
theorem rtm_eq : ∀ (st : List Step) (m : Nat), m ≤ 30 → rtm st m = ((srw st)[30 - m]?).toList
  | [], m, _ => rfl
  | s :: r, m, h => by
    rw [srw_cons]
    unfold rtm
    by_cases q : 30 < m + wt s.w
    · rw [if_pos q, List.getElem?_append_left (by rw [List.length_replicate]; omega), List.getElem?_replicate, if_pos (by omega)] <;> rfl
    · rw [if_neg q, rtm_eq r _ (by omega), List.getElem?_append_right (by rw [List.length_replicate]; omega), List.length_replicate]
      have e : 30 - (m + wt s.w) = 30 - m - wt s.w := by omega
      rw [e]
/-! ### calls -/
def scas (st : List Step) : List (Str × Nat) := st.filterMap fun s => if s.w = wCall then some (s.n, s.k) else none
theorem c_leave : ¬ (wLeave = wCall) := by decide +kernel
theorem c_back : ¬ (wBack = wCall) := by decide +kernel
theorem c_if : ¬ (wIf = wCall) := by decide +kernel
theorem c_while : ¬ (wWhile = wCall) := by decide +kernel
theorem c_else : ¬ (wElse = wCall) := by decide +kernel
theorem c_end : ¬ (wEnd = wCall) := by decide +kernel
theorem c_part : ¬ (wPart = wCall) := by decide +kernel
theorem scas_no {s : Step} {r : List Step} (h : ¬ s.w = wCall) : scas (s :: r) = scas r := by
  unfold scas
  rw [List.filterMap_cons, if_neg h]
theorem scas_yes {s : Step} {r : List Step} (h : s.w = wCall) : scas (s :: r) = (s.n, s.k) :: scas r := by
  unfold scas
  rw [List.filterMap_cons, if_pos h]
theorem scas_app (a b : List Step) : scas (a ++ b) = scas a ++ scas b := List.filterMap_append
theorem scas_stp (ns : List Str) : ∀ (l : L) (k : Nat), scas (stp ns l k) = cas ns l k := by
  intro l
  induction l with
  | nil => intro k; rfl
  | lv r ih => intro k; rw [stp, scas_no (by exact c_leave), ih] <;> rfl
  | bk r ih => intro k; rw [stp, scas_no (by exact c_back), ih] <;> rfl
  | dO n r ih => intro k; rw [stp, scas_no (by exact d_do), ih] <;> rfl
  | ca c r ih => intro k; rw [stp, scas_yes rfl, ih] <;> rfl
  | fi n a b r iha ihb ihr =>
    intro k
    rw [stp, scas_no (by exact c_if), scas_app, scas_no (by exact c_else), scas_app, scas_no (by exact c_end), iha, ihb, ihr] <;> rfl
  | wh n a r iha ihr =>
    intro k
    rw [stp, scas_no (by exact c_while), scas_app, scas_no (by exact c_end), iha, ihr] <;> rfl
def pcas (ns : List Str) : List (Str × L) → Nat → List (Str × Nat)
  | [], _ => []
  | p :: r, k => cas ns p.2 (k + 2) ++ pcas ns r (k + pwl p.2)
theorem scas_pstp (ns : List Str) : ∀ (ps : List (Str × L)) (k : Nat), scas (pstp ns ps k) = pcas ns ps k
  | [], _ => rfl
  | p :: r, k => by
    rw [pstp, scas_no (by exact c_part), scas_app, scas_no (by exact c_end), scas_stp, scas_pstp ns r] <;> rfl
/-! ### the program's faults -/
/-- of one part, number i -/
def pf1 (ns called : List Str) (i : Nat) (d : Dr) : List Nat :=
  d.S.dead ++ ((if d.n ∈ ns.take i ∨ (0 < i ∧ d.n ∉ called) ∨ 4 ≤ i then [d.k + 1] else []) ++ ((if d.S.rep 0 = d.S.rep 1 ∨ (d.S.whole = true ∧ 16 < d.S.cc) then [d.k + 1] else []) ++
    (rowCas d.S.rows).flatMap fun c => if c.1 ∈ ns.drop (i + 1) then [] else [c.2 + 1]))
def pfs (ns called : List Str) : List Dr → Nat → List Nat
  | [], _ => []
  | d :: r, i => pf1 ns called i d ++ pfs ns called r (i + 1)
/-! ### the law's faults -/
def look0 (ns later : List Str) : L → Nat → Bool → List Nat
  | .nil, _, _ => []
  | .lv r, k, a => mk a k ++ look0 ns later r (k + 1) false
  | .bk r, k, a => mk a k ++ look0 ns later r (k + 1) false
  | .dO _ r, k, a => mk a k ++ look0 ns later r (k + 2) a
  | .ca c r, k, a => mk a k ++ ((if c.name ns ∈ later then [] else [k + 1]) ++ look0 ns later r (k + 2) a)
  | .fi _ x y r, k, a => mk a k ++ (look0 ns later x (k + 2) a ++ (look0 ns later y (k + 3 + wl x) a ++ look0 ns later r (k + 4 + wl x + wl y) (alv x a || alv y a)))
  | .wh _ x r, k, a => mk a k ++ (look0 ns later x (k + 2) a ++ look0 ns later r (k + 3 + wl x) a)
theorem look0_mem (ns later : List Str) (x : Nat) : ∀ (l : L) (k : Nat) (a : Bool), x ∈ look0 ns later l k a ↔ x ∈ ded l k a ∨ ∃ c ∈ cas ns l k, c.1 ∉ later ∧ x = c.2 + 1 := by
  intro l
  induction l with
  | nil => intro k a; simp [look0, ded, cas]
  | lv r ih => intro k a; simp only [look0, ded, cas, List.mem_append, ih, or_assoc]
  | bk r ih => intro k a; simp only [look0, ded, cas, List.mem_append, ih, or_assoc]
  | dO n r ih => intro k a; simp only [look0, ded, cas, List.mem_append, ih, or_assoc]
  | ca c r ih =>
    intro k a
    simp only [look0, ded, cas, List.mem_append, ih, List.mem_cons]
    constructor
    · rintro (h | h | h | ⟨c', h1, h2, h3⟩)
      · exact .inl (.inl h)
      · by_cases q : c.name ns ∈ later
        · rw [if_pos q] at h
          cases h
        · rw [if_neg q] at h
          exact .inr ⟨_, .inl rfl, q, List.mem_singleton.mp h⟩
      · exact .inl (.inr h)
      · exact .inr ⟨c', .inr h1, h2, h3⟩
    · rintro ((h | h) | ⟨c', h1 | h1, h2, h3⟩)
      · exact .inl h
      · exact .inr (.inr (.inl h))
      · refine .inr (.inl ?_)
        rw [h1] at h2 h3
        rw [if_neg h2]
        exact List.mem_singleton.mpr h3
      · exact .inr (.inr (.inr ⟨c', h1, h2, h3⟩))
  | fi n p q r ihp ihq ihr =>
    intro k a
    simp only [look0, ded, cas, List.mem_append, ihp, ihq, ihr]
    constructor
    · rintro (h | (h | ⟨c, h1, h2⟩) | (h | ⟨c, h1, h2⟩) | (h | ⟨c, h1, h2⟩))
      · exact .inl (.inl h)
      · exact .inl (.inr (.inl h))
      · exact .inr ⟨c, .inl h1, h2⟩
      · exact .inl (.inr (.inr (.inl h)))
      · exact .inr ⟨c, .inr (.inl h1), h2⟩
      · exact .inl (.inr (.inr (.inr h)))
      · exact .inr ⟨c, .inr (.inr h1), h2⟩
    · rintro ((h | h | h | h) | ⟨c, h1 | h1 | h1, h2⟩)
      · exact .inl h
      · exact .inr (.inl (.inl h))
      · exact .inr (.inr (.inl (.inl h)))
      · exact .inr (.inr (.inr (.inl h)))
      · exact .inr (.inl (.inr ⟨c, h1, h2⟩))
      · exact .inr (.inr (.inl (.inr ⟨c, h1, h2⟩)))
      · exact .inr (.inr (.inr (.inr ⟨c, h1, h2⟩)))
  | wh n p r ihp ihr =>
    intro k a
    simp only [look0, ded, cas, List.mem_append, ihp, ihr]
    constructor
    · rintro (h | (h | ⟨c, h1, h2⟩) | (h | ⟨c, h1, h2⟩))
      · exact .inl (.inl h)
      · exact .inl (.inr (.inl h))
      · exact .inr ⟨c, .inl h1, h2⟩
      · exact .inl (.inr (.inr h))
      · exact .inr ⟨c, .inr h1, h2⟩
    · rintro ((h | h | h) | ⟨c, h1 | h1, h2⟩)
      · exact .inl h
      · exact .inr (.inl (.inl h))
      · exact .inr (.inr (.inl h))
      · exact .inr (.inl (.inr ⟨c, h1, h2⟩))
      · exact .inr (.inr (.inr ⟨c, h1, h2⟩))
/-- of one part, number i, at k: in the order in which the law notes them -/
def lf1 (ns : List Str) (i : Nat) (p : Str × L) (k : Nat) : List Nat :=
  look0 ns (ns.drop (i + 1)) p.2 (k + 2) true ++ (if bare p.2 = true ∨ (15 < things p.2 ∧ (dth p.2 (k + 2) true).isEmpty = true) ∨ 3 < i ∨ p.1 ∈ ns.take i then [k + 1] else [])
def lfs (ns : List Str) : List (Str × L) → Nat → Nat → List Nat
  | [], _, _ => []
  | p :: r, i, k => lf1 ns i p k ++ lfs ns r (i + 1) (k + pwl p.2)
/-- parts that no call names, from number i on -/
def lun (called : List Str) : List (Str × L) → Nat → List Nat
  | [], _ => []
  | p :: r, k => (if p.1 ∈ called then [] else [k + 1]) ++ lun called r (k + pwl p.2)
def luns (called : List Str) : List (Str × L) → Nat → List Nat
  | [], _ => []
  | p :: r, k => lun called r (k + pwl p.2)
/-- all that the law notes -/
def lawF (ns : List Str) (ps : List (Str × L)) : List Nat := lfs ns ps 0 0 ++ (luns ((pcas ns ps 0).map (·.1)) ps 0 ++ ((prws ps 0)[30]?).toList)
/-- all that the program notes -/
def proF (ns called : List Str) (st : List Step) (ds : List Dr) : List Nat := rtm st 0 ++ pfs ns called ds 0
theorem pf1_mem {ns called : List Str} {i : Nat} {p : Str × L} {k : Nat} {d : Dr} (h : PartOk ns p k d) (x : Nat) : x ∈ pf1 ns called i d ↔ x ∈ lf1 ns i p k ∨ (0 < i ∧ p.1 ∉ called ∧ x = k + 1) := by
  unfold pf1 lf1
  rw [h.dead, h.whole, h.cas, h.en, h.ek, h.cc]
  simp only [List.mem_append, look0_mem, h.one]
  have flat : x ∈ (cas ns p.2 (k + 2)).flatMap (fun c => if c.1 ∈ ns.drop (i + 1) then [] else [c.2 + 1]) ↔ ∃ c ∈ cas ns p.2 (k + 2), c.1 ∉ ns.drop (i + 1) ∧ x = c.2 + 1 := by
    rw [List.mem_flatMap]
    constructor
    · rintro ⟨c, h1, h2⟩
      by_cases q : c.1 ∈ ns.drop (i + 1)
      · rw [if_pos q] at h2
        cases h2
      · rw [if_neg q] at h2
        exact ⟨c, h1, q, List.mem_singleton.mp h2⟩
    · rintro ⟨c, h1, h2, h3⟩
      refine ⟨c, h1, ?_⟩
      rw [if_neg h2]
      exact List.mem_singleton.mpr h3
  rw [flat]
  have ite : ∀ {c : Prop} [Decidable c] {y : Nat}, x ∈ (if c then [y] else []) ↔ c ∧ x = y := fun {c} _ {y} => by
    by_cases q : c
    · rw [if_pos q, List.mem_singleton]
      exact ⟨fun z => ⟨q, z⟩, fun z => z.2⟩
    · rw [if_neg q]
      exact ⟨fun z => (nomatch z), fun z => absurd z.1 q⟩
  rw [ite, ite, ite]
  constructor
  · rintro (h1 | ⟨h1 | h1 | h1, h2⟩ | ⟨h1 | h1, h2⟩ | h1)
    · exact .inl (.inl (.inl h1))
    · exact .inl (.inr ⟨.inr (.inr (.inr h1)), h2⟩)
    · exact .inr ⟨h1.1, h1.2, h2⟩
    · exact .inl (.inr ⟨.inr (.inr (.inl (by omega))), h2⟩)
    · exact .inl (.inr ⟨.inl h1, h2⟩)
    · exact .inl (.inr ⟨.inr (.inl ⟨by omega, h1.1⟩), h2⟩)
    · exact .inl (.inl (.inr h1))
  · rintro ((( h1 | h1) | ⟨h1 | h1 | h1 | h1, h2⟩) | ⟨h1, h2, h3⟩)
    · exact .inl h1
    · exact .inr (.inr (.inr h1))
    · exact .inr (.inr (.inl ⟨.inl h1, h2⟩))
    · exact .inr (.inr (.inl ⟨.inr ⟨h1.2, by omega⟩, h2⟩))
    · exact .inr (.inl ⟨.inr (.inr (by omega)), h2⟩)
    · exact .inr (.inl ⟨.inl h1, h2⟩)
    · exact .inr (.inl ⟨.inr (.inl ⟨h1, h2⟩), h3⟩)
theorem pfs_mem {ns called : List Str} (x : Nat) : ∀ {ps : List (Str × L)} {k : Nat} {ds : List Dr} (i : Nat), PartsOk ns ps k ds → 0 < i → (x ∈ pfs ns called ds i ↔ x ∈ lfs ns ps i k ∨ x ∈ lun called ps k)
  | _, _, _, i, .nil, _ => by simp [pfs, lfs, lun]
  | _, _, _, i, .cons (p := p) (r := r) (k := k) h t, hi => by
    have ih := pfs_mem (called := called) x (i + 1) t (Nat.succ_pos _)
    simp only [pfs, lfs, lun, List.mem_append, ih, pf1_mem h]
    by_cases q : p.1 ∈ called
    · rw [if_pos q]
      constructor
      · rintro ((h1 | ⟨_, h2, _⟩) | h1 | h1)
        · exact .inl (.inl h1)
        · exact absurd q h2
        · exact .inl (.inr h1)
        · exact .inr (.inr h1)
      · rintro ((h1 | h1) | h1 | h1)
        · exact .inl (.inl h1)
        · exact .inr (.inl h1)
        · cases h1
        · exact .inr (.inr h1)
    · rw [if_neg q, List.mem_singleton]
      constructor
      · rintro ((h1 | ⟨_, _, h2⟩) | h1 | h1)
        · exact .inl (.inl h1)
        · exact .inr (.inl h2)
        · exact .inl (.inr h1)
        · exact .inr (.inr h1)
      · rintro ((h1 | h1) | h1 | h1)
        · exact .inl (.inl h1)
        · exact .inr (.inl h1)
        · exact .inl (.inr ⟨hi, q, h1⟩)
        · exact .inr (.inr h1)
/-- THE PLAIN LAW: both note the same words -/
theorem same_faults {ns : List Str} {ps : List (Str × L)} {ds : List Dr} (h : PartsOk ns ps 0 ds) (x : Nat) : x ∈ proF ns ((scas (pstp ns ps 0)).map (·.1)) (pstp ns ps 0) ds ↔ x ∈ lawF ns ps := by
  unfold proF lawF
  rw [rtm_eq _ 0 (by decide), srw_pstp, scas_pstp]
  cases h with
  | nil => rfl
  | cons h t =>
    rename_i p r d ds
    simp only [pfs, lfs, luns, List.mem_append, pf1_mem h, pfs_mem x 1 t Nat.one_pos, Nat.zero_add]
    constructor
    · rintro (h1 | (h1 | ⟨h1, _⟩) | h1 | h1)
      · exact .inr (.inr h1)
      · exact .inl (.inl h1)
      · exact absurd h1 (Nat.lt_irrefl _)
      · exact .inl (.inr h1)
      · exact .inr (.inl h1)
    · rintro ((h1 | h1) | h1 | h1)
      · exact .inr (.inl (.inl h1))
      · exact .inr (.inr (.inl h1))
      · exact .inr (.inr (.inr h1))
      · exact .inl h1
end Fc

set_option Elab.async false
set_option linter.all false
set_option maxRecDepth 100000
set_option maxHeartbeats 4000000
namespace Fc
open PySem PySem.Spec PyProof.Rows L2 He
/-! what a caller wants of a def; short words -/
structure Cal (P : Program) (w : World) (K : PySem.W.Frag) (mg : Str → Option Value) (base : Heap) (CX : CXT) (k : Nat) (x : Str) (ps : List Str) (sp : Sp) : Prop where
  ex : ∃ fd, FnOk P w K mg base CX k (ga K x) fd ps sp ∧ Binds K fd ps []
  kp : PySem.W.keepIn K (.ref (ga K x)) = true
  gl : mg x = some (.ref (ga K x))
structure Met (P : Program) (w : World) (K : PySem.W.Frag) (mg : Str → Option Value) (base : Heap) (CX : CXT) (k : Nat) (C m : Str) (ps : List Str) (sp : Sp) : Prop where
  ex : ∃ fd, FnOk P w K mg base CX k (ma K (ga K C) m) fd ps sp ∧ Binds K fd ps []
  me : Meth K (ga K C) m (ma K (ga K C) m)
  cl : Cls K (ga K C)
structure Mkr (P : Program) (w : World) (K : PySem.W.Frag) (mg : Str → Option Value) (base : Heap) (CX : CXT) (k : Nat) (C : Str) (ps : List Str) (sp : Sp) : Prop where
  ex : ∃ fd, FnOk P w K mg base CX k (ma K (ga K C) "__init__") fd ps sp ∧ Binds K fd ps []
  mke : Mk K (ga K C) (ma K (ga K C) "__init__")
  gl : mg C = some (.ref (ga K C))
section
variable {X : Cx} {CX : CXT} {k : Nat} {ps : List Str} {sp : Sp} {E : XK} {x m C : Str} {p pos apos : Pos} {e o : Expr} {es : List Expr} {ta : TE} {t : TA}
theorem pcall (F : Cal X.prog X.w X.K X.mg X.base CX k x ps sp) (hr : Room k X.A) (hg : Gl X x) (hx : Passes CX X E) (ha : PA X (e :: es) t) (hdb : (x == ("__debug__" : Str)) = false := by decide)
    (he : starEach (e :: es) X.env = (false, eval e X.env) :: starEach es X.env := by rfl) (hpl : (backTo pos (starEach es X.env)).any (·.1) = false := by rfl) : PE X (.Call (.Name x p) (e :: es) [] pos) (tCall sp [] E t) := by
  obtain ⟨fd, f, b⟩ := F.ex
  exact pe_call f hr hg F.gl F.kp b .nil hx ha hdb he hpl
theorem pmeth {pl : Sem Bool} (he : PE X o ta) (F : Met X.prog X.w X.K X.mg X.base CX k C m ps sp) (hr : Room k X.A) (hx : Passes CX X E) (ha : PA X (e :: es) t)
    (hst : starEach (e :: es) X.env = (false, eval e X.env) :: starEach es X.env := by rfl) (hpl : (backTo pos (starEach es X.env)).any (·.1) = false := by rfl)
    (ht : eval (.Call (.Attribute o m apos) (e :: es) [] pos) X.env = (do
      let ov ← eval o X.env
      standAt apos.atName
      let (f, first) ← holding [ov] (getMethod ov m pl)
      callWith pos f first (backTo pos (starEach (e :: es) X.env)) (backToKw pos (keywordEach [] X.env))) := by rfl) :
    PE X (.Call (.Attribute o m apos) (e :: es) [] pos) (tMeth (ga X.K C) m sp [] E ta t) := by
  obtain ⟨fd, f, b⟩ := F.ex
  exact pe_meth he F.cl F.me f hr b .nil hx ha hst hpl ht
theorem pmeth0 {pl : Sem Bool} (he : PE X o ta) (F : Met X.prog X.w X.K X.mg X.base CX k C m ps sp) (hr : Room k X.A) (hx : Passes CX X E)
    (ht : eval (.Call (.Attribute o m apos) [] [] pos) X.env = (do
      let ov ← eval o X.env
      standAt apos.atName
      let (f, first) ← holding [ov] (getMethod ov m pl)
      callWith pos f first (backTo pos (starEach [] X.env)) (backToKw pos (keywordEach [] X.env))) := by rfl) :
    PE X (.Call (.Attribute o m apos) [] [] pos) (tMeth (ga X.K C) m sp [] E ta tNil) := by
  obtain ⟨fd, f, b⟩ := F.ex
  exact pe_meth0 he F.cl F.me f hr b .nil hx ht
theorem pmake (F : Mkr X.prog X.w X.K X.mg X.base CX k C ps sp) (hr : Room (k + 1) X.A) (hg : Gl X C) (hx : Passes CX X E) (ha : PA X (e :: es) t) (hdb : (C == ("__debug__" : Str)) = false := by decide)
    (he : starEach (e :: es) X.env = (false, eval e X.env) :: starEach es X.env := by rfl) (hpl : (backTo pos (starEach es X.env)).any (·.1) = false := by rfl) : PE X (.Call (.Name C p) (e :: es) [] pos) (tMake (ga X.K C) sp [] E t) := by
  obtain ⟨fd, f, b⟩ := F.ex
  exact pe_make F.mke f hr hg F.gl b .nil hx ha hdb he hpl
theorem pmake0 (F : Mkr X.prog X.w X.K X.mg X.base CX k C ps sp) (hr : Room (k + 1) X.A) (hg : Gl X C) (hx : Passes CX X E) (hdb : (C == ("__debug__" : Str)) = false := by decide) : PE X (.Call (.Name C p) [] [] pos) (tMake (ga X.K C) sp [] E tNil) := by
  obtain ⟨fd, f, b⟩ := F.ex
  exact pe_make0 F.mke f hr hg F.gl b .nil hx hdb
end
/-! ### a def by its body -/
section
variable {P : Program} {w : World} {K : PySem.W.Frag} {mg : Str → Option Value} {base : Heap} {x q : Str} {st : Stmt} {f : Addr} {fd : FuncData} {N ps : List Str} {k : Nat} {sp : Sp}
/-- nothing is raised out of it -/
theorem fn0 (F : FnP K x q st f fd) (S : FnScope N ps (defScope st)) (len : ∀ vs H Q E, sp vs H Q E → vs.length = ps.length)
    (hbody : ∀ (cdv : Value) (A : Around) (outer : List Env) (s : Shared) (H : Hp) (vs : List V) (Q : VK) (E : XK), Room k (A.deeper (envOfC q (defScope st) s.heap.objs.size f cdv)) → sp vs H Q E →
      ∃ t, PSs (cxOf CX0 P w K mg base N q (defScope st) f cdv A outer s H E).nox (defBody st) t ∧ t { nx := fun _ H' => Q .non H', rt := Q } (start N vs) H) : FnOk P w K mg base CX0 (k + 1) f fd ps sp :=
  F.ok S len fun cdv A outer s H vs Q E hr h => by
    obtain ⟨t, a, b⟩ := hbody cdv A outer s H vs Q E hr h
    exact ⟨t, a.nox, b⟩
theorem fnX (F : FnP K x q st f fd) (S : FnScope N ps (defScope st)) (len : ∀ vs H Q E, sp vs H Q E → vs.length = ps.length)
    (hbody : ∀ (cdv : Value) (A : Around) (outer : List Env) (s : Shared) (H : Hp) (vs : List V) (Q : VK) (E : XK), Room k (A.deeper (envOfC q (defScope st) s.heap.objs.size f cdv)) → sp vs H Q E →
      ∃ t, PSs (cxOf (L2.CX P w) P w K mg base N q (defScope st) f cdv A outer s H E) (defBody st) t ∧ t { nx := fun _ H' => Q .non H', rt := Q } (start N vs) H) : FnOk P w K mg base (L2.CX P w) (k + 1) f fd ps sp :=
  F.ok S len hbody
end
/-! ### heaps -/
theorem same_new {H : Hp} {p : Addr} (h : H p = none) (o : HO) : Same H (upd H p o) := fun b u q => by
  rw [upd_ne (ne_of_none q h)]
  exact q
/-- all but what stands at a -/
theorem same_upd {H0 H : Hp} {a : Addr} {o : HO} (s : Same H0 H) (h : H0 a = none) : Same H0 (upd H a o) := fun b u q => by
  rw [upd_ne (ne_of_none q h)]
  exact s b u q
theorem Same.sqt {K : PySem.W.Frag} {H H' : Hp} {a : Addr} {xs : List V} (e : Same H H') (h : SqT K H a xs) : SqT K H' a xs := by
  rcases h with (h | ⟨o, h⟩) | h
  · exact .inl (.inl (e _ _ h))
  · exact .inl (.inr ⟨o, e _ _ h⟩)
  · exact .inr h
theorem sz {n : Nat} (h : n ≤ 1000000) : n ≤ sizeLine := Nat.le_trans h (by decide)
theorem szl {n : Nat} (h : n < 1000000) : n < sizeLine := Nat.lt_of_lt_of_le h (by decide)
/-- the field of an object -/
theorem rfld {K : PySem.W.Frag} {i : Nat} {σ : L2.St} {H : Hp} {Q : VK} {p C dx : Addr} {fs : List (Str × V)} {f : Str} {v : V} (hs : σ[i]? = some (some (.ref p))) (h : H p = some (.ins C dx fs)) (c : Cls K C) (n : NoAttr K C f) (l : fs.lookup f = some v) (q : Q v H) :
    tFld K (tVar i) f σ H Q := ⟨_, hs, p, C, dx, fs, v, rfl, h, c, n, l, q⟩
def oI (o : Option Nat) : V := match o with
  | none => .non
  | some n => .int (n : Int)
end Fc

set_option Elab.async false
set_option linter.all false
set_option maxRecDepth 100000
set_option maxHeartbeats 4000000
namespace Fc
open PySem PySem.Spec PyProof.Rows L2 He
/-! the objects' fields (printed by gen_obj.py) -/
def spF (v0 v1 v2 v3 v4 v5 v6 : V) : List (Str × V) := [("joined", v0), ("rows", v1), ("here", v2), ("alive", v3), ("forks", v4), ("dead", v5), ("whole", v6)]
section
variable {v0 v1 v2 v3 v4 v5 v6 x : V}
theorem sp_joined : (spF v0 v1 v2 v3 v4 v5 v6).lookup ("joined" : Str) = some v0 := by kernel_rfl
theorem sp_put_joined : putF ("joined" : Str) x (spF v0 v1 v2 v3 v4 v5 v6) = spF x v1 v2 v3 v4 v5 v6 := by kernel_rfl
theorem sp_rows : (spF v0 v1 v2 v3 v4 v5 v6).lookup ("rows" : Str) = some v1 := by kernel_rfl
theorem sp_put_rows : putF ("rows" : Str) x (spF v0 v1 v2 v3 v4 v5 v6) = spF v0 x v2 v3 v4 v5 v6 := by kernel_rfl
theorem sp_here : (spF v0 v1 v2 v3 v4 v5 v6).lookup ("here" : Str) = some v2 := by kernel_rfl
theorem sp_put_here : putF ("here" : Str) x (spF v0 v1 v2 v3 v4 v5 v6) = spF v0 v1 x v3 v4 v5 v6 := by kernel_rfl
theorem sp_alive : (spF v0 v1 v2 v3 v4 v5 v6).lookup ("alive" : Str) = some v3 := by kernel_rfl
theorem sp_put_alive : putF ("alive" : Str) x (spF v0 v1 v2 v3 v4 v5 v6) = spF v0 v1 v2 x v4 v5 v6 := by kernel_rfl
theorem sp_forks : (spF v0 v1 v2 v3 v4 v5 v6).lookup ("forks" : Str) = some v4 := by kernel_rfl
theorem sp_put_forks : putF ("forks" : Str) x (spF v0 v1 v2 v3 v4 v5 v6) = spF v0 v1 v2 v3 x v5 v6 := by kernel_rfl
theorem sp_dead : (spF v0 v1 v2 v3 v4 v5 v6).lookup ("dead" : Str) = some v5 := by kernel_rfl
theorem sp_put_dead : putF ("dead" : Str) x (spF v0 v1 v2 v3 v4 v5 v6) = spF v0 v1 v2 v3 v4 x v6 := by kernel_rfl
theorem sp_whole : (spF v0 v1 v2 v3 v4 v5 v6).lookup ("whole" : Str) = some v6 := by kernel_rfl
theorem sp_put_whole : putF ("whole" : Str) x (spF v0 v1 v2 v3 v4 v5 v6) = spF v0 v1 v2 v3 v4 v5 x := by kernel_rfl
theorem sp_no_fresh : (spF v0 v1 v2 v3 v4 v5 v6).lookup ("fresh" : Str) = none := by kernel_rfl
theorem sp_no_root : (spF v0 v1 v2 v3 v4 v5 v6).lookup ("root" : Str) = none := by kernel_rfl
theorem sp_no_put_together : (spF v0 v1 v2 v3 v4 v5 v6).lookup ("put_together" : Str) = none := by kernel_rfl
theorem sp_no_stands : (spF v0 v1 v2 v3 v4 v5 v6).lookup ("stands" : Str) = none := by kernel_rfl
theorem sp_no_gone : (spF v0 v1 v2 v3 v4 v5 v6).lookup ("gone" : Str) = none := by kernel_rfl
theorem sp_no_asked : (spF v0 v1 v2 v3 v4 v5 v6).lookup ("asked" : Str) = none := by kernel_rfl
theorem sp_no_turned : (spF v0 v1 v2 v3 v4 v5 v6).lookup ("turned" : Str) = none := by kernel_rfl
theorem sp_no_left : (spF v0 v1 v2 v3 v4 v5 v6).lookup ("left" : Str) = none := by kernel_rfl
theorem sp_no_innermost : (spF v0 v1 v2 v3 v4 v5 v6).lookup ("innermost" : Str) = none := by kernel_rfl
theorem sp_no_closed : (spF v0 v1 v2 v3 v4 v5 v6).lookup ("closed" : Str) = none := by kernel_rfl
theorem sp_no_take : (spF v0 v1 v2 v3 v4 v5 v6).lookup ("take" : Str) = none := by kernel_rfl
theorem sp_no_places : (spF v0 v1 v2 v3 v4 v5 v6).lookup ("places" : Str) = none := by kernel_rfl
theorem sp_made : putF ("whole" : Str) v6 (putF ("dead" : Str) v5 (putF ("forks" : Str) v4 (putF ("alive" : Str) v3 (putF ("here" : Str) v2 (putF ("rows" : Str) v1 (putF ("joined" : Str) v0 (([] : List (Str × V))))))))) = spF v0 v1 v2 v3 v4 v5 v6 := by kernel_rfl
end
def fkF (v0 v1 v2 v3 v4 v5 : V) : List (Str × V) := [("word", v0), ("start", v1), ("other", v2), ("alive", v3), ("passed", v4), ("passes", v5)]
section
variable {v0 v1 v2 v3 v4 v5 x : V}
theorem fk_word : (fkF v0 v1 v2 v3 v4 v5).lookup ("word" : Str) = some v0 := by kernel_rfl
theorem fk_put_word : putF ("word" : Str) x (fkF v0 v1 v2 v3 v4 v5) = fkF x v1 v2 v3 v4 v5 := by kernel_rfl
theorem fk_start : (fkF v0 v1 v2 v3 v4 v5).lookup ("start" : Str) = some v1 := by kernel_rfl
theorem fk_put_start : putF ("start" : Str) x (fkF v0 v1 v2 v3 v4 v5) = fkF v0 x v2 v3 v4 v5 := by kernel_rfl
theorem fk_other : (fkF v0 v1 v2 v3 v4 v5).lookup ("other" : Str) = some v2 := by kernel_rfl
theorem fk_put_other : putF ("other" : Str) x (fkF v0 v1 v2 v3 v4 v5) = fkF v0 v1 x v3 v4 v5 := by kernel_rfl
theorem fk_alive : (fkF v0 v1 v2 v3 v4 v5).lookup ("alive" : Str) = some v3 := by kernel_rfl
theorem fk_put_alive : putF ("alive" : Str) x (fkF v0 v1 v2 v3 v4 v5) = fkF v0 v1 v2 x v4 v5 := by kernel_rfl
theorem fk_passed : (fkF v0 v1 v2 v3 v4 v5).lookup ("passed" : Str) = some v4 := by kernel_rfl
theorem fk_put_passed : putF ("passed" : Str) x (fkF v0 v1 v2 v3 v4 v5) = fkF v0 v1 v2 v3 x v5 := by kernel_rfl
theorem fk_passes : (fkF v0 v1 v2 v3 v4 v5).lookup ("passes" : Str) = some v5 := by kernel_rfl
theorem fk_put_passes : putF ("passes" : Str) x (fkF v0 v1 v2 v3 v4 v5) = fkF v0 v1 v2 v3 v4 x := by kernel_rfl
theorem fk_made : putF ("passes" : Str) v5 (putF ("passed" : Str) v4 (putF ("alive" : Str) v3 (putF ("other" : Str) v2 (putF ("start" : Str) v1 (putF ("word" : Str) v0 (([] : List (Str × V)))))))) = fkF v0 v1 v2 v3 v4 v5 := by kernel_rfl
end
def rdF (v0 v1 v2 v3 : V) : List (Str × V) := [("words", v0), ("at", v1), ("opened", v2), ("taken", v3)]
section
variable {v0 v1 v2 v3 x : V}
theorem rd_words : (rdF v0 v1 v2 v3).lookup ("words" : Str) = some v0 := by kernel_rfl
theorem rd_put_words : putF ("words" : Str) x (rdF v0 v1 v2 v3) = rdF x v1 v2 v3 := by kernel_rfl
theorem rd_at : (rdF v0 v1 v2 v3).lookup ("at" : Str) = some v1 := by kernel_rfl
theorem rd_put_at : putF ("at" : Str) x (rdF v0 v1 v2 v3) = rdF v0 x v2 v3 := by kernel_rfl
theorem rd_opened : (rdF v0 v1 v2 v3).lookup ("opened" : Str) = some v2 := by kernel_rfl
theorem rd_put_opened : putF ("opened" : Str) x (rdF v0 v1 v2 v3) = rdF v0 v1 x v3 := by kernel_rfl
theorem rd_taken : (rdF v0 v1 v2 v3).lookup ("taken" : Str) = some v3 := by kernel_rfl
theorem rd_put_taken : putF ("taken" : Str) x (rdF v0 v1 v2 v3) = rdF v0 v1 v2 x := by kernel_rfl
theorem rd_no_named : (rdF v0 v1 v2 v3).lookup ("named" : Str) = none := by kernel_rfl
theorem rd_no_bare : (rdF v0 v1 v2 v3).lookup ("bare" : Str) = none := by kernel_rfl
theorem rd_no_take : (rdF v0 v1 v2 v3).lookup ("take" : Str) = none := by kernel_rfl
theorem rd_made : putF ("taken" : Str) v3 (putF ("opened" : Str) v2 (putF ("at" : Str) v1 (putF ("words" : Str) v0 (([] : List (Str × V)))))) = rdF v0 v1 v2 v3 := by kernel_rfl
end
end Fc

set_option Elab.async false
set_option linter.all false
set_option maxRecDepth 100000
set_option maxHeartbeats 4000000
namespace Fc
open PySem PySem.Spec PyProof.Rows L2 He
/-! the spots' object on the heap -/
/-- from a spot along `joined` to where it ends, in so many steps -/
inductive Rt (J : List Nat) : Nat → Nat → Nat → Prop
  | here {s : Nat} : J[s]? = some s → Rt J s s 0
  | step {s t r n : Nat} : J[s]? = some t → t ≠ s → Rt J t r n → Rt J s r (n + 1)
theorem Rt.root {J : List Nat} {s r n : Nat} (h : Rt J s r n) : J[r]? = some r := by
  induction h with
  | here e => exact e
  | step _ _ _ ih => exact ih
theorem Rt.push {J : List Nat} {s r n : Nat} (x : Nat) (h : Rt J s r n) : Rt (J ++ [x]) s r n := by
  induction h with
  | here e => exact .here (by rw [List.getElem?_append_left (List.getElem?_eq_some_iff.mp e).1]; exact e)
  | step e ne _ ih => exact .step (by rw [List.getElem?_append_left (List.getElem?_eq_some_iff.mp e).1]; exact e) ne ih
theorem Rt.set {J : List Nat} {a b s r n : Nat} (ha : J[a]? = some a) (hb : J[b]? = some b) (h : Rt J s r n) : ∃ m, Rt (J.set a b) s (if r = a then b else r) m := by
  have la : a < J.length := (List.getElem?_eq_some_iff.mp ha).1
  have hB : (J.set a b)[b]? = some b := by
    by_cases q : a = b
    · rw [q, List.getElem?_set_self (by rw [← q]; exact la)]
    · rw [List.getElem?_set_ne q]
      exact hb
  induction h with
  | here e =>
    rename_i s
    by_cases q : s = a
    · rw [if_pos q]
      by_cases q2 : b = s
      · rw [← q2]
        exact ⟨0, .here hB⟩
      · refine ⟨1, .step (t := b) ?_ q2 (.here hB)⟩
        rw [q, List.getElem?_set_self la]
    · rw [if_neg q]
      exact ⟨0, .here (by rw [List.getElem?_set_ne (Ne.symm q)]; exact e)⟩
  | step e ne _ ih =>
    rename_i s t r n _
    obtain ⟨m, hm⟩ := ih
    have q : ¬ a = s := fun z => by
      rw [← z, ha] at e
      exact ne ((Option.some.inj e).symm.trans z)
    exact ⟨m + 1, .step (by rw [List.getElem?_set_ne q]; exact e) ne hm⟩
/-- the list `joined` says who is one with whom -/
structure Uf (jl : List Nat) (n : Nat) (rep : Nat → Nat) : Prop where
  len : jl.length = n
  rt : ∀ s, s < n → ∃ k, Rt jl s (rep s) k
theorem Uf.fresh {jl : List Nat} {n : Nat} {rep : Nat → Nat} (u : Uf jl n rep) (h : rep n = n) : Uf (jl ++ [n]) (n + 1) rep := by
  refine ⟨by rw [List.length_append, u.len] <;> rfl, fun s hs => ?_⟩
  by_cases q : s < n
  · obtain ⟨k, r⟩ := u.rt s q
    exact ⟨k, r.push n⟩
  · have e : s = n := by omega
    rw [e, h]
    exact ⟨0, .here (by rw [← u.len]; simp)⟩
theorem Uf.un {jl : List Nat} {n : Nat} {rep : Nat → Nat} (u : Uf jl n rep) {a b : Nat} (ha : a < n) (hb : b < n) : Uf (jl.set (rep a) (rep b)) n (fun s => if rep s = rep a then rep b else rep s) := by
  obtain ⟨_, ra⟩ := u.rt a ha
  obtain ⟨_, rb⟩ := u.rt b hb
  refine ⟨by rw [List.length_set]; exact u.len, fun s hs => ?_⟩
  obtain ⟨k, r⟩ := u.rt s hs
  exact r.set ra.root rb.root
theorem Paired.imp {α β : Type} {F G : α → β → Prop} (h : ∀ a b, F a b → G a b) : ∀ {l : List α} {m : List β}, Paired F l m → Paired G l m
  | _, _, .nil => .nil
  | _, _, .cons r t => .cons (h _ _ r) (Paired.imp h t)
theorem Paired.app {α β : Type} {F : α → β → Prop} : ∀ {l : List α} {m : List β} {l' : List α} {m' : List β}, Paired F l m → Paired F l' m' → Paired F (l ++ l') (m ++ m')
  | _, _, _, _, .nil, h => h
  | _, _, _, _, .cons r t, h => .cons r (Paired.app t h)
theorem Paired.len {α β : Type} {F : α → β → Prop} : ∀ {l : List α} {m : List β}, Paired F l m → l.length = m.length
  | _, _, .nil => rfl
  | _, _, .cons _ t => congrArg Nat.succ (Paired.len t)
/-- the last -/
theorem Paired.snoc {α β : Type} {F : α → β → Prop} : ∀ {l : List α} {m : List β} {b : β}, Paired F l (m ++ [b]) → ∃ l' a, l = l' ++ [a] ∧ Paired F l' m ∧ F a b
  | _, [], _, h => by
    cases h with
    | cons r t =>
      cases t
      exact ⟨[], _, rfl, .nil, r⟩
  | _, _ :: m, _, h => by
    cases h with
    | cons r t =>
      obtain ⟨l', a, e, p, q⟩ := Paired.snoc (m := m) t
      exact ⟨_ :: l', a, by rw [e] <;> rfl, .cons r p, q⟩
theorem Paired.mem {α β : Type} {F : α → β → Prop} : ∀ {l : List α} {m : List β} {a : α}, Paired F l m → a ∈ l → ∃ b ∈ m, F a b
  | _, _, _, .nil, h => nomatch h
  | _, _, _, .cons r t, h => by
    rcases List.mem_cons.mp h with e | h
    · rw [e]
      exact ⟨_, List.mem_cons_self .., r⟩
    · obtain ⟨b, hb, q⟩ := Paired.mem t h
      exact ⟨b, List.mem_cons_of_mem _ hb, q⟩
theorem Paired.get {α β : Type} {F : α → β → Prop} : ∀ {l : List α} {m : List β} {i : Nat} {a : α}, Paired F l m → l[i]? = some a → ∃ b, m[i]? = some b ∧ F a b
  | _, _, _, _, .nil, h => by simp at h
  | _, _, 0, _, .cons r t, h => by
    cases h
    exact ⟨_, rfl, r⟩
  | _, _, i + 1, _, .cons r t, h => Paired.get (i := i) t h
def RowAt (H : Hp) (a : Addr) (r : Row) : Prop := H a = some (.tup [.str r.w, .str r.n, .int (r.k : Int), .int (r.s : Int), .int (r.g : Int)])
def fkV (f : Fk) : List (Str × V) := fkF (.str f.w) (.int (f.s : Int)) (.int (f.o : Int)) (.bl f.alive) (oI f.passed) (.bl f.passes)
def FkAt (K : PySem.W.Frag) (H0 H : Hp) (a : Addr) (f : Fk) : Prop := H0 a = none ∧ ∃ dx, H a = some (.ins (ga K "Fork") dx (fkV f))
def spV (J R F D : Addr) (S : Sx) : List (Str × V) := spF (.ref J) (.ref R) (oI S.here) (.bl S.alive) (.ref F) (.ref D) (.bl S.whole)
def nI (l : List Nat) : List V := l.map fun n : Nat => V.int ((n : Nat) : Int)
theorem nI_len (l : List Nat) : (nI l).length = l.length := List.length_map _
theorem nI_app (l m : List Nat) : nI (l ++ m) = nI l ++ nI m := List.map_append
/-- at p: the spots S, over the frame H0 -/
structure SpW (K : PySem.W.Frag) (H0 H : Hp) (p : Addr) (S : Sx) (dx J R F D : Addr) (rs fs : List Addr) (jl : List Nat) : Prop where
  same : Same H0 H
  op : H p = some (.ins (ga K "Spots") dx (spV J R F D S))
  hJ : H J = some (.lst (nI jl))
  uf : Uf jl S.n S.rep
  hR : H R = some (.lst (rs.map V.ref))
  rw_ : Paired (RowAt H) rs S.rows
  hF : H F = some (.lst (fs.map V.ref))
  fk : Paired (FkAt K H0 H) fs S.forks
  hD : H D = some (.lst (nI S.dead))
  p0 : H0 p = none
  J0 : H0 J = none
  R0 : H0 R = none
  F0 : H0 F = none
  D0 : H0 D = none
  JR : J ≠ R
  JF : J ≠ F
  JD : J ≠ D
  RF : R ≠ F
  RD : R ≠ D
  FD : F ≠ D
  nd : fs.Nodup
def SpAt (K : PySem.W.Frag) (H0 H : Hp) (p : Addr) (S : Sx) : Prop := ∃ dx J R F D rs fs jl, SpW K H0 H p S dx J R F D rs fs jl
theorem sp_ne_fk {C C' dx dx' J R F D : Addr} {S : Sx} {f : Fk} : (HO.ins C dx (spV J R F D S)) ≠ .ins C' dx' (fkV f) := fun z => by
  injection z with _ _ e
  have l := congrArg List.length e
  cases l
section
variable {K : PySem.W.Frag} {H0 H : Hp} {p dx J R F D : Addr} {S : Sx} {rs fs : List Addr} {jl : List Nat}
/-- more heap around -/
theorem SpAt.more {H' : Hp} (h : SpAt K H0 H p S) (s : Same H H') : SpAt K H0 H' p S := by
  obtain ⟨dx, J, R, F, D, rs, fs, jl, W⟩ := h
  exact ⟨dx, J, R, F, D, rs, fs, jl, W.same.trans s, s _ _ W.op, s _ _ W.hJ, W.uf, s _ _ W.hR, Paired.imp (fun a b h => s _ _ h) W.rw_, s _ _ W.hF, Paired.imp (fun a b h => ⟨h.1, h.2.imp fun _ e => s _ _ e⟩) W.fk, s _ _ W.hD, W.p0, W.J0, W.R0, W.F0, W.D0, W.JR, W.JF, W.JD, W.RF, W.RD, W.FD, W.nd⟩
/-- what is kept where x, a list or the object itself, changes -/
theorem SpW.rows_keep {x : Addr} {o u : HO} (W : SpW K H0 H p S dx J R F D rs fs jl) (hx : H x = some u) (hu : ∀ xs, u ≠ .tup xs) : Paired (RowAt (upd H x o)) rs S.rows :=
  Paired.imp (fun a b h => by
    have n : a ≠ x := ne_of h hx (fun z => hu _ z.symm)
    show upd H x o a = _
    rw [upd_ne n]
    exact h) W.rw_
theorem SpW.forks_keep {x : Addr} {o u : HO} (W : SpW K H0 H p S dx J R F D rs fs jl) (hx : H x = some u) (hu : ∀ C d f, u ≠ .ins C d (fkV f)) : Paired (FkAt K H0 (upd H x o)) fs S.forks :=
  Paired.imp (fun a b h => by
    obtain ⟨h0, d, e⟩ := h
    have n : a ≠ x := ne_of e hx (fun z => hu _ _ _ z.symm)
    exact ⟨h0, d, by rw [upd_ne n]; exact e⟩) W.fk
theorem lst_tup {xs ys : List V} : (HO.lst xs) ≠ .tup ys := fun z => by cases z
theorem lst_ins {xs : List V} {C d : Addr} {f : List (Str × V)} : (HO.lst xs) ≠ .ins C d f := fun z => by cases z
theorem ins_tup {ys : List V} {C d : Addr} {f : List (Str × V)} : (HO.ins C d f) ≠ .tup ys := fun z => by cases z
theorem tup_lst {xs ys : List V} : (HO.tup xs) ≠ .lst ys := fun z => by cases z
theorem tup_ins {ys : List V} {C d : Addr} {f : List (Str × V)} : (HO.tup ys) ≠ .ins C d f := fun z => by cases z
theorem ins_lst {xs : List V} {C d : Addr} {f : List (Str × V)} : (HO.ins C d f) ≠ .lst xs := fun z => by cases z
theorem SpW.pJ (W : SpW K H0 H p S dx J R F D rs fs jl) : p ≠ J := ne_of W.op W.hJ ins_lst
theorem SpW.pR (W : SpW K H0 H p S dx J R F D rs fs jl) : p ≠ R := ne_of W.op W.hR ins_lst
theorem SpW.pF (W : SpW K H0 H p S dx J R F D rs fs jl) : p ≠ F := ne_of W.op W.hF ins_lst
theorem SpW.pD (W : SpW K H0 H p S dx J R F D rs fs jl) : p ≠ D := ne_of W.op W.hD ins_lst
/-- the object itself changes: here, alive, whole -/
theorem SpW.obj (W : SpW K H0 H p S dx J R F D rs fs jl) {T : Sx} {d' : Addr} (en : T.n = S.n) (er : T.rep = S.rep) (ew : T.rows = S.rows) (ef : T.forks = S.forks) (ed : T.dead = S.dead) : SpW K H0 (upd H p (.ins (ga K "Spots") d' (spV J R F D T))) p T d' J R F D rs fs jl where
  same := same_upd W.same W.p0
  op := upd_same
  hJ := by rw [upd_ne W.pJ.symm]; exact W.hJ
  uf := by rw [en, er]; exact W.uf
  hR := by rw [upd_ne W.pR.symm]; exact W.hR
  rw_ := by rw [ew]; exact W.rows_keep W.op fun _ => ins_tup
  hF := by rw [upd_ne W.pF.symm]; exact W.hF
  fk := by rw [ef]; exact W.forks_keep W.op fun _ _ _ => sp_ne_fk
  hD := by rw [upd_ne W.pD.symm, ed]; exact W.hD
  p0 := W.p0
  J0 := W.J0
  R0 := W.R0
  F0 := W.F0
  D0 := W.D0
  JR := W.JR
  JF := W.JF
  JD := W.JD
  RF := W.RF
  RD := W.RD
  FD := W.FD
  nd := W.nd
/-- `joined` changes -/
theorem SpW.jn (W : SpW K H0 H p S dx J R F D rs fs jl) {T : Sx} {jl' : List Nat} (u : Uf jl' T.n T.rep) (eh : T.here = S.here) (ea : T.alive = S.alive) (eo : T.whole = S.whole) (ew : T.rows = S.rows) (ef : T.forks = S.forks) (ed : T.dead = S.dead) :
    SpW K H0 (upd H J (.lst (nI jl'))) p T dx J R F D rs fs jl' where
  same := same_upd W.same W.J0
  op := by
    rw [upd_ne W.pJ, W.op]
    unfold spV
    rw [eh, ea, eo]
  hJ := upd_same
  uf := u
  hR := by rw [upd_ne W.JR.symm]; exact W.hR
  rw_ := by rw [ew]; exact W.rows_keep W.hJ fun _ => lst_tup
  hF := by rw [upd_ne W.JF.symm]; exact W.hF
  fk := by rw [ef]; exact W.forks_keep W.hJ fun _ _ _ => lst_ins
  hD := by rw [upd_ne W.JD.symm, ed]; exact W.hD
  p0 := W.p0
  J0 := W.J0
  R0 := W.R0
  F0 := W.F0
  D0 := W.D0
  JR := W.JR
  JF := W.JF
  JD := W.JD
  RF := W.RF
  RD := W.RD
  FD := W.FD
  nd := W.nd
/-- a row more: its tuple t is new -/
theorem SpW.row (W : SpW K H0 H p S dx J R F D rs fs jl) {t : Addr} {r : Row} (ht : RowAt H t r) : SpW K H0 (upd H R (.lst ((rs ++ [t]).map V.ref))) p { S with rows := S.rows ++ [r] } dx J R F D (rs ++ [t]) fs jl where
  same := same_upd W.same W.R0
  op := by
    rw [upd_ne W.pR, W.op]
    rfl
  hJ := by rw [upd_ne W.JR]; exact W.hJ
  uf := W.uf
  hR := upd_same
  rw_ := Paired.app (W.rows_keep W.hR fun _ => lst_tup) (.cons (by
    have n : t ≠ R := ne_of ht W.hR tup_lst
    show upd H R _ t = _
    rw [upd_ne n]
    exact ht) .nil)
  hF := by rw [upd_ne W.RF.symm]; exact W.hF
  fk := W.forks_keep W.hR fun _ _ _ => lst_ins
  hD := by rw [upd_ne W.RD.symm]; exact W.hD
  p0 := W.p0
  J0 := W.J0
  R0 := W.R0
  F0 := W.F0
  D0 := W.D0
  JR := W.JR
  JF := W.JF
  JD := W.JD
  RF := W.RF
  RD := W.RD
  FD := W.FD
  nd := W.nd
/-- the list of forks changes -/
theorem SpW.fks (W : SpW K H0 H p S dx J R F D rs fs jl) {fs' : List Addr} {G : List Fk} (hg : Paired (FkAt K H0 H) fs' G) (nd : fs'.Nodup) : SpW K H0 (upd H F (.lst (fs'.map V.ref))) p { S with forks := G } dx J R F D rs fs' jl where
  same := same_upd W.same W.F0
  op := by
    rw [upd_ne W.pF, W.op]
    rfl
  hJ := by rw [upd_ne W.JF]; exact W.hJ
  uf := W.uf
  hR := by rw [upd_ne W.RF]; exact W.hR
  rw_ := W.rows_keep W.hF fun _ => lst_tup
  hF := upd_same
  fk := Paired.imp (fun a b h => by
    obtain ⟨h0, d, e⟩ := h
    have n : a ≠ F := ne_of e W.hF ins_lst
    exact ⟨h0, d, by rw [upd_ne n]; exact e⟩) hg
  hD := by rw [upd_ne W.FD.symm]; exact W.hD
  p0 := W.p0
  J0 := W.J0
  R0 := W.R0
  F0 := W.F0
  D0 := W.D0
  JR := W.JR
  JF := W.JF
  JD := W.JD
  RF := W.RF
  RD := W.RD
  FD := W.FD
  nd := nd
/-- the innermost fork's object changes -/
theorem SpW.fko (W : SpW K H0 H p S dx J R F D rs fs jl) {fs0 : List Addr} {a d' : Addr} {G : List Fk} {f f' : Fk} (ef : fs = fs0 ++ [a]) (eg : S.forks = G ++ [f]) : SpW K H0 (upd H a (.ins (ga K "Fork") d' (fkV f'))) p { S with forks := G ++ [f'] } dx J R F D rs fs jl := by
  have q := W.fk
  rw [ef, eg] at q
  obtain ⟨l', a', e1, p1, q1⟩ := Paired.snoc q
  obtain ⟨e2, e3⟩ := List.append_inj' e1 rfl
  have e4 : a = a' := by injection e3
  subst e2 e4
  obtain ⟨q0, dq, q2⟩ := q1
  have nodup : (fs0 ++ [a]).Nodup := by rw [← ef]; exact W.nd
  have na : a ∉ fs0 := fun h => by
    have z := List.nodup_append.mp nodup
    exact z.2.2 a h a (List.mem_singleton.mpr rfl) rfl
  refine ⟨same_upd W.same q0, ?_, ?_, W.uf, ?_, W.rows_keep q2 fun _ => ins_tup, ?_, ?_, ?_, W.p0, W.J0, W.R0, W.F0, W.D0, W.JR, W.JF, W.JD, W.RF, W.RD, W.FD, W.nd⟩
  · rw [upd_ne (ne_of W.op q2 sp_ne_fk), W.op]
    rfl
  · rw [upd_ne (ne_of W.hJ q2 lst_ins)]; exact W.hJ
  · rw [upd_ne (ne_of W.hR q2 lst_ins)]; exact W.hR
  · rw [upd_ne (ne_of W.hF q2 lst_ins)]; exact W.hF
  · rw [ef]
    refine Paired.app ?_ (.cons ⟨q0, d', upd_same⟩ .nil)
    have keep : ∀ {l : List Addr} {m : List Fk}, Paired (FkAt K H0 H) l m → a ∉ l → Paired (FkAt K H0 (upd H a (.ins (ga K "Fork") d' (fkV f')))) l m := by
      intro l
      induction l with
      | nil =>
        intro m h _
        cases h
        exact .nil
      | cons b l ih =>
        intro m h n
        cases h with
        | cons r t =>
          obtain ⟨r0, d, r1⟩ := r
          exact .cons ⟨r0, d, by rw [upd_ne fun z => n (by rw [z]; exact List.mem_cons_self ..)]; exact r1⟩ (ih t fun z => n (List.mem_cons_of_mem _ z))
    exact keep p1 na
  · rw [upd_ne (ne_of W.hD q2 lst_ins)]; exact W.hD
/-- a dead word more -/
theorem SpW.dd (W : SpW K H0 H p S dx J R F D rs fs jl) {l : List Nat} : SpW K H0 (upd H D (.lst (nI l))) p { S with dead := l } dx J R F D rs fs jl where
  same := same_upd W.same W.D0
  op := by
    rw [upd_ne W.pD, W.op]
    rfl
  hJ := by rw [upd_ne W.JD]; exact W.hJ
  uf := W.uf
  hR := by rw [upd_ne W.RD]; exact W.hR
  rw_ := W.rows_keep W.hD fun _ => lst_tup
  hF := by rw [upd_ne W.FD]; exact W.hF
  fk := W.forks_keep W.hD fun _ _ _ => lst_ins
  hD := upd_same
  p0 := W.p0
  J0 := W.J0
  R0 := W.R0
  F0 := W.F0
  D0 := W.D0
  JR := W.JR
  JF := W.JF
  JD := W.JD
  RF := W.RF
  RD := W.RD
  FD := W.FD
  nd := W.nd
/-- new things around -/
theorem SpW.grow {H' : Hp} (W : SpW K H0 H p S dx J R F D rs fs jl) (s : Same H H') : SpW K H0 H' p S dx J R F D rs fs jl :=
  ⟨W.same.trans s, s _ _ W.op, s _ _ W.hJ, W.uf, s _ _ W.hR, Paired.imp (fun a b h => s _ _ h) W.rw_, s _ _ W.hF, Paired.imp (fun a b h => ⟨h.1, h.2.imp fun _ e => s _ _ e⟩) W.fk, s _ _ W.hD, W.p0, W.J0, W.R0, W.F0, W.D0, W.JR, W.JF, W.JD, W.RF, W.RD, W.FD, W.nd⟩
end
end Fc

set_option Elab.async false
set_option linter.all false
set_option maxRecDepth 100000
set_option maxHeartbeats 4000000
namespace Fc
open PySem PySem.Spec PyProof.Rows L2 He
/-! the walks of Fork and Spots -/
theorem ifT {c : Bool} {A B : Prop} (h : c = true) (a : A) : if c = true then A else B := by
  rw [if_pos h]
  exact a
theorem ifF {c : Bool} {A B : Prop} (h : c = false) (b : B) : if c = true then A else B := by
  rw [if_neg (by rw [h]; exact Bool.false_ne_true)]
  exact b
def spFork (K : PySem.W.Frag) : L2.Sp := fun vs H Q _ => ∃ (x dx : Addr) (w : Str) (s o : Nat) (a : Bool), vs = [.ref x, .str w, .int (s : Int), .int (o : Int), .bl a] ∧ H x = some (.ins (ga K "Fork") dx []) ∧
  ∀ H', (∀ b, b ≠ x → H' b = H b) → H' x = some (.ins (ga K "Fork") dx (fkV ⟨w, s, o, a, none, false⟩)) → Q .non H'
def spSpots (K : PySem.W.Frag) : L2.Sp := fun vs H Q _ => ∃ (H0 : Hp) (x dx : Addr), vs = [.ref x] ∧ Same H0 H ∧ H0 x = none ∧ H x = some (.ins (ga K "Spots") dx []) ∧ ∀ H', SpAt K H0 H' x Sx.new → Q .non H'
def spFresh (K : PySem.W.Frag) : L2.Sp := fun vs H Q _ => ∃ (H0 : Hp) (p : Addr) (S : Sx), vs = [.ref p] ∧ SpAt K H0 H p S ∧ S.rep S.n = S.n ∧ S.n < 16000000 ∧ ∀ H', SpAt K H0 H' p { S with n := S.n + 1 } → Q (.int (S.n : Int)) H'
def spRoot (K : PySem.W.Frag) : L2.Sp := fun vs H Q _ => ∃ (H0 : Hp) (p : Addr) (S : Sx) (s : Nat), vs = [.ref p, .int (s : Int)] ∧ SpAt K H0 H p S ∧ s < S.n ∧ Q (.int (S.rep s : Int)) H
def spPut (K : PySem.W.Frag) : L2.Sp := fun vs H Q _ => ∃ (H0 : Hp) (p : Addr) (S : Sx) (a b : Nat), vs = [.ref p, .int (a : Int), .int (b : Int)] ∧ SpAt K H0 H p S ∧ S.Ok ∧ a < S.n ∧ b < S.n ∧ ∀ H', SpAt K H0 H' p (S.un a b) → Q .non H'
def spStands (K : PySem.W.Frag) : L2.Sp := fun vs H Q _ => ∃ (H0 : Hp) (p : Addr) (S : Sx), vs = [.ref p] ∧ SpAt K H0 H p S ∧ S.Ok ∧ S.n < 16000000 ∧ ∀ H', SpAt K H0 H' p S.std → Q (.int (S.spot : Int)) H'
section
variable {P : Program} {w : World} {K : PySem.W.Frag} {mg : Str → Option Value} {base : Heap}
theorem sc_Fork_init : FnScope ["self", "word", "start", "other", "alive"] ["self", "word", "start", "other", "alive"] (defScope (inClass (top 20) 0)) := ⟨rfl, rfl, rfl, by decide +kernel, rfl, by decide +kernel, by decide +kernel⟩
theorem mk_Fork (T : Txt K mg) : Mkr P w K mg base CX0 1 "Fork" ["self", "word", "start", "other", "alive"] (spFork K) := by
  obtain ⟨fd, F⟩ := T.d_Fork___init__
  refine ⟨⟨fd, fn0 F sc_Fork_init (fun vs H Q E h => ?_) (fun cdv A outer s H vs Q E hr h => ?_), FunD.bindsN F fun _ _ _ _ _ _ us hl => match us, hl with | [_, _, _, _, _], _ => rfl⟩, T.mk_Fork, T.g_Fork⟩
  · obtain ⟨x, dx, w, s, o, a, rfl, _⟩ := h
    rfl
  obtain ⟨x, dx, wd, st, ot, al, rfl, hx, k⟩ := h
  refine ⟨_, (pss_cons (ps_fld (pv 0) (pv 1) rfl)
    (pss_cons (ps_fld (pv 0) (pv 2) rfl)
    (pss_cons (ps_fld (pv 0) (pv 3) rfl)
    (pss_cons (ps_fld (pv 0) (pv 4) rfl)
    (pss_cons (ps_fld (pv 0) pe_non rfl)
    (pss_one (ps_fld (pv 0) pe_bl rfl))))))), ?_⟩
  refine ⟨_, rfl, _, rfl, x, _, dx, _, rfl, hx, T.c_Fork, T.n_Fork_word, (by show 0 < 1000; decide), ?_⟩
  refine ⟨_, rfl, _, rfl, x, _, dx, _, rfl, upd_same, T.c_Fork, T.n_Fork_start, (by show 1 < 1000; decide), ?_⟩
  refine ⟨_, rfl, _, rfl, x, _, dx, _, rfl, upd_same, T.c_Fork, T.n_Fork_other, (by show 2 < 1000; decide), ?_⟩
  refine ⟨_, rfl, _, rfl, x, _, dx, _, rfl, upd_same, T.c_Fork, T.n_Fork_alive, (by show 3 < 1000; decide), ?_⟩
  refine ⟨_, rfl, x, _, dx, _, rfl, upd_same, T.c_Fork, T.n_Fork_passed, (by show 4 < 1000; decide), ?_⟩
  refine ⟨_, rfl, x, _, dx, _, rfl, upd_same, T.c_Fork, T.n_Fork_passes, (by show 5 < 1000; decide), ?_⟩
  refine k _ (fun b hb => by rw [upd_ne hb, upd_ne hb, upd_ne hb, upd_ne hb, upd_ne hb, upd_ne hb]) ?_
  rw [upd_same, fk_made]
  rfl
theorem sc_Spots_init : FnScope ["self"] ["self"] (defScope (inClass (top 21) 0)) := ⟨rfl, rfl, rfl, by decide +kernel, rfl, by decide +kernel, by decide +kernel⟩
theorem mk_Spots (T : Txt K mg) : Mkr P w K mg base CX0 1 "Spots" ["self"] (spSpots K) := by
  obtain ⟨fd, F⟩ := T.d_Spots___init__
  refine ⟨⟨fd, fn0 F sc_Spots_init (fun vs H Q E h => ?_) (fun cdv A outer s H vs Q E hr h => ?_), FunD.bindsN F fun _ _ _ _ _ _ us hl => match us, hl with | [_], _ => rfl⟩, T.mk_Spots, T.g_Spots⟩
  · obtain ⟨_, x, dx, rfl, _⟩ := h
    rfl
  obtain ⟨H0, x, dx, rfl, s0, x0, hx, k⟩ := h
  refine ⟨_, (pss_cons (ps_fld (pv 0) (pe_lst (pa_cons pe_int (pa_cons pe_int pa_nil))) rfl)
    (pss_cons (ps_fld (pv 0) (pe_lst pa_nil) rfl)
    (pss_cons (ps_fld (pv 0) pe_int rfl)
    (pss_cons (ps_fld (pv 0) pe_bl rfl)
    (pss_cons (ps_fld (pv 0) (pe_lst pa_nil) rfl)
    (pss_cons (ps_fld (pv 0) (pe_lst pa_nil) rfl)
    (pss_one (ps_fld (pv 0) pe_bl rfl)))))))), ?_⟩
  refine ⟨(by show 2 ≤ sizeLine; decide), fun J hJ => ?_⟩
  have nJ : x ≠ J := ne_of_none hx hJ
  refine ⟨_, rfl, x, _, dx, _, rfl, (by rw [upd_ne nJ]; exact hx), T.c_Spots, T.n_Spots_joined, (by show 0 < 1000; decide), ?_⟩
  refine ⟨Nat.zero_le _, fun R hR => ?_⟩
  have nR : x ≠ R := ne_of_none upd_same hR
  refine ⟨_, rfl, x, _, dx, _, rfl, (by rw [upd_ne nR]; exact upd_same), T.c_Spots, T.n_Spots_rows, (by show 1 < 1000; decide), ?_⟩
  refine ⟨_, rfl, x, _, dx, _, rfl, upd_same, T.c_Spots, T.n_Spots_here, (by show 2 < 1000; decide), ?_⟩
  refine ⟨_, rfl, x, _, dx, _, rfl, upd_same, T.c_Spots, T.n_Spots_alive, (by show 3 < 1000; decide), ?_⟩
  refine ⟨Nat.zero_le _, fun F hF => ?_⟩
  have nF : x ≠ F := ne_of_none upd_same hF
  refine ⟨_, rfl, x, _, dx, _, rfl, (by rw [upd_ne nF]; exact upd_same), T.c_Spots, T.n_Spots_forks, (by show 4 < 1000; decide), ?_⟩
  refine ⟨Nat.zero_le _, fun D hD => ?_⟩
  have nD : x ≠ D := ne_of_none upd_same hD
  refine ⟨_, rfl, x, _, dx, _, rfl, (by rw [upd_ne nD]; exact upd_same), T.c_Spots, T.n_Spots_dead, (by show 5 < 1000; decide), ?_⟩
  refine ⟨_, rfl, x, _, dx, _, rfl, upd_same, T.c_Spots, T.n_Spots_whole, (by show 6 < 1000; decide), ?_⟩
  have h1 : J ≠ R := by
    intro z
    rw [← z, upd_ne nJ.symm, upd_same] at hR
    cases hR
  have h2 : J ≠ F := by
    intro z
    rw [← z, upd_ne nJ.symm, upd_ne nJ.symm, upd_ne nJ.symm, upd_ne h1, upd_ne nJ.symm, upd_same] at hF
    cases hF
  have h3 : R ≠ F := by
    intro z
    rw [← z, upd_ne nR.symm, upd_ne nR.symm, upd_ne nR.symm, upd_same] at hF
    cases hF
  have h4 : J ≠ D := by
    intro z
    rw [← z, upd_ne nJ.symm, upd_ne h2, upd_ne nJ.symm, upd_ne nJ.symm, upd_ne nJ.symm, upd_ne h1, upd_ne nJ.symm, upd_same] at hD
    cases hD
  have h5 : R ≠ D := by
    intro z
    rw [← z, upd_ne nR.symm, upd_ne h3, upd_ne nR.symm, upd_ne nR.symm, upd_ne nR.symm, upd_same] at hD
    cases hD
  have h6 : F ≠ D := by
    intro z
    rw [← z, upd_ne nF.symm, upd_same] at hD
    cases hD
  have J0 : H J = none := hJ
  have R0 : H R = none := by
    rw [upd_ne nR.symm, upd_ne h1.symm] at hR
    exact hR
  have F0 : H F = none := by
    rw [upd_ne nF.symm, upd_ne nF.symm, upd_ne nF.symm, upd_ne h3.symm, upd_ne nF.symm, upd_ne h2.symm] at hF
    exact hF
  have D0 : H D = none := by
    rw [upd_ne nD.symm, upd_ne h6.symm, upd_ne nD.symm, upd_ne nD.symm, upd_ne nD.symm, upd_ne h5.symm, upd_ne nD.symm, upd_ne h4.symm] at hD
    exact hD
  refine k _ ⟨dx, J, R, F, D, [], [], [0, 1], ?_, ?_, ?_, ⟨rfl, fun s hs => ?_⟩, ?_, .nil, ?_, .nil, ?_, x0, s0.free J0, s0.free R0, s0.free F0, s0.free D0, h1, h2, h4, h3, h5, h6, List.nodup_nil⟩
  · have q : Same H0 (upd H J (.lst [.int 0, .int 1])) := s0.trans (same_new J0 _)
    exact same_upd (same_upd (same_upd (same_upd (same_upd (same_upd (same_upd (same_upd (same_upd (same_upd (same_upd s0 (s0.free J0)) x0) (s0.free R0)) x0) x0) x0) (s0.free F0)) x0) (s0.free D0)) x0) x0
  · rw [upd_same, sp_made]
    rfl
  · rw [upd_ne nJ.symm, upd_ne nJ.symm, upd_ne h4, upd_ne nJ.symm, upd_ne h2, upd_ne nJ.symm, upd_ne nJ.symm, upd_ne nJ.symm, upd_ne h1, upd_ne nJ.symm, upd_same]
    rfl
  · have hs' : s < 2 := hs
    have e : s = 0 ∨ s = 1 := by omega
    rcases e with rfl | rfl
    · exact ⟨0, .here rfl⟩
    · exact ⟨0, .here rfl⟩
  · rw [upd_ne nR.symm, upd_ne nR.symm, upd_ne h5, upd_ne nR.symm, upd_ne h3, upd_ne nR.symm, upd_ne nR.symm, upd_ne nR.symm, upd_same]
    rfl
  · rw [upd_ne nF.symm, upd_ne nF.symm, upd_ne h6, upd_ne nF.symm, upd_same]
    rfl
  · rw [upd_ne nD.symm, upd_ne nD.symm, upd_same]
    rfl
theorem sc_Spots_fresh : FnScope ["self"] ["self"] (defScope (inClass (top 21) 1)) := ⟨rfl, rfl, rfl, by decide +kernel, rfl, by decide +kernel, by decide +kernel⟩
theorem m_fresh (T : Txt K mg) : Met P w K mg base CX0 1 "Spots" "fresh" ["self"] (spFresh K) := by
  obtain ⟨fd, F⟩ := T.d_Spots_fresh
  refine ⟨⟨fd, fn0 F sc_Spots_fresh (fun vs H Q E h => ?_) (fun cdv A outer s H vs Q E hr h => ?_), FunD.bindsN F fun _ _ _ _ _ _ us hl => match us, hl with | [_], _ => rfl⟩, T.m_Spots_fresh, T.c_Spots⟩
  · obtain ⟨_, p, S, rfl, _⟩ := h
    rfl
  obtain ⟨H0, p, S, rfl, ⟨dx, J, R, F, D, rs, fs, jl, W⟩, hn, hz, k⟩ := h
  refine ⟨_, (pss_cons (ps_expr (pe_bm PySem.F.plainAttrs_list PySem.F.slot_list_append PySem.F.type_list_append mt_append (pe_fld (pv 0) rfl) (pa_cons (pe_callB call_len_seq (by rfl) T.z_len PySem.boot_len (pa_cons (pe_fld (pv 0) rfl) pa_nil)) pa_nil)))
    (pss_one (ps_ret (pe_op op_sub (pe_callB call_len_seq (by rfl) T.z_len PySem.boot_len (pa_cons (pe_fld (pv 0) rfl) pa_nil)) pe_int)))), ?_⟩
  have lj : (nI jl).length = S.n := by rw [nI_len, W.uf.len]
  refine ⟨_, rfl, _, _, _, _, _, rfl, W.op, T.c_Spots, T.n_Spots_joined, sp_joined, .inl ⟨rfl, _, SqL.of W.hJ⟩, ?_⟩
  refine ⟨_, rfl, _, _, _, _, _, rfl, W.op, T.c_Spots, T.n_Spots_joined, sp_joined, J, _, rfl, .inl (SqL.of W.hJ), ?_⟩
  refine ⟨J, _, _, rfl, rfl, W.hJ, by rw [lj]; exact Nat.lt_trans hz (by decide), ?_⟩
  have W2 := W.jn (T := { S with n := S.n + 1 }) (W.uf.fresh hn) rfl rfl rfl rfl rfl rfl
  have e : nI jl ++ [V.int ((nI jl).length : Int)] = nI (jl ++ [S.n]) := by rw [nI_app, lj] <;> rfl
  rw [e]
  refine ⟨_, rfl, _, _, _, _, _, rfl, W2.op, T.c_Spots, T.n_Spots_joined, sp_joined, J, _, rfl, .inl (SqL.of W2.hJ), ?_⟩
  refine ⟨_, _, rfl, rfl, ?_⟩
  have e2 : ((nI (jl ++ [S.n])).length : Int) - 1 = (S.n : Int) := by rw [nI_app, List.length_append, lj]; show ((S.n + 1 : Nat) : Int) - 1 = _; omega
  show Q (V.int (((nI (jl ++ [S.n])).length : Int) - 1)) _
  rw [e2]
  exact k _ ⟨dx, J, R, F, D, rs, fs, _, W2⟩
theorem sc_Spots_root : FnScope ["self", "spot"] ["self", "spot"] (defScope (inClass (top 21) 2)) := ⟨rfl, rfl, rfl, by decide +kernel, rfl, by decide +kernel, by decide +kernel⟩
theorem m_root (T : Txt K mg) : Met P w K mg base CX0 1 "Spots" "root" ["self", "spot"] (spRoot K) := by
  obtain ⟨fd, F⟩ := T.d_Spots_root
  refine ⟨⟨fd, fn0 F sc_Spots_root (fun vs H Q E h => ?_) (fun cdv A outer s H vs Q E hr h => ?_), FunD.bindsN F fun _ _ _ _ _ _ us hl => match us, hl with | [_, _], _ => rfl⟩, T.m_Spots_root, T.c_Spots⟩
  · obtain ⟨_, p, S, s, rfl, _⟩ := h
    rfl
  obtain ⟨H0, p, S, s, rfl, ⟨dx, J, R, F, D, rs, fs, jl, W⟩, hs, k⟩ := h
  refine ⟨_, (pss_cons (ps_while PassesOwn.never (pt_cmpR op_ne (pe_ix ix_list (pe_fld (pv 0) rfl) (pv 1) (fun _ _ => rfl)) (pv 1) (by rfl))
      (pss_one (ps_set (i := 1) sc_Spots_root.nd rfl (.inl rfl) (pe_ix ix_list (pe_fld (pv 0) rfl) (pv 1) (fun _ _ => rfl)))))
    (pss_one (ps_ret (pv 1)))), ?_⟩
  obtain ⟨n, r⟩ := W.uf.rt s hs
  have at_ : ∀ {x y : Nat}, jl[x]? = some y → atI (nI jl) (x : Int) = some (.int (y : Int)) := fun {x y} e => atI_nat (by unfold nI; rw [List.getElem?_map, e] <;> rfl)
  refine ⟨fun m σ H' => ∃ t : Nat, σ = [some (.ref p), some (.int (t : Int))] ∧ H' = H ∧ Rt jl t (S.rep s) m, ⟨n, s, rfl, rfl, r⟩, ?_⟩
  rintro m σ H' ⟨t, rfl, rfl, r⟩
  have step : ∀ {u : Nat} {Q' : VK}, jl[t]? = some u → Q' (.int (u : Int)) H' → tOp (rIxL K) (tFld K (tVar 0) "joined") (tVar 1) [some (.ref p), some (.int (t : Int))] H' Q' := fun {u Q'} e q =>
    ⟨_, rfl, _, _, _, _, _, rfl, W.op, T.c_Spots, T.n_Spots_joined, sp_joined, _, rfl, J, _, _, _, rfl, rfl, SqL.of W.hJ, at_ e, q⟩
  cases r with
  | here e =>
    refine step e ⟨_, rfl, rfl, false, ?_, ?_⟩
    · simp
    · exact ⟨_, rfl, k⟩
  | step e ne r2 =>
    rename_i u n'
    refine step e ⟨_, rfl, rfl, true, ?_, ?_⟩
    · have q : ¬ (V.int (u : Int) = V.int (t : Int)) := fun z => ne (by injection z with z; exact Int.ofNat.inj z)
      rw [decide_eq_false q] <;> rfl
    · refine ⟨fun σ' H'' => ∃ t' : Nat, σ' = [some (.ref p), some (.int (t' : Int))] ∧ H'' = H' ∧ Rt jl t' (S.rep s) n', fun σ' H'' z => ⟨n', Nat.lt_succ_self _, z⟩, ?_⟩
      exact step e ⟨u, rfl, rfl, r2⟩
end
end Fc

set_option Elab.async false
set_option linter.all false
set_option maxRecDepth 100000
set_option maxHeartbeats 4000000
namespace Fc
open PySem PySem.Spec PyProof.Rows L2 He
/-! the walks of Spots, further -/
section
variable {J R F D : Addr} {S : Sx}
theorem spV_here (h : Option Nat) : putF ("here" : Str) (oI h) (spV J R F D S) = spV J R F D { S with here := h } := sp_put_here
theorem spV_alive (b : Bool) : putF ("alive" : Str) (.bl b) (spV J R F D S) = spV J R F D { S with alive := b } := sp_put_alive
theorem spV_whole (b : Bool) : putF ("whole" : Str) (.bl b) (spV J R F D S) = spV J R F D { S with whole := b } := sp_put_whole
theorem fkV_passed {f : Fk} (h : Option Nat) : putF ("passed" : Str) (oI h) (fkV f) = fkV { f with passed := h } := fk_put_passed
theorem fkV_passes {f : Fk} (b : Bool) : putF ("passes" : Str) (.bl b) (fkV f) = fkV { f with passes := b } := fk_put_passes
end
theorem oI_none {o : Option Nat} : decide (oI o = V.non) = o.isNone := by
  cases o with
  | none => rfl
  | some n => exact decide_eq_false fun z => by cases z
/-- small enough -/
def Sx.Sm (S : Sx) (m : Nat) : Prop := S.n < m ∧ S.rows.length < m ∧ S.forks.length < m ∧ S.dead.length < m
def spGone (K : PySem.W.Frag) : L2.Sp := fun vs H Q _ => ∃ (H0 : Hp) (p : Addr) (S : Sx) (w n : Str) (k : Nat), vs = [.ref p, .str w, .str n, .int (k : Int)] ∧ SpAt K H0 H p S ∧ S.Ok ∧ S.Sm 15000000 ∧ ∀ H', SpAt K H0 H' p (S.gone w n k) → Q .non H'
def spAsked (K : PySem.W.Frag) : L2.Sp := fun vs H Q _ => ∃ (H0 : Hp) (p : Addr) (S : Sx) (w n : Str) (k : Nat), vs = [.ref p, .str w, .str n, .int (k : Int)] ∧ SpAt K H0 H p S ∧ S.Ok ∧ S.Sm 15000000 ∧ ∀ H', SpAt K H0 H' p (S.asked w n k) → Q .non H'
def spTurned (K : PySem.W.Frag) : L2.Sp := fun vs H Q _ => ∃ (H0 : Hp) (p : Addr) (S : Sx) (G : List Fk) (f : Fk), vs = [.ref p] ∧ SpAt K H0 H p S ∧ S.forks = G ++ [f] ∧
  ∀ H', SpAt K H0 H' p { S with forks := G ++ [{ f with passed := S.here, passes := S.alive }], here := some f.o, alive := f.alive } → Q .non H'
def spLeft (K : PySem.W.Frag) : L2.Sp := fun vs H Q _ => ∃ (H0 : Hp) (p : Addr) (S : Sx) (g : Nat), vs = [.ref p, .int (g : Int)] ∧ SpAt K H0 H p S ∧ S.Ok ∧ S.n < 16000000 ∧ g < S.n ∧ ∀ H', SpAt K H0 H' p (S.left g) → Q .non H'
def spInner (K : PySem.W.Frag) : L2.Sp := fun vs H Q _ => ∃ (H0 : Hp) (p : Addr) (S : Sx) (g : Nat), vs = [.ref p] ∧ SpAt K H0 H p S ∧ S.Sm 15000000 ∧ inn S.forks = some g ∧ ∀ H', SpAt K H0 H' p S → Q (.int (g : Int)) H'
section
variable {P : Program} {w : World} {K : PySem.W.Frag} {mg : Str → Option Value} {base : Heap}
theorem sc_Spots_put : FnScope ["self", "one", "other"] ["self", "one", "other"] (defScope (inClass (top 21) 3)) := ⟨rfl, rfl, rfl, by decide +kernel, rfl, by decide +kernel, by decide +kernel⟩
theorem m_put_together (T : Txt K mg) : Met P w K mg base CX0 2 "Spots" "put_together" ["self", "one", "other"] (spPut K) := by
  have M_root : Met P w K mg base CX0 1 "Spots" "root" ["self", "spot"] (spRoot K) := m_root T
  obtain ⟨fd, F⟩ := T.d_Spots_put_together
  refine ⟨⟨fd, fn0 F sc_Spots_put (fun vs H Q E h => ?_) (fun cdv A outer s H vs Q E hr h => ?_), FunD.bindsN F fun _ _ _ _ _ _ us hl => match us, hl with | [_, _, _], _ => rfl⟩, T.m_Spots_put_together, T.c_Spots⟩
  · obtain ⟨_, p, S, a, b, rfl, _⟩ := h
    rfl
  obtain ⟨H0, p, S, a, b, rfl, A, ok, ha, hb, k⟩ := h
  obtain ⟨dx, J, R, F, D, rs, fs, jl, W⟩ := id A
  refine ⟨_, (pss_one (ps_asg (pmeth (pv 0) M_root (hr.mono (by decide)) pass0 (pa_cons (pv 2) pa_nil)) (pg_sub (pe_fld (pv 0) rfl) (pmeth (pv 0) M_root (hr.mono (by decide)) pass0 (pa_cons (pv 1) pa_nil)) set_list))), ?_⟩
  refine ⟨_, rfl, p, dx, _, rfl, W.op, sp_no_root, _, rfl, H0, p, S, b, rfl, A, hb, ?_⟩
  refine ⟨_, rfl, _, _, _, _, _, rfl, W.op, T.c_Spots, T.n_Spots_joined, sp_joined, ?_⟩
  refine ⟨_, rfl, p, dx, _, rfl, W.op, sp_no_root, _, rfl, H0, p, S, a, rfl, A, ha, ?_⟩
  have lj : (nI jl).length = S.n := by rw [nI_len, W.uf.len]
  refine ⟨J, _, _, S.rep a, rfl, rfl, W.hJ, ?_, ?_⟩
  · unfold ixN
    have := ok.lt a ha
    rw [if_pos (by omega), if_pos (by omega)]
    rfl
  · have W2 := W.jn (T := S.un a b) (W.uf.un ha hb) rfl rfl rfl rfl rfl rfl
    have e : (nI jl).set (S.rep a) (.int (S.rep b : Int)) = nI (jl.set (S.rep a) (S.rep b)) := by
      unfold nI
      rw [List.map_set]
    show Q V.non (upd H J (.lst ((nI jl).set (S.rep a) (.int (S.rep b : Int)))))
    rw [e]
    exact k _ ⟨dx, J, R, F, D, rs, fs, _, W2⟩
theorem sc_Spots_stands : FnScope ["self"] ["self"] (defScope (inClass (top 21) 4)) := ⟨rfl, rfl, rfl, by decide +kernel, rfl, by decide +kernel, by decide +kernel⟩
theorem m_stands (T : Txt K mg) : Met P w K mg base CX0 2 "Spots" "stands" ["self"] (spStands K) := by
  have M_fresh : Met P w K mg base CX0 1 "Spots" "fresh" ["self"] (spFresh K) := m_fresh T
  obtain ⟨fd, F⟩ := T.d_Spots_stands
  refine ⟨⟨fd, fn0 F sc_Spots_stands (fun vs H Q E h => ?_) (fun cdv A outer s H vs Q E hr h => ?_), FunD.bindsN F fun _ _ _ _ _ _ us hl => match us, hl with | [_], _ => rfl⟩, T.m_Spots_stands, T.c_Spots⟩
  · obtain ⟨_, p, S, rfl, _⟩ := h
    rfl
  obtain ⟨H0, p, S, rfl, A, ok, hz, k⟩ := h
  obtain ⟨dx, J, R, F, D, rs, fs, jl, W⟩ := id A
  refine ⟨_, (pss_cons (ps_if (pt_cmpR op_isN (pe_fld (pv 0) rfl) pe_non (by rfl))
      (pss_one (ps_fld (pv 0) (pmeth0 (pv 0) M_fresh (hr.mono (by decide)) pass0) rfl))
      pss_nil)
    (pss_one (ps_ret (pe_fld (pv 0) rfl)))), ?_⟩
  refine ⟨_, rfl, _, _, _, _, _, rfl, W.op, T.c_Spots, T.n_Spots_here, sp_here, rfl, _, rfl, ?_⟩
  rw [oI_none]
  cases e : S.here with
  | none =>
    refine ifT rfl ?_
    refine ⟨_, rfl, p, dx, _, rfl, W.op, sp_no_fresh, H0, p, S, rfl, A, ok.hi _ (Nat.le_refl _), hz, fun H1 A1 => ?_⟩
    obtain ⟨dx, J, R, F, D, rs, fs, jl, W1⟩ := A1
    refine ⟨_, rfl, _, _, _, _, rfl, W1.op, T.c_Spots, T.n_Spots_here, (by show 7 < 1000; decide), ?_⟩
    have W2 := W1.obj (T := S.std) (d' := dx) (by rw [(std_none e).1]) (by rw [(std_none e).1]) (by rw [(std_none e).1]) (by rw [(std_none e).1]) (by rw [(std_none e).1])
    have q : putF ("here" : Str) (V.int (S.n : Int)) (spV J R F D { S with n := S.n + 1 }) = spV J R F D S.std := by
      rw [(std_none e).1]
      exact spV_here (some S.n)
    rw [q]
    refine ⟨_, rfl, _, _, _, _, _, rfl, W2.op, T.c_Spots, T.n_Spots_here, sp_here, ?_⟩
    have e3 : oI S.std.here = .int (S.spot : Int) := by rw [std_here] <;> rfl
    show Q (oI S.std.here) _
    rw [e3]
    exact k _ ⟨dx, J, R, F, D, rs, fs, _, W2⟩
  | some x =>
    refine ifF rfl ?_
    refine ⟨_, rfl, _, _, _, _, _, rfl, W.op, T.c_Spots, T.n_Spots_here, sp_here, ?_⟩
    have e3 : oI S.here = .int (S.spot : Int) := by rw [(std_some e).2, e] <;> rfl
    show Q (oI S.here) _
    rw [e3]
    refine k _ ?_
    rw [(std_some e).1]
    exact A
theorem sc_Spots_gone : FnScope ["self", "word", "name", "at", "start"] ["self", "word", "name", "at"] (defScope (inClass (top 21) 5)) := ⟨rfl, rfl, rfl, by decide +kernel, rfl, by decide +kernel, by decide +kernel⟩
theorem m_gone (T : Txt K mg) : Met P w K mg base CX0 3 "Spots" "gone" ["self", "word", "name", "at"] (spGone K) := by
  have M_fresh : Met P w K mg base CX0 1 "Spots" "fresh" ["self"] (spFresh K) := m_fresh T
  have M_stands : Met P w K mg base CX0 2 "Spots" "stands" ["self"] (spStands K) := m_stands T
  obtain ⟨fd, F⟩ := T.d_Spots_gone
  refine ⟨⟨fd, fn0 F sc_Spots_gone (fun vs H Q E h => ?_) (fun cdv A outer s H vs Q E hr h => ?_), FunD.bindsN F fun _ _ _ _ _ _ us hl => match us, hl with | [_, _, _, _], _ => rfl⟩, T.m_Spots_gone, T.c_Spots⟩
  · obtain ⟨_, p, S, wd, n, k, rfl, _⟩ := h
    rfl
  obtain ⟨H0, p, S, wd, n, at_, rfl, A, ok, hz, k⟩ := h
  obtain ⟨dx, J, R, F, D, rs, fs, jl, W⟩ := id A
  refine ⟨_, (pss_cons (ps_set (i := 4) sc_Spots_gone.nd rfl (.inl rfl) (pmeth0 (pv 0) M_stands (hr.mono (by decide)) pass0))
    (pss_cons (ps_fld (pv 0) (pmeth0 (pv 0) M_fresh (hr.mono (by decide)) pass0) rfl)
    (pss_one (ps_expr (pe_bm PySem.F.plainAttrs_list PySem.F.slot_list_append PySem.F.type_list_append mt_append (pe_fld (pv 0) rfl) (pa_cons (pe_tup (pa_cons (pv 1) (pa_cons (pv 2) (pa_cons (pv 3) (pa_cons (pv 4) (pa_cons (pe_fld (pv 0) rfl) pa_nil)))))) pa_nil)))))), ?_⟩
  refine ⟨_, rfl, p, dx, _, rfl, W.op, sp_no_stands, H0, p, S, rfl, A, ok, Nat.lt_trans hz.1 (by decide), fun H1 A1 => ?_⟩
  obtain ⟨dx, J, R, F, D, rs, fs, jl, W1⟩ := id A1
  have nle : S.std.n ≤ S.n + 1 := by
    cases e : S.here with
    | none => rw [(std_none e).1]; exact Nat.le_refl _
    | some x => rw [(std_some e).1]; exact Nat.le_succ _
  have z1 := hz.1
  refine ⟨_, rfl, p, dx, _, rfl, W1.op, sp_no_fresh, H0, p, S.std, rfl, A1, (std_ok ok).hi _ (Nat.le_refl _), by omega, fun H2 A2 => ?_⟩
  obtain ⟨dx, J, R, F, D, rs, fs, jl, W2⟩ := id A2
  refine ⟨_, rfl, _, _, _, _, rfl, W2.op, T.c_Spots, T.n_Spots_here, (by show 7 < 1000; decide), ?_⟩
  have W3 := W2.obj (T := { S.std with n := S.std.n + 1, here := some S.std.n }) (d' := dx) rfl rfl rfl rfl rfl
  have q : putF ("here" : Str) (V.int (S.std.n : Int)) (spV J R F D { S.std with n := S.std.n + 1 }) = spV J R F D { S.std with n := S.std.n + 1, here := some S.std.n } := spV_here (some S.std.n)
  rw [q]
  refine ⟨_, rfl, _, _, _, _, _, rfl, W3.op, T.c_Spots, T.n_Spots_rows, sp_rows, .inl ⟨rfl, _, SqL.of W3.hR⟩, ?_⟩
  refine ⟨_, rfl, _, rfl, _, rfl, _, rfl, _, rfl, _, _, _, _, _, rfl, W3.op, T.c_Spots, T.n_Spots_here, sp_here, (by show 5 ≤ sizeLine; decide), fun t ht => ?_⟩
  have W4 := W3.grow (same_new ht (.tup [V.str wd, V.str n, V.int (at_ : Int), V.int (S.spot : Int), oI (some S.std.n)]))
  have rl : rs.length < sizeLine := by
    have l1 := Paired.len W3.rw_
    have l2 : S.std.rows = S.rows := std_rows
    have l3 : rs.length = S.rows.length := l1.trans (congrArg List.length l2)
    rw [l3]
    exact Nat.lt_trans hz.2.1 (by decide)
  refine ⟨R, _, _, rfl, rfl, W4.hR, by rw [List.length_map]; exact rl, ?_⟩
  have W5 := W4.row (t := t) (r := ⟨wd, n, at_, S.spot, S.std.n⟩) upd_same
  have e5 : rs.map V.ref ++ [V.ref t] = (rs ++ [t]).map V.ref := by rw [List.map_append] <;> rfl
  rw [e5]
  refine k _ ⟨dx, J, R, F, D, rs ++ [t], fs, jl, ?_⟩
  have e6 : S.gone wd n at_ = { ({ S.std with n := S.std.n + 1, here := some S.std.n } : Sx) with rows := S.std.rows ++ [⟨wd, n, at_, S.spot, S.std.n⟩] } := by
    unfold Sx.gone
    rw [std_rows]
  rw [e6]
  exact W5
end
end Fc

set_option Elab.async false
set_option linter.all false
set_option maxRecDepth 100000
set_option maxHeartbeats 4000000
namespace Fc
open PySem PySem.Spec PyProof.Rows L2 He
theorem std_le1 {S : Sx} : S.std.n ≤ S.n + 1 := by
  cases e : S.here with
  | none => rw [(std_none e).1]; exact Nat.le_refl _
  | some x => rw [(std_some e).1]; exact Nat.le_succ _
/-- the fork's list is apart from what is new -/
theorem SpW.fs_new {K : PySem.W.Frag} {H0 H : Hp} {p dx J R F D : Addr} {S : Sx} {rs fs : List Addr} {jl : List Nat} (W : SpW K H0 H p S dx J R F D rs fs jl) {x : Addr} (hx : H x = none) : (fs ++ [x]).Nodup := by
  refine List.nodup_append.mpr ⟨W.nd, List.nodup_cons.mpr ⟨(fun h => nomatch h), List.nodup_nil⟩, fun a ha b hb => ?_⟩
  rw [List.mem_singleton.mp hb]
  obtain ⟨f, _, h0, d, e⟩ := Paired.mem W.fk ha
  exact ne_of_none e hx
section
variable {P : Program} {w : World} {K : PySem.W.Frag} {mg : Str → Option Value} {base : Heap}
theorem sc_Spots_asked : FnScope ["self", "word", "name", "at", "start", "yes", "other"] ["self", "word", "name", "at"] (defScope (inClass (top 21) 6)) := ⟨rfl, rfl, rfl, by decide +kernel, rfl, by decide +kernel, by decide +kernel⟩
theorem m_asked (T : Txt K mg) : Met P w K mg base CX0 3 "Spots" "asked" ["self", "word", "name", "at"] (spAsked K) := by
  have M_fresh : Met P w K mg base CX0 1 "Spots" "fresh" ["self"] (spFresh K) := m_fresh T
  have M_stands : Met P w K mg base CX0 2 "Spots" "stands" ["self"] (spStands K) := m_stands T
  have M_Fork : Mkr P w K mg base CX0 1 "Fork" ["self", "word", "start", "other", "alive"] (spFork K) := mk_Fork T
  obtain ⟨fd, F⟩ := T.d_Spots_asked
  refine ⟨⟨fd, fn0 F sc_Spots_asked (fun vs H Q E h => ?_) (fun cdv A outer s H vs Q E hr h => ?_), FunD.bindsN F fun _ _ _ _ _ _ us hl => match us, hl with | [_, _, _, _], _ => rfl⟩, T.m_Spots_asked, T.c_Spots⟩
  · obtain ⟨_, p, S, wd, n, k, rfl, _⟩ := h
    rfl
  obtain ⟨H0, p, S, wd, n, at_, rfl, A, ok, hz, k⟩ := h
  obtain ⟨dx, J, R, F, D, rs, fs, jl, W⟩ := id A
  refine ⟨_, (pss_cons (ps_set (i := 4) sc_Spots_asked.nd rfl (.inl rfl) (pmeth0 (pv 0) M_stands (hr.mono (by decide)) pass0))
    (pss_cons (ps_set (i := 5) sc_Spots_asked.nd rfl (.inl rfl) (pmeth0 (pv 0) M_fresh (hr.mono (by decide)) pass0))
    (pss_cons (ps_set (i := 6) sc_Spots_asked.nd rfl (.inl rfl) (pmeth0 (pv 0) M_fresh (hr.mono (by decide)) pass0))
    (pss_cons (ps_expr (pe_bm PySem.F.plainAttrs_list PySem.F.slot_list_append PySem.F.type_list_append mt_append (pe_fld (pv 0) rfl) (pa_cons (pe_tup (pa_cons pe_str (pa_cons (pv 2) (pa_cons (pv 3) (pa_cons (pv 4) (pa_cons (pv 5) pa_nil)))))) pa_nil)))
    (pss_cons (ps_expr (pe_bm PySem.F.plainAttrs_list PySem.F.slot_list_append PySem.F.type_list_append mt_append (pe_fld (pv 0) rfl) (pa_cons (pe_tup (pa_cons pe_str (pa_cons (pv 2) (pa_cons (pv 3) (pa_cons (pv 4) (pa_cons (pv 6) pa_nil)))))) pa_nil)))
    (pss_cons (ps_expr (pe_bm PySem.F.plainAttrs_list PySem.F.slot_list_append PySem.F.type_list_append mt_append (pe_fld (pv 0) rfl) (pa_cons (pmake M_Fork (hr.mono (by decide)) rfl pass0 (pa_cons (pv 1) (pa_cons (pv 4) (pa_cons (pv 6) (pa_cons (pe_fld (pv 0) rfl) pa_nil))))) pa_nil)))
    (pss_one (ps_fld (pv 0) (pv 5) rfl)))))))), ?_⟩
  have z1 := hz.1
  have nle : S.std.n ≤ S.n + 1 := std_le1
  have ok1 := std_ok ok
  refine ⟨_, rfl, p, dx, _, rfl, W.op, sp_no_stands, H0, p, S, rfl, A, ok, Nat.lt_trans hz.1 (by decide), fun H1 A1 => ?_⟩
  obtain ⟨dx, J, R, F, D, rs, fs, jl, W1⟩ := id A1
  refine ⟨_, rfl, p, dx, _, rfl, W1.op, sp_no_fresh, H0, p, S.std, rfl, A1, ok1.hi _ (Nat.le_refl _), by omega, fun H2 A2 => ?_⟩
  obtain ⟨dx, J, R, F, D, rs, fs, jl, W2⟩ := id A2
  refine ⟨_, rfl, p, dx, _, rfl, W2.op, sp_no_fresh, H0, p, { S.std with n := S.std.n + 1 }, rfl, A2, ok1.hi _ (Nat.le_succ _), (by show S.std.n + 1 < 16000000; omega), fun H3 A3 => ?_⟩
  obtain ⟨dx, J, R, F, D, rs, fs, jl, W3⟩ := id A3
  have rl : rs.length = S.rows.length := (Paired.len W3.rw_).trans (congrArg List.length std_rows)
  have fl : fs.length = S.forks.length := (Paired.len W3.fk).trans (congrArg List.length std_forks)
  have z2 := hz.2.1
  have z3 := hz.2.2.1
  refine ⟨_, rfl, _, _, _, _, _, rfl, W3.op, T.c_Spots, T.n_Spots_rows, sp_rows, .inl ⟨rfl, _, SqL.of W3.hR⟩, ?_⟩
  refine ⟨_, rfl, _, rfl, _, rfl, _, rfl, (by show 5 ≤ sizeLine; decide), fun t ht => ?_⟩
  have W4 := W3.grow (same_new ht (.tup [V.str wYes, V.str n, V.int (at_ : Int), V.int (S.spot : Int), V.int (S.std.n : Int)]))
  refine ⟨R, _, _, rfl, rfl, W4.hR, (by rw [List.length_map, rl]; exact Nat.lt_trans z2 (by decide)), ?_⟩
  have W5 := W4.row (t := t) (r := ⟨wYes, n, at_, S.spot, S.std.n⟩) upd_same
  have e5 : rs.map V.ref ++ [V.ref t] = (rs ++ [t]).map V.ref := by rw [List.map_append] <;> rfl
  rw [e5]
  refine ⟨_, rfl, _, _, _, _, _, rfl, W5.op, T.c_Spots, T.n_Spots_rows, sp_rows, .inl ⟨rfl, _, SqL.of W5.hR⟩, ?_⟩
  refine ⟨_, rfl, _, rfl, _, rfl, _, rfl, (by show 5 ≤ sizeLine; decide), fun t2 ht2 => ?_⟩
  have W6 := W5.grow (same_new ht2 (.tup [V.str wNo, V.str n, V.int (at_ : Int), V.int (S.spot : Int), V.int ((S.std.n + 1 : Nat) : Int)]))
  refine ⟨R, _, _, rfl, rfl, W6.hR, (by rw [List.length_map, List.length_append, rl]; exact Nat.lt_of_le_of_lt (show S.rows.length + 1 ≤ 15000000 from z2) (by decide)), ?_⟩
  have W7 := W6.row (t := t2) (r := ⟨wNo, n, at_, S.spot, S.std.n + 1⟩) upd_same
  have e7 : (rs ++ [t]).map V.ref ++ [V.ref t2] = ((rs ++ [t]) ++ [t2]).map V.ref := by rw [List.map_append (l₁ := rs ++ [t])] <;> rfl
  rw [e7]
  refine ⟨_, rfl, _, _, _, _, _, rfl, W7.op, T.c_Spots, T.n_Spots_forks, sp_forks, .inl ⟨rfl, _, SqL.of W7.hF⟩, ?_⟩
  refine ⟨_, rfl, _, rfl, _, rfl, _, rfl, _, _, _, _, _, rfl, W7.op, T.c_Spots, T.n_Spots_alive, sp_alive, fun x dx' hx hdx ne => ?_⟩
  refine ⟨x, dx', wd, S.spot, S.std.n + 1, S.std.alive, rfl, upd_same, fun H8 e8 e9 => ⟨rfl, ?_⟩⟩
  have s8 : Same _ H8 := fun b u q => by
    rw [e8 b (ne_of_none q hx), upd_ne (ne_of_none q hx), upd_ne (ne_of_none q hdx)]
    exact q
  have W8 := W7.grow s8
  refine ⟨F, _, _, rfl, rfl, W8.hF, (by rw [List.length_map, fl]; exact Nat.lt_trans z3 (by decide)), ?_⟩
  have fkx : FkAt K H0 H8 x ⟨wd, S.spot, S.std.n + 1, S.std.alive, none, false⟩ := ⟨W7.same.free hx, dx', e9⟩
  have W9 := W8.fks (Paired.app W8.fk (.cons fkx .nil)) (W7.fs_new hx)
  have e10 : fs.map V.ref ++ [V.ref x] = (fs ++ [x]).map V.ref := by rw [List.map_append] <;> rfl
  rw [e10]
  refine ⟨_, rfl, _, rfl, _, _, _, _, rfl, W9.op, T.c_Spots, T.n_Spots_here, (by show 7 < 1000; decide), ?_⟩
  refine k _ ⟨dx, J, R, F, D, rs ++ [t] ++ [t2], fs ++ [x], jl, ?_⟩
  have W10 := W9.obj (T := S.asked wd n at_) (d' := dx) rfl rfl (by show (S.rows ++ [_, _]) = _; rw [← std_rows]; simp) (by show (S.forks ++ [_]) = (S.std.forks ++ [_]); rw [std_forks, std_alive]) rfl
  have q := spV_here (J := J) (R := R) (F := F) (D := D) (S := { S.asked wd n at_ with here := S.std.here }) (some S.std.n)
  exact W10
theorem sc_Spots_turned : FnScope ["self", "fork"] ["self"] (defScope (inClass (top 21) 7)) := ⟨rfl, rfl, rfl, by decide +kernel, rfl, by decide +kernel, by decide +kernel⟩
theorem m_turned (T : Txt K mg) : Met P w K mg base CX0 1 "Spots" "turned" ["self"] (spTurned K) := by
  obtain ⟨fd, F⟩ := T.d_Spots_turned
  refine ⟨⟨fd, fn0 F sc_Spots_turned (fun vs H Q E h => ?_) (fun cdv A outer s H vs Q E hr h => ?_), FunD.bindsN F fun _ _ _ _ _ _ us hl => match us, hl with | [_], _ => rfl⟩, T.m_Spots_turned, T.c_Spots⟩
  · obtain ⟨_, p, S, _, _, rfl, _⟩ := h
    rfl
  obtain ⟨H0, p, S, G, f, rfl, A, eg, k⟩ := h
  obtain ⟨dx, J, R, F, D, rs, fs, jl, W⟩ := id A
  refine ⟨_, (pss_cons (ps_set (i := 1) sc_Spots_turned.nd rfl (.inl rfl) (pe_ix ix_list (pe_fld (pv 0) rfl) (pe_un un_neg pe_int) (fun _ _ => rfl)))
    (pss_cons (ps_fld (pv 1) (pe_fld (pv 0) rfl) rfl)
    (pss_cons (ps_fld (pv 1) (pe_fld (pv 0) rfl) rfl)
    (pss_cons (ps_fld (pv 0) (pe_fld (pv 1) rfl) rfl)
    (pss_one (ps_fld (pv 0) (pe_fld (pv 1) rfl) rfl)))))), ?_⟩
  have q := W.fk
  rw [eg] at q
  obtain ⟨fs0, a, e1, _, h0, d, ha⟩ := Paired.snoc q
  have hF := W.hF
  rw [e1, List.map_append] at hF
  refine ⟨_, rfl, _, _, _, _, _, rfl, W.op, T.c_Spots, T.n_Spots_forks, sp_forks, _, rfl, F, _, _, _, rfl, rfl, SqL.of hF, atI_last _ _, ?_⟩
  refine ⟨_, rfl, _, _, _, _, _, rfl, W.op, T.c_Spots, T.n_Spots_here, sp_here, _, rfl, _, _, _, _, rfl, ha, T.c_Fork, T.n_Fork_passed, (by show 6 < 1000; decide), ?_⟩
  rw [fkV_passed]
  have W1 := W.fko (d' := d) (f' := { f with passed := S.here }) e1 eg
  refine ⟨_, rfl, _, _, _, _, _, rfl, W1.op, T.c_Spots, T.n_Spots_alive, sp_alive, _, rfl, _, _, _, _, rfl, upd_same, T.c_Fork, T.n_Fork_passes, (by show 6 < 1000; decide), ?_⟩
  rw [fkV_passes]
  have W2 := W1.fko (d' := d) (f' := { f with passed := S.here, passes := S.alive }) e1 rfl
  refine ⟨_, rfl, _, _, _, _, _, rfl, upd_same, T.c_Fork, T.n_Fork_other, fk_other, _, rfl, _, _, _, _, rfl, W2.op, T.c_Spots, T.n_Spots_here, (by show 7 < 1000; decide), ?_⟩
  have W3 := W2.obj (T := { S with forks := G ++ [{ f with passed := S.here, passes := S.alive }], here := some f.o }) (d' := dx) rfl rfl rfl rfl rfl
  have e3 : putF ("here" : Str) (V.int (f.o : Int)) (spV J R F D { S with forks := G ++ [{ f with passed := S.here, passes := S.alive }] }) = spV J R F D { S with forks := G ++ [{ f with passed := S.here, passes := S.alive }], here := some f.o } := spV_here (some f.o)
  have hq : ∀ {Hx : Hp}, Hx = upd (upd (upd H a (.ins (ga K "Fork") d (fkV { f with passed := S.here }))) a (.ins (ga K "Fork") d (fkV { f with passed := S.here, passes := S.alive }))) p (.ins (ga K "Spots") dx (spV J R F D { S with forks := G ++ [{ f with passed := S.here, passes := S.alive }], here := some f.o })) → Hx a = some (.ins (ga K "Fork") d (fkV { f with passed := S.here, passes := S.alive })) := fun e => by
    rw [e, upd_ne (ne_of ha W.op fun z => sp_ne_fk z.symm), upd_same]
  refine ⟨_, rfl, _, _, _, _, _, rfl, (hq (congrArg _ (congrArg _ e3))), T.c_Fork, T.n_Fork_alive, fk_alive, _, rfl, _, _, _, _, rfl, W3.op, T.c_Spots, T.n_Spots_alive, (by show 7 < 1000; decide), ?_⟩
  have W4 := W3.obj (T := { S with forks := G ++ [{ f with passed := S.here, passes := S.alive }], here := some f.o, alive := f.alive }) (d' := dx) rfl rfl rfl rfl rfl
  exact k _ ⟨dx, J, R, F, D, rs, fs, jl, W4⟩
end
end Fc

set_option Elab.async false
set_option linter.all false
set_option maxRecDepth 100000
set_option maxHeartbeats 4000000
namespace Fc
open PySem PySem.Spec PyProof.Rows L2 He
theorem dstr {a b : Str} : decide (V.str a = V.str b) = decide (a = b) := by
  rw [decide_eq_decide]
  exact ⟨fun z => by injection z, fun z => by rw [z]⟩
theorem beq_str (a b : Str) : (a == b) = decide (a = b) := by
  by_cases q : a = b
  · rw [q, beq_self_eq_true, decide_eq_true rfl]
  · rw [decide_eq_false q]
    exact beq_eq_false_iff_ne.mpr q
theorem inV2 {w a b : Str} : inV (.str w) [.str a, .str b] = decide (w = a ∨ w = b) := by
  show (a == w || (b == w || false)) = _
  rw [Bool.or_false, beq_str, beq_str, Bool.decide_or]
  congr 1
  · exact decide_eq_decide.mpr ⟨Eq.symm, Eq.symm⟩
  · exact decide_eq_decide.mpr ⟨Eq.symm, Eq.symm⟩
section
variable {K : PySem.W.Frag} {H0 H : Hp} {p dx J R F D : Addr} {S : Sx} {rs fs : List Addr} {jl : List Nat}
/-- an object kept from the callee's hands -/
theorem SpW.hold {a : Addr} {o : HO} (W : SpW K H0 H p S dx J R F D rs fs jl) (ha : H a = some o) (h1 : p ≠ a) (h2 : J ≠ a) (h3 : R ≠ a) (h4 : F ≠ a) (h5 : D ≠ a) (h6 : a ∉ fs) : SpW K (upd H0 a o) H p S dx J R F D rs fs jl := by
  refine ⟨fun b u q => ?_, W.op, W.hJ, W.uf, W.hR, W.rw_, W.hF, ?_, W.hD, by rw [upd_ne h1]; exact W.p0, by rw [upd_ne h2]; exact W.J0, by rw [upd_ne h3]; exact W.R0, by rw [upd_ne h4]; exact W.F0, by rw [upd_ne h5]; exact W.D0, W.JR, W.JF, W.JD, W.RF, W.RD, W.FD, W.nd⟩
  · by_cases e : b = a
    · rw [e, upd_same] at q
      rw [e, ha]
      exact q
    · rw [upd_ne e] at q
      exact W.same b u q
  · have keep : ∀ {l : List Addr} {m : List Fk}, Paired (FkAt K H0 H) l m → a ∉ l → Paired (FkAt K (upd H0 a o) H) l m := by
      intro l
      induction l with
      | nil =>
        intro m h _
        cases h
        exact .nil
      | cons b l ih =>
        intro m h n
        cases h with
        | cons r t =>
          obtain ⟨r0, r1⟩ := r
          exact .cons ⟨by rw [upd_ne fun z => n (by rw [z]; exact List.mem_cons_self ..)]; exact r0, r1⟩ (ih t fun z => n (List.mem_cons_of_mem _ z))
    exact keep W.fk h6
/-- the frame gets smaller -/
theorem SpAt.drop {H1 : Hp} (A : SpAt K H1 H p S) (s : Same H0 H1) : SpAt K H0 H p S := by
  obtain ⟨dx, J, R, F, D, rs, fs, jl, W⟩ := A
  exact ⟨dx, J, R, F, D, rs, fs, jl, s.trans W.same, W.op, W.hJ, W.uf, W.hR, W.rw_, W.hF, Paired.imp (fun a b h => ⟨s.free h.1, h.2⟩) W.fk, W.hD, s.free W.p0, s.free W.J0, s.free W.R0, s.free W.F0, s.free W.D0, W.JR, W.JF, W.JD, W.RF, W.RD, W.FD, W.nd⟩
theorem inn_lt {g : Nat} (ok : S.Ok) (h : inn S.forks = some g) : g < S.n := by
  unfold inn at h
  cases e : (S.forks.filter fun f => decide (f.w = wWhile)).getLast? with
  | none => rw [e] at h; cases h
  | some f =>
    rw [e] at h
    cases h
    have hm := List.mem_of_getLast? e
    exact (ok.fk f (List.mem_filter.mp hm).1).2.1
end
def spTake (K : PySem.W.Frag) : L2.Sp := fun vs H Q _ => ∃ (H0 : Hp) (p : Addr) (S S' : Sx) (w n : Str) (k : Nat), vs = [.ref p, .str w, .int (k : Int), .str n] ∧ SpAt K H0 H p S ∧ S.Ok ∧ S.Sm 14000000 ∧ Tks S ⟨w, k, n⟩ S' ∧ ∀ H', SpAt K H0 H' p S' → Q .non H'
def spClosed (K : PySem.W.Frag) : L2.Sp := fun vs H Q _ => ∃ (H0 : Hp) (p : Addr) (S S' : Sx) (n : Str) (k : Nat), vs = [.ref p, .str n] ∧ SpAt K H0 H p S ∧ S.Ok ∧ S.Sm 14000000 ∧ Tks S ⟨wEnd, k, n⟩ S' ∧ ∀ H', SpAt K H0 H' p S' → Q .non H'
section
variable {P : Program} {w : World} {K : PySem.W.Frag} {mg : Str → Option Value} {base : Heap}
theorem sc_Spots_left : FnScope ["self", "goal"] ["self", "goal"] (defScope (inClass (top 21) 8)) := ⟨rfl, rfl, rfl, by decide +kernel, rfl, by decide +kernel, by decide +kernel⟩
theorem m_left (T : Txt K mg) : Met P w K mg base CX0 3 "Spots" "left" ["self", "goal"] (spLeft K) := by
  have M_stands : Met P w K mg base CX0 2 "Spots" "stands" ["self"] (spStands K) := m_stands T
  have M_put_together : Met P w K mg base CX0 2 "Spots" "put_together" ["self", "one", "other"] (spPut K) := m_put_together T
  obtain ⟨fd, F⟩ := T.d_Spots_left
  refine ⟨⟨fd, fn0 F sc_Spots_left (fun vs H Q E h => ?_) (fun cdv A outer s H vs Q E hr h => ?_), FunD.bindsN F fun _ _ _ _ _ _ us hl => match us, hl with | [_, _], _ => rfl⟩, T.m_Spots_left, T.c_Spots⟩
  · obtain ⟨_, p, S, _, rfl, _⟩ := h
    rfl
  obtain ⟨H0, p, S, g, rfl, A, ok, hz, hg, k⟩ := h
  obtain ⟨dx, J, R, F, D, rs, fs, jl, W⟩ := id A
  refine ⟨_, (pss_cons (ps_expr (pmeth (pv 0) M_put_together (hr.mono (by decide)) pass0 (pa_cons (pmeth0 (pv 0) M_stands (hr.mono (by decide)) pass0) (pa_cons (pv 1) pa_nil))))
    (pss_cons (ps_fld (pv 0) pe_non rfl)
    (pss_one (ps_fld (pv 0) pe_bl rfl)))), ?_⟩
  refine ⟨_, rfl, p, dx, _, rfl, W.op, sp_no_put_together, ?_⟩
  refine ⟨_, rfl, p, dx, _, rfl, W.op, sp_no_stands, H0, p, S, rfl, A, ok, hz, fun H1 A1 => ?_⟩
  refine ⟨_, rfl, H0, p, S.std, S.spot, g, rfl, A1, std_ok ok, spot_lt ok, Nat.lt_of_lt_of_le hg std_le, fun H2 A2 => ?_⟩
  obtain ⟨dx, J, R, F, D, rs, fs, jl, W2⟩ := id A2
  refine ⟨_, rfl, _, _, _, _, rfl, W2.op, T.c_Spots, T.n_Spots_here, (by show 7 < 1000; decide), ?_⟩
  have W3 := W2.obj (T := { S.std.un S.spot g with here := none }) (d' := dx) rfl rfl rfl rfl rfl
  refine ⟨_, rfl, _, _, _, _, rfl, W3.op, T.c_Spots, T.n_Spots_alive, (by show 7 < 1000; decide), ?_⟩
  have W4 := W3.obj (T := S.left g) (d' := dx) rfl rfl rfl rfl rfl
  exact k _ ⟨dx, J, R, F, D, rs, fs, jl, W4⟩
theorem sc_Spots_innermost : FnScope ["self", "fork"] ["self"] (defScope (inClass (top 21) 9)) := ⟨rfl, rfl, rfl, by decide +kernel, rfl, by decide +kernel, by decide +kernel⟩
def ott (l : List Fk) : List Nat := (l.filter fun f => decide (f.w = wWhile)).map (·.o)
theorem m_innermost (T : Txt K mg) : Met P w K mg base CX0 1 "Spots" "innermost" ["self"] (spInner K) := by
  obtain ⟨fd, F⟩ := T.d_Spots_innermost
  refine ⟨⟨fd, fn0 F sc_Spots_innermost (fun vs H Q E h => ?_) (fun cdv A outer s H vs Q E hr h => ?_), FunD.bindsN F fun _ _ _ _ _ _ us hl => match us, hl with | [_], _ => rfl⟩, T.m_Spots_innermost, T.c_Spots⟩
  · obtain ⟨_, p, S, _, rfl, _⟩ := h
    rfl
  obtain ⟨H0, p, S, g, rfl, A, hz, hg, k⟩ := h
  obtain ⟨dx, J, R, F, D, rs, fs, jl, W⟩ := id A
  refine ⟨_, (pss_one (ps_ret (pe_ix ix_list (pe_lc (own := [("fork", 1)]) (g := (gName 1)) (tt := tTest (tOp rEq (tFld K (tVar 1) "word") (tC (.str "while")))) (te := tFld K (tVar 1) "other") rfl sc_Spots_innermost.nd (pi_list (pe_fld (pv 0) rfl)) (blkOk_by (own := [("fork", 1)]) (N := ["self", "fork"]) (sc := defScope (inClass (top 21) 9)) (by decide +kernel)) (fun _ _ _ _ _ => (pg_name (i := 1) sc_Spots_innermost.nd rfl (.inl rfl))) (fun _ _ _ _ _ => (pts_one (pt_cmpR op_eq (pe_fld (pv 1) rfl) pe_str (by rfl)))) (fun _ _ _ _ _ => (pe_fld (pv 1) rfl))) (pe_un un_neg pe_int) (fun _ _ => rfl)))), ?_⟩
  refine ⟨_, rfl, _, _, _, _, _, rfl, W.op, T.c_Spots, T.n_Spots_forks, sp_forks, F, rfl, ⟨_, SqL.of W.hF⟩, fun L hL => ?_⟩
  have lf : fs.length = S.forks.length := Paired.len W.fk
  refine lc_list (xs := fs.map V.ref) (fun i H' => i ≤ fs.length ∧ ∃ l : List Nat, Same H H' ∧ l = ott (S.forks.take i) ∧ H' L = some (.lst (nI l))) ⟨Nat.zero_le _, [], same_new hL _, rfl, upd_same⟩ (fun i H' _ z => ?_) (fun i x H' hx z => ?_) (fun H' z => ?_)
  · obtain ⟨_, l, s1, _, _⟩ := z
    exact SqL.of (s1 _ _ W.hF)
  · obtain ⟨hi, l, s1, el, hl⟩ := z
    rw [List.getElem?_map] at hx
    cases ei : fs[i]? with
    | none => rw [ei] at hx; cases hx
    | some a =>
      rw [ei] at hx
      cases hx
      obtain ⟨f, ef, h0, d, hd⟩ := Paired.get W.fk ei
      have hlt : i < fs.length := (List.getElem?_eq_some_iff.mp ei).1
      have tk : S.forks.take (i + 1) = S.forks.take i ++ [f] := by
        rw [List.take_add_one, ef]
        rfl
      refine ⟨rfl, ?_⟩
      refine ⟨_, rfl, _, _, _, _, _, rfl, (s1 _ _ hd), T.c_Fork, T.n_Fork_word, fk_word, rfl, _, rfl, ?_⟩
      rw [dstr]
      have nx : ott (S.forks.take (i + 1)) = ott (S.forks.take i) ++ (if f.w = wWhile then [f.o] else []) := by
        unfold ott
        rw [tk, List.filter_append, List.map_append]
        congr 1
        by_cases q : f.w = wWhile
        · simp [q]
        · simp [q]
      by_cases q : f.w = wWhile
      · refine ifT (decide_eq_true q) ?_
        refine ⟨_, rfl, _, _, _, _, _, rfl, (s1 _ _ hd), T.c_Fork, T.n_Fork_other, fk_other, nI l, hl, ?_, hlt, l ++ [f.o], ?_, ?_, ?_⟩
        · rw [nI_len, el]
          unfold ott
          rw [List.length_map]
          refine Nat.lt_of_le_of_lt (List.length_filter_le _ _) (Nat.lt_of_le_of_lt (List.length_take_le _ _) ?_)
          exact Nat.lt_of_le_of_lt (by rw [← lf]; exact hi) (Nat.lt_trans hz.2.2.1 (by decide))
        · exact same_upd s1 hL
        · rw [nx, if_pos q, el]
        · rw [nI_app]
          exact upd_same
      · refine ifF (decide_eq_false q) ?_
        exact ⟨hlt, l, s1, by rw [nx, if_neg q, List.append_nil, el], hl⟩
  · obtain ⟨hi, l, s1, el, hl⟩ := z
    rw [List.length_map, lf, List.take_length] at el
    have hg2 : l.getLast? = some g := by
      rw [el]
      unfold ott
      rw [List.getLast?_map]
      exact hg
    obtain ⟨l0, e0⟩ := List.getLast?_eq_some_iff.mp hg2
    refine ⟨_, rfl, L, _, _, .int (g : Int), rfl, rfl, SqL.of hl, ?_, ?_⟩
    · rw [e0, nI_app]
      exact atI_last _ _
    · exact k _ (A.more s1)
end
end Fc

set_option Elab.async false
set_option linter.all false
set_option maxRecDepth 100000
set_option maxHeartbeats 4000000
namespace Fc
open PySem PySem.Spec PyProof.Rows L2 He
theorem Sx.Sm.mono {S : Sx} {a b : Nat} (h : S.Sm a) (l : a ≤ b) : S.Sm b := ⟨Nat.lt_of_lt_of_le h.1 l, Nat.lt_of_lt_of_le h.2.1 l, Nat.lt_of_lt_of_le h.2.2.1 l, Nat.lt_of_lt_of_le h.2.2.2 l⟩
theorem str_ne {a b : Str} (h : ¬ a = b) : decide (V.str a = V.str b) = false := by
  rw [dstr]
  exact decide_eq_false h
theorem str_eq {a b : Str} (h : a = b) : decide (V.str a = V.str b) = true := by
  rw [dstr]
  exact decide_eq_true h
theorem shut_n {S : Sx} {f : Fk} (e : S.here = none) : S.shut f = { S with here := f.passed } := by
  cases S
  cases f
  simp only at e
  subst e
  rfl
theorem shut_sn {S : Sx} {f : Fk} {x : Nat} (e : S.here = some x) (e4 : f.passed = none) : S.shut f = S := by
  cases S
  cases f
  simp only at e e4
  subst e e4
  rfl
theorem shut_ss {S : Sx} {f : Fk} {x y : Nat} (e : S.here = some x) (e4 : f.passed = some y) : S.shut f = S.un y x := by
  cases S
  cases f
  simp only at e e4
  subst e e4
  rfl
section
variable {P : Program} {w : World} {K : PySem.W.Frag} {mg : Str → Option Value} {base : Heap}
theorem sc_Spots_closed : FnScope ["self", "word", "fork"] ["self", "word"] (defScope (inClass (top 21) 10)) := ⟨rfl, rfl, rfl, by decide +kernel, rfl, by decide +kernel, by decide +kernel⟩
theorem m_closed (T : Txt K mg) : Met P w K mg base CX0 3 "Spots" "closed" ["self", "word"] (spClosed K) := by
  have M_put_together : Met P w K mg base CX0 2 "Spots" "put_together" ["self", "one", "other"] (spPut K) := m_put_together T
  obtain ⟨fd, F⟩ := T.d_Spots_closed
  refine ⟨⟨fd, fn0 F sc_Spots_closed (fun vs H Q E h => ?_) (fun cdv A outer s H vs Q E hr h => ?_), FunD.bindsN F fun _ _ _ _ _ _ us hl => match us, hl with | [_, _], _ => rfl⟩, T.m_Spots_closed, T.c_Spots⟩
  · obtain ⟨_, p, S, _, _, _, rfl, _⟩ := h
    rfl
  obtain ⟨H0, p, S, S', n, at_, rfl, A, ok, hz, tk, k⟩ := h
  obtain ⟨dx, J, R, F, D, rs, fs, jl, W⟩ := id A
  refine ⟨_, (pss_cons (ps_if (pt_cmpR op_eq (pv 1) pe_str (by rfl))
      (pss_cons (ps_if (pt_cmpR op_notN (pe_fld (pv 0) rfl) pe_non (by rfl))
        (pss_one (ps_expr (pmeth (pv 0) M_put_together (hr.mono (by decide)) pass0 (pa_cons (pe_fld (pv 0) rfl) (pa_cons pe_int pa_nil)))))
        pss_nil)
      (pss_one ps_retN))
      pss_nil)
    (pss_cons (ps_set (i := 2) sc_Spots_closed.nd rfl (.inl rfl) (pe_bm0 PySem.F.plainAttrs_list PySem.F.slot_list_pop PySem.F.type_list_pop mt_pop (pe_fld (pv 0) rfl)))
    (pss_cons (ps_if (pt_cmpR op_eq (pv 1) pe_str (by rfl))
      (pss_cons (ps_if (pt_cmpR op_notN (pe_fld (pv 0) rfl) pe_non (by rfl))
        (pss_one (ps_expr (pmeth (pv 0) M_put_together (hr.mono (by decide)) pass0 (pa_cons (pe_fld (pv 0) rfl) (pa_cons (pe_fld (pv 2) rfl) pa_nil)))))
        pss_nil)
      (pss_cons (ps_fld (pv 0) (pe_fld (pv 2) rfl) rfl)
      (pss_cons (ps_fld (pv 0) (pe_fld (pv 2) rfl) rfl)
      (pss_one ps_retN))))
      pss_nil)
    (pss_cons (ps_if (pt_cmpR op_isN (pe_fld (pv 0) rfl) pe_non (by rfl))
      (pss_one (ps_fld (pv 0) (pe_fld (pv 2) rfl) rfl))
      (pss_one (ps_if (pt_cmpR op_notN (pe_fld (pv 2) rfl) pe_non (by rfl))
        (pss_one (ps_expr (pmeth (pv 0) M_put_together (hr.mono (by decide)) pass0 (pa_cons (pe_fld (pv 2) rfl) (pa_cons (pe_fld (pv 0) rfl) pa_nil)))))
        pss_nil)))
    (pss_one (ps_fld (pv 0) (pe_or (pe_fld (pv 0) rfl) (pe_one (pe_fld (pv 2) rfl))) rfl)))))), ?_⟩
  have two := ok.two
  -- the pop, for both kinds
  have popped : ∀ {G : List Fk} {f : Fk}, S.forks = G ++ [f] → ∃ (fs0 : List Addr) (a d : Addr), fs = fs0 ++ [a] ∧ H a = some (.ins (ga K "Fork") d (fkV f)) ∧ H0 a = none ∧
      SpW K (upd H0 a (.ins (ga K "Fork") d (fkV f))) (upd H F (.lst (fs0.map V.ref))) p { S with forks := G } dx J R F D rs fs0 jl := by
    intro G f eg
    have q := W.fk
    rw [eg] at q
    obtain ⟨fs0, a, e1, q2, h0, d, ha⟩ := Paired.snoc q
    have nodup := W.nd
    rw [e1] at nodup
    have nn := List.nodup_append.mp nodup
    have W1 := W.fks q2 nn.1
    refine ⟨fs0, a, d, e1, ha, h0, W1.hold (by rw [upd_ne (ne_of ha W.hF ins_lst)]; exact ha) ?_ ?_ ?_ ?_ ?_ ?_⟩
    · exact ne_of W.op ha sp_ne_fk
    · exact ne_of W.hJ ha lst_ins
    · exact ne_of W.hR ha lst_ins
    · exact ne_of W.hF ha lst_ins
    · exact ne_of W.hD ha lst_ins
    · exact fun h => nn.2.2 a h a (List.mem_singleton.mpr rfl) rfl
  have pop_ : ∀ {fs0 : List Addr} {a : Addr} {Q' : VK}, fs = fs0 ++ [a] → Q' (.ref a) (upd H F (.lst (fs0.map V.ref))) → rPop (.ref F) [] H Q' := by
    intro fs0 a Q' e1 q
    refine ⟨F, _, V.ref a, rfl, rfl, W.hF, ?_, ?_⟩
    · show (fs.map V.ref)[(fs.map V.ref).length - 1]? = some (.ref a)
      rw [e1, List.map_append]
      simp
    · rw [e1, List.map_append]
      simpa using q
  cases tk with
  | gone h => exact absurd h (by decide +kernel)
  | asked h => exact absurd h (by decide +kernel)
  | endp =>
    refine ⟨_, rfl, rfl, _, rfl, ?_⟩
    refine ifT (str_eq rfl) ?_
    refine ⟨_, rfl, _, _, _, _, _, rfl, W.op, T.c_Spots, T.n_Spots_here, sp_here, rfl, _, rfl, ?_⟩
    rw [oI_none]
    unfold Sx.join at k
    cases e : S.here with
    | none =>
      rw [e] at k
      refine ifF rfl ?_
      exact k _ A
    | some x =>
      rw [e] at k
      refine ifT rfl ?_
      refine ⟨_, rfl, p, dx, _, rfl, W.op, sp_no_put_together, _, rfl, _, _, _, _, _, rfl, W.op, T.c_Spots, T.n_Spots_here, sp_here, ?_⟩
      refine ⟨H0, p, S, x, 1, ?_, A, ok, ok.hr x e, two, fun H1 A1 => ?_⟩
      · rw [e]
        rfl
      · exact k _ A1
  | endw eg =>
    rename_i G f
    obtain ⟨fs0, a, d, e1, ha, h0, W1⟩ := popped eg
    refine ⟨_, rfl, rfl, _, rfl, ?_⟩
    refine ifF (str_ne (by decide +kernel)) ?_
    refine ⟨_, rfl, _, _, _, _, _, rfl, W.op, T.c_Spots, T.n_Spots_forks, sp_forks, .inl ⟨rfl, _, SqL.of W.hF⟩, pop_ e1 ?_⟩
    refine ⟨_, rfl, rfl, _, rfl, ?_⟩
    refine ifT (str_eq rfl) ?_
    have sH : ∀ {H0 Hx : Hp} {o : HO}, Same (upd H0 a o) Hx → Hx a = some o := fun s => s a _ upd_same
    refine ⟨_, rfl, _, _, _, _, _, rfl, W1.op, T.c_Spots, T.n_Spots_here, sp_here, rfl, _, rfl, ?_⟩
    rw [oI_none]
    cases e : S.here with
    | none =>
      refine ifF rfl ?_
      refine ⟨_, rfl, _, _, _, _, _, rfl, (sH W1.same), T.c_Fork, T.n_Fork_other, fk_other, _, rfl, _, _, _, _, rfl, W1.op, T.c_Spots, T.n_Spots_here, (by show 7 < 1000; decide), ?_⟩
      have W2 := W1.obj (T := { S with forks := G, here := some f.o }) (d' := dx) rfl rfl rfl rfl rfl
      refine ⟨_, rfl, _, _, _, _, _, rfl, (sH W2.same), T.c_Fork, T.n_Fork_alive, fk_alive, _, rfl, _, _, _, _, rfl, W2.op, T.c_Spots, T.n_Spots_alive, (by show 7 < 1000; decide), ?_⟩
      have W3 := W2.obj (T := { S.join f.s with forks := G, here := some f.o, alive := f.alive }) (d' := dx) (by unfold Sx.join; rw [e]) (by unfold Sx.join; rw [e]) (by unfold Sx.join; rw [e]) (by unfold Sx.join; rw [e]) (by unfold Sx.join; rw [e])
      refine k _ (SpAt.drop (H1 := upd H0 a (.ins (ga K "Fork") d (fkV f))) ⟨dx, J, R, F, D, rs, fs0, jl, ?_⟩ (same_new h0 _))
      have e2 : spV J R F D { S.join f.s with forks := G, here := some f.o, alive := f.alive } = spV J R F D { S with forks := G, here := some f.o, alive := f.alive } := by unfold Sx.join; rw [e]
      rw [e2] at W3
      exact W3
    | some x =>
      refine ifT rfl ?_
      refine ⟨_, rfl, p, dx, _, rfl, W1.op, sp_no_put_together, _, rfl, _, _, _, _, _, rfl, W1.op, T.c_Spots, T.n_Spots_here, sp_here, _, rfl, _, _, _, _, _, rfl, (sH W1.same), T.c_Fork, T.n_Fork_start, fk_start, ?_⟩
      refine ⟨upd H0 a (.ins (ga K "Fork") d (fkV f)), p, { S with forks := G }, x, f.s, ?_, ⟨dx, J, R, F, D, rs, fs0, jl, W1⟩, ?_, ok.hr x e, (ok.fk f (by rw [eg]; simp)).1, fun H1 A1 => ?_⟩
      · show [V.ref p, oI S.here, _] = _
        rw [e]
        rfl
      · exact ⟨ok.two, ok.lt, ok.hi, ok.idem, ok.hr, fun g hg => ok.fk g (by rw [eg]; exact List.mem_append_left _ hg), ok.rw⟩
      · obtain ⟨dx, J, R, F, D, rs, fs, jl, W2⟩ := A1
        refine ⟨_, rfl, _, _, _, _, _, rfl, (sH W2.same), T.c_Fork, T.n_Fork_other, fk_other, _, rfl, _, _, _, _, rfl, W2.op, T.c_Spots, T.n_Spots_here, (by show 7 < 1000; decide), ?_⟩
        have W3 := W2.obj (T := { ({ S with forks := G } : Sx).un x f.s with here := some f.o }) (d' := dx) rfl rfl rfl rfl rfl
        refine ⟨_, rfl, _, _, _, _, _, rfl, (sH W3.same), T.c_Fork, T.n_Fork_alive, fk_alive, _, rfl, _, _, _, _, rfl, W3.op, T.c_Spots, T.n_Spots_alive, (by show 7 < 1000; decide), ?_⟩
        have W4 := W3.obj (T := { ({ S with forks := G } : Sx).un x f.s with here := some f.o, alive := f.alive }) (d' := dx) rfl rfl rfl rfl rfl
        have e2 : { S.join f.s with forks := G, here := some f.o, alive := f.alive } = { ({ S with forks := G } : Sx).un x f.s with here := some f.o, alive := f.alive } := by unfold Sx.join; rw [e]; rfl
        refine k _ (SpAt.drop (H1 := upd H0 a (.ins (ga K "Fork") d (fkV f))) ?_ (same_new h0 _))
        rw [e2]
        exact ⟨dx, J, R, F, D, rs, fs, jl, W4⟩
  | endi eg =>
    rename_i G f
    obtain ⟨fs0, a, d, e1, ha, h0, W1⟩ := popped eg
    refine ⟨_, rfl, rfl, _, rfl, ?_⟩
    refine ifF (str_ne (by decide +kernel)) ?_
    refine ⟨_, rfl, _, _, _, _, _, rfl, W.op, T.c_Spots, T.n_Spots_forks, sp_forks, .inl ⟨rfl, _, SqL.of W.hF⟩, pop_ e1 ?_⟩
    refine ⟨_, rfl, rfl, _, rfl, ?_⟩
    refine ifF (str_ne (by decide +kernel)) ?_
    have sH : ∀ {H0 Hx : Hp} {o : HO}, Same (upd H0 a o) Hx → Hx a = some o := fun s => s a _ upd_same
    -- the last step
    have fin : ∀ {Hx : Hp} {T0 : Sx}, SpAt K (upd H0 a (.ins (ga K "Fork") d (fkV f))) Hx p T0 → { T0 with alive := S.alive || f.passes } = { S.shut f with forks := G, alive := S.alive || f.passes } → T0.alive = S.alive →
        ∃ dx J R F D, Hx p = some (.ins (ga K "Spots") dx (spV J R F D T0)) ∧ Hx a = some (.ins (ga K "Fork") d (fkV f)) ∧ Q .non (upd Hx p (.ins (ga K "Spots") dx (putF ("alive" : Str) (.bl (S.alive || f.passes)) (spV J R F D T0)))) := by
      intro Hx T0 A0 e2 e3
      obtain ⟨dx, J, R, F, D, rs, fs, jl, W2⟩ := A0
      refine ⟨dx, J, R, F, D, W2.op, sH W2.same, ?_⟩
      have W3 := W2.obj (T := { T0 with alive := S.alive || f.passes }) (d' := dx) rfl rfl rfl rfl rfl
      rw [spV_alive]
      refine k _ (SpAt.drop (H1 := upd H0 a (.ins (ga K "Fork") d (fkV f))) ?_ (same_new h0 _))
      rw [← e2]
      exact ⟨dx, J, R, F, D, rs, fs, jl, W3⟩
    refine ⟨_, rfl, _, _, _, _, _, rfl, W1.op, T.c_Spots, T.n_Spots_here, sp_here, rfl, _, rfl, ?_⟩
    rw [oI_none]
    have A1 : SpAt K (upd H0 a (.ins (ga K "Fork") d (fkV f))) (upd H F (.lst (fs0.map V.ref))) p { S with forks := G } := ⟨dx, J, R, F, D, rs, fs0, jl, W1⟩
    cases e : S.here with
    | none =>
      refine ifT rfl ?_
      refine ⟨_, rfl, _, _, _, _, _, rfl, (sH W1.same), T.c_Fork, T.n_Fork_passed, fk_passed, _, rfl, _, _, _, _, rfl, W1.op, T.c_Spots, T.n_Spots_here, (by show 7 < 1000; decide), ?_⟩
      rw [spV_here]
      have W2 := W1.obj (T := { S with forks := G, here := f.passed }) (d' := dx) rfl rfl rfl rfl rfl
      have e2 : { S with forks := G, here := f.passed, alive := S.alive || f.passes } = { S.shut f with forks := G, alive := S.alive || f.passes } := by rw [shut_n e]
      obtain ⟨dx, J, R, F, D, hp, ha2, q⟩ := fin ⟨dx, J, R, F, D, rs, fs0, jl, W2⟩ e2 rfl
      refine ⟨_, rfl, _, _, _, _, _, rfl, hp, T.c_Spots, T.n_Spots_alive, sp_alive, _, rfl, ?_⟩
      rcases Bool.eq_false_or_eq_true S.alive with ea | ea
      · have e5 : (S.alive || f.passes) = true := by rw [ea] <;> rfl
        rw [e5] at q
        exact ifT ea ⟨_, rfl, _, _, _, _, rfl, hp, T.c_Spots, T.n_Spots_alive, (by show 7 < 1000; decide), q⟩
      · have e5 : (S.alive || f.passes) = f.passes := by rw [ea] <;> rfl
        rw [e5] at q
        exact ifF ea ⟨_, rfl, _, _, _, _, _, rfl, ha2, T.c_Fork, T.n_Fork_passes, fk_passes, _, rfl, _, _, _, _, rfl, hp, T.c_Spots, T.n_Spots_alive, (by show 7 < 1000; decide), q⟩
    | some x =>
      refine ifF rfl ?_
      refine ⟨_, rfl, _, _, _, _, _, rfl, (sH W1.same), T.c_Fork, T.n_Fork_passed, fk_passed, rfl, _, rfl, ?_⟩
      rw [oI_none]
      cases e4 : f.passed with
      | none =>
        refine ifF rfl ?_
        have e2 : { S with forks := G, alive := S.alive || f.passes } = { S.shut f with forks := G, alive := S.alive || f.passes } := by rw [shut_sn e e4]
        obtain ⟨dx, J, R, F, D, hp, ha2, q⟩ := fin A1 e2 rfl
        refine ⟨_, rfl, _, _, _, _, _, rfl, hp, T.c_Spots, T.n_Spots_alive, sp_alive, _, rfl, ?_⟩
        rcases Bool.eq_false_or_eq_true S.alive with ea | ea
        · have e5 : (S.alive || f.passes) = true := by rw [ea] <;> rfl
          rw [e5] at q
          exact ifT ea ⟨_, rfl, _, _, _, _, rfl, hp, T.c_Spots, T.n_Spots_alive, (by show 7 < 1000; decide), q⟩
        · have e5 : (S.alive || f.passes) = f.passes := by rw [ea] <;> rfl
          rw [e5] at q
          exact ifF ea ⟨_, rfl, _, _, _, _, _, rfl, ha2, T.c_Fork, T.n_Fork_passes, fk_passes, _, rfl, _, _, _, _, rfl, hp, T.c_Spots, T.n_Spots_alive, (by show 7 < 1000; decide), q⟩
      | some y =>
        refine ifT rfl ?_
        refine ⟨_, rfl, p, dx, _, rfl, W1.op, sp_no_put_together, _, rfl, _, _, _, _, _, rfl, (sH W1.same), T.c_Fork, T.n_Fork_passed, fk_passed, _, rfl, _, _, _, _, _, rfl, W1.op, T.c_Spots, T.n_Spots_here, sp_here, ?_⟩
        refine ⟨upd H0 a (.ins (ga K "Fork") d (fkV f)), p, { S with forks := G }, y, x, ?_, A1, ?_, (ok.fk f (by rw [eg]; simp)).2.2 y e4, ok.hr x e, fun H1 A2 => ?_⟩
        · show [V.ref p, oI f.passed, oI S.here] = _
          rw [e, e4]
          rfl
        · exact ⟨ok.two, ok.lt, ok.hi, ok.idem, ok.hr, fun g hg => ok.fk g (by rw [eg]; exact List.mem_append_left _ hg), ok.rw⟩
        · have e2 : { ({ S with forks := G } : Sx).un y x with alive := S.alive || f.passes } = { S.shut f with forks := G, alive := S.alive || f.passes } := by rw [shut_ss e e4] <;> rfl
          obtain ⟨dx, J, R, F, D, hp, ha2, q⟩ := fin A2 e2 rfl
          refine ⟨_, rfl, _, _, _, _, _, rfl, hp, T.c_Spots, T.n_Spots_alive, sp_alive, _, rfl, ?_⟩
          rcases Bool.eq_false_or_eq_true S.alive with ea | ea
          · have e5 : (S.alive || f.passes) = true := by rw [ea] <;> rfl
            rw [e5] at q
            exact ifT ea ⟨_, rfl, _, _, _, _, rfl, hp, T.c_Spots, T.n_Spots_alive, (by show 7 < 1000; decide), q⟩
          · have e5 : (S.alive || f.passes) = f.passes := by rw [ea] <;> rfl
            rw [e5] at q
            exact ifF ea ⟨_, rfl, _, _, _, _, _, rfl, ha2, T.c_Fork, T.n_Fork_passes, fk_passes, _, rfl, _, _, _, _, rfl, hp, T.c_Spots, T.n_Spots_alive, (by show 7 < 1000; decide), q⟩
end
end Fc

set_option Elab.async false
set_option linter.all false
set_option maxRecDepth 100000
set_option maxHeartbeats 4000000
namespace Fc
open PySem PySem.Spec PyProof.Rows L2 He
theorem pseq {t1 t2 : TS} {D : Ends} {σ : L2.St} {H : Hp} (R : Hp → Prop) (h1 : ∀ D' : Ends, (∀ H1, R H1 → D'.nx σ H1) → t1 D' σ H) (h2 : ∀ H1, R H1 → t2 D σ H1) : tSeq t1 t2 D σ H := h1 { D with nx := t2 D } h2
/-- x in (a, b) -/
theorem in2 {K : PySem.W.Frag} {w a b : Str} {σ : L2.St} {H : Hp} {i : Nat} {Q : VK} (hw : σ[i]? = some (some (.str w))) (k : ∀ t, H t = none → Q (.bl (decide (w = a ∨ w = b))) (upd H t (.tup [.str a, .str b]))) :
    tOp (rIn K false) (tVar i) (tTup (tCons (tC (.str a)) (tCons (tC (.str b)) tNil))) σ H Q := by
  refine ⟨_, hw, (by show 2 ≤ sizeLine; decide), fun t ht => ⟨t, _, rfl, .inr (SqT.of upd_same), rfl, rfl, ?_⟩⟩
  show Q (.bl (inV (.str w) [.str a, .str b])) _
  rw [inV2]
  exact k t ht
theorem nin2 {K : PySem.W.Frag} {w a b : Str} {σ : L2.St} {H : Hp} {i : Nat} {Q : VK} (hw : σ[i]? = some (some (.str w))) (k : ∀ t, H t = none → Q (.bl (!decide (w = a ∨ w = b))) (upd H t (.tup [.str a, .str b]))) :
    tOp (rIn K true) (tVar i) (tTup (tCons (tC (.str a)) (tCons (tC (.str b)) tNil))) σ H Q := by
  refine ⟨_, hw, (by show 2 ≤ sizeLine; decide), fun t ht => ⟨t, _, rfl, .inr (SqT.of upd_same), rfl, rfl, ?_⟩⟩
  show Q (.bl (!inV (.str w) [.str a, .str b])) _
  rw [inV2]
  exact k t ht
theorem mark_Sm {S : Sx} (h : S.Sm 14000000) (w : Str) (k : Nat) : (S.mark w k).Sm 15000000 := by
  obtain ⟨h1, h2, h3, h4⟩ := h
  unfold Sx.mark
  split
  · exact ⟨by omega, by omega, by omega, by omega⟩
  · refine ⟨by show S.n < _; omega, by show S.rows.length < _; omega, by show S.forks.length < _; omega, ?_⟩
    show (S.dead ++ [k]).length < _
    rw [List.length_append]
    show S.dead.length + 1 < _
    omega
section
variable {P : Program} {w : World} {K : PySem.W.Frag} {mg : Str → Option Value} {base : Heap}
theorem sc_Spots_take : FnScope ["self", "word", "at", "name"] ["self", "word", "at", "name"] (defScope (inClass (top 21) 11)) := ⟨rfl, rfl, rfl, by decide +kernel, rfl, by decide +kernel, by decide +kernel⟩
theorem m_take (T : Txt K mg) : Met P w K mg base CX0 4 "Spots" "take" ["self", "word", "at", "name"] (spTake K) := by
  have M_gone : Met P w K mg base CX0 3 "Spots" "gone" ["self", "word", "name", "at"] (spGone K) := m_gone T
  have M_asked : Met P w K mg base CX0 3 "Spots" "asked" ["self", "word", "name", "at"] (spAsked K) := m_asked T
  have M_turned : Met P w K mg base CX0 1 "Spots" "turned" ["self"] (spTurned K) := m_turned T
  have M_left : Met P w K mg base CX0 3 "Spots" "left" ["self", "goal"] (spLeft K) := m_left T
  have M_innermost : Met P w K mg base CX0 1 "Spots" "innermost" ["self"] (spInner K) := m_innermost T
  have M_closed : Met P w K mg base CX0 3 "Spots" "closed" ["self", "word"] (spClosed K) := m_closed T
  obtain ⟨fd, F⟩ := T.d_Spots_take
  refine ⟨⟨fd, fn0 F sc_Spots_take (fun vs H Q E h => ?_) (fun cdv A outer s H vs Q E hr h => ?_), FunD.bindsN F fun _ _ _ _ _ _ us hl => match us, hl with | [_, _, _, _], _ => rfl⟩, T.m_Spots_take, T.c_Spots⟩
  · obtain ⟨_, p, S, _, _, _, _, rfl, _⟩ := h
    rfl
  obtain ⟨H0, p, S, S', wd, n, at_, rfl, A, ok, hz, tk, k⟩ := h
  obtain ⟨dx, J, R, F, D, rs, fs, jl, W⟩ := id A
  refine ⟨_, (pss_cons (ps_if (PW.pt (pw_and (pt_not (pt_val (pe_fld (pv 0) rfl))) (pw_and1 (pt_cmpR op_notIn_seq (pv 1) (pe_tup (pa_cons pe_str (pa_cons pe_str pa_nil))) (by rfl)))))
      (pss_cons (ps_expr (pe_bm PySem.F.plainAttrs_list PySem.F.slot_list_append PySem.F.type_list_append mt_append (pe_fld (pv 0) rfl) (pa_cons (pv 2) pa_nil)))
      (pss_one (ps_fld (pv 0) (pe_and (pe_fld (pv 0) rfl) (pe_one (pe_cmpR op_in_seq (pv 1) (pe_tup (pa_cons pe_str (pa_cons pe_str pa_nil))) (by rfl)))) rfl)))
      pss_nil)
    (pss_one (ps_if (pt_cmpR op_in_seq (pv 1) (pe_tup (pa_cons pe_str (pa_cons pe_str pa_nil))) (by rfl))
      (pss_one (ps_expr (pmeth (pv 0) M_gone (hr.mono (by decide)) pass0 (pa_cons (pv 1) (pa_cons (pv 3) (pa_cons (pv 2) pa_nil))))))
      (pss_one (ps_if (pt_cmpR op_in_seq (pv 1) (pe_tup (pa_cons pe_str (pa_cons pe_str pa_nil))) (by rfl))
        (pss_one (ps_expr (pmeth (pv 0) M_asked (hr.mono (by decide)) pass0 (pa_cons (pv 1) (pa_cons (pv 3) (pa_cons (pv 2) pa_nil))))))
        (pss_one (ps_if (pt_cmpR op_eq (pv 1) pe_str (by rfl))
          (pss_one (ps_expr (pmeth0 (pv 0) M_turned (hr.mono (by decide)) pass0)))
          (pss_one (ps_if (pt_cmpR op_eq (pv 1) pe_str (by rfl))
            (pss_one (ps_expr (pmeth (pv 0) M_left (hr.mono (by decide)) pass0 (pa_cons (pmeth0 (pv 0) M_innermost (hr.mono (by decide)) pass0) pa_nil))))
            (pss_one (ps_if (pt_cmpR op_eq (pv 1) pe_str (by rfl))
              (pss_one (ps_expr (pmeth (pv 0) M_left (hr.mono (by decide)) pass0 (pa_cons pe_int pa_nil))))
              (pss_one (ps_expr (pmeth (pv 0) M_closed (hr.mono (by decide)) pass0 (pa_cons (pv 3) pa_nil))))))))))))))), ?_⟩
  refine pseq (fun H1 => SpAt K H0 H1 p (if wd = wElse ∨ wd = wEnd then S else S.mark wd at_)) (fun D' g => ?_) (fun H1 A1 => ?_)
  · -- the mark
    refine ⟨_, rfl, _, _, _, _, _, rfl, W.op, T.c_Spots, T.n_Spots_alive, sp_alive, _, rfl, ?_⟩
    rcases Bool.eq_false_or_eq_true S.alive with ea | ea
    · rw [ea]
      refine ifF rfl (ifF rfl ?_)
      refine g _ ?_
      have e1 : S.mark wd at_ = S := by
        unfold Sx.mark
        rw [if_pos ea]
      rw [e1, ite_self]
      exact A
    · rw [ea]
      refine ifT rfl ?_
      refine nin2 rfl fun t ht => ⟨_, rfl, ?_⟩
      by_cases q : wd = wElse ∨ wd = wEnd
      · rw [decide_eq_true q]
        refine ifF rfl (g _ ?_)
        rw [if_pos q]
        exact A.more (same_new ht _)
      · rw [decide_eq_false q]
        rw [if_neg q] at g
        refine ifT rfl ?_
        have W1 := W.grow (same_new ht (.tup [.str wElse, .str wEnd]))
        have dl : D ≠ t := ne_of_none W.hD ht
        refine ⟨_, rfl, _, _, _, _, _, rfl, W1.op, T.c_Spots, T.n_Spots_dead, sp_dead, .inl ⟨rfl, _, SqL.of W1.hD⟩, _, rfl, D, _, _, rfl, rfl, W1.hD, (by rw [nI_len]; exact Nat.lt_trans hz.2.2.2 (by decide)), ?_⟩
        have W2 := W1.dd (l := S.dead ++ [at_])
        have e2 : nI S.dead ++ [V.int (at_ : Int)] = nI (S.dead ++ [at_]) := by rw [nI_app] <;> rfl
        rw [e2]
        have fin : ∀ {Hx : Hp} {dx J R F D : Addr} {rs fs : List Addr} {jl : List Nat}, SpW K H0 Hx p { S with dead := S.dead ++ [at_] } dx J R F D rs fs jl → D'.nx [some (.ref p), some (.str wd), some (.int (at_ : Int)), some (.str n)] (upd Hx p (.ins (ga K "Spots") dx (spV J R F D { S with dead := S.dead ++ [at_], whole := S.whole && decide (wd = wLeave ∨ wd = wBack) }))) := fun {Hx dx J R F D rs fs jl} W3 => g _ (by
          have e1 : S.mark wd at_ = { S with dead := S.dead ++ [at_], whole := S.whole && decide (wd = wLeave ∨ wd = wBack) } := by
            unfold Sx.mark
            rw [if_neg (by rw [ea]; exact Bool.false_ne_true)]
          rw [e1]
          have W4 := W3.obj (T := { S with dead := S.dead ++ [at_], whole := S.whole && decide (wd = wLeave ∨ wd = wBack) }) (d' := dx) rfl rfl rfl rfl rfl
          exact ⟨_, _, _, _, _, _, _, _, W4⟩)
        refine ⟨_, rfl, _, _, _, _, _, rfl, W2.op, T.c_Spots, T.n_Spots_whole, sp_whole, _, rfl, ?_⟩
        rcases Bool.eq_false_or_eq_true S.whole with ew | ew
        · refine ifT ew ?_
          refine in2 rfl fun t2 ht2 => ?_
          have W3 := W2.grow (same_new ht2 (.tup [.str wLeave, .str wBack]))
          refine ⟨_, rfl, _, _, _, _, rfl, W3.op, T.c_Spots, T.n_Spots_whole, (by show 7 < 1000; decide), ?_⟩
          have f := fin W3
          rw [ew, Bool.true_and] at f
          rw [spV_whole]
          exact f
        · refine ifF ew ?_
          refine ⟨_, rfl, _, _, _, _, rfl, W2.op, T.c_Spots, T.n_Spots_whole, (by show 7 < 1000; decide), ?_⟩
          have f := fin W2
          rw [ew, Bool.false_and] at f
          rw [spV_whole]
          exact f
  · cases tk with
    | gone h =>
      have q : ¬ (wd = wElse ∨ wd = wEnd) := by
        rcases h with rfl | rfl <;> decide +kernel
      rw [if_neg q] at A1
      refine in2 rfl fun t ht => ⟨_, rfl, ifT (decide_eq_true h) ?_⟩
      have A2 := A1.more (same_new ht (.tup [.str wDo, .str wCall]))
      obtain ⟨dx, J, R, F, D, rs, fs, jl, W2⟩ := id A2
      obtain ⟨h1, h2, h3, h4, h5, h6⟩ := mark_same S wd at_
      have zz := mark_Sm hz wd at_
      exact ⟨_, rfl, p, dx, _, rfl, W2.op, sp_no_gone, _, rfl, _, rfl, _, rfl, H0, p, S.mark wd at_, wd, n, at_, rfl, A2, mark_ok ok wd at_, zz, k⟩
    | asked h =>
      have q : ¬ (wd = wElse ∨ wd = wEnd) := by
        rcases h with rfl | rfl <;> decide +kernel
      have q2 : ¬ (wd = wDo ∨ wd = wCall) := by
        rcases h with rfl | rfl <;> decide +kernel
      rw [if_neg q] at A1
      refine in2 rfl fun t ht => ⟨_, rfl, ifF (decide_eq_false q2) ?_⟩
      refine in2 rfl fun t2 ht2 => ⟨_, rfl, ifT (decide_eq_true h) ?_⟩
      have A2 := (A1.more (same_new ht (.tup [.str wDo, .str wCall]))).more (same_new ht2 (.tup [.str wIf, .str wWhile]))
      obtain ⟨dx, J, R, F, D, rs, fs, jl, W2⟩ := id A2
      exact ⟨_, rfl, p, dx, _, rfl, W2.op, sp_no_asked, _, rfl, _, rfl, _, rfl, H0, p, S.mark wd at_, wd, n, at_, rfl, A2, mark_ok ok wd at_, mark_Sm hz wd at_, k⟩
    | turned eg =>
      rw [if_pos (.inl rfl)] at A1
      refine in2 rfl fun t ht => ⟨_, rfl, ifF (by decide +kernel) ?_⟩
      refine in2 rfl fun t2 ht2 => ⟨_, rfl, ifF (by decide +kernel) ?_⟩
      refine ⟨_, rfl, rfl, _, rfl, ifT (str_eq rfl) ?_⟩
      have A2 := (A1.more (same_new ht (.tup [.str wDo, .str wCall]))).more (same_new ht2 (.tup [.str wIf, .str wWhile]))
      obtain ⟨dx, J, R, F, D, rs, fs, jl, W2⟩ := id A2
      exact ⟨_, rfl, p, dx, _, rfl, W2.op, sp_no_turned, H0, p, S, _, _, rfl, A2, eg, k⟩
    | leave hg =>
      rw [if_neg (by decide +kernel)] at A1
      refine in2 rfl fun t ht => ⟨_, rfl, ifF (by decide +kernel) ?_⟩
      refine in2 rfl fun t2 ht2 => ⟨_, rfl, ifF (by decide +kernel) ?_⟩
      refine ⟨_, rfl, rfl, _, rfl, ifF (str_ne (by decide +kernel)) ?_⟩
      refine ⟨_, rfl, rfl, _, rfl, ifT (str_eq rfl) ?_⟩
      have A2 := (A1.more (same_new ht (.tup [.str wDo, .str wCall]))).more (same_new ht2 (.tup [.str wIf, .str wWhile]))
      obtain ⟨dx, J, R, F, D, rs, fs, jl, W2⟩ := id A2
      obtain ⟨h1, h2, h3, h4, h5, h6⟩ := mark_same S wLeave at_
      have hl := inn_lt ok hg
      refine ⟨_, rfl, p, dx, _, rfl, W2.op, sp_no_left, ?_⟩
      refine ⟨_, rfl, p, dx, _, rfl, W2.op, sp_no_innermost, H0, p, S.mark wLeave at_, _, rfl, A2, mark_Sm hz wLeave at_, (by rw [h6]; exact hg), fun H3 A3 => ?_⟩
      exact ⟨H0, p, S.mark wLeave at_, _, rfl, A3, mark_ok ok wLeave at_, (by rw [h1]; exact Nat.lt_trans hz.1 (by decide)), (by rw [h1]; exact hl), k⟩
    | back =>
      rw [if_neg (by decide +kernel)] at A1
      refine in2 rfl fun t ht => ⟨_, rfl, ifF (by decide +kernel) ?_⟩
      refine in2 rfl fun t2 ht2 => ⟨_, rfl, ifF (by decide +kernel) ?_⟩
      refine ⟨_, rfl, rfl, _, rfl, ifF (str_ne (by decide +kernel)) ?_⟩
      refine ⟨_, rfl, rfl, _, rfl, ifF (str_ne (by decide +kernel)) ?_⟩
      refine ⟨_, rfl, rfl, _, rfl, ifT (str_eq rfl) ?_⟩
      have A2 := (A1.more (same_new ht (.tup [.str wDo, .str wCall]))).more (same_new ht2 (.tup [.str wIf, .str wWhile]))
      obtain ⟨dx, J, R, F, D, rs, fs, jl, W2⟩ := id A2
      obtain ⟨h1, h2, h3, h4, h5, h6⟩ := mark_same S wBack at_
      exact ⟨_, rfl, p, dx, _, rfl, W2.op, sp_no_left, H0, p, S.mark wBack at_, 1, rfl, A2, mark_ok ok wBack at_, (by rw [h1]; exact Nat.lt_trans hz.1 (by decide)), (by rw [h1]; exact ok.two), k⟩
    | endp =>
      rw [if_pos (.inr rfl)] at A1
      refine in2 rfl fun t ht => ⟨_, rfl, ifF (by decide +kernel) ?_⟩
      refine in2 rfl fun t2 ht2 => ⟨_, rfl, ifF (by decide +kernel) ?_⟩
      refine ⟨_, rfl, rfl, _, rfl, ifF (str_ne (by decide +kernel)) ?_⟩
      refine ⟨_, rfl, rfl, _, rfl, ifF (str_ne (by decide +kernel)) ?_⟩
      refine ⟨_, rfl, rfl, _, rfl, ifF (str_ne (by decide +kernel)) ?_⟩
      have A2 := (A1.more (same_new ht (.tup [.str wDo, .str wCall]))).more (same_new ht2 (.tup [.str wIf, .str wWhile]))
      obtain ⟨dx, J, R, F, D, rs, fs, jl, W2⟩ := id A2
      exact ⟨_, rfl, p, dx, _, rfl, W2.op, sp_no_closed, _, rfl, H0, p, S, _, _, at_, rfl, A2, ok, hz, .endp, k⟩
    | endw eg =>
      rw [if_pos (.inr rfl)] at A1
      refine in2 rfl fun t ht => ⟨_, rfl, ifF (by decide +kernel) ?_⟩
      refine in2 rfl fun t2 ht2 => ⟨_, rfl, ifF (by decide +kernel) ?_⟩
      refine ⟨_, rfl, rfl, _, rfl, ifF (str_ne (by decide +kernel)) ?_⟩
      refine ⟨_, rfl, rfl, _, rfl, ifF (str_ne (by decide +kernel)) ?_⟩
      refine ⟨_, rfl, rfl, _, rfl, ifF (str_ne (by decide +kernel)) ?_⟩
      have A2 := (A1.more (same_new ht (.tup [.str wDo, .str wCall]))).more (same_new ht2 (.tup [.str wIf, .str wWhile]))
      obtain ⟨dx, J, R, F, D, rs, fs, jl, W2⟩ := id A2
      exact ⟨_, rfl, p, dx, _, rfl, W2.op, sp_no_closed, _, rfl, H0, p, S, _, _, at_, rfl, A2, ok, hz, .endw eg, k⟩
    | endi eg =>
      rw [if_pos (.inr rfl)] at A1
      refine in2 rfl fun t ht => ⟨_, rfl, ifF (by decide +kernel) ?_⟩
      refine in2 rfl fun t2 ht2 => ⟨_, rfl, ifF (by decide +kernel) ?_⟩
      refine ⟨_, rfl, rfl, _, rfl, ifF (str_ne (by decide +kernel)) ?_⟩
      refine ⟨_, rfl, rfl, _, rfl, ifF (str_ne (by decide +kernel)) ?_⟩
      refine ⟨_, rfl, rfl, _, rfl, ifF (str_ne (by decide +kernel)) ?_⟩
      have A2 := (A1.more (same_new ht (.tup [.str wDo, .str wCall]))).more (same_new ht2 (.tup [.str wIf, .str wWhile]))
      obtain ⟨dx, J, R, F, D, rs, fs, jl, W2⟩ := id A2
      exact ⟨_, rfl, p, dx, _, rfl, W2.op, sp_no_closed, _, rfl, H0, p, S, _, _, at_, rfl, A2, ok, hz, .endi eg, k⟩
end
end Fc

set_option Elab.async false
set_option linter.all false
set_option maxRecDepth 100000
set_option maxHeartbeats 4000000
namespace Fc
open PySem PySem.Spec PyProof.Rows L2 He
/-! places -/
def Kn (kvs : List (Key × V)) (l : List Nat) : Prop := kvs.map (·.1) = l.map fun n : Nat => Sum.inl ((n : Nat) : Int)
theorem valV_some_mem {kvs : List (Key × V)} {k : Key} {v : V} (h : valV kvs k = some v) : k ∈ kvs.map (·.1) := by
  have a := valV_any k kvs
  rw [h] at a
  obtain ⟨p, hp, e⟩ := List.any_eq_true.mp (a.trans rfl)
  exact List.mem_map.mpr ⟨p, hp, of_decide_eq_true e⟩
theorem valV_none_mem {kvs : List (Key × V)} {k : Key} (h : valV kvs k = none) : k ∉ kvs.map (·.1) := fun hm => by
  obtain ⟨p, hp, e⟩ := List.mem_map.mp hm
  have a := valV_any k kvs
  rw [h] at a
  have b : (kvs.any fun kv => decide (kv.1 = k)) = true := List.any_eq_true.mpr ⟨p, hp, decide_eq_true e⟩
  rw [b] at a
  cases a
/-- the keys l: all that P holds of, each once -/
structure Ks (H : Hp) (d : Addr) (l : List Nat) (P : Nat → Prop) : Prop where
  ex : ∃ kvs, H d = some (.dK kvs) ∧ Kn kvs l
  nd : l.Nodup
  iff : ∀ x, x ∈ l ↔ P x
theorem kn_mem {kvs : List (Key × V)} {l : List Nat} (h : Kn kvs l) {n : Nat} : (Sum.inl ((n : Nat) : Int) : Key) ∈ kvs.map (·.1) ↔ n ∈ l := by
  rw [h]
  constructor
  · intro z
    obtain ⟨m, hm, e⟩ := List.mem_map.mp z
    injection e with e
    rw [← Int.ofNat.inj e]
    exact hm
  · exact fun z => List.mem_map.mpr ⟨n, z, rfl⟩
theorem kn_len {kvs : List (Key × V)} {l : List Nat} (h : Kn kvs l) : kvs.length = l.length := by
  have e := congrArg List.length h
  rw [List.length_map, List.length_map] at e
  exact e
/-- known.setdefault(n, v) -/
theorem setd {H : Hp} {d : Addr} {l : List Nat} {P : Nat → Prop} {n : Nat} {z : V} {Nx : Hp → Prop} (h : Ks H d l P) (hl : l.length < sizeLine)
    (g : ∀ H' l', (∀ b, b ≠ d → H' b = H b) → Ks H' d l' (fun x => P x ∨ x = n) → l'.length ≤ l.length + 1 → Nx H') :
    ∃ (kvs : List (Key × V)) (k : Key), H d = some (.dK kvs) ∧ V.int ((n : Nat) : Int) = kV k ∧ kvs.length < sizeLine ∧ (∀ v, valV kvs k = some v → Nx H) ∧ (valV kvs k = none → Nx (upd H d (.dK (putK kvs k z)))) := by
  obtain ⟨⟨kvs, e, kn⟩, nd, iff⟩ := h
  refine ⟨kvs, .inl ((n : Nat) : Int), e, rfl, by rw [kn_len kn]; exact hl, fun v hv => ?_, fun hv => ?_⟩
  · have hm : n ∈ l := (kn_mem kn).mp (valV_some_mem hv)
    refine g H l (fun _ _ => rfl) ⟨⟨kvs, e, kn⟩, nd, fun x => ?_⟩ (Nat.le_succ _)
    rw [iff x]
    exact ⟨.inl, fun h => h.elim id fun q => by rw [q]; exact (iff n).mp hm⟩
  · have hm : n ∉ l := fun q => valV_none_mem hv ((kn_mem kn).mpr q)
    rw [putK_new _ hv]
    refine g _ (l ++ [n]) (fun b hb => upd_ne hb) ⟨⟨_, upd_same, ?_⟩, ?_, fun x => ?_⟩ (by rw [List.length_append] <;> exact Nat.le_refl _)
    · unfold Kn
      rw [List.map_append, List.map_append, kn]
      rfl
    · refine List.nodup_append.mpr ⟨nd, List.nodup_cons.mpr ⟨(fun h => nomatch h), List.nodup_nil⟩, fun a ha b hb e => hm ?_⟩
      rw [← List.mem_singleton.mp hb, ← e]
      exact ha
    · rw [List.mem_append, List.mem_singleton, iff x]
def spPlaces (K : PySem.W.Frag) : L2.Sp := fun vs H Q _ => ∃ (H0 : Hp) (p : Addr) (S : Sx), vs = [.ref p] ∧ SpAt K H0 H p S ∧ S.Ok ∧ S.Cov ∧ S.rows.length < 1000000 ∧ ∀ H' d kvs, Same H H' → H' d = some (.dK kvs) → kvs.length = S.cc → Q (.ref d) H'
section
variable {P : Program} {w : World} {K : PySem.W.Frag} {mg : Str → Option Value} {base : Heap}
theorem sc_Spots_places : FnScope ["self", "known", "word", "name", "at", "start", "goal"] ["self"] (defScope (inClass (top 21) 12)) := ⟨rfl, rfl, rfl, by decide +kernel, rfl, by decide +kernel, by decide +kernel⟩
theorem m_places (T : Txt K mg) : Met P w K mg base CX0 2 "Spots" "places" ["self"] (spPlaces K) := by
  have M_root : Met P w K mg base CX0 1 "Spots" "root" ["self", "spot"] (spRoot K) := m_root T
  obtain ⟨fd, F⟩ := T.d_Spots_places
  refine ⟨⟨fd, fn0 F sc_Spots_places (fun vs H Q E h => ?_) (fun cdv A outer s H vs Q E hr h => ?_), FunD.bindsN F fun _ _ _ _ _ _ us hl => match us, hl with | [_], _ => rfl⟩, T.m_Spots_places, T.c_Spots⟩
  · obtain ⟨_, p, S, rfl, _⟩ := h
    rfl
  obtain ⟨H0, p, S, rfl, A, ok, cov, hz, k⟩ := h
  refine ⟨_, (pss_cons (ps_set (i := 1) sc_Spots_places.nd rfl (.inl rfl) pe_dnewK)
    (pss_cons (ps_dput (hu_of hr) (pv 1) (pmeth (pv 0) M_root (hr.mono (by decide)) pass0 (pa_cons pe_int pa_nil)) pe_int rfl)
    (pss_cons (ps_expr (pe_dsetd (pv 1) (pmeth (pv 0) M_root (hr.mono (by decide)) pass0 (pa_cons pe_int pa_nil)) pe_int ⟨rfl, rfl, rfl, rfl⟩))
    (pss_cons (ps_for PassesOwn.never rfl (pi_list (pe_fld (pv 0) rfl)) (pg_tup rfl (pgs_cons (pg_name (i := 2) sc_Spots_places.nd rfl (.inl rfl)) (pgs_cons (pg_name (i := 3) sc_Spots_places.nd rfl (.inl rfl)) (pgs_cons (pg_name (i := 4) sc_Spots_places.nd rfl (.inl rfl)) (pgs_cons (pg_name (i := 5) sc_Spots_places.nd rfl (.inl rfl)) (pgs_cons (pg_name (i := 6) sc_Spots_places.nd rfl (.inl rfl)) pgs_nil))))))
      (pss_cons (ps_expr (pe_dsetd (pv 1) (pmeth (pv 0) M_root (hr.mono (by decide)) pass0 (pa_cons (pv 5) pa_nil)) (pe_callB call_lenD (by rfl) T.z_len PySem.boot_len (pa_cons (pv 1) pa_nil)) ⟨rfl, rfl, rfl, rfl⟩))
      (pss_one (ps_expr (pe_dsetd (pv 1) (pmeth (pv 0) M_root (hr.mono (by decide)) pass0 (pa_cons (pv 6) pa_nil)) (pe_callB call_lenD (by rfl) T.z_len PySem.boot_len (pa_cons (pv 1) pa_nil)) ⟨rfl, rfl, rfl, rfl⟩)))))
    (pss_one (ps_ret (pv 1))))))), ?_⟩
  refine fun d hd => ?_
  have two := ok.two
  obtain ⟨dx, J, R, F, D, rs, fs, jl, W⟩ := id A
  have hu : upd H d (.dK []) d = some (.dK []) := upd_same
  have A1 := A.more (same_new hd (.dK []))
  have W1 := W.grow (same_new hd (.dK []))
  -- root(0), root(1)
  refine ⟨_, rfl, _, rfl, p, dx, _, rfl, W1.op, sp_no_root, H0, p, S, 0, rfl, A1, by omega, ?_⟩
  refine ⟨d, _, rfl, .inl ⟨[], .inl ((S.rep 0 : Nat) : Int), hu, rfl, by show 0 < sizeLine; decide, rfl⟩, ?_⟩
  have base_ : ∀ {H' : Hp}, (∀ b, b ≠ d → H' b = H b) → Same H H' := fun e b u q => by rw [e b (ne_of_none q hd)]; exact q
  generalize h1 : upd (upd H d (.dK [])) d (.dK (putK [] (.inl ((S.rep 0 : Nat) : Int)) (V.int 0))) = H1
  have e1 : ∀ b, b ≠ d → H1 b = H b := fun b hb => by rw [← h1, upd_ne hb, upd_ne hb]
  have k1 : Ks H1 d [S.rep 0] (fun x => x = S.rep 0) := ⟨⟨putK [] (.inl ((S.rep 0 : Nat) : Int)) (V.int 0), by rw [← h1]; exact upd_same, rfl⟩, by simp, fun x => by simp⟩
  obtain ⟨kvs1, f1, _⟩ := k1.ex
  refine ⟨_, rfl, d, rfl, .inl ⟨kvs1, .inl f1⟩, ?_⟩
  have W2 := W.grow (base_ e1)
  refine ⟨_, rfl, p, dx, _, rfl, W2.op, sp_no_root, H0, p, S, 1, rfl, A.more (base_ e1), by omega, ?_⟩
  refine setd k1 (by show 1 < sizeLine; decide) fun H2 l2 e2 k2 z2 => ?_
  have e2' : ∀ b, b ≠ d → H2 b = H b := fun b hb => (e2 b hb).trans (e1 b hb)
  have W3 := W.grow (base_ e2')
  refine ⟨_, rfl, _, _, _, _, _, rfl, W3.op, T.c_Spots, T.n_Spots_rows, sp_rows, R, rfl, ⟨_, SqL.of W3.hR⟩, ?_⟩
  have lr : rs.length = S.rows.length := Paired.len W.rw_
  refine for_list (xs := rs.map V.ref) (fun i σ H' => ∃ (a b c e f : Option V) (l : List Nat), σ = [some (.ref p), some (.ref d), a, b, c, e, f] ∧ (∀ b, b ≠ d → H' b = H b) ∧ Ks H' d l (fun x => ∃ t, InR (S.rows.take i) t ∧ x = S.rep t) ∧ l.length ≤ 2 + 2 * i ∧ i ≤ rs.length) ?_ ?_ ?_ ?_
  · refine ⟨none, none, none, none, none, l2, rfl, e2', ⟨k2.ex, k2.nd, fun x => ?_⟩, z2, Nat.zero_le _⟩
    rw [k2.iff x]
    constructor
    · rintro (q | q)
      · exact ⟨0, .inl rfl, q⟩
      · exact ⟨1, .inr (.inl rfl), q⟩
    · rintro ⟨t, (rfl | rfl | ⟨r, hr, _⟩), q⟩
      · exact .inl q
      · exact .inr q
      · exact absurd hr (by simp)
  · rintro i σ H' _ ⟨a, b, c, e, f, l, rfl, e3, _⟩
    exact SqL.of (W.grow (base_ e3)).hR
  · rintro i x σ H' hx ⟨a, b, c, e, f, l, rfl, e3, k3, z3, i3⟩
    rw [List.getElem?_map] at hx
    cases ei : rs[i]? with
    | none => rw [ei] at hx; cases hx
    | some y =>
      rw [ei] at hx
      cases hx
      have W4 := W.grow (base_ e3)
      obtain ⟨r, er, hy⟩ := Paired.get W4.rw_ ei
      have hlt : i < rs.length := (List.getElem?_eq_some_iff.mp ei).1
      have hrm := List.mem_of_getElem? er
      obtain ⟨rs1, rg1⟩ := ok.rw r hrm
      refine ⟨y, _, rfl, SqT.of hy, rfl, _, _, rfl, _, _, rfl, _, _, rfl, _, _, rfl, _, _, rfl, rfl, ?_⟩
      obtain ⟨kv3, f3, kn3⟩ := k3.ex
      refine ⟨_, rfl, d, rfl, .inl ⟨kv3, .inl f3⟩, ?_⟩
      refine ⟨_, rfl, p, dx, _, rfl, W4.op, sp_no_root, _, rfl, H0, p, S, r.s, rfl, A.more (base_ e3), rs1, ?_⟩
      refine ⟨_, rfl, d, kv3, rfl, f3, ?_⟩
      have bd : ∀ {m : Nat}, m ≤ 2 + 2 * rs.length → m + 2 < sizeLine := fun h => Nat.lt_of_le_of_lt (Nat.add_le_add_right (Nat.le_trans h (Nat.add_le_add_left (Nat.mul_le_mul_left 2 (by rw [lr]; exact Nat.le_of_lt hz)) 2)) 2) (by decide)
      have b3 := bd (Nat.le_trans z3 (by omega))
      refine setd k3 (by omega) fun H4 l4 e4 k4 z4 => ?_
      have e4' : ∀ b, b ≠ d → H4 b = H b := fun b hb => (e4 b hb).trans (e3 b hb)
      have W5 := W.grow (base_ e4')
      obtain ⟨kv4, f4, kn4⟩ := k4.ex
      refine ⟨_, rfl, d, rfl, .inl ⟨kv4, .inl f4⟩, ?_⟩
      refine ⟨_, rfl, p, dx, _, rfl, W5.op, sp_no_root, _, rfl, H0, p, S, r.g, rfl, A.more (base_ e4'), rg1, ?_⟩
      refine ⟨_, rfl, d, kv4, rfl, f4, ?_⟩
      refine setd k4 (by omega) fun H5 l5 e5 k5 z5 => ?_
      refine ⟨_, _, _, _, _, l5, rfl, fun b hb => (e5 b hb).trans (e4' b hb), ⟨k5.ex, k5.nd, fun x => ?_⟩, by omega, hlt⟩
      rw [k5.iff x]
      have tk : S.rows.take (i + 1) = S.rows.take i ++ [r] := by
        rw [List.take_add_one, er]
        rfl
      rw [tk]
      constructor
      · rintro ((⟨t, ht, q⟩ | q) | q)
        · exact ⟨t, ht.left, q⟩
        · exact ⟨r.s, .inr (.inr ⟨r, List.mem_append_right _ (List.mem_singleton.mpr rfl), .inl rfl⟩), q⟩
        · exact ⟨r.g, .inr (.inr ⟨r, List.mem_append_right _ (List.mem_singleton.mpr rfl), .inr rfl⟩), q⟩
      · rintro ⟨t, (rfl | rfl | ⟨r', hr', h'⟩), q⟩
        · exact .inl (.inl ⟨0, .inl rfl, q⟩)
        · exact .inl (.inl ⟨1, .inr (.inl rfl), q⟩)
        · rcases List.mem_append.mp hr' with hr' | hr'
          · exact .inl (.inl ⟨t, .inr (.inr ⟨r', hr', h'⟩), q⟩)
          · rw [List.mem_singleton.mp hr'] at h'
            rcases h' with h' | h'
            · exact .inl (.inr (by rw [q, h']))
            · exact .inr (by rw [q, h'])
  · rintro σ H' ⟨a, b, c, e, f, l, rfl, e3, k3, z3, i3⟩
    obtain ⟨kv3, f3, kn3⟩ := k3.ex
    rw [List.length_map, lr, List.take_length] at k3
    exact ⟨_, rfl, k H' d kv3 (base_ e3) f3 ((kn_len kn3).trans (places_len ok cov k3.nd k3.iff))⟩
end
end Fc

set_option Elab.async false
set_option linter.all false
set_option maxRecDepth 100000
set_option maxHeartbeats 4000000
namespace Fc
open PySem PySem.Spec PyProof.Rows L2 He
/-! the reader -/
theorem for_str {x : Str} {g : TG} {tb : TS} {D : Ends} {σ : L2.St} {H : Hp} (Pv : Nat → L2.St → Hp → Prop) (h0 : Pv 0 σ H)
    (hs : ∀ i c σ H, x.cps[i]? = some c → Pv i σ H → g (.str ⟨#[c]⟩) σ H fun σ2 H2 => tb { D with nx := Pv (i + 1), ct := Pv (i + 1), bk := D.nx } σ2 H2) (hd : ∀ σ H, Pv x.cps.size σ H → D.nx σ H) :
    ∃ W : Nat → Nat → L2.St → Hp → Prop, (∃ m, W 0 m σ H) ∧ ∀ i m σ H, W i m σ H →
      ((Its x).stop i H ∧ D.nx σ H) ∨ ((Its x).go i H ∧ ∃ N : L2.St → Hp → Prop, (∀ σ' H', N σ' H' → ∃ m', m' < m ∧ W (i + 1) m' σ' H') ∧ ∀ v H', (Its x).yld i H v H' → g v σ H' fun σ2 H2 => tb { D with nx := N, ct := N, bk := D.nx } σ2 H2) := by
  refine ⟨fun i m σ H => m = x.cps.size - i ∧ i ≤ x.cps.size ∧ Pv i σ H, ⟨x.cps.size, by simp, Nat.zero_le _, h0⟩, ?_⟩
  rintro i m σ H ⟨rfl, hi, p⟩
  by_cases hlt : i < x.cps.size
  · refine .inr ⟨hlt, Pv (i + 1), fun σ' H' p' => ⟨x.cps.size - (i + 1), by omega, rfl, hlt, p'⟩, fun v H' y => ?_⟩
    obtain ⟨e, c, ec, ev⟩ := y
    subst e ev
    exact hs i c σ _ ec p
  · have e : i = x.cps.size := by omega
    subst e
    exact .inl ⟨Nat.le_refl _, hd σ H p⟩
abbrev ABC : Str := "abcdefghijklmnopqrstuvwxyz"
theorem abc_mem : ∀ c : Nat, 97 ≤ c ∧ c ≤ 122 → c ∈ ABC.cps.toList := by
  rintro c ⟨h1, h2⟩
  have e : ∃ i, i < 26 ∧ c = 97 + i := ⟨c - 97, by omega, by omega⟩
  obtain ⟨i, hi, rfl⟩ := e
  have all : ∀ i, i < 26 → 97 + i ∈ ABC.cps.toList := by decide +kernel
  exact all i hi
def spName : L2.Sp := fun vs H Q _ => ∃ n : Str, vs = [.str n] ∧ Nm n ∧ Q (.bl true) H
def StepAt (H : Hp) (a : Addr) (s : Step) : Prop := H a = some (.tup [.str s.w, .int (s.k : Int), .str s.n])
def sS (l : List Str) : List V := l.map V.str
theorem sS_len (l : List Str) : (sS l).length = l.length := List.length_map _
theorem sS_app (l m : List Str) : sS (l ++ m) = sS l ++ sS m := List.map_append
structure RdW (K : PySem.W.Frag) (H0 H : Hp) (p : Addr) (ws : List Str) (k : Nat) (op : List Str) (tk : List Step) (dx A B C : Addr) (ts : List Addr) : Prop where
  same : Same H0 H
  op_ : H p = some (.ins (ga K "Reader") dx (rdF (.ref A) (.int (k : Int)) (.ref B) (.ref C)))
  hA : H A = some (.lst (sS ws))
  hB : H B = some (.lst (sS op))
  hC : H C = some (.lst (ts.map V.ref))
  tks : Paired (StepAt H) ts tk
  p0 : H0 p = none
  A0 : H0 A = none
  B0 : H0 B = none
  C0 : H0 C = none
  AB : A ≠ B
  AC : A ≠ C
  BC : B ≠ C
  ol : op.length ≤ k
  tl : tk.length ≤ k
def RdAt (K : PySem.W.Frag) (H0 H : Hp) (p : Addr) (ws : List Str) (k : Nat) (op : List Str) (tk : List Step) : Prop := ∃ dx A B C ts, RdW K H0 H p ws k op tk dx A B C ts
section
variable {K : PySem.W.Frag} {H0 H : Hp} {p dx A B C : Addr} {ws op : List Str} {k : Nat} {tk : List Step} {ts : List Addr}
theorem RdW.keep {x : Addr} {o u : HO} (W : RdW K H0 H p ws k op tk dx A B C ts) (hx : H x = some u) (hu : ∀ xs, u ≠ .tup xs) : Paired (StepAt (upd H x o)) ts tk :=
  Paired.imp (fun a b h => by
    have n : a ≠ x := ne_of h hx (fun z => hu _ z.symm)
    show upd H x o a = _
    rw [upd_ne n]
    exact h) W.tks
theorem RdW.pA (W : RdW K H0 H p ws k op tk dx A B C ts) : p ≠ A := ne_of W.op_ W.hA ins_lst
theorem RdW.pB (W : RdW K H0 H p ws k op tk dx A B C ts) : p ≠ B := ne_of W.op_ W.hB ins_lst
theorem RdW.pC (W : RdW K H0 H p ws k op tk dx A B C ts) : p ≠ C := ne_of W.op_ W.hC ins_lst
/-- the place moves on -/
theorem RdW.at_ (W : RdW K H0 H p ws k op tk dx A B C ts) {d' : Addr} {k' : Nat} (h : k ≤ k') : RdW K H0 (upd H p (.ins (ga K "Reader") d' (rdF (.ref A) (.int (k' : Int)) (.ref B) (.ref C)))) p ws k' op tk d' A B C ts where
  same := same_upd W.same W.p0
  op_ := upd_same
  hA := by rw [upd_ne W.pA.symm]; exact W.hA
  hB := by rw [upd_ne W.pB.symm]; exact W.hB
  hC := by rw [upd_ne W.pC.symm]; exact W.hC
  tks := W.keep W.op_ fun _ => ins_tup
  p0 := W.p0
  A0 := W.A0
  B0 := W.B0
  C0 := W.C0
  AB := W.AB
  AC := W.AC
  BC := W.BC
  ol := Nat.le_trans W.ol h
  tl := Nat.le_trans W.tl h
/-- what stands open changes -/
theorem RdW.opn (W : RdW K H0 H p ws k op tk dx A B C ts) {op' : List Str} (h : op'.length ≤ k) : RdW K H0 (upd H B (.lst (sS op'))) p ws k op' tk dx A B C ts where
  same := same_upd W.same W.B0
  op_ := by rw [upd_ne W.pB]; exact W.op_
  hA := by rw [upd_ne W.AB]; exact W.hA
  hB := upd_same
  hC := by rw [upd_ne W.BC.symm]; exact W.hC
  tks := W.keep W.hB fun _ => lst_tup
  p0 := W.p0
  A0 := W.A0
  B0 := W.B0
  C0 := W.C0
  AB := W.AB
  AC := W.AC
  BC := W.BC
  ol := h
  tl := W.tl
theorem RdW.grow {H' : Hp} (W : RdW K H0 H p ws k op tk dx A B C ts) (s : Same H H') : RdW K H0 H' p ws k op tk dx A B C ts :=
  ⟨W.same.trans s, s _ _ W.op_, s _ _ W.hA, s _ _ W.hB, s _ _ W.hC, Paired.imp (fun a b h => s _ _ h) W.tks, W.p0, W.A0, W.B0, W.C0, W.AB, W.AC, W.BC, W.ol, W.tl⟩
/-- a step more, and the place moves on -/
theorem RdW.step (W : RdW K H0 H p ws k op tk dx A B C ts) {t d' : Addr} {s : Step} {k' : Nat} (ht : StepAt H t s) (h : k < k') :
    RdW K H0 (upd (upd H C (.lst ((ts ++ [t]).map V.ref))) p (.ins (ga K "Reader") d' (rdF (.ref A) (.int (k' : Int)) (.ref B) (.ref C)))) p ws k' op (tk ++ [s]) d' A B C (ts ++ [t]) := by
  have pr : Paired (StepAt (upd H C (.lst ((ts ++ [t]).map V.ref)))) (ts ++ [t]) (tk ++ [s]) := Paired.app (W.keep W.hC fun _ => lst_tup) (.cons (by
    have n : t ≠ C := ne_of ht W.hC tup_lst
    show upd H C _ t = _
    rw [upd_ne n]
    exact ht) .nil)
  refine ⟨same_upd (same_upd W.same W.C0) W.p0, upd_same, by rw [upd_ne W.pA.symm, upd_ne W.AC]; exact W.hA, by rw [upd_ne W.pB.symm, upd_ne W.BC]; exact W.hB, by rw [upd_ne W.pC.symm, upd_same], ?_, W.p0, W.A0, W.B0, W.C0, W.AB, W.AC, W.BC, Nat.le_trans W.ol (Nat.le_of_lt h), ?_⟩
  · exact Paired.imp (fun a b q => by
      have n : a ≠ p := ne_of q (by rw [upd_ne W.pC]; exact W.op_) (fun z => ins_tup z.symm)
      show upd _ p _ a = _
      rw [upd_ne n]
      exact q) pr
  · rw [List.length_append]
    have z := W.tl
    show tk.length + 1 ≤ k'
    omega
end
def spReader (K : PySem.W.Frag) : L2.Sp := fun vs H Q _ => ∃ (H0 : Hp) (x dx : Addr) (t : Str) (ws : List Str), vs = [.ref x, .str t] ∧ Same H0 H ∧ H0 x = none ∧ H x = some (.ins (ga K "Reader") dx []) ∧ t.length + 2 ≤ sizeLine ∧ Txt.split t " " = ws ∧ ∀ H', RdAt K H0 H' x ws 0 [] [] → Q .non H'
def spNamed (K : PySem.W.Frag) : L2.Sp := fun vs H Q _ => ∃ (H0 : Hp) (p : Addr) (ws op : List Str) (k : Nat) (tk : List Step) (w n : Str), vs = [.ref p, .str w] ∧ RdAt K H0 H p ws k op tk ∧ ws.length < 1000000 ∧ ws[k + 1]? = some n ∧ Nm n ∧ ∀ H', RdAt K H0 H' p ws (k + 2) op (tk ++ [⟨w, k, n⟩]) → Q .non H'
def spBare (K : PySem.W.Frag) : L2.Sp := fun vs H Q _ => ∃ (H0 : Hp) (p : Addr) (ws op : List Str) (k : Nat) (tk : List Step) (w n : Str), vs = [.ref p, .str w, .str n] ∧ RdAt K H0 H p ws k op tk ∧ k < 1000000 ∧ ∀ H', RdAt K H0 H' p ws (k + 1) op (tk ++ [⟨w, k, n⟩]) → Q .non H'
section
variable {P : Program} {w : World} {K : PySem.W.Frag} {mg : Str → Option Value} {base : Heap}
theorem sc_is_name : FnScope ["word", "sign"] ["word"] (defScope (top 28)) := ⟨rfl, rfl, rfl, by decide +kernel, rfl, by decide +kernel, by decide +kernel⟩
theorem c_is_name (T : Txt K mg) : Cal P w K mg base CX0 1 "is_name" ["word"] spName := by
  obtain ⟨fd, F⟩ := T.d_is_name
  refine ⟨⟨fd, fn0 F sc_is_name (fun vs H Q E h => ?_) (fun cdv A outer s H vs Q E hr h => ?_), FunD.bindsN F fun _ _ _ _ _ _ us hl => match us, hl with | [_], _ => rfl⟩, T.k_is_name, T.g_is_name⟩
  · obtain ⟨n, rfl, _⟩ := h
    rfl
  obtain ⟨n, rfl, ⟨h1, h8, hc⟩, k⟩ := h
  refine ⟨_, (pss_cons (ps_if (PW.pt (pw_or (pt_cmpR op_lt (pe_callB call_len_str (by rfl) T.z_len PySem.boot_len (pa_cons (pv 0) pa_nil)) pe_int (by rfl)) (pw_or1 (pt_cmpR op_gt (pe_callB call_len_str (by rfl) T.z_len PySem.boot_len (pa_cons (pv 0) pa_nil)) (pe_glob (v := .int 8) rfl T.i_LONGEST.choose_spec ⟨_, rfl⟩) (by rfl)))))
      (pss_one (ps_ret pe_bl))
      pss_nil)
    (pss_cons (ps_for PassesOwn.never rfl (pi_str (pv 0)) (pg_name (i := 1) sc_is_name.nd rfl (.inl rfl))
      (pss_one (ps_if (pt_cmpR op_notIn_sign (pv 1) (pe_glob (v := .str "abcdefghijklmnopqrstuvwxyz") rfl T.s_LETTERS.choose_spec ⟨_, rfl⟩) (by rfl))
        (pss_one (ps_ret pe_bl))
        pss_nil)))
    (pss_one (ps_ret pe_bl)))), ?_⟩
  have hz : n.length ≤ sizeLine := Nat.le_trans (show n.cps.size ≤ 8 from h8) (by decide)
  refine ⟨_, rfl, n, rfl, hz, _, _, rfl, rfl, _, rfl, ?_⟩
  refine ifF (decide_eq_false (by show ¬ ((n.cps.size : Int) < 1); omega)) ?_
  refine ⟨_, rfl, n, rfl, hz, _, _, rfl, rfl, _, rfl, ?_⟩
  refine ifF (decide_eq_false (by show ¬ ((8 : Int) < (n.cps.size : Int)); omega)) ?_
  refine ⟨_, rfl, n, rfl, ?_⟩
  refine for_str (fun i σ H' => H' = H ∧ ∃ b, σ = [some (.str n), b]) ⟨rfl, none, rfl⟩ ?_ ?_
  · rintro i c σ H' ec ⟨rfl, b, rfl⟩
    refine ⟨_, rfl, c, ABC, rfl, rfl, _, rfl, ?_⟩
    have hm : c ∈ n.cps.toList := by
      rw [← Array.getElem?_toList] at ec
      exact List.mem_of_getElem? ec
    refine ifF ?_ ⟨rfl, _, rfl⟩
    rw [decide_eq_true (abc_mem c (hc c hm))]
    rfl
  · rintro σ H' ⟨rfl, b, rfl⟩
    exact k
end
end Fc

set_option Elab.async false
set_option linter.all false
set_option maxRecDepth 100000
set_option maxHeartbeats 4000000
namespace Fc
open PySem PySem.Spec PyProof.Rows L2 He
def OkOp (l : List Str) : Prop := ∀ x ∈ l, x = wPart ∨ x = wIf ∨ x = wElse ∨ x = wWhile
theorem OkOp.push {l : List Str} {x : Str} (h : OkOp l) (hx : x = wPart ∨ x = wIf ∨ x = wElse ∨ x = wWhile) : OkOp (l ++ [x]) := fun y hy => by
  rcases List.mem_append.mp hy with hy | hy
  · exact h y hy
  · rw [List.mem_singleton.mp hy]
    exact hx
theorem Tk.okop {ws : List Str} {k k' : Nat} {op op' : List Str} {s : Step} (h : Tk ws k op k' op' s) (o : OkOp op) : OkOp op' := by
  cases h with
  | part _ _ _ => exact fun y hy => .inl (List.mem_singleton.mp hy)
  | ask _ h _ _ _ => exact o.push (h.elim (fun h => .inr (.inl h)) fun h => .inr (.inr (.inr h)))
  | go _ _ _ _ _ => exact o
  | els _ => exact OkOp.push (fun y hy => o y (List.mem_append_left _ hy)) (.inr (.inr (.inl rfl)))
  | en _ _ => exact fun y hy => o y (List.mem_append_left _ hy)
  | bk _ _ => exact o
  | lv _ _ => exact o
theorem shaped_op {l : List Str} (h : OkOp l) : SeqAt.shaped (.list (l.map PyData.str)) = true := by
  have a : PyData.canLayAll0 (l.map PyData.str) = true ∧ PyData.depthAll (l.map PyData.str) = 0 := by
    induction l with
    | nil => exact ⟨by simp only [List.map_nil, PyData.canLayAll0], by simp only [List.map_nil, PyData.depthAll]⟩
    | cons x r ih =>
      obtain ⟨h1, h2⟩ := ih fun y hy => h y (List.mem_cons_of_mem _ hy)
      have sx : PyData.strOk x = true := by
        rcases h x (List.mem_cons_self ..) with e | e | e | e <;> rw [e] <;> decide +kernel
      rw [List.map_cons, PyData.canLayAll0, PyData.depthAll, h1, h2]
      refine ⟨?_, ?_⟩
      · simp only [PyData.canLay0, sx, Bool.and_true]
      · simp only [PyData.depth, Nat.max_self]
  unfold SeqAt.shaped
  simp only [PyData.canLay0, PyData.depth, a.1, a.2, Bool.true_and]
  decide
theorem dpAll_strs {K : PySem.W.Frag} {H : Hp} : ∀ l : List Str, DpAll K H (sS l) (l.map PyData.str)
  | [] => .nil
  | x :: l => .cons (.str x) (dpAll_strs l)
theorem eqv_nil (l : List Str) : PyData.eqv (.list (l.map PyData.str)) (.list []) = l.isEmpty := by
  cases l with
  | nil => simp only [List.map_nil, PyData.eqv, PyData.eqvAll, List.isEmpty_nil]
  | cons x r => simp only [List.map_cons, PyData.eqv, PyData.eqvAll, List.isEmpty_cons]
theorem shaped_nil : SeqAt.shaped (.list []) = true := shaped_op (l := []) fun _ h => nomatch h
theorem atI_mid {l : List Str} {k : Nat} {w : Str} (h : l[k]? = some w) : atI (sS l) ((k : Nat) : Int) = some (.str w) := atI_nat (by unfold sS; rw [List.getElem?_map, h] <;> rfl)
theorem atI_end {l : List Str} {w : Str} : atI (sS (l ++ [w])) (-1) = some (.str w) := by
  rw [sS_app]
  exact atI_last _ _
theorem ixN_end {n : Nat} : ixN (n + 1) (-1) = some n := by
  unfold ixN
  rw [if_neg (by decide), if_pos (by omega)]
  congr 1
  omega
theorem ne_isE {l : List Str} (h : l ≠ []) : l.isEmpty = false := by
  cases l with
  | nil => exact absurd rfl h
  | cons a r => rfl
theorem app_ne {l : List Str} {x : Str} : l ++ [x] ≠ [] := by simp
section
variable {K : PySem.W.Frag} {mg : Str → Option Value} {H0 H : Hp} {p dx A B C : Addr} {ws op : List Str} {k : Nat} {tk : List Step} {ts : List Addr}
/-- self.opened == [] -/
theorem opE (T : Txt K mg) (W : RdW K H0 H p ws k op tk dx A B C ts) (o : OkOp op) {σ : L2.St} {Q : VK} (hs : σ[0]? = some (some (.ref p))) (g : ∀ L, H L = none → Q (.bl op.isEmpty) (upd H L (.lst []))) :
    tOp (rEqD K) (tFld K (tVar 0) "opened") (tLst tNil) σ H Q := by
  refine ⟨_, hs, p, _, _, _, _, rfl, W.op_, T.c_Reader, T.n_Reader_opened, rd_opened, Nat.zero_le _, fun L hL => ?_⟩
  have nB : B ≠ L := ne_of_none W.hB hL
  refine ⟨.list (op.map PyData.str), .list [], .lst (SqL.of (by rw [upd_ne nB]; exact W.hB)) (dpAll_strs op), .lst (SqL.of upd_same) .nil, shaped_op o, shaped_nil, ?_⟩
  rw [eqv_nil]
  exact g L hL
/-- self.opened != [] -/
theorem opN (T : Txt K mg) (W : RdW K H0 H p ws k op tk dx A B C ts) (o : OkOp op) {σ : L2.St} {Q : VK} {i : Nat} (hs : σ[i]? = some (some (.ref p))) (g : ∀ L, H L = none → Q (.bl (!op.isEmpty)) (upd H L (.lst []))) :
    tOp (rNeD K) (tFld K (tVar i) "opened") (tLst tNil) σ H Q := by
  refine ⟨_, hs, p, _, _, _, _, rfl, W.op_, T.c_Reader, T.n_Reader_opened, rd_opened, Nat.zero_le _, fun L hL => ?_⟩
  have nB : B ≠ L := ne_of_none W.hB hL
  refine ⟨.list (op.map PyData.str), .list [], .lst (SqL.of (by rw [upd_ne nB]; exact W.hB)) (dpAll_strs op), .lst (SqL.of upd_same) .nil, shaped_op o, shaped_nil, ?_⟩
  rw [eqv_nil]
  exact g L hL
end
def spRTake (K : PySem.W.Frag) : L2.Sp := fun vs H Q _ => ∃ (H0 : Hp) (p : Addr) (ws op op' : List Str) (k k' : Nat) (tk : List Step) (s : Step), vs = [.ref p] ∧ RdAt K H0 H p ws k op tk ∧ OkOp op ∧ ws.length < 1000000 ∧ Tk ws k op k' op' s ∧ ∀ H', RdAt K H0 H' p ws k' op' (tk ++ [s]) → Q .non H'
def spTaken (K : PySem.W.Frag) : L2.Sp := fun vs H Q _ => ∃ (t : Str) (ws : List Str) (st : List Step), vs = [.str t] ∧ t.length + 2 ≤ sizeLine ∧ Txt.split t " " = ws ∧ ws.length < 1000000 ∧ Rds ws 0 [] st ∧ ∀ H' C ts, Same H H' → H' C = some (.lst (ts.map V.ref)) → Paired (StepAt H') ts st → st.length ≤ ws.length → Q (.ref C) H'
section
variable {P : Program} {w : World} {K : PySem.W.Frag} {mg : Str → Option Value} {base : Heap}
theorem sc_Reader_init : FnScope ["self", "text"] ["self", "text"] (defScope (inClass (top 29) 0)) := ⟨rfl, rfl, rfl, by decide +kernel, rfl, by decide +kernel, by decide +kernel⟩
theorem mk_Reader (T : Txt K mg) : Mkr P w K mg base CX0 1 "Reader" ["self", "text"] (spReader K) := by
  obtain ⟨fd, F⟩ := T.d_Reader___init__
  refine ⟨⟨fd, fn0 F sc_Reader_init (fun vs H Q E h => ?_) (fun cdv A outer s H vs Q E hr h => ?_), FunD.bindsN F fun _ _ _ _ _ _ us hl => match us, hl with | [_, _], _ => rfl⟩, T.mk_Reader, T.g_Reader⟩
  · obtain ⟨_, _, _, _, _, rfl, _⟩ := h
    rfl
  obtain ⟨H0, x, dx, t, ws, rfl, s0, x0, hx, hz, hws, k⟩ := h
  refine ⟨_, (pss_cons (ps_fld (pv 0) (pe_split (pv 1) pe_str) rfl)
    (pss_cons (ps_fld (pv 0) pe_int rfl)
    (pss_cons (ps_fld (pv 0) (pe_lst pa_nil) rfl)
    (pss_one (ps_fld (pv 0) (pe_lst pa_nil) rfl))))), ?_⟩
  refine ⟨_, rfl, ⟨_, rfl⟩, t, " ", rfl, rfl, rfl, hz, fun A hA => ?_⟩
  rw [hws]
  have nA : x ≠ A := ne_of_none hx hA
  refine ⟨_, rfl, x, _, dx, _, rfl, (by rw [upd_ne nA]; exact hx), T.c_Reader, T.n_Reader_words, (by show 0 < 1000; decide), ?_⟩
  refine ⟨_, rfl, x, _, dx, _, rfl, upd_same, T.c_Reader, T.n_Reader_at, (by show 1 < 1000; decide), ?_⟩
  refine ⟨Nat.zero_le _, fun B hB => ?_⟩
  have nB : x ≠ B := ne_of_none upd_same hB
  refine ⟨_, rfl, x, _, dx, _, rfl, (by rw [upd_ne nB]; exact upd_same), T.c_Reader, T.n_Reader_opened, (by show 2 < 1000; decide), ?_⟩
  refine ⟨Nat.zero_le _, fun C hC => ?_⟩
  have nC : x ≠ C := ne_of_none upd_same hC
  refine ⟨_, rfl, x, _, dx, _, rfl, (by rw [upd_ne nC]; exact upd_same), T.c_Reader, T.n_Reader_taken, (by show 3 < 1000; decide), ?_⟩
  have h1 : A ≠ B := by
    intro z
    rw [← z, upd_ne nA.symm, upd_ne nA.symm, upd_same] at hB
    cases hB
  have h2 : A ≠ C := by
    intro z
    rw [← z, upd_ne nA.symm, upd_ne h1, upd_ne nA.symm, upd_ne nA.symm, upd_same] at hC
    cases hC
  have h3 : B ≠ C := by
    intro z
    rw [← z, upd_ne nB.symm, upd_same] at hC
    cases hC
  have B0 : H B = none := by
    rw [upd_ne nB.symm, upd_ne nB.symm, upd_ne h1.symm] at hB
    exact hB
  have C0 : H C = none := by
    rw [upd_ne nC.symm, upd_ne h3.symm, upd_ne nC.symm, upd_ne nC.symm, upd_ne h2.symm] at hC
    exact hC
  refine k _ ⟨dx, A, B, C, [], ?_, ?_, ?_, ?_, ?_, .nil, x0, s0.free hA, s0.free B0, s0.free C0, h1, h2, h3, Nat.le_refl _, Nat.le_refl _⟩
  · exact same_upd (same_upd (same_upd (same_upd (same_upd (same_upd (same_upd s0 (s0.free hA)) x0) x0) (s0.free B0)) x0) (s0.free C0)) x0
  · rw [upd_same, rd_made]
    rfl
  · rw [upd_ne nA.symm, upd_ne h2, upd_ne nA.symm, upd_ne h1, upd_ne nA.symm, upd_ne nA.symm, upd_same]
    rfl
  · rw [upd_ne nB.symm, upd_ne h3, upd_ne nB.symm, upd_same]
    rfl
  · rw [upd_ne nC.symm, upd_same]
    rfl
theorem sc_Reader_named : FnScope ["self", "word"] ["self", "word"] (defScope (inClass (top 29) 1)) := ⟨rfl, rfl, rfl, by decide +kernel, rfl, by decide +kernel, by decide +kernel⟩
theorem m_named (T : Txt K mg) : Met P w K mg base CX0 2 "Reader" "named" ["self", "word"] (spNamed K) := by
  have C_is_name : Cal P w K mg base CX0 1 "is_name" ["word"] spName := c_is_name T
  obtain ⟨fd, F⟩ := T.d_Reader_named
  refine ⟨⟨fd, fn0 F sc_Reader_named (fun vs H Q E h => ?_) (fun cdv A outer s H vs Q E hr h => ?_), FunD.bindsN F fun _ _ _ _ _ _ us hl => match us, hl with | [_, _], _ => rfl⟩, T.m_Reader_named, T.c_Reader⟩
  · obtain ⟨_, _, _, _, _, _, _, _, rfl, _⟩ := h
    rfl
  obtain ⟨H0, p, ws, op, at_, tk, wd, n, rfl, ⟨dx, A, B, C, ts, W⟩, hz, hn, nm, k⟩ := h
  refine ⟨_, (pss_cons (ps_if (PW.pt (pw_or (pt_cmpR op_eq (pe_op op_add (pe_fld (pv 0) rfl) pe_int) (pe_callB call_len_seq (by rfl) T.z_len PySem.boot_len (pa_cons (pe_fld (pv 0) rfl) pa_nil)) (by rfl)) (pw_or1 (pt_not (pt_val (pcall C_is_name (hr.mono (by decide)) rfl pass0 (pa_cons (pe_ix ix_list (pe_fld (pv 0) rfl) (pe_op op_add (pe_fld (pv 0) rfl) pe_int) (fun _ _ => rfl)) pa_nil)))))))
      (pss_one ps_never)
      pss_nil)
    (pss_cons (ps_expr (pe_bm PySem.F.plainAttrs_list PySem.F.slot_list_append PySem.F.type_list_append mt_append (pe_fld (pv 0) rfl) (pa_cons (pe_tup (pa_cons (pv 1) (pa_cons (pe_fld (pv 0) rfl) (pa_cons (pe_ix ix_list (pe_fld (pv 0) rfl) (pe_op op_add (pe_fld (pv 0) rfl) pe_int) (fun _ _ => rfl)) pa_nil)))) pa_nil)))
    (pss_one (ps_fldaug (pv 0) pe_int in_add)))), ?_⟩
  have hlt : at_ + 1 < ws.length := (List.getElem?_eq_some_iff.mp hn).1
  refine ⟨_, rfl, _, _, _, _, _, rfl, W.op_, T.c_Reader, T.n_Reader_at, rd_at, _, _, rfl, rfl, _, rfl, _, _, _, _, _, rfl, W.op_, T.c_Reader, T.n_Reader_words, rd_words, A, _, rfl, .inl (SqL.of W.hA), rfl, _, rfl, ?_⟩
  refine ifF (decide_eq_false fun z => by
    injection z with z
    rw [sS_len] at z
    omega) ?_
  have e1 : ((at_ : Int) + 1) = ((at_ + 1 : Nat) : Int) := rfl
  have rd1 : ∀ {Hx : Hp} {A B C dx : Addr} {ts : List Addr} {Q : VK}, RdW K H0 Hx p ws at_ op tk dx A B C ts → Q (.str n) Hx → tOp (rIxL K) (tFld K (tVar 0) "words") (tOp (rI0 fun i j => .int (i + j)) (tFld K (tVar 0) "at") (tC (.int 1))) [some (.ref p), some (.str wd)] Hx Q := fun {Hx A B C dx ts Q} W q =>
    ⟨_, rfl, _, _, _, _, _, rfl, W.op_, T.c_Reader, T.n_Reader_words, rd_words, _, rfl, _, _, _, _, _, rfl, W.op_, T.c_Reader, T.n_Reader_at, rd_at, _, _, rfl, rfl, A, _, _, .str n, rfl, rfl, SqL.of W.hA, atI_mid hn, q⟩
  refine rd1 W ⟨n, rfl, nm, true, rfl, ifF rfl ?_⟩
  refine ⟨_, rfl, _, _, _, _, _, rfl, W.op_, T.c_Reader, T.n_Reader_taken, rd_taken, .inl ⟨rfl, _, SqL.of W.hC⟩, ?_⟩
  refine ⟨_, rfl, _, rfl, _, _, _, _, _, rfl, W.op_, T.c_Reader, T.n_Reader_at, rd_at, rd1 W ⟨(by show 3 ≤ sizeLine; decide), fun t ht => ?_⟩⟩
  have W1 := W.grow (same_new ht (.tup [.str wd, .int (at_ : Int), .str n]))
  have tl := W.tl
  have pl := Paired.len W.tks
  refine ⟨C, _, _, rfl, rfl, W1.hC, ?_, ?_⟩
  · rw [List.length_map, pl]
    exact szl (by omega)
  have e5 : ts.map V.ref ++ [V.ref t] = (ts ++ [t]).map V.ref := by rw [List.map_append] <;> rfl
  rw [e5]
  have W2 := W1.step (t := t) (d' := dx) (s := ⟨wd, at_, n⟩) (k' := at_ + 2) upd_same (by omega)
  have np : p ≠ C := W1.pC
  refine ⟨_, rfl, p, _, _, _, _, rfl, (by rw [upd_ne np]; exact W1.op_), T.c_Reader, T.n_Reader_at, rd_at, _, _, rfl, rfl, dx, _, (by rw [upd_ne np]; exact W1.op_), (by show 4 < 1000; decide), ?_⟩
  rw [rd_put_at]
  exact k _ ⟨dx, A, B, C, _, W2⟩
theorem sc_Reader_bare : FnScope ["self", "word", "name"] ["self", "word", "name"] (defScope (inClass (top 29) 2)) := ⟨rfl, rfl, rfl, by decide +kernel, rfl, by decide +kernel, by decide +kernel⟩
theorem m_bare (T : Txt K mg) : Met P w K mg base CX0 1 "Reader" "bare" ["self", "word", "name"] (spBare K) := by
  obtain ⟨fd, F⟩ := T.d_Reader_bare
  refine ⟨⟨fd, fn0 F sc_Reader_bare (fun vs H Q E h => ?_) (fun cdv A outer s H vs Q E hr h => ?_), FunD.bindsN F fun _ _ _ _ _ _ us hl => match us, hl with | [_, _, _], _ => rfl⟩, T.m_Reader_bare, T.c_Reader⟩
  · obtain ⟨_, _, _, _, _, _, _, _, rfl, _⟩ := h
    rfl
  obtain ⟨H0, p, ws, op, at_, tk, wd, n, rfl, ⟨dx, A, B, C, ts, W⟩, hz, k⟩ := h
  refine ⟨_, (pss_cons (ps_expr (pe_bm PySem.F.plainAttrs_list PySem.F.slot_list_append PySem.F.type_list_append mt_append (pe_fld (pv 0) rfl) (pa_cons (pe_tup (pa_cons (pv 1) (pa_cons (pe_fld (pv 0) rfl) (pa_cons (pv 2) pa_nil)))) pa_nil)))
    (pss_one (ps_fldaug (pv 0) pe_int in_add))), ?_⟩
  refine ⟨_, rfl, _, _, _, _, _, rfl, W.op_, T.c_Reader, T.n_Reader_taken, rd_taken, .inl ⟨rfl, _, SqL.of W.hC⟩, ?_⟩
  refine ⟨_, rfl, _, rfl, _, _, _, _, _, rfl, W.op_, T.c_Reader, T.n_Reader_at, rd_at, _, rfl, (by show 3 ≤ sizeLine; decide), fun t ht => ?_⟩
  have W1 := W.grow (same_new ht (.tup [.str wd, .int (at_ : Int), .str n]))
  have tl := W.tl
  have pl := Paired.len W.tks
  refine ⟨C, _, _, rfl, rfl, W1.hC, ?_, ?_⟩
  · rw [List.length_map, pl]
    exact szl (by omega)
  have e5 : ts.map V.ref ++ [V.ref t] = (ts ++ [t]).map V.ref := by rw [List.map_append] <;> rfl
  rw [e5]
  have W2 := W1.step (t := t) (d' := dx) (s := ⟨wd, at_, n⟩) (k' := at_ + 1) upd_same (by omega)
  have np : p ≠ C := W1.pC
  refine ⟨_, rfl, p, _, _, _, _, rfl, (by rw [upd_ne np]; exact W1.op_), T.c_Reader, T.n_Reader_at, rd_at, _, _, rfl, rfl, dx, _, (by rw [upd_ne np]; exact W1.op_), (by show 4 < 1000; decide), ?_⟩
  rw [rd_put_at]
  exact k _ ⟨dx, A, B, C, _, W2⟩
end
end Fc

set_option Elab.async false
set_option linter.all false
set_option maxRecDepth 100000
set_option maxHeartbeats 4000000
namespace Fc
open PySem PySem.Spec PyProof.Rows L2 He
theorem set_end {l : List Str} {x y : Str} : (sS (l ++ [x])).set l.length (.str y) = sS (l ++ [y]) := by
  rw [sS_app, sS_app]
  have e : l.length = (sS l).length := (sS_len l).symm
  rw [e, List.set_append_right _ _ (Nat.le_refl _), Nat.sub_self]
  rfl
theorem inS {w : Str} {l : List Str} (h : w ∈ l) : inV (.str w) (sS l) = true := List.any_eq_true.mpr ⟨.str w, List.mem_map_of_mem h, by show (w == w) = true; exact beq_self_eq_true w⟩
theorem flatS (l : List Str) : (sS l).all flatV = true := List.all_eq_true.mpr fun x hx => by
  obtain ⟨y, _, rfl⟩ := List.mem_map.mp hx
  rfl
section
variable {P : Program} {w : World} {K : PySem.W.Frag} {mg : Str → Option Value} {base : Heap}
theorem sc_Reader_take : FnScope ["self", "word"] ["self"] (defScope (inClass (top 29) 3)) := ⟨rfl, rfl, rfl, by decide +kernel, rfl, by decide +kernel, by decide +kernel⟩
theorem m_rtake (T : Txt K mg) : Met P w K mg base CX0 3 "Reader" "take" ["self"] (spRTake K) := by
  have M_named : Met P w K mg base CX0 2 "Reader" "named" ["self", "word"] (spNamed K) := m_named T
  have M_bare : Met P w K mg base CX0 1 "Reader" "bare" ["self", "word", "name"] (spBare K) := m_bare T
  obtain ⟨fd, F⟩ := T.d_Reader_take
  refine ⟨⟨fd, fn0 F sc_Reader_take (fun vs H Q E h => ?_) (fun cdv A outer s H vs Q E hr h => ?_), FunD.bindsN F fun _ _ _ _ _ _ us hl => match us, hl with | [_], _ => rfl⟩, T.m_Reader_take, T.c_Reader⟩
  · obtain ⟨_, _, _, _, _, _, _, _, _, rfl, _⟩ := h
    rfl
  obtain ⟨H0, p, ws, op, op', at_, at', tk, st, rfl, ⟨dx, A, B, C, ts, W⟩, oo, hz, t, k⟩ := h
  refine ⟨_, (pss_cons (ps_set (i := 1) sc_Reader_take.nd rfl (.inl rfl) (pe_ix ix_list (pe_fld (pv 0) rfl) (pe_fld (pv 0) rfl) (fun _ _ => rfl)))
    (pss_cons (ps_if (PW.pt (pw_and (pt_cmpR (op_eqD hr.units) (pe_fld (pv 0) rfl) (pe_lst pa_nil) (by rfl)) (pw_and1 (pt_cmpR op_ne (pv 1) pe_str (by rfl)))))
      (pss_one ps_never)
      pss_nil)
    (pss_one (ps_if (PW.pt (pw_or (pt_cmpR (op_eqD hr.units) (pe_fld (pv 0) rfl) (pe_lst pa_nil) (by rfl)) (pw_or1 (pt_cmpR op_in_seq (pv 1) (pe_tup (pa_cons pe_str (pa_cons pe_str pa_nil))) (by rfl)))))
      (pss_cons (ps_expr (pmeth (pv 0) M_named (hr.mono (by decide)) pass0 (pa_cons (pv 1) pa_nil)))
      (pss_one (ps_expr (pe_bm PySem.F.plainAttrs_list PySem.F.slot_list_append PySem.F.type_list_append mt_append (pe_fld (pv 0) rfl) (pa_cons (pv 1) pa_nil)))))
      (pss_one (ps_if (pt_cmpR op_in_seq (pv 1) (pe_tup (pa_cons pe_str (pa_cons pe_str pa_nil))) (by rfl))
        (pss_one (ps_expr (pmeth (pv 0) M_named (hr.mono (by decide)) pass0 (pa_cons (pv 1) pa_nil))))
        (pss_one (ps_if (PW.pt (pw_and (pt_cmpR op_eq (pv 1) pe_str (by rfl)) (pw_and1 (pt_cmpR op_eq (pe_ix ix_list (pe_fld (pv 0) rfl) (pe_un un_neg pe_int) (fun _ _ => rfl)) pe_str (by rfl)))))
          (pss_cons (ps_expr (pmeth (pv 0) M_bare (hr.mono (by decide)) pass0 (pa_cons (pv 1) (pa_cons pe_str pa_nil))))
          (pss_one (ps_asg pe_str (pg_sub (pe_fld (pv 0) rfl) (pe_un un_neg pe_int) set_list))))
          (pss_one (ps_if (PW.pt (pw_and (pt_cmpR op_eq (pv 1) pe_str (by rfl)) (pw_and1 (pt_cmpR op_ne (pe_ix ix_list (pe_fld (pv 0) rfl) (pe_un un_neg pe_int) (fun _ _ => rfl)) pe_str (by rfl)))))
            (pss_one (ps_expr (pmeth (pv 0) M_bare (hr.mono (by decide)) pass0 (pa_cons (pv 1) (pa_cons (pe_bm0 PySem.F.plainAttrs_list PySem.F.slot_list_pop PySem.F.type_list_pop mt_pop (pe_fld (pv 0) rfl)) pa_nil)))))
            (pss_one (ps_if (PW.pt (pw_or (pt_cmpR op_eq (pv 1) pe_str (by rfl)) (pw_or1 (PW.pt (pw_and (pt_cmpR op_eq (pv 1) pe_str (by rfl)) (pw_and1 (pt_cmpR op_in_seq pe_str (pe_fld (pv 0) rfl) (by rfl))))))))
              (pss_one (ps_expr (pmeth (pv 0) M_bare (hr.mono (by decide)) pass0 (pa_cons (pv 1) (pa_cons pe_str pa_nil)))))
              (pss_one ps_never))))))))))))), ?_⟩
  have hk := t.lt
  have ol := W.ol
  have word : ∀ {x : Str} {Q : VK} {σ : L2.St}, σ[0]? = some (some (.ref p)) → ws[at_]? = some x → Q (.str x) H → tOp (rIxL K) (tFld K (tVar 0) "words") (tFld K (tVar 0) "at") σ H Q := fun {x Q σ} hs e q =>
    ⟨_, hs, p, _, _, _, _, rfl, W.op_, T.c_Reader, T.n_Reader_words, rd_words, _, hs, p, _, _, _, _, rfl, W.op_, T.c_Reader, T.n_Reader_at, rd_at, A, _, _, .str x, rfl, rfl, SqL.of W.hA, atI_mid e, q⟩
  cases t with
  | part e1 e2 nm =>
    refine word rfl e1 ?_
    refine opE T W oo rfl fun L hL => ⟨_, rfl, ifT rfl ?_⟩
    refine ⟨_, rfl, rfl, _, rfl, ifF (by rw [str_eq rfl] <;> rfl) ?_⟩
    have W1 := W.grow (same_new hL (.lst []))
    refine opE T W1 oo rfl fun L2 hL2 => ⟨_, rfl, ifT rfl (ifT rfl ?_)⟩
    have W2 := W1.grow (same_new hL2 (.lst []))
    refine ⟨_, rfl, p, _, _, rfl, W2.op_, rd_no_named, _, rfl, H0, p, ws, [], at_, tk, wPart, _, rfl, ⟨dx, A, B, C, ts, W2⟩, hz, e2, nm, fun H3 A3 => ?_⟩
    obtain ⟨dx, A, B, C, ts, W3⟩ := A3
    refine ⟨_, rfl, _, _, _, _, _, rfl, W3.op_, T.c_Reader, T.n_Reader_opened, rd_opened, .inl ⟨rfl, _, SqL.of W3.hB⟩, _, rfl, B, _, _, rfl, rfl, W3.hB, (by show 0 < sizeLine; decide), ?_⟩
    exact k _ ⟨dx, A, B, C, ts, W3.opn (op' := [wPart]) (by show 1 ≤ at_ + 2; omega)⟩
  | ask e1 hw e2 nm hop =>
    refine word rfl e1 ?_
    refine opE T W oo rfl fun L hL => ⟨_, rfl, ifF (ne_isE hop) (ifF rfl ?_)⟩
    have W1 := W.grow (same_new hL (.lst []))
    refine opE T W1 oo rfl fun L2 hL2 => ⟨_, rfl, ifF (ne_isE hop) ?_⟩
    have W2 := W1.grow (same_new hL2 (.lst []))
    refine in2 rfl fun t3 ht3 => ⟨_, rfl, ifT (decide_eq_true hw) ?_⟩
    have W3 := W2.grow (same_new ht3 (.tup [.str wIf, .str wWhile]))
    refine ⟨_, rfl, p, _, _, rfl, W3.op_, rd_no_named, _, rfl, H0, p, ws, _, at_, tk, _, _, rfl, ⟨dx, A, B, C, ts, W3⟩, hz, e2, nm, fun H4 A4 => ?_⟩
    obtain ⟨dx, A, B, C, ts, W4⟩ := A4
    refine ⟨_, rfl, _, _, _, _, _, rfl, W4.op_, T.c_Reader, T.n_Reader_opened, rd_opened, .inl ⟨rfl, _, SqL.of W4.hB⟩, _, rfl, B, _, _, rfl, rfl, W4.hB, (by rw [sS_len]; exact szl (by omega)), ?_⟩
    rename_i wd n
    have e5 : sS op ++ [V.str wd] = sS (op ++ [wd]) := by rw [sS_app] <;> rfl
    rw [e5]
    exact k _ ⟨dx, A, B, C, ts, W4.opn (op' := op ++ [wd]) (by rw [List.length_append]; show op.length + 1 ≤ at_ + 2; omega)⟩
  | go e1 hw e2 nm hop =>
    refine word rfl e1 ?_
    refine opE T W oo rfl fun L hL => ⟨_, rfl, ifF (ne_isE hop) (ifF rfl ?_)⟩
    have W1 := W.grow (same_new hL (.lst []))
    refine opE T W1 oo rfl fun L2 hL2 => ⟨_, rfl, ifF (ne_isE hop) ?_⟩
    have W2 := W1.grow (same_new hL2 (.lst []))
    refine in2 rfl fun t3 ht3 => ⟨_, rfl, ifF (decide_eq_false (by rcases hw with rfl | rfl <;> decide +kernel)) ?_⟩
    have W3 := W2.grow (same_new ht3 (.tup [.str wIf, .str wWhile]))
    refine in2 rfl fun t4 ht4 => ⟨_, rfl, ifT (decide_eq_true hw) ?_⟩
    have W4 := W3.grow (same_new ht4 (.tup [.str wDo, .str wCall]))
    exact ⟨_, rfl, p, _, _, rfl, W4.op_, rd_no_named, _, rfl, H0, p, ws, _, at_, tk, _, _, rfl, ⟨dx, A, B, C, ts, W4⟩, hz, e2, nm, k⟩
  | els e1 =>
    rename_i op
    refine word rfl e1 ?_
    refine opE T W oo rfl fun L hL => ⟨_, rfl, ifF (ne_isE app_ne) (ifF rfl ?_)⟩
    have W1 := W.grow (same_new hL (.lst []))
    refine opE T W1 oo rfl fun L2 hL2 => ⟨_, rfl, ifF (ne_isE app_ne) ?_⟩
    have W2 := W1.grow (same_new hL2 (.lst []))
    refine in2 rfl fun t3 ht3 => ⟨_, rfl, ifF (by decide +kernel) ?_⟩
    have W3 := W2.grow (same_new ht3 (.tup [.str wIf, .str wWhile]))
    refine in2 rfl fun t4 ht4 => ⟨_, rfl, ifF (by decide +kernel) ?_⟩
    have W4 := W3.grow (same_new ht4 (.tup [.str wDo, .str wCall]))
    refine ⟨_, rfl, rfl, _, rfl, ifT (str_eq rfl) ?_⟩
    refine ⟨_, rfl, _, _, _, _, _, rfl, W4.op_, T.c_Reader, T.n_Reader_opened, rd_opened, _, rfl, B, _, _, .str wIf, rfl, rfl, SqL.of W4.hB, atI_end, rfl, _, rfl, ifT (str_eq rfl) ?_⟩
    refine ⟨_, rfl, p, _, _, rfl, W4.op_, rd_no_bare, _, rfl, H0, p, ws, _, at_, tk, _, _, rfl, ⟨dx, A, B, C, ts, W4⟩, (by omega), fun H5 A5 => ?_⟩
    obtain ⟨dx, A, B, C, ts, W5⟩ := A5
    refine ⟨_, rfl, _, _, _, _, _, rfl, W5.op_, T.c_Reader, T.n_Reader_opened, rd_opened, _, rfl, B, _, _, op.length, rfl, rfl, W5.hB, (by rw [sS_len, List.length_append]; exact ixN_end), ?_⟩
    rw [set_end]
    exact k _ ⟨dx, A, B, C, ts, W5.opn (op' := op ++ [wElse]) (by rw [List.length_append] at ol ⊢; show op.length + 1 ≤ at_ + 1; exact Nat.le_succ_of_le ol)⟩
  | en e1 hx =>
    rename_i x
    refine word rfl e1 ?_
    refine opE T W oo rfl fun L hL => ⟨_, rfl, ifF (ne_isE app_ne) (ifF rfl ?_)⟩
    have W1 := W.grow (same_new hL (.lst []))
    refine opE T W1 oo rfl fun L2 hL2 => ⟨_, rfl, ifF (ne_isE app_ne) ?_⟩
    have W2 := W1.grow (same_new hL2 (.lst []))
    refine in2 rfl fun t3 ht3 => ⟨_, rfl, ifF (by decide +kernel) ?_⟩
    have W3 := W2.grow (same_new ht3 (.tup [.str wIf, .str wWhile]))
    refine in2 rfl fun t4 ht4 => ⟨_, rfl, ifF (by decide +kernel) ?_⟩
    have W4 := W3.grow (same_new ht4 (.tup [.str wDo, .str wCall]))
    refine ⟨_, rfl, rfl, _, rfl, ifF (str_ne (by decide +kernel)) (ifF rfl ?_)⟩
    refine ⟨_, rfl, rfl, _, rfl, ifT (str_eq rfl) ?_⟩
    refine ⟨_, rfl, _, _, _, _, _, rfl, W4.op_, T.c_Reader, T.n_Reader_opened, rd_opened, _, rfl, B, _, _, .str x, rfl, rfl, SqL.of W4.hB, atI_end, rfl, _, rfl, ifT (by rw [str_ne (by rcases hx with rfl | rfl | rfl <;> decide +kernel)] <;> rfl) ?_⟩
    refine ⟨_, rfl, p, _, _, rfl, W4.op_, rd_no_bare, _, rfl, ?_⟩
    have W5 := W4.opn (op' := op') (by rw [List.length_append] at ol; exact Nat.le_of_succ_le ol)
    refine ⟨_, rfl, _, _, _, _, _, rfl, W4.op_, T.c_Reader, T.n_Reader_opened, rd_opened, .inl ⟨rfl, _, SqL.of W4.hB⟩, B, _, .str x, rfl, rfl, W4.hB, ?_, ?_⟩
    · rw [sS_app]
      simp [sS]
    · have e6 : (sS (op' ++ [x])).dropLast = sS op' := by
        rw [sS_app]
        simp [sS]
      rw [e6]
      exact ⟨H0, p, ws, _, at_, tk, _, _, rfl, ⟨dx, A, B, C, ts, W5⟩, (by omega), k⟩
  | bk e1 hop =>
    refine word rfl e1 ?_
    refine opE T W oo rfl fun L hL => ⟨_, rfl, ifF (ne_isE hop) (ifF rfl ?_)⟩
    have W1 := W.grow (same_new hL (.lst []))
    refine opE T W1 oo rfl fun L2 hL2 => ⟨_, rfl, ifF (ne_isE hop) ?_⟩
    have W2 := W1.grow (same_new hL2 (.lst []))
    refine in2 rfl fun t3 ht3 => ⟨_, rfl, ifF (by decide +kernel) ?_⟩
    have W3 := W2.grow (same_new ht3 (.tup [.str wIf, .str wWhile]))
    refine in2 rfl fun t4 ht4 => ⟨_, rfl, ifF (by decide +kernel) ?_⟩
    have W4 := W3.grow (same_new ht4 (.tup [.str wDo, .str wCall]))
    refine ⟨_, rfl, rfl, _, rfl, ifF (str_ne (by decide +kernel)) (ifF rfl ?_)⟩
    refine ⟨_, rfl, rfl, _, rfl, ifF (str_ne (by decide +kernel)) (ifF rfl ?_)⟩
    refine ⟨_, rfl, rfl, _, rfl, ifT (str_eq rfl) (ifT rfl ?_)⟩
    exact ⟨_, rfl, p, _, _, rfl, W4.op_, rd_no_bare, _, rfl, H0, p, ws, _, at_, tk, _, _, rfl, ⟨dx, A, B, C, ts, W4⟩, (by omega), k⟩
  | lv e1 hop =>
    have hne : op ≠ [] := fun z => by
      rw [z] at hop
      exact absurd hop (by simp)
    refine word rfl e1 ?_
    refine opE T W oo rfl fun L hL => ⟨_, rfl, ifF (ne_isE hne) (ifF rfl ?_)⟩
    have W1 := W.grow (same_new hL (.lst []))
    refine opE T W1 oo rfl fun L2 hL2 => ⟨_, rfl, ifF (ne_isE hne) ?_⟩
    have W2 := W1.grow (same_new hL2 (.lst []))
    refine in2 rfl fun t3 ht3 => ⟨_, rfl, ifF (by decide +kernel) ?_⟩
    have W3 := W2.grow (same_new ht3 (.tup [.str wIf, .str wWhile]))
    refine in2 rfl fun t4 ht4 => ⟨_, rfl, ifF (by decide +kernel) ?_⟩
    have W4 := W3.grow (same_new ht4 (.tup [.str wDo, .str wCall]))
    refine ⟨_, rfl, rfl, _, rfl, ifF (str_ne (by decide +kernel)) (ifF rfl ?_)⟩
    refine ⟨_, rfl, rfl, _, rfl, ifF (str_ne (by decide +kernel)) (ifF rfl ?_)⟩
    refine ⟨_, rfl, rfl, _, rfl, ifF (str_ne (by decide +kernel)) ?_⟩
    refine ⟨_, rfl, rfl, _, rfl, ifT (str_eq rfl) ?_⟩
    refine ⟨_, rfl, _, _, _, _, _, rfl, W4.op_, T.c_Reader, T.n_Reader_opened, rd_opened, B, _, rfl, .inl (SqL.of W4.hB), rfl, flatS _, _, rfl, ifT (inS hop) ?_⟩
    exact ⟨_, rfl, p, _, _, rfl, W4.op_, rd_no_bare, _, rfl, H0, p, ws, _, at_, tk, _, _, rfl, ⟨dx, A, B, C, ts, W4⟩, (by omega), k⟩
theorem sc_taken_of : FnScope ["text", "reader"] ["text"] (defScope (top 30)) := ⟨rfl, rfl, rfl, by decide +kernel, rfl, by decide +kernel, by decide +kernel⟩
theorem c_taken_of (T : Txt K mg) : Cal P w K mg base CX0 4 "taken_of" ["text"] (spTaken K) := by
  have M_Reader : Mkr P w K mg base CX0 1 "Reader" ["self", "text"] (spReader K) := mk_Reader T
  have M_take : Met P w K mg base CX0 3 "Reader" "take" ["self"] (spRTake K) := m_rtake T
  obtain ⟨fd, F⟩ := T.d_taken_of
  refine ⟨⟨fd, fn0 F sc_taken_of (fun vs H Q E h => ?_) (fun cdv A outer s H vs Q E hr h => ?_), FunD.bindsN F fun _ _ _ _ _ _ us hl => match us, hl with | [_], _ => rfl⟩, T.k_taken_of, T.g_taken_of⟩
  · obtain ⟨_, _, _, rfl, _⟩ := h
    rfl
  obtain ⟨t, ws, st, rfl, hz, hws, hl, rds, k⟩ := h
  refine ⟨_, (pss_cons (ps_set (i := 1) sc_taken_of.nd rfl (.inl rfl) (pmake M_Reader (hr.mono (by decide)) rfl pass0 (pa_cons (pv 0) pa_nil)))
    (pss_cons (ps_while PassesOwn.never (pt_cmpR op_lt (pe_fld (pv 1) rfl) (pe_callB call_len_seq (by rfl) T.z_len PySem.boot_len (pa_cons (pe_fld (pv 1) rfl) pa_nil)) (by rfl))
      (pss_one (ps_expr (pmeth0 (pv 1) M_take (hr.mono (by decide)) pass0))))
    (pss_cons (ps_if (pt_cmpR (op_neD hr.units) (pe_fld (pv 1) rfl) (pe_lst pa_nil) (by rfl))
      (pss_one ps_never)
      pss_nil)
    (pss_one (ps_ret (pe_fld (pv 1) rfl)))))), ?_⟩
  refine ⟨_, rfl, fun p dx hp hdx ne => ?_⟩
  have s1 : Same H (upd (upd H dx (.own p)) p (.ins (ga K "Reader") dx [])) := same_upd (same_new hdx _) hp
  refine ⟨H, p, dx, t, ws, rfl, s1, hp, upd_same, hz, hws, fun H1 A1 => ⟨rfl, ?_⟩⟩
  refine ⟨fun m σ H' => σ = [some (.str t), some (.ref p)] ∧ ∃ (at_ : Nat) (op : List Str) (tk rest : List Step), st = tk ++ rest ∧ RdAt K H H' p ws at_ op tk ∧ OkOp op ∧ Rds ws at_ op rest ∧ m = rest.length, ⟨st.length, rfl, 0, [], [], st, rfl, A1, (fun _ h => nomatch h), rds, rfl⟩, ?_⟩
  rintro m σ H' ⟨rfl, at_, op, tk, rest, est, ⟨dx, A, B, C, ts, W⟩, oo, rd, rfl⟩
  refine ⟨_, rfl, _, _, _, _, _, rfl, W.op_, T.c_Reader, T.n_Reader_at, rd_at, _, rfl, _, _, _, _, _, rfl, W.op_, T.c_Reader, T.n_Reader_words, rd_words, A, _, rfl, .inl (SqL.of W.hA), _, _, rfl, rfl, _, rfl, ?_⟩
  rw [sS_len]
  cases rd with
  | done =>
    refine ifF (decide_eq_false (by omega)) ?_
    refine opN T W oo rfl fun L hL => ⟨_, rfl, ifF rfl ?_⟩
    have W1 := W.grow (same_new hL (.lst []))
    refine ⟨_, rfl, _, _, _, _, _, rfl, W1.op_, T.c_Reader, T.n_Reader_taken, rd_taken, ?_⟩
    rw [List.append_nil] at est
    rw [est] at k
    exact k _ C ts W1.same W1.hC W1.tks W1.tl
  | more tk1 rest1 =>
    rename_i sx rx
    have hk := tk1.lt
    refine ifT (decide_eq_true (by omega)) ?_
    refine ⟨fun σ' H'' => σ' = [some (.str t), some (.ref p)] ∧ ∃ (at_ : Nat) (op : List Str) (tk2 : List Step), st = tk2 ++ rx ∧ RdAt K H H'' p ws at_ op tk2 ∧ OkOp op ∧ Rds ws at_ op rx, ?_, ?_⟩
    · rintro σ' H'' ⟨rfl, at2, op2, tk2, e2, A2, o2, r2⟩
      exact ⟨_, Nat.lt_succ_self _, rfl, at2, op2, tk2, _, e2, A2, o2, r2, rfl⟩
    · refine ⟨_, rfl, p, _, _, rfl, W.op_, rd_no_take, H, p, ws, op, _, at_, _, tk, _, rfl, ⟨dx, A, B, C, ts, W⟩, oo, hl, tk1, fun H2 A2 => ?_⟩
      exact ⟨rfl, _, _, _, by rw [est]; simp, A2, tk1.okop oo, rest1⟩
end
end Fc

set_option Elab.async false
set_option linter.all false
set_option maxRecDepth 100000
set_option maxHeartbeats 4000000
namespace Fc
open PySem PySem.Spec PyProof.Rows L2 He
/-! the parts drawn -/
theorem fk_keep {S T : Sx} (ok : S.Ok) {G : List Fk} {f : Fk} (eg : S.forks = G ++ [f]) (en : T.n = S.n) (er : T.rep = S.rep) (ew : T.rows = S.rows) (hh : ∀ h, T.here = some h → h < S.n) (hf : ∀ g ∈ T.forks, g ∈ G ∨ (g.s = f.s ∧ g.o = f.o ∧ ∀ p, g.passed = some p → p < S.n)) : T.Ok := by
  refine ⟨by rw [en]; exact ok.two, by rw [en, er]; exact ok.lt, by rw [en, er]; exact ok.hi, by rw [er]; exact ok.idem, by rw [en]; exact hh, fun g hg => ?_, by rw [en, ew]; exact ok.rw⟩
  rw [en]
  rcases hf g hg with h | ⟨h1, h2, h3⟩
  · exact ok.fk g (by rw [eg]; exact List.mem_append_left _ h)
  · have z := ok.fk f (by rw [eg]; simp)
    rw [h1, h2]
    exact ⟨z.1, z.2.1, h3⟩
theorem forks_keep {S : Sx} (ok : S.Ok) {G : List Fk} {f : Fk} (eg : S.forks = G ++ [f]) : f.s < S.n ∧ f.o < S.n ∧ ∀ p, f.passed = some p → p < S.n := ok.fk f (by rw [eg]; simp)
theorem join_forks {S : Sx} {g : Nat} : (S.join g).forks = S.forks := by
  unfold Sx.join
  cases S.here <;> rfl
theorem Tks.ok {S S' : Sx} {s : Step} (h : Tks S s S') (ok : S.Ok) : S'.Ok := by
  cases h with
  | gone _ => exact gone_ok (mark_ok ok _ _) _ _ _
  | asked _ => exact asked_ok (mark_ok ok _ _) _ _ _
  | turned eg =>
    refine fk_keep ok eg rfl rfl rfl (fun h e => by cases e; exact (forks_keep ok eg).2.1) fun g hg => ?_
    rcases List.mem_append.mp hg with h | h
    · exact .inl h
    · rw [List.mem_singleton.mp h]
      exact .inr ⟨rfl, rfl, fun p e => ok.hr p e⟩
  | leave hg =>
    exact left_ok (mark_ok ok _ _) (by have z := inn_lt ok hg; rw [(mark_same S _ _).1]; exact z)
  | back => exact left_ok (mark_ok ok _ _) (by rw [(mark_same S _ _).1]; exact ok.two)
  | endp => exact join_ok ok ok.two
  | endw eg =>
    have z := forks_keep ok eg
    have ok1 := join_ok ok z.1
    refine fk_keep (S := S.join _) ok1 (by rw [join_forks]; exact eg) rfl rfl rfl (fun h e => by cases e; rw [join_n]; exact z.2.1) fun g hg => .inl hg
  | endi eg =>
    rename_i G f
    have z := forks_keep ok eg
    cases e : S.here with
    | none =>
      refine fk_keep ok eg ?_ ?_ ?_ (fun h e2 => ?_) fun g hg => .inl hg
      · show (S.shut f).n = S.n
        rw [shut_n e]
      · show (S.shut f).rep = S.rep
        rw [shut_n e]
      · show (S.shut f).rows = S.rows
        rw [shut_n e]
      · have e3 : (S.shut f).here = some h := e2
        rw [shut_n e] at e3
        exact z.2.2 h e3
    | some x =>
      cases e4 : f.passed with
      | none =>
        refine fk_keep ok eg ?_ ?_ ?_ (fun h e2 => ?_) fun g hg => .inl hg
        · show (S.shut f).n = S.n
          rw [shut_sn e e4]
        · show (S.shut f).rep = S.rep
          rw [shut_sn e e4]
        · show (S.shut f).rows = S.rows
          rw [shut_sn e e4]
        · have e3 : (S.shut f).here = some h := e2
          rw [shut_sn e e4] at e3
          exact ok.hr h e3
      | some y =>
        have ok1 := un_ok ok (z.2.2 y e4) (ok.hr x e)
        refine fk_keep (S := S.un y x) ok1 eg ?_ ?_ ?_ (fun h e2 => ?_) fun g hg => .inl hg
        · show (S.shut f).n = _
          rw [shut_ss e e4]
        · show (S.shut f).rep = _
          rw [shut_ss e e4]
        · show (S.shut f).rows = _
          rw [shut_ss e e4]
        · have e3 : (S.shut f).here = some h := e2
          rw [shut_ss e e4] at e3
          exact ok.hr h e3
/-- how fast it grows -/
theorem mark_sm {S : Sx} {m : Nat} (h : S.Sm m) (w : Str) (k : Nat) : (S.mark w k).Sm (m + 1) := by
  obtain ⟨h1, h2, h3, h4⟩ := h
  unfold Sx.mark
  split
  · exact ⟨by omega, by omega, by omega, by omega⟩
  · refine ⟨Nat.lt_succ_of_lt h1, Nat.lt_succ_of_lt h2, Nat.lt_succ_of_lt h3, ?_⟩
    show (S.dead ++ [k]).length < m + 1
    rw [List.length_append]
    exact Nat.succ_lt_succ h4
theorem Tks.sm {S S' : Sx} {s : Step} {m : Nat} (h : Tks S s S') (z : S.Sm m) : S'.Sm (m + 4) := by
  have le1 : ∀ {T : Sx}, T.std.n ≤ T.n + 1 := std_le1
  cases h with
  | gone _ =>
    rename_i w n k _
    obtain ⟨h1, h2, h3, h4⟩ := mark_sm z w k
    have q := le1 (T := S.mark w k)
    refine ⟨?_, ?_, ?_, ?_⟩
    · show (S.mark w k).std.n + 1 < _
      omega
    · show ((S.mark w k).rows ++ [_]).length < _
      rw [List.length_append]
      show _ + 1 < _
      omega
    · show (S.mark w k).std.forks.length < _
      rw [std_forks]
      omega
    · show (S.mark w k).std.dead.length < _
      rw [std_dead]
      omega
  | asked _ =>
    rename_i w n k _
    obtain ⟨h1, h2, h3, h4⟩ := mark_sm z w k
    have q := le1 (T := S.mark w k)
    refine ⟨?_, ?_, ?_, ?_⟩
    · show (S.mark w k).std.n + 2 < _
      omega
    · show ((S.mark w k).rows ++ [_, _]).length < _
      rw [List.length_append]
      show _ + 2 < _
      omega
    · show ((S.mark w k).forks ++ [_]).length < _
      rw [List.length_append]
      show _ + 1 < _
      omega
    · show (S.mark w k).std.dead.length < _
      rw [std_dead]
      omega
  | turned eg =>
    obtain ⟨h1, h2, h3, h4⟩ := z
    rw [eg, List.length_append] at h3
    refine ⟨Nat.lt_add_right 4 h1, Nat.lt_add_right 4 h2, ?_, Nat.lt_add_right 4 h4⟩
    show (_ ++ [_]).length < _
    rw [List.length_append]
    exact Nat.lt_add_right 4 h3
  | leave hg =>
    rename_i n k g
    have q := le1 (T := S.mark wLeave k)
    refine ⟨?_, ?_, ?_, ?_⟩
    · show (S.mark wLeave k).std.n < _
      have z1 := (mark_same S wLeave k).1
      have z2 := z.1
      omega
    · show (S.mark wLeave k).std.rows.length < _
      rw [std_rows, (mark_same S wLeave k).2.2.1]
      exact Nat.lt_add_right 4 z.2.1
    · show (S.mark wLeave k).std.forks.length < _
      rw [std_forks, (mark_same S wLeave k).2.2.2.2.2]
      exact Nat.lt_add_right 4 z.2.2.1
    · show (S.mark wLeave k).std.dead.length < _
      rw [std_dead]
      have z3 := (mark_sm z wLeave k).2.2.2
      omega
  | back =>
    rename_i n k
    have q := le1 (T := S.mark wBack k)
    refine ⟨?_, ?_, ?_, ?_⟩
    · show (S.mark wBack k).std.n < _
      have z1 := (mark_same S wBack k).1
      have z2 := z.1
      omega
    · show (S.mark wBack k).std.rows.length < _
      rw [std_rows, (mark_same S wBack k).2.2.1]
      exact Nat.lt_add_right 4 z.2.1
    · show (S.mark wBack k).std.forks.length < _
      rw [std_forks, (mark_same S wBack k).2.2.2.2.2]
      exact Nat.lt_add_right 4 z.2.2.1
    · show (S.mark wBack k).std.dead.length < _
      rw [std_dead]
      have z3 := (mark_sm z wBack k).2.2.2
      omega
  | endp =>
    obtain ⟨h1, h2, h3, h4⟩ := z
    unfold Sx.join
    cases S.here <;> exact ⟨Nat.lt_add_right 4 h1, Nat.lt_add_right 4 h2, Nat.lt_add_right 4 h3, Nat.lt_add_right 4 h4⟩
  | endw eg =>
    obtain ⟨h1, h2, h3, h4⟩ := z
    rw [eg, List.length_append] at h3
    unfold Sx.join
    cases S.here <;> exact ⟨Nat.lt_add_right 4 h1, Nat.lt_add_right 4 h2, Nat.lt_add_right 4 (Nat.lt_of_succ_lt h3), Nat.lt_add_right 4 h4⟩
  | endi eg =>
    obtain ⟨h1, h2, h3, h4⟩ := z
    rw [eg, List.length_append] at h3
    unfold Sx.shut
    split <;> exact ⟨Nat.lt_add_right 4 h1, Nat.lt_add_right 4 h2, Nat.lt_add_right 4 (Nat.lt_of_succ_lt h3), Nat.lt_add_right 4 h4⟩
theorem Tks.np {S S' : Sx} {s : Step} (h : Tks S s S') : ¬ s.w = wPart := by
  cases h with
  | gone h =>
    rcases h with rfl | rfl
    · show ¬ wDo = wPart
      decide +kernel
    · show ¬ wCall = wPart
      decide +kernel
  | asked h =>
    rcases h with rfl | rfl
    · show ¬ wIf = wPart
      decide +kernel
    · show ¬ wWhile = wPart
      decide +kernel
  | turned _ => show ¬ wElse = wPart; decide +kernel
  | leave _ => show ¬ wLeave = wPart; decide +kernel
  | back => show ¬ wBack = wPart; decide +kernel
  | endp => show ¬ wEnd = wPart; decide +kernel
  | endw _ => show ¬ wEnd = wPart; decide +kernel
  | endi _ => show ¬ wEnd = wPart; decide +kernel
section
variable {K : PySem.W.Frag} {H0 H : Hp} {p dx J R F D : Addr} {S : Sx} {rs fs : List Addr} {jl : List Nat}
/-- a list of the frame changes -/
theorem SpAt.both {x : Addr} {l l' : List V} (A : SpAt K H0 H p S) (hx : H0 x = some (.lst l)) : SpAt K (upd H0 x (.lst l')) (upd H x (.lst l')) p S := by
  obtain ⟨dx, J, R, F, D, rs, fs, jl, W⟩ := A
  have hx2 := W.same _ _ hx
  have ne : ∀ {a : Addr}, H0 a = none → a ≠ x := fun h e => by rw [e, hx] at h; cases h
  refine ⟨dx, J, R, F, D, rs, fs, jl, fun b u q => ?_, by rw [upd_ne (ne W.p0)]; exact W.op, by rw [upd_ne (ne W.J0)]; exact W.hJ, W.uf, by rw [upd_ne (ne W.R0)]; exact W.hR, W.rows_keep hx2 fun _ => lst_tup, by rw [upd_ne (ne W.F0)]; exact W.hF,
    Paired.imp (fun a b h => ⟨by rw [upd_ne (ne h.1)]; exact h.1, h.2.imp fun d e => by rw [upd_ne (ne h.1)]; exact e⟩) W.fk, by rw [upd_ne (ne W.D0)]; exact W.hD, by rw [upd_ne (ne W.p0)]; exact W.p0, by rw [upd_ne (ne W.J0)]; exact W.J0, by rw [upd_ne (ne W.R0)]; exact W.R0, by rw [upd_ne (ne W.F0)]; exact W.F0, by rw [upd_ne (ne W.D0)]; exact W.D0, W.JR, W.JF, W.JD, W.RF, W.RD, W.FD, W.nd⟩
  by_cases e : b = x
  · rw [e, upd_same] at q ⊢
    exact q
  · rw [upd_ne e] at q ⊢
    exact W.same b u q
/-- a thing new around is kept too -/
theorem SpAt.hold {x : Addr} {o : HO} (A : SpAt K H0 H p S) (hx : H x = none) : SpAt K (upd H0 x o) (upd H x o) p S := by
  obtain ⟨dx, J, R, F, D, rs, fs, jl, W⟩ := A
  refine ⟨dx, J, R, F, D, rs, fs, jl, (W.grow (same_new hx o)).hold upd_same (ne_of_none W.op hx) (ne_of_none W.hJ hx) (ne_of_none W.hR hx) (ne_of_none W.hF hx) (ne_of_none W.hD hx) fun h => ?_⟩
  obtain ⟨f, _, _, d, e⟩ := Paired.mem W.fk h
  exact ne_of_none e hx rfl
end
/-- a part drawn, kept apart from the list at D -/
def DrL (K : PySem.W.Frag) (D : Addr) (H : Hp) (a : Addr) (d : Dr) : Prop := ∃ p F l, H a = some (.tup [.str d.n, .int (d.k : Int), .ref p]) ∧ F D = some (.lst l) ∧ SpAt K F H p d.S
def DrAt (K : PySem.W.Frag) (H : Hp) (a : Addr) (d : Dr) : Prop := ∃ p F, H a = some (.tup [.str d.n, .int (d.k : Int), .ref p]) ∧ SpAt K F H p d.S
theorem DrL.more {K : PySem.W.Frag} {D : Addr} {H H' : Hp} {a : Addr} {d : Dr} (h : DrL K D H a d) (s : Same H H') : DrL K D H' a d := by
  obtain ⟨p, F, l, h1, h2, h3⟩ := h
  exact ⟨p, F, l, s _ _ h1, h2, h3.more s⟩
theorem DrL.set {K : PySem.W.Frag} {D : Addr} {H : Hp} {a : Addr} {d : Dr} {l l' : List V} (h : DrL K D H a d) (hD : H D = some (.lst l)) : DrL K D (upd H D (.lst l')) a d := by
  obtain ⟨p, F, m, h1, h2, h3⟩ := h
  exact ⟨p, _, l', by rw [upd_ne (ne_of h1 hD tup_lst)]; exact h1, upd_same, h3.both h2⟩
theorem DrL.at_ {K : PySem.W.Frag} {D : Addr} {H : Hp} {a : Addr} {d : Dr} (h : DrL K D H a d) : DrAt K H a d := by
  obtain ⟨p, F, l, h1, h2, h3⟩ := h
  exact ⟨p, F, h1, h3⟩
/-- the parts so far: the last of them may still turn -/
inductive DrS (K : PySem.W.Frag) (H : Hp) (D : Addr) (i : Nat) : Hp → List Addr → List Dr → Prop
  | nil {H' : Hp} : Same H H' → H' D = some (.lst []) → DrS K H D i H' [] []
  | snoc {H' Hf : Hp} {as : List Addr} {ds : List Dr} {a p : Addr} {d : Dr} : Same H Hf → Hf D = some (.lst ((as ++ [a]).map V.ref)) → Hf a = some (.tup [.str d.n, .int (d.k : Int), .ref p]) → Paired (DrL K D Hf) as ds → SpAt K Hf H' p d.S → d.S.Ok → d.S.Sm (3 + 4 * i) → DrS K H D i H' (as ++ [a]) (ds ++ [d])
theorem SpAt.same {K : PySem.W.Frag} {H0 H : Hp} {p : Addr} {S : Sx} (A : SpAt K H0 H p S) : Same H0 H := by
  obtain ⟨dx, J, R, F, D, rs, fs, jl, W⟩ := A
  exact W.same
theorem DrS.same {K : PySem.W.Frag} {H : Hp} {D : Addr} {i : Nat} {H' : Hp} {as : List Addr} {ds : List Dr} (h : DrS K H D i H' as ds) : Same H H' := by
  cases h with
  | nil s _ => exact s
  | snoc s _ _ _ A _ _ => exact s.trans A.same
theorem DrS.all {K : PySem.W.Frag} {H : Hp} {D : Addr} {i : Nat} {H' : Hp} {as : List Addr} {ds : List Dr} (h : DrS K H D i H' as ds) : Same H H' ∧ H' D = some (.lst (as.map V.ref)) ∧ Paired (DrL K D H') as ds := by
  cases h with
  | nil s e => exact ⟨s, e, .nil⟩
  | snoc s e t ps A _ _ => exact ⟨s.trans A.same, A.same _ _ e, Paired.app (Paired.imp (fun a b h => h.more A.same) ps) (.cons ⟨_, _, _, A.same _ _ t, e, A⟩ .nil)⟩
def spDrawn (K : PySem.W.Frag) : L2.Sp := fun vs H Q _ => ∃ (C : Addr) (ts : List Addr) (st : List Step) (out : List Dr), vs = [.ref C] ∧ H C = some (.lst (ts.map V.ref)) ∧ Paired (StepAt H) ts st ∧ st.length < 1000000 ∧ Drs [] st out ∧ ∀ H' D as, Same H H' → H' D = some (.lst (as.map V.ref)) → Paired (DrAt K H') as out → out.length ≤ st.length → (∀ d ∈ out, d.S.Sm 5000000) → Q (.ref D) H'
section
variable {P : Program} {w : World} {K : PySem.W.Frag} {mg : Str → Option Value} {base : Heap}
theorem sc_drawn_of : FnScope ["taken", "drawn", "word", "at", "name"] ["taken"] (defScope (top 31)) := ⟨rfl, rfl, rfl, by decide +kernel, rfl, by decide +kernel, by decide +kernel⟩
theorem c_drawn_of (T : Txt K mg) : Cal P w K mg base CX0 5 "drawn_of" ["taken"] (spDrawn K) := by
  have M_Spots : Mkr P w K mg base CX0 1 "Spots" ["self"] (spSpots K) := mk_Spots T
  have M_take : Met P w K mg base CX0 4 "Spots" "take" ["self", "word", "at", "name"] (spTake K) := m_take T
  obtain ⟨fd, F⟩ := T.d_drawn_of
  refine ⟨⟨fd, fn0 F sc_drawn_of (fun vs H Q E h => ?_) (fun cdv A outer s H vs Q E hr h => ?_), FunD.bindsN F fun _ _ _ _ _ _ us hl => match us, hl with | [_], _ => rfl⟩, T.k_drawn_of, T.g_drawn_of⟩
  · obtain ⟨_, _, _, _, rfl, _⟩ := h
    rfl
  obtain ⟨C, ts, st, out, rfl, hC, pt, hz, drs, k⟩ := h
  refine ⟨_, (pss_cons (ps_set (i := 1) sc_drawn_of.nd rfl (.inl rfl) (pe_lst pa_nil))
    (pss_cons (ps_for PassesOwn.never rfl (pi_list (pv 0)) (pg_tup rfl (pgs_cons (pg_name (i := 2) sc_drawn_of.nd rfl (.inl rfl)) (pgs_cons (pg_name (i := 3) sc_drawn_of.nd rfl (.inl rfl)) (pgs_cons (pg_name (i := 4) sc_drawn_of.nd rfl (.inl rfl)) pgs_nil))))
      (pss_one (ps_if (pt_cmpR op_eq (pv 2) pe_str (by rfl))
        (pss_one (ps_expr (pe_bm PySem.F.plainAttrs_list PySem.F.slot_list_append PySem.F.type_list_append mt_append (pv 1) (pa_cons (pe_tup (pa_cons (pv 4) (pa_cons (pv 3) (pa_cons (pmake0 M_Spots (hr.mono (by decide)) rfl pass0) pa_nil)))) pa_nil))))
        (pss_one (ps_expr (pmeth (pe_ix ix_tup (pe_ix ix_list (pv 1) (pe_un un_neg pe_int) (fun _ _ => rfl)) pe_int (fun _ _ => rfl)) M_take (hr.mono (by decide)) pass0 (pa_cons (pv 2) (pa_cons (pv 3) (pa_cons (pv 4) pa_nil)))))))))
    (pss_one (ps_ret (pv 1))))), ?_⟩
  refine ⟨Nat.zero_le _, fun D hD => ?_⟩
  have s1 := same_new hD (.lst [])
  have lt := Paired.len pt
  refine ⟨_, rfl, C, rfl, ⟨_, SqL.of (s1 _ _ hC)⟩, ?_⟩
  refine for_list (xs := ts.map V.ref) (fun i σ H' => ∃ (a b c : Option V) (as : List Addr) (ds : List Dr), σ = [some (.ref C), some (.ref D), a, b, c] ∧ Drs ds (st.drop i) out ∧ ds.length ≤ i ∧ i ≤ ts.length ∧ DrS K H D i H' as ds ∧ ∀ d ∈ ds, d.S.Sm 5000000) ?_ ?_ ?_ ?_
  · exact ⟨none, none, none, [], [], rfl, drs, Nat.le_refl _, Nat.zero_le _, .nil s1 upd_same, (fun _ h => nomatch h)⟩
  · rintro i σ H' _ ⟨a, b, c, as, ds, rfl, _, _, _, g, _⟩
    exact SqL.of (g.same _ _ hC)
  · rintro i x σ H' hx ⟨a, b, c, as, ds, rfl, dr, hl, hi, g, sms⟩
    rw [List.getElem?_map] at hx
    cases ei : ts[i]? with
    | none => rw [ei] at hx; cases hx
    | some y =>
      rw [ei] at hx
      cases hx
      obtain ⟨s, es, hy⟩ := Paired.get pt ei
      have hlt : i < ts.length := (List.getElem?_eq_some_iff.mp ei).1
      have hlt2 : i < st.length := by rw [← lt]; exact hlt
      have ed : st.drop i = s :: st.drop (i + 1) := by
        have e1 : st[i] = s := (List.getElem?_eq_some_iff.mp es).2
        rw [List.drop_eq_getElem_cons hlt2, e1]
      rw [ed] at dr
      obtain ⟨sA, hD', ps⟩ := g.all
      refine ⟨y, _, rfl, SqT.of (sA _ _ hy), rfl, _, _, rfl, _, _, rfl, _, _, rfl, rfl, ?_⟩
      have pl := Paired.len ps
      cases dr with
      | part dr =>
        rename_i n k'
        refine ⟨_, rfl, rfl, _, rfl, ifT (str_eq rfl) ?_⟩
        refine ⟨_, rfl, .inl ⟨rfl, _, SqL.of hD'⟩, ?_⟩
        refine ⟨_, rfl, _, rfl, fun x dx hx hdx ne => ?_⟩
        refine ⟨H', x, dx, rfl, same_upd (same_new hdx _) hx, hx, upd_same, fun H1 A1 => ⟨rfl, (by show 3 ≤ sizeLine; decide), fun t ht => ?_⟩⟩
        have A2 := A1.hold (o := .tup [.str n, .int (k' : Int), .ref x]) ht
        have ht' : H' t = none := A1.same.free ht
        have nDt : D ≠ t := ne_of_none hD' ht'
        have hD1 : upd H' t (.tup [.str n, .int (k' : Int), .ref x]) D = some (.lst (as.map V.ref)) := by rw [upd_ne nDt]; exact hD'
        refine ⟨D, _, _, rfl, rfl, A2.same _ _ hD1, by rw [List.length_map, pl]; exact szl (by omega), ?_⟩
        have e5 : as.map V.ref ++ [V.ref t] = (as ++ [t]).map V.ref := by rw [List.map_append] <;> rfl
        rw [e5]
        have A3 := A2.both (l' := (as ++ [t]).map V.ref) hD1
        refine ⟨_, _, _, as ++ [t], ds ++ [⟨n, k', Sx.new⟩], rfl, dr, by rw [List.length_append]; exact Nat.succ_le_succ hl, hlt, ?_, ?_⟩
        · refine .snoc (p := x) ?_ upd_same ?_ ?_ A3 new_ok ?_
          · intro b u q
            rw [upd_ne (fun e => by rw [e, hD] at q; cases q), upd_ne (ne_of_none (sA _ _ q) ht')]
            exact sA _ _ q
          · rw [upd_ne nDt.symm, upd_same]
          · exact Paired.imp (fun a b h => (h.more (same_new ht' _)).set hD1) ps
          · exact ⟨by show 2 < _; omega, by show 0 < _; omega, by show 0 < _; omega, by show 0 < _; omega⟩
        · intro d hd
          rcases List.mem_append.mp hd with hd | hd
          · exact sms d hd
          · rw [List.mem_singleton.mp hd]
            exact ⟨(by show 2 < 5000000; decide), (by show 0 < 5000000; decide), (by show 0 < 5000000; decide), (by show 0 < 5000000; decide)⟩
      | take tk dr =>
        rename_i ds1 n k' S S'
        refine ⟨_, rfl, rfl, _, rfl, ifF (str_ne tk.np) ?_⟩
        generalize eds : ds1 ++ [(⟨n, k', S⟩ : Dr)] = dsx at g
        cases g with
        | nil _ _ => exact absurd eds (by simp)
        | snoc sf hDf ha ps0 A0 ok sm =>
          rename_i Hf as0 ds0 a p d
          obtain ⟨q1, q2⟩ := List.append_inj' eds rfl
          injection q2 with q2
          subst q1 q2
          have hDx := A0.same _ _ hDf
          rw [List.map_append] at hDx
          have sm2 : S.Sm 14000000 := sm.mono (by omega)
          obtain ⟨dx, J, R, F', D', rs, fs, jl, W⟩ := id A0
          refine ⟨_, rfl, _, rfl, D, _, _, _, rfl, rfl, SqL.of hDx, atI_last _ _, ?_⟩
          refine ⟨a, _, _, .ref p, rfl, rfl, SqT.of (A0.same _ _ ha), rfl, ?_⟩
          refine ⟨p, dx, _, rfl, W.op, sp_no_take, _, rfl, _, rfl, _, rfl, Hf, p, S, S', s.w, s.n, s.k, rfl, A0, ok, sm2, tk, fun H1 A1 => ?_⟩
          have sm3 : S'.Sm (3 + 4 * (i + 1)) := (tk.sm sm).mono (by omega)
          refine ⟨_, _, _, as0 ++ [a], ds1 ++ [⟨n, k', S'⟩], rfl, dr, by rw [List.length_append] at hl ⊢; exact Nat.le_succ_of_le hl, hlt, .snoc sf hDf ha ps0 A1 (tk.ok ok) sm3, fun d hd => ?_⟩
          rcases List.mem_append.mp hd with hd | hd
          · exact sms d (List.mem_append_left _ hd)
          · rw [List.mem_singleton.mp hd]
            exact sm3.mono (by omega)
  · rintro σ H' ⟨a, b, c, as, ds, rfl, dr, hl, hi, g, sms⟩
    have e : st.drop (ts.map V.ref).length = [] := by rw [List.length_map, lt]; exact List.drop_length
    rw [e] at dr
    cases dr with
    | nil =>
      obtain ⟨sA, hD', ps⟩ := g.all
      exact ⟨_, rfl, k H' D as sA hD' (Paired.imp (fun a b h => h.at_) ps) (by rw [← lt]; rw [List.length_map] at hl; exact hl) sms⟩
end
end Fc

set_option Elab.async false
set_option linter.all false
set_option maxRecDepth 100000
set_option maxHeartbeats 4000000
namespace Fc
open PySem PySem.Spec PyProof.Rows L2 He
/-! the faults -/
theorem pseqS {t1 t2 : TS} {D : Ends} {σ : L2.St} {H : Hp} (R : L2.St → Hp → Prop) (h1 : ∀ D' : Ends, D'.rt = D.rt → (∀ σ1 H1, R σ1 H1 → D'.nx σ1 H1) → t1 D' σ H) (h2 : ∀ σ1 H1, R σ1 H1 → t2 D σ1 H1) : tSeq t1 t2 D σ H := h1 { D with nx := t2 D } rfl h2
theorem cut_take (l : List Str) {i : Nat} : cutV (sS l) none (some (i : Int)) = sS (l.take i) := by
  unfold cutV
  rw [HT.sIx_none, HT.sIx_nat, List.drop_zero, Nat.sub_zero, sS_len]
  unfold sS
  rw [List.map_take]
  by_cases h : i ≤ l.length
  · rw [Nat.min_eq_left h]
  · rw [Nat.min_eq_right (Nat.le_of_not_le h), List.take_of_length_le (by rw [List.length_map]; exact Nat.le_refl _), List.take_of_length_le (by rw [List.length_map]; exact Nat.le_of_not_le h)]
theorem cut_drop (l : List Str) {i : Nat} : cutV (sS l) (some (i : Int)) none = sS (l.drop i) := by
  unfold cutV
  rw [HT.sIx_none, HT.sIx_nat, sS_len]
  unfold sS
  rw [List.map_drop]
  by_cases h : i ≤ l.length
  · rw [Nat.min_eq_left h, List.take_of_length_le (by rw [List.length_drop, List.length_map]; exact Nat.le_refl _)]
  · have h2 := Nat.le_of_not_le h
    rw [Nat.min_eq_right h2, Nat.sub_self, List.take_zero, List.drop_eq_nil_of_le (by rw [List.length_map]; exact h2)]
theorem inV_S {w : Str} {l : List Str} : inV (.str w) (sS l) = decide (w ∈ l) := by
  by_cases h : w ∈ l
  · rw [decide_eq_true h]
    exact inS h
  · rw [decide_eq_false h]
    refine Bool.eq_false_iff.mpr fun z => h ?_
    obtain ⟨y, hy, e⟩ := List.any_eq_true.mp z
    obtain ⟨u, hu, rfl⟩ := List.mem_map.mp hy
    have e2 : (u == w) = true := e
    rw [← eq_of_beq e2]
    exact hu
section
variable {K : PySem.W.Frag} {σ : L2.St} {H : Hp} {Q : VK} {a b c : Nat} {n : Str} {A : Addr} {l : List Str} {i : Nat}
theorem in_take (h1 : σ[a]? = some (some (.str n))) (h2 : σ[b]? = some (some (.ref A))) (h3 : σ[c]? = some (some (.int (i : Int)))) (hA : H A = some (.lst (sS l))) (k : ∀ t, H t = none → Q (.bl (decide (n ∈ l.take i))) (upd H t (.lst (sS (l.take i))))) :
    tOp (rIn K false) (tVar a) (tSl (rSlL K) (tVar b) tNoPart (tPart (tVar c))) σ H Q := by
  refine ⟨_, h1, _, h2, _, h3, _, rfl, A, _, rfl, SqL.of hA, fun t ht => ?_⟩
  rw [cut_take]
  refine ⟨t, _, rfl, .inl (SqL.of upd_same), rfl, flatS _, ?_⟩
  show Q (.bl (inV (.str n) (sS (l.take i)))) _
  rw [inV_S]
  exact k t ht
theorem nin_drop (h1 : σ[a]? = some (some (.str n))) (h2 : σ[b]? = some (some (.ref A))) (h3 : σ[c]? = some (some (.int (i : Int)))) (hA : H A = some (.lst (sS l))) (k : ∀ t, H t = none → Q (.bl (!decide (n ∈ l.drop (i + 1)))) (upd H t (.lst (sS (l.drop (i + 1)))))) :
    tOp (rIn K true) (tVar a) (tSl (rSlL K) (tVar b) (tPart (tOp (rI0 fun i j => .int (i + j)) (tVar c) (tC (.int 1)))) tNoPart) σ H Q := by
  refine ⟨_, h1, _, h2, _, h3, _, _, rfl, rfl, _, rfl, A, _, rfl, SqL.of hA, fun t ht => ?_⟩
  have e : ((i : Int) + 1) = ((i + 1 : Nat) : Int) := rfl
  rw [e, cut_drop]
  refine ⟨t, _, rfl, .inl (SqL.of upd_same), rfl, flatS _, ?_⟩
  show Q (.bl (!inV (.str n) (sS (l.drop (i + 1))))) _
  rw [inV_S]
  exact k t ht
theorem nin_list (h1 : σ[a]? = some (some (.str n))) (h2 : σ[b]? = some (some (.ref A))) (hA : H A = some (.lst (sS l))) (k : Q (.bl (!decide (n ∈ l))) H) :
    tOp (rIn K true) (tVar a) (tVar b) σ H Q := by
  refine ⟨_, h1, _, h2, A, _, rfl, .inl (SqL.of hA), rfl, flatS _, ?_⟩
  show Q (.bl (!inV (.str n) (sS l))) _
  rw [inV_S]
  exact k
end
theorem for_enum {K : PySem.W.Frag} {a : Addr} {xs : List V} {g : TG} {tb : TS} {D : Ends} {σ : L2.St} {H : Hp} (Pv : Nat → L2.St → Hp → Prop) (h0 : Pv 0 σ H) (hl : ∀ i σ H, i ≤ xs.length → Pv i σ H → SqL K H a xs)
    (hs : ∀ i x σ H T, xs[i]? = some x → Pv i σ H → H T = none → g (.ref T) σ (upd H T (.tup [.int (i : Nat), x])) fun σ2 H2 => tb { D with nx := Pv (i + 1), ct := Pv (i + 1), bk := D.nx } σ2 H2) (hd : ∀ σ H, Pv xs.length σ H → D.nx σ H) :
    ∃ W : Nat → Nat → L2.St → Hp → Prop, (∃ m, W 0 m σ H) ∧ ∀ i m σ H, W i m σ H →
      ((Ite K a).stop i H ∧ D.nx σ H) ∨ ((Ite K a).go i H ∧ ∃ N : L2.St → Hp → Prop, (∀ σ' H', N σ' H' → ∃ m', m' < m ∧ W (i + 1) m' σ' H') ∧ ∀ v H', (Ite K a).yld i H v H' → g v σ H' fun σ2 H2 => tb { D with nx := N, ct := N, bk := D.nx } σ2 H2) := by
  refine ⟨fun i m σ H => m = xs.length - i ∧ i ≤ xs.length ∧ Pv i σ H, ⟨xs.length, by simp, Nat.zero_le _, h0⟩, ?_⟩
  rintro i m σ H ⟨rfl, hi, p⟩
  have q := hl i σ H hi p
  by_cases hlt : i < xs.length
  · refine .inr ⟨⟨xs, xs[i], q, by simp [hlt]⟩, Pv (i + 1), fun σ' H' p' => ⟨xs.length - (i + 1), by omega, rfl, hlt, p'⟩, fun v H' y => ?_⟩
    obtain ⟨T, x, ev, hT, eH, ex⟩ := y
    subst ev eH
    exact hs i x σ _ T (ex xs q) p hT
  · have e : i = xs.length := by omega
    subst e
    exact .inl ⟨⟨xs, q, Nat.le_refl _⟩, hd σ H p⟩
def spRtm (K : PySem.W.Frag) : L2.Sp := fun vs H Q _ => ∃ (C : Addr) (ts : List Addr) (st : List Step), vs = [.ref C] ∧ H C = some (.lst (ts.map V.ref)) ∧ Paired (StepAt H) ts st ∧ ∀ H' L, H L = none → Same H H' → H' L = some (.lst (nI (rtm st 0))) → Q (.ref L) H'
def fNames (out : List Dr) : List Str := out.map (·.n)
def fCalled (st : List Step) : List Str := (scas st).map (·.1)
theorem rowCas_cons (r : Row) (R : List Row) : rowCas (r :: R) = (if r.w = wCall then [(r.n, r.k)] else []) ++ rowCas R := by
  unfold rowCas
  by_cases h : r.w = wCall
  · rw [List.filterMap_cons_some (by show (if r.w = wCall then _ else _) = _; rw [if_pos h]), if_pos h]
    rfl
  · rw [List.filterMap_cons_none (by show (if r.w = wCall then _ else _) = _; rw [if_neg h]), if_neg h, List.nil_append]
theorem fCalled_snoc {st : List Step} {i : Nat} {s : Step} (h : st[i]? = some s) : fCalled (st.take (i + 1)) = fCalled (st.take i) ++ (if s.w = wCall then [s.n] else []) := by
  have tk : st.take (i + 1) = st.take i ++ [s] := by
    rw [List.take_add_one, h]
    rfl
  unfold fCalled
  rw [tk, scas_app, List.map_append]
  congr 1
  by_cases q : s.w = wCall
  · rw [scas_yes q, if_pos q]
    rfl
  · rw [scas_no q, if_neg q]
    rfl
theorem fCalled_len (st : List Step) : (fCalled st).length ≤ st.length := by
  unfold fCalled scas
  rw [List.length_map]
  exact List.length_filterMap_le _ _
def spFaults (K : PySem.W.Frag) : L2.Sp := fun vs H Q _ => ∃ (C : Addr) (ts : List Addr) (st : List Step) (out : List Dr), vs = [.ref C] ∧ H C = some (.lst (ts.map V.ref)) ∧ Paired (StepAt H) ts st ∧ st.length < 1000000 ∧ Drs [] st out ∧ (∀ d ∈ out, d.S.Ok ∧ d.S.Cov ∧ d.S.rows.length < 1000000) ∧ (proF (fNames out) (fCalled st) st out).length < 1000000 ∧
  ∀ H' L, Same H H' → H' L = some (.lst (nI (proF (fNames out) (fCalled st) st out))) → Q (.ref L) H'
section
variable {P : Program} {w : World} {K : PySem.W.Frag} {mg : Str → Option Value} {base : Heap}
theorem sc_row_too_many : FnScope ["taken", "many", "word", "at", "name"] ["taken"] (defScope (top 32)) := ⟨rfl, rfl, rfl, by decide +kernel, rfl, by decide +kernel, by decide +kernel⟩
theorem c_row_too_many (T : Txt K mg) : Cal P w K mg base CX0 1 "row_too_many" ["taken"] (spRtm K) := by
  obtain ⟨fd, F⟩ := T.d_row_too_many
  refine ⟨⟨fd, fn0 F sc_row_too_many (fun vs H Q E h => ?_) (fun cdv A outer s H vs Q E hr h => ?_), FunD.bindsN F fun _ _ _ _ _ _ us hl => match us, hl with | [_], _ => rfl⟩, T.k_row_too_many, T.g_row_too_many⟩
  · obtain ⟨_, _, _, rfl, _⟩ := h
    rfl
  obtain ⟨C, ts, st, rfl, hC, pt, k⟩ := h
  refine ⟨_, (pss_cons (ps_set (i := 1) sc_row_too_many.nd rfl (.inl rfl) pe_int)
    (pss_cons (ps_for PassesOwn.never rfl (pi_list (pv 0)) (pg_tup rfl (pgs_cons (pg_name (i := 2) sc_row_too_many.nd rfl (.inl rfl)) (pgs_cons (pg_name (i := 3) sc_row_too_many.nd rfl (.inl rfl)) (pgs_cons (pg_name (i := 4) sc_row_too_many.nd rfl (.inl rfl)) pgs_nil))))
      (pss_cons (ps_if (pt_cmpR op_in_seq (pv 2) (pe_tup (pa_cons pe_str (pa_cons pe_str pa_nil))) (by rfl))
        (pss_one (ps_aug (i := 1) sc_row_too_many.nd rfl (.inl rfl) pe_int ip_add))
        pss_nil)
      (pss_cons (ps_if (pt_cmpR op_in_seq (pv 2) (pe_tup (pa_cons pe_str (pa_cons pe_str pa_nil))) (by rfl))
        (pss_one (ps_aug (i := 1) sc_row_too_many.nd rfl (.inl rfl) pe_int ip_add))
        pss_nil)
      (pss_one (ps_if (pt_cmpR op_gt (pv 1) (pe_glob (v := .int 30) rfl T.i_MOST_ROWS.choose_spec ⟨_, rfl⟩) (by rfl))
        (pss_one (ps_ret (pe_lst (pa_cons (pv 3) pa_nil))))
        pss_nil)))))
    (pss_one (ps_ret (pe_lst pa_nil))))), ?_⟩
  refine ⟨_, rfl, C, rfl, ⟨_, SqL.of hC⟩, ?_⟩
  have lt := Paired.len pt
  refine for_list (xs := ts.map V.ref) (fun i σ H' => ∃ (m : Nat) (a b c : Option V), σ = [some (.ref C), some (.int (m : Int)), a, b, c] ∧ m ≤ 30 ∧ Same H H' ∧ rtm (st.drop i) m = rtm st 0) ?_ ?_ ?_ ?_
  · exact ⟨0, none, none, none, rfl, by decide, Same.refl _, rfl⟩
  · rintro i σ H' _ ⟨m, a, b, c, rfl, _, s1, _⟩
    exact SqL.of (s1 _ _ hC)
  · rintro i x σ H' hx ⟨m, a, b, c, rfl, hm, s1, er⟩
    rw [List.getElem?_map] at hx
    cases ei : ts[i]? with
    | none => rw [ei] at hx; cases hx
    | some y =>
      rw [ei] at hx
      cases hx
      obtain ⟨s, es, hy⟩ := Paired.get pt ei
      have hlt2 : i < st.length := (List.getElem?_eq_some_iff.mp es).1
      have ed : st.drop i = s :: st.drop (i + 1) := by
        have e1 : st[i] = s := (List.getElem?_eq_some_iff.mp es).2
        rw [List.drop_eq_getElem_cons hlt2, e1]
      rw [ed] at er
      refine ⟨y, _, rfl, SqT.of (s1 _ _ hy), rfl, _, _, rfl, _, _, rfl, _, _, rfl, rfl, ?_⟩
      refine pseqS (fun σ1 H1 => σ1 = [some (.ref C), some (.int ((m + (if s.w = wDo ∨ s.w = wCall then 1 else 0) : Nat) : Int)), some (.str s.w), some (.int (s.k : Int)), some (.str s.n)] ∧ Same H H1) (fun D' _ g => ?_) ?_
      · refine in2 rfl fun t ht => ⟨_, rfl, ?_⟩
        have s2 := s1.trans (same_new ht (.tup [.str wDo, .str wCall]))
        by_cases q : s.w = wDo ∨ s.w = wCall
        · rw [if_pos q] at g
          exact ifT (decide_eq_true q) ⟨_, rfl, _, _, rfl, rfl, g _ _ ⟨rfl, s2⟩⟩
        · rw [if_neg q] at g
          exact ifF (decide_eq_false q) (g _ _ ⟨rfl, s2⟩)
      rintro σ1 H1 ⟨rfl, s2⟩
      refine pseqS (fun σ1 H1 => σ1 = [some (.ref C), some (.int ((m + wt s.w : Nat) : Int)), some (.str s.w), some (.int (s.k : Int)), some (.str s.n)] ∧ Same H H1) (fun D' _ g => ?_) ?_
      · refine in2 rfl fun t ht => ⟨_, rfl, ?_⟩
        have s3 := s2.trans (same_new ht (.tup [.str wIf, .str wWhile]))
        unfold wt at g
        rw [← Nat.add_assoc] at g
        by_cases q : s.w = wIf ∨ s.w = wWhile
        · rw [if_pos q] at g
          exact ifT (decide_eq_true q) ⟨_, rfl, _, _, rfl, rfl, g _ _ ⟨rfl, s3⟩⟩
        · rw [if_neg q] at g
          exact ifF (decide_eq_false q) (g _ _ ⟨rfl, s3⟩)
      rintro σ1 H2 ⟨rfl, s3⟩
      refine ⟨_, rfl, _, _, rfl, rfl, _, rfl, ?_⟩
      by_cases q : 30 < m + wt s.w
      · refine ifT (decide_eq_true (by omega)) ?_
        refine ⟨_, rfl, (by show 1 ≤ sizeLine; decide), fun L hL => ?_⟩
        refine k _ L (s3.free hL) (s3.trans (same_new hL _)) ?_
        rw [upd_same, ← er]
        show _ = some (HO.lst (nI (if 30 < m + wt s.w then [s.k] else _)))
        rw [if_pos q]
        rfl
      · refine ifF (decide_eq_false (by omega)) ?_
        refine ⟨m + wt s.w, _, _, _, rfl, by omega, s3, ?_⟩
        rw [← er]
        show _ = (if 30 < m + wt s.w then [s.k] else rtm (st.drop (i + 1)) (m + wt s.w))
        rw [if_neg q]
  · rintro σ H' ⟨m, a, b, c, rfl, hm, s1, er⟩
    have e : st.drop (ts.map V.ref).length = [] := by rw [List.length_map, lt]; exact List.drop_length
    rw [e] at er
    refine ⟨Nat.zero_le _, fun L hL => k _ L (s1.free hL) (s1.trans (same_new hL _)) ?_⟩
    rw [upd_same, ← er]
    rfl
end
end Fc

set_option Elab.async false
set_option linter.all false
set_option maxRecDepth 100000
set_option maxHeartbeats 4000000
namespace Fc
open PySem PySem.Spec PyProof.Rows L2 He
def caF (ns : List Str) (i : Nat) (R : List Row) : List Nat := (rowCas R).flatMap fun c => if c.1 ∈ ns.drop (i + 1) then [] else [c.2 + 1]
theorem caF_cons {ns : List Str} {i : Nat} {r : Row} {R : List Row} : caF ns i (r :: R) = (if r.w = wCall ∧ r.n ∉ ns.drop (i + 1) then [r.k + 1] else []) ++ caF ns i R := by
  unfold caF
  rw [rowCas_cons, List.flatMap_append]
  congr 1
  by_cases h : r.w = wCall
  · rw [if_pos h]
    by_cases q : r.n ∈ ns.drop (i + 1)
    · rw [if_neg fun z => z.2 q]
      show (if r.n ∈ ns.drop (i + 1) then _ else _) ++ [] = _
      rw [if_pos q] <;> rfl
    · rw [if_pos ⟨h, q⟩]
      show (if r.n ∈ ns.drop (i + 1) then _ else _) ++ [] = _
      rw [if_neg q] <;> rfl
  · rw [if_neg h, if_neg fun z => h z.1]
    rfl
section
variable {P : Program} {w : World} {K : PySem.W.Frag} {mg : Str → Option Value} {base : Heap}
theorem sc_faults_of : FnScope ["taken", "drawn", "name", "at", "spots", "names", "word", "called", "faults", "number", "other", "place", "start", "goal"] ["taken"] (defScope (top 33)) := ⟨rfl, rfl, rfl, by decide +kernel, rfl, by decide +kernel, by decide +kernel⟩
theorem c_faults_of (T : Txt K mg) : Cal P w K mg base CX0 6 "faults_of" ["taken"] (spFaults K) := by
  have C_drawn_of : Cal P w K mg base CX0 5 "drawn_of" ["taken"] (spDrawn K) := c_drawn_of T
  have C_row_too_many : Cal P w K mg base CX0 1 "row_too_many" ["taken"] (spRtm K) := c_row_too_many T
  have M_root : Met P w K mg base CX0 1 "Spots" "root" ["self", "spot"] (spRoot K) := m_root T
  have M_places : Met P w K mg base CX0 2 "Spots" "places" ["self"] (spPlaces K) := m_places T
  obtain ⟨fd, F⟩ := T.d_faults_of
  refine ⟨⟨fd, fn0 F sc_faults_of (fun vs H Q E h => ?_) (fun cdv A outer s H vs Q E hr h => ?_), FunD.bindsN F fun _ _ _ _ _ _ us hl => match us, hl with | [_], _ => rfl⟩, T.k_faults_of, T.g_faults_of⟩
  · obtain ⟨_, _, _, _, rfl, _⟩ := h
    rfl
  obtain ⟨C, ts, st, out, rfl, hC, pt, hz, drs, oks, hlen, k⟩ := h
  refine ⟨_, (pss_cons (ps_set (i := 1) sc_faults_of.nd rfl (.inl rfl) (pcall C_drawn_of (hr.mono (by decide)) rfl pass0 (pa_cons (pv 0) pa_nil)))
    (pss_cons (ps_setLc (i := 5) (own := [("name", 2), ("at", 3), ("spots", 4)]) (g := (gTup K 3 (gCons (gName 2) (gCons (gName 3) (gCons (gName 4) gNil))))) (tt := tYes) (te := tVar 2) rfl sc_faults_of.nd rfl rfl (sw_true rfl rfl rfl (by decide +kernel)) (pi_list (pv 1)) (blkOk_by (own := [("name", 2), ("at", 3), ("spots", 4)]) (N := ["taken", "drawn", "name", "at", "spots", "names", "word", "called", "faults", "number", "other", "place", "start", "goal"]) (sc := defScope (top 33)) (by decide +kernel)) (fun _ _ _ _ _ => (pg_tup rfl (pgs_cons (pg_name (i := 2) sc_faults_of.nd rfl (.inl rfl)) (pgs_cons (pg_name (i := 3) sc_faults_of.nd rfl (.inl rfl)) (pgs_cons (pg_name (i := 4) sc_faults_of.nd rfl (.inl rfl)) pgs_nil))))) (fun _ _ _ _ _ => pts_nil) (fun _ _ _ _ _ => (pv 2)))
    (pss_cons (ps_setLc (i := 7) (own := [("word", 6), ("at", 3), ("name", 2)]) (g := (gTup K 3 (gCons (gName 6) (gCons (gName 3) (gCons (gName 2) gNil))))) (tt := tTest (tOp rEq (tVar 6) (tC (.str "call")))) (te := tVar 2) rfl sc_faults_of.nd rfl rfl (sw_true rfl rfl rfl (by decide +kernel)) (pi_list (pv 0)) (blkOk_by (own := [("word", 6), ("at", 3), ("name", 2)]) (N := ["taken", "drawn", "name", "at", "spots", "names", "word", "called", "faults", "number", "other", "place", "start", "goal"]) (sc := defScope (top 33)) (by decide +kernel)) (fun _ _ _ _ _ => (pg_tup rfl (pgs_cons (pg_name (i := 6) sc_faults_of.nd rfl (.inl rfl)) (pgs_cons (pg_name (i := 3) sc_faults_of.nd rfl (.inl rfl)) (pgs_cons (pg_name (i := 2) sc_faults_of.nd rfl (.inl rfl)) pgs_nil))))) (fun _ _ _ _ _ => (pts_one (pt_cmpR op_eq (pv 6) pe_str (by rfl)))) (fun _ _ _ _ _ => (pv 2)))
    (pss_cons (ps_set (i := 8) sc_faults_of.nd rfl (.inl rfl) (pcall C_row_too_many (hr.mono (by decide)) rfl pass0 (pa_cons (pv 0) pa_nil)))
    (pss_cons (ps_for PassesOwn.never rfl (pi_enum (by rfl) T.z_enumerate (pa_cons (pv 1) pa_nil)) (pg_tup rfl (pgs_cons (pg_name (i := 9) sc_faults_of.nd rfl (.inl rfl)) (pgs_cons (pg_tup rfl (pgs_cons (pg_name (i := 2) sc_faults_of.nd rfl (.inl rfl)) (pgs_cons (pg_name (i := 3) sc_faults_of.nd rfl (.inl rfl)) (pgs_cons (pg_name (i := 4) sc_faults_of.nd rfl (.inl rfl)) pgs_nil)))) pgs_nil)))
      (pss_cons (ps_expr (pe_bm PySem.F.plainAttrs_list PySem.F.slot_list_extend PySem.F.type_list_extend mt_extend (pv 8) (pa_cons (pe_fld (pv 4) rfl) pa_nil)))
      (pss_cons (ps_if (PW.pt (pw_or (pt_cmpR op_in_seq (pv 2) (pe_slice sl_list (pv 5) po_none (po_some (pv 9))) (by rfl)) (pw_or (PW.pt (pw_and (pt_cmpR op_gt (pv 9) pe_int (by rfl)) (pw_and1 (pt_cmpR op_notIn_seq (pv 2) (pv 7) (by rfl))))) (pw_or1 (pt_cmpR op_ge (pv 9) (pe_glob (v := .int 4) rfl T.i_MOST_PARTS.choose_spec ⟨_, rfl⟩) (by rfl))))))
        (pss_one (ps_expr (pe_bm PySem.F.plainAttrs_list PySem.F.slot_list_append PySem.F.type_list_append mt_append (pv 8) (pa_cons (pe_op op_add (pv 3) pe_int) pa_nil))))
        pss_nil)
      (pss_cons (ps_if (PW.pt (pw_or (pt_cmpR op_eq (pmeth (pv 4) M_root (hr.mono (by decide)) pass0 (pa_cons pe_int pa_nil)) (pmeth (pv 4) M_root (hr.mono (by decide)) pass0 (pa_cons pe_int pa_nil)) (by rfl)) (pw_or1 (PW.pt (pw_and (pt_val (pe_fld (pv 4) rfl)) (pw_and1 (pt_cmpR op_gt (pe_callB call_lenD (by rfl) T.z_len PySem.boot_len (pa_cons (pmeth0 (pv 4) M_places (hr.mono (by decide)) pass0) pa_nil)) (pe_glob (v := .int 16) rfl T.i_MOST_PLACES.choose_spec ⟨_, rfl⟩) (by rfl))))))))
        (pss_one (ps_expr (pe_bm PySem.F.plainAttrs_list PySem.F.slot_list_append PySem.F.type_list_append mt_append (pv 8) (pa_cons (pe_op op_add (pv 3) pe_int) pa_nil))))
        pss_nil)
      (pss_one (ps_for PassesOwn.never rfl (pi_list (pe_fld (pv 4) rfl)) (pg_tup rfl (pgs_cons (pg_name (i := 6) sc_faults_of.nd rfl (.inl rfl)) (pgs_cons (pg_name (i := 10) sc_faults_of.nd rfl (.inl rfl)) (pgs_cons (pg_name (i := 11) sc_faults_of.nd rfl (.inl rfl)) (pgs_cons (pg_name (i := 12) sc_faults_of.nd rfl (.inl rfl)) (pgs_cons (pg_name (i := 13) sc_faults_of.nd rfl (.inl rfl)) pgs_nil))))))
        (pss_one (ps_if (PW.pt (pw_and (pt_cmpR op_eq (pv 6) pe_str (by rfl)) (pw_and1 (pt_cmpR op_notIn_seq (pv 10) (pe_slice sl_list (pv 5) (po_some (pe_op op_add (pv 9) pe_int)) po_none) (by rfl)))))
          (pss_one (ps_expr (pe_bm PySem.F.plainAttrs_list PySem.F.slot_list_append PySem.F.type_list_append mt_append (pv 8) (pa_cons (pe_op op_add (pv 11) pe_int) pa_nil))))
          pss_nil))))))))
    (pss_one (ps_ret (pv 8)))))))), ?_⟩
  have lt := Paired.len pt
  refine ⟨_, rfl, C, ts, st, out, rfl, hC, pt, hz, drs, fun H1 D as s1 hD da lo sms => ?_⟩
  have ld := Paired.len da
  have hz1 : ∀ {m : Nat}, m ≤ st.length → m < sizeLine := fun h => szl (Nat.lt_of_le_of_lt h hz)
  -- the names
  refine ⟨_, rfl, D, rfl, ⟨_, SqL.of hD⟩, fun Nm hNm => ?_⟩
  refine lc_list (xs := as.map V.ref) (fun i H' => i ≤ as.length ∧ Same H1 H' ∧ H' Nm = some (.lst (sS ((fNames out).take i)))) ⟨Nat.zero_le _, same_new hNm _, upd_same⟩ (fun i H' _ z => SqL.of (z.2.1 _ _ hD)) (fun i x H' hx z => ?_) (fun H2 z => ?_)
  · obtain ⟨hi, s2, hN⟩ := z
    rw [List.getElem?_map] at hx
    cases ei : as[i]? with
    | none => rw [ei] at hx; cases hx
    | some a =>
      rw [ei] at hx
      cases hx
      obtain ⟨d, ed, p, Fr, ha, _⟩ := Paired.get da ei
      have hlt : i < as.length := (List.getElem?_eq_some_iff.mp ei).1
      refine ⟨a, _, rfl, SqT.of (s2 _ _ ha), rfl, _, _, rfl, _, _, rfl, _, _, rfl, rfl, rfl, ?_⟩
      unfold tYes
      refine ifT rfl ⟨_, rfl, _, hN, ?_, hlt, ?_, ?_⟩
      · rw [sS_len]
        exact hz1 (Nat.le_trans (List.length_take_le _ _) (by rw [ld] at hi; exact Nat.le_trans hi lo))
      · exact same_upd s2 hNm
      · have e : (fNames out).take (i + 1) = (fNames out).take i ++ [d.n] := by
          rw [List.take_add_one]
          unfold fNames
          rw [List.getElem?_map, ed]
          rfl
        rw [e, sS_app]
        exact upd_same
  obtain ⟨_, s2, hN⟩ := z
  have eN : (fNames out).take (as.map V.ref).length = fNames out := by
    rw [List.length_map, ld]
    refine List.take_of_length_le ?_
    unfold fNames
    rw [List.length_map]
    exact Nat.le_refl _
  rw [eN] at hN
  -- the names called
  have hC2 := (s1.trans s2) _ _ hC
  refine ⟨_, rfl, C, rfl, ⟨_, SqL.of hC2⟩, fun Cl hCl => ?_⟩
  refine lc_list (xs := ts.map V.ref) (fun i H' => i ≤ ts.length ∧ Same H2 H' ∧ H' Cl = some (.lst (sS (fCalled (st.take i))))) ⟨Nat.zero_le _, same_new hCl _, upd_same⟩ (fun i H' _ z => SqL.of (z.2.1 _ _ hC2)) (fun i x H' hx z => ?_) (fun H3 z => ?_)
  · obtain ⟨hi, s3, hc⟩ := z
    rw [List.getElem?_map] at hx
    cases ei : ts[i]? with
    | none => rw [ei] at hx; cases hx
    | some y =>
      rw [ei] at hx
      cases hx
      obtain ⟨sx, es, hy⟩ := Paired.get pt ei
      have hlt : i < ts.length := (List.getElem?_eq_some_iff.mp ei).1
      refine ⟨y, _, rfl, SqT.of ((s1.trans (s2.trans s3)) _ _ hy), rfl, _, _, rfl, _, _, rfl, _, _, rfl, rfl, rfl, _, rfl, rfl, _, rfl, ?_⟩
      have e := fCalled_snoc es
      by_cases q : sx.w = wCall
      · rw [if_pos q] at e
        refine ifT (str_eq q) ⟨_, rfl, _, hc, ?_, hlt, same_upd s3 hCl, ?_⟩
        · rw [sS_len]
          exact hz1 (Nat.le_trans (fCalled_len _) (Nat.le_trans (List.length_take_le _ _) (by rw [← lt]; exact hi)))
        · rw [e, sS_app]
          exact upd_same
      · rw [if_neg q, List.append_nil] at e
        exact ifF (str_ne q) ⟨hlt, s3, by rw [e]; exact hc⟩
  obtain ⟨_, s3, hc⟩ := z
  rw [List.length_map, lt, List.take_length] at hc
  have hN3 := s3 _ _ hN
  have da3 : Paired (DrAt K H3) as out := Paired.imp (fun a b ⟨p, Fr, h1, h2⟩ => ⟨p, Fr, (s2.trans s3) _ _ h1, h2.more (s2.trans s3)⟩) da
  have hD3 := (s2.trans s3) _ _ hD
  refine ⟨_, rfl, C, ts, st, rfl, s3 _ _ hC2, Paired.imp (fun a b h => (s1.trans (s2.trans s3)) _ _ h) pt, fun H4 L hL s4 hL4 => ?_⟩
  refine ⟨_, rfl, D, _, rfl, SqL.of (s4 _ _ hD3), ?_⟩
  generalize efull : proF (fNames out) (fCalled st) st out = full at *
  have app : ∀ {fl : List Nat} {m : Nat} {H' : Hp} {Nx : Hp → Prop}, Same H3 H' → H' L = some (.lst (nI fl)) → fl.length < 1000000 → (∀ H'', Same H3 H'' → H'' L = some (.lst (nI (fl ++ [m]))) → Nx H'') → rAppend (.ref L) [.int (m : Int)] H' (fun _ H'' => Nx H'') := by
    intro fl m H' Nx s5 hf hl g
    refine ⟨L, _, _, rfl, rfl, hf, by rw [nI_len]; exact szl hl, g _ (same_upd s5 hL) ?_⟩
    rw [upd_same, nI_app]
    rfl
  refine for_enum (xs := as.map V.ref) (fun i σ H' => i ≤ as.length ∧ ∃ (x2 x3 x4 x6 x9 x10 x11 x12 x13 : Option V) (fl : List Nat), σ = [some (.ref C), some (.ref D), x2, x3, x4, some (.ref Nm), x6, some (.ref Cl), some (.ref L), x9, x10, x11, x12, x13] ∧ Same H3 H' ∧ H' L = some (.lst (nI fl)) ∧ fl ++ pfs (fNames out) (fCalled st) (out.drop i) i = full) ?_ ?_ ?_ ?_
  · exact ⟨Nat.zero_le _, _, _, _, _, _, _, _, _, _, rtm st 0, rfl, s4, hL4, efull⟩
  · rintro i σ H' _ ⟨_, _, _, _, _, _, _, _, _, _, _, rfl, s5, _⟩
    exact SqL.of (s5 _ _ hD3)
  · rintro i x σ H' Tn hx ⟨hi, x2, x3, x4, x6, x9, x10, x11, x12, x13, fl, rfl, s5, hf, ef⟩ hTn
    rw [List.getElem?_map] at hx
    cases ei : as[i]? with
    | none => rw [ei] at hx; cases hx
    | some a =>
      rw [ei] at hx
      cases hx
      obtain ⟨d, ed, p, Fr, ha, Ap⟩ := Paired.get da3 ei
      have hlt : i < as.length := (List.getElem?_eq_some_iff.mp ei).1
      have hlt2 : i < out.length := by rw [← ld]; exact hlt
      have eD : out.drop i = d :: out.drop (i + 1) := by
        have e1 : out[i] = d := (List.getElem?_eq_some_iff.mp ed).2
        rw [List.drop_eq_getElem_cons hlt2, e1]
      rw [eD] at ef
      obtain ⟨ok, cov, hrw⟩ := oks d (List.mem_of_getElem? ed)
      obtain ⟨dx, J, R, F', D', rs, fs, jl, W⟩ := id Ap
      have efl : fl ++ (d.S.dead ++ ((if d.n ∈ (fNames out).take i ∨ (0 < i ∧ d.n ∉ fCalled st) ∨ 4 ≤ i then [d.k + 1] else []) ++ ((if d.S.rep 0 = d.S.rep 1 ∨ (d.S.whole = true ∧ 16 < d.S.cc) then [d.k + 1] else []) ++ caF (fNames out) i d.S.rows)) ++ pfs (fNames out) (fCalled st) (out.drop (i + 1)) (i + 1)) = full := ef
      have lens := congrArg List.length efl
      simp only [List.length_append] at lens
      have s6 := s5.trans (same_new hTn (.tup [.int (i : Nat), .ref a]))
      have hf6 : upd H' Tn (.tup [.int (i : Nat), .ref a]) L = some (.lst (nI fl)) := by rw [upd_ne (ne_of_none hf hTn)]; exact hf
      refine ⟨Tn, _, rfl, SqT.of upd_same, rfl, _, _, rfl, _, _, rfl, a, _, rfl, SqT.of (s6 _ _ ha), rfl, _, _, rfl, _, _, rfl, _, _, rfl, rfl, rfl, ?_⟩
      have W6 := W.grow s6
      refine pseq (fun H7 => Same H3 H7 ∧ H7 L = some (.lst (nI (fl ++ d.S.dead)))) (fun D1 g => ?_) ?_
      · refine ⟨_, rfl, .inl ⟨rfl, _, SqL.of hf6⟩, _, rfl, _, _, _, _, _, rfl, W6.op, T.c_Spots, T.n_Spots_dead, sp_dead, L, D', _, _, rfl, rfl, hf6, W6.hD, by rw [nI_len, nI_len]; exact sz (by omega), ?_⟩
        refine g _ ⟨same_upd s6 hL, ?_⟩
        rw [nI_app]
        exact upd_same
      rintro H7 ⟨s7, hf7⟩
      refine pseq (fun H8 => Same H3 H8 ∧ H8 L = some (.lst (nI (fl ++ d.S.dead ++ (if d.n ∈ (fNames out).take i ∨ (0 < i ∧ d.n ∉ fCalled st) ∨ 4 ≤ i then [d.k + 1] else []))))) (fun D1 g => ?_) ?_
      · refine in_take rfl rfl rfl (s7 _ _ hN3) fun t ht => ⟨_, rfl, ?_⟩
        have s8 := s7.trans (same_new ht (.lst (sS ((fNames out).take i))))
        have hf8 : upd H7 t (.lst (sS ((fNames out).take i))) L = some (.lst (nI (fl ++ d.S.dead))) := by rw [upd_ne (ne_of_none hf7 ht)]; exact hf7
        have yes : (d.n ∈ (fNames out).take i ∨ (0 < i ∧ d.n ∉ fCalled st) ∨ 4 ≤ i) → rAppend (.ref L) [.int ((d.k + 1 : Nat) : Int)] (upd H7 t (.lst (sS ((fNames out).take i)))) (fun _ H'' => D1.nx _ H'') := fun q => by
          rw [if_pos q] at g
          exact app s8 hf8 (by rw [List.length_append]; omega) fun H'' sx hx => g _ ⟨sx, hx⟩
        have no : ¬ (d.n ∈ (fNames out).take i ∨ (0 < i ∧ d.n ∉ fCalled st) ∨ 4 ≤ i) → D1.nx _ (upd H7 t (.lst (sS ((fNames out).take i)))) := fun q => by
          rw [if_neg q, List.append_nil] at g
          exact g _ ⟨s8, hf8⟩
        have last : (¬ d.n ∈ (fNames out).take i) → ¬ (0 < i ∧ d.n ∉ fCalled st) → ¬ (4 ≤ i) ∨ 4 ≤ i := fun _ _ => (Decidable.em (4 ≤ i)).symm
        by_cases qa : d.n ∈ (fNames out).take i
        · rw [decide_eq_true qa]
          exact ifT rfl (ifT rfl ⟨_, rfl, .inl ⟨rfl, _, SqL.of hf8⟩, _, rfl, _, _, rfl, rfl, yes (.inl qa)⟩)
        · rw [decide_eq_false qa]
          refine ifF rfl ⟨_, rfl, _, _, rfl, rfl, _, rfl, ?_⟩
          by_cases qb : 0 < i
          · refine ifT (decide_eq_true (by omega)) ?_
            refine nin_list rfl rfl (s8 _ _ hc) ⟨_, rfl, ?_⟩
            by_cases qc : d.n ∈ fCalled st
            · rw [decide_eq_true qc]
              refine ifF rfl ⟨_, rfl, _, _, rfl, rfl, _, rfl, ?_⟩
              by_cases qd : 4 ≤ i
              · exact ifT (decide_eq_true (by omega)) ⟨_, rfl, .inl ⟨rfl, _, SqL.of hf8⟩, _, rfl, _, _, rfl, rfl, yes (.inr (.inr qd))⟩
              · exact ifF (decide_eq_false (by omega)) (no fun z => z.elim qa fun z => z.elim (fun z => z.2 qc) qd)
            · rw [decide_eq_false qc]
              exact ifT rfl (ifT rfl ⟨_, rfl, .inl ⟨rfl, _, SqL.of hf8⟩, _, rfl, _, _, rfl, rfl, yes (.inr (.inl ⟨qb, qc⟩))⟩)
          · refine ifF (decide_eq_false (by omega)) (ifF rfl ⟨_, rfl, _, _, rfl, rfl, _, rfl, ?_⟩)
            by_cases qd : 4 ≤ i
            · exact ifT (decide_eq_true (by omega)) ⟨_, rfl, .inl ⟨rfl, _, SqL.of hf8⟩, _, rfl, _, _, rfl, rfl, yes (.inr (.inr qd))⟩
            · exact ifF (decide_eq_false (by omega)) (no fun z => z.elim qa fun z => z.elim (fun z => qb z.1) qd)
      rintro H8 ⟨s8, hf8⟩
      generalize eX : (if d.n ∈ (fNames out).take i ∨ (0 < i ∧ d.n ∉ fCalled st) ∨ 4 ≤ i then [d.k + 1] else []) = X at *
      have W8 := W.grow s8
      have A8 := Ap.more s8
      refine pseq (fun H9 => Same H3 H9 ∧ H9 L = some (.lst (nI (fl ++ d.S.dead ++ X ++ (if d.S.rep 0 = d.S.rep 1 ∨ (d.S.whole = true ∧ 16 < d.S.cc) then [d.k + 1] else []))))) (fun D1 g => ?_) ?_
      · refine ⟨_, rfl, p, dx, _, rfl, W8.op, sp_no_root, Fr, p, d.S, 0, rfl, A8, (by have z := ok.two; omega), ?_⟩
        refine ⟨_, rfl, p, dx, _, rfl, W8.op, sp_no_root, Fr, p, d.S, 1, rfl, A8, ok.two, rfl, _, rfl, ?_⟩
        have yes : ∀ {Hx : Hp}, Same H3 Hx → Hx L = some (.lst (nI (fl ++ d.S.dead ++ X))) → (d.S.rep 0 = d.S.rep 1 ∨ (d.S.whole = true ∧ 16 < d.S.cc)) → rAppend (.ref L) [.int ((d.k + 1 : Nat) : Int)] Hx (fun _ H'' => D1.nx _ H'') := fun s9 hf9 q => by
          rw [if_pos q] at g
          exact app s9 hf9 (by rw [List.length_append, List.length_append]; omega) fun H'' sx hx => g _ ⟨sx, hx⟩
        have no : ∀ {Hx : Hp}, Same H3 Hx → Hx L = some (.lst (nI (fl ++ d.S.dead ++ X))) → ¬ (d.S.rep 0 = d.S.rep 1 ∨ (d.S.whole = true ∧ 16 < d.S.cc)) → D1.nx _ Hx := fun s9 hf9 q => by
          rw [if_neg q, List.append_nil] at g
          exact g _ ⟨s9, hf9⟩
        by_cases qa : d.S.rep 0 = d.S.rep 1
        · refine ifT (decide_eq_true (by rw [qa])) ?_
          exact ⟨_, rfl, .inl ⟨rfl, _, SqL.of hf8⟩, _, rfl, _, _, rfl, rfl, yes s8 hf8 (.inl qa)⟩
        · refine ifF (decide_eq_false fun z => by injection z with z; exact qa (Int.ofNat.inj z)) ?_
          refine ⟨_, rfl, _, _, _, _, _, rfl, W8.op, T.c_Spots, T.n_Spots_whole, sp_whole, _, rfl, ?_⟩
          rcases Bool.eq_false_or_eq_true d.S.whole with ew | ew
          · refine ifT ew ?_
            refine ⟨_, rfl, p, dx, _, rfl, W8.op, sp_no_places, Fr, p, d.S, rfl, A8, ok, cov, hrw, fun H9 dd kvs s9 hdd hk => ?_⟩
            refine ⟨dd, kvs, rfl, hdd, _, _, rfl, rfl, _, rfl, ?_⟩
            rw [hk]
            by_cases qb : 16 < d.S.cc
            · refine ifT (decide_eq_true (by omega)) ?_
              exact ⟨_, rfl, .inl ⟨rfl, _, SqL.of (s9 _ _ hf8)⟩, _, rfl, _, _, rfl, rfl, yes (s8.trans s9) (s9 _ _ hf8) (.inr ⟨ew, qb⟩)⟩
            · exact ifF (decide_eq_false (by omega)) (no (s8.trans s9) (s9 _ _ hf8) fun z => z.elim qa fun z => qb z.2)
          · refine ifF ew (no s8 hf8 fun z => z.elim qa fun z => ?_)
            rw [ew] at z
            exact Bool.false_ne_true z.1
      rintro H9 ⟨s9, hf9⟩
      generalize eY : (if d.S.rep 0 = d.S.rep 1 ∨ (d.S.whole = true ∧ 16 < d.S.cc) then [d.k + 1] else []) = Y at *
      have W9 := W.grow s9
      refine ⟨_, rfl, _, _, _, _, _, rfl, W9.op, T.c_Spots, T.n_Spots_rows, sp_rows, R, rfl, ⟨_, SqL.of W9.hR⟩, ?_⟩
      refine for_list (xs := rs.map V.ref) (fun j σ H' => j ≤ rs.length ∧ ∃ (x6 x10 x11 x12 x13 : Option V) (gl : List Nat), σ = [some (.ref C), some (.ref D), some (.str d.n), some (.int (d.k : Int)), some (.ref p), some (.ref Nm), x6, some (.ref Cl), some (.ref L), some (.int (i : Nat)), x10, x11, x12, x13] ∧ Same H3 H' ∧ H' L = some (.lst (nI gl)) ∧ gl ++ caF (fNames out) i (d.S.rows.drop j) = fl ++ d.S.dead ++ X ++ Y ++ caF (fNames out) i d.S.rows) ?_ ?_ ?_ ?_
      · exact ⟨Nat.zero_le _, _, _, _, _, _, _, rfl, s9, hf9, rfl⟩
      · rintro j σ H' _ ⟨_, _, _, _, _, _, _, rfl, s10, _⟩
        exact SqL.of (W.grow s10).hR
      · rintro j x σ H10 hx ⟨hj, x6, x10, x11, x12, x13, gl, rfl, s10, hg, eg⟩
        rw [List.getElem?_map] at hx
        cases ej : rs[j]? with
        | none => rw [ej] at hx; cases hx
        | some y =>
          rw [ej] at hx
          cases hx
          obtain ⟨r, er, hy⟩ := Paired.get (W.grow s10).rw_ ej
          have hjlt : j < rs.length := (List.getElem?_eq_some_iff.mp ej).1
          have hjlt2 : j < d.S.rows.length := (List.getElem?_eq_some_iff.mp er).1
          have eR : d.S.rows.drop j = r :: d.S.rows.drop (j + 1) := by
            have e1 : d.S.rows[j] = r := (List.getElem?_eq_some_iff.mp er).2
            rw [List.drop_eq_getElem_cons hjlt2, e1]
          rw [eR, caF_cons] at eg
          have gll : gl.length < 1000000 := by
            have z := congrArg List.length eg
            simp only [List.length_append] at z
            omega
          refine ⟨y, _, rfl, SqT.of hy, rfl, _, _, rfl, _, _, rfl, _, _, rfl, _, _, rfl, _, _, rfl, rfl, ?_⟩
          refine ⟨_, rfl, rfl, _, rfl, ?_⟩
          by_cases qa : r.w = wCall
          · refine ifT (str_eq qa) ?_
            refine nin_drop rfl rfl rfl (s10 _ _ hN3) fun t ht => ⟨_, rfl, ?_⟩
            have s11 := s10.trans (same_new ht (.lst (sS ((fNames out).drop (i + 1)))))
            have hg11 : upd H10 t (.lst (sS ((fNames out).drop (i + 1)))) L = some (.lst (nI gl)) := by rw [upd_ne (ne_of_none hg ht)]; exact hg
            by_cases qb : r.n ∈ (fNames out).drop (i + 1)
            · rw [decide_eq_true qb]
              rw [if_neg fun z => z.2 qb, List.nil_append] at eg
              exact ifF rfl ⟨hjlt, _, _, _, _, _, gl, rfl, s11, hg11, eg⟩
            · rw [decide_eq_false qb]
              rw [if_pos ⟨qa, qb⟩, ← List.append_assoc] at eg
              refine ifT rfl ⟨_, rfl, .inl ⟨rfl, _, SqL.of hg11⟩, _, rfl, _, _, rfl, rfl, ?_⟩
              exact app (m := r.k + 1) s11 hg11 gll fun H'' sx hx => ⟨hjlt, _, _, _, _, _, gl ++ [r.k + 1], rfl, sx, hx, eg⟩
          · rw [if_neg fun z => qa z.1, List.nil_append] at eg
            exact ifF (str_ne qa) (ifF rfl ⟨hjlt, _, _, _, _, _, gl, rfl, s10, hg, eg⟩)
      · rintro σ H10 ⟨hj, x6, x10, x11, x12, x13, gl, rfl, s10, hg, eg⟩
        have e : d.S.rows.drop (rs.map V.ref).length = [] := by rw [List.length_map, Paired.len W.rw_]; exact List.drop_length
        rw [e] at eg
        refine ⟨hlt, _, _, _, _, _, _, _, _, _, gl, rfl, s10, hg, ?_⟩
        have e0 : gl = fl ++ d.S.dead ++ X ++ Y ++ caF (fNames out) i d.S.rows := by
          rw [← eg]
          show gl = gl ++ []
          rw [List.append_nil]
        rw [e0, ← efl]
        simp only [List.append_assoc]
  · rintro σ H' ⟨_, x2, x3, x4, x6, x9, x10, x11, x12, x13, fl, rfl, s5, hf, ef⟩
    have e : out.drop (as.map V.ref).length = [] := by rw [List.length_map, ld]; exact List.drop_length
    rw [e] at ef
    have e0 : fl = full := by
      rw [← ef]
      show fl = fl ++ []
      rw [List.append_nil]
    rw [e0] at hf
    exact ⟨_, rfl, k H' L (s1.trans (s2.trans (s3.trans s5))) hf⟩
end
end Fc

set_option Elab.async false
set_option linter.all false
set_option maxRecDepth 100000
set_option maxHeartbeats 4000000
namespace Fc
open PySem PySem.Spec PyProof.Rows L2 He
/-! NoProgram: made, raised -/
theorem oex_cls {K : PySem.W.Frag} {C : Addr} (h : oexB K C = true) : ∃ nm q N bs bm sn sub ab col dd k0 k1 k2 k3 k5, K.lookup C = some (excClassObj nm q C N bs bm true sn sub ab col dd k0 k1 k2 k3 k5 "ValueError.__new__") ∧ PySem.HandSPX.refsVE bm = true := by
  unfold oexB at h
  split at h
  · rename_i dd cd sl e
    split at h
    · rename_i C' bm a0 a1 a2 a3 n a5 e1 e2
      simp only [Bool.and_eq_true, beq_iff_eq, Bool.not_eq_true'] at h
      obtain ⟨⟨⟨⟨h1, h2⟩, h3⟩, h4⟩, h5⟩ := h
      obtain ⟨nm, bs, mro, ns, q, hd, sn, sub, ab, col, del⟩ := cd
      dsimp only at e1 h3 h4
      subst h1 h2 h3 h4 e1
      have e3 : sl = #[a0, a1, a2, a3, some (.builtin "ValueError.__new__"), a5] := by
        rw [← e2]
      subst e3
      exact ⟨nm, q, ns, bs, bm, sn, sub, ab, col, dd, a0, a1, a2, a3, a5, e, h5⟩
    · cases h
  · cases h
structure ExF (K : PySem.W.Frag) : Prop where
  ox : oexB K (ga K "NoProgram") = true
  ce : PySem.W.findCls K (.ref (ga K "CountError")) (.type "type") "__init__" = some (.val (.builtin "ValueError.__init__"))
  cr : PySem.W.readsIn K (ga K "CountError") (.type "type") = true
  cg : PySem.W.specialIn K (.ref (ga K "CountError")) "__getattribute__" = some (some (.builtin "type.__getattribute__"))
  sa : PySem.W.findIn K (.ref (ga K "NoProgram")) "__setattr__" = some (some (.builtin "object.__setattr__"))
  exC : PySem.W.subIn K (.ref (ga K "NoProgram")) (.type "BaseException") = some true
  tyC : PySem.W.typeIn K (.ref (ga K "NoProgram")) = some (.type "type")
  iC : PySem.W.findIn K (.ref (ga K "NoProgram")) "__init__" = some (some (.ref (ma K (ga K "NoProgram") "__init__")))
  tI : PySem.W.typeIn K (.ref (ma K (ga K "NoProgram") "__init__")) = some (.type "function")
  nw : PySem.W.findIn K (.ref (ga K "NoProgram")) "word" = some none
  xf : xfB K (ga K "NoProgram") = true
  ca : PySem.W.findIn K (.ref (ga K "NoProgram")) "__class__" = some (some (.builtin "object.__class__"))
  cn : PySem.W.specialIn K (.builtin "object.__class__") "__get__" = some (some (.builtin "getset_descriptor.__get__"))
  ct : PySem.W.takesIn K (.builtin "object.__class__") = some true
  cm : PySem.W.mroIn K (ga K "NoProgram") (.type "object") = some true
  kv : PySem.W.kitOne K (.ref (ga K "NoProgram")) (.type "ValueError") = some true
  ks : ∀ p ∈ kits, PySem.W.kitOne K (.ref (ga K "NoProgram")) (.ref (ga K p.1)) = some p.2
theorem exF {K : PySem.W.Frag} {mg : Str → Option Value} (T : Txt K mg) : ExF K := by
  have h := T.ex
  unfold exB at h
  simp only [Bool.and_eq_true, decide_eq_true_eq] at h
  obtain ⟨h1, h2, h3, h4, h5, h6, h7, h8, h9, h10, h11, h12, h13, h14, h15, h16, h17⟩ := h
  refine ⟨h1, ?_, h3, h4, h5, h6, h7, h8, h9, h10, h11, h12, h13, h14, h15, h16, fun p hp => ?_⟩
  · unfold ceB at h2
    split at h2
    · rename_i v e
      rw [e, of_decide_eq_true h2]
    · cases h2
  · exact of_decide_eq_true (List.all_eq_true.mp h17 p hp)
theorem oexC {K : PySem.W.Frag} {mg : Str → Option Value} (T : Txt K mg) : OexC K (ga K "NoProgram") := ⟨oex_cls (exF T).ox, (exF T).sa, (exF T).exC, (exF T).tyC, T.k_NoProgram⟩
/-- CountError.__init__(self, ..) -/
theorem pe_ceinit {X : Cx} {e : Expr} {es : List Expr} {ta : TA} {p1 p2 pos : Pos} {pl : Sem Bool} (T : Txt X.K X.mg) (hg : Gl X "CountError") (ha : PA X (e :: es) ta)
    (hc : eval (.Call (.Attribute (.Name "CountError" p1) "__init__" p2) (e :: es) [] pos) X.env = (do
      let ov ← eval (.Name "CountError" p1) X.env
      standAt p2.atName
      let (f, first) ← holding [ov] (getMethod ov "__init__" pl)
      callWith pos f first (backTo pos (starEach (e :: es) X.env)) (backToKw pos (keywordEach [] X.env))) := by rfl)
    (he : starEach (e :: es) X.env = (false, eval e X.env) :: starEach es X.env := by rfl) (hpl : (backTo pos (starEach es X.env)).any (·.1) = false := by rfl) :
    PE X (.Call (.Attribute (.Name "CountError" p1) "__init__" p2) (e :: es) [] pos) (tVeI X.K ta) := by
  refine ⟨fun pins s σ H Q I h => ?_⟩
  refine PySem.W.methodCall_KW (ld_glob I hg T.g_CountError ?_ (by decide)) hc
  refine PySem.W.method_cls I.kIn (exF T).cg ?_
  refine PySem.W.cls_value I.kIn (exF T).cr (exF T).ce (by decide +kernel) ?_
  show wpAny _ _ (callWith pos (Value.builtin "ValueError.__init__") [] (backTo pos (starEach (e :: es) X.env)) []) _ _ _
  refine PyProof.Rows.callWith_method1 (thn (ha.run pos pins _ σ H _ (I.tok _) h) fun us s1 ⟨vs, H1, I1, r1, a, C, ws, ev, hl, TC, ea, q⟩ => ?_) he hpl
  subst ev
  cases r1 with
  | @cons _ u0 _ ur ra rw' =>
    obtain rfl : u0 = Value.ref a := ra
    have hlen : ur.length ≤ sizeLine := by
      rw [← Paired.length rw', sizeLine_eq]
      omega
    exact oinit_ok TC I1 ea hlen fun s' J => ⟨.non, H1, J, rfl, q⟩
def spNoProg (K : PySem.W.Frag) : L2.Sp := fun vs H Q _ => ∃ (x : Addr) (i : Int), vs = [.ref x, .int i] ∧ H x = some (exo x (ga K "NoProgram") none) ∧ ∀ d, H d = none → d ≠ x → Q .non (upd (upd H d (exd d [(("word" : Str), .int i)])) x (exo x (ga K "NoProgram") (some d)))
def spLet (K : PySem.W.Frag) : L2.Sp := fun vs H Q E => ∃ (t : Str) (ws : List Str) (st : List Step) (out : List Dr), vs = [.str t] ∧ t.length + 2 ≤ sizeLine ∧ Txt.split t " " = ws ∧ ws.length < 1000000 ∧ Rds ws 0 [] st ∧ Drs [] st out ∧ (∀ d ∈ out, d.S.Ok ∧ d.S.Cov ∧ d.S.rows.length < 1000000) ∧ (proF (fNames out) (fCalled st) st out).length < 1000000 ∧
  (proF (fNames out) (fCalled st) st out = [] → ∀ v H', Same H H' → Q v H') ∧
  (∀ (m : Nat) H' d, m ∈ proF (fNames out) (fCalled st) st out → (∀ y ∈ proF (fNames out) (fCalled st) st out, m ≤ y) → Same H H' → H d = none → H' d = some (.xd [(("word" : Str), .int (m : Int))]) → E (.ref (ga K "NoProgram")) (some d) H')
theorem dpAll_ints {K : PySem.W.Frag} {H : Hp} : ∀ l : List Nat, DpAll K H (nI l) (l.map fun n : Nat => PyData.int ((n : Nat) : Int))
  | [] => .nil
  | x :: l => .cons (.int _) (dpAll_ints l)
theorem shaped_nI (l : List Nat) : SeqAt.shaped (.list (l.map fun n : Nat => PyData.int ((n : Nat) : Int))) = true := by
  have a : PyData.canLayAll0 (l.map fun n : Nat => PyData.int ((n : Nat) : Int)) = true ∧ PyData.depthAll (l.map fun n : Nat => PyData.int ((n : Nat) : Int)) = 0 := by
    induction l with
    | nil => exact ⟨by simp only [List.map_nil, PyData.canLayAll0], by simp only [List.map_nil, PyData.depthAll]⟩
    | cons x r ih =>
      obtain ⟨h1, h2⟩ := ih
      rw [List.map_cons, PyData.canLayAll0, PyData.depthAll, h1, h2]
      refine ⟨?_, ?_⟩
      · simp only [PyData.canLay0, Bool.and_true]
      · simp only [PyData.depth, Nat.max_self]
  unfold SeqAt.shaped
  simp only [PyData.canLay0, PyData.depth, a.1, a.2, Bool.true_and]
  decide
theorem eqv_nilI (l : List Nat) : PyData.eqv (.list (l.map fun n : Nat => PyData.int ((n : Nat) : Int))) (.list []) = l.isEmpty := by
  cases l with
  | nil => simp only [List.map_nil, PyData.eqv, PyData.eqvAll, List.isEmpty_nil]
  | cons x r => simp only [List.map_cons, PyData.eqv, PyData.eqvAll, List.isEmpty_cons]
section
variable {P : Program} {w : World} {K : PySem.W.Frag} {mg : Str → Option Value} {base : Heap}
theorem sc_NoProgram : FnScope ["self", "word"] ["self", "word"] (defScope (inClass (top 12) 0)) := ⟨rfl, rfl, rfl, by decide +kernel, rfl, by decide +kernel, by decide +kernel⟩
theorem i_NoProgram (T : Txt K mg) : ∃ fd, FnOk P w K mg base CX0 1 (ma K (ga K "NoProgram") "__init__") fd ["self", "word"] (spNoProg K) ∧ Binds K fd ["self", "word"] [] := by
  obtain ⟨fd, F⟩ := T.d_NoProgram
  refine ⟨fd, fn0 F sc_NoProgram (fun vs H Q E h => ?_) (fun cdv A outer s H vs Q E hr h => ?_), FunD.bindsN F fun _ _ _ _ _ _ us hl => match us, hl with | [_, _], _ => rfl⟩
  · obtain ⟨_, _, rfl, _⟩ := h
    rfl
  obtain ⟨x, i, rfl, hx, k⟩ := h
  refine ⟨_, (pss_cons (ps_expr (pe_ceinit T rfl (pa_cons (pv 0) (pa_cons pe_str pa_nil)))) (pss_one (ps_ost (pv 0) (pv 1)))), ?_⟩
  refine ⟨_, rfl, x, _, _, rfl, (by show 1 ≤ 1000; decide), oexC T, hx, ?_⟩
  refine ⟨_, rfl, _, rfl, x, _, rfl, oexC T, (exF T).nw, .inl ⟨hx, fun d hd ne => k d hd ne⟩⟩
end
end Fc

set_option Elab.async false
set_option linter.all false
set_option maxRecDepth 100000
set_option maxHeartbeats 4000000
namespace Fc
open PySem PySem.Spec PyProof.Rows L2 He
section
variable {P : Program} {w : World} {K : PySem.W.Frag} {mg : Str → Option Value} {base : Heap}
theorem sc_let_by : FnScope ["text", "taken", "faults"] ["text"] (defScope (top 34)) := ⟨rfl, rfl, rfl, by decide +kernel, rfl, by decide +kernel, by decide +kernel⟩
theorem c_let_by (T : Txt K mg) : Cal P w K mg base (L2.CX P w) 7 "let_by" ["text"] (spLet K) := by
  have C_taken_of : Cal P w K mg base CX0 4 "taken_of" ["text"] (spTaken K) := c_taken_of T
  have C_faults_of : Cal P w K mg base CX0 6 "faults_of" ["taken"] (spFaults K) := c_faults_of T
  obtain ⟨fdI, FI, bI⟩ := i_NoProgram (P := P) (w := w) (base := base) T
  obtain ⟨fd, F⟩ := T.d_let_by
  refine ⟨⟨fd, fnX F sc_let_by (fun vs H Q E h => ?_) (fun cdv A outer s H vs Q E hr h => ?_), FunD.bindsN F fun _ _ _ _ _ _ us hl => match us, hl with | [_], _ => rfl⟩, T.k_let_by, T.g_let_by⟩
  · obtain ⟨_, _, _, _, rfl, _⟩ := h
    rfl
  obtain ⟨t, ws, st, out, rfl, hz, hws, hl, rds, drs, oks, hlen, k0, k1⟩ := h
  refine ⟨_, (pss_cons (ps_set (i := 1) sc_let_by.nd rfl (.inl rfl) (pcall C_taken_of (hr.mono (by decide)) rfl pass0 (pa_cons (pv 0) pa_nil)))
    (pss_cons (ps_set (i := 2) sc_let_by.nd rfl (.inl rfl) (pcall C_faults_of (hr.mono (by decide)) rfl pass0 (pa_cons (pv 1) pa_nil)))
    (pss_cons (ps_if (pt_cmpR (op_neD hr.units) (pv 2) (pe_lst pa_nil) (by rfl))
      (pss_one (ps_raise rfl (takes_of rfl rfl rfl rfl) (pmk_oex (oexC T) (exF T).iC (exF T).tI FI (hr.mono (by decide)) bI .nil pass0 rfl T.g_NoProgram (pa_cons (pe_callB (cr_min rfl) (by rfl) T.z_min (by decide +kernel) (pa_cons (pv 2) pa_nil)) pa_nil))))
      pss_nil)
    (pss_one (ps_ret (pv 1)))))), ?_⟩
  refine ⟨_, rfl, t, ws, st, rfl, hz, hws, hl, rds, fun H1 C ts s1 hC pt hle => ?_⟩
  refine ⟨_, rfl, C, ts, st, out, rfl, hC, pt, Nat.lt_of_le_of_lt hle hl, drs, oks, hlen, fun H2 L s2 hL => ?_⟩
  generalize proF (fNames out) (fCalled st) st out = full at *
  have sH : Same H H2 := s1.trans s2
  refine ⟨_, rfl, Nat.zero_le _, fun Z hZ => ?_⟩
  have nL : L ≠ Z := ne_of_none hL hZ
  have s3 : Same H (upd H2 Z (.lst [])) := sH.trans (same_new hZ _)
  have hL3 : upd H2 Z (.lst []) L = some (.lst (nI full)) := by rw [upd_ne nL]; exact hL
  refine ⟨.list (full.map fun n : Nat => PyData.int ((n : Nat) : Int)), .list [], .lst (SqL.of hL3) (dpAll_ints full), .lst (SqL.of upd_same) .nil, shaped_nI full, shaped_nil, _, rfl, ?_⟩
  rw [eqv_nilI]
  cases full with
  | nil =>
    refine ifF rfl ⟨_, rfl, ?_⟩
    exact k0 rfl _ _ s3
  | cons f r =>
    refine ifT rfl ?_
    refine ⟨_, rfl, L, (f :: r).map fun n : Nat => ((n : Nat) : Int), rfl, ?_, (by simp), fun m hm hmin => ?_⟩
    · have e : ((f :: r).map fun n : Nat => ((n : Nat) : Int)).map V.int = nI (f :: r) := List.map_map
      rw [e]
      exact SqL.of hL3
    · obtain ⟨m0, hm0, rfl⟩ := List.mem_map.mp hm
      refine ⟨(by show 1 ≤ 1000; decide), fun a ha => ?_⟩
      refine ⟨a, (m0 : Int), rfl, upd_same, fun d hd ne => ⟨rfl, d, _, upd_same, by rw [upd_ne ne, upd_same], ?_, ?_⟩⟩
      · rw [upd_ne ne] at hd
        exact hd
      · rw [upd_ne ne] at hd
        refine k1 m0 _ d hm0 (fun y hy => ?_) (fun b u q => ?_) (s3.free hd) upd_same
        · have z := hmin ((y : Nat) : Int) (List.mem_map.mpr ⟨y, hy, rfl⟩)
          omega
        · have q3 := s3 _ _ q
          have nd : b ≠ d := ne_of_none q3 hd
          have na : b ≠ a := ne_of_none q3 ha
          rw [upd_ne nd, del_ne na, upd_ne na, upd_ne nd, upd_ne na]
          exact q3
theorem sc_looked : FnScope ["text"] ["text"] (defScope (top 35)) := ⟨rfl, rfl, rfl, by decide +kernel, rfl, by decide +kernel, by decide +kernel⟩
def spLooked (K : PySem.W.Frag) : L2.Sp := fun vs H Q E => spLet K vs H (fun _ H' => Q .non H') E
theorem c_looked (T : Txt K mg) : Cal P w K mg base (L2.CX P w) 8 "looked" ["text"] (spLooked K) := by
  have C_let_by : Cal P w K mg base (L2.CX P w) 7 "let_by" ["text"] (spLet K) := c_let_by T
  obtain ⟨fd, F⟩ := T.d_looked
  refine ⟨⟨fd, fnX F sc_looked (fun vs H Q E h => ?_) (fun cdv A outer s H vs Q E hr h => ?_), FunD.bindsN F fun _ _ _ _ _ _ us hl => match us, hl with | [_], _ => rfl⟩, T.k_looked, T.g_looked⟩
  · obtain ⟨_, _, _, _, rfl, _⟩ := h
    rfl
  refine ⟨_, (pss_one (ps_expr (pcall C_let_by (hr.mono (by decide)) rfl (passes_call (takes_of rfl rfl rfl rfl) fun _ _ _ _ z => z) (pa_cons (pv 0) pa_nil)))), ?_⟩
  have h' := h
  obtain ⟨t, ws, st, out, rfl, _⟩ := h'
  exact ⟨_, rfl, h⟩
end
end Fc

set_option Elab.async false
set_option linter.all false
set_option maxRecDepth 100000
set_option maxHeartbeats 4000000
namespace Fc
open PySem PySem.Spec PyProof.Rows L2 He
/-! an exception kept behind its clause -/
def exV (cls : Value) (d : Option Addr) (a : Addr) : HO := .ext fun h => ∃ (oe : Obj) (vs : Array Value), h.get? a = some oe ∧ Zc cls d oe ∧ oe.data = .fields vs
theorem exV_ok {P : Program} {w : World} {H : Hp} {h : Heap} {a : Addr} {cls : Value} {d : Option Addr} {oe : Obj} {vs : Array Value} (e : h.get? a = some oe) (z : Zc cls d oe) (dd : oe.data = .fields vs) : ObjOk P w H h a (exV cls d a) :=
  ⟨⟨oe, vs, e, z, dd⟩, ⟨oe, e⟩, fun _ _ ⟨o, v, q, r⟩ k => ⟨o, v, k o q, r⟩⟩
section
variable {X : Cx} {pins : List (Addr × Obj)} {σ : L2.St} {H : Hp} {s : Shared}
/-- an object that nobody tracks, not there at the entry, is tracked from here on -/
theorem track {a : Addr} {o : HO} {oe : Obj} {vs : Array Value} (I : Inv X pins σ H s) (he : s.heap.get? a = some oe) (hd : oe.data = .fields vs) (n : H a = none) (n0 : X.s_0.heap.get? a = none) (nL : a ≠ X.env.locals) (np : ∀ p ∈ X.pn ++ pins, p.1 ≠ a)
    (new : ObjOk X.prog X.w (upd H a o) s.heap a o) : Inv X pins σ (upd H a o) s := by
  have nc : ∀ x c, X.env.cells.lookup x = some c → c ≠ a := fun x c e z => by
    obtain ⟨v, o', ho, hv⟩ := I.cell x c e
    rw [z, he] at ho
    cases ho
    rw [hd] at hv
    cases hv
  refine ⟨I.ok, I.os, I.bare, ⟨I.base.keep, I.base.slot, fun b o' e q hx => ?_, I.base.there, fun b xs e => ?_, fun b o' u e => ?_, fun b ps e => ?_⟩, I.loc, I.cell, ?_, fun x c e => ?_, fun p hp => ?_, ?_, I.len⟩
  · rw [upd_ne (fun z => by rw [z, n0] at e; cases e)]
    exact I.base.free b o' e q hx
  · have q := I.base.tups b xs e
    rw [upd_ne (ne_of_none q n)]
    exact q
  · have q := I.base.frzs b o' u e
    rw [upd_ne (ne_of_none q n)]
    exact q
  · obtain ⟨m, q⟩ := I.base.tbls b ps e
    exact ⟨m, by rw [upd_ne (ne_of_none q n)]; exact q⟩
  · rw [upd_ne nL.symm]
    exact I.free
  · rw [upd_ne (nc x c e)]
    exact I.freeC x c e
  · obtain ⟨e, q, r⟩ := I.pin p hp
    exact ⟨e, by rw [upd_ne (np p hp)]; exact q, r⟩
  · exact I.hok.laidN (fun _ _ q => q) n new
end
/-- what the clause 'except x as n' wishes of an exception of the body, which is tracked behind the clause -/
def wKp (K : PySem.W.Frag) (c : Value) (i : Nat) (ts : Addr → Value → Option Addr → TS) (Wout : WX) (D : Ends) : WX := fun cls d σ H =>
  ∃ b, PySem.W.exmOne K cls c = some b ∧ (b = true → ∀ a, H a = none → ts a cls d { nx := fun σ' H' => D.nx (σ'.set i none) (upd H' a (exV cls d a)), rt := fun v H' => D.rt v (upd H' a (exV cls d a)), bk := fun σ' H' => D.bk (σ'.set i none) (upd H' a (exV cls d a)), ct := fun σ' H' => D.ct (σ'.set i none) (upd H' a (exV cls d a)) } (σ.set i (some (.ref a))) H) ∧
    (b = false → Wout cls d σ H)
section
variable {X : Cx} {x n : Str} {c : Value} {i : Nat} {body suite : List Stmt} {b₀ : Stmt} {np pos pos' : Pos} {tb : WX → TS} {ts : Addr → Value → Option Addr → TS} {Wout : WX}
theorem ps_try_keep (hs : X.stack = X.env :: X.outer) (hex : X.ex = []) (hf : X.env.frame = some X.env.locals) (hN : X.N.Nodup) (hi : X.N[i]? = some n) (hln : X.env.kindOf n = some .local) (hc : Names X x c) (tk : Takes X Wout)
    (hb : ∀ (W : WX) (pn : List (Addr × Obj)) (xe : Value → Shared → Prop), Takes (X.tr pn xe) W → PassesOwn (model X.prog X.w) X.A X.env xe → PSs (X.tr pn xe) body (tb W))
    (hsu : ∀ (a : Addr) (oe : Obj) (cls : Value) (d : Option Addr) (pn : List (Addr × Obj)), Zc cls d oe → (∃ vs, oe.data = .fields vs) → PSs (X.suite a ((a, oe) :: pn)) (b₀ :: suite) (ts a cls d)) :
    PS X (.Try body [.ExceptHandler (some (.Name x np)) (some n) (b₀ :: suite) pos'] [] [] pos) (fun D σ H => tb (wKp X.K c i ts Wout D) D σ H) := by
  refine ⟨fun pins s σ H D I h => ?_⟩
  have ok := I.ok
  have hfr : X.A.frames = some (X.env :: X.outer) := by rw [ok.frames, hs]
  have hloc : Loc X.env.scope n := .inl hln
  refine wpAny_Try_except ?_
  refine wpAny_mono ((hb (wKp X.K c i ts Wout D) (X.pn ++ pins) (fun e s₁ => wpAny (model X.prog X.w) X.A (noteFrame e X.env) (fun _ s₂ => wpAny (model X.prog X.w) X.A (setFlight e none) (fun _ s₃ =>
    wpAny (model X.prog X.w) X.A (handleBy e X.env [.ExceptHandler (some (.Name x np)) (some n) (b₀ :: suite) pos']) (SP X pins D) X.xe s₃) X.xe s₂) X.xe s₁) (fun u s' xx => ?_) PassesOwn.looking).run [] s σ H D (I.toTry _) h) (fun f s1 hsp => ?_) (fun e s1 he => he)
  · obtain ⟨a, B, sI, pins', σ', H', cls, d, rfl, J', nb, up, sky, na, os, ag, b, hb1, hyes, hno⟩ := xx
    have J : Inv X pins σ' H' sI := J'.ofTry ok
    have sky' : Sky B (X.env :: X.outer) a (Zc cls d) X.env.locals s'.heap := by rw [← hs]; exact sky
    show wpAny (model X.prog X.w) X.A (noteFrame (.ref a) X.env) _ _ _
    refine Sky.land Zc.steady hfr hf sky' fun h3 fl3 up3 => ?_
    have J3 : Inv X pins σ' H' { s' with heap := h3 } := J.landed nb fl3.1 (up.trans up3) os ag
    obtain ⟨oe3, vs3, he3, hz3, hd3⟩ := fl3.there
    have notFr : ∀ {h : Heap} {o : Obj} {vs : Array Value}, h.FunFrames B (X.env :: X.outer) → h.get? a = some o → o.data = .fields vs → a ∉ frs (X.env :: X.outer) := fun {h o vs} ff e dd hm => by
      obtain ⟨_, o', e', hnf⟩ := ff.mem hm
      rw [e] at e'; cases e'
      exact hnf _ dd
    have nfr := notFr fl3.2.2.1 he3 hd3
    have nL : a ≠ X.env.locals := fun z => nfr (List.mem_filterMap.mpr ⟨X.env, List.mem_cons_self, by rw [hf, z]⟩)
    have nF : a ∉ X.fs := fun hm => by
      obtain ⟨e, he, q⟩ := List.mem_filterMap.mp hm
      exact nfr (List.mem_filterMap.mpr ⟨e, List.mem_cons_of_mem _ he, q⟩)
    -- it was not there before
    have nI_ : sI.heap.get? a = none := by
      cases e : sI.heap.get? a with
      | none => rfl
      | some o =>
        have z := nb a o e (by rw [hs]; exact nfr)
        rw [fl3.2.1] at z
        cases z
    have n0 : X.s_0.heap.get? a = none := by
      cases e : X.s_0.heap.get? a with
      | none => rfl
      | some o =>
        obtain ⟨o', z⟩ := J.base.there a o e (by rw [hex]; exact fun z => nomatch z)
        rw [nI_] at z
        cases z
    have npn : ∀ p ∈ X.pn ++ pins, p.1 ≠ a := fun p hp z => by
      have e := (J.pin p hp).1
      rw [z, nI_] at e
      cases e
    have S3 := J3.suite he3 hd3 na nL nF
    refine wpAny_handleBy_cons (codeAny_handlers_test ?_) (by intro q; cases q)
    have LT : PySem.W.Looks (model X.prog X.w) h3 (typeOf (.ref a)) cls := fun A Q E s k q => wpAny_typeOf_ref (k _ _ he3) (by rw [hz3.1]; exact q)
    have LM := PySem.W.exm_one (M := model X.prog X.w) (J3.kIn) LT hb1
    have test : ∀ {Q : Value → Shared → Prop} {E : Value → Shared → Prop}, Q c { s' with heap := h3 } → wpAny (model X.prog X.w) (X.A.mark (some (.ref a))) (eval (.Name x np) X.env) Q E { s' with heap := h3 } := fun {Q E} q => by
      obtain ⟨hg, hdbg, hm | ⟨hm, hv, hnn⟩⟩ := hc
      · exact ld_glob (X := X.suite a ((a, oe3) :: (X.pn ++ pins))) S3 hg hm q hdbg
      · exact ld_blt (X := X.suite a ((a, oe3) :: (X.pn ++ pins))) S3 hg hm hv q hnn hdbg
    refine test (LM.here ?_)
    cases b with
    | true =>
      refine codeAny_handlers_suite_as ?_
      refine HandSPX.lands_againZ fl3 fun h4 fl4 up4 => ?_
      have J4 : Inv X pins σ' H' { s' with heap := h4 } := J.landed nb fl4.1 ((up.trans up3).trans up4) os ag
      obtain ⟨oe4, vs4, he4, hz4, hd4⟩ := fl4.there
      have S4 := J4.suite he4 hd4 na nL nF
      refine store_ok (X := X.suite a ((a, oe4) :: (X.pn ++ pins))) (v := .ref a) S4 hN hi hloc rfl (fun s5 S5 => ?_) (.inr hln)
      refine wpAny_mono ((hsu a oe4 cls d (X.pn ++ pins) hz4 ⟨_, hd4⟩).run [] s5 _ H' _ S5 (hyes rfl a na)) (fun f s6 hsp => ?_) (fun _ _ z => False.elim z)
      have end_ : ∀ {σ6 : L2.St} {H6 : Hp} {Q : Shared → Prop}, Inv (X.suite a ((a, oe4) :: (X.pn ++ pins))) [] σ6 H6 s6 → (∀ s7, Inv X pins (σ6.set i none) (upd H6 a (exV cls d a)) s7 → Q s7) →
          wpAny (model X.prog X.w) X.A (do bindName X.env n .none; unbindBehindTheSuite X.env n pos') (fun _ s7 => Q s7) X.xe s6 := fun {σ6 H6 Q} S6 hq => by
        obtain ⟨e6, n6, _⟩ := S6.pin (a, oe4) (List.mem_append_left _ List.mem_cons_self)
        exact L2.gone_ok (track (S6.unsuite ok) e6 hd4 n6 n0 nL npn (exV_ok e6 hz4 hd4)) hN hi hln hq
      cases f with
      | next =>
        obtain ⟨σ6, H6, S6, q6⟩ := hsp
        exact end_ S6 fun s7 J7 => ⟨_, _, J7, q6⟩
      | brk =>
        obtain ⟨σ6, H6, S6, q6⟩ := hsp
        exact end_ S6 fun s7 J7 => ⟨_, _, J7, q6⟩
      | cont =>
        obtain ⟨σ6, H6, S6, q6⟩ := hsp
        exact end_ S6 fun s7 J7 => ⟨_, _, J7, q6⟩
      | ret u =>
        obtain ⟨v6, σ6, H6, S6, r6, q6⟩ := hsp
        exact end_ S6 fun s7 J7 => ⟨_, _, _, J7, r6, q6⟩
    | false =>
      show wpAny _ X.A (handleBy (.ref a) X.env []) _ _ _
      refine wpAny_handleBy_nil ?_
      obtain ⟨k1, k2, k3, oe, vs, T, oT, ts', he, hz, hd, h1, hr⟩ := id fl3
      unfold PySem.passOn
      refine wpAny_bind (wpAny_field he hd h1 ?_)
      rw [if_neg (show ¬ ((Value.ref T == Value.none) = true) from by simp)]
      have fin : wpAny (model X.prog X.w) X.A (setFlight (.ref a) X.env.frame) (fun _ s4 => wpAny (model X.prog X.w) X.A (throw (.ref a) : Sem Flow) (SP X pins D) X.xe s4) X.xe { s' with heap := h3 } := by
        rw [hf]
        refine HandSPX.setFlight_upZ fl3 fun h4 hh4 up4 => wpAny_throw (tk _ _ ?_)
        exact ⟨a, B, sI, pins, σ', H', cls, d, rfl, J, nb, (up.trans up3).trans up4, .inr (.inr (by rw [hs]; exact hh4)), na, os, ag, hno rfl⟩
      first
        | exact wpAny_bind (wpAny_pure (wpAny_bind fin))
        | exact wpAny_bind fin
  · cases f with
    | next =>
      obtain ⟨σ', H', J', q⟩ := hsp
      exact wpAny_execs_nil ⟨σ', H', J'.ofTry ok, q⟩
    | brk =>
      obtain ⟨σ', H', J', q⟩ := hsp
      exact ⟨σ', H', J'.ofTry ok, q⟩
    | cont =>
      obtain ⟨σ', H', J', q⟩ := hsp
      exact ⟨σ', H', J'.ofTry ok, q⟩
    | ret u =>
      obtain ⟨v, σ', H', J', r, q⟩ := hsp
      exact ⟨v, σ', H', J'.ofTry ok, r, q⟩
end
/-- isinstance(e, c), e such an exception -/
def rIsV (K : PySem.W.Frag) : List V → Hp → VK → Prop := fun xs H Q => ∃ (a D dd : Addr) (fs : List (Str × V)) (c : V) (cv : Value) (b : Bool), xs = [.ref a, c] ∧ (∀ u, RelV c u → u = cv) ∧ H a = some (exV (.ref D) (some dd) a) ∧ H dd = some (.xd fs) ∧ ExcC K D ∧ PySem.W.kitOne K (.ref D) cv = some b ∧ Q (.bl b) H
theorem exc_inst {X : Cx} {pins : List (Addr × Obj)} {σ : L2.St} {H : Hp} {s : Shared} {a D dd : Addr} {fs : List (Str × V)} (I : Inv X pins σ H s) (ea : H a = some (exV (.ref D) (some dd) a)) (ed : H dd = some (.xd fs)) :
    ∃ (oe od : Obj) (mA : Str → Option Value), PySem.W.InstAt s.heap a oe D (some od) ∧ (∀ name, PySem.W.lookIn name od = some (mA name)) ∧ ∀ f, RelO (fs.lookup f) (mA f) := by
  obtain ⟨⟨oe, vs, ho, hz, hd⟩, _, _⟩ := I.hok a _ ea
  have hx : ObjOk X.prog X.w H s.heap dd (.xd fs) := I.hok dd _ ed
  obtain ⟨mA, hns, hr⟩ := hx
  obtain ⟨od, hod, hl⟩ := lookIn_ns hns
  exact ⟨oe, od, mA, ⟨ho, hz.1, by unfold PySem.W.notCls; rw [hd] <;> rfl, by rw [hz.2]; exact hod⟩, hl, hr⟩
theorem call_isV {X : Cx} : CallR X (.builtin "isinstance") (rIsV X.K) := by
  intro pins s σ H xs us Q I r h
  obtain ⟨a, D, dd, fs, c, cv, b, rfl, hcv, ea, ed, C, e, q⟩ := h
  cases r with
  | cons rx rr =>
    cases rr with
    | cons rt rr =>
      cases rr
      cases rx
      have ec := hcv _ rt
      subst ec
      obtain ⟨oe, od, mA, J, _, _⟩ := exc_inst I ea ed
      have hcl : (PySem.W.clsIn X.K D).isSome = true := by
        obtain ⟨cd, hc, _⟩ := PySem.W.any_some C.hd
        rw [hc]
        rfl
      exact PySem.W.kia_one (PySem.W.kitx_exc hcl C.hg C.hk C.hs C.ha C.hn C.ht C.hm) I.kIn J e (fun z => nomatch z) fun tk => ⟨.bl b, H, I.kept (t' := tk) fun _ _ z => z, rfl, q⟩
/-- e.f -/
def tVw (K : PySem.W.Frag) (f : Str) (te : TE) : TE := fun σ H Q => te σ H fun x H1 => ∃ (a D dd : Addr) (fs : List (Str × V)) (v : V), x = .ref a ∧ H1 a = some (exV (.ref D) (some dd) a) ∧ H1 dd = some (.xd fs) ∧ XfC K D ∧ PySem.W.findIn K (.ref D) f = some none ∧ fs.lookup f = some v ∧ Q v H1
theorem pe_vw {X : Cx} {e : Expr} {te : TE} {pos : Pos} {n : Str} (he : PE X e te) (hb : attributeBase e n X.env (eval e X.env) = eval e X.env := by rfl) : PE X (.Attribute e n pos) (tVw X.K n te) := by
  refine ⟨fun pins s σ H Q I h => ?_⟩
  refine attr_of hb (thn (he.run pins s σ H _ I h) fun u s1 hh => ?_)
  obtain ⟨x, H1, I1, rx, a, D, dd, fs, v, ex, ea, ed, T, hno, l, q⟩ := hh
  subst ex
  obtain rfl : u = Value.ref a := rx
  obtain ⟨oe, od, mA, J, hl, hr⟩ := exc_inst I1 ea ed
  obtain ⟨u, hu, ru⟩ := RelO.some_of (v := v) (o := mA n) (by rw [← l]; exact hr n)
  exact HandSPX.exc_get I1.kIn J T.ga T.gg T.exC (PySem.W.findObj_own T.hdC hno rfl (by rw [hl, hu])) (handed_of ru) ⟨v, H1, I1.tok _, ru, q⟩
theorem excC {K : PySem.W.Frag} {mg : Str → Option Value} (T : Txt K mg) : ExcC K (ga K "NoProgram") := by
  have x := xfB_ok (exF T).xf
  exact ⟨x.ga, x.gg, x.exC, x.hdC, (exF T).ca, (exF T).cn, (exF T).ct, (exF T).cm⟩
end Fc

set_option Elab.async false
set_option linter.all false
set_option maxRecDepth 100000
set_option maxHeartbeats 4000000
namespace Fc
open PySem PySem.Spec PyProof.Rows L2 He
/-! the law: what was raised -/
theorem countP_eqU {x : V} : ∀ {xs : List V} {us : List Value}, Vals xs us → xs.all flatV = true → us.countP (eqU x) = xs.countP fun z => eqV z x
  | _, _, .nil, _ => rfl
  | y :: xs, u :: us, .cons r t, f => by
    rw [List.all_cons, Bool.and_eq_true] at f
    rw [List.countP_cons, List.countP_cons, eqU_of r f.1, countP_eqU t f.2]
def rCntF (K : PySem.W.Frag) : V → List V → Hp → VK → Prop := fun x xs H Q => ∃ (p : Addr) (ys : List V) (y : V), x = .ref p ∧ xs = [y] ∧ SqL K H p ys ∧ flatV y = true ∧ ys.all flatV = true ∧ Q (.int ((ys.countP fun z => eqV z y : Nat) : Int)) H
theorem mt_countF {X : Cx} : MtR X "list.count" (rCntF X.K) := by
  intro pins s σ H x xs v us Q I rx rxs h
  obtain ⟨p, ys, y, rfl, rfl, hs, fy, fys, q⟩ := h
  cases rx
  obtain ⟨u, rfl, ru⟩ := rxs.one
  obtain ⟨its, rv, ⟨⟨cls, dd, data, sl⟩, n, ho, hc, hdn, hd⟩, hlen⟩ := I.list hs
  simp only at hc hd
  subst hc hd
  refine call_meets PySem.F.slot_list_count ⟨_, ho, rfl⟩ PySem.F.entry_list_count (PySem.F.args_list_count_2 _ _)
    (SeqAt.list_countAt p its.toArray n dd sl u (eqU y)) ⟨ho, fun w hw => mem_eqAt ru fy rv fys w (by simpa using hw), ?_⟩
  refine ⟨.int ((ys.countP fun z => eqV z y : Nat) : Int), H, I.tok _, ⟨s.toks, ?_⟩, q⟩
  rw [show its.toArray.toList = its from rfl, countP_eqU rv fys]
def spCaught (K : PySem.W.Frag) : L2.Sp := fun vs H Q _ => ∃ (t : Str) (ws : List Str) (st : List Step) (out : List Dr), vs = [.str t] ∧ t.length + 2 ≤ sizeLine ∧ Txt.split t " " = ws ∧ ws.length < 1000000 ∧ Rds ws 0 [] st ∧ Drs [] st out ∧ (∀ d ∈ out, d.S.Ok ∧ d.S.Cov ∧ d.S.rows.length < 1000000) ∧ (proF (fNames out) (fCalled st) st out).length < 1000000 ∧
  (proF (fNames out) (fCalled st) st out = [] → ∀ H', Same H H' → Q .non H') ∧
  (∀ (m : Nat) H' a d, m ∈ proF (fNames out) (fCalled st) st out → (∀ y ∈ proF (fNames out) (fCalled st) st out, m ≤ y) → Same H H' → H' a = some (exV (.ref (ga K "NoProgram")) (some d) a) → H' d = some (.xd [(("word" : Str), .int (m : Int))]) → Q (.ref a) H')
def spClass (K : PySem.W.Frag) : L2.Sp := fun vs H Q _ => (vs = [.non] ∧ Q (.int (-1)) H) ∨ ∃ (a d : Addr) (m : Int), vs = [.ref a] ∧ H a = some (exV (.ref (ga K "NoProgram")) (some d) a) ∧ H d = some (.xd [(("word" : Str), .int m)]) ∧ ∀ H', Same H H' → Q (.int 1) H'
def spWhole : L2.Sp := fun vs H Q _ => ∃ i : Int, vs = [.int i] ∧ Q (.bl true) H
section
variable {P : Program} {w : World} {K : PySem.W.Frag} {mg : Str → Option Value} {base : Heap}
theorem sc_class : FnScope ["_law_caught_here", "_law_tests"] ["_law_caught_here"] (defScope (top 47)) := ⟨rfl, rfl, rfl, by decide +kernel, rfl, by decide +kernel, by decide +kernel⟩
theorem c_class (T : Txt K mg) : Cal P w K mg base CX0 1 "_law_class" ["_law_caught_here"] (spClass K) := by
  obtain ⟨fd, F⟩ := T.d__law_class
  refine ⟨⟨fd, fn0 F sc_class (fun vs H Q E h => ?_) (fun cdv A outer s H vs Q E hr h => ?_), FunD.bindsN F fun _ _ _ _ _ _ us hl => match us, hl with | [_], _ => rfl⟩, T.k__law_class, T.g__law_class⟩
  · rcases h with ⟨rfl, _⟩ | ⟨_, _, _, rfl, _⟩
    · rfl
    · rfl
  refine ⟨_, (pss_cons (ps_if (pt_cmpR op_isN (pv 0) pe_non (by rfl))
      (pss_one (ps_ret (pe_un un_neg pe_int)))
      pss_nil)
    (pss_cons (ps_set (i := 1) sc_class.nd rfl (.inl rfl) (pe_lst (pa_cons (pe_callB call_isV (by rfl) T.z_isinstance (by decide +kernel) (pa_cons (pv 0) (pa_cons (pe_glob (v := .ref (ga K "NoText")) rfl T.g_NoText rfl) pa_nil))) (pa_cons (pe_callB call_isV (by rfl) T.z_isinstance (by decide +kernel) (pa_cons (pv 0) (pa_cons (pe_glob (v := .ref (ga K "NoProgram")) rfl T.g_NoProgram rfl) pa_nil))) (pa_cons (pe_callB call_isV (by rfl) T.z_isinstance (by decide +kernel) (pa_cons (pv 0) (pa_cons (pe_glob (v := .ref (ga K "NoAnswer")) rfl T.g_NoAnswer rfl) pa_nil))) pa_nil)))))
    (pss_cons (ps_set (i := 1) sc_class.nd rfl (.inl rfl) (pe_op op_cat (pv 1) (pe_lst (pa_cons (pe_callB call_isV (by rfl) T.z_isinstance (by decide +kernel) (pa_cons (pv 0) (pa_cons (pe_glob (v := .ref (ga K "NoChoice")) rfl T.g_NoChoice rfl) pa_nil))) (pa_cons (pe_callB call_isV (by rfl) T.z_isinstance (by decide +kernel) (pa_cons (pv 0) (pa_cons (pe_glob (v := .ref (ga K "NoPlan")) rfl T.g_NoPlan rfl) pa_nil))) (pa_cons (pe_callB call_isV (by rfl) T.z_isinstance (by decide +kernel) (pa_cons (pv 0) (pa_cons (pe_glob (v := .ref (ga K "NoLog")) rfl T.g_NoLog rfl) pa_nil))) pa_nil))))))
    (pss_cons (ps_set (i := 1) sc_class.nd rfl (.inl rfl) (pe_op op_cat (pv 1) (pe_lst (pa_cons (pe_callB call_isV (by rfl) T.z_isinstance (by decide +kernel) (pa_cons (pv 0) (pa_cons (pe_glob (v := .ref (ga K "NoChain")) rfl T.g_NoChain rfl) pa_nil))) (pa_cons (pe_callB call_isV (by rfl) T.z_isinstance (by decide +kernel) (pa_cons (pv 0) (pa_cons (pe_glob (v := .ref (ga K "NoCode")) rfl T.g_NoCode rfl) pa_nil))) (pa_cons (pe_callB call_isV (by rfl) T.z_isinstance (by decide +kernel) (pa_cons (pv 0) (pa_cons (pe_glob (v := .ref (ga K "NoCounts")) rfl T.g_NoCounts rfl) pa_nil))) pa_nil))))))
    (pss_cons (ps_set (i := 1) sc_class.nd rfl (.inl rfl) (pe_op op_cat (pv 1) (pe_lst (pa_cons (pe_callB call_isV (by rfl) T.z_isinstance (by decide +kernel) (pa_cons (pv 0) (pa_cons (pe_glob (v := .ref (ga K "NoGuess")) rfl T.g_NoGuess rfl) pa_nil))) (pa_cons (pe_callB call_isV (by rfl) T.z_isinstance (by decide +kernel) (pa_cons (pv 0) (pa_cons (pe_glob (v := .ref (ga K "NoLoose")) rfl T.g_NoLoose rfl) pa_nil))) (pa_cons (pe_callB call_isV (by rfl) T.z_isinstance (by decide +kernel) (pa_cons (pv 0) (pa_cons (pe_glob (v := .ref (ga K "NoMarks")) rfl T.g_NoMarks rfl) pa_nil))) pa_nil))))))
    (pss_cons (ps_set (i := 1) sc_class.nd rfl (.inl rfl) (pe_op op_cat (pv 1) (pe_lst (pa_cons (pe_callB call_isV (by rfl) T.z_isinstance (by decide +kernel) (pa_cons (pv 0) (pa_cons (pe_glob (v := .ref (ga K "NoName")) rfl T.g_NoName rfl) pa_nil))) (pa_cons (pe_callB call_isV (by rfl) T.z_isinstance (by decide +kernel) (pa_cons (pv 0) (pa_cons (pe_glob (v := .ref (ga K "NoRow")) rfl T.g_NoRow rfl) pa_nil))) (pa_cons (pe_callB call_isV (by rfl) T.z_isinstance (by decide +kernel) (pa_cons (pv 0) (pa_cons (pe_glob (v := .ref (ga K "NoRun")) rfl T.g_NoRun rfl) pa_nil))) pa_nil))))))
    (pss_cons (ps_set (i := 1) sc_class.nd rfl (.inl rfl) (pe_op op_cat (pv 1) (pe_lst (pa_cons (pe_callB call_isV (by rfl) T.z_isinstance (by decide +kernel) (pa_cons (pv 0) (pa_cons (pe_glob (v := .ref (ga K "NoWay")) rfl T.g_NoWay rfl) pa_nil))) (pa_cons (pe_callB call_isV (by rfl) T.z_isinstance (by decide +kernel) (pa_cons (pv 0) (pa_cons (pe_glob (v := .ref (ga K "NoWeb")) rfl T.g_NoWeb rfl) pa_nil))) pa_nil)))))
    (pss_cons (ps_if (PW.pt (pw_or (pt_cmpR op_ne (pe_bm PySem.F.plainAttrs_list PySem.F.slot_list_count PySem.F.type_list_count mt_countF (pv 1) (pa_cons pe_bl pa_nil)) pe_int (by rfl)) (pw_or1 (pt_not (pt_val (pe_callB call_isV (by rfl) T.z_isinstance (by decide +kernel) (pa_cons (pv 0) (pa_cons (pe_bltn (v := .ty "ValueError") rfl T.z_ValueError (by decide +kernel) rfl) pa_nil))))))))
      (pss_one (ps_ret (pe_un un_neg pe_int)))
      pss_nil)
    (pss_one (ps_ret (pe_bm PySem.F.plainAttrs_list PySem.F.slot_list_index PySem.F.type_list_index mt_index (pv 1) (pa_cons pe_bl pa_nil)))))))))))), ?_⟩
  rcases h with ⟨rfl, k⟩ | ⟨a, d, m, rfl, ha, hd, k⟩
  · exact ⟨_, rfl, rfl, true, rfl, ifT rfl ⟨_, rfl, k⟩⟩
  refine ⟨_, rfl, rfl, false, rfl, ifF rfl ?_⟩
  refine ⟨_, rfl, a, _, d, _, .ref (ga K "NoText"), .ref (ga K "NoText"), false, rfl, (fun _ z => z), ha, hd, excC T, (exF T).ks ("NoText", false) (by decide +kernel), _, rfl, a, _, d, _, .ref (ga K "NoProgram"), .ref (ga K "NoProgram"), true, rfl, (fun _ z => z), ha, hd, excC T, (exF T).ks ("NoProgram", true) (by decide +kernel), _, rfl, a, _, d, _, .ref (ga K "NoAnswer"), .ref (ga K "NoAnswer"), false, rfl, (fun _ z => z), ha, hd, excC T, (exF T).ks ("NoAnswer", false) (by decide +kernel), (by show 3 ≤ sizeLine; decide), fun L0 hL0 => ?_⟩
  have s0 := same_new hL0 (.lst [.bl false, .bl true, .bl false])
  have e0 : upd H L0 (.lst [.bl false, .bl true, .bl false]) L0 = some (.lst [.bl false, .bl true, .bl false]) := upd_same
  generalize upd H L0 (.lst [.bl false, .bl true, .bl false]) = H0 at *
  refine ⟨_, rfl, _, rfl, a, _, d, _, .ref (ga K "NoChoice"), .ref (ga K "NoChoice"), false, rfl, (fun _ z => z), (s0 _ _ ha), (s0 _ _ hd), excC T, (exF T).ks ("NoChoice", false) (by decide +kernel), _, rfl, a, _, d, _, .ref (ga K "NoPlan"), .ref (ga K "NoPlan"), false, rfl, (fun _ z => z), (s0 _ _ ha), (s0 _ _ hd), excC T, (exF T).ks ("NoPlan", false) (by decide +kernel), _, rfl, a, _, d, _, .ref (ga K "NoLog"), .ref (ga K "NoLog"), false, rfl, (fun _ z => z), (s0 _ _ ha), (s0 _ _ hd), excC T, (exF T).ks ("NoLog", false) (by decide +kernel), (by show 3 ≤ sizeLine; decide), fun M1 hM1 => ?_⟩
  refine ⟨L0, M1, [.bl false, .bl true, .bl false], [.bl false, .bl false, .bl false], rfl, rfl, (by rw [upd_ne (ne_of_none e0 hM1)]; exact e0), upd_same, (by show 6 ≤ sizeLine; decide), fun L1 hL1 => ?_⟩
  have s1 : Same H (upd (upd H0 M1 (.lst [.bl false, .bl false, .bl false])) L1 (.lst [.bl false, .bl true, .bl false, .bl false, .bl false, .bl false])) := (s0.trans (same_new hM1 _)).trans (same_new hL1 _)
  have e1 : upd (upd H0 M1 (.lst [.bl false, .bl false, .bl false])) L1 (.lst [.bl false, .bl true, .bl false, .bl false, .bl false, .bl false]) L1 = some (.lst [.bl false, .bl true, .bl false, .bl false, .bl false, .bl false]) := upd_same
  have body_ : ([.bl false, .bl true, .bl false] : List V) ++ [.bl false, .bl false, .bl false] = [.bl false, .bl true, .bl false, .bl false, .bl false, .bl false] := rfl
  rw [body_]
  clear body_
  generalize upd (upd H0 M1 (.lst [.bl false, .bl false, .bl false])) L1 (.lst [.bl false, .bl true, .bl false, .bl false, .bl false, .bl false]) = H1 at *
  refine ⟨_, rfl, _, rfl, a, _, d, _, .ref (ga K "NoChain"), .ref (ga K "NoChain"), false, rfl, (fun _ z => z), (s1 _ _ ha), (s1 _ _ hd), excC T, (exF T).ks ("NoChain", false) (by decide +kernel), _, rfl, a, _, d, _, .ref (ga K "NoCode"), .ref (ga K "NoCode"), false, rfl, (fun _ z => z), (s1 _ _ ha), (s1 _ _ hd), excC T, (exF T).ks ("NoCode", false) (by decide +kernel), _, rfl, a, _, d, _, .ref (ga K "NoCounts"), .ref (ga K "NoCounts"), false, rfl, (fun _ z => z), (s1 _ _ ha), (s1 _ _ hd), excC T, (exF T).ks ("NoCounts", false) (by decide +kernel), (by show 3 ≤ sizeLine; decide), fun M2 hM2 => ?_⟩
  refine ⟨L1, M2, [.bl false, .bl true, .bl false, .bl false, .bl false, .bl false], [.bl false, .bl false, .bl false], rfl, rfl, (by rw [upd_ne (ne_of_none e1 hM2)]; exact e1), upd_same, (by show 9 ≤ sizeLine; decide), fun L2 hL2 => ?_⟩
  have s2 : Same H (upd (upd H1 M2 (.lst [.bl false, .bl false, .bl false])) L2 (.lst [.bl false, .bl true, .bl false, .bl false, .bl false, .bl false, .bl false, .bl false, .bl false])) := (s1.trans (same_new hM2 _)).trans (same_new hL2 _)
  have e2 : upd (upd H1 M2 (.lst [.bl false, .bl false, .bl false])) L2 (.lst [.bl false, .bl true, .bl false, .bl false, .bl false, .bl false, .bl false, .bl false, .bl false]) L2 = some (.lst [.bl false, .bl true, .bl false, .bl false, .bl false, .bl false, .bl false, .bl false, .bl false]) := upd_same
  have body_ : ([.bl false, .bl true, .bl false, .bl false, .bl false, .bl false] : List V) ++ [.bl false, .bl false, .bl false] = [.bl false, .bl true, .bl false, .bl false, .bl false, .bl false, .bl false, .bl false, .bl false] := rfl
  rw [body_]
  clear body_
  generalize upd (upd H1 M2 (.lst [.bl false, .bl false, .bl false])) L2 (.lst [.bl false, .bl true, .bl false, .bl false, .bl false, .bl false, .bl false, .bl false, .bl false]) = H2 at *
  refine ⟨_, rfl, _, rfl, a, _, d, _, .ref (ga K "NoGuess"), .ref (ga K "NoGuess"), false, rfl, (fun _ z => z), (s2 _ _ ha), (s2 _ _ hd), excC T, (exF T).ks ("NoGuess", false) (by decide +kernel), _, rfl, a, _, d, _, .ref (ga K "NoLoose"), .ref (ga K "NoLoose"), false, rfl, (fun _ z => z), (s2 _ _ ha), (s2 _ _ hd), excC T, (exF T).ks ("NoLoose", false) (by decide +kernel), _, rfl, a, _, d, _, .ref (ga K "NoMarks"), .ref (ga K "NoMarks"), false, rfl, (fun _ z => z), (s2 _ _ ha), (s2 _ _ hd), excC T, (exF T).ks ("NoMarks", false) (by decide +kernel), (by show 3 ≤ sizeLine; decide), fun M3 hM3 => ?_⟩
  refine ⟨L2, M3, [.bl false, .bl true, .bl false, .bl false, .bl false, .bl false, .bl false, .bl false, .bl false], [.bl false, .bl false, .bl false], rfl, rfl, (by rw [upd_ne (ne_of_none e2 hM3)]; exact e2), upd_same, (by show 12 ≤ sizeLine; decide), fun L3 hL3 => ?_⟩
  have s3 : Same H (upd (upd H2 M3 (.lst [.bl false, .bl false, .bl false])) L3 (.lst [.bl false, .bl true, .bl false, .bl false, .bl false, .bl false, .bl false, .bl false, .bl false, .bl false, .bl false, .bl false])) := (s2.trans (same_new hM3 _)).trans (same_new hL3 _)
  have e3 : upd (upd H2 M3 (.lst [.bl false, .bl false, .bl false])) L3 (.lst [.bl false, .bl true, .bl false, .bl false, .bl false, .bl false, .bl false, .bl false, .bl false, .bl false, .bl false, .bl false]) L3 = some (.lst [.bl false, .bl true, .bl false, .bl false, .bl false, .bl false, .bl false, .bl false, .bl false, .bl false, .bl false, .bl false]) := upd_same
  have body_ : ([.bl false, .bl true, .bl false, .bl false, .bl false, .bl false, .bl false, .bl false, .bl false] : List V) ++ [.bl false, .bl false, .bl false] = [.bl false, .bl true, .bl false, .bl false, .bl false, .bl false, .bl false, .bl false, .bl false, .bl false, .bl false, .bl false] := rfl
  rw [body_]
  clear body_
  generalize upd (upd H2 M3 (.lst [.bl false, .bl false, .bl false])) L3 (.lst [.bl false, .bl true, .bl false, .bl false, .bl false, .bl false, .bl false, .bl false, .bl false, .bl false, .bl false, .bl false]) = H3 at *
  refine ⟨_, rfl, _, rfl, a, _, d, _, .ref (ga K "NoName"), .ref (ga K "NoName"), false, rfl, (fun _ z => z), (s3 _ _ ha), (s3 _ _ hd), excC T, (exF T).ks ("NoName", false) (by decide +kernel), _, rfl, a, _, d, _, .ref (ga K "NoRow"), .ref (ga K "NoRow"), false, rfl, (fun _ z => z), (s3 _ _ ha), (s3 _ _ hd), excC T, (exF T).ks ("NoRow", false) (by decide +kernel), _, rfl, a, _, d, _, .ref (ga K "NoRun"), .ref (ga K "NoRun"), false, rfl, (fun _ z => z), (s3 _ _ ha), (s3 _ _ hd), excC T, (exF T).ks ("NoRun", false) (by decide +kernel), (by show 3 ≤ sizeLine; decide), fun M4 hM4 => ?_⟩
  refine ⟨L3, M4, [.bl false, .bl true, .bl false, .bl false, .bl false, .bl false, .bl false, .bl false, .bl false, .bl false, .bl false, .bl false], [.bl false, .bl false, .bl false], rfl, rfl, (by rw [upd_ne (ne_of_none e3 hM4)]; exact e3), upd_same, (by show 15 ≤ sizeLine; decide), fun L4 hL4 => ?_⟩
  have s4 : Same H (upd (upd H3 M4 (.lst [.bl false, .bl false, .bl false])) L4 (.lst [.bl false, .bl true, .bl false, .bl false, .bl false, .bl false, .bl false, .bl false, .bl false, .bl false, .bl false, .bl false, .bl false, .bl false, .bl false])) := (s3.trans (same_new hM4 _)).trans (same_new hL4 _)
  have e4 : upd (upd H3 M4 (.lst [.bl false, .bl false, .bl false])) L4 (.lst [.bl false, .bl true, .bl false, .bl false, .bl false, .bl false, .bl false, .bl false, .bl false, .bl false, .bl false, .bl false, .bl false, .bl false, .bl false]) L4 = some (.lst [.bl false, .bl true, .bl false, .bl false, .bl false, .bl false, .bl false, .bl false, .bl false, .bl false, .bl false, .bl false, .bl false, .bl false, .bl false]) := upd_same
  have body_ : ([.bl false, .bl true, .bl false, .bl false, .bl false, .bl false, .bl false, .bl false, .bl false, .bl false, .bl false, .bl false] : List V) ++ [.bl false, .bl false, .bl false] = [.bl false, .bl true, .bl false, .bl false, .bl false, .bl false, .bl false, .bl false, .bl false, .bl false, .bl false, .bl false, .bl false, .bl false, .bl false] := rfl
  rw [body_]
  clear body_
  generalize upd (upd H3 M4 (.lst [.bl false, .bl false, .bl false])) L4 (.lst [.bl false, .bl true, .bl false, .bl false, .bl false, .bl false, .bl false, .bl false, .bl false, .bl false, .bl false, .bl false, .bl false, .bl false, .bl false]) = H4 at *
  refine ⟨_, rfl, _, rfl, a, _, d, _, .ref (ga K "NoWay"), .ref (ga K "NoWay"), false, rfl, (fun _ z => z), (s4 _ _ ha), (s4 _ _ hd), excC T, (exF T).ks ("NoWay", false) (by decide +kernel), _, rfl, a, _, d, _, .ref (ga K "NoWeb"), .ref (ga K "NoWeb"), false, rfl, (fun _ z => z), (s4 _ _ ha), (s4 _ _ hd), excC T, (exF T).ks ("NoWeb", false) (by decide +kernel), (by show 2 ≤ sizeLine; decide), fun M5 hM5 => ?_⟩
  refine ⟨L4, M5, [.bl false, .bl true, .bl false, .bl false, .bl false, .bl false, .bl false, .bl false, .bl false, .bl false, .bl false, .bl false, .bl false, .bl false, .bl false], [.bl false, .bl false], rfl, rfl, (by rw [upd_ne (ne_of_none e4 hM5)]; exact e4), upd_same, (by show 17 ≤ sizeLine; decide), fun L5 hL5 => ?_⟩
  have s5 : Same H (upd (upd H4 M5 (.lst [.bl false, .bl false])) L5 (.lst [.bl false, .bl true, .bl false, .bl false, .bl false, .bl false, .bl false, .bl false, .bl false, .bl false, .bl false, .bl false, .bl false, .bl false, .bl false, .bl false, .bl false])) := (s4.trans (same_new hM5 _)).trans (same_new hL5 _)
  have e5 : upd (upd H4 M5 (.lst [.bl false, .bl false])) L5 (.lst [.bl false, .bl true, .bl false, .bl false, .bl false, .bl false, .bl false, .bl false, .bl false, .bl false, .bl false, .bl false, .bl false, .bl false, .bl false, .bl false, .bl false]) L5 = some (.lst [.bl false, .bl true, .bl false, .bl false, .bl false, .bl false, .bl false, .bl false, .bl false, .bl false, .bl false, .bl false, .bl false, .bl false, .bl false, .bl false, .bl false]) := upd_same
  have body_ : ([.bl false, .bl true, .bl false, .bl false, .bl false, .bl false, .bl false, .bl false, .bl false, .bl false, .bl false, .bl false, .bl false, .bl false, .bl false] : List V) ++ [.bl false, .bl false] = [.bl false, .bl true, .bl false, .bl false, .bl false, .bl false, .bl false, .bl false, .bl false, .bl false, .bl false, .bl false, .bl false, .bl false, .bl false, .bl false, .bl false] := rfl
  rw [body_]
  clear body_
  generalize upd (upd H4 M5 (.lst [.bl false, .bl false])) L5 (.lst [.bl false, .bl true, .bl false, .bl false, .bl false, .bl false, .bl false, .bl false, .bl false, .bl false, .bl false, .bl false, .bl false, .bl false, .bl false, .bl false, .bl false]) = H5 at *
  refine ⟨_, rfl, .inl ⟨rfl, _, SqL.of e5⟩, L5, _, .bl true, rfl, rfl, SqL.of e5, rfl, rfl, rfl, _, rfl, ifF rfl ?_⟩
  refine ⟨_, rfl, a, _, d, _, .ty "ValueError", .type "ValueError", true, rfl, (fun _ z => z), s5 _ _ ha, s5 _ _ hd, excC T, (exF T).kv, true, rfl, ifF rfl ?_⟩
  refine ⟨_, rfl, .inl ⟨rfl, _, SqL.of e5⟩, L5, _, .bl true, 1, .bl true, rfl, rfl, SqL.of e5, rfl, rfl, rfl, rfl, ?_, k _ s5⟩
  intro m z hm hz
  have m0 : m = 0 := by omega
  subst m0
  cases hz
  rfl
theorem sc_whole : FnScope ["_law_told"] ["_law_told"] (defScope (top 48)) := ⟨rfl, rfl, rfl, by decide +kernel, rfl, by decide +kernel, by decide +kernel⟩
theorem c_whole (T : Txt K mg) : Cal P w K mg base CX0 1 "_law_whole" ["_law_told"] spWhole := by
  obtain ⟨fd, F⟩ := T.d__law_whole
  refine ⟨⟨fd, fn0 F sc_whole (fun vs H Q E h => ?_) (fun cdv A outer s H vs Q E hr h => ?_), FunD.bindsN F fun _ _ _ _ _ _ us hl => match us, hl with | [_], _ => rfl⟩, T.k__law_whole, T.g__law_whole⟩
  · obtain ⟨_, rfl, _⟩ := h
    rfl
  obtain ⟨i, rfl, k⟩ := h
  refine ⟨_, (pss_one (ps_ret (pe_and (pe_callB call_isi (by rfl) T.z_isinstance (by decide +kernel) (pa_cons (pv 0) (pa_cons (pe_bltn (v := .ty "int") rfl T.z_int (by decide +kernel) rfl) pa_nil))) (pe_one (pe_not (pe_callB call_isi (by rfl) T.z_isinstance (by decide +kernel) (pa_cons (pv 0) (pa_cons (pe_bltn (v := .ty "bool") rfl T.z_bool (by decide +kernel) rfl) pa_nil)))))))), ?_⟩
  refine ⟨_, rfl, .int i, .ty "int", .type "int", .type "int", true, rfl, .ty "int", .base (.int i), by kernel_rfl, true, rfl, ifT rfl ?_⟩
  exact ⟨_, rfl, .int i, .ty "bool", .type "int", .type "bool", false, rfl, .ty "bool", .base (.int i), by kernel_rfl, false, rfl, k⟩
theorem sc_caught : FnScope ["_law_text_here", "_law_caught_here", "e"] ["_law_text_here"] (defScope (top 49)) := ⟨rfl, rfl, rfl, by decide +kernel, rfl, by decide +kernel, by decide +kernel⟩
theorem c_caught (T : Txt K mg) : Cal P w K mg base CX0 9 "_law_caught" ["_law_text_here"] (spCaught K) := by
  obtain ⟨⟨fdL, FL, bL⟩, kL, gL⟩ := c_looked (P := P) (w := w) (base := base) T
  obtain ⟨fd, F⟩ := T.d__law_caught
  refine ⟨⟨fd, fn0 F sc_caught (fun vs H Q E h => ?_) (fun cdv A outer s H vs Q E hr h => ?_), FunD.bindsN F fun _ _ _ _ _ _ us hl => match us, hl with | [_], _ => rfl⟩, T.k__law_caught, T.g__law_caught⟩
  · obtain ⟨_, _, _, _, rfl, _⟩ := h
    rfl
  obtain ⟨t, ws, st, out, rfl, hz, hws, hl, rds, drs, oks, hlen, k0, k1⟩ := h
  refine ⟨_, (pss_cons (ps_set (i := 1) sc_caught.nd rfl (.inl rfl) pe_non)
    (pss_cons (ps_try_keep (i := 2) (tb := fun W => tDrop (tCallS (spLooked K) (WE W) (tCons (tVar 0) tNil))) (ts := fun _ _ _ => tAsg (tVar 2) (gName 1)) (Wout := fun _ _ _ _ => False) rfl rfl rfl sc_caught.nd rfl rfl ⟨rfl, by decide, .inl T.g_CountError⟩ takes0
      (fun W pn xe tk _ => pss_one (ps_expr (by exact (pe_callS FL (hr.mono (by decide)) rfl gL kL bL (fun σ => passAt tk σ) (by exact (pa_cons (pv 0) pa_nil))))))
      (fun a oe cls d pn hz hf => pss_one (ps_set (i := 1) sc_caught.nd rfl (.inl rfl) (pv 2))))
    (pss_one (ps_ret (pv 1))))), ?_⟩
  refine ⟨_, rfl, t, ws, st, out, rfl, hz, hws, hl, rds, drs, oks, hlen, fun e v H' s1 => ⟨_, rfl, k0 e H' s1⟩, fun m H' d hm hmin s1 hd0 hd => ?_⟩
  refine ⟨true, T.x_caught, fun _ a ha => ?_, fun z => nomatch z⟩
  refine ⟨_, rfl, _, rfl, ?_⟩
  have nd : d ≠ a := ne_of_none hd ha
  exact k1 m _ a d hm hmin (s1.trans (same_new ha _)) upd_same (by rw [upd_ne nd]; exact hd)
end
end Fc

set_option Elab.async false
set_option linter.all false
set_option maxRecDepth 100000
set_option maxHeartbeats 4000000
namespace Fc
open PySem PySem.Spec PyProof.Rows L2 He
/-! the law's lists on the heap -/
def Cl.v : Cl → V
  | .ix i => .int ((i : Nat) : Int)
  | .nm n => .str n
def kd (w : Bool) : Nat := if w = true then 2 else 1
def rf (xs : List Addr) : List V := xs.map V.ref
theorem rf_inj {xs ys : List Addr} (h : rf xs = rf ys) : xs = ys := by
  induction xs generalizing ys with
  | nil =>
    cases ys with
    | nil => rfl
    | cons y ys => cases h
  | cons x xs ih =>
    cases ys with
    | nil => cases h
    | cons y ys =>
      injection h with h1 h2
      injection h1 with h1
      rw [h1, ih h2]
theorem rf_len (xs : List Addr) : (rf xs).length = xs.length := List.length_map _
theorem rf_app (xs ys : List Addr) : rf (xs ++ ys) = rf xs ++ rf ys := List.map_append
/-- these things stand there as that list; w: within a while -/
def UL (g : Addr → Nat) (H : Hp) : L → Bool → List Addr → Prop
  | .nil, _, xs => xs = []
  | .lv r, w, xs => ∃ x t, xs = x :: t ∧ g x = 3 ∧ H x = some (.lst [.str wLeave]) ∧ UL g H r w t
  | .bk r, w, xs => ∃ x t, xs = x :: t ∧ g x = 3 ∧ H x = some (.lst [.str wBack]) ∧ UL g H r w t
  | .dO n r, w, xs => ∃ x t, xs = x :: t ∧ g x = 3 ∧ H x = some (.lst [.str wDo, .str n]) ∧ UL g H r w t
  | .ca c r, w, xs => ∃ x t, xs = x :: t ∧ g x = 3 ∧ H x = some (.lst [.str wCall, c.v]) ∧ UL g H r w t
  | .fi n a b r, w, xs => ∃ x t p q ps qs, xs = x :: t ∧ g x = 3 ∧ H x = some (.lst [.str wIf, .str n, .ref p, .ref q]) ∧ g p = kd w ∧ H p = some (.lst (rf ps)) ∧ UL g H a w ps ∧ g q = kd w ∧ H q = some (.lst (rf qs)) ∧ UL g H b w qs ∧ UL g H r w t
  | .wh n a r, w, xs => ∃ x t p ps, xs = x :: t ∧ g x = 3 ∧ H x = some (.lst [.str wWhile, .str n, .ref p]) ∧ g p = 2 ∧ H p = some (.lst (rf ps)) ∧ UL g H a true ps ∧ UL g H r w t
/-- how deep -/
def dp : L → Nat
  | .nil => 0
  | .lv r => dp r
  | .bk r => dp r
  | .dO _ r => dp r
  | .ca _ r => dp r
  | .fi _ a b r => max (max (dp a) (dp b) + 1) (dp r)
  | .wh _ a r => max (dp a + 1) (dp r)
/-- how many rows -/
def rm : L → Nat
  | .nil => 0
  | .lv r => rm r
  | .bk r => rm r
  | .dO _ r => rm r + 1
  | .ca _ r => rm r + 1
  | .fi _ a b r => rm a + rm b + rm r + 2
  | .wh _ a r => rm a + rm r + 2
def apL : L → L → L
  | .nil, m => m
  | .lv r, m => .lv (apL r m)
  | .bk r, m => .bk (apL r m)
  | .dO n r, m => .dO n (apL r m)
  | .ca c r, m => .ca c (apL r m)
  | .fi n a b r, m => .fi n a b (apL r m)
  | .wh n a r, m => .wh n a (apL r m)
theorem kd_cases (w : Bool) : kd w = 1 ∨ kd w = 2 := by
  cases w
  · exact .inl rfl
  · exact .inr rfl
section
variable {g g' : Addr → Nat} {H H' : Hp}
/-- kept, as far as these things go -/
def Kp (g : Addr → Nat) (H : Hp) (g' : Addr → Nat) (H' : Hp) : Prop := ∀ b u, (g b = 1 ∨ g b = 2 ∨ g b = 3) → H b = some u → H' b = some u ∧ g' b = g b
theorem Kp.refl : Kp g H g H := fun b u _ h => ⟨h, rfl⟩
theorem Kp.trans {g'' : Addr → Nat} {H'' : Hp} (a : Kp g H g' H') (b : Kp g' H' g'' H'') : Kp g H g'' H'' := fun x u h e => by
  obtain ⟨e1, e2⟩ := a x u h e
  obtain ⟨e3, e4⟩ := b x u (by rw [e2]; exact h) e1
  exact ⟨e3, e4.trans e2⟩
theorem Kp.of (s : Same H H') : Kp g H g H' := fun b u _ h => ⟨s _ _ h, rfl⟩
/-- a list's own change is no matter where none of these stands -/
theorem Kp.set {a : Addr} {o : HO} (h : ¬ (g a = 1 ∨ g a = 2 ∨ g a = 3)) : Kp g H g (upd H a o) := fun b u hb e => ⟨by rw [upd_ne fun z => h (by rw [← z]; exact hb)]; exact e, rfl⟩
theorem UL.mono (k : Kp g H g' H') : ∀ {l : L} {w : Bool} {xs : List Addr}, UL g H l w xs → UL g' H' l w xs := by
  have k3 : ∀ {x : Addr} {u : HO}, g x = 3 → H x = some u → g' x = 3 ∧ H' x = some u := fun e h => by
    obtain ⟨a, b⟩ := k _ _ (.inr (.inr e)) h
    exact ⟨b.trans e, a⟩
  have kw : ∀ {x : Addr} {u : HO} {w : Bool}, g x = kd w → H x = some u → g' x = kd w ∧ H' x = some u := fun {x u w} e h => by
    obtain ⟨a, b⟩ := k _ _ (by rw [e]; rcases kd_cases w with z | z <;> rw [z] <;> simp) h
    exact ⟨b.trans e, a⟩
  have k2 : ∀ {x : Addr} {u : HO}, g x = 2 → H x = some u → g' x = 2 ∧ H' x = some u := fun e h => by
    obtain ⟨a, b⟩ := k _ _ (.inr (.inl e)) h
    exact ⟨b.trans e, a⟩
  intro l
  induction l with
  | nil => intro w xs h; exact h
  | lv r ih =>
    rintro w xs ⟨x, t, e, h1, h2, h3⟩
    obtain ⟨a1, a2⟩ := k3 h1 h2
    exact ⟨x, t, e, a1, a2, ih h3⟩
  | bk r ih =>
    rintro w xs ⟨x, t, e, h1, h2, h3⟩
    obtain ⟨a1, a2⟩ := k3 h1 h2
    exact ⟨x, t, e, a1, a2, ih h3⟩
  | dO n r ih =>
    rintro w xs ⟨x, t, e, h1, h2, h3⟩
    obtain ⟨a1, a2⟩ := k3 h1 h2
    exact ⟨x, t, e, a1, a2, ih h3⟩
  | ca c r ih =>
    rintro w xs ⟨x, t, e, h1, h2, h3⟩
    obtain ⟨a1, a2⟩ := k3 h1 h2
    exact ⟨x, t, e, a1, a2, ih h3⟩
  | fi n a b r iha ihb ihr =>
    rintro w xs ⟨x, t, p, q, ps, qs, e, h1, h2, p1, p2, p3, q1, q2, q3, h3⟩
    obtain ⟨a1, a2⟩ := k3 h1 h2
    obtain ⟨b1, b2⟩ := kw p1 p2
    obtain ⟨c1, c2⟩ := kw q1 q2
    exact ⟨x, t, p, q, ps, qs, e, a1, a2, b1, b2, iha p3, c1, c2, ihb q3, ihr h3⟩
  | wh n a r iha ihr =>
    rintro w xs ⟨x, t, p, ps, e, h1, h2, p1, p2, p3, h3⟩
    obtain ⟨a1, a2⟩ := k3 h1 h2
    obtain ⟨b1, b2⟩ := k2 p1 p2
    exact ⟨x, t, p, ps, e, a1, a2, b1, b2, iha p3, ihr h3⟩
theorem UL.app {m : L} : ∀ {l : L} {w : Bool} {xs ys : List Addr}, UL g H l w xs → UL g H m w ys → UL g H (apL l m) w (xs ++ ys) := by
  intro l
  induction l with
  | nil =>
    intro w xs ys h1 h2
    rw [show xs = [] from h1]
    exact h2
  | lv r ih =>
    rintro w xs ys ⟨x, t, rfl, h1, h2, h3⟩ k
    exact ⟨x, t ++ ys, rfl, h1, h2, ih h3 k⟩
  | bk r ih =>
    rintro w xs ys ⟨x, t, rfl, h1, h2, h3⟩ k
    exact ⟨x, t ++ ys, rfl, h1, h2, ih h3 k⟩
  | dO n r ih =>
    rintro w xs ys ⟨x, t, rfl, h1, h2, h3⟩ k
    exact ⟨x, t ++ ys, rfl, h1, h2, ih h3 k⟩
  | ca c r ih =>
    rintro w xs ys ⟨x, t, rfl, h1, h2, h3⟩ k
    exact ⟨x, t ++ ys, rfl, h1, h2, ih h3 k⟩
  | fi n a b r iha ihb ihr =>
    rintro w xs ys ⟨x, t, p, q, ps, qs, rfl, h1, h2, p1, p2, p3, q1, q2, q3, h3⟩ k
    exact ⟨x, t ++ ys, p, q, ps, qs, rfl, h1, h2, p1, p2, p3, q1, q2, q3, ihr h3 k⟩
  | wh n a r iha ihr =>
    rintro w xs ys ⟨x, t, p, ps, rfl, h1, h2, p1, p2, p3, h3⟩ k
    exact ⟨x, t ++ ys, p, ps, rfl, h1, h2, p1, p2, p3, ihr h3 k⟩
theorem UL.split : ∀ {l : L} {w : Bool} {xs ys : List Addr}, UL g H l w (xs ++ ys) → ∃ l1 l2, l = apL l1 l2 ∧ UL g H l1 w xs ∧ UL g H l2 w ys := by
  intro l w xs
  induction xs generalizing l with
  | nil => intro ys h; exact ⟨.nil, l, rfl, rfl, h⟩
  | cons x0 xs ih =>
    intro ys h
    cases l with
    | nil => exact absurd h (by show ¬ (_ = _); simp)
    | lv r =>
      obtain ⟨x, t, e, h1, h2, h3⟩ := h
      injection e with e1 e2
      subst e1 e2
      obtain ⟨l1, l2, e, a, b⟩ := ih h3
      exact ⟨.lv l1, l2, by rw [e] <;> rfl, ⟨x0, xs, rfl, h1, h2, a⟩, b⟩
    | bk r =>
      obtain ⟨x, t, e, h1, h2, h3⟩ := h
      injection e with e1 e2
      subst e1 e2
      obtain ⟨l1, l2, e, a, b⟩ := ih h3
      exact ⟨.bk l1, l2, by rw [e] <;> rfl, ⟨x0, xs, rfl, h1, h2, a⟩, b⟩
    | dO n r =>
      obtain ⟨x, t, e, h1, h2, h3⟩ := h
      injection e with e1 e2
      subst e1 e2
      obtain ⟨l1, l2, e, a, b⟩ := ih h3
      exact ⟨.dO n l1, l2, by rw [e] <;> rfl, ⟨x0, xs, rfl, h1, h2, a⟩, b⟩
    | ca c r =>
      obtain ⟨x, t, e, h1, h2, h3⟩ := h
      injection e with e1 e2
      subst e1 e2
      obtain ⟨l1, l2, e, a, b⟩ := ih h3
      exact ⟨.ca c l1, l2, by rw [e] <;> rfl, ⟨x0, xs, rfl, h1, h2, a⟩, b⟩
    | fi n a b r =>
      obtain ⟨x, t, p, q, ps, qs, e, h1, h2, p1, p2, p3, q1, q2, q3, h3⟩ := h
      injection e with e1 e2
      subst e1 e2
      obtain ⟨l1, l2, e, a', b'⟩ := ih h3
      exact ⟨.fi n a b l1, l2, by rw [e] <;> rfl, ⟨x0, xs, p, q, ps, qs, rfl, h1, h2, p1, p2, p3, q1, q2, q3, a'⟩, b'⟩
    | wh n a r =>
      obtain ⟨x, t, p, ps, e, h1, h2, p1, p2, p3, h3⟩ := h
      injection e with e1 e2
      subst e1 e2
      obtain ⟨l1, l2, e, a', b'⟩ := ih h3
      exact ⟨.wh n a l1, l2, by rw [e] <;> rfl, ⟨x0, xs, p, ps, rfl, h1, h2, p1, p2, p3, a'⟩, b'⟩
end
/-! ### measures of two lists in one -/
theorem apL_nil : ∀ l : L, apL l .nil = l := by
  intro l
  induction l with
  | nil => rfl
  | lv r ih => simp only [apL, ih]
  | bk r ih => simp only [apL, ih]
  | dO n r ih => simp only [apL, ih]
  | ca c r ih => simp only [apL, ih]
  | fi n a b r iha ihb ihr => simp only [apL, ihr]
  | wh n a r iha ihr => simp only [apL, ihr]
theorem wl_app (m : L) : ∀ l : L, wl (apL l m) = wl l + wl m := by
  intro l
  induction l with
  | nil => simp only [apL, wl]; omega
  | lv r ih => simp only [apL, wl, ih]; omega
  | bk r ih => simp only [apL, wl, ih]; omega
  | dO n r ih => simp only [apL, wl, ih]; omega
  | ca c r ih => simp only [apL, wl, ih]; omega
  | fi n a b r iha ihb ihr => simp only [apL, wl, ihr]; omega
  | wh n a r iha ihr => simp only [apL, wl, ihr]; omega
theorem rm_app (m : L) : ∀ l : L, rm (apL l m) = rm l + rm m := by
  intro l
  induction l with
  | nil => simp only [apL, rm]; omega
  | lv r ih => simp only [apL, rm, ih]
  | bk r ih => simp only [apL, rm, ih]
  | dO n r ih => simp only [apL, rm, ih]; omega
  | ca c r ih => simp only [apL, rm, ih]; omega
  | fi n a b r iha ihb ihr => simp only [apL, rm, ihr]; omega
  | wh n a r iha ihr => simp only [apL, rm, ihr]; omega
theorem dp_app (m : L) : ∀ l : L, dp (apL l m) = max (dp l) (dp m) := by
  intro l
  induction l with
  | nil => simp only [apL, dp]; omega
  | lv r ih => simp only [apL, dp, ih]
  | bk r ih => simp only [apL, dp, ih]
  | dO n r ih => simp only [apL, dp, ih]
  | ca c r ih => simp only [apL, dp, ih]
  | fi n a b r iha ihb ihr => simp only [apL, dp, ihr]; omega
  | wh n a r iha ihr => simp only [apL, dp, ihr]; omega
theorem things_app (m : L) : ∀ l : L, things (apL l m) = things l + things m := by
  intro l
  induction l with
  | nil => simp only [apL, things]; omega
  | lv r ih => simp only [apL, things, ih]
  | bk r ih => simp only [apL, things, ih]
  | dO n r ih => simp only [apL, things, ih]; omega
  | ca c r ih => simp only [apL, things, ih]; omega
  | fi n a b r iha ihb ihr => simp only [apL, things, ihr]; omega
  | wh n a r iha ihr => simp only [apL, things, ihr]; omega
theorem wf_app {k : Nat} {w : Bool} (m : L) : ∀ l : L, Wf k (apL l m) w ↔ Wf k l w ∧ Wf k m w := by
  intro l
  induction l with
  | nil => simp only [apL, Wf, true_and]
  | lv r ih => simp only [apL, Wf, ih, and_assoc]
  | bk r ih => simp only [apL, Wf, ih]
  | dO n r ih => simp only [apL, Wf, ih, and_assoc]
  | ca c r ih => simp only [apL, Wf, ih, and_assoc]
  | fi n a b r iha ihb ihr => simp only [apL, Wf, ihr, and_assoc]
  | wh n a r iha ihr => simp only [apL, Wf, ihr, and_assoc]
theorem wf_more {k k' : Nat} (h : k ≤ k') : ∀ {l : L} {w : Bool}, Wf k l w → Wf k' l w := by
  intro l
  induction l with
  | nil => intro w _; trivial
  | lv r ih => rintro w ⟨a, b⟩; exact ⟨a, ih b⟩
  | bk r ih => intro w a; exact ih a
  | dO n r ih => rintro w ⟨a, b⟩; exact ⟨a, ih b⟩
  | ca c r ih =>
    rintro w ⟨a, b⟩
    refine ⟨?_, ih b⟩
    cases c with
    | ix i => exact Nat.lt_of_lt_of_le a h
    | nm n => exact a
  | fi n a b r iha ihb ihr => rintro w ⟨h1, h2, h3, h4⟩; exact ⟨h1, iha h2, ihb h3, ihr h4⟩
  | wh n a r iha ihr => rintro w ⟨h1, h2, h3⟩; exact ⟨h1, iha h2, ihr h3⟩
theorem ul_len {g : Addr → Nat} {H : Hp} : ∀ {l : L} {w : Bool} {xs : List Addr}, UL g H l w xs → xs.length ≤ wl l := by
  intro l
  induction l with
  | nil => intro w xs h; rw [show xs = [] from h]; exact Nat.le_refl _
  | lv r ih => rintro w xs ⟨x, t, rfl, _, _, h⟩; have := ih h; simp only [List.length_cons, wl]; omega
  | bk r ih => rintro w xs ⟨x, t, rfl, _, _, h⟩; have := ih h; simp only [List.length_cons, wl]; omega
  | dO n r ih => rintro w xs ⟨x, t, rfl, _, _, h⟩; have := ih h; simp only [List.length_cons, wl]; omega
  | ca c r ih => rintro w xs ⟨x, t, rfl, _, _, h⟩; have := ih h; simp only [List.length_cons, wl]; omega
  | fi n a b r iha ihb ihr => rintro w xs ⟨x, t, p, q, ps, qs, rfl, _, _, _, _, _, _, _, _, h⟩; have := ihr h; simp only [List.length_cons, wl]; omega
  | wh n a r iha ihr => rintro w xs ⟨x, t, p, ps, rfl, _, _, _, _, _, h⟩; have := ihr h; simp only [List.length_cons, wl]; omega
/-- each thing's object begins with its word -/
theorem ul_word {g : Addr → Nat} {H : Hp} {l : L} {w : Bool} {x : Addr} {t : List Addr} (h : UL g H l w (x :: t)) : g x = 3 ∧ ∃ s rest, H x = some (.lst (.str s :: rest)) := by
  cases l with
  | nil => exact absurd h (by show ¬ (_ = _); simp)
  | lv r => obtain ⟨x, t, e, h1, h2, _⟩ := h; injection e with e1 e2; subst e1; exact ⟨h1, _, _, h2⟩
  | bk r => obtain ⟨x, t, e, h1, h2, _⟩ := h; injection e with e1 e2; subst e1; exact ⟨h1, _, _, h2⟩
  | dO n r => obtain ⟨x, t, e, h1, h2, _⟩ := h; injection e with e1 e2; subst e1; exact ⟨h1, _, _, h2⟩
  | ca c r => obtain ⟨x, t, e, h1, h2, _⟩ := h; injection e with e1 e2; subst e1; exact ⟨h1, _, _, h2⟩
  | fi n a b r => obtain ⟨x, t, p, q, ps, qs, e, h1, h2, _⟩ := h; injection e with e1 e2; subst e1; exact ⟨h1, _, _, h2⟩
  | wh n a r => obtain ⟨x, t, p, ps, e, h1, h2, _⟩ := h; injection e with e1 e2; subst e1; exact ⟨h1, _, _, h2⟩
end Fc

set_option Elab.async false
set_option linter.all false
set_option maxRecDepth 100000
set_option maxHeartbeats 4000000
namespace Fc
open PySem PySem.Spec PyProof.Rows L2 He
/-! the law: reading its lists -/
section
variable {K : PySem.W.Frag} {σ : L2.St} {H : Hp} {i j : Nat} {x : Addr} {s w' : Str} {rest xs : List V} {v : V}
theorem wyes {Q : Bool → Hp → Prop} (hx : σ[i]? = some (some (.ref x))) (h : H x = some (.lst (.str s :: rest))) (e : s = w') (k : Q true H) : tTest (tOp rEq (tOp (rIxL K) (tVar i) (tC (.int 0))) (tC (.str w'))) σ H Q :=
  ⟨_, hx, x, _, _, .str s, rfl, rfl, SqL.of h, (show atI _ ((0 : Nat) : Int) = _ from atI_nat rfl), rfl, true, by rw [str_eq e], k⟩
theorem wno {Q : Bool → Hp → Prop} (hx : σ[i]? = some (some (.ref x))) (h : H x = some (.lst (.str s :: rest))) (e : ¬ s = w') (k : Q false H) : tTest (tOp rEq (tOp (rIxL K) (tVar i) (tC (.int 0))) (tC (.str w'))) σ H Q :=
  ⟨_, hx, x, _, _, .str s, rfl, rfl, SqL.of h, (show atI _ ((0 : Nat) : Int) = _ from atI_nat rfl), rfl, false, by rw [str_ne e], k⟩
theorem nyes {Q : Bool → Hp → Prop} (hx : σ[i]? = some (some (.ref x))) (h : H x = some (.lst (.str s :: rest))) (e : s = w') (k : Q false H) : tTest (tOp rNe (tOp (rIxL K) (tVar i) (tC (.int 0))) (tC (.str w'))) σ H Q :=
  ⟨_, hx, x, _, _, .str s, rfl, rfl, SqL.of h, (show atI _ ((0 : Nat) : Int) = _ from atI_nat rfl), rfl, false, by rw [str_eq e] <;> rfl, k⟩
theorem nno {Q : Bool → Hp → Prop} (hx : σ[i]? = some (some (.ref x))) (h : H x = some (.lst (.str s :: rest))) (e : ¬ s = w') (k : Q true H) : tTest (tOp rNe (tOp (rIxL K) (tVar i) (tC (.int 0))) (tC (.str w'))) σ H Q :=
  ⟨_, hx, x, _, _, .str s, rfl, rfl, SqL.of h, (show atI _ ((0 : Nat) : Int) = _ from atI_nat rfl), rfl, true, by rw [str_ne e] <;> rfl, k⟩
theorem ixv {Q : VK} (j : Nat) (hx : σ[i]? = some (some (.ref x))) (h : H x = some (.lst xs)) (e : xs[j]? = some v) (k : Q v H) : tOp (rIxL K) (tVar i) (tC (.int ((j : Nat) : Int))) σ H Q :=
  ⟨_, hx, x, _, _, v, rfl, rfl, SqL.of h, atI_nat e, k⟩
end
theorem rf_get {xs : List Addr} {i : Nat} {v : V} (h : (rf xs)[i]? = some v) : ∃ y t, v = .ref y ∧ xs.drop i = y :: t ∧ xs.drop (i + 1) = t ∧ i < xs.length := by
  unfold rf at h
  rw [List.getElem?_map] at h
  cases e : xs[i]? with
  | none => rw [e] at h; cases h
  | some y =>
    rw [e] at h
    cases h
    obtain ⟨hl, e1⟩ := List.getElem?_eq_some_iff.mp e
    exact ⟨y, xs.drop (i + 1), rfl, by rw [List.drop_eq_getElem_cons hl, e1], rfl, hl⟩
theorem rf_end {xs : List Addr} : xs.drop (rf xs).length = [] := by rw [rf_len]; exact List.drop_length
def spCalled (K : PySem.W.Frag) : L2.Sp := fun vs H Q _ => ∃ (x A : Addr) (c : Cl) (s : Str) (ns : List Str), vs = [.ref x, .ref A] ∧ H x = some (.lst [.str s, c.v]) ∧ H A = some (.lst (sS ns)) ∧ (∀ i, c = .ix i → i < ns.length) ∧ Q (.str (c.name ns)) H
def spMany (K : PySem.W.Frag) (d : Nat) : L2.Sp := fun vs H Q _ => ∃ (a : Addr) (g : Addr → Nat) (l : L) (w : Bool) (xs : List Addr), vs = [.ref a] ∧ H a = some (.lst (rf xs)) ∧ UL g H l w xs ∧ dp l < d ∧ Q (.int ((rm l : Nat) : Int)) H
def spThings (K : PySem.W.Frag) (d : Nat) : L2.Sp := fun vs H Q _ => ∃ (a : Addr) (g : Addr → Nat) (l : L) (w : Bool) (xs : List Addr), vs = [.ref a] ∧ H a = some (.lst (rf xs)) ∧ UL g H l w xs ∧ dp l < d ∧ Q (.int ((things l : Nat) : Int)) H
def spPasses (K : PySem.W.Frag) (d : Nat) : L2.Sp := fun vs H Q _ => ∃ (a : Addr) (g : Addr → Nat) (l : L) (w : Bool) (xs : List Addr), vs = [.ref a] ∧ H a = some (.lst (rf xs)) ∧ UL g H l w xs ∧ dp l < d ∧ ∀ b, (l = .nil → b = true) → Q (.bl b) H
def spWords (K : PySem.W.Frag) (d : Nat) : L2.Sp := fun vs H Q _ => ∃ (a A : Addr) (ns : List Str) (g : Addr → Nat) (l : L) (w : Bool) (xs : List Addr), vs = [.ref a, .ref A] ∧ H a = some (.lst (rf xs)) ∧ H A = some (.lst (sS ns)) ∧ UL g H l w xs ∧ Wf ns.length l w ∧ dp l < d ∧ wl l < 1000000 ∧
  ∀ H' p, Same H H' → H p = none → H' p = some (.lst (sS (wds ns l))) → Q (.ref p) H'
section
variable {P : Program} {w : World} {K : PySem.W.Frag} {mg : Str → Option Value} {base : Heap}
theorem sc_called : FnScope ["_law_one", "_law_names"] ["_law_one", "_law_names"] (defScope (top 44)) := ⟨rfl, rfl, rfl, by decide +kernel, rfl, by decide +kernel, by decide +kernel⟩
theorem c_called (T : Txt K mg) : Cal P w K mg base CX0 1 "_law_called" ["_law_one", "_law_names"] (spCalled K) := by
  obtain ⟨fd, F⟩ := T.d__law_called
  refine ⟨⟨fd, fn0 F sc_called (fun vs H Q E h => ?_) (fun cdv A outer s H vs Q E hr h => ?_), FunD.bindsN F fun _ _ _ _ _ _ us hl => match us, hl with | [_, _], _ => rfl⟩, T.k__law_called, T.g__law_called⟩
  · obtain ⟨_, _, _, _, _, rfl, _⟩ := h
    rfl
  obtain ⟨x, A, c, sx, ns, rfl, hx, hA, hc, k⟩ := h
  refine ⟨_, (pss_cons (ps_if (pt_val (pe_callB call_isi (by rfl) T.z_isinstance (by decide +kernel) (pa_cons (pe_ix ix_list (pv 0) pe_int (fun _ _ => rfl)) (pa_cons (pe_bltn (v := .ty "str") rfl T.z_str (by decide +kernel) rfl) pa_nil))))
      (pss_one (ps_ret (pe_ix ix_list (pv 0) pe_int (fun _ _ => rfl))))
      pss_nil)
    (pss_one (ps_ret (pe_ix ix_list (pv 1) (pe_ix ix_list (pv 0) pe_int (fun _ _ => rfl)) (fun _ _ => rfl))))), ?_⟩
  cases c with
  | nm n =>
    refine ixv 1 rfl hx rfl ⟨.str n, .ty "str", .type "str", .type "str", true, rfl, .ty "str", .base (.str n), by kernel_rfl, true, rfl, ifT rfl ?_⟩
    exact ixv 1 rfl hx rfl k
  | ix j =>
    refine ixv 1 rfl hx rfl ⟨.int ((j : Nat) : Int), .ty "str", .type "int", .type "str", false, rfl, .ty "str", .base (.int _), by kernel_rfl, false, rfl, ifF rfl ?_⟩
    have hj := hc j rfl
    have e : ns[j]? = some (Cl.name ns (.ix j)) := by
      show ns[j]? = some (ns.getD j ⟨#[]⟩)
      simp [List.getD, hj]
    exact ⟨_, rfl, ixv 1 rfl hx rfl ⟨A, _, _, .str (Cl.name ns (.ix j)), rfl, rfl, SqL.of hA, atI_mid e, k⟩⟩
theorem sc_many : FnScope ["_law_items", "_law_many_here", "_law_one"] ["_law_items"] (defScope (top 52)) := ⟨rfl, rfl, rfl, by decide +kernel, rfl, by decide +kernel, by decide +kernel⟩
theorem c_many (T : Txt K mg) : ∀ d : Nat, Cal P w K mg base CX0 (d + 1) "_law_many" ["_law_items"] (spMany K d) := by
  obtain ⟨fd, F⟩ := T.d__law_many
  intro d
  induction d with
  | zero =>
    refine ⟨⟨fd, fn0 F sc_many (fun vs H Q E h => ?_) (fun cdv A outer s H vs Q E hr h => ?_), FunD.bindsN F fun _ _ _ _ _ _ us hl => match us, hl with | [_], _ => rfl⟩, T.k__law_many, T.g__law_many⟩
    · obtain ⟨_, _, _, _, _, rfl, _⟩ := h
      rfl
    · obtain ⟨_, _, _, _, _, _, _, _, hd, _⟩ := h
      exact absurd hd (Nat.not_lt_zero _)
  | succ d ih =>
    have C_many := ih
    refine ⟨⟨fd, fn0 F sc_many (fun vs H Q E h => ?_) (fun cdv A outer s H vs Q E hr h => ?_), FunD.bindsN F fun _ _ _ _ _ _ us hl => match us, hl with | [_], _ => rfl⟩, T.k__law_many, T.g__law_many⟩
    · obtain ⟨_, _, _, _, _, rfl, _⟩ := h
      rfl
    obtain ⟨a, g, l, w, xs, rfl, ha, u, hd, k⟩ := h
    refine ⟨_, (pss_cons (ps_set (i := 1) sc_many.nd rfl (.inl rfl) pe_int)
    (pss_cons (ps_for PassesOwn.never rfl (pi_list (pv 0)) (pg_name (i := 2) sc_many.nd rfl (.inl rfl))
      (pss_cons (ps_if (PW.pt (pw_or (pt_cmpR op_eq (pe_ix ix_list (pv 2) pe_int (fun _ _ => rfl)) pe_str (by rfl)) (pw_or1 (pt_cmpR op_eq (pe_ix ix_list (pv 2) pe_int (fun _ _ => rfl)) pe_str (by rfl)))))
        (pss_one (ps_set (i := 1) sc_many.nd rfl (.inl rfl) (pe_op op_add (pv 1) pe_int)))
        pss_nil)
      (pss_cons (ps_if (pt_cmpR op_eq (pe_ix ix_list (pv 2) pe_int (fun _ _ => rfl)) pe_str (by rfl))
        (pss_one (ps_set (i := 1) sc_many.nd rfl (.inl rfl) (pe_op op_add (pe_op op_add (pe_op op_add (pv 1) pe_int) (pcall C_many (hr.mono (by omega)) rfl pass0 (pa_cons (pe_ix ix_list (pv 2) pe_int (fun _ _ => rfl)) pa_nil))) (pcall C_many (hr.mono (by omega)) rfl pass0 (pa_cons (pe_ix ix_list (pv 2) pe_int (fun _ _ => rfl)) pa_nil)))))
        pss_nil)
      (pss_one (ps_if (pt_cmpR op_eq (pe_ix ix_list (pv 2) pe_int (fun _ _ => rfl)) pe_str (by rfl))
        (pss_one (ps_set (i := 1) sc_many.nd rfl (.inl rfl) (pe_op op_add (pe_op op_add (pv 1) pe_int) (pcall C_many (hr.mono (by omega)) rfl pass0 (pa_cons (pe_ix ix_list (pv 2) pe_int (fun _ _ => rfl)) pa_nil)))))
        pss_nil)))))
    (pss_one (ps_ret (pv 1))))), ?_⟩
    refine ⟨_, rfl, a, rfl, ⟨_, SqL.of ha⟩, ?_⟩
    refine for_list (xs := rf xs) (fun i σ H' => ∃ (m : Nat) (b : Option V) (li : L), σ = [some (.ref a), some (.int ((m : Nat) : Int)), b] ∧ UL g H li w (xs.drop i) ∧ m + rm li = rm l ∧ dp li < d + 1 ∧ H' = H) ?_ ?_ ?_ ?_
    · exact ⟨0, none, l, rfl, u, Nat.zero_add _, hd, rfl⟩
    · rintro i σ H' _ ⟨m, b, li, rfl, _, _, _, rfl⟩
      exact SqL.of ha
    · rintro i x σ H' hx ⟨m, b, li, rfl, u, hm, hdl, rfl⟩
      obtain ⟨y, t, rfl, e0, e1, hlt⟩ := rf_get hx
      rw [e0] at u
      rw [e1]
      cases li with
      | nil => exact absurd u (by show ¬ (_ = _); simp)
      | lv r =>
        obtain ⟨y', t', e, h1, h2, h3⟩ := u
        injection e with e1 e2
        subst e1 e2
        simp only [rm, dp] at hm hdl
        refine wno rfl h2 (by decide +kernel) (ifF rfl ?_)
        refine wno rfl h2 (by decide +kernel) (ifF rfl ?_)
        refine wno rfl h2 (by decide +kernel) (ifF rfl ?_)
        refine wno rfl h2 (by decide +kernel) (ifF rfl ?_)
        exact ⟨m, _, r, rfl, h3, by omega, by omega, rfl⟩
      | bk r =>
        obtain ⟨y', t', e, h1, h2, h3⟩ := u
        injection e with e1 e2
        subst e1 e2
        simp only [rm, dp] at hm hdl
        refine wno rfl h2 (by decide +kernel) (ifF rfl ?_)
        refine wno rfl h2 (by decide +kernel) (ifF rfl ?_)
        refine wno rfl h2 (by decide +kernel) (ifF rfl ?_)
        refine wno rfl h2 (by decide +kernel) (ifF rfl ?_)
        exact ⟨m, _, r, rfl, h3, by omega, by omega, rfl⟩
      | dO n r =>
        obtain ⟨y', t', e, h1, h2, h3⟩ := u
        injection e with e1 e2
        subst e1 e2
        simp only [rm, dp] at hm hdl
        refine wyes rfl h2 rfl (ifT rfl (ifT rfl ?_))
        refine ⟨_, rfl, _, _, rfl, rfl, ?_⟩
        refine wno rfl h2 (by decide +kernel) (ifF rfl ?_)
        refine wno rfl h2 (by decide +kernel) (ifF rfl ?_)
        exact ⟨m + 1, _, r, rfl, h3, by omega, by omega, rfl⟩
      | ca c r =>
        obtain ⟨y', t', e, h1, h2, h3⟩ := u
        injection e with e1 e2
        subst e1 e2
        simp only [rm, dp] at hm hdl
        refine wno rfl h2 (by decide +kernel) (ifF rfl ?_)
        refine wyes rfl h2 rfl (ifT rfl ?_)
        refine ⟨_, rfl, _, _, rfl, rfl, ?_⟩
        refine wno rfl h2 (by decide +kernel) (ifF rfl ?_)
        refine wno rfl h2 (by decide +kernel) (ifF rfl ?_)
        exact ⟨m + 1, _, r, rfl, h3, by omega, by omega, rfl⟩
      | fi n a1 b1 r =>
        obtain ⟨y', t', p, q, ps, qs, e, h1, h2, p1, p2, p3, q1, q2, q3, h3⟩ := u
        injection e with e1 e2
        subst e1 e2
        simp only [rm, dp] at hm hdl
        refine wno rfl h2 (by decide +kernel) (ifF rfl ?_)
        refine wno rfl h2 (by decide +kernel) (ifF rfl ?_)
        refine wyes rfl h2 rfl (ifT rfl ?_)
        refine ⟨_, rfl, _, _, rfl, rfl, ixv 2 rfl h2 rfl ⟨p, g, a1, w, ps, rfl, p2, p3, by omega, _, _, rfl, rfl, ixv 3 rfl h2 rfl ⟨q, g, b1, w, qs, rfl, q2, q3, by omega, _, _, rfl, rfl, ?_⟩⟩⟩
        refine wno rfl h2 (by decide +kernel) (ifF rfl ?_)
        exact ⟨m + 2 + rm a1 + rm b1, _, r, rfl, h3, by omega, by omega, rfl⟩
      | wh n a1 r =>
        obtain ⟨y', t', p, ps, e, h1, h2, p1, p2, p3, h3⟩ := u
        injection e with e1 e2
        subst e1 e2
        simp only [rm, dp] at hm hdl
        refine wno rfl h2 (by decide +kernel) (ifF rfl ?_)
        refine wno rfl h2 (by decide +kernel) (ifF rfl ?_)
        refine wno rfl h2 (by decide +kernel) (ifF rfl ?_)
        refine wyes rfl h2 rfl (ifT rfl ?_)
        refine ⟨_, rfl, _, _, rfl, rfl, ixv 2 rfl h2 rfl ⟨p, g, a1, true, ps, rfl, p2, p3, by omega, _, _, rfl, rfl, ?_⟩⟩
        exact ⟨m + 2 + rm a1, _, r, rfl, h3, by omega, by omega, rfl⟩
    · rintro σ H' ⟨m, b, li, rfl, u, hm, hdl, rfl⟩
      rw [rf_end] at u
      have e : m = rm l := by
        cases li with
        | nil => simp only [rm] at hm; omega
        | lv r => obtain ⟨_, _, z, _⟩ := u; cases z
        | bk r => obtain ⟨_, _, z, _⟩ := u; cases z
        | dO n r => obtain ⟨_, _, z, _⟩ := u; cases z
        | ca c r => obtain ⟨_, _, z, _⟩ := u; cases z
        | fi n a1 b1 r => obtain ⟨_, _, _, _, _, _, z, _⟩ := u; cases z
        | wh n a1 r => obtain ⟨_, _, _, _, z, _⟩ := u; cases z
      rw [e]
      exact ⟨_, rfl, k⟩
theorem sc_things : FnScope ["_law_items", "_law_many_here", "_law_one"] ["_law_items"] (defScope (top 53)) := ⟨rfl, rfl, rfl, by decide +kernel, rfl, by decide +kernel, by decide +kernel⟩
theorem c_things (T : Txt K mg) : ∀ d : Nat, Cal P w K mg base CX0 (d + 1) "_law_things" ["_law_items"] (spThings K d) := by
  obtain ⟨fd, F⟩ := T.d__law_things
  intro d
  induction d with
  | zero =>
    refine ⟨⟨fd, fn0 F sc_things (fun vs H Q E h => ?_) (fun cdv A outer s H vs Q E hr h => ?_), FunD.bindsN F fun _ _ _ _ _ _ us hl => match us, hl with | [_], _ => rfl⟩, T.k__law_things, T.g__law_things⟩
    · obtain ⟨_, _, _, _, _, rfl, _⟩ := h
      rfl
    · obtain ⟨_, _, _, _, _, _, _, _, hd, _⟩ := h
      exact absurd hd (Nat.not_lt_zero _)
  | succ d ih =>
    have C_things := ih
    refine ⟨⟨fd, fn0 F sc_things (fun vs H Q E h => ?_) (fun cdv A outer s H vs Q E hr h => ?_), FunD.bindsN F fun _ _ _ _ _ _ us hl => match us, hl with | [_], _ => rfl⟩, T.k__law_things, T.g__law_things⟩
    · obtain ⟨_, _, _, _, _, rfl, _⟩ := h
      rfl
    obtain ⟨a, g, l, w, xs, rfl, ha, u, hd, k⟩ := h
    refine ⟨_, (pss_cons (ps_set (i := 1) sc_things.nd rfl (.inl rfl) pe_int)
    (pss_cons (ps_for PassesOwn.never rfl (pi_list (pv 0)) (pg_name (i := 2) sc_things.nd rfl (.inl rfl))
      (pss_cons (ps_if (PW.pt (pw_and (pt_cmpR op_ne (pe_ix ix_list (pv 2) pe_int (fun _ _ => rfl)) pe_str (by rfl)) (pw_and1 (pt_cmpR op_ne (pe_ix ix_list (pv 2) pe_int (fun _ _ => rfl)) pe_str (by rfl)))))
        (pss_one (ps_set (i := 1) sc_things.nd rfl (.inl rfl) (pe_op op_add (pv 1) pe_int)))
        pss_nil)
      (pss_cons (ps_if (pt_cmpR op_eq (pe_ix ix_list (pv 2) pe_int (fun _ _ => rfl)) pe_str (by rfl))
        (pss_one (ps_set (i := 1) sc_things.nd rfl (.inl rfl) (pe_op op_add (pe_op op_add (pv 1) (pcall C_things (hr.mono (by omega)) rfl pass0 (pa_cons (pe_ix ix_list (pv 2) pe_int (fun _ _ => rfl)) pa_nil))) (pcall C_things (hr.mono (by omega)) rfl pass0 (pa_cons (pe_ix ix_list (pv 2) pe_int (fun _ _ => rfl)) pa_nil)))))
        pss_nil)
      (pss_one (ps_if (pt_cmpR op_eq (pe_ix ix_list (pv 2) pe_int (fun _ _ => rfl)) pe_str (by rfl))
        (pss_one (ps_set (i := 1) sc_things.nd rfl (.inl rfl) (pe_op op_add (pv 1) (pcall C_things (hr.mono (by omega)) rfl pass0 (pa_cons (pe_ix ix_list (pv 2) pe_int (fun _ _ => rfl)) pa_nil)))))
        pss_nil)))))
    (pss_one (ps_ret (pv 1))))), ?_⟩
    refine ⟨_, rfl, a, rfl, ⟨_, SqL.of ha⟩, ?_⟩
    refine for_list (xs := rf xs) (fun i σ H' => ∃ (m : Nat) (b : Option V) (li : L), σ = [some (.ref a), some (.int ((m : Nat) : Int)), b] ∧ UL g H li w (xs.drop i) ∧ m + things li = things l ∧ dp li < d + 1 ∧ H' = H) ?_ ?_ ?_ ?_
    · exact ⟨0, none, l, rfl, u, Nat.zero_add _, hd, rfl⟩
    · rintro i σ H' _ ⟨m, b, li, rfl, _, _, _, rfl⟩
      exact SqL.of ha
    · rintro i x σ H' hx ⟨m, b, li, rfl, u, hm, hdl, rfl⟩
      obtain ⟨y, t, rfl, e0, e1, hlt⟩ := rf_get hx
      rw [e0] at u
      rw [e1]
      cases li with
      | nil => exact absurd u (by show ¬ (_ = _); simp)
      | lv r =>
        obtain ⟨y', t', e, h1, h2, h3⟩ := u
        injection e with e1 e2
        subst e1 e2
        simp only [things, dp] at hm hdl
        refine nyes rfl h2 rfl (ifF rfl (ifF rfl ?_))
        refine wno rfl h2 (by decide +kernel) (ifF rfl ?_)
        refine wno rfl h2 (by decide +kernel) (ifF rfl ?_)
        exact ⟨m, _, r, rfl, h3, by omega, by omega, rfl⟩
      | bk r =>
        obtain ⟨y', t', e, h1, h2, h3⟩ := u
        injection e with e1 e2
        subst e1 e2
        simp only [things, dp] at hm hdl
        refine nno rfl h2 (by decide +kernel) (ifT rfl ?_)
        refine nyes rfl h2 rfl (ifF rfl ?_)
        refine wno rfl h2 (by decide +kernel) (ifF rfl ?_)
        refine wno rfl h2 (by decide +kernel) (ifF rfl ?_)
        exact ⟨m, _, r, rfl, h3, by omega, by omega, rfl⟩
      | dO n r =>
        obtain ⟨y', t', e, h1, h2, h3⟩ := u
        injection e with e1 e2
        subst e1 e2
        simp only [things, dp] at hm hdl
        refine nno rfl h2 (by decide +kernel) (ifT rfl ?_)
        refine nno rfl h2 (by decide +kernel) (ifT rfl ?_)
        refine ⟨_, rfl, _, _, rfl, rfl, ?_⟩
        refine wno rfl h2 (by decide +kernel) (ifF rfl ?_)
        refine wno rfl h2 (by decide +kernel) (ifF rfl ?_)
        exact ⟨m + 1, _, r, rfl, h3, by omega, by omega, rfl⟩
      | ca c r =>
        obtain ⟨y', t', e, h1, h2, h3⟩ := u
        injection e with e1 e2
        subst e1 e2
        simp only [things, dp] at hm hdl
        refine nno rfl h2 (by decide +kernel) (ifT rfl ?_)
        refine nno rfl h2 (by decide +kernel) (ifT rfl ?_)
        refine ⟨_, rfl, _, _, rfl, rfl, ?_⟩
        refine wno rfl h2 (by decide +kernel) (ifF rfl ?_)
        refine wno rfl h2 (by decide +kernel) (ifF rfl ?_)
        exact ⟨m + 1, _, r, rfl, h3, by omega, by omega, rfl⟩
      | fi n a1 b1 r =>
        obtain ⟨y', t', p, q, ps, qs, e, h1, h2, p1, p2, p3, q1, q2, q3, h3⟩ := u
        injection e with e1 e2
        subst e1 e2
        simp only [things, dp] at hm hdl
        refine nno rfl h2 (by decide +kernel) (ifT rfl ?_)
        refine nno rfl h2 (by decide +kernel) (ifT rfl ?_)
        refine ⟨_, rfl, _, _, rfl, rfl, ?_⟩
        refine wyes rfl h2 rfl (ifT rfl ?_)
        refine ⟨_, rfl, ixv 2 rfl h2 rfl ⟨p, g, a1, w, ps, rfl, p2, p3, by omega, _, _, rfl, rfl, ixv 3 rfl h2 rfl ⟨q, g, b1, w, qs, rfl, q2, q3, by omega, _, _, rfl, rfl, ?_⟩⟩⟩
        refine wno rfl h2 (by decide +kernel) (ifF rfl ?_)
        exact ⟨m + 1 + things a1 + things b1, _, r, rfl, h3, by omega, by omega, rfl⟩
      | wh n a1 r =>
        obtain ⟨y', t', p, ps, e, h1, h2, p1, p2, p3, h3⟩ := u
        injection e with e1 e2
        subst e1 e2
        simp only [things, dp] at hm hdl
        refine nno rfl h2 (by decide +kernel) (ifT rfl ?_)
        refine nno rfl h2 (by decide +kernel) (ifT rfl ?_)
        refine ⟨_, rfl, _, _, rfl, rfl, ?_⟩
        refine wno rfl h2 (by decide +kernel) (ifF rfl ?_)
        refine wyes rfl h2 rfl (ifT rfl ?_)
        refine ⟨_, rfl, ixv 2 rfl h2 rfl ⟨p, g, a1, true, ps, rfl, p2, p3, by omega, _, _, rfl, rfl, ?_⟩⟩
        exact ⟨m + 1 + things a1, _, r, rfl, h3, by omega, by omega, rfl⟩
    · rintro σ H' ⟨m, b, li, rfl, u, hm, hdl, rfl⟩
      rw [rf_end] at u
      have e : m = things l := by
        cases li with
        | nil => simp only [things] at hm; omega
        | lv r => obtain ⟨_, _, z, _⟩ := u; cases z
        | bk r => obtain ⟨_, _, z, _⟩ := u; cases z
        | dO n r => obtain ⟨_, _, z, _⟩ := u; cases z
        | ca c r => obtain ⟨_, _, z, _⟩ := u; cases z
        | fi n a1 b1 r => obtain ⟨_, _, _, _, _, _, z, _⟩ := u; cases z
        | wh n a1 r => obtain ⟨_, _, _, _, z, _⟩ := u; cases z
      rw [e]
      exact ⟨_, rfl, k⟩
end
end Fc

set_option Elab.async false
set_option linter.all false
set_option maxRecDepth 100000
set_option maxHeartbeats 4000000
namespace Fc
open PySem PySem.Spec PyProof.Rows L2 He
theorem catS2 {H H' : Hp} {p q : Addr} {acc ys : List Str} {Q : VK} (s : Same H H') (h : H' p = some (.lst (sS acc))) (hq : H' q = some (.lst (sS ys))) (len : acc.length + ys.length < 1000000)
    (k : ∀ r H'', H r = none → Same H H'' → H'' r = some (.lst (sS (acc ++ ys))) → Q (.ref r) H'') : rCat (.ref p) (.ref q) H' Q := by
  refine ⟨p, q, _, _, rfl, rfl, h, hq, by rw [sS_len, sS_len]; exact sz (Nat.le_of_lt len), fun r hr => ?_⟩
  rw [← sS_app]
  exact k r _ (s.free hr) (s.trans (same_new hr _)) upd_same
theorem catS {H H' : Hp} {p q : Addr} {acc ys : List Str} {Q : VK} (s : Same H H') (h : H' p = some (.lst (sS acc))) (hq : H' q = none) (len : acc.length + ys.length < 1000000)
    (k : ∀ r H'', H r = none → Same H H'' → H'' r = some (.lst (sS (acc ++ ys))) → Q (.ref r) H'') : rCat (.ref p) (.ref q) (upd H' q (.lst (sS ys))) Q :=
  catS2 (s.trans (same_new hq _)) (by rw [upd_ne (ne_of_none h hq)]; exact h) upd_same len k
theorem ul_nil {g : Addr → Nat} {H : Hp} {w : Bool} {li : L} (u : UL g H li w []) : li = .nil := by
  cases li with
  | nil => rfl
  | lv r => obtain ⟨_, _, z, _⟩ := u; cases z
  | bk r => obtain ⟨_, _, z, _⟩ := u; cases z
  | dO n r => obtain ⟨_, _, z, _⟩ := u; cases z
  | ca c r => obtain ⟨_, _, z, _⟩ := u; cases z
  | fi n a1 b1 r => obtain ⟨_, _, _, _, _, _, z, _⟩ := u; cases z
  | wh n a1 r => obtain ⟨_, _, _, _, z, _⟩ := u; cases z
section
variable {P : Program} {w : World} {K : PySem.W.Frag} {mg : Str → Option Value} {base : Heap}
theorem sc_passes : FnScope ["_law_items", "_law_one"] ["_law_items"] (defScope (top 40)) := ⟨rfl, rfl, rfl, by decide +kernel, rfl, by decide +kernel, by decide +kernel⟩
theorem c_passes (T : Txt K mg) : ∀ d : Nat, Cal P w K mg base CX0 (d + 1) "_law_passes" ["_law_items"] (spPasses K d) := by
  obtain ⟨fd, F⟩ := T.d__law_passes
  intro d
  induction d with
  | zero =>
    refine ⟨⟨fd, fn0 F sc_passes (fun vs H Q E h => ?_) (fun cdv A outer s H vs Q E hr h => ?_), FunD.bindsN F fun _ _ _ _ _ _ us hl => match us, hl with | [_], _ => rfl⟩, T.k__law_passes, T.g__law_passes⟩
    · obtain ⟨_, _, _, _, _, rfl, _⟩ := h
      rfl
    · obtain ⟨_, _, _, _, _, _, _, _, hd, _⟩ := h
      exact absurd hd (Nat.not_lt_zero _)
  | succ d ih =>
    have C_passes := ih
    refine ⟨⟨fd, fn0 F sc_passes (fun vs H Q E h => ?_) (fun cdv A outer s H vs Q E hr h => ?_), FunD.bindsN F fun _ _ _ _ _ _ us hl => match us, hl with | [_], _ => rfl⟩, T.k__law_passes, T.g__law_passes⟩
    · obtain ⟨_, _, _, _, _, rfl, _⟩ := h
      rfl
    obtain ⟨a, g, l, w, xs, rfl, ha, u, hd, k⟩ := h
    refine ⟨_, (pss_cons (ps_for PassesOwn.never rfl (pi_list (pv 0)) (pg_name (i := 1) sc_passes.nd rfl (.inl rfl))
      (pss_cons (ps_if (PW.pt (pw_or (pt_cmpR op_eq (pe_ix ix_list (pv 1) pe_int (fun _ _ => rfl)) pe_str (by rfl)) (pw_or1 (pt_cmpR op_eq (pe_ix ix_list (pv 1) pe_int (fun _ _ => rfl)) pe_str (by rfl)))))
        (pss_one (ps_ret pe_bl))
        pss_nil)
      (pss_one (ps_if (PW.pt (pw_and (pt_cmpR op_eq (pe_ix ix_list (pv 1) pe_int (fun _ _ => rfl)) pe_str (by rfl)) (pw_and (pt_not (pt_val (pcall C_passes (hr.mono (by omega)) rfl pass0 (pa_cons (pe_ix ix_list (pv 1) pe_int (fun _ _ => rfl)) pa_nil)))) (pw_and1 (pt_not (pt_val (pcall C_passes (hr.mono (by omega)) rfl pass0 (pa_cons (pe_ix ix_list (pv 1) pe_int (fun _ _ => rfl)) pa_nil))))))))
        (pss_one (ps_ret pe_bl))
        pss_nil))))
    (pss_one (ps_ret pe_bl))), ?_⟩
    refine ⟨_, rfl, a, rfl, ⟨_, SqL.of ha⟩, ?_⟩
    refine for_list (xs := rf xs) (fun i σ H' => ∃ (b : Option V) (li : L), σ = [some (.ref a), b] ∧ UL g H li w (xs.drop i) ∧ dp li < d + 1 ∧ H' = H) ?_ ?_ ?_ ?_
    · exact ⟨none, l, rfl, u, hd, rfl⟩
    · rintro i σ H' _ ⟨b, li, rfl, _, _, rfl⟩
      exact SqL.of ha
    · rintro i x σ H' hx ⟨b, li, rfl, u1, hdl, rfl⟩
      obtain ⟨y, t, rfl, e0, e1, hlt⟩ := rf_get hx
      have hne : l ≠ .nil := fun z => by
        rw [z] at u
        rw [show xs = [] from u] at hlt
        exact absurd hlt (Nat.not_lt_zero _)
      rw [e0] at u1
      rw [e1]
      cases li with
      | nil => exact absurd u1 (by show ¬ (_ = _); simp)
      | lv r =>
        obtain ⟨y', t', e, h1, h2, h3⟩ := u1
        injection e with e1 e2
        subst e1 e2
        simp only [dp] at hdl
        refine wyes rfl h2 rfl (ifT rfl (ifT rfl ?_))
        exact k false fun z => absurd z hne
      | bk r =>
        obtain ⟨y', t', e, h1, h2, h3⟩ := u1
        injection e with e1 e2
        subst e1 e2
        simp only [dp] at hdl
        refine wno rfl h2 (by decide +kernel) (ifF rfl ?_)
        refine wyes rfl h2 rfl (ifT rfl ?_)
        exact k false fun z => absurd z hne
      | dO n r =>
        obtain ⟨y', t', e, h1, h2, h3⟩ := u1
        injection e with e1 e2
        subst e1 e2
        simp only [dp] at hdl
        refine wno rfl h2 (by decide +kernel) (ifF rfl ?_)
        refine wno rfl h2 (by decide +kernel) (ifF rfl ?_)
        refine wno rfl h2 (by decide +kernel) (ifF rfl (ifF rfl ?_))
        exact ⟨_, r, rfl, h3, by omega, rfl⟩
      | ca c r =>
        obtain ⟨y', t', e, h1, h2, h3⟩ := u1
        injection e with e1 e2
        subst e1 e2
        simp only [dp] at hdl
        refine wno rfl h2 (by decide +kernel) (ifF rfl ?_)
        refine wno rfl h2 (by decide +kernel) (ifF rfl ?_)
        refine wno rfl h2 (by decide +kernel) (ifF rfl (ifF rfl ?_))
        exact ⟨_, r, rfl, h3, by omega, rfl⟩
      | fi n a1 b1 r =>
        obtain ⟨y', t', p1, q1, ps, qs, e, h1, h2, p2, p3, p4, q2, q3, q4, h3⟩ := u1
        injection e with e1 e2
        subst e1 e2
        simp only [dp] at hdl
        refine wno rfl h2 (by decide +kernel) (ifF rfl ?_)
        refine wno rfl h2 (by decide +kernel) (ifF rfl ?_)
        refine wyes rfl h2 rfl (ifT rfl ?_)
        refine ixv 2 rfl h2 rfl ⟨p1, g, a1, w, ps, rfl, p3, p4, by omega, fun b1 _ => ⟨b1, rfl, ?_⟩⟩
        cases b1 with
        | true => exact ⟨_, r, rfl, h3, by omega, rfl⟩
        | false =>
          refine ixv 3 rfl h2 rfl ⟨q1, g, _, w, qs, rfl, q3, q4, by omega, fun b2 _ => ⟨b2, rfl, ?_⟩⟩
          cases b2 with
          | true => exact ⟨_, r, rfl, h3, by omega, rfl⟩
          | false => exact k false fun z => absurd z hne
      | wh n a1 r =>
        obtain ⟨y', t', p1, ps, e, h1, h2, p2, p3, p4, h3⟩ := u1
        injection e with e1 e2
        subst e1 e2
        simp only [dp] at hdl
        refine wno rfl h2 (by decide +kernel) (ifF rfl ?_)
        refine wno rfl h2 (by decide +kernel) (ifF rfl ?_)
        refine wno rfl h2 (by decide +kernel) (ifF rfl (ifF rfl ?_))
        exact ⟨_, r, rfl, h3, by omega, rfl⟩
    · rintro σ H' ⟨b, li, rfl, u1, hdl, rfl⟩
      exact k true fun _ => rfl
theorem sc_words : FnScope ["_law_items", "_law_names", "_law_words_here", "_law_one"] ["_law_items", "_law_names"] (defScope (top 45)) := ⟨rfl, rfl, rfl, by decide +kernel, rfl, by decide +kernel, by decide +kernel⟩
theorem c_words (T : Txt K mg) : ∀ d : Nat, Cal P w K mg base CX0 (d + 2) "_law_words" ["_law_items", "_law_names"] (spWords K d) := by
  obtain ⟨fd, F⟩ := T.d__law_words
  intro d
  induction d with
  | zero =>
    refine ⟨⟨fd, fn0 F sc_words (fun vs H Q E h => ?_) (fun cdv A outer s H vs Q E hr h => ?_), FunD.bindsN F fun _ _ _ _ _ _ us hl => match us, hl with | [_, _], _ => rfl⟩, T.k__law_words, T.g__law_words⟩
    · obtain ⟨_, _, _, _, _, _, _, rfl, _⟩ := h
      rfl
    · obtain ⟨_, _, _, _, _, _, _, _, _, _, _, _, hd, _⟩ := h
      exact absurd hd (Nat.not_lt_zero _)
  | succ d ih =>
    have C_words := ih
    refine ⟨⟨fd, fn0 F sc_words (fun vs H Q E h => ?_) (fun cdv A outer s H vs Q E hr h => ?_), FunD.bindsN F fun _ _ _ _ _ _ us hl => match us, hl with | [_, _], _ => rfl⟩, T.k__law_words, T.g__law_words⟩
    · obtain ⟨_, _, _, _, _, _, _, rfl, _⟩ := h
      rfl
    obtain ⟨a, A, ns, g, l, lw, xs, rfl, ha, hA, u, hw, hd, hl, k⟩ := h
    have C_called : Cal P w K mg base CX0 1 "_law_called" ["_law_one", "_law_names"] (spCalled K) := c_called T
    refine ⟨_, (pss_cons (ps_set (i := 2) sc_words.nd rfl (.inl rfl) (pe_lst pa_nil))
    (pss_cons (ps_for PassesOwn.never rfl (pi_list (pv 0)) (pg_name (i := 3) sc_words.nd rfl (.inl rfl))
      (pss_one (ps_if (pt_cmpR op_eq (pe_ix ix_list (pv 3) pe_int (fun _ _ => rfl)) pe_str (by rfl))
        (pss_one (ps_set (i := 2) sc_words.nd rfl (.inl rfl) (pe_op op_cat (pv 2) (pe_lst (pa_cons pe_str (pa_cons (pe_ix ix_list (pv 3) pe_int (fun _ _ => rfl)) pa_nil))))))
        (pss_one (ps_if (pt_cmpR op_eq (pe_ix ix_list (pv 3) pe_int (fun _ _ => rfl)) pe_str (by rfl))
          (pss_one (ps_set (i := 2) sc_words.nd rfl (.inl rfl) (pe_op op_cat (pv 2) (pe_lst (pa_cons pe_str (pa_cons (pcall C_called (hr.mono (by omega)) rfl pass0 (pa_cons (pv 3) (pa_cons (pv 1) pa_nil))) pa_nil))))))
          (pss_one (ps_if (pt_cmpR op_eq (pe_ix ix_list (pv 3) pe_int (fun _ _ => rfl)) pe_str (by rfl))
            (pss_cons (ps_set (i := 2) sc_words.nd rfl (.inl rfl) (pe_op op_cat (pe_op op_cat (pe_op op_cat (pv 2) (pe_lst (pa_cons pe_str (pa_cons (pe_ix ix_list (pv 3) pe_int (fun _ _ => rfl)) pa_nil)))) (pcall C_words (hr.mono (by omega)) rfl pass0 (pa_cons (pe_ix ix_list (pv 3) pe_int (fun _ _ => rfl)) (pa_cons (pv 1) pa_nil)))) (pe_lst (pa_cons pe_str pa_nil))))
            (pss_one (ps_set (i := 2) sc_words.nd rfl (.inl rfl) (pe_op op_cat (pe_op op_cat (pv 2) (pcall C_words (hr.mono (by omega)) rfl pass0 (pa_cons (pe_ix ix_list (pv 3) pe_int (fun _ _ => rfl)) (pa_cons (pv 1) pa_nil)))) (pe_lst (pa_cons pe_str pa_nil))))))
            (pss_one (ps_if (pt_cmpR op_eq (pe_ix ix_list (pv 3) pe_int (fun _ _ => rfl)) pe_str (by rfl))
              (pss_one (ps_set (i := 2) sc_words.nd rfl (.inl rfl) (pe_op op_cat (pe_op op_cat (pe_op op_cat (pv 2) (pe_lst (pa_cons pe_str (pa_cons (pe_ix ix_list (pv 3) pe_int (fun _ _ => rfl)) pa_nil)))) (pcall C_words (hr.mono (by omega)) rfl pass0 (pa_cons (pe_ix ix_list (pv 3) pe_int (fun _ _ => rfl)) (pa_cons (pv 1) pa_nil)))) (pe_lst (pa_cons pe_str pa_nil)))))
              (pss_one (ps_expr (pe_bm PySem.F.plainAttrs_list PySem.F.slot_list_append PySem.F.type_list_append mt_append (pv 2) (pa_cons (pe_ix ix_list (pv 3) pe_int (fun _ _ => rfl)) pa_nil)))))))))))))
    (pss_one (ps_ret (pv 2))))), ?_⟩
    refine ⟨Nat.zero_le _, fun p0 hp0 => ?_⟩
    have s0 := same_new hp0 (.lst [])
    refine ⟨_, rfl, a, rfl, ⟨_, SqL.of (s0 _ _ ha)⟩, ?_⟩
    have total := wds_len ns l
    refine for_list (xs := rf xs) (fun i σ H' => ∃ (p : Addr) (acc : List Str) (b : Option V) (li : L), σ = [some (.ref a), some (.ref A), some (.ref p), b] ∧ Same H H' ∧ H p = none ∧ H' p = some (.lst (sS acc)) ∧ UL g H li lw (xs.drop i) ∧ acc ++ wds ns li = wds ns l ∧ Wf ns.length li lw ∧ dp li < d + 1) ?_ ?_ ?_ ?_
    · exact ⟨p0, [], none, l, rfl, s0, hp0, upd_same, u, rfl, hw, hd⟩
    · rintro i σ H' _ ⟨p, acc, b, li, rfl, s1, _⟩
      exact SqL.of (s1 _ _ ha)
    · rintro i x σ H' hx ⟨p, acc, b, li, rfl, s1, hp0, hp, u, ea, hw, hdl⟩
      obtain ⟨y, t, rfl, e0, e1, hlt⟩ := rf_get hx
      rw [e0] at u
      rw [e1]
      cases li with
      | nil => exact absurd u (by show ¬ (_ = _); simp)
      | lv r =>
        obtain ⟨y', t', e, h1, h2, h3⟩ := u
        injection e with e1 e2
        subst e1 e2
        have h2' := s1 _ _ h2
        simp only [dp] at hdl
        simp only [Wf] at hw
        simp only [wds] at ea
        have lens := congrArg List.length ea
        simp only [List.length_append, List.length_cons, wds_len] at lens
        refine wno rfl h2' (by decide +kernel) (ifF rfl ?_)
        refine wno rfl h2' (by decide +kernel) (ifF rfl ?_)
        refine wno rfl h2' (by decide +kernel) (ifF rfl ?_)
        refine wno rfl h2' (by decide +kernel) (ifF rfl ?_)
        refine ⟨_, rfl, .inl ⟨rfl, _, SqL.of hp⟩, ixv 0 rfl h2' rfl ⟨p, _, _, rfl, rfl, hp, (by rw [sS_len]; exact szl (by omega)), ?_⟩⟩
        have e5 : sS acc ++ [V.str wLeave] = sS (acc ++ [wLeave]) := by rw [sS_app] <;> rfl
        rw [e5]
        exact ⟨p, acc ++ [wLeave], _, r, rfl, same_upd s1 hp0, hp0, upd_same, h3, by rw [← ea]; simp, hw.2, by omega⟩
      | bk r =>
        obtain ⟨y', t', e, h1, h2, h3⟩ := u
        injection e with e1 e2
        subst e1 e2
        have h2' := s1 _ _ h2
        simp only [dp] at hdl
        simp only [Wf] at hw
        simp only [wds] at ea
        have lens := congrArg List.length ea
        simp only [List.length_append, List.length_cons, wds_len] at lens
        refine wno rfl h2' (by decide +kernel) (ifF rfl ?_)
        refine wno rfl h2' (by decide +kernel) (ifF rfl ?_)
        refine wno rfl h2' (by decide +kernel) (ifF rfl ?_)
        refine wno rfl h2' (by decide +kernel) (ifF rfl ?_)
        refine ⟨_, rfl, .inl ⟨rfl, _, SqL.of hp⟩, ixv 0 rfl h2' rfl ⟨p, _, _, rfl, rfl, hp, (by rw [sS_len]; exact szl (by omega)), ?_⟩⟩
        have e5 : sS acc ++ [V.str wBack] = sS (acc ++ [wBack]) := by rw [sS_app] <;> rfl
        rw [e5]
        exact ⟨p, acc ++ [wBack], _, r, rfl, same_upd s1 hp0, hp0, upd_same, h3, by rw [← ea]; simp, hw, by omega⟩
      | dO n r =>
        obtain ⟨y', t', e, h1, h2, h3⟩ := u
        injection e with e1 e2
        subst e1 e2
        have h2' := s1 _ _ h2
        simp only [dp] at hdl
        simp only [Wf] at hw
        simp only [wds] at ea
        have lens := congrArg List.length ea
        simp only [List.length_append, List.length_cons, wds_len] at lens
        refine wyes rfl h2' rfl (ifT rfl ?_)
        refine ⟨_, rfl, ixv 1 rfl h2' rfl ⟨(by show 2 ≤ sizeLine; decide), fun q hq => ?_⟩⟩
        refine catS (ys := [wDo, n]) s1 hp hq (by show acc.length + 2 < _; omega) fun r1 H2 hr1 s2 e2 => ?_
        exact ⟨r1, acc ++ [wDo, n], _, r, rfl, s2, hr1, e2, h3, by rw [← ea]; simp, hw.2, by omega⟩
      | ca c r =>
        obtain ⟨y', t', e, h1, h2, h3⟩ := u
        injection e with e1 e2
        subst e1 e2
        have h2' := s1 _ _ h2
        simp only [dp] at hdl
        simp only [Wf] at hw
        simp only [wds] at ea
        have lens := congrArg List.length ea
        simp only [List.length_append, List.length_cons, wds_len] at lens
        refine wno rfl h2' (by decide +kernel) (ifF rfl ?_)
        refine wyes rfl h2' rfl (ifT rfl ?_)
        refine ⟨_, rfl, _, rfl, _, rfl, _, A, c, wCall, ns, rfl, h2', s1 _ _ hA, (fun i e => by rw [e] at hw; exact hw.1), ⟨(by show 2 ≤ sizeLine; decide), fun q hq => ?_⟩⟩
        refine catS (ys := [wCall, c.name ns]) s1 hp hq (by show acc.length + 2 < _; omega) fun r1 H2 hr1 s2 e2 => ?_
        exact ⟨r1, acc ++ [wCall, c.name ns], _, r, rfl, s2, hr1, e2, h3, by rw [← ea]; simp, hw.2, by omega⟩
      | fi n a1 b1 r =>
        obtain ⟨y', t', p1, q1, ps, qs, e, h1, h2, p2, p3, p4, q2, q3, q4, h3⟩ := u
        injection e with e1 e2
        subst e1 e2
        have h2' := s1 _ _ h2
        simp only [dp] at hdl
        simp only [Wf] at hw
        simp only [wds] at ea
        have lens := congrArg List.length ea
        simp only [List.length_append, List.length_cons, wds_len] at lens
        refine wno rfl h2' (by decide +kernel) (ifF rfl ?_)
        refine wno rfl h2' (by decide +kernel) (ifF rfl ?_)
        refine wyes rfl h2' rfl (ifT rfl ?_)
        refine ⟨_, rfl, ixv 1 rfl h2' rfl ⟨(by show 2 ≤ sizeLine; decide), fun q hq => ?_⟩⟩
        refine catS (ys := [wIf, n]) s1 hp hq (by show acc.length + 2 < _; omega) fun r1 H2 hr1 s2 e2 => ?_
        refine ixv 2 rfl (s2 _ _ h2) rfl ⟨_, rfl, p1, A, ns, g, a1, lw, ps, rfl, s2 _ _ p3, s2 _ _ hA, p4.mono (Kp.of s2), hw.2.1, by omega, by omega, fun H3 q3' s3 hq3 e3 => ?_⟩
        refine catS2 (s2.trans s3) (s3 _ _ e2) e3 (by simp only [List.length_append, List.length_cons, List.length_nil, wds_len]; omega) fun r2 H4 hr2 s4 e4 => ?_
        refine ⟨(by show 1 ≤ sizeLine; decide), fun q hq => ?_⟩
        refine catS (ys := [wElse]) s4 e4 hq (by simp only [List.length_append, List.length_cons, List.length_nil, wds_len]; omega) fun r3 H5 hr3 s5 e5 => ?_
        refine ⟨_, rfl, ixv 3 rfl (s5 _ _ h2) rfl ⟨_, rfl, q1, A, ns, g, b1, lw, qs, rfl, s5 _ _ q3, s5 _ _ hA, q4.mono (Kp.of s5), hw.2.2.1, by omega, by omega, fun H6 q6 s6 hq6 e6 => ?_⟩⟩
        refine catS2 (s5.trans s6) (s6 _ _ e5) e6 (by simp only [List.length_append, List.length_cons, List.length_nil, wds_len]; omega) fun r4 H7 hr4 s7 e7 => ?_
        refine ⟨(by show 1 ≤ sizeLine; decide), fun q hq => ?_⟩
        refine catS (ys := [wEnd]) s7 e7 hq (by simp only [List.length_append, List.length_cons, List.length_nil, wds_len]; omega) fun r5 H8 hr5 s8 e8 => ?_
        exact ⟨r5, _, _, r, rfl, s8, hr5, e8, h3, by rw [← ea]; simp, hw.2.2.2, by omega⟩
      | wh n a1 r =>
        obtain ⟨y', t', p1, ps, e, h1, h2, p2, p3, p4, h3⟩ := u
        injection e with e1 e2
        subst e1 e2
        have h2' := s1 _ _ h2
        simp only [dp] at hdl
        simp only [Wf] at hw
        simp only [wds] at ea
        have lens := congrArg List.length ea
        simp only [List.length_append, List.length_cons, wds_len] at lens
        refine wno rfl h2' (by decide +kernel) (ifF rfl ?_)
        refine wno rfl h2' (by decide +kernel) (ifF rfl ?_)
        refine wno rfl h2' (by decide +kernel) (ifF rfl ?_)
        refine wyes rfl h2' rfl (ifT rfl ?_)
        refine ⟨_, rfl, ixv 1 rfl h2' rfl ⟨(by show 2 ≤ sizeLine; decide), fun q hq => ?_⟩⟩
        refine catS (ys := [wWhile, n]) s1 hp hq (by show acc.length + 2 < _; omega) fun r1 H2 hr1 s2 e2 => ?_
        refine ixv 2 rfl (s2 _ _ h2) rfl ⟨_, rfl, p1, A, ns, g, a1, true, ps, rfl, s2 _ _ p3, s2 _ _ hA, p4.mono (Kp.of s2), hw.2.1, by omega, by omega, fun H3 q3 s3 hq3 e3 => ?_⟩
        refine catS2 (s2.trans s3) (s3 _ _ e2) e3 (by simp only [List.length_append, List.length_cons, List.length_nil, wds_len]; omega) fun r2 H4 hr2 s4 e4 => ?_
        refine ⟨(by show 1 ≤ sizeLine; decide), fun q hq => ?_⟩
        refine catS (ys := [wEnd]) s4 e4 hq (by simp only [List.length_append, List.length_cons, List.length_nil, wds_len]; omega) fun r3 H5 hr3 s5 e5 => ?_
        exact ⟨r3, _, _, r, rfl, s5, hr3, e5, h3, by rw [← ea]; simp, hw.2.2, by omega⟩
    · rintro σ H' ⟨p, acc, b, li, rfl, s1, hp0, hp, u, ea, hw, hdl⟩
      rw [rf_end] at u
      rw [ul_nil u] at ea
      have e : acc = wds ns l := by
        rw [← ea]
        simp [wds]
      rw [e] at hp
      exact ⟨_, rfl, k _ p s1 hp0 hp⟩
end
end Fc

set_option Elab.async false
set_option linter.all false
set_option maxRecDepth 100000
set_option maxHeartbeats 4000000
namespace Fc
open PySem PySem.Spec PyProof.Rows L2 He
/-! the law: its text -/
abbrev DM : Nat := 12
theorem nm_kw : Nm wPart ∧ Nm wEnd ∧ Nm wDo ∧ Nm wCall ∧ Nm wIf ∧ Nm wElse ∧ Nm wWhile ∧ Nm wLeave ∧ Nm wBack := by
  unfold Nm
  decide +kernel
theorem wds_nm {ns : List Str} (hn : ∀ n ∈ ns, Nm n) : ∀ {l : L} {w : Bool}, Wf ns.length l w → ∀ x ∈ wds ns l, Nm x := by
  obtain ⟨k1, k2, k3, k4, k5, k6, k7, k8, k9⟩ := nm_kw
  intro l
  induction l with
  | nil => intro w _ x hx; exact absurd hx (by simp [wds])
  | lv r ih =>
    rintro w ⟨_, h⟩ x hx
    simp only [wds, List.mem_cons] at hx
    rcases hx with rfl | hx
    · exact k8
    · exact ih h x hx
  | bk r ih =>
    intro w h x hx
    simp only [wds, List.mem_cons] at hx
    rcases hx with rfl | hx
    · exact k9
    · exact ih h x hx
  | dO n r ih =>
    rintro w ⟨h0, h⟩ x hx
    simp only [wds, List.mem_cons] at hx
    rcases hx with rfl | rfl | hx
    · exact k3
    · exact h0
    · exact ih h x hx
  | ca c r ih =>
    rintro w ⟨h0, h⟩ x hx
    simp only [wds, List.mem_cons] at hx
    rcases hx with rfl | rfl | hx
    · exact k4
    · exact Cl.ok rfl hn c h0
    · exact ih h x hx
  | fi n a b r iha ihb ihr =>
    rintro w ⟨h0, h1, h2, h3⟩ x hx
    simp only [wds, List.mem_cons, List.mem_append] at hx
    rcases hx with rfl | rfl | hx | rfl | hx | rfl | hx
    · exact k5
    · exact h0
    · exact iha h1 x hx
    · exact k6
    · exact ihb h2 x hx
    · exact k2
    · exact ihr h3 x hx
  | wh n a r iha ihr =>
    rintro w ⟨h0, h1, h3⟩ x hx
    simp only [wds, List.mem_cons, List.mem_append] at hx
    rcases hx with rfl | rfl | hx | rfl | hx
    · exact k7
    · exact h0
    · exact iha h1 x hx
    · exact k2
    · exact ihr h3 x hx
theorem pwds_nm {ns : List Str} (hn : ∀ n ∈ ns, Nm n) : ∀ {ps : List (Str × L)}, (∀ p ∈ ps, Nm p.1 ∧ Wf ns.length p.2 false) → ∀ x ∈ pwds ns ps, Nm x := by
  obtain ⟨k1, k2, _⟩ := nm_kw
  intro ps
  induction ps with
  | nil => intro _ x hx; exact absurd hx (by simp [pwds])
  | cons p r ih =>
    intro h x hx
    simp only [pwds, List.mem_cons, List.mem_append] at hx
    have h0 := h p (List.mem_cons_self ..)
    rcases hx with rfl | rfl | hx | rfl | hx
    · exact k1
    · exact h0.1
    · exact wds_nm hn h0.2 x hx
    · exact k2
    · exact ih (fun q hq => h q (List.mem_cons_of_mem _ hq)) x hx
theorem joinX_len (S : List Nat) : ∀ l : List (List Nat), (TL.joinL S l).length ≤ (l.map List.length).sum + l.length * S.length
  | [] => Nat.zero_le _
  | [p] => by show p.length ≤ _; simp
  | p :: q :: r => by
    have z := joinX_len S (q :: r)
    show (p ++ (S ++ TL.joinL S (q :: r))).length ≤ _
    simp only [List.length_append, List.map_cons, List.sum_cons, List.length_cons] at z ⊢
    have e : (r.length + 1 + 1) * S.length = (r.length + 1) * S.length + S.length := by rw [Nat.succ_mul]
    omega
theorem sum_len {ws : List Str} (h : ∀ x ∈ ws, Nm x) : (ws.map (·.length)).sum ≤ 8 * ws.length := by
  induction ws with
  | nil => exact Nat.le_refl _
  | cons x r ih =>
    have z := ih fun y hy => h y (List.mem_cons_of_mem _ hy)
    have q : x.length ≤ 8 := (h x (List.mem_cons_self ..)).2.1
    simp only [List.map_cons, List.sum_cons, List.length_cons]
    omega
/-- the text of such words: short enough, and read back -/
theorem text_back {ws : List Str} (h : ∀ x ∈ ws, Nm x) (hne : ws ≠ []) (hl : ws.length < 1000000) : (Txt.join " " ws).length + 2 ≤ sizeLine ∧ Txt.split (Txt.join " " ws) " " = ws := by
  refine ⟨?_, TL.split_join (s := 32) (S := []) (by decide +kernel) (by decide +kernel) hne fun x hx z => ?_⟩
  · rw [TL.join_eq]
    have e : (Str.join " " ws).length = (TL.tl (Str.join " " ws)).length := by
      show _ = (Str.join " " ws).cps.toList.length
      rw [Array.length_toList]
      rfl
    have z := joinX_len (TL.tl " ") (ws.map TL.tl)
    have q := sum_len h
    have e2 : (ws.map TL.tl).map List.length = ws.map (·.length) := by
      rw [List.map_map]
      refine List.map_congr_left fun x _ => ?_
      show x.cps.toList.length = x.cps.size
      exact Array.length_toList
    have e3 : (TL.tl (" " : Str)).length = 1 := by decide +kernel
    rw [e2, e3, List.length_map] at z
    rw [e, TL.tl_join, sizeLine_eq]
    omega
  · have c := (h x hx).2.2 32 z
    omega
/-- a part's list -/
def RtAt (g : Addr → Nat) (H : Hp) (m D Z : Nat) (a : Addr) (l : L) : Prop := g a = 0 ∧ (∃ xs, H a = some (.lst (rf xs)) ∧ UL g H l false xs) ∧ Wf m l false ∧ dp l < D ∧ wl l < Z
theorem RtAt.more {g : Addr → Nat} {H H' : Hp} {m D Z : Nat} {a : Addr} {l : L} (h : RtAt g H m D Z a l) (s : Same H H') : RtAt g H' m D Z a l := by
  obtain ⟨h1, ⟨xs, h2, h3⟩, h4⟩ := h
  exact ⟨h1, ⟨xs, s _ _ h2, h3.mono (Kp.of s)⟩, h4⟩
theorem pwds_app (ns : List Str) (b : List (Str × L)) : ∀ a : List (Str × L), pwds ns (a ++ b) = pwds ns a ++ pwds ns b
  | [] => rfl
  | p :: r => by
    show wPart :: p.1 :: (wds ns p.2 ++ (wEnd :: pwds ns (r ++ b))) = (wPart :: p.1 :: (wds ns p.2 ++ (wEnd :: pwds ns r))) ++ pwds ns b
    rw [pwds_app ns b r]
    simp
def spText (K : PySem.W.Frag) : L2.Sp := fun vs H Q _ => ∃ (A B : Addr) (ns : List Str) (as : List Addr) (ls : List L) (g : Addr → Nat) (Z : Nat), vs = [.ref A, .ref B] ∧ H A = some (.lst (sS ns)) ∧ H B = some (.lst (rf as)) ∧ Paired (RtAt g H ns.length DM Z) as ls ∧ ns.length = as.length ∧ (∀ n ∈ ns, Nm n) ∧
  (pwds ns (ns.zip ls)).length < 1000000 ∧ ∀ H', Same H H' → Q (.str (Txt.join " " (pwds ns (ns.zip ls)))) H'
theorem zip_get {α β : Type} : ∀ {l : List α} {m : List β} {i : Nat} {a : α} {b : β}, l[i]? = some a → m[i]? = some b → (l.zip m)[i]? = some (a, b)
  | a :: l, b :: m, 0, _, _, h1, h2 => by
    cases h1
    cases h2
    rfl
  | a :: l, b :: m, i + 1, _, _, h1, h2 => zip_get (l := l) (m := m) (i := i) h1 h2
  | [], _, _, _, _, h, _ => by simp at h
  | _ :: _, [], _, _, _, _, h => by simp at h
theorem drop_get {α : Type} {l : List α} {i : Nat} {a : α} (h : l[i]? = some a) : l.drop i = a :: l.drop (i + 1) := by
  obtain ⟨h1, h2⟩ := List.getElem?_eq_some_iff.mp h
  rw [List.drop_eq_getElem_cons h1, h2]
section
variable {P : Program} {w : World} {K : PySem.W.Frag} {mg : Str → Option Value} {base : Heap}
theorem sc_text : FnScope ["_law_names", "_law_lists", "_law_words_here", "_law_name_here", "_law_items"] ["_law_names", "_law_lists"] (defScope (top 46)) := ⟨rfl, rfl, rfl, by decide +kernel, rfl, by decide +kernel, by decide +kernel⟩
theorem c_text (T : Txt K mg) : Cal P w K mg base CX0 15 "_law_text" ["_law_names", "_law_lists"] (spText K) := by
  have C_words : Cal P w K mg base CX0 14 "_law_words" ["_law_items", "_law_names"] (spWords K DM) := c_words T DM
  obtain ⟨fd, F⟩ := T.d__law_text
  refine ⟨⟨fd, fn0 F sc_text (fun vs H Q E h => ?_) (fun cdv A outer s H vs Q E hr h => ?_), FunD.bindsN F fun _ _ _ _ _ _ us hl => match us, hl with | [_, _], _ => rfl⟩, T.k__law_text, T.g__law_text⟩
  · obtain ⟨_, _, _, _, _, _, _, rfl, _⟩ := h
    rfl
  obtain ⟨A, B, ns, as, ls, g, Z, rfl, hA, hB, pr, hl, hn, hlen, k⟩ := h
  refine ⟨_, (pss_cons (ps_set (i := 2) sc_text.nd rfl (.inl rfl) (pe_lst pa_nil))
    (pss_cons (ps_for PassesOwn.never rfl (pi_zip (by rfl) T.z_zip (pa_cons (pv 0) (pa_cons (pv 1) pa_nil))) (pg_tup rfl (pgs_cons (pg_name (i := 3) sc_text.nd rfl (.inl rfl)) (pgs_cons (pg_name (i := 4) sc_text.nd rfl (.inl rfl)) pgs_nil)))
      (pss_one (ps_set (i := 2) sc_text.nd rfl (.inl rfl) (pe_op op_cat (pe_op op_cat (pe_op op_cat (pv 2) (pe_lst (pa_cons pe_str (pa_cons (pv 3) pa_nil)))) (pcall C_words (hr.mono (by decide)) rfl pass0 (pa_cons (pv 4) (pa_cons (pv 0) pa_nil)))) (pe_lst (pa_cons pe_str pa_nil))))))
    (pss_one (ps_ret (pe_join pe_str (pv 2)))))), ?_⟩
  refine ⟨Nat.zero_le _, fun p0 hp0 => ?_⟩
  have s0 := same_new hp0 (.lst [])
  have pl := Paired.len pr
  refine ⟨_, rfl, _, rfl, A, B, _, _, rfl, SqL.of (s0 _ _ hA), SqL.of (s0 _ _ hB), ?_⟩
  refine RZ.for_zipL (xs := sS ns) (ys := rf as) (by rw [sS_len, rf_len, hl]) (fun i σ H' => ∃ (p : Addr) (acc : List Str) (b c : Option V), σ = [some (.ref A), some (.ref B), some (.ref p), b, c] ∧ Same H H' ∧ H p = none ∧ H' p = some (.lst (sS acc)) ∧ acc ++ pwds ns ((ns.zip ls).drop i) = pwds ns (ns.zip ls)) ?_ ?_ ?_ ?_
  · exact ⟨p0, [], none, none, rfl, s0, hp0, upd_same, rfl⟩
  · rintro i σ H' ⟨p, acc, b, c, rfl, s1, _⟩
    exact ⟨SqL.of (s1 _ _ hA), SqL.of (s1 _ _ hB)⟩
  · rintro i x y Tn σ H' hx hy ⟨p, acc, b, c, rfl, s1, hp0, hp, ea⟩ hT
    unfold sS at hx
    rw [List.getElem?_map] at hx
    unfold rf at hy
    rw [List.getElem?_map] at hy
    cases en : ns[i]? with
    | none => rw [en] at hx; cases hx
    | some n =>
      cases eas : as[i]? with
      | none => rw [eas] at hy; cases hy
      | some a =>
        rw [en] at hx
        rw [eas] at hy
        cases hx
        cases hy
        obtain ⟨l, el, h0, ⟨xs, h1, h2⟩, h3, h4, h5⟩ := Paired.get pr eas
        rw [drop_get (zip_get en el)] at ea
        simp only [pwds] at ea
        have lens := congrArg List.length ea
        simp only [List.length_append, List.length_cons, wds_len] at lens
        refine ⟨Tn, _, rfl, SqT.of upd_same, rfl, _, _, rfl, _, _, rfl, rfl, ?_⟩
        have s2 := s1.trans (same_new hT (.tup [.str n, .ref a]))
        have hp2 : upd H' Tn (.tup [.str n, .ref a]) p = some (.lst (sS acc)) := by rw [upd_ne (ne_of_none hp hT)]; exact hp
        refine ⟨_, rfl, _, rfl, (by show 2 ≤ sizeLine; decide), fun q hq => ?_⟩
        refine catS (ys := [wPart, n]) s2 hp2 hq (by show acc.length + 2 < _; omega) fun r1 H2 hr1 s3 e3 => ?_
        refine ⟨_, rfl, _, rfl, a, A, ns, g, l, false, xs, rfl, s3 _ _ h1, s3 _ _ hA, h2.mono (Kp.of s3), h3, h4, by omega, fun H3 q3 s4 hq4 e4 => ?_⟩
        refine catS2 (s3.trans s4) (s4 _ _ e3) e4 (by simp only [List.length_append, List.length_cons, List.length_nil, wds_len]; omega) fun r2 H4 hr2 s5 e5 => ?_
        refine ⟨(by show 1 ≤ sizeLine; decide), fun q hq => ?_⟩
        refine catS (ys := [wEnd]) s5 e5 hq (by simp only [List.length_append, List.length_cons, List.length_nil, wds_len]; omega) fun r3 H5 hr3 s6 e6 => ?_
        exact ⟨r3, _, _, _, rfl, s6, hr3, e6, by rw [← ea]; simp⟩
  · rintro σ H' ⟨p, acc, b, c, rfl, s1, hp0, hp, ea⟩
    have e : (ns.zip ls).drop (sS ns).length = [] := by
      rw [sS_len]
      refine List.drop_eq_nil_of_le ?_
      rw [List.length_zip]
      omega
    rw [e] at ea
    have e2 : acc = pwds ns (ns.zip ls) := by
      rw [← ea]
      simp [pwds]
    rw [e2] at hp
    have nm : ∀ x ∈ pwds ns (ns.zip ls), Nm x := pwds_nm hn fun q hq => by
      obtain ⟨h1, h2⟩ := List.of_mem_zip hq
      refine ⟨hn _ h1, ?_⟩
      have key : ∀ {as : List Addr} {ls : List L} {l : L}, Paired (RtAt g H ns.length DM Z) as ls → l ∈ ls → Wf ns.length l false := by
        intro as ls l pr hm
        induction pr with
        | nil => cases hm
        | cons r t ih =>
          rcases List.mem_cons.mp hm with rfl | hm
          · exact r.2.2.1
          · exact ih hm
      exact key pr h2
    have sl := sum_len nm
    refine ⟨⟨_, rfl⟩, _, rfl, " ", p, pwds ns (ns.zip ls), rfl, rfl, .inl (SqL.of hp), ?_, k H' s1⟩
    have e3 : (" " : Str).length = 1 := by decide +kernel
    rw [e3]
    omega
end
end Fc

set_option Elab.async false
set_option linter.all false
set_option maxRecDepth 100000
set_option maxHeartbeats 4000000
namespace Fc
open PySem PySem.Spec PyProof.Rows L2 He
/-! the law: looking through a list -/
theorem pone {t : TS} {D : Ends} {σ : L2.St} {H : Hp} (R : Hp → Prop) (h1 : ∀ D' : Ends, (∀ H1, R H1 → D'.nx σ H1) → t D' σ H) (h2 : ∀ H1, R H1 → D.nx σ H1) : t D σ H := h1 D h2
structure NtW (H0 H : Hp) (N n0 n1 n2 n3 A n5 : Addr) (f0 f1 f2 : List Nat) (s3 : List Str) (f5 : List Nat) : Prop where
  same : Same H0 H
  hN : H0 N = some (.lst [.ref n0, .ref n1, .ref n2, .ref n3, .ref A, .ref n5])
  h0 : H n0 = some (.lst (nI f0))
  h1 : H n1 = some (.lst (nI f1))
  h2 : H n2 = some (.lst (nI f2))
  h3 : H n3 = some (.lst (sS s3))
  h5 : H n5 = some (.lst (nI f5))
  z0 : H0 n0 = none
  z1 : H0 n1 = none
  z2 : H0 n2 = none
  z3 : H0 n3 = none
  z5 : H0 n5 = none
  d01 : n0 ≠ n1
  d02 : n0 ≠ n2
  d03 : n0 ≠ n3
  d05 : n0 ≠ n5
  d12 : n1 ≠ n2
  d13 : n1 ≠ n3
  d15 : n1 ≠ n5
  d23 : n2 ≠ n3
  d25 : n2 ≠ n5
  d35 : n3 ≠ n5
section
variable {H0 H : Hp} {N n0 n1 n2 n3 A n5 : Addr} {f0 f1 f2 : List Nat} {s3 : List Str} {f5 : List Nat}
theorem NtW.grow {H' : Hp} (W : NtW H0 H N n0 n1 n2 n3 A n5 f0 f1 f2 s3 f5) (s : Same H H') : NtW H0 H' N n0 n1 n2 n3 A n5 f0 f1 f2 s3 f5 :=
  ⟨W.same.trans s, W.hN, s _ _ W.h0, s _ _ W.h1, s _ _ W.h2, s _ _ W.h3, s _ _ W.h5, W.z0, W.z1, W.z2, W.z3, W.z5, W.d01, W.d02, W.d03, W.d05, W.d12, W.d13, W.d15, W.d23, W.d25, W.d35⟩
theorem NtW.set0 (W : NtW H0 H N n0 n1 n2 n3 A n5 f0 f1 f2 s3 f5) (x : List Nat) : NtW H0 (upd H n0 (.lst (nI x))) N n0 n1 n2 n3 A n5 x f1 f2 s3 f5 :=
  ⟨same_upd W.same W.z0, W.hN, upd_same, (by rw [upd_ne W.d01.symm]; exact W.h1), (by rw [upd_ne W.d02.symm]; exact W.h2), (by rw [upd_ne W.d03.symm]; exact W.h3), (by rw [upd_ne W.d05.symm]; exact W.h5), W.z0, W.z1, W.z2, W.z3, W.z5, W.d01, W.d02, W.d03, W.d05, W.d12, W.d13, W.d15, W.d23, W.d25, W.d35⟩
theorem NtW.set1 (W : NtW H0 H N n0 n1 n2 n3 A n5 f0 f1 f2 s3 f5) (x : List Nat) : NtW H0 (upd H n1 (.lst (nI x))) N n0 n1 n2 n3 A n5 f0 x f2 s3 f5 :=
  ⟨same_upd W.same W.z1, W.hN, (by rw [upd_ne W.d01]; exact W.h0), upd_same, (by rw [upd_ne W.d12.symm]; exact W.h2), (by rw [upd_ne W.d13.symm]; exact W.h3), (by rw [upd_ne W.d15.symm]; exact W.h5), W.z0, W.z1, W.z2, W.z3, W.z5, W.d01, W.d02, W.d03, W.d05, W.d12, W.d13, W.d15, W.d23, W.d25, W.d35⟩
theorem NtW.set2 (W : NtW H0 H N n0 n1 n2 n3 A n5 f0 f1 f2 s3 f5) (x : List Nat) : NtW H0 (upd H n2 (.lst (nI x))) N n0 n1 n2 n3 A n5 f0 f1 x s3 f5 :=
  ⟨same_upd W.same W.z2, W.hN, (by rw [upd_ne W.d02]; exact W.h0), (by rw [upd_ne W.d12]; exact W.h1), upd_same, (by rw [upd_ne W.d23.symm]; exact W.h3), (by rw [upd_ne W.d25.symm]; exact W.h5), W.z0, W.z1, W.z2, W.z3, W.z5, W.d01, W.d02, W.d03, W.d05, W.d12, W.d13, W.d15, W.d23, W.d25, W.d35⟩
theorem NtW.set3 (W : NtW H0 H N n0 n1 n2 n3 A n5 f0 f1 f2 s3 f5) (x : List Str) : NtW H0 (upd H n3 (.lst (sS x))) N n0 n1 n2 n3 A n5 f0 f1 f2 x f5 :=
  ⟨same_upd W.same W.z3, W.hN, (by rw [upd_ne W.d03]; exact W.h0), (by rw [upd_ne W.d13]; exact W.h1), (by rw [upd_ne W.d23]; exact W.h2), upd_same, (by rw [upd_ne W.d35.symm]; exact W.h5), W.z0, W.z1, W.z2, W.z3, W.z5, W.d01, W.d02, W.d03, W.d05, W.d12, W.d13, W.d15, W.d23, W.d25, W.d35⟩
theorem NtW.set5 (W : NtW H0 H N n0 n1 n2 n3 A n5 f0 f1 f2 s3 f5) (x : List Nat) : NtW H0 (upd H n5 (.lst (nI x))) N n0 n1 n2 n3 A n5 f0 f1 f2 s3 x :=
  ⟨same_upd W.same W.z5, W.hN, (by rw [upd_ne W.d05]; exact W.h0), (by rw [upd_ne W.d15]; exact W.h1), (by rw [upd_ne W.d25]; exact W.h2), (by rw [upd_ne W.d35]; exact W.h3), upd_same, W.z0, W.z1, W.z2, W.z3, W.z5, W.d01, W.d02, W.d03, W.d05, W.d12, W.d13, W.d15, W.d23, W.d25, W.d35⟩
variable {K : PySem.W.Frag} {σ : L2.St} {D : Ends} {k : Nat} {al : Bool}
theorem nI_snoc {l : List Nat} {k : Nat} : nI l ++ [V.int ((k : Nat) : Int)] = nI (l ++ [k]) := by rw [nI_app] <;> rfl
/-- noted[0].append(at), where nobody is alive -/
theorem mark0 (W : NtW H0 H N n0 n1 n2 n3 A n5 f0 f1 f2 s3 f5) (h3 : σ[3]? = some (some (.bl al))) (h2 : σ[2]? = some (some (.int ((k : Nat) : Int)))) (h4 : σ[4]? = some (some (.ref N))) (len : f0.length < 1000000) (g : ∀ H1, NtW H0 H1 N n0 n1 n2 n3 A n5 (f0 ++ mk al k) f1 f2 s3 f5 → D.nx σ H1) :
    tIfS (tNot (tB (tVar 3))) (tDrop (tBM K "list" rAppend (tOp (rIxL K) (tVar 4) (tC (.int 0))) (tCons (tVar 2) tNil))) tNext D σ H := by
  refine ⟨_, h3, al, rfl, ?_⟩
  cases al with
  | true =>
    refine g _ ?_
    show NtW H0 H N n0 n1 n2 n3 A n5 (f0 ++ []) f1 f2 s3 f5
    rw [List.append_nil]
    exact W
  | false =>
    refine ixv 0 h4 (W.same _ _ W.hN) rfl ⟨.inl ⟨rfl, _, SqL.of W.h0⟩, _, h2, n0, _, _, rfl, rfl, W.h0, (by rw [nI_len]; exact szl len), ?_⟩
    rw [nI_snoc]
    exact g _ (W.set0 _)
theorem mark5 (W : NtW H0 H N n0 n1 n2 n3 A n5 f0 f1 f2 s3 f5) (h3 : σ[3]? = some (some (.bl al))) (h2 : σ[2]? = some (some (.int ((k : Nat) : Int)))) (h4 : σ[4]? = some (some (.ref N))) (len : f5.length < 1000000) (g : ∀ H1, NtW H0 H1 N n0 n1 n2 n3 A n5 f0 f1 f2 s3 (f5 ++ mk al k) → D.nx σ H1) :
    tIfS (tNot (tB (tVar 3))) (tDrop (tBM K "list" rAppend (tOp (rIxL K) (tVar 4) (tC (.int 5))) (tCons (tVar 2) tNil))) tNext D σ H := by
  refine ⟨_, h3, al, rfl, ?_⟩
  cases al with
  | true =>
    refine g _ ?_
    show NtW H0 H N n0 n1 n2 n3 A n5 f0 f1 f2 s3 (f5 ++ [])
    rw [List.append_nil]
    exact W
  | false =>
    refine ixv 5 h4 (W.same _ _ W.hN) rfl ⟨.inl ⟨rfl, _, SqL.of W.h5⟩, _, h2, n5, _, _, rfl, rfl, W.h5, (by rw [nI_len]; exact szl len), ?_⟩
    rw [nI_snoc]
    exact g _ (W.set5 _)
end

def spLook (K : PySem.W.Frag) (d : Nat) : L2.Sp := fun vs H Q _ => ∃ (a Lt N : Addr) (k : Nat) (al : Bool) (H0 : Hp) (n0 n1 n2 n3 A n5 : Addr) (f0 f1 f2 : List Nat) (s3 : List Str) (f5 : List Nat) (ns later : List Str) (g : Addr → Nat) (l : L) (w : Bool) (xs : List Addr),
  vs = [.ref a, .ref Lt, .int ((k : Nat) : Int), .bl al, .ref N] ∧ NtW H0 H N n0 n1 n2 n3 A n5 f0 f1 f2 s3 f5 ∧ H0 a = some (.lst (rf xs)) ∧ H0 Lt = some (.lst (sS later)) ∧ H0 A = some (.lst (sS ns)) ∧ UL g H0 l w xs ∧ Wf ns.length l w ∧ dp l < d ∧
  (f0 ++ look0 ns later l k al).length < 1000000 ∧ (f1 ++ rws l k).length < 1000000 ∧ f2.length + things l < 1000000 ∧ (s3 ++ (cas ns l k).map (·.1)).length < 1000000 ∧ (f5 ++ dth l k al).length < 1000000 ∧
  ∀ H' t f2', NtW H0 H' N n0 n1 n2 n3 A n5 (f0 ++ look0 ns later l k al) (f1 ++ rws l k) f2' (s3 ++ (cas ns l k).map (·.1)) (f5 ++ dth l k al) → f2'.length = f2.length + things l → H' t = some (.tup [.int ((k + wl l : Nat) : Int), .bl (alv l al)]) → Q (.ref t) H'
section
variable {P : Program} {w : World} {K : PySem.W.Frag} {mg : Str → Option Value} {base : Heap}
theorem sc_look : FnScope ["_law_items", "_law_later", "_law_at", "_law_alive", "_law_noted", "_law_one", "_law_first", "_law_second"] ["_law_items", "_law_later", "_law_at", "_law_alive", "_law_noted"] (defScope (top 50)) := ⟨rfl, rfl, rfl, by decide +kernel, rfl, by decide +kernel, by decide +kernel⟩
theorem c_look (T : Txt K mg) : ∀ d : Nat, Cal P w K mg base CX0 (d + 2) "_law_look" ["_law_items", "_law_later", "_law_at", "_law_alive", "_law_noted"] (spLook K d) := by
  obtain ⟨fd, F⟩ := T.d__law_look
  intro d
  induction d with
  | zero =>
    refine ⟨⟨fd, fn0 F sc_look (fun vs H Q E h => ?_) (fun cdv A outer s H vs Q E hr h => ?_), FunD.bindsN F fun _ _ _ _ _ _ us hl => match us, hl with | [_, _, _, _, _], _ => rfl⟩, T.k__law_look, T.g__law_look⟩
    · obtain ⟨_, _, _, _, _, _, _, _, _, _, _, _, _, _, _, _, _, _, _, _, _, _, _, rfl, _⟩ := h
      rfl
    · obtain ⟨_, _, _, _, _, _, _, _, _, _, _, _, _, _, _, _, _, _, _, _, _, _, _, _, _, _, _, _, _, _, hd, _⟩ := h
      exact absurd hd (Nat.not_lt_zero _)
  | succ d ih =>
    have C_look := ih
    refine ⟨⟨fd, fn0 F sc_look (fun vs H Q E h => ?_) (fun cdv A outer s H vs Q E hr h => ?_), FunD.bindsN F fun _ _ _ _ _ _ us hl => match us, hl with | [_, _, _, _, _], _ => rfl⟩, T.k__law_look, T.g__law_look⟩
    · obtain ⟨_, _, _, _, _, _, _, _, _, _, _, _, _, _, _, _, _, _, _, _, _, _, _, rfl, _⟩ := h
      rfl
    obtain ⟨a, Lt, N, k, al, H0, n0, n1, n2, n3, A, n5, f0, f1, f2, s3, f5, ns, later, g, l, lw, xs, rfl, W, ha, hLt, hA, u, hw, hd, b0, b1, b2, b3, b5, kk⟩ := h
    have C_called : Cal P w K mg base CX0 1 "_law_called" ["_law_one", "_law_names"] (spCalled K) := c_called T
    refine ⟨_, (pss_cons (ps_for PassesOwn.never rfl (pi_list (pv 0)) (pg_name (i := 5) sc_look.nd rfl (.inl rfl))
      (pss_cons (ps_if (pt_not (pt_val (pv 3)))
        (pss_one (ps_expr (pe_bm PySem.F.plainAttrs_list PySem.F.slot_list_append PySem.F.type_list_append mt_append (pe_ix ix_list (pv 4) pe_int (fun _ _ => rfl)) (pa_cons (pv 2) pa_nil))))
        pss_nil)
      (pss_cons (ps_if (PW.pt (pw_or (pt_cmpR op_eq (pe_ix ix_list (pv 5) pe_int (fun _ _ => rfl)) pe_str (by rfl)) (pw_or1 (pt_cmpR op_eq (pe_ix ix_list (pv 5) pe_int (fun _ _ => rfl)) pe_str (by rfl)))))
        (pss_cons (ps_set (i := 3) sc_look.nd rfl (.inl rfl) pe_bl)
        (pss_cons (ps_set (i := 2) sc_look.nd rfl (.inl rfl) (pe_op op_add (pv 2) pe_int))
        (pss_one ps_continue)))
        pss_nil)
      (pss_cons (ps_if (pt_not (pt_val (pv 3)))
        (pss_one (ps_expr (pe_bm PySem.F.plainAttrs_list PySem.F.slot_list_append PySem.F.type_list_append mt_append (pe_ix ix_list (pv 4) pe_int (fun _ _ => rfl)) (pa_cons (pv 2) pa_nil))))
        pss_nil)
      (pss_cons (ps_expr (pe_bm PySem.F.plainAttrs_list PySem.F.slot_list_append PySem.F.type_list_append mt_append (pe_ix ix_list (pv 4) pe_int (fun _ _ => rfl)) (pa_cons (pv 2) pa_nil)))
      (pss_cons (ps_expr (pe_bm PySem.F.plainAttrs_list PySem.F.slot_list_append PySem.F.type_list_append mt_append (pe_ix ix_list (pv 4) pe_int (fun _ _ => rfl)) (pa_cons (pv 2) pa_nil)))
      (pss_cons (ps_if (pt_cmpR op_eq (pe_ix ix_list (pv 5) pe_int (fun _ _ => rfl)) pe_str (by rfl))
        (pss_cons (ps_expr (pe_bm PySem.F.plainAttrs_list PySem.F.slot_list_append PySem.F.type_list_append mt_append (pe_ix ix_list (pv 4) pe_int (fun _ _ => rfl)) (pa_cons (pcall C_called (hr.mono (by omega)) rfl pass0 (pa_cons (pv 5) (pa_cons (pe_ix ix_list (pv 4) pe_int (fun _ _ => rfl)) pa_nil))) pa_nil)))
        (pss_one (ps_if (pt_cmpR op_notIn_seq (pcall C_called (hr.mono (by omega)) rfl pass0 (pa_cons (pv 5) (pa_cons (pe_ix ix_list (pv 4) pe_int (fun _ _ => rfl)) pa_nil))) (pv 1) (by rfl))
          (pss_one (ps_expr (pe_bm PySem.F.plainAttrs_list PySem.F.slot_list_append PySem.F.type_list_append mt_append (pe_ix ix_list (pv 4) pe_int (fun _ _ => rfl)) (pa_cons (pe_op op_add (pv 2) pe_int) pa_nil))))
          pss_nil)))
        pss_nil)
      (pss_cons (ps_set (i := 2) sc_look.nd rfl (.inl rfl) (pe_op op_add (pv 2) pe_int))
      (pss_cons (ps_if (pt_cmpR op_eq (pe_ix ix_list (pv 5) pe_int (fun _ _ => rfl)) pe_str (by rfl))
        (pss_cons (ps_expr (pe_bm PySem.F.plainAttrs_list PySem.F.slot_list_append PySem.F.type_list_append mt_append (pe_ix ix_list (pv 4) pe_int (fun _ _ => rfl)) (pa_cons (pe_ix ix_list (pe_ix ix_list (pv 4) pe_int (fun _ _ => rfl)) (pe_un un_neg pe_int) (fun _ _ => rfl)) pa_nil)))
        (pss_cons (ps_asg (pcall C_look (hr.mono (by omega)) rfl pass0 (pa_cons (pe_ix ix_list (pv 5) pe_int (fun _ _ => rfl)) (pa_cons (pv 1) (pa_cons (pv 2) (pa_cons (pv 3) (pa_cons (pv 4) pa_nil)))))) (pg_tup rfl (pgs_cons (pg_name (i := 2) sc_look.nd rfl (.inl rfl)) (pgs_cons (pg_name (i := 6) sc_look.nd rfl (.inl rfl)) pgs_nil))))
        (pss_cons (ps_asg (pcall C_look (hr.mono (by omega)) rfl pass0 (pa_cons (pe_ix ix_list (pv 5) pe_int (fun _ _ => rfl)) (pa_cons (pv 1) (pa_cons (pe_op op_add (pv 2) pe_int) (pa_cons (pv 3) (pa_cons (pv 4) pa_nil)))))) (pg_tup rfl (pgs_cons (pg_name (i := 2) sc_look.nd rfl (.inl rfl)) (pgs_cons (pg_name (i := 7) sc_look.nd rfl (.inl rfl)) pgs_nil))))
        (pss_cons (ps_set (i := 3) sc_look.nd rfl (.inl rfl) (pe_or (pv 6) (pe_one (pv 7))))
        (pss_one (ps_set (i := 2) sc_look.nd rfl (.inl rfl) (pe_op op_add (pv 2) pe_int)))))))
        pss_nil)
      (pss_one (ps_if (pt_cmpR op_eq (pe_ix ix_list (pv 5) pe_int (fun _ _ => rfl)) pe_str (by rfl))
        (pss_cons (ps_expr (pe_bm PySem.F.plainAttrs_list PySem.F.slot_list_append PySem.F.type_list_append mt_append (pe_ix ix_list (pv 4) pe_int (fun _ _ => rfl)) (pa_cons (pe_ix ix_list (pe_ix ix_list (pv 4) pe_int (fun _ _ => rfl)) (pe_un un_neg pe_int) (fun _ _ => rfl)) pa_nil)))
        (pss_one (ps_set (i := 2) sc_look.nd rfl (.inl rfl) (pe_op op_add (pe_ix ix_tup (pcall C_look (hr.mono (by omega)) rfl pass0 (pa_cons (pe_ix ix_list (pv 5) pe_int (fun _ _ => rfl)) (pa_cons (pv 1) (pa_cons (pv 2) (pa_cons (pv 3) (pa_cons (pv 4) pa_nil)))))) pe_int (fun _ _ => rfl)) pe_int))))
        pss_nil)))))))))))
    (pss_one (ps_ret (pe_tup (pa_cons (pv 2) (pa_cons (pv 3) pa_nil)))))), ?_⟩
    refine ⟨_, rfl, a, rfl, ⟨_, SqL.of (W.same _ _ ha)⟩, ?_⟩
    generalize eF0 : f0 ++ look0 ns later l k al = F0 at *
    generalize eF1 : f1 ++ rws l k = F1 at *
    generalize eF3 : s3 ++ (cas ns l k).map (·.1) = F3 at *
    generalize eF5 : f5 ++ dth l k al = F5 at *
    refine for_list (xs := rf xs) (fun i σ H' => ∃ (k' : Nat) (al' : Bool) (g0 g1 g2 : List Nat) (t3 : List Str) (g5 : List Nat) (li : L) (x5 x6 x7 : Option V), σ = [some (.ref a), some (.ref Lt), some (.int ((k' : Nat) : Int)), some (.bl al'), some (.ref N), x5, x6, x7] ∧ NtW H0 H' N n0 n1 n2 n3 A n5 g0 g1 g2 t3 g5 ∧ UL g H0 li lw (xs.drop i) ∧ Wf ns.length li lw ∧ dp li < d + 1 ∧
      g0 ++ look0 ns later li k' al' = F0 ∧ g1 ++ rws li k' = F1 ∧ g2.length + things li = f2.length + things l ∧ t3 ++ (cas ns li k').map (·.1) = F3 ∧ g5 ++ dth li k' al' = F5 ∧ k' + wl li = k + wl l ∧ alv li al' = alv l al) ?_ ?_ ?_ ?_
    · exact ⟨k, al, f0, f1, f2, s3, f5, l, none, none, none, rfl, W, u, hw, hd, eF0, eF1, rfl, eF3, eF5, rfl, rfl⟩
    · rintro i σ H' _ ⟨k', al', g0, g1, g2, t3, g5, li, x5, x6, x7, rfl, W, _⟩
      exact SqL.of (W.same _ _ ha)
    · rintro i x σ H' hx ⟨k', al', g0, g1, g2, t3, g5, li, x5, x6, x7, rfl, W, u, hw, hdl, E0, E1, E2, E3, E5, EK, EA⟩
      obtain ⟨y, t, rfl, e0, e1, hlt⟩ := rf_get hx
      rw [e0] at u
      rw [e1]
      cases li with
      | nil => exact absurd u (by show ¬ (_ = _); simp)
      | lv r =>
        obtain ⟨y', t', e, h1, h2, h3⟩ := u
        injection e with e1 e2
        subst e1 e2
        have h2' := W.same _ _ h2
        simp only [dp] at hdl
        simp only [Wf] at hw
        simp only [look0] at E0
        simp only [rws] at E1
        simp only [things] at E2
        simp only [cas] at E3
        simp only [dth] at E5
        simp only [wl] at EK
        simp only [alv] at EA
        have L0 := congrArg List.length E0
        have L1 := congrArg List.length E1
        have L3 := congrArg List.length E3
        have L5 := congrArg List.length E5
        simp only [List.length_append, List.length_cons, List.length_map, List.map_append, List.map_cons] at L0 L1 L3 L5
        refine pseq (fun H1 => NtW H0 H1 N n0 n1 n2 n3 A n5 (g0 ++ mk al' k') g1 g2 t3 g5) (fun D1 gg => mark0 W rfl rfl rfl (by omega) gg) fun H1 W1 => ?_
        refine wyes rfl (W1.same _ _ h2) rfl (ifT rfl (ifT rfl ?_))
        refine ⟨_, rfl, _, _, rfl, rfl, ?_⟩
        exact ⟨k' + 1, false, g0 ++ mk al' k', g1, g2, t3, g5, r, _, _, _, rfl, W1, h3, hw.2, by omega, by rw [List.append_assoc]; exact E0, E1, E2, E3, E5, by omega, EA⟩
      | bk r =>
        obtain ⟨y', t', e, h1, h2, h3⟩ := u
        injection e with e1 e2
        subst e1 e2
        have h2' := W.same _ _ h2
        simp only [dp] at hdl
        simp only [Wf] at hw
        simp only [look0] at E0
        simp only [rws] at E1
        simp only [things] at E2
        simp only [cas] at E3
        simp only [dth] at E5
        simp only [wl] at EK
        simp only [alv] at EA
        have L0 := congrArg List.length E0
        have L1 := congrArg List.length E1
        have L3 := congrArg List.length E3
        have L5 := congrArg List.length E5
        simp only [List.length_append, List.length_cons, List.length_map, List.map_append, List.map_cons] at L0 L1 L3 L5
        refine pseq (fun H1 => NtW H0 H1 N n0 n1 n2 n3 A n5 (g0 ++ mk al' k') g1 g2 t3 g5) (fun D1 gg => mark0 W rfl rfl rfl (by omega) gg) fun H1 W1 => ?_
        refine wno rfl (W1.same _ _ h2) (by decide +kernel) (ifF rfl ?_)
        refine wyes rfl (W1.same _ _ h2) rfl (ifT rfl ?_)
        refine ⟨_, rfl, _, _, rfl, rfl, ?_⟩
        exact ⟨k' + 1, false, g0 ++ mk al' k', g1, g2, t3, g5, r, _, _, _, rfl, W1, h3, hw, by omega, by rw [List.append_assoc]; exact E0, E1, E2, E3, E5, by omega, EA⟩
      | dO n r =>
        obtain ⟨y', t', e, h1, h2, h3⟩ := u
        injection e with e1 e2
        subst e1 e2
        have h2' := W.same _ _ h2
        simp only [dp] at hdl
        simp only [Wf] at hw
        simp only [look0] at E0
        simp only [rws] at E1
        simp only [things] at E2
        simp only [cas] at E3
        simp only [dth] at E5
        simp only [wl] at EK
        simp only [alv] at EA
        have L0 := congrArg List.length E0
        have L1 := congrArg List.length E1
        have L3 := congrArg List.length E3
        have L5 := congrArg List.length E5
        simp only [List.length_append, List.length_cons, List.length_map, List.map_append, List.map_cons] at L0 L1 L3 L5
        refine pseq (fun H1 => NtW H0 H1 N n0 n1 n2 n3 A n5 (g0 ++ mk al' k') g1 g2 t3 g5) (fun D1 gg => mark0 W rfl rfl rfl (by omega) gg) fun H1 W1 => ?_
        refine wno rfl (W1.same _ _ h2) (by decide +kernel) (ifF rfl ?_)
        refine wno rfl (W1.same _ _ h2) (by decide +kernel) (ifF rfl ?_)
        show tSeq (tIfS (tNot (tB (tVar 3))) _ _) _ _ _ _
        refine pseq (fun H2 => NtW H0 H2 N n0 n1 n2 n3 A n5 (g0 ++ mk al' k') g1 g2 t3 (g5 ++ mk al' k')) (fun D1 gg => mark5 W1 rfl rfl rfl (by omega) gg) fun H2 W2 => ?_
        refine ixv 2 rfl (W2.same _ _ W2.hN) rfl ⟨.inl ⟨rfl, _, SqL.of W2.h2⟩, _, rfl, n2, _, _, rfl, rfl, W2.h2, (by rw [nI_len]; exact szl (by omega)), ?_⟩
        rw [nI_snoc]
        have W3 := W2.set2 (g2 ++ [k'])
        generalize upd H2 n2 (.lst (nI (g2 ++ [k']))) = H3 at *
        refine ixv 1 rfl (W3.same _ _ W3.hN) rfl ⟨.inl ⟨rfl, _, SqL.of W3.h1⟩, _, rfl, n1, _, _, rfl, rfl, W3.h1, (by rw [nI_len]; exact szl (by omega)), ?_⟩
        rw [nI_snoc]
        have W4 := W3.set1 (g1 ++ [k'])
        generalize upd H3 n1 (.lst (nI (g1 ++ [k']))) = H4 at *
        have k2 : (k' : Int) + 2 = ((k' + 2 : Nat) : Int) := rfl
        have l2 : (g2 ++ [k']).length = g2.length + 1 := by rw [List.length_append] <;> rfl
        refine wno rfl (W4.same _ _ h2) (by decide +kernel) (ifF rfl ?_)
        refine ⟨_, rfl, _, _, rfl, rfl, ?_⟩
        refine wno rfl (W4.same _ _ h2) (by decide +kernel) (ifF rfl ?_)
        refine wno rfl (W4.same _ _ h2) (by decide +kernel) (ifF rfl ?_)
        exact ⟨k' + 2, al', g0 ++ mk al' k', g1 ++ [k'], g2 ++ [k'], t3, g5 ++ mk al' k', r, _, _, _, rfl, W4, h3, hw.2, by omega, by rw [List.append_assoc]; exact E0, by rw [List.append_assoc]; exact E1, by omega, E3, by rw [List.append_assoc]; exact E5, by omega, EA⟩
      | ca c r =>
        obtain ⟨y', t', e, h1, h2, h3⟩ := u
        injection e with e1 e2
        subst e1 e2
        have h2' := W.same _ _ h2
        simp only [dp] at hdl
        simp only [Wf] at hw
        simp only [look0] at E0
        simp only [rws] at E1
        simp only [things] at E2
        simp only [cas] at E3
        simp only [dth] at E5
        simp only [wl] at EK
        simp only [alv] at EA
        have L0 := congrArg List.length E0
        have L1 := congrArg List.length E1
        have L3 := congrArg List.length E3
        have L5 := congrArg List.length E5
        simp only [List.length_append, List.length_cons, List.length_map, List.map_append, List.map_cons] at L0 L1 L3 L5
        refine pseq (fun H1 => NtW H0 H1 N n0 n1 n2 n3 A n5 (g0 ++ mk al' k') g1 g2 t3 g5) (fun D1 gg => mark0 W rfl rfl rfl (by omega) gg) fun H1 W1 => ?_
        refine wno rfl (W1.same _ _ h2) (by decide +kernel) (ifF rfl ?_)
        refine wno rfl (W1.same _ _ h2) (by decide +kernel) (ifF rfl ?_)
        show tSeq (tIfS (tNot (tB (tVar 3))) _ _) _ _ _ _
        refine pseq (fun H2 => NtW H0 H2 N n0 n1 n2 n3 A n5 (g0 ++ mk al' k') g1 g2 t3 (g5 ++ mk al' k')) (fun D1 gg => mark5 W1 rfl rfl rfl (by omega) gg) fun H2 W2 => ?_
        refine ixv 2 rfl (W2.same _ _ W2.hN) rfl ⟨.inl ⟨rfl, _, SqL.of W2.h2⟩, _, rfl, n2, _, _, rfl, rfl, W2.h2, (by rw [nI_len]; exact szl (by omega)), ?_⟩
        rw [nI_snoc]
        have W3 := W2.set2 (g2 ++ [k'])
        generalize upd H2 n2 (.lst (nI (g2 ++ [k']))) = H3 at *
        refine ixv 1 rfl (W3.same _ _ W3.hN) rfl ⟨.inl ⟨rfl, _, SqL.of W3.h1⟩, _, rfl, n1, _, _, rfl, rfl, W3.h1, (by rw [nI_len]; exact szl (by omega)), ?_⟩
        rw [nI_snoc]
        have W4 := W3.set1 (g1 ++ [k'])
        generalize upd H3 n1 (.lst (nI (g1 ++ [k']))) = H4 at *
        have k2 : (k' : Int) + 2 = ((k' + 2 : Nat) : Int) := rfl
        have l2 : (g2 ++ [k']).length = g2.length + 1 := by rw [List.length_append] <;> rfl
        refine wyes rfl (W4.same _ _ h2) rfl (ifT rfl ?_)
        refine ixv 3 rfl (W4.same _ _ W4.hN) rfl ⟨.inl ⟨rfl, _, SqL.of W4.h3⟩, _, rfl, ixv 4 rfl (W4.same _ _ W4.hN) rfl ⟨_, A, c, wCall, ns, rfl, W4.same _ _ h2, W4.same _ _ hA, (fun i e => by rw [e] at hw; exact hw.1), n3, _, _, rfl, rfl, W4.h3, (by rw [sS_len]; exact szl (by omega)), ?_⟩⟩
        have e3 : sS t3 ++ [V.str (c.name ns)] = sS (t3 ++ [c.name ns]) := by rw [sS_app] <;> rfl
        rw [e3]
        have W5 := W4.set3 (t3 ++ [c.name ns])
        generalize upd H4 n3 (.lst (sS (t3 ++ [c.name ns]))) = H5 at *
        dsimp only
        refine pone (fun H6 => NtW H0 H6 N n0 n1 n2 n3 A n5 (g0 ++ mk al' k' ++ (if c.name ns ∈ later then [] else [k' + 1])) (g1 ++ [k']) (g2 ++ [k']) (t3 ++ [c.name ns]) (g5 ++ mk al' k')) (fun D1 gg => ?_) fun H6 W6 => ?_
        · refine ⟨_, rfl, ixv 4 rfl (W5.same _ _ W5.hN) rfl ⟨_, A, c, wCall, ns, rfl, W5.same _ _ h2, W5.same _ _ hA, (fun i e => by rw [e] at hw; exact hw.1), _, rfl, Lt, _, rfl, .inl (SqL.of (W5.same _ _ hLt)), rfl, flatS _, _, rfl, ?_⟩⟩
          show (if (!inV (.str (c.name ns)) (sS later)) = true then _ else _)
          rw [inV_S]
          by_cases q : c.name ns ∈ later
          · rw [if_pos q, List.append_nil] at gg
            rw [decide_eq_true q]
            exact ifF rfl (gg _ W5)
          · rw [if_neg q] at gg
            rw [decide_eq_false q]
            rw [if_neg q] at L0
            simp only [List.length_cons, List.length_nil] at L0
            refine ifT rfl ?_
            refine ixv 0 rfl (W5.same _ _ W5.hN) rfl ⟨.inl ⟨rfl, _, SqL.of W5.h0⟩, _, rfl, _, _, rfl, rfl, n0, _, _, rfl, rfl, W5.h0, (by rw [nI_len, List.length_append]; exact szl (by omega)), ?_⟩
            have z := gg _ (W5.set0 (g0 ++ mk al' k' ++ [k' + 1]))
            rw [← nI_snoc] at z
            exact z
        refine ⟨_, rfl, _, _, rfl, rfl, ?_⟩
        refine wno rfl (W6.same _ _ h2) (by decide +kernel) (ifF rfl ?_)
        refine wno rfl (W6.same _ _ h2) (by decide +kernel) (ifF rfl ?_)
        exact ⟨k' + 2, al', _, _, g2 ++ [k'], _, _, r, _, _, _, rfl, W6, h3, hw.2, by omega, by rw [List.append_assoc, List.append_assoc]; exact E0, by rw [List.append_assoc]; exact E1, by omega, by rw [List.append_assoc]; exact E3, by rw [List.append_assoc]; exact E5, by omega, EA⟩
      | fi n a1 b1 r =>
        obtain ⟨y', t', p1, q1, ps, qs, e, h1, h2, p2, p3, p4, q2, q3, q4, h3⟩ := u
        injection e with e1 e2
        subst e1 e2
        have h2' := W.same _ _ h2
        simp only [dp] at hdl
        simp only [Wf] at hw
        simp only [look0] at E0
        simp only [rws] at E1
        simp only [things] at E2
        simp only [cas] at E3
        simp only [dth] at E5
        simp only [wl] at EK
        simp only [alv] at EA
        have L0 := congrArg List.length E0
        have L1 := congrArg List.length E1
        have L3 := congrArg List.length E3
        have L5 := congrArg List.length E5
        simp only [List.length_append, List.length_cons, List.length_map, List.map_append, List.map_cons] at L0 L1 L3 L5
        refine pseq (fun H1 => NtW H0 H1 N n0 n1 n2 n3 A n5 (g0 ++ mk al' k') g1 g2 t3 g5) (fun D1 gg => mark0 W rfl rfl rfl (by omega) gg) fun H1 W1 => ?_
        refine wno rfl (W1.same _ _ h2) (by decide +kernel) (ifF rfl ?_)
        refine wno rfl (W1.same _ _ h2) (by decide +kernel) (ifF rfl ?_)
        show tSeq (tIfS (tNot (tB (tVar 3))) _ _) _ _ _ _
        refine pseq (fun H2 => NtW H0 H2 N n0 n1 n2 n3 A n5 (g0 ++ mk al' k') g1 g2 t3 (g5 ++ mk al' k')) (fun D1 gg => mark5 W1 rfl rfl rfl (by omega) gg) fun H2 W2 => ?_
        refine ixv 2 rfl (W2.same _ _ W2.hN) rfl ⟨.inl ⟨rfl, _, SqL.of W2.h2⟩, _, rfl, n2, _, _, rfl, rfl, W2.h2, (by rw [nI_len]; exact szl (by omega)), ?_⟩
        rw [nI_snoc]
        have W3 := W2.set2 (g2 ++ [k'])
        generalize upd H2 n2 (.lst (nI (g2 ++ [k']))) = H3 at *
        refine ixv 1 rfl (W3.same _ _ W3.hN) rfl ⟨.inl ⟨rfl, _, SqL.of W3.h1⟩, _, rfl, n1, _, _, rfl, rfl, W3.h1, (by rw [nI_len]; exact szl (by omega)), ?_⟩
        rw [nI_snoc]
        have W4 := W3.set1 (g1 ++ [k'])
        generalize upd H3 n1 (.lst (nI (g1 ++ [k']))) = H4 at *
        have k2 : (k' : Int) + 2 = ((k' + 2 : Nat) : Int) := rfl
        have l2 : (g2 ++ [k']).length = g2.length + 1 := by rw [List.length_append] <;> rfl
        refine wno rfl (W4.same _ _ h2) (by decide +kernel) (ifF rfl ?_)
        refine ⟨_, rfl, _, _, rfl, rfl, ?_⟩
        refine wyes rfl (W4.same _ _ h2) rfl (ifT rfl ?_)
        refine ixv 1 rfl (W4.same _ _ W4.hN) rfl ⟨.inl ⟨rfl, _, SqL.of W4.h1⟩, ?_⟩
        refine ixv 1 rfl (W4.same _ _ W4.hN) rfl ⟨_, rfl, n1, _, _, .int ((k' : Nat) : Int), rfl, rfl, SqL.of W4.h1, (by rw [nI_app]; exact atI_last _ _), n1, _, _, rfl, rfl, W4.h1, (by rw [nI_len, List.length_append]; exact szl (by show g1.length + 1 < _; omega)), ?_⟩
        rw [nI_snoc]
        have W5 := W4.set1 (g1 ++ [k'] ++ [k'])
        generalize upd H4 n1 (.lst (nI (g1 ++ [k'] ++ [k']))) = H5 at *
        refine ixv 2 rfl (W5.same _ _ h2) rfl ⟨_, rfl, _, rfl, _, rfl, _, rfl, p1, Lt, N, k' + 2, al', H0, n0, n1, n2, n3, A, n5, _, _, _, _, _, ns, later, g, a1, lw, ps, rfl, W5, p3, hLt, hA, p4, hw.2.1, by omega, ?_, ?_, ?_, ?_, ?_, fun H6 t6 x2 W6 ex2 e6 => ?_⟩
        · simp only [List.length_append]; omega
        · simp only [List.length_append, List.length_cons, List.length_nil]; omega
        · simp only [List.length_append, List.length_cons, List.length_nil]; omega
        · simp only [List.length_append, List.length_map]; omega
        · simp only [List.length_append]; omega
        refine ⟨t6, _, rfl, SqT.of e6, rfl, _, _, rfl, _, _, rfl, rfl, ?_⟩
        refine ixv 3 rfl (W6.same _ _ h2) rfl ⟨_, rfl, _, rfl, _, _, rfl, rfl, _, rfl, _, rfl, q1, Lt, N, k' + 3 + wl a1, al', H0, n0, n1, n2, n3, A, n5, _, _, _, _, _, ns, later, g, b1, lw, qs, ?_, W6, q3, hLt, hA, q4, hw.2.2.1, by omega, ?_, ?_, ?_, ?_, ?_, fun H7 t7 y2 W7 ey2 e7 => ?_⟩
        · have e : ((k' + 2 + wl a1 : Nat) : Int) + 1 = ((k' + 3 + wl a1 : Nat) : Int) := by omega
          show [_, _, V.int (((k' + 2 + wl a1 : Nat) : Int) + 1), _, _] = _
          rw [e]
        · simp only [List.length_append]; omega
        · simp only [List.length_append, List.length_cons, List.length_nil]; omega
        · simp only [List.length_append, List.length_cons, List.length_nil] at ex2 ⊢; omega
        · simp only [List.length_append, List.length_map]; omega
        · simp only [List.length_append]; omega
        refine ⟨t7, _, rfl, SqT.of e7, rfl, _, _, rfl, _, _, rfl, rfl, ?_⟩
        dsimp only
        refine pseqS (fun σ1 H1 => σ1 = [some (.ref a), some (.ref Lt), some (.int ((k' + 3 + wl a1 + wl b1 : Nat) : Int)), some (.bl (alv a1 al' || alv b1 al')), some (.ref N), some (.ref y), some (.bl (alv a1 al')), some (.bl (alv b1 al'))] ∧ H1 = H7) (fun D1 _ gg => ?_) ?_
        · refine ⟨_, rfl, alv a1 al', rfl, ?_⟩
          rcases Bool.eq_false_or_eq_true (alv a1 al') with ea | ea
          · refine ifT ea (gg _ _ ⟨?_, rfl⟩)
            rw [ea, Bool.true_or]
            rfl
          · refine ifF ea ⟨_, rfl, gg _ _ ⟨?_, rfl⟩⟩
            rw [ea, Bool.false_or]
            rfl
        rintro σ1 H1 ⟨rfl, rfl⟩
        refine ⟨_, rfl, _, _, rfl, rfl, ?_⟩
        refine wno rfl (W7.same _ _ h2) (by decide +kernel) (ifF rfl ?_)
        refine ⟨k' + 4 + wl a1 + wl b1, alv a1 al' || alv b1 al', _, _, y2, _, _, r, some (.ref y), some (.bl (alv a1 al')), some (.bl (alv b1 al')), ?_, W7, h3, hw.2.2.2, by omega, ?_, ?_, ?_, ?_, ?_, by omega, EA⟩
        · have e : ((k' + 3 + wl a1 + wl b1 : Nat) : Int) + 1 = ((k' + 4 + wl a1 + wl b1 : Nat) : Int) := by omega
          show [_, _, some (V.int (((k' + 3 + wl a1 + wl b1 : Nat) : Int) + 1)), _, _, _, _, _] = _
          rw [e]
        · rw [← E0]; simp only [List.append_assoc]
        · rw [← E1]; simp only [List.append_assoc, List.cons_append, List.nil_append]
        · simp only [List.length_append, List.length_cons, List.length_nil] at ex2; omega
        · rw [← E3]; simp only [List.append_assoc, List.map_append]
        · rw [← E5]; simp only [List.append_assoc]
      | wh n a1 r =>
        obtain ⟨y', t', p1, ps, e, h1, h2, p2, p3, p4, h3⟩ := u
        injection e with e1 e2
        subst e1 e2
        have h2' := W.same _ _ h2
        simp only [dp] at hdl
        simp only [Wf] at hw
        simp only [look0] at E0
        simp only [rws] at E1
        simp only [things] at E2
        simp only [cas] at E3
        simp only [dth] at E5
        simp only [wl] at EK
        simp only [alv] at EA
        have L0 := congrArg List.length E0
        have L1 := congrArg List.length E1
        have L3 := congrArg List.length E3
        have L5 := congrArg List.length E5
        simp only [List.length_append, List.length_cons, List.length_map, List.map_append, List.map_cons] at L0 L1 L3 L5
        refine pseq (fun H1 => NtW H0 H1 N n0 n1 n2 n3 A n5 (g0 ++ mk al' k') g1 g2 t3 g5) (fun D1 gg => mark0 W rfl rfl rfl (by omega) gg) fun H1 W1 => ?_
        refine wno rfl (W1.same _ _ h2) (by decide +kernel) (ifF rfl ?_)
        refine wno rfl (W1.same _ _ h2) (by decide +kernel) (ifF rfl ?_)
        show tSeq (tIfS (tNot (tB (tVar 3))) _ _) _ _ _ _
        refine pseq (fun H2 => NtW H0 H2 N n0 n1 n2 n3 A n5 (g0 ++ mk al' k') g1 g2 t3 (g5 ++ mk al' k')) (fun D1 gg => mark5 W1 rfl rfl rfl (by omega) gg) fun H2 W2 => ?_
        refine ixv 2 rfl (W2.same _ _ W2.hN) rfl ⟨.inl ⟨rfl, _, SqL.of W2.h2⟩, _, rfl, n2, _, _, rfl, rfl, W2.h2, (by rw [nI_len]; exact szl (by omega)), ?_⟩
        rw [nI_snoc]
        have W3 := W2.set2 (g2 ++ [k'])
        generalize upd H2 n2 (.lst (nI (g2 ++ [k']))) = H3 at *
        refine ixv 1 rfl (W3.same _ _ W3.hN) rfl ⟨.inl ⟨rfl, _, SqL.of W3.h1⟩, _, rfl, n1, _, _, rfl, rfl, W3.h1, (by rw [nI_len]; exact szl (by omega)), ?_⟩
        rw [nI_snoc]
        have W4 := W3.set1 (g1 ++ [k'])
        generalize upd H3 n1 (.lst (nI (g1 ++ [k']))) = H4 at *
        have k2 : (k' : Int) + 2 = ((k' + 2 : Nat) : Int) := rfl
        have l2 : (g2 ++ [k']).length = g2.length + 1 := by rw [List.length_append] <;> rfl
        refine wno rfl (W4.same _ _ h2) (by decide +kernel) (ifF rfl ?_)
        refine ⟨_, rfl, _, _, rfl, rfl, ?_⟩
        refine wno rfl (W4.same _ _ h2) (by decide +kernel) (ifF rfl ?_)
        refine wyes rfl (W4.same _ _ h2) rfl (ifT rfl ?_)
        refine ixv 1 rfl (W4.same _ _ W4.hN) rfl ⟨.inl ⟨rfl, _, SqL.of W4.h1⟩, ?_⟩
        refine ixv 1 rfl (W4.same _ _ W4.hN) rfl ⟨_, rfl, n1, _, _, .int ((k' : Nat) : Int), rfl, rfl, SqL.of W4.h1, (by rw [nI_app]; exact atI_last _ _), n1, _, _, rfl, rfl, W4.h1, (by rw [nI_len, List.length_append]; exact szl (by show g1.length + 1 < _; omega)), ?_⟩
        rw [nI_snoc]
        have W5 := W4.set1 (g1 ++ [k'] ++ [k'])
        generalize upd H4 n1 (.lst (nI (g1 ++ [k'] ++ [k']))) = H5 at *
        refine ixv 2 rfl (W5.same _ _ h2) rfl ⟨_, rfl, _, rfl, _, rfl, _, rfl, p1, Lt, N, k' + 2, al', H0, n0, n1, n2, n3, A, n5, _, _, _, _, _, ns, later, g, a1, true, ps, rfl, W5, p3, hLt, hA, p4, hw.2.1, by omega, ?_, ?_, ?_, ?_, ?_, fun H6 t6 x2 W6 ex2 e6 => ?_⟩
        · simp only [List.length_append]; omega
        · simp only [List.length_append, List.length_cons, List.length_nil]; omega
        · simp only [List.length_append, List.length_cons, List.length_nil]; omega
        · simp only [List.length_append, List.length_map]; omega
        · simp only [List.length_append]; omega
        refine ⟨t6, _, _, .int ((k' + 2 + wl a1 : Nat) : Int), rfl, rfl, SqT.of e6, rfl, _, _, rfl, rfl, ?_⟩
        refine ⟨k' + 3 + wl a1, al', _, _, x2, _, _, r, some (.ref y), x6, x7, ?_, W6, h3, hw.2.2, by omega, ?_, ?_, ?_, ?_, ?_, by omega, EA⟩
        · have e : ((k' + 2 + wl a1 : Nat) : Int) + 1 = ((k' + 3 + wl a1 : Nat) : Int) := by omega
          show [_, _, some (V.int (((k' + 2 + wl a1 : Nat) : Int) + 1)), _, _, _, _, _] = _
          rw [e]
        · rw [← E0]; simp only [List.append_assoc]
        · rw [← E1]; simp only [List.append_assoc, List.cons_append, List.nil_append]
        · simp only [List.length_append, List.length_cons, List.length_nil] at ex2; omega
        · rw [← E3]; simp only [List.append_assoc, List.map_append]
        · rw [← E5]; simp only [List.append_assoc]
    · rintro σ H' ⟨k', al', g0, g1, g2, t3, g5, li, x5, x6, x7, rfl, W, u, hw, hdl, E0, E1, E2, E3, E5, EK, EA⟩
      rw [rf_end] at u
      have e := ul_nil u
      subst e
      simp only [look0, rws, things, cas, dth, wl, alv, List.append_nil, List.map_nil, Nat.add_zero] at E0 E1 E2 E3 E5 EK EA
      subst E0 E1 E3 E5 EA EK
      refine ⟨_, rfl, _, rfl, (by show 2 ≤ sizeLine; decide), fun t ht => ?_⟩
      exact kk _ t g2 (W.grow (same_new ht _)) E2 upd_same
end
end Fc

set_option Elab.async false
set_option linter.all false
set_option maxRecDepth 100000
set_option maxHeartbeats 4000000
namespace Fc
open PySem PySem.Spec PyProof.Rows L2 He
/-! the law: its faults -/
theorem look0_len (ns later : List Str) : ∀ (l : L) (k : Nat) (a : Bool), (look0 ns later l k a).length ≤ 2 * wl l := by
  have m1 : ∀ (a : Bool) (k : Nat), (mk a k).length ≤ 1 := fun a k => by cases a <;> simp [mk]
  intro l
  induction l with
  | nil => intro k a; exact Nat.zero_le _
  | lv r ih => intro k a; have := ih (k + 1) false; have := m1 a k; simp only [look0, wl, List.length_append]; omega
  | bk r ih => intro k a; have := ih (k + 1) false; have := m1 a k; simp only [look0, wl, List.length_append]; omega
  | dO n r ih => intro k a; have := ih (k + 2) a; have := m1 a k; simp only [look0, wl, List.length_append]; omega
  | ca c r ih =>
    intro k a
    have := ih (k + 2) a
    have := m1 a k
    have : (if c.name ns ∈ later then [] else [k + 1]).length ≤ 1 := by split <;> simp
    simp only [look0, wl, List.length_append]
    omega
  | fi n x y r ihx ihy ihr => intro k a; have := ihx (k + 2) a; have := ihy (k + 3 + wl x) a; have := ihr (k + 4 + wl x + wl y) (alv x a || alv y a); have := m1 a k; simp only [look0, wl, List.length_append]; omega
  | wh n x r ihx ihr => intro k a; have := ihx (k + 2) a; have := ihr (k + 3 + wl x) a; have := m1 a k; simp only [look0, wl, List.length_append]; omega
theorem rws_len : ∀ (l : L) (k : Nat), (rws l k).length ≤ wl l := by
  intro l
  induction l with
  | nil => intro k; exact Nat.zero_le _
  | lv r ih => intro k; have := ih (k + 1); simp only [rws, wl]; omega
  | bk r ih => intro k; have := ih (k + 1); simp only [rws, wl]; omega
  | dO n r ih => intro k; have := ih (k + 2); simp only [rws, wl, List.length_cons]; omega
  | ca c r ih => intro k; have := ih (k + 2); simp only [rws, wl, List.length_cons]; omega
  | fi n x y r ihx ihy ihr => intro k; have := ihx (k + 2); have := ihy (k + 3 + wl x); have := ihr (k + 4 + wl x + wl y); simp only [rws, wl, List.length_cons, List.length_append]; omega
  | wh n x r ihx ihr => intro k; have := ihx (k + 2); have := ihr (k + 3 + wl x); simp only [rws, wl, List.length_cons, List.length_append]; omega
theorem things_len : ∀ l : L, things l ≤ wl l := by
  intro l
  induction l with
  | nil => exact Nat.le_refl _
  | lv r ih => simp only [things, wl]; omega
  | bk r ih => simp only [things, wl]; omega
  | dO n r ih => simp only [things, wl]; omega
  | ca c r ih => simp only [things, wl]; omega
  | fi n x y r ihx ihy ihr => simp only [things, wl]; omega
  | wh n x r ihx ihr => simp only [things, wl]; omega
theorem cas_len (ns : List Str) : ∀ (l : L) (k : Nat), (cas ns l k).length ≤ wl l := by
  intro l
  induction l with
  | nil => intro k; exact Nat.zero_le _
  | lv r ih => intro k; have := ih (k + 1); simp only [cas, wl]; omega
  | bk r ih => intro k; have := ih (k + 1); simp only [cas, wl]; omega
  | dO n r ih => intro k; have := ih (k + 2); simp only [cas, wl]; omega
  | ca c r ih => intro k; have := ih (k + 2); simp only [cas, wl, List.length_cons]; omega
  | fi n x y r ihx ihy ihr => intro k; have := ihx (k + 2); have := ihy (k + 3 + wl x); have := ihr (k + 4 + wl x + wl y); simp only [cas, wl, List.length_append]; omega
  | wh n x r ihx ihr => intro k; have := ihx (k + 2); have := ihr (k + 3 + wl x); simp only [cas, wl, List.length_append]; omega
theorem dth_len : ∀ (l : L) (k : Nat) (a : Bool), (dth l k a).length ≤ wl l := by
  have m1 : ∀ (a : Bool) (k : Nat), (mk a k).length ≤ 1 := fun a k => by cases a <;> simp [mk]
  intro l
  induction l with
  | nil => intro k a; exact Nat.zero_le _
  | lv r ih => intro k a; have := ih (k + 1) false; simp only [dth, wl]; omega
  | bk r ih => intro k a; have := ih (k + 1) false; simp only [dth, wl]; omega
  | dO n r ih => intro k a; have := ih (k + 2) a; have := m1 a k; simp only [dth, wl, List.length_append]; omega
  | ca c r ih => intro k a; have := ih (k + 2) a; have := m1 a k; simp only [dth, wl, List.length_append]; omega
  | fi n x y r ihx ihy ihr => intro k a; have := ihx (k + 2) a; have := ihy (k + 3 + wl x) a; have := ihr (k + 4 + wl x + wl y) (alv x a || alv y a); have := m1 a k; simp only [dth, wl, List.length_append]; omega
  | wh n x r ihx ihr => intro k a; have := ihx (k + 2) a; have := ihr (k + 3 + wl x) a; have := m1 a k; simp only [dth, wl, List.length_append]; omega
/-- how many words, and the heads of the parts -/
def pl (ps : List (Str × L)) : Nat := (ps.map fun p => pwl p.2).sum
theorem pl_cons (p : Str × L) (r : List (Str × L)) : pl (p :: r) = pwl p.2 + pl r := by simp [pl]
theorem pwds_len (ns : List Str) : ∀ ps : List (Str × L), (pwds ns ps).length = pl ps
  | [] => rfl
  | p :: r => by
    rw [pl_cons, ← pwds_len ns r]
    simp only [pwds, List.length_cons, List.length_append, wds_len, pwl]
    omega
def heads : List (Str × L) → Nat → List Nat
  | [], _ => []
  | p :: r, k => (k + 1) :: heads r (k + pwl p.2)
theorem heads_len : ∀ (ps : List (Str × L)) (k : Nat), (heads ps k).length = ps.length
  | [], _ => rfl
  | p :: r, k => by show (heads r _).length + 1 = _; rw [heads_len r] <;> rfl
/-- the parts that no call names, by their heads -/
theorem luns_heads (called : List Str) : ∀ (ps : List (Str × L)) (k : Nat), lun called ps k = ((ps.map (·.1)).zip (heads ps k)).flatMap fun q => if q.1 ∈ called then [] else [q.2]
  | [], _ => rfl
  | p :: r, k => by
    show (if p.1 ∈ called then [] else [k + 1]) ++ lun called r (k + pwl p.2) = _
    rw [luns_heads called r]
    rfl
structure Ft (H H' : Hp) (N hd n0 n1 n2 n3 A n5 : Addr) (f0 f1 f2 : List Nat) (s3 : List Str) (f5 hs : List Nat) : Prop where
  same : Same H H'
  h0 : H' n0 = some (.lst (nI f0))
  h1 : H' n1 = some (.lst (nI f1))
  h2 : H' n2 = some (.lst (nI f2))
  h3 : H' n3 = some (.lst (sS s3))
  h5 : H' n5 = some (.lst (nI f5))
  hN : H' N = some (.lst ([.ref n0, .ref n1, .ref n2, .ref n3, .ref A, .ref n5]))
  hh : H' hd = some (.lst (nI hs))
  z0 : H n0 = none
  z1 : H n1 = none
  z2 : H n2 = none
  z3 : H n3 = none
  z5 : H n5 = none
  zN : H N = none
  zh : H hd = none
  d01 : n0 ≠ n1
  d02 : n0 ≠ n2
  d03 : n0 ≠ n3
  d05 : n0 ≠ n5
  d0N : n0 ≠ N
  d0h : n0 ≠ hd
  d12 : n1 ≠ n2
  d13 : n1 ≠ n3
  d15 : n1 ≠ n5
  d1N : n1 ≠ N
  d1h : n1 ≠ hd
  d23 : n2 ≠ n3
  d25 : n2 ≠ n5
  d2N : n2 ≠ N
  d2h : n2 ≠ hd
  d35 : n3 ≠ n5
  d3N : n3 ≠ N
  d3h : n3 ≠ hd
  d5N : n5 ≠ N
  d5h : n5 ≠ hd
  dNh : N ≠ hd
section
variable {H H' : Hp} {N hd n0 n1 n2 n3 A n5 : Addr} {f0 f1 f2 : List Nat} {s3 : List Str} {f5 hs : List Nat}
theorem Ft.grow {H'' : Hp} (W : Ft H H' N hd n0 n1 n2 n3 A n5 f0 f1 f2 s3 f5 hs) (s : Same H' H'') : Ft H H'' N hd n0 n1 n2 n3 A n5 f0 f1 f2 s3 f5 hs :=
  ⟨W.same.trans s, s _ _ W.h0, s _ _ W.h1, s _ _ W.h2, s _ _ W.h3, s _ _ W.h5, s _ _ W.hN, s _ _ W.hh, W.z0, W.z1, W.z2, W.z3, W.z5, W.zN, W.zh, W.d01, W.d02, W.d03, W.d05, W.d0N, W.d0h, W.d12, W.d13, W.d15, W.d1N, W.d1h, W.d23, W.d25, W.d2N, W.d2h, W.d35, W.d3N, W.d3h, W.d5N, W.d5h, W.dNh⟩
theorem Ft.set0 (W : Ft H H' N hd n0 n1 n2 n3 A n5 f0 f1 f2 s3 f5 hs) (x : List Nat) : Ft H (upd H' n0 (.lst (nI x))) N hd n0 n1 n2 n3 A n5 x f1 f2 s3 f5 hs :=
  ⟨same_upd W.same W.z0, upd_same, (by rw [upd_ne (W.d01.symm)]; exact W.h1), (by rw [upd_ne (W.d02.symm)]; exact W.h2), (by rw [upd_ne (W.d03.symm)]; exact W.h3), (by rw [upd_ne (W.d05.symm)]; exact W.h5), (by rw [upd_ne (W.d0N.symm)]; exact W.hN), (by rw [upd_ne (W.d0h.symm)]; exact W.hh), W.z0, W.z1, W.z2, W.z3, W.z5, W.zN, W.zh, W.d01, W.d02, W.d03, W.d05, W.d0N, W.d0h, W.d12, W.d13, W.d15, W.d1N, W.d1h, W.d23, W.d25, W.d2N, W.d2h, W.d35, W.d3N, W.d3h, W.d5N, W.d5h, W.dNh⟩
theorem Ft.seth (W : Ft H H' N hd n0 n1 n2 n3 A n5 f0 f1 f2 s3 f5 hs) (x : List Nat) : Ft H (upd H' hd (.lst (nI x))) N hd n0 n1 n2 n3 A n5 f0 f1 f2 s3 f5 x :=
  ⟨same_upd W.same W.zh, (by rw [upd_ne (W.d0h)]; exact W.h0), (by rw [upd_ne (W.d1h)]; exact W.h1), (by rw [upd_ne (W.d2h)]; exact W.h2), (by rw [upd_ne (W.d3h)]; exact W.h3), (by rw [upd_ne (W.d5h)]; exact W.h5), (by rw [upd_ne (W.dNh)]; exact W.hN), upd_same, W.z0, W.z1, W.z2, W.z3, W.z5, W.zN, W.zh, W.d01, W.d02, W.d03, W.d05, W.d0N, W.d0h, W.d12, W.d13, W.d15, W.d1N, W.d1h, W.d23, W.d25, W.d2N, W.d2h, W.d35, W.d3N, W.d3h, W.d5N, W.d5h, W.dNh⟩
theorem Ft.new2 {L : Addr} (W : Ft H H' N hd n0 n1 n2 n3 A n5 f0 f1 f2 s3 f5 hs) (hL : H' L = none) : Ft H (upd (upd H' L (.lst [])) N (.lst [.ref n0, .ref n1, .ref L, .ref n3, .ref A, .ref n5])) N hd n0 n1 L n3 A n5 f0 f1 [] s3 f5 hs :=
  ⟨same_upd (W.same.trans (same_new hL _)) W.zN, (by rw [upd_ne (W.d0N), upd_ne (ne_of_none W.h0 hL)]; exact W.h0), (by rw [upd_ne (W.d1N), upd_ne (ne_of_none W.h1 hL)]; exact W.h1), (by rw [upd_ne (ne_of_none W.hN hL).symm]; exact upd_same), (by rw [upd_ne (W.d3N), upd_ne (ne_of_none W.h3 hL)]; exact W.h3), (by rw [upd_ne (W.d5N), upd_ne (ne_of_none W.h5 hL)]; exact W.h5), upd_same, (by rw [upd_ne (W.dNh.symm), upd_ne (ne_of_none W.hh hL)]; exact W.hh), W.z0, W.z1, W.same.free hL, W.z3, W.z5, W.zN, W.zh, W.d01, ne_of_none W.h0 hL, W.d03, W.d05, W.d0N, W.d0h, ne_of_none W.h1 hL, W.d13, W.d15, W.d1N, W.d1h, (ne_of_none W.h3 hL).symm, (ne_of_none W.h5 hL).symm, (ne_of_none W.hN hL).symm, (ne_of_none W.hh hL).symm, W.d35, W.d3N, W.d3h, W.d5N, W.d5h, W.dNh⟩
theorem Ft.new5 {L : Addr} (W : Ft H H' N hd n0 n1 n2 n3 A n5 f0 f1 f2 s3 f5 hs) (hL : H' L = none) : Ft H (upd (upd H' L (.lst [])) N (.lst [.ref n0, .ref n1, .ref n2, .ref n3, .ref A, .ref L])) N hd n0 n1 n2 n3 A L f0 f1 f2 s3 [] hs :=
  ⟨same_upd (W.same.trans (same_new hL _)) W.zN, (by rw [upd_ne (W.d0N), upd_ne (ne_of_none W.h0 hL)]; exact W.h0), (by rw [upd_ne (W.d1N), upd_ne (ne_of_none W.h1 hL)]; exact W.h1), (by rw [upd_ne (W.d2N), upd_ne (ne_of_none W.h2 hL)]; exact W.h2), (by rw [upd_ne (W.d3N), upd_ne (ne_of_none W.h3 hL)]; exact W.h3), (by rw [upd_ne (ne_of_none W.hN hL).symm]; exact upd_same), upd_same, (by rw [upd_ne (W.dNh.symm), upd_ne (ne_of_none W.hh hL)]; exact W.hh), W.z0, W.z1, W.z2, W.z3, W.same.free hL, W.zN, W.zh, W.d01, W.d02, W.d03, ne_of_none W.h0 hL, W.d0N, W.d0h, W.d12, W.d13, ne_of_none W.h1 hL, W.d1N, W.d1h, W.d23, ne_of_none W.h2 hL, W.d2N, W.d2h, ne_of_none W.h3 hL, W.d3N, W.d3h, (ne_of_none W.hN hL).symm, (ne_of_none W.hh hL).symm, W.dNh⟩
/-- the heap without these five -/
def cutH (H : Hp) (n0 n1 n2 n3 n5 : Addr) : Hp := fun b => if b = n0 ∨ b = n1 ∨ b = n2 ∨ b = n3 ∨ b = n5 then none else H b
theorem cutH_same (H : Hp) (n0 n1 n2 n3 n5 : Addr) : Same (cutH H n0 n1 n2 n3 n5) H := fun b u q => by
  unfold cutH at q
  split at q
  · cases q
  · exact q
theorem cutH_of {H : Hp} {n0 n1 n2 n3 n5 b : Addr} {u : HO} (h : H b = some u) (e0 : b ≠ n0) (e1 : b ≠ n1) (e2 : b ≠ n2) (e3 : b ≠ n3) (e5 : b ≠ n5) : cutH H n0 n1 n2 n3 n5 b = some u := by
  unfold cutH
  rw [if_neg (by simp [e0, e1, e2, e3, e5])]
  exact h
theorem Ft.cut (W : Ft H H' N hd n0 n1 n2 n3 A n5 f0 f1 f2 s3 f5 hs) : NtW (cutH H' n0 n1 n2 n3 n5) H' N n0 n1 n2 n3 A n5 f0 f1 f2 s3 f5 :=
  ⟨cutH_same _ _ _ _ _ _, cutH_of W.hN W.d0N.symm W.d1N.symm W.d2N.symm W.d3N.symm W.d5N.symm, W.h0, W.h1, W.h2, W.h3, W.h5, by simp [cutH], by simp [cutH], by simp [cutH], by simp [cutH], by simp [cutH], W.d01, W.d02, W.d03, W.d05, W.d12, W.d13, W.d15, W.d23, W.d25, W.d35⟩
/-- what stood at the start stands in what is left -/
theorem Ft.base (W : Ft H H' N hd n0 n1 n2 n3 A n5 f0 f1 f2 s3 f5 hs) : Same H (cutH H' n0 n1 n2 n3 n5) := fun b u q =>
  cutH_of (W.same _ _ q) (ne_of_none q W.z0) (ne_of_none q W.z1) (ne_of_none q W.z2) (ne_of_none q W.z3) (ne_of_none q W.z5)
theorem Ft.back {H'' : Hp} {g0 g1 g2 : List Nat} {t3 : List Str} {g5 : List Nat} (W : Ft H H' N hd n0 n1 n2 n3 A n5 f0 f1 f2 s3 f5 hs) (V : NtW (cutH H' n0 n1 n2 n3 n5) H'' N n0 n1 n2 n3 A n5 g0 g1 g2 t3 g5) : Ft H H'' N hd n0 n1 n2 n3 A n5 g0 g1 g2 t3 g5 hs :=
  ⟨W.base.trans V.same, V.h0, V.h1, V.h2, V.h3, V.h5, V.same _ _ V.hN, V.same _ _ (cutH_of W.hh W.d0h.symm W.d1h.symm W.d2h.symm W.d3h.symm W.d5h.symm), W.z0, W.z1, W.z2, W.z3, W.z5, W.zN, W.zh, W.d01, W.d02, W.d03, W.d05, W.d0N, W.d0h, W.d12, W.d13, W.d15, W.d1N, W.d1h, W.d23, W.d25, W.d2N, W.d2h, W.d35, W.d3N, W.d3h, W.d5N, W.d5h, W.dNh⟩
end

def spLF (K : PySem.W.Frag) : L2.Sp := fun vs H Q _ => ∃ (A B : Addr) (ns : List Str) (as : List Addr) (ls : List L) (g : Addr → Nat) (Z : Nat), vs = [.ref A, .ref B] ∧ H A = some (.lst (sS ns)) ∧ H B = some (.lst (rf as)) ∧ Paired (RtAt g H ns.length DM Z) as ls ∧ ns.length = as.length ∧
  pl (ns.zip ls) < 200000 ∧ (lawF ns (ns.zip ls) = [] → ∀ H', Same H H' → Q .non H') ∧ (∀ m H', m ∈ lawF ns (ns.zip ls) → (∀ y ∈ lawF ns (ns.zip ls), m ≤ y) → Same H H' → Q (.int ((m : Nat) : Int)) H')
end Fc

set_option Elab.async false
set_option linter.all false
set_option maxRecDepth 100000
set_option maxHeartbeats 4000000
namespace Fc
open PySem PySem.Spec PyProof.Rows L2 He
theorem lfs_len (ns : List Str) : ∀ (ps : List (Str × L)) (i k : Nat), (lfs ns ps i k).length ≤ 2 * pl ps
  | [], _, _ => Nat.zero_le _
  | p :: r, i, k => by
    have h1 := lfs_len ns r (i + 1) (k + pwl p.2)
    have h2 := look0_len ns (ns.drop (i + 1)) p.2 (k + 2) true
    rw [pl_cons]
    simp only [lfs, lf1, List.length_append]
    split <;> simp only [List.length_cons, List.length_nil, pwl] at h1 ⊢ <;> omega
theorem prws_len : ∀ (ps : List (Str × L)) (k : Nat), (prws ps k).length ≤ pl ps
  | [], _ => Nat.zero_le _
  | p :: r, k => by
    have h1 := prws_len r (k + pwl p.2)
    have h2 := rws_len p.2 (k + 2)
    rw [pl_cons]
    simp only [prws, List.length_append, pwl]
    simp only [pwl] at h1
    omega
theorem pcas_len (ns : List Str) : ∀ (ps : List (Str × L)) (k : Nat), (pcas ns ps k).length ≤ pl ps
  | [], _ => Nat.zero_le _
  | p :: r, k => by
    have h1 := pcas_len ns r (k + pwl p.2)
    have h2 := cas_len ns p.2 (k + 2)
    rw [pl_cons]
    simp only [pcas, List.length_append, pwl]
    simp only [pwl] at h1
    omega
theorem ps_len : ∀ ps : List (Str × L), ps.length ≤ pl ps
  | [] => Nat.zero_le _
  | p :: r => by
    have h1 := ps_len r
    rw [pl_cons]
    simp only [List.length_cons, pwl]
    omega
def unF (called : List Str) (q : Str × Nat) : List Nat := if q.1 ∈ called then [] else [q.2]
theorem luns_drop (called : List Str) (ps : List (Str × L)) : luns called ps 0 = (((ps.map (·.1)).zip (heads ps 0)).drop 1).flatMap (unF called) := by
  cases ps with
  | nil => rfl
  | cons p r => exact luns_heads called r _
theorem unF_len (called : List Str) : ∀ l : List (Str × Nat), (l.flatMap (unF called)).length ≤ l.length
  | [] => Nat.zero_le _
  | q :: r => by
    have h := unF_len called r
    rw [List.flatMap_cons, List.length_append, List.length_cons]
    have : (unF called q).length ≤ 1 := by unfold unF; split <;> simp
    omega
theorem zip_fst : ∀ {ns : List Str} {ls : List L}, ns.length = ls.length → (ns.zip ls).map (·.1) = ns
  | [], [], _ => rfl
  | n :: ns, l :: ls, h => by
    show n :: (ns.zip ls).map (·.1) = _
    rw [zip_fst (Nat.succ.inj h)]
  | [], _ :: _, h => nomatch h
  | _ :: _, [], h => nomatch h
theorem isE_len {α : Type} (l : List α) : decide ((l.length : Int) = 0) = l.isEmpty := by
  cases l with
  | nil => rfl
  | cons a r =>
    refine decide_eq_false ?_
    show ¬ (((r.length + 1 : Nat) : Int) = 0)
    omega
theorem ft_init {H : Hp} {N hd n0 n1 n2 n3 A n5 : Addr} (q0 : H n0 = none) (q1 : upd H n0 (.lst []) n1 = none) (q2 : upd (upd H n0 (.lst [])) n1 (.lst []) n2 = none) (q3 : upd (upd (upd H n0 (.lst [])) n1 (.lst [])) n2 (.lst []) n3 = none)
    (q5 : upd (upd (upd (upd H n0 (.lst [])) n1 (.lst [])) n2 (.lst [])) n3 (.lst []) n5 = none) (qN : upd (upd (upd (upd (upd H n0 (.lst [])) n1 (.lst [])) n2 (.lst [])) n3 (.lst [])) n5 (.lst []) N = none)
    (qh : upd (upd (upd (upd (upd (upd H n0 (.lst [])) n1 (.lst [])) n2 (.lst [])) n3 (.lst [])) n5 (.lst [])) N (.lst [.ref n0, .ref n1, .ref n2, .ref n3, .ref A, .ref n5]) hd = none) :
    Ft H (upd (upd (upd (upd (upd (upd (upd H n0 (.lst [])) n1 (.lst [])) n2 (.lst [])) n3 (.lst [])) n5 (.lst [])) N (.lst [.ref n0, .ref n1, .ref n2, .ref n3, .ref A, .ref n5])) hd (.lst [])) N hd n0 n1 n2 n3 A n5 [] [] [] [] [] [] := by
  have a1 : ∀ {H : Hp} {x y : Addr} {o : HO}, upd H x o y = none → y ≠ x ∧ H y = none := fun {H x y o} h => by
    by_cases e : y = x
    · rw [e, upd_same] at h
      cases h
    · rw [upd_ne e] at h
      exact ⟨e, h⟩
  obtain ⟨c10, z1⟩ := a1 q1
  obtain ⟨c21, q2'⟩ := a1 q2
  obtain ⟨c20, z2⟩ := a1 q2'
  obtain ⟨c32, q3'⟩ := a1 q3
  obtain ⟨c31, q3''⟩ := a1 q3'
  obtain ⟨c30, z3⟩ := a1 q3''
  obtain ⟨c53, p5⟩ := a1 q5
  obtain ⟨c52, p5'⟩ := a1 p5
  obtain ⟨c51, p5''⟩ := a1 p5'
  obtain ⟨c50, z5⟩ := a1 p5''
  obtain ⟨cN5, pN⟩ := a1 qN
  obtain ⟨cN3, pN'⟩ := a1 pN
  obtain ⟨cN2, pN''⟩ := a1 pN'
  obtain ⟨cN1, pN3⟩ := a1 pN''
  obtain ⟨cN0, zN⟩ := a1 pN3
  obtain ⟨chN, ph⟩ := a1 qh
  obtain ⟨ch5, ph1⟩ := a1 ph
  obtain ⟨ch3, ph2⟩ := a1 ph1
  obtain ⟨ch2, ph3⟩ := a1 ph2
  obtain ⟨ch1, ph4⟩ := a1 ph3
  obtain ⟨ch0, zh⟩ := a1 ph4
  refine ⟨?_, ?_, ?_, ?_, ?_, ?_, ?_, ?_, q0, z1, z2, z3, z5, zN, zh, c10.symm, c20.symm, c30.symm, c50.symm, cN0.symm, ch0.symm, c21.symm, c31.symm, c51.symm, cN1.symm, ch1.symm, c32.symm, c52.symm, cN2.symm, ch2.symm, c53.symm, cN3.symm, ch3.symm, cN5.symm, ch5.symm, chN.symm⟩
  · exact same_upd (same_upd (same_upd (same_upd (same_upd (same_upd (same_new q0 _) z1) z2) z3) z5) zN) zh
  · rw [upd_ne ch0.symm, upd_ne cN0.symm, upd_ne c50.symm, upd_ne c30.symm, upd_ne c20.symm, upd_ne c10.symm, upd_same]
    rfl
  · rw [upd_ne ch1.symm, upd_ne cN1.symm, upd_ne c51.symm, upd_ne c31.symm, upd_ne c21.symm, upd_same]
    rfl
  · rw [upd_ne ch2.symm, upd_ne cN2.symm, upd_ne c52.symm, upd_ne c32.symm, upd_same]
    rfl
  · rw [upd_ne ch3.symm, upd_ne cN3.symm, upd_ne c53.symm, upd_same]
    rfl
  · rw [upd_ne ch5.symm, upd_ne cN5.symm, upd_same]
    rfl
  · rw [upd_ne chN.symm, upd_same]
  · rw [upd_same]
    rfl
section
variable {P : Program} {w : World} {K : PySem.W.Frag} {mg : Str → Option Value} {base : Heap}
theorem sc_lfaults : FnScope ["_law_names", "_law_lists", "_law_noted", "_law_heads", "_law_at", "_law_k", "_law_items", "_law_bare", "_law_great"] ["_law_names", "_law_lists"] (defScope (top 51)) := ⟨rfl, rfl, rfl, by decide +kernel, rfl, by decide +kernel, by decide +kernel⟩
theorem c_lfaults (T : Txt K mg) : Cal P w K mg base CX0 15 "_law_faults" ["_law_names", "_law_lists"] (spLF K) := by
  have C_look : Cal P w K mg base CX0 14 "_law_look" ["_law_items", "_law_later", "_law_at", "_law_alive", "_law_noted"] (spLook K DM) := c_look T DM
  obtain ⟨fd, F⟩ := T.d__law_faults
  refine ⟨⟨fd, fn0 F sc_lfaults (fun vs H Q E h => ?_) (fun cdv A outer s H vs Q E hr h => ?_), FunD.bindsN F fun _ _ _ _ _ _ us hl => match us, hl with | [_, _], _ => rfl⟩, T.k__law_faults, T.g__law_faults⟩
  · obtain ⟨_, _, _, _, _, _, _, rfl, _⟩ := h
    rfl
  obtain ⟨A, B, ns, as, ls, g, Z, rfl, hA, hB, pr, hl, hpl, kN, kM⟩ := h
  refine ⟨_, (pss_cons (ps_set (i := 2) sc_lfaults.nd rfl (.inl rfl) (pe_lst (pa_cons (pe_lst pa_nil) (pa_cons (pe_lst pa_nil) (pa_cons (pe_lst pa_nil) (pa_cons (pe_lst pa_nil) (pa_cons (pv 0) (pa_cons (pe_lst pa_nil) pa_nil))))))))
    (pss_cons (ps_set (i := 3) sc_lfaults.nd rfl (.inl rfl) (pe_lst pa_nil))
    (pss_cons (ps_set (i := 4) sc_lfaults.nd rfl (.inl rfl) pe_int)
    (pss_cons (ps_for PassesOwn.never rfl (pi_enum (by rfl) T.z_enumerate (pa_cons (pv 1) pa_nil)) (pg_tup rfl (pgs_cons (pg_name (i := 5) sc_lfaults.nd rfl (.inl rfl)) (pgs_cons (pg_name (i := 6) sc_lfaults.nd rfl (.inl rfl)) pgs_nil)))
      (pss_cons (ps_expr (pe_bm PySem.F.plainAttrs_list PySem.F.slot_list_append PySem.F.type_list_append mt_append (pv 3) (pa_cons (pe_op op_add (pv 4) pe_int) pa_nil)))
      (pss_cons (ps_asg (pe_lst pa_nil) (pg_sub (pv 2) pe_int set_list))
      (pss_cons (ps_asg (pe_lst pa_nil) (pg_sub (pv 2) pe_int set_list))
      (pss_cons (ps_set (i := 7) sc_lfaults.nd rfl (.inl rfl) (pe_or (pe_cmpR op_eq (pe_callB call_len_seq (by rfl) T.z_len PySem.boot_len (pa_cons (pv 6) pa_nil)) pe_int (by rfl)) (pe_one (pe_cmpR op_eq (pe_ix ix_list (pe_ix ix_list (pv 6) pe_int (fun _ _ => rfl)) pe_int (fun _ _ => rfl)) pe_str (by rfl)))))
      (pss_cons (ps_set (i := 4) sc_lfaults.nd rfl (.inl rfl) (pe_op op_add (pe_ix ix_tup (pcall C_look (hr.mono (by decide)) rfl pass0 (pa_cons (pv 6) (pa_cons (pe_slice sl_list (pv 0) (po_some (pe_op op_add (pv 5) pe_int)) po_none) (pa_cons (pe_op op_add (pv 4) pe_int) (pa_cons pe_bl (pa_cons (pv 2) pa_nil)))))) pe_int (fun _ _ => rfl)) pe_int))
      (pss_cons (ps_set (i := 8) sc_lfaults.nd rfl (.inl rfl) (pe_and (pe_cmpR op_gt (pe_callB call_len_seq (by rfl) T.z_len PySem.boot_len (pa_cons (pe_ix ix_list (pv 2) pe_int (fun _ _ => rfl)) pa_nil)) pe_int (by rfl)) (pe_one (pe_cmpR op_eq (pe_callB call_len_seq (by rfl) T.z_len PySem.boot_len (pa_cons (pe_ix ix_list (pv 2) pe_int (fun _ _ => rfl)) pa_nil)) pe_int (by rfl)))))
      (pss_one (ps_if (PW.pt (pw_or (pt_val (pv 7)) (pw_or (pt_val (pv 8)) (pw_or (pt_cmpR op_gt (pv 5) pe_int (by rfl)) (pw_or1 (pt_cmpR op_in_seq (pe_ix ix_list (pv 0) (pv 5) (fun _ _ => rfl)) (pe_slice sl_list (pv 0) po_none (po_some (pv 5))) (by rfl)))))))
        (pss_one (ps_expr (pe_bm PySem.F.plainAttrs_list PySem.F.slot_list_append PySem.F.type_list_append mt_append (pe_ix ix_list (pv 2) pe_int (fun _ _ => rfl)) (pa_cons (pe_ix ix_list (pv 3) (pv 5) (fun _ _ => rfl)) pa_nil))))
        pss_nil)))))))))
    (pss_cons (ps_for PassesOwn.never rfl (pi_range2 (by rfl) T.z_range (pa_cons pe_int (pa_cons (pe_callB call_len_seq (by rfl) T.z_len PySem.boot_len (pa_cons (pv 1) pa_nil)) pa_nil))) (pg_name (i := 5) sc_lfaults.nd rfl (.inl rfl))
      (pss_one (ps_if (pt_cmpR op_notIn_seq (pe_ix ix_list (pv 0) (pv 5) (fun _ _ => rfl)) (pe_ix ix_list (pv 2) pe_int (fun _ _ => rfl)) (by rfl))
        (pss_one (ps_expr (pe_bm PySem.F.plainAttrs_list PySem.F.slot_list_append PySem.F.type_list_append mt_append (pe_ix ix_list (pv 2) pe_int (fun _ _ => rfl)) (pa_cons (pe_ix ix_list (pv 3) (pv 5) (fun _ _ => rfl)) pa_nil))))
        pss_nil)))
    (pss_cons (ps_if (pt_cmpR op_gt (pe_callB call_len_seq (by rfl) T.z_len PySem.boot_len (pa_cons (pe_ix ix_list (pv 2) pe_int (fun _ _ => rfl)) pa_nil)) pe_int (by rfl))
      (pss_one (ps_expr (pe_bm PySem.F.plainAttrs_list PySem.F.slot_list_append PySem.F.type_list_append mt_append (pe_ix ix_list (pv 2) pe_int (fun _ _ => rfl)) (pa_cons (pe_ix ix_list (pe_ix ix_list (pv 2) pe_int (fun _ _ => rfl)) pe_int (fun _ _ => rfl)) pa_nil))))
      pss_nil)
    (pss_cons (ps_if (pt_cmpR op_eq (pe_callB call_len_seq (by rfl) T.z_len PySem.boot_len (pa_cons (pe_ix ix_list (pv 2) pe_int (fun _ _ => rfl)) pa_nil)) pe_int (by rfl))
      (pss_one (ps_ret pe_non))
      pss_nil)
    (pss_one (ps_ret (pe_callB (cr_min rfl) (by rfl) T.z_min (by decide +kernel) (pa_cons (pe_ix ix_list (pv 2) pe_int (fun _ _ => rfl)) pa_nil))))))))))), ?_⟩
  generalize eps : ns.zip ls = ps at *
  have plen := Paired.len pr
  have hl2 : ∀ l, ∀ {n : Str} {r : List (Str × L)} {i : Nat}, ps.drop i = (n, l) :: r → wl l ≤ pl ps := fun l n r i e => by
    have z : (n, l) ∈ ps := List.mem_of_mem_drop (by rw [e]; exact List.mem_cons_self ..)
    have key : ∀ {q : List (Str × L)}, (n, l) ∈ q → wl l ≤ pl q := by
      intro q hq
      induction q with
      | nil => cases hq
      | cons p r ih =>
        rw [pl_cons]
        rcases List.mem_cons.mp hq with e | hq
        · rw [← e]
          simp only [pwl]
          omega
        · have := ih hq
          omega
    exact key z
  have bz : ∀ {m : Nat}, m ≤ 4 * pl ps → m < 1000000 := fun h => by omega
  -- the new lists
  refine ⟨Nat.zero_le _, fun n0 q0 => ⟨Nat.zero_le _, fun n1 q1 => ⟨Nat.zero_le _, fun n2 q2 => ⟨Nat.zero_le _, fun n3 q3 => ⟨_, rfl, Nat.zero_le _, fun n5 q5 => ⟨(by show 6 ≤ sizeLine; decide), fun N qN => ⟨Nat.zero_le _, fun hd qh => ?_⟩⟩⟩⟩⟩⟩⟩
  have FT := ft_init (A := A) q0 q1 q2 q3 q5 qN qh
  refine ⟨_, rfl, B, _, rfl, SqL.of (FT.same _ _ hB), ?_⟩
  refine for_enum (xs := rf as) (fun i σ H' => ∃ (k : Nat) (n2 n5 : Addr) (f0 f1 f2 : List Nat) (s3 : List Str) (f5 hs : List Nat) (x5 x6 x7 x8 : Option V), σ = [some (.ref A), some (.ref B), some (.ref N), some (.ref hd), some (.int ((k : Nat) : Int)), x5, x6, x7, x8] ∧ Ft H H' N hd n0 n1 n2 n3 A n5 f0 f1 f2 s3 f5 hs ∧ i ≤ as.length ∧ hs.length = i ∧
    f0 ++ lfs ns (ps.drop i) i k = lfs ns ps 0 0 ∧ f1 ++ prws (ps.drop i) k = prws ps 0 ∧ s3 ++ (pcas ns (ps.drop i) k).map (·.1) = (pcas ns ps 0).map (·.1) ∧ hs ++ heads (ps.drop i) k = heads ps 0) ?_ ?_ ?_ ?_
  · exact ⟨0, n2, n5, [], [], [], [], [], [], none, none, none, none, rfl, FT, Nat.zero_le _, rfl, rfl, rfl, rfl, rfl⟩
  · rintro i σ H' _ ⟨k, n2, n5, f0, f1, f2, s3, f5, hs, x5, x6, x7, x8, rfl, W, _⟩
    exact SqL.of (W.same _ _ hB)
  · rintro i x σ H' Tn hx ⟨k, n2, n5, f0, f1, f2, s3, f5, hs, x5, x6, x7, x8, rfl, W, hi, ehs, E0, E1, E3, EH⟩ hTn
    unfold rf at hx
    rw [List.getElem?_map] at hx
    cases ei : as[i]? with
    | none => rw [ei] at hx; cases hx
    | some a =>
      rw [ei] at hx
      cases hx
      obtain ⟨l, el, g0_, ⟨xs, hxs, hu⟩, hw, hdl, hwl⟩ := Paired.get pr ei
      have hlt : i < as.length := (List.getElem?_eq_some_iff.mp ei).1
      have hlt2 : i < ns.length := by rw [hl]; exact hlt
      obtain ⟨n, en⟩ : ∃ n, ns[i]? = some n := ⟨ns[i], List.getElem?_eq_getElem hlt2⟩
      have ed : ps.drop i = (n, l) :: ps.drop (i + 1) := by rw [← eps]; exact drop_get (zip_get en el)
      rw [ed] at E0 E1 E3 EH
      have T0 := lfs_len ns ps 0 0
      have T1 := prws_len ps 0
      have T3 := pcas_len ns ps 0
      have TH := ps_len ps
      have L0 := congrArg List.length E0
      have L1 := congrArg List.length E1
      have L3 := congrArg List.length E3
      have LH := congrArg List.length EH
      simp only [lfs, lf1, prws, pcas, heads, List.length_append, List.length_cons, List.length_map, List.map_append, heads_len] at L0 L1 L3 LH
      refine ⟨Tn, _, rfl, SqT.of upd_same, rfl, _, _, rfl, _, _, rfl, rfl, ?_⟩
      have W1 := W.grow (same_new hTn (.tup [.int (i : Nat), .ref a]))
      generalize upd H' Tn (.tup [.int (i : Nat), .ref a]) = H1 at *
      refine pseq (fun H2 => Ft H H2 N hd n0 n1 n2 n3 A n5 f0 f1 f2 s3 f5 (hs ++ [k + 1])) (fun D1 gg => ?_) fun H2 W2 => ?_
      · refine ⟨_, rfl, .inl ⟨rfl, _, SqL.of W1.hh⟩, _, rfl, _, _, rfl, rfl, hd, _, _, rfl, rfl, W1.hh, (by rw [nI_len]; exact szl (by omega)), ?_⟩
        have z := gg _ (W1.seth (hs ++ [k + 1]))
        rw [← nI_snoc] at z
        exact z
      refine pseq (fun H3 => ∃ m2, Ft H H3 N hd n0 n1 m2 n3 A n5 f0 f1 [] s3 f5 (hs ++ [k + 1])) (fun D1 gg => ?_) ?_
      · exact ⟨Nat.zero_le _, fun m2 hm2 => ⟨_, rfl, N, [.ref n0, .ref n1, .ref n2, .ref n3, .ref A, .ref n5], _, 2, rfl, rfl, by rw [upd_ne (ne_of_none W2.hN hm2)]; exact W2.hN, rfl, gg _ ⟨m2, W2.new2 hm2⟩⟩⟩
      rintro H3 ⟨m2, W3⟩
      refine pseq (fun H4 => ∃ m5, Ft H H4 N hd n0 n1 m2 n3 A m5 f0 f1 [] s3 [] (hs ++ [k + 1])) (fun D1 gg => ?_) ?_
      · exact ⟨Nat.zero_le _, fun m5 hm5 => ⟨_, rfl, N, [.ref n0, .ref n1, .ref m2, .ref n3, .ref A, .ref n5], _, 5, rfl, rfl, by rw [upd_ne (ne_of_none W3.hN hm5)]; exact W3.hN, rfl, gg _ ⟨m5, W3.new5 hm5⟩⟩⟩
      rintro H4 ⟨m5, W4⟩
      -- bare
      refine pseqS (fun σ1 H5 => σ1 = [some (.ref A), some (.ref B), some (.ref N), some (.ref hd), some (.int ((k : Nat) : Int)), some (.int ((i : Nat) : Int)), some (.ref a), some (.bl (bare l)), x8] ∧ H5 = H4) (fun D1 _ gg => ?_) ?_
      · refine ⟨_, rfl, a, _, rfl, .inl (SqL.of (W4.same _ _ hxs)), rfl, _, rfl, ?_⟩
        rw [rf_len]
        cases xs with
        | nil =>
          have e := ul_nil hu
          subst e
          exact ifT rfl (gg _ _ ⟨rfl, rfl⟩)
        | cons y ys =>
          refine ifF (decide_eq_false (by show ¬ (V.int (((ys.length + 1 : Nat)) : Int) = V.int 0); intro z; injection z with z; omega)) ?_
          have rd : ∀ {s : Str} {rest : List V} {Q : VK}, H y = some (.lst (.str s :: rest)) → Q (.bl (decide (s = wBack))) H4 → tOp rEq (tOp (rIxL K) (tOp (rIxL K) (tVar 6) (tC (.int 0))) (tC (.int 0))) (tC (.str "back")) [some (.ref A), some (.ref B), some (.ref N), some (.ref hd), some (.int ((k : Nat) : Int)), some (.int ((i : Nat) : Int)), some (.ref a), x7, x8] H4 Q := fun {s rest Q} hy q => by
            refine ixv 0 rfl (W4.same _ _ hxs) rfl ⟨y, _, _, .str s, rfl, rfl, SqL.of (W4.same _ _ hy), (show atI _ ((0 : Nat) : Int) = _ from atI_nat rfl), rfl, ?_⟩
            rw [dstr]
            exact q
          cases l with
          | nil => exact absurd hu (by show ¬ (_ = _); simp)
          | lv r => obtain ⟨y', t', e, h1, h2, h3⟩ := hu; injection e with e1 e2; subst e1; exact rd h2 (gg _ _ ⟨rfl, rfl⟩)
          | bk r => obtain ⟨y', t', e, h1, h2, h3⟩ := hu; injection e with e1 e2; subst e1; exact rd h2 (gg _ _ ⟨rfl, rfl⟩)
          | dO n r => obtain ⟨y', t', e, h1, h2, h3⟩ := hu; injection e with e1 e2; subst e1; exact rd h2 (gg _ _ ⟨rfl, rfl⟩)
          | ca c r => obtain ⟨y', t', e, h1, h2, h3⟩ := hu; injection e with e1 e2; subst e1; exact rd h2 (gg _ _ ⟨rfl, rfl⟩)
          | fi n a1 b1 r => obtain ⟨y', t', p1, q1, ps1, qs1, e, h1, h2, _⟩ := hu; injection e with e1 e2; subst e1; exact rd h2 (gg _ _ ⟨rfl, rfl⟩)
          | wh n a1 r => obtain ⟨y', t', p1, ps1, e, h1, h2, _⟩ := hu; injection e with e1 e2; subst e1; exact rd h2 (gg _ _ ⟨rfl, rfl⟩)
      rintro σ1 H5 ⟨rfl, rfl⟩
      -- the look
      refine pseqS (fun σ1 H6 => σ1 = [some (.ref A), some (.ref B), some (.ref N), some (.ref hd), some (.int ((k + pwl l : Nat) : Int)), some (.int ((i : Nat) : Int)), some (.ref a), some (.bl (bare l)), x8] ∧ ∃ g2 : List Nat, g2.length = things l ∧
        Ft H H6 N hd n0 n1 m2 n3 A m5 (f0 ++ look0 ns (ns.drop (i + 1)) l (k + 2) true) (f1 ++ rws l (k + 2)) g2 (s3 ++ (cas ns l (k + 2)).map (·.1)) (dth l (k + 2) true) (hs ++ [k + 1])) (fun D1 _ gg => ?_) ?_
      · refine ⟨_, rfl, _, rfl, _, rfl, _, _, rfl, rfl, _, rfl, A, _, rfl, SqL.of (W4.same _ _ hA), fun Lt hLt => ?_⟩
        have e1 : ((i : Int) + 1) = ((i + 1 : Nat) : Int) := rfl
        rw [e1, cut_drop]
        have W5 := W4.grow (same_new hLt (.lst (sS (ns.drop (i + 1)))))
        have nL : ∀ {x : Addr} {u : HO}, H5 x = some u → Lt ≠ x := fun q => (ne_of_none q hLt).symm
        refine ⟨_, rfl, _, _, rfl, rfl, _, rfl, a, Lt, N, k + 2, true, _, n0, n1, m2, n3, A, m5, f0, f1, [], s3, [], ns, ns.drop (i + 1), g, l, false, xs, rfl, W5.cut, W5.base _ _ hxs, cutH_of upd_same (nL W4.h0) (nL W4.h1) (nL W4.h2) (nL W4.h3) (nL W4.h5), W5.base _ _ hA, hu.mono (Kp.of W5.base), hw, hdl, ?_, ?_, ?_, ?_, ?_, fun H6 t g2 VV eg et => ?_⟩
        · have := look0_len ns (ns.drop (i + 1)) l (k + 2) true
          simp only [List.length_append]
          omega
        · simp only [List.length_append]
          omega
        · have := things_len l
          have z := hl2 l ed
          simp only [List.length_nil]
          omega
        · simp only [List.length_append, List.length_map]
          omega
        · have := dth_len l (k + 2) true
          have z := hl2 l ed
          simp only [List.nil_append]
          omega
        have W6 := W5.back VV
        refine ⟨t, _, _, .int ((k + 2 + wl l : Nat) : Int), rfl, rfl, SqT.of et, rfl, _, _, rfl, rfl, ?_⟩
        refine gg _ _ ⟨?_, g2, ?_, W6⟩
        · have e : ((k + 2 + wl l : Nat) : Int) + 1 = ((k + pwl l : Nat) : Int) := by simp only [pwl]; omega
          show [_, _, _, _, some (V.int (((k + 2 + wl l : Nat) : Int) + 1)), _, _, _, _] = _
          rw [e]
        · rw [eg]
          show 0 + _ = _
          omega
      rintro σ1 H6 ⟨rfl, g2, eg, W6⟩
      -- great
      refine pseqS (fun σ1 H7 => σ1 = [some (.ref A), some (.ref B), some (.ref N), some (.ref hd), some (.int ((k + pwl l : Nat) : Int)), some (.int ((i : Nat) : Int)), some (.ref a), some (.bl (bare l)), some (.bl (decide (15 < things l) && (dth l (k + 2) true).isEmpty))] ∧ H7 = H6) (fun D1 _ gg => ?_) ?_
      · refine ixv 2 rfl W6.hN rfl ⟨m2, _, rfl, .inl (SqL.of W6.h2), _, _, rfl, rfl, _, rfl, ?_⟩
        rw [nI_len, eg]
        by_cases q : 15 < things l
        · refine ifT (decide_eq_true (by omega)) ?_
          refine ixv 5 rfl W6.hN rfl ⟨m5, _, rfl, .inl (SqL.of W6.h5), rfl, ?_⟩
          rw [nI_len]
          refine gg _ _ ⟨?_, rfl⟩
          have e : decide (V.int (((dth l (k + 2) true).length : Nat) : Int) = V.int 0) = (dth l (k + 2) true).isEmpty := by
            rw [← isE_len]
            exact decide_eq_decide.mpr ⟨fun z => by injection z, fun z => by rw [z]⟩
          rw [e, decide_eq_true q, Bool.true_and]
          rfl
        · refine ifF (decide_eq_false (by omega)) (gg _ _ ⟨?_, rfl⟩)
          rw [decide_eq_false q, Bool.false_and]
          rfl
      rintro σ1 H7 ⟨rfl, rfl⟩
      -- the head is noted
      dsimp only
      refine pone (fun H8 => Ft H H8 N hd n0 n1 m2 n3 A m5 (f0 ++ look0 ns (ns.drop (i + 1)) l (k + 2) true ++ (if bare l = true ∨ (15 < things l ∧ (dth l (k + 2) true).isEmpty = true) ∨ 3 < i ∨ n ∈ ns.take i then [k + 1] else [])) (f1 ++ rws l (k + 2)) g2 (s3 ++ (cas ns l (k + 2)).map (·.1)) (dth l (k + 2) true) (hs ++ [k + 1])) (fun D1 gg => ?_) fun H8 W8 => ?_
      rotate_left
      · refine ⟨k + pwl l, m2, m5, _, _, g2, _, _, _, some (.int ((i : Nat) : Int)), some (.ref a), some (.bl (bare l)), some (.bl (decide (15 < things l) && (dth l (k + 2) true).isEmpty)), rfl, W8, hlt, ?_, ?_, ?_, ?_, ?_⟩
        · rw [List.length_append, ehs]
          rfl
        · rw [← E0]
          simp only [lfs, lf1, List.append_assoc]
        · rw [← E1]
          simp only [prws, List.append_assoc]
        · rw [← E3]
          simp only [pcas, List.append_assoc, List.map_append]
        · rw [← EH]
          simp only [heads, List.append_assoc, List.cons_append, List.nil_append]
      have hat : (hs ++ [k + 1])[i]? = some (k + 1) := by rw [← ehs]; simp
      have yes : ∀ {Hx : Hp}, Ft H Hx N hd n0 n1 m2 n3 A m5 (f0 ++ look0 ns (ns.drop (i + 1)) l (k + 2) true) (f1 ++ rws l (k + 2)) g2 (s3 ++ (cas ns l (k + 2)).map (·.1)) (dth l (k + 2) true) (hs ++ [k + 1]) → (bare l = true ∨ (15 < things l ∧ (dth l (k + 2) true).isEmpty = true) ∨ 3 < i ∨ n ∈ ns.take i) →
          tBM K "list" rAppend (tOp (rIxL K) (tVar 2) (tC (.int 0))) (tCons (tOp (rIxL K) (tVar 3) (tVar 5)) tNil) [some (.ref A), some (.ref B), some (.ref N), some (.ref hd), some (.int ((k + pwl l : Nat) : Int)), some (.int ((i : Nat) : Int)), some (.ref a), some (.bl (bare l)), some (.bl (decide (15 < things l) && (dth l (k + 2) true).isEmpty))] Hx (fun _ H8 => D1.nx [some (.ref A), some (.ref B), some (.ref N), some (.ref hd), some (.int ((k + pwl l : Nat) : Int)), some (.int ((i : Nat) : Int)), some (.ref a), some (.bl (bare l)), some (.bl (decide (15 < things l) && (dth l (k + 2) true).isEmpty))] H8) := fun {Hx} Wx q => by
        refine ixv 0 rfl Wx.hN rfl ⟨.inl ⟨rfl, _, SqL.of Wx.h0⟩, _, rfl, _, rfl, hd, _, _, .int ((k + 1 : Nat) : Int), rfl, rfl, SqL.of Wx.hh, atI_nat (by unfold nI; rw [List.getElem?_map, hat] <;> rfl), n0, _, _, rfl, rfl, Wx.h0, ?_, ?_⟩
        · rw [nI_len, List.length_append]
          exact szl (by have := look0_len ns (ns.drop (i + 1)) l (k + 2) true; omega)
        · have z := gg _ (by rw [if_pos q]; exact Wx.set0 (f0 ++ look0 ns (ns.drop (i + 1)) l (k + 2) true ++ [k + 1]))
          rw [← nI_snoc] at z
          exact z
      have no : ∀ {Hx : Hp}, Ft H Hx N hd n0 n1 m2 n3 A m5 (f0 ++ look0 ns (ns.drop (i + 1)) l (k + 2) true) (f1 ++ rws l (k + 2)) g2 (s3 ++ (cas ns l (k + 2)).map (·.1)) (dth l (k + 2) true) (hs ++ [k + 1]) → ¬ (bare l = true ∨ (15 < things l ∧ (dth l (k + 2) true).isEmpty = true) ∨ 3 < i ∨ n ∈ ns.take i) → D1.nx [some (.ref A), some (.ref B), some (.ref N), some (.ref hd), some (.int ((k + pwl l : Nat) : Int)), some (.int ((i : Nat) : Int)), some (.ref a), some (.bl (bare l)), some (.bl (decide (15 < things l) && (dth l (k + 2) true).isEmpty))] Hx := fun {Hx} Wx q => gg _ (by rw [if_neg q, List.append_nil]; exact Wx)
      refine ⟨_, rfl, bare l, rfl, ?_⟩
      rcases Bool.eq_false_or_eq_true (bare l) with eb | eb
      · exact ifT eb (yes W6 (.inl eb))
      refine ifF eb ⟨_, rfl, (decide (15 < things l) && (dth l (k + 2) true).isEmpty), rfl, ?_⟩
      rcases Bool.eq_false_or_eq_true (decide (15 < things l) && (dth l (k + 2) true).isEmpty) with eg2 | eg2
      · refine ifT eg2 (yes W6 (.inr (.inl ?_)))
        obtain ⟨z1, z2⟩ := Bool.and_eq_true_iff.mp eg2
        exact ⟨of_decide_eq_true z1, z2⟩
      have ng : ¬ (15 < things l ∧ (dth l (k + 2) true).isEmpty = true) := fun z => by
        rw [decide_eq_true z.1, z.2] at eg2
        cases eg2
      refine ifF eg2 ⟨_, rfl, _, _, rfl, rfl, _, rfl, ?_⟩
      by_cases q3 : 3 < i
      · exact ifT (decide_eq_true (by omega)) (yes W6 (.inr (.inr (.inl q3))))
      refine ifF (decide_eq_false (by omega)) ?_
      refine ⟨_, rfl, _, rfl, A, _, _, .str n, rfl, rfl, SqL.of (W6.same _ _ hA), atI_mid en, ?_⟩
      refine ⟨_, rfl, _, rfl, _, rfl, A, _, rfl, SqL.of (W6.same _ _ hA), fun Lt hLt => ?_⟩
      rw [cut_take]
      refine ⟨Lt, _, rfl, .inl (SqL.of upd_same), rfl, flatS _, _, rfl, ?_⟩
      have W7 := W6.grow (same_new hLt (.lst (sS (ns.take i))))
      show (if (inV (.str n) (sS (ns.take i))) = true then _ else _)
      rw [inV_S]
      by_cases q4 : n ∈ ns.take i
      · exact ifT (decide_eq_true q4) (yes W7 (.inr (.inr (.inr q4))))
      · refine ifF (decide_eq_false q4) (no W7 fun z => ?_)
        rcases z with z | z | z | z
        · rw [eb] at z
          cases z
        · exact ng z
        · exact q3 z
        · exact q4 z
  · rintro σ H' ⟨k, n2, n5, f0, f1, f2, s3, f5, hs, x5, x6, x7, x8, rfl, W, hi, ehs, E0, E1, E3, EH⟩
    have lp : ps.length = as.length := by rw [← eps, List.length_zip]; omega
    have e : ps.drop (rf as).length = [] := by rw [rf_len, ← lp]; exact List.drop_length
    rw [e] at E0 E1 E3 EH
    simp only [lfs, prws, pcas, heads, List.append_nil, List.map_nil] at E0 E1 E3 EH
    subst E0 E1 E3 EH
    have T0 := lfs_len ns ps 0 0
    have T1 := prws_len ps 0
    have T3 := pcas_len ns ps 0
    have TH := ps_len ps
    have ens : ps.map (·.1) = ns := by rw [← eps]; exact zip_fst (by omega)
    generalize ecl : (pcas ns ps 0).map (·.1) = called at *
    refine ⟨_, rfl, B, _, rfl, .inl (SqL.of (W.same _ _ hB)), 1, _, rfl, ?_, ?_⟩
    · rw [rf_len]
      refine ⟨by decide, by decide, by omega, ?_⟩
      have z : as.length < 200000 := by omega
      omega
    refine for_range (lo := 1) (fun j σ H' => ∃ (g0 : List Nat) (x5 : Option V), σ = [some (.ref A), some (.ref B), some (.ref N), some (.ref hd), some (.int ((k : Nat) : Int)), x5, x6, x7, x8] ∧ Ft H H' N hd n0 n1 n2 n3 A n5 g0 (prws ps 0) f2 called f5 (heads ps 0) ∧ g0 ++ ((ns.zip (heads ps 0)).drop (j + 1)).flatMap (unF called) = lfs ns ps 0 0 ++ luns called ps 0) ?_ ?_ ?_
    · refine ⟨lfs ns ps 0 0, x5, rfl, W, ?_⟩
      rw [luns_drop, ens]
    · rintro j σ H' hj ⟨g0, x5, rfl, W, E⟩
      rw [rf_len] at hj
      have hj2 : j + 1 < as.length := by omega
      obtain ⟨n, en⟩ : ∃ n, ns[j + 1]? = some n := ⟨ns[j + 1]'(by omega), List.getElem?_eq_getElem _⟩
      have hlen := heads_len ps 0
      obtain ⟨m, em⟩ : ∃ m, (heads ps 0)[j + 1]? = some m := ⟨(heads ps 0)[j + 1]'(by omega), List.getElem?_eq_getElem _⟩
      rw [drop_get (zip_get en em), List.flatMap_cons, ← List.append_assoc] at E
      have LE := congrArg List.length E
      have TU := unF_len called ((ps.map (·.1)).zip (heads ps 0))
      have TU2 : (luns called ps 0).length ≤ ps.length := by
        rw [luns_drop]
        refine Nat.le_trans (unF_len _ _) ?_
        rw [List.length_drop, List.length_zip, List.length_map]
        omega
      simp only [List.length_append] at LE
      have ej : (1 : Int) + ((j : Nat) : Int) = ((j + 1 : Nat) : Int) := by omega
      show gName 5 (V.int (1 + ((j : Nat) : Int))) _ _ _
      rw [ej]
      refine ⟨_, rfl, _, rfl, A, _, _, .str n, rfl, rfl, SqL.of (W.same _ _ hA), atI_mid en, ?_⟩
      refine ixv 3 rfl W.hN rfl ⟨n3, _, rfl, .inl (SqL.of W.h3), rfl, flatS _, _, rfl, ?_⟩
      show (if (!inV (.str n) (sS called)) = true then _ else _)
      rw [inV_S]
      by_cases q : n ∈ called
      · rw [decide_eq_true q]
        refine ifF rfl ⟨g0, _, rfl, W, ?_⟩
        rw [← E]
        unfold unF
        rw [if_pos q, List.append_nil]
      · rw [decide_eq_false q]
        refine ifT rfl ?_
        refine ixv 0 rfl W.hN rfl ⟨.inl ⟨rfl, _, SqL.of W.h0⟩, _, rfl, _, rfl, hd, _, _, .int ((m : Nat) : Int), rfl, rfl, SqL.of W.hh, atI_nat (by unfold nI; rw [List.getElem?_map, em] <;> rfl), n0, _, _, rfl, rfl, W.h0, ?_, ?_⟩
        · rw [nI_len]
          exact szl (by omega)
        · have W2 := W.set0 (g0 ++ [m])
          rw [← nI_snoc] at W2
          refine ⟨g0 ++ [m], _, rfl, W2, ?_⟩
          rw [← E]
          unfold unF
          rw [if_neg q]
    · rintro σ H' ⟨g0, x5, rfl, W, E⟩
      have e : (ns.zip (heads ps 0)).drop (((((rf as).length : Nat) : Int) - 1).toNat + 1) = [] := by
        refine List.drop_eq_nil_of_le ?_
        rw [List.length_zip, rf_len, heads_len]
        omega
      rw [e] at E
      have E' : g0 = lfs ns ps 0 0 ++ luns called ps 0 := by
        rw [← E]
        show g0 = g0 ++ []
        rw [List.append_nil]
      have TU2 : (luns called ps 0).length ≤ ps.length := by
        rw [luns_drop]
        refine Nat.le_trans (unF_len _ _) ?_
        rw [List.length_drop, List.length_zip, List.length_map]
        omega
      have L0 := congrArg List.length E'
      rw [List.length_append] at L0
      have eF : lawF ns ps = g0 ++ ((prws ps 0)[30]?).toList := by
        rw [E']
        unfold lawF
        rw [ecl, List.append_assoc]
      dsimp only
      refine pseq (fun H2 => Ft H H2 N hd n0 n1 n2 n3 A n5 (lawF ns ps) (prws ps 0) f2 called f5 (heads ps 0)) (fun D1 gg => ?_) fun H2 W2 => ?_
      · refine ixv 1 rfl W.hN rfl ⟨n1, _, rfl, .inl (SqL.of W.h1), _, _, rfl, rfl, _, rfl, ?_⟩
        rw [nI_len]
        rw [eF] at gg
        by_cases q : 30 < (prws ps 0).length
        · refine ifT (decide_eq_true (by omega)) ?_
          have e30 : (prws ps 0)[30]? = some (prws ps 0)[30] := List.getElem?_eq_getElem q
          rw [e30] at gg
          refine ixv 0 rfl W.hN rfl ⟨.inl ⟨rfl, _, SqL.of W.h0⟩, ?_⟩
          refine ixv 1 rfl W.hN rfl ⟨n1, _, _, .int (((prws ps 0)[30] : Nat) : Int), rfl, rfl, SqL.of W.h1, (show atI _ ((30 : Nat) : Int) = _ from atI_nat (by unfold nI; rw [List.getElem?_map, e30] <;> rfl)), n0, _, _, rfl, rfl, W.h0, (by rw [nI_len]; exact szl (by omega)), ?_⟩
          have z := gg _ (W.set0 (g0 ++ [(prws ps 0)[30]]))
          rw [← nI_snoc] at z
          exact z
        · refine ifF (decide_eq_false (by omega)) (gg _ ?_)
          rw [List.getElem?_eq_none (Nat.le_of_not_lt q)]
          show Ft H H' N hd n0 n1 n2 n3 A n5 (g0 ++ []) _ _ _ _ _
          rw [List.append_nil]
          exact W
      refine ixv 0 rfl W2.hN rfl ⟨n0, _, rfl, .inl (SqL.of W2.h0), rfl, _, rfl, ?_⟩
      rw [nI_len]
      have en : decide (V.int (((lawF ns ps).length : Nat) : Int) = V.int 0) = (lawF ns ps).isEmpty := by
        rw [← isE_len]
        exact decide_eq_decide.mpr ⟨fun z => by injection z, fun z => by rw [z]⟩
      rw [en]
      cases eL : lawF ns ps with
      | nil => exact ifT rfl (kN eL _ W2.same)
      | cons f r =>
        refine ifF rfl ?_
        refine ixv 0 rfl W2.hN rfl ⟨n0, (f :: r).map fun n : Nat => ((n : Nat) : Int), rfl, ?_, (by simp), fun m hm hmin => ?_⟩
        · have z := W2.h0
          rw [eL] at z
          have e : ((f :: r).map fun n : Nat => ((n : Nat) : Int)).map V.int = nI (f :: r) := List.map_map
          rw [e]
          exact SqL.of z
        · obtain ⟨m0, hm0, rfl⟩ := List.mem_map.mp hm
          refine kM m0 _ (by rw [eL]; exact hm0) (fun y hy => ?_) W2.same
          rw [eL] at hy
          have z := hmin ((y : Nat) : Int) (List.mem_map.mpr ⟨y, hy, rfl⟩)
          omega
end
end Fc

set_option Elab.async false
set_option linter.all false
set_option maxRecDepth 100000
set_option maxHeartbeats 4000000
namespace Fc
open PySem PySem.Spec PyProof.Rows L2 He
/-! the law: drawing -/
theorem Same.sql {K : PySem.W.Frag} {H H' : Hp} {a : Addr} {xs : List V} (e : Same H H') (h : SqL K H a xs) : SqL K H' a xs := by
  rcases h with (h | ⟨o, h⟩) | h
  · exact .inl (.inl (e _ _ h))
  · exact .inl (.inr ⟨o, e _ _ h⟩)
  · exact .inr h
theorem atI_in {α : Type} {xs : List α} {i : Int} (h0 : 0 ≤ i) (h : i < xs.length) : ∃ (j : Nat) (v : α), i = (j : Int) ∧ xs[j]? = some v ∧ atI xs i = some v := by
  obtain ⟨j, rfl⟩ := Int.eq_ofNat_of_zero_le h0
  have hj : j < xs.length := by omega
  exact ⟨j, xs[j], rfl, List.getElem?_eq_getElem hj, atI_nat (List.getElem?_eq_getElem hj)⟩
abbrev TOP : Int := 2147483587
def spMixed (K : PySem.W.Frag) : L2.Sp := fun vs H Q _ => ∃ (S : Addr) (zs : List Int) (k : Int), vs = [.ref S, .int k] ∧ SqL K H S (zs.map V.int) ∧ 0 ≤ k ∧ k < 1073741824 ∧ ∀ n : Int, 0 ≤ n → n < TOP → Q (.int n) H
theorem ints_get {zs : List Int} {i : Nat} {v : V} (h : (zs.map V.int)[i]? = some v) : ∃ z, v = .int z := by
  rw [List.getElem?_map] at h
  cases e : zs[i]? with
  | none => rw [e] at h; cases h
  | some z => rw [e] at h; cases h; exact ⟨z, rfl⟩
/-- the script, whatever is written at pn -/
def Scr (K : PySem.W.Frag) (H : Hp) (pn S : Addr) (zs : List Int) : Prop := ∃ Hs : Hp, SqL K Hs S (zs.map V.int) ∧ Same Hs H ∧ Hs pn = none
theorem Scr.sql {K : PySem.W.Frag} {H : Hp} {pn S : Addr} {zs : List Int} (h : Scr K H pn S zs) : SqL K H S (zs.map V.int) := by
  obtain ⟨Hs, a, b, _⟩ := h
  exact Same.sql b a
theorem Scr.pen {K : PySem.W.Frag} {H : Hp} {pn S : Addr} {zs : List Int} {o : HO} (h : Scr K H pn S zs) : Scr K (upd H pn o) pn S zs := by
  obtain ⟨Hs, a, b, c⟩ := h
  exact ⟨Hs, a, same_upd b c, c⟩
def spPull (K : PySem.W.Frag) : L2.Sp := fun vs H Q _ => ∃ (pn S : Addr) (zs : List Int) (k z : Int), vs = [.ref pn] ∧ H pn = some (.lst [.ref S, .int k, .int z]) ∧ Scr K H pn S zs ∧ 0 ≤ k ∧ k < 1000000000 ∧ ∀ n : Int, 0 ≤ n → n < TOP → Q (.int n) (upd H pn (.lst [.ref S, .int (k + 1), .int z]))
def spLName : L2.Sp := fun vs H Q _ => ∃ n : Int, vs = [.int n] ∧ 0 ≤ n ∧ n < TOP ∧ ∀ s H', Nm s → Same H H' → Q (.str s) H'
theorem sql_upd {K : PySem.W.Frag} {H : Hp} {a b : Addr} {o : HO} {xs : List V} (h : SqL K H a xs) (n : a ≠ b) : SqL K (upd H b o) a xs := by
  rcases h with (h | ⟨u, h⟩) | h
  · exact .inl (.inl (by rw [upd_ne n]; exact h))
  · exact .inl (.inr ⟨u, by rw [upd_ne n]; exact h⟩)
  · exact .inr h
theorem nm_one {c : Nat} (h : c ∈ ABC.cps.toList) : 97 ≤ c ∧ c ≤ 122 := by
  have all : ∀ c ∈ ABC.cps.toList, 97 ≤ c ∧ c ≤ 122 := by decide +kernel
  exact all c h
theorem nm_snoc {s : Str} {c : Nat} (h : s.cps.size ≤ 7 ∧ ∀ c ∈ s.cps.toList, 97 ≤ c ∧ c ≤ 122) (hc : c ∈ ABC.cps.toList) : (s ++ (⟨#[c]⟩ : Str)).cps.size = s.cps.size + 1 ∧ Nm (s ++ (⟨#[c]⟩ : Str)) := by
  have e : (s ++ (⟨#[c]⟩ : Str)).cps = s.cps ++ #[c] := rfl
  have e2 : (s ++ (⟨#[c]⟩ : Str)).cps.size = s.cps.size + 1 := by rw [e]; simp
  refine ⟨e2, by rw [e2]; omega, by rw [e2]; omega, fun d hd => ?_⟩
  rw [e, Array.toList_append, List.mem_append] at hd
  rcases hd with hd | hd
  · exact h.2 d hd
  · have hd' : d = c := by simpa using hd
    rw [hd']
    exact nm_one hc
abbrev KW : List Str := [wPart, wEnd, wDo, wCall, wIf, wElse, wWhile, wLeave, wBack]
theorem kw_nm : ∀ s ∈ KW, Nm s ∧ s.cps.size ≤ 7 := by
  unfold Nm
  decide +kernel
section
variable {P : Program} {w : World} {K : PySem.W.Frag} {mg : Str → Option Value} {base : Heap}
theorem sc_mixed : FnScope ["_law_script", "_law_k", "_law_at", "_law_cell", "_law_j", "_law_number"] ["_law_script", "_law_k"] (defScope (top 37)) := ⟨rfl, rfl, rfl, by decide +kernel, rfl, by decide +kernel, by decide +kernel⟩
theorem c_mixed (T : Txt K mg) : Cal P w K mg base CX0 1 "_law_mixed" ["_law_script", "_law_k"] (spMixed K) := by
  obtain ⟨fd, F⟩ := T.d__law_mixed
  refine ⟨⟨fd, fn0 F sc_mixed (fun vs H Q E h => ?_) (fun cdv A outer s H vs Q E hr h => ?_), FunD.bindsN F fun _ _ _ _ _ _ us hl => match us, hl with | [_, _], _ => rfl⟩, T.k__law_mixed, T.g__law_mixed⟩
  · obtain ⟨_, _, _, rfl, _⟩ := h
    rfl
  obtain ⟨S, zs, k, rfl, hS, k0, k1, g⟩ := h
  refine ⟨_, (pss_cons (ps_set (i := 2) sc_mixed.nd rfl (.inl rfl) (pe_op op_mod (pe_op op_fdiv (pv 1) pe_int) pe_int))
    (pss_cons (ps_if (PW.pt (pw_and (pt_cmpR op_lt (pv 2) (pe_callB call_len_seq (by rfl) T.z_len PySem.boot_len (pa_cons (pv 0) pa_nil)) (by rfl)) (pw_and1 (pt_cmpR op_ge (pe_ix ix_list (pv 0) (pv 2) (fun _ _ => rfl)) (pe_op op_pow pe_int pe_int) (by rfl)))))
      (pss_cons (ps_set (i := 3) sc_mixed.nd rfl (.inl rfl) (pe_op op_fdivW (pe_ix ix_list (pv 0) (pv 2) (fun _ _ => rfl)) (pe_op op_pow pe_int pe_int)))
      (pss_cons (ps_for PassesOwn.never rfl (pi_range1 (by rfl) T.z_range (pa_cons (pe_op op_mod (pv 1) pe_int) pa_nil)) (pg_name (i := 4) sc_mixed.nd rfl (.inl rfl))
        (pss_one (ps_set (i := 3) sc_mixed.nd rfl (.inl rfl) (pe_op op_fdivW (pv 3) pe_int))))
      (pss_one (ps_if (pt_cmpR op_gt (pv 3) pe_int (by rfl))
        (pss_one (ps_ret (pe_op op_mod (pv 3) pe_int)))
        pss_nil))))
      pss_nil)
    (pss_cons (ps_set (i := 3) sc_mixed.nd rfl (.inl rfl) pe_int)
    (pss_cons (ps_if (pt_cmpR op_gt (pe_callB call_len_seq (by rfl) T.z_len PySem.boot_len (pa_cons (pv 0) pa_nil)) pe_int (by rfl))
      (pss_one (ps_set (i := 3) sc_mixed.nd rfl (.inl rfl) (pe_ix ix_list (pv 0) (pe_op op_mod (pv 1) (pe_callB (call_min2 rfl) (by rfl) T.z_min (by decide +kernel) (pa_cons pe_int (pa_cons (pe_callB call_len_seq (by rfl) T.z_len PySem.boot_len (pa_cons (pv 0) pa_nil)) pa_nil)))) (fun _ _ => rfl))))
      pss_nil)
    (pss_cons (ps_set (i := 5) sc_mixed.nd rfl (.inl rfl) (pe_op op_add (pe_op op_mod (pv 3) (pe_op op_pow pe_int pe_int)) (pe_op op_mul pe_int (pe_op op_add (pv 1) pe_int))))
    (pss_cons (ps_set (i := 5) sc_mixed.nd rfl (.inl rfl) (pe_op op_add (pe_op op_mod (pe_op op_mul (pv 5) (pv 5)) pe_int) (pe_op op_mul pe_int (pv 1))))
    (pss_one (ps_ret (pe_op op_mod (pe_op op_mul (pv 5) (pv 5)) pe_int))))))))), ?_⟩
  have hT : ∀ x : Int, 0 ≤ x % TOP ∧ x % TOP < TOP := fun x => ⟨Int.emod_nonneg _ (by decide), Int.emod_lt_of_pos _ (by decide)⟩
  have hP : CPow 10 18 := ⟨by decide, by decide, by decide⟩
  have hW : CDivW 0 (10 ^ (18 : Int).toNat) ∧ CDivW 0 2147483587 := ⟨wide_div (b := 64) (by decide) (by decide) (by decide) (by decide), wide_div (b := 64) (by decide) (by decide) (by decide) (by decide)⟩
  have at0 : 0 ≤ k / 8 % 63 := Int.emod_nonneg _ (by decide)
  -- the second half
  have rest : ∀ (x2 x3 x4 x5 : Option V) (D : Ends), (∀ n : Int, 0 ≤ n → n < TOP → D.rt (.int n) H) → ∀ c : Int, ∃ n : Int, True := fun _ _ _ _ _ _ c => ⟨c, trivial⟩
  refine ⟨_, rfl, _, _, rfl, rfl, ⟨by decide, by decide⟩, _, _, rfl, rfl, (by show (0 : Int) < 63; decide), ?_⟩
  try dsimp only
  refine pseqS (fun σ1 H1 => (∃ x3 x4 : Option V, σ1 = [some (.ref S), some (.int k), some (.int (k / 8 % 63)), x3, x4, none]) ∧ H = H1) (fun D1 rt gg => ?_) ?_
  · refine ⟨_, rfl, _, rfl, S, _, rfl, .inl hS, _, _, rfl, rfl, _, rfl, ?_⟩
    by_cases q : k / 8 % 63 < ((zs.map V.int).length : Int)
    · refine ifT (decide_eq_true q) ?_
      obtain ⟨j, v, ej, ev, ea⟩ := atI_in at0 q
      obtain ⟨z, rfl⟩ := ints_get ev
      refine ⟨_, rfl, _, rfl, S, _, _, .int z, rfl, rfl, hS, ea, _, _, rfl, rfl, hP, _, _, rfl, rfl, _, rfl, ?_⟩
      by_cases q2 : (10 : Int) ^ (18 : Int).toNat ≤ z
      · refine ifT (decide_eq_true q2) ?_
        refine ⟨_, rfl, _, rfl, S, _, _, .int z, rfl, rfl, hS, ea, _, _, rfl, rfl, hP, _, _, rfl, rfl, hW.1, ?_⟩
        refine ⟨_, rfl, _, _, rfl, rfl, (by show (0 : Int) < 8; decide), _, rfl, ?_, ?_, ?_⟩
        · have := Int.emod_nonneg k (b := 8) (by decide)
          omega
        · have := Int.emod_lt_of_pos k (b := 8) (by decide)
          omega
        refine for_range (lo := 0) (fun i σ H' => ∃ (c : Int) (x4 : Option V), σ = [some (.ref S), some (.int k), some (.int (k / 8 % 63)), some (.int c), x4, none] ∧ H' = H) ?_ ?_ ?_
        · exact ⟨_, none, rfl, rfl⟩
        · rintro i σ H' hi ⟨c, x4, rfl, rfl⟩
          exact ⟨_, rfl, _, _, rfl, rfl, hW.2, _, _, rfl, rfl⟩
        · rintro σ H' ⟨c, x4, rfl, rfl⟩
          refine ⟨_, rfl, _, _, rfl, rfl, _, rfl, ?_⟩
          by_cases q3 : 0 < c
          · refine ifT (decide_eq_true q3) ⟨_, rfl, _, _, rfl, rfl, (by show (0 : Int) < 2147483587; decide), ?_⟩
            rw [rt]
            exact g _ (hT c).1 (hT c).2
          · exact ifF (decide_eq_false q3) (gg _ _ ⟨⟨_, _, rfl⟩, rfl⟩)
      · exact ifF (decide_eq_false q2) (gg _ _ ⟨⟨_, _, rfl⟩, rfl⟩)
    · exact ifF (decide_eq_false q) (gg _ _ ⟨⟨_, _, rfl⟩, rfl⟩)
  rintro σ1 H1 ⟨⟨x3, x4, rfl⟩, rfl⟩
  try dsimp only
  refine pseqS (fun σ1 H1 => (∃ c : Int, σ1 = [some (.ref S), some (.int k), some (.int (k / 8 % 63)), some (.int c), x4, none]) ∧ H = H1) (fun D1 rt gg => gg _ _ ⟨⟨0, rfl⟩, rfl⟩) ?_
  rintro σ1 H1 ⟨⟨c0, rfl⟩, rfl⟩
  try dsimp only
  refine pseqS (fun σ1 H1 => (∃ c : Int, σ1 = [some (.ref S), some (.int k), some (.int (k / 8 % 63)), some (.int c), x4, none]) ∧ H = H1) (fun D1 rt gg => ?_) ?_
  · refine ⟨_, rfl, S, _, rfl, .inl hS, _, _, rfl, rfl, _, rfl, ?_⟩
    by_cases q : 0 < ((zs.map V.int).length : Int)
    · refine ifT (decide_eq_true q) ?_
      have hm : 0 < (if ((zs.map V.int).length : Int) < 63 then ((zs.map V.int).length : Int) else 63) := by split <;> omega
      have hm2 : (if ((zs.map V.int).length : Int) < 63 then ((zs.map V.int).length : Int) else 63) ≤ ((zs.map V.int).length : Int) := by split <;> omega
      have h1 := Int.emod_nonneg k (b := (if ((zs.map V.int).length : Int) < 63 then ((zs.map V.int).length : Int) else 63)) (by omega)
      have h2 := Int.emod_lt_of_pos k hm
      obtain ⟨j, v, ej, ev, ea⟩ := atI_in (xs := zs.map V.int) h1 (by omega)
      obtain ⟨z, rfl⟩ := ints_get ev
      refine ⟨_, rfl, _, rfl, _, rfl, S, _, rfl, .inl hS, _, _, rfl, _, _, rfl, rfl, hm, S, _, _, .int z, rfl, rfl, hS, ea, gg _ _ ⟨⟨z, rfl⟩, rfl⟩⟩
    · exact ifF (decide_eq_false q) (gg _ _ ⟨⟨_, rfl⟩, rfl⟩)
  rintro σ1 H1 ⟨⟨c, rfl⟩, rfl⟩
  have hc1 := Int.emod_nonneg c (b := (10 : Int) ^ (18 : Int).toNat) (by decide)
  have hc2 := Int.emod_lt_of_pos c (b := (10 : Int) ^ (18 : Int).toNat) (by decide)
  have e18 : (10 : Int) ^ (18 : Int).toNat = 1000000000000000000 := by decide
  rw [e18] at hc1 hc2
  refine ⟨_, rfl, _, _, rfl, rfl, hP, _, _, rfl, rfl, (by show (0 : Int) < 10 ^ (18 : Int).toNat; decide), _, rfl, _, _, rfl, rfl, _, _, rfl, rfl, .inl ⟨by decide, by decide⟩, _, _, rfl, rfl, ?_⟩
  obtain ⟨n1, en⟩ : ∃ n1, n1 = c % 10 ^ (18 : Int).toNat + 48271 * (k + 1) := ⟨_, rfl⟩
  have hn1 : -(2 ^ 64) < n1 ∧ n1 < 2 ^ 64 := by
    rw [e18] at en
    omega
  refine ⟨_, rfl, _, rfl, _, _, rfl, rfl, .inl (by rw [en] at hn1; exact hn1), _, _, rfl, rfl, (by show (0 : Int) < 2147483629; decide), _, rfl, _, _, rfl, rfl, .inl ⟨by decide, by decide⟩, _, _, rfl, rfl, ?_⟩
  obtain ⟨n2, en2⟩ : ∃ n2, n2 = n1 * n1 % 2147483629 + 69621 * k := ⟨_, rfl⟩
  have h3 := Int.emod_nonneg (n1 * n1) (b := 2147483629) (by decide)
  have h4 := Int.emod_lt_of_pos (n1 * n1) (b := 2147483629) (by decide)
  have hn2 : -(2 ^ 64) < n2 ∧ n2 < 2 ^ 64 := by omega
  refine ⟨_, rfl, _, rfl, _, _, rfl, rfl, .inl (by rw [en2, en] at hn2; exact hn2), _, _, rfl, rfl, (by show (0 : Int) < 2147483587; decide), ?_⟩
  exact g _ (hT _).1 (hT _).2
theorem sc_pull : FnScope ["_law_pen"] ["_law_pen"] (defScope (top 38)) := ⟨rfl, rfl, rfl, by decide +kernel, rfl, by decide +kernel, by decide +kernel⟩
theorem c_pull (T : Txt K mg) : Cal P w K mg base CX0 2 "_law_pull" ["_law_pen"] (spPull K) := by
  have C_mixed : Cal P w K mg base CX0 1 "_law_mixed" ["_law_script", "_law_k"] (spMixed K) := c_mixed T
  obtain ⟨fd, F⟩ := T.d__law_pull
  refine ⟨⟨fd, fn0 F sc_pull (fun vs H Q E h => ?_) (fun cdv A outer s H vs Q E hr h => ?_), FunD.bindsN F fun _ _ _ _ _ _ us hl => match us, hl with | [_], _ => rfl⟩, T.k__law_pull, T.g__law_pull⟩
  · obtain ⟨_, _, _, _, _, rfl, _⟩ := h
    rfl
  obtain ⟨pn, S, zs, k, z, rfl, hp, hS, k0, k1, g⟩ := h
  refine ⟨_, (pss_cons (ps_asg (pe_op op_add (pe_ix ix_list (pv 0) pe_int (fun _ _ => rfl)) pe_int) (pg_sub (pv 0) pe_int set_list))
    (pss_one (ps_ret (pcall C_mixed (hr.mono (by decide)) rfl pass0 (pa_cons (pe_ix ix_list (pv 0) pe_int (fun _ _ => rfl)) (pa_cons (pe_ix ix_list (pv 0) pe_int (fun _ _ => rfl)) pa_nil)))))), ?_⟩
  refine ixv 1 rfl hp rfl ⟨_, _, rfl, rfl, _, rfl, pn, [.ref S, .int k, .int z], _, 1, rfl, rfl, hp, rfl, ?_⟩
  refine ixv 0 rfl upd_same rfl (ixv 1 rfl upd_same rfl ⟨S, zs, k + 1, rfl, hS.pen.sql, by omega, by omega, fun n h0 h1 => ?_⟩)
  exact g n h0 h1
end
end Fc

set_option Elab.async false
set_option linter.all false
set_option maxRecDepth 100000
set_option maxHeartbeats 4000000
namespace Fc
open PySem PySem.Spec PyProof.Rows L2 He
theorem kw_at {i : Int} (h0 : 0 ≤ i) (h : i < 9) : ∃ s ∈ KW, atI (sS KW) i = some (.str s) := by
  obtain ⟨j, v, _, ev, ea⟩ := atI_in (xs := sS KW) h0 (by show i < 9; exact h)
  unfold sS at ev
  rw [List.getElem?_map] at ev
  cases e : KW[j]? with
  | none => rw [e] at ev; cases ev
  | some s =>
    rw [e] at ev
    cases ev
    exact ⟨s, List.mem_of_getElem? e, ea⟩
theorem abc_at {i : Int} (h0 : 0 ≤ i) (h : i < 26) : ∃ c ∈ ABC.cps.toList, atI ABC.cps.toList i = some c := by
  obtain ⟨j, v, _, ev, ea⟩ := atI_in (xs := ABC.cps.toList) h0 (by rw [show ABC.cps.toList.length = 26 from by decide +kernel]; exact h)
  exact ⟨v, List.mem_of_getElem? ev, ea⟩
section
variable {P : Program} {w : World} {K : PySem.W.Frag} {mg : Str → Option Value} {base : Heap}
theorem sc_lname : FnScope ["_law_number", "_law_letters", "_law_words_here", "_law_way", "_law_name_here", "_law_k"] ["_law_number"] (defScope (top 39)) := ⟨rfl, rfl, rfl, by decide +kernel, rfl, by decide +kernel, by decide +kernel⟩
theorem c_lname (T : Txt K mg) : Cal P w K mg base CX0 1 "_law_name" ["_law_number"] spLName := by
  obtain ⟨fd, F⟩ := T.d__law_name
  refine ⟨⟨fd, fn0 F sc_lname (fun vs H Q E h => ?_) (fun cdv A outer s H vs Q E hr h => ?_), FunD.bindsN F fun _ _ _ _ _ _ us hl => match us, hl with | [_], _ => rfl⟩, T.k__law_name, T.g__law_name⟩
  · obtain ⟨_, rfl, _⟩ := h
    rfl
  obtain ⟨n0, rfl, k0, k1, g⟩ := h
  refine ⟨_, (pss_cons (ps_set (i := 1) sc_lname.nd rfl (.inl rfl) pe_str)
    (pss_cons (ps_set (i := 2) sc_lname.nd rfl (.inl rfl) (pe_lst (pa_cons pe_str (pa_cons pe_str (pa_cons pe_str (pa_cons pe_str (pa_cons pe_str (pa_cons pe_str (pa_cons pe_str (pa_cons pe_str (pa_cons pe_str pa_nil)))))))))))
    (pss_cons (ps_set (i := 3) sc_lname.nd rfl (.inl rfl) (pe_op op_mod (pv 0) pe_int))
    (pss_cons (ps_set (i := 0) sc_lname.nd rfl (.inl rfl) (pe_op op_fdiv (pv 0) pe_int))
    (pss_cons (ps_if (pt_cmpR op_eq (pv 3) pe_int (by rfl))
      (pss_one (ps_ret (pe_ix ix_list (pv 2) (pe_op op_mod (pv 0) pe_int) (fun _ _ => rfl))))
      pss_nil)
    (pss_cons (ps_if (pt_cmpR op_eq (pv 3) pe_int (by rfl))
      (pss_one (ps_ret (pe_op op_add_str (pe_ix ix_list (pv 2) (pe_op op_mod (pv 0) pe_int) (fun _ _ => rfl)) (pe_ix ix_str (pv 1) (pe_op op_mod (pe_op op_fdiv (pv 0) pe_int) pe_int) (fun _ _ => rfl)))))
      pss_nil)
    (pss_cons (ps_set (i := 4) sc_lname.nd rfl (.inl rfl) pe_str)
    (pss_cons (ps_for PassesOwn.never rfl (pi_range1 (by rfl) T.z_range (pa_cons (pe_op op_add pe_int (pe_op op_mod (pv 0) pe_int)) pa_nil)) (pg_name (i := 5) sc_lname.nd rfl (.inl rfl))
      (pss_one (ps_set (i := 4) sc_lname.nd rfl (.inl rfl) (pe_op op_add_str (pv 4) (pe_ix ix_str (pv 1) (pe_op op_mod (pe_op op_add (pe_op op_fdiv (pv 0) pe_int) (pe_op op_mul (pv 5) (pe_op op_fdiv (pv 0) pe_int))) pe_int) (fun _ _ => rfl))))))
    (pss_one (ps_ret (pv 4))))))))))), ?_⟩
  refine ⟨(by show 9 ≤ sizeLine; decide), fun p hp => ?_⟩
  have s1 := same_new hp (.lst (sS KW))
  have hk : upd H p (.lst (sS KW)) p = some (.lst (sS KW)) := upd_same
  generalize eH : upd H p (.lst (sS KW)) = H1 at *
  have eH' : upd H p (.lst [V.str wPart, V.str wEnd, V.str wDo, V.str wCall, V.str wIf, V.str wElse, V.str wWhile, V.str wLeave, V.str wBack]) = H1 := eH
  have c8 : CDiv 0 4 ∧ CDiv 0 9 ∧ CDiv 0 8 ∧ CDiv 0 88 := ⟨⟨by decide, by decide⟩, ⟨by decide, by decide⟩, ⟨by decide, by decide⟩, ⟨by decide, by decide⟩⟩
  have za : (ABC : Str).length ≤ sizeLine := by decide +kernel
  refine ⟨_, rfl, _, _, rfl, rfl, (by show (0 : Int) < 4; decide), ?_⟩
  refine ⟨_, rfl, _, _, rfl, rfl, c8.1, ?_⟩
  have e0 : ∃ n : Int, n = n0 / 4 ∧ 0 ≤ n ∧ n < 1073741824 := ⟨_, rfl, by omega, by show n0 / 4 < _; unfold TOP at k1; omega⟩
  obtain ⟨n, en, h0, h1⟩ := e0
  obtain ⟨way, ew⟩ : ∃ x : Int, x = n0 % 4 := ⟨_, rfl⟩
  refine ⟨_, rfl, rfl, _, rfl, ?_⟩
  show (if decide (V.int (n0 % 4) = V.int 0) = true then _ else _)
  have m9 : 0 ≤ n0 / 4 % 9 ∧ n0 / 4 % 9 < 9 := ⟨Int.emod_nonneg _ (by decide), Int.emod_lt_of_pos _ (by decide)⟩
  obtain ⟨kw, hkw, ekw⟩ := kw_at m9.1 m9.2
  by_cases q : V.int (n0 % 4) = V.int 0
  · refine ifT (decide_eq_true q) ?_
    refine ⟨_, rfl, _, rfl, _, _, rfl, rfl, (by show (0 : Int) < 9; decide), p, _, _, .str kw, rfl, rfl, SqL.of upd_same, ekw, ?_⟩
    rw [eH']
    exact g _ _ (kw_nm kw hkw).1 s1
  refine ifF (decide_eq_false q) ?_
  refine ⟨_, rfl, rfl, _, rfl, ?_⟩
  show (if decide (V.int (n0 % 4) = V.int 1) = true then _ else _)
  by_cases q2 : V.int (n0 % 4) = V.int 1
  · refine ifT (decide_eq_true q2) ?_
    have m26 : 0 ≤ n0 / 4 / 9 % 26 ∧ n0 / 4 / 9 % 26 < 26 := ⟨Int.emod_nonneg _ (by decide), Int.emod_lt_of_pos _ (by decide)⟩
    obtain ⟨c, hc, ec⟩ := abc_at m26.1 m26.2
    refine ⟨_, rfl, _, rfl, _, _, rfl, rfl, (by show (0 : Int) < 9; decide), p, _, _, .str kw, rfl, rfl, SqL.of upd_same, ekw, ?_⟩
    refine ⟨_, rfl, _, rfl, _, _, rfl, rfl, c8.2.1, _, _, rfl, rfl, (by show (0 : Int) < 26; decide), ABC, _, c, rfl, rfl, za, ec, ?_⟩
    refine ⟨kw, ⟨#[c]⟩, rfl, rfl, ?_, ?_⟩
    · have := (kw_nm kw hkw).2
      show kw.cps.size + 1 ≤ sizeLine
      exact Nat.le_trans (Nat.succ_le_succ this) (by decide)
    · rw [eH']
      exact g _ _ (nm_snoc ⟨(kw_nm kw hkw).2, (kw_nm kw hkw).1.2.2⟩ hc).2 s1
  refine ifF (decide_eq_false q2) ?_
  have m8 : 0 ≤ n0 / 4 % 8 ∧ n0 / 4 % 8 < 8 := ⟨Int.emod_nonneg _ (by decide), Int.emod_lt_of_pos _ (by decide)⟩
  refine ⟨_, rfl, _, _, rfl, rfl, (by show (0 : Int) < 8; decide), _, _, rfl, rfl, _, rfl, ?_, ?_, ?_⟩
  · show -(2 ^ 62) ≤ 1 + n0 / 4 % 8
    omega
  · show 1 + n0 / 4 % 8 < 2 ^ 62
    omega
  rw [eH']
  refine for_range (lo := 0) (fun i σ H' => ∃ (s : Str) (x5 : Option V), σ = [some (.int (n0 / 4)), some (.str ABC), some (.ref p), some (.int (n0 % 4)), some (.str s), x5] ∧ H1 = H' ∧ s.cps.size = i ∧ i ≤ 8 ∧ ∀ c ∈ s.cps.toList, 97 ≤ c ∧ c ≤ 122) ?_ ?_ ?_
  · exact ⟨"", none, rfl, rfl, rfl, by decide, by decide +kernel⟩
  · rintro i σ H' hi ⟨s, x5, rfl, rfl, es, hi8, hs⟩
    have hi2 : i < 8 := by
      have : ((1 : Int) + n0 / 4 % 8).toNat ≤ 8 := by omega
      exact Nat.lt_of_lt_of_le hi this
    have m26 : 0 ≤ (n0 / 4 / 8 + (0 + (i : Int)) * (n0 / 4 / 88)) % 26 ∧ (n0 / 4 / 8 + (0 + (i : Int)) * (n0 / 4 / 88)) % 26 < 26 := ⟨Int.emod_nonneg _ (by decide), Int.emod_lt_of_pos _ (by decide)⟩
    obtain ⟨c, hc, ec⟩ := abc_at m26.1 m26.2
    refine ⟨_, rfl, _, rfl, _, rfl, _, _, rfl, rfl, c8.2.2.1, _, rfl, _, rfl, _, _, rfl, rfl, c8.2.2.2, _, _, rfl, rfl, .inl ⟨by omega, by omega⟩, _, _, rfl, rfl, _, _, rfl, rfl, (by show (0 : Int) < 26; decide), ABC, _, c, rfl, rfl, za, ec, ?_⟩
    have z := nm_snoc (s := s) ⟨by omega, hs⟩ hc
    refine ⟨s, ⟨#[c]⟩, rfl, rfl, ?_, s ++ ⟨#[c]⟩, _, rfl, rfl, by rw [z.1, es], hi2, z.2.2.2⟩
    show s.cps.size + 1 ≤ sizeLine
    rw [es]
    exact Nat.le_trans (Nat.succ_le_of_lt hi2) (by decide)
  · rintro σ H' ⟨s, x5, rfl, rfl, es, hi8, hs⟩
    refine ⟨_, rfl, g s _ ⟨?_, ?_, hs⟩ s1⟩
    · rw [es]
      show 1 ≤ ((1 : Int) + n0 / 4 % 8).toNat
      omega
    · rw [es]
      exact hi8
end
end Fc

set_option Elab.async false
set_option linter.all false
set_option maxRecDepth 100000
set_option maxHeartbeats 4000000
namespace Fc
open PySem PySem.Spec PyProof.Rows L2 He
/-! the law: things and lists drawn -/
def gset (g : Addr → Nat) (x : Addr) (k : Nat) : Addr → Nat := fun b => if b = x then k else g b
theorem gset_same {g : Addr → Nat} {x : Addr} {k : Nat} : gset g x k x = k := if_pos rfl
theorem gset_ne {g : Addr → Nat} {x b : Addr} {k : Nat} (h : b ≠ x) : gset g x k b = g b := if_neg h
/-- more of all, but for what stands at pn -/
structure Ex (g : Addr → Nat) (H : Hp) (g' : Addr → Nat) (H' : Hp) (pn : Addr) : Prop where
  gs : ∀ b u, H b = some u → g' b = g b
  hs : ∀ b u, b ≠ pn → H b = some u → H' b = some u
section
variable {g g' g'' : Addr → Nat} {H H' H'' : Hp} {pn : Addr}
theorem Ex.trans (a : Ex g H g' H' pn) (b : Ex g' H' g'' H'' pn) (hp : ∃ u, H' pn = some u) : Ex g H g'' H'' pn :=
  ⟨fun x u h => by
    by_cases e : x = pn
    · obtain ⟨u', hu⟩ := hp
      rw [b.gs x u' (by rw [e]; exact hu), a.gs x u h]
    · rw [b.gs x u (a.hs x u e h), a.gs x u h],
   fun x u e h => b.hs x u e (a.hs x u e h)⟩
theorem Ex.pen {o : HO} : Ex g H g (upd H pn o) pn := ⟨fun _ _ _ => rfl, fun b u e h => by rw [upd_ne e]; exact h⟩
theorem Ex.same (s : Same H H') : Ex g H g H' pn := ⟨fun _ _ _ => rfl, fun b u _ h => s _ _ h⟩
theorem Ex.new {x : Addr} {o : HO} {k : Nat} (a : Ex g H g' H' pn) (hx : H' x = none) (hp : ∃ u, H' pn = some u) : Ex g H (gset g' x k) (upd H' x o) pn := by
  refine ⟨fun b u h => ?_, fun b u e h => ?_⟩
  · by_cases e : b = pn
    · obtain ⟨u', hu⟩ := hp
      rw [gset_ne (by rw [e]; exact ne_of_none hu hx)]
      exact a.gs b u h
    · rw [gset_ne (ne_of_none (a.hs b u e h) hx)]
      exact a.gs b u h
  · rw [upd_ne (ne_of_none (a.hs b u e h) hx)]
    exact a.hs b u e h
theorem Ex.mark {x : Addr} {k : Nat} (a : Ex g H g' H' pn) (hx : H x = none) : Ex g H (gset g' x k) H' pn :=
  ⟨fun b u h => by rw [gset_ne (ne_of_none h hx)]; exact a.gs b u h, a.hs⟩
theorem Ex.kp (a : Ex g H g' H' pn) (hp : g pn = 9) : Kp g H g' H' := fun b u h e => by
  have n : b ≠ pn := fun z => by rw [z, hp] at h; omega
  exact ⟨a.hs b u n e, a.gs b u e⟩
theorem Ex.sql {K : PySem.W.Frag} {S : Addr} {xs : List V} (a : Ex g H g' H' pn) (n : S ≠ pn) (h : SqL K H S xs) : SqL K H' S xs := by
  rcases h with (h | ⟨o, h⟩) | h
  · exact .inl (.inl (a.hs _ _ n h))
  · exact .inl (.inr ⟨o, a.hs _ _ n h⟩)
  · exact .inr h
/-- marks that none of these things bears -/
theorem kp_mark {x : Addr} {k : Nat} (h : g x = 9) : Kp g H (gset g x k) H := fun b u hb e => ⟨e, gset_ne fun z => by rw [z, h] at hb; omega⟩
theorem kp_new {x : Addr} {k : Nat} {o : HO} (hx : H x = none) : Kp g H (gset g x k) (upd H x o) := fun b u _ e => by
  have n := ne_of_none e hx
  exact ⟨by rw [upd_ne n]; exact e, gset_ne n⟩
end
theorem Scr.ex {K : PySem.W.Frag} {g g' : Addr → Nat} {H H' : Hp} {pn S : Addr} {zs : List Int} (h : Scr K H pn S zs) (e : Ex g H g' H' pn) : Scr K H' pn S zs := by
  obtain ⟨Hs, a, b, c⟩ := h
  exact ⟨Hs, a, fun x u q => e.hs x u (fun z => by rw [z, c] at q; cases q) (b x u q), c⟩
structure Pn (K : PySem.W.Frag) (g : Addr → Nat) (H : Hp) (pn S : Addr) (zs : List Int) (k z : Int) : Prop where
  hp : H pn = some (.lst [.ref S, .int k, .int z])
  hS : Scr K H pn S zs
  gp : g pn = 9
theorem Pn.go {K : PySem.W.Frag} {g g' : Addr → Nat} {H H' : Hp} {pn S : Addr} {zs : List Int} {k z k' z' : Int} (P : Pn K g H pn S zs k z) (e : Ex g H g' H' pn) (h : H' pn = some (.lst [.ref S, .int k', .int z'])) : Pn K g' H' pn S zs k' z' :=
  ⟨h, P.hS.ex e, by rw [e.gs _ _ P.hp]; exact P.gp⟩
/-- the most pulls of a thing, of a list -/
def kt : Nat → Int
  | 0 => 3
  | r + 1 => 3 + 2 * (1 + 5 * kt r)
def kl (r : Nat) : Int := 1 + 5 * kt r
theorem kt_pos : ∀ r, 3 ≤ kt r
  | 0 => Int.le_refl _
  | r + 1 => by
    have := kt_pos r
    show 3 ≤ 3 + 2 * (1 + 5 * kt r)
    omega
def spThing (K : PySem.W.Frag) (r : Nat) : L2.Sp := fun vs H Q _ => ∃ (pn S Cs : Addr) (zs : List Int) (k z lo : Int) (cs : List Nat) (m : Nat) (g : Addr → Nat), vs = [.ref pn, .int (4 - (r : Int)), .int lo, .ref Cs] ∧ Pn K g H pn S zs k z ∧ 0 ≤ k ∧ k + kt r < 900000000 ∧ 0 < z ∧ 0 ≤ lo ∧ H Cs = some (.lst (nI cs)) ∧ Cs ≠ pn ∧ (∀ c ∈ cs, c < m) ∧
  ∀ H' g' x l k' z', Ex g H g' H' pn → H' pn = some (.lst [.ref S, .int k', .int z']) → H x = none → x ≠ pn → UL g' H' l (decide (0 < lo)) [x] → Wf m l (decide (0 < lo)) → dp l ≤ r → wl l ≤ 9 * rm l + 1 → ((rm l : Nat) : Int) + z' = z → 0 ≤ z' → k ≤ k' → k' ≤ k + kt r → Q (.ref x) H'
def spList (K : PySem.W.Frag) (r : Nat) : L2.Sp := fun vs H Q _ => ∃ (pn S Cs : Addr) (zs : List Int) (k z lo : Int) (cs : List Nat) (m : Nat) (g : Addr → Nat), vs = [.ref pn, .int (4 - (r : Int)), .int lo, .ref Cs] ∧ Pn K g H pn S zs k z ∧ 0 ≤ k ∧ k + kl r < 900000000 ∧ 0 ≤ z ∧ 0 ≤ lo ∧ H Cs = some (.lst (nI cs)) ∧ Cs ≠ pn ∧ (∀ c ∈ cs, c < m) ∧
  ∀ H' g' a xs l k' z', Ex g H g' H' pn → H' pn = some (.lst [.ref S, .int k', .int z']) → H a = none → a ≠ pn → g' a = 9 → H' a = some (.lst (rf xs)) → UL g' H' l (decide (0 < lo)) xs → Wf m l (decide (0 < lo)) → (r = 4 → 0 < z → l ≠ .nil) → dp l ≤ r → wl l ≤ 9 * rm l + 5 → ((rm l : Nat) : Int) + z' = z → 0 ≤ z' → k ≤ k' → k' ≤ k + kl r → Q (.ref a) H'
def SL (K : PySem.W.Frag) : Nat → L2.Sp
  | 0 => fun _ _ _ _ => False
  | r + 1 => spList K r
theorem ps_ints {l : List Nat} {i : Int} (h0 : 0 ≤ i) (h : i < (nI l).length) : ∃ c ∈ l, atI (nI l) i = some (.int ((c : Nat) : Int)) := by
  obtain ⟨j, v, _, ev, ea⟩ := atI_in h0 h
  unfold nI at ev
  rw [List.getElem?_map] at ev
  cases e : l[j]? with
  | none => rw [e] at ev; cases ev
  | some s =>
    rw [e] at ev
    cases ev
    exact ⟨s, List.mem_of_getElem? e, ea⟩
section
variable {P : Program} {w : World} {K : PySem.W.Frag} {mg : Str → Option Value} {base : Heap}
theorem sc_thing : FnScope ["_law_pen", "_law_depth", "_law_loops", "_law_calls", "_law_way", "_law_name_here", "_law_first"] ["_law_pen", "_law_depth", "_law_loops", "_law_calls"] (defScope (top 41)) := ⟨rfl, rfl, rfl, by decide +kernel, rfl, by decide +kernel, by decide +kernel⟩
theorem c_thing (T : Txt K mg) (r lv : Nat) (hlv : 3 ≤ lv) (C_list : Cal P w K mg base CX0 lv "_law_list" ["_law_pen", "_law_depth", "_law_loops", "_law_calls"] (SL K r)) : Cal P w K mg base CX0 (lv + 1) "_law_thing" ["_law_pen", "_law_depth", "_law_loops", "_law_calls"] (spThing K r) := by
  have C_pull : Cal P w K mg base CX0 2 "_law_pull" ["_law_pen"] (spPull K) := c_pull T
  have C_name : Cal P w K mg base CX0 1 "_law_name" ["_law_number"] spLName := c_lname T
  obtain ⟨fd, F⟩ := T.d__law_thing
  refine ⟨⟨fd, fn0 F sc_thing (fun vs H Q E h => ?_) (fun cdv A outer s H vs Q E hr h => ?_), FunD.bindsN F fun _ _ _ _ _ _ us hl => match us, hl with | [_, _, _, _], _ => rfl⟩, T.k__law_thing, T.g__law_thing⟩
  · obtain ⟨_, _, _, _, _, _, _, _, _, _, rfl, _⟩ := h
    rfl
  obtain ⟨pn, S, Cs, zs, k, z, lo, cs, m, g, rfl, PN, k0, k1, hz, hlo, hCs, nCs, hcs, cont⟩ := h
  refine ⟨_, (pss_cons (ps_set (i := 4) sc_thing.nd rfl (.inl rfl) (pe_op op_mod (pcall C_pull (hr.mono (by omega)) rfl pass0 (pa_cons (pv 0) pa_nil)) pe_int))
    (pss_cons (ps_set (i := 5) sc_thing.nd rfl (.inl rfl) (pcall C_name (hr.mono (by omega)) rfl pass0 (pa_cons (pcall C_pull (hr.mono (by omega)) rfl pass0 (pa_cons (pv 0) pa_nil)) pa_nil)))
    (pss_cons (ps_if (PW.pt (pw_and (pt_cmpR op_eq (pv 4) pe_int (by rfl)) (pw_and1 (pt_cmpR op_gt (pv 2) pe_int (by rfl)))))
      (pss_one (ps_ret (pe_lst (pa_cons pe_str pa_nil))))
      pss_nil)
    (pss_cons (ps_if (pt_cmpR op_eq (pv 4) pe_int (by rfl))
      (pss_one (ps_ret (pe_lst (pa_cons pe_str pa_nil))))
      pss_nil)
    (pss_cons (ps_if (PW.pt (pw_and (pt_cmpR op_gt (pv 4) pe_int (by rfl)) (pw_and1 (pt_cmpR op_gt (pe_callB call_len_seq (by rfl) T.z_len PySem.boot_len (pa_cons (pv 3) pa_nil)) pe_int (by rfl)))))
      (pss_cons (ps_asg (pe_op op_sub (pe_ix ix_list (pv 0) pe_int (fun _ _ => rfl)) pe_int) (pg_sub (pv 0) pe_int set_list))
      (pss_one (ps_ret (pe_lst (pa_cons pe_str (pa_cons (pe_ix ix_list (pv 3) (pe_op op_mod (pcall C_pull (hr.mono (by omega)) rfl pass0 (pa_cons (pv 0) pa_nil)) (pe_callB call_len_seq (by rfl) T.z_len PySem.boot_len (pa_cons (pv 3) pa_nil))) (fun _ _ => rfl)) pa_nil))))))
      pss_nil)
    (pss_cons (ps_if (PW.pt (pw_and (pt_cmpR op_gt (pv 4) pe_int (by rfl)) (pw_and (pt_cmpR op_lt (pv 4) pe_int (by rfl)) (pw_and (pt_cmpR op_lt (pv 1) pe_int (by rfl)) (pw_and1 (pt_cmpR op_gt (pe_ix ix_list (pv 0) pe_int (fun _ _ => rfl)) pe_int (by rfl)))))))
      (pss_cons (ps_asg (pe_op op_sub (pe_ix ix_list (pv 0) pe_int (fun _ _ => rfl)) pe_int) (pg_sub (pv 0) pe_int set_list))
      (pss_cons (ps_set (i := 6) sc_thing.nd rfl (.inl rfl) (pcall C_list (hr.mono (by omega)) rfl pass0 (pa_cons (pv 0) (pa_cons (pe_op op_add (pv 1) pe_int) (pa_cons (pv 2) (pa_cons (pv 3) pa_nil))))))
      (pss_one (ps_ret (pe_lst (pa_cons pe_str (pa_cons (pv 5) (pa_cons (pv 6) (pa_cons (pcall C_list (hr.mono (by omega)) rfl pass0 (pa_cons (pv 0) (pa_cons (pe_op op_add (pv 1) pe_int) (pa_cons (pv 2) (pa_cons (pv 3) pa_nil))))) pa_nil)))))))))
      pss_nil)
    (pss_cons (ps_if (PW.pt (pw_and (pt_cmpR op_gt (pv 4) pe_int (by rfl)) (pw_and (pt_cmpR op_lt (pv 4) pe_int (by rfl)) (pw_and (pt_cmpR op_lt (pv 1) pe_int (by rfl)) (pw_and1 (pt_cmpR op_gt (pe_ix ix_list (pv 0) pe_int (fun _ _ => rfl)) pe_int (by rfl)))))))
      (pss_cons (ps_asg (pe_op op_sub (pe_ix ix_list (pv 0) pe_int (fun _ _ => rfl)) pe_int) (pg_sub (pv 0) pe_int set_list))
      (pss_one (ps_ret (pe_lst (pa_cons pe_str (pa_cons (pv 5) (pa_cons (pcall C_list (hr.mono (by omega)) rfl pass0 (pa_cons (pv 0) (pa_cons (pe_op op_add (pv 1) pe_int) (pa_cons (pe_op op_add (pv 2) pe_int) (pa_cons (pv 3) pa_nil))))) pa_nil)))))))
      pss_nil)
    (pss_cons (ps_asg (pe_op op_sub (pe_ix ix_list (pv 0) pe_int (fun _ _ => rfl)) pe_int) (pg_sub (pv 0) pe_int set_list))
    (pss_one (ps_ret (pe_lst (pa_cons pe_str (pa_cons (pv 5) pa_nil))))))))))))), ?_⟩
  have kp := kt_pos r
  refine ⟨_, rfl, pn, S, zs, k, z, rfl, PN.hp, PN.hS, k0, by omega, fun n1 a1 b1 => ⟨_, _, rfl, rfl, (by show (0 : Int) < 12; decide), ?_⟩⟩
  refine ⟨_, rfl, pn, S, zs, k + 1, z, rfl, upd_same, PN.hS.pen, by omega, by omega, fun n2 a2 b2 => ⟨n2, rfl, a2, b2, fun nm H2 hnm s2 => ?_⟩⟩
  obtain ⟨way, ew⟩ : ∃ x : Int, x = n1 % 12 := ⟨_, rfl⟩
  have E2 : Ex g H g H2 pn := (Ex.pen.trans Ex.pen ⟨_, upd_same⟩).trans (Ex.same s2) ⟨_, upd_same⟩
  have P2 : Pn K g H2 pn S zs (k + 2) z := PN.go E2 (by
    have e := s2 _ _ (upd_same (a := pn))
    rw [show k + 1 + 1 = k + 2 by omega] at e
    exact e)
  have hpn2 : ∃ u, H2 pn = some u := ⟨_, P2.hp⟩
  have hC2 := E2.hs _ _ nCs hCs
  have fr2 : ∀ {x : Addr}, H2 x = none → H x = none ∧ x ≠ pn := fun {x} hx => by
    have n : x ≠ pn := fun e => by rw [e, P2.hp] at hx; cases hx
    refine ⟨?_, n⟩
    cases e : H x with
    | none => rfl
    | some u => rw [E2.hs _ _ n e] at hx; cases hx
  have leave_ : 0 < lo → ∀ x, H2 x = none → Q (.ref x) (upd H2 x (.lst [.str wLeave])) := fun h0 x hx => by
    obtain ⟨f1, f2⟩ := fr2 hx
    refine cont _ (gset g x 3) x (.lv .nil) (k + 2) z (E2.new hx hpn2) (by rw [upd_ne f2.symm]; exact P2.hp) f1 f2 ⟨x, [], rfl, gset_same, upd_same, rfl⟩ ⟨decide_eq_true h0, trivial⟩ (Nat.zero_le _) (by decide) (by show ((0 : Nat) : Int) + z = z; omega) (by omega) (by omega) (by omega)
  have back_ : ∀ x, H2 x = none → Q (.ref x) (upd H2 x (.lst [.str wBack])) := fun x hx => by
    obtain ⟨f1, f2⟩ := fr2 hx
    exact cont _ (gset g x 3) x (.bk .nil) (k + 2) z (E2.new hx hpn2) (by rw [upd_ne f2.symm]; exact P2.hp) f1 f2 ⟨x, [], rfl, gset_same, upd_same, rfl⟩ trivial (Nat.zero_le _) (by decide) (by show ((0 : Nat) : Int) + z = z; omega) (by omega) (by omega) (by omega)
  have hr0 : (fun (i j : Int) => V.int (i % j)) n1 12 = V.int (n1 % 12) := rfl
  dsimp only
  refine pseqS (fun σ1 H1 => σ1 = [some (.ref pn), some (.int (4 - (r : Int))), some (.int lo), some (.ref Cs), some (.int (n1 % 12)), some (.str nm), none] ∧ H2 = H1) (fun D1 rt gg => ?_) ?_
  · refine ⟨_, rfl, rfl, _, rfl, ?_⟩
    show (if decide (V.int (n1 % 12) = V.int 0) = true then _ else _)
    by_cases q0 : V.int (n1 % 12) = V.int 0
    · refine ifT (decide_eq_true q0) ⟨_, rfl, _, _, rfl, rfl, _, rfl, ?_⟩
      by_cases q1 : 0 < lo
      · refine ifT (decide_eq_true q1) ⟨(by show 1 ≤ sizeLine; decide), fun x hx => ?_⟩
        rw [rt]
        exact leave_ q1 x hx
      · exact ifF (decide_eq_false q1) (gg _ _ ⟨rfl, rfl⟩)
    · exact ifF (decide_eq_false q0) (ifF rfl (gg _ _ ⟨rfl, rfl⟩))
  rintro σ1 H1 ⟨rfl, rfl⟩
  refine pseqS (fun σ1 H1 => σ1 = [some (.ref pn), some (.int (4 - (r : Int))), some (.int lo), some (.ref Cs), some (.int (n1 % 12)), some (.str nm), none] ∧ H2 = H1) (fun D1 rt gg => ?_) ?_
  · refine ⟨_, rfl, rfl, _, rfl, ?_⟩
    by_cases q0 : V.int (n1 % 12) = V.int 1
    · refine ifT (decide_eq_true q0) ⟨(by show 1 ≤ sizeLine; decide), fun x hx => ?_⟩
      rw [rt]
      exact back_ x hx
    · exact ifF (decide_eq_false q0) (gg _ _ ⟨rfl, rfl⟩)
  rintro σ1 H1 ⟨rfl, rfl⟩
  -- call
  refine pseqS (fun σ1 H1 => σ1 = [some (.ref pn), some (.int (4 - (r : Int))), some (.int lo), some (.ref Cs), some (.int (n1 % 12)), some (.str nm), none] ∧ H2 = H1) (fun D1 rt gg => ?_) ?_
  · refine ⟨_, rfl, _, _, rfl, rfl, _, rfl, ?_⟩
    by_cases q0 : 9 < n1 % 12
    · refine ifT (decide_eq_true q0) ⟨_, rfl, Cs, _, rfl, .inl (SqL.of hC2), _, _, rfl, rfl, _, rfl, ?_⟩
      by_cases q1 : 0 < ((nI cs).length : Int)
      · refine ifT (decide_eq_true q1) ?_
        refine ixv 2 rfl P2.hp rfl ⟨_, _, rfl, rfl, _, rfl, pn, [.ref S, .int (k + 2), .int z], _, 2, rfl, rfl, P2.hp, rfl, ?_⟩
        have P3 : Pn K g (upd H2 pn (.lst [.ref S, .int (k + 2), .int (z - 1)])) pn S zs (k + 2) (z - 1) := P2.go Ex.pen upd_same
        refine ⟨_, rfl, _, rfl, pn, S, zs, k + 2, z - 1, rfl, P3.hp, P3.hS, by omega, by omega, fun n3 a3 b3 => ?_⟩
        have E4 : Ex g H g (upd (upd H2 pn (.lst [.ref S, .int (k + 2), .int (z - 1)])) pn (.lst [.ref S, .int (k + 2 + 1), .int (z - 1)])) pn := (E2.trans Ex.pen hpn2).trans Ex.pen ⟨_, upd_same⟩
        have hC4 := E4.hs _ _ nCs hCs
        have h1 := Int.emod_nonneg n3 (b := ((nI cs).length : Int)) (by omega)
        have h2 := Int.emod_lt_of_pos n3 q1
        obtain ⟨c, hc, ec⟩ := ps_ints h1 h2
        refine ⟨_, rfl, Cs, _, rfl, .inl (SqL.of hC4), _, _, rfl, rfl, q1, Cs, _, _, .int ((c : Nat) : Int), rfl, rfl, SqL.of hC4, ec, (by show 2 ≤ sizeLine; decide), fun x hx => ?_⟩
        have nx : x ≠ pn := fun e => by rw [e, upd_same] at hx; cases hx
        have hx2 : H2 x = none := by rw [upd_ne nx, upd_ne nx] at hx; exact hx
        obtain ⟨f1, f2⟩ := fr2 hx2
        rw [rt]
        exact cont _ (gset g x 3) x (.ca (.ix c) .nil) (k + 2 + 1) (z - 1) (E4.new hx ⟨_, upd_same⟩) (by rw [upd_ne f2.symm]; exact upd_same) f1 f2 ⟨x, [], rfl, gset_same, upd_same, rfl⟩ ⟨hcs c hc, trivial⟩ (Nat.zero_le _) (by show 2 ≤ 9 * 1 + 1; decide) (by show ((1 : Nat) : Int) + (z - 1) = z; omega) (by omega) (by omega) (by omega)
      · exact ifF (decide_eq_false q1) (gg _ _ ⟨rfl, rfl⟩)
    · exact ifF (decide_eq_false q0) (ifF rfl (gg _ _ ⟨rfl, rfl⟩))
  rintro σ1 H1 ⟨rfl, rfl⟩
  -- if
  refine pseqS (fun σ1 H1 => σ1 = [some (.ref pn), some (.int (4 - (r : Int))), some (.int lo), some (.ref Cs), some (.int (n1 % 12)), some (.str nm), none] ∧ H2 = H1) (fun D1 rt gg => ?_) ?_
  · refine ⟨_, rfl, _, _, rfl, rfl, _, rfl, ?_⟩
    by_cases q0 : 3 < n1 % 12
    rotate_left
    · exact ifF (decide_eq_false q0) (ifF rfl (gg _ _ ⟨rfl, rfl⟩))
    refine ifT (decide_eq_true q0) ⟨_, rfl, _, _, rfl, rfl, _, rfl, ?_⟩
    by_cases q1 : n1 % 12 < 7
    rotate_left
    · exact ifF (decide_eq_false q1) (ifF rfl (gg _ _ ⟨rfl, rfl⟩))
    refine ifT (decide_eq_true q1) ⟨_, rfl, _, _, rfl, rfl, _, rfl, ?_⟩
    by_cases q2 : 4 - (r : Int) < 4
    rotate_left
    · exact ifF (decide_eq_false q2) (ifF rfl (gg _ _ ⟨rfl, rfl⟩))
    refine ifT (decide_eq_true q2) ?_
    refine ixv 2 rfl P2.hp rfl ⟨_, _, rfl, rfl, _, rfl, ?_⟩
    by_cases q3 : 1 < z
    rotate_left
    · exact ifF (decide_eq_false q3) (gg _ _ ⟨rfl, rfl⟩)
    refine ifT (decide_eq_true q3) ?_
    cases r with
    | zero => exact absurd q2 (by decide)
    | succ r =>
      have kp2 := kt_pos r
      have ekt : kt (r + 1) = 3 + 2 * (1 + 5 * kt r) := rfl
      have ekl : kl r = 1 + 5 * kt r := rfl
      have edp : (4 - ((r + 1 : Nat) : Int)) + 1 = 4 - (r : Int) := by omega
      refine ixv 2 rfl P2.hp rfl ⟨_, _, rfl, rfl, _, rfl, pn, [.ref S, .int (k + 2), .int z], _, 2, rfl, rfl, P2.hp, rfl, ?_⟩
      have P3 : Pn K g (upd H2 pn (.lst [.ref S, .int (k + 2), .int (z - 2)])) pn S zs (k + 2) (z - 2) := P2.go Ex.pen upd_same
      have E3 : Ex g H g (upd H2 pn (.lst [.ref S, .int (k + 2), .int (z - 2)])) pn := E2.trans Ex.pen hpn2
      have hC3 := E3.hs _ _ nCs hCs
      refine ⟨_, rfl, _, rfl, _, _, rfl, rfl, _, rfl, _, rfl, pn, S, Cs, zs, k + 2, z - 2, lo, cs, m, g, ?_, P3, by omega, by omega, by omega, hlo, hC3, nCs, hcs, fun H5 g5 p ps l5 k5 z5 X5 hp5 pf pnp gp hps ul5 wf5 _ d5 w5 b5 c5 ka kb => ?_⟩
      · show [_, V.int ((4 - ((r + 1 : Nat) : Int)) + 1), _, _] = _
        rw [edp]
      have P5 := P3.go X5 hp5
      have E5 : Ex g H g5 H5 pn := E3.trans X5 ⟨_, upd_same⟩
      have hC5 := E5.hs _ _ nCs hCs
      refine ⟨_, rfl, _, rfl, _, rfl, _, rfl, _, _, rfl, rfl, _, rfl, _, rfl, pn, S, Cs, zs, k5, z5, lo, cs, m, g5, ?_, P5, by omega, by omega, c5, hlo, hC5, nCs, hcs, fun H6 g6 q qs l6 k6 z6 X6 hp6 qf qnp gq hqs ul6 wf6 _ d6 w6 b6 c6 kc kd_ => ?_⟩
      · show [_, V.int ((4 - ((r + 1 : Nat) : Int)) + 1), _, _] = _
        rw [edp]
      refine ⟨(by show 4 ≤ sizeLine; decide), fun x hx => ?_⟩
      rw [rt]
      have E6 : Ex g H g6 H6 pn := E5.trans X6 ⟨_, P5.hp⟩
      have nx : x ≠ pn := fun e => by rw [e, hp6] at hx; cases hx
      have x0 : H x = none := by
        cases e : H x with
        | none => rfl
        | some u => rw [E6.hs _ _ nx e] at hx; cases hx
      have hpH : H p = none := by
        cases e : H p with
        | none => rfl
        | some u =>
          have z1 := E3.hs _ _ pnp e
          have z2 : none = some u := Eq.trans (Eq.symm pf) z1
          cases z2
      have hqH : H q = none := by
        cases e : H q with
        | none => rfl
        | some u =>
          have z1 := E5.hs _ _ qnp e
          rw [qf] at z1
          cases z1
      have hp6' : H6 p = some (.lst (rf ps)) := X6.hs _ _ pnp hps
      have gp6 : g6 p = 9 := (X6.gs _ _ hps).trans gp
      have npq : p ≠ q := fun e => by rw [e] at hps; rw [hps] at qf; cases qf
      have npx : p ≠ x := ne_of_none hp6' hx
      have nqx : q ≠ x := ne_of_none hqs hx
      -- the marks
      have K1 : Kp g6 H6 (gset (gset (gset g6 p (kd (decide (0 < lo)))) q (kd (decide (0 < lo)))) x 3) (upd H6 x (.lst [.str wIf, .str nm, .ref p, .ref q])) :=
        ((kp_mark gp6).trans (kp_mark (by rw [gset_ne npq.symm]; exact gq))).trans (kp_new hx)
      have U5 := (ul5.mono (X6.kp P5.gp)).mono K1
      have U6 := ul6.mono K1
      refine cont _ _ x (.fi nm l5 l6 .nil) k6 z6 (((E6.mark hpH).mark hqH).new hx ⟨_, hp6⟩) (by rw [upd_ne nx.symm]; exact hp6) x0 nx ⟨x, [], p, q, ps, qs, rfl, gset_same, upd_same, ?_, by rw [upd_ne npx]; exact hp6', U5, ?_, by rw [upd_ne nqx]; exact hqs, U6, rfl⟩ ⟨hnm, wf5, wf6, trivial⟩ ?_ ?_ ?_ c6 (by omega) (by omega)
      · rw [gset_ne npx, gset_ne npq, gset_same]
      · rw [gset_ne nqx, gset_same]
      · simp only [dp]
        omega
      · simp only [wl, rm]
        omega
      · simp only [rm]
        omega
  rintro σ1 H1 ⟨rfl, rfl⟩
  -- while
  refine pseqS (fun σ1 H1 => σ1 = [some (.ref pn), some (.int (4 - (r : Int))), some (.int lo), some (.ref Cs), some (.int (n1 % 12)), some (.str nm), none] ∧ H2 = H1) (fun D1 rt gg => ?_) ?_
  · refine ⟨_, rfl, _, _, rfl, rfl, _, rfl, ?_⟩
    by_cases q0 : 6 < n1 % 12
    rotate_left
    · exact ifF (decide_eq_false q0) (ifF rfl (gg _ _ ⟨rfl, rfl⟩))
    refine ifT (decide_eq_true q0) ⟨_, rfl, _, _, rfl, rfl, _, rfl, ?_⟩
    by_cases q1 : n1 % 12 < 10
    rotate_left
    · exact ifF (decide_eq_false q1) (ifF rfl (gg _ _ ⟨rfl, rfl⟩))
    refine ifT (decide_eq_true q1) ⟨_, rfl, _, _, rfl, rfl, _, rfl, ?_⟩
    by_cases q2 : 4 - (r : Int) < 4
    rotate_left
    · exact ifF (decide_eq_false q2) (ifF rfl (gg _ _ ⟨rfl, rfl⟩))
    refine ifT (decide_eq_true q2) ?_
    refine ixv 2 rfl P2.hp rfl ⟨_, _, rfl, rfl, _, rfl, ?_⟩
    by_cases q3 : 1 < z
    rotate_left
    · exact ifF (decide_eq_false q3) (gg _ _ ⟨rfl, rfl⟩)
    refine ifT (decide_eq_true q3) ?_
    cases r with
    | zero => exact absurd q2 (by decide)
    | succ r =>
      have kp2 := kt_pos r
      have ekt : kt (r + 1) = 3 + 2 * (1 + 5 * kt r) := rfl
      have ekl : kl r = 1 + 5 * kt r := rfl
      have edp : (4 - ((r + 1 : Nat) : Int)) + 1 = 4 - (r : Int) := by omega
      refine ixv 2 rfl P2.hp rfl ⟨_, _, rfl, rfl, _, rfl, pn, [.ref S, .int (k + 2), .int z], _, 2, rfl, rfl, P2.hp, rfl, ?_⟩
      have P3 : Pn K g (upd H2 pn (.lst [.ref S, .int (k + 2), .int (z - 2)])) pn S zs (k + 2) (z - 2) := P2.go Ex.pen upd_same
      have E3 : Ex g H g (upd H2 pn (.lst [.ref S, .int (k + 2), .int (z - 2)])) pn := E2.trans Ex.pen hpn2
      have hC3 := E3.hs _ _ nCs hCs
      have elo : decide (0 < lo + 1) = true := decide_eq_true (by omega)
      refine ⟨_, rfl, _, rfl, _, rfl, _, _, rfl, rfl, _, rfl, _, _, rfl, rfl, _, rfl, pn, S, Cs, zs, k + 2, z - 2, lo + 1, cs, m, g, ?_, P3, by omega, by omega, by omega, by omega, hC3, nCs, hcs, fun H5 g5 p ps l5 k5 z5 X5 hp5 pf pnp gp hps ul5 wf5 _ d5 w5 b5 c5 ka kb => ?_⟩
      · show [_, V.int ((4 - ((r + 1 : Nat) : Int)) + 1), _, _] = _
        rw [edp]
      rw [elo] at ul5 wf5
      refine ⟨(by show 3 ≤ sizeLine; decide), fun x hx => ?_⟩
      rw [rt]
      have E5 : Ex g H g5 H5 pn := E3.trans X5 ⟨_, upd_same⟩
      have nx : x ≠ pn := fun e => by rw [e, hp5] at hx; cases hx
      have x0 : H x = none := by
        cases e : H x with
        | none => rfl
        | some u => rw [E5.hs _ _ nx e] at hx; cases hx
      have hpH : H p = none := by
        cases e : H p with
        | none => rfl
        | some u =>
          have z1 := E3.hs _ _ pnp e
          have z2 : none = some u := Eq.trans (Eq.symm pf) z1
          cases z2
      have npx : p ≠ x := ne_of_none hps hx
      have K1 : Kp g5 H5 (gset (gset g5 p 2) x 3) (upd H5 x (.lst [.str wWhile, .str nm, .ref p])) := (kp_mark gp).trans (kp_new hx)
      refine cont _ _ x (.wh nm l5 .nil) k5 z5 ((E5.mark hpH).new hx ⟨_, hp5⟩) (by rw [upd_ne nx.symm]; exact hp5) x0 nx ⟨x, [], p, ps, rfl, gset_same, upd_same, ?_, by rw [upd_ne npx]; exact hps, ul5.mono K1, rfl⟩ ⟨hnm, wf5, trivial⟩ ?_ ?_ ?_ c5 (by omega) (by omega)
      · rw [gset_ne npx, gset_same]
      · simp only [dp]
        omega
      · simp only [wl, rm]
        omega
      · simp only [rm]
        omega
  rintro σ1 H1 ⟨rfl, rfl⟩
  -- do
  refine ixv 2 rfl P2.hp rfl ⟨_, _, rfl, rfl, _, rfl, pn, [.ref S, .int (k + 2), .int z], _, 2, rfl, rfl, P2.hp, rfl, ?_⟩
  refine ⟨_, rfl, (by show 2 ≤ sizeLine; decide), fun x hx => ?_⟩
  have E3 : Ex g H g (upd H2 pn (.lst [.ref S, .int (k + 2), .int (z - 1)])) pn := E2.trans Ex.pen hpn2
  have nx : x ≠ pn := fun e => by
    rw [e] at hx
    have z1 : upd H2 pn (.lst [.ref S, .int (k + 2), .int (z - 1)]) pn = none := hx
    rw [upd_same] at z1
    cases z1
  have hx2 : H2 x = none := by
    have z1 : upd H2 pn (.lst [.ref S, .int (k + 2), .int (z - 1)]) x = none := hx
    rw [upd_ne nx] at z1
    exact z1
  obtain ⟨f1, f2⟩ := fr2 hx2
  exact cont _ (gset g x 3) x (.dO nm .nil) (k + 2) (z - 1) (E3.new hx ⟨_, upd_same⟩) (by rw [upd_ne f2.symm]; exact upd_same) f1 f2 ⟨x, [], rfl, gset_same, upd_same, rfl⟩ ⟨hnm, trivial⟩ (Nat.zero_le _) (by show 2 ≤ 9 * 1 + 1; decide) (by show ((1 : Nat) : Int) + (z - 1) = z; omega) (by omega) (by omega) (by omega)
end
end Fc

set_option Elab.async false
set_option linter.all false
set_option maxRecDepth 100000
set_option maxHeartbeats 4000000
namespace Fc
open PySem PySem.Spec PyProof.Rows L2 He
theorem back_rm {g : Addr → Nat} {H : Hp} {l : L} {w : Bool} {x : Addr} {rest : List V} (u : UL g H l w [x]) (h : H x = some (.lst (.str wBack :: rest))) : rm l = 0 := by
  have no : ∀ {s : Str} {r : List V}, H x = some (.lst (.str s :: r)) → s = wBack := fun e => by
    rw [h] at e
    injection e with e
    injection e with e
    injection e with e1 e2
    injection e1 with e1
    exact e1.symm
  cases l with
  | nil => rfl
  | lv r => obtain ⟨y, t, e, h1, h2, h3⟩ := u; injection e with e1 e2; subst e1 e2; exact absurd (no h2) (by decide +kernel)
  | bk r => obtain ⟨y, t, e, h1, h2, h3⟩ := u; injection e with e1 e2; subst e1 e2; rw [ul_nil h3]; rfl
  | dO n r => obtain ⟨y, t, e, h1, h2, h3⟩ := u; injection e with e1 e2; subst e1 e2; exact absurd (no h2) (by decide +kernel)
  | ca c r => obtain ⟨y, t, e, h1, h2, h3⟩ := u; injection e with e1 e2; subst e1 e2; exact absurd (no h2) (by decide +kernel)
  | fi n a b r => obtain ⟨y, t, p, q, ps, qs, e, h1, h2, h3⟩ := u; injection e with e1 e2; subst e1 e2; exact absurd (no h2) (by decide +kernel)
  | wh n a r => obtain ⟨y, t, p, ps, e, h1, h2, h3⟩ := u; injection e with e1 e2; subst e1 e2; exact absurd (no h2) (by decide +kernel)
section
variable {P : Program} {w : World} {K : PySem.W.Frag} {mg : Str → Option Value} {base : Heap}
theorem sc_list : FnScope ["_law_pen", "_law_depth", "_law_loops", "_law_calls", "_law_items", "_law_k", "_law_one"] ["_law_pen", "_law_depth", "_law_loops", "_law_calls"] (defScope (top 42)) := ⟨rfl, rfl, rfl, by decide +kernel, rfl, by decide +kernel, by decide +kernel⟩
theorem c_list (T : Txt K mg) : ∀ r : Nat, r ≤ 5 → Cal P w K mg base CX0 (2 * r + 14) "_law_list" ["_law_pen", "_law_depth", "_law_loops", "_law_calls"] (SL K r) := by
  have C_pull : Cal P w K mg base CX0 2 "_law_pull" ["_law_pen"] (spPull K) := c_pull T
  have C_passes : Cal P w K mg base CX0 13 "_law_passes" ["_law_items"] (spPasses K 12) := c_passes T 12
  obtain ⟨fd, F⟩ := T.d__law_list
  intro r
  induction r with
  | zero =>
    intro _
    refine ⟨⟨fd, fn0 F sc_list (fun vs H Q E h => h.elim) (fun cdv A outer s H vs Q E hr h => h.elim), FunD.bindsN F fun _ _ _ _ _ _ us hl => match us, hl with | [_, _, _, _], _ => rfl⟩, T.k__law_list, T.g__law_list⟩
  | succ r ih =>
    intro hr5
    have C_thing : Cal P w K mg base CX0 (2 * r + 14 + 1) "_law_thing" ["_law_pen", "_law_depth", "_law_loops", "_law_calls"] (spThing K r) := c_thing T r _ (by omega) (ih (by omega))
    refine ⟨⟨fd, fn0 (k := 2 * r + 15) F sc_list (fun vs H Q E h => ?_) (fun cdv A outer s H vs Q E hr h => ?_), FunD.bindsN F fun _ _ _ _ _ _ us hl => match us, hl with | [_, _, _, _], _ => rfl⟩, T.k__law_list, T.g__law_list⟩
    · obtain ⟨_, _, _, _, _, _, _, _, _, _, rfl, _⟩ := h
      rfl
    obtain ⟨pn, S, Cs, zs, k, z, lo, cs, m, g, rfl, PN, k0, k1, hz, hlo, hCs, nCs, hcs, cont⟩ := h
    refine ⟨_, (pss_cons (ps_set (i := 4) sc_list.nd rfl (.inl rfl) (pe_lst pa_nil))
    (pss_cons (ps_for PassesOwn.never rfl (pi_range1 (by rfl) T.z_range (pa_cons (pe_op op_add (pe_op op_mod (pcall C_pull (hr.mono (by omega)) rfl pass0 (pa_cons (pv 0) pa_nil)) pe_int) (pe_op op_mul pe_int (pe_callTy call_int1 (by rfl) T.z_int (by decide +kernel) (pa_cons (pe_cmpR op_eq (pv 1) pe_int (by rfl)) pa_nil)))) pa_nil)) (pg_name (i := 5) sc_list.nd rfl (.inl rfl))
      (pss_one (ps_if (PW.pt (pw_and (pt_cmpR op_gt (pe_ix ix_list (pv 0) pe_int (fun _ _ => rfl)) pe_int (by rfl)) (pw_and1 (pt_val (pcall C_passes (hr.mono (by omega)) rfl pass0 (pa_cons (pv 4) pa_nil))))))
        (pss_cons (ps_set (i := 6) sc_list.nd rfl (.inl rfl) (pcall C_thing (hr.mono (by omega)) rfl pass0 (pa_cons (pv 0) (pa_cons (pv 1) (pa_cons (pv 2) (pa_cons (pv 3) pa_nil))))))
        (pss_cons (ps_if (PW.pt (pw_and (pt_cmpR op_eq (pv 1) pe_int (by rfl)) (pw_and (pt_cmpR op_eq (pe_callB call_len_seq (by rfl) T.z_len PySem.boot_len (pa_cons (pv 4) pa_nil)) pe_int (by rfl)) (pw_and1 (pt_cmpR op_eq (pe_ix ix_list (pv 6) pe_int (fun _ _ => rfl)) pe_str (by rfl))))))
          (pss_cons (ps_asg (pe_op op_sub (pe_ix ix_list (pv 0) pe_int (fun _ _ => rfl)) pe_int) (pg_sub (pv 0) pe_int set_list))
          (pss_one (ps_set (i := 6) sc_list.nd rfl (.inl rfl) (pe_lst (pa_cons pe_str (pa_cons pe_str pa_nil))))))
          pss_nil)
        (pss_one (ps_expr (pe_bm PySem.F.plainAttrs_list PySem.F.slot_list_append PySem.F.type_list_append mt_append (pv 4) (pa_cons (pv 6) pa_nil))))))
        pss_nil)))
    (pss_one (ps_ret (pv 4))))), ?_⟩
    have kp := kt_pos r
    have ekl : kl r = 1 + 5 * kt r := rfl
    refine ⟨Nat.zero_le _, fun a ha => ?_⟩
    have na : a ≠ pn := fun e => by rw [e, PN.hp] at ha; cases ha
    have E1 : Ex g H (gset g a 9) (upd H a (.lst [])) pn := (Ex.same (Same.refl H)).new ha ⟨_, PN.hp⟩
    have P1 : Pn K (gset g a 9) (upd H a (.lst [])) pn S zs k z := PN.go E1 (by rw [upd_ne na.symm]; exact PN.hp)
    refine ⟨_, rfl, pn, S, zs, k, z, rfl, P1.hp, P1.hS, k0, by omega, fun n1 a1 b1 => ?_⟩
    have E2 : Ex g H (gset g a 9) (upd (upd H a (.lst [])) pn (.lst [.ref S, .int (k + 1), .int z])) pn := E1.trans Ex.pen ⟨_, P1.hp⟩
    have P2 : Pn K (gset g a 9) (upd (upd H a (.lst [])) pn (.lst [.ref S, .int (k + 1), .int z])) pn S zs (k + 1) z := P1.go Ex.pen upd_same
    have hm := Int.emod_nonneg n1 (b := 4) (by decide)
    have hm2 := Int.emod_lt_of_pos n1 (b := 4) (by decide)
    obtain ⟨bd, ebd⟩ : ∃ b : Bool, b = decide (V.int (4 - (r : Int)) = V.int 0) := ⟨_, rfl⟩
    refine ⟨_, _, rfl, rfl, (by show (0 : Int) < 4; decide), _, rfl, rfl, .inr ⟨_, rfl, _, _, rfl, rfl, .inl ⟨by decide, by decide⟩, _, _, rfl, rfl, _, rfl, ?_⟩⟩
    rw [← ebd]
    have hb : (0 : Int) ≤ (if bd = true then 1 else 0) ∧ (if bd = true then (1 : Int) else 0) ≤ 1 := by cases bd <;> decide
    have hb4 : r = 4 → (if bd = true then (1 : Int) else 0) = 1 := fun e => by
      rw [ebd, e]
      decide
    obtain ⟨cb, ecb⟩ : ∃ x : Int, x = (if bd = true then (1 : Int) else 0) := ⟨_, rfl⟩
    rw [← ecb] at hb hb4 ⊢
    refine ⟨?_, ?_, ?_⟩
    · show -(2 ^ 62) ≤ n1 % 4 + 2 * cb
      omega
    · show n1 % 4 + 2 * cb < 2 ^ 62
      omega
    refine for_range (lo := 0) (fun i σ H' => ∃ (g1 : Addr → Nat) (l : L) (k' z' : Int) (xs : List Addr) (x5 x6 : Option V), σ = [some (.ref pn), some (.int (4 - (r : Int))), some (.int lo), some (.ref Cs), some (.ref a), x5, x6] ∧ Ex g H g1 H' pn ∧ H' pn = some (.lst [.ref S, .int k', .int z']) ∧ H' a = some (.lst (rf xs)) ∧ g1 a = 9 ∧ UL g1 H' l (decide (0 < lo)) xs ∧ Wf m l (decide (0 < lo)) ∧ dp l ≤ r ∧ wl l ≤ 9 * rm l + xs.length ∧
      xs.length ≤ i ∧ i ≤ 5 ∧ ((rm l : Nat) : Int) + z' = z ∧ 0 ≤ z' ∧ k + 1 ≤ k' ∧ k' ≤ k + 1 + (i : Int) * kt r ∧ (0 < z → 0 < i → l ≠ .nil)) ?_ ?_ ?_
    · refine ⟨gset g a 9, .nil, k + 1, z, [], none, none, rfl, E2, upd_same, by rw [upd_ne na]; exact upd_same, gset_same, rfl, trivial, Nat.zero_le _, Nat.zero_le _, Nat.le_refl _, by decide, by show ((0 : Nat) : Int) + z = z; omega, hz, by omega, by omega, fun _ h => absurd h (Nat.lt_irrefl _)⟩
    · rintro i σ H' hi ⟨g1, l, k', z', xs, x5, x6, rfl, X, hp, ha', ga, ul, wf, hd, hw, hx, hi5, hrm, hz', hk1, hk2, hne⟩
      have hi4 : i + 1 ≤ 5 := by
        have : (n1 % 4 + 2 * cb).toNat ≤ 5 := by omega
        exact Nat.le_trans (Nat.succ_le_of_lt hi) this
      have PX : Pn K g1 H' pn S zs k' z' := PN.go X hp
      have hC' := X.hs _ _ nCs hCs
      have ik : (i : Int) * kt r ≤ 4 * kt r := Int.mul_le_mul_of_nonneg_right (by omega) (by omega)
      have ik2 : ((i + 1 : Nat) : Int) * kt r = (i : Int) * kt r + kt r := by
        rw [Int.natCast_add, Int.add_mul]
        show (i : Int) * kt r + 1 * kt r = _
        rw [Int.one_mul]
      -- one more
      have fin : ∀ (H2 : Hp) (g2 : Addr → Nat) (x : Addr) (l1 : L) (k2 z2 : Int) (x5 x6 : Option V), Ex g1 H' g2 H2 pn → H2 pn = some (.lst [.ref S, .int k2, .int z2]) → UL g2 H2 l1 (decide (0 < lo)) [x] → Wf m l1 (decide (0 < lo)) → dp l1 ≤ r → wl l1 ≤ 9 * rm l1 + 1 → ((rm l1 : Nat) : Int) + z2 = z' → 0 ≤ z2 → k' ≤ k2 → k2 ≤ k' + kt r →
          ∃ (g3 : Addr → Nat) (l3 : L) (k3 z3 : Int) (xs3 : List Addr) (y5 y6 : Option V), [some (.ref pn), some (.int (4 - (r : Int))), some (.int lo), some (.ref Cs), some (.ref a), x5, x6] = [some (.ref pn), some (.int (4 - (r : Int))), some (.int lo), some (.ref Cs), some (.ref a), y5, y6] ∧ Ex g H g3 (upd H2 a (.lst (rf (xs ++ [x])))) pn ∧ (upd H2 a (.lst (rf (xs ++ [x])))) pn = some (.lst [.ref S, .int k3, .int z3]) ∧ (upd H2 a (.lst (rf (xs ++ [x])))) a = some (.lst (rf xs3)) ∧ g3 a = 9 ∧ UL g3 (upd H2 a (.lst (rf (xs ++ [x])))) l3 (decide (0 < lo)) xs3 ∧ Wf m l3 (decide (0 < lo)) ∧ dp l3 ≤ r ∧ wl l3 ≤ 9 * rm l3 + xs3.length ∧
            xs3.length ≤ i + 1 ∧ i + 1 ≤ 5 ∧ ((rm l3 : Nat) : Int) + z3 = z ∧ 0 ≤ z3 ∧ k + 1 ≤ k3 ∧ k3 ≤ k + 1 + ((i + 1 : Nat) : Int) * kt r ∧ (0 < z → 0 < i + 1 → l3 ≠ .nil) := by
        intro H2 g2 x l1 k2 z2 y5 y6 X2 hp2 u1 w1 d1 v1 c1 hz2 hk3 hk4
        have XX : Ex g H g2 H2 pn := X.trans X2 ⟨_, hp⟩
        have ga2 : g2 a = 9 := (X2.gs _ _ ha').trans ga
        have KP : Kp g2 H2 g2 (upd H2 a (.lst (rf (xs ++ [x])))) := Kp.set (by rw [ga2]; decide)
        refine ⟨g2, apL l l1, k2, z2, xs ++ [x], y5, y6, rfl, ⟨XX.gs, fun b u e h => ?_⟩, ?_, upd_same, ga2, ((ul.mono (X2.kp PX.gp)).app u1).mono KP, (wf_app l1 l).mpr ⟨wf, w1⟩, ?_, ?_, ?_, hi4, ?_, hz2, by omega, by omega, fun _ _ e => ?_⟩
        · rw [upd_ne (ne_of_none h ha)]
          exact XX.hs b u e h
        · rw [upd_ne na.symm]
          exact hp2
        · rw [dp_app]
          exact Nat.max_le.mpr ⟨hd, d1⟩
        · rw [wl_app, rm_app, List.length_append]
          show _ ≤ 9 * (rm l + rm l1) + (xs.length + 1)
          omega
        · rw [List.length_append]
          show xs.length + 1 ≤ i + 1
          omega
        · rw [rm_app]
          omega
        · have ln := ul_len u1
          have e2 := congrArg wl e
          rw [wl_app] at e2
          simp only [wl, List.length_cons, List.length_nil] at e2 ln
          omega
      have stay : ∀ {y5 : Option V}, (0 < z → l ≠ .nil) → ∃ (g1 : Addr → Nat) (l : L) (k' z' : Int) (xs : List Addr) (x5 x6_ : Option V), [some (.ref pn), some (.int (4 - (r : Int))), some (.int lo), some (.ref Cs), some (.ref a), y5, x6] = [some (.ref pn), some (.int (4 - (r : Int))), some (.int lo), some (.ref Cs), some (.ref a), x5, x6_] ∧ Ex g H g1 H' pn ∧ H' pn = some (.lst [.ref S, .int k', .int z']) ∧ H' a = some (.lst (rf xs)) ∧ g1 a = 9 ∧ UL g1 H' l (decide (0 < lo)) xs ∧ Wf m l (decide (0 < lo)) ∧ dp l ≤ r ∧ wl l ≤ 9 * rm l + xs.length ∧
          xs.length ≤ i + 1 ∧ i + 1 ≤ 5 ∧ ((rm l : Nat) : Int) + z' = z ∧ 0 ≤ z' ∧ k + 1 ≤ k' ∧ k' ≤ k + 1 + ((i + 1 : Nat) : Int) * kt r ∧ (0 < z → 0 < i + 1 → l ≠ .nil) := fun {y5} hl =>
        ⟨g1, l, k', z', xs, y5, x6, rfl, X, hp, ha', ga, ul, wf, hd, hw, Nat.le_succ_of_le hx, hi4, hrm, hz', hk1, by omega, fun h _ => hl h⟩
      refine ixv 2 rfl hp rfl ⟨_, _, rfl, rfl, _, rfl, ?_⟩
      by_cases q0 : 0 < z'
      rotate_left
      · refine ifF (decide_eq_false q0) (ifF rfl (stay fun h e => ?_))
        rw [e] at hrm
        simp only [rm] at hrm
        omega
      refine ifT (decide_eq_true q0) ?_
      refine ⟨_, rfl, a, g1, l, _, xs, rfl, ha', ul, by omega, fun b hbn => ⟨b, rfl, ?_⟩⟩
      cases b with
      | false => exact ifF rfl (stay fun _ e => nomatch hbn e)
      | true =>
        refine ifT rfl ?_
        refine ⟨_, rfl, _, rfl, _, rfl, _, rfl, pn, S, Cs, zs, k', z', lo, cs, m, g1, rfl, PX, by omega, by omega, q0, hlo, hC', nCs, hcs, fun H2 g2 x l1 k2 z2 X2 hp2 xf xnp u1 w1 d1 v1 c1 hz2 hk3 hk4 => ?_⟩
        have ha2 := X2.hs _ _ na ha'
        dsimp only
        refine pseqS (fun σ1 H3 => ∃ (g3 : Addr → Nat) (x3 : Addr) (l3 : L) (k3 z3 : Int) (y5 : Option V), σ1 = [some (.ref pn), some (.int (4 - (r : Int))), some (.int lo), some (.ref Cs), some (.ref a), y5, some (.ref x3)] ∧ Ex g1 H' g3 H3 pn ∧ H3 pn = some (.lst [.ref S, .int k3, .int z3]) ∧ UL g3 H3 l3 (decide (0 < lo)) [x3] ∧ Wf m l3 (decide (0 < lo)) ∧ dp l3 ≤ r ∧ wl l3 ≤ 9 * rm l3 + 1 ∧ ((rm l3 : Nat) : Int) + z3 = z' ∧ 0 ≤ z3 ∧ k' ≤ k3 ∧ k3 ≤ k' + kt r) (fun D1 _ gg => ?_) ?_
        · have keep : ∀ {y5 : Option V}, D1.nx [some (.ref pn), some (.int (4 - (r : Int))), some (.int lo), some (.ref Cs), some (.ref a), y5, some (.ref x)] H2 := fun {y5} => gg _ _ ⟨g2, x, l1, k2, z2, y5, rfl, X2, hp2, u1, w1, d1, v1, c1, hz2, hk3, hk4⟩
          refine ⟨_, rfl, rfl, _, rfl, ?_⟩
          by_cases e0 : V.int (4 - (r : Int)) = V.int 0
          rotate_left
          · exact ifF (decide_eq_false e0) (ifF rfl keep)
          refine ifT (decide_eq_true e0) ⟨_, rfl, a, _, rfl, .inl (SqL.of ha2), rfl, _, rfl, ?_⟩
          by_cases e1 : V.int (((rf xs).length : Nat) : Int) = V.int 0
          rotate_left
          · exact ifF (decide_eq_false e1) (ifF rfl keep)
          refine ifT (decide_eq_true e1) ?_
          obtain ⟨gx, s, rest, hx2⟩ := ul_word u1
          by_cases e2 : s = wBack
          rotate_left
          · exact wno rfl hx2 e2 (ifF rfl keep)
          refine wyes rfl hx2 e2 (ifT rfl ?_)
          rw [e2] at hx2
          have r0 := back_rm u1 hx2
          refine ixv 2 rfl hp2 rfl ⟨_, _, rfl, rfl, _, rfl, pn, [.ref S, .int k2, .int z2], _, 2, rfl, rfl, hp2, rfl, ?_⟩
          refine ⟨(by show 2 ≤ sizeLine; decide), fun y hy => ?_⟩
          have hy1 : upd H2 pn (.lst [.ref S, .int k2, .int (z2 - 1)]) y = none := hy
          have ny : y ≠ pn := fun e => by rw [e, upd_same] at hy1; cases hy1
          have X3 : Ex g1 H' g2 (upd H2 pn (.lst [.ref S, .int k2, .int (z2 - 1)])) pn := X2.trans Ex.pen ⟨_, hp2⟩
          refine gg _ _ ⟨gset g2 y 3, y, .dO wBack .nil, k2, z2 - 1, _, rfl, X3.new hy1 ⟨_, upd_same⟩, by rw [upd_ne ny.symm]; exact upd_same, ⟨y, [], rfl, gset_same, upd_same, rfl⟩, ⟨nm_kw.2.2.2.2.2.2.2.2, trivial⟩, Nat.zero_le _, by show 2 ≤ 9 * 1 + 1; decide, ?_, ?_, hk3, hk4⟩
          · show ((1 : Nat) : Int) + (z2 - 1) = z'
            rw [r0] at c1
            omega
          · rw [r0] at c1
            omega
        rintro σ1 H3 ⟨g3, x3, l3, k3, z3, y5, rfl, X3, hp3, u3, w3, d3, v3, c3, hz3, hk5, hk6⟩
        have ha3 := X3.hs _ _ na ha'
        refine ⟨_, rfl, .inl ⟨rfl, _, SqL.of ha3⟩, _, rfl, a, _, _, rfl, rfl, ha3, (by rw [rf_len]; exact szl (by omega)), ?_⟩
        have f := fin H3 g3 x3 l3 k3 z3 y5 (some (.ref x3)) X3 hp3 u3 w3 d3 v3 c3 hz3 hk5 hk6
        rw [rf_app] at f
        exact f
    · rintro σ H' ⟨g1, l, k', z', xs, x5, x6, rfl, X, hp, ha', ga, ul, wf, hd, hw, hx, hi5, hrm, hz', hk1, hk2, hne⟩
      have hi0 : r = 4 → 0 < (n1 % 4 + 2 * cb).toNat := fun e => by
        have := hb4 e
        omega
      have ik : (((n1 % 4 + 2 * cb).toNat : Nat) : Int) * kt r ≤ 5 * kt r := Int.mul_le_mul_of_nonneg_right (by omega) (by omega)
      refine ⟨_, rfl, cont H' g1 a xs l k' z' X hp ha na ga ha' ul wf (fun e h => hne h (hi0 e)) hd ?_ hrm hz' (by omega) ?_⟩
      · have : xs.length ≤ 5 := by omega
        omega
      · rw [ekl]
        have : (((n1 % 4 + 2 * cb).toNat : Nat) : Int) * kt r ≤ 5 * kt r := ik
        have h3 : k' ≤ k + 1 + (((n1 % 4 + 2 * cb).toNat : Nat) : Int) * kt r := hk2
        omega
end
end Fc

set_option Elab.async false
set_option linter.all false
set_option maxRecDepth 100000
set_option maxHeartbeats 4000000
namespace Fc
open PySem PySem.Spec PyProof.Rows L2 He
/-! the law: what is drawn -/
structure WS (H0 H : Hp) (g : Addr → Nat) (A B : Addr) (ns : List Str) (as : List Addr) (ls : List L) (D Z : Nat) : Prop where
  same : Same H0 H
  g9 : ∀ b u, H0 b = some u → g b = 9
  hA : H A = some (.lst (sS ns))
  A0 : H0 A = none
  gA : g A = 9
  hB : H B = some (.lst (rf as))
  B0 : H0 B = none
  gB : g B = 9
  AB : A ≠ B
  nm : ∀ n ∈ ns, Nm n
  len : ns.length = as.length
  l1 : 1 ≤ as.length
  nd : as.Nodup
  rt : Paired (RtAt g H ns.length D Z) as ls
theorem Paired.set {α β : Type} {F G : α → β → Prop} : ∀ {l : List α} {m : List β} {j : Nat} {a : α} {b' : β}, Paired F l m → l.Nodup → l[j]? = some a → (∀ x y, x ≠ a → F x y → G x y) → G a b' → Paired G l (m.set j b')
  | _, _, _, _, _, .nil, _, h, _, _ => by simp at h
  | x :: l, y :: m, 0, a, b', .cons r t, nd, h, ho, hn => by
    have e : x = a := by simpa using h
    subst e
    have nx := (List.nodup_cons.mp nd).1
    refine .cons hn ?_
    have key : ∀ {l : List α} {m : List β}, Paired F l m → x ∉ l → Paired G l m := by
      intro l m p
      induction p with
      | nil => intro _; exact .nil
      | cons r t ih => intro n; exact .cons (ho _ _ (fun z => n (by rw [z]; exact List.mem_cons_self ..)) r) (ih fun z => n (List.mem_cons_of_mem _ z))
    exact key t nx
  | x :: l, y :: m, j + 1, a, b', .cons r t, nd, h, ho, hn => by
    obtain ⟨nx, nd2⟩ := List.nodup_cons.mp nd
    have h2 : l[j]? = some a := by simpa using h
    exact .cons (ho _ _ (fun z => nx (by rw [z]; exact List.mem_of_getElem? h2)) r) (Paired.set t nd2 h2 ho hn)
theorem rg_nat (a b : Nat) : rgV ((a : Nat) : Int) ((b : Nat) : Int) = nI ((List.range (b - a)).map fun i => a + i) := by
  unfold rgV nI
  rw [List.map_map]
  have e : (((b : Nat) : Int) - ((a : Nat) : Int)).toNat = b - a := by omega
  rw [e]
  refine List.map_congr_left fun i _ => ?_
  show V.int _ = V.int _
  congr 1
/-- a thing put in -/
theorem ul_ins {g : Addr → Nat} {H : Hp} {l l1 : L} {w : Bool} {xs : List Addr} {x : Addr} (i : Nat) (u : UL g H l w xs) (v : UL g H l1 w [x]) : ∃ a b, l = apL a b ∧ UL g H (apL a (apL l1 b)) w (xs.take i ++ [x] ++ xs.drop i) := by
  rw [← List.take_append_drop i xs] at u
  obtain ⟨a, b, e, ua, ub⟩ := u.split
  refine ⟨a, b, e, ?_⟩
  rw [List.append_assoc]
  exact ua.app (v.app ub)
theorem ins_ms {m : Nat} {w : Bool} {a b l1 : L} : wl (apL a (apL l1 b)) = wl (apL a b) + wl l1 ∧ dp (apL a (apL l1 b)) = max (dp (apL a b)) (dp l1) ∧ rm (apL a (apL l1 b)) = rm (apL a b) + rm l1 ∧ things (apL a (apL l1 b)) = things (apL a b) + things l1 ∧ (Wf m (apL a (apL l1 b)) w ↔ Wf m (apL a b) w ∧ Wf m l1 w) := by
  refine ⟨?_, ?_, ?_, ?_, ?_⟩
  · rw [wl_app, wl_app, wl_app]; omega
  · rw [dp_app, dp_app, dp_app]; omega
  · rw [rm_app, rm_app, rm_app]; omega
  · rw [things_app, things_app, things_app]; omega
  · rw [wf_app, wf_app, wf_app]
    constructor
    · rintro ⟨h1, h2, h3⟩; exact ⟨⟨h1, h3⟩, h2⟩
    · rintro ⟨⟨h1, h3⟩, h2⟩; exact ⟨h1, h2, h3⟩
def spDrawnL (K : PySem.W.Frag) : L2.Sp := fun vs H Q _ => ∃ (S : Addr) (zs : List Int), vs = [.ref S, .int 0] ∧ SqL K H S (zs.map V.int) ∧
  ∀ H' g A B ns as ls t, WS H H' g A B ns as ls 5 200 → as.length ≤ 4 → H' t = some (.tup [.ref A, .ref B]) → Q (.ref t) H'
theorem nm_cut {s : Str} (h : Nm s) : (cutS s none (some 7)).cps.size ≤ 7 ∧ ∀ c ∈ (cutS s none (some 7)).cps.toList, 97 ≤ c ∧ c ≤ 122 := by
  have e : (cutS s none (some 7)).cps.toList = (s.cps.toList.drop 0).take (HT.sIx s.length s.length (some 7)) := by
    unfold cutS
    rw [HT.sIx_none, Nat.sub_zero]
  have e7 : HT.sIx s.length s.length (some 7) = min 7 s.length := HT.sIx_nat _ _ 7
  rw [e7, List.drop_zero] at e
  refine ⟨?_, fun c hc => h.2.2 c ?_⟩
  · rw [← Array.length_toList, e, List.length_take]
    omega
  · rw [e] at hc
    exact List.mem_of_mem_take hc
section
variable {P : Program} {w : World} {K : PySem.W.Frag} {mg : Str → Option Value} {base : Heap}
theorem sc_drawn : FnScope ["_law_script", "_law_start", "_law_pen", "_law_many_here", "_law_names", "_law_k", "_law_name_here", "_law_letter", "_law_lists", "_law_items"] ["_law_script", "_law_start"] (defScope (top 43)) := ⟨rfl, rfl, rfl, by decide +kernel, rfl, by decide +kernel, by decide +kernel⟩
theorem c_drawn (T : Txt K mg) : Cal P w K mg base CX0 25 "_law_drawn" ["_law_script", "_law_start"] (spDrawnL K) := by
  have C_pull : Cal P w K mg base CX0 2 "_law_pull" ["_law_pen"] (spPull K) := c_pull T
  have C_name : Cal P w K mg base CX0 1 "_law_name" ["_law_number"] spLName := c_lname T
  have C_list : Cal P w K mg base CX0 24 "_law_list" ["_law_pen", "_law_depth", "_law_loops", "_law_calls"] (spList K 4) := c_list T 5 (Nat.le_refl _)
  obtain ⟨fd, F⟩ := T.d__law_drawn
  refine ⟨⟨fd, fn0 F sc_drawn (fun vs H Q E h => ?_) (fun cdv A outer s H vs Q E hr h => ?_), FunD.bindsN F fun _ _ _ _ _ _ us hl => match us, hl with | [_, _], _ => rfl⟩, T.k__law_drawn, T.g__law_drawn⟩
  · obtain ⟨_, _, rfl, _⟩ := h
    rfl
  obtain ⟨S, zs, rfl, hS, cont⟩ := h
  refine ⟨_, (pss_cons (ps_set (i := 2) sc_drawn.nd rfl (.inl rfl) (pe_lst (pa_cons (pv 0) (pa_cons (pv 1) (pa_cons pe_int pa_nil)))))
    (pss_cons (ps_set (i := 3) sc_drawn.nd rfl (.inl rfl) (pe_op op_add pe_int (pe_op op_mod (pcall C_pull (hr.mono (by decide)) rfl pass0 (pa_cons (pv 2) pa_nil)) pe_int)))
    (pss_cons (ps_set (i := 4) sc_drawn.nd rfl (.inl rfl) (pe_lst pa_nil))
    (pss_cons (ps_for PassesOwn.never rfl (pi_range1 (by rfl) T.z_range (pa_cons (pv 3) pa_nil)) (pg_name (i := 5) sc_drawn.nd rfl (.inl rfl))
      (pss_cons (ps_set (i := 6) sc_drawn.nd rfl (.inl rfl) (pcall C_name (hr.mono (by decide)) rfl pass0 (pa_cons (pcall C_pull (hr.mono (by decide)) rfl pass0 (pa_cons (pv 2) pa_nil)) pa_nil)))
      (pss_cons (ps_for PassesOwn.never rfl (pi_str pe_str) (pg_name (i := 7) sc_drawn.nd rfl (.inl rfl))
        (pss_one (ps_if (pt_cmpR op_in_seq (pv 6) (pv 4) (by rfl))
          (pss_one (ps_set (i := 6) sc_drawn.nd rfl (.inl rfl) (pe_op op_add_str (pe_slice sl_str (pv 6) po_none (po_some pe_int)) (pv 7))))
          pss_nil)))
      (pss_one (ps_expr (pe_bm PySem.F.plainAttrs_list PySem.F.slot_list_append PySem.F.type_list_append mt_append (pv 4) (pa_cons (pv 6) pa_nil)))))))
    (pss_cons (ps_set (i := 8) sc_drawn.nd rfl (.inl rfl) (pe_lst pa_nil))
    (pss_cons (ps_for PassesOwn.never rfl (pi_range1 (by rfl) T.z_range (pa_cons (pv 3) pa_nil)) (pg_name (i := 5) sc_drawn.nd rfl (.inl rfl))
      (pss_cons (ps_asg (pe_ix ix_list (pe_lst (pa_cons pe_int (pa_cons pe_int (pa_cons pe_int (pa_cons pe_int pa_nil))))) (pe_op op_sub (pv 3) pe_int) (fun _ _ => rfl)) (pg_sub (pv 2) pe_int set_list))
      (pss_one (ps_expr (pe_bm PySem.F.plainAttrs_list PySem.F.slot_list_append PySem.F.type_list_append mt_append (pv 8) (pa_cons (pcall C_list (hr.mono (by decide)) rfl pass0 (pa_cons (pv 2) (pa_cons pe_int (pa_cons pe_int (pa_cons (pe_listRg rfl (by rfl) T.z_list (prg_2 (by rfl) T.z_range (pe_op op_add (pv 5) pe_int) (pv 3))) pa_nil))))) pa_nil))))))
    (pss_cons (ps_for PassesOwn.never rfl (pi_range2 (by rfl) T.z_range (pa_cons pe_int (pa_cons (pv 3) pa_nil))) (pg_name (i := 5) sc_drawn.nd rfl (.inl rfl))
      (pss_cons (ps_set (i := 9) sc_drawn.nd rfl (.inl rfl) (pe_ix ix_list (pv 8) (pe_op op_mod (pcall C_pull (hr.mono (by decide)) rfl pass0 (pa_cons (pv 2) pa_nil)) (pv 5)) (fun _ _ => rfl)))
      (pss_one (ps_expr (pe_bm PySem.F.plainAttrs_list PySem.F.slot_list_insert PySem.F.type_list_insert mt_insert (pv 9) (pa_cons (pe_op op_mod (pcall C_pull (hr.mono (by decide)) rfl pass0 (pa_cons (pv 2) pa_nil)) (pe_callB call_len_seq (by rfl) T.z_len PySem.boot_len (pa_cons (pv 9) pa_nil))) (pa_cons (pe_lst (pa_cons pe_str (pa_cons (pv 5) pa_nil))) pa_nil)))))))
    (pss_one (ps_ret (pe_tup (pa_cons (pv 4) (pa_cons (pv 8) pa_nil)))))))))))), ?_⟩
  refine ⟨_, rfl, _, rfl, (by show 3 ≤ sizeLine; decide), fun pn hpn => ?_⟩
  have P0 : Pn K (fun _ => 9) (upd H pn (.lst [.ref S, .int 0, .int 0])) pn S zs 0 0 := ⟨upd_same, ⟨H, hS, same_new hpn _, hpn⟩, rfl⟩
  refine ⟨_, rfl, pn, S, zs, 0, 0, rfl, P0.hp, P0.hS, by decide, by decide, fun n1 a1 b1 => ⟨_, _, rfl, rfl, (by show (0 : Int) < 4; decide), _, _, rfl, rfl, ?_⟩⟩
  have hm := Int.emod_nonneg n1 (b := 4) (by decide)
  have hm2 := Int.emod_lt_of_pos n1 (b := 4) (by decide)
  obtain ⟨M, eM⟩ : ∃ M : Nat, (1 + n1 % 4 : Int) = (M : Int) := ⟨(1 + n1 % 4).toNat, by omega⟩
  have hM : 1 ≤ M ∧ M ≤ 4 := by omega
  have S1 : Same H (upd (upd H pn (.lst [.ref S, .int 0, .int 0])) pn (.lst [.ref S, .int (0 + 1), .int 0])) := same_upd (same_new hpn _) hpn
  have p1 : upd (upd H pn (.lst [.ref S, .int 0, .int 0])) pn (.lst [.ref S, .int (0 + 1), .int 0]) pn = some (.lst [.ref S, .int 1, .int 0]) := upd_same
  refine ⟨Nat.zero_le _, fun A hA => ?_⟩
  have hA' : upd (upd H pn (.lst [.ref S, .int 0, .int 0])) pn (.lst [.ref S, .int (0 + 1), .int 0]) A = none := hA
  have nAp : A ≠ pn := fun e => by rw [e, upd_same] at hA'; cases hA'
  have A0 : H A = none := S1.free hA'
  refine ⟨_, rfl, (1 + n1 % 4 : Int), rfl, by omega, by omega, ?_⟩
  have eMt : (1 + n1 % 4 : Int).toNat = M := by omega
  have qw : ∀ c ∈ ("qwer" : Str).cps.toList, c ∈ ABC.cps.toList := by decide +kernel
  refine for_range (lo := 0) (fun i σ H' => ∃ (k : Int) (ns : List Str) (x5 x6 x7 : Option V), σ = [some (.ref S), some (.int 0), some (.ref pn), some (.int (1 + n1 % 4)), some (.ref A), x5, x6, x7, none, none] ∧ Same H H' ∧ H' pn = some (.lst [.ref S, .int k, .int 0]) ∧ H' A = some (.lst (sS ns)) ∧ (∀ n ∈ ns, Nm n) ∧ ns.length = i ∧ 1 ≤ k ∧ k ≤ 1 + (i : Int) ∧ i ≤ 4) ?_ ?_ ?_
  · refine ⟨1, [], none, none, none, rfl, S1.trans (same_new hA' _), ?_, upd_same, (fun _ h => nomatch h), rfl, by decide, by decide, by decide⟩
    rw [upd_ne nAp.symm]
    exact p1
  · rintro i σ H' hi ⟨k, ns, x5, x6, x7, rfl, s1, hp, hAn, hn, hl, hk1, hk2, hi4⟩
    rw [eMt] at hi
    refine ⟨_, rfl, pn, S, zs, k, 0, rfl, hp, ⟨H, hS, s1, hpn⟩, by omega, by omega, fun n2 a2 b2 => ⟨n2, rfl, a2, b2, fun nm H2 hnm s2 => ?_⟩⟩
    have hp2 := s2 _ _ (upd_same (a := pn))
    have hA2 : H2 A = some (.lst (sS ns)) := s2 _ _ (by rw [upd_ne nAp]; exact hAn)
    have s3 : Same H H2 := (same_upd s1 hpn).trans s2
    refine ⟨"qwer", rfl, ?_⟩
    refine for_str (fun j σ H'' => ∃ (nm : Str) (x7 : Option V), σ = [some (.ref S), some (.int 0), some (.ref pn), some (.int (1 + n1 % 4)), some (.ref A), some (.int (0 + (i : Int))), some (.str nm), x7, none, none] ∧ Nm nm ∧ H2 = H'') ?_ ?_ ?_
    · exact ⟨nm, x7, rfl, hnm, rfl⟩
    · rintro j c σ H'' ec ⟨nm, x7, rfl, hnm, rfl⟩
      refine ⟨_, rfl, _, rfl, A, _, rfl, .inl (SqL.of hA2), rfl, flatS _, _, rfl, ?_⟩
      show (if (inV (.str nm) (sS ns)) = true then _ else _)
      rcases Bool.eq_false_or_eq_true (inV (.str nm) (sS ns)) with q | q
      · refine ifT q ?_
        have hc : c ∈ ABC.cps.toList := qw c (by
          rw [← Array.getElem?_toList] at ec
          exact List.mem_of_getElem? ec)
        have z := nm_cut hnm
        have lz : nm.length ≤ sizeLine := Nat.le_trans hnm.2.1 (by decide)
        refine ⟨_, rfl, _, rfl, nm, rfl, lz, _, rfl, cutS nm none (some 7), ⟨#[c]⟩, rfl, rfl, ?_, ?_⟩
        · show (cutS nm none (some 7)).cps.size + 1 ≤ sizeLine
          exact Nat.le_trans (Nat.succ_le_succ z.1) (by decide)
        · exact ⟨_, _, rfl, (nm_snoc z hc).2, rfl⟩
      · exact ifF q ⟨_, _, rfl, hnm, rfl⟩
    · rintro σ H'' ⟨nm, x7, rfl, hnm, rfl⟩
      refine ⟨_, rfl, .inl ⟨rfl, _, SqL.of hA2⟩, _, rfl, A, _, _, rfl, rfl, hA2, (by rw [sS_len, hl]; exact szl (by omega)), ?_⟩
      have e : sS ns ++ [V.str nm] = sS (ns ++ [nm]) := by rw [sS_app] <;> rfl
      rw [e]
      refine ⟨k + 1, ns ++ [nm], _, _, _, rfl, same_upd s3 A0, by rw [upd_ne nAp.symm]; exact hp2, upd_same, fun n hn' => ?_, by rw [List.length_append, hl] <;> rfl, by omega, by omega, by omega⟩
      rcases List.mem_append.mp hn' with h | h
      · exact hn n h
      · rw [List.mem_singleton.mp h]
        exact hnm
  rintro σ H1 ⟨k, ns, x5, x6, x7, rfl, s1, hp, hAn, hn, hl, hk1, hk2, hi4⟩
  rw [eMt] at hl hk2 hi4
  -- the lists
  refine ⟨Nat.zero_le _, fun B hB => ?_⟩
  have B0 : H B = none := s1.free hB
  have nBp : B ≠ pn := fun e => by rw [e, hp] at hB; cases hB
  have nAB : A ≠ B := ne_of_none hAn hB
  refine ⟨_, rfl, (1 + n1 % 4 : Int), rfl, by omega, by omega, ?_⟩
  refine for_range (lo := 0) (fun i σ H' => ∃ (g : Addr → Nat) (k z : Int) (as : List Addr) (ls : List L) (x5 : Option V), σ = [some (.ref S), some (.int 0), some (.ref pn), some (.int (1 + n1 % 4)), some (.ref A), x5, x6, x7, some (.ref B), none] ∧ Ex (fun _ => 9) H g H' pn ∧ H' pn = some (.lst [.ref S, .int k, .int z]) ∧ g pn = 9 ∧ H' A = some (.lst (sS ns)) ∧ g A = 9 ∧ H' B = some (.lst (rf as)) ∧ g B = 9 ∧ as.Nodup ∧ as.length = i ∧ i ≤ M ∧ Paired (RtAt g H' M 5 132) as ls ∧ (∀ l ∈ ls, l ≠ .nil) ∧ 1 ≤ k ∧ k ≤ 5 + (i : Int) * kl 4) ?_ ?_ ?_
  · refine ⟨fun _ => 9, k, 0, [], [], x5, rfl, Ex.same (s1.trans (same_new hB _)), by rw [upd_ne nBp.symm]; exact hp, rfl, by rw [upd_ne nAB]; exact hAn, rfl, upd_same, rfl, List.nodup_nil, rfl, Nat.zero_le _, .nil, (fun _ h => nomatch h), hk1, by omega⟩
  · rintro i σ H' hi ⟨g, k, z, as, ls, x5, rfl, X, hp, gp, hAn, gA, hBn, gB, nd, hl2, hiM, rt, hne, hk3, hk4⟩
    rw [eMt] at hi
    have ekl4 : kl 4 = 177776 := by decide
    rw [ekl4] at hk4
    -- pen[2]
    have at0 : 0 ≤ (1 + n1 % 4 : Int) - 1 ∧ (1 + n1 % 4 : Int) - 1 < (([V.int 14, .int 12, .int 8, .int 6] : List V).length : Int) := ⟨by omega, by show _ < (4 : Int); omega⟩
    obtain ⟨j, v, ej, ev, ea⟩ := atI_in at0.1 at0.2
    have hv : ∃ zc : Int, v = .int zc ∧ 0 < zc ∧ zc ≤ 14 := by
      have hj : j < 4 := (List.getElem?_eq_some_iff.mp ev).1
      have c : j = 0 ∨ j = 1 ∨ j = 2 ∨ j = 3 := by omega
      rcases c with rfl | rfl | rfl | rfl
      · cases ev; exact ⟨14, rfl, by decide, by decide⟩
      · cases ev; exact ⟨12, rfl, by decide, by decide⟩
      · cases ev; exact ⟨8, rfl, by decide, by decide⟩
      · cases ev; exact ⟨6, rfl, by decide, by decide⟩
    obtain ⟨zc, rfl, hz1, hz2⟩ := hv
    refine ⟨(by show 4 ≤ sizeLine; decide), fun tmp htmp => ?_⟩
    have ntp : pn ≠ tmp := ne_of_none hp htmp
    refine ⟨_, rfl, _, _, rfl, rfl, tmp, _, _, .int zc, rfl, rfl, SqL.of upd_same, ea, _, rfl, pn, [.ref S, .int k, .int z], _, 2, rfl, rfl, by rw [upd_ne ntp]; exact hp, rfl, ?_⟩
    have X2 : Ex (fun _ => 9) H g (upd (upd H' tmp (.lst [.int 14, .int 12, .int 8, .int 6])) pn (.lst [.ref S, .int k, .int zc])) pn := (X.trans (Ex.same (same_new htmp _)) ⟨_, hp⟩).trans Ex.pen ⟨_, by rw [upd_ne ntp]; exact hp⟩
    have Y2 : Ex g H' g (upd (upd H' tmp (.lst [.int 14, .int 12, .int 8, .int 6])) pn (.lst [.ref S, .int k, .int zc])) pn := (Ex.same (same_new htmp _)).trans Ex.pen ⟨_, by rw [upd_ne ntp]; exact hp⟩
    have hp2 : upd (upd H' tmp (.lst [.int 14, .int 12, .int 8, .int 6])) pn (.lst [.ref S, .int k, .int zc]) pn = some (.lst [.ref S, .int k, .int zc]) := upd_same
    have hB2 := Y2.hs _ _ nBp hBn
    have hA2 := Y2.hs _ _ nAp hAn
    have ecs : rgV ((0 + (i : Int)) + 1) (1 + n1 % 4) = nI ((List.range (M - (i + 1))).map fun j => (i + 1) + j) := by
      rw [eM, show (0 + (i : Int)) + 1 = ((i + 1 : Nat) : Int) by omega]
      exact rg_nat (i + 1) M
    refine ⟨_, rfl, .inl ⟨rfl, _, SqL.of hB2⟩, ?_⟩
    refine ⟨_, rfl, _, rfl, _, _, rfl, rfl, _, rfl, _, _, rfl, rfl, RgOk.of_le (by omega) (by omega) (by omega) (by omega), fun Cs hCs => ?_⟩
    have hCs' : upd (upd H' tmp (.lst [.int 14, .int 12, .int 8, .int 6])) pn (.lst [.ref S, .int k, .int zc]) Cs = none := hCs
    have nCp : Cs ≠ pn := fun e => by rw [e, upd_same] at hCs'; cases hCs'
    obtain ⟨H3, eH3⟩ : ∃ H3, H3 = upd (upd (upd H' tmp (.lst [.int 14, .int 12, .int 8, .int 6])) pn (.lst [.ref S, .int k, .int zc])) Cs (.lst (nI ((List.range (M - (i + 1))).map fun j => (i + 1) + j))) := ⟨_, rfl⟩
    have s23 : Same (upd (upd H' tmp (.lst [.int 14, .int 12, .int 8, .int 6])) pn (.lst [.ref S, .int k, .int zc])) H3 := by rw [eH3]; exact same_new hCs' _
    have X3 : Ex (fun _ => 9) H g H3 pn := X2.trans (Ex.same s23) ⟨_, hp2⟩
    have Y3 : Ex g H' g H3 pn := Y2.trans (Ex.same s23) ⟨_, hp2⟩
    have hp3 := s23 _ _ hp2
    have SH3 : Same H H3 := fun b u q => X3.hs b u (fun e => by rw [e, hpn] at q; cases q) q
    refine ⟨pn, S, Cs, zs, k, zc, 0, (List.range (M - (i + 1))).map (fun j => (i + 1) + j), M, g, rfl, ?_, by omega, by rw [ekl4]; omega, by omega, by decide, ?_, nCp, ?_, ?_⟩
    · rw [show V.int = V.int from rfl]
      exact ⟨by rw [upd_ne nCp.symm]; exact upd_same, ⟨H, hS, by rw [eH3] at SH3; rw [ecs]; exact SH3, hpn⟩, gp⟩
    · rw [ecs]
      exact upd_same
    · intro c hc
      obtain ⟨j', hj', rfl⟩ := List.mem_map.mp hc
      have := List.mem_range.mp hj'
      omega
    intro H4 g4 a xs l k4 z4 X4 hp4 af anp ga hxs ul wf hne4 d4 w4 c4 hz4 ka kb
    have eqH : upd (upd (upd H' tmp (.lst [.int 14, .int 12, .int 8, .int 6])) pn (.lst [.ref S, .int k, .int zc])) Cs (.lst (rgV ((0 + (i : Int)) + 1) (1 + n1 % 4))) = H3 := by rw [ecs, eH3]
    have X4' : Ex g H3 g4 H4 pn := by rw [← eqH]; exact X4
    have af' : H3 a = none := by rw [← eqH]; exact af
    have XX := X3.trans X4' ⟨_, hp3⟩
    have YY := Y3.trans X4' ⟨_, hp3⟩
    have hB4 := YY.hs _ _ nBp hBn
    have hA4 := YY.hs _ _ nAp hAn
    have nBa : B ≠ a := ne_of_none (Y3.hs _ _ nBp hBn) af'
    have nAa : A ≠ a := ne_of_none (Y3.hs _ _ nAp hAn) af'
    have Ha : H a = none := SH3.free af'
    have gB4 : g4 B = 9 := (YY.gs _ _ hBn).trans gB
    have gA4 : g4 A = 9 := (YY.gs _ _ hAn).trans gA
    have gp4 : g4 pn = 9 := (YY.gs _ _ hp).trans gp
    have old : ∀ a', (∃ u, H' a' = some u) → g a' = 0 → a' ≠ a ∧ a' ≠ B ∧ a' ≠ pn := fun a' ⟨u, hu⟩ g0 => by
      have n1 : a' ≠ pn := fun e => by rw [e, gp] at g0; cases g0
      exact ⟨ne_of_none (Y3.hs _ _ n1 hu) af', (fun e => by rw [e, gB] at g0; cases g0), n1⟩
    refine ⟨B, _, _, rfl, rfl, hB4, (by rw [rf_len, hl2]; exact szl (by omega)), ?_⟩
    have ea5 : rf as ++ [V.ref a] = rf (as ++ [a]) := by rw [rf_app] <;> rfl
    rw [ea5]
    have KP : Kp g4 H4 (gset g4 a 0) (upd H4 B (.lst (rf (as ++ [a])))) := (kp_mark ga).trans (Kp.set (by rw [gset_ne nBa, gB4]; decide))
    refine ⟨gset g4 a 0, k4, z4, as ++ [a], ls ++ [l], _, rfl, ⟨fun b u h => ?_, fun b u e h => ?_⟩, by rw [upd_ne nBp.symm]; exact hp4, by rw [gset_ne anp.symm]; exact gp4, by rw [upd_ne nAB]; exact hA4, by rw [gset_ne nAa]; exact gA4, upd_same, by rw [gset_ne nBa]; exact gB4, ?_, by rw [List.length_append, hl2] <;> rfl, hi, ?_, ?_, by omega, ?_⟩
    · rw [gset_ne (ne_of_none h Ha)]
      exact XX.gs b u h
    · rw [upd_ne (ne_of_none h B0)]
      exact XX.hs b u e h
    · refine List.nodup_append.mpr ⟨nd, List.nodup_cons.mpr ⟨(fun h => nomatch h), List.nodup_nil⟩, fun x hx y hy => ?_⟩
      rw [List.mem_singleton.mp hy]
      obtain ⟨l', _, g0, ⟨xs', h', _⟩, _⟩ := Paired.mem rt hx
      exact (old x ⟨_, h'⟩ g0).1
    · refine Paired.app (Paired.imp (fun a' l' r => ?_) rt) (.cons ?_ .nil)
      · obtain ⟨g0, ⟨xs', h', u'⟩, w', d', z'⟩ := r
        obtain ⟨q1, q2, q3⟩ := old a' ⟨_, h'⟩ g0
        refine ⟨by rw [gset_ne q1, YY.gs _ _ h']; exact g0, ⟨xs', by rw [upd_ne q2]; exact YY.hs _ _ q3 h', (u'.mono (YY.kp gp)).mono KP⟩, w', d', z'⟩
      · refine ⟨gset_same, ⟨xs, by rw [upd_ne nBa.symm]; exact hxs, ul.mono KP⟩, wf, by omega, by omega⟩
    · intro l' hl'
      rcases List.mem_append.mp hl' with h | h
      · exact hne l' h
      · rw [List.mem_singleton.mp h]
        exact hne4 rfl hz1
    · rw [ekl4] at kb ⊢
      omega
  rintro σ H2 ⟨g, k, z, as, ls, x5, rfl, X, hp, gp, hAn, gA, hBn, gB, nd, hl2, hiM, rt, hne, hk3, hk4⟩
  rw [eMt] at hl2 hk4
  have hB9 : 0 < M := hM.1
  refine ⟨_, rfl, 1, (1 + n1 % 4 : Int), rfl, ⟨by decide, by decide, by omega, by omega⟩, ?_⟩
  have eM1 : ((1 + n1 % 4 : Int) - 1).toNat = M - 1 := by omega
  have k5 : k ≤ 5 + 4 * kl 4 := by
    have e : kl 4 = 177776 := by decide
    rw [e] at hk4 ⊢
    omega
  refine for_range (lo := 1) (fun j σ H' => ∃ (g : Addr → Nat) (k z : Int) (ls : List L) (x5 x9 : Option V), σ = [some (.ref S), some (.int 0), some (.ref pn), some (.int (1 + n1 % 4)), some (.ref A), x5, x6, x7, some (.ref B), x9] ∧ Ex (fun _ => 9) H g H' pn ∧ H' pn = some (.lst [.ref S, .int k, .int z]) ∧ g pn = 9 ∧ H' A = some (.lst (sS ns)) ∧ g A = 9 ∧ H' B = some (.lst (rf as)) ∧ g B = 9 ∧ Paired (RtAt g H' M 5 (132 + 2 * j)) as ls ∧ (∀ l ∈ ls, l ≠ .nil) ∧ 1 ≤ k ∧ k ≤ 5 + 4 * kl 4 + 2 * (j : Int) ∧ j ≤ M - 1) ?_ ?_ ?_
  · exact ⟨g, k, z, ls, x5, none, rfl, X, hp, gp, hAn, gA, hBn, gB, rt, hne, hk3, by omega, Nat.zero_le _⟩
  · rintro j σ H' hj ⟨g, k, z, ls, x5, x9, rfl, X, hp, gp, hAn, gA, hBn, gB, rt, hne, hk3, hk4, hjM⟩
    rw [eM1] at hj
    have e4 : kl 4 = 177776 := by decide
    rw [e4] at hk4
    have SH : Same H H' := fun b u q => X.hs b u (fun e => by rw [e, hpn] at q; cases q) q
    refine ⟨_, rfl, _, rfl, pn, S, zs, k, z, rfl, hp, ⟨H, hS, SH, hpn⟩, by omega, by omega, fun n2 a2 b2 => ?_⟩
    have h1 := Int.emod_nonneg n2 (b := (1 + (j : Int))) (by omega)
    have h2 := Int.emod_lt_of_pos n2 (b := (1 + (j : Int))) (by omega)
    obtain ⟨t, v, et, ev, ea⟩ := atI_in (xs := rf as) h1 (by rw [rf_len, hl2]; omega)
    obtain ⟨a, tl_, rfl, _, _, _⟩ := rf_get ev
    have eas : as[t]? = some a := by
      unfold rf at ev
      rw [List.getElem?_map] at ev
      cases e : as[t]? with
      | none => rw [e] at ev; cases ev
      | some y => rw [e] at ev; cases ev; rfl
    obtain ⟨l, el, g0, ⟨xs, hxs, ul⟩, wf, d5, z5⟩ := Paired.get rt eas
    have lne : l ≠ .nil := hne l (List.mem_of_getElem? el)
    have nap : a ≠ pn := fun e => by rw [e, gp] at g0; cases g0
    have naA : a ≠ A := fun e => by rw [e, gA] at g0; cases g0
    have naB : a ≠ B := fun e => by rw [e, gB] at g0; cases g0
    have xne : 0 < xs.length := by
      cases xs with
      | nil => exact absurd (ul_nil ul) lne
      | cons _ _ => exact Nat.succ_pos _
    refine ⟨_, rfl, _, _, rfl, rfl, (by show (0 : Int) < 1 + (j : Int); omega), B, _, _, .ref a, rfl, rfl, SqL.of (by rw [upd_ne nBp]; exact hBn), ea, ?_⟩
    refine ⟨_, rfl, .inl ⟨rfl, _, SqL.of (by rw [upd_ne nap]; exact hxs)⟩, ?_⟩
    refine ⟨_, rfl, pn, S, zs, k + 1, z, rfl, upd_same, ⟨H, hS, same_upd SH hpn, hpn⟩, by omega, by omega, fun n3 a3 b3 => ?_⟩
    have ha4 : upd (upd H' pn (.lst [.ref S, .int (k + 1), .int z])) pn (.lst [.ref S, .int (k + 1 + 1), .int z]) a = some (.lst (rf xs)) := by rw [upd_ne nap, upd_ne nap]; exact hxs
    have hlen : (0 : Int) < ((rf xs).length : Int) := by rw [rf_len]; omega
    have h3 := Int.emod_nonneg n3 (b := ((rf xs).length : Int)) (by omega)
    have h4 := Int.emod_lt_of_pos n3 hlen
    refine ⟨_, rfl, a, _, rfl, .inl (SqL.of ha4), _, _, rfl, rfl, hlen, _, rfl, (by show 2 ≤ sizeLine; decide), fun x hx => ?_⟩
    have X2 : Ex (fun _ => 9) H g (upd (upd H' pn (.lst [.ref S, .int (k + 1), .int z])) pn (.lst [.ref S, .int (k + 1 + 1), .int z])) pn := (X.trans Ex.pen ⟨_, hp⟩).trans Ex.pen ⟨_, upd_same⟩
    have Y2 : Ex g H' g (upd (upd H' pn (.lst [.ref S, .int (k + 1), .int z])) pn (.lst [.ref S, .int (k + 1 + 1), .int z])) pn := Ex.pen.trans Ex.pen ⟨_, upd_same⟩
    have hp4 : upd (upd H' pn (.lst [.ref S, .int (k + 1), .int z])) pn (.lst [.ref S, .int (k + 1 + 1), .int z]) pn = some (.lst [.ref S, .int (k + 1 + 1), .int z]) := upd_same
    generalize upd (upd H' pn (.lst [.ref S, .int (k + 1), .int z])) pn (.lst [.ref S, .int (k + 1 + 1), .int z]) = H4 at *
    have nxp : x ≠ pn := (ne_of_none hp4 hx).symm
    have nxa : a ≠ x := ne_of_none ha4 hx
    have hA4 := Y2.hs _ _ nAp hAn
    have hB4 := Y2.hs _ _ nBp hBn
    have zx := ul_len ul
    refine ⟨a, rf xs, _, .ref x, rfl, rfl, (by rw [upd_ne nxa]; exact ha4), (by rw [rf_len]; exact szl (by omega)), h3, by have := rf_len xs; omega, ?_⟩
    obtain ⟨ti, eti⟩ : ∃ ti : Nat, ti = (n3 % ((rf xs).length : Int)).toNat := ⟨_, rfl⟩
    have erf : (rf xs).take ti ++ [V.ref x] ++ (rf xs).drop ti = rf (xs.take ti ++ [x] ++ xs.drop ti) := by
      unfold rf
      rw [List.map_append, List.map_append, List.map_take, List.map_drop]
      rfl
    have e5 : (rf xs).take (n3 % ((rf xs).length : Int)).toNat ++ [V.ref x] ++ (rf xs).drop (n3 % ((rf xs).length : Int)).toNat = rf (xs.take ti ++ [x] ++ xs.drop ti) := by rw [← eti]; exact erf
    rw [e5]
    have X3 : Ex (fun _ => 9) H (gset g x 3) (upd H4 x (.lst [.str wCall, .int (1 + (j : Int))])) pn := X2.new hx ⟨_, hp4⟩
    have K3 : Kp g H' (gset g x 3) (upd H4 x (.lst [.str wCall, .int (1 + (j : Int))])) := (Y2.kp gp).trans (kp_new hx)
    have ga3 : gset g x 3 a = 0 := by rw [gset_ne nxa]; exact g0
    have K4 : Kp (gset g x 3) (upd H4 x (.lst [.str wCall, .int (1 + (j : Int))])) (gset g x 3) (upd (upd H4 x (.lst [.str wCall, .int (1 + (j : Int))])) a (.lst (rf (xs.take ti ++ [x] ++ xs.drop ti)))) := Kp.set (by rw [ga3]; decide)
    obtain ⟨p1', p2', epp, unew⟩ := ul_ins (x := x) (l1 := .ca (.ix (1 + j)) .nil) ti (ul.mono (K3.trans K4)) ⟨x, [], rfl, gset_same, by rw [upd_ne nxa.symm]; exact upd_same, rfl⟩
    obtain ⟨m1, m2, m3, m4, m5⟩ := ins_ms (m := M) (w := false) (a := p1') (b := p2') (l1 := .ca (.ix (1 + j)) .nil)
    have a0 : H a = none := by
      cases e : H a with
      | none => rfl
      | some u =>
        have z1 := X.gs _ _ e
        rw [g0] at z1
        cases z1
    refine ⟨gset g x 3, k + 1 + 1, z, ls.set t (apL p1' (apL (.ca (.ix (1 + j)) .nil) p2')), _, _, rfl, ⟨X3.gs, fun b u e h => ?_⟩, ?_, ?_, ?_, ?_, ?_, ?_, ?_, ?_, by omega, ?_, by omega⟩
    · rw [upd_ne (ne_of_none h a0)]
      exact X3.hs b u e h
    · rw [upd_ne nap.symm, upd_ne nxp.symm]
      exact hp4
    · rw [gset_ne nxp.symm]
      exact gp
    · rw [upd_ne naA.symm, upd_ne (ne_of_none hA4 hx)]
      exact hA4
    · rw [gset_ne (ne_of_none hA4 hx)]
      exact gA
    · rw [upd_ne naB.symm, upd_ne (ne_of_none hB4 hx)]
      exact hB4
    · rw [gset_ne (ne_of_none hB4 hx)]
      exact gB
    · refine Paired.set rt nd eas (fun a' l' ne' r => ?_) ?_
      · obtain ⟨g0', ⟨xs', h', u'⟩, w', d', z'⟩ := r
        have n1 : a' ≠ pn := fun e => by rw [e, gp] at g0'; cases g0'
        have h4' := Y2.hs _ _ n1 h'
        refine ⟨by rw [gset_ne (ne_of_none h4' hx)]; exact g0', ⟨xs', by rw [upd_ne ne', upd_ne (ne_of_none h4' hx)]; exact h4', u'.mono (K3.trans K4)⟩, w', d', by omega⟩
      · refine ⟨ga3, ⟨_, upd_same, unew⟩, m5.mpr ⟨by rw [← epp]; exact wf, ?_, trivial⟩, ?_, ?_⟩
        · show 1 + j < M
          omega
        · rw [m2, ← epp]
          simp only [dp]
          omega
        · rw [m1, ← epp]
          simp only [wl]
          omega
    · intro l' hl' e
      rcases List.mem_or_eq_of_mem_set hl' with h | h
      · exact hne l' h e
      · rw [h] at e
        have e2 := congrArg wl e
        rw [m1] at e2
        simp only [wl] at e2
        omega
    · rw [e4]
      omega
  rintro σ H3 ⟨g, k, z, ls, x5, x9, rfl, X, hp, gp, hAn, gA, hBn, gB, rt, hne, hk3, hk4, hjM⟩
  rw [eM1] at rt
  have SH : Same H H3 := fun b u q => X.hs b u (fun e => by rw [e, hpn] at q; cases q) q
  refine ⟨_, rfl, _, rfl, (by show 2 ≤ sizeLine; decide), fun t ht => ?_⟩
  have s4 := same_new ht (.tup [.ref A, .ref B])
  refine cont _ g A B ns as ls t ⟨SH.trans s4, fun b u q => X.gs b u q, s4 _ _ hAn, A0, gA, s4 _ _ hBn, B0, gB, nAB, hn, by rw [hl, hl2], by omega, nd, ?_⟩ (by omega) upd_same
  rw [hl]
  exact Paired.imp (fun a l r => by
    obtain ⟨r1, r2, r3, r4, r5⟩ := r.more s4
    exact ⟨r1, r2, r3, r4, by omega⟩) rt
end
end Fc

set_option Elab.async false
set_option linter.all false
set_option maxRecDepth 100000
set_option maxHeartbeats 4000000
namespace Fc
open PySem PySem.Spec PyProof.Rows L2 He
/-! the law: calls taken back; the nested lists -/
/-- some calls became a do -/
def Rq (g : Addr → Nat) (H H' : Hp) : Prop := ∀ b, H' b = H b ∨ (g b = 3 ∧ (∃ v, H b = some (.lst [.str wCall, v])) ∧ H' b = some (.lst [.str wDo, .str wCall]))
theorem Rq.refl {g : Addr → Nat} {H : Hp} : Rq g H H := fun _ => .inl rfl
theorem wcd : ¬ wDo = wCall := by decide +kernel
theorem Rq.trans {g : Addr → Nat} {H H' H'' : Hp} (a : Rq g H H') (b : Rq g H' H'') : Rq g H H'' := fun x => by
  rcases a x with h1 | ⟨g1, c1, d1⟩
  · rcases b x with h2 | ⟨g2, c2, d2⟩
    · exact .inl (h2.trans h1)
    · rw [h1] at c2
      exact .inr ⟨g2, c2, d2⟩
  · rcases b x with h2 | ⟨g2, ⟨v, c2⟩, d2⟩
    · exact .inr ⟨g1, c1, h2.trans d1⟩
    · exact .inr ⟨g1, c1, d2⟩
theorem Rq.keep {g : Addr → Nat} {H H' : Hp} {b : Addr} (a : Rq g H H') (h : g b ≠ 3) : H' b = H b := by
  rcases a b with h1 | ⟨g1, _⟩
  · exact h1
  · exact absurd g1 h
theorem Rq.item {g : Addr → Nat} {H H' : Hp} {b : Addr} {s : Str} {r : List V} (a : Rq g H H') (h : H b = some (.lst (.str s :: r))) (n : ¬ s = wCall) : H' b = some (.lst (.str s :: r)) := by
  rcases a b with h1 | ⟨_, ⟨v, c⟩, _⟩
  · rw [h1, h]
  · rw [h] at c
    injection c with c
    injection c with c
    injection c with c1 c2
    injection c1 with c1
    exact absurd c1 n
theorem kd_ne (w : Bool) : kd w ≠ 3 := by cases w <;> decide
theorem unc_ul {g : Addr → Nat} {H H' : Hp} (R : Rq g H H') : ∀ {l : L} {w : Bool} {xs : List Addr}, UL g H l w xs → ∃ l', UL g H' l' w xs ∧ wl l' = wl l ∧ dp l' = dp l ∧ ∀ m, Wf m l w → Wf m l' w := by
  have n1 : ¬ wLeave = wCall := by decide +kernel
  have n2 : ¬ wBack = wCall := by decide +kernel
  have n3 : ¬ wIf = wCall := by decide +kernel
  have n4 : ¬ wWhile = wCall := by decide +kernel
  intro l
  induction l with
  | nil => intro w xs h; exact ⟨.nil, h, rfl, rfl, fun _ h => h⟩
  | lv r ih =>
    rintro w xs ⟨x, t, e, h1, h2, h3⟩
    obtain ⟨r', u, a, b, c⟩ := ih h3
    exact ⟨.lv r', ⟨x, t, e, h1, R.item h2 n1, u⟩, by simp only [wl, a], by simp only [dp, b], fun m h => ⟨h.1, c m h.2⟩⟩
  | bk r ih =>
    rintro w xs ⟨x, t, e, h1, h2, h3⟩
    obtain ⟨r', u, a, b, c⟩ := ih h3
    exact ⟨.bk r', ⟨x, t, e, h1, R.item h2 n2, u⟩, by simp only [wl, a], by simp only [dp, b], fun m h => c m h⟩
  | dO n r ih =>
    rintro w xs ⟨x, t, e, h1, h2, h3⟩
    obtain ⟨r', u, a, b, c⟩ := ih h3
    exact ⟨.dO n r', ⟨x, t, e, h1, R.item h2 wcd, u⟩, by simp only [wl, a], by simp only [dp, b], fun m h => ⟨h.1, c m h.2⟩⟩
  | ca k r ih =>
    rintro w xs ⟨x, t, e, h1, h2, h3⟩
    obtain ⟨r', u, a, b, c⟩ := ih h3
    rcases R x with q | ⟨_, _, q⟩
    · exact ⟨.ca k r', ⟨x, t, e, h1, by rw [q]; exact h2, u⟩, by simp only [wl, a], by simp only [dp, b], fun m h => ⟨h.1, c m h.2⟩⟩
    · exact ⟨.dO wCall r', ⟨x, t, e, h1, q, u⟩, by simp only [wl, a], by simp only [dp, b], fun m h => ⟨nm_kw.2.2.2.1, c m h.2⟩⟩
  | fi n y z r ihy ihz ihr =>
    rintro w xs ⟨x, t, p, q, ps, qs, e, h1, h2, p1, p2, p3, q1, q2, q3, h3⟩
    obtain ⟨y', uy, ay, by_, cy⟩ := ihy p3
    obtain ⟨z', uz, az, bz, cz⟩ := ihz q3
    obtain ⟨r', u, a, b, c⟩ := ihr h3
    exact ⟨.fi n y' z' r', ⟨x, t, p, q, ps, qs, e, h1, R.item h2 n3, p1, by rw [R.keep (by rw [p1]; exact kd_ne w)]; exact p2, uy, q1, by rw [R.keep (by rw [q1]; exact kd_ne w)]; exact q2, uz, u⟩, by simp only [wl, a, ay, az], by simp only [dp, b, by_, bz], fun m h => ⟨h.1, cy m h.2.1, cz m h.2.2.1, c m h.2.2.2⟩⟩
  | wh n y r ihy ihr =>
    rintro w xs ⟨x, t, p, ps, e, h1, h2, p1, p2, p3, h3⟩
    obtain ⟨y', uy, ay, by_, cy⟩ := ihy p3
    obtain ⟨r', u, a, b, c⟩ := ihr h3
    exact ⟨.wh n y' r', ⟨x, t, p, ps, e, h1, R.item h2 n4, p1, by rw [R.keep (by rw [p1]; decide)]; exact p2, uy, u⟩, by simp only [wl, a, ay], by simp only [dp, b, by_], fun m h => ⟨h.1, cy m h.2.1, c m h.2.2⟩⟩
def spUnc (K : PySem.W.Frag) (d : Nat) : L2.Sp := fun vs H Q _ => ∃ (a : Addr) (q : Nat) (g : Addr → Nat) (l : L) (w : Bool) (xs : List Addr), vs = [.ref a, .int ((q : Nat) : Int)] ∧ H a = some (.lst (rf xs)) ∧ g a ≠ 3 ∧ UL g H l w xs ∧ dp l < d ∧ ∀ H', Rq g H H' → Q .non H'
/-- a list found: in how many whiles -/
def Good (g : Addr → Nat) (H : Hp) (Z : Nat) (rt q : Addr) (lo : Int) : Prop := 0 ≤ lo ∧ (∃ qs l, H q = some (.lst (rf qs)) ∧ UL g H l (decide (0 < lo)) qs ∧ wl l ≤ Z) ∧ ((q = rt ∧ lo = 0) ∨ g q = kd (decide (0 < lo)))
def spNested (K : PySem.W.Frag) (d : Nat) : L2.Sp := fun vs H Q _ => ∃ (a : Addr) (lo : Int) (g : Addr → Nat) (l : L) (xs : List Addr) (rt : Addr), vs = [.ref a, .int lo] ∧ H a = some (.lst (rf xs)) ∧ UL g H l (decide (0 < lo)) xs ∧ dp l < d ∧ wl l < 900000 ∧ 0 ≤ lo ∧ ((a = rt ∧ lo = 0) ∨ g a = kd (decide (0 < lo))) ∧
  ∀ H' p ts, Same H H' → H p = none → H' p = some (.lst (rf ts)) → ts ≠ [] → ts.length ≤ wl l + 1 → (∀ t ∈ ts, ∃ q lo', H' t = some (.tup [.ref q, .int lo']) ∧ Good g H' (wl l) rt q lo') → Q (.ref p) H'
end Fc

set_option Elab.async false
set_option linter.all false
set_option maxRecDepth 100000
set_option maxHeartbeats 4000000
namespace Fc
open PySem PySem.Spec PyProof.Rows L2 He
theorem Good.mono {g : Addr → Nat} {H : Hp} {Z Z' : Nat} {rt q : Addr} {lo : Int} (h : Good g H Z rt q lo) (z : Z ≤ Z') : Good g H Z' rt q lo := by
  obtain ⟨h1, ⟨qs, l, h2, h3, h4⟩, h5⟩ := h
  exact ⟨h1, ⟨qs, l, h2, h3, Nat.le_trans h4 z⟩, h5⟩
theorem Good.more {g : Addr → Nat} {H H' : Hp} {Z : Nat} {rt q : Addr} {lo : Int} (h : Good g H Z rt q lo) (s : Same H H') : Good g H' Z rt q lo := by
  obtain ⟨h1, ⟨qs, l, h2, h3, h4⟩, h5⟩ := h
  exact ⟨h1, ⟨qs, l, s _ _ h2, h3.mono (Kp.of s), h4⟩, h5⟩
theorem catR {H H' : Hp} {p q : Addr} {ts us : List Addr} {Q : VK} (s : Same H H') (h : H' p = some (.lst (rf ts))) (hq : H' q = some (.lst (rf us))) (len : ts.length + us.length < 1000000)
    (k : ∀ r H'', H r = none → Same H' H'' → H'' r = some (.lst (rf (ts ++ us))) → Q (.ref r) H'') : rCat (.ref p) (.ref q) H' Q := by
  refine ⟨p, q, _, _, rfl, rfl, h, hq, by rw [rf_len, rf_len]; exact sz (Nat.le_of_lt len), fun r hr => ?_⟩
  rw [← rf_app]
  exact k r _ (s.free hr) (same_new hr _) upd_same
section
variable {P : Program} {w : World} {K : PySem.W.Frag} {mg : Str → Option Value} {base : Heap}
theorem sc_uncalled : FnScope ["_law_items", "_law_q", "_law_one"] ["_law_items", "_law_q"] (defScope (top 54)) := ⟨rfl, rfl, rfl, by decide +kernel, rfl, by decide +kernel, by decide +kernel⟩
theorem c_uncalled (T : Txt K mg) : ∀ d : Nat, Cal P w K mg base CX0 (d + 1) "_law_uncalled" ["_law_items", "_law_q"] (spUnc K d) := by
  obtain ⟨fd, F⟩ := T.d__law_uncalled
  intro d
  induction d with
  | zero =>
    refine ⟨⟨fd, fn0 F sc_uncalled (fun vs H Q E h => ?_) (fun cdv A outer s H vs Q E hr h => ?_), FunD.bindsN F fun _ _ _ _ _ _ us hl => match us, hl with | [_, _], _ => rfl⟩, T.k__law_uncalled, T.g__law_uncalled⟩
    · obtain ⟨_, _, _, _, _, _, rfl, _⟩ := h
      rfl
    · obtain ⟨_, _, _, _, _, _, _, _, _, _, hd, _⟩ := h
      exact absurd hd (Nat.not_lt_zero _)
  | succ d ih =>
    have C_uncalled := ih
    refine ⟨⟨fd, fn0 F sc_uncalled (fun vs H Q E h => ?_) (fun cdv A outer s H vs Q E hr h => ?_), FunD.bindsN F fun _ _ _ _ _ _ us hl => match us, hl with | [_, _], _ => rfl⟩, T.k__law_uncalled, T.g__law_uncalled⟩
    · obtain ⟨_, _, _, _, _, _, rfl, _⟩ := h
      rfl
    obtain ⟨a, q, g, l, lw, xs, rfl, ha, ga, u, hd, k⟩ := h
    refine ⟨_, (pss_one (ps_for PassesOwn.never rfl (pi_list (pv 0)) (pg_name (i := 2) sc_uncalled.nd rfl (.inl rfl))
      (pss_cons (ps_if (PW.pt (pw_and (pt_cmpR op_eq (pe_ix ix_list (pv 2) pe_int (fun _ _ => rfl)) pe_str (by rfl)) (pw_and1 (pt_cmpR op_eq (pe_ix ix_list (pv 2) pe_int (fun _ _ => rfl)) (pv 1) (by rfl)))))
        (pss_cons (ps_asg pe_str (pg_sub (pv 2) pe_int set_list))
        (pss_one (ps_asg pe_str (pg_sub (pv 2) pe_int set_list))))
        pss_nil)
      (pss_cons (ps_if (pt_cmpR op_eq (pe_ix ix_list (pv 2) pe_int (fun _ _ => rfl)) pe_str (by rfl))
        (pss_cons (ps_expr (pcall C_uncalled (hr.mono (by omega)) rfl pass0 (pa_cons (pe_ix ix_list (pv 2) pe_int (fun _ _ => rfl)) (pa_cons (pv 1) pa_nil))))
        (pss_one (ps_expr (pcall C_uncalled (hr.mono (by omega)) rfl pass0 (pa_cons (pe_ix ix_list (pv 2) pe_int (fun _ _ => rfl)) (pa_cons (pv 1) pa_nil))))))
        pss_nil)
      (pss_one (ps_if (pt_cmpR op_eq (pe_ix ix_list (pv 2) pe_int (fun _ _ => rfl)) pe_str (by rfl))
        (pss_one (ps_expr (pcall C_uncalled (hr.mono (by omega)) rfl pass0 (pa_cons (pe_ix ix_list (pv 2) pe_int (fun _ _ => rfl)) (pa_cons (pv 1) pa_nil)))))
        pss_nil)))))), ?_⟩
    refine ⟨_, rfl, a, rfl, ⟨_, SqL.of ha⟩, ?_⟩
    refine for_list (xs := rf xs) (fun i σ H' => ∃ (b : Option V) (li : L), σ = [some (.ref a), some (.int ((q : Nat) : Int)), b] ∧ Rq g H H' ∧ UL g H li lw (xs.drop i) ∧ dp li < d + 1) ?_ ?_ ?_ ?_
    · exact ⟨none, l, rfl, Rq.refl, u, hd⟩
    · rintro i σ H' _ ⟨b, li, rfl, R, _, _⟩
      exact SqL.of (by rw [R.keep ga]; exact ha)
    · rintro i x σ H' hx ⟨b, li, rfl, R, u, hdl⟩
      obtain ⟨y, t, rfl, e0, e1, hlt⟩ := rf_get hx
      rw [e0] at u
      rw [e1]
      cases li with
      | nil => exact absurd u (by show ¬ (_ = _); simp)
      | lv r =>
        obtain ⟨y', t', e, h1, h2, h3⟩ := u
        injection e with e1 e2
        subst e1 e2
        simp only [dp] at hdl
        have hy := R.item h2 (by decide +kernel)
        refine wno rfl hy (by decide +kernel) (ifF rfl (ifF rfl ?_))
        refine wno rfl hy (by decide +kernel) (ifF rfl ?_)
        refine wno rfl hy (by decide +kernel) (ifF rfl ?_)
        exact ⟨_, r, rfl, R, h3, by omega⟩
      | bk r =>
        obtain ⟨y', t', e, h1, h2, h3⟩ := u
        injection e with e1 e2
        subst e1 e2
        simp only [dp] at hdl
        have hy := R.item h2 (by decide +kernel)
        refine wno rfl hy (by decide +kernel) (ifF rfl (ifF rfl ?_))
        refine wno rfl hy (by decide +kernel) (ifF rfl ?_)
        refine wno rfl hy (by decide +kernel) (ifF rfl ?_)
        exact ⟨_, r, rfl, R, h3, by omega⟩
      | dO n r =>
        obtain ⟨y', t', e, h1, h2, h3⟩ := u
        injection e with e1 e2
        subst e1 e2
        simp only [dp] at hdl
        have hy := R.item h2 (by decide +kernel)
        refine wno rfl hy (by decide +kernel) (ifF rfl (ifF rfl ?_))
        refine wno rfl hy (by decide +kernel) (ifF rfl ?_)
        refine wno rfl hy (by decide +kernel) (ifF rfl ?_)
        exact ⟨_, r, rfl, R, h3, by omega⟩
      | ca c r =>
        obtain ⟨y', t', e, h1, h2, h3⟩ := u
        injection e with e1 e2
        subst e1 e2
        simp only [dp] at hdl
        have rest : ∀ {H2 : Hp} {rs : List V} {D : Ends}, H2 y = some (.lst (.str wDo :: rs)) ∨ H2 y = some (.lst (.str wCall :: rs)) → Rq g H H2 → True := fun _ _ => trivial
        rcases R y with hy | ⟨_, _, hy⟩
        · rw [h2] at hy
          refine wyes rfl hy rfl (ifT rfl ?_)
          refine ixv 1 rfl hy rfl ⟨_, rfl, ?_, _, rfl, ?_⟩
          · cases c <;> rfl
          by_cases e : c.v = V.int ((q : Nat) : Int)
          · refine ifT (decide_eq_true e) ?_
            refine ⟨_, rfl, y, [.str wCall, c.v], _, 0, rfl, rfl, hy, rfl, ?_⟩
            refine ⟨_, rfl, y, [.str wDo, c.v], _, 1, rfl, rfl, upd_same, rfl, ?_⟩
            have R2 : Rq g H (upd (upd H' y (.lst [.str wDo, c.v])) y (.lst [.str wDo, .str wCall])) := fun b => by
              by_cases eb : b = y
              · rw [eb, upd_same]
                exact .inr ⟨h1, ⟨_, h2⟩, rfl⟩
              · rw [upd_ne eb, upd_ne eb]
                exact R b
            refine wno rfl upd_same (by decide +kernel) (ifF rfl ?_)
            refine wno rfl upd_same (by decide +kernel) (ifF rfl ?_)
            exact ⟨_, r, rfl, R2, h3, by omega⟩
          · refine ifF (decide_eq_false e) ?_
            refine wno rfl hy (by decide +kernel) (ifF rfl ?_)
            refine wno rfl hy (by decide +kernel) (ifF rfl ?_)
            exact ⟨_, r, rfl, R, h3, by omega⟩
        · refine wno rfl hy (by decide +kernel) (ifF rfl (ifF rfl ?_))
          refine wno rfl hy (by decide +kernel) (ifF rfl ?_)
          refine wno rfl hy (by decide +kernel) (ifF rfl ?_)
          exact ⟨_, r, rfl, R, h3, by omega⟩
      | fi n a1 b1 r =>
        obtain ⟨y', t', p1, q1, ps, qs, e, h1, h2, p2, p3, p4, q2, q3, q4, h3⟩ := u
        injection e with e1 e2
        subst e1 e2
        simp only [dp] at hdl
        have gp : g p1 ≠ 3 := by rw [p2]; exact kd_ne lw
        have gq : g q1 ≠ 3 := by rw [q2]; exact kd_ne lw
        have hy := R.item h2 (by decide +kernel)
        refine wno rfl hy (by decide +kernel) (ifF rfl (ifF rfl ?_))
        refine wyes rfl hy rfl (ifT rfl ?_)
        obtain ⟨a2, u2, _, z2, _⟩ := unc_ul R p4
        refine ixv 2 rfl hy rfl ⟨_, rfl, p1, q, g, a2, lw, ps, rfl, by rw [R.keep gp]; exact p3, gp, u2, by omega, fun H2 R2 => ?_⟩
        have R3 := R.trans R2
        have hy2 := R3.item h2 (by decide +kernel)
        obtain ⟨b2, v2, _, z3, _⟩ := unc_ul R3 q4
        refine ixv 3 rfl hy2 rfl ⟨_, rfl, q1, q, g, b2, lw, qs, rfl, by rw [R3.keep gq]; exact q3, gq, v2, by omega, fun H3 R4 => ?_⟩
        have R5 := R3.trans R4
        refine wno rfl (R5.item h2 (by decide +kernel)) (by decide +kernel) (ifF rfl ?_)
        exact ⟨_, r, rfl, R5, h3, by omega⟩
      | wh n a1 r =>
        obtain ⟨y', t', p1, ps, e, h1, h2, p2, p3, p4, h3⟩ := u
        injection e with e1 e2
        subst e1 e2
        simp only [dp] at hdl
        have gp : g p1 ≠ 3 := by rw [p2]; decide
        have hy := R.item h2 (by decide +kernel)
        refine wno rfl hy (by decide +kernel) (ifF rfl (ifF rfl ?_))
        refine wno rfl hy (by decide +kernel) (ifF rfl ?_)
        refine wyes rfl hy rfl (ifT rfl ?_)
        obtain ⟨a2, u2, _, z2, _⟩ := unc_ul R p4
        refine ixv 2 rfl hy rfl ⟨_, rfl, p1, q, g, a2, true, ps, rfl, by rw [R.keep gp]; exact p3, gp, u2, by omega, fun H2 R2 => ?_⟩
        exact ⟨_, r, rfl, R.trans R2, h3, by omega⟩
    · rintro σ H' ⟨b, li, rfl, R, _, _⟩
      exact k H' R
theorem sc_nested : FnScope ["_law_items", "_law_loops", "_law_inner", "_law_one"] ["_law_items", "_law_loops"] (defScope (top 55)) := ⟨rfl, rfl, rfl, by decide +kernel, rfl, by decide +kernel, by decide +kernel⟩
theorem c_nested (T : Txt K mg) : ∀ d : Nat, Cal P w K mg base CX0 (d + 1) "_law_nested" ["_law_items", "_law_loops"] (spNested K d) := by
  obtain ⟨fd, F⟩ := T.d__law_nested
  intro d
  induction d with
  | zero =>
    refine ⟨⟨fd, fn0 F sc_nested (fun vs H Q E h => ?_) (fun cdv A outer s H vs Q E hr h => ?_), FunD.bindsN F fun _ _ _ _ _ _ us hl => match us, hl with | [_, _], _ => rfl⟩, T.k__law_nested, T.g__law_nested⟩
    · obtain ⟨_, _, _, _, _, _, rfl, _⟩ := h
      rfl
    · obtain ⟨_, _, _, _, _, _, _, _, _, hd, _⟩ := h
      exact absurd hd (Nat.not_lt_zero _)
  | succ d ih =>
    have C_nested := ih
    refine ⟨⟨fd, fn0 F sc_nested (fun vs H Q E h => ?_) (fun cdv A outer s H vs Q E hr h => ?_), FunD.bindsN F fun _ _ _ _ _ _ us hl => match us, hl with | [_, _], _ => rfl⟩, T.k__law_nested, T.g__law_nested⟩
    · obtain ⟨_, _, _, _, _, _, rfl, _⟩ := h
      rfl
    obtain ⟨a, lo, g, l, xs, rt, rfl, ha, u, hd, hwl, hlo, hga, k⟩ := h
    refine ⟨_, (pss_cons (ps_set (i := 2) sc_nested.nd rfl (.inl rfl) (pe_lst (pa_cons (pe_tup (pa_cons (pv 0) (pa_cons (pv 1) pa_nil))) pa_nil)))
    (pss_cons (ps_for PassesOwn.never rfl (pi_list (pv 0)) (pg_name (i := 3) sc_nested.nd rfl (.inl rfl))
      (pss_cons (ps_if (pt_cmpR op_eq (pe_ix ix_list (pv 3) pe_int (fun _ _ => rfl)) pe_str (by rfl))
        (pss_one (ps_set (i := 2) sc_nested.nd rfl (.inl rfl) (pe_op op_cat (pe_op op_cat (pv 2) (pcall C_nested (hr.mono (by omega)) rfl pass0 (pa_cons (pe_ix ix_list (pv 3) pe_int (fun _ _ => rfl)) (pa_cons (pv 1) pa_nil)))) (pcall C_nested (hr.mono (by omega)) rfl pass0 (pa_cons (pe_ix ix_list (pv 3) pe_int (fun _ _ => rfl)) (pa_cons (pv 1) pa_nil))))))
        pss_nil)
      (pss_one (ps_if (pt_cmpR op_eq (pe_ix ix_list (pv 3) pe_int (fun _ _ => rfl)) pe_str (by rfl))
        (pss_one (ps_set (i := 2) sc_nested.nd rfl (.inl rfl) (pe_op op_cat (pv 2) (pcall C_nested (hr.mono (by omega)) rfl pass0 (pa_cons (pe_ix ix_list (pv 3) pe_int (fun _ _ => rfl)) (pa_cons (pe_op op_add (pv 1) pe_int) pa_nil))))))
        pss_nil))))
    (pss_one (ps_ret (pv 2))))), ?_⟩
    refine ⟨_, rfl, _, rfl, (by show 2 ≤ sizeLine; decide), fun t0 ht0 => ⟨(by show 1 ≤ sizeLine; decide), fun p0 hp0 => ?_⟩⟩
    have s0 := (same_new ht0 (.tup [.ref a, .int lo])).trans (same_new hp0 (.lst [.ref t0]))
    refine ⟨_, rfl, a, rfl, ⟨_, SqL.of (s0 _ _ ha)⟩, ?_⟩
    refine for_list (xs := rf xs) (fun i σ H' => ∃ (p : Addr) (ts : List Addr) (b : Option V) (li : L), σ = [some (.ref a), some (.int lo), some (.ref p), b] ∧ Same H H' ∧ H p = none ∧ H' p = some (.lst (rf ts)) ∧ ts ≠ [] ∧ ts.length + wl li ≤ wl l + 1 ∧ (∀ t ∈ ts, ∃ q lo', H' t = some (.tup [.ref q, .int lo']) ∧ Good g H' (wl l) rt q lo') ∧ UL g H li (decide (0 < lo)) (xs.drop i) ∧ dp li < d + 1) ?_ ?_ ?_ ?_
    · refine ⟨p0, [t0], none, l, rfl, s0, (same_new ht0 (.tup [.ref a, .int lo])).free hp0, upd_same, by simp, by show 1 + wl l ≤ _; omega, fun t ht => ?_, u, hd⟩
      rw [List.mem_singleton.mp ht]
      refine ⟨a, lo, ?_, hlo, ⟨xs, l, s0 _ _ ha, u.mono (Kp.of s0), Nat.le_refl _⟩, hga⟩
      rw [upd_ne (ne_of_none upd_same hp0), upd_same]
    · rintro i σ H' _ ⟨p, ts, b, li, rfl, s1, _⟩
      exact SqL.of (s1 _ _ ha)
    · rintro i x σ H' hx ⟨p, ts, b, li, rfl, s1, hp0, hp, hne, hts, good, u, hdl⟩
      obtain ⟨y, t, rfl, e0, e1, hlt⟩ := rf_get hx
      rw [e0] at u
      rw [e1]
      cases li with
      | nil => exact absurd u (by show ¬ (_ = _); simp)
      | lv r =>
        obtain ⟨y', t', e, h1, h2, h3⟩ := u
        injection e with e1 e2
        subst e1 e2
        simp only [dp] at hdl
        simp only [wl] at hts
        have h2' := s1 _ _ h2
        refine wno rfl h2' (by decide +kernel) (ifF rfl ?_)
        refine wno rfl h2' (by decide +kernel) (ifF rfl ?_)
        exact ⟨p, ts, _, r, rfl, s1, hp0, hp, hne, by omega, good, h3, by omega⟩
      | bk r =>
        obtain ⟨y', t', e, h1, h2, h3⟩ := u
        injection e with e1 e2
        subst e1 e2
        simp only [dp] at hdl
        simp only [wl] at hts
        have h2' := s1 _ _ h2
        refine wno rfl h2' (by decide +kernel) (ifF rfl ?_)
        refine wno rfl h2' (by decide +kernel) (ifF rfl ?_)
        exact ⟨p, ts, _, r, rfl, s1, hp0, hp, hne, by omega, good, h3, by omega⟩
      | dO n r =>
        obtain ⟨y', t', e, h1, h2, h3⟩ := u
        injection e with e1 e2
        subst e1 e2
        simp only [dp] at hdl
        simp only [wl] at hts
        have h2' := s1 _ _ h2
        refine wno rfl h2' (by decide +kernel) (ifF rfl ?_)
        refine wno rfl h2' (by decide +kernel) (ifF rfl ?_)
        exact ⟨p, ts, _, r, rfl, s1, hp0, hp, hne, by omega, good, h3, by omega⟩
      | ca c r =>
        obtain ⟨y', t', e, h1, h2, h3⟩ := u
        injection e with e1 e2
        subst e1 e2
        simp only [dp] at hdl
        simp only [wl] at hts
        have h2' := s1 _ _ h2
        refine wno rfl h2' (by decide +kernel) (ifF rfl ?_)
        refine wno rfl h2' (by decide +kernel) (ifF rfl ?_)
        exact ⟨p, ts, _, r, rfl, s1, hp0, hp, hne, by omega, good, h3, by omega⟩
      | fi n a1 b1 r =>
        obtain ⟨y', t', p1, q1, ps, qs, e, h1, h2, p2, p3, p4, q2, q3, q4, h3⟩ := u
        injection e with e1 e2
        subst e1 e2
        simp only [dp] at hdl
        simp only [wl] at hts
        have h2' := s1 _ _ h2
        refine wyes rfl h2' rfl (ifT rfl ?_)
        refine ⟨_, rfl, ixv 2 rfl h2' rfl ⟨_, rfl, p1, lo, g, a1, ps, rt, rfl, s1 _ _ p3, p4.mono (Kp.of s1), by omega, by omega, hlo, .inr p2, fun H2 r2 us s2 _ hr2 _ hul hus => ?_⟩⟩
        refine catR (s1.trans s2) (s2 _ _ hp) hr2 (by omega) fun r3 H3 hr3 s3 e3 => ?_
        have s13 := (s1.trans s2).trans s3
        refine ixv 3 rfl (s13 _ _ h2) rfl ⟨_, rfl, q1, lo, g, b1, qs, rt, rfl, s13 _ _ q3, q4.mono (Kp.of s13), by omega, by omega, hlo, .inr q2, fun H4 r4 vs s4 _ hr4 _ hvl hvs => ?_⟩
        refine catR (s13.trans s4) (s4 _ _ e3) hr4 (by rw [List.length_append]; omega) fun r5 H5 hr5 s5 e5 => ?_
        have s15 := (s13.trans s4).trans s5
        refine wno rfl (s15 _ _ h2) (by decide +kernel) (ifF rfl ?_)
        refine ⟨r5, ts ++ us ++ vs, _, r, rfl, s15, hr5, e5, by simp [hne], by rw [List.length_append, List.length_append]; omega, fun t ht => ?_, h3, by omega⟩
        rcases List.mem_append.mp ht with ht | ht
        · rcases List.mem_append.mp ht with ht | ht
          · obtain ⟨q', lo', e, gd⟩ := good t ht
            exact ⟨q', lo', s5 _ _ (s4 _ _ (s3 _ _ (s2 _ _ e))), gd.more (((s2.trans s3).trans s4).trans s5)⟩
          · obtain ⟨q', lo', e, gd⟩ := hus t ht
            exact ⟨q', lo', s5 _ _ (s4 _ _ (s3 _ _ e)), (gd.mono (by omega)).more ((s3.trans s4).trans s5)⟩
        · obtain ⟨q', lo', e, gd⟩ := hvs t ht
          exact ⟨q', lo', s5 _ _ e, (gd.mono (by omega)).more s5⟩
      | wh n a1 r =>
        obtain ⟨y', t', p1, ps, e, h1, h2, p2, p3, p4, h3⟩ := u
        injection e with e1 e2
        subst e1 e2
        simp only [dp] at hdl
        simp only [wl] at hts
        have h2' := s1 _ _ h2
        refine wno rfl h2' (by decide +kernel) (ifF rfl ?_)
        refine wyes rfl h2' rfl (ifT rfl ?_)
        have e1 : decide (0 < lo + 1) = true := decide_eq_true (by omega)
        refine ⟨_, rfl, ixv 2 rfl h2' rfl ⟨_, rfl, _, _, rfl, rfl, p1, lo + 1, g, a1, ps, rt, rfl, s1 _ _ p3, by rw [e1]; exact p4.mono (Kp.of s1), by omega, by omega, by omega, .inr (by rw [e1]; exact p2), fun H2 r2 us s2 _ hr2 _ hul hus => ?_⟩⟩
        refine catR (s1.trans s2) (s2 _ _ hp) hr2 (by omega) fun r3 H3 hr3 s3 e3 => ?_
        have s13 := (s1.trans s2).trans s3
        refine ⟨r3, ts ++ us, _, r, rfl, s13, hr3, e3, by simp [hne], by rw [List.length_append]; omega, fun t ht => ?_, h3, by omega⟩
        rcases List.mem_append.mp ht with ht | ht
        · obtain ⟨q', lo', e, gd⟩ := good t ht
          exact ⟨q', lo', s3 _ _ (s2 _ _ e), gd.more (s2.trans s3)⟩
        · obtain ⟨q', lo', e, gd⟩ := hus t ht
          exact ⟨q', lo', s3 _ _ e, (gd.mono (by omega)).more s3⟩
    · rintro σ H' ⟨p, ts, b, li, rfl, s1, hp0, hp, hne, hts, good, u, hdl⟩
      exact ⟨_, rfl, k _ p ts s1 hp0 hp hne (by omega) good⟩
end
end Fc

set_option Elab.async false
set_option linter.all false
set_option maxRecDepth 100000
set_option maxHeartbeats 4000000
namespace Fc
open PySem PySem.Spec PyProof.Rows L2 He
/-! the law: lists that turn -/
theorem Paired.ex {α β : Type} {F G : α → β → Prop} (h : ∀ a b, F a b → ∃ b', G a b') : ∀ {l : List α} {m : List β}, Paired F l m → ∃ m', Paired G l m'
  | _, _, .nil => ⟨[], .nil⟩
  | _, _, .cons r t => by
    obtain ⟨b', g⟩ := h _ _ r
    obtain ⟨m', p⟩ := Paired.ex h t
    exact ⟨b' :: m', .cons g p⟩
section
variable {H0 H : Hp} {g : Addr → Nat} {A B : Addr} {ns : List Str} {as : List Addr} {ls : List L} {D Z : Nat}
theorem WS.up (W : WS H0 H g A B ns as ls D Z) {D' Z' : Nat} (h1 : D ≤ D') (h2 : Z ≤ Z') : WS H0 H g A B ns as ls D' Z' :=
  ⟨W.same, W.g9, W.hA, W.A0, W.gA, W.hB, W.B0, W.gB, W.AB, W.nm, W.len, W.l1, W.nd, Paired.imp (fun a l ⟨r1, r2, r3, r4, r5⟩ => ⟨r1, r2, r3, Nat.lt_of_lt_of_le r4 h1, Nat.lt_of_lt_of_le r5 h2⟩) W.rt⟩
theorem WS.grow {H' : Hp} (W : WS H0 H g A B ns as ls D Z) (s : Same H H') : WS H0 H' g A B ns as ls D Z :=
  ⟨W.same.trans s, W.g9, s _ _ W.hA, W.A0, W.gA, s _ _ W.hB, W.B0, W.gB, W.AB, W.nm, W.len, W.l1, W.nd, Paired.imp (fun a l r => r.more s) W.rt⟩
/-- something new, with its kind -/
theorem WS.new (W : WS H0 H g A B ns as ls D Z) {x : Addr} {o : HO} {k : Nat} (hx : H x = none) : WS H0 (upd H x o) (gset g x k) A B ns as ls D Z := by
  have s := same_new hx o
  refine ⟨W.same.trans s, fun b u q => ?_, s _ _ W.hA, W.A0, ?_, s _ _ W.hB, W.B0, ?_, W.AB, W.nm, W.len, W.l1, W.nd, Paired.imp (fun a l r => ?_) W.rt⟩
  · rw [gset_ne (ne_of_none (W.same _ _ q) hx)]
    exact W.g9 b u q
  · rw [gset_ne (ne_of_none W.hA hx)]
    exact W.gA
  · rw [gset_ne (ne_of_none W.hB hx)]
    exact W.gB
  · obtain ⟨r1, ⟨xs, r2, r3⟩, r4⟩ := r
    exact ⟨by rw [gset_ne (ne_of_none r2 hx)]; exact r1, ⟨xs, s _ _ r2, r3.mono (kp_new hx)⟩, r4⟩
theorem WS.free0 (W : WS H0 H g A B ns as ls D Z) {a : Addr} (h : g a ≠ 9) : H0 a = none := by
  cases e : H0 a with
  | none => rfl
  | some u => exact absurd (W.g9 a u e) h
theorem WS.at_ (W : WS H0 H g A B ns as ls D Z) {j : Nat} {a : Addr} (h : as[j]? = some a) : ∃ l xs, ls[j]? = some l ∧ g a = 0 ∧ H a = some (.lst (rf xs)) ∧ UL g H l false xs ∧ Wf ns.length l false ∧ dp l < D ∧ wl l < Z ∧ xs.length ≤ wl l := by
  obtain ⟨l, el, r1, ⟨xs, r2, r3⟩, r4, r5, r6⟩ := Paired.get W.rt h
  exact ⟨l, xs, el, r1, r2, r3, r4, r5, r6, ul_len r3⟩
/-- a part's list turns as a whole -/
theorem WS.root (W : WS H0 H g A B ns as ls D Z) {j : Nat} {a : Addr} (h : as[j]? = some a) {ys : List Addr} {l' : L} (u : UL g H l' false ys) (wf : Wf ns.length l' false) (d : dp l' < D) {c : Nat} (z : wl l' < Z + c) :
    WS H0 (upd H a (.lst (rf ys))) g A B ns as (ls.set j l') D (Z + c) := by
  obtain ⟨l, xs, el, g0, hxs, _⟩ := W.at_ h
  have nA : A ≠ a := fun e => by rw [← e, W.gA] at g0; cases g0
  have nB : B ≠ a := fun e => by rw [← e, W.gB] at g0; cases g0
  have kp : ∀ {o : HO}, Kp g H g (upd H a o) := fun {o} => Kp.set (by rw [g0]; decide)
  refine ⟨same_upd W.same (W.free0 (by rw [g0]; decide)), W.g9, by rw [upd_ne nA]; exact W.hA, W.A0, W.gA, by rw [upd_ne nB]; exact W.hB, W.B0, W.gB, W.AB, W.nm, W.len, W.l1, W.nd, Paired.set W.rt W.nd h (fun a' l' ne r => ?_) ?_⟩
  · obtain ⟨r1, ⟨xs', r2, r3⟩, r4, r5, r6⟩ := r
    exact ⟨r1, ⟨xs', by rw [upd_ne ne]; exact r2, r3.mono kp⟩, r4, r5, by omega⟩
  · exact ⟨g0, ⟨ys, upd_same, u.mono kp⟩, wf, d, z⟩
/-- a thing is put into a part's list -/
theorem WS.ins (W : WS H0 H g A B ns as ls D Z) {j : Nat} {a x : Addr} (h : as[j]? = some a) {l1 : L} (u1 : UL g H l1 false [x]) (w1 : Wf ns.length l1 false) (d1 : dp l1 < D) {c : Nat} (z1 : wl l1 ≤ c) (ti : Nat) :
    ∃ l xs l', ls[j]? = some l ∧ H a = some (.lst (rf xs)) ∧ xs.length ≤ wl l ∧ wl l < Z ∧ WS H0 (upd H a (.lst (rf (xs.take ti ++ [x] ++ xs.drop ti)))) g A B ns as (ls.set j l') D (Z + c) ∧ rm l' = rm l + rm l1 ∧ things l' = things l + things l1 := by
  obtain ⟨l, xs, el, g0, hxs, u, wf, d, z, xl⟩ := W.at_ h
  obtain ⟨p, q, e, un⟩ := ul_ins ti u u1
  obtain ⟨m1, m2, m3, m4, m5⟩ := ins_ms (m := ns.length) (w := false) (a := p) (b := q) (l1 := l1)
  rw [← e] at m1 m2 m3 m4 m5
  exact ⟨l, xs, apL p (apL l1 q), el, hxs, xl, z, W.root h un (m5.mpr ⟨wf, w1⟩) (by rw [m2]; exact Nat.max_lt.mpr ⟨d, d1⟩) (by omega), m3, m4⟩
end
theorem rf_ins {xs : List Addr} {x : Addr} {ti : Nat} : (rf xs).take ti ++ [V.ref x] ++ (rf xs).drop ti = rf (xs.take ti ++ [x] ++ xs.drop ti) := by
  unfold rf
  rw [List.map_append, List.map_append, List.map_take, List.map_drop]
  rfl
/-- a nested list turns: so do all that hold it -/
theorem ins_all {g : Addr → Nat} {H : Hp} {q : Addr} {qs ys : List Addr} {m : Nat} (gq : g q = 1 ∨ g q = 2) (hq : H q = some (.lst (rf qs)))
    (put : ∀ a w, kd w = g q → UL g (upd H q (.lst (rf ys))) a w qs → Wf m a w → ∃ a', UL g (upd H q (.lst (rf ys))) a' w ys ∧ Wf m a' w ∧ wl a' ≤ wl a + 6 ∧ dp a' ≤ max (dp a) 1) :
    ∀ {l : L} {w : Bool} {xs : List Addr}, UL g H l w xs → Wf m l w → ∃ l', UL g (upd H q (.lst (rf ys))) l' w xs ∧ Wf m l' w ∧ wl l' ≤ 4 * wl l ∧ dp l' ≤ dp l + 1 := by
  have n3 : ∀ {x : Addr} {u : HO}, g x = 3 → H x = some u → upd H q (.lst (rf ys)) x = some u := fun {x u} e h => by
    rw [upd_ne fun z => by rw [z] at e; omega]
    exact h
  have nest : ∀ {p : Addr} {ps : List Addr} {a : L} {w : Bool}, g p = kd w → H p = some (.lst (rf ps)) → (∃ a', UL g (upd H q (.lst (rf ys))) a' w ps ∧ Wf m a' w ∧ wl a' ≤ 4 * wl a ∧ dp a' ≤ dp a + 1) →
      ∃ ps' a', upd H q (.lst (rf ys)) p = some (.lst (rf ps')) ∧ UL g (upd H q (.lst (rf ys))) a' w ps' ∧ Wf m a' w ∧ wl a' ≤ 4 * wl a + 6 ∧ dp a' ≤ dp a + 1 := by
    intro p ps a w gp hp ⟨a', u, wf, z, d⟩
    by_cases e : p = q
    · subst e
      rw [hp] at hq
      injection hq with hq
      injection hq with hq
      have e2 := rf_inj hq
      subst e2
      obtain ⟨a2, u2, w2, z2, d2⟩ := put a' w gp.symm u wf
      exact ⟨ys, a2, upd_same, u2, w2, by omega, by omega⟩
    · exact ⟨ps, a', by rw [upd_ne e]; exact hp, u, wf, by omega, d⟩
  intro l
  induction l with
  | nil => intro w xs h _; exact ⟨.nil, h, trivial, Nat.zero_le _, Nat.zero_le _⟩
  | lv r ih =>
    rintro w xs ⟨x, t, e, h1, h2, h3⟩ ⟨w1, w2⟩
    obtain ⟨r', u, wf, z, d⟩ := ih h3 w2
    exact ⟨.lv r', ⟨x, t, e, h1, n3 h1 h2, u⟩, ⟨w1, wf⟩, by simp only [wl]; omega, d⟩
  | bk r ih =>
    rintro w xs ⟨x, t, e, h1, h2, h3⟩ w2
    obtain ⟨r', u, wf, z, d⟩ := ih h3 w2
    exact ⟨.bk r', ⟨x, t, e, h1, n3 h1 h2, u⟩, wf, by simp only [wl]; omega, d⟩
  | dO n r ih =>
    rintro w xs ⟨x, t, e, h1, h2, h3⟩ ⟨w1, w2⟩
    obtain ⟨r', u, wf, z, d⟩ := ih h3 w2
    exact ⟨.dO n r', ⟨x, t, e, h1, n3 h1 h2, u⟩, ⟨w1, wf⟩, by simp only [wl]; omega, d⟩
  | ca c r ih =>
    rintro w xs ⟨x, t, e, h1, h2, h3⟩ ⟨w1, w2⟩
    obtain ⟨r', u, wf, z, d⟩ := ih h3 w2
    exact ⟨.ca c r', ⟨x, t, e, h1, n3 h1 h2, u⟩, ⟨w1, wf⟩, by simp only [wl]; omega, d⟩
  | fi n a b r iha ihb ihr =>
    rintro w xs ⟨x, t, p, q', ps, qs', e, h1, h2, p1, p2, p3, q1, q2, q3, h3⟩ ⟨w1, w2, w3, w4⟩
    obtain ⟨r', u, wf, z, d⟩ := ihr h3 w4
    obtain ⟨ps2, a2, ha, ua, wa, za, da⟩ := nest p1 p2 (iha p3 w2)
    obtain ⟨qs2, b2, hb, ub, wb, zb, db⟩ := nest q1 q2 (ihb q3 w3)
    exact ⟨.fi n a2 b2 r', ⟨x, t, p, q', ps2, qs2, e, h1, n3 h1 h2, p1, ha, ua, q1, hb, ub, u⟩, ⟨w1, wa, wb, wf⟩, by simp only [wl]; omega, by simp only [dp]; omega⟩
  | wh n a r iha ihr =>
    rintro w xs ⟨x, t, p, ps, e, h1, h2, p1, p2, p3, h3⟩ ⟨w1, w2, w4⟩
    obtain ⟨r', u, wf, z, d⟩ := ihr h3 w4
    obtain ⟨ps2, a2, ha, ua, wa, za, da⟩ := nest (w := true) p1 p2 (iha p3 w2)
    exact ⟨.wh n a2 r', ⟨x, t, p, ps2, e, h1, n3 h1 h2, p1, ha, ua, u⟩, ⟨w1, wa, wf⟩, by simp only [wl]; omega, by simp only [dp]; omega⟩
section
variable {H0 H : Hp} {g : Addr → Nat} {A B : Addr} {ns : List Str} {as : List Addr} {ls : List L} {D Z : Nat}
/-- a thing is put into a list, a part's or a nested one -/
theorem WS.put (W : WS H0 H g A B ns as ls D Z) {j : Nat} {a q x : Addr} {lo : Int} {Y : Nat} (h : as[j]? = some a) (G : Good g H Y a q lo) {l1 : L} (u1 : UL g H l1 (decide (0 < lo)) [x]) (u2 : ∀ o, UL g (upd H q o) l1 (decide (0 < lo)) [x]) (w1 : Wf ns.length l1 (decide (0 < lo))) (d1 : dp l1 ≤ 1) (hD : 1 < D) (z1 : wl l1 ≤ 6) (ti : Nat) :
    ∃ qs ls', H q = some (.lst (rf qs)) ∧ qs.length ≤ Y ∧ WS H0 (upd H q (.lst (rf (qs.take ti ++ [x] ++ qs.drop ti)))) g A B ns as ls' (D + 1) (4 * Z + 6) := by
  obtain ⟨hlo, ⟨qs, lq, hq, uq, zq⟩, hk⟩ := G
  have ql := ul_len uq
  rcases hk with ⟨rfl, rfl⟩ | hk
  · obtain ⟨l, xs, l', el, hxs, _, _, W2, _⟩ := W.ins h (c := 6) (x := x) u1 w1 (by omega) z1 ti
    rw [hq] at hxs
    injection hxs with hxs
    injection hxs with hxs
    have e := rf_inj hxs
    subst e
    exact ⟨qs, _, hq, by omega, W2.up (Nat.le_succ _) (by omega)⟩
  · have gq : g q = 1 ∨ g q = 2 := by rw [hk]; exact kd_cases _
    have gq3 : ¬ (g q = 0) := by omega
    have key : ∀ {l : L} {w : Bool} {xs : List Addr}, UL g H l w xs → Wf ns.length l w → ∃ l', UL g (upd H q (.lst (rf (qs.take ti ++ [x] ++ qs.drop ti)))) l' w xs ∧ Wf ns.length l' w ∧ wl l' ≤ 4 * wl l ∧ dp l' ≤ dp l + 1 := fun {l w xs} => ins_all gq hq (fun b w e ub wb => by
      have ew : w = decide (0 < lo) := by
        rw [hk] at e
        cases w <;> cases hd : decide (0 < lo) <;> rw [hd] at e <;> first | rfl | cases e
      subst ew
      obtain ⟨p1, p2, ep, un⟩ := ul_ins ti ub (u2 (.lst (rf (qs.take ti ++ [x] ++ qs.drop ti))))
      obtain ⟨m1, m2, m3, m4, m5⟩ := ins_ms (m := ns.length) (w := decide (0 < lo)) (a := p1) (b := p2) (l1 := l1)
      rw [← ep] at m1 m2 m3 m4 m5
      exact ⟨_, un, m5.mpr ⟨wb, w1⟩, by omega, by rw [m2]; omega⟩)
    have nA : A ≠ q := fun e => by rw [← e, W.gA] at gq; omega
    have nB : B ≠ q := fun e => by rw [← e, W.gB] at gq; omega
    obtain ⟨ls', rt'⟩ := Paired.ex (G := RtAt g (upd H q (.lst (rf (qs.take ti ++ [x] ++ qs.drop ti)))) ns.length (D + 1) (4 * Z + 6)) (fun a' l' r => by
      obtain ⟨r1, ⟨xs', r2, r3⟩, r4, r5, r6⟩ := r
      obtain ⟨l2, v1, v2, v3, v4⟩ := key r3 r4
      exact ⟨l2, r1, ⟨xs', by rw [upd_ne fun z => by rw [z] at r1; omega]; exact r2, v1⟩, v2, by omega, by omega⟩) W.rt
    exact ⟨qs, ls', hq, by omega, same_upd W.same (W.free0 (by omega)), W.g9, by rw [upd_ne nA]; exact W.hA, W.A0, W.gA, by rw [upd_ne nB]; exact W.hB, W.B0, W.gB, W.AB, W.nm, W.len, W.l1, W.nd, rt'⟩
end
end Fc

set_option Elab.async false
set_option linter.all false
set_option maxRecDepth 100000
set_option maxHeartbeats 4000000
namespace Fc
open PySem PySem.Spec PyProof.Rows L2 He
theorem sum_cast : ∀ l : List Nat, ((l.map fun n : Nat => ((n : Nat) : Int)).sum) = ((l.sum : Nat) : Int)
  | [] => rfl
  | x :: l => by
    rw [List.map_cons, List.sum_cons, List.sum_cons, sum_cast l]
    omega
theorem sum_set (f : L → Nat) : ∀ {ls : List L} {j : Nat} {l l' : L}, ls[j]? = some l → f l' = f l + 1 → ((ls.set j l').map f).sum = (ls.map f).sum + 1
  | l0 :: ls, 0, l, l', h, e => by
    cases h
    show f l' + (ls.map f).sum = f l0 + (ls.map f).sum + 1
    omega
  | l0 :: ls, j + 1, l, l', h, e => by
    have z := sum_set f (ls := ls) (j := j) (l := l) (l' := l') h e
    show f l0 + ((ls.set j l').map f).sum = f l0 + (ls.map f).sum + 1
    omega
  | [], _, _, _, h, _ => by simp at h
/-- the ints of a comprehension over the parts' lists -/
theorem map_take {f : L → Nat} {ls : List L} {i : Nat} {l : L} (h : ls[i]? = some l) : (ls.take (i + 1)).map f = (ls.take i).map f ++ [f l] := by
  rw [List.take_add_one, h]
  simp
def spFilled (K : PySem.W.Frag) : L2.Sp := fun vs H Q _ => ∃ (H0 : Hp) (g : Addr → Nat) (A B : Addr) (ns : List Str) (as : List Addr) (ls : List L) (D Z : Nat) (rows : Nat), vs = [.ref B, .int ((rows : Nat) : Int)] ∧ WS H0 H g A B ns as ls D Z ∧ 0 < D ∧ D ≤ 12 ∧ Z < 100000 ∧ as.length ≤ 10 ∧ rows ≤ 40 ∧
  ∀ H' g' ls', WS H0 H' g' A B ns as ls' D (Z + 100) → Q .non H'
section
variable {P : Program} {w : World} {K : PySem.W.Frag} {mg : Str → Option Value} {base : Heap}
theorem sc_filled : FnScope ["_law_lists", "_law_rows", "_law_items", "_law_fewest", "_law_one"] ["_law_lists", "_law_rows"] (defScope (top 56)) := ⟨rfl, rfl, rfl, by decide +kernel, rfl, by decide +kernel, by decide +kernel⟩
theorem c_filled (T : Txt K mg) : Cal P w K mg base CX0 14 "_law_filled" ["_law_lists", "_law_rows"] (spFilled K) := by
  have C_many : Cal P w K mg base CX0 13 "_law_many" ["_law_items"] (spMany K 12) := c_many T 12
  have C_things : Cal P w K mg base CX0 13 "_law_things" ["_law_items"] (spThings K 12) := c_things T 12
  obtain ⟨fd, F⟩ := T.d__law_filled
  refine ⟨⟨fd, fn0 F sc_filled (fun vs H Q E h => ?_) (fun cdv A outer s H vs Q E hr h => ?_), FunD.bindsN F fun _ _ _ _ _ _ us hl => match us, hl with | [_, _], _ => rfl⟩, T.k__law_filled, T.g__law_filled⟩
  · obtain ⟨_, _, _, _, _, _, _, _, _, _, rfl, _⟩ := h
    rfl
  obtain ⟨H0, g, A, B, ns, as, ls, D, Z, rows, rfl, W, hD0, hD, hZ, hl, hr40, cont⟩ := h
  refine ⟨_, (pss_one (ps_while PassesOwn.never (pt_cmpR op_lt (pe_callB (cr_sum rfl) (by rfl) T.z_sum (by decide +kernel) (pa_cons (pe_lc (own := [("_law_items", 2)]) (g := (gName 2)) (tt := tYes) (te := tCall (spMany K 12) [] L2.E0 (tCons (tVar 2) tNil)) rfl sc_filled.nd (pi_list (pv 0)) (blkOk_by (own := [("_law_items", 2)]) (N := ["_law_lists", "_law_rows", "_law_items", "_law_fewest", "_law_one"]) (sc := defScope (top 56)) (by decide +kernel)) (fun _ _ _ _ _ => (pg_name (i := 2) sc_filled.nd rfl (.inl rfl))) (fun _ _ _ _ _ => pts_nil) (fun _ _ _ _ _ => (pcall C_many (hr.mono (by decide)) rfl pass0 (pa_cons (pv 2) pa_nil)))) pa_nil)) (pv 1) (by rfl))
      (pss_cons (ps_set (i := 3) sc_filled.nd rfl (.inr rfl) (pe_callB (cr_min rfl) (by rfl) T.z_min (by decide +kernel) (pa_cons (pe_lc (own := [("_law_items", 2)]) (g := (gName 2)) (tt := tYes) (te := tCall (spThings K 12) [] L2.E0 (tCons (tVar 2) tNil)) rfl sc_filled.nd (pi_list (pv 0)) (blkOk_by (own := [("_law_items", 2)]) (N := ["_law_lists", "_law_rows", "_law_items", "_law_fewest", "_law_one"]) (sc := defScope (top 56)) (by decide +kernel)) (fun _ _ _ _ _ => (pg_name (i := 2) sc_filled.nd rfl (.inl rfl))) (fun _ _ _ _ _ => pts_nil) (fun _ _ _ _ _ => (pcall C_things (hr.mono (by decide)) rfl pass0 (pa_cons (pv 2) pa_nil)))) pa_nil)))
      (pss_cons (ps_set (i := 2) sc_filled.nd rfl (.inl rfl) (pe_ix ix_list (pe_lc (own := [("_law_one", 4)]) (g := (gName 4)) (tt := tTest (tOp rEq (tCall (spThings K 12) [] L2.E0 (tCons (tVar 4) tNil)) (tVar 3))) (te := tVar 4) rfl sc_filled.nd (pi_list (pv 0)) (blkOk_by (own := [("_law_one", 4)]) (N := ["_law_lists", "_law_rows", "_law_items", "_law_fewest", "_law_one"]) (sc := defScope (top 56)) (by decide +kernel)) (fun _ _ _ _ _ => (pg_name (i := 4) sc_filled.nd rfl (.inl rfl))) (fun _ _ _ _ _ => (pts_one (pt_cmpR op_eq (pcall C_things (hr.mono (by decide)) rfl pass0 (pa_cons (pv 4) pa_nil)) (pv 3) (by rfl)))) (fun _ _ _ _ _ => (pv 4))) pe_int (fun _ _ => rfl)))
      (pss_one (ps_expr (pe_bm PySem.F.plainAttrs_list PySem.F.slot_list_insert PySem.F.type_list_insert mt_insert (pv 2) (pa_cons pe_int (pa_cons (pe_lst (pa_cons pe_str (pa_cons pe_str pa_nil))) pa_nil))))))))), ?_⟩
  refine ⟨fun m σ H' => ∃ (g' : Addr → Nat) (ls' : List L) (c : Nat) (x2 x3 : Option V), σ = [some (.ref B), some (.int ((rows : Nat) : Int)), x2, x3, none] ∧ WS H0 H' g' A B ns as ls' D (Z + 2 * c) ∧ m = rows - (ls'.map rm).sum ∧ c ≤ (ls'.map rm).sum ∧ (c = 0 ∨ (ls'.map rm).sum ≤ rows), ⟨_, g, ls, 0, none, none, rfl, W, rfl, Nat.zero_le _, .inl rfl⟩, ?_⟩
  rintro m σ H' ⟨g, ls, c, x2, x3, rfl, W, rfl, hc, hc2⟩
  have pl := Paired.len W.rt
  have c40 : c ≤ 40 := by rcases hc2 with h | h <;> omega
  have z40 : Z + 2 * c < 999999 := by omega
  refine ⟨_, rfl, B, rfl, ⟨_, SqL.of W.hB⟩, fun L1 hL1 => ?_⟩
  refine lc_list (xs := rf as) (fun i H2 => i ≤ as.length ∧ Same H' H2 ∧ H2 L1 = some (.lst (nI ((ls.take i).map rm)))) ⟨Nat.zero_le _, same_new hL1 _, upd_same⟩ (fun i H2 _ z => SqL.of (z.2.1 _ _ W.hB)) (fun i x H2 hx z => ?_) (fun H2 z => ?_)
  · obtain ⟨hi, s2, hL⟩ := z
    obtain ⟨a, t, rfl, _, _, hlt⟩ := rf_get hx
    have ea : as[i]? = some a := by
      unfold rf at hx
      rw [List.getElem?_map] at hx
      cases e : as[i]? with
      | none => rw [e] at hx; cases hx
      | some y => rw [e] at hx; cases hx; rfl
    obtain ⟨l, xs, el, g0, hxs, u, wf, d, z, xl⟩ := W.at_ ea
    refine ⟨rfl, ?_⟩
    unfold tYes
    refine ifT rfl ⟨_, rfl, a, g, l, false, xs, rfl, s2 _ _ hxs, u.mono (Kp.of s2), by omega, _, hL, ?_, hlt, same_upd s2 hL1, ?_⟩
    · rw [nI_len, List.length_map]
      exact szl (Nat.lt_of_le_of_lt (List.length_take_le _ _) (by omega))
    · rw [map_take el, nI_app]
      exact upd_same
  obtain ⟨_, s2, hL⟩ := z
  rw [rf_len, pl, List.take_length] at hL
  refine ⟨L1, (ls.map rm).map fun n : Nat => ((n : Nat) : Int), rfl, ?_, _, rfl, _, _, rfl, rfl, _, rfl, ?_⟩
  · rw [List.map_map]
    exact SqL.of hL
  rw [sum_cast]
  have W2 := W.grow s2
  by_cases q : (ls.map rm).sum < rows
  rotate_left
  · refine ifF (decide_eq_false (by omega)) ?_
    exact cont _ g ls (W2.up (Nat.le_refl _) (by omega))
  refine ifT (decide_eq_true (by omega)) ?_
  refine ⟨fun σ' H'' => ∃ (g' : Addr → Nat) (ls' : List L) (x2 x3 : Option V), σ' = [some (.ref B), some (.int ((rows : Nat) : Int)), x2, x3, none] ∧ WS H0 H'' g' A B ns as ls' D (Z + 2 * (c + 1)) ∧ (ls'.map rm).sum = (ls.map rm).sum + 1, ?_, ?_⟩
  · rintro σ' H'' ⟨g', ls', x2, x3, rfl, W', es⟩
    refine ⟨rows - (ls'.map rm).sum, by omega, g', ls', c + 1, x2, x3, rfl, W', rfl, by omega, .inr (by omega)⟩
  -- fewest
  refine ⟨_, rfl, B, rfl, ⟨_, SqL.of W2.hB⟩, fun L2_ hL2 => ?_⟩
  refine lc_list (xs := rf as) (fun i H3 => i ≤ as.length ∧ Same H2 H3 ∧ H3 L2_ = some (.lst (nI ((ls.take i).map things)))) ⟨Nat.zero_le _, same_new hL2 _, upd_same⟩ (fun i H3 _ z => SqL.of (z.2.1 _ _ W2.hB)) (fun i x H3 hx z => ?_) (fun H3 z => ?_)
  · obtain ⟨hi, s3, hL⟩ := z
    obtain ⟨a, t, rfl, _, _, hlt⟩ := rf_get hx
    have ea : as[i]? = some a := by
      unfold rf at hx
      rw [List.getElem?_map] at hx
      cases e : as[i]? with
      | none => rw [e] at hx; cases hx
      | some y => rw [e] at hx; cases hx; rfl
    obtain ⟨l, xs, el, g0, hxs, u, wf, d, z, xl⟩ := W2.at_ ea
    refine ⟨rfl, ?_⟩
    unfold tYes
    refine ifT rfl ⟨_, rfl, a, g, l, false, xs, rfl, s3 _ _ hxs, u.mono (Kp.of s3), by omega, _, hL, ?_, hlt, same_upd s3 hL2, ?_⟩
    · rw [nI_len, List.length_map]
      exact szl (Nat.lt_of_le_of_lt (List.length_take_le _ _) (by omega))
    · rw [map_take el, nI_app]
      exact upd_same
  obtain ⟨_, s3, hLb⟩ := z
  rw [rf_len, pl, List.take_length] at hLb
  have W3 := W2.grow s3
  have l1 := W.l1
  refine ⟨L2_, (ls.map things).map fun n : Nat => ((n : Nat) : Int), rfl, ?_, by rw [List.length_map, List.length_map]; omega, fun mn hmn hmin => ?_⟩
  · rw [List.map_map]
    exact SqL.of hLb
  obtain ⟨mn0, hmn0, rfl⟩ := List.mem_map.mp hmn
  obtain ⟨lm, hlm, elm⟩ := List.mem_map.mp hmn0
  -- those with so few
  refine ⟨_, rfl, B, rfl, ⟨_, SqL.of W3.hB⟩, fun L3_ hL3 => ?_⟩
  refine lc_list (xs := rf as) (fun i H4 => i ≤ as.length ∧ Same H3 H4 ∧ ∃ fl : List Addr, H4 L3_ = some (.lst (rf fl)) ∧ fl.length ≤ i ∧ (∀ a ∈ fl, a ∈ as) ∧ ((∃ l ∈ ls.take i, things l = mn0) → fl ≠ [])) ⟨Nat.zero_le _, same_new hL3 _, [], upd_same, Nat.le_refl _, (fun _ h => nomatch h), fun ⟨l, h, _⟩ => nomatch h⟩ (fun i H4 _ z => SqL.of (z.2.1 _ _ W3.hB)) (fun i x H4 hx z => ?_) (fun H4 z => ?_)
  · obtain ⟨hi, s4, fl, hL, fll, fla, fln⟩ := z
    obtain ⟨a, t, rfl, _, _, hlt⟩ := rf_get hx
    have ea : as[i]? = some a := by
      unfold rf at hx
      rw [List.getElem?_map] at hx
      cases e : as[i]? with
      | none => rw [e] at hx; cases hx
      | some y => rw [e] at hx; cases hx; rfl
    obtain ⟨l, xs, el, g0, hxs, u, wf, d, z, xl⟩ := W3.at_ ea
    refine ⟨rfl, ?_⟩
    refine ⟨_, rfl, a, g, l, false, xs, rfl, s4 _ _ hxs, u.mono (Kp.of s4), by omega, _, rfl, rfl, _, rfl, ?_⟩
    by_cases qe : V.int ((things l : Nat) : Int) = V.int ((mn0 : Nat) : Int)
    · refine ifT (decide_eq_true qe) ⟨_, rfl, _, hL, (by rw [rf_len]; exact szl (by omega)), hlt, same_upd s4 hL3, fl ++ [a], ?_, by rw [List.length_append]; exact Nat.succ_le_succ fll, fun b hb => ?_, fun _ => by simp⟩
      · rw [rf_app]
        exact upd_same
      · rcases List.mem_append.mp hb with h | h
        · exact fla b h
        · rw [List.mem_singleton.mp h]
          exact List.mem_of_getElem? ea
    · refine ifF (decide_eq_false qe) ⟨hlt, s4, fl, hL, Nat.le_succ_of_le fll, fla, fun ⟨l', h', e'⟩ => ?_⟩
      rw [List.take_add_one, el] at h'
      rcases List.mem_append.mp h' with h | h
      · exact fln ⟨l', h, e'⟩
      · have e2 : l' = l := by simpa using h
        rw [e2] at e'
        exact absurd (by rw [e']) qe
  obtain ⟨_, s4, fl, hL, fll, fla, fln⟩ := z
  rw [rf_len, pl, List.take_length] at fln
  have W4 := W3.grow s4
  cases fl with
  | nil => exact absurd rfl (fln ⟨lm, hlm, elm⟩)
  | cons a fr =>
    obtain ⟨j, ea⟩ := List.getElem?_of_mem (fla a (List.mem_cons_self ..))
    refine ⟨L3_, _, _, .ref a, rfl, rfl, SqL.of hL, (show atI _ ((0 : Nat) : Int) = _ from atI_nat rfl), ?_⟩
    obtain ⟨l0, xs0, _, g00, hxs0, _⟩ := W4.at_ ea
    refine ⟨_, rfl, .inl ⟨rfl, _, SqL.of hxs0⟩, (by show 2 ≤ sizeLine; decide), fun x hx => ?_⟩
    have W5 := W4.new (k := 3) (o := .lst [.str wDo, .str wCall]) hx
    obtain ⟨l, xs, l', el, hxs, xl, zl, W6, e1, e2⟩ := W5.ins ea (l1 := .dO wCall .nil) (x := x) (c := 2) ⟨x, [], rfl, gset_same, upd_same, rfl⟩ ⟨nm_kw.2.2.2.1, trivial⟩ hD0 (Nat.le_refl _) 0
    refine ⟨a, rf xs, 0, .ref x, rfl, rfl, hxs, (by rw [rf_len]; exact szl (by omega)), by decide, by decide, ?_⟩
    have e0 : (rf xs).take (0 : Int).toNat ++ [V.ref x] ++ (rf xs).drop (0 : Int).toNat = rf (xs.take 0 ++ [x] ++ xs.drop 0) := rf_ins
    rw [e0]
    refine ⟨gset g x 3, ls.set j l', _, _, rfl, W6.up (Nat.le_refl _) (by omega), sum_set rm el (by rw [e1] <;> rfl)⟩
end
end Fc

set_option Elab.async false
set_option linter.all false
set_option maxRecDepth 100000
set_option maxHeartbeats 4000000
namespace Fc
open PySem PySem.Spec PyProof.Rows L2 He
/-! the law: bends, their effect -/
theorem Good.new {g : Addr → Nat} {H : Hp} {Z k : Nat} {rt q x : Addr} {lo : Int} {o : HO} (h : Good g H Z rt q lo) (hx : H x = none) : Good (gset g x k) (upd H x o) Z rt q lo := by
  obtain ⟨h1, ⟨qs, l, h2, h3, h4⟩, h5⟩ := h
  have n := ne_of_none h2 hx
  exact ⟨h1, ⟨qs, l, same_new hx o _ _ h2, h3.mono (kp_new hx), h4⟩, by rw [gset_ne n]; exact h5⟩
theorem nm_pre {s : Str} {c : Nat} (h : s.cps.size ≤ 7 ∧ ∀ c ∈ s.cps.toList, 97 ≤ c ∧ c ≤ 122) (hc : 97 ≤ c ∧ c ≤ 122) : Nm ((⟨#[c]⟩ : Str) ++ s) := by
  have e : ((⟨#[c]⟩ : Str) ++ s).cps = #[c] ++ s.cps := rfl
  have e2 : ((⟨#[c]⟩ : Str) ++ s).cps.size = s.cps.size + 1 := by rw [e]; simp; omega
  refine ⟨by rw [e2]; omega, by rw [e2]; omega, fun d hd => ?_⟩
  rw [e, Array.toList_append, List.mem_append] at hd
  rcases hd with hd | hd
  · have : d = c := by simpa using hd
    rw [this]
    exact hc
  · exact h.2 d hd
section
variable {H0 H : Hp} {g : Addr → Nat} {A B : Addr} {ns : List Str} {as : List Addr} {ls : List L} {D Z : Nat}
theorem WS.names (W : WS H0 H g A B ns as ls D Z) {ns' : List Str} (hl : ns'.length = ns.length) (hn : ∀ n ∈ ns', Nm n) : WS H0 (upd H A (.lst (sS ns'))) g A B ns' as ls D Z := by
  refine ⟨same_upd W.same W.A0, W.g9, upd_same, W.A0, W.gA, by rw [upd_ne W.AB.symm]; exact W.hB, W.B0, W.gB, W.AB, hn, hl.trans W.len, W.l1, W.nd, Paired.imp (fun a l r => ?_) W.rt⟩
  obtain ⟨r1, ⟨xs, r2, r3⟩, r4, r5, r6⟩ := r
  exact ⟨r1, ⟨xs, by rw [upd_ne fun e => by rw [e, W.gA] at r1; cases r1]; exact r2, r3.mono (Kp.set (by rw [W.gA]; decide))⟩, by rw [hl]; exact r4, r5, r6⟩
theorem WS.unc (W : WS H0 H g A B ns as ls D Z) {H' : Hp} (R : Rq g H H') : ∃ ls', WS H0 H' g A B ns as ls' D Z := by
  obtain ⟨ls', rt'⟩ := Paired.ex (G := RtAt g H' ns.length D Z) (fun a l r => by
    obtain ⟨r1, ⟨xs, r2, r3⟩, r4, r5, r6⟩ := r
    obtain ⟨l', u, z, d, wf⟩ := unc_ul R r3
    exact ⟨l', r1, ⟨xs, by rw [R.keep (by rw [r1]; decide)]; exact r2, u⟩, wf _ r4, by omega, by omega⟩) W.rt
  exact ⟨ls', fun b u q => by rw [R.keep (by rw [W.g9 b u q]; decide)]; exact W.same b u q, W.g9, by rw [R.keep (by rw [W.gA]; decide)]; exact W.hA, W.A0, W.gA, by rw [R.keep (by rw [W.gB]; decide)]; exact W.hB, W.B0, W.gB, W.AB, W.nm, W.len, W.l1, W.nd, rt'⟩
theorem Paired.memR {α β : Type} {F : α → β → Prop} : ∀ {l : List α} {m : List β}, Paired F l m → ∀ {a : α}, a ∈ l → ∃ b, F a b
  | _, _, .nil, _, h => nomatch h
  | _, _, .cons r t, a, h => by
    rcases List.mem_cons.mp h with rfl | h
    · exact ⟨_, r⟩
    · exact Paired.memR t h
/-- one part more -/
theorem WS.part (W : WS H0 H g A B ns as ls D Z) {n : Str} (hn : Nm n) {p b : Addr} {H1 H2 H3 : Hp} (e1 : H1 = upd H A (.lst (sS (ns ++ [n])))) (hp : H1 p = none) (e2 : H2 = upd H1 p (.lst [.str wDo, .str wEnd])) (hb : H2 b = none) (e3 : H3 = upd H2 b (.lst [.ref p])) (hD : 0 < D) (hZ : 2 < Z) :
    WS H0 (upd H3 B (.lst (rf (as ++ [b])))) (gset (gset g p 3) b 0) A B (ns ++ [n]) (as ++ [b]) (ls ++ [.dO wEnd .nil]) D Z := by
  have s12 : Same H1 H2 := by rw [e2]; exact same_new hp _
  have s23 : Same H2 H3 := by rw [e3]; exact same_new hb _
  have s13 := s12.trans s23
  have s01 : Same H0 H1 := by rw [e1]; exact same_upd W.same W.A0
  have k1 : ∀ {x : Addr} {u : HO}, x ≠ A → H x = some u → H1 x = some u := fun {x u} n h => by rw [e1, upd_ne n]; exact h
  have hA1 : H1 A = some (.lst (sS (ns ++ [n]))) := by rw [e1]; exact upd_same
  have hB1 := k1 W.AB.symm W.hB
  have nw : ∀ {x : Addr} {u : HO}, H1 x = some u → x ≠ b ∧ x ≠ p := fun h => ⟨ne_of_none (s12 _ _ h) hb, ne_of_none h hp⟩
  have gn : ∀ {x : Addr} {u : HO}, H1 x = some u → gset (gset g p 3) b 0 x = g x := fun h => by rw [gset_ne (nw h).1, gset_ne (nw h).2]
  have rA : ∀ {x : Addr}, g x ≠ 9 → x ≠ A ∧ x ≠ B := fun h => ⟨fun e => h (by rw [e]; exact W.gA), fun e => h (by rw [e]; exact W.gB)⟩
  have hp3 : H3 p = some (.lst [.str wDo, .str wEnd]) := s23 _ _ (by rw [e2]; exact upd_same)
  have hp2 : H2 p = some (.lst [.str wDo, .str wEnd]) := by rw [e2]; exact upd_same
  have npb : p ≠ b := ne_of_none hp2 hb
  have npB : p ≠ B := fun e => by rw [e, hB1] at hp; cases hp
  have nbB : B ≠ b := (nw hB1).1
  have kp : Kp g H (gset (gset g p 3) b 0) (upd H3 B (.lst (rf (as ++ [b])))) := fun x u hx h => by
    obtain ⟨n1, n2⟩ := rA (x := x) (by omega)
    have h1 := k1 n1 h
    exact ⟨by rw [upd_ne n2]; exact s13 _ _ h1, gn h1⟩
  refine ⟨same_upd (s01.trans s13) W.B0, fun x u q => by rw [gn (s01 _ _ q)]; exact W.g9 x u q, by rw [upd_ne W.AB]; exact s13 _ _ hA1, W.A0, by rw [gn hA1]; exact W.gA, upd_same, W.B0, by rw [gn hB1]; exact W.gB, W.AB, fun m hm => ?_, by rw [List.length_append, List.length_append, W.len] <;> rfl, by rw [List.length_append]; exact Nat.le_trans W.l1 (Nat.le_add_right _ _), ?_, ?_⟩
  · rcases List.mem_append.mp hm with h | h
    · exact W.nm m h
    · rw [List.mem_singleton.mp h]
      exact hn
  · refine List.nodup_append.mpr ⟨W.nd, List.nodup_cons.mpr ⟨(fun h => nomatch h), List.nodup_nil⟩, fun x hx y hy => ?_⟩
    rw [List.mem_singleton.mp hy]
    obtain ⟨l', r1, ⟨xs', h', _⟩, _⟩ := Paired.memR W.rt hx
    exact (nw (k1 (rA (by rw [r1]; decide)).1 h')).1
  · refine Paired.app (Paired.imp (fun a' l' r => ?_) W.rt) (.cons ?_ .nil)
    · obtain ⟨r1, ⟨xs', h', u'⟩, w', d', z'⟩ := r
      obtain ⟨n1, n2⟩ := rA (x := a') (by rw [r1]; decide)
      have h1 := k1 n1 h'
      exact ⟨by rw [gn h1]; exact r1, ⟨xs', by rw [upd_ne n2]; exact s13 _ _ h1, u'.mono kp⟩, wf_more (by rw [List.length_append]; exact Nat.le_add_right _ _) w', d', z'⟩
    · refine ⟨gset_same, ⟨[p], by rw [upd_ne nbB.symm, e3]; exact upd_same, p, [], rfl, ?_, by rw [upd_ne npB]; exact hp3, rfl⟩, ⟨nm_kw.2.1, trivial⟩, hD, hZ⟩
      rw [gset_ne npb]
      exact gset_same
end
end Fc

set_option Elab.async false
set_option linter.all false
set_option maxRecDepth 100000
set_option maxHeartbeats 4000000
namespace Fc
open PySem PySem.Spec PyProof.Rows L2 He
/-! the law: bends -/
theorem nv {a b : Int} [Decidable (V.int a = V.int b)] (h : a ≠ b) : decide (V.int a = V.int b) = false := decide_eq_false (fun e => h (by injection e))
theorem yv {a b : Int} [Decidable (V.int a = V.int b)] (h : a = b) : decide (V.int a = V.int b) = true := decide_eq_true (by rw [h])
theorem rf_at {as : List Addr} {i : Int} (h0 : 0 ≤ i) (h1 : i < ((rf as).length : Int)) : ∃ k a, i = ((k : Nat) : Int) ∧ k < as.length ∧ as[k]? = some a ∧ atI (rf as) i = some (.ref a) := by
  obtain ⟨t, v, et, ev, ea⟩ := atI_in (xs := rf as) h0 h1
  obtain ⟨a, tl_, rfl, _, _, hlt⟩ := rf_get ev
  refine ⟨t, a, by omega, hlt, ?_, ea⟩
  unfold rf at ev
  rw [List.getElem?_map] at ev
  cases e : as[t]? with
  | none => rw [e] at ev; cases ev
  | some y => rw [e] at ev; cases ev; rfl
abbrev wZz : Str := "zz"
theorem nm_zz : Nm wZz := by
  unfold Nm
  decide +kernel
theorem bcd_at {i : Nat} (h : i ≤ 4) : ∃ c, atI ("abcde" : Str).cps.toList ((i : Nat) : Int) = some c ∧ 97 ≤ c ∧ c ≤ 122 := by
  have c : i = 0 ∨ i = 1 ∨ i = 2 ∨ i = 3 ∨ i = 4 := by omega
  rcases c with rfl | rfl | rfl | rfl | rfl
  · exact ⟨97, by decide +kernel, by decide, by decide⟩
  · exact ⟨98, by decide +kernel, by decide, by decide⟩
  · exact ⟨99, by decide +kernel, by decide, by decide⟩
  · exact ⟨100, by decide +kernel, by decide, by decide⟩
  · exact ⟨101, by decide +kernel, by decide, by decide⟩
def spBent (K : PySem.W.Frag) : L2.Sp := fun vs H Q _ => ∃ (H0 : Hp) (g : Addr → Nat) (A B Dr : Addr) (ns : List Str) (as : List Addr) (ls : List L) (D Z : Nat) (d0 d1 d2 d3 d4 : Int), vs = [.ref A, .ref B, .ref Dr] ∧ WS H0 H g A B ns as ls D Z ∧ H Dr = some (.lst [.int d0, .int d1, .int d2, .int d3, .int d4]) ∧ g Dr = 9 ∧ A ≠ Dr ∧ B ≠ Dr ∧ 0 ≤ d0 ∧ 0 ≤ d1 ∧ 0 ≤ d2 ∧ 0 ≤ d3 ∧ 0 ≤ d4 ∧ as.length ≤ 5 ∧ 4 < D ∧ D ≤ 11 ∧ 10 < Z ∧ Z < 99000 ∧
  ∀ H' g' ns' as' ls', WS H0 H' g' A B ns' as' ls' (D + 1) (4 * Z + 200) → as'.length ≤ 5 → Q .non H'
section
variable {P : Program} {w : World} {K : PySem.W.Frag} {mg : Str → Option Value} {base : Heap}
theorem sc_bent : FnScope ["_law_names", "_law_lists", "_law_draws", "_law_way", "_law_k", "_law_inner", "_law_some", "_law_loops", "_law_at", "_law_items"] ["_law_names", "_law_lists", "_law_draws"] (defScope (top 57)) := ⟨rfl, rfl, rfl, by decide +kernel, rfl, by decide +kernel, by decide +kernel⟩
theorem c_bent (T : Txt K mg) : Cal P w K mg base CX0 15 "_law_bent" ["_law_names", "_law_lists", "_law_draws"] (spBent K) := by
  have C_nested : Cal P w K mg base CX0 13 "_law_nested" ["_law_items", "_law_loops"] (spNested K 12) := c_nested T 12
  have C_uncalled : Cal P w K mg base CX0 13 "_law_uncalled" ["_law_items", "_law_q"] (spUnc K 12) := c_uncalled T 12
  have C_things : Cal P w K mg base CX0 13 "_law_things" ["_law_items"] (spThings K 12) := c_things T 12
  have C_filled : Cal P w K mg base CX0 14 "_law_filled" ["_law_lists", "_law_rows"] (spFilled K) := c_filled T
  obtain ⟨fd, F⟩ := T.d__law_bent
  refine ⟨⟨fd, fn0 F sc_bent (fun vs H Q E h => ?_) (fun cdv A outer s H vs Q E hr h => ?_), FunD.bindsN F fun _ _ _ _ _ _ us hl => match us, hl with | [_, _, _], _ => rfl⟩, T.k__law_bent, T.g__law_bent⟩
  · obtain ⟨_, _, _, _, _, _, _, _, _, _, _, _, _, _, _, rfl, _⟩ := h
    rfl
  obtain ⟨H0, g, A, B, Dr, ns, as, ls, D, Z, d0, d1, d2, d3, d4, rfl, W, hDr, gDr, nAD, nBD, g0, g1, g2, g3, g4, l5, hD, hD11, hZ0, hZ, cont⟩ := h
  refine ⟨_, (pss_cons (ps_set (i := 3) sc_bent.nd rfl (.inl rfl) (pe_op op_mod (pe_ix ix_list (pv 2) pe_int (fun _ _ => rfl)) pe_int))
    (pss_cons (ps_set (i := 4) sc_bent.nd rfl (.inl rfl) (pe_op op_mod (pe_ix ix_list (pv 2) pe_int (fun _ _ => rfl)) (pe_callB call_len_seq (by rfl) T.z_len PySem.boot_len (pa_cons (pv 1) pa_nil))))
    (pss_cons (ps_set (i := 5) sc_bent.nd rfl (.inl rfl) (pcall C_nested (hr.mono (by decide)) rfl pass0 (pa_cons (pe_ix ix_list (pv 1) (pv 4) (fun _ _ => rfl)) (pa_cons pe_int pa_nil))))
    (pss_cons (ps_asg (pe_ix ix_list (pv 5) (pe_op op_mod (pe_ix ix_list (pv 2) pe_int (fun _ _ => rfl)) (pe_callB call_len_seq (by rfl) T.z_len PySem.boot_len (pa_cons (pv 5) pa_nil))) (fun _ _ => rfl)) (pg_tup rfl (pgs_cons (pg_name (i := 6) sc_bent.nd rfl (.inl rfl)) (pgs_cons (pg_name (i := 7) sc_bent.nd rfl (.inl rfl)) pgs_nil))))
    (pss_cons (ps_set (i := 8) sc_bent.nd rfl (.inl rfl) (pe_op op_mod (pe_ix ix_list (pv 2) pe_int (fun _ _ => rfl)) (pe_op op_add (pe_callB call_len_seq (by rfl) T.z_len PySem.boot_len (pa_cons (pv 6) pa_nil)) pe_int)))
    (pss_cons (ps_if (pt_cmpR op_eq (pv 3) pe_int (by rfl))
      (pss_one (ps_expr (pe_bm PySem.F.plainAttrs_list PySem.F.slot_list_insert PySem.F.type_list_insert mt_insert (pv 6) (pa_cons (pv 8) (pa_cons (pe_lst (pa_cons pe_str (pa_cons (pe_ix ix_list (pe_op op_cat (pv 0) (pe_lst (pa_cons pe_str (pa_cons pe_str pa_nil)))) (pe_op op_mod (pe_ix ix_list (pv 2) pe_int (fun _ _ => rfl)) (pe_op op_add (pe_callB call_len_seq (by rfl) T.z_len PySem.boot_len (pa_cons (pv 0) pa_nil)) pe_int)) (fun _ _ => rfl)) pa_nil))) pa_nil)))))
      pss_nil)
    (pss_cons (ps_if (pt_cmpR op_eq (pv 3) pe_int (by rfl))
      (pss_one (ps_asg (pe_ix ix_list (pv 0) (pe_op op_mod (pe_ix ix_list (pv 2) pe_int (fun _ _ => rfl)) (pe_callB call_len_seq (by rfl) T.z_len PySem.boot_len (pa_cons (pv 0) pa_nil))) (fun _ _ => rfl)) (pg_sub (pv 0) (pv 4) set_list)))
      pss_nil)
    (pss_cons (ps_if (pt_cmpR op_eq (pv 3) pe_int (by rfl))
      (pss_one (ps_expr (pe_bm PySem.F.plainAttrs_list PySem.F.slot_list_insert PySem.F.type_list_insert mt_insert (pv 6) (pa_cons (pv 8) (pa_cons (pe_lst (pa_cons (pe_ix ix_list (pe_lst (pa_cons pe_str (pa_cons pe_str pa_nil))) (pe_callTy call_int1 (by rfl) T.z_int (by decide +kernel) (pa_cons (pe_and (pe_cmpR op_gt (pv 7) pe_int (by rfl)) (pe_one (pe_cmpR op_eq (pe_op op_mod (pe_ix ix_list (pv 2) pe_int (fun _ _ => rfl)) pe_int) pe_int (by rfl)))) pa_nil)) (fun _ _ => rfl)) pa_nil)) pa_nil)))))
      pss_nil)
    (pss_cons (ps_if (pt_cmpR op_eq (pv 3) pe_int (by rfl))
      (pss_one (ps_for PassesOwn.never rfl (pi_list (pv 1)) (pg_name (i := 9) sc_bent.nd rfl (.inl rfl))
        (pss_one (ps_expr (pcall C_uncalled (hr.mono (by decide)) rfl pass0 (pa_cons (pv 9) (pa_cons (pv 4) pa_nil)))))))
      pss_nil)
    (pss_cons (ps_if (PW.pt (pw_and (pt_cmpR op_eq (pv 3) pe_int (by rfl)) (pw_and1 (pt_cmpR op_eq (pe_op op_mod (pe_ix ix_list (pv 2) pe_int (fun _ _ => rfl)) pe_int) pe_int (by rfl)))))
      (pss_one (ps_expr (pe_bm0 PySem.F.plainAttrs_list PySem.F.slot_list_clear PySem.F.type_list_clear mt_clear (pe_ix ix_list (pv 1) (pv 4) (fun _ _ => rfl)))))
      pss_nil)
    (pss_cons (ps_if (PW.pt (pw_and (pt_cmpR op_eq (pv 3) pe_int (by rfl)) (pw_and1 (pt_cmpR op_eq (pe_op op_mod (pe_ix ix_list (pv 2) pe_int (fun _ _ => rfl)) pe_int) pe_int (by rfl)))))
      (pss_one (ps_expr (pe_bm PySem.F.plainAttrs_list PySem.F.slot_list_insert PySem.F.type_list_insert mt_insert (pe_ix ix_list (pv 1) (pv 4) (fun _ _ => rfl)) (pa_cons pe_int (pa_cons (pe_lst (pa_cons pe_str pa_nil)) pa_nil)))))
      pss_nil)
    (pss_cons (ps_if (pt_cmpR op_eq (pv 3) pe_int (by rfl))
      (pss_one (ps_expr (pcall C_filled (hr.mono (by decide)) rfl pass0 (pa_cons (pv 1) (pa_cons (pe_op op_add pe_int (pe_op op_mod (pe_ix ix_list (pv 2) pe_int (fun _ _ => rfl)) pe_int)) pa_nil)))))
      pss_nil)
    (pss_cons (ps_if (pt_cmpR op_eq (pv 3) pe_int (by rfl))
      (pss_one (ps_while PassesOwn.never (pt_cmpR op_lt (pcall C_things (hr.mono (by decide)) rfl pass0 (pa_cons (pe_ix ix_list (pv 1) (pv 4) (fun _ _ => rfl)) pa_nil)) (pe_op op_add pe_int (pe_op op_mod (pe_ix ix_list (pv 2) pe_int (fun _ _ => rfl)) pe_int)) (by rfl))
        (pss_one (ps_expr (pe_bm PySem.F.plainAttrs_list PySem.F.slot_list_insert PySem.F.type_list_insert mt_insert (pe_ix ix_list (pv 1) (pv 4) (fun _ _ => rfl)) (pa_cons pe_int (pa_cons (pe_lst (pa_cons pe_str (pa_cons pe_str pa_nil))) pa_nil)))))))
      pss_nil)
    (pss_cons (ps_if (pt_cmpR op_eq (pv 3) pe_int (by rfl))
      (pss_one (ps_while PassesOwn.never (pt_cmpR op_lt (pe_callB call_len_seq (by rfl) T.z_len PySem.boot_len (pa_cons (pv 1) pa_nil)) (pe_op op_add pe_int (pe_op op_mod (pe_ix ix_list (pv 2) pe_int (fun _ _ => rfl)) pe_int)) (by rfl))
        (pss_cons (ps_expr (pe_bm PySem.F.plainAttrs_list PySem.F.slot_list_append PySem.F.type_list_append mt_append (pv 0) (pa_cons (pe_op op_add_str (pe_ix ix_str pe_str (pe_callB call_len_seq (by rfl) T.z_len PySem.boot_len (pa_cons (pv 1) pa_nil)) (fun _ _ => rfl)) (pe_slice sl_str (pe_ix ix_list (pv 0) pe_int (fun _ _ => rfl)) po_none (po_some pe_int))) pa_nil)))
        (pss_cons (ps_expr (pe_bm PySem.F.plainAttrs_list PySem.F.slot_list_append PySem.F.type_list_append mt_append (pv 1) (pa_cons (pe_lst (pa_cons (pe_lst (pa_cons pe_str (pa_cons pe_str pa_nil))) pa_nil)) pa_nil)))
        (pss_one (ps_expr (pe_bm PySem.F.plainAttrs_list PySem.F.slot_list_insert PySem.F.type_list_insert mt_insert (pe_ix ix_list (pv 1) pe_int (fun _ _ => rfl)) (pa_cons pe_int (pa_cons (pe_lst (pa_cons pe_str (pa_cons (pe_op op_sub (pe_callB call_len_seq (by rfl) T.z_len PySem.boot_len (pa_cons (pv 1) pa_nil)) pe_int) pa_nil))) pa_nil)))))))))
      pss_nil)
    (pss_one (ps_if (pt_cmpR op_eq (pv 3) pe_int (by rfl))
      (pss_one (ps_expr (pe_bm PySem.F.plainAttrs_list PySem.F.slot_list_insert PySem.F.type_list_insert mt_insert (pv 6) (pa_cons (pv 8) (pa_cons (pe_lst (pa_cons pe_str (pa_cons pe_str (pa_cons (pe_lst (pa_cons (pe_lst (pa_cons pe_str pa_nil)) pa_nil)) (pa_cons (pe_lst (pa_cons (pe_lst (pa_cons pe_str pa_nil)) pa_nil)) pa_nil))))) pa_nil)))))
      pss_nil)))))))))))))))), ?_⟩
  have al := W.l1
  have nl := W.len
  have way0 : 0 ≤ d0 % 9 ∧ d0 % 9 < 9 := ⟨Int.emod_nonneg d0 (by decide), Int.emod_lt_of_pos d0 (by decide)⟩
  have lenB : (0 : Int) < ((rf as).length : Int) := by rw [rf_len]; omega
  obtain ⟨k, a, ek, hk, ea, eaI⟩ := rf_at (as := as) (i := d1 % ((rf as).length : Int)) (Int.emod_nonneg d1 (by omega)) (Int.emod_lt_of_pos d1 lenB)
  obtain ⟨l, xs, el, ga, hxs, u, wf, hd, hz, xl⟩ := W.at_ ea
  refine ixv 0 rfl hDr rfl ⟨_, _, rfl, rfl, (by show (0 : Int) < 9; decide), ?_⟩
  refine ixv 1 rfl hDr rfl ⟨_, rfl, B, _, rfl, .inl (SqL.of W.hB), _, _, rfl, rfl, lenB, ?_⟩
  refine ⟨_, rfl, _, rfl, B, _, _, .ref a, rfl, rfl, SqL.of W.hB, eaI, a, 0, g, l, xs, a, rfl, hxs, u, by omega, by omega, by omega, .inl ⟨rfl, rfl⟩, fun H1 p ts s1 hp0 hp tne tl good => ?_⟩
  have W1 := W.grow s1
  have hDr1 := s1 _ _ hDr
  have lenT : (0 : Int) < ((rf ts).length : Int) := by
    rw [rf_len]
    cases ts with
    | nil => exact absurd rfl tne
    | cons _ _ => rw [List.length_cons]; omega
  obtain ⟨kt_, t, ekt, hkt, et, etI⟩ := rf_at (as := ts) (i := d2 % ((rf ts).length : Int)) (Int.emod_nonneg d2 (by omega)) (Int.emod_lt_of_pos d2 lenT)
  obtain ⟨q, lo, htq, G⟩ := good t (List.mem_of_getElem? et)
  obtain ⟨hlo, ⟨qs, lq, hq, uq, zq⟩, hk9⟩ := id G
  have qlen := ul_len uq
  have lenQ : (0 : Int) < ((rf qs).length : Int) + 1 := by omega
  have at0 := Int.emod_nonneg d3 (b := ((rf qs).length : Int) + 1) (by omega)
  have at1 := Int.emod_lt_of_pos d3 lenQ
  have erq := rf_len qs
  refine ⟨_, rfl, ?_⟩
  refine ixv 2 rfl hDr1 rfl ⟨_, rfl, p, _, rfl, .inl (SqL.of hp), _, _, rfl, rfl, lenT, p, _, _, .ref t, rfl, rfl, SqL.of hp, etI, t, _, rfl, SqT.of htq, rfl, _, _, rfl, _, _, rfl, rfl, ?_⟩
  refine ixv 3 rfl hDr1 rfl ⟨_, rfl, q, _, rfl, .inl (SqL.of hq), _, _, rfl, rfl, _, _, rfl, rfl, lenQ, ?_⟩
  have dm4 : ∀ b : Int, 0 < b → 0 ≤ d4 % b ∧ d4 % b < b := fun b hb => ⟨Int.emod_nonneg d4 (by omega), Int.emod_lt_of_pos d4 hb⟩
  have qat : (rf qs).length < sizeLine := by rw [rf_len]; exact szl (by omega)
  -- a new thing is put in
  have putf : ∀ {H2 H3 : Hp} {g2 : Addr → Nat} {x : Addr} {l1 : L}, WS H0 H3 g2 A B ns as ls D Z → Good g2 H3 (wl l) a q lo → UL g2 H3 l1 (decide (0 < lo)) [x] → (∀ o, UL g2 (upd H3 q o) l1 (decide (0 < lo)) [x]) → Wf ns.length l1 (decide (0 < lo)) → dp l1 ≤ 1 → wl l1 ≤ 6 → ∀ ti : Nat,
      H3 q = some (.lst (rf qs)) → ∃ ls', WS H0 (upd H3 q (.lst ((rf qs).take ti ++ [V.ref x] ++ (rf qs).drop ti))) g2 A B ns as ls' (D + 1) (4 * Z + 200) := by
    intro H2 H3 g2 x l1 W3 G3 u1 u2 w1 d1 z1 ti hq3
    obtain ⟨qs', ls', hq', _, W4⟩ := W3.put ea G3 u1 u2 w1 d1 (by omega) z1 ti
    rw [hq3] at hq'
    injection hq' with hq'
    injection hq' with hq'
    have e := rf_inj hq'
    subst e
    rw [rf_ins]
    exact ⟨ls', W4.up (Nat.le_refl _) (by omega)⟩
  have wc : d0 % 9 = 0 ∨ d0 % 9 = 1 ∨ d0 % 9 = 2 ∨ d0 % 9 = 3 ∨ d0 % 9 = 4 ∨ d0 % 9 = 5 ∨ d0 % 9 = 6 ∨ d0 % 9 = 7 ∨ d0 % 9 = 8 := by omega
  rcases wc with q0 | q0 | q0 | q0 | q0 | q0 | q0 | q0 | q0
  · refine ⟨_, rfl, rfl, _, rfl, ifT (yv q0) ?_⟩
    refine ⟨_, rfl, .inl ⟨rfl, _, SqL.of hq⟩, _, rfl, _, rfl, (by show 2 ≤ sizeLine; decide), fun p1 hp1 => ?_⟩
    refine ⟨A, p1, _, _, rfl, rfl, same_new hp1 _ _ _ W1.hA, upd_same, ?_, fun p2 hp2 => ?_⟩
    · rw [sS_len]
      exact sz (show ns.length + 2 ≤ _ by omega)
    have s2 := (same_new hp1 (.lst [.str "zz", .str "part"])).trans (same_new hp2 (.lst (sS ns ++ [V.str "zz", V.str "part"])))
    have hA2 := s2 _ _ W1.hA
    have elN : ((sS ns).length : Int) = (ns.length : Int) := by rw [sS_len]
    have lenN : (0 : Int) < ((sS ns).length : Int) + 2 := by omega
    have m4 := dm4 _ lenN
    have ens : sS ns ++ [V.str "zz", V.str "part"] = sS (ns ++ [wZz, wPart]) := by rw [sS_app] <;> rfl
    obtain ⟨t4, v4, et4, ev4, ea4⟩ := atI_in (xs := sS ns ++ [V.str "zz", V.str "part"]) m4.1 (by rw [List.length_append]; exact m4.2)
    have hv : ∃ c : Str, v4 = .str c ∧ Nm c := by
      rw [ens] at ev4
      have hm := List.mem_of_getElem? ev4
      unfold sS at hm
      obtain ⟨c, hc, rfl⟩ := List.mem_map.mp hm
      refine ⟨c, rfl, ?_⟩
      rcases List.mem_append.mp hc with h | h
      · exact W.nm c h
      · rcases List.mem_cons.mp h with rfl | h
        · exact nm_zz
        · rw [List.mem_singleton.mp h]
          exact nm_kw.1
    obtain ⟨c, rfl, hc⟩ := hv
    refine ixv 4 rfl (s2 _ _ hDr1) rfl ⟨_, rfl, A, _, rfl, .inl (SqL.of hA2), _, _, rfl, rfl, _, _, rfl, rfl, lenN, p2, _, _, .str c, rfl, rfl, SqL.of upd_same, ea4, (by show 2 ≤ sizeLine; decide), fun x hx => ?_⟩
    have s3 := s2.trans (same_new hx (.lst [.str wCall, .str c]))
    have nq : q ≠ x := ne_of_none (s2 _ _ hq) hx
    refine ⟨q, rf qs, _, .ref x, rfl, rfl, s3 _ _ hq, qat, at0, by omega, ?_⟩
    obtain ⟨ls', W5⟩ := putf (H2 := H) ((W1.grow s2).new (k := 3) (o := .lst [.str wCall, .str c]) hx) ((G.more s2).new hx) (l1 := .ca (.nm c) .nil) (x := x) ⟨x, [], rfl, gset_same, upd_same, rfl⟩ (fun o => ⟨x, [], rfl, gset_same, by rw [upd_ne nq.symm]; exact upd_same, rfl⟩) ⟨hc, trivial⟩ (Nat.zero_le _) (by show 2 ≤ 6; decide) (d3 % (((rf qs).length : Int) + 1)).toNat (s3 _ _ hq)
    refine ⟨_, rfl, rfl, _, rfl, ifF (nv (by omega)) ?_⟩
    refine ⟨_, rfl, rfl, _, rfl, ifF (nv (by omega)) ?_⟩
    refine ⟨_, rfl, rfl, _, rfl, ifF (nv (by omega)) ?_⟩
    refine ⟨_, rfl, rfl, _, rfl, ifF (nv (by omega)) (ifF rfl ?_)⟩
    refine ⟨_, rfl, rfl, _, rfl, ifF (nv (by omega)) (ifF rfl ?_)⟩
    refine ⟨_, rfl, rfl, _, rfl, ifF (nv (by omega)) ?_⟩
    refine ⟨_, rfl, rfl, _, rfl, ifF (nv (by omega)) ?_⟩
    refine ⟨_, rfl, rfl, _, rfl, ifF (nv (by omega)) ?_⟩
    refine ⟨_, rfl, rfl, _, rfl, ifF (nv (by omega)) ?_⟩
    exact cont _ _ _ _ _ W5 l5
  · refine ⟨_, rfl, rfl, _, rfl, ifF (nv (by omega)) ?_⟩
    refine ⟨_, rfl, rfl, _, rfl, ifT (yv q0) ?_⟩
    have elN : ((sS ns).length : Int) = (ns.length : Int) := by rw [sS_len]
    have lenN : (0 : Int) < ((sS ns).length : Int) := by omega
    have m4 := dm4 _ lenN
    obtain ⟨t4, v4, et4, ev4, ea4⟩ := atI_in (xs := sS ns) m4.1 m4.2
    have hv : ∃ c : Str, v4 = .str c ∧ Nm c := by
      have hm := List.mem_of_getElem? ev4
      unfold sS at hm
      obtain ⟨c, hc, rfl⟩ := List.mem_map.mp hm
      exact ⟨c, rfl, W.nm c hc⟩
    obtain ⟨c, rfl, hc⟩ := hv
    refine ⟨_, rfl, ?_⟩
    refine ixv 4 rfl hDr1 rfl ⟨_, rfl, A, _, rfl, .inl (SqL.of W1.hA), _, _, rfl, rfl, lenN, A, _, _, .str c, rfl, rfl, SqL.of W1.hA, ea4, _, rfl, _, rfl, A, sS ns, _, k, rfl, rfl, W1.hA, ?_, ?_⟩
    · show ixN (sS ns).length (d1 % ((rf as).length : Int)) = some k
      rw [ek, sS_len]
      unfold ixN
      rw [if_pos (by omega), if_pos (by omega)]
      rfl
    have e5 : (sS ns).set k (.str c) = sS (ns.set k c) := by
      unfold sS
      rw [List.map_set]
    rw [e5]
    have W5 := W1.names (ns' := ns.set k c) (List.length_set ..) (fun n hn => by
      rcases List.mem_or_eq_of_mem_set hn with h | h
      · exact W.nm n h
      · rw [h]; exact hc)
    refine ⟨_, rfl, rfl, _, rfl, ifF (nv (by omega)) ?_⟩
    refine ⟨_, rfl, rfl, _, rfl, ifF (nv (by omega)) ?_⟩
    refine ⟨_, rfl, rfl, _, rfl, ifF (nv (by omega)) (ifF rfl ?_)⟩
    refine ⟨_, rfl, rfl, _, rfl, ifF (nv (by omega)) (ifF rfl ?_)⟩
    refine ⟨_, rfl, rfl, _, rfl, ifF (nv (by omega)) ?_⟩
    refine ⟨_, rfl, rfl, _, rfl, ifF (nv (by omega)) ?_⟩
    refine ⟨_, rfl, rfl, _, rfl, ifF (nv (by omega)) ?_⟩
    refine ⟨_, rfl, rfl, _, rfl, ifF (nv (by omega)) ?_⟩
    exact cont _ _ _ _ _ (W5.up (Nat.le_succ _) (by omega)) l5
  · refine ⟨_, rfl, rfl, _, rfl, ifF (nv (by omega)) ?_⟩
    refine ⟨_, rfl, rfl, _, rfl, ifF (nv (by omega)) ?_⟩
    refine ⟨_, rfl, rfl, _, rfl, ifT (yv q0) ?_⟩
    have key : ∀ {H2 : Hp} {x : Addr} {l1 : L} {s : Str}, Same H1 H2 → H2 x = none → (∀ (g3 : Addr → Nat) (H3 : Hp), g3 x = 3 → H3 x = some (.lst [.str s]) → UL g3 H3 l1 (decide (0 < lo)) [x]) → Wf ns.length l1 (decide (0 < lo)) → dp l1 ≤ 1 → wl l1 ≤ 6 → ∃ ls', WS H0 (upd (upd H2 x (.lst [.str s])) q (.lst ((rf qs).take (d3 % (((rf qs).length : Int) + 1)).toNat ++ [V.ref x] ++ (rf qs).drop (d3 % (((rf qs).length : Int) + 1)).toNat))) (gset g x 3) A B ns as ls' (D + 1) (4 * Z + 200) := by
      intro H2 x l1 s s2 hx hu hw hd1 hz1
      have nq : q ≠ x := ne_of_none (s2 _ _ hq) hx
      exact putf (H2 := H) ((W1.grow s2).new (k := 3) (o := .lst [.str s]) hx) ((G.more s2).new hx) (hu _ _ gset_same upd_same) (fun o => hu _ _ gset_same (by rw [upd_ne nq.symm]; exact upd_same)) hw hd1 hz1 _ (same_new hx _ _ _ (s2 _ _ hq))
    refine ⟨_, rfl, .inl ⟨rfl, _, SqL.of hq⟩, _, rfl, ?_⟩
    refine ⟨(by show 2 ≤ sizeLine; decide), fun p1 hp1 => ?_⟩
    have s2 := same_new hp1 (.lst [.str wBack, .str wLeave])
    have hq2 := s2 _ _ hq
    by_cases c1 : 0 < lo
    rotate_left
    · refine ⟨_, rfl, _, _, rfl, rfl, _, rfl, ?_⟩
      refine ifF (decide_eq_false c1) ?_
      refine .inr ⟨false, rfl, p1, _, _, .str wBack, rfl, rfl, SqL.of upd_same, rfl, (by show 1 ≤ sizeLine; decide), fun x hx => ?_⟩
      refine ⟨q, rf qs, _, .ref x, rfl, rfl, same_new hx _ _ _ hq2, qat, at0, by omega, ?_⟩
      obtain ⟨ls', W5⟩ := key (l1 := .bk .nil) (s := wBack) s2 hx (fun g3 H3 e1 e2 => ⟨x, [], rfl, e1, e2, rfl⟩) trivial (Nat.zero_le _) (by show 1 ≤ 6; decide)
      refine ⟨_, rfl, rfl, _, rfl, ifF (nv (by omega)) ?_⟩
      refine ⟨_, rfl, rfl, _, rfl, ifF (nv (by omega)) (ifF rfl ?_)⟩
      refine ⟨_, rfl, rfl, _, rfl, ifF (nv (by omega)) (ifF rfl ?_)⟩
      refine ⟨_, rfl, rfl, _, rfl, ifF (nv (by omega)) ?_⟩
      refine ⟨_, rfl, rfl, _, rfl, ifF (nv (by omega)) ?_⟩
      refine ⟨_, rfl, rfl, _, rfl, ifF (nv (by omega)) ?_⟩
      refine ⟨_, rfl, rfl, _, rfl, ifF (nv (by omega)) ?_⟩
      exact cont _ _ _ _ _ W5 l5
    refine ⟨_, rfl, _, _, rfl, rfl, _, rfl, ?_⟩
    refine ifT (decide_eq_true c1) ?_
    refine ixv 4 rfl (s2 _ _ hDr1) rfl ⟨_, _, rfl, rfl, (by first | (show (0 : Int) < 2; decide) | (show (0 : Int) < 3; decide)), ?_⟩
    by_cases c2 : d4 % 2 = 1
    · refine ⟨rfl, .inr ⟨true, ?_, p1, _, _, .str wLeave, rfl, rfl, SqL.of upd_same, rfl, (by show 1 ≤ sizeLine; decide), fun x hx => ?_⟩⟩
      · show [V.bl (decide (V.int (d4 % 2) = V.int 1))] = [V.bl true]
        rw [yv c2]
      refine ⟨q, rf qs, _, .ref x, rfl, rfl, same_new hx _ _ _ hq2, qat, at0, by omega, ?_⟩
      obtain ⟨ls', W5⟩ := key (l1 := .lv .nil) (s := wLeave) s2 hx (fun g3 H3 e1 e2 => ⟨x, [], rfl, e1, e2, rfl⟩) ⟨decide_eq_true c1, trivial⟩ (Nat.zero_le _) (by show 1 ≤ 6; decide)
      refine ⟨_, rfl, rfl, _, rfl, ifF (nv (by omega)) ?_⟩
      refine ⟨_, rfl, rfl, _, rfl, ifF (nv (by omega)) (ifF rfl ?_)⟩
      refine ⟨_, rfl, rfl, _, rfl, ifF (nv (by omega)) (ifF rfl ?_)⟩
      refine ⟨_, rfl, rfl, _, rfl, ifF (nv (by omega)) ?_⟩
      refine ⟨_, rfl, rfl, _, rfl, ifF (nv (by omega)) ?_⟩
      refine ⟨_, rfl, rfl, _, rfl, ifF (nv (by omega)) ?_⟩
      refine ⟨_, rfl, rfl, _, rfl, ifF (nv (by omega)) ?_⟩
      exact cont _ _ _ _ _ W5 l5
    · refine ⟨rfl, .inr ⟨false, ?_, p1, _, _, .str wBack, rfl, rfl, SqL.of upd_same, rfl, (by show 1 ≤ sizeLine; decide), fun x hx => ?_⟩⟩
      · show [V.bl (decide (V.int (d4 % 2) = V.int 1))] = [V.bl false]
        rw [nv c2]
      refine ⟨q, rf qs, _, .ref x, rfl, rfl, same_new hx _ _ _ hq2, qat, at0, by omega, ?_⟩
      obtain ⟨ls', W5⟩ := key (l1 := .bk .nil) (s := wBack) s2 hx (fun g3 H3 e1 e2 => ⟨x, [], rfl, e1, e2, rfl⟩) trivial (Nat.zero_le _) (by show 1 ≤ 6; decide)
      refine ⟨_, rfl, rfl, _, rfl, ifF (nv (by omega)) ?_⟩
      refine ⟨_, rfl, rfl, _, rfl, ifF (nv (by omega)) (ifF rfl ?_)⟩
      refine ⟨_, rfl, rfl, _, rfl, ifF (nv (by omega)) (ifF rfl ?_)⟩
      refine ⟨_, rfl, rfl, _, rfl, ifF (nv (by omega)) ?_⟩
      refine ⟨_, rfl, rfl, _, rfl, ifF (nv (by omega)) ?_⟩
      refine ⟨_, rfl, rfl, _, rfl, ifF (nv (by omega)) ?_⟩
      refine ⟨_, rfl, rfl, _, rfl, ifF (nv (by omega)) ?_⟩
      exact cont _ _ _ _ _ W5 l5
  · refine ⟨_, rfl, rfl, _, rfl, ifF (nv (by omega)) ?_⟩
    refine ⟨_, rfl, rfl, _, rfl, ifF (nv (by omega)) ?_⟩
    refine ⟨_, rfl, rfl, _, rfl, ifF (nv (by omega)) ?_⟩
    refine ⟨_, rfl, rfl, _, rfl, ifT (yv q0) ?_⟩
    refine ⟨_, rfl, B, rfl, ⟨_, SqL.of W1.hB⟩, ?_⟩
    refine for_list (xs := rf as) (fun i σ H' => ∃ (b : Option V), σ = [some (.ref A), some (.ref B), some (.ref Dr), some (.int (d0 % 9)), some (.int (d1 % ((rf as).length : Int))), some (.ref p), some (.ref q), some (.int lo), some (.int (d3 % (((rf qs).length : Int) + 1))), b] ∧ Rq g H1 H') ?_ ?_ ?_ ?_
    · exact ⟨none, rfl, Rq.refl⟩
    · rintro i σ H' _ ⟨b, rfl, R⟩
      exact SqL.of (by rw [R.keep (by rw [W.gB]; decide)]; exact W1.hB)
    · rintro i x σ H' hx ⟨b, rfl, R⟩
      obtain ⟨a2, t2, rfl, _, _, hlt⟩ := rf_get hx
      have ea2 : as[i]? = some a2 := by
        unfold rf at hx
        rw [List.getElem?_map] at hx
        cases e : as[i]? with
        | none => rw [e] at hx; cases hx
        | some y => rw [e] at hx; cases hx; rfl
      obtain ⟨ls2, W2⟩ := W1.unc R
      obtain ⟨l2, xs2, el2, ga2, hxs2, u2, wf2, hd2, hz2, xl2⟩ := W2.at_ ea2
      refine ⟨_, rfl, _, rfl, a2, k, g, l2, false, xs2, ?_, hxs2, by rw [ga2]; decide, u2, by omega, fun H3 R3 => ?_⟩
      · show [V.ref a2, V.int (d1 % ((rf as).length : Int))] = _
        rw [ek]
      exact ⟨_, rfl, R.trans R3⟩
    rintro σ H' ⟨b, rfl, R⟩
    obtain ⟨ls2, W2⟩ := W1.unc R
    refine ⟨_, rfl, rfl, _, rfl, ifF (nv (by omega)) (ifF rfl ?_)⟩
    refine ⟨_, rfl, rfl, _, rfl, ifF (nv (by omega)) (ifF rfl ?_)⟩
    refine ⟨_, rfl, rfl, _, rfl, ifF (nv (by omega)) ?_⟩
    refine ⟨_, rfl, rfl, _, rfl, ifF (nv (by omega)) ?_⟩
    refine ⟨_, rfl, rfl, _, rfl, ifF (nv (by omega)) ?_⟩
    refine ⟨_, rfl, rfl, _, rfl, ifF (nv (by omega)) ?_⟩
    exact cont _ _ _ _ _ (W2.up (Nat.le_succ _) (by omega)) l5
  · refine ⟨_, rfl, rfl, _, rfl, ifF (nv (by omega)) ?_⟩
    refine ⟨_, rfl, rfl, _, rfl, ifF (nv (by omega)) ?_⟩
    refine ⟨_, rfl, rfl, _, rfl, ifF (nv (by omega)) ?_⟩
    refine ⟨_, rfl, rfl, _, rfl, ifF (nv (by omega)) ?_⟩
    refine ⟨_, rfl, rfl, _, rfl, ifT (yv q0) ?_⟩
    refine ixv 4 rfl hDr1 rfl ⟨_, _, rfl, rfl, (by first | (show (0 : Int) < 2; decide) | (show (0 : Int) < 3; decide)), rfl, _, rfl, ?_⟩
    have m4 := dm4 2 (by decide)
    obtain ⟨l, xs, el, ga, hxs, u, wf, hd, hz, xl⟩ := W1.at_ ea
    have nDa : Dr ≠ a := fun e => by rw [← e, gDr] at ga; cases ga
    by_cases c2 : d4 % 2 = 0
    · refine ifT (yv c2) ?_
      refine ⟨_, rfl, _, rfl, B, _, _, .ref a, rfl, rfl, SqL.of W1.hB, eaI, .inl ⟨rfl, _, SqL.of hxs⟩, a, rf xs, rfl, rfl, hxs, ?_⟩
      have W5 := W1.root ea (ys := []) (l' := .nil) (c := 0) rfl trivial (by show 0 < D; omega) (by show 0 < Z + 0; omega)
      refine ⟨_, rfl, rfl, _, rfl, ifT (yv q0) ?_⟩
      refine ixv 4 rfl (by rw [upd_ne nDa]; exact hDr1) rfl ⟨_, _, rfl, rfl, (by first | (show (0 : Int) < 2; decide) | (show (0 : Int) < 3; decide)), rfl, _, rfl, ?_⟩
      refine ifF (nv (by omega)) ?_
      refine ⟨_, rfl, rfl, _, rfl, ifF (nv (by omega)) ?_⟩
      refine ⟨_, rfl, rfl, _, rfl, ifF (nv (by omega)) ?_⟩
      refine ⟨_, rfl, rfl, _, rfl, ifF (nv (by omega)) ?_⟩
      refine ⟨_, rfl, rfl, _, rfl, ifF (nv (by omega)) ?_⟩
      exact cont _ _ _ _ _ (W5.up (Nat.le_succ _) (by omega)) l5
    · refine ifF (nv c2) ?_
      refine ⟨_, rfl, rfl, _, rfl, ifT (yv q0) ?_⟩
      refine ixv 4 rfl hDr1 rfl ⟨_, _, rfl, rfl, (by first | (show (0 : Int) < 2; decide) | (show (0 : Int) < 3; decide)), rfl, _, rfl, ?_⟩
      refine ifT (yv (by omega)) ?_
      refine ⟨_, rfl, _, rfl, B, _, _, .ref a, rfl, rfl, SqL.of W1.hB, eaI, .inl ⟨rfl, _, SqL.of hxs⟩, (by show 1 ≤ sizeLine; decide), fun x hx => ?_⟩
      have W5 := W1.new (k := 3) (o := .lst [.str wBack]) hx
      obtain ⟨l, xs, l', el, hxs, xl, zl, W6, e1, e2⟩ := W5.ins ea (l1 := .bk .nil) (x := x) (c := 1) ⟨x, [], rfl, gset_same, upd_same, rfl⟩ trivial (by show 0 < D; omega) (Nat.le_refl _) 0
      refine ⟨a, rf xs, 0, .ref x, rfl, rfl, hxs, (by rw [rf_len]; exact szl (by omega)), by decide, by decide, ?_⟩
      have e0 : (rf xs).take (0 : Int).toNat ++ [V.ref x] ++ (rf xs).drop (0 : Int).toNat = rf (xs.take 0 ++ [x] ++ xs.drop 0) := rf_ins
      rw [e0]
      refine ⟨_, rfl, rfl, _, rfl, ifF (nv (by omega)) ?_⟩
      refine ⟨_, rfl, rfl, _, rfl, ifF (nv (by omega)) ?_⟩
      refine ⟨_, rfl, rfl, _, rfl, ifF (nv (by omega)) ?_⟩
      refine ⟨_, rfl, rfl, _, rfl, ifF (nv (by omega)) ?_⟩
      exact cont _ _ _ _ _ (W6.up (Nat.le_succ _) (by omega)) l5
  · refine ⟨_, rfl, rfl, _, rfl, ifF (nv (by omega)) ?_⟩
    refine ⟨_, rfl, rfl, _, rfl, ifF (nv (by omega)) ?_⟩
    refine ⟨_, rfl, rfl, _, rfl, ifF (nv (by omega)) ?_⟩
    refine ⟨_, rfl, rfl, _, rfl, ifF (nv (by omega)) ?_⟩
    refine ⟨_, rfl, rfl, _, rfl, ifF (nv (by omega)) (ifF rfl ?_)⟩
    refine ⟨_, rfl, rfl, _, rfl, ifF (nv (by omega)) (ifF rfl ?_)⟩
    refine ⟨_, rfl, rfl, _, rfl, ifT (yv q0) ?_⟩
    have m4 := dm4 3 (by decide)
    refine ⟨_, rfl, ?_⟩
    refine ixv 4 rfl hDr1 rfl ⟨_, _, rfl, rfl, (by first | (show (0 : Int) < 2; decide) | (show (0 : Int) < 3; decide)), _, _, rfl, rfl, ?_⟩
    refine ⟨H0, g, A, B, ns, as, ls, D, Z, (30 + d4 % 3).toNat, ?_, W1, by omega, by omega, by omega, by omega, by omega, fun H' g' ls' W5 => ?_⟩
    · show [V.ref B, V.int (30 + d4 % 3)] = _
      rw [show (30 + d4 % 3 : Int) = (((30 + d4 % 3).toNat : Nat) : Int) by omega]
      rfl
    refine ⟨_, rfl, rfl, _, rfl, ifF (nv (by omega)) ?_⟩
    refine ⟨_, rfl, rfl, _, rfl, ifF (nv (by omega)) ?_⟩
    refine ⟨_, rfl, rfl, _, rfl, ifF (nv (by omega)) ?_⟩
    exact cont _ _ _ _ _ (W5.up (Nat.le_succ _) (by omega)) l5
  · refine ⟨_, rfl, rfl, _, rfl, ifF (nv (by omega)) ?_⟩
    refine ⟨_, rfl, rfl, _, rfl, ifF (nv (by omega)) ?_⟩
    refine ⟨_, rfl, rfl, _, rfl, ifF (nv (by omega)) ?_⟩
    refine ⟨_, rfl, rfl, _, rfl, ifF (nv (by omega)) ?_⟩
    refine ⟨_, rfl, rfl, _, rfl, ifF (nv (by omega)) (ifF rfl ?_)⟩
    refine ⟨_, rfl, rfl, _, rfl, ifF (nv (by omega)) (ifF rfl ?_)⟩
    refine ⟨_, rfl, rfl, _, rfl, ifF (nv (by omega)) ?_⟩
    refine ⟨_, rfl, rfl, _, rfl, ifT (yv q0) ?_⟩
    have m4 := dm4 2 (by decide)
    refine ⟨fun m σ H' => ∃ (g' : Addr → Nat) (ls' : List L) (l' : L) (c : Nat), σ = [some (.ref A), some (.ref B), some (.ref Dr), some (.int (d0 % 9)), some (.int (d1 % ((rf as).length : Int))), some (.ref p), some (.ref q), some (.int lo), some (.int (d3 % (((rf qs).length : Int) + 1))), none] ∧ WS H0 H' g' A B ns as ls' D (Z + 2 * c) ∧ H' Dr = some (.lst [.int d0, .int d1, .int d2, .int d3, .int d4]) ∧ g' Dr = 9 ∧ ls'[k]? = some l' ∧ m = 17 - things l' ∧ c ≤ things l' ∧ (c = 0 ∨ things l' ≤ 16), ⟨_, g, ls, l, 0, rfl, W1, hDr1, gDr, el, rfl, Nat.zero_le _, .inl rfl⟩, ?_⟩
    rintro m σ H' ⟨g', ls', l', c, rfl, W2, hDr2, gDr2, el2, rfl, hc, hc2⟩
    have c40 : c ≤ 16 := by rcases hc2 with h | h <;> omega
    obtain ⟨l2, xs2, el3, ga2, hxs2, u2, wf2, hd2, hz2, xl2⟩ := W2.at_ ea
    rw [el2] at el3
    injection el3 with el3
    subst el3
    refine ⟨_, rfl, _, rfl, B, _, _, .ref a, rfl, rfl, SqL.of W2.hB, eaI, a, g', l', false, xs2, rfl, hxs2, u2, by omega, ?_⟩
    refine ixv 4 rfl hDr2 rfl ⟨_, _, rfl, rfl, (by first | (show (0 : Int) < 2; decide) | (show (0 : Int) < 3; decide)), _, _, rfl, rfl, _, _, rfl, rfl, _, rfl, ?_⟩
    by_cases c2 : ((things l' : Nat) : Int) < 15 + d4 % 2
    rotate_left
    · refine ifF (decide_eq_false c2) ?_
      refine ⟨_, rfl, rfl, _, rfl, ifF (nv (by omega)) ?_⟩
      refine ⟨_, rfl, rfl, _, rfl, ifF (nv (by omega)) ?_⟩
      exact cont _ _ _ _ _ (W2.up (Nat.le_succ _) (by omega)) l5
    refine ifT (decide_eq_true c2) ⟨_, fun _ _ h => h, ?_⟩
    refine ⟨_, rfl, _, rfl, B, _, _, .ref a, rfl, rfl, SqL.of W2.hB, eaI, .inl ⟨rfl, _, SqL.of hxs2⟩, (by show 2 ≤ sizeLine; decide), fun x hx => ?_⟩
    have W5 := W2.new (k := 3) (o := .lst [.str wDo, .str wDo]) hx
    have nDx : Dr ≠ x := ne_of_none hDr2 hx
    have nDa : Dr ≠ a := fun e => by rw [← e, gDr2] at ga2; cases ga2
    obtain ⟨l3, xs3, l4, el4, hxs3, xl3, zl3, W6, e1, e2⟩ := W5.ins ea (l1 := .dO wDo .nil) (x := x) (c := 2) ⟨x, [], rfl, gset_same, upd_same, rfl⟩ ⟨nm_kw.2.2.1, trivial⟩ (by show 0 < D; omega) (Nat.le_refl _) 0
    rw [el2] at el4
    injection el4 with el4
    subst el4
    refine ⟨a, rf xs3, 0, .ref x, rfl, rfl, hxs3, (by rw [rf_len]; exact szl (by omega)), by decide, by decide, ?_⟩
    have e0 : (rf xs3).take (0 : Int).toNat ++ [V.ref x] ++ (rf xs3).drop (0 : Int).toNat = rf (xs3.take 0 ++ [x] ++ xs3.drop 0) := rf_ins
    rw [e0]
    have t1 : things l4 = things l' + 1 := e2
    refine ⟨17 - things l4, by omega, gset g' x 3, ls'.set k l4, l4, c + 1, rfl, W6.up (Nat.le_refl _) (by omega), by rw [upd_ne nDa, upd_ne nDx]; exact hDr2, by rw [gset_ne nDx]; exact gDr2, ?_, rfl, by omega, .inr (by omega)⟩
    have klen : k < ls'.length := (List.getElem?_eq_some_iff.mp el2).1
    rw [List.getElem?_set_self klen]
  · refine ⟨_, rfl, rfl, _, rfl, ifF (nv (by omega)) ?_⟩
    refine ⟨_, rfl, rfl, _, rfl, ifF (nv (by omega)) ?_⟩
    refine ⟨_, rfl, rfl, _, rfl, ifF (nv (by omega)) ?_⟩
    refine ⟨_, rfl, rfl, _, rfl, ifF (nv (by omega)) ?_⟩
    refine ⟨_, rfl, rfl, _, rfl, ifF (nv (by omega)) (ifF rfl ?_)⟩
    refine ⟨_, rfl, rfl, _, rfl, ifF (nv (by omega)) (ifF rfl ?_)⟩
    refine ⟨_, rfl, rfl, _, rfl, ifF (nv (by omega)) ?_⟩
    refine ⟨_, rfl, rfl, _, rfl, ifF (nv (by omega)) ?_⟩
    refine ⟨_, rfl, rfl, _, rfl, ifT (yv q0) ?_⟩
    have m4 := dm4 2 (by decide)
    refine ⟨fun m σ H' => ∃ (g' : Addr → Nat) (ns' : List Str) (as' : List Addr) (ls' : List L) (c : Nat), σ = [some (.ref A), some (.ref B), some (.ref Dr), some (.int (d0 % 9)), some (.int (d1 % ((rf as).length : Int))), some (.ref p), some (.ref q), some (.int lo), some (.int (d3 % (((rf qs).length : Int) + 1))), none] ∧ WS H0 H' g' A B ns' as' ls' D (Z + 2 * c) ∧ H' Dr = some (.lst [.int d0, .int d1, .int d2, .int d3, .int d4]) ∧ g' Dr = 9 ∧ m = 6 - as'.length ∧ as'.length ≤ 5 ∧ c ≤ as'.length, ⟨_, g, ns, as, ls, 0, rfl, W1, hDr1, gDr, rfl, l5, Nat.zero_le _⟩, ?_⟩
    rintro m σ H' ⟨g', ns', as', ls', c, rfl, W2, hDr2, gDr2, rfl, l5', hc⟩
    have al2 := W2.l1
    have nl2 := W2.len
    have erl := rf_len as'
    refine ⟨_, rfl, B, _, rfl, .inl (SqL.of W2.hB), ?_⟩
    refine ixv 4 rfl hDr2 rfl ⟨_, _, rfl, rfl, (by first | (show (0 : Int) < 2; decide) | (show (0 : Int) < 3; decide)), _, _, rfl, rfl, _, _, rfl, rfl, _, rfl, ?_⟩
    by_cases c2 : (((rf as').length : Nat) : Int) < 4 + d4 % 2
    rotate_left
    · refine ifF (decide_eq_false c2) ?_
      refine ⟨_, rfl, rfl, _, rfl, ifF (nv (by omega)) ?_⟩
      exact cont _ _ _ _ _ (W2.up (Nat.le_succ _) (by omega)) l5'
    refine ifT (decide_eq_true c2) ⟨_, fun _ _ h => h, ?_⟩
    have hn0 : ∃ n0 nr, ns' = n0 :: nr := by
      cases ns' with
      | nil => rw [List.length_nil] at nl2; omega
      | cons n0 nr => exact ⟨n0, nr, rfl⟩
    obtain ⟨n0, nr, en⟩ := hn0
    have hn0 : Nm n0 := W2.nm n0 (by rw [en]; exact List.mem_cons_self ..)
    have ha0 : ∃ a0 ar, as' = a0 :: ar := by
      cases as' with
      | nil => rw [List.length_nil] at al2; omega
      | cons a0 ar => exact ⟨a0, ar, rfl⟩
    obtain ⟨a0, ar, ea0⟩ := ha0
    obtain ⟨ch, ech, hch⟩ := bcd_at (i := as'.length) (by omega)
    have zz := nm_cut hn0
    have nnew := nm_pre zz hch
    have eA0 : atI (sS ns') ((0 : Nat) : Int) = some (.str n0) := atI_nat (by rw [en]; rfl)
    refine ⟨_, rfl, .inl ⟨rfl, _, SqL.of W2.hA⟩, ?_⟩
    refine ⟨_, rfl, B, _, rfl, .inl (SqL.of W2.hB), "abcde", _, _, rfl, rfl, (by decide), by rw [rf_len]; exact ech, ?_⟩
    refine ⟨_, rfl, A, _, _, .str n0, rfl, rfl, SqL.of W2.hA, eA0, ?_⟩
    refine ⟨_, rfl, n0, rfl, Nat.le_trans hn0.2.1 (by decide), _, _, rfl, rfl, ?_, ?_⟩
    · show 1 + (cutS n0 none (some 7)).cps.size ≤ sizeLine
      exact Nat.le_trans (Nat.add_le_add_left zz.1 1) (by decide)
    refine ⟨A, _, _, rfl, rfl, W2.hA, (by rw [sS_len]; exact szl (by omega)), ?_⟩
    have e3 : sS ns' ++ [V.str ((⟨#[ch]⟩ : Str) ++ cutS n0 none (some 7))] = sS (ns' ++ [(⟨#[ch]⟩ : Str) ++ cutS n0 none (some 7)]) := by rw [sS_app] <;> rfl
    rw [e3]
    obtain ⟨J1, eJ1⟩ : ∃ J1, J1 = upd H' A (.lst (sS (ns' ++ [(⟨#[ch]⟩ : Str) ++ cutS n0 none (some 7)]))) := ⟨_, rfl⟩
    rw [← eJ1]
    have hB1 : J1 B = some (.lst (rf as')) := by rw [eJ1, upd_ne W2.AB.symm]; exact W2.hB
    refine ⟨_, rfl, .inl ⟨rfl, _, SqL.of hB1⟩, (by show 2 ≤ sizeLine; decide), fun y hy => ⟨(by show 1 ≤ sizeLine; decide), fun b hb => ?_⟩⟩
    have s13 := (same_new hy (.lst [.str wDo, .str wEnd])).trans (same_new hb (.lst [.ref y]))
    have hD1 : J1 Dr = some (.lst [.int d0, .int d1, .int d2, .int d3, .int d4]) := by rw [eJ1, upd_ne nAD.symm]; exact hDr2
    have hD3 := s13 _ _ hD1
    refine ⟨B, _, _, rfl, rfl, s13 _ _ hB1, (by rw [rf_len]; exact szl (by omega)), ?_⟩
    have e4 : rf as' ++ [V.ref b] = rf (as' ++ [b]) := by rw [rf_app] <;> rfl
    rw [e4]
    have W3 := W2.part nnew eJ1 hy rfl hb rfl (by omega) (by omega)
    have nDb : Dr ≠ b := ne_of_none (same_new hy (.lst [.str wDo, .str wEnd]) _ _ hD1) hb
    have nDy : Dr ≠ y := ne_of_none hD1 hy
    have gD3 : gset (gset g' y 3) b 0 Dr = 9 := by rw [gset_ne nDb, gset_ne nDy]; exact gDr2
    have hD4 : upd (upd (upd J1 y (.lst [.str wDo, .str wEnd])) b (.lst [.ref y])) B (.lst (rf (as' ++ [b]))) Dr = some (.lst [.int d0, .int d1, .int d2, .int d3, .int d4]) := by rw [upd_ne nBD.symm]; exact hD3
    have ea3 : (as' ++ [b])[0]? = some a0 := by rw [ea0]; rfl
    obtain ⟨l6, xs6, el6, ga6, hxs6, _, _, _, hz6, xl6⟩ := W3.at_ ea3
    have erl2 : (rf (as' ++ [b])).length = as'.length + 1 := by rw [rf_len, List.length_append] <;> rfl
    refine ⟨_, rfl, B, _, _, .ref a0, rfl, rfl, SqL.of W3.hB, (show atI _ ((0 : Nat) : Int) = _ from atI_nat (by rw [ea0]; rfl)), .inl ⟨rfl, _, SqL.of hxs6⟩, _, rfl, B, _, rfl, .inl (SqL.of W3.hB), _, _, rfl, rfl, (by show 2 ≤ sizeLine; decide), fun x hx => ?_⟩
    have e7 : V.int (((rf (as' ++ [b])).length : Int) - 1) = Cl.v (.ix as'.length) := by
      show _ = V.int ((as'.length : Nat) : Int)
      rw [erl2]
      congr 1
      omega
    have W5 := W3.new (k := 3) (o := .lst [.str wCall, V.int (((rf (as' ++ [b])).length : Int) - 1)]) hx
    have nDx : Dr ≠ x := ne_of_none hD4 hx
    have nDa : Dr ≠ a0 := fun e => by rw [← e, gD3] at ga6; cases ga6
    obtain ⟨l3, xs3, l4, el4, hxs3, xl3, zl3, W6, e1, e2⟩ := W5.ins ea3 (l1 := .ca (.ix as'.length) .nil) (x := x) (c := 2) ⟨x, [], rfl, gset_same, by rw [← e7]; exact upd_same, rfl⟩ ⟨(by show as'.length < _; rw [List.length_append]; show _ < _ + 1; omega), trivial⟩ (by show 0 < D; omega) (Nat.le_refl _) 0
    refine ⟨a0, rf xs3, 0, .ref x, rfl, rfl, hxs3, (by rw [rf_len]; exact szl (by omega)), by decide, by decide, ?_⟩
    have e0 : (rf xs3).take (0 : Int).toNat ++ [V.ref x] ++ (rf xs3).drop (0 : Int).toNat = rf (xs3.take 0 ++ [x] ++ xs3.drop 0) := rf_ins
    rw [e0]
    have al3 : (as' ++ [b]).length = as'.length + 1 := by rw [List.length_append] <;> rfl
    refine ⟨6 - (as' ++ [b]).length, by omega, _, _, as' ++ [b], _, c + 1, rfl, W6.up (Nat.le_refl _) (by omega), by rw [upd_ne nDa, upd_ne nDx]; exact hD4, by rw [gset_ne nDx]; exact gD3, rfl, by omega, by omega⟩
  · refine ⟨_, rfl, rfl, _, rfl, ifF (nv (by omega)) ?_⟩
    refine ⟨_, rfl, rfl, _, rfl, ifF (nv (by omega)) ?_⟩
    refine ⟨_, rfl, rfl, _, rfl, ifF (nv (by omega)) ?_⟩
    refine ⟨_, rfl, rfl, _, rfl, ifF (nv (by omega)) ?_⟩
    refine ⟨_, rfl, rfl, _, rfl, ifF (nv (by omega)) (ifF rfl ?_)⟩
    refine ⟨_, rfl, rfl, _, rfl, ifF (nv (by omega)) (ifF rfl ?_)⟩
    refine ⟨_, rfl, rfl, _, rfl, ifF (nv (by omega)) ?_⟩
    refine ⟨_, rfl, rfl, _, rfl, ifF (nv (by omega)) ?_⟩
    refine ⟨_, rfl, rfl, _, rfl, ifF (nv (by omega)) ?_⟩
    refine ⟨_, rfl, rfl, _, rfl, ifT (yv q0) ?_⟩
    refine ⟨_, rfl, .inl ⟨rfl, _, SqL.of hq⟩, _, rfl, ?_⟩
    refine ⟨(by show 1 ≤ sizeLine; decide), fun y1 hy1 => ⟨(by show 1 ≤ sizeLine; decide), fun p1 hp1 => ⟨(by show 1 ≤ sizeLine; decide), fun y2 hy2 => ⟨(by show 1 ≤ sizeLine; decide), fun p2 hp2 => ⟨(by show 4 ≤ sizeLine; decide), fun x hx => ?_⟩⟩⟩⟩⟩
    have V1 := W1.new (k := 3) (o := .lst [.str wBack]) hy1
    have V2 := V1.new (k := kd (decide (0 < lo))) (o := .lst [.ref y1]) hp1
    have V3 := V2.new (k := 3) (o := .lst [.str wBack]) hy2
    have V4 := V3.new (k := kd (decide (0 < lo))) (o := .lst [.ref y2]) hp2
    have V5 := V4.new (k := 3) (o := .lst [.str wIf, .str wIf, .ref p1, .ref p2]) hx
    have G5 := ((((G.new (k := 3) (o := .lst [.str wBack]) hy1).new (k := kd (decide (0 < lo))) (o := .lst [.ref y1]) hp1).new (k := 3) (o := .lst [.str wBack]) hy2).new (k := kd (decide (0 < lo))) (o := .lst [.ref y2]) hp2).new (k := 3) (o := .lst [.str wIf, .str wIf, .ref p1, .ref p2]) hx
    have s1' := same_new hy1 (.lst [.str wBack])
    have s2' := same_new hp1 (.lst [.ref y1])
    have s3' := same_new hy2 (.lst [.str wBack])
    have s4' := same_new hp2 (.lst [.ref y2])
    have s5' := same_new hx (.lst [.str wIf, .str wIf, .ref p1, .ref p2])
    have by1 := s5' _ _ (s4' _ _ (s3' _ _ (s2' _ _ (upd_same (a := y1)))))
    have bp1 := s5' _ _ (s4' _ _ (s3' _ _ (upd_same (a := p1))))
    have by2 := s5' _ _ (s4' _ _ (upd_same (a := y2)))
    have bp2 := s5' _ _ (upd_same (a := p2))
    have n1 : y1 ≠ p1 := ne_of_none upd_same hp1
    have n2 : y1 ≠ y2 := ne_of_none (s2' _ _ (upd_same (a := y1))) hy2
    have n3 : y1 ≠ p2 := ne_of_none (s3' _ _ (s2' _ _ (upd_same (a := y1)))) hp2
    have n4 : y1 ≠ x := ne_of_none (s4' _ _ (s3' _ _ (s2' _ _ (upd_same (a := y1))))) hx
    have n5 : p1 ≠ y2 := ne_of_none upd_same hy2
    have n6 : p1 ≠ p2 := ne_of_none (s3' _ _ (upd_same (a := p1))) hp2
    have n7 : p1 ≠ x := ne_of_none (s4' _ _ (s3' _ _ (upd_same (a := p1)))) hx
    have n8 : y2 ≠ p2 := ne_of_none upd_same hp2
    have n9 : y2 ≠ x := ne_of_none (s4' _ _ (upd_same (a := y2))) hx
    have n10 : p2 ≠ x := ne_of_none upd_same hx
    have q1 : q ≠ y1 := ne_of_none hq hy1
    have q2 : q ≠ p1 := ne_of_none (s1' _ _ hq) hp1
    have q3 : q ≠ y2 := ne_of_none (s2' _ _ (s1' _ _ hq)) hy2
    have q4 : q ≠ p2 := ne_of_none (s3' _ _ (s2' _ _ (s1' _ _ hq))) hp2
    have q5 : q ≠ x := ne_of_none (s4' _ _ (s3' _ _ (s2' _ _ (s1' _ _ hq)))) hx
    have hq5 := s5' _ _ (s4' _ _ (s3' _ _ (s2' _ _ (s1' _ _ hq))))
    have uu : ∀ H6 : Hp, (∀ b u, b ≠ q → upd (upd (upd (upd (upd H1 y1 (.lst [.str wBack])) p1 (.lst [.ref y1])) y2 (.lst [.str wBack])) p2 (.lst [.ref y2])) x (.lst [.str wIf, .str wIf, .ref p1, .ref p2]) b = some u → H6 b = some u) → UL (gset (gset (gset (gset (gset g y1 3) p1 (kd (decide (0 < lo)))) y2 3) p2 (kd (decide (0 < lo)))) x 3) H6 (.fi wIf (.bk .nil) (.bk .nil) .nil) (decide (0 < lo)) [x] := fun H6 k6 =>
      ⟨x, [], p1, p2, [y1], [y2], rfl, gset_same, k6 _ _ q5.symm upd_same, by rw [gset_ne n7, gset_ne n6, gset_ne n5]; exact gset_same, k6 _ _ q2.symm bp1,
        ⟨y1, [], rfl, by rw [gset_ne n4, gset_ne n3, gset_ne n2, gset_ne n1]; exact gset_same, k6 _ _ q1.symm by1, rfl⟩, by rw [gset_ne n10]; exact gset_same, k6 _ _ q4.symm bp2,
        ⟨y2, [], rfl, by rw [gset_ne n9, gset_ne n8]; exact gset_same, k6 _ _ q3.symm by2, rfl⟩, rfl⟩
    refine ⟨q, rf qs, _, .ref x, rfl, rfl, hq5, qat, at0, by omega, ?_⟩
    obtain ⟨ls', W5⟩ := putf (H2 := H) V5 G5 (uu _ fun b u _ h => h) (fun o => uu _ fun b u n h => by rw [upd_ne n]; exact h) ⟨nm_kw.2.2.2.2.1, trivial, trivial, trivial⟩ (by show max (max 0 0 + 1) 0 ≤ 1; decide) (by decide) (d3 % (((rf qs).length : Int) + 1)).toNat hq5
    exact cont _ _ _ _ _ W5 l5
end
end Fc

set_option Elab.async false
set_option linter.all false
set_option maxRecDepth 100000
set_option maxHeartbeats 4000000
namespace Fc
open PySem PySem.Spec PyProof.Rows L2 He
/-! how long the notes are -/
theorem rds_len {ws : List Str} {k : Nat} {op : List Str} {st : List Step} (h : Rds ws k op st) : k + st.length ≤ ws.length := by
  induction h with
  | done => exact Nat.le_refl _
  | more t _ ih =>
    obtain ⟨_, h2, _⟩ := t.lt
    rw [List.length_cons]
    omega
theorem new_sm : Sx.new.Sm 3 := by
  refine ⟨?_, ?_, ?_, ?_⟩ <;> decide
theorem drs_sm {ds out : List Dr} {st : List Step} (h : Drs ds st out) : ∀ {m : Nat}, 3 ≤ m → (∀ d ∈ ds, d.S.Sm m) → ∀ d ∈ out, d.S.Sm (m + 4 * st.length) := by
  induction h with
  | nil =>
    intro m _ hd d h
    exact (hd d h).mono (by omega)
  | part _ ih =>
    intro m hm hd d h
    refine (ih (m := m + 4) (by omega) (fun d' h' => ?_) d h).mono (by rw [List.length_cons]; omega)
    rcases List.mem_append.mp h' with h' | h'
    · exact (hd d' h').mono (by omega)
    · rw [List.mem_singleton.mp h']
      exact new_sm.mono (by omega)
  | take t _ ih =>
    intro m hm hd d h
    refine (ih (m := m + 4) (by omega) (fun d' h' => ?_) d h).mono (by rw [List.length_cons]; omega)
    rcases List.mem_append.mp h' with h' | h'
    · exact (hd d' (List.mem_append_left _ h')).mono (by omega)
    · rw [List.mem_singleton.mp h']
      exact t.sm (hd _ (List.mem_append_right _ (List.mem_singleton.mpr rfl)))
theorem mk_len (a : Bool) (k : Nat) : (mk a k).length ≤ 1 := by
  cases a
  · exact Nat.le_refl _
  · exact Nat.zero_le _
theorem ded_len : ∀ (l : L) (k : Nat) (a : Bool), (ded l k a).length ≤ wl l := by
  intro l
  induction l with
  | nil => intro k a; exact Nat.zero_le _
  | lv r ih =>
    intro k a
    have h1 := mk_len a k
    have h2 := ih (k + 1) false
    simp only [ded, List.length_append, wl]
    omega
  | bk r ih =>
    intro k a
    have h1 := mk_len a k
    have h2 := ih (k + 1) false
    simp only [ded, List.length_append, wl]
    omega
  | dO n r ih =>
    intro k a
    have h1 := mk_len a k
    have h2 := ih (k + 2) a
    simp only [ded, List.length_append, wl]
    omega
  | ca c r ih =>
    intro k a
    have h1 := mk_len a k
    have h2 := ih (k + 2) a
    simp only [ded, List.length_append, wl]
    omega
  | fi n x y r ihx ihy ih =>
    intro k a
    have h1 := mk_len a k
    have h2 := ihx (k + 2) a
    have h3 := ihy (k + 3 + wl x) a
    have h4 := ih (k + 4 + wl x + wl y) (alv x a || alv y a)
    simp only [ded, List.length_append, wl]
    omega
  | wh n x r ihx ih =>
    intro k a
    have h1 := mk_len a k
    have h2 := ihx (k + 2) a
    have h4 := ih (k + 3 + wl x) a
    simp only [ded, List.length_append, wl]
    omega
theorem flat1 {α β : Type} (f : α → List β) (h : ∀ a, (f a).length ≤ 1) : ∀ l : List α, (l.flatMap f).length ≤ l.length
  | [] => Nat.zero_le _
  | x :: l => by
    rw [List.flatMap_cons, List.length_append, List.length_cons]
    have h1 := h x
    have h2 := flat1 f h l
    omega
theorem ite1 {α : Type} (c : Prop) [Decidable c] (x : α) : (if c then [x] else []).length ≤ 1 := by
  by_cases h : c
  · rw [if_pos h]; exact Nat.le_refl _
  · rw [if_neg h]; exact Nat.zero_le _
theorem pf1_len {ns called : List Str} {i : Nat} {p : Str × L} {k : Nat} {d : Dr} (h : PartOk ns p k d) : (pf1 ns called i d).length ≤ 2 * pwl p.2 := by
  unfold pf1
  rw [h.dead, h.cas]
  have h1 := ded_len p.2 (k + 2) true
  have h2 := cas_len ns p.2 (k + 2)
  have h3 := flat1 (fun c : Str × Nat => if c.1 ∈ ns.drop (i + 1) then [] else [c.2 + 1]) (fun c => by
    by_cases q : c.1 ∈ ns.drop (i + 1)
    · rw [if_pos q]; exact Nat.zero_le _
    · rw [if_neg q]; exact Nat.le_refl _) (cas ns p.2 (k + 2))
  have h4 := ite1 (d.n ∈ ns.take i ∨ (0 < i ∧ d.n ∉ called) ∨ 4 ≤ i) (d.k + 1)
  have h5 := ite1 (d.S.rep 0 = d.S.rep 1 ∨ (d.S.whole = true ∧ 16 < d.S.cc)) (d.k + 1)
  have e : pwl p.2 = wl p.2 + 3 := by
    unfold pwl
    omega
  simp only [List.length_append]
  omega
theorem pfs_len {ns called : List Str} : ∀ {ps : List (Str × L)} {k : Nat} {ds : List Dr} (i : Nat), PartsOk ns ps k ds → (pfs ns called ds i).length ≤ 2 * pl ps
  | _, _, _, _, .nil => Nat.zero_le _
  | _, _, _, i, .cons h t => by
    have h1 := pf1_len (called := called) (i := i) h
    have h2 := pfs_len (called := called) (i + 1) t
    rw [pl_cons]
    show (pf1 ns called i _ ++ pfs ns called _ (i + 1)).length ≤ _
    rw [List.length_append]
    omega
theorem rtm_len : ∀ (st : List Step) (m : Nat), (rtm st m).length ≤ 1
  | [], _ => Nat.zero_le _
  | s :: r, m => by
    unfold rtm
    by_cases h : 30 < m + wt s.w
    · rw [if_pos h]; exact Nat.le_refl _
    · rw [if_neg h]; exact rtm_len r _
theorem proF_len {ns called : List Str} {st : List Step} {ps : List (Str × L)} {k : Nat} {ds : List Dr} (h : PartsOk ns ps k ds) : (proF ns called st ds).length ≤ 1 + 2 * pl ps := by
  unfold proF
  rw [List.length_append]
  exact Nat.add_le_add (rtm_len _ _) (pfs_len 0 h)
theorem parts_ok {ns : List Str} : ∀ {ps : List (Str × L)} {k : Nat} {ds : List Dr}, PartsOk ns ps k ds → (∀ d ∈ ds, d.S.Ok ∧ d.S.Cov) ∧ fNames ds = ps.map (·.1)
  | _, _, _, .nil => ⟨(fun _ h => nomatch h), rfl⟩
  | _, _, _, .cons h t => by
    obtain ⟨h1, h2⟩ := parts_ok t
    refine ⟨fun d hd => ?_, ?_⟩
    · rcases List.mem_cons.mp hd with rfl | hd
      · exact ⟨h.ok, h.cov⟩
      · exact h1 d hd
    · show _ :: fNames _ = _ :: _
      exact congr (congrArg List.cons h.en) h2
theorem least : ∀ {l : List Nat}, l ≠ [] → ∃ m ∈ l, ∀ y ∈ l, m ≤ y
  | [], h => absurd rfl h
  | [x], _ => ⟨x, List.mem_singleton.mpr rfl, fun y hy => by rw [List.mem_singleton.mp hy]; exact Nat.le_refl _⟩
  | x :: y :: r, _ => by
    obtain ⟨m, hm, h⟩ := least (l := y :: r) (by simp)
    by_cases q : x ≤ m
    · refine ⟨x, List.mem_cons_self .., fun z hz => ?_⟩
      rcases List.mem_cons.mp hz with rfl | hz
      · exact Nat.le_refl _
      · exact Nat.le_trans q (h z hz)
    · refine ⟨m, List.mem_cons_of_mem _ hm, fun z hz => ?_⟩
      rcases List.mem_cons.mp hz with rfl | hz
      · omega
      · exact h z hz
section
variable {H0 H : Hp} {g : Addr → Nat} {A B : Addr} {ns : List Str} {as : List Addr} {ls : List L} {D Z : Nat}
theorem WS.fresh (W : WS H0 H g A B ns as ls D Z) {x : Addr} {H3 : Hp} {k : Nat} (hx : H x = none) (s : Same H H3) : WS H0 H3 (gset g x k) A B ns as ls D Z := by
  have kp : Kp g H (gset g x k) H3 := fun b u hb e => ⟨s _ _ e, gset_ne (ne_of_none e hx)⟩
  refine ⟨W.same.trans s, fun b u q => ?_, s _ _ W.hA, W.A0, ?_, s _ _ W.hB, W.B0, ?_, W.AB, W.nm, W.len, W.l1, W.nd, Paired.imp (fun a l r => ?_) W.rt⟩
  · rw [gset_ne (ne_of_none (W.same _ _ q) hx)]
    exact W.g9 b u q
  · rw [gset_ne (ne_of_none W.hA hx)]
    exact W.gA
  · rw [gset_ne (ne_of_none W.hB hx)]
    exact W.gB
  · obtain ⟨r1, ⟨xs, r2, r3⟩, r4⟩ := r
    exact ⟨by rw [gset_ne (ne_of_none r2 hx)]; exact r1, ⟨xs, s _ _ r2, r3.mono kp⟩, r4⟩
theorem WS.wf (W : WS H0 H g A B ns as ls D Z) : ∀ p ∈ ns.zip ls, Nm p.1 ∧ Wf ns.length p.2 false := by
  intro p hp
  refine ⟨W.nm _ (List.of_mem_zip hp).1, ?_⟩
  have h2 := (List.of_mem_zip hp).2
  obtain ⟨j, hj⟩ := List.getElem?_of_mem h2
  have jl : j < as.length := by
    rw [Paired.len W.rt]
    exact (List.getElem?_eq_some_iff.mp hj).1
  obtain ⟨l, xs, el, _, _, _, wf, _⟩ := W.at_ (List.getElem?_eq_getElem jl)
  rw [hj] at el
  cases el
  exact wf
theorem pl_le {c : Nat} : ∀ {ps : List (Str × L)}, (∀ p ∈ ps, pwl p.2 ≤ c) → pl ps ≤ ps.length * c
  | [], _ => by show 0 ≤ _; omega
  | p :: r, h => by
    rw [pl_cons, List.length_cons, Nat.succ_mul]
    have h1 := h p (List.mem_cons_self ..)
    have h2 := pl_le (c := c) (ps := r) fun q hq => h q (List.mem_cons_of_mem _ hq)
    omega
theorem WS.pl (W : WS H0 H g A B ns as ls D Z) : pl (ns.zip ls) ≤ as.length * (Z + 3) := by
  have h := pl_le (c := Z + 3) (ps := ns.zip ls) fun p hp => by
    have h2 := (List.of_mem_zip hp).2
    obtain ⟨j, hj⟩ := List.getElem?_of_mem h2
    have jl : j < as.length := by
      rw [Paired.len W.rt]
      exact (List.getElem?_eq_some_iff.mp hj).1
    obtain ⟨l, xs, el, _, _, _, wf, _, hz, _⟩ := W.at_ (List.getElem?_eq_getElem jl)
    rw [hj] at el
    cases el
    unfold pwl
    omega
  have e : (ns.zip ls).length = as.length := by
    rw [List.length_zip, W.len, ← Paired.len W.rt, Nat.min_self]
  rw [e] at h
  exact h
theorem WS.plain (W : WS H0 H g A B ns as ls D Z) (hZ : Z ≤ 17000) (l5 : as.length ≤ 5) : ∃ (st : List Step) (out : List Dr), (Txt.join " " (pwds ns (ns.zip ls))).length + 2 ≤ sizeLine ∧ Txt.split (Txt.join " " (pwds ns (ns.zip ls))) " " = pwds ns (ns.zip ls) ∧ (pwds ns (ns.zip ls)).length < 1000000 ∧ Rds (pwds ns (ns.zip ls)) 0 [] st ∧ Drs [] st out ∧ (∀ d ∈ out, d.S.Ok ∧ d.S.Cov ∧ d.S.rows.length < 1000000) ∧ (proF (fNames out) (fCalled st) st out).length < 1000000 ∧ Fc.pl (ns.zip ls) < 200000 ∧
    ∀ x, x ∈ proF (fNames out) (fCalled st) st out ↔ x ∈ lawF ns (ns.zip ls) := by
  have hp : Fc.pl (ns.zip ls) ≤ 85015 := Nat.le_trans W.pl (by
    have h := Nat.mul_le_mul l5 (show Z + 3 ≤ 17003 by omega)
    omega)
  have wl_ := pwds_len ns (ns.zip ls)
  have wlt : (pwds ns (ns.zip ls)).length < 1000000 := by omega
  have wne : pwds ns (ns.zip ls) ≠ [] := by
    have l1 := W.l1
    have h1 := W.len
    have h2 := Paired.len W.rt
    cases ns with
    | nil => rw [List.length_nil] at h1; omega
    | cons n nr =>
      cases ls with
      | nil => rw [List.length_nil] at h2; omega
      | cons l lr =>
        show pwds (n :: nr) ((n, l) :: nr.zip lr) ≠ []
        simp [pwds]
  obtain ⟨t1, t2⟩ := text_back (pwds_nm W.nm W.wf) wne wlt
  have rd : Rds (pwds ns (ns.zip ls)) 0 [] (pstp ns (ns.zip ls) 0) := rds_prog (m := ns.length) (pre := []) rfl W.nm (ns.zip ls) _ W.wf rfl
  obtain ⟨out, dr, po⟩ := drs_prog (ns := ns) (m := ns.length) (ns.zip ls) 0 [] fun p hp => (W.wf p hp).2
  have sl := rds_len rd
  obtain ⟨p1, p2⟩ := parts_ok po
  rw [zip_fst (W.len.trans (Paired.len W.rt))] at p2
  have dr2 : Drs [] (pstp ns (ns.zip ls) 0) out := dr
  have sm := drs_sm dr2 (m := 3) (Nat.le_refl _) (fun _ h => nomatch h)
  have pf : (proF ns (fCalled (pstp ns (ns.zip ls) 0)) (pstp ns (ns.zip ls) 0) out).length ≤ _ := proF_len po
  refine ⟨_, out, t1, t2, wlt, rd, dr2, fun d hd => ⟨(p1 d hd).1, (p1 d hd).2, ?_⟩, ?_, by omega, fun x => ?_⟩
  · have h := (sm d hd).2.1
    omega
  · rw [p2]
    omega
  · rw [p2]
    exact same_faults po x
end
end Fc

set_option Elab.async false
set_option linter.all false
set_option maxRecDepth 100000
set_option maxHeartbeats 4000000
namespace Fc
open PySem PySem.Spec PyProof.Rows L2 He
/-! the law -/
def zf : Nat → Nat
  | 0 => 200
  | n + 1 => 4 * zf n + 200
theorem zf_le {i : Nat} (h : i ≤ 3) : 200 ≤ zf i ∧ zf i ≤ 17000 := by
  have c : i = 0 ∨ i = 1 ∨ i = 2 ∨ i = 3 := by omega
  rcases c with rfl | rfl | rfl | rfl <;> decide
theorem passE {P : Program} {w : World} {X : Cx} : Passes (L2.CX P w) X L2.E0 := fun _ _ _ _ _ _ _ ⟨_, _, _, _, _, _, _, _, _, _, _, _, hE⟩ => hE.elim
def spLaw (K : PySem.W.Frag) : L2.Sp := fun vs H Q _ => ∃ (S : Addr) (zs : List Int), vs = [.ref S] ∧ SqL K H S (zs.map V.int) ∧ ∀ H', Q (.bl true) H'
section
variable {P : Program} {w : World} {K : PySem.W.Frag} {mg : Str → Option Value} {base : Heap}
theorem sc_law : FnScope ["_law_script", "_law_names", "_law_lists", "_law_k", "_law_j", "_law_due", "_law_caught_here"] ["_law_script"] (defScope (top 58)) := ⟨rfl, rfl, rfl, by decide +kernel, rfl, by decide +kernel, by decide +kernel⟩
theorem ok_law (T : Txt K mg) {fd : FuncData} (F : FnP K "law" "law" (top 58) (ga K "law") fd) : FnOk P w K mg base CX0 26 (ga K "law") fd ["_law_script"] (spLaw K) := by
  have C_drawn : Cal P w K mg base CX0 25 "_law_drawn" ["_law_script", "_law_start"] (spDrawnL K) := c_drawn T
  have C_mixed : Cal P w K mg base CX0 1 "_law_mixed" ["_law_script", "_law_k"] (spMixed K) := c_mixed T
  have C_bent : Cal P w K mg base CX0 15 "_law_bent" ["_law_names", "_law_lists", "_law_draws"] (spBent K) := c_bent T
  have C_faults : Cal P w K mg base CX0 15 "_law_faults" ["_law_names", "_law_lists"] (spLF K) := c_lfaults T
  have C_text : Cal P w K mg base CX0 15 "_law_text" ["_law_names", "_law_lists"] (spText K) := c_text T
  have C_caught := c_caught (P := P) (w := w) (base := base) T
  have C_class := c_class (P := P) (w := w) (base := base) T
  have C_whole := c_whole (P := P) (w := w) (base := base) T
  have C_looked := c_looked (P := P) (w := w) (base := base) T
  refine fn0 F sc_law (fun vs H Q E h => ?_) (fun cdv A outer s H vs Q E hr h => ?_)
  · obtain ⟨_, _, rfl, _⟩ := h
    rfl
  obtain ⟨S, zs, rfl, hS, cont⟩ := h
  refine ⟨_, (pss_cons (ps_asg (pcall C_drawn (hr.mono (by decide)) rfl pass0 (pa_cons (pv 0) (pa_cons pe_int pa_nil))) (pg_tup rfl (pgs_cons (pg_name (i := 1) sc_law.nd rfl (.inl rfl)) (pgs_cons (pg_name (i := 2) sc_law.nd rfl (.inl rfl)) pgs_nil))))
    (pss_cons (ps_for PassesOwn.never rfl (pi_range1 (by rfl) T.z_range (pa_cons (pe_op op_mod (pcall C_mixed (hr.mono (by decide)) rfl pass0 (pa_cons (pv 0) (pa_cons pe_int pa_nil))) pe_int) pa_nil)) (pg_name (i := 3) sc_law.nd rfl (.inr rfl))
      (pss_one (ps_expr (pcall C_bent (hr.mono (by decide)) rfl pass0 (pa_cons (pv 1) (pa_cons (pv 2) (pa_cons (pe_lc (own := [("_law_j", 4)]) (g := (gName 4)) (tt := tYes) (te := tCall (spMixed K) [] L2.E0 (tCons (tVar 0) (tCons (tOp (rI0 fun i j => .int (i + j)) (tOp (rI0 fun i j => .int (i + j)) (tC (.int 251)) (tOp (rI CMul fun i j => .int (i * j)) (tC (.int 5)) (tVar 3))) (tVar 4)) tNil))) rfl sc_law.nd (pi_range1 (by rfl) T.z_range (pa_cons pe_int pa_nil)) (blkOk_by (own := [("_law_j", 4)]) (N := ["_law_script", "_law_names", "_law_lists", "_law_k", "_law_j", "_law_due", "_law_caught_here"]) (sc := defScope (top 58)) (by decide +kernel)) (fun _ _ _ _ _ => (pg_name (i := 4) sc_law.nd rfl (.inl rfl))) (fun _ _ _ _ _ => pts_nil) (fun _ _ _ _ _ => (pcall C_mixed (hr.mono (by decide)) rfl pass0 (pa_cons (pv 0) (pa_cons (pe_op op_add (pe_op op_add pe_int (pe_op op_mul pe_int (pv 3))) (pv 4)) pa_nil))))) pa_nil)))))))
    (pss_cons (ps_set (i := 5) sc_law.nd rfl (.inl rfl) (pcall C_faults (hr.mono (by decide)) rfl pass0 (pa_cons (pv 1) (pa_cons (pv 2) pa_nil))))
    (pss_cons (ps_set (i := 6) sc_law.nd rfl (.inl rfl) (pcall C_caught (hr.mono (by decide)) rfl pass0 (pa_cons (pcall C_text (hr.mono (by decide)) rfl pass0 (pa_cons (pv 1) (pa_cons (pv 2) pa_nil))) pa_nil)))
    (pss_cons (ps_if (pt_cmpR op_isN (pv 5) pe_non (by rfl))
      (pss_one (ps_ret (pe_and (pe_cmpR op_eq (pcall C_class (hr.mono (by decide)) rfl pass0 (pa_cons (pv 6) pa_nil)) (pe_un un_neg pe_int) (by rfl)) (pe_one (pe_cmpR op_isN (pcall C_looked (hr.mono (by decide)) rfl passE (pa_cons (pcall C_text (hr.mono (by decide)) rfl pass0 (pa_cons (pv 1) (pa_cons (pv 2) pa_nil))) pa_nil)) pe_non (by rfl))))))
      pss_nil)
    (pss_one (ps_ret (pe_and (pe_cmpR op_eq (pcall C_class (hr.mono (by decide)) rfl pass0 (pa_cons (pv 6) pa_nil)) pe_int (by rfl)) (pe_and (pcall C_whole (hr.mono (by decide)) rfl pass0 (pa_cons (pe_vw (pv 6)) pa_nil)) (pe_one (pe_cmpR op_eq (pe_vw (pv 6)) (pv 5) (by rfl)))))))))))), ?_⟩
  refine ⟨_, rfl, S, zs, rfl, hS, fun H1 g A B ns as ls t W l4 ht => ⟨t, _, rfl, SqT.of ht, rfl, _, _, rfl, _, _, rfl, rfl, ?_⟩⟩
  refine ⟨_, rfl, S, zs, 250, rfl, Same.sql W.same hS, by decide, by decide, fun n hn0 hn1 => ⟨_, _, rfl, rfl, (by show (0 : Int) < 4; decide), n % 4, rfl, by omega, by omega, ?_⟩⟩
  refine for_range (lo := 0) (fun i σ H' => ∃ (g : Addr → Nat) (ns : List Str) (as : List Addr) (ls : List L) (x3 x4 : Option V), σ = [some (.ref S), some (.ref A), some (.ref B), x3, x4, none, none] ∧ WS H H' g A B ns as ls (5 + i) (zf i) ∧ as.length ≤ 5 ∧ i ≤ 3) ?_ ?_ ?_
  · exact ⟨g, ns, as, ls, none, none, rfl, W, by omega, Nat.zero_le _⟩
  · rintro i σ H' hi ⟨g, ns, as, ls, x3, x4, rfl, W, l5, hi3⟩
    have hi4 : i < 3 := by omega
    have hz := zf_le hi3
    refine ⟨_, rfl, _, rfl, 5, rfl, by decide, by decide, fun L1 hL1 => ?_⟩
    refine lc_range (lo := 0) (fun j H'' => j ≤ 5 ∧ Same H' H'' ∧ ∃ ds : List Int, ds.length = j ∧ (∀ d ∈ ds, 0 ≤ d) ∧ H'' L1 = some (.lst (ds.map V.int))) ⟨Nat.zero_le _, same_new hL1 _, [], rfl, (fun _ h => nomatch h), upd_same⟩ (fun j H2 hj z => ?_) (fun H3 z => ?_)
    · obtain ⟨_, s2, ds, hl, hd, hL⟩ := z
      have hj5 : j < 5 := hj
      refine ⟨rfl, ?_⟩
      unfold tYes
      refine ifT rfl ⟨_, rfl, _, rfl, _, _, rfl, rfl, .inl ⟨by decide, by decide⟩, _, _, rfl, rfl, _, rfl, _, _, rfl, rfl, S, zs, 251 + 5 * (0 + (i : Int)) + (0 + (j : Int)), rfl, Same.sql (W.same.trans s2) hS, by omega, by omega, fun d hd0 hd1 => ⟨_, hL, ?_, hj, same_upd s2 hL1, ds ++ [d], ?_, fun d' h' => ?_, ?_⟩⟩
      · rw [List.length_map]
        exact szl (by omega)
      · rw [List.length_append, hl] <;> rfl
      · rcases List.mem_append.mp h' with h' | h'
        · exact hd d' h'
        · rw [List.mem_singleton.mp h']
          exact hd0
      · rw [List.map_append]
        exact upd_same
    obtain ⟨_, s3, ds, hl, hd, hL⟩ := z
    match ds, hl with
    | [d0, d1, d2, d3, d4], _ =>
      have W3 := W.fresh (k := 9) hL1 s3
      refine ⟨H, gset g L1 9, A, B, L1, ns, as, ls, 5 + i, zf i, d0, d1, d2, d3, d4, rfl, W3, hL, gset_same, ne_of_none W.hA hL1, ne_of_none W.hB hL1, hd _ (by simp), hd _ (by simp), hd _ (by simp), hd _ (by simp), hd _ (by simp), l5, by omega, by omega, by omega, by omega, fun H4 g4 ns4 as4 ls4 W4 l6 => ?_⟩
      exact ⟨g4, ns4, as4, ls4, _, _, rfl, W4, l6, by omega⟩
  rintro σ H2 ⟨g, ns, as, ls, x3, x4, rfl, W, l5, hi3⟩
  have hi4 : (n % 4).toNat ≤ 3 := hi3
  have hz := (zf_le hi4).2
  have W2 := W.up (D' := 8) (Z' := 17000) (by omega) hz
  obtain ⟨st, out, t1, t2, wlt, rd, dr, ok, plen, pls, same⟩ := W2.plain (Nat.le_refl _) l5
  have rtM : Paired (RtAt g H2 ns.length DM 17000) as ls := Paired.imp (fun a l ⟨r1, r2, r3, r4, r5⟩ => ⟨r1, r2, r3, Nat.lt_of_lt_of_le r4 (by decide), r5⟩) W2.rt
  have rtG : ∀ {H3 : Hp}, Same H2 H3 → Paired (RtAt g H3 ns.length DM 17000) as ls := fun s => Paired.imp (fun a l r => r.more s) rtM
  refine ⟨_, rfl, _, rfl, A, B, ns, as, ls, g, 17000, rfl, W2.hA, W2.hB, rtM, W2.len, pls, fun e H3 s3 => ?_, fun m H3 hm hmin s3 => ?_⟩
  · refine ⟨_, rfl, _, rfl, A, B, ns, as, ls, g, 17000, rfl, s3 _ _ W2.hA, s3 _ _ W2.hB, rtG s3, W2.len, W2.nm, wlt, fun H4 s4 => ?_⟩
    refine ⟨_, _, st, out, rfl, t1, t2, wlt, rd, dr, ok, plen, fun e2 H5 s5 => ?_, fun m H5 a d hm _ _ _ _ => ?_⟩
    rotate_left
    · have z := (same m).mp hm
      rw [e] at z
      exact nomatch z
    refine ⟨_, rfl, rfl, _, rfl, ifT rfl ?_⟩
    refine ⟨_, rfl, .inl ⟨rfl, _, rfl, rfl, true, rfl, ?_⟩⟩
    have s25 := s3.trans (s4.trans s5)
    refine ⟨_, rfl, _, rfl, A, B, ns, as, ls, g, 17000, rfl, s25 _ _ W2.hA, s25 _ _ W2.hB, rtG s25, W2.len, W2.nm, wlt, fun H6 s6 => ?_⟩
    refine ⟨_, _, st, out, rfl, t1, t2, wlt, rd, dr, ok, plen, fun e3 v H7 s7 => ?_, fun m H7 d hm _ _ _ _ => ?_⟩
    · exact ⟨rfl, cont _⟩
    · rw [e2] at hm
      exact nomatch hm
  · refine ⟨_, rfl, _, rfl, A, B, ns, as, ls, g, 17000, rfl, s3 _ _ W2.hA, s3 _ _ W2.hB, rtG s3, W2.len, W2.nm, wlt, fun H4 s4 => ?_⟩
    refine ⟨_, _, st, out, rfl, t1, t2, wlt, rd, dr, ok, plen, fun e2 H5 s5 => ?_, fun m2 H5 a d hm2 hmin2 s5 ha hd => ?_⟩
    · have z := (same m).mpr hm
      rw [e2] at z
      exact nomatch z
    have em : m2 = m := Nat.le_antisymm (hmin2 m ((same m).mpr hm)) (hmin m2 ((same m2).mp hm2))
    subst em
    refine ⟨_, rfl, rfl, _, rfl, ifF rfl ?_⟩
    refine ⟨_, rfl, .inr ⟨a, d, _, rfl, ha, hd, fun H6 s6 => ⟨rfl, true, rfl, ?_⟩⟩⟩
    have hno : PySem.W.findIn K (.ref (ga K "NoProgram")) "word" = some none := (exF T).nw
    refine ⟨_, rfl, a, _, d, _, .int ((m2 : Nat) : Int), rfl, s6 _ _ ha, s6 _ _ hd, (xfB_ok (exF T).xf), hno, rfl, _, rfl, true, rfl, ?_⟩
    refine ⟨_, rfl, a, _, d, _, .int ((m2 : Nat) : Int), rfl, s6 _ _ ha, s6 _ _ hd, (xfB_ok (exF T).xf), hno, rfl, _, rfl, rfl, ?_⟩
    have e : decide (V.int ((m2 : Nat) : Int) = V.int ((m2 : Nat) : Int)) = true := decide_eq_true rfl
    show Q (.bl (decide (V.int ((m2 : Nat) : Int) = V.int ((m2 : Nat) : Int)))) _
    rw [e]
    exact cont _
end
end Fc

set_option Elab.async false
set_option linter.all false
set_option maxRecDepth 100000
set_option maxHeartbeats 0
namespace Fc
open PySem PySem.W PySem.Calls PyProof.Rows L2 He
/-! the top's run (printed by gen_txt.py) -/
abbrev R : OpenRow := OpenLaw.row PySem.Challenge.rw_fewcounters_k63_whole_what_is_let_by
abbrev qv : Program := view R.prog [58]
def names : List PySem.Str := (["CountError", "NoWeb", "NoRun", "NoCounts", "NoChoice", "NoGuess", "NoMarks", "NoLoose", "NoWay", "NoChain", "NoText", "NoProgram", "NoCode", "NoAnswer", "NoPlan", "NoLog", "NoRow", "NoName", "Fork", "Spots", "LETTERS", "LONGEST", "MOST_ROWS", "MOST_PLACES", "MOST_PARTS", "is_name", "Reader", "taken_of", "drawn_of", "row_too_many"] : List PySem.Str) ++ (["faults_of", "let_by", "looked", "_law_mixed", "_law_pull", "_law_name", "_law_passes", "_law_thing", "_law_list", "_law_drawn", "_law_called", "_law_words", "_law_text", "_law_class", "_law_whole", "_law_caught", "_law_look", "_law_faults", "_law_many", "_law_things", "_law_uncalled", "_law_nested", "_law_filled", "_law_bent"] : List PySem.Str)
def fa0 : List Fa := [.free "len", .free "range", .free "min", .free "int", .free "isinstance", .free "str", .free "bool", .free "enumerate", .free "zip", .free "sum", .free "list", .free "ValueError", .free "tuple", .free "set", .free "dict", .free "max", .free "all", .free "any", .glo "CountError", .keep "CountError", .glo "NoWeb", .keep "NoWeb", .glo "NoRun", .keep "NoRun", .glo "NoCounts"]
def fa1 : List Fa := [.keep "NoCounts", .glo "NoChoice", .keep "NoChoice", .glo "NoGuess", .keep "NoGuess", .glo "NoMarks", .keep "NoMarks", .glo "NoLoose", .keep "NoLoose", .glo "NoWay", .keep "NoWay", .glo "NoChain", .keep "NoChain", .glo "NoText", .keep "NoText", .glo "NoProgram", .keep "NoProgram", .glo "NoCode", .keep "NoCode", .glo "NoAnswer", .keep "NoAnswer", .glo "NoPlan", .keep "NoPlan", .glo "NoLog", .keep "NoLog"]
def fa2 : List Fa := [.glo "NoRow", .keep "NoRow", .glo "NoName", .keep "NoName", .glo "Fork", .keep "Fork", .glo "Spots", .keep "Spots", .glo "Reader", .keep "Reader", .glo "is_name", .keep "is_name", .glo "taken_of", .keep "taken_of", .glo "drawn_of", .keep "drawn_of", .glo "row_too_many", .keep "row_too_many", .glo "faults_of", .keep "faults_of", .glo "let_by", .keep "let_by", .glo "looked", .keep "looked", .glo "_law_mixed"]
def fa3 : List Fa := [.keep "_law_mixed", .glo "_law_pull", .keep "_law_pull", .glo "_law_name", .keep "_law_name", .glo "_law_passes", .keep "_law_passes", .glo "_law_thing", .keep "_law_thing", .glo "_law_list", .keep "_law_list", .glo "_law_drawn", .keep "_law_drawn", .glo "_law_called", .keep "_law_called", .glo "_law_words", .keep "_law_words", .glo "_law_text", .keep "_law_text", .glo "_law_class", .keep "_law_class", .glo "_law_whole", .keep "_law_whole", .glo "_law_caught", .keep "_law_caught"]
def fa4 : List Fa := [.glo "_law_look", .keep "_law_look", .glo "_law_faults", .keep "_law_faults", .glo "_law_many", .keep "_law_many", .glo "_law_things", .keep "_law_things", .glo "_law_uncalled", .keep "_law_uncalled", .glo "_law_nested", .keep "_law_nested", .glo "_law_filled", .keep "_law_filled", .glo "_law_bent", .keep "_law_bent", .glo "law", .keep "law", .int "LONGEST" 8, .int "MOST_ROWS" 30, .int "MOST_PLACES" 16, .int "MOST_PARTS" 4, .str "LETTERS" "abcdefghijklmnopqrstuvwxyz", .cls "Fork", .mkr "Fork"]
def fa5 : List Fa := [.meth "Fork" "__init__", .noat "Fork" "word", .noat "Fork" "start", .noat "Fork" "other", .noat "Fork" "alive", .noat "Fork" "passed", .noat "Fork" "passes", .cls "Spots", .mkr "Spots", .meth "Spots" "__init__", .meth "Spots" "fresh", .meth "Spots" "root", .meth "Spots" "put_together", .meth "Spots" "stands", .meth "Spots" "gone", .meth "Spots" "asked", .meth "Spots" "turned", .meth "Spots" "left", .meth "Spots" "innermost", .meth "Spots" "closed", .meth "Spots" "take", .meth "Spots" "places", .noat "Spots" "joined", .noat "Spots" "rows", .noat "Spots" "here"]
def fa6 : List Fa := [.noat "Spots" "alive", .noat "Spots" "forks", .noat "Spots" "dead", .noat "Spots" "whole", .cls "Reader", .mkr "Reader", .meth "Reader" "__init__", .meth "Reader" "named", .meth "Reader" "bare", .meth "Reader" "take", .noat "Reader" "words", .noat "Reader" "at", .noat "Reader" "opened", .noat "Reader" "taken", .exm "NoProgram" "CountError" true]
def fas : List Fa := fa0 ++ fa1 ++ fa2 ++ fa3 ++ fa4 ++ fa5 ++ fa6
def Dd_Fork___init__ : DefD := ⟨("Fork", some "__init__"), "__init__", "Fork.__init__", defArgs (inClass (top 20) 0), defBody (inClass (top 20) 0), defScope (inClass (top 20) 0), [], []⟩
def Dd_Spots___init__ : DefD := ⟨("Spots", some "__init__"), "__init__", "Spots.__init__", defArgs (inClass (top 21) 0), defBody (inClass (top 21) 0), defScope (inClass (top 21) 0), [], []⟩
def Dd_Spots_fresh : DefD := ⟨("Spots", some "fresh"), "fresh", "Spots.fresh", defArgs (inClass (top 21) 1), defBody (inClass (top 21) 1), defScope (inClass (top 21) 1), [], []⟩
def Dd_Spots_root : DefD := ⟨("Spots", some "root"), "root", "Spots.root", defArgs (inClass (top 21) 2), defBody (inClass (top 21) 2), defScope (inClass (top 21) 2), [], []⟩
def Dd_Spots_put_together : DefD := ⟨("Spots", some "put_together"), "put_together", "Spots.put_together", defArgs (inClass (top 21) 3), defBody (inClass (top 21) 3), defScope (inClass (top 21) 3), [], []⟩
def Dd_Spots_stands : DefD := ⟨("Spots", some "stands"), "stands", "Spots.stands", defArgs (inClass (top 21) 4), defBody (inClass (top 21) 4), defScope (inClass (top 21) 4), [], []⟩
def Dd_Spots_gone : DefD := ⟨("Spots", some "gone"), "gone", "Spots.gone", defArgs (inClass (top 21) 5), defBody (inClass (top 21) 5), defScope (inClass (top 21) 5), [], []⟩
def Dd_Spots_asked : DefD := ⟨("Spots", some "asked"), "asked", "Spots.asked", defArgs (inClass (top 21) 6), defBody (inClass (top 21) 6), defScope (inClass (top 21) 6), [], []⟩
def Dd_Spots_turned : DefD := ⟨("Spots", some "turned"), "turned", "Spots.turned", defArgs (inClass (top 21) 7), defBody (inClass (top 21) 7), defScope (inClass (top 21) 7), [], []⟩
def Dd_Spots_left : DefD := ⟨("Spots", some "left"), "left", "Spots.left", defArgs (inClass (top 21) 8), defBody (inClass (top 21) 8), defScope (inClass (top 21) 8), [], []⟩
def Dd_Spots_innermost : DefD := ⟨("Spots", some "innermost"), "innermost", "Spots.innermost", defArgs (inClass (top 21) 9), defBody (inClass (top 21) 9), defScope (inClass (top 21) 9), [], []⟩
def Dd_Spots_closed : DefD := ⟨("Spots", some "closed"), "closed", "Spots.closed", defArgs (inClass (top 21) 10), defBody (inClass (top 21) 10), defScope (inClass (top 21) 10), [], []⟩
def Dd_Spots_take : DefD := ⟨("Spots", some "take"), "take", "Spots.take", defArgs (inClass (top 21) 11), defBody (inClass (top 21) 11), defScope (inClass (top 21) 11), [], []⟩
def Dd_Spots_places : DefD := ⟨("Spots", some "places"), "places", "Spots.places", defArgs (inClass (top 21) 12), defBody (inClass (top 21) 12), defScope (inClass (top 21) 12), [], []⟩
def Dd_Reader___init__ : DefD := ⟨("Reader", some "__init__"), "__init__", "Reader.__init__", defArgs (inClass (top 29) 0), defBody (inClass (top 29) 0), defScope (inClass (top 29) 0), [], []⟩
def Dd_Reader_named : DefD := ⟨("Reader", some "named"), "named", "Reader.named", defArgs (inClass (top 29) 1), defBody (inClass (top 29) 1), defScope (inClass (top 29) 1), [], []⟩
def Dd_Reader_bare : DefD := ⟨("Reader", some "bare"), "bare", "Reader.bare", defArgs (inClass (top 29) 2), defBody (inClass (top 29) 2), defScope (inClass (top 29) 2), [], []⟩
def Dd_Reader_take : DefD := ⟨("Reader", some "take"), "take", "Reader.take", defArgs (inClass (top 29) 3), defBody (inClass (top 29) 3), defScope (inClass (top 29) 3), [], []⟩
def Dd_NoProgram : DefD := ⟨("NoProgram", some "__init__"), "__init__", "NoProgram.__init__", defArgs (inClass (top 12) 0), defBody (inClass (top 12) 0), defScope (inClass (top 12) 0), [], []⟩
def Dd_is_name : DefD := ⟨("is_name", none), "is_name", "is_name", defArgs (top 28), defBody (top 28), defScope (top 28), [], []⟩
def Dd_taken_of : DefD := ⟨("taken_of", none), "taken_of", "taken_of", defArgs (top 30), defBody (top 30), defScope (top 30), [], []⟩
def Dd_drawn_of : DefD := ⟨("drawn_of", none), "drawn_of", "drawn_of", defArgs (top 31), defBody (top 31), defScope (top 31), [], []⟩
def Dd_row_too_many : DefD := ⟨("row_too_many", none), "row_too_many", "row_too_many", defArgs (top 32), defBody (top 32), defScope (top 32), [], []⟩
def Dd_faults_of : DefD := ⟨("faults_of", none), "faults_of", "faults_of", defArgs (top 33), defBody (top 33), defScope (top 33), [], []⟩
def Dd_let_by : DefD := ⟨("let_by", none), "let_by", "let_by", defArgs (top 34), defBody (top 34), defScope (top 34), [], []⟩
def Dd_looked : DefD := ⟨("looked", none), "looked", "looked", defArgs (top 35), defBody (top 35), defScope (top 35), [], []⟩
def Dd__law_mixed : DefD := ⟨("_law_mixed", none), "_law_mixed", "_law_mixed", defArgs (top 37), defBody (top 37), defScope (top 37), [], []⟩
def Dd__law_pull : DefD := ⟨("_law_pull", none), "_law_pull", "_law_pull", defArgs (top 38), defBody (top 38), defScope (top 38), [], []⟩
def Dd__law_name : DefD := ⟨("_law_name", none), "_law_name", "_law_name", defArgs (top 39), defBody (top 39), defScope (top 39), [], []⟩
def Dd__law_passes : DefD := ⟨("_law_passes", none), "_law_passes", "_law_passes", defArgs (top 40), defBody (top 40), defScope (top 40), [], []⟩
def Dd__law_thing : DefD := ⟨("_law_thing", none), "_law_thing", "_law_thing", defArgs (top 41), defBody (top 41), defScope (top 41), [], []⟩
def Dd__law_list : DefD := ⟨("_law_list", none), "_law_list", "_law_list", defArgs (top 42), defBody (top 42), defScope (top 42), [], []⟩
def Dd__law_drawn : DefD := ⟨("_law_drawn", none), "_law_drawn", "_law_drawn", defArgs (top 43), defBody (top 43), defScope (top 43), [], []⟩
def Dd__law_called : DefD := ⟨("_law_called", none), "_law_called", "_law_called", defArgs (top 44), defBody (top 44), defScope (top 44), [], []⟩
def Dd__law_words : DefD := ⟨("_law_words", none), "_law_words", "_law_words", defArgs (top 45), defBody (top 45), defScope (top 45), [], []⟩
def Dd__law_text : DefD := ⟨("_law_text", none), "_law_text", "_law_text", defArgs (top 46), defBody (top 46), defScope (top 46), [], []⟩
def Dd__law_class : DefD := ⟨("_law_class", none), "_law_class", "_law_class", defArgs (top 47), defBody (top 47), defScope (top 47), [], []⟩
def Dd__law_whole : DefD := ⟨("_law_whole", none), "_law_whole", "_law_whole", defArgs (top 48), defBody (top 48), defScope (top 48), [], []⟩
def Dd__law_caught : DefD := ⟨("_law_caught", none), "_law_caught", "_law_caught", defArgs (top 49), defBody (top 49), defScope (top 49), [], []⟩
def Dd__law_look : DefD := ⟨("_law_look", none), "_law_look", "_law_look", defArgs (top 50), defBody (top 50), defScope (top 50), [], []⟩
def Dd__law_faults : DefD := ⟨("_law_faults", none), "_law_faults", "_law_faults", defArgs (top 51), defBody (top 51), defScope (top 51), [], []⟩
def Dd__law_many : DefD := ⟨("_law_many", none), "_law_many", "_law_many", defArgs (top 52), defBody (top 52), defScope (top 52), [], []⟩
def Dd__law_things : DefD := ⟨("_law_things", none), "_law_things", "_law_things", defArgs (top 53), defBody (top 53), defScope (top 53), [], []⟩
def Dd__law_uncalled : DefD := ⟨("_law_uncalled", none), "_law_uncalled", "_law_uncalled", defArgs (top 54), defBody (top 54), defScope (top 54), [], []⟩
def Dd__law_nested : DefD := ⟨("_law_nested", none), "_law_nested", "_law_nested", defArgs (top 55), defBody (top 55), defScope (top 55), [], []⟩
def Dd__law_filled : DefD := ⟨("_law_filled", none), "_law_filled", "_law_filled", defArgs (top 56), defBody (top 56), defScope (top 56), [], []⟩
def Dd__law_bent : DefD := ⟨("_law_bent", none), "_law_bent", "_law_bent", defArgs (top 57), defBody (top 57), defScope (top 57), [], []⟩
def Dd_law : DefD := ⟨("law", none), "law", "law", defArgs (top 58), defBody (top 58), defScope (top 58), [], []⟩
def fns : List DefD := [Dd_Fork___init__, Dd_Spots___init__, Dd_Spots_fresh, Dd_Spots_root, Dd_Spots_put_together, Dd_Spots_stands, Dd_Spots_gone, Dd_Spots_asked, Dd_Spots_turned, Dd_Spots_left, Dd_Spots_innermost, Dd_Spots_closed, Dd_Spots_take, Dd_Spots_places, Dd_Reader___init__, Dd_Reader_named, Dd_Reader_bare, Dd_Reader_take, Dd_NoProgram, Dd_is_name, Dd_taken_of, Dd_drawn_of, Dd_row_too_many, Dd_faults_of, Dd_let_by, Dd_looked, Dd__law_mixed, Dd__law_pull, Dd__law_name, Dd__law_passes, Dd__law_thing, Dd__law_list, Dd__law_drawn, Dd__law_called, Dd__law_words, Dd__law_text, Dd__law_class, Dd__law_whole, Dd__law_caught, Dd__law_look, Dd__law_faults, Dd__law_many, Dd__law_things, Dd__law_uncalled, Dd__law_nested, Dd__law_filled, Dd__law_bent, Dd_law]
def asF (g : Addr → Option Obj) : Nat → List Addr
  | 0 => [mainGlobals, cStatics]
  | n + 1 => growD g (asF g n)
abbrev AlF : Type := AlD × Bool
def obsF (K : Frag) : AlF := (obsD fas fns K, exB K)
def obsFG (n : Nat) (g : Addr → Option Obj) : AlF := obsF (frG g (asF g n))
def SaysF (K : Frag) : Prop := obsF K = (valD fns, true)
def hk : Hook where
  α := AlF
  obs := fun s => obsFG 5 s.heap.get?
  val := fun _ => (valD fns, true)
  says := fun _ h => ∃ K : Frag, K.In h ∧ SaysF K
  of := fun _ _ e => ⟨_, frG_in, e⟩
  keeps := fun _ _ _ ⟨K, hK, c⟩ k => ⟨K, Frag.In.keeps hK k, c⟩
def ob (s : SharedT) : AlF := obsFG 5 (HandSHeadRun.getT s)
theorem ob_eq (s : SharedT) : ob s = hk.obs s.abs := by
  have e : HandSHeadRun.getT s = s.abs.heap.get? := funext (HandSHeadRun.getT_eq s)
  unfold ob
  rw [e] <;> rfl
theorem run (w : World) : HandSHeadRun.RunEq R qv hk ob 12000 names w := by
  intro os
  kernel_rfl
theorem txt {K : Frag} {h : Heap} {mg : Str → Option Value} (X : K.In h) (G : h.Ns mainGlobals mg) (c : SaysF K) : Txt K mg := by
  have c1 : SaysD fas fns K := congrArg (fun z : AlF => z.1) c
  have c2 : exB K = true := congrArg (fun z : AlF => z.2) c
  exact {
    z_len := free_ok X G (c1.fact 0 (f := .free "len") rfl)
    z_range := free_ok X G (c1.fact 1 (f := .free "range") rfl)
    z_min := free_ok X G (c1.fact 2 (f := .free "min") rfl)
    z_int := free_ok X G (c1.fact 3 (f := .free "int") rfl)
    z_isinstance := free_ok X G (c1.fact 4 (f := .free "isinstance") rfl)
    z_str := free_ok X G (c1.fact 5 (f := .free "str") rfl)
    z_bool := free_ok X G (c1.fact 6 (f := .free "bool") rfl)
    z_enumerate := free_ok X G (c1.fact 7 (f := .free "enumerate") rfl)
    z_zip := free_ok X G (c1.fact 8 (f := .free "zip") rfl)
    z_sum := free_ok X G (c1.fact 9 (f := .free "sum") rfl)
    z_list := free_ok X G (c1.fact 10 (f := .free "list") rfl)
    z_ValueError := free_ok X G (c1.fact 11 (f := .free "ValueError") rfl)
    z_tuple := free_ok X G (c1.fact 12 (f := .free "tuple") rfl)
    z_set := free_ok X G (c1.fact 13 (f := .free "set") rfl)
    z_dict := free_ok X G (c1.fact 14 (f := .free "dict") rfl)
    z_max := free_ok X G (c1.fact 15 (f := .free "max") rfl)
    z_all := free_ok X G (c1.fact 16 (f := .free "all") rfl)
    z_any := free_ok X G (c1.fact 17 (f := .free "any") rfl)
    g_CountError := glo_ok X G (c1.fact 18 (f := .glo "CountError") rfl)
    k_CountError := keep_ok (c1.fact 19 (f := .keep "CountError") rfl)
    g_NoWeb := glo_ok X G (c1.fact 20 (f := .glo "NoWeb") rfl)
    k_NoWeb := keep_ok (c1.fact 21 (f := .keep "NoWeb") rfl)
    g_NoRun := glo_ok X G (c1.fact 22 (f := .glo "NoRun") rfl)
    k_NoRun := keep_ok (c1.fact 23 (f := .keep "NoRun") rfl)
    g_NoCounts := glo_ok X G (c1.fact 24 (f := .glo "NoCounts") rfl)
    k_NoCounts := keep_ok (c1.fact 25 (f := .keep "NoCounts") rfl)
    g_NoChoice := glo_ok X G (c1.fact 26 (f := .glo "NoChoice") rfl)
    k_NoChoice := keep_ok (c1.fact 27 (f := .keep "NoChoice") rfl)
    g_NoGuess := glo_ok X G (c1.fact 28 (f := .glo "NoGuess") rfl)
    k_NoGuess := keep_ok (c1.fact 29 (f := .keep "NoGuess") rfl)
    g_NoMarks := glo_ok X G (c1.fact 30 (f := .glo "NoMarks") rfl)
    k_NoMarks := keep_ok (c1.fact 31 (f := .keep "NoMarks") rfl)
    g_NoLoose := glo_ok X G (c1.fact 32 (f := .glo "NoLoose") rfl)
    k_NoLoose := keep_ok (c1.fact 33 (f := .keep "NoLoose") rfl)
    g_NoWay := glo_ok X G (c1.fact 34 (f := .glo "NoWay") rfl)
    k_NoWay := keep_ok (c1.fact 35 (f := .keep "NoWay") rfl)
    g_NoChain := glo_ok X G (c1.fact 36 (f := .glo "NoChain") rfl)
    k_NoChain := keep_ok (c1.fact 37 (f := .keep "NoChain") rfl)
    g_NoText := glo_ok X G (c1.fact 38 (f := .glo "NoText") rfl)
    k_NoText := keep_ok (c1.fact 39 (f := .keep "NoText") rfl)
    g_NoProgram := glo_ok X G (c1.fact 40 (f := .glo "NoProgram") rfl)
    k_NoProgram := keep_ok (c1.fact 41 (f := .keep "NoProgram") rfl)
    g_NoCode := glo_ok X G (c1.fact 42 (f := .glo "NoCode") rfl)
    k_NoCode := keep_ok (c1.fact 43 (f := .keep "NoCode") rfl)
    g_NoAnswer := glo_ok X G (c1.fact 44 (f := .glo "NoAnswer") rfl)
    k_NoAnswer := keep_ok (c1.fact 45 (f := .keep "NoAnswer") rfl)
    g_NoPlan := glo_ok X G (c1.fact 46 (f := .glo "NoPlan") rfl)
    k_NoPlan := keep_ok (c1.fact 47 (f := .keep "NoPlan") rfl)
    g_NoLog := glo_ok X G (c1.fact 48 (f := .glo "NoLog") rfl)
    k_NoLog := keep_ok (c1.fact 49 (f := .keep "NoLog") rfl)
    g_NoRow := glo_ok X G (c1.fact 50 (f := .glo "NoRow") rfl)
    k_NoRow := keep_ok (c1.fact 51 (f := .keep "NoRow") rfl)
    g_NoName := glo_ok X G (c1.fact 52 (f := .glo "NoName") rfl)
    k_NoName := keep_ok (c1.fact 53 (f := .keep "NoName") rfl)
    g_Fork := glo_ok X G (c1.fact 54 (f := .glo "Fork") rfl)
    k_Fork := keep_ok (c1.fact 55 (f := .keep "Fork") rfl)
    g_Spots := glo_ok X G (c1.fact 56 (f := .glo "Spots") rfl)
    k_Spots := keep_ok (c1.fact 57 (f := .keep "Spots") rfl)
    g_Reader := glo_ok X G (c1.fact 58 (f := .glo "Reader") rfl)
    k_Reader := keep_ok (c1.fact 59 (f := .keep "Reader") rfl)
    g_is_name := glo_ok X G (c1.fact 60 (f := .glo "is_name") rfl)
    k_is_name := keep_ok (c1.fact 61 (f := .keep "is_name") rfl)
    g_taken_of := glo_ok X G (c1.fact 62 (f := .glo "taken_of") rfl)
    k_taken_of := keep_ok (c1.fact 63 (f := .keep "taken_of") rfl)
    g_drawn_of := glo_ok X G (c1.fact 64 (f := .glo "drawn_of") rfl)
    k_drawn_of := keep_ok (c1.fact 65 (f := .keep "drawn_of") rfl)
    g_row_too_many := glo_ok X G (c1.fact 66 (f := .glo "row_too_many") rfl)
    k_row_too_many := keep_ok (c1.fact 67 (f := .keep "row_too_many") rfl)
    g_faults_of := glo_ok X G (c1.fact 68 (f := .glo "faults_of") rfl)
    k_faults_of := keep_ok (c1.fact 69 (f := .keep "faults_of") rfl)
    g_let_by := glo_ok X G (c1.fact 70 (f := .glo "let_by") rfl)
    k_let_by := keep_ok (c1.fact 71 (f := .keep "let_by") rfl)
    g_looked := glo_ok X G (c1.fact 72 (f := .glo "looked") rfl)
    k_looked := keep_ok (c1.fact 73 (f := .keep "looked") rfl)
    g__law_mixed := glo_ok X G (c1.fact 74 (f := .glo "_law_mixed") rfl)
    k__law_mixed := keep_ok (c1.fact 75 (f := .keep "_law_mixed") rfl)
    g__law_pull := glo_ok X G (c1.fact 76 (f := .glo "_law_pull") rfl)
    k__law_pull := keep_ok (c1.fact 77 (f := .keep "_law_pull") rfl)
    g__law_name := glo_ok X G (c1.fact 78 (f := .glo "_law_name") rfl)
    k__law_name := keep_ok (c1.fact 79 (f := .keep "_law_name") rfl)
    g__law_passes := glo_ok X G (c1.fact 80 (f := .glo "_law_passes") rfl)
    k__law_passes := keep_ok (c1.fact 81 (f := .keep "_law_passes") rfl)
    g__law_thing := glo_ok X G (c1.fact 82 (f := .glo "_law_thing") rfl)
    k__law_thing := keep_ok (c1.fact 83 (f := .keep "_law_thing") rfl)
    g__law_list := glo_ok X G (c1.fact 84 (f := .glo "_law_list") rfl)
    k__law_list := keep_ok (c1.fact 85 (f := .keep "_law_list") rfl)
    g__law_drawn := glo_ok X G (c1.fact 86 (f := .glo "_law_drawn") rfl)
    k__law_drawn := keep_ok (c1.fact 87 (f := .keep "_law_drawn") rfl)
    g__law_called := glo_ok X G (c1.fact 88 (f := .glo "_law_called") rfl)
    k__law_called := keep_ok (c1.fact 89 (f := .keep "_law_called") rfl)
    g__law_words := glo_ok X G (c1.fact 90 (f := .glo "_law_words") rfl)
    k__law_words := keep_ok (c1.fact 91 (f := .keep "_law_words") rfl)
    g__law_text := glo_ok X G (c1.fact 92 (f := .glo "_law_text") rfl)
    k__law_text := keep_ok (c1.fact 93 (f := .keep "_law_text") rfl)
    g__law_class := glo_ok X G (c1.fact 94 (f := .glo "_law_class") rfl)
    k__law_class := keep_ok (c1.fact 95 (f := .keep "_law_class") rfl)
    g__law_whole := glo_ok X G (c1.fact 96 (f := .glo "_law_whole") rfl)
    k__law_whole := keep_ok (c1.fact 97 (f := .keep "_law_whole") rfl)
    g__law_caught := glo_ok X G (c1.fact 98 (f := .glo "_law_caught") rfl)
    k__law_caught := keep_ok (c1.fact 99 (f := .keep "_law_caught") rfl)
    g__law_look := glo_ok X G (c1.fact 100 (f := .glo "_law_look") rfl)
    k__law_look := keep_ok (c1.fact 101 (f := .keep "_law_look") rfl)
    g__law_faults := glo_ok X G (c1.fact 102 (f := .glo "_law_faults") rfl)
    k__law_faults := keep_ok (c1.fact 103 (f := .keep "_law_faults") rfl)
    g__law_many := glo_ok X G (c1.fact 104 (f := .glo "_law_many") rfl)
    k__law_many := keep_ok (c1.fact 105 (f := .keep "_law_many") rfl)
    g__law_things := glo_ok X G (c1.fact 106 (f := .glo "_law_things") rfl)
    k__law_things := keep_ok (c1.fact 107 (f := .keep "_law_things") rfl)
    g__law_uncalled := glo_ok X G (c1.fact 108 (f := .glo "_law_uncalled") rfl)
    k__law_uncalled := keep_ok (c1.fact 109 (f := .keep "_law_uncalled") rfl)
    g__law_nested := glo_ok X G (c1.fact 110 (f := .glo "_law_nested") rfl)
    k__law_nested := keep_ok (c1.fact 111 (f := .keep "_law_nested") rfl)
    g__law_filled := glo_ok X G (c1.fact 112 (f := .glo "_law_filled") rfl)
    k__law_filled := keep_ok (c1.fact 113 (f := .keep "_law_filled") rfl)
    g__law_bent := glo_ok X G (c1.fact 114 (f := .glo "_law_bent") rfl)
    k__law_bent := keep_ok (c1.fact 115 (f := .keep "_law_bent") rfl)
    g_law := glo_ok X G (c1.fact 116 (f := .glo "law") rfl)
    k_law := keep_ok (c1.fact 117 (f := .keep "law") rfl)
    i_LONGEST := int_ok X G (c1.fact 118 (f := .int "LONGEST" 8) rfl)
    i_MOST_ROWS := int_ok X G (c1.fact 119 (f := .int "MOST_ROWS" 30) rfl)
    i_MOST_PLACES := int_ok X G (c1.fact 120 (f := .int "MOST_PLACES" 16) rfl)
    i_MOST_PARTS := int_ok X G (c1.fact 121 (f := .int "MOST_PARTS" 4) rfl)
    s_LETTERS := str_ok X G (c1.fact 122 (f := .str "LETTERS" "abcdefghijklmnopqrstuvwxyz") rfl)
    c_Fork := cls_ok (c1.fact 123 (f := .cls "Fork") rfl)
    mk_Fork := mkr_ok (c1.fact 124 (f := .mkr "Fork") rfl)
    m_Fork___init__ := meth_ok (c1.fact 125 (f := .meth "Fork" "__init__") rfl)
    n_Fork_word := noat_ok (c1.fact 126 (f := .noat "Fork" "word") rfl)
    n_Fork_start := noat_ok (c1.fact 127 (f := .noat "Fork" "start") rfl)
    n_Fork_other := noat_ok (c1.fact 128 (f := .noat "Fork" "other") rfl)
    n_Fork_alive := noat_ok (c1.fact 129 (f := .noat "Fork" "alive") rfl)
    n_Fork_passed := noat_ok (c1.fact 130 (f := .noat "Fork" "passed") rfl)
    n_Fork_passes := noat_ok (c1.fact 131 (f := .noat "Fork" "passes") rfl)
    c_Spots := cls_ok (c1.fact 132 (f := .cls "Spots") rfl)
    mk_Spots := mkr_ok (c1.fact 133 (f := .mkr "Spots") rfl)
    m_Spots___init__ := meth_ok (c1.fact 134 (f := .meth "Spots" "__init__") rfl)
    m_Spots_fresh := meth_ok (c1.fact 135 (f := .meth "Spots" "fresh") rfl)
    m_Spots_root := meth_ok (c1.fact 136 (f := .meth "Spots" "root") rfl)
    m_Spots_put_together := meth_ok (c1.fact 137 (f := .meth "Spots" "put_together") rfl)
    m_Spots_stands := meth_ok (c1.fact 138 (f := .meth "Spots" "stands") rfl)
    m_Spots_gone := meth_ok (c1.fact 139 (f := .meth "Spots" "gone") rfl)
    m_Spots_asked := meth_ok (c1.fact 140 (f := .meth "Spots" "asked") rfl)
    m_Spots_turned := meth_ok (c1.fact 141 (f := .meth "Spots" "turned") rfl)
    m_Spots_left := meth_ok (c1.fact 142 (f := .meth "Spots" "left") rfl)
    m_Spots_innermost := meth_ok (c1.fact 143 (f := .meth "Spots" "innermost") rfl)
    m_Spots_closed := meth_ok (c1.fact 144 (f := .meth "Spots" "closed") rfl)
    m_Spots_take := meth_ok (c1.fact 145 (f := .meth "Spots" "take") rfl)
    m_Spots_places := meth_ok (c1.fact 146 (f := .meth "Spots" "places") rfl)
    n_Spots_joined := noat_ok (c1.fact 147 (f := .noat "Spots" "joined") rfl)
    n_Spots_rows := noat_ok (c1.fact 148 (f := .noat "Spots" "rows") rfl)
    n_Spots_here := noat_ok (c1.fact 149 (f := .noat "Spots" "here") rfl)
    n_Spots_alive := noat_ok (c1.fact 150 (f := .noat "Spots" "alive") rfl)
    n_Spots_forks := noat_ok (c1.fact 151 (f := .noat "Spots" "forks") rfl)
    n_Spots_dead := noat_ok (c1.fact 152 (f := .noat "Spots" "dead") rfl)
    n_Spots_whole := noat_ok (c1.fact 153 (f := .noat "Spots" "whole") rfl)
    c_Reader := cls_ok (c1.fact 154 (f := .cls "Reader") rfl)
    mk_Reader := mkr_ok (c1.fact 155 (f := .mkr "Reader") rfl)
    m_Reader___init__ := meth_ok (c1.fact 156 (f := .meth "Reader" "__init__") rfl)
    m_Reader_named := meth_ok (c1.fact 157 (f := .meth "Reader" "named") rfl)
    m_Reader_bare := meth_ok (c1.fact 158 (f := .meth "Reader" "bare") rfl)
    m_Reader_take := meth_ok (c1.fact 159 (f := .meth "Reader" "take") rfl)
    n_Reader_words := noat_ok (c1.fact 160 (f := .noat "Reader" "words") rfl)
    n_Reader_at := noat_ok (c1.fact 161 (f := .noat "Reader" "at") rfl)
    n_Reader_opened := noat_ok (c1.fact 162 (f := .noat "Reader" "opened") rfl)
    n_Reader_taken := noat_ok (c1.fact 163 (f := .noat "Reader" "taken") rfl)
    x_caught := exm_ok (c1.fact 164 (f := .exm "NoProgram" "CountError" true) rfl)
    d_Fork___init__ := c1.def_ 0 (d := Dd_Fork___init__) rfl
    d_Spots___init__ := c1.def_ 1 (d := Dd_Spots___init__) rfl
    d_Spots_fresh := c1.def_ 2 (d := Dd_Spots_fresh) rfl
    d_Spots_root := c1.def_ 3 (d := Dd_Spots_root) rfl
    d_Spots_put_together := c1.def_ 4 (d := Dd_Spots_put_together) rfl
    d_Spots_stands := c1.def_ 5 (d := Dd_Spots_stands) rfl
    d_Spots_gone := c1.def_ 6 (d := Dd_Spots_gone) rfl
    d_Spots_asked := c1.def_ 7 (d := Dd_Spots_asked) rfl
    d_Spots_turned := c1.def_ 8 (d := Dd_Spots_turned) rfl
    d_Spots_left := c1.def_ 9 (d := Dd_Spots_left) rfl
    d_Spots_innermost := c1.def_ 10 (d := Dd_Spots_innermost) rfl
    d_Spots_closed := c1.def_ 11 (d := Dd_Spots_closed) rfl
    d_Spots_take := c1.def_ 12 (d := Dd_Spots_take) rfl
    d_Spots_places := c1.def_ 13 (d := Dd_Spots_places) rfl
    d_Reader___init__ := c1.def_ 14 (d := Dd_Reader___init__) rfl
    d_Reader_named := c1.def_ 15 (d := Dd_Reader_named) rfl
    d_Reader_bare := c1.def_ 16 (d := Dd_Reader_bare) rfl
    d_Reader_take := c1.def_ 17 (d := Dd_Reader_take) rfl
    d_NoProgram := c1.def_ 18 (d := Dd_NoProgram) rfl
    d_is_name := c1.def_ 19 (d := Dd_is_name) rfl
    d_taken_of := c1.def_ 20 (d := Dd_taken_of) rfl
    d_drawn_of := c1.def_ 21 (d := Dd_drawn_of) rfl
    d_row_too_many := c1.def_ 22 (d := Dd_row_too_many) rfl
    d_faults_of := c1.def_ 23 (d := Dd_faults_of) rfl
    d_let_by := c1.def_ 24 (d := Dd_let_by) rfl
    d_looked := c1.def_ 25 (d := Dd_looked) rfl
    d__law_mixed := c1.def_ 26 (d := Dd__law_mixed) rfl
    d__law_pull := c1.def_ 27 (d := Dd__law_pull) rfl
    d__law_name := c1.def_ 28 (d := Dd__law_name) rfl
    d__law_passes := c1.def_ 29 (d := Dd__law_passes) rfl
    d__law_thing := c1.def_ 30 (d := Dd__law_thing) rfl
    d__law_list := c1.def_ 31 (d := Dd__law_list) rfl
    d__law_drawn := c1.def_ 32 (d := Dd__law_drawn) rfl
    d__law_called := c1.def_ 33 (d := Dd__law_called) rfl
    d__law_words := c1.def_ 34 (d := Dd__law_words) rfl
    d__law_text := c1.def_ 35 (d := Dd__law_text) rfl
    d__law_class := c1.def_ 36 (d := Dd__law_class) rfl
    d__law_whole := c1.def_ 37 (d := Dd__law_whole) rfl
    d__law_caught := c1.def_ 38 (d := Dd__law_caught) rfl
    d__law_look := c1.def_ 39 (d := Dd__law_look) rfl
    d__law_faults := c1.def_ 40 (d := Dd__law_faults) rfl
    d__law_many := c1.def_ 41 (d := Dd__law_many) rfl
    d__law_things := c1.def_ 42 (d := Dd__law_things) rfl
    d__law_uncalled := c1.def_ 43 (d := Dd__law_uncalled) rfl
    d__law_nested := c1.def_ 44 (d := Dd__law_nested) rfl
    d__law_filled := c1.def_ 45 (d := Dd__law_filled) rfl
    d__law_bent := c1.def_ 46 (d := Dd__law_bent) rfl
    d_law := c1.def_ 47 (d := Dd_law) rfl
    ex := c2 }
end Fc

set_option Elab.async false
set_option linter.all false
set_option maxRecDepth 100000
set_option maxHeartbeats 0
namespace Fc
open PySem PySem.Spec PyProof.Rows L2 He
theorem facts {P : Program} {w : World} {K : PySem.W.Frag} {h : Heap} {mg : Str → Option Value} {f : Addr} (X : K.In h) (G : h.Ns mainGlobals mg) (hfa : mg ("law" : Str) = some (.ref f)) (c : SaysF K) :
    ∃ fd : FuncData, (∀ (s : Shared) (v : Value), BindsTo s fd ⟨[v], []⟩ [("_law_script", v)]) ∧ ∀ base : Heap, K.In base → base.Ns mainGlobals mg → FnOk P w K mg base CX0 26 f fd ["_law_script"] (spLaw K) := by
  have T := txt X G c
  have e := hfa.symm.trans T.g_law
  cases e
  obtain ⟨fd, F⟩ := T.d_law
  have b := FunD.bindsA (ps := ["_law_script"]) F fun _ _ _ _ _ _ us hl => match us, hl with | [_], _ => rfl
  exact ⟨fd, fun s v => b s [v] rfl, fun base _ _ => ok_law T F⟩
end Fc
open PySem PySem.W PySem.Calls PyProof.Rows
theorem PySem.Challenge.cw_fewcounters_k63_whole_what_is_let_by_holds : PySem.Challenge.rw_fewcounters_k63_whole_what_is_let_by.Holds := by
  w_on; o_law
  refine HandSHeadRun.head_any (r := OpenLaw.row PySem.Challenge.rw_fewcounters_k63_whole_what_is_let_by) (q := view (OpenLaw.row PySem.Challenge.rw_fewcounters_k63_whole_what_is_let_by).prog [58]) (H := Fc.hk) (ob := Fc.ob) (M := 12000) (loose := Fc.names) (d := HandSHeadRun.topDef (OpenLaw.row PySem.Challenge.rw_fewcounters_k63_whole_what_is_let_by).prog 58) (kwd := []) Fc.ob_eq
    (by kernel_rfl) (fun s => by kernel_rfl) Fc.run (by kernel_rfl) (by kernel_rfl) (by kernel_rfl) (by rfl) (by first | assumption | decide +kernel) (by decide +kernel) ⟨rfl, rfl, rfl, rfl, rfl, by decide +kernel⟩ ?hw ?hc
  case hw => w_witness2
  case hc =>
    refine L2.walk_ofE (l := PySem.Challenge.rw_fewcounters_k63_whole_what_is_let_by) (n := 63) (k := 26) (x := "_law_script") (CX := L2.CX0) rfl (by decide) (by kernel_rfl) ⟨rfl, by decide, by decide⟩ ?F (fun _ _ _ _ z => z)
    intro w mg fa h Y G hmg0
    obtain ⟨K, KX, c⟩ := Y
    have hmg : mg ("law" : PySem.Str) = some (.ref fa) := by
      have e : (HandSHeadRun.topDef (OpenLaw.row PySem.Challenge.rw_fewcounters_k63_whole_what_is_let_by).prog 58).name = ("law" : PySem.Str) := by kernel_rfl
      rw [← e]
      exact hmg0
    obtain ⟨fd, hb, hF⟩ := Fc.facts (P := (PySem.Challenge.rw_fewcounters_k63_whole_what_is_let_by).prog) (w := w) KX G hmg c
    exact ⟨K, fd, Fc.spLaw K, KX, hb, fun H a ns hl _ hS => ⟨a, ns, rfl, hS, fun _ => rfl⟩, hF⟩
