import PyProof.Rows.All
import Wide.All
import OpenK.AllK
import Wide.FinOn
import PyProof.EqAt
import PyProof.EqKinds
import PyProof.TupleCall
import KE.KStateDown
import HandS.ForMost
import HandS.Exc
import HandS.TryOnly
import HandS.TryMany
import HandS.ExcInit
import HandS.ExcField
import HandS.Defaults
import HandS.IsInst
import HandS.Star
import HandS.Style
import HandS.NoneIn
import HandS.RaiseMore
import HandS.WordsExc
import HandS.Flow
import HandS.More
import HandS.Conv
import HandS.Words
import HandS.Head0
import HandS.Head1
import HandS.Head2
import HandS.HeadEnd
import HandS.HeadHook1
import HandS.HeadHook2
import PySem.Challenge.RW_roundline_k16_whole_near_plan_texts
import KE.GoesMore
import HandS.Walk
-- part K0
set_option Elab.async false
set_option linter.all false
set_option maxRecDepth 100000
set_option maxHeartbeats 4000000
namespace RL
open PySem PySem.Spec PyProof.Rows L2
/-! ### the text by places -/
abbrev row := PySem.Challenge.rw_roundline_k16_whole_near_plan_texts
def topS (i : Nat) : Stmt := PySem.Challenge.pw_roundline_k16_whole_near_plan_texts.main.body.getD i (.Pass ⟨0, 0, 0, 0⟩)
abbrev sNoDeedInit : Stmt := inClass (topS 3) 0
abbrev nNoDeedInit : List Str := ["self", "index"]
theorem scNoDeedInit : FnScope nNoDeedInit ["self", "index"] (defScope sNoDeedInit) := ⟨rfl, rfl, rfl, by decide +kernel, rfl, by decide +kernel, by decide +kernel⟩
abbrev sNoTextInit : Stmt := inClass (topS 4) 0
abbrev nNoTextInit : List Str := ["self", "line"]
theorem scNoTextInit : FnScope nNoTextInit ["self", "line"] (defScope sNoTextInit) := ⟨rfl, rfl, rfl, by decide +kernel, rfl, by decide +kernel, by decide +kernel⟩
abbrev sIsWhole : Stmt := topS 11
abbrev nIsWhole : List Str := ["thing"]
theorem scIsWhole : FnScope nIsWhole ["thing"] (defScope sIsWhole) := ⟨rfl, rfl, rfl, by decide +kernel, rfl, by decide +kernel, by decide +kernel⟩
abbrev sIsThing : Stmt := topS 12
abbrev nIsThing : List Str := ["thing", "sign"]
theorem scIsThing : FnScope nIsThing ["thing"] (defScope sIsThing) := ⟨rfl, rfl, rfl, by decide +kernel, rfl, by decide +kernel, by decide +kernel⟩
abbrev sIsWindow : Stmt := topS 13
abbrev nIsWindow : List Str := ["thing"]
theorem scIsWindow : FnScope nIsWindow ["thing"] (defScope sIsWindow) := ⟨rfl, rfl, rfl, by decide +kernel, rfl, by decide +kernel, by decide +kernel⟩
abbrev sIsLength : Stmt := topS 14
abbrev nIsLength : List Str := ["thing", "most"]
theorem scIsLength : FnScope nIsLength ["thing", "most"] (defScope sIsLength) := ⟨rfl, rfl, rfl, by decide +kernel, rfl, by decide +kernel, by decide +kernel⟩
abbrev sIsPlainDeed : Stmt := topS 15
abbrev nIsPlainDeed : List Str := ["thing"]
theorem scIsPlainDeed : FnScope nIsPlainDeed ["thing"] (defScope sIsPlainDeed) := ⟨rfl, rfl, rfl, by decide +kernel, rfl, by decide +kernel, by decide +kernel⟩
abbrev sIsDeed : Stmt := topS 16
abbrev nIsDeed : List Str := ["thing"]
theorem scIsDeed : FnScope nIsDeed ["thing"] (defScope sIsDeed) := ⟨rfl, rfl, rfl, by decide +kernel, rfl, by decide +kernel, by decide +kernel⟩
abbrev sPlanInit : Stmt := inClass (topS 19) 0
abbrev nPlanInit : List Str := ["self", "deeds", "index", "deed"]
theorem scPlanInit : FnScope nPlanInit ["self", "deeds"] (defScope sPlanInit) := ⟨rfl, rfl, rfl, by decide +kernel, rfl, by decide +kernel, by decide +kernel⟩
abbrev sPlanDeeds : Stmt := inClass (topS 19) 7
abbrev nPlanDeeds : List Str := ["self"]
theorem scPlanDeeds : FnScope nPlanDeeds ["self"] (defScope sPlanDeeds) := ⟨rfl, rfl, rfl, by decide +kernel, rfl, by decide +kernel, by decide +kernel⟩
abbrev sReadNumber : Stmt := topS 21
abbrev nReadNumber : List Str := ["word", "digits"]
theorem scReadNumber : FnScope nReadNumber ["word"] (defScope sReadNumber) := ⟨rfl, rfl, rfl, by decide +kernel, rfl, by decide +kernel, by decide +kernel⟩
abbrev sReadPlain : Stmt := topS 22
abbrev nReadPlain : List Str := ["line", "words"]
theorem scReadPlain : FnScope nReadPlain ["line"] (defScope sReadPlain) := ⟨rfl, rfl, rfl, by decide +kernel, rfl, by decide +kernel, by decide +kernel⟩
abbrev sReadDeed : Stmt := topS 23
abbrev nReadDeed : List Str := ["line", "head", "parted", "rest", "words", "first", "window", "what"]
theorem scReadDeed : FnScope nReadDeed ["line"] (defScope sReadDeed) := ⟨rfl, rfl, rfl, by decide +kernel, rfl, by decide +kernel, by decide +kernel⟩
abbrev sReadPlan : Stmt := topS 24
abbrev nReadPlan : List Str := ["text", "deeds", "line", "deed"]
theorem scReadPlan : FnScope nReadPlan ["text"] (defScope sReadPlan) := ⟨rfl, rfl, rfl, by decide +kernel, rfl, by decide +kernel, by decide +kernel⟩
abbrev sLPot : Stmt := topS 26
abbrev nLPot : List Str := ["_law_script", "_law_k", "_law_cell"]
theorem scLPot : FnScope nLPot ["_law_script", "_law_k"] (defScope sLPot) := ⟨rfl, rfl, rfl, by decide +kernel, rfl, by decide +kernel, by decide +kernel⟩
abbrev sLDip : Stmt := topS 27
abbrev nLDip : List Str := ["_law_pot_here", "_law_many", "_law_found", "_law_mixed"]
theorem scLDip : FnScope nLDip ["_law_pot_here", "_law_many"] (defScope sLDip) := ⟨rfl, rfl, rfl, by decide +kernel, rfl, by decide +kernel, by decide +kernel⟩
abbrev sLThing : Stmt := topS 28
abbrev nLThing : List Str := ["_law_pot_here", "_law_some", "_law_size", "_law_k"]
theorem scLThing : FnScope nLThing ["_law_pot_here"] (defScope sLThing) := ⟨rfl, rfl, rfl, by decide +kernel, rfl, by decide +kernel, by decide +kernel⟩
abbrev sLPlain : Stmt := topS 29
abbrev nLPlain : List Str := ["_law_pot_here", "_law_way", "_law_window", "_law_number", "_law_step"]
theorem scLPlain : FnScope nLPlain ["_law_pot_here"] (defScope sLPlain) := ⟨rfl, rfl, rfl, by decide +kernel, rfl, by decide +kernel, by decide +kernel⟩
abbrev sLDeed : Stmt := topS 30
abbrev nLDeed : List Str := ["_law_pot_here", "_law_way", "_law_window", "_law_what"]
theorem scLDeed : FnScope nLDeed ["_law_pot_here"] (defScope sLDeed) := ⟨rfl, rfl, rfl, by decide +kernel, rfl, by decide +kernel, by decide +kernel⟩
abbrev sLDeeds : Stmt := topS 31
abbrev nLDeeds : List Str := ["_law_pot_here", "_law_most", "_law_k"]
theorem scLDeeds : FnScope nLDeeds ["_law_pot_here", "_law_most"] (defScope sLDeeds) := ⟨rfl, rfl, rfl, by decide +kernel, rfl, by decide +kernel, by decide +kernel⟩
abbrev sLAlike : Stmt := topS 32
abbrev nLAlike : List Str := ["_law_found", "_law_due", "_law_k"]
theorem scLAlike : FnScope nLAlike ["_law_found", "_law_due"] (defScope sLAlike) := ⟨rfl, rfl, rfl, by decide +kernel, rfl, by decide +kernel, by decide +kernel⟩
abbrev sLLine : Stmt := topS 33
abbrev nLLine : List Str := ["_law_deed_here", "_law_part"]
theorem scLLine : FnScope nLLine ["_law_deed_here"] (defScope sLLine) := ⟨rfl, rfl, rfl, by decide +kernel, rfl, by decide +kernel, by decide +kernel⟩
abbrev sLText : Stmt := topS 34
abbrev nLText : List Str := ["_law_row", "_law_deed_here"]
theorem scLText : FnScope nLText ["_law_row"] (defScope sLText) := ⟨rfl, rfl, rfl, by decide +kernel, rfl, by decide +kernel, by decide +kernel⟩
abbrev sLIsName : Stmt := topS 35
abbrev nLIsName : List Str := ["_law_word_here", "_law_letters", "_law_sign_here"]
theorem scLIsName : FnScope nLIsName ["_law_word_here"] (defScope sLIsName) := ⟨rfl, rfl, rfl, by decide +kernel, rfl, by decide +kernel, by decide +kernel⟩
abbrev sLPlainOf : Stmt := topS 36
abbrev nLPlainOf : List Str := ["_law_parts", "_law_sizes", "_law_most", "_law_numbers", "_law_k"]
theorem scLPlainOf : FnScope nLPlainOf ["_law_parts"] (defScope sLPlainOf) := ⟨rfl, rfl, rfl, by decide +kernel, rfl, by decide +kernel, by decide +kernel⟩
abbrev sLDeedOf : Stmt := topS 37
abbrev nLDeedOf : List Str := ["_law_line_here", "_law_parts", "_law_what", "_law_deed_here"]
theorem scLDeedOf : FnScope nLDeedOf ["_law_line_here"] (defScope sLDeedOf) := ⟨rfl, rfl, rfl, by decide +kernel, rfl, by decide +kernel, by decide +kernel⟩
abbrev sLRead : Stmt := topS 38
abbrev nLRead : List Str := ["_law_page", "_law_lines", "_law_found", "_law_k", "_law_deed_here"]
theorem scLRead : FnScope nLRead ["_law_page"] (defScope sLRead) := ⟨rfl, rfl, rfl, by decide +kernel, rfl, by decide +kernel, by decide +kernel⟩
abbrev sLSign : Stmt := topS 39
abbrev nLSign : List Str := ["_law_pot_here", "_law_signs"]
theorem scLSign : FnScope nLSign ["_law_pot_here"] (defScope sLSign) := ⟨rfl, rfl, rfl, by decide +kernel, rfl, by decide +kernel, by decide +kernel⟩
abbrev sLWord : Stmt := topS 40
abbrev nLWord : List Str := ["_law_pot_here", "_law_some"]
theorem scLWord : FnScope nLWord ["_law_pot_here"] (defScope sLWord) := ⟨rfl, rfl, rfl, by decide +kernel, rfl, by decide +kernel, by decide +kernel⟩
abbrev sLLinesChanged : Stmt := topS 41
abbrev nLLinesChanged : List Str := ["_law_pot_here", "_law_lines", "_law_way", "_law_spot", "_law_found", "_law_other"]
theorem scLLinesChanged : FnScope nLLinesChanged ["_law_pot_here", "_law_lines"] (defScope sLLinesChanged) := ⟨rfl, rfl, rfl, by decide +kernel, rfl, by decide +kernel, by decide +kernel⟩
abbrev sLChanged : Stmt := topS 42
abbrev nLChanged : List Str := ["_law_pot_here", "_law_page", "_law_way", "_law_spot", "_law_two", "_law_lines", "_law_at", "_law_words"]
theorem scLChanged : FnScope nLChanged ["_law_pot_here", "_law_page"] (defScope sLChanged) := ⟨rfl, rfl, rfl, by decide +kernel, rfl, by decide +kernel, by decide +kernel⟩
abbrev sLTold : Stmt := topS 43
abbrev nLTold : List Str := ["_law_thing_here", "_law_made", "_law_found", "e"]
theorem scLTold : FnScope nLTold ["_law_thing_here"] (defScope sLTold) := ⟨rfl, rfl, rfl, by decide +kernel, rfl, by decide +kernel, by decide +kernel⟩
abbrev sLRight : Stmt := topS 44
abbrev nLRight : List Str := ["_law_pot_here", "_law_row", "_law_good", "_law_pages", "_law_page", "_law_lap", "_law_thing_here"]
theorem scLRight : FnScope nLRight ["_law_pot_here"] (defScope sLRight) := ⟨rfl, rfl, rfl, by decide +kernel, rfl, by decide +kernel, by decide +kernel⟩
abbrev sLaw : Stmt := topS 45
abbrev nLaw : List Str := ["_law_script", "_law_k"]
theorem scLaw : FnScope nLaw ["_law_script"] (defScope sLaw) := ⟨rfl, rfl, rfl, by decide +kernel, rfl, by decide +kernel, by decide +kernel⟩
/-! the defs as data -/
def dNoDeedInit : He.DefD := ⟨("NoDeed", some "__init__"), "__init__", "NoDeed.__init__", defArgs sNoDeedInit, defBody sNoDeedInit, defScope sNoDeedInit, [], []⟩
def dNoTextInit : He.DefD := ⟨("NoText", some "__init__"), "__init__", "NoText.__init__", defArgs sNoTextInit, defBody sNoTextInit, defScope sNoTextInit, [], []⟩
def dIsWhole : He.DefD := ⟨("is_whole", none), "is_whole", "is_whole", defArgs sIsWhole, defBody sIsWhole, defScope sIsWhole, [], []⟩
def dIsThing : He.DefD := ⟨("is_thing", none), "is_thing", "is_thing", defArgs sIsThing, defBody sIsThing, defScope sIsThing, [], []⟩
def dIsWindow : He.DefD := ⟨("is_window", none), "is_window", "is_window", defArgs sIsWindow, defBody sIsWindow, defScope sIsWindow, [], []⟩
def dIsLength : He.DefD := ⟨("is_length", none), "is_length", "is_length", defArgs sIsLength, defBody sIsLength, defScope sIsLength, [], []⟩
def dIsPlainDeed : He.DefD := ⟨("is_plain_deed", none), "is_plain_deed", "is_plain_deed", defArgs sIsPlainDeed, defBody sIsPlainDeed, defScope sIsPlainDeed, [], []⟩
def dIsDeed : He.DefD := ⟨("is_deed", none), "is_deed", "is_deed", defArgs sIsDeed, defBody sIsDeed, defScope sIsDeed, [], []⟩
def dPlanInit : He.DefD := ⟨("Plan", some "__init__"), "__init__", "Plan.__init__", defArgs sPlanInit, defBody sPlanInit, defScope sPlanInit, [.adr (He.dflAt ("Plan", some "__init__") 0)], []⟩
def dPlanDeeds : He.DefD := ⟨("Plan", some "deeds"), "deeds", "Plan.deeds", defArgs sPlanDeeds, defBody sPlanDeeds, defScope sPlanDeeds, [], []⟩
def dReadNumber : He.DefD := ⟨("read_number", none), "read_number", "read_number", defArgs sReadNumber, defBody sReadNumber, defScope sReadNumber, [], []⟩
def dReadPlain : He.DefD := ⟨("read_plain", none), "read_plain", "read_plain", defArgs sReadPlain, defBody sReadPlain, defScope sReadPlain, [], []⟩
def dReadDeed : He.DefD := ⟨("read_deed", none), "read_deed", "read_deed", defArgs sReadDeed, defBody sReadDeed, defScope sReadDeed, [], []⟩
def dReadPlan : He.DefD := ⟨("read_plan", none), "read_plan", "read_plan", defArgs sReadPlan, defBody sReadPlan, defScope sReadPlan, [], []⟩
def dLPot : He.DefD := ⟨("_law_pot", none), "_law_pot", "_law_pot", defArgs sLPot, defBody sLPot, defScope sLPot, [], []⟩
def dLDip : He.DefD := ⟨("_law_dip", none), "_law_dip", "_law_dip", defArgs sLDip, defBody sLDip, defScope sLDip, [], []⟩
def dLThing : He.DefD := ⟨("_law_thing", none), "_law_thing", "_law_thing", defArgs sLThing, defBody sLThing, defScope sLThing, [], []⟩
def dLPlain : He.DefD := ⟨("_law_plain", none), "_law_plain", "_law_plain", defArgs sLPlain, defBody sLPlain, defScope sLPlain, [], []⟩
def dLDeed : He.DefD := ⟨("_law_deed", none), "_law_deed", "_law_deed", defArgs sLDeed, defBody sLDeed, defScope sLDeed, [], []⟩
def dLDeeds : He.DefD := ⟨("_law_deeds", none), "_law_deeds", "_law_deeds", defArgs sLDeeds, defBody sLDeeds, defScope sLDeeds, [], []⟩
def dLAlike : He.DefD := ⟨("_law_alike", none), "_law_alike", "_law_alike", defArgs sLAlike, defBody sLAlike, defScope sLAlike, [], []⟩
def dLLine : He.DefD := ⟨("_law_line", none), "_law_line", "_law_line", defArgs sLLine, defBody sLLine, defScope sLLine, [], []⟩
def dLText : He.DefD := ⟨("_law_text", none), "_law_text", "_law_text", defArgs sLText, defBody sLText, defScope sLText, [], []⟩
def dLIsName : He.DefD := ⟨("_law_is_name", none), "_law_is_name", "_law_is_name", defArgs sLIsName, defBody sLIsName, defScope sLIsName, [], []⟩
def dLPlainOf : He.DefD := ⟨("_law_plain_of", none), "_law_plain_of", "_law_plain_of", defArgs sLPlainOf, defBody sLPlainOf, defScope sLPlainOf, [], []⟩
def dLDeedOf : He.DefD := ⟨("_law_deed_of", none), "_law_deed_of", "_law_deed_of", defArgs sLDeedOf, defBody sLDeedOf, defScope sLDeedOf, [], []⟩
def dLRead : He.DefD := ⟨("_law_read", none), "_law_read", "_law_read", defArgs sLRead, defBody sLRead, defScope sLRead, [], []⟩
def dLSign : He.DefD := ⟨("_law_sign", none), "_law_sign", "_law_sign", defArgs sLSign, defBody sLSign, defScope sLSign, [], []⟩
def dLWord : He.DefD := ⟨("_law_word", none), "_law_word", "_law_word", defArgs sLWord, defBody sLWord, defScope sLWord, [], []⟩
def dLLinesChanged : He.DefD := ⟨("_law_lines_changed", none), "_law_lines_changed", "_law_lines_changed", defArgs sLLinesChanged, defBody sLLinesChanged, defScope sLLinesChanged, [], []⟩
def dLChanged : He.DefD := ⟨("_law_changed", none), "_law_changed", "_law_changed", defArgs sLChanged, defBody sLChanged, defScope sLChanged, [], []⟩
def dLTold : He.DefD := ⟨("_law_told", none), "_law_told", "_law_told", defArgs sLTold, defBody sLTold, defScope sLTold, [], []⟩
def dLRight : He.DefD := ⟨("_law_right", none), "_law_right", "_law_right", defArgs sLRight, defBody sLRight, defScope sLRight, [], []⟩
def dLaw : He.DefD := ⟨("law", none), "law", "law", defArgs sLaw, defBody sLaw, defScope sLaw, [], []⟩
def fn : List He.DefD := [dNoDeedInit, dNoTextInit, dIsWhole, dIsThing, dIsWindow, dIsLength, dIsPlainDeed, dIsDeed, dPlanInit, dPlanDeeds, dReadNumber, dReadPlain, dReadDeed, dReadPlan, dLPot, dLDip, dLThing, dLPlain, dLDeed, dLDeeds, dLAlike, dLLine, dLText, dLIsName, dLPlainOf, dLDeedOf, dLRead, dLSign, dLWord, dLLinesChanged, dLChanged, dLTold, dLRight, dLaw]
/-! ### the head's facts -/
def fa : List He.Fa := [.glo "is_whole", .glo "is_thing", .glo "is_window", .glo "is_length", .glo "is_plain_deed", .glo "is_deed", .glo "Plan", .glo "NoDeed", .glo "NoText", .glo "read_number", .glo "read_plain", .glo "read_deed", .glo "read_plan",
  .glo "_law_pot", .glo "_law_dip", .glo "_law_thing", .glo "_law_plain", .glo "_law_deed", .glo "_law_deeds", .glo "_law_alike", .glo "_law_line", .glo "_law_text", .glo "_law_is_name", .glo "_law_plain_of", .glo "_law_deed_of", .glo "_law_read",
  .glo "_law_sign", .glo "_law_word", .glo "_law_lines_changed", .glo "_law_changed", .glo "_law_told", .glo "_law_right", .glo "law"]
def fb : List He.Fa := [.glo "WINDOWS", .free "len", .free "isinstance", .free "int", .free "bool", .free "str", .free "tuple", .free "list", .free "range", .free "enumerate", .free "all", .free "abs", .free "max", .free "min"]
def fc : List He.Fa := [.int "LONGEST_THING" 8, .int "GREATEST_PULL" 40, .int "GREATEST_STEP" 6, .int "MOST_DEEDS" 12, .str "LETTERS" "abcdefghijklmnopqrstuvwxyz",
  .cls "Plan", .noat "Plan" "kept", .meth "Plan" "deeds", .mkr "Plan", .exm "NoText" "NoText" true, .exm "NoDeed" "NoText" false, .exm "NoDeed" "NoDeed" true]
/-- an exception class of the text, over ValueError, with its own maker -/
def oeB (K : PySem.W.Frag) (C : Addr) : Bool := match K.lookup C with
  | some ⟨.type "type", _, .cls cd, sl⟩ => (match cd.mro, sl.toList with
    | .ref D :: bm, [_, _, _, _, some (.builtin n), _] => decide (D = C) && (decide (n = "ValueError.__new__") && (!cd.hasDel && (cd.hasDict && PySem.HandSPX.refsVE bm)))
    | _, _ => false)
  | _ => false
theorem oeB_ok {K : PySem.W.Frag} {C : Addr} (h : oeB K C = true) : ∃ nm q N bs bm sn sub ab col dd k0 k1 k2 k3 k5, K.lookup C = some (excClassObj nm q C N bs bm true sn sub ab col dd k0 k1 k2 k3 k5 "ValueError.__new__") ∧ PySem.HandSPX.refsVE bm = true := by
  unfold oeB at h
  split at h
  · rename_i dd cd sl ho
    split at h
    · rename_i D bm k0 k1 k2 k3 n k5 hm hs
      obtain ⟨h1, h⟩ := He.ba h
      obtain ⟨h2, h⟩ := He.ba h
      obtain ⟨h3, h⟩ := He.ba h
      obtain ⟨h4, h5⟩ := He.ba h
      have e1 : D = C := of_decide_eq_true h1
      have e2 : n = "ValueError.__new__" := of_decide_eq_true h2
      have e3 : cd.hasDel = false := by simpa using h3
      subst e1 e2
      obtain ⟨nm, bs, mro, ns, qn, hd, sn, sb, ab, col, del⟩ := cd
      dsimp only at hm h4 e3
      subst hm h4 e3
      have hsl : sl = #[k0, k1, k2, k3, some (.builtin "ValueError.__new__"), k5] := by
        obtain ⟨l⟩ := sl
        simp only at hs
        rw [hs]
      subst hsl
      exact ⟨nm, qn, ns, bs, bm, sn, sb, ab, col, dd, k0, k1, k2, k3, k5, ho, h5⟩
    · cases h
  · cases h
/-- all that raising, catching and reading such an error asks; f its field -/
def erB (K : PySem.W.Frag) (C : Addr) (f : Str) : Bool := oeB K C && (He.eqO (PySem.W.findIn K (.ref C) "__setattr__") (some (some (.builtin "object.__setattr__"))) && (decide (PySem.W.subIn K (.ref C) (.type "BaseException") = some true) &&
  (decide (PySem.W.typeIn K (.ref C) = some (.type "type")) && (PySem.W.keepIn K (.ref C) && (xfB K C && (He.eqO (PySem.W.findIn K (.ref C) f) (some none) &&
  (He.eqO (PySem.W.findIn K (.ref C) "__init__") (some (some (.ref (He.ma K C "__init__")))) && decide (PySem.W.typeIn K (.ref (He.ma K C "__init__")) = some (.type "function")))))))))
structure Err (K : PySem.W.Frag) (C : Addr) (f : Str) : Prop where
  oex : OexC K C
  xf : XfC K C
  no : PySem.W.findIn K (.ref C) f = some none
  ini : PySem.W.findIn K (.ref C) "__init__" = some (some (.ref (He.ma K C "__init__")))
  tyI : PySem.W.typeIn K (.ref (He.ma K C "__init__")) = some (.type "function")
theorem erB_ok {K : PySem.W.Frag} {C : Addr} {f : Str} (h : erB K C f = true) : Err K C f := by
  obtain ⟨h1, h⟩ := He.ba h
  obtain ⟨h2, h⟩ := He.ba h
  obtain ⟨h3, h⟩ := He.ba h
  obtain ⟨h4, h⟩ := He.ba h
  obtain ⟨h5, h⟩ := He.ba h
  obtain ⟨h6, h⟩ := He.ba h
  obtain ⟨h7, h⟩ := He.ba h
  obtain ⟨h8, h9⟩ := He.ba h
  exact ⟨⟨oeB_ok h1, He.eqO_ok h2, of_decide_eq_true h3, of_decide_eq_true h4, h5⟩, xfB_ok h6, He.eqO_ok h7, He.eqO_ok h8, of_decide_eq_true h9⟩
/-- the empty tuple that is the default of Plan's maker -/
def dfA (K : PySem.W.Frag) : Addr := He.dflAt ("Plan", some "__init__") 0 K
def emB (K : PySem.W.Frag) (a : Addr) : Bool := match K.lookup a with
  | some ⟨.type c, _, .seq its _, _⟩ => decide (c = "tuple") && decide (its = #[])
  | _ => false
theorem emB_ok {K : PySem.W.Frag} {a : Addr} (h : emB K a = true) : (∀ H : Hp, SqT K H a []) ∧ ∃ o, K.lookup a = some o ∧ o.cls = .type "tuple" := by
  unfold emB at h
  split at h
  · rename_i c dd its n sl ho
    obtain ⟨h1, h2⟩ := He.ba h
    have e1 : c = "tuple" := of_decide_eq_true h1
    have e2 : its = #[] := of_decide_eq_true h2
    subst e1 e2
    exact ⟨fun H => .inr ⟨_, #[], n, ho, rfl, rfl, Nat.zero_le _, .nil⟩, ⟨_, ho, rfl⟩⟩
  · cases h
def exB (K : PySem.W.Frag) : Bool := erB K (He.ga K "NoDeed") "index" && (erB K (He.ga K "NoText") "line" && (emB K (dfA K) && He.tupB K "WINDOWS" [.str "near", .str "far"]))
/-! ### the Hook: the facts by names, and one Bool more -/
abbrev AlM : Type := He.AlD × Bool
def obsM (fs : List He.Fa) (ds : List He.DefD) (K : PySem.W.Frag) : AlM := (He.obsD fs ds K, exB K)
def obsMG (n : Nat) (fs : List He.Fa) (ds : List He.DefD) (g : Addr → Option Obj) : AlM := obsM fs ds (He.frG g (He.asD g n))
def hookM (n : Nat) (fs : List He.Fa) (ds : List He.DefD) : PySem.W.Hook where
  α := AlM
  obs := fun s => obsMG n fs ds s.heap.get?
  val := fun _ => (He.valD ds, true)
  says := fun _ h => ∃ K : PySem.W.Frag, K.In h ∧ obsM fs ds K = (He.valD ds, true)
  of := fun _ _ e => ⟨_, He.frG_in, e⟩
  keeps := fun _ _ _ ⟨K, hK, c⟩ k => ⟨K, PySem.W.Frag.In.keeps hK k, c⟩
abbrev R : PySem.W.OpenRow := PySem.W.OpenLaw.row row
abbrev hk : PySem.W.Hook := hookM 5 (fa ++ (fb ++ fc)) fn
def ob (s : PySem.W.SharedT) : AlM := obsMG 5 (fa ++ (fb ++ fc)) fn (HandSHeadRun.getT s)
theorem ob_eq (s : PySem.W.SharedT) : ob s = hk.obs s.abs := by
  have e : HandSHeadRun.getT s = s.abs.heap.get? := funext (HandSHeadRun.getT_eq s)
  show obsMG 5 (fa ++ (fb ++ fc)) fn (HandSHeadRun.getT s) = obsMG 5 (fa ++ (fb ++ fc)) fn s.abs.heap.get?
  rw [e]
end RL

-- part K1
set_option Elab.async false
set_option linter.all false
set_option maxRecDepth 100000
set_option maxHeartbeats 4000000
/-! Further rules: a power of a great int, one sign times a number, enumerate of a tuple, try with two clauses that name the error. -/
namespace RL
open PySem PySem.Spec PyProof.Rows L2

/-! ### powers -/
section
variable {X : Cx}
theorem op_powW : OpR X (binaryOp .Pow) (rI (fun i j => 0 ≤ j ∧ j ≤ 1000 ∧ i.natAbs < 2 ^ 1000) fun i j => .int (i ^ j.toNat)) :=
  opI fun i j _ _ _ _ _ hc q => by
    refine pow_int hc.1 ?_ q
    have hb : Builtin.Int.intBits i ≤ 1000 := intBits_le hc.2.2
    have h1 : (Builtin.Int.intBits i : Int) ≤ 1000 := by omega
    calc (Builtin.Int.intBits i : Int) * j ≤ 1000 * 1000 := Int.mul_le_mul h1 hc.2.1 hc.1 (by decide)
      _ ≤ 2 ^ 27 := by decide

/-! ### one sign, many times -/
theorem foldl_cat (c : Nat) : ∀ (n : Nat) (acc : Array Nat), ((List.replicate n #[c]).foldl (· ++ ·) acc).toList = acc.toList ++ List.replicate n c
  | 0, acc => by simp
  | n + 1, acc => by
    rw [List.replicate_succ, List.foldl_cons, foldl_cat c n]
    simp [List.replicate_succ]
def rTimes (c : Nat) : R2 := fun x y H Q => ∃ n : Int, x = .str ⟨#[c]⟩ ∧ y = .int n ∧ 0 ≤ n ∧ n ≤ 1000 ∧ ∀ z : Str, z.cps.toList = List.replicate n.toNat c → Q (.str z) H
theorem op_times (c : Nat) : OpR X (binaryOp .Mult) (rTimes c) := by
  intro pins s σ H x y v u Q I rx ry h
  obtain ⟨n, rfl, rfl, h0, h1, q⟩ := h
  obtain ⟨t, rfl⟩ := rx
  obtain ⟨t', rfl⟩ := ry
  have hl1 : (⟨#[c]⟩ : Str).length = 1 := rfl
  refine P.mul_str ?_ (fun hn _ => ?_) (fun hn _ => ?_) ?_
  · rw [decide_eq_false (by omega), decide_eq_false (by omega)] <;> rfl
  · rw [hl1]
    have e1 : (2 ^ 63 - 1 : Int) / n ≥ 1 := by
      refine (Int.le_ediv_iff_mul_le (by omega)).mpr ?_
      omega
    omega
  · rw [hl1, Nat.one_mul]
    exact decide_eq_false (by rw [sizeLine_eq]; omega)
  · by_cases z : n < 1
    · rw [if_pos z]
      have e : n = 0 := by omega
      subst e
      exact ⟨by decide, ⟨.str Str.empty, H, I.tok _, ⟨_, rfl⟩, q _ rfl⟩⟩
    · rw [if_neg z]
      by_cases e1 : n = 1
      · subst e1
        rw [if_pos (by rw [hl1] <;> rfl)]
        exact ⟨.str ⟨#[c]⟩, H, I, ⟨_, rfl⟩, q _ rfl⟩
      · have ee : (n == 1 || (⟨#[c]⟩ : Str).length == 0) = false := by
          rw [hl1]
          simp [e1]
        rw [if_neg (by rw [ee]; exact Bool.false_ne_true)]
        have ez : ((List.replicate n.toNat (⟨#[c]⟩ : Str).cps).foldl (· ++ ·) #[]).toList = List.replicate n.toNat c := by
          have := foldl_cat c n.toNat #[]
          simpa using this
        refine ⟨?_, ⟨.str _, H, I.tok _, ⟨_, rfl⟩, q _ ez⟩⟩
        have hz : (⟨(List.replicate n.toNat (⟨#[c]⟩ : Str).cps).foldl (· ++ ·) #[]⟩ : Str).length = n.toNat := by
          rw [TL.len_tl]
          show ((List.replicate n.toNat (⟨#[c]⟩ : Str).cps).foldl (· ++ ·) #[]).toList.length = _
          rw [ez, List.length_replicate]
        first
          | (rw [hz]; exact decide_eq_true (by omega))
          | (show _ ≤ sizeLine; rw [hz, sizeLine_eq]; omega)
          | (simp only [hz]; omega)
end

/-! ### enumerate(t), t a tuple -/
set_option maxHeartbeats 4000000 in
theorem meets_enumT (a : Addr) (items : Array Value) :
    Meets (Builtin.«enumerate.__new__» ⟨[.type "enumerate", .ref a], []⟩) (fun _ R s => s.heap.IsTuple a items ∧
      R (.ok (.ret (.ref (s.heap.push { cls := .type "tuple_iterator", data := .fields #[.ref a, .int 0 0] }).objs.size)))
        { s with heap := (s.heap.push { cls := .type "tuple_iterator", data := .fields #[.ref a, .int 0 0] }).push { cls := .type "enumerate", data := .fields #[.none, .bool false, .ref s.heap.objs.size, rawInt 0, .none, .none] } }) :=
  .of_wp fun prog w A R s h => by
    obtain ⟨hp, g, d, tk, os⟩ := s
    obtain ⟨h1, h2⟩ := h
    have subE := sub_enumerate
    have toIt : ∀ {A' : Around} {E : Value → Shared → Prop} {Q : Value → Shared → Prop}, Q (.ref hp.objs.size) ⟨hp.push { cls := .type "tuple_iterator", data := .fields #[.ref a, .int 0 0] }, g, d, tk, os⟩ →
        wpAny (model prog w) A' (pyIter (.ref a)) Q E ⟨hp, g, d, tk, os⟩ := fun z => wpAny_pyIter_tuple h1 z
    wp_walk using toIt
    refine wpAny_stack_any fun st => wpAny_pure ?_
    split
    · rename_i c _ _ _ _ _
      cases c == Value.type "enumerate" <;> (wp_walk using toIt; exact ⟨_, rfl, h2⟩)
    · wp_walk using toIt
      exact ⟨_, rfl, h2⟩
theorem call_enumT {prog : Program} {w : World} {A : Around} {E : Value → Shared → Prop} {s : Shared} {a : Addr} {items : Array Value} {Q : Value → Shared → Prop} (ht : s.heap.IsTuple a items)
    (h : ∀ h', IsEnum h' (s.heap.objs.size + 1) s.heap.objs.size 0 .none → h'.IsTupleIter s.heap.objs.size a 0 → (∀ b o, s.heap.get? b = some o → h'.get? b = some o) →
      Q (.ref (s.heap.objs.size + 1)) { s with heap := h' }) : wpAny (model prog w) A (call (.type "enumerate") [.ref a]) Q E s := by
  refine callType_new F.called_enumerate (by decide) (F.typeCall_enumerate_1 _) (F.newCall_enumerate_1 _) (fun ob => F.args_object_init_2 ob _) F.entry_enumerate_new (meets_enumT a items) ⟨ht, ?_⟩
  have e1 : (s.heap.push { cls := .type "tuple_iterator", data := .fields #[.ref a, .int 0 0] }).objs.size = s.heap.objs.size + 1 := Heap.size_push ..
  show _ ∧ _
  rw [e1]
  have en := Heap.get?_push_size (s.heap.push { cls := .type "tuple_iterator", data := .fields #[.ref a, .int 0 0] })
    (o := { cls := .type "enumerate", data := .fields #[.none, .bool false, .ref s.heap.objs.size, rawInt 0, .none, .none] }) rfl
  rw [e1] at en
  exact ⟨⟨_, en, rfl⟩, h _ en ⟨_, Heap.get?_push_of_some _ (Heap.get?_push_size _ rfl), rfl, rfl⟩ fun b o z => Heap.get?_push_of_some _ (Heap.get?_push_of_some _ z)⟩
/-- the tuple at a as it stands, each item in a new pair with its place -/
def ItE (K : PySem.W.Frag) (a : Addr) : It where
  go := fun i H => ∃ (xs : List V) (x : V), SqT K H a xs ∧ xs[i]? = some x
  yld := fun i H v H' => ∃ T x, v = .ref T ∧ H T = none ∧ H' = upd H T (.tup [.int (i : Nat), x]) ∧ ∀ xs, SqT K H a xs → xs[i]? = some x
  stop := fun i H => ∃ xs : List V, SqT K H a xs ∧ xs.length = i
theorem turn_enumT {P : Program} {w : World} {K : PySem.W.Frag} {elts : List Expr} {kk : Nat} {tpos : Pos} (a e it : Addr) :
    Turn P w K (.Tuple elts kk tpos) (ItE K a) [e, it] e (fun i h => (∃ old, IsEnum h e it ((i : Nat) : Int) old) ∧ h.IsTupleIter it a i ∧ e ≠ it ∧ a ≠ it ∧ a ≠ e) where
  mem := by simp
  obj := fun i h st b hb => by
    obtain ⟨⟨old, he⟩, ⟨o, ho, hc, hd⟩, _⟩ := st
    rcases (show b = e ∨ b = it by simpa using hb) with z | z
    · rw [z]; exact ⟨_, he, fun v q => nomatch q⟩
    · rw [z]; exact ⟨o, ho, fun v q => by rw [hd] at q; cases q⟩
  keep := fun i h h' st k => by
    obtain ⟨⟨old, he⟩, hi, hne⟩ := st
    exact ⟨⟨old, k e (by simp) _ he⟩, hi.at fun o q => k it (by simp) o q, hne⟩
  item := by
    intro X hP hw hK hc i pins s σ H E I hf st hg
    subst hP hw hK
    obtain ⟨⟨old, he⟩, hit, hne, nai, nae⟩ := st
    obtain ⟨xs, x, hq, hx⟩ := hg
    obtain ⟨its, rv, p, hz⟩ := I.tuple hq
    have hl := rv.length
    have hi : i < its.length := by
      rw [← hl]
      exact (List.getElem?_eq_some_iff.mp hx).1
    have hel : e < s.heap.objs.size := Heap.lt_size he
    have hil : it < s.heap.objs.size := by obtain ⟨_, q, _⟩ := hit; exact Heap.lt_size q
    have D := Draws.tuple (prog := X.prog) (w := X.w) (A := X.A.in1) (show X.A.in1.handled = none from I.ok.hd hc) it a nai its.toArray
    refine wpAny_pyNext_enum_itemD D he ⟨hit, show s.heap.IsTuple a its.toArray from p⟩ (by simpa using hi) hne (by simp [hne, Ne.symm nae]) fun u h1 tk hu ho hst hT hsz hk => ?_
    obtain ⟨u2, hu2, ru⟩ := rv.get hx
    have eu : u = u2 := by
      have z : its.toArray[i]? = some u := hu
      rw [List.getElem?_toArray, hu2] at z
      exact (Option.some.inj z).symm
    subst eu
    refine ⟨_, rfl, wpAny_letOwnedTupleGo_enum (s := { s with heap := h1, toks := tk + 1 }) ho fun h2 he2 sb => ?_⟩
    have hT2 : h2.get? s.heap.objs.size = some { cls := .type "tuple", data := .seq #[.int i tk, u] } := (sb.2 _ (Nat.ne_of_gt hel)).trans hT
    have new : ObjOk X.prog X.w (upd H s.heap.objs.size (.tup [.int (i : Nat), x])) h2 s.heap.objs.size (.tup [.int (i : Nat), x]) :=
      ⟨by show 2 ≤ sizeLine; decide, [.int i tk, u], .cons ⟨_, rfl⟩ (.cons ru .nil), ⟨_, hT2, rfl, _, rfl⟩⟩
    have I1 : Inv X pins σ (upd H s.heap.objs.size (.tup [.int (i : Nat), x])) { s with heap := h2, toks := tk + 1 } :=
      I.turnedNew (ch := [e, it]) (fun b ob hb q => (sb.2 b (fun z => hb (by simp [z]))).trans (hk b ob (fun z => hb (by simp [z])) (fun z => hb (by simp [z])) q)) hf (Nat.le_refl _) new
    refine ⟨.ref s.heap.objs.size, _, I1, rfl, ⟨_, x, rfl, I.hok.fresh (Nat.le_refl _), rfl, fun ys hy => by rw [I.tuple_inj hy hq]; exact hx⟩, ⟨⟨u, ?_⟩, hst.1.at fun o q => (sb.2 it (Ne.symm hne)).trans q, hne, nai, nae⟩, fun b hb => ?_⟩
    · rw [show ((i + 1 : Nat) : Int) = (i : Int) + 1 by omega]
      exact he2
    · have hb' : b < s.heap.objs.size := by
        rcases (show b = e ∨ b = it by simpa using hb) with z | z
        · rw [z]; exact hel
        · rw [z]; exact hil
      rw [upd_ne (Nat.ne_of_lt hb')]
      exact (hf b hb).1
  done := by
    intro X hP hw hK hc i pins s σ H E I hf st hg
    subst hP hw hK
    obtain ⟨⟨old, he⟩, hit, hne, nai, nae⟩ := st
    obtain ⟨xs, hq, hx⟩ := hg
    obtain ⟨its, rv, p, hz⟩ := I.tuple hq
    obtain ⟨f0, f1, f2, f3, f4, f5⟩ := hf it (by simp)
    have hl := rv.length
    have D := Draws.tuple (prog := X.prog) (w := X.w) (A := X.A.in1) (show X.A.in1.handled = none from I.ok.hd hc) it a nai its.toArray
    have ei : i = its.toArray.size := by
      rw [List.size_toArray]
      omega
    exact wpAny_pyNext_enum_endD D he (by rw [← ei]; exact ⟨hit, show s.heap.IsTuple a its.toArray from p⟩) fun h' eb => ⟨rfl, I.turned (t' := s.toks) (fun b o hb q => eb b o hb q) f0 f1 f3 f4 f5⟩
  self := fun A i s Q E st h => by
    obtain ⟨⟨_, he⟩, _⟩ := st
    exact wpAny_pyIter_enum he h
def iEnumT (K : PySem.W.Frag) (ta : TA) : TI := fun σ H R => ta σ H fun vs H1 => ∃ a xs, vs = [.ref a] ∧ SqT K H1 a xs ∧ R (ItE K a) H1
theorem pi_enumT {X : Cx} {e : Expr} {ta : TA} {p pos tpos : Pos} {elts : List Expr} {kk : Nat} (hg : Gl X "enumerate") (hm : X.mg "enumerate" = none) (ha : PA X [e] ta) (hs : starEach [e] X.env = [(false, eval e X.env)] := by rfl) :
    PI X (.Tuple elts kk tpos) (.Call (.Name "enumerate" p) [e] [] pos) (iEnumT X.K ta) := by
  refine ⟨fun pins s σ H R I h => ?_⟩
  refine Call_ (ld_blt I hg hm boot_enumerate (PyProof.Rows.callWith_type1 (thn (ha.run pos pins s σ H _ I h) fun us s1 ⟨vs, H1, I1, r1, q1⟩ => ?_) hs rfl))
  obtain ⟨a, xs, ex, hq, q⟩ := q1
  subst ex
  obtain ⟨u, rfl, ru⟩ := vals1 r1
  cases ru
  obtain ⟨its, rv, tu, hz⟩ := I1.tuple hq
  have tu2 : s1.heap.IsTuple a its.toArray := tu
  have al : a < s1.heap.objs.size := by
    obtain ⟨o, ho, _⟩ := tu2
    exact Heap.lt_size ho
  refine call_enumT tu2 fun h' he hit hk => wpAny_pyIter_enum he ?_
  refine ⟨s1.heap.objs.size + 1, [s1.heap.objs.size + 1, s1.heap.objs.size], _, _, H1, rfl, I1.kept (t' := s1.toks) hk, turn_enumT a (s1.heap.objs.size + 1) s1.heap.objs.size,
    ⟨⟨.none, he⟩, hit, Nat.succ_ne_self _, Nat.ne_of_lt al, Nat.ne_of_lt (Nat.lt_succ_of_lt al)⟩, fun b hb => ?_, q⟩
  have hle : s1.heap.objs.size ≤ b := by
    rcases (show b = s1.heap.objs.size + 1 ∨ b = s1.heap.objs.size by simpa using hb) with z | z
    · rw [z]; exact Nat.le_succ _
    · rw [z]; exact Nat.le_refl _
  exact I1.fpOk hle (I1.hok.fresh hle)

/-! ### try: body, several clauses that name the error, all in one slot i -/
def wTwo (K : PySem.W.Frag) (Wout : WX) (i : Nat) (D : Ends) : List (Value × (Addr → Value → Option Addr → TS)) → WX
  | [] => Wout
  | (c, ts) :: r => fun cls d σ H => ∃ b, PySem.W.exmOne K cls c = some b ∧
      (b = true → ∀ a, H a = none → ts a cls d { nx := fun σ' H' => D.nx (σ'.set i none) H', rt := D.rt, bk := fun σ' H' => D.bk (σ'.set i none) H', ct := fun σ' H' => D.ct (σ'.set i none) H' } (σ.set i (some (.ref a))) H) ∧
      (b = false → wTwo K Wout i D r cls d σ H)
inductive HdsAs (X : Cx) (n : Str) : List ExceptHandler → List (Value × (Addr → Value → Option Addr → TS)) → Prop
  | nil : HdsAs X n [] []
  | cons {x : Str} {c : Value} {ts : Addr → Value → Option Addr → TS} {b0 : Stmt} {suite : List Stmt} {np pos : Pos} {hds : List ExceptHandler} {l : List (Value × (Addr → Value → Option Addr → TS))} (hc : Names X x c)
      (hsu : ∀ (a : Addr) (oe : Obj) (cls : Value) (d : Option Addr) (pn : List (Addr × Obj)), Zc cls d oe → (∃ vs, oe.data = .fields vs) → PSs (X.suite a ((a, oe) :: pn)) (b0 :: suite) (ts a cls d)) (r : HdsAs X n hds l) :
      HdsAs X n (.ExceptHandler (some (.Name x np)) (some n) (b0 :: suite) pos :: hds) ((c, ts) :: l)
section
variable {X : Cx} {n : Str} {i : Nat} {body : List Stmt} {h0 : ExceptHandler} {hds : List ExceptHandler} {l : List (Value × (Addr → Value → Option Addr → TS))} {pos : Pos} {tb : WX → TS} {Wout : WX}
theorem ps_try_two (hs : X.stack = X.env :: X.outer) (hf : X.env.frame = some X.env.locals) (hN : X.N.Nodup) (hi : X.N[i]? = some n) (hln : X.env.kindOf n = some .local) (tk : Takes X Wout)
    (hb : ∀ (W : WX) (pn : List (Addr × Obj)) (xe : Value → Shared → Prop), Takes (X.tr pn xe) W → PassesOwn (model X.prog X.w) X.A X.env xe → PSs (X.tr pn xe) body (tb W))
    (hh : HdsAs X n (h0 :: hds) l) : PS X (.Try body (h0 :: hds) [] [] pos) (fun D σ H => tb (wTwo X.K Wout i D l) D σ H) := by
  refine ⟨fun pins s σ H D I h => ?_⟩
  have ok := I.ok
  have hfr : X.A.frames = some (X.env :: X.outer) := by rw [ok.frames, hs]
  refine wpAny_Try_except ?_
  have caught : ∀ u s', XE (X.tr (X.pn ++ pins) (fun e s1 => wpAny (model X.prog X.w) X.A (noteFrame e X.env) (fun _ s2 => wpAny (model X.prog X.w) X.A (setFlight e none)
      (fun _ s3 => wpAny (model X.prog X.w) X.A (handleBy e X.env (h0 :: hds)) (SP X pins D) X.xe s3) X.xe s2) X.xe s1)) (wTwo X.K Wout i D l) u s' →
      wpAny (model X.prog X.w) X.A (noteFrame u X.env) (fun _ s2 => wpAny (model X.prog X.w) X.A (setFlight u none)
      (fun _ s3 => wpAny (model X.prog X.w) X.A (handleBy u X.env (h0 :: hds)) (SP X pins D) X.xe s3) X.xe s2) X.xe s' := by
    intro u s' xx
    obtain ⟨a, B, sI, pins2, σ2, H2, cls, d, rfl, J2, nb, up, sky, na, os, ag, w⟩ := xx
    have J : Inv X pins σ2 H2 sI := J2.ofTry ok
    have sky2 : Sky B (X.env :: X.outer) a (Zc cls d) X.env.locals s'.heap := by rw [← hs]; exact sky
    refine Sky.land Zc.steady hfr hf sky2 fun h3 fl3 up3 => ?_
    have J3 : Inv X pins σ2 H2 { s' with heap := h3 } := J.landed nb fl3.1 (up.trans up3) os ag
    obtain ⟨oe3, vs3, he3, hz3, hd3⟩ := fl3.there
    have nfr : a ∉ frs (X.env :: X.outer) := fun hm => by
      obtain ⟨_, o', e', hnf⟩ := fl3.2.2.1.mem hm
      rw [he3] at e'
      cases e'
      exact hnf _ hd3
    have nL : a ≠ X.env.locals := fun z => nfr (List.mem_filterMap.mpr ⟨X.env, List.mem_cons_self, by rw [hf, z]⟩)
    have nF : a ∉ X.fs := fun hm => by
      obtain ⟨e, he, q⟩ := List.mem_filterMap.mp hm
      exact nfr (List.mem_filterMap.mpr ⟨e, List.mem_cons_of_mem _ he, q⟩)
    have S3 := J3.suite he3 hd3 na nL nF
    have walk : ∀ {hds2 : List ExceptHandler} {l2 : List (Value × (Addr → Value → Option Addr → TS))}, HdsAs X n hds2 l2 → wTwo X.K Wout i D l2 cls d σ2 H2 →
        wpAny (model X.prog X.w) X.A (handleBy (.ref a) X.env hds2) (SP X pins D) X.xe { s' with heap := h3 } := by
      intro hds2 l2 hk
      induction hk with
      | nil =>
        intro w0
        refine wpAny_handleBy_nil ?_
        obtain ⟨k1, k2, k3, oe, vs, T, oT, ts2, he, hz, hd, h1, hr⟩ := id fl3
        unfold PySem.passOn
        refine wpAny_bind (wpAny_field he hd h1 ?_)
        rw [if_neg (by simp)]
        have fin : wpAny (model X.prog X.w) X.A (setFlight (.ref a) X.env.frame) (fun _ s4 => wpAny (model X.prog X.w) X.A (throw (.ref a) : Sem Flow) (SP X pins D) X.xe s4) X.xe { s' with heap := h3 } := by
          rw [hf]
          refine HandSPX.setFlight_upZ fl3 fun h4 hh4 up4 => wpAny_throw (tk _ _ ?_)
          exact ⟨a, B, sI, pins, σ2, H2, cls, d, rfl, J, nb, (up.trans up3).trans up4, .inr (.inr (by rw [hs]; exact hh4)), na, os, ag, w0⟩
        first
          | exact wpAny_bind (wpAny_pure (wpAny_bind fin))
          | exact wpAny_bind fin
      | @cons x c ts b0 suite np pos2 hds3 l3 hc hsu r ih =>
        intro w0
        obtain ⟨b, hb1, hyes, hno⟩ := w0
        refine wpAny_handleBy_cons (codeAny_handlers_test ?_) (by intro q; cases q)
        have LT : PySem.W.Looks (model X.prog X.w) h3 (typeOf (.ref a)) cls := fun A Q E s k q => wpAny_typeOf_ref (k _ _ he3) (by rw [hz3.1]; exact q)
        have LM := PySem.W.exm_one (M := model X.prog X.w) (J3.kIn) LT hb1
        have named : ∀ {Q : Value → Shared → Prop} {E : Value → Shared → Prop}, Q c { s' with heap := h3 } → wpAny (model X.prog X.w) (X.A.mark (some (.ref a))) (eval (.Name x np) X.env) Q E { s' with heap := h3 } := fun {Q E} q => by
          obtain ⟨hg, hdbg, hm | ⟨hm, hv, hnn⟩⟩ := hc
          · exact ld_glob (X := X.suite a ((a, oe3) :: (X.pn ++ pins))) S3 hg hm q hdbg
          · exact ld_blt (X := X.suite a ((a, oe3) :: (X.pn ++ pins))) S3 hg hm hv q hnn hdbg
        refine named (LM.here ?_)
        cases b with
        | false =>
          show wpAny _ X.A (handleBy (.ref a) X.env hds3) _ _ _
          exact ih (hno rfl)
        | true =>
          refine codeAny_handlers_suite_as ?_
          refine HandSPX.lands_againZ fl3 fun h4 fl4 up4 => ?_
          have J4 : Inv X pins σ2 H2 { s' with heap := h4 } := J.landed nb fl4.1 ((up.trans up3).trans up4) os ag
          obtain ⟨oe4, vs4, he4, hz4, hd4⟩ := fl4.there
          have S4 := J4.suite he4 hd4 na nL nF
          refine store_ok (X := X.suite a ((a, oe4) :: (X.pn ++ pins))) (v := .ref a) S4 hN hi (.inl hln) rfl (fun s5 S5 => ?_) (.inr hln)
          refine wpAny_mono ((hsu a oe4 cls d (X.pn ++ pins) hz4 ⟨_, hd4⟩).run [] s5 _ H2 _ S5 (hyes rfl a na)) (fun f s6 hsp => ?_) (fun _ _ z => False.elim z)
          have gone : ∀ {σ6 : L2.St} {H6 : Hp} {Q : Shared → Prop}, Inv (X.suite a ((a, oe4) :: (X.pn ++ pins))) [] σ6 H6 s6 → (∀ s7, Inv X pins (σ6.set i none) H6 s7 → Q s7) →
              wpAny (model X.prog X.w) X.A (do bindName X.env n .none; unbindBehindTheSuite X.env n pos2) (fun _ s7 => Q s7) X.xe s6 := fun {σ6 H6 Q} S6 hq => gone_ok (S6.unsuite ok) hN hi hln hq
          cases f with
          | next =>
            obtain ⟨σ6, H6, S6, q6⟩ := hsp
            exact gone S6 fun s7 J7 => ⟨_, _, J7, q6⟩
          | brk =>
            obtain ⟨σ6, H6, S6, q6⟩ := hsp
            exact gone S6 fun s7 J7 => ⟨_, _, J7, q6⟩
          | cont =>
            obtain ⟨σ6, H6, S6, q6⟩ := hsp
            exact gone S6 fun s7 J7 => ⟨_, _, J7, q6⟩
          | ret u =>
            obtain ⟨v6, σ6, H6, S6, r6, q6⟩ := hsp
            exact gone S6 fun s7 J7 => ⟨_, _, _, J7, r6, q6⟩
    exact walk hh w
  refine wpAny_mono ((hb (wTwo X.K Wout i D l) (X.pn ++ pins) _ caught PassesOwn.looking).run [] s σ H D (I.toTry _) h) (fun f s1 hsp => ?_) (fun e s1 he => he)
  cases f with
  | next =>
    obtain ⟨σ2, H2, J2, q⟩ := hsp
    exact wpAny_execs_nil ⟨σ2, H2, J2.ofTry ok, q⟩
  | brk =>
    obtain ⟨σ2, H2, J2, q⟩ := hsp
    exact ⟨σ2, H2, J2.ofTry ok, q⟩
  | cont =>
    obtain ⟨σ2, H2, J2, q⟩ := hsp
    exact ⟨σ2, H2, J2.ofTry ok, q⟩
  | ret u =>
    obtain ⟨v, σ2, H2, J2, r, q⟩ := hsp
    exact ⟨v, σ2, H2, J2.ofTry ok, r, q⟩
end
end RL

-- part K2
set_option Elab.async false
set_option linter.all false
set_option maxRecDepth 100000
set_option maxHeartbeats 4000000
/-! What the top leaves, by names; a def and its promise by its name; heaps that grow. -/
namespace RL
open PySem PySem.Spec PyProof.Rows L2
/-- the def st stands as x -/
abbrev FD (K : PySem.W.Frag) (x : Str) (st : Stmt) (f : Addr) (fd : FuncData) : Prop := FunD K x x (defArgs st) (defBody st) (defScope st) [] [] f fd
/-- what the top leaves -/
structure Txt (K : PySem.W.Frag) (mg : Str → Option Value) : Prop where
  g_is_whole : mg "is_whole" = some (.ref (He.ga K "is_whole"))
  g_is_thing : mg "is_thing" = some (.ref (He.ga K "is_thing"))
  g_is_window : mg "is_window" = some (.ref (He.ga K "is_window"))
  g_is_length : mg "is_length" = some (.ref (He.ga K "is_length"))
  g_is_plain_deed : mg "is_plain_deed" = some (.ref (He.ga K "is_plain_deed"))
  g_is_deed : mg "is_deed" = some (.ref (He.ga K "is_deed"))
  g_Plan : mg "Plan" = some (.ref (He.ga K "Plan"))
  g_NoDeed : mg "NoDeed" = some (.ref (He.ga K "NoDeed"))
  g_NoText : mg "NoText" = some (.ref (He.ga K "NoText"))
  g_read_number : mg "read_number" = some (.ref (He.ga K "read_number"))
  g_read_plain : mg "read_plain" = some (.ref (He.ga K "read_plain"))
  g_read_deed : mg "read_deed" = some (.ref (He.ga K "read_deed"))
  g_read_plan : mg "read_plan" = some (.ref (He.ga K "read_plan"))
  g__law_pot : mg "_law_pot" = some (.ref (He.ga K "_law_pot"))
  g__law_dip : mg "_law_dip" = some (.ref (He.ga K "_law_dip"))
  g__law_thing : mg "_law_thing" = some (.ref (He.ga K "_law_thing"))
  g__law_plain : mg "_law_plain" = some (.ref (He.ga K "_law_plain"))
  g__law_deed : mg "_law_deed" = some (.ref (He.ga K "_law_deed"))
  g__law_deeds : mg "_law_deeds" = some (.ref (He.ga K "_law_deeds"))
  g__law_alike : mg "_law_alike" = some (.ref (He.ga K "_law_alike"))
  g__law_line : mg "_law_line" = some (.ref (He.ga K "_law_line"))
  g__law_text : mg "_law_text" = some (.ref (He.ga K "_law_text"))
  g__law_is_name : mg "_law_is_name" = some (.ref (He.ga K "_law_is_name"))
  g__law_plain_of : mg "_law_plain_of" = some (.ref (He.ga K "_law_plain_of"))
  g__law_deed_of : mg "_law_deed_of" = some (.ref (He.ga K "_law_deed_of"))
  g__law_read : mg "_law_read" = some (.ref (He.ga K "_law_read"))
  g__law_sign : mg "_law_sign" = some (.ref (He.ga K "_law_sign"))
  g__law_word : mg "_law_word" = some (.ref (He.ga K "_law_word"))
  g__law_lines_changed : mg "_law_lines_changed" = some (.ref (He.ga K "_law_lines_changed"))
  g__law_changed : mg "_law_changed" = some (.ref (He.ga K "_law_changed"))
  g__law_told : mg "_law_told" = some (.ref (He.ga K "_law_told"))
  g__law_right : mg "_law_right" = some (.ref (He.ga K "_law_right"))
  g_law : mg "law" = some (.ref (He.ga K "law"))
  g_WINDOWS : mg "WINDOWS" = some (.ref (He.ga K "WINDOWS"))
  b_len : mg "len" = none
  b_isinstance : mg "isinstance" = none
  b_int : mg "int" = none
  b_bool : mg "bool" = none
  b_str : mg "str" = none
  b_tuple : mg "tuple" = none
  b_list : mg "list" = none
  b_range : mg "range" = none
  b_enumerate : mg "enumerate" = none
  b_all : mg "all" = none
  b_abs : mg "abs" = none
  b_max : mg "max" = none
  b_min : mg "min" = none
  i_LONGEST_THING : ∃ t, mg "LONGEST_THING" = some (.int 8 t)
  i_GREATEST_PULL : ∃ t, mg "GREATEST_PULL" = some (.int 40 t)
  i_GREATEST_STEP : ∃ t, mg "GREATEST_STEP" = some (.int 6 t)
  i_MOST_DEEDS : ∃ t, mg "MOST_DEEDS" = some (.int 12 t)
  s_LETTERS : ∃ t, mg "LETTERS" = some (.str "abcdefghijklmnopqrstuvwxyz" t)
  planC : Cls K (He.ga K "Plan")
  planKept : NoAttr K (He.ga K "Plan") "kept"
  planDeeds : Meth K (He.ga K "Plan") "deeds" (He.ma K (He.ga K "Plan") "deeds")
  planMk : Mk K (He.ga K "Plan") (He.ma K (He.ga K "Plan") "__init__")
  x_NoText_NoText : PySem.W.exmOne K (.ref (He.ga K "NoText")) (.ref (He.ga K "NoText")) = some true
  x_NoDeed_NoText : PySem.W.exmOne K (.ref (He.ga K "NoDeed")) (.ref (He.ga K "NoText")) = some false
  x_NoDeed_NoDeed : PySem.W.exmOne K (.ref (He.ga K "NoDeed")) (.ref (He.ga K "NoDeed")) = some true
  eDeed : Err K (He.ga K "NoDeed") "index"
  eText : Err K (He.ga K "NoText") "line"
  dflt : (∀ H : Hp, SqT K H (dfA K) []) ∧ ∃ o, K.lookup (dfA K) = some o ∧ o.cls = .type "tuple"
  wins : ∀ H : Hp, SqT K H (He.ga K "WINDOWS") [.str "near", .str "far"]
  d_NoDeedInit : ∃ fd, FunD K "__init__" "NoDeed.__init__" (defArgs sNoDeedInit) (defBody sNoDeedInit) (defScope sNoDeedInit) [] [] (He.ma K (He.ga K "NoDeed") "__init__") fd
  d_NoTextInit : ∃ fd, FunD K "__init__" "NoText.__init__" (defArgs sNoTextInit) (defBody sNoTextInit) (defScope sNoTextInit) [] [] (He.ma K (He.ga K "NoText") "__init__") fd
  d_IsWhole : ∃ fd, FD K "is_whole" sIsWhole (He.ga K "is_whole") fd
  d_IsThing : ∃ fd, FD K "is_thing" sIsThing (He.ga K "is_thing") fd
  d_IsWindow : ∃ fd, FD K "is_window" sIsWindow (He.ga K "is_window") fd
  d_IsLength : ∃ fd, FD K "is_length" sIsLength (He.ga K "is_length") fd
  d_IsPlainDeed : ∃ fd, FD K "is_plain_deed" sIsPlainDeed (He.ga K "is_plain_deed") fd
  d_IsDeed : ∃ fd, FD K "is_deed" sIsDeed (He.ga K "is_deed") fd
  d_PlanInit : ∃ fd, FunD K "__init__" "Plan.__init__" (defArgs sPlanInit) (defBody sPlanInit) (defScope sPlanInit) [.ref (dfA K)] [] (He.ma K (He.ga K "Plan") "__init__") fd
  d_PlanDeeds : ∃ fd, FunD K "deeds" "Plan.deeds" (defArgs sPlanDeeds) (defBody sPlanDeeds) (defScope sPlanDeeds) [] [] (He.ma K (He.ga K "Plan") "deeds") fd
  d_ReadNumber : ∃ fd, FD K "read_number" sReadNumber (He.ga K "read_number") fd
  d_ReadPlain : ∃ fd, FD K "read_plain" sReadPlain (He.ga K "read_plain") fd
  d_ReadDeed : ∃ fd, FD K "read_deed" sReadDeed (He.ga K "read_deed") fd
  d_ReadPlan : ∃ fd, FD K "read_plan" sReadPlan (He.ga K "read_plan") fd
  d_LPot : ∃ fd, FD K "_law_pot" sLPot (He.ga K "_law_pot") fd
  d_LDip : ∃ fd, FD K "_law_dip" sLDip (He.ga K "_law_dip") fd
  d_LThing : ∃ fd, FD K "_law_thing" sLThing (He.ga K "_law_thing") fd
  d_LPlain : ∃ fd, FD K "_law_plain" sLPlain (He.ga K "_law_plain") fd
  d_LDeed : ∃ fd, FD K "_law_deed" sLDeed (He.ga K "_law_deed") fd
  d_LDeeds : ∃ fd, FD K "_law_deeds" sLDeeds (He.ga K "_law_deeds") fd
  d_LAlike : ∃ fd, FD K "_law_alike" sLAlike (He.ga K "_law_alike") fd
  d_LLine : ∃ fd, FD K "_law_line" sLLine (He.ga K "_law_line") fd
  d_LText : ∃ fd, FD K "_law_text" sLText (He.ga K "_law_text") fd
  d_LIsName : ∃ fd, FD K "_law_is_name" sLIsName (He.ga K "_law_is_name") fd
  d_LPlainOf : ∃ fd, FD K "_law_plain_of" sLPlainOf (He.ga K "_law_plain_of") fd
  d_LDeedOf : ∃ fd, FD K "_law_deed_of" sLDeedOf (He.ga K "_law_deed_of") fd
  d_LRead : ∃ fd, FD K "_law_read" sLRead (He.ga K "_law_read") fd
  d_LSign : ∃ fd, FD K "_law_sign" sLSign (He.ga K "_law_sign") fd
  d_LWord : ∃ fd, FD K "_law_word" sLWord (He.ga K "_law_word") fd
  d_LLinesChanged : ∃ fd, FD K "_law_lines_changed" sLLinesChanged (He.ga K "_law_lines_changed") fd
  d_LChanged : ∃ fd, FD K "_law_changed" sLChanged (He.ga K "_law_changed") fd
  d_LTold : ∃ fd, FD K "_law_told" sLTold (He.ga K "_law_told") fd
  d_LRight : ∃ fd, FD K "_law_right" sLRight (He.ga K "_law_right") fd
  d_Law : ∃ fd, FD K "law" sLaw (He.ga K "law") fd
theorem txt_of {K : PySem.W.Frag} {h : Heap} {mg : Str → Option Value} (X : K.In h) (G : h.Ns mainGlobals mg) (c : obsM (fa ++ (fb ++ fc)) fn K = (He.valD fn, true)) : Txt K mg := by
  have c1 : He.SaysD (fa ++ (fb ++ fc)) fn K := congrArg (fun z : AlM => z.1) c
  have F := fun i {f} h => c1.fact i (f := f) h
  have D := fun i {d} h => c1.def_ i (d := d) h
  have ex : exB K = true := congrArg (fun z : AlM => z.2) c
  obtain ⟨e1, ex⟩ := He.ba ex
  obtain ⟨e2, ex⟩ := He.ba ex
  obtain ⟨e3, e4⟩ := He.ba ex
  exact {
    g_is_whole := He.glo_ok X G (F 0 rfl)
    g_is_thing := He.glo_ok X G (F 1 rfl)
    g_is_window := He.glo_ok X G (F 2 rfl)
    g_is_length := He.glo_ok X G (F 3 rfl)
    g_is_plain_deed := He.glo_ok X G (F 4 rfl)
    g_is_deed := He.glo_ok X G (F 5 rfl)
    g_Plan := He.glo_ok X G (F 6 rfl)
    g_NoDeed := He.glo_ok X G (F 7 rfl)
    g_NoText := He.glo_ok X G (F 8 rfl)
    g_read_number := He.glo_ok X G (F 9 rfl)
    g_read_plain := He.glo_ok X G (F 10 rfl)
    g_read_deed := He.glo_ok X G (F 11 rfl)
    g_read_plan := He.glo_ok X G (F 12 rfl)
    g__law_pot := He.glo_ok X G (F 13 rfl)
    g__law_dip := He.glo_ok X G (F 14 rfl)
    g__law_thing := He.glo_ok X G (F 15 rfl)
    g__law_plain := He.glo_ok X G (F 16 rfl)
    g__law_deed := He.glo_ok X G (F 17 rfl)
    g__law_deeds := He.glo_ok X G (F 18 rfl)
    g__law_alike := He.glo_ok X G (F 19 rfl)
    g__law_line := He.glo_ok X G (F 20 rfl)
    g__law_text := He.glo_ok X G (F 21 rfl)
    g__law_is_name := He.glo_ok X G (F 22 rfl)
    g__law_plain_of := He.glo_ok X G (F 23 rfl)
    g__law_deed_of := He.glo_ok X G (F 24 rfl)
    g__law_read := He.glo_ok X G (F 25 rfl)
    g__law_sign := He.glo_ok X G (F 26 rfl)
    g__law_word := He.glo_ok X G (F 27 rfl)
    g__law_lines_changed := He.glo_ok X G (F 28 rfl)
    g__law_changed := He.glo_ok X G (F 29 rfl)
    g__law_told := He.glo_ok X G (F 30 rfl)
    g__law_right := He.glo_ok X G (F 31 rfl)
    g_law := He.glo_ok X G (F 32 rfl)
    g_WINDOWS := He.glo_ok X G (F 33 rfl)
    b_len := He.free_ok X G (F 34 rfl)
    b_isinstance := He.free_ok X G (F 35 rfl)
    b_int := He.free_ok X G (F 36 rfl)
    b_bool := He.free_ok X G (F 37 rfl)
    b_str := He.free_ok X G (F 38 rfl)
    b_tuple := He.free_ok X G (F 39 rfl)
    b_list := He.free_ok X G (F 40 rfl)
    b_range := He.free_ok X G (F 41 rfl)
    b_enumerate := He.free_ok X G (F 42 rfl)
    b_all := He.free_ok X G (F 43 rfl)
    b_abs := He.free_ok X G (F 44 rfl)
    b_max := He.free_ok X G (F 45 rfl)
    b_min := He.free_ok X G (F 46 rfl)
    i_LONGEST_THING := He.int_ok X G (F 47 rfl)
    i_GREATEST_PULL := He.int_ok X G (F 48 rfl)
    i_GREATEST_STEP := He.int_ok X G (F 49 rfl)
    i_MOST_DEEDS := He.int_ok X G (F 50 rfl)
    s_LETTERS := He.str_ok X G (F 51 rfl)
    planC := He.cls_ok (F 52 rfl)
    planKept := He.noat_ok (F 53 rfl)
    planDeeds := He.meth_ok (F 54 rfl)
    planMk := He.mkr_ok (F 55 rfl)
    x_NoText_NoText := He.exm_ok (F 56 rfl)
    x_NoDeed_NoText := He.exm_ok (F 57 rfl)
    x_NoDeed_NoDeed := He.exm_ok (F 58 rfl)
    eDeed := erB_ok e1
    eText := erB_ok e2
    dflt := emB_ok e3
    wins := fun H => He.tupB_ok e4 H
    d_NoDeedInit := D 0 (d := dNoDeedInit) rfl
    d_NoTextInit := D 1 (d := dNoTextInit) rfl
    d_IsWhole := D 2 (d := dIsWhole) rfl
    d_IsThing := D 3 (d := dIsThing) rfl
    d_IsWindow := D 4 (d := dIsWindow) rfl
    d_IsLength := D 5 (d := dIsLength) rfl
    d_IsPlainDeed := D 6 (d := dIsPlainDeed) rfl
    d_IsDeed := D 7 (d := dIsDeed) rfl
    d_PlanInit := D 8 (d := dPlanInit) rfl
    d_PlanDeeds := D 9 (d := dPlanDeeds) rfl
    d_ReadNumber := D 10 (d := dReadNumber) rfl
    d_ReadPlain := D 11 (d := dReadPlain) rfl
    d_ReadDeed := D 12 (d := dReadDeed) rfl
    d_ReadPlan := D 13 (d := dReadPlan) rfl
    d_LPot := D 14 (d := dLPot) rfl
    d_LDip := D 15 (d := dLDip) rfl
    d_LThing := D 16 (d := dLThing) rfl
    d_LPlain := D 17 (d := dLPlain) rfl
    d_LDeed := D 18 (d := dLDeed) rfl
    d_LDeeds := D 19 (d := dLDeeds) rfl
    d_LAlike := D 20 (d := dLAlike) rfl
    d_LLine := D 21 (d := dLLine) rfl
    d_LText := D 22 (d := dLText) rfl
    d_LIsName := D 23 (d := dLIsName) rfl
    d_LPlainOf := D 24 (d := dLPlainOf) rfl
    d_LDeedOf := D 25 (d := dLDeedOf) rfl
    d_LRead := D 26 (d := dLRead) rfl
    d_LSign := D 27 (d := dLSign) rfl
    d_LWord := D 28 (d := dLWord) rfl
    d_LLinesChanged := D 29 (d := dLLinesChanged) rfl
    d_LChanged := D 30 (d := dLChanged) rfl
    d_LTold := D 31 (d := dLTold) rfl
    d_LRight := D 32 (d := dLRight) rfl
    d_Law := D 33 (d := dLaw) rfl }
end RL

-- part K3
set_option Elab.async false
set_option linter.all false
set_option maxRecDepth 100000
set_option maxHeartbeats 4000000
/-! A def and its promise, called by its name; heaps that grow; data on heaps; the pot of draws. -/
namespace RL
open PySem PySem.Spec PyProof.Rows L2
/-- the module's name x is a def that keeps sp -/
structure DefOk (P : Program) (w : World) (K : PySem.W.Frag) (mg : Str → Option Value) (base : Heap) (CX : CXT) (k : Nat) (x : Str) (ps : List Str) (sp : Sp) : Prop where
  ex : ∃ f fd, mg x = some (.ref f) ∧ PySem.W.keepIn K (.ref f) = true ∧ Binds K fd ps [] ∧ FnOk P w K mg base CX k f fd ps sp
section
variable {P : Program} {w : World} {K : PySem.W.Frag} {mg : Str → Option Value} {base : Heap}
theorem DefOk.imp {CX : CXT} {k : Nat} {x : Str} {ps : List Str} {sp sp' : Sp} (D : DefOk P w K mg base CX k x ps sp) (h : ∀ vs H Q E, sp' vs H Q E → sp vs H Q E) : DefOk P w K mg base CX k x ps sp' := by
  obtain ⟨f, fd, g, kp, b, F⟩ := D.ex
  exact ⟨f, fd, g, kp, b, F.imp h⟩
/-- how a def of no defaults binds -/
abbrev BindN (x : Str) (st : Stmt) (ps : List Str) : Prop := ∀ (kV doc pm : Value) (an : Option Addr) (cdv ct : Value) (us : List Value), us.length = ps.length →
  bindArgs (PySem.W.fnOf x x (defArgs st) (defBody st) (defScope st) .none kV doc pm an cdv ct) ⟨us, []⟩ = pure (ps.zip us)
/-- a def that lets nothing out -/
theorem mkDef {x : Str} {st : Stmt} {f : Addr} {N ps : List Str} {k : Nat} {sp : Sp} (F : ∃ fd, FD K x st f fd) (g : mg x = some (.ref f)) (S : FnScope N ps (defScope st)) (hb : BindN x st ps) (len : ∀ vs H Q E, sp vs H Q E → vs.length = ps.length)
    (body : ∀ (cdv : Value) (A : Around) (outer : List Env) (s : Shared) (H : Hp) (vs : List V) (Q : VK) (E : XK), Room k (A.deeper (envOfC x (defScope st) s.heap.objs.size f cdv)) → sp vs H Q E →
      ∃ t, PSs (cxOf CX0 P w K mg base N x (defScope st) f cdv A outer s H E).nox (defBody st) t ∧ t { nx := fun _ H' => Q .non H', rt := Q } (start N vs) H) : DefOk P w K mg base CX0 (k + 1) x ps sp := by
  obtain ⟨fd, F⟩ := F
  refine ⟨f, fd, g, F.kp, F.bindsN hb, F.ok S len fun cdv A outer s H vs Q E hr h => ?_⟩
  obtain ⟨t, h1, h2⟩ := body cdv A outer s H vs Q E hr h
  exact ⟨t, h1.nox, h2⟩
/-- a def that may raise -/
theorem mkDefX {x : Str} {st : Stmt} {f : Addr} {N ps : List Str} {k : Nat} {sp : Sp} (F : ∃ fd, FD K x st f fd) (g : mg x = some (.ref f)) (S : FnScope N ps (defScope st)) (hb : BindN x st ps) (len : ∀ vs H Q E, sp vs H Q E → vs.length = ps.length)
    (body : ∀ (cdv : Value) (A : Around) (outer : List Env) (s : Shared) (H : Hp) (vs : List V) (Q : VK) (E : XK), Room k (A.deeper (envOfC x (defScope st) s.heap.objs.size f cdv)) → sp vs H Q E →
      ∃ t, PSs (cxOf (L2.CX P w) P w K mg base N x (defScope st) f cdv A outer s H E) (defBody st) t ∧ t { nx := fun _ H' => Q .non H', rt := Q } (start N vs) H) : DefOk P w K mg base (L2.CX P w) (k + 1) x ps sp := by
  obtain ⟨fd, F⟩ := F
  exact ⟨f, fd, g, F.kp, F.bindsN hb, F.ok S len fun cdv A outer s H vs Q E hr h => body cdv A outer s H vs Q E hr h⟩
end
section
variable {X : Cx} {CX : CXT} {k : Nat} {ps : List Str} {sp : Sp} {E : XK} {x : Str} {p pos : Pos} {e : Expr} {es : List Expr} {t : TA}
/-- a call of such a def -/
theorem pe_def (D : DefOk X.prog X.w X.K X.mg X.base CX k x ps sp) (hr : Room k X.A) (hg : Gl X x) (hx : Passes CX X E) (ha : PA X (e :: es) t)
    (hdb : (x == ("__debug__" : Str)) = false := by decide) (he : starEach (e :: es) X.env = (false, eval e X.env) :: starEach es X.env := by rfl) (hpl : (backTo pos (starEach es X.env)).any (·.1) = false := by rfl) :
    PE X (.Call (.Name x p) (e :: es) [] pos) (tCall sp [] E t) := by
  obtain ⟨f, fd, g, kp, b, F⟩ := D.ex
  exact pe_call F hr hg g kp b .nil hx ha hdb he hpl
end
/-! ### heaps that grow -/
theorem _root_.L2.Same.upd {H0 H1 : Hp} {q : Addr} {o : HO} (s : Same H0 H1) (n : H0 q = none) : Same H0 (upd H1 q o) := fun b z e => by
  rw [upd_ne (ne_of_none e n)]
  exact s b z e
theorem _root_.L2.Same.new {H0 H1 : Hp} {q : Addr} {o : HO} (s : Same H0 H1) (n : H1 q = none) : Same H0 (L2.upd H1 q o) := s.upd (s.free n)
theorem same_new {H : Hp} {q : Addr} {o : HO} (n : H q = none) : Same H (upd H q o) := (Same.refl H).new n
/-- all that was tracked but the thing at p is as it was -/
def Grow (p : Addr) (H H' : Hp) : Prop := ∀ b o, b ≠ p → H b = some o → H' b = some o
theorem Grow.refl (p : Addr) (H : Hp) : Grow p H H := fun _ _ _ h => h
theorem Grow.trans {p : Addr} {H H1 H2 : Hp} (a : Grow p H H1) (b : Grow p H1 H2) : Grow p H H2 := fun c o n h => b c o n (a c o n h)
theorem Grow.of {p : Addr} {H H' : Hp} (s : Same H H') : Grow p H H' := fun b o _ h => s b o h
theorem Grow.free {p : Addr} {H H' : Hp} (g : Grow p H H') {l : Addr} (hp : l ≠ p) (h : H' l = none) : H l = none := by
  cases q : H l with
  | none => rfl
  | some o =>
    rw [g l o hp q] at h
    cases h
theorem Grow.upd {p : Addr} {H0 H1 : Hp} {q : Addr} {o : HO} (g : Grow p H0 H1) (n : H0 q = none) : Grow p H0 (upd H1 q o) := fun b z hb e => by
  rw [upd_ne (ne_of_none e n)]
  exact g b z hb e
theorem Grow.new {p : Addr} {H0 H1 : Hp} {q : Addr} {o : HO} (g : Grow p H0 H1) (hp : q ≠ p) (n : H1 q = none) : Grow p H0 (L2.upd H1 q o) := g.upd (g.free hp n)
theorem Grow.at_ {p : Addr} {H0 H1 : Hp} {o : HO} (g : Grow p H0 H1) : Grow p H0 (L2.upd H1 p o) := fun b z hb e => by
  rw [upd_ne hb]
  exact g b z hb e
theorem Grow.same {p : Addr} {H0 H1 H2 : Hp} (g : Grow p H0 H1) (s : Same H1 H2) : Grow p H0 H2 := g.trans (.of s)

/-! ### data -/
mutual
/-- no list in it -/
def noL : PyData → Bool
  | .none => true
  | .bool _ => true
  | .int _ => true
  | .str _ => true
  | .tuple ds => noLs ds
  | .list _ => false
  | .dict _ => false
def noLs : List PyData → Bool
  | [] => true
  | d :: ds => noL d && noLs ds
end
theorem noLs_all : ∀ ds : List PyData, noLs ds = ds.all noL
  | [] => rfl
  | d :: ds => by
    show (noL d && noLs ds) = (noL d && ds.all noL)
    rw [noLs_all ds]
theorem noL_tup {ds : List PyData} : noL (.tuple ds) = ds.all noL := noLs_all ds
theorem seqT_grow {K : PySem.W.Frag} {H H' : Hp} {p a : Addr} {xs ys : List V} (hp : H p = some (.lst ys)) (g : Grow p H H') (h : SqT K H a xs) : SqT K H' a xs := by
  rcases h with (h | ⟨o, h⟩) | h
  · exact .inl (.inl (g _ _ (ne_of h hp (by intro q; cases q)) h))
  · exact .inl (.inr ⟨o, g _ _ (ne_of h hp (by intro q; cases q)) h⟩)
  · exact .inr h
theorem seqT_same {K : PySem.W.Frag} {H H' : Hp} {a : Addr} {xs : List V} (g : Same H H') (h : SqT K H a xs) : SqT K H' a xs := by
  rcases h with (h | ⟨o, h⟩) | h
  · exact .inl (.inl (g _ _ h))
  · exact .inl (.inr ⟨o, g _ _ h⟩)
  · exact .inr h
mutual
theorem dp_same {K : PySem.W.Frag} {H H' : Hp} (g : Same H H') : ∀ (d : PyData) (v : V), Dp K H v d → Dp K H' v d
  | .none, v, h => by cases h; exact .non
  | .bool b, v, h => by cases h; exact .bl b
  | .int i, v, h => by cases h; exact .int i
  | .str x, v, h => by cases h; exact .str x
  | .list ds, v, h => by
    cases h with
    | lst ha hd => exact .lst (g.seq ha) (dpAll_same g ds _ hd)
  | .tuple ds, v, h => by
    cases h with
    | tup ha hd => exact .tup (seqT_same g ha) (dpAll_same g ds _ hd)
  | .dict kvs, v, h => by cases h
theorem dpAll_same {K : PySem.W.Frag} {H H' : Hp} (g : Same H H') : ∀ (ds : List PyData) (vs : List V), DpAll K H vs ds → DpAll K H' vs ds
  | [], vs, h => by cases h; exact .nil
  | d :: ds, vs, h => by
    cases h with
    | cons h1 h2 => exact .cons (dp_same g d _ h1) (dpAll_same g ds _ h2)
end
mutual
theorem dp_grow {K : PySem.W.Frag} {H H' : Hp} {p : Addr} {ys : List V} (hp : H p = some (.lst ys)) (g : Grow p H H') : ∀ (d : PyData) (v : V), noL d = true → Dp K H v d → Dp K H' v d
  | .none, v, _, h => by cases h; exact .non
  | .bool b, v, _, h => by cases h; exact .bl b
  | .int i, v, _, h => by cases h; exact .int i
  | .str x, v, _, h => by cases h; exact .str x
  | .list ds, v, n, h => by cases n
  | .tuple ds, v, n, h => by
    rw [noL_tup] at n
    cases h with
    | tup ha hd => exact .tup (seqT_grow hp g ha) (dpAll_grow hp g ds _ n hd)
  | .dict kvs, v, _, h => by cases h
theorem dpAll_grow {K : PySem.W.Frag} {H H' : Hp} {p : Addr} {ys : List V} (hp : H p = some (.lst ys)) (g : Grow p H H') : ∀ (ds : List PyData) (vs : List V), ds.all noL = true → DpAll K H vs ds → DpAll K H' vs ds
  | [], vs, _, h => by cases h; exact .nil
  | d :: ds, vs, n, h => by
    rw [List.all_cons, Bool.and_eq_true] at n
    cases h with
    | cons h1 h2 => exact .cons (dp_grow hp g d _ n.1 h1) (dpAll_grow hp g ds _ n.2 h2)
end
theorem dpAll_len {K : PySem.W.Frag} {H : Hp} : ∀ {vs : List V} {ds : List PyData}, DpAll K H vs ds → vs.length = ds.length
  | [], [], _ => rfl
  | v :: vs, d :: ds, .cons _ t => by
    show vs.length + 1 = ds.length + 1
    rw [dpAll_len t]
theorem dpAll_get {K : PySem.W.Frag} {H : Hp} : ∀ {vs : List V} {ds : List PyData} {i : Nat} {d : PyData}, DpAll K H vs ds → ds[i]? = some d → ∃ v, vs[i]? = some v ∧ Dp K H v d
  | v :: vs, d :: ds, 0, d', .cons h _, e => by
    have e2 : d = d' := Option.some.inj e
    exact ⟨v, rfl, e2 ▸ h⟩
  | v :: vs, d :: ds, i + 1, d', .cons _ t, e => by
    obtain ⟨u, h1, h2⟩ := dpAll_get (i := i) t (by simpa using e)
    exact ⟨u, by simpa using h1, h2⟩
  | [], [], i, d', _, e => by simp at e
theorem dpAll_snoc {K : PySem.W.Frag} {H : Hp} : ∀ {vs : List V} {ds : List PyData} {v : V} {d : PyData}, DpAll K H vs ds → Dp K H v d → DpAll K H (vs ++ [v]) (ds ++ [d])
  | [], [], _, _, _, h => .cons h .nil
  | _ :: _, _ :: _, _, _, .cons a t, h => .cons a (dpAll_snoc t h)
theorem dpAll_app {K : PySem.W.Frag} {H : Hp} : ∀ {vs us : List V} {ds es : List PyData}, DpAll K H vs ds → DpAll K H us es → DpAll K H (vs ++ us) (ds ++ es)
  | [], _, [], _, _, h => h
  | _ :: _, _, _ :: _, _, .cons a t, h => .cons a (dpAll_app t h)
theorem dpAll_strs {K : PySem.W.Frag} {H : Hp} : ∀ xs : List Str, DpAll K H (xs.map V.str) (xs.map PyData.str)
  | [] => .nil
  | x :: xs => .cons (.str x) (dpAll_strs xs)

/-! ### the pot of draws -/
def Pot (H : Hp) (p : Addr) (n : Nat) : Prop := ∃ a b c : Int, H p = some (.lst [.int a, .int b, .int c]) ∧ 0 ≤ a ∧ 0 ≤ b ∧ b < 2 ^ 130 ∧ 0 ≤ c ∧ c ≤ n
theorem Pot.mono {H : Hp} {p : Addr} {n m : Nat} (h : Pot H p n) (l : n ≤ m) : Pot H p m := by
  obtain ⟨a, b, c, h1, h2, h3, h4, h5, h6⟩ := h
  exact ⟨a, b, c, h1, h2, h3, h4, h5, by omega⟩
theorem Pot.same {H H' : Hp} {p : Addr} {n : Nat} (h : Pot H p n) (s : Same H H') : Pot H' p n := by
  obtain ⟨a, b, c, h1, r⟩ := h
  exact ⟨a, b, c, s _ _ h1, r⟩
theorem Pot.upd {H : Hp} {p q : Addr} {n : Nat} {o : HO} (h : Pot H p n) (d : p ≠ q) : Pot (L2.upd H q o) p n := by
  obtain ⟨a, b, c, h1, r⟩ := h
  exact ⟨a, b, c, by rw [upd_ne d]; exact h1, r⟩
theorem Pot.new {H : Hp} {p q : Addr} {n : Nat} {o : HO} (h : Pot H p n) (d : H q = none) : Pot (L2.upd H q o) p n := by
  obtain ⟨a, b, c, h1, r⟩ := id h
  exact h.upd (ne_of_none h1 d)
theorem Pot.lst {H : Hp} {p : Addr} {n : Nat} (h : Pot H p n) : ∃ ys, H p = some (.lst ys) := by
  obtain ⟨a, b, c, h1, r⟩ := h
  exact ⟨_, h1⟩
theorem Pot.ne {H : Hp} {p q : Addr} {n : Nat} (h : Pot H p n) (d : H q = none) : q ≠ p := by
  obtain ⟨ys, h1⟩ := h.lst
  exact fun e => ne_of_none h1 d e.symm
end RL

-- part K4
set_option Elab.async false
set_option linter.all false
set_option maxRecDepth 100000
set_option maxHeartbeats 4000000
/-! Types of data, isinstance of data, str of a part, equality of alike data. -/
namespace RL
open PySem PySem.Spec PyProof.Rows L2
def tyN : PyData → String
  | .none => "NoneType"
  | .bool _ => "bool"
  | .int _ => "int"
  | .str _ => "str"
  | .list _ => "list"
  | .tuple _ => "tuple"
  | .dict _ => "dict"
theorem tyX_L {K : PySem.W.Frag} {H : Hp} {a : Addr} {xs : List V} (h : SqL K H a xs) : TyX K H (.ref a) (.type "list") := by
  rcases h with (h | ⟨o, h⟩) | ⟨o, its, n, h, hc, _⟩
  · exact .base (.lst h)
  · exact .base (.frz h)
  · exact .kList h hc
theorem tyX_T {K : PySem.W.Frag} {H : Hp} {a : Addr} {xs : List V} (h : SqT K H a xs) : TyX K H (.ref a) (.type "tuple") := by
  rcases h with (h | ⟨o, h⟩) | ⟨o, its, n, h, hc, _⟩
  · exact .base (.tup h)
  · exact .fTuple h
  · exact .kTuple h hc
theorem tyX_D {K : PySem.W.Frag} {H : Hp} {v : V} {d : PyData} (h : Dp K H v d) : TyX K H v (.type (tyN d)) := by
  cases h with
  | non => exact .base .non
  | bl b => exact .base (.bl b)
  | int i => exact .base (.int i)
  | str x => exact .base (.str x)
  | lst ha _ => exact tyX_L ha
  | tup ha _ => exact tyX_T ha
/-- is it of the type t ? -/
def isTyS (a t : String) : Bool := decide (a = t) || (decide (t = "int") && decide (a = "bool"))
def isTy (t : String) (d : PyData) : Bool := isTyS (tyN d) t
theorem kitS : ∀ a ∈ ["NoneType", "bool", "int", "str", "list", "tuple", "dict"], ∀ t ∈ ["tuple", "list", "str", "int", "bool"], kitB a t = some (isTyS a t) := by decide +kernel
theorem tyN_mem (d : PyData) : tyN d ∈ ["NoneType", "bool", "int", "str", "list", "tuple", "dict"] := by
  cases d <;> simp [tyN]
theorem kit_D {K : PySem.W.Frag} (d : PyData) {t : String} (ht : t = "tuple" ∨ t = "list" ∨ t = "str" ∨ t = "int" ∨ t = "bool") : PySem.W.kitOne K (.type (tyN d)) (.type t) = some (isTy t d) :=
  kit_ty (kitS (tyN d) (tyN_mem d) t (by simpa using ht))
theorem dp_nodict {K : PySem.W.Frag} {H : Hp} {v : V} {d : PyData} (h : Dp K H v d) : ∀ kvs, d ≠ .dict kvs := fun kvs e => by
  subst e
  cases h
/-- what isinstance asks and gives, for data -/
theorem isi_D {K : PySem.W.Frag} {H : Hp} {v : V} {d : PyData} {Q : VK} (h : Dp K H v d) (t : String) (ht : t = "tuple" ∨ t = "list" ∨ t = "str" ∨ t = "int" ∨ t = "bool") (q : Q (.bl (isTy t d)) H) : rIsi K [v, .ty t] H Q :=
  ⟨v, .ty t, .type (tyN d), .type t, isTy t d, rfl, .ty t, tyX_D h, kit_D d ht, q⟩
theorem kitAny_TL {K : PySem.W.Frag} (d : PyData) : PySem.W.kitAny K (.type (tyN d)) [.type "tuple", .type "list"] = some (isTy "tuple" d || isTy "list" d) := by
  refine kitAny_cons (kit_D d (.inl rfl)) (fun e => ?_) fun e => by rw [e]; rfl
  rw [e, Bool.false_or]
  exact kitAny_cons (kit_D d (.inr (.inl rfl))) (fun e2 => by rw [e2]; exact kitAny_nil) fun e2 => e2
section
variable {X : Cx}
/-- str of a text, of a small number -/
theorem call_strE : CallR X (.type "str") (fun xs H Q => (∃ i : Int, xs = [.int i] ∧ i.natAbs.log2 < 1920 ∧ Q (.str (toString i)) H) ∨ ∃ a, xs = [.str a] ∧ Q (.str a) H) := by
  intro pins s σ H xs us Q I r h
  rcases h with h | h
  · exact call_str_int pins s σ H xs us Q I r h
  · exact SkE.call_str_str pins s σ H xs us Q I r h
end
theorem log2_small {i : Int} (h : i.natAbs < 2 ^ 60) : i.natAbs.log2 < 1920 := by
  by_cases z : i.natAbs = 0
  · rw [z]
    decide
  · have := (Nat.log2_lt z).mpr h
    omega
/-! ### depth -/
mutual
def depOk : Nat → PyData → Bool
  | _, .none => true
  | _, .bool _ => true
  | _, .int _ => true
  | _, .str z => PyData.canLay0 (.str z) && decide (z.length ≤ 1000000)
  | n, .list ds => decide (ds.length ≤ 1000000) && depAll n ds
  | n, .tuple ds => decide (ds.length ≤ 1000000) && depAll n ds
  | _, .dict _ => false
def depAll : Nat → List PyData → Bool
  | _, [] => true
  | 0, _ :: _ => false
  | n + 1, d :: ds => depOk n d && depAll (n + 1) ds
end
theorem depAll_get : ∀ {ds : List PyData} {n : Nat} {i : Nat} {d : PyData}, depAll (n + 1) ds = true → ds[i]? = some d → depOk n d = true
  | [], _, i, d, _, e => by simp at e
  | a :: ds, n, 0, d, h, e => by
    have h2 : (depOk n a && depAll (n + 1) ds) = true := h
    rw [Bool.and_eq_true] at h2
    rw [← Option.some.inj e]
    exact h2.1
  | a :: ds, n, i + 1, d, h, e => by
    have h2 : (depOk n a && depAll (n + 1) ds) = true := h
    rw [Bool.and_eq_true] at h2
    exact depAll_get (i := i) h2.2 (by simpa using e)
theorem depOk_items {j : Nat} {ds : List PyData} {d : PyData} (hd : d = .list ds ∨ d = .tuple ds) (h : depOk j d = true) : depAll j ds = true ∧ ds.length ≤ 1000000 := by
  have e : depOk j d = (decide (ds.length ≤ 1000000) && depAll j ds) := by
    rcases hd with rfl | rfl <;> (cases j <;> rfl)
  rw [e, Bool.and_eq_true, decide_eq_true_eq] at h
  exact ⟨h.2, h.1⟩
theorem depOk_str {j : Nat} {z : Str} (h : depOk j (.str z) = true) : PyData.canLay0 (.str z) = true ∧ z.length ≤ 1000000 := by
  have e : depOk j (.str z) = (PyData.canLay0 (.str z) && decide (z.length ≤ 1000000)) := by cases j <;> rfl
  rw [e, Bool.and_eq_true, decide_eq_true_eq] at h
  exact h
mutual
theorem depOk_shape : ∀ (d : PyData) (j : Nat), depOk j d = true → d.canLay0 = true ∧ d.depth ≤ j + 1
  | .none, j, _ => ⟨rfl, Nat.zero_le _⟩
  | .bool b, j, _ => ⟨rfl, Nat.zero_le _⟩
  | .int i, j, _ => ⟨rfl, Nat.zero_le _⟩
  | .str z, j, h => ⟨(depOk_str h).1, Nat.zero_le _⟩
  | .list ds, j, h => by
    have a := depOk_items (.inl rfl) h
    obtain ⟨b, c⟩ := depAll_shape ds j a.1
    exact ⟨b, by show PyData.depthAll ds + 1 ≤ j + 1; omega⟩
  | .tuple ds, j, h => by
    have a := depOk_items (.inr rfl) h
    obtain ⟨b, c⟩ := depAll_shape ds j a.1
    exact ⟨b, by show PyData.depthAll ds + 1 ≤ j + 1; omega⟩
  | .dict kvs, j, h => by cases j <;> cases h
theorem depAll_shape : ∀ (ds : List PyData) (j : Nat), depAll j ds = true → PyData.canLayAll0 ds = true ∧ PyData.depthAll ds ≤ j
  | [], j, _ => ⟨rfl, Nat.zero_le _⟩
  | d :: ds, 0, h => by cases h
  | d :: ds, j + 1, h => by
    have h2 : (depOk j d && depAll (j + 1) ds) = true := h
    rw [Bool.and_eq_true] at h2
    obtain ⟨a, b⟩ := depOk_shape d j h2.1
    obtain ⟨c, e⟩ := depAll_shape ds (j + 1) h2.2
    refine ⟨by show (d.canLay0 && PyData.canLayAll0 ds) = true; rw [a, c]; rfl, ?_⟩
    show max d.depth (PyData.depthAll ds) ≤ j + 1
    omega
end
theorem depOk_shaped {d : PyData} {j : Nat} (h : depOk j d = true) (hj : j ≤ 60) : SeqAt.shaped d = true := by
  obtain ⟨a, b⟩ := depOk_shape d j h
  unfold SeqAt.shaped
  rw [a, decide_eq_true (by omega)]
  rfl
theorem depAll_zero {ds : List PyData} (h : depAll 0 ds = true) : ds = [] := by
  cases ds with
  | nil => rfl
  | cons d r => cases h
theorem take_snoc {α β : Type} (f : α → β) {l : List α} {i : Nat} {x : α} (h : l[i]? = some x) : (l.take (i + 1)).map f = (l.take i).map f ++ [f x] := by
  rw [List.take_add_one, h, List.map_append]
  rfl
theorem len_app (x y : Str) : (x ++ y).length = x.length + y.length := by
  rw [TL.len_tl, TL.tl_append, List.length_append, TL.len_tl, TL.len_tl]
end RL

-- part M1
set_option Elab.async false
set_option linter.all false
set_option maxRecDepth 100000
set_option maxHeartbeats 1000000
/-! Plain: texts as lists of codes, slices, numbers written and read. -/
namespace RL
open PySem PySem.Spec PyProof.Rows L2 TL
/-! ### texts by their codes -/
theorem starts1 {z y : Str} {c : Nat} (hy : tl y = [c]) : Txt.startswith z y = true ↔ ∃ r, tl z = c :: r := by
  have hl : y.length = 1 := by rw [len_tl, hy] <;> rfl
  unfold Txt.startswith
  rw [PySem.StrLaws.subAt_eq, hl, Bool.and_eq_true, decide_eq_true_eq, List.drop_zero]
  show 0 + 1 ≤ z.length ∧ ((tl z).take 1 == tl y) = true ↔ _
  rw [hy, beq_iff_eq, len_tl]
  cases e : tl z with
  | nil => simp
  | cons a r => simp
theorem starts1_eq {z y : Str} {c : Nat} (hy : tl y = [c]) : Txt.startswith z y = (match tl z with | a :: _ => decide (a = c) | [] => false) := by
  rw [Bool.eq_iff_iff, starts1 hy]
  cases e : tl z with
  | nil => simp
  | cons a r => simp
theorem sIx_nat' (n d a : Nat) : HT.sIx n d (some (a : Int)) = min a n := HT.sIx_nat n d a
theorem sIx_m1 (n d : Nat) : HT.sIx n d (some (-1)) = n - 1 := by
  show (if (-1 : Int) < 0 then ((-1 : Int) + (n : Int)).toNat else min (-1 : Int).toNat n) = n - 1
  rw [if_pos (by decide)]
  omega
theorem take_min {α : Type} (l : List α) (a b : Nat) : (l.drop (min a l.length)).take (min b l.length - min a l.length) = (l.drop a).take (b - a) := by
  by_cases h : a ≤ l.length
  · rw [Nat.min_eq_left h]
    by_cases h2 : b ≤ l.length
    · rw [Nat.min_eq_left h2]
    · rw [show min b l.length = l.length by omega, List.take_of_length_le (by rw [List.length_drop]; omega), List.take_of_length_le (by rw [List.length_drop]; omega)]
  · rw [show min a l.length = l.length by omega, List.drop_of_length_le (Nat.le_refl _), List.drop_of_length_le (by omega), List.take_nil, List.take_nil]
theorem tl_cut (z : Str) (a b : Nat) : tl (cutS z (some (a : Int)) (some (b : Int))) = ((tl z).drop a).take (b - a) := by
  show (z.cps.toList.drop (HT.sIx z.length 0 (some (a : Int)))).take (HT.sIx z.length z.length (some (b : Int)) - HT.sIx z.length 0 (some (a : Int))) = _
  rw [sIx_nat', sIx_nat', len_tl]
  exact take_min (tl z) a b
theorem tl_cut_from (z : Str) (a : Nat) : tl (cutS z (some (a : Int)) none) = (tl z).drop a := by
  show (z.cps.toList.drop (HT.sIx z.length 0 (some (a : Int)))).take (HT.sIx z.length z.length none - HT.sIx z.length 0 (some (a : Int))) = _
  rw [sIx_nat', HT.sIx_none, len_tl]
  have h := take_min (tl z) a (tl z).length
  rw [Nat.min_self] at h
  refine h.trans (List.take_of_length_le ?_)
  rw [List.length_drop]
  exact Nat.le_refl _
theorem tl_cut_to (z : Str) (b : Nat) : tl (cutS z none (some (b : Int))) = (tl z).take b := by
  show (z.cps.toList.drop (HT.sIx z.length 0 none)).take (HT.sIx z.length z.length (some (b : Int)) - HT.sIx z.length 0 none) = _
  rw [sIx_nat', HT.sIx_none, len_tl]
  have h := take_min (tl z) 0 b
  rw [Nat.zero_min, Nat.sub_zero] at h
  simpa using h
theorem tl_cut_init (z : Str) : tl (cutS z none (some (-1))) = (tl z).dropLast := by
  show (z.cps.toList.drop (HT.sIx z.length 0 none)).take (HT.sIx z.length z.length (some (-1)) - HT.sIx z.length 0 none) = _
  rw [sIx_m1, HT.sIx_none, len_tl, List.drop_zero, Nat.sub_zero, List.dropLast_eq_take]
theorem tl_cut_last (z : Str) : tl (cutS z (some (-1)) none) = (tl z).drop ((tl z).length - 1) := by
  show (z.cps.toList.drop (HT.sIx z.length 0 (some (-1)))).take (HT.sIx z.length z.length none - HT.sIx z.length 0 (some (-1))) = _
  rw [sIx_m1, HT.sIx_none, len_tl]
  exact List.take_of_length_le (by rw [List.length_drop]; exact Nat.le_refl _)
/-! ### lists of values, cut -/
theorem cutV_from (xs : List V) (a : Nat) : cutV xs (some (a : Int)) none = xs.drop a := by
  unfold cutV
  rw [show HT.sIx xs.length 0 (some (a : Int)) = min a xs.length from HT.sIx_nat xs.length 0 a, HT.sIx_none]
  have h := take_min xs a xs.length
  rw [Nat.min_self] at h
  refine h.trans (List.take_of_length_le ?_)
  rw [List.length_drop]
  exact Nat.le_refl _
theorem cutV_to (xs : List V) (b : Nat) : cutV xs none (some (b : Int)) = xs.take b := by
  unfold cutV
  rw [show HT.sIx xs.length xs.length (some (b : Int)) = min b xs.length from HT.sIx_nat xs.length xs.length b, HT.sIx_none]
  have h := take_min xs 0 b
  rw [Nat.zero_min, Nat.sub_zero] at h
  simpa using h
theorem cutV_init (xs : List V) : cutV xs none (some (-1)) = xs.dropLast := by
  unfold cutV
  rw [sIx_m1, HT.sIx_none, List.drop_zero, Nat.sub_zero, List.dropLast_eq_take]

/-! ### digits -/
def isDg (c : Nat) : Bool := decide (48 ≤ c) && decide (c ≤ 57)
def Ascii (l : List Nat) : Prop := ∀ c ∈ l, c < 128
theorem isDigit_ascii : ∀ c : Nat, c < 128 → Unicode.isDigit c = isDg c := by decide
theorem isdigit_eq {z : Str} (h : Ascii (tl z)) : Txt.isdigit z = (decide (tl z ≠ []) && (tl z).all isDg) := by
  unfold Txt.isdigit
  have e1 : z.cps.all Unicode.isDigit = (tl z).all isDg := by
    rw [← Array.all_toList]
    show (tl z).all Unicode.isDigit = _
    rw [Bool.eq_iff_iff, List.all_eq_true, List.all_eq_true]
    constructor
    · intro k c hc
      rw [← isDigit_ascii c (h c hc)]
      exact k c hc
    · intro k c hc
      rw [isDigit_ascii c (h c hc)]
      exact k c hc
  rw [e1]
  congr 1
  rw [decide_eq_decide, len_tl]
  exact List.length_pos_iff
/-- the number that a word writes, as the program reads it -/
def numL1 (l : List Nat) : Option Nat := if (decide (l ≠ []) && l.all isDg) && !(decide (l.head? = some 48) && decide (l ≠ [48])) then some (NumText.digitsVal l) else none
def readN (l : List Nat) : Option Int := match l with
  | 45 :: r => if (decide (r ≠ []) && r.all isDg) && !(decide (r.head? = some 48)) then some (-(NumText.digitsVal r : Int)) else none
  | l => (numL1 l).map fun n => (n : Int)
/-- the text of a number -/
abbrev numS (i : Int) : Str := toString i
theorem tl_numS_nat (n : Nat) : tl (numS (n : Int)) = numL n := tl_num n
theorem digits_snoc (l : List Nat) (c : Nat) : NumText.digitsVal (l ++ [c]) = NumText.digitsVal l * 10 + (c - 48) := by
  unfold NumText.digitsVal
  rw [List.foldl_append]
  rfl
theorem all_dg {l : List Nat} (h : l.all isDg = true) : NumText.AllDigits l := fun c hc => by
  have := List.all_eq_true.mp h c hc
  simpa [isDg] using this
theorem dg_all {l : List Nat} (h : NumText.AllDigits l) : l.all isDg = true := List.all_eq_true.mpr fun c hc => by
  have := h c hc
  simp [isDg, this]
/-- digits without a leading zero, read and written back -/
theorem write_back : ∀ (k : Nat) (l : List Nat), l.length = k → l ≠ [] → l.all isDg = true → (l.head? = some 48 → l = [48]) → numL (NumText.digitsVal l) = l := by
  intro k
  induction k with
  | zero =>
    intro l hl hn
    exact absurd (List.length_eq_zero_iff.mp hl) hn
  | succ k ih =>
    intro l hl hn hd h0
    obtain ⟨m, c, rfl⟩ : ∃ m c, l = m ++ [c] := ⟨l.dropLast, l.getLast hn, (List.dropLast_concat_getLast hn).symm⟩
    have hc : 48 ≤ c ∧ c ≤ 57 := all_dg hd c (by simp)
    rw [digits_snoc]
    cases m with
    | nil =>
      rw [show NumText.digitsVal [] = 0 from rfl, Nat.zero_mul, Nat.zero_add, numL_lt (by omega)]
      show [48 + (c - 48)] = [c]
      rw [show 48 + (c - 48) = c by omega]
    | cons a r =>
      have hd2 : (a :: r).all isDg = true := by
        rw [List.all_append, Bool.and_eq_true] at hd
        exact hd.1
      have ha : 48 ≤ a ∧ a ≤ 57 := all_dg hd2 a List.mem_cons_self
      have a0 : a ≠ 48 := fun e => by
        subst e
        have := h0 rfl
        simp at this
      have w : numL (NumText.digitsVal (a :: r)) = a :: r := ih (a :: r) (by simp at hl ⊢; omega) (by simp) hd2 (fun e => absurd (Option.some.inj e) a0)
      have pos : 0 < NumText.digitsVal (a :: r) := by
        cases e : NumText.digitsVal (a :: r) with
        | succ n => exact Nat.succ_pos n
        | zero =>
          rw [e, numL_lt (by decide)] at w
          have : 48 = a := (List.cons.inj w).1
          exact absurd this.symm a0
      rw [numL_step (by omega), show (NumText.digitsVal (a :: r) * 10 + (c - 48)) / 10 = NumText.digitsVal (a :: r) by omega, w,
        show (NumText.digitsVal (a :: r) * 10 + (c - 48)) % 10 = c - 48 by omega, show 48 + (c - 48) = c by omega]
theorem numL_head {n : Nat} (h : (numL n).head? = some 48) : n = 0 := by
  have hl := numL_digits n
  by_cases h10 : n < 10
  · rw [numL_lt h10] at h
    have : 48 + n = 48 := Option.some.inj h
    omega
  · exfalso
    have key : ∀ m : Nat, 0 < m → (numL m).head? ≠ some 48 := by
      intro m
      induction m using Nat.strongRecOn with
      | _ m ih =>
        intro hm
        by_cases hm10 : m < 10
        · rw [numL_lt hm10]
          intro e
          have : 48 + m = 48 := Option.some.inj e
          omega
        · rw [numL_step (by omega)]
          have hne := numL_ne (m / 10)
          cases e : numL (m / 10) with
          | nil => exact absurd e hne
          | cons a r =>
            have := ih (m / 10) (by omega) (by omega)
            rw [e] at this
            exact this
    exact key n (by omega) h
end RL

-- part M2
set_option Elab.async false
set_option linter.all false
set_option maxRecDepth 100000
set_option maxHeartbeats 1000000
/-! Plain: which words write a number. -/
namespace RL
open PySem PySem.Spec PyProof.Rows L2 TL
abbrev zMinus : Str := "-"
abbrev zZero : Str := "0"
theorem tl_minus : tl zMinus = [45] := rfl
theorem tl_zero : tl zZero = [48] := rfl
/-- what stands behind a sign -/
def digitsOf (z : Str) : Str := if Txt.startswith z zMinus = true then cutS z (some 1) none else z
def badNum (z : Str) : Bool := !(Txt.isdigit (digitsOf z)) || (Txt.startswith (digitsOf z) zZero && !decide (z = zZero))
def readNum (z : Str) : Option Int := if badNum z = true then none else PySem.intText? z
theorem digitsOf_minus {z : Str} {r : List Nat} (h : tl z = 45 :: r) : tl (digitsOf z) = r := by
  unfold digitsOf
  rw [if_pos ((starts1 tl_minus).mpr ⟨r, h⟩)]
  have e := tl_cut_from z 1
  rw [h] at e
  exact e
theorem digitsOf_plain {z : Str} (h : ¬ ∃ r, tl z = 45 :: r) : digitsOf z = z := by
  unfold digitsOf
  rw [if_neg (fun q => h ((starts1 tl_minus).mp q))]
theorem tl_numS_neg {n : Nat} (h : 0 < n) : tl (numS (-(n : Int))) = 45 :: numL n := by
  obtain ⟨m, rfl⟩ : ∃ m, n = m + 1 := ⟨n - 1, by omega⟩
  have e : toString (-((m + 1 : Nat) : Int)) = "-" ++ toString (m + 1) := rfl
  show tl (Str.ofString (toString (-((m + 1 : Nat) : Int)))) = _
  rw [e, tl_ofString, String.toList_append, List.map_append]
  have e2 : tl (Str.ofString (toString ((m + 1 : Nat) : Int))) = numL (m + 1) := tl_num (m + 1)
  have e3 : toString ((m + 1 : Nat) : Int) = toString (m + 1) := rfl
  rw [e3, tl_ofString] at e2
  rw [e2]
  rfl
theorem not_minus {l : List Nat} (h : l.all isDg = true) : ¬ ∃ r, l = 45 :: r := fun ⟨r, e⟩ => by
  subst e
  rw [List.all_cons, Bool.and_eq_true] at h
  exact absurd h.1 (by decide)
theorem str_eq {z y : Str} : z = y ↔ tl z = tl y := ⟨fun h => by rw [h], ext_tl⟩
theorem badNum_minus {z : Str} (ha : Ascii (tl z)) {r : List Nat} (h : tl z = 45 :: r) : badNum z = (!(decide (r ≠ []) && r.all isDg) || decide (r.head? = some 48)) := by
  have hd := digitsOf_minus h
  have ha2 : Ascii (tl (digitsOf z)) := by
    rw [hd]
    intro c hc
    exact ha c (by rw [h]; exact List.mem_cons_of_mem _ hc)
  unfold badNum
  rw [isdigit_eq ha2, starts1_eq tl_zero, hd]
  have hz : decide (z = zZero) = false := decide_eq_false fun e => by
    rw [str_eq, h, tl_zero] at e
    cases e
  rw [hz]
  cases r with
  | nil => rfl
  | cons a r => simp
theorem badNum_plain {z : Str} (ha : Ascii (tl z)) (h : ¬ ∃ r, tl z = 45 :: r) : badNum z = (!(decide (tl z ≠ []) && (tl z).all isDg) || (decide ((tl z).head? = some 48) && !decide (tl z = [48]))) := by
  have hd := digitsOf_plain h
  unfold badNum
  rw [hd, isdigit_eq ha, starts1_eq tl_zero]
  have hz : decide (z = zZero) = decide (tl z = [48]) := by
    rw [decide_eq_decide, str_eq, tl_zero]
  rw [hz]
  cases tl z with
  | nil => rfl
  | cons a r => simp
theorem readNum_some {z : Str} (ha : Ascii (tl z)) (hl : z.length ≤ 640) (hb : badNum z = false) : ∃ n, PySem.intText? z = some n ∧ numS n = z := by
  by_cases h : ∃ r, tl z = 45 :: r
  · obtain ⟨r, h⟩ := h
    rw [badNum_minus ha h] at hb
    simp only [Bool.or_eq_false_iff, Bool.not_eq_false', Bool.and_eq_true, decide_eq_true_eq, decide_eq_false_iff_not] at hb
    obtain ⟨⟨h1, h2⟩, h3⟩ := hb
    have w := write_back _ r rfl h1 h2 (fun e => absurd e h3)
    have pos : 0 < NumText.digitsVal r := by
      cases e : NumText.digitsVal r with
      | succ n => exact Nat.succ_pos n
      | zero =>
        rw [e] at w
        rw [← w] at h3
        exact absurd rfl h3
    refine ⟨_, PySem.intText_neg h (all_dg h2) h1 (by omega), ?_⟩
    refine ext_tl ?_
    rw [tl_numS_neg pos, w, h]
  · rw [badNum_plain ha h] at hb
    simp only [Bool.or_eq_false_iff, Bool.not_eq_false', Bool.and_eq_true, decide_eq_true_eq, decide_eq_false_iff_not, Bool.and_eq_false_iff] at hb
    obtain ⟨⟨h1, h2⟩, h3⟩ := hb
    have w := write_back _ (tl z) rfl h1 h2 (fun e => h3.resolve_left fun q => q e)
    refine ⟨_, PySem.intText_digits (x := z) (all_dg h2) h1 (by omega), ?_⟩
    refine ext_tl ?_
    rw [tl_numS_nat, w]
theorem readNum_numS (n : Int) (hl : (numS n).length ≤ 640) : readNum (numS n) = some n ∧ Ascii (tl (numS n)) := by
  have digA : ∀ m : Nat, Ascii (numL m) := fun m c hc => by
    have := numL_digits m c hc
    omega
  have key : ∀ m : Nat, (numL m).head? = some 48 → numL m = [48] := fun m h => by
    rw [numL_head h]
    exact numL_lt (by decide)
  by_cases hn : 0 ≤ n
  · obtain ⟨m, rfl⟩ : ∃ m : Nat, n = (m : Int) := ⟨n.toNat, by omega⟩
    have ht := tl_numS_nat m
    have ha : Ascii (tl (numS (m : Int))) := by rw [ht]; exact digA m
    have hd : (tl (numS (m : Int))).all isDg = true := by rw [ht]; exact dg_all (numL_digits m)
    have hne : tl (numS (m : Int)) ≠ [] := by rw [ht]; exact numL_ne m
    have hb : badNum (numS (m : Int)) = false := by
      rw [badNum_plain ha (not_minus hd), hd, decide_eq_true hne, ht]
      cases e : decide ((numL m).head? = some 48) with
      | false => rfl
      | true => rw [decide_eq_true (key m (of_decide_eq_true e))]; rfl
    refine ⟨?_, ha⟩
    unfold readNum
    rw [hb, if_neg Bool.false_ne_true]
    refine (PySem.intText_digits (x := numS (m : Int)) (all_dg hd) hne (by omega)).trans ?_
    show some ((NumText.digitsVal (tl (numS (m : Int))) : Nat) : Int) = _
    rw [ht, numL_val]
  · obtain ⟨m, hm, rfl⟩ : ∃ m : Nat, 0 < m ∧ n = -(m : Int) := ⟨n.natAbs, by omega, by omega⟩
    have ht := tl_numS_neg hm
    have ha : Ascii (tl (numS (-(m : Int)))) := by
      rw [ht]
      intro c hc
      rcases List.mem_cons.mp hc with e | hc
      · omega
      · exact digA m c hc
    have hb : badNum (numS (-(m : Int))) = false := by
      rw [badNum_minus ha ht, dg_all (numL_digits m), decide_eq_true (numL_ne m)]
      have h0 : decide ((numL m).head? = some 48) = false := decide_eq_false fun e => by
        have := numL_head e
        omega
      rw [h0]
      rfl
    refine ⟨?_, ha⟩
    unfold readNum
    rw [hb, if_neg Bool.false_ne_true]
    refine (PySem.intText_neg ht (numL_digits m) (numL_ne m) (by omega)).trans ?_
    rw [numL_val]
theorem readNum_iff {z : Str} (ha : Ascii (tl z)) (hl : z.length ≤ 640) (n : Int) : readNum z = some n ↔ numS n = z := by
  constructor
  · intro h
    unfold readNum at h
    cases hb : badNum z with
    | true =>
      rw [hb, if_pos rfl] at h
      cases h
    | false =>
      rw [hb, if_neg Bool.false_ne_true] at h
      obtain ⟨m, h1, h2⟩ := readNum_some ha hl hb
      rw [h1] at h
      rw [← Option.some.inj h]
      exact h2
  · intro h
    subst h
    exact (readNum_numS n hl).1

/-! ### the numbers of a range that a word writes -/
theorem filt_range (p : Nat → Bool) (j : Nat) : ∀ n : Nat, (∀ i, i < n → p i = decide (i = j)) → (List.range n).filter p = if j < n then [j] else []
  | 0, _ => by simp
  | n + 1, h => by
    rw [List.range_succ, List.filter_append, filt_range p j n fun i hi => h i (by omega)]
    have e := h n (by omega)
    by_cases q : n = j
    · subst q
      rw [if_neg (by omega), if_pos (by omega)]
      simp [e]
    · have hp : p n = false := by rw [e, decide_eq_false q]
      rw [show [n].filter p = [] by simp [hp], List.append_nil]
      by_cases l : j < n
      · rw [if_pos l, if_pos (by omega)]
      · rw [if_neg l, if_neg (by omega)]
def hitAt (m : Nat) (z : Str) (j : Nat) : Bool := decide (-(m : Int) + j ≠ 0) && decide (numS (-(m : Int) + j) = z)
def hits (m : Nat) (z : Str) (n : Nat) : List Int := ((List.range n).filter (hitAt m z)).map fun j : Nat => -(m : Int) + (j : Int)
theorem hits_succ (m : Nat) (z : Str) (n : Nat) : hits m z (n + 1) = hits m z n ++ (if hitAt m z n = true then [-(m : Int) + (n : Int)] else []) := by
  unfold hits
  rw [List.range_succ, List.filter_append, List.map_append]
  congr 1
  cases h : hitAt m z n <;> simp [h]
def lenOk (m : Nat) (n : Int) : Bool := decide (n ≠ 0) && (decide (-(m : Int) ≤ n) && decide (n ≤ m))
theorem hits_eq {z : Str} (ha : Ascii (tl z)) (hl : z.length ≤ 640) (m : Nat) : hits m z (2 * m + 1) = (match readNum z with
    | some n => if lenOk m n = true then [n] else []
    | none => []) := by
  cases h : readNum z with
  | none =>
    have e : ∀ j, hitAt m z j = false := fun j => by
      unfold hitAt
      have : decide (numS (-(m : Int) + j) = z) = false := decide_eq_false fun q => by
        rw [(readNum_iff ha hl _).mpr q] at h
        cases h
      rw [this, Bool.and_false]
    unfold hits
    rw [show (List.range (2 * m + 1)).filter (hitAt m z) = [] from List.filter_eq_nil_iff.mpr fun a _ => by rw [e a]; exact Bool.false_ne_true]
    rfl
  | some n =>
    have e : ∀ j : Nat, hitAt m z j = (decide (n ≠ 0) && decide (-(m : Int) + j = n)) := fun j => by
      unfold hitAt
      have q : decide (numS (-(m : Int) + j) = z) = decide (-(m : Int) + j = n) := by
        rw [decide_eq_decide, ← readNum_iff ha hl, h]
        exact ⟨fun q => (Option.some.inj q).symm, fun q => by rw [q]⟩
      rw [q]
      by_cases r : -(m : Int) + j = n
      · rw [r]
      · rw [decide_eq_false r, Bool.and_false, Bool.and_false]
    show _ = if lenOk m n = true then [n] else []
    unfold lenOk
    by_cases hn : n = 0
    · subst hn
      unfold hits
      rw [show (List.range (2 * m + 1)).filter (hitAt m z) = [] from List.filter_eq_nil_iff.mpr fun a _ => by rw [e a]; simp]
      rfl
    · rw [decide_eq_true hn, Bool.true_and]
      by_cases hr : -(m : Int) ≤ n
      · have f := filt_range (hitAt m z) (n + m).toNat (2 * m + 1) fun i _ => by
          rw [e i, decide_eq_true hn, Bool.true_and, decide_eq_decide]
          omega
        unfold hits
        rw [f, decide_eq_true hr, Bool.true_and]
        by_cases hs : n ≤ m
        · rw [if_pos (by omega), if_pos (decide_eq_true hs), List.map_singleton]
          congr 1
          omega
        · rw [if_neg (by omega), if_neg (by simpa using hs)]
          rfl
      · unfold hits
        rw [show (List.range (2 * m + 1)).filter (hitAt m z) = [] from List.filter_eq_nil_iff.mpr fun a _ => by
          rw [e a, decide_eq_true hn, Bool.true_and]
          simp
          omega]
        rw [decide_eq_false hr]
        rfl
end RL

-- part M3
set_option Elab.async false
set_option linter.all false
set_option maxRecDepth 100000
set_option maxHeartbeats 1000000
/-! Plain: a line cut into words, a line cut at the first colon and blank; the deed that a line writes, read in two ways. -/
namespace RL
open PySem PySem.Spec PyProof.Rows L2 TL
/-! ### cut at one sign -/
theorem spl1_hit {s : Nat} {acc r : List Nat} : spl [s] 0 acc (s :: r) = acc :: spl [s] 0 [] r := spl_hit (by simp [pre])
theorem spl1_miss {s c : Nat} {acc r : List Nat} (h : c ≠ s) : spl [s] 0 acc (c :: r) = spl [s] 0 (acc ++ [c]) r := spl_miss (by simp [pre, h])
theorem spl1_ne (s : Nat) : ∀ (l acc : List Nat), spl [s] 0 acc l ≠ []
  | [], acc => by rw [spl_nil]; simp
  | c :: r, acc => by
    by_cases h : c = s
    · subst h
      rw [spl1_hit]
      simp
    · rw [spl1_miss h]
      exact spl1_ne s r _
theorem joinL_cons {S p : List Nat} {ws : List (List Nat)} (h : ws ≠ []) : joinL S (p :: ws) = p ++ (S ++ joinL S ws) := by
  cases ws with
  | nil => exact absurd rfl h
  | cons q r => rfl
theorem join_spl1 (s : Nat) : ∀ (l acc : List Nat), joinL [s] (spl [s] 0 acc l) = acc ++ l
  | [], acc => by rw [spl_nil]; simp [joinL]
  | c :: r, acc => by
    by_cases h : c = s
    · subst h
      rw [spl1_hit, joinL_cons (spl1_ne _ _ _), join_spl1 c r []]
      simp
    · rw [spl1_miss h, join_spl1 s r]
      simp
theorem spl1_free (s : Nat) : ∀ (l acc : List Nat), s ∉ acc → ∀ p ∈ spl [s] 0 acc l, s ∉ p
  | [], acc, ha, p, hp => by
    rw [spl_nil] at hp
    rw [List.mem_singleton.mp hp]
    exact ha
  | c :: r, acc, ha, p, hp => by
    by_cases h : c = s
    · subst h
      rw [spl1_hit] at hp
      rcases List.mem_cons.mp hp with e | hp
      · rw [e]
        exact ha
      · exact spl1_free c r [] (by simp) p hp
    · rw [spl1_miss h] at hp
      exact spl1_free s r (acc ++ [c]) (fun hm => by
        rcases List.mem_append.mp hm with q | q
        · exact ha q
        · exact h (List.mem_singleton.mp q).symm) p hp
abbrev cBlank : Str := " "
abbrev cColon : Str := ": "
abbrev cLine : Str := "\n"
theorem tl_blank : tl cBlank = [32] := rfl
theorem tl_colon : tl cColon = [58, 32] := rfl
theorem tl_line : tl cLine = [10] := rfl
/-- the words of a text -/
def wordsZ (z : Str) : List Str := Txt.split z cBlank
def linesZ (z : Str) : List Str := Txt.split z cLine
theorem split1 {y : Str} {s : Nat} (hy : tl y = [s]) (hs : s < 256) (z : Str) : Txt.split z y ≠ [] ∧ joinL [s] ((Txt.split z y).map tl) = tl z ∧ ∀ p ∈ Txt.split z y, s ∉ tl p := by
  have e := split_spl z y (by rw [hy]; simp) (kind_ok (by
    rw [← Array.all_toList]
    show (tl y).all _ = true
    rw [hy]
    simpa using hs))
  rw [hy] at e
  refine ⟨fun h => ?_, ?_, fun p hp => ?_⟩
  · rw [h] at e
    exact spl1_ne s (tl z) [] e.symm
  · rw [e, join_spl1]
    rfl
  · exact spl1_free s (tl z) [] (by simp) (tl p) (by rw [← e]; exact List.mem_map_of_mem hp)
theorem split_of_join {y : Str} {s : Nat} (hy : tl y = [s]) (hs : s < 256) {z : Str} {ws : List Str} (hne : ws ≠ []) (hf : ∀ p ∈ ws, s ∉ tl p) (h : tl z = joinL [s] (ws.map tl)) : Txt.split z y = ws := by
  have e : z = Txt.join y ws := by
    refine ext_tl ?_
    rw [join_eq, tl_join, hy]
    exact h
  rw [e]
  exact split_join hy (by
    rw [← Array.all_toList]
    show (tl y).all _ = true
    rw [hy]
    simpa using hs) hne hf

/-! ### the first colon and blank, by words -/
/-- the words ahead of the first word that ends with a colon and is not the last, that word without it; and the words behind -/
def parW : List (List Nat) → Option (List (List Nat) × List (List Nat))
  | [] => none
  | [_] => none
  | w :: v :: r => if w.getLast? = some 58 then some ([w.dropLast], v :: r) else (parW (v :: r)).map fun q => (w :: q.1, q.2)
theorem pre2 {a b : Nat} {l : List Nat} : pre [58, 32] (a :: b :: l) = (decide (a = 58) && decide (b = 32)) := by
  rw [Bool.eq_iff_iff]
  simp [pre]
theorem pre2_one {a : Nat} : pre [58, 32] [a] = false := by simp [pre]
theorem par_skip : ∀ (w acc rest : List Nat), 32 ∉ w → w.getLast? ≠ some 58 → par [58, 32] acc (w ++ 32 :: rest) = par [58, 32] (acc ++ w ++ [32]) rest
  | [], acc, rest, _, _ => by
    rw [List.nil_append, List.append_nil]
    refine par_miss ?_
    cases rest with
    | nil => exact pre2_one
    | cons b r => rw [pre2]; rfl
  | [c], acc, rest, hf, hl => by
    have h : pre [58, 32] (c :: 32 :: rest) = false := by
      rw [pre2, decide_eq_false (fun e => hl (by rw [e]; rfl))]
      rfl
    show par [58, 32] acc (c :: 32 :: rest) = _
    rw [par_miss h, ← List.nil_append (32 :: rest), par_skip [] _ rest (by simp) (by simp)]
    simp
  | c :: d :: w, acc, rest, hf, hl => by
    have hd : d ≠ 32 := fun e => hf (by rw [e]; simp)
    have h : pre [58, 32] (c :: d :: (w ++ 32 :: rest)) = false := by
      rw [pre2, decide_eq_false hd, Bool.and_false]
    show par [58, 32] acc (c :: d :: (w ++ 32 :: rest)) = _
    rw [par_miss h]
    have := par_skip (d :: w) (acc ++ [c]) rest (fun q => hf (List.mem_cons_of_mem _ q)) (by
      rw [List.getLast?_cons_cons] at hl
      exact hl)
    refine this.trans ?_
    simp
theorem par_last : ∀ (w acc : List Nat), 32 ∉ w → par [58, 32] acc w = none
  | [], acc, _ => rfl
  | [c], acc, _ => by rw [par_miss pre2_one] <;> rfl
  | c :: d :: w, acc, hf => by
    have hd : d ≠ 32 := fun e => hf (by rw [e]; simp)
    rw [par_miss (by rw [pre2, decide_eq_false hd, Bool.and_false])]
    exact par_last (d :: w) _ fun q => hf (List.mem_cons_of_mem _ q)
theorem par_hit_end : ∀ (u acc rest : List Nat), 32 ∉ u → par [58, 32] acc (u ++ 58 :: 32 :: rest) = some (acc ++ u, rest)
  | [], acc, rest, _ => by
    rw [List.nil_append, par_hit (by rw [pre2]; rfl), List.append_nil]
    rfl
  | [c], acc, rest, hf => by
    show par [58, 32] acc (c :: 58 :: 32 :: rest) = _
    rw [par_miss (by rw [pre2]; simp), ← List.nil_append (58 :: 32 :: rest), par_hit_end [] _ rest (by simp)]
    simp
  | c :: d :: u, acc, rest, hf => by
    have hd : d ≠ 32 := fun e => hf (by rw [e]; simp)
    show par [58, 32] acc (c :: d :: (u ++ 58 :: 32 :: rest)) = _
    rw [par_miss (by rw [pre2, decide_eq_false hd, Bool.and_false])]
    refine (par_hit_end (d :: u) (acc ++ [c]) rest fun q => hf (List.mem_cons_of_mem _ q)).trans ?_
    simp
theorem parW_ne : ∀ {ws : List (List Nat)} {a b : List (List Nat)}, parW ws = some (a, b) → a ≠ [] ∧ b ≠ []
  | [], _, _, h => by cases h
  | [_], _, _, h => by cases h
  | w :: v :: r, a, b, h => by
    unfold parW at h
    split at h
    · obtain ⟨rfl, rfl⟩ := Prod.mk.inj (Option.some.inj h)
      exact ⟨by simp, by simp⟩
    · cases e : parW (v :: r) with
      | none =>
        rw [e] at h
        cases h
      | some q =>
        rw [e] at h
        obtain ⟨rfl, rfl⟩ := Prod.mk.inj (Option.some.inj h)
        exact ⟨by simp, (parW_ne (a := q.1) (b := q.2) e).2⟩
theorem par_words : ∀ (ws : List (List Nat)) (acc : List Nat), ws ≠ [] → (∀ w ∈ ws, 32 ∉ w) → par [58, 32] acc (joinL [32] ws) = (parW ws).map fun q => (acc ++ joinL [32] q.1, joinL [32] q.2)
  | [], _, h, _ => absurd rfl h
  | [w], acc, _, hf => by
    show par [58, 32] acc w = none
    exact par_last w acc (hf w (by simp))
  | w :: v :: r, acc, _, hf => by
    have hw := hf w (by simp)
    have hf2 : ∀ u ∈ v :: r, 32 ∉ u := fun u hu => hf u (List.mem_cons_of_mem _ hu)
    show par [58, 32] acc (w ++ (32 :: joinL [32] (v :: r))) = _
    unfold parW
    split
    · rename_i hl
      have hne : w ≠ [] := fun e => by rw [e] at hl; cases hl
      have ew : w = w.dropLast ++ [58] := by
        have h2 := List.getLast?_eq_getLast hne
        rw [h2] at hl
        have h3 := List.dropLast_concat_getLast hne
        rw [Option.some.inj hl] at h3
        exact h3.symm
      have hu : 32 ∉ w.dropLast := fun q => hw (List.dropLast_subset _ q)
      have e2 : w ++ (32 :: joinL [32] (v :: r)) = w.dropLast ++ 58 :: 32 :: joinL [32] (v :: r) := by
        conv => lhs; rw [ew]
        simp
      rw [e2, par_hit_end _ _ _ hu]
      rfl
    · rename_i hl
      rw [par_skip w acc _ hw hl, par_words (v :: r) _ (by simp) hf2]
      cases e : parW (v :: r) with
      | none => rfl
      | some q =>
        obtain ⟨a, b⟩ := q
        show some _ = some _
        have ha := (parW_ne e).1
        show some (acc ++ w ++ [32] ++ joinL [32] a, joinL [32] b) = some (acc ++ joinL [32] (w :: a), joinL [32] b)
        rw [joinL_cons ha]
        simp
theorem parW_free : ∀ {ws : List (List Nat)} {a b : List (List Nat)} {s : Nat}, parW ws = some (a, b) → (∀ w ∈ ws, s ∉ w) → (∀ w ∈ a, s ∉ w) ∧ ∀ w ∈ b, s ∉ w
  | [], _, _, _, h, _ => by cases h
  | [_], _, _, _, h, _ => by cases h
  | w :: v :: r, a, b, s, h, hf => by
    unfold parW at h
    split at h
    · obtain ⟨rfl, rfl⟩ := Prod.mk.inj (Option.some.inj h)
      exact ⟨fun u hu => by
        rw [List.mem_singleton.mp hu]
        exact fun q => hf w (by simp) (List.dropLast_subset _ q), fun u hu => hf u (List.mem_cons_of_mem _ hu)⟩
    · cases e : parW (v :: r) with
      | none =>
        rw [e] at h
        cases h
      | some q =>
        rw [e] at h
        obtain ⟨rfl, rfl⟩ := Prod.mk.inj (Option.some.inj h)
        obtain ⟨h1, h2⟩ := parW_free (a := q.1) (b := q.2) (s := s) e fun u hu => hf u (List.mem_cons_of_mem _ hu)
        refine ⟨fun u hu => ?_, h2⟩
        rcases List.mem_cons.mp hu with rfl | hu
        · exact hf u (by simp)
        · exact h1 u hu
end RL

-- part M4
set_option Elab.async false
set_option linter.all false
set_option maxRecDepth 100000
set_option maxHeartbeats 1000000
/-! Plain: the deed that a line writes, by the program and by the law: the same. -/
namespace RL
open PySem PySem.Spec PyProof.Rows L2 TL
abbrev PD := PyData
abbrev kPeg : Str := "peg"
abbrev kHang : Str := "hang"
abbrev kFetch : Str := "fetch"
abbrev kTake : Str := "take"
abbrev kLook : Str := "look"
abbrev kPull : Str := "pull"
abbrev kWalk : Str := "walk"
abbrev kWhen : Str := "when"
abbrev kNear : Str := "near"
abbrev kFar : Str := "far"
abbrev kDot : Str := "."
abbrev sAbc : Str := "abcdefghijklmnopqrstuvwxyz"
def isNameZ (z : Str) : Bool := decide (1 ≤ z.length) && (decide (z.length ≤ 8) && (tl z).all fun c => decide (c ∈ tl sAbc))
def isWinZ (z : Str) : Bool := decide (z = kNear) || decide (z = kFar)
def isWinD : PD → Bool
  | .str z => isWinZ z
  | _ => false
def isNameD : PD → Bool
  | .str z => isNameZ z
  | _ => false
def lenD (m : Nat) : PD → Bool
  | .int n => lenOk m n
  | _ => false
def isThree (k : Str) : Bool := decide (k = kPeg) || (decide (k = kHang) || decide (k = kFetch))
def isTwo (k : Str) : Bool := decide (k = kTake) || decide (k = kLook)
/-- a plain deed's parts, behind its kind -/
def plainR (k : Str) (r : List PD) : Bool := if k = kPull then (match r with | [d] => lenD 40 d | _ => false) else match r with
  | d :: r2 => isWinD d && (if isTwo k = true then r2.isEmpty else if isThree k = true then (match r2 with | [e] => isNameD e | _ => false) else decide (k = kWalk) && (match r2 with | [e] => lenD 6 e | _ => false))
  | [] => false
def plainD : PD → Bool
  | .tuple (.str k :: r) => plainR k r
  | _ => false
def isNonD : PD → Bool
  | .none => true
  | _ => false
def whenD : PD → Bool
  | .tuple [.str k, a, b, c] => decide (k = kWhen) && (isWinD a && ((isNonD b || isNameD b) && plainD c))
  | _ => false
def isWhen : PD → Bool
  | .tuple [.str k, _, _, _] => decide (k = kWhen)
  | _ => false
def deedD (d : PD) : Bool := if isWhen d = true then whenD d else plainD d
/-! ### the program's reading -/
def numD (z : Str) : PD := match readNum z with
  | some n => .int n
  | none => .none
def pullish (k : Str) : Bool := decide (k = kPull) || decide (k = kWalk)
def readPlainW : List Str → PD
  | [] => .tuple []
  | k :: r => if pullish k = true then .tuple (((k :: r).dropLast.map PyData.str) ++ [numD ((k :: r).getLast (by simp))]) else .tuple ((k :: r).map PyData.str)
def whatD (z : Str) : PD := if z = kDot then .none else .str z
abbrev mk (l : List Nat) : Str := ⟨l.toArray⟩
def readDeedW (ws : List Str) : PD := match parW (ws.map tl) with
  | none => readPlainW ws
  | some (a, b) => match a.map mk with
    | [x, y, c] => .tuple [.str x, .str y, whatD c, readPlainW (b.map mk)]
    | _ => .none
/-! ### the law's reading -/
def ofHits (k : List PD) (ns : List Int) : Option PD := if ns = [] then none else some (.tuple (k ++ ns.map PyData.int))
def plainOfW : List Str → Option PD
  | [k, a] => if k = kPull then ofHits [.str k] (hits 40 a 81) else if (isTwo k && isWinZ a) = true then some (.tuple [.str k, .str a]) else none
  | [k, a, b] => if isThree k = true then (if (isWinZ a && isNameZ b) = true then some (.tuple [.str k, .str a, .str b]) else none)
      else if (decide (k = kWalk) && isWinZ a) = true then ofHits [.str k, .str a] (hits 6 b 13) else none
  | _ => none
def endsColon (z : Str) : Bool := decide ((tl z).getLast? = some 58)
def initZ (z : Str) : Str := mk (tl z).dropLast
def whenOfW : List Str → Option PD
  | k :: a :: b :: c :: r => if (isWinZ a && endsColon b) = true then (match plainOfW (c :: r) with
      | some d => if (decide (initZ b = kDot) || isNameZ (initZ b)) = true then some (.tuple [.str k, .str a, whatD (initZ b), d]) else none
      | none => none) else none
  | _ => none
def deedOfW (ws : List Str) : Option PD := if ws.head? = some kWhen then whenOfW ws else plainOfW ws

/-! ### they agree -/
def yes (b : Bool) (d : PD) : Option PD := if b = true then some d else none
theorem ofHits_eq {z : Str} (ha : Ascii (tl z)) (hl : z.length ≤ 640) (m : Nat) (k : List PD) : ofHits k (hits m z (2 * m + 1)) = yes (lenD m (numD z)) (.tuple (k ++ [numD z])) := by
  unfold ofHits
  rw [hits_eq ha hl m]
  unfold numD
  cases readNum z with
  | none => rfl
  | some n =>
    show (if (if lenOk m n = true then [n] else []) = [] then none else some (PyData.tuple (k ++ (if lenOk m n = true then [n] else []).map PyData.int))) = yes (lenOk m n) _
    cases h : lenOk m n <;> simp [yes]
def WOk (w : Str) : Prop := Ascii (tl w) ∧ w.length ≤ 640
theorem numD_cases (z : Str) : (∃ n, numD z = .int n) ∨ numD z = .none := by
  unfold numD
  cases readNum z with
  | none => exact .inr rfl
  | some n => exact .inl ⟨n, rfl⟩
theorem isWin_num (z : Str) : isWinD (numD z) = false := by
  rcases numD_cases z with ⟨n, e⟩ | e <;> rw [e] <;> rfl
theorem readPlainW_cons (k : Str) (r : List Str) : readPlainW (k :: r) = if pullish k = true then .tuple (((k :: r).dropLast.map PyData.str) ++ [numD ((k :: r).getLast (by simp))]) else .tuple ((k :: r).map PyData.str) := rfl
theorem plainOfW_1 (k : Str) : plainOfW [k] = none := rfl
theorem plainOfW_2 (k a : Str) : plainOfW [k, a] = if k = kPull then ofHits [.str k] (hits 40 a 81) else if (isTwo k && isWinZ a) = true then some (.tuple [.str k, .str a]) else none := rfl
theorem plainOfW_3 (k a b : Str) : plainOfW [k, a, b] = if isThree k = true then (if (isWinZ a && isNameZ b) = true then some (.tuple [.str k, .str a, .str b]) else none)
      else if (decide (k = kWalk) && isWinZ a) = true then ofHits [.str k, .str a] (hits 6 b 13) else none := rfl
theorem plainOfW_4 (k a b c : Str) (r : List Str) : plainOfW (k :: a :: b :: c :: r) = none := rfl
theorem dropLast_cons2 (k a : Str) (r : List Str) : (k :: a :: r).dropLast = k :: (a :: r).dropLast := rfl
theorem plain_agree : ∀ ws : List Str, ws ≠ [] → (∀ w ∈ ws, WOk w) → plainOfW ws = yes (plainD (readPlainW ws)) (readPlainW ws)
  | [], h, _ => absurd rfl h
  | [k], _, _ => by
    rw [readPlainW_cons, plainOfW_1]
    split
    · rcases numD_cases k with ⟨n, e⟩ | e
      · show none = yes (plainD (.tuple [numD k])) _
        rw [e]
        rfl
      · show none = yes (plainD (.tuple [numD k])) _
        rw [e]
        rfl
    · show none = yes (plainR k []) _
      unfold plainR
      split <;> rfl
  | [k, a], _, hw => by
    have ha := hw a (by simp)
    rw [readPlainW_cons, plainOfW_2]
    by_cases hp : k = kPull
    · subst hp
      rw [if_pos rfl, if_pos (show pullish kPull = true by decide)]
      exact ofHits_eq ha.1 ha.2 40 [.str kPull]
    · rw [if_neg hp]
      by_cases hk : k = kWalk
      · subst hk
        rw [if_pos (show pullish kWalk = true by decide), if_neg (show ¬ (isTwo kWalk && isWinZ a) = true by rw [show isTwo kWalk = false by decide]; simp)]
        show none = yes (plainR kWalk [numD a]) _
        unfold plainR
        rw [if_neg hp]
        show none = yes (isWinD (numD a) && _) _
        rw [isWin_num]
        rfl
      · have hq : pullish k = false := by simp [pullish, hp, hk]
        rw [if_neg (show ¬ pullish k = true by rw [hq]; exact Bool.false_ne_true)]
        show _ = yes (plainR k [.str a]) (.tuple [.str k, .str a])
        unfold plainR
        rw [if_neg hp]
        show _ = yes (isWinZ a && (if isTwo k = true then true else if isThree k = true then false else decide (k = kWalk) && false)) _
        cases isTwo k <;> cases isWinZ a <;> simp [yes]
  | [k, a, b], _, hw => by
    have hb := hw b (by simp)
    rw [readPlainW_cons, plainOfW_3]
    by_cases hp : k = kPull
    · subst hp
      rw [if_pos (show pullish kPull = true by decide), if_neg (show ¬ isThree kPull = true by decide), if_neg (show ¬ (decide (kPull = kWalk) && isWinZ a) = true by rw [show decide (kPull = kWalk) = false by decide]; simp)]
      rfl
    · by_cases hk : k = kWalk
      · subst hk
        rw [if_pos (show pullish kWalk = true by decide), if_neg (show ¬ isThree kWalk = true by decide)]
        show _ = yes (plainR kWalk [.str a, numD b]) (.tuple [.str kWalk, .str a, numD b])
        unfold plainR
        rw [if_neg hp]
        show _ = yes (isWinZ a && (if isTwo kWalk = true then false else if isThree kWalk = true then isNameD (numD b) else decide (kWalk = kWalk) && lenD 6 (numD b))) _
        rw [if_neg (show ¬ isTwo kWalk = true by decide), if_neg (show ¬ isThree kWalk = true by decide), decide_eq_true rfl, Bool.true_and, Bool.true_and]
        cases isWinZ a with
        | false => rfl
        | true => exact ofHits_eq hb.1 hb.2 6 [.str kWalk, .str a]
      · have hq : pullish k = false := by simp [pullish, hp, hk]
        rw [if_neg (show ¬ pullish k = true by rw [hq]; exact Bool.false_ne_true)]
        show _ = yes (plainR k [.str a, .str b]) (.tuple [.str k, .str a, .str b])
        unfold plainR
        rw [if_neg hp]
        show _ = yes (isWinZ a && (if isTwo k = true then false else if isThree k = true then isNameZ b else decide (k = kWalk) && lenD 6 (.str b))) _
        rw [decide_eq_false hk]
        cases h2 : isTwo k with
        | true =>
          have h3 : isThree k = false := by
            simp only [isTwo, Bool.or_eq_true, decide_eq_true_eq] at h2
            rcases h2 with e | e <;> subst e <;> decide
          rw [h3]
          simp [yes]
        | false =>
          cases isThree k <;> cases isWinZ a <;> cases isNameZ b <;> simp [yes]
  | k :: a :: b :: c :: r, _, _ => by
    rw [readPlainW_cons, plainOfW_4]
    have e : ∃ d l, (if pullish k = true then PyData.tuple (((k :: a :: b :: c :: r).dropLast.map PyData.str) ++ [numD ((k :: a :: b :: c :: r).getLast (by simp))]) else PyData.tuple ((k :: a :: b :: c :: r).map PyData.str)) = .tuple (.str k :: .str a :: .str b :: d :: l) := by
      split
      · cases r with
        | nil => exact ⟨_, _, rfl⟩
        | cons d r => exact ⟨_, _, rfl⟩
      · exact ⟨_, _, rfl⟩
    obtain ⟨d, l, e⟩ := e
    rw [e]
    show none = yes (plainR k (.str a :: .str b :: d :: l)) _
    unfold plainR
    split
    · rfl
    · show none = yes (isWinZ a && (if isTwo k = true then false else if isThree k = true then false else decide (k = kWalk) && false)) _
      cases isTwo k <;> cases isThree k <;> cases isWinZ a <;> simp [yes]
end RL

-- part M5
set_option Elab.async false
set_option linter.all false
set_option maxRecDepth 100000
set_option maxHeartbeats 1000000
/-! Plain: the whole line, read in two ways. -/
namespace RL
open PySem PySem.Spec PyProof.Rows L2 TL
theorem parW_one (w : List Nat) : parW [w] = none := rfl
theorem parW_more (w v : List Nat) (r : List (List Nat)) : parW (w :: v :: r) = if w.getLast? = some 58 then some ([w.dropLast], v :: r) else (parW (v :: r)).map fun q => (w :: q.1, q.2) := by rw [parW]
theorem ends_ne {k x : Str} (h : endsColon k = true) (hx : endsColon x = false) : k ≠ x := fun e => by
  rw [e, hx] at h
  cases h
theorem ends_iff {k : Str} : endsColon k = true ↔ (tl k).getLast? = some 58 := by simp [endsColon]
theorem ends_plain {k : Str} (h : endsColon k = true) : k ≠ kWhen ∧ k ≠ kPull ∧ k ≠ kWalk ∧ isTwo k = false ∧ isThree k = false ∧ isWinZ k = false := by
  have n := fun x (hx : endsColon x = false) => ends_ne h hx
  refine ⟨n _ (by decide), n _ (by decide), n _ (by decide), ?_, ?_, ?_⟩
  · simp [isTwo, n kTake (by decide), n kLook (by decide)]
  · simp [isThree, n kPeg (by decide), n kHang (by decide), n kFetch (by decide)]
  · simp [isWinZ, n kNear (by decide), n kFar (by decide)]
theorem plainR_when (r : List PD) : plainR kWhen r = false := by
  unfold plainR
  rw [if_neg (by decide)]
  cases r with
  | nil => rfl
  | cons d r2 =>
    show (isWinD d && (if isTwo kWhen = true then _ else if isThree kWhen = true then _ else decide (kWhen = kWalk) && _)) = false
    rw [if_neg (by decide), if_neg (by decide), decide_eq_false (by decide), Bool.false_and, Bool.and_false]
theorem isWhen_no {k : Str} (h : k ≠ kWhen) (l : List PD) : isWhen (.tuple (.str k :: l)) = false := by
  unfold isWhen
  split
  · rename_i k2 _ _ _ e
    have e2 : k = k2 := by
      injection e with e
      injection e with e _
      injection e
    rw [← e2]
    exact decide_eq_false h
  · rfl
theorem deedD_plain {k : Str} (h : k ≠ kWhen) (r : List Str) : deedD (readPlainW (k :: r)) = plainD (readPlainW (k :: r)) := by
  have e : isWhen (readPlainW (k :: r)) = false := by
    rw [readPlainW_cons]
    split
    · cases r with
      | nil =>
        show isWhen (.tuple [numD k]) = false
        rcases numD_cases k with ⟨n, e⟩ | e <;> rw [e] <;> rfl
      | cons a r => exact isWhen_no h _
    · exact isWhen_no h _
  unfold deedD
  rw [e, if_neg Bool.false_ne_true]
theorem deedD_whens (r : List Str) : deedD (readPlainW (kWhen :: r)) = false := by
  rw [readPlainW_cons, if_neg (by decide)]
  show deedD (.tuple (.str kWhen :: r.map PyData.str)) = false
  unfold deedD
  split
  · match r with
    | [a, b, c] =>
      show (decide (kWhen = kWhen) && (isWinZ a && ((isNonD (.str b) || isNameZ b) && plainD (.str c)))) = false
      show (_ && (_ && (_ && false))) = false
      simp
    | [] => rfl
    | [_] => rfl
    | [_, _] => rfl
    | _ :: _ :: _ :: _ :: _ => rfl
  · exact plainR_when _
theorem plainOf_no {ws : List Str} {a b : List (List Nat)} (h : parW (ws.map tl) = some (a, b)) : plainOfW ws = none := by
  match ws with
  | [] => rfl
  | [k] => rfl
  | [k, x] =>
    rw [plainOfW_2]
    have h2 : parW (tl k :: tl x :: []) = some (a, b) := h
    rw [parW_more] at h2
    split at h2
    · rename_i e
      obtain ⟨_, h1, _, h3, _, _⟩ := ends_plain (ends_iff.mpr e)
      rw [if_neg h1, h3]
      rfl
    · cases h2
  | [k, x, y] =>
    rw [plainOfW_3]
    have h2 : parW (tl k :: tl x :: [tl y]) = some (a, b) := h
    rw [parW_more] at h2
    split at h2
    · rename_i e
      obtain ⟨_, _, h1, _, h3, _⟩ := ends_plain (ends_iff.mpr e)
      rw [h3, if_neg Bool.false_ne_true, decide_eq_false h1]
      rfl
    · rw [parW_more] at h2
      split at h2
      · rename_i e
        obtain ⟨_, _, _, _, _, h3⟩ := ends_plain (ends_iff.mpr e)
        rw [h3, Bool.false_and, Bool.and_false]
        split <;> rfl
      · cases h2
  | _ :: _ :: _ :: _ :: _ => rfl
theorem mk_map (l : List Str) : (l.map tl).map mk = l := by
  rw [List.map_map]
  exact (List.map_congr_left fun z _ => mk_tl z).trans (List.map_id l)
theorem mkt (x : Str) : mk (tl x) = x := mk_tl x
theorem plainD_four (k : Str) (y w p : PD) : plainD (.tuple [.str k, y, w, p]) = false := by
  show plainR k [y, w, p] = false
  unfold plainR
  split
  · rfl
  · show (isWinD y && (if isTwo k = true then false else if isThree k = true then false else decide (k = kWalk) && false)) = false
    cases isTwo k <;> cases isThree k <;> simp
/-- THE LINE, read in two ways -/
theorem line_agree (ws : List Str) (hne : ws ≠ []) (hw : ∀ w ∈ ws, WOk w) : deedOfW ws = yes (deedD (readDeedW ws)) (readDeedW ws) := by
  obtain ⟨k, r, rfl⟩ : ∃ k r, ws = k :: r := by
    cases ws with
    | nil => exact absurd rfl hne
    | cons k r => exact ⟨k, r, rfl⟩
  by_cases hk : k = kWhen
  · subst hk
    have e0 : deedOfW (kWhen :: r) = whenOfW (kWhen :: r) := if_pos rfl
    have ke : endsColon kWhen = false := by decide
    have kn : ¬ (tl kWhen).getLast? = some 58 := fun q => by
      rw [← ends_iff, ke] at q
      cases q
    rw [e0]
    cases hp : parW ((kWhen :: r).map tl) with
    | none =>
      have e1 : readDeedW (kWhen :: r) = readPlainW (kWhen :: r) := by
        unfold readDeedW
        rw [hp]
      rw [e1, deedD_whens]
      match r with
      | [] => rfl
      | [_] => rfl
      | [_, _] => rfl
      | a :: b :: c :: r =>
        have hp2 : parW (tl kWhen :: tl a :: tl b :: tl c :: r.map tl) = none := hp
        rw [parW_more, if_neg kn, parW_more] at hp2
        split at hp2
        · cases hp2
        · rw [parW_more] at hp2
          split at hp2
          · cases hp2
          · rename_i e
            show (if (isWinZ a && endsColon b) = true then _ else none) = none
            have eb : endsColon b = false := by
              cases q : endsColon b with
              | false => rfl
              | true => exact absurd (ends_iff.mp q) e
            rw [eb, Bool.and_false]
            rfl
    | some q =>
      obtain ⟨a0, b0⟩ := q
      match r with
      | [] => cases hp
      | [x] =>
        have hp2 : parW (tl kWhen :: tl x :: []) = some (a0, b0) := hp
        rw [parW_more, if_neg kn] at hp2
        cases hp2
      | [x, y] =>
        have hp2 : parW (tl kWhen :: tl x :: [tl y]) = some (a0, b0) := hp
        rw [parW_more, if_neg kn, parW_more] at hp2
        split at hp2
        · have ea : a0 = [tl kWhen, (tl x).dropLast] := ((Prod.mk.inj (Option.some.inj hp2)).1).symm
          have e1 : readDeedW [kWhen, x, y] = .none := by
            unfold readDeedW
            rw [hp, ea]
            rfl
          rw [e1]
          rfl
        · cases hp2
      | x :: y :: c :: r =>
        have hp2 : parW (tl kWhen :: tl x :: tl y :: tl c :: r.map tl) = some (a0, b0) := hp
        rw [parW_more, if_neg kn, parW_more] at hp2
        show (if (isWinZ x && endsColon y) = true then _ else none) = _
        split at hp2
        · rename_i e
          have ea : a0 = [tl kWhen, (tl x).dropLast] := ((Prod.mk.inj (Option.some.inj hp2)).1).symm
          have e1 : readDeedW (kWhen :: x :: y :: c :: r) = .none := by
            unfold readDeedW
            rw [hp, ea]
            rfl
          rw [e1, (ends_plain (ends_iff.mpr e)).2.2.2.2.2]
          rfl
        · rw [parW_more] at hp2
          split at hp2
          · rename_i e
            have ea : a0 = [tl kWhen, tl x, (tl y).dropLast] := ((Prod.mk.inj (Option.some.inj hp2)).1).symm
            have eb : b0 = tl c :: r.map tl := ((Prod.mk.inj (Option.some.inj hp2)).2).symm
            have e1 : readDeedW (kWhen :: x :: y :: c :: r) = .tuple [.str kWhen, .str x, whatD (initZ y), readPlainW (c :: r)] := by
              unfold readDeedW
              rw [hp, ea, eb]
              show PyData.tuple [.str (mk (tl kWhen)), .str (mk (tl x)), whatD (mk (tl y).dropLast), readPlainW (mk (tl c) :: (r.map tl).map mk)] = _
              rw [mkt, mkt, mkt, mk_map]
              rfl
            have pa := plain_agree (c :: r) (by simp) fun w h => hw w (List.mem_cons_of_mem _ (List.mem_cons_of_mem _ (List.mem_cons_of_mem _ h)))
            rw [e1, ends_iff.mpr e, Bool.and_true]
            have e2 : deedD (.tuple [.str kWhen, .str x, whatD (initZ y), readPlainW (c :: r)]) = (isWinZ x && ((isNonD (whatD (initZ y)) || isNameD (whatD (initZ y))) && plainD (readPlainW (c :: r)))) := by
              show (if decide (kWhen = kWhen) = true then decide (kWhen = kWhen) && (isWinZ x && ((isNonD (whatD (initZ y)) || isNameD (whatD (initZ y))) && plainD (readPlainW (c :: r)))) else _) = _
              rw [decide_eq_true rfl, if_pos rfl, Bool.true_and]
            have e3 : (isNonD (whatD (initZ y)) || isNameD (whatD (initZ y))) = (decide (initZ y = kDot) || isNameZ (initZ y)) := by
              unfold whatD
              by_cases q : initZ y = kDot
              · rw [if_pos q, decide_eq_true q]
                rfl
              · rw [if_neg q, decide_eq_false q]
                rfl
            rw [e2, e3, pa]
            cases isWinZ x with
            | false => rfl
            | true =>
              rw [if_pos rfl]
              cases plainD (readPlainW (c :: r)) with
              | false =>
                rw [Bool.and_false]
                rfl
              | true =>
                rw [Bool.and_true]
                rfl
          · rename_i e
            have eb : endsColon y = false := by
              cases q : endsColon y with
              | false => rfl
              | true => exact absurd (ends_iff.mp q) e
            rw [eb, Bool.and_false, if_neg Bool.false_ne_true]
            have e1 : readDeedW (kWhen :: x :: y :: c :: r) = .none := by
              cases h4 : parW (tl c :: r.map tl) with
              | none =>
                rw [h4] at hp2
                cases hp2
              | some q =>
                rw [h4] at hp2
                have ea : a0 = tl kWhen :: tl x :: tl y :: q.1 := ((Prod.mk.inj (Option.some.inj hp2)).1).symm
                have hne := (parW_ne (a := q.1) (b := q.2) h4).1
                unfold readDeedW
                rw [hp, ea]
                cases h5 : q.1 with
                | nil => exact absurd h5 hne
                | cons u l => rfl
            rw [e1]
            rfl
  · have e0 : deedOfW (k :: r) = plainOfW (k :: r) := if_neg fun q => hk (Option.some.inj q)
    rw [e0]
    cases hp : parW ((k :: r).map tl) with
    | none =>
      have e1 : readDeedW (k :: r) = readPlainW (k :: r) := by
        unfold readDeedW
        rw [hp]
      rw [e1, deedD_plain hk]
      exact plain_agree _ hne hw
    | some q =>
      obtain ⟨a0, b0⟩ := q
      rw [plainOf_no hp]
      have e1 : deedD (readDeedW (k :: r)) = false := by
        unfold readDeedW
        rw [hp]
        show deedD (match a0.map mk with | [x, y, c] => PyData.tuple [.str x, .str y, whatD c, readPlainW (b0.map mk)] | _ => PyData.none) = false
        split
        · rename_i x y c e3
          have ex : x = k := by
            cases r with
            | nil => cases hp
            | cons v r =>
              have hp2 : parW (tl k :: tl v :: r.map tl) = some (a0, b0) := hp
              rw [parW_more] at hp2
              split at hp2
              · have ea : a0 = [(tl k).dropLast] := ((Prod.mk.inj (Option.some.inj hp2)).1).symm
                rw [ea] at e3
                cases e3
              · cases h4 : parW (tl v :: r.map tl) with
                | none =>
                  rw [h4] at hp2
                  cases hp2
                | some q =>
                  rw [h4] at hp2
                  have ea : a0 = tl k :: q.1 := ((Prod.mk.inj (Option.some.inj hp2)).1).symm
                  rw [ea, List.map_cons] at e3
                  have := (List.cons.inj e3).1
                  exact this.symm.trans (mk_tl k)
          rw [ex]
          unfold deedD
          rw [isWhen_no hk, if_neg Bool.false_ne_true]
          exact plainD_four _ _ _ _
        · rfl
      rw [e1]
      rfl
end RL

-- part M6
set_option Elab.async false
set_option linter.all false
set_option maxRecDepth 100000
set_option maxHeartbeats 1000000
/-! Plain: pages; what is told of a page; the text of deeds, read back; pages that are changed stay within bounds. -/
namespace RL
open PySem PySem.Spec PyProof.Rows L2 TL
def readDeedZ (z : Str) : PD := readDeedW (wordsZ z)
def toldL (ds : List PD) : PD := match ds.findIdx? (fun d => !deedD d) with
  | some k => .int (k : Nat)
  | none => if ds.length ≤ 12 then .tuple ds else .list [.int 12]
abbrev zNone : Str := ""
def toldZ (z : Str) : PD := if z = zNone then .tuple [] else toldL ((linesZ z).map readDeedZ)
theorem toldL_good {ds : List PD} (h : ∀ d ∈ ds, deedD d = true) : toldL ds = if ds.length ≤ 12 then .tuple ds else .list [.int 12] := by
  unfold toldL
  rw [List.findIdx?_eq_none_iff.mpr fun d hd => by rw [h d hd]; rfl]

/-! ### the forms of deeds -/
inductive PlainForm : PD → Prop
  | pull (n : Int) (h : lenOk 40 n = true) : PlainForm (.tuple [.str kPull, .int n])
  | two (k w : Str) (h : isTwo k = true) (hw : isWinZ w = true) : PlainForm (.tuple [.str k, .str w])
  | three (k w t : Str) (h : isThree k = true) (hw : isWinZ w = true) (ht : isNameZ t = true) : PlainForm (.tuple [.str k, .str w, .str t])
  | walk (w : Str) (n : Int) (hw : isWinZ w = true) (h : lenOk 6 n = true) : PlainForm (.tuple [.str kWalk, .str w, .int n])
theorem winD_form {d : PD} (h : isWinD d = true) : ∃ w, d = .str w ∧ isWinZ w = true := by
  cases d with
  | str w => exact ⟨w, rfl, h⟩
  | _ => cases h
theorem nameD_form {d : PD} (h : isNameD d = true) : ∃ w, d = .str w ∧ isNameZ w = true := by
  cases d with
  | str w => exact ⟨w, rfl, h⟩
  | _ => cases h
theorem lenD_form {m : Nat} {d : PD} (h : lenD m d = true) : ∃ n, d = .int n ∧ lenOk m n = true := by
  cases d with
  | int n => exact ⟨n, rfl, h⟩
  | _ => cases h
theorem plain_form {d : PD} (h : plainD d = true) : PlainForm d := by
  unfold plainD at h
  split at h
  · rename_i k r
    unfold plainR at h
    split at h
    · rename_i e
      subst e
      split at h
      · rename_i d
        obtain ⟨n, rfl, hn⟩ := lenD_form h
        exact .pull n hn
      · cases h
    · split at h
      · rename_i d r2
        rw [Bool.and_eq_true] at h
        obtain ⟨h1, h2⟩ := h
        obtain ⟨w, rfl, hw⟩ := winD_form h1
        split at h2
        · rename_i h3
          cases r2 with
          | nil => exact .two k w h3 hw
          | cons _ _ => cases h2
        · split at h2
          · rename_i h3
            split at h2
            · rename_i e
              obtain ⟨t, rfl, ht⟩ := nameD_form h2
              exact .three k w t h3 hw ht
            · cases h2
          · rw [Bool.and_eq_true] at h2
            obtain ⟨h3, h4⟩ := h2
            have e := of_decide_eq_true h3
            subst e
            split at h4
            · rename_i e
              obtain ⟨n, rfl, hn⟩ := lenD_form h4
              exact .walk w n hw hn
            · cases h4
      · cases h
  · cases h
theorem form_plain {d : PD} (h : PlainForm d) : plainD d = true := by
  cases h with
  | pull n h => exact h
  | two k w h hw =>
    show plainR k [.str w] = true
    have hk : k ≠ kPull := fun e => by subst e; exact absurd h (by decide)
    unfold plainR
    rw [if_neg hk]
    show (isWinZ w && (if isTwo k = true then true else _)) = true
    rw [hw, h]
    rfl
  | three k w t h hw ht =>
    show plainR k [.str w, .str t] = true
    have hk : k ≠ kPull := fun e => by subst e; exact absurd h (by decide)
    have h2 : isTwo k = false := by
      cases q : isTwo k with
      | false => rfl
      | true =>
        simp only [isTwo, Bool.or_eq_true, decide_eq_true_eq] at q
        rcases q with e | e <;> subst e <;> exact absurd h (by decide)
    unfold plainR
    rw [if_neg hk]
    show (isWinZ w && (if isTwo k = true then false else if isThree k = true then isNameZ t else _)) = true
    rw [hw, h2, h, ht]
    rfl
  | walk w n hw h =>
    show plainR kWalk [.str w, .int n] = true
    unfold plainR
    rw [if_neg (by decide)]
    show (isWinZ w && (if isTwo kWalk = true then false else if isThree kWalk = true then false else decide (kWalk = kWalk) && lenOk 6 n)) = true
    rw [hw, if_neg (by decide), if_neg (by decide), h]
    rfl
inductive DeedForm : PD → Prop
  | plain {d : PD} (h : PlainForm d) : DeedForm d
  | when (w : Str) (b c : PD) (hw : isWinZ w = true) (hb : b = .none ∨ ∃ t, b = .str t ∧ isNameZ t = true) (hc : PlainForm c) : DeedForm (.tuple [.str kWhen, .str w, b, c])
theorem deed_form {d : PD} (h : deedD d = true) : DeedForm d := by
  unfold deedD at h
  split at h
  · rename_i hw
    unfold whenD at h
    split at h
    · rename_i k a b c
      rw [Bool.and_eq_true, Bool.and_eq_true, Bool.and_eq_true] at h
      obtain ⟨h1, h2, h3, h4⟩ := h
      have e := of_decide_eq_true h1
      subst e
      obtain ⟨w, rfl, hww⟩ := winD_form h2
      refine .when w b c hww ?_ (plain_form h4)
      rw [Bool.or_eq_true] at h3
      rcases h3 with q | q
      · cases b with
        | none => exact .inl rfl
        | _ => cases q
      · exact .inr (nameD_form q)
    · cases h
  · exact .plain (plain_form h)
theorem plain_not_when {d : PD} (h : PlainForm d) : isWhen d = false := by
  cases h <;> rfl
theorem form_deed {d : PD} (h : DeedForm d) : deedD d = true := by
  cases h with
  | plain h =>
    unfold deedD
    rw [plain_not_when h, if_neg Bool.false_ne_true]
    exact form_plain h
  | when w b c hw hb hc =>
    show (if decide (kWhen = kWhen) = true then decide (kWhen = kWhen) && (isWinZ w && ((isNonD b || isNameD b) && plainD c)) else _) = true
    rw [decide_eq_true rfl, if_pos rfl, Bool.true_and, hw, form_plain hc, Bool.true_and, Bool.and_true]
    rcases hb with rfl | ⟨t, rfl, ht⟩
    · rfl
    · exact ht

/-! ### the text of a deed -/
def partZ : PD → Str
  | .str z => z
  | .int n => numS n
  | _ => zNone
def partsZ : PD → List Str
  | .tuple ps => ps.map partZ
  | _ => []
def plainLineZ (d : PD) : Str := Txt.join cBlank (partsZ d)
def whatZ : PD → Str
  | .str z => z
  | _ => kDot
abbrev zWhen : Str := "when "
def lineZ : PD → Str
  | .tuple [.str k, .str a, b, c] => if k = kWhen then zWhen ++ a ++ cBlank ++ whatZ b ++ cColon ++ plainLineZ c else plainLineZ (.tuple [.str k, .str a, b, c])
  | d => plainLineZ d
abbrev zColon : Str := ":"
def wordsOf : PD → List Str
  | .tuple [.str k, .str a, b, c] => if k = kWhen then kWhen :: a :: (whatZ b ++ zColon) :: partsZ c else partsZ (.tuple [.str k, .str a, b, c])
  | d => partsZ d
/-- a word of a text's: plain signs, none of them a blank or a line feed, few of them -/
def WordOk (n : Nat) (z : Str) : Prop := (∀ c ∈ tl z, c < 128 ∧ c ≠ 32 ∧ c ≠ 10) ∧ (tl z).length ≤ n
theorem win_word {w : Str} (h : isWinZ w = true) : WordOk 4 w := by
  simp only [isWinZ, Bool.or_eq_true, decide_eq_true_eq] at h
  rcases h with rfl | rfl
  · exact ⟨by decide, by decide⟩
  · exact ⟨by decide, by decide⟩
theorem two_word {w : Str} (h : isTwo w = true) : WordOk 5 w := by
  simp only [isTwo, Bool.or_eq_true, decide_eq_true_eq] at h
  rcases h with rfl | rfl
  · exact ⟨by decide, by decide⟩
  · exact ⟨by decide, by decide⟩
theorem three_word {w : Str} (h : isThree w = true) : WordOk 5 w := by
  simp only [isThree, Bool.or_eq_true, decide_eq_true_eq] at h
  rcases h with rfl | rfl | rfl
  · exact ⟨by decide, by decide⟩
  · exact ⟨by decide, by decide⟩
  · exact ⟨by decide, by decide⟩
theorem abc_plain : ∀ c ∈ tl sAbc, c < 128 ∧ c ≠ 32 ∧ c ≠ 10 ∧ c ≠ 58 := by decide
theorem name_word {w : Str} (h : isNameZ w = true) : WordOk 8 w := by
  simp only [isNameZ, Bool.and_eq_true, decide_eq_true_eq, List.all_eq_true] at h
  obtain ⟨_, h2, h3⟩ := h
  exact ⟨fun c hc => by
    obtain ⟨a, b, d, _⟩ := abc_plain c (h3 c hc)
    exact ⟨a, b, d⟩, by rw [← len_tl]; exact h2⟩
theorem num_word' : ∀ j : Fin 81, (∀ c ∈ tl (numS (-40 + (j.val : Int))), c < 128 ∧ c ≠ 32 ∧ c ≠ 10) ∧ (tl (numS (-40 + (j.val : Int)))).length ≤ 3 := by decide +kernel
theorem num_word {n : Int} {m : Nat} (hm : m ≤ 40) (h : lenOk m n = true) : WordOk 3 (numS n) := by
  simp only [lenOk, Bool.and_eq_true, decide_eq_true_eq] at h
  obtain ⟨h0, h1, h2⟩ := h
  have q := num_word' ⟨(n + 40).toNat, by omega⟩
  have e : -40 + (((n + 40).toNat : Nat) : Int) = n := by omega
  simp only at q
  rw [e] at q
  exact q
theorem numD_numS {n : Int} {m : Nat} (hm : m ≤ 40) (h : lenOk m n = true) : numD (numS n) = .int n := by
  have l := (num_word hm h).2
  unfold numD
  rw [(readNum_numS n (by rw [len_tl]; omega)).1]
theorem WordOk.mono {a b : Nat} {z : Str} (h : WordOk a z) (l : a ≤ b) : WordOk b z := ⟨h.1, Nat.le_trans h.2 l⟩
theorem WordOk.ok {a : Nat} {z : Str} (h : WordOk a z) (l : a ≤ 640) : WOk z := ⟨fun c hc => (h.1 c hc).1, by
  rw [len_tl]
  exact Nat.le_trans h.2 l⟩
/-- a plain deed's words, read back -/
theorem plain_back {d : PD} (h : PlainForm d) : plainOfW (partsZ d) = some d ∧ (partsZ d).head? ≠ some kWhen ∧ partsZ d ≠ [] ∧ (∀ w ∈ partsZ d, WordOk 8 w) ∧ (joinL [32] ((partsZ d).map tl)).length ≤ 19 := by
  cases h with
  | pull n h =>
    have w1 : WordOk 8 kPull := ⟨by decide, by decide⟩
    have w2 := num_word (Nat.le_refl _) h
    refine ⟨?_, by show some kPull ≠ some kWhen; decide, by simp [partsZ], ?_, ?_⟩
    · show plainOfW [kPull, numS n] = _
      rw [plainOfW_2, if_pos rfl]
      refine (ofHits_eq (z := numS n) (w2.ok (by decide)).1 (w2.ok (by decide)).2 40 [.str kPull]).trans ?_
      rw [numD_numS (Nat.le_refl _) h]
      show yes (lenOk 40 n) _ = _
      rw [h]
      rfl
    · intro w hw
      rcases List.mem_cons.mp (show w ∈ [kPull, numS n] from hw) with rfl | hw
      · exact w1
      · rw [List.mem_singleton.mp hw]
        exact w2.mono (by decide)
    · show (tl kPull ++ ([32] ++ tl (numS n))).length ≤ 19
      have e : (tl kPull).length = 4 := by decide
      rw [List.length_append, List.length_append, e]
      have := w2.2
      simp only [List.length_cons, List.length_nil]
      omega
  | two k w h hw =>
    have w1 := two_word h
    have w2 := win_word hw
    refine ⟨?_, ?_, by simp [partsZ], ?_, ?_⟩
    · show plainOfW [k, w] = _
      have hk : k ≠ kPull := fun e => by subst e; exact absurd h (by decide)
      rw [plainOfW_2, if_neg hk, h, hw]
      rfl
    · show some k ≠ some kWhen
      intro e
      rw [Option.some.inj e] at h
      exact absurd h (by decide)
    · intro u hu
      rcases List.mem_cons.mp (show u ∈ [k, w] from hu) with rfl | hu
      · exact w1.mono (by decide)
      · rw [List.mem_singleton.mp hu]
        exact w2.mono (by decide)
    · show (tl k ++ ([32] ++ tl w)).length ≤ 19
      rw [List.length_append, List.length_append]
      have := w1.2
      have := w2.2
      simp only [List.length_cons, List.length_nil]
      omega
  | three k w t h hw ht =>
    have w1 := three_word h
    have w2 := win_word hw
    have w3 := name_word ht
    refine ⟨?_, ?_, by simp [partsZ], ?_, ?_⟩
    · show plainOfW [k, w, t] = _
      rw [plainOfW_3, h, hw, ht]
      rfl
    · show some k ≠ some kWhen
      intro e
      rw [Option.some.inj e] at h
      exact absurd h (by decide)
    · intro u hu
      rcases List.mem_cons.mp (show u ∈ [k, w, t] from hu) with rfl | hu
      · exact w1.mono (by decide)
      · rcases List.mem_cons.mp hu with rfl | hu
        · exact w2.mono (by decide)
        · rw [List.mem_singleton.mp hu]
          exact w3
    · show (tl k ++ ([32] ++ (tl w ++ ([32] ++ tl t)))).length ≤ 19
      rw [List.length_append, List.length_append, List.length_append, List.length_append]
      have := w1.2
      have := w2.2
      have := w3.2
      simp only [List.length_cons, List.length_nil]
      omega
  | walk w n hw h =>
    have w1 : WordOk 8 kWalk := ⟨by decide, by decide⟩
    have w2 := win_word hw
    have w3 := num_word (by decide) h
    refine ⟨?_, by show some kWalk ≠ some kWhen; decide, by simp [partsZ], ?_, ?_⟩
    · show plainOfW [kWalk, w, numS n] = _
      rw [plainOfW_3, if_neg (by decide), hw, decide_eq_true rfl]
      refine (ofHits_eq (z := numS n) (w3.ok (by decide)).1 (w3.ok (by decide)).2 6 [.str kWalk, .str w]).trans ?_
      rw [numD_numS (by decide) h]
      show yes (lenOk 6 n) _ = _
      rw [h]
      rfl
    · intro u hu
      rcases List.mem_cons.mp (show u ∈ [kWalk, w, numS n] from hu) with rfl | hu
      · exact w1
      · rcases List.mem_cons.mp hu with rfl | hu
        · exact w2.mono (by decide)
        · rw [List.mem_singleton.mp hu]
          exact w3.mono (by decide)
    · show (tl kWalk ++ ([32] ++ (tl w ++ ([32] ++ tl (numS n))))).length ≤ 19
      have e : (tl kWalk).length = 4 := by decide
      rw [List.length_append, List.length_append, List.length_append, List.length_append, e]
      have := w2.2
      have := w3.2
      simp only [List.length_cons, List.length_nil]
      omega
theorem lineZ_plain {d : PD} (h : PlainForm d) : lineZ d = plainLineZ d ∧ wordsOf d = partsZ d := by
  cases h <;> exact ⟨rfl, rfl⟩
theorem lineZ_when (w : Str) (b c : PD) : lineZ (.tuple [.str kWhen, .str w, b, c]) = zWhen ++ w ++ cBlank ++ whatZ b ++ cColon ++ plainLineZ c := by
  unfold lineZ
  exact if_pos rfl
theorem wordsOf_when (w : Str) (b c : PD) : wordsOf (.tuple [.str kWhen, .str w, b, c]) = kWhen :: w :: (whatZ b ++ zColon) :: partsZ c := by
  unfold wordsOf
  exact if_pos rfl
theorem tl_plainLine (d : PD) : tl (plainLineZ d) = joinL [32] ((partsZ d).map tl) := by
  unfold plainLineZ
  rw [join_eq, tl_join]
  rfl
/-- what is wanted of a good line -/
structure LineOk (d : PD) : Prop where
  words : wordsZ (lineZ d) = wordsOf d
  back : deedOfW (wordsOf d) = some d
  wok : ∀ w ∈ wordsOf d, WOk w
  signs : ∀ c ∈ tl (lineZ d), c < 128 ∧ c ≠ 10
  few : (tl (lineZ d)).length ≤ 39
theorem joinL_mem {s : Nat} : ∀ {ws : List (List Nat)} {c : Nat}, c ∈ joinL [s] ws → c = s ∨ ∃ w ∈ ws, c ∈ w
  | [], c, h => by cases h
  | [w], c, h => .inr ⟨w, by simp, h⟩
  | w :: v :: r, c, h => by
    have h2 : c ∈ w ++ ([s] ++ joinL [s] (v :: r)) := h
    rcases List.mem_append.mp h2 with q | q
    · exact .inr ⟨w, by simp, q⟩
    · rcases List.mem_append.mp q with q | q
      · exact .inl (List.mem_singleton.mp q)
      · rcases joinL_mem q with e | ⟨u, hu, hc⟩
        · exact .inl e
        · exact .inr ⟨u, List.mem_cons_of_mem _ hu, hc⟩
theorem tl_parts_mem {d : PD} (h : PlainForm d) {c : Nat} (hc : c ∈ tl (plainLineZ d)) : c < 128 ∧ c ≠ 10 := by
  obtain ⟨_, _, _, hw, _⟩ := plain_back h
  rw [tl_plainLine] at hc
  rcases joinL_mem hc with e | ⟨u, hu, hcu⟩
  · subst e
    exact ⟨by decide, by decide⟩
  · obtain ⟨z, hz, rfl⟩ := List.mem_map.mp hu
    obtain ⟨a, _, b⟩ := (hw z hz).1 c hcu
    exact ⟨a, b⟩
theorem line_ok {d : PD} (h : DeedForm d) : LineOk d := by
  cases h with
  | plain h =>
    obtain ⟨p1, p2, p3, p4, p5⟩ := plain_back h
    obtain ⟨e1, e2⟩ := lineZ_plain h
    refine ⟨?_, ?_, ?_, ?_, ?_⟩
    · rw [e1, e2]
      exact split_of_join tl_blank (by decide) p3 (fun w hw q => ((p4 w hw).1 32 q).2.1 rfl) (tl_plainLine d)
    · rw [e2]
      exact (if_neg p2).trans p1
    · rw [e2]
      exact fun w hw => (p4 w hw).ok (by decide)
    · rw [e1]
      exact fun c hc => tl_parts_mem h hc
    · rw [e1, tl_plainLine]
      omega
  | when w b c hw hb hc =>
    obtain ⟨p1, p2, p3, p4, p5⟩ := plain_back hc
    have w1 := win_word hw
    have wb : WordOk 8 (whatZ b) := by
      rcases hb with rfl | ⟨t, rfl, ht⟩
      · exact ⟨by decide, by decide⟩
      · exact name_word ht
    have wc : WordOk 9 (whatZ b ++ zColon) := by
      refine ⟨fun c hc => ?_, ?_⟩
      · rw [tl_append] at hc
        rcases List.mem_append.mp hc with q | q
        · exact wb.1 c q
        · rw [List.mem_singleton.mp (show c ∈ [58] from q)]
          exact ⟨by decide, by decide, by decide⟩
      · rw [tl_append, List.length_append]
        have e : (tl zColon).length = 1 := by decide
        have := wb.2
        omega
    have eL : tl (zWhen ++ w ++ cBlank ++ whatZ b ++ cColon ++ plainLineZ c) = joinL [32] ((kWhen :: w :: (whatZ b ++ zColon) :: partsZ c).map tl) := by
      rw [tl_append, tl_append, tl_append, tl_append, tl_append, tl_plainLine]
      show _ = tl kWhen ++ ([32] ++ (tl w ++ ([32] ++ joinL [32] (tl (whatZ b ++ zColon) :: (partsZ c).map tl))))
      rw [joinL_cons (by intro q; exact p3 (List.map_eq_nil_iff.mp q)), tl_append]
      have e1 : tl zWhen = tl kWhen ++ [32] := by decide
      have e2 : tl cColon = tl zColon ++ [32] := by decide
      have e3 : tl cBlank = [32] := rfl
      rw [e1, e2, e3]
      simp
    have all : ∀ u ∈ kWhen :: w :: (whatZ b ++ zColon) :: partsZ c, WordOk 9 u := by
      intro u hu
      rcases List.mem_cons.mp hu with rfl | hu
      · exact ⟨by decide, by decide⟩
      · rcases List.mem_cons.mp hu with rfl | hu
        · exact w1.mono (by decide)
        · rcases List.mem_cons.mp hu with rfl | hu
          · exact wc
          · exact (p4 u hu).mono (by decide)
    refine ⟨?_, ?_, ?_, ?_, ?_⟩
    · rw [lineZ_when, wordsOf_when]
      exact split_of_join tl_blank (by decide) (by simp) (fun u hu q => ((all u hu).1 32 q).2.1 rfl) eL
    · rw [wordsOf_when]
      have e0 : deedOfW (kWhen :: w :: (whatZ b ++ zColon) :: partsZ c) = whenOfW (kWhen :: w :: (whatZ b ++ zColon) :: partsZ c) := if_pos rfl
      rw [e0]
      have ei : initZ (whatZ b ++ zColon) = whatZ b := by
        unfold initZ
        rw [tl_append]
        show mk ((tl (whatZ b) ++ [58]).dropLast) = _
        rw [List.dropLast_concat]
      have ee : endsColon (whatZ b ++ zColon) = true := by
        rw [ends_iff, tl_append]
        show (tl (whatZ b) ++ [58]).getLast? = some 58
        simp
      cases hp : partsZ c with
      | nil => exact absurd hp p3
      | cons x r =>
        rw [hp] at p1
        show (if (isWinZ w && endsColon (whatZ b ++ zColon)) = true then _ else none) = _
        rw [hw, ee]
        show (match plainOfW (x :: r) with
          | some d => if (decide (initZ (whatZ b ++ zColon) = kDot) || isNameZ (initZ (whatZ b ++ zColon))) = true then some (PyData.tuple [.str kWhen, .str w, whatD (initZ (whatZ b ++ zColon)), d]) else none
          | none => none) = _
        rw [p1, ei]
        rcases hb with rfl | ⟨t, rfl, ht⟩
        · rfl
        · show (if (decide (t = kDot) || isNameZ t) = true then some (PyData.tuple [.str kWhen, .str w, whatD t, c]) else none) = _
          rw [ht, Bool.or_true, if_pos rfl]
          have : t ≠ kDot := fun e => by
            subst e
            exact absurd ht (by decide)
          unfold whatD
          rw [if_neg this]
    · rw [wordsOf_when]
      exact fun u hu => (all u hu).ok (by decide)
    · rw [lineZ_when, eL]
      intro c hc
      rcases joinL_mem hc with e | ⟨u, hu, hcu⟩
      · subst e
        exact ⟨by decide, by decide⟩
      · obtain ⟨z, hz, rfl⟩ := List.mem_map.mp hu
        obtain ⟨a, _, b⟩ := (all z hz).1 c hcu
        exact ⟨a, b⟩
    · rw [lineZ_when, eL]
      show (tl kWhen ++ ([32] ++ (tl w ++ ([32] ++ joinL [32] (tl (whatZ b ++ zColon) :: (partsZ c).map tl))))).length ≤ 39
      rw [joinL_cons (by intro q; exact p3 (List.map_eq_nil_iff.mp q))]
      have e : (tl kWhen).length = 4 := by decide
      have := w1.2
      have := wc.2
      simp only [List.length_append, List.length_cons, List.length_nil]
      omega
theorem read_back {d : PD} (h : DeedForm d) : readDeedZ (lineZ d) = d := by
  have k := line_ok h
  have e := line_agree (wordsOf d) (by
    intro q
    have b := k.back
    rw [q] at b
    cases b) k.wok
  rw [k.back] at e
  unfold yes at e
  split at e
  · unfold readDeedZ
    rw [k.words]
    exact (Option.some.inj e).symm
  · cases e
end RL

-- part M7
set_option Elab.async false
set_option linter.all false
set_option maxRecDepth 100000
set_option maxHeartbeats 1000000
/-! Plain: pages within bounds, and what changes do to the bounds; the text of a row, told. -/
namespace RL
open PySem PySem.Spec PyProof.Rows L2 TL
/-- no run of signs without a line feed is longer than n -/
def Runs (n : Nat) (t : List Nat) : Prop := ∀ w, w <:+: t → 10 ∉ w → w.length ≤ n
theorem infix_app {w p q : List Nat} (h : w <:+: p ++ q) : w <:+: p ∨ w <:+: q ∨ ∃ u v, w = u ++ v ∧ u <:+: p ∧ v <:+: q := by
  obtain ⟨a, b, h⟩ := h
  rw [List.append_assoc] at h
  rcases List.append_eq_append_iff.mp h with ⟨x, e1, e2⟩ | ⟨x, e1, e2⟩
  · rcases List.append_eq_append_iff.mp e2 with ⟨y, e3, e4⟩ | ⟨y, e3, e4⟩
    · exact .inl ⟨a, y, by rw [e1, e3, List.append_assoc]⟩
    · exact .inr (.inr ⟨x, y, e3, ⟨a, [], by rw [e1, List.append_nil]⟩, ⟨[], b, by rw [e4]; rfl⟩⟩)
  · exact .inr (.inl ⟨x, b, by rw [e2, List.append_assoc]⟩)
theorem infix_nl {s : Nat} {w p q : List Nat} (h : w <:+: p ++ s :: q) (hf : s ∉ w) : w <:+: p ∨ w <:+: q := by
  obtain ⟨a, b, h⟩ := h
  rw [List.append_assoc] at h
  rcases List.append_eq_append_iff.mp h with ⟨x, e1, e2⟩ | ⟨x, e1, e2⟩
  · rcases List.append_eq_append_iff.mp e2 with ⟨y, e3, e4⟩ | ⟨y, e3, e4⟩
    · exact .inl ⟨a, y, by rw [e1, e3, List.append_assoc]⟩
    · cases y with
      | nil => exact .inl ⟨a, [], by rw [e1, e3, List.append_nil, List.append_nil]⟩
      | cons c y =>
        have ec : s = c := (List.cons.inj e4).1
        exact absurd (by rw [e3, ec]; simp) hf
  · cases x with
    | nil =>
      cases w with
      | nil => exact .inl (List.nil_infix)
      | cons c w =>
        have ec : s = c := (List.cons.inj e2).1
        exact absurd (by rw [ec]; exact List.mem_cons_self) hf
    | cons c x => exact .inr ⟨x, b, by rw [List.append_assoc]; exact (List.cons.inj e2).2.symm⟩
theorem Runs.mono {m n : Nat} {t : List Nat} (h : Runs m t) (l : m ≤ n) : Runs n t := fun w hw hf => Nat.le_trans (h w hw hf) l
theorem Runs.sub {n : Nat} {s t : List Nat} (h : Runs n t) (i : s <:+: t) : Runs n s := fun w hw hf => h w (hw.trans i) hf
theorem Runs.few {n : Nat} {t : List Nat} (h : t.length ≤ n) : Runs n t := fun w hw _ => Nat.le_trans hw.length_le h
theorem Runs.app {m n : Nat} {p q : List Nat} (h1 : Runs m p) (h2 : Runs n q) : Runs (m + n) (p ++ q) := fun w hw hf => by
  rcases infix_app hw with h | h | ⟨u, v, rfl, hu, hv⟩
  · exact Nat.le_trans (h1 w h hf) (Nat.le_add_right _ _)
  · exact Nat.le_trans (h2 w h hf) (Nat.le_add_left _ _)
  · have a := h1 u hu fun z => hf (List.mem_append_left _ z)
    have b := h2 v hv fun z => hf (List.mem_append_right _ z)
    rw [List.length_append]
    omega
theorem Runs.nl {n : Nat} {p q : List Nat} (h1 : Runs n p) (h2 : Runs n q) : Runs n (p ++ ([10] ++ q)) := fun w hw hf => by
  rcases infix_nl hw hf with h | h
  · exact h1 w h hf
  · exact h2 w h hf
theorem Runs.join {n : Nat} : ∀ {ps : List (List Nat)}, (∀ p ∈ ps, Runs n p) → Runs n (joinL [10] ps)
  | [], _ => Runs.few (Nat.zero_le _)
  | [p], h => h p (by simp)
  | p :: q :: r, h => Runs.nl (h p (by simp)) (Runs.join fun u hu => h u (List.mem_cons_of_mem _ hu))
theorem infix_join {s : Nat} : ∀ {ps : List (List Nat)} {p : List Nat}, p ∈ ps → p <:+: joinL [s] ps
  | [q], p, h => by
    rw [List.mem_singleton.mp h]
    exact List.infix_refl _
  | q :: v :: r, p, h => by
    show p <:+: q ++ ([s] ++ joinL [s] (v :: r))
    rcases List.mem_cons.mp h with e | h
    · rw [e]
      exact ⟨[], [s] ++ joinL [s] (v :: r), by simp⟩
    · obtain ⟨a, b, e⟩ := infix_join (s := s) h
      exact ⟨q ++ [s] ++ a, b, by rw [← e]; simp⟩
/-- signs plain, runs at most n, at most t signs in all -/
structure PageOk (n t : Nat) (z : Str) : Prop where
  ascii : Ascii (tl z)
  runs : Runs n (tl z)
  few : (tl z).length ≤ t
theorem PageOk.mono {n t n' t' : Nat} {z : Str} (h : PageOk n t z) (l1 : n ≤ n') (l2 : t ≤ t') : PageOk n' t' z := ⟨h.ascii, h.runs.mono l1, Nat.le_trans h.few l2⟩
theorem lines_of (z : Str) : linesZ z ≠ [] ∧ joinL [10] ((linesZ z).map tl) = tl z ∧ ∀ p ∈ linesZ z, 10 ∉ tl p := split1 tl_line (by decide) z
theorem words_of (z : Str) : wordsZ z ≠ [] ∧ joinL [32] ((wordsZ z).map tl) = tl z ∧ ∀ p ∈ wordsZ z, 32 ∉ tl p := split1 tl_blank (by decide) z
/-- a line of a page -/
theorem PageOk.line {n t : Nat} {z p : Str} (h : PageOk n t z) (hp : p ∈ linesZ z) : Ascii (tl p) ∧ p.length ≤ n ∧ tl p <:+: tl z := by
  obtain ⟨_, e, f⟩ := lines_of z
  have i : tl p <:+: tl z := by
    rw [← e]
    exact infix_join (List.mem_map_of_mem hp)
  exact ⟨fun c hc => h.ascii c (i.subset hc), by rw [len_tl]; exact h.runs _ i (f p hp), i⟩
theorem word_ok {z w : Str} (ha : Ascii (tl z)) (hl : z.length ≤ 640) (hw : w ∈ wordsZ z) : WOk w := by
  obtain ⟨_, e, f⟩ := words_of z
  have i : tl w <:+: tl z := by
    rw [← e]
    exact infix_join (List.mem_map_of_mem hw)
  refine ⟨fun c hc => ha c (i.subset hc), ?_⟩
  have := i.length_le
  rw [len_tl] at hl ⊢
  omega
/-- THE LINE, as a text -/
theorem agreeZ {z : Str} (ha : Ascii (tl z)) (hl : z.length ≤ 640) : deedOfW (wordsZ z) = yes (deedD (readDeedZ z)) (readDeedZ z) := line_agree (wordsZ z) (words_of z).1 fun w hw => word_ok ha hl hw

/-! ### changes -/
theorem take_infix (l : List Nat) (k : Nat) : l.take k <:+: l := (List.take_prefix k l).isInfix
theorem drop_infix (l : List Nat) (k : Nat) : l.drop k <:+: l := (List.drop_suffix k l).isInfix
theorem ascii_app {p q : List Nat} (h1 : Ascii p) (h2 : Ascii q) : Ascii (p ++ q) := fun c hc => by
  rcases List.mem_append.mp hc with h | h
  · exact h1 c h
  · exact h2 c h
theorem ascii_sub {p q : List Nat} (h : Ascii q) (i : p <:+: q) : Ascii p := fun c hc => h c (i.subset hc)
/-- a part of a page, some signs, a part of the page -/
theorem PageOk.mid {n t : Nat} {z y : Str} {p m q : List Nat} (h : PageOk n t z) (hp : p <:+: tl z) (hm : Ascii m) (hq : q <:+: tl z) (hl : m.length ≤ 25) (e : tl y = p ++ (m ++ q)) : PageOk (2 * n + 25) (2 * t + 25) y := by
  refine ⟨?_, ?_, ?_⟩
  · rw [e]
    exact ascii_app (ascii_sub h.ascii hp) (ascii_app hm (ascii_sub h.ascii hq))
  · rw [e]
    exact ((h.runs.sub hp).app ((Runs.few hl).app (h.runs.sub hq))).mono (by omega)
  · rw [e, List.length_append, List.length_append]
    have a := hp.length_le
    have b := hq.length_le
    have := h.few
    omega
/-- the signs of joined lines: each line and one sign more -/
def sumL (ps : List Str) : Nat := (ps.map fun p => (tl p).length + 1).sum
theorem joinL_len : ∀ ps : List Str, (joinL [10] (ps.map tl)).length ≤ sumL ps
  | [] => Nat.zero_le _
  | [p] => by
    show (tl p).length ≤ (tl p).length + 1 + 0
    omega
  | p :: q :: r => by
    show (tl p ++ ([10] ++ joinL [10] ((q :: r).map tl))).length ≤ (tl p).length + 1 + sumL (q :: r)
    have := joinL_len (q :: r)
    simp only [List.length_append, List.length_cons, List.length_nil]
    omega
theorem sumL_join : ∀ ps : List Str, ps ≠ [] → sumL ps = (joinL [10] (ps.map tl)).length + 1
  | [], h => absurd rfl h
  | [p], _ => by
    show (tl p).length + 1 + 0 = (tl p).length + 1
    omega
  | p :: q :: r, _ => by
    show (tl p).length + 1 + sumL (q :: r) = (tl p ++ ([10] ++ joinL [10] ((q :: r).map tl))).length + 1
    rw [sumL_join (q :: r) (by simp)]
    simp only [List.length_append, List.length_cons, List.length_nil]
    omega
theorem sumL_app (a b : List Str) : sumL (a ++ b) = sumL a + sumL b := by
  unfold sumL
  rw [List.map_append, List.sum_append]
theorem sumL_take (l : List Str) (k : Nat) : sumL (l.take k) ≤ sumL l ∧ sumL (l.drop k) ≤ sumL l := by
  have e := sumL_app (l.take k) (l.drop k)
  rw [List.take_append_drop] at e
  omega
theorem sumL_set : ∀ (l : List Str) (k : Nat) (z : Str), sumL (l.set k z) ≤ sumL l + (tl z).length + 1
  | [], k, z => by
    show 0 ≤ _
    omega
  | a :: r, 0, z => by
    show (tl z).length + 1 + sumL r ≤ (tl a).length + 1 + sumL r + (tl z).length + 1
    omega
  | a :: r, k + 1, z => by
    show (tl a).length + 1 + sumL (r.set k z) ≤ (tl a).length + 1 + sumL r + (tl z).length + 1
    have := sumL_set r k z
    omega
/-- lines that are joined anew: each of them a line of the page, or a changed one -/
theorem PageOk.lines {n t : Nat} {y : Str} {ps : List Str} (ha : ∀ p ∈ ps, Ascii (tl p) ∧ Runs (2 * n + 25) (tl p)) (hs : sumL ps ≤ 4 * t + 100) (e : tl y = joinL [10] (ps.map tl)) : PageOk (2 * n + 25) (4 * t + 100) y := by
  refine ⟨?_, ?_, ?_⟩
  · rw [e]
    intro c hc
    rcases joinL_mem hc with rfl | ⟨u, hu, hcu⟩
    · decide
    · obtain ⟨p, hp, rfl⟩ := List.mem_map.mp hu
      exact (ha p hp).1 c hcu
  · rw [e]
    refine Runs.join fun u hu => ?_
    obtain ⟨p, hp, rfl⟩ := List.mem_map.mp hu
    exact (ha p hp).2
  · rw [e]
    exact Nat.le_trans (joinL_len ps) hs
theorem PageOk.sum {n t : Nat} {z : Str} (h : PageOk n t z) : sumL (linesZ z) ≤ t + 1 := by
  obtain ⟨a, b, _⟩ := lines_of z
  rw [sumL_join _ a, b]
  have := h.few
  omega
/-- a word of a line is another one -/
theorem join_set_word : ∀ (ws : List Str) (k : Nat) (z : Str), joinL [32] ((ws.set k z).map tl) = joinL [32] (ws.map tl) ∨
    ∃ p q, p <+: joinL [32] (ws.map tl) ∧ q <:+ joinL [32] (ws.map tl) ∧ joinL [32] ((ws.set k z).map tl) = p ++ (tl z ++ q)
  | [], k, z => .inl rfl
  | [w], 0, z => .inr ⟨[], [], List.nil_prefix, List.nil_suffix, by simp [joinL]⟩
  | [w], k + 1, z => .inl rfl
  | w :: v :: r, 0, z => .inr ⟨[], [32] ++ joinL [32] ((v :: r).map tl), List.nil_prefix, ⟨tl w, by simp [joinL]⟩, by simp [joinL]⟩
  | w :: v :: r, k + 1, z => by
    have ih := join_set_word (v :: r) k z
    have hc : ∀ x : List Str, x ≠ [] → joinL [32] ((w :: x).map tl) = tl w ++ ([32] ++ joinL [32] (x.map tl)) := fun x hx => joinL_cons fun q => hx (List.map_eq_nil_iff.mp q)
    have hn : (v :: r).set k z ≠ [] := by
      cases k <;> simp
    show joinL [32] ((w :: (v :: r).set k z).map tl) = _ ∨ ∃ p q, p <+: joinL [32] ((w :: v :: r).map tl) ∧ q <:+ joinL [32] ((w :: v :: r).map tl) ∧ joinL [32] ((w :: (v :: r).set k z).map tl) = p ++ (tl z ++ q)
    rw [hc _ hn, hc (v :: r) (by simp)]
    rcases ih with e | ⟨p, q, ⟨a, hp⟩, ⟨c, hq⟩, e⟩
    · exact .inl (by rw [e])
    · refine .inr ⟨tl w ++ ([32] ++ p), q, ⟨a, by rw [← hp]; simp⟩, ⟨tl w ++ ([32] ++ c), by rw [← hq]; simp⟩, ?_⟩
      rw [e]
      simp
/-- a line with another word -/
theorem line_word {n : Nat} {l y z : Str} (ha : Ascii (tl l)) (hr : Runs n (tl l)) (hz : Ascii (tl z)) (hzl : (tl z).length ≤ 25) (k : Nat) (e : tl y = joinL [32] (((wordsZ l).set k z).map tl)) : Ascii (tl y) ∧ Runs (2 * n + 25) (tl y) ∧ (tl y).length ≤ 2 * (tl l).length + 25 := by
  obtain ⟨_, el, _⟩ := words_of l
  rcases join_set_word (wordsZ l) k z with e2 | ⟨p, q, hp, hq, e2⟩
  · rw [e, e2, el]
    exact ⟨ha, hr.mono (by omega), by omega⟩
  · rw [el] at hp hq
    rw [e, e2]
    have a := hp.isInfix.length_le
    have b := hq.isInfix.length_le
    refine ⟨ascii_app (ascii_sub ha hp.isInfix) (ascii_app hz (ascii_sub ha hq.isInfix)), ((hr.sub hp.isInfix).app ((Runs.few hzl).app (hr.sub hq.isInfix))).mono (by omega), ?_⟩
    rw [List.length_append, List.length_append]
    omega

/-! ### the text of a row -/
def textZ (ds : List PD) : Str := Txt.join cLine (ds.map lineZ)
theorem tl_textZ (ds : List PD) : tl (textZ ds) = joinL [10] ((ds.map lineZ).map tl) := by
  unfold textZ
  rw [join_eq, tl_join]
  rfl
theorem text_lines {ds : List PD} (hd : ∀ d ∈ ds, DeedForm d) (hne : ds ≠ []) : linesZ (textZ ds) = ds.map lineZ :=
  split_of_join tl_line (by decide) (fun e => hne (List.map_eq_nil_iff.mp e)) (fun p hp q => by
    obtain ⟨d, hdm, rfl⟩ := List.mem_map.mp hp
    exact ((line_ok (hd d hdm)).signs 10 q).2 rfl) (tl_textZ ds)
theorem text_page {ds : List PD} (hd : ∀ d ∈ ds, DeedForm d) (hl : ds.length ≤ 16) : PageOk 39 640 (textZ ds) := by
  refine ⟨?_, ?_, ?_⟩
  · rw [tl_textZ]
    intro c hc
    rcases joinL_mem hc with rfl | ⟨u, hu, hcu⟩
    · decide
    · obtain ⟨p, hp, rfl⟩ := List.mem_map.mp hu
      obtain ⟨d, hdm, rfl⟩ := List.mem_map.mp hp
      exact ((line_ok (hd d hdm)).signs c hcu).1
  · rw [tl_textZ]
    refine Runs.join fun u hu => ?_
    obtain ⟨p, hp, rfl⟩ := List.mem_map.mp hu
    obtain ⟨d, hdm, rfl⟩ := List.mem_map.mp hp
    exact Runs.few (line_ok (hd d hdm)).few
  · rw [tl_textZ]
    refine Nat.le_trans (joinL_len (ds.map lineZ)) ?_
    have key : ∀ l : List PD, (∀ d ∈ l, DeedForm d) → sumL (l.map lineZ) ≤ 40 * l.length := by
      intro l
      induction l with
      | nil => intro _; exact Nat.le_refl _
      | cons d r ih =>
        intro h
        show (tl (lineZ d)).length + 1 + sumL (r.map lineZ) ≤ 40 * (r.length + 1)
        have a := (line_ok (h d (by simp))).few
        have b := ih fun x hx => h x (List.mem_cons_of_mem _ hx)
        omega
    have := key ds hd
    omega
theorem line_ne {d : PD} (h : DeedForm d) : tl (lineZ d) ≠ [] := fun e => by
  have k := line_ok h
  have w := (words_of (lineZ d)).2.1
  rw [k.words, e] at w
  have b := k.back
  match hw : wordsOf d with
  | [] =>
    rw [hw] at b
    cases b
  | [x] =>
    rw [hw] at b
    by_cases q : x = kWhen
    · subst q
      cases b
    · rw [show deedOfW [x] = plainOfW [x] from if_neg fun z => q (Option.some.inj z)] at b
      cases b
  | x :: y :: r =>
    rw [hw] at w
    have : (tl x ++ ([32] ++ joinL [32] ((y :: r).map tl))).length = 0 := by
      have w2 : tl x ++ ([32] ++ joinL [32] ((y :: r).map tl)) = [] := w
      rw [w2]
      rfl
    simp at this
theorem text_ne {ds : List PD} (hd : ∀ d ∈ ds, DeedForm d) (hne : ds ≠ []) : textZ ds ≠ zNone := fun e => by
  have e2 := tl_textZ ds
  rw [e] at e2
  cases ds with
  | nil => exact hne rfl
  | cons d r =>
    have i : tl (lineZ d) <:+: joinL [10] (((d :: r).map lineZ).map tl) := infix_join (by simp)
    rw [← e2] at i
    have l := i.length_le
    exact line_ne (hd d (by simp)) (List.length_eq_zero_iff.mp (Nat.le_zero.mp l))
/-- THE TEXT, told -/
theorem told_text {ds : List PD} (hd : ∀ d ∈ ds, DeedForm d) : toldZ (textZ ds) = if ds.length ≤ 12 then .tuple ds else .list [.int 12] := by
  cases ds with
  | nil =>
    show toldZ zNone = _
    unfold toldZ
    rw [if_pos rfl, if_pos (by decide)]
  | cons d r =>
    unfold toldZ
    rw [if_neg (text_ne hd (by simp)), text_lines hd (by simp), List.map_map]
    have e : (d :: r).map (readDeedZ ∘ lineZ) = d :: r := (List.map_congr_left fun x hx => read_back (hd x hx)).trans (List.map_id _)
    rw [e]
    exact toldL_good fun x hx => form_deed (hd x hx)
end RL

-- part W1
set_option Elab.async false
set_option linter.all false
set_option maxRecDepth 100000
set_option maxHeartbeats 4000000
/-! The walks: draws. -/
namespace RL
open PySem PySem.Spec PyProof.Rows L2 TL
section
variable {P : Program} {w : World} {K : PySem.W.Frag} {mg : Str → Option Value} {base : Heap}
set_option exponentiation.threshold 2000 in
theorem small_abs {v : Int} (h0 : 0 ≤ v) (h1 : v < 2 ^ 200) : v.natAbs < 2 ^ 1000 := by
  have h2 : (2 : Nat) ^ 200 ≤ 2 ^ 1000 := Nat.pow_le_pow_right (by decide) (by decide)
  have h3 : v.natAbs < 2 ^ 200 := by omega
  exact Nat.lt_of_lt_of_le h3 h2
/-- a draw -/
def spDip : Sp := fun vs H Q _ => ∃ (p : Addr) (m : Int) (n : Nat), vs = [.ref p, .int m] ∧ Pot H p n ∧ n ≤ 1000000 ∧ 1 ≤ m ∧ m ≤ 1000000 ∧ ∀ H' r, 0 ≤ r → r < m → Grow p H H' → Pot H' p (n + 1) → Q (.int r) H'
theorem ok_dip (T : Txt K mg) : DefOk P w K mg base CX0 1 "_law_dip" ["_law_pot_here", "_law_many"] spDip := by
  refine mkDef T.d_LDip T.g__law_dip scLDip (fun _ _ _ _ _ _ us hl => match us, hl with | [_, _], _ => rfl) (fun vs H Q E h => ?_) (fun cdv A outer s H vs Q E hr h => ?_)
  · obtain ⟨p, m, n, rfl, _⟩ := h
    rfl
  · obtain ⟨p, m, n, rfl, ⟨a, b, c, hp, ha, hb, hb2, hc, hc2⟩, hn, hm1, hm2, q⟩ := h
    refine ⟨_, pss_cons (ps_if (pt_cmpR op_gt (pe_ix ix_list (pv 0) pe_int (fun _ _ => rfl)) pe_int (nomark _)) (pss_cons (ps_set (i := 2) scLDip.nd rfl (by first | exact Or.inl rfl | exact Or.inr rfl) (pe_op op_modN (pe_callTy call_int1 (by rfl) T.b_int (by decide +kernel) (pa_cons (pe_ix ix_list (pv 0) pe_int (fun _ _ => rfl)) pa_nil)) (pv 1))) (pss_cons (ps_asg (pe_op op_fdivN (pe_ix ix_list (pv 0) pe_int (fun _ _ => rfl)) (pv 1)) (pg_sub (pv 0) pe_int set_list)) (pss_one (ps_ret (pv 2))))) pss_nil) (
      pss_cons (ps_asg (pe_op op_add (pe_ix ix_list (pv 0) pe_int (fun _ _ => rfl)) pe_int) (pg_sub (pv 0) pe_int set_list)) (
      pss_cons (ps_set (i := 3) scLDip.nd rfl (by first | exact Or.inl rfl | exact Or.inr rfl) (pe_op op_modN (pe_callTy call_int1 (by rfl) T.b_int (by decide +kernel) (pa_cons (pe_op op_powW (pe_op op_add (pe_ix ix_list (pv 0) pe_int (fun _ _ => rfl)) (pe_op op_mul pe_int (pe_ix ix_list (pv 0) pe_int (fun _ _ => rfl)))) pe_int) pa_nil)) (pe_op op_add (pe_op op_pow pe_int pe_int) pe_int))) (
      pss_cons (ps_set (i := 3) scLDip.nd rfl (by first | exact Or.inl rfl | exact Or.inr rfl) (pe_op op_modN (pe_callTy call_int1 (by rfl) T.b_int (by decide +kernel) (pa_cons (pe_op op_powW (pe_op op_add (pv 3) (pe_op op_mul pe_int (pe_ix ix_list (pv 0) pe_int (fun _ _ => rfl)))) pe_int) pa_nil)) (pe_op op_add (pe_op op_pow pe_int pe_int) pe_int))) (
      pss_one (ps_ret (pe_op op_modN (pe_callTy call_int1 (by rfl) T.b_int (by decide +kernel) (pa_cons (pe_op op_fdivN (pv 3) (pe_op op_pow pe_int pe_int)) pa_nil)) (pv 1))))))), ?_⟩
    have hs : SqL K H p [.int a, .int b, .int c] := SqL.of hp
    refine ⟨_, rfl, p, _, 0, .int a, rfl, rfl, hs, atI_nat (j := 0) rfl, a, 0, rfl, rfl, _, rfl, ite2 (fun h0 => ?_) (fun h0 => ?_)⟩
    · refine ⟨_, rfl, p, _, 0, .int a, rfl, rfl, hs, atI_nat (j := 0) rfl, .inl ⟨_, rfl, ?_⟩⟩
      refine ⟨_, rfl, a, m, rfl, rfl, by omega, ?_⟩
      -- pot[0] = pot[0] // many; return found
      refine ⟨_, rfl, p, _, 0, .int a, rfl, rfl, hs, atI_nat (j := 0) rfl, _, rfl, a, m, rfl, rfl, ⟨by omega, by omega⟩, ?_⟩
      refine ⟨_, rfl, p, _, 0, 0, rfl, rfl, hp, rfl, ?_⟩
      refine ⟨_, rfl, ?_⟩
      exact q _ _ (Int.fmod_nonneg_of_pos _ (by omega)) (Int.fmod_lt_of_pos _ (by omega)) ((Grow.refl p H).at_) ⟨a.fdiv m, b, c, upd_same, Int.fdiv_nonneg ha (by omega), hb, hb2, hc, by omega⟩
    · -- pot[2] = pot[2] + 1
      refine ⟨_, rfl, p, _, 2, .int c, rfl, rfl, hs, atI_nat (j := 2) rfl, c, 1, rfl, rfl, _, rfl, p, _, 2, 2, rfl, rfl, hp, rfl, ?_⟩
      have hp1 : (upd H p (.lst [V.int a, V.int b, V.int (c + 1)])) p = some (.lst [V.int a, V.int b, V.int (c + 1)]) := upd_same
      have hs1 : SqL K (upd H p (.lst [V.int a, V.int b, V.int (c + 1)])) p [.int a, .int b, .int (c + 1)] := SqL.of hp1
      have v1 : (b + 86028121 * (c + 1)).natAbs < 2 ^ 1000 := small_abs (by omega) (by omega)
      refine ⟨_, rfl, p, _, 1, .int b, rfl, rfl, hs1, atI_nat (j := 1) rfl, _, rfl, p, _, 2, .int (c + 1), rfl, rfl, hs1, atI_nat (j := 2) rfl, 86028121, c + 1, rfl, rfl, .inl ⟨by decide, by decide⟩, b, 86028121 * (c + 1), rfl, rfl, _, 3, rfl, rfl, ⟨by decide, by decide, v1⟩,
        .inl ⟨_, rfl, 10, 41, rfl, rfl, ⟨by decide, by decide, by decide⟩, _, 9, rfl, rfl, _, _, rfl, rfl, (by show (10 ^ Int.toNat 41 + 9 : Int) ≠ 0; decide), ?_⟩⟩
      have m0 : 0 ≤ ((b + 86028121 * (c + 1)) ^ Int.toNat 3).fmod (10 ^ Int.toNat 41 + 9) := Int.fmod_nonneg_of_pos _ (by decide)
      have m1 : ((b + 86028121 * (c + 1)) ^ Int.toNat 3).fmod (10 ^ Int.toNat 41 + 9) < 10 ^ Int.toNat 41 + 9 := Int.fmod_lt_of_pos _ (by decide)
      have m2 : ((b + 86028121 * (c + 1)) ^ Int.toNat 3).fmod (10 ^ Int.toNat 41 + 9) < 2 ^ 150 := Int.lt_trans m1 (by decide)
      have v2 : (((b + 86028121 * (c + 1)) ^ Int.toNat 3).fmod (10 ^ Int.toNat 41 + 9) + 179424673 * (c + 1)).natAbs < 2 ^ 1000 := small_abs (by omega) (by omega)
      refine ⟨_, rfl, _, rfl, p, _, 2, .int (c + 1), rfl, rfl, hs1, atI_nat (j := 2) rfl, 179424673, c + 1, rfl, rfl, .inl ⟨by decide, by decide⟩, _, 179424673 * (c + 1), rfl, rfl, _, 3, rfl, rfl, ⟨by decide, by decide, v2⟩,
        .inl ⟨_, rfl, 10, 39, rfl, rfl, ⟨by decide, by decide, by decide⟩, _, 57, rfl, rfl, _, _, rfl, rfl, (by show (10 ^ Int.toNat 39 + 57 : Int) ≠ 0; decide), ?_⟩⟩
      refine ⟨_, rfl, 10, 7, rfl, rfl, ⟨by decide, by decide, by decide⟩, _, _, rfl, rfl, ⟨by decide, by decide⟩, .inl ⟨_, rfl, _, rfl, _, m, rfl, rfl, by omega, ?_⟩⟩
      exact q _ _ (Int.fmod_nonneg_of_pos _ (by omega)) (Int.fmod_lt_of_pos _ (by omega)) ((Grow.refl p H).at_) ⟨a, b, c + 1, hp1, ha, hb, hb2, by omega, by omega⟩
end
end RL

-- part W2
set_option Elab.async false
set_option linter.all false
set_option maxRecDepth 100000
set_option maxHeartbeats 4000000
/-! The walks: drawn things and deeds. -/
namespace RL
open PySem PySem.Spec PyProof.Rows L2 TL
theorem pick {ws : List Str} {r : Int} (h0 : 0 ≤ r) (h1 : r < ws.length) : ∃ z, z ∈ ws ∧ atI (ws.map V.str) r = some (.str z) := by
  obtain ⟨j, rfl⟩ : ∃ j : Nat, r = (j : Int) := ⟨r.toNat, by omega⟩
  have hj : j < ws.length := by omega
  refine ⟨ws[j], List.getElem_mem hj, atI_nat ?_⟩
  rw [List.getElem?_map, List.getElem?_eq_getElem hj]
  rfl
theorem pickC {z : Str} {r : Int} (h0 : 0 ≤ r) (h1 : r < z.length) : ∃ c, c ∈ tl z ∧ atI (tl z) r = some c := by
  obtain ⟨j, rfl⟩ : ∃ j : Nat, r = (j : Int) := ⟨r.toNat, by omega⟩
  rw [len_tl] at h1
  have hj : j < (tl z).length := by omega
  exact ⟨(tl z)[j], List.getElem_mem hj, atI_nat (List.getElem?_eq_getElem hj)⟩
def w16 : List Str := ["sock", "a", "b", "no", "yes", "when", "near", "far", "peg", "zzzzzzzz", "ab", "ba", "d", "of", "but", "nothing"]
theorem w16_names : ∀ z ∈ w16, isNameZ z = true := by decide +kernel
theorem join_letters : ∀ ss : List Str, (∀ s ∈ ss, ∃ c, c ∈ tl sAbc ∧ tl s = [c]) → (joinL [] (ss.map tl)).length = ss.length ∧ ∀ c ∈ joinL [] (ss.map tl), c ∈ tl sAbc
  | [], _ => ⟨rfl, fun c h => by cases h⟩
  | [s], h => by
    obtain ⟨c, hc, e⟩ := h s (by simp)
    show (tl s).length = 1 ∧ ∀ c ∈ tl s, c ∈ tl sAbc
    rw [e]
    exact ⟨rfl, fun d hd => by rw [List.mem_singleton.mp hd]; exact hc⟩
  | s :: t :: r, h => by
    obtain ⟨c, hc, e⟩ := h s (by simp)
    obtain ⟨h1, h2⟩ := join_letters (t :: r) fun x hx => h x (List.mem_cons_of_mem _ hx)
    show (tl s ++ ([] ++ joinL [] ((t :: r).map tl))).length = (t :: r).length + 1 ∧ ∀ c ∈ tl s ++ ([] ++ joinL [] ((t :: r).map tl)), c ∈ tl sAbc
    rw [e]
    refine ⟨by
      rw [List.length_append, List.length_append, h1]
      simp
      omega, fun d hd => ?_⟩
    rcases List.mem_append.mp hd with q | q
    · rw [List.mem_singleton.mp q]
      exact hc
    · exact h2 d (by simpa using q)
theorem name_join {ss : List Str} (h : ∀ s ∈ ss, ∃ c, c ∈ tl sAbc ∧ tl s = [c]) (h1 : 1 ≤ ss.length) (h8 : ss.length ≤ 8) : isNameZ (Txt.join zNone ss) = true := by
  have e : tl (Txt.join zNone ss) = joinL [] (ss.map tl) := by
    rw [join_eq, tl_join]
    rfl
  obtain ⟨a, b⟩ := join_letters ss h
  unfold isNameZ
  rw [len_tl, e, a, decide_eq_true h1, decide_eq_true h8, Bool.true_and, Bool.true_and]
  exact List.all_eq_true.mpr fun c hc => decide_eq_true (b c hc)
section
variable {P : Program} {w : World} {K : PySem.W.Frag} {mg : Str → Option Value} {base : Heap}
def spThing : Sp := fun vs H Q _ => ∃ (p : Addr) (n : Nat), vs = [.ref p] ∧ Pot H p n ∧ n ≤ 900000 ∧ ∀ H' z, isNameZ z = true → Grow p H H' → Pot H' p (n + 10) → Q (.str z) H'
theorem ok_thing (T : Txt K mg) : DefOk P w K mg base CX0 2 "_law_thing" ["_law_pot_here"] spThing := by
  have D_law_dip : DefOk P w K mg base CX0 1 "_law_dip" ["_law_pot_here", "_law_many"] spDip := ok_dip T
  refine mkDef T.d_LThing T.g__law_thing scLThing (fun _ _ _ _ _ _ us hl => match us, hl with | [_], _ => rfl) (fun vs H Q E h => ?_) (fun cdv A outer s H vs Q E hr h => ?_)
  · obtain ⟨p, n, rfl, _⟩ := h
    rfl
  · obtain ⟨p, n, rfl, hP, hn, q⟩ := h
    refine ⟨_, pss_cons (ps_if (pt_cmpR op_gt (pe_def D_law_dip (hr.mono (by decide)) (by rfl) pass0 (pa_cons (pv 0) (pa_cons pe_int pa_nil))) pe_int (nomark _)) (pss_cons (ps_set (i := 1) scLThing.nd rfl (by first | exact Or.inl rfl | exact Or.inr rfl) (pe_lst (pa_cons pe_str (pa_cons pe_str (pa_cons pe_str (pa_cons pe_str (pa_cons pe_str (pa_cons pe_str (pa_cons pe_str (pa_cons pe_str (pa_cons pe_str (pa_cons pe_str (pa_cons pe_str (pa_cons pe_str (pa_cons pe_str (pa_cons pe_str (pa_cons pe_str pa_nil))))))))))))))))) (pss_one (ps_ret (pe_ix ix_list (pe_op op_cat (pv 1) (pe_lst (pa_cons pe_str pa_nil))) (pe_def D_law_dip (hr.mono (by decide)) (by rfl) pass0 (pa_cons (pv 0) (pa_cons pe_int pa_nil))) (fun _ _ => rfl))))) pss_nil) (
      pss_cons (ps_set (i := 2) scLThing.nd rfl (by first | exact Or.inl rfl | exact Or.inr rfl) (pe_op op_add pe_int (pe_def D_law_dip (hr.mono (by decide)) (by rfl) pass0 (pa_cons (pv 0) (pa_cons pe_int pa_nil))))) (
      pss_one (ps_ret (pe_join pe_str (pe_lc (own := [("_law_k", 3)]) (g := gName 3) rfl scLThing.nd (pi_range1 (by rfl) T.b_range (pa_cons (pv 2) pa_nil)) (blkOk_by (own := [("_law_k", 3)]) (N := nLThing) (sc := defScope sLThing) (by decide +kernel)) (fun _ _ _ _ _ => pg_name (i := 3) scLThing.nd rfl (Or.inl rfl)) (fun _ _ _ _ _ => pts_nil) (fun _ _ _ _ _ => (pe_ix ix_str pe_str (pe_def D_law_dip (hr.mono (by decide)) (by rfl) pass0 (pa_cons (pv 0) (pa_cons pe_int pa_nil))) (fun _ _ => rfl)))))))), ?_⟩
    refine ⟨_, rfl, p, 3, n, rfl, hP, by omega, by decide, by decide, fun H1 r1 a1 b1 g1 P1 => ⟨r1, 0, rfl, rfl, _, rfl, ite2 (fun h0 => ?_) (fun h0 => ?_)⟩⟩
    · -- a word of the texts
      refine ⟨by show 15 ≤ sizeLine; decide, fun l hl => ⟨_, rfl, by show 1 ≤ sizeLine; decide, fun l2 hl2 => ?_⟩⟩
      have g2 := (g1.new (P1.ne hl) hl (o := .lst (w16.dropLast.map V.str)))
      have P2 : Pot (upd H1 l (.lst (w16.dropLast.map V.str))) p (n + 1) := P1.new hl
      refine ⟨l, l2, w16.dropLast.map V.str, [.str "nothing"], rfl, rfl, ?_, upd_same, by show 15 + 1 ≤ sizeLine; decide, fun l3 hl3 => ?_⟩
      · rw [upd_ne (ne_of_none (H := upd H1 l (.lst (w16.dropLast.map V.str))) upd_same hl2)]
        exact upd_same
      · have g3 := g2.new (P2.ne hl2) hl2 (o := .lst [.str "nothing"])
        have P3 : Pot (upd (upd H1 l (.lst (w16.dropLast.map V.str))) l2 (.lst [.str "nothing"])) p (n + 1) := P2.new hl2
        have g4 := g3.new (P3.ne hl3) hl3 (o := .lst (w16.map V.str))
        have P4 : Pot (upd (upd (upd H1 l (.lst (w16.dropLast.map V.str))) l2 (.lst [.str "nothing"])) l3 (.lst (w16.map V.str))) p (n + 1) := P3.new hl3
        refine ⟨_, rfl, p, 16, n + 1, rfl, P4, by omega, by decide, by decide, fun H5 r5 a5 b5 g5 P5 => ?_⟩
        have hL : H5 l3 = some (.lst (w16.map V.str)) := g5 _ _ (P3.ne hl3) upd_same
        obtain ⟨z, hz, hat⟩ := pick (ws := w16) a5 b5
        exact ⟨l3, _, r5, _, rfl, rfl, SqL.of hL, hat, q H5 z (w16_names z hz) (g4.trans g5) (P5.mono (by omega))⟩
    · -- any letters
      refine ⟨_, rfl, p, 8, n + 1, rfl, P1, by omega, by decide, by decide, fun H2 r2 a2 b2 g2 P2 => ⟨1, r2, rfl, rfl, ?_⟩⟩
      refine ⟨⟨_, rfl⟩, _, rfl, 1 + r2, rfl, by omega, by omega, fun D hD => ?_⟩
      have nDp : D ≠ p := P2.ne hD
      refine lc_range (lo := 0) (n := (1 + r2).toNat) (fun i H3 => Grow p H2 H3 ∧ Pot H3 p (n + 2 + i) ∧ ∃ ss : List Str, H3 D = some (.lst (ss.map V.str)) ∧ ss.length = i ∧ ∀ s ∈ ss, ∃ c, c ∈ tl sAbc ∧ tl s = [c])
        ⟨(Grow.refl p H2).upd hD, P2.new hD, [], upd_same, rfl, fun s hs => by cases hs⟩ (fun i H3 hi hv => ?_) (fun H3 hv => ?_)
      · obtain ⟨g3, P3, ss, e3, l3, c3⟩ := hv
        refine ⟨rfl, ?_⟩
        refine ⟨_, rfl, p, 26, n + 2 + i, rfl, P3, by omega, by decide, by decide, fun H4 r4 a4 b4 g4 P4 => ?_⟩
        obtain ⟨c, hc, hat⟩ := pickC (z := sAbc) a4 b4
        have e4 : H4 D = some (.lst (ss.map V.str)) := g4 _ _ nDp e3
        refine ⟨sAbc, r4, c, rfl, rfl, by decide, hat, ss.map V.str, e4, by rw [List.length_map]; exact small1000 (by omega), (g3.trans g4).upd hD, (P4.upd nDp.symm).mono (by omega), ss ++ [⟨#[c]⟩], ?_, ?_, ?_⟩
        · rw [upd_same, List.map_append]
          rfl
        · rw [List.length_append, l3]
          rfl
        · intro s hs
          rcases List.mem_append.mp hs with h | h
          · exact c3 s h
          · rw [List.mem_singleton.mp h]
            exact ⟨c, hc, rfl⟩
      · obtain ⟨g3, P3, ss, e3, l3, c3⟩ := hv
        have hl : ss.length ≤ 8 := by omega
        refine ⟨zNone, D, ss, rfl, rfl, .inl (SqL.of e3), ?_, q H3 _ (name_join c3 (by omega) hl) ((g1.trans g2).trans g3) (P3.mono (by omega))⟩
        have e0 : zNone.length = 0 := rfl
        have es : ∀ l : List Str, (∀ s ∈ l, ∃ c, c ∈ tl sAbc ∧ tl s = [c]) → (l.map (·.length)).sum = l.length := by
          intro l
          induction l with
          | nil => intro _; rfl
          | cons s r ih =>
            intro h
            obtain ⟨c, _, e⟩ := h s (by simp)
            show s.length + (r.map (·.length)).sum = r.length + 1
            rw [ih fun x hx => h x (List.mem_cons_of_mem _ hx), len_tl, e]
            show 1 + r.length = _
            omega
        rw [es ss c3, e0]
        omega
end
end RL

-- part W3
set_option Elab.async false
set_option linter.all false
set_option maxRecDepth 100000
set_option maxHeartbeats 4000000
/-! The walks: drawn deeds. -/
namespace RL
open PySem PySem.Spec PyProof.Rows L2 TL
theorem win_of {z : Str} (h : z ∈ [kNear, kFar]) : isWinZ z = true := by
  rcases List.mem_cons.mp h with rfl | h
  · decide
  · rw [List.mem_singleton.mp h]
    decide
theorem three_of {z : Str} (h : z ∈ [kPeg, kHang, kFetch]) : isThree z = true := by
  rcases List.mem_cons.mp h with rfl | h
  · decide
  · rcases List.mem_cons.mp h with rfl | h
    · decide
    · rw [List.mem_singleton.mp h]
      decide
theorem two_of {z : Str} (h : z ∈ [kTake, kLook]) : isTwo z = true := by
  rcases List.mem_cons.mp h with rfl | h
  · decide
  · rw [List.mem_singleton.mp h]
    decide
theorem noL_plain {d : PD} (h : PlainForm d) : noL d = true := by
  cases h <;> rfl
theorem noL_deed {d : PD} (h : DeedForm d) : noL d = true := by
  cases h with
  | plain h => exact noL_plain h
  | when w b c hw hb hc =>
    show (noL b && (noL c && true)) = true
    rw [noL_plain hc]
    rcases hb with rfl | ⟨t, rfl, _⟩ <;> rfl
theorem noL_row {ds : List PD} (h : ∀ d ∈ ds, DeedForm d) : noL (.tuple ds) = true := by
  rw [noL_tup]
  exact List.all_eq_true.mpr fun d hd => noL_deed (h d hd)
theorem dec_eq_int {i j : Int} (h : decide (V.int i = V.int j) = true) : i = j := V.int.inj (of_decide_eq_true h)
theorem dec_ne_int {i j : Int} (h : ¬ decide (V.int i = V.int j) = true) : i ≠ j := fun e => h (decide_eq_true (by rw [e]))
theorem step_ok {m : Nat} {i : Int} (h0 : -(m : Int) ≤ i) (h1 : i < m) : lenOk m (i + (if decide (0 ≤ i) = true then 1 else 0)) = true := by
  by_cases h : 0 ≤ i
  · rw [decide_eq_true h, if_pos rfl]
    simp [lenOk]
    omega
  · rw [decide_eq_false h, if_neg Bool.false_ne_true]
    simp [lenOk]
    omega
section
variable {P : Program} {w : World} {K : PySem.W.Frag} {mg : Str → Option Value} {base : Heap}
def spPlain (K : PySem.W.Frag) : Sp := fun vs H Q _ => ∃ (p : Addr) (n : Nat), vs = [.ref p] ∧ Pot H p n ∧ n ≤ 800000 ∧ ∀ H' v d, Dp K H' v d → PlainForm d → Grow p H H' → Pot H' p (n + 20) → Q v H'
theorem ok_plain (T : Txt K mg) : DefOk P w K mg base CX0 3 "_law_plain" ["_law_pot_here"] (spPlain K) := by
  have D_law_dip : DefOk P w K mg base CX0 1 "_law_dip" ["_law_pot_here", "_law_many"] spDip := ok_dip T
  have D_law_thing : DefOk P w K mg base CX0 2 "_law_thing" ["_law_pot_here"] spThing := ok_thing T
  refine mkDef T.d_LPlain T.g__law_plain scLPlain (fun _ _ _ _ _ _ us hl => match us, hl with | [_], _ => rfl) (fun vs H Q E h => ?_) (fun cdv A outer s H vs Q E hr h => ?_)
  · obtain ⟨p, n, rfl, _⟩ := h
    rfl
  · obtain ⟨p, n, rfl, hP, hn, q⟩ := h
    refine ⟨_, pss_cons (ps_par3 (i := 1) (j := 2) (l := 3) rfl scLPlain.nd rfl rfl rfl (by decide) (by decide) (by decide) rfl rfl rfl (pa_cons (pe_def D_law_dip (hr.mono (by decide)) (by rfl) pass0 (pa_cons (pv 0) (pa_cons pe_int pa_nil))) (pa_cons (pe_ix ix_list (pe_lst (pa_cons pe_str (pa_cons pe_str pa_nil))) (pe_def D_law_dip (hr.mono (by decide)) (by rfl) pass0 (pa_cons (pv 0) (pa_cons pe_int pa_nil))) (fun _ _ => rfl)) (pa_cons (pe_op op_sub (pe_def D_law_dip (hr.mono (by decide)) (by rfl) pass0 (pa_cons (pv 0) (pa_cons pe_int pa_nil))) pe_int) pa_nil))) (by rfl)) (
      pss_cons (ps_if (pt_cmpR op_lt (pv 1) pe_int (nomark _)) (pss_one (ps_ret (pe_tup (pa_cons (pe_ix ix_list (pe_lst (pa_cons pe_str (pa_cons pe_str (pa_cons pe_str pa_nil)))) (pv 1) (fun _ _ => rfl)) (pa_cons (pv 2) (pa_cons (pe_def D_law_thing (hr.mono (by decide)) (by rfl) pass0 (pa_cons (pv 0) pa_nil)) pa_nil)))))) pss_nil) (
      pss_cons (ps_if (pt_cmpR op_eq (pv 1) pe_int (nomark _)) (pss_one (ps_ret (pe_tup (pa_cons pe_str (pa_cons (pe_op op_add (pv 3) (pe_callTy call_int1 (by rfl) T.b_int (by decide +kernel) (pa_cons (pe_cmpR op_ge (pv 3) pe_int (nomark _)) pa_nil))) pa_nil))))) pss_nil) (
      pss_cons (ps_if (pt_cmpR op_eq (pv 1) pe_int (nomark _)) (pss_cons (ps_set (i := 4) scLPlain.nd rfl (by first | exact Or.inl rfl | exact Or.inr rfl) (pe_op op_sub (pe_def D_law_dip (hr.mono (by decide)) (by rfl) pass0 (pa_cons (pv 0) (pa_cons pe_int pa_nil))) pe_int)) (pss_one (ps_ret (pe_tup (pa_cons pe_str (pa_cons (pv 2) (pa_cons (pe_op op_add (pv 4) (pe_callTy call_int1 (by rfl) T.b_int (by decide +kernel) (pa_cons (pe_cmpR op_ge (pv 4) pe_int (nomark _)) pa_nil))) pa_nil))))))) pss_nil) (
      pss_one (ps_ret (pe_tup (pa_cons (pe_ix ix_list (pe_lst (pa_cons pe_str (pa_cons pe_str pa_nil))) (pe_op op_sub (pv 1) pe_int) (fun _ _ => rfl)) (pa_cons (pv 2) pa_nil)))))))), ?_⟩
    refine ⟨_, rfl, p, 7, n, rfl, hP, by omega, by decide, by decide, fun H1 way a1 b1 g1 P1 => ?_⟩
    refine ⟨by show 2 ≤ sizeLine; decide, fun l hl => ?_⟩
    have P1' : Pot (upd H1 l (.lst ([kNear, kFar].map V.str))) p (n + 1) := P1.new hl
    have g1' : Grow p H (upd H1 l (.lst ([kNear, kFar].map V.str))) := g1.new (P1.ne hl) hl
    refine ⟨_, rfl, p, 2, n + 1, rfl, P1', by omega, by decide, by decide, fun H2 r2 a2 b2 g2 P2 => ?_⟩
    have hL : H2 l = some (.lst ([kNear, kFar].map V.str)) := g2 _ _ (P1.ne hl) upd_same
    obtain ⟨wz, hwz, hat⟩ := pick (ws := [kNear, kFar]) a2 b2
    have hw := win_of hwz
    refine ⟨l, _, r2, _, rfl, rfl, SqL.of hL, hat, _, rfl, p, 80, n + 2, rfl, P2, by omega, by decide, by decide, fun H3 r3 a3 b3 g3 P3 => ⟨r3, 40, rfl, rfl, _, _, _, rfl, ?_⟩⟩
    have g : Grow p H H3 := (g1'.trans g2).trans g3
    -- if way < 3
    refine ⟨_, rfl, way, 3, rfl, rfl, _, rfl, ite2 (fun h0 => ?_) (fun h0 => ?_)⟩
    · have h3 : way < 3 := of_decide_eq_true h0
      refine ⟨by show 3 ≤ sizeLine; decide, fun l4 hl4 => ?_⟩
      have P4 : Pot (upd H3 l4 (.lst ([kPeg, kHang, kFetch].map V.str))) p (n + 3) := P3.new hl4
      have g4 : Grow p H (upd H3 l4 (.lst ([kPeg, kHang, kFetch].map V.str))) := g.new (P3.ne hl4) hl4
      obtain ⟨k, hk, hat2⟩ := pick (ws := [kPeg, kHang, kFetch]) a1 h3
      refine ⟨_, rfl, l4, _, way, _, rfl, rfl, SqL.of upd_same, hat2, _, rfl, _, rfl, p, n + 3, rfl, P4, by omega, fun H5 z hz g5 P5 => ⟨by show 3 ≤ sizeLine; decide, fun t ht => ?_⟩⟩
      exact q _ _ (.tuple [.str k, .str wz, .str z]) (.tup (SqT.of upd_same) (.cons (.str _) (.cons (.str _) (.cons (.str _) .nil)))) (.three k wz z (three_of hk) hw hz) ((g4.trans g5).new (P5.ne ht) ht) ((P5.new ht).mono (by omega))
    · have h3 : ¬ way < 3 := fun z => h0 (decide_eq_true z)
      -- if way == 3
      refine ⟨_, rfl, rfl, _, rfl, ite2 (fun e => ?_) (fun e => ?_)⟩
      · refine ⟨_, rfl, _, rfl, r3 - 40, 0, rfl, rfl, .inr ⟨_, rfl, r3 - 40, _, rfl, rfl, by show 2 ≤ sizeLine; decide, fun t ht => ?_⟩⟩
        exact q _ _ (.tuple [.str kPull, .int _]) (.tup (SqT.of upd_same) (.cons (.str _) (.cons (.int _) .nil))) (.pull _ (step_ok (m := 40) (by omega) (by omega))) (g.new (P3.ne ht) ht) ((P3.new ht).mono (by omega))
      · have h4 := dec_ne_int e
        -- if way == 4
        refine ⟨_, rfl, rfl, _, rfl, ite2 (fun e => ?_) (fun e => ?_)⟩
        · refine ⟨_, rfl, p, 12, n + 3, rfl, P3, by omega, by decide, by decide, fun H5 r5 a5 b5 g5 P5 => ⟨r5, 6, rfl, rfl, ?_⟩⟩
          refine ⟨_, rfl, _, rfl, _, rfl, r5 - 6, 0, rfl, rfl, .inr ⟨_, rfl, r5 - 6, _, rfl, rfl, by show 3 ≤ sizeLine; decide, fun t ht => ?_⟩⟩
          exact q _ _ (.tuple [.str kWalk, .str wz, .int _]) (.tup (SqT.of upd_same) (.cons (.str _) (.cons (.str _) (.cons (.int _) .nil)))) (.walk wz _ hw (step_ok (m := 6) (by omega) (by omega))) ((g.trans g5).new (P5.ne ht) ht) ((P5.new ht).mono (by omega))
        · have h5 := dec_ne_int e
          refine ⟨by show 2 ≤ sizeLine; decide, fun l4 hl4 => ?_⟩
          have P4 : Pot (upd H3 l4 (.lst ([kTake, kLook].map V.str))) p (n + 3) := P3.new hl4
          have g4 : Grow p H (upd H3 l4 (.lst ([kTake, kLook].map V.str))) := g.new (P3.ne hl4) hl4
          obtain ⟨k, hk, hat2⟩ := pick (ws := [kTake, kLook]) (r := way - 5) (by omega) (by show way - 5 < 2; omega)
          refine ⟨_, rfl, way, 5, rfl, rfl, l4, _, way - 5, _, rfl, rfl, SqL.of upd_same, hat2, _, rfl, by show 2 ≤ sizeLine; decide, fun t ht => ?_⟩
          exact q _ _ (.tuple [.str k, .str wz]) (.tup (SqT.of upd_same) (.cons (.str _) (.cons (.str _) .nil))) (.two k wz (two_of hk) hw) (g4.new (P4.ne ht) ht) ((P4.new ht).mono (by omega))
def spDeed (K : PySem.W.Frag) : Sp := fun vs H Q _ => ∃ (p : Addr) (n : Nat), vs = [.ref p] ∧ Pot H p n ∧ n ≤ 700000 ∧ ∀ H' v d, Dp K H' v d → DeedForm d → Grow p H H' → Pot H' p (n + 40) → Q v H'
theorem ok_deed (T : Txt K mg) : DefOk P w K mg base CX0 4 "_law_deed" ["_law_pot_here"] (spDeed K) := by
  have D_law_dip : DefOk P w K mg base CX0 1 "_law_dip" ["_law_pot_here", "_law_many"] spDip := ok_dip T
  have D_law_thing : DefOk P w K mg base CX0 2 "_law_thing" ["_law_pot_here"] spThing := ok_thing T
  have D_law_plain : DefOk P w K mg base CX0 3 "_law_plain" ["_law_pot_here"] (spPlain K) := ok_plain T
  refine mkDef T.d_LDeed T.g__law_deed scLDeed (fun _ _ _ _ _ _ us hl => match us, hl with | [_], _ => rfl) (fun vs H Q E h => ?_) (fun cdv A outer s H vs Q E hr h => ?_)
  · obtain ⟨p, n, rfl, _⟩ := h
    rfl
  · obtain ⟨p, n, rfl, hP, hn, q⟩ := h
    refine ⟨_, pss_cons (ps_par (i := 1) (j := 2) rfl scLDeed.nd rfl rfl (by decide) rfl rfl (pa_cons (pe_def D_law_dip (hr.mono (by decide)) (by rfl) pass0 (pa_cons (pv 0) (pa_cons pe_int pa_nil))) (pa_cons (pe_ix ix_list (pe_lst (pa_cons pe_str (pa_cons pe_str pa_nil))) (pe_def D_law_dip (hr.mono (by decide)) (by rfl) pass0 (pa_cons (pv 0) (pa_cons pe_int pa_nil))) (fun _ _ => rfl)) pa_nil)) (by rfl)) (
      pss_cons (ps_if (pt_cmpR op_gt (pv 1) pe_int (nomark _)) (pss_one (ps_ret (pe_def D_law_plain (hr.mono (by decide)) (by rfl) pass0 (pa_cons (pv 0) pa_nil)))) pss_nil) (
      pss_cons (ps_set (i := 3) scLDeed.nd rfl (by first | exact Or.inl rfl | exact Or.inr rfl) (pe_ifExp (pt_cmpR op_eq (pe_def D_law_dip (hr.mono (by decide)) (by rfl) pass0 (pa_cons (pv 0) (pa_cons pe_int pa_nil))) pe_int (nomark _)) pe_non (pe_def D_law_thing (hr.mono (by decide)) (by rfl) pass0 (pa_cons (pv 0) pa_nil)))) (
      pss_one (ps_ret (pe_tup (pa_cons pe_str (pa_cons (pv 2) (pa_cons (pv 3) (pa_cons (pe_def D_law_plain (hr.mono (by decide)) (by rfl) pass0 (pa_cons (pv 0) pa_nil)) pa_nil))))))))), ?_⟩
    refine ⟨_, rfl, p, 4, n, rfl, hP, by omega, by decide, by decide, fun H1 way a1 b1 g1 P1 => ?_⟩
    refine ⟨by show 2 ≤ sizeLine; decide, fun l hl => ?_⟩
    have P1' : Pot (upd H1 l (.lst ([kNear, kFar].map V.str))) p (n + 1) := P1.new hl
    have g1' : Grow p H (upd H1 l (.lst ([kNear, kFar].map V.str))) := g1.new (P1.ne hl) hl
    refine ⟨_, rfl, p, 2, n + 1, rfl, P1', by omega, by decide, by decide, fun H2 r2 a2 b2 g2 P2 => ?_⟩
    have hL : H2 l = some (.lst ([kNear, kFar].map V.str)) := g2 _ _ (P1.ne hl) upd_same
    obtain ⟨wz, hwz, hat⟩ := pick (ws := [kNear, kFar]) a2 b2
    have hw := win_of hwz
    refine ⟨l, _, r2, _, rfl, rfl, SqL.of hL, hat, _, _, rfl, ?_⟩
    have g : Grow p H H2 := g1'.trans g2
    refine ⟨_, rfl, way, 0, rfl, rfl, _, rfl, ite2 (fun h0 => ?_) (fun h0 => ?_)⟩
    · exact ⟨_, rfl, p, n + 2, rfl, P2, by omega, fun H3 v d hd hf g3 P3 => q H3 v d hd (.plain hf) (g.trans g3) (P3.mono (by omega))⟩
    · -- what = None if dip == 0 else thing
      have fin : ∀ (H4 : Hp) (v : V) (b : PD), Dp K H4 v b → (b = .none ∨ ∃ t, b = .str t ∧ isNameZ t = true) → Grow p H H4 → Pot H4 p (n + 13) →
          spPlain K [.ref p] H4 (fun u H5 => (4 ≤ sizeLine ∧ ∀ t, H5 t = none → Q (.ref t) (upd H5 t (.tup [.str kWhen, .str wz, v, u])))) E := by
        intro H4 v b hd hb g4 P4
        refine ⟨p, n + 13, rfl, P4, by omega, fun H5 u d hu hf g5 P5 => ⟨by decide, fun t ht => ?_⟩⟩
        obtain ⟨ys, h4⟩ := P4.lst
        have s5 : Same H5 (upd H5 t (.tup [.str kWhen, .str wz, v, u])) := same_new ht
        have nb : noL b = true := by
          rcases hb with rfl | ⟨t, rfl, _⟩ <;> rfl
        have hd5 : Dp K H5 v b := dp_grow h4 g5 b v nb hd
        exact q _ _ (.tuple [.str kWhen, .str wz, b, d]) (.tup (SqT.of upd_same) (.cons (.str _) (.cons (.str _) (.cons (dp_same s5 b v hd5) (.cons (dp_same s5 d u hu) .nil))))) (.when wz b d hw hb hf) ((g4.trans g5).new (P5.ne ht) ht) ((P5.new ht).mono (by omega))
      refine ⟨_, rfl, p, 4, n + 2, rfl, P2, by omega, by decide, by decide, fun H3 r3 a3 b3 g3 P3 => ⟨rfl, _, rfl, ite2 (fun e => ?_) (fun e => ?_)⟩⟩
      · refine ⟨_, rfl, _, rfl, _, rfl, ?_⟩
        exact fin H3 .non .none .non (.inl rfl) (g.trans g3) (P3.mono (by omega))
      · refine ⟨_, rfl, p, n + 3, rfl, P3, by omega, fun H4 z hz g4 P4 => ?_⟩
        refine ⟨_, rfl, _, rfl, _, rfl, ?_⟩
        exact fin H4 (.str z) (.str z) (.str z) (.inr ⟨z, rfl, hz⟩) ((g.trans g3).trans g4) (P4.mono (by omega))
def spDeeds (K : PySem.W.Frag) : Sp := fun vs H Q _ => ∃ (p : Addr) (n m : Nat), vs = [.ref p, .int m] ∧ Pot H p n ∧ n ≤ 600000 ∧ m ≤ 16 ∧ ∀ H' v ds, Dp K H' v (.tuple ds) → (∀ d ∈ ds, DeedForm d) → ds.length ≤ m → Grow p H H' → Pot H' p (n + 1000) → Q v H'
theorem dpAll_upd {H : Hp} {D : Addr} {xs : List V} {o : HO} (h : H D = some (.lst xs)) {ds : List PD} {vs : List V} (hn : ds.all noL = true) (hd : DpAll K H vs ds) : DpAll K (upd H D o) vs ds :=
  dpAll_grow h ((Grow.refl D H).at_) ds vs hn hd
theorem dp_upd {H : Hp} {D : Addr} {xs : List V} {o : HO} (h : H D = some (.lst xs)) {d : PD} {v : V} (hn : noL d = true) (hd : Dp K H v d) : Dp K (upd H D o) v d :=
  dp_grow h ((Grow.refl D H).at_) d v hn hd
theorem ok_deeds (T : Txt K mg) : DefOk P w K mg base CX0 5 "_law_deeds" ["_law_pot_here", "_law_most"] (spDeeds K) := by
  have D_law_dip : DefOk P w K mg base CX0 1 "_law_dip" ["_law_pot_here", "_law_many"] spDip := ok_dip T
  have D_law_deed : DefOk P w K mg base CX0 4 "_law_deed" ["_law_pot_here"] (spDeed K) := ok_deed T
  refine mkDef T.d_LDeeds T.g__law_deeds scLDeeds (fun _ _ _ _ _ _ us hl => match us, hl with | [_, _], _ => rfl) (fun vs H Q E h => ?_) (fun cdv A outer s H vs Q E hr h => ?_)
  · obtain ⟨p, n, m, rfl, _⟩ := h
    rfl
  · obtain ⟨p, n, m, rfl, hP, hn, hm, q⟩ := h
    refine ⟨_, pss_one (ps_ret (pe_callTy call_tuple_of (by rfl) T.b_tuple (by decide +kernel) (pa_cons (pe_lc (own := [("_law_k", 2)]) (g := gName 2) rfl scLDeeds.nd (pi_range1 (by rfl) T.b_range (pa_cons (pe_def D_law_dip (hr.mono (by decide)) (by rfl) pass0 (pa_cons (pv 0) (pa_cons (pe_op op_add (pv 1) pe_int) pa_nil))) pa_nil)) (blkOk_by (own := [("_law_k", 2)]) (N := nLDeeds) (sc := defScope sLDeeds) (by decide +kernel)) (fun _ _ _ _ _ => pg_name (i := 2) scLDeeds.nd rfl (Or.inl rfl)) (fun _ _ _ _ _ => pts_nil) (fun _ _ _ _ _ => (pe_def D_law_deed (hr.mono (by decide)) (by rfl) pass0 (pa_cons (pv 0) pa_nil)))) pa_nil))), ?_⟩
    refine ⟨_, rfl, _, rfl, m, 1, rfl, rfl, p, (m : Int) + 1, n, rfl, hP, by omega, by omega, by omega, fun H1 r1 a1 b1 g1 P1 => ⟨r1, rfl, by omega, by omega, fun D hD => ?_⟩⟩
    have nDp : D ≠ p := P1.ne hD
    refine lc_range (lo := 0) (n := r1.toNat) (fun i H2 => Grow p H1 H2 ∧ Pot H2 p (n + 1 + 40 * i) ∧ ∃ vs ds, H2 D = some (.lst vs) ∧ DpAll K H2 vs ds ∧ (∀ d ∈ ds, DeedForm d) ∧ ds.length = i)
      ⟨(Grow.refl p H1).upd hD, P1.new hD, [], [], upd_same, .nil, (fun d hd => by cases hd), rfl⟩ (fun i H2 hi hv => ?_) (fun H2 hv => ?_)
    · obtain ⟨g2, P2, vs, ds, e2, hd, hf, hl⟩ := hv
      have nl : ds.all noL = true := List.all_eq_true.mpr fun d hd => noL_deed (hf d hd)
      refine ⟨rfl, ?_⟩
      refine ⟨_, rfl, p, n + 1 + 40 * i, rfl, P2, by omega, fun H3 v d hv hfd g3 P3 => ?_⟩
      have e3 : H3 D = some (.lst vs) := g3 _ _ nDp e2
      obtain ⟨ys, hp2⟩ := P2.lst
      have hd3 := dpAll_grow hp2 g3 ds vs nl hd
      have lv := dpAll_len hd
      refine ⟨vs, e3, small1000 (by omega), (g2.trans g3).upd hD, (P3.upd nDp.symm).mono (by omega), vs ++ [v], ds ++ [d], upd_same, dpAll_snoc (dpAll_upd e3 nl hd3) (dp_upd e3 (noL_deed hfd) hv), ?_, ?_⟩
      · intro x hx
        rcases List.mem_append.mp hx with h | h
        · exact hf x h
        · rw [List.mem_singleton.mp h]
          exact hfd
      · rw [List.length_append, hl]
        rfl
    · obtain ⟨g2, P2, vs, ds, e2, hd, hf, hl⟩ := hv
      refine ⟨D, vs, rfl, .inl ⟨SqL.of e2, fun t ht => ?_⟩⟩
      have s2 : Same H2 (upd H2 t (.tup vs)) := same_new ht
      exact q _ _ ds (.tup (SqT.of upd_same) (dpAll_same s2 ds vs hd)) hf (by omega) ((g1.trans g2).new (P2.ne ht) ht) ((P2.new ht).mono (by omega))
end
end RL

-- part W4
set_option Elab.async false
set_option linter.all false
set_option maxRecDepth 100000
set_option maxHeartbeats 4000000
/-! The walks: the text of deeds. -/
namespace RL
open PySem PySem.Spec PyProof.Rows L2 TL
theorem num_small {n : Int} {m : Nat} (hm : m ≤ 40) (h : lenOk m n = true) : n.natAbs.log2 < 1920 := by
  simp only [lenOk, Bool.and_eq_true, decide_eq_true_eq] at h
  exact log2_small (by omega)
/-- a plain deed's parts: a few texts and small numbers -/
theorem plain_parts {d : PD} (h : PlainForm d) : ∃ ps, d = .tuple ps ∧ ps.length ≤ 3 ∧ (∃ k, ps[0]? = some (.str k) ∧ k ≠ kWhen) ∧ ∀ p ∈ ps, (∃ z, p = .str z ∧ z.length ≤ 8) ∨ ∃ n : Int, p = .int n ∧ n.natAbs.log2 < 1920 ∧ (numS n).length ≤ 3 := by
  have ne := (plain_back h).2.1
  have sh : ∀ w ∈ partsZ d, w.length ≤ 8 := fun w hw => by
    rw [len_tl]
    exact ((plain_back h).2.2.2.1 w hw).2
  cases h with
  | pull n h =>
    refine ⟨_, rfl, by show 2 ≤ 3; decide, ⟨_, rfl, by decide⟩, fun p hp => ?_⟩
    rcases List.mem_cons.mp hp with rfl | hp
    · exact .inl ⟨_, rfl, by decide⟩
    · rw [List.mem_singleton.mp hp]
      exact .inr ⟨n, rfl, num_small (Nat.le_refl _) h, by rw [len_tl]; exact (num_word (Nat.le_refl _) h).2⟩
  | two k w hk hw =>
    refine ⟨_, rfl, by show 2 ≤ 3; decide, ⟨k, rfl, fun e => ne (by rw [e]; rfl)⟩, fun p hp => ?_⟩
    rcases List.mem_cons.mp hp with rfl | hp
    · exact .inl ⟨_, rfl, sh k (by simp [partsZ, partZ])⟩
    · rw [List.mem_singleton.mp hp]
      exact .inl ⟨_, rfl, sh w (by simp [partsZ, partZ])⟩
  | three k w t hk hw ht =>
    refine ⟨_, rfl, by show 3 ≤ 3; decide, ⟨k, rfl, fun e => ne (by rw [e]; rfl)⟩, fun p hp => ?_⟩
    rcases List.mem_cons.mp hp with rfl | hp
    · exact .inl ⟨_, rfl, sh k (by simp [partsZ, partZ])⟩
    · rcases List.mem_cons.mp hp with rfl | hp
      · exact .inl ⟨_, rfl, sh w (by simp [partsZ, partZ])⟩
      · rw [List.mem_singleton.mp hp]
        exact .inl ⟨_, rfl, sh t (by simp [partsZ, partZ])⟩
  | walk w n hw h =>
    refine ⟨_, rfl, by show 3 ≤ 3; decide, ⟨_, rfl, by decide⟩, fun p hp => ?_⟩
    rcases List.mem_cons.mp hp with rfl | hp
    · exact .inl ⟨_, rfl, by decide⟩
    · rcases List.mem_cons.mp hp with rfl | hp
      · exact .inl ⟨_, rfl, sh w (by simp [partsZ, partZ])⟩
      · rw [List.mem_singleton.mp hp]
        exact .inr ⟨n, rfl, num_small (by decide) h, by rw [len_tl]; exact (num_word (by decide) h).2⟩
theorem sum_le : ∀ (l : List Str) (b : Nat), (∀ z ∈ l, z.length ≤ b) → (l.map (·.length)).sum ≤ l.length * b
  | [], b, _ => by simp
  | z :: r, b, h => by
    show z.length + (r.map (·.length)).sum ≤ (r.length + 1) * b
    have a := h z (by simp)
    have c := sum_le r b fun x hx => h x (List.mem_cons_of_mem _ hx)
    rw [Nat.add_mul]
    omega
section
variable {P : Program} {w : World} {K : PySem.W.Frag} {mg : Str → Option Value} {base : Heap}
/-- the line of a plain deed; of any deed, if b -/
def spLineK (K : PySem.W.Frag) (b : Prop) : Sp := fun vs H Q _ => ∃ (v : V) (d : PD), vs = [v] ∧ Dp K H v d ∧ (PlainForm d ∨ b ∧ DeedForm d) ∧ ∀ H', Same H H' → Q (.str (lineZ d)) H'
theorem ok_lineK (T : Txt K mg) (k : Nat) (b : Prop) (again : b → DefOk P w K mg base CX0 k "_law_line" ["_law_deed_here"] (spLineK K False)) : DefOk P w K mg base CX0 (k + 1) "_law_line" ["_law_deed_here"] (spLineK K b) := by
  refine mkDef T.d_LLine T.g__law_line scLLine (fun _ _ _ _ _ _ us hl => match us, hl with | [_], _ => rfl) (fun vs H Q E h => ?_) (fun cdv A outer s H vs Q E hr h => ?_)
  · obtain ⟨v, d, rfl, _⟩ := h
    rfl
  · obtain ⟨v, d, rfl, hd, hf, q⟩ := h
    have cases2 : PlainForm d ∨ (b ∧ ∃ wz e c, d = .tuple [.str kWhen, .str wz, e, c] ∧ isWinZ wz = true ∧ (e = .none ∨ ∃ t, e = .str t ∧ isNameZ t = true) ∧ PlainForm c) := by
      rcases hf with hf | ⟨hB, hf⟩
      · exact .inl hf
      · cases hf with
        | plain hf => exact .inl hf
        | when wz e c hw hb hc => exact .inr ⟨hB, wz, e, c, rfl, hw, hb, hc⟩
    clear hf
    rcases cases2 with hf | ⟨hB, wz, b, c, rfl, hw, hb, hc⟩
    · refine ⟨_, pss_cons (ps_if (pt_cmpR op_eq (pe_ix (r := rIxT K) ix_tup (pv 0) pe_int (fun _ _ => rfl)) pe_str (nomark _)) pss_never pss_nil) (
      pss_one (ps_ret (pe_join pe_str (pe_lc (own := [("_law_part", 1)]) (g := gName 1) rfl scLLine.nd (pi_tup (pv 0)) (blkOk_by (own := [("_law_part", 1)]) (N := nLLine) (sc := defScope sLLine) (by decide +kernel)) (fun _ _ _ _ _ => pg_name (i := 1) scLLine.nd rfl (Or.inl rfl)) (fun _ _ _ _ _ => pts_nil) (fun _ _ _ _ _ => (pe_callTy call_strE (by rfl) T.b_str (by decide +kernel) (pa_cons (pv 1) pa_nil))))))), ?_⟩
      rw [(lineZ_plain hf).1] at q
      obtain ⟨ps, rfl, hlen, ⟨k, hk, hkn⟩, hps⟩ := plain_parts hf
      cases hd with
      | @tup a xs _ ha hall =>
        obtain ⟨v0, hv0, hd0⟩ := dpAll_get hall hk
        cases hd0
        refine ⟨_, rfl, a, xs, 0, _, rfl, rfl, ha, atI_nat (j := 0) hv0, rfl, _, rfl, ite2 (fun e => ?_) (fun _ => ?_)⟩
        · exact hkn (V.str.inj (of_decide_eq_true e))
        · refine ⟨⟨_, rfl⟩, _, rfl, a, rfl, ⟨_, ha⟩, fun D hD => ?_⟩
          refine lc_tup (K := K) (a := a) (xs := xs) (fun i H1 => Same H H1 ∧ H1 D = some (.lst ((ps.take i).map fun p => V.str (partZ p)))) ⟨same_new hD, upd_same⟩ (fun i H1 _ hv => seqT_same hv.1 ha) (fun i x H1 hx hv => ?_) (fun H1 hv => ?_)
          · obtain ⟨s1, e1⟩ := hv
            have hi : i < ps.length := by
              rw [← dpAll_len hall]
              exact (List.getElem?_eq_some_iff.mp hx).1
            obtain ⟨p, hp⟩ : ∃ p, ps[i]? = some p := ⟨ps[i], List.getElem?_eq_getElem hi⟩
            obtain ⟨x2, hx2, hdp⟩ := dpAll_get hall hp
            have ex : x = x2 := Option.some.inj (hx.symm.trans hx2)
            subst ex
            have nl : ((ps.take i).map fun p => V.str (partZ p)).length < sizeLine := by
              rw [List.length_map]
              exact small1000 (Nat.le_trans (List.length_take_le _ _) (by omega))
            have fin : ∀ z, z = partZ p → ∃ acc, H1 D = some (.lst acc) ∧ acc.length < sizeLine ∧ Same H (upd H1 D (.lst (acc ++ [.str z]))) ∧ (upd H1 D (.lst (acc ++ [.str z]))) D = some (.lst ((ps.take (i + 1)).map fun p => V.str (partZ p))) := by
              intro z ez
              subst ez
              exact ⟨_, e1, nl, s1.upd hD, by rw [upd_same, take_snoc _ hp]⟩
            refine ⟨rfl, ?_⟩
            rcases hps p (List.mem_of_getElem? hp) with ⟨z, rfl, _⟩ | ⟨n, rfl, hn, _⟩
            · cases hdp
              exact ⟨_, rfl, .inr ⟨z, rfl, fin z rfl⟩⟩
            · cases hdp
              exact ⟨_, rfl, .inl ⟨n, rfl, hn, fin (numS n) rfl⟩⟩
          · obtain ⟨s1, e1⟩ := hv
            rw [dpAll_len hall, List.take_length] at e1
            have em : ps.map (fun p => V.str (partZ p)) = (ps.map partZ).map V.str := by rw [List.map_map]; rfl
            rw [em] at e1
            refine ⟨cBlank, D, ps.map partZ, rfl, rfl, .inl (SqL.of e1), ?_, q H1 s1⟩
            have hb := sum_le (ps.map partZ) 8 fun z hz => by
              obtain ⟨p, hp, rfl⟩ := List.mem_map.mp hz
              rcases hps p hp with ⟨z, rfl, h8⟩ | ⟨n, rfl, _, h3⟩
              · exact h8
              · exact Nat.le_trans h3 (by decide)
            have e8 : cBlank.length = 1 := by decide
            rw [List.length_map] at hb ⊢
            rw [e8]
            omega
    · have D_law_line := again hB
      refine ⟨_, pss_cons (ps_if (pt_cmpR op_eq (pe_ix (r := rIxT K) ix_tup (pv 0) pe_int (fun _ _ => rfl)) pe_str (nomark _)) (pss_one (ps_ret (pe_op op_add_str (pe_op op_add_str (pe_op op_add_str (pe_op op_add_str (pe_op op_add_str pe_str (pe_ix (r := rIxT K) ix_tup (pv 0) pe_int (fun _ _ => rfl))) pe_str) (pe_ifExp (pt_cmpR op_isN (pe_ix (r := rIxT K) ix_tup (pv 0) pe_int (fun _ _ => rfl)) pe_non (nomark _)) pe_str (pe_ix (r := rIxT K) ix_tup (pv 0) pe_int (fun _ _ => rfl)))) pe_str) (pe_def D_law_line (hr.mono (by first | decide | exact Nat.le_refl _)) (by rfl) pass0 (pa_cons (pe_ix (r := rIxT K) ix_tup (pv 0) pe_int (fun _ _ => rfl)) pa_nil))))) pss_nil) (
      pss_one (ps_ret (pe_join pe_str (pe_lc (own := [("_law_part", 1)]) (g := gName 1) rfl scLLine.nd (pi_tup (pv 0)) (blkOk_by (own := [("_law_part", 1)]) (N := nLLine) (sc := defScope sLLine) (by decide +kernel)) (fun _ _ _ _ _ => pg_name (i := 1) scLLine.nd rfl (Or.inl rfl)) (fun _ _ _ _ _ => pts_nil) (fun _ _ _ _ _ => (pe_callTy call_strE (by rfl) T.b_str (by decide +kernel) (pa_cons (pv 1) pa_nil))))))), ?_⟩
      cases hd with
      | @tup a xs _ ha hall =>
        obtain ⟨v0, hv0, hd0⟩ := dpAll_get (i := 0) hall rfl
        obtain ⟨v1, hv1, hd1⟩ := dpAll_get (i := 1) hall rfl
        obtain ⟨v2, hv2, hd2⟩ := dpAll_get (i := 2) hall rfl
        obtain ⟨v3, hv3, hd3⟩ := dpAll_get (i := 3) hall rfl
        cases hd0
        cases hd1
        have lw := (win_word hw).2
        rw [← len_tl] at lw
        have l5 : zWhen.length = 5 := by decide
        have l1 : cBlank.length = 1 := by decide
        have l2 : cColon.length = 2 := by decide
        have lb : (whatZ b).length ≤ 8 := by
          rcases hb with rfl | ⟨t, rfl, ht⟩
          · decide
          · rw [len_tl]
            exact (name_word ht).2
        have lp : (plainLineZ c).length ≤ 19 := by
          rw [len_tl, tl_plainLine]
          exact (plain_back hc).2.2.2.2
        rw [lineZ_when] at q
        refine ⟨_, rfl, a, xs, 0, _, rfl, rfl, ha, atI_nat (j := 0) hv0, rfl, _, rfl, ite2 (fun _ => ?_) (fun e => absurd (decide_eq_true rfl) e)⟩
        refine ⟨_, rfl, a, xs, 1, _, rfl, rfl, ha, atI_nat (j := 1) hv1, zWhen, wz, rfl, rfl, by rw [l5, sizeLine_eq]; omega, _, cBlank, rfl, rfl, by rw [len_app, l5, l1, sizeLine_eq]; omega, ?_⟩
        have fin : ∀ z, z = whatZ b → ∃ i j, V.str (zWhen ++ wz ++ cBlank) = .str i ∧ V.str z = .str j ∧ i.length + j.length ≤ sizeLine ∧ ∃ i2 j2, V.str (i ++ j) = .str i2 ∧ V.str cColon = .str j2 ∧ i2.length + j2.length ≤ sizeLine ∧
            ∃ v : V, (L2.start nLLine [.ref a])[0]? = some (some v) ∧ ∃ p xs i v', v = .ref p ∧ V.int 3 = .int i ∧ SqT K H p xs ∧ atI xs i = some v' ∧ spLineK K False [v'] H (fun y H2 => ∃ i3 j3, V.str (i2 ++ j2) = .str i3 ∧ y = .str j3 ∧ i3.length + j3.length ≤ sizeLine ∧ Q (.str (i3 ++ j3)) H2) E := by
          intro z ez
          subst ez
          refine ⟨_, _, rfl, rfl, by rw [len_app, len_app, l5, l1, sizeLine_eq]; omega, _, _, rfl, rfl, by rw [len_app, len_app, len_app, l5, l1, l2, sizeLine_eq]; omega, _, rfl, a, xs, 3, v3, rfl, rfl, ha, atI_nat (j := 3) hv3, ?_⟩
          refine ⟨v3, c, rfl, hd3, .inl hc, fun H2 s2 => ⟨_, _, rfl, rfl, ?_, ?_⟩⟩
          · rw [(lineZ_plain hc).1, len_app, len_app, len_app, len_app, l5, l1, l2, sizeLine_eq]
            omega
          · rw [(lineZ_plain hc).1]
            exact q H2 s2
        refine ⟨_, rfl, a, xs, 2, v2, rfl, rfl, ha, atI_nat (j := 2) hv2, rfl, _, rfl, ?_⟩
        rcases hb with rfl | ⟨t, rfl, ht⟩
        · cases hd2
          exact fin kDot rfl
        · cases hd2
          exact ⟨_, rfl, a, xs, 2, _, rfl, rfl, ha, atI_nat (j := 2) hv2, fin t rfl⟩
def spLine (K : PySem.W.Frag) : Sp := fun vs H Q _ => ∃ (v : V) (d : PD), vs = [v] ∧ Dp K H v d ∧ DeedForm d ∧ ∀ H', Same H H' → Q (.str (lineZ d)) H'
theorem ok_line (T : Txt K mg) : DefOk P w K mg base CX0 2 "_law_line" ["_law_deed_here"] (spLine K) :=
  (ok_lineK T 1 True fun _ => ok_lineK T 0 False False.elim).imp fun vs H Q E ⟨v, d, e, hd, hf, q⟩ => ⟨v, d, e, hd, .inr ⟨trivial, hf⟩, q⟩
def spText (K : PySem.W.Frag) : Sp := fun vs H Q _ => ∃ (v : V) (ds : List PD), vs = [v] ∧ Dp K H v (.tuple ds) ∧ (∀ d ∈ ds, DeedForm d) ∧ ds.length ≤ 16 ∧ ∀ H', Same H H' → Q (.str (textZ ds)) H'
theorem ok_text (T : Txt K mg) : DefOk P w K mg base CX0 3 "_law_text" ["_law_row"] (spText K) := by
  have D_law_line : DefOk P w K mg base CX0 2 "_law_line" ["_law_deed_here"] (spLine K) := ok_line T
  refine mkDef T.d_LText T.g__law_text scLText (fun _ _ _ _ _ _ us hl => match us, hl with | [_], _ => rfl) (fun vs H Q E h => ?_) (fun cdv A outer s H vs Q E hr h => ?_)
  · obtain ⟨v, d, rfl, _⟩ := h
    rfl
  · obtain ⟨v, ds, rfl, hd, hf, hl, q⟩ := h
    refine ⟨_, pss_one (ps_ret (pe_join pe_str (pe_lc (own := [("_law_deed_here", 1)]) (g := gName 1) rfl scLText.nd (pi_tup (pv 0)) (blkOk_by (own := [("_law_deed_here", 1)]) (N := nLText) (sc := defScope sLText) (by decide +kernel)) (fun _ _ _ _ _ => pg_name (i := 1) scLText.nd rfl (Or.inl rfl)) (fun _ _ _ _ _ => pts_nil) (fun _ _ _ _ _ => (pe_def D_law_line (hr.mono (by first | decide | exact Nat.le_refl _)) (by rfl) pass0 (pa_cons (pv 1) pa_nil)))))), ?_⟩
    cases hd with
    | @tup a xs _ ha hall =>
      refine ⟨⟨_, rfl⟩, _, rfl, a, rfl, ⟨_, ha⟩, fun D hD => ?_⟩
      refine lc_tup (K := K) (a := a) (xs := xs) (fun i H1 => Same H H1 ∧ H1 D = some (.lst ((ds.take i).map fun p => V.str (lineZ p)))) ⟨same_new hD, upd_same⟩ (fun i H1 _ hv => seqT_same hv.1 ha) (fun i x H1 hx hv => ?_) (fun H1 hv => ?_)
      · obtain ⟨s1, e1⟩ := hv
        have hi : i < ds.length := by
          rw [← dpAll_len hall]
          exact (List.getElem?_eq_some_iff.mp hx).1
        obtain ⟨p, hp⟩ : ∃ p, ds[i]? = some p := ⟨ds[i], List.getElem?_eq_getElem hi⟩
        obtain ⟨x2, hx2, hdp⟩ := dpAll_get hall hp
        have ex : x = x2 := Option.some.inj (hx.symm.trans hx2)
        subst ex
        have nl : ((ds.take i).map fun p => V.str (lineZ p)).length < sizeLine := by
          rw [List.length_map]
          exact small1000 (Nat.le_trans (List.length_take_le _ _) (by omega))
        refine ⟨rfl, ?_⟩
        refine ⟨_, rfl, x, p, rfl, dp_same s1 p x hdp, hf p (List.mem_of_getElem? hp), fun H2 s2 => ⟨_, s2 _ _ e1, nl, (s1.trans s2).upd hD, by rw [upd_same, take_snoc _ hp]⟩⟩
      · obtain ⟨s1, e1⟩ := hv
        rw [dpAll_len hall, List.take_length] at e1
        have em : ds.map (fun p => V.str (lineZ p)) = (ds.map lineZ).map V.str := by rw [List.map_map]; rfl
        rw [em] at e1
        refine ⟨cLine, D, ds.map lineZ, rfl, rfl, .inl (SqL.of e1), ?_, q H1 s1⟩
        have hb := sum_le (ds.map lineZ) 39 fun z hz => by
          obtain ⟨p, hp, rfl⟩ := List.mem_map.mp hz
          rw [len_tl]
          exact (line_ok (hf p hp)).few
        have e8 : cLine.length = 1 := by decide
        rw [List.length_map] at hb ⊢
        rw [e8]
        omega
end
end RL

-- part W5
set_option Elab.async false
set_option linter.all false
set_option maxRecDepth 100000
set_option maxHeartbeats 4000000
/-! The walks: alike, the pot. -/
namespace RL
open PySem PySem.Spec PyProof.Rows L2 TL
theorem eqv_leaf {d : PD} (h : isTy "tuple" d = false) (h2 : isTy "list" d = false) {j : Nat} (hj : depOk j d = true) : PyData.eqv d d = true ∧ SeqAt.shaped d = true := by
  cases d with
  | none => exact ⟨rfl, rfl⟩
  | bool b => exact ⟨by cases b <;> rfl, rfl⟩
  | int i => exact ⟨by simp [PyData.eqv], rfl⟩
  | str z =>
    have e : PyData.canLay0 (.str z) = true := (depOk_str hj).1
    refine ⟨by simp [PyData.eqv], ?_⟩
    unfold SeqAt.shaped
    rw [e]
    rfl
  | list xs => exact absurd h2 (by simp [isTy, isTyS, tyN])
  | tuple xs => exact absurd h (by simp [isTy, isTyS, tyN])
  | dict kvs => cases j <;> cases hj
theorem neF (a : Bool) : V.bl (!decide (V.bl a = V.bl a)) = V.bl false := by
  rw [decide_eq_true rfl]
  rfl
def Sq (K : PySem.W.Frag) (H : Hp) (a : Addr) (xs : List V) : Prop := SqL K H a xs ∨ SqT K H a xs
theorem Sq.same {K : PySem.W.Frag} {H H' : Hp} {a : Addr} {xs : List V} (h : Sq K H a xs) (s : Same H H') : Sq K H' a xs := h.imp s.seq (seqT_same s)
theorem Sq.len {K : PySem.W.Frag} {H : Hp} {a : Addr} {xs : List V} {n : Nat} (h : Sq K H a xs) (e : n = xs.length) : LenV K (.ref a) H n := h.imp (fun h => ⟨xs, h, e⟩) fun h => ⟨xs, h, e⟩
theorem Sq.ix {K : PySem.W.Frag} {H : Hp} {a : Addr} {xs : List V} {i : Int} {v : V} {Q : VK} (h : Sq K H a xs) (e : atI xs i = some v) (q : Q v H) : rIx K (.ref a) (.int i) H Q := by
  rcases h with h | h
  · exact .inl ⟨a, xs, i, v, rfl, rfl, h, e, q⟩
  · exact .inr (.inl ⟨a, xs, i, v, rfl, rfl, h, e, q⟩)
/-- the items of two lists or tuples of the same data -/
theorem items_D {K : PySem.W.Frag} {H : Hp} {x y : V} {d : PD} {j : Nat} (hx : Dp K H x d) (hy : Dp K H y d) (hj : depOk j d = true) (ht : isTy "tuple" d = true ∨ isTy "list" d = true) :
    ∃ a b xs ys ds, x = .ref a ∧ y = .ref b ∧ DpAll K H xs ds ∧ DpAll K H ys ds ∧ (depAll j ds = true ∧ ds.length ≤ 1000000) ∧ Sq K H a xs ∧ Sq K H b ys := by
  cases hx with
  | non => rcases ht with h | h <;> cases h
  | bl b => rcases ht with h | h <;> cases h
  | int i => rcases ht with h | h <;> cases h
  | str x => rcases ht with h | h <;> cases h
  | @lst a xs ds ha hd =>
    cases hy with
    | @lst b ys _ hb hd2 => exact ⟨a, b, xs, ys, ds, rfl, rfl, hd, hd2, depOk_items (.inl rfl) hj, .inl ha, .inl hb⟩
  | @tup a xs ds ha hd =>
    cases hy with
    | @tup b ys _ hb hd2 => exact ⟨a, b, xs, ys, ds, rfl, rfl, hd, hd2, depOk_items (.inr rfl) hj, .inr ha, .inr hb⟩
section
variable {P : Program} {w : World} {K : PySem.W.Frag} {mg : Str → Option Value} {base : Heap}
theorem no_def {x : Str} {st : Stmt} {f : Addr} {ps : List Str} (F : ∃ fd, FD K x st f fd) (g : mg x = some (.ref f)) (hb : BindN x st ps) (k : Nat) : DefOk P w K mg base CX0 k x ps (fun _ _ _ _ => False) := by
  obtain ⟨fd, F⟩ := F
  exact ⟨f, fd, g, F.kp, F.bindsN hb, ⟨fun _ _ _ _ h => h.elim, fun _ _ _ _ _ _ _ _ _ _ _ _ _ h => h.elim⟩⟩
def spAlike (K : PySem.W.Frag) (j : Nat) : Sp := fun vs H Q _ => ∃ (x y : V) (d : PD), vs = [x, y] ∧ Dp K H x d ∧ Dp K H y d ∧ depOk j d = true ∧ ∀ H', Same H H' → Q (.bl true) H'
theorem ok_alikeK (T : Txt K mg) (k j : Nat) (sp : Sp) (D_law_alike : DefOk P w K mg base CX0 k "_law_alike" ["_law_found", "_law_due"] sp) (hs : ∀ i, j = i + 1 → ∀ vs H Q E, spAlike K i vs H Q E → sp vs H Q E) :
    DefOk P w K mg base CX0 (k + 1) "_law_alike" ["_law_found", "_law_due"] (spAlike K j) := by
  refine mkDef T.d_LAlike T.g__law_alike scLAlike (fun _ _ _ _ _ _ us hl => match us, hl with | [_, _], _ => rfl) (fun vs H Q E h => ?_) (fun cdv A outer s H vs Q E hr h => ?_)
  · obtain ⟨x, y, d, rfl, _⟩ := h
    rfl
  · obtain ⟨x, y, d, rfl, hx, hy, hj, q⟩ := h
    refine ⟨_, pss_cons (ps_if (PW.pt (pw_or (pt_cmpR op_ne (pe_callB call_isi (by rfl) T.b_isinstance (by decide +kernel) (pa_cons (pv 0) (pa_cons (pe_bltn (v := .ty "tuple") (by rfl) T.b_tuple (by decide +kernel) rfl) pa_nil))) (pe_callB call_isi (by rfl) T.b_isinstance (by decide +kernel) (pa_cons (pv 1) (pa_cons (pe_bltn (v := .ty "tuple") (by rfl) T.b_tuple (by decide +kernel) rfl) pa_nil))) (nomark _)) (pw_or1 (pt_cmpR op_ne (pe_callB call_isi (by rfl) T.b_isinstance (by decide +kernel) (pa_cons (pv 0) (pa_cons (pe_bltn (v := .ty "list") (by rfl) T.b_list (by decide +kernel) rfl) pa_nil))) (pe_callB call_isi (by rfl) T.b_isinstance (by decide +kernel) (pa_cons (pv 1) (pa_cons (pe_bltn (v := .ty "list") (by rfl) T.b_list (by decide +kernel) rfl) pa_nil))) (nomark _))))) (pss_one (ps_ret pe_bl)) pss_nil) (
      pss_cons (ps_if (pt_val (pe_callB call_isiT (by rfl) T.b_isinstance (by decide +kernel) (pa_cons (pv 1) (pa_cons (pe_tup (pa_cons (pe_bltn (v := .ty "tuple") (by rfl) T.b_tuple (by decide +kernel) rfl) (pa_cons (pe_bltn (v := .ty "list") (by rfl) T.b_list (by decide +kernel) rfl) pa_nil))) pa_nil)))) (pss_cons (ps_if (pt_cmpR op_ne (pe_callB call_len (by rfl) T.b_len (by decide +kernel) (pa_cons (pv 0) pa_nil)) (pe_callB call_len (by rfl) T.b_len (by decide +kernel) (pa_cons (pv 1) pa_nil)) (nomark _)) (pss_one (ps_ret pe_bl)) pss_nil) (pss_one (ps_ret (pe_cmpR (op_eqD hr.units) (pe_lc (own := [("_law_k", 2)]) (g := gName 2) rfl scLAlike.nd (pi_range1 (by rfl) T.b_range (pa_cons (pe_callB call_len (by rfl) T.b_len (by decide +kernel) (pa_cons (pv 1) pa_nil)) pa_nil)) (blkOk_by (own := [("_law_k", 2)]) (N := nLAlike) (sc := defScope sLAlike) (by decide +kernel)) (fun _ _ _ _ _ => pg_name (i := 2) scLAlike.nd rfl (Or.inl rfl)) (fun _ _ _ _ _ => pts_one (pt_not (pt_val (pe_def D_law_alike (hr.mono (by first | decide | exact Nat.le_refl _)) (by rfl) pass0 (pa_cons (pe_ix (r := rIx K) ix_seq (pv 0) (pv 2) (fun _ _ => rfl)) (pa_cons (pe_ix (r := rIx K) ix_seq (pv 1) (pv 2) (fun _ _ => rfl)) pa_nil)))))) (fun _ _ _ _ _ => (pv 2))) (pe_lst pa_nil) (nomark _))))) pss_nil) (
      pss_cons (ps_if (PW.pt (pw_or (pt_cmpR op_ne (pe_callB call_isi (by rfl) T.b_isinstance (by decide +kernel) (pa_cons (pv 0) (pa_cons (pe_bltn (v := .ty "bool") (by rfl) T.b_bool (by decide +kernel) rfl) pa_nil))) (pe_callB call_isi (by rfl) T.b_isinstance (by decide +kernel) (pa_cons (pv 1) (pa_cons (pe_bltn (v := .ty "bool") (by rfl) T.b_bool (by decide +kernel) rfl) pa_nil))) (nomark _)) (pw_or1 (pt_cmpR op_ne (pe_callB call_isi (by rfl) T.b_isinstance (by decide +kernel) (pa_cons (pv 0) (pa_cons (pe_bltn (v := .ty "str") (by rfl) T.b_str (by decide +kernel) rfl) pa_nil))) (pe_callB call_isi (by rfl) T.b_isinstance (by decide +kernel) (pa_cons (pv 1) (pa_cons (pe_bltn (v := .ty "str") (by rfl) T.b_str (by decide +kernel) rfl) pa_nil))) (nomark _))))) (pss_one (ps_ret pe_bl)) pss_nil) (
      pss_one (ps_ret (pe_cmpR (op_eqD hr.units) (pv 0) (pv 1) (nomark _)))))), ?_⟩
    have nd := dp_nodict hx
    refine ⟨_, rfl, x, .ty "tuple", _, _, isTy "tuple" d, rfl, .ty _, tyX_D hx, kit_D d (.inl rfl), _, rfl, y, .ty "tuple", _, _, isTy "tuple" d, rfl, .ty _, tyX_D hy, kit_D d (.inl rfl), rfl, false, neF _, ?_⟩
    refine ⟨_, rfl, x, .ty "list", _, _, isTy "list" d, rfl, .ty _, tyX_D hx, kit_D d (.inr (.inl rfl)), _, rfl, y, .ty "list", _, _, isTy "list" d, rfl, .ty _, tyX_D hy, kit_D d (.inr (.inl rfl)), rfl, false, neF _, ?_⟩
    -- isinstance(due, (tuple, list))
    refine ⟨_, rfl, by show 2 ≤ sizeLine; decide, fun t ht => ⟨y, t, _, .type (tyN d), _, _, rfl, upd_same, .cons (.ty _) (.cons (.ty _) .nil), tyX_D (dp_same (same_new ht) d y hy), kitAny_TL d, _, rfl, ite2 (fun e => ?_) (fun e => ?_)⟩⟩
    · have s1 : Same H (upd H t (.tup [.ty "tuple", .ty "list"])) := same_new ht
      have ht2 : isTy "tuple" d = true ∨ isTy "list" d = true := Bool.or_eq_true_iff.mp e
      obtain ⟨a, b, xs, ys, ds, rfl, rfl, hxs, hys, ⟨hA, hbig⟩, ka, kb⟩ := items_D hx hy hj ht2
      have lx := dpAll_len hxs
      have ly := dpAll_len hys
      have big : ds.length < 2 ^ 62 := Nat.lt_of_le_of_lt hbig (by decide)
      refine ⟨_, rfl, _, ds.length, rfl, (ka.same s1).len lx.symm, _, rfl, _, ds.length, rfl, (kb.same s1).len ly.symm, rfl, false, ?_, ?_⟩
      · rw [decide_eq_true rfl]
        rfl
      refine ⟨_, rfl, _, ds.length, rfl, (kb.same s1).len ly.symm, _, rfl, by omega, by omega, fun D hD => ?_⟩
      refine lc_range (lo := 0) (n := ((ds.length : Nat) : Int).toNat) (fun i H1 => Same H H1 ∧ H1 D = some (.lst [])) ⟨s1.new hD, upd_same⟩ (fun i H1 hi hv => ?_) (fun H1 hv => ?_)
      · obtain ⟨s2, e2⟩ := hv
        obtain ⟨j2, rfl⟩ : ∃ j2, j = j2 + 1 := by
          cases j with
          | zero =>
            rw [depAll_zero hA] at hi
            exact absurd hi (by simp)
          | succ j2 => exact ⟨j2, rfl⟩
        have hi2 : i < ds.length := by omega
        obtain ⟨d2, hd2⟩ : ∃ d2, ds[i]? = some d2 := ⟨ds[i], List.getElem?_eq_getElem hi2⟩
        obtain ⟨u, hu, du⟩ := dpAll_get hxs hd2
        obtain ⟨v, hv, dv⟩ := dpAll_get hys hd2
        refine ⟨rfl, _, rfl, _, rfl, (ka.same s2).ix (at_of (j := i) (by omega) hu) ⟨_, rfl, _, rfl, (kb.same s2).ix (at_of (j := i) (by omega) hv) ?_⟩⟩
        exact hs j2 rfl _ _ _ _ ⟨u, v, d2, rfl, dp_same s2 d2 u du, dp_same s2 d2 v dv, depAll_get hA hd2, fun H2 s3 => ⟨true, rfl, s2.trans s3, s3 _ _ e2⟩⟩
      · obtain ⟨s2, e2⟩ := hv
        refine ⟨Nat.zero_le _, fun D2 hD2 => ⟨.list [], .list [], .lst (SqL.of ((same_new hD2) _ _ e2)) .nil, .lst (SqL.of upd_same) .nil, rfl, rfl, ?_⟩⟩
        exact q _ (s2.new hD2)
    · have e1 : isTy "tuple" d = false ∧ isTy "list" d = false := by
        have z : (isTy "tuple" d || isTy "list" d) = false := by
          cases w : (isTy "tuple" d || isTy "list" d) with
          | false => rfl
          | true => exact absurd w e
        exact Bool.or_eq_false_iff.mp z
      have s1 : Same H (upd H t (.tup [.ty "tuple", .ty "list"])) := same_new ht
      have hx1 := dp_same s1 d x hx
      have hy1 := dp_same s1 d y hy
      obtain ⟨q1, q2⟩ := eqv_leaf e1.1 e1.2 hj
      refine ⟨_, rfl, x, .ty "bool", _, _, isTy "bool" d, rfl, .ty _, tyX_D hx1, kit_D d (.inr (.inr (.inr (.inr rfl)))), _, rfl, y, .ty "bool", _, _, isTy "bool" d, rfl, .ty _, tyX_D hy1, kit_D d (.inr (.inr (.inr (.inr rfl)))), rfl, false, neF _, ?_⟩
      refine ⟨_, rfl, x, .ty "str", _, _, isTy "str" d, rfl, .ty _, tyX_D hx1, kit_D d (.inr (.inr (.inl rfl))), _, rfl, y, .ty "str", _, _, isTy "str" d, rfl, .ty _, tyX_D hy1, kit_D d (.inr (.inr (.inl rfl))), rfl, false, neF _, ?_⟩
      refine ⟨_, rfl, _, rfl, d, d, hx1, hy1, q2, q2, ?_⟩
      rw [q1]
      exact q _ s1
theorem ok_alike (T : Txt K mg) : ∀ j : Nat, DefOk P w K mg base CX0 (j + 1) "_law_alike" ["_law_found", "_law_due"] (spAlike K j)
  | 0 => ok_alikeK T 0 0 _ (no_def T.d_LAlike T.g__law_alike (fun _ _ _ _ _ _ us hl => match us, hl with | [_, _], _ => rfl) 0) fun i e => by cases e
  | j + 1 => ok_alikeK T (j + 1) (j + 1) _ (ok_alike T j) fun i e vs H Q E h => by
    have : j = i := by omega
    subst this
    exact h
/-- the pot of a cell -/
def spPot (K : PySem.W.Frag) : Sp := fun vs H Q _ => ∃ (a : Addr) (ns : List Int) (k : Nat), vs = [.ref a, .int k] ∧ SqL K H a (ns.map V.int) ∧ ns.length ≤ 63 ∧ k ≤ 5 ∧ ∀ H' p, H p = none → Same H H' → Pot H' p 0 → Q (.ref p) H'
theorem ok_pot (T : Txt K mg) : DefOk P w K mg base CX0 1 "_law_pot" ["_law_script", "_law_k"] (spPot K) := by
  refine mkDef T.d_LPot T.g__law_pot scLPot (fun _ _ _ _ _ _ us hl => match us, hl with | [_, _], _ => rfl) (fun vs H Q E h => ?_) (fun cdv A outer s H vs Q E hr h => ?_)
  · obtain ⟨a, ns, k, rfl, _⟩ := h
    rfl
  · obtain ⟨a, ns, k, rfl, ha, hl, hk, q⟩ := h
    refine ⟨_, pss_cons (ps_set (i := 2) scLPot.nd rfl (by first | exact Or.inl rfl | exact Or.inr rfl) pe_int) (
      pss_cons (ps_if (pt_cmpR op_lt (pv 1) (pe_callB call_len (by rfl) T.b_len (by decide +kernel) (pa_cons (pv 0) pa_nil)) (nomark _)) (pss_one (ps_set (i := 2) scLPot.nd rfl (by first | exact Or.inl rfl | exact Or.inr rfl) (pe_callB call_abs (by rfl) T.b_abs (by decide +kernel) (pa_cons (pe_callTy call_int1 (by rfl) T.b_int (by decide +kernel) (pa_cons (pe_ix (r := rIxL K) ix_list (pv 0) (pv 1) (fun _ _ => rfl)) pa_nil)) pa_nil)))) pss_nil) (
      pss_one (ps_ret (pe_lst (pa_cons (pe_callB (call_max2 rfl) (by rfl) T.b_max (by decide +kernel) (pa_cons pe_int (pa_cons (pe_op op_sub (pv 2) (pe_op op_pow pe_int pe_int)) pa_nil))) (pa_cons (pe_op op_add (pe_op op_modN (pe_callTy call_int1 (by rfl) T.b_int (by decide +kernel) (pa_cons (pv 2) pa_nil)) (pe_op op_add (pe_op op_pow pe_int pe_int) pe_int)) (pe_op op_mul pe_int (pv 1))) (pa_cons pe_int pa_nil))))))), ?_⟩
    have fin : ∀ c : Int, 0 ≤ c → tRet (tLst (tCons (tCB (fun xs H Q => ∃ i j, xs = [V.int i, V.int j] ∧ Q (.int (if j > i then j else i)) H) (tCons (tC (.int 0)) (tCons (tOp (rI0 fun i j => .int (i - j)) (tVar 2) (tOp (rI CPow fun i j => .int (i ^ j.toNat)) (tC (.int 10)) (tC (.int 18)))) tNil)))
        (tCons (tOp (rI0 fun i j => .int (i + j)) (tOp (rI (fun _ j => j ≠ 0) fun i j => .int (i.fmod j)) (tCB (fun xs H Q => (∃ i, xs = [V.int i] ∧ Q (.int i) H) ∨ ∃ k, xs = [V.bl k] ∧ Q (.int (if k then 1 else 0)) H) (tCons (tVar 2) tNil)) (tOp (rI0 fun i j => .int (i + j)) (tOp (rI CPow fun i j => .int (i ^ j.toNat)) (tC (.int 10)) (tC (.int 33))) (tC (.int 33))))
          (tOp (rI CMul fun i j => .int (i * j)) (tC (.int 524309)) (tVar 1))) (tCons (tC (.int 0)) tNil)))) { nx := fun _ H' => Q .non H', rt := Q } [some (.ref a), some (.int k), some (.int c)] H := by
      intro c hc
      refine ⟨_, rfl, 10, 18, rfl, rfl, ⟨by decide, by decide, by decide⟩, c, _, rfl, rfl, 0, _, rfl, ?_⟩
      refine ⟨_, rfl, .inl ⟨c, rfl, 10, 33, rfl, rfl, ⟨by decide, by decide, by decide⟩, _, 33, rfl, rfl, c, _, rfl, rfl, (by show (10 ^ Int.toNat 33 + 33 : Int) ≠ 0; decide), ?_⟩⟩
      refine ⟨_, rfl, 524309, k, rfl, rfl, .inl ⟨by decide, by decide⟩, _, _, rfl, rfl, (by show 3 ≤ sizeLine; decide), fun p hp => ?_⟩
      have b0 : 0 ≤ c.fmod (10 ^ Int.toNat 33 + 33) := Int.fmod_nonneg_of_pos _ (by decide)
      have b1 : c.fmod (10 ^ Int.toNat 33 + 33) < 10 ^ Int.toNat 33 + 33 := Int.fmod_lt_of_pos _ (by decide)
      have b2 : c.fmod (10 ^ Int.toNat 33 + 33) < 2 ^ 129 := Int.lt_trans b1 (by decide)
      refine q _ p hp (same_new hp) ⟨_, _, 0, upd_same, ?_, by omega, by omega, Int.le_refl _, Int.le_refl _⟩
      show 0 ≤ (if c - 10 ^ Int.toNat 18 > 0 then c - 10 ^ Int.toNat 18 else 0)
      split <;> omega
    refine ⟨_, rfl, _, rfl, .ref a, ns.length, rfl, .inl ⟨_, ha, by rw [List.length_map]⟩, k, ns.length, rfl, rfl, _, rfl, ite2 (fun e => ?_) (fun e => ?_)⟩
    · have hkn : k < ns.length := by
        have := of_decide_eq_true e
        omega
      have hat : (ns.map V.int)[k]? = some (.int ns[k]) := by
        rw [List.getElem?_map, List.getElem?_eq_getElem hkn]
        rfl
      refine ⟨_, rfl, _, rfl, a, _, k, _, rfl, rfl, ha, atI_nat hat, .inl ⟨_, rfl, _, rfl, ?_⟩⟩
      refine fin _ ?_
      split <;> omega
    · exact fin 0 (Int.le_refl _)
end
end RL

-- part W6
set_option Elab.async false
set_option linter.all false
set_option maxRecDepth 100000
set_option maxHeartbeats 4000000
/-! The walks: what a deed is. -/
namespace RL
open PySem PySem.Spec PyProof.Rows L2 TL
theorem inV_win (z : Str) : inV (.str z) [.str kNear, .str kFar] = isWinZ z := by
  show (kNear == z || (kFar == z || false)) = (decide (z = kNear) || decide (z = kFar))
  rw [Bool.or_false, Bool.eq_iff_iff]
  simp only [Bool.or_eq_true, beq_iff_eq, decide_eq_true_eq]
  exact ⟨fun h => h.imp Eq.symm Eq.symm, fun h => h.imp Eq.symm Eq.symm⟩
theorem inV_two (z : Str) : inV (.str z) [.str kTake, .str kLook] = isTwo z := by
  show (kTake == z || (kLook == z || false)) = (decide (z = kTake) || decide (z = kLook))
  rw [Bool.or_false, Bool.eq_iff_iff]
  simp only [Bool.or_eq_true, beq_iff_eq, decide_eq_true_eq]
  exact ⟨fun h => h.imp Eq.symm Eq.symm, fun h => h.imp Eq.symm Eq.symm⟩
theorem inV_three (z : Str) : inV (.str z) [.str kPeg, .str kHang, .str kFetch] = isThree z := by
  show (kPeg == z || (kHang == z || (kFetch == z || false))) = (decide (z = kPeg) || (decide (z = kHang) || decide (z = kFetch)))
  rw [Bool.or_false, Bool.eq_iff_iff]
  simp only [Bool.or_eq_true, beq_iff_eq, decide_eq_true_eq]
  exact ⟨fun h => h.imp Eq.symm fun h => h.imp Eq.symm Eq.symm, fun h => h.imp Eq.symm fun h => h.imp Eq.symm Eq.symm⟩
theorem V_int_dec (i j : Int) : decide (V.int i = V.int j) = decide (i = j) := by
  rw [decide_eq_decide]
  exact ⟨V.int.inj, fun e => by rw [e]⟩
theorem V_str_dec (i j : Str) : decide (V.str i = V.str j) = decide (i = j) := by
  rw [decide_eq_decide]
  exact ⟨V.str.inj, fun e => by rw [e]⟩
def wholeD (d : PD) : Bool := isTy "int" d && !isTy "bool" d
section
variable {P : Program} {w : World} {K : PySem.W.Frag} {mg : Str → Option Value} {base : Heap}
def spD (K : PySem.W.Frag) (f : PD → Bool) : Sp := fun vs H Q _ => ∃ (v : V) (d : PD) (j : Nat), vs = [v] ∧ Dp K H v d ∧ depOk j d = true ∧ j ≤ 60 ∧ ∀ H', Same H H' → Q (.bl (f d)) H'
theorem ok_whole (T : Txt K mg) : DefOk P w K mg base CX0 1 "is_whole" ["thing"] (spD K wholeD) := by
  refine mkDef T.d_IsWhole T.g_is_whole scIsWhole (fun _ _ _ _ _ _ us hl => match us, hl with | [_], _ => rfl) (fun vs H Q E h => ?_) (fun cdv A outer s H vs Q E hr h => ?_)
  · obtain ⟨v, d, j, rfl, _⟩ := h
    rfl
  · obtain ⟨v, d, j, rfl, hd, hj, hj2, q⟩ := h
    refine ⟨_, pss_one (ps_ret (pe_and (pe_callB call_isi (by rfl) T.b_isinstance (by decide +kernel) (pa_cons (pv 0) (pa_cons (pe_bltn (v := .ty "int") (by rfl) T.b_int (by decide +kernel) rfl) pa_nil))) (pe_one (pe_not (pe_callB call_isi (by rfl) T.b_isinstance (by decide +kernel) (pa_cons (pv 0) (pa_cons (pe_bltn (v := .ty "bool") (by rfl) T.b_bool (by decide +kernel) rfl) pa_nil))))))), ?_⟩
    refine ⟨_, rfl, v, .ty "int", _, _, isTy "int" d, rfl, .ty _, tyX_D hd, kit_D d (.inr (.inr (.inr (.inl rfl)))), isTy "int" d, rfl, ?_⟩
    unfold wholeD at q
    cases e : isTy "int" d with
    | false =>
      rw [e] at q
      exact q H (Same.refl H)
    | true =>
      rw [e] at q
      exact ⟨_, rfl, v, .ty "bool", _, _, isTy "bool" d, rfl, .ty _, tyX_D hd, kit_D d (.inr (.inr (.inr (.inr rfl)))), _, rfl, q H (Same.refl H)⟩
theorem ok_window (T : Txt K mg) : DefOk P w K mg base CX0 1 "is_window" ["thing"] (spD K isWinD) := by
  refine mkDef T.d_IsWindow T.g_is_window scIsWindow (fun _ _ _ _ _ _ us hl => match us, hl with | [_], _ => rfl) (fun vs H Q E h => ?_) (fun cdv A outer s H vs Q E hr h => ?_)
  · obtain ⟨v, d, j, rfl, _⟩ := h
    rfl
  · obtain ⟨v, d, j, rfl, hd, hj, hj2, q⟩ := h
    refine ⟨_, pss_one (ps_ret (pe_and (pe_callB call_isi (by rfl) T.b_isinstance (by decide +kernel) (pa_cons (pv 0) (pa_cons (pe_bltn (v := .ty "str") (by rfl) T.b_str (by decide +kernel) rfl) pa_nil))) (pe_one (pe_cmpR op_in_seq (pv 0) (pe_glob (v := .ref (He.ga K "WINDOWS")) (by rfl) T.g_WINDOWS rfl) (by rfl))))), ?_⟩
    refine ⟨_, rfl, v, .ty "str", _, _, isTy "str" d, rfl, .ty _, tyX_D hd, kit_D d (.inr (.inr (.inl rfl))), isTy "str" d, rfl, ?_⟩
    cases hd with
    | str z =>
      refine ⟨_, rfl, _, _, rfl, .inr (T.wins H), rfl, rfl, ?_⟩
      show Q (.bl (inV (.str z) [.str kNear, .str kFar])) H
      rw [inV_win]
      exact q H (Same.refl H)
    | non => exact q H (Same.refl H)
    | bl b => exact q H (Same.refl H)
    | int i => exact q H (Same.refl H)
    | lst _ _ => exact q H (Same.refl H)
    | tup _ _ => exact q H (Same.refl H)
theorem ok_isthing (T : Txt K mg) : DefOk P w K mg base CX0 1 "is_thing" ["thing"] (spD K isNameD) := by
  obtain ⟨t1, gLETTERS⟩ := T.s_LETTERS
  obtain ⟨t2, gLONGEST⟩ := T.i_LONGEST_THING
  refine mkDef T.d_IsThing T.g_is_thing scIsThing (fun _ _ _ _ _ _ us hl => match us, hl with | [_], _ => rfl) (fun vs H Q E h => ?_) (fun cdv A outer s H vs Q E hr h => ?_)
  · obtain ⟨v, d, j, rfl, _⟩ := h
    rfl
  · obtain ⟨v, d, j, rfl, hd, hj, hj2, q⟩ := h
    refine ⟨_, pss_cons (ps_if (PW.pt (pw_or (pt_not (pt_val (pe_callB call_isi (by rfl) T.b_isinstance (by decide +kernel) (pa_cons (pv 0) (pa_cons (pe_bltn (v := .ty "str") (by rfl) T.b_str (by decide +kernel) rfl) pa_nil))))) (pw_or1 (pt_not (pt_chain op_le op_le pe_int (pe_callB call_len (by rfl) T.b_len (by decide +kernel) (pa_cons (pv 0) pa_nil)) (pe_glob (v := .int 8) (by rfl) gLONGEST ⟨_, rfl⟩)))))) (pss_one (ps_ret pe_bl)) pss_nil) (
      pss_one (ps_ret (pe_callB (cr_all rfl) (by rfl) T.b_all (by decide +kernel) (pa_cons (pe_lc (own := [("sign", 1)]) (g := gName 1) rfl scIsThing.nd (pi_str (pv 0)) (blkOk_by (own := [("sign", 1)]) (N := nIsThing) (sc := defScope sIsThing) (by decide +kernel)) (fun _ _ _ _ _ => pg_name (i := 1) scIsThing.nd rfl (Or.inl rfl)) (fun _ _ _ _ _ => pts_nil) (fun _ _ _ _ _ => (pe_cmpR op_in_sign (pv 1) (pe_glob (v := .str sAbc) (by rfl) gLETTERS ⟨_, rfl⟩) (by rfl)))) pa_nil)))), ?_⟩
    refine ⟨_, rfl, v, .ty "str", _, _, isTy "str" d, rfl, .ty _, tyX_D hd, kit_D d (.inr (.inr (.inl rfl))), isTy "str" d, rfl, ?_⟩
    cases hd with
    | str z =>
      have hz := (depOk_str hj).2
      have hz2 : z.length ≤ sizeLine := by rw [sizeLine_eq]; omega
      refine ⟨_, rfl, .str z, z.length, rfl, ⟨hz2, rfl⟩, 1, z.length, rfl, rfl, _, rfl, ?_⟩
      by_cases h1 : 1 ≤ z.length
      · have e1 : decide ((1 : Int) ≤ (z.length : Int)) = true := decide_eq_true (by omega)
        rw [e1]
        refine ⟨z.length, 8, rfl, rfl, _, rfl, ?_⟩
        by_cases h8 : z.length ≤ 8
        · have e8 : decide ((z.length : Int) ≤ (8 : Int)) = true := decide_eq_true (by omega)
          rw [e8]
          refine ⟨_, rfl, z, rfl, fun D hD => ?_⟩
          refine lc_it (walk_str (z := z)) (fun i H1 => Same H H1 ∧ H1 D = some (.lst ((((tl z).take i).map fun c => decide (c ∈ tl sAbc)).map V.bl))) ⟨same_new hD, upd_same⟩ (fun _ _ _ _ => trivial) (fun i x H1 H2 hi hv hy => ?_) (fun H1 hv => ?_)
          · obtain ⟨s1, e⟩ := hv
            obtain ⟨rfl, c, hc, rfl⟩ := hy
            have hc2 : (tl z)[i]? = some c := by
              rw [← hc]
              exact Array.getElem?_toList
            refine ⟨rfl, _, rfl, c, sAbc, rfl, rfl, _, e, ?_, s1.upd hD, ?_⟩
            · rw [List.length_map, List.length_map]
              exact small1000 (Nat.le_trans (List.length_take_le _ _) (by
                have : i < z.length := hi
                omega))
            · rw [upd_same, take_snoc _ hc2, List.map_append]
              rfl
          · obtain ⟨s1, e⟩ := hv
            have el : (tl z).take z.cps.size = tl z := List.take_of_length_le (by
              show z.cps.toList.length ≤ _
              rw [Array.length_toList]
              exact Nat.le_refl _)
            rw [el] at e
            refine ⟨D, _, rfl, SqL.of e, ?_⟩
            have ef : ((tl z).map fun c => decide (c ∈ tl sAbc)).all id = isNameD (.str z) := by
              show _ = (decide (1 ≤ z.length) && (decide (z.length ≤ 8) && (tl z).all fun c => decide (c ∈ tl sAbc)))
              rw [decide_eq_true h1, decide_eq_true h8, Bool.true_and, Bool.true_and, List.all_map]
              rfl
            rw [ef]
            exact q H1 s1
        · have e8 : decide ((z.length : Int) ≤ (8 : Int)) = false := decide_eq_false (by omega)
          rw [e8]
          have ef : isNameD (.str z) = false := by
            show (decide (1 ≤ z.length) && (decide (z.length ≤ 8) && _)) = false
            rw [decide_eq_false h8, Bool.false_and, Bool.and_false]
          rw [ef] at q
          exact q H (Same.refl H)
      · have e1 : decide ((1 : Int) ≤ (z.length : Int)) = false := decide_eq_false (by omega)
        rw [e1]
        have ef : isNameD (.str z) = false := by
          show (decide (1 ≤ z.length) && _) = false
          rw [decide_eq_false h1, Bool.false_and]
        rw [ef] at q
        exact ⟨_, rfl, q H (Same.refl H)⟩
    | non => exact q H (Same.refl H)
    | bl b => exact q H (Same.refl H)
    | int i => exact q H (Same.refl H)
    | lst _ _ => exact q H (Same.refl H)
    | tup _ _ => exact q H (Same.refl H)
def spLen (K : PySem.W.Frag) : Sp := fun vs H Q _ => ∃ (v : V) (d : PD) (m j : Nat), vs = [v, .int m] ∧ Dp K H v d ∧ depOk j d = true ∧ j ≤ 60 ∧ ∀ H', Same H H' → Q (.bl (lenD m d)) H'
theorem ok_length (T : Txt K mg) : DefOk P w K mg base CX0 2 "is_length" ["thing", "most"] (spLen K) := by
  have D_is_whole : DefOk P w K mg base CX0 1 "is_whole" ["thing"] (spD K wholeD) := ok_whole T
  refine mkDef T.d_IsLength T.g_is_length scIsLength (fun _ _ _ _ _ _ us hl => match us, hl with | [_, _], _ => rfl) (fun vs H Q E h => ?_) (fun cdv A outer s H vs Q E hr h => ?_)
  · obtain ⟨v, d, m, j, rfl, _⟩ := h
    rfl
  · obtain ⟨v, d, m, j, rfl, hd, hj, hj2, q⟩ := h
    refine ⟨_, pss_one (ps_ret (pe_and (pe_def D_is_whole (hr.mono (by first | decide | exact Nat.le_refl _)) (by rfl) pass0 (pa_cons (pv 0) pa_nil)) (pe_and (pe_cmpR op_ne (pv 0) pe_int (nomark _)) (pe_one (pe_chain op_le op_le (pe_un un_neg (pv 1)) (pv 0) (pv 1)))))), ?_⟩
    refine ⟨_, rfl, v, d, j, rfl, hd, hj, hj2, fun H1 s1 => ⟨wholeD d, rfl, ?_⟩⟩
    cases hd with
    | int n =>
      refine ⟨_, rfl, rfl, _, rfl, ?_⟩
      rw [V_int_dec]
      have q2 : ∀ b, b = lenOk m n → Q (.bl b) H1 := fun b e => by
        rw [e]
        exact q H1 s1
      by_cases h0 : n = 0
      · rw [decide_eq_true h0]
        exact q2 false (by rw [h0]; rfl)
      · rw [decide_eq_false h0]
        refine ⟨_, rfl, m, rfl, _, rfl, _, n, rfl, rfl, _, rfl, ?_⟩
        by_cases h1 : -(m : Int) ≤ n
        · rw [decide_eq_true h1]
          refine ⟨_, rfl, n, m, rfl, rfl, q2 _ ?_⟩
          unfold lenOk
          rw [decide_eq_true h0, decide_eq_true h1]
          rfl
        · rw [decide_eq_false h1]
          refine q2 _ ?_
          unfold lenOk
          rw [decide_eq_false h1, Bool.false_and, Bool.and_false]
    | str z => exact q H1 s1
    | non => exact q H1 s1
    | bl b => exact q H1 s1
    | lst _ _ => exact q H1 s1
    | tup _ _ => exact q H1 s1
end
end RL

-- part W7
set_option Elab.async false
set_option linter.all false
set_option maxRecDepth 100000
set_option maxHeartbeats 4000000
/-! The walks: what a deed is. -/
namespace RL
open PySem PySem.Spec PyProof.Rows L2 TL
theorem plainD_nil : plainD (.tuple []) = false := rfl
theorem plainD_cons (k : Str) (r : List PD) : plainD (.tuple (.str k :: r)) = plainR k r := rfl
theorem plainD_other {d : PD} (h : isTy "str" d = false) (r : List PD) : plainD (.tuple (d :: r)) = false := by
  cases d with
  | str z => cases h
  | _ => rfl
def only (f : PD → Bool) : List PD → Bool
  | [e] => f e
  | _ => false
theorem plainR_pull (r : List PD) : plainR kPull r = (match r with | [d] => lenD 40 d | _ => false) := if_pos rfl
theorem plainR_cons {k : Str} (h : k ≠ kPull) (d : PD) (r2 : List PD) : plainR k (d :: r2) = (isWinD d && (if isTwo k = true then r2.isEmpty else if isThree k = true then only isNameD r2 else decide (k = kWalk) && only (lenD 6) r2)) := if_neg h
theorem plainR_nil {k : Str} (h : k ≠ kPull) : plainR k [] = false := if_neg h
theorem isWhen_four (k : Str) (a b c : PD) : isWhen (.tuple [.str k, a, b, c]) = decide (k = kWhen) := rfl
theorem whenD_four (k : Str) (a b c : PD) : whenD (.tuple [.str k, a, b, c]) = (decide (k = kWhen) && (isWinD a && ((isNonD b || isNameD b) && plainD c))) := rfl
theorem isWhen_other {d : PD} (h : ∀ k a b c, d ≠ .tuple [.str k, a, b, c]) : isWhen d = false := by
  unfold isWhen
  split
  · exact absurd rfl (h _ _ _ _)
  · rfl
theorem dp_non {K : PySem.W.Frag} {H : Hp} {v : V} {d : PD} (h : Dp K H v d) : decide (v = .non) = isNonD d := by
  cases h <;> rfl
section
variable {P : Program} {w : World} {K : PySem.W.Frag} {mg : Str → Option Value} {base : Heap}
theorem ok_plainDeed (T : Txt K mg) : DefOk P w K mg base CX0 3 "is_plain_deed" ["thing"] (spD K plainD) := by
  obtain ⟨t1, gPULL⟩ := T.i_GREATEST_PULL
  obtain ⟨t2, gSTEP⟩ := T.i_GREATEST_STEP
  have D_is_window : DefOk P w K mg base CX0 1 "is_window" ["thing"] (spD K isWinD) := ok_window T
  have D_is_thing : DefOk P w K mg base CX0 1 "is_thing" ["thing"] (spD K isNameD) := ok_isthing T
  have D_is_length : DefOk P w K mg base CX0 2 "is_length" ["thing", "most"] (spLen K) := ok_length T
  refine mkDef T.d_IsPlainDeed T.g_is_plain_deed scIsPlainDeed (fun _ _ _ _ _ _ us hl => match us, hl with | [_], _ => rfl) (fun vs H Q E h => ?_) (fun cdv A outer s H vs Q E hr h => ?_)
  · obtain ⟨v, d, j, rfl, _⟩ := h
    rfl
  · obtain ⟨v, d, j, rfl, hd, hj, hj2, q⟩ := h
    refine ⟨_, pss_cons (ps_if (PW.pt (pw_or (pt_not (pt_val (pe_callB call_isi (by rfl) T.b_isinstance (by decide +kernel) (pa_cons (pv 0) (pa_cons (pe_bltn (v := .ty "tuple") (by rfl) T.b_tuple (by decide +kernel) rfl) pa_nil))))) (pw_or (pt_cmpR (op_eqD hr.units) (pv 0) (pe_tup pa_nil) (nomark _)) (pw_or1 (pt_not (pt_val (pe_callB call_isi (by rfl) T.b_isinstance (by decide +kernel) (pa_cons (pe_ix (r := rIxT K) ix_tup (pv 0) pe_int (fun _ _ => rfl)) (pa_cons (pe_bltn (v := .ty "str") (by rfl) T.b_str (by decide +kernel) rfl) pa_nil))))))))) (pss_one (ps_ret pe_bl)) pss_nil) (
      pss_cons (ps_if (pt_cmpR op_eq (pe_ix (r := rIxT K) ix_tup (pv 0) pe_int (fun _ _ => rfl)) pe_str (nomark _)) (pss_one (ps_ret (pe_and (pe_cmpR op_eq (pe_callB call_len (by rfl) T.b_len (by decide +kernel) (pa_cons (pv 0) pa_nil)) pe_int (nomark _)) (pe_one (pe_def D_is_length (hr.mono (by first | decide | exact Nat.le_refl _)) (by rfl) pass0 (pa_cons (pe_ix (r := rIxT K) ix_tup (pv 0) pe_int (fun _ _ => rfl)) (pa_cons (pe_glob (v := .int 40) (by rfl) gPULL ⟨_, rfl⟩) pa_nil))))))) pss_nil) (
      pss_cons (ps_if (PW.pt (pw_or (pt_cmpR op_lt (pe_callB call_len (by rfl) T.b_len (by decide +kernel) (pa_cons (pv 0) pa_nil)) pe_int (nomark _)) (pw_or1 (pt_not (pt_val (pe_def D_is_window (hr.mono (by first | decide | exact Nat.le_refl _)) (by rfl) pass0 (pa_cons (pe_ix (r := rIxT K) ix_tup (pv 0) pe_int (fun _ _ => rfl)) pa_nil))))))) (pss_one (ps_ret pe_bl)) pss_nil) (
      pss_cons (ps_if (pt_cmpR op_in_seq (pe_ix (r := rIxT K) ix_tup (pv 0) pe_int (fun _ _ => rfl)) (pe_tup (pa_cons pe_str (pa_cons pe_str pa_nil))) (by rfl)) (pss_one (ps_ret (pe_cmpR op_eq (pe_callB call_len (by rfl) T.b_len (by decide +kernel) (pa_cons (pv 0) pa_nil)) pe_int (nomark _)))) pss_nil) (
      pss_cons (ps_if (pt_cmpR op_in_seq (pe_ix (r := rIxT K) ix_tup (pv 0) pe_int (fun _ _ => rfl)) (pe_tup (pa_cons pe_str (pa_cons pe_str (pa_cons pe_str pa_nil)))) (by rfl)) (pss_one (ps_ret (pe_and (pe_cmpR op_eq (pe_callB call_len (by rfl) T.b_len (by decide +kernel) (pa_cons (pv 0) pa_nil)) pe_int (nomark _)) (pe_one (pe_def D_is_thing (hr.mono (by first | decide | exact Nat.le_refl _)) (by rfl) pass0 (pa_cons (pe_ix (r := rIxT K) ix_tup (pv 0) pe_int (fun _ _ => rfl)) pa_nil)))))) pss_nil) (
      pss_one (ps_ret (pe_and (pe_cmpR op_eq (pe_ix (r := rIxT K) ix_tup (pv 0) pe_int (fun _ _ => rfl)) pe_str (nomark _)) (pe_and (pe_cmpR op_eq (pe_callB call_len (by rfl) T.b_len (by decide +kernel) (pa_cons (pv 0) pa_nil)) pe_int (nomark _)) (pe_one (pe_def D_is_length (hr.mono (by first | decide | exact Nat.le_refl _)) (by rfl) pass0 (pa_cons (pe_ix (r := rIxT K) ix_tup (pv 0) pe_int (fun _ _ => rfl)) (pa_cons (pe_glob (v := .int 6) (by rfl) gSTEP ⟨_, rfl⟩) pa_nil)))))))))))), ?_⟩
    refine ⟨_, rfl, v, .ty "tuple", _, _, isTy "tuple" d, rfl, .ty _, tyX_D hd, kit_D d (.inl rfl), isTy "tuple" d, rfl, ?_⟩
    cases hd with
    | str z => exact q H (Same.refl H)
    | non => exact q H (Same.refl H)
    | bl b => exact q H (Same.refl H)
    | int i => exact q H (Same.refl H)
    | lst _ _ => exact q H (Same.refl H)
    | @tup a xs ds ha hall =>
      have hsh := depOk_shaped hj hj2
      have hlen := dpAll_len hall
      obtain ⟨hjA, _⟩ := depOk_items (.inr rfl) hj
      have S := fun {H1 : Hp} (s : Same H H1) => seqT_same s ha
      have L := fun {H1 : Hp} (s : Same H H1) (n : Nat) (e : n = ds.length) => (show LenV K (.ref a) H1 n from .inr ⟨xs, S s, by rw [hlen]; exact e⟩)
      have D := fun {H1 : Hp} (s : Same H H1) => dpAll_same s ds xs hall
      refine ⟨_, rfl, Nat.zero_le _, fun p1 hp1 => ⟨.tuple ds, .tuple [], dp_same (same_new hp1) (.tuple ds) (.ref a) (.tup ha hall), .tup (SqT.of upd_same) .nil, hsh, rfl, PyData.eqv (.tuple ds) (.tuple []), rfl, ?_⟩⟩
      have s1 : Same H (upd H p1 (.tup [])) := same_new hp1
      revert s1
      generalize upd H p1 (.tup []) = H1
      intro s1
      cases ds with
      | nil => exact q H1 s1
      | cons d0 r =>
        obtain ⟨j2, rfl⟩ : ∃ j2, j = j2 + 1 := by
          cases j with
          | zero => cases hjA
          | succ j2 => exact ⟨j2, rfl⟩
        have hj3 : j2 ≤ 60 := by omega
        have dg := fun {i : Nat} {e : PD} (h : (d0 :: r)[i]? = some e) => depAll_get hjA h
        obtain ⟨v0, hv0, hd0⟩ := dpAll_get (i := 0) (D s1) rfl
        refine ⟨_, rfl, a, xs, 0, v0, rfl, rfl, S s1, atI_nat (j := 0) hv0, v0, .ty "str", _, _, isTy "str" d0, rfl, .ty _, tyX_D hd0, kit_D d0 (.inr (.inr (.inl rfl))), isTy "str" d0, rfl, ?_⟩
        cases e0 : isTy "str" d0 with
        | false =>
          rw [plainD_other e0] at q
          exact q H1 s1
        | true =>
          obtain ⟨k, rfl⟩ : ∃ k, d0 = .str k := by
            cases d0 with
            | str k => exact ⟨k, rfl⟩
            | _ => cases e0
          cases hd0
          rw [plainD_cons] at q
          have A0 : atI xs 0 = some (V.str k) := atI_nat (j := 0) hv0
          have q2 : ∀ (H' : Hp) (b : Bool), Same H H' → b = plainR k r → Q (.bl b) H' := fun H' b s e => by
            rw [e]
            exact q H' s
          refine ⟨_, rfl, a, xs, 0, _, rfl, rfl, S s1, A0, rfl, decide (V.str k = V.str kPull), rfl, ?_⟩
          rw [V_str_dec]
          by_cases hk : k = kPull
          · subst hk
            rw [decide_eq_true rfl]
            refine ⟨_, rfl, .ref a, (r.length + 1 : Nat), rfl, L s1 _ rfl, rfl, decide (V.int ((r.length + 1 : Nat) : Int) = V.int 2), rfl, ?_⟩
            rw [V_int_dec]
            match r with
            | [] => exact q2 H1 false s1 rfl
            | [d1] =>
              obtain ⟨v1, hv1, hd1⟩ := dpAll_get (i := 1) (D s1) rfl
              refine ⟨_, rfl, a, xs, 1, v1, rfl, rfl, S s1, atI_nat (j := 1) hv1, v1, d1, 40, j2, rfl, hd1, dg (i := 1) rfl, hj3, fun H2 s2 => q2 H2 _ (s1.trans s2) rfl⟩
            | d1 :: d2 :: r3 =>
              rw [decide_eq_false (by simp; omega)]
              exact q2 H1 false s1 rfl
          · rw [decide_eq_false hk]
            refine ⟨_, rfl, .ref a, (r.length + 1 : Nat), rfl, L s1 _ rfl, _, 2, rfl, rfl, decide (((r.length + 1 : Nat) : Int) < 2), rfl, ?_⟩
            cases r with
            | nil => exact q2 H1 false s1 (plainR_nil hk).symm
            | cons d1 r2 =>
              rw [decide_eq_false (by simp; omega)]
              obtain ⟨v1, hv1, hd1⟩ := dpAll_get (i := 1) (D s1) rfl
              refine ⟨_, rfl, a, xs, 1, v1, rfl, rfl, S s1, atI_nat (j := 1) hv1, v1, d1, j2, rfl, hd1, dg (i := 1) rfl, hj3, fun H2 s2 => ⟨isWinD d1, rfl, ?_⟩⟩
              have s2 := s1.trans s2
              cases ew : isWinD d1 with
              | false => exact q2 H2 false s2 (by rw [plainR_cons hk, ew]; rfl)
              | true =>
                -- take, look
                refine ⟨_, rfl, a, xs, 0, _, rfl, rfl, S s2, A0, by show 2 ≤ sizeLine; decide, fun p3 hp3 => ⟨p3, _, rfl, .inr (SqT.of upd_same), rfl, rfl, inV (.str k) [.str kTake, .str kLook], rfl, ?_⟩⟩
                rw [inV_two]
                have s3 : Same H (upd H2 p3 (.tup [.str kTake, .str kLook])) := s2.new hp3
                revert s3
                generalize upd H2 p3 (.tup [.str kTake, .str kLook]) = H3
                intro s3
                cases e2 : isTwo k with
                | true =>
                  refine ⟨_, rfl, .ref a, (r2.length + 1 + 1 : Nat), rfl, L s3 _ rfl, rfl, ?_⟩
                  refine q2 H3 _ s3 ?_
                  rw [plainR_cons hk, ew, if_pos e2, V_int_dec]
                  cases r2 with
                  | nil => rfl
                  | cons x y =>
                    rw [decide_eq_false (by simp; omega)]
                    rfl
                | false =>
                  refine ⟨_, rfl, a, xs, 0, _, rfl, rfl, S s3, A0, by show 3 ≤ sizeLine; decide, fun p4 hp4 => ⟨p4, _, rfl, .inr (SqT.of upd_same), rfl, rfl, inV (.str k) [.str kPeg, .str kHang, .str kFetch], rfl, ?_⟩⟩
                  rw [inV_three]
                  have s4 : Same H (upd H3 p4 (.tup [.str kPeg, .str kHang, .str kFetch])) := s3.new hp4
                  revert s4
                  generalize upd H3 p4 (.tup [.str kPeg, .str kHang, .str kFetch]) = H4
                  intro s4
                  cases e3 : isThree k with
                  | true =>
                    refine ⟨_, rfl, .ref a, (r2.length + 1 + 1 : Nat), rfl, L s4 _ rfl, rfl, decide (V.int ((r2.length + 1 + 1 : Nat) : Int) = V.int 3), rfl, ?_⟩
                    rw [V_int_dec]
                    have er : plainR k (d1 :: r2) = only isNameD r2 := by
                      rw [plainR_cons hk, ew, if_neg (by rw [e2]; exact Bool.false_ne_true), if_pos e3, Bool.true_and]
                    match r2 with
                    | [] => exact q2 H4 false s4 er.symm
                    | [x] =>
                      obtain ⟨v2, hv2, hd2⟩ := dpAll_get (i := 2) (D s4) rfl
                      refine ⟨_, rfl, a, xs, 2, v2, rfl, rfl, S s4, atI_nat (j := 2) hv2, v2, x, j2, rfl, hd2, dg (i := 2) rfl, hj3, fun H5 s5 => q2 H5 _ (s4.trans s5) er.symm⟩
                    | x :: y :: r3 =>
                      rw [decide_eq_false (by simp; omega)]
                      exact q2 H4 false s4 er.symm
                  | false =>
                    have er : plainR k (d1 :: r2) = (decide (k = kWalk) && only (lenD 6) r2) := by
                      rw [plainR_cons hk, ew, if_neg (by rw [e2]; exact Bool.false_ne_true), if_neg (by rw [e3]; exact Bool.false_ne_true), Bool.true_and]
                    refine ⟨_, rfl, a, xs, 0, _, rfl, rfl, S s4, A0, rfl, decide (V.str k = V.str kWalk), rfl, ?_⟩
                    rw [V_str_dec]
                    by_cases hw : k = kWalk
                    · rw [decide_eq_true hw] at er ⊢
                      refine ⟨_, rfl, .ref a, (r2.length + 1 + 1 : Nat), rfl, L s4 _ rfl, rfl, decide (V.int ((r2.length + 1 + 1 : Nat) : Int) = V.int 3), rfl, ?_⟩
                      rw [V_int_dec]
                      match r2 with
                      | [] => exact q2 H4 false s4 er.symm
                      | [x] =>
                        obtain ⟨v2, hv2, hd2⟩ := dpAll_get (i := 2) (D s4) rfl
                        refine ⟨_, rfl, a, xs, 2, v2, rfl, rfl, S s4, atI_nat (j := 2) hv2, v2, x, 6, j2, rfl, hd2, dg (i := 2) rfl, hj3, fun H5 s5 => q2 H5 _ (s4.trans s5) er.symm⟩
                      | x :: y :: r3 =>
                        rw [decide_eq_false (by simp; omega)]
                        exact q2 H4 false s4 er.symm
                    · rw [decide_eq_false hw] at er ⊢
                      exact q2 H4 false s4 er.symm
theorem ok_isdeed (T : Txt K mg) : DefOk P w K mg base CX0 4 "is_deed" ["thing"] (spD K deedD) := by
  have D_is_window : DefOk P w K mg base CX0 1 "is_window" ["thing"] (spD K isWinD) := ok_window T
  have D_is_thing : DefOk P w K mg base CX0 1 "is_thing" ["thing"] (spD K isNameD) := ok_isthing T
  have D_is_plain_deed : DefOk P w K mg base CX0 3 "is_plain_deed" ["thing"] (spD K plainD) := ok_plainDeed T
  refine mkDef T.d_IsDeed T.g_is_deed scIsDeed (fun _ _ _ _ _ _ us hl => match us, hl with | [_], _ => rfl) (fun vs H Q E h => ?_) (fun cdv A outer s H vs Q E hr h => ?_)
  · obtain ⟨v, d, j, rfl, _⟩ := h
    rfl
  · obtain ⟨v, d, j, rfl, hd, hj, hj2, q⟩ := h
    refine ⟨_, pss_cons (ps_if (PW.pt (pw_or (pt_not (pt_val (pe_callB call_isi (by rfl) T.b_isinstance (by decide +kernel) (pa_cons (pv 0) (pa_cons (pe_bltn (v := .ty "tuple") (by rfl) T.b_tuple (by decide +kernel) rfl) pa_nil))))) (pw_or (pt_cmpR op_ne (pe_callB call_len (by rfl) T.b_len (by decide +kernel) (pa_cons (pv 0) pa_nil)) pe_int (nomark _)) (pw_or (pt_not (pt_val (pe_callB call_isi (by rfl) T.b_isinstance (by decide +kernel) (pa_cons (pe_ix (r := rIxT K) ix_tup (pv 0) pe_int (fun _ _ => rfl)) (pa_cons (pe_bltn (v := .ty "str") (by rfl) T.b_str (by decide +kernel) rfl) pa_nil))))) (pw_or1 (pt_cmpR op_ne (pe_ix (r := rIxT K) ix_tup (pv 0) pe_int (fun _ _ => rfl)) pe_str (nomark _))))))) (pss_one (ps_ret (pe_def D_is_plain_deed (hr.mono (by first | decide | exact Nat.le_refl _)) (by rfl) pass0 (pa_cons (pv 0) pa_nil)))) pss_nil) (
      pss_one (ps_ret (pe_and (pe_def D_is_window (hr.mono (by first | decide | exact Nat.le_refl _)) (by rfl) pass0 (pa_cons (pe_ix (r := rIxT K) ix_tup (pv 0) pe_int (fun _ _ => rfl)) pa_nil)) (pe_and (pe_or (pe_cmpR op_isN (pe_ix (r := rIxT K) ix_tup (pv 0) pe_int (fun _ _ => rfl)) pe_non (nomark _)) (pe_one (pe_def D_is_thing (hr.mono (by first | decide | exact Nat.le_refl _)) (by rfl) pass0 (pa_cons (pe_ix (r := rIxT K) ix_tup (pv 0) pe_int (fun _ _ => rfl)) pa_nil)))) (pe_one (pe_def D_is_plain_deed (hr.mono (by first | decide | exact Nat.le_refl _)) (by rfl) pass0 (pa_cons (pe_ix (r := rIxT K) ix_tup (pv 0) pe_int (fun _ _ => rfl)) pa_nil))))))), ?_⟩
    have plain : isWhen d = false → ∀ H1, Same H H1 → spD K plainD [v] H1 Q E := fun e H1 s1 => ⟨v, d, j, rfl, dp_same s1 d v hd, hj, hj2, fun H2 s2 => by
      have e2 : deedD d = plainD d := by
        unfold deedD
        rw [e, if_neg Bool.false_ne_true]
      rw [e2] at q
      exact q H2 (s1.trans s2)⟩
    refine ⟨_, rfl, v, .ty "tuple", _, _, isTy "tuple" d, rfl, .ty _, tyX_D hd, kit_D d (.inl rfl), isTy "tuple" d, rfl, ?_⟩
    cases id hd with
    | str z => exact ⟨_, rfl, plain rfl H (Same.refl H)⟩
    | non => exact ⟨_, rfl, plain rfl H (Same.refl H)⟩
    | bl b => exact ⟨_, rfl, plain rfl H (Same.refl H)⟩
    | int i => exact ⟨_, rfl, plain rfl H (Same.refl H)⟩
    | lst _ _ => exact ⟨_, rfl, plain rfl H (Same.refl H)⟩
    | @tup a xs ds ha hall =>
      have hlen := dpAll_len hall
      obtain ⟨hjA, _⟩ := depOk_items (.inr rfl) hj
      refine ⟨_, rfl, .ref a, ds.length, rfl, .inr ⟨xs, ha, hlen.symm⟩, rfl, !decide (V.int (ds.length : Int) = V.int 4), rfl, ?_⟩
      rw [V_int_dec]
      by_cases h4 : ds.length = 4
      · rw [decide_eq_true (show (ds.length : Int) = 4 by omega)]
        obtain ⟨d0, d1, d2, d3, rfl⟩ : ∃ d0 d1 d2 d3, ds = [d0, d1, d2, d3] := by
          match ds, h4 with
          | [d0, d1, d2, d3], _ => exact ⟨d0, d1, d2, d3, rfl⟩
        obtain ⟨j2, rfl⟩ : ∃ j2, j = j2 + 1 := by
          cases j with
          | zero => cases hjA
          | succ j2 => exact ⟨j2, rfl⟩
        have hj3 : j2 ≤ 60 := by omega
        obtain ⟨v0, hv0, hd0⟩ := dpAll_get (i := 0) hall rfl
        obtain ⟨v1, hv1, hd1⟩ := dpAll_get (i := 1) hall rfl
        obtain ⟨v2, hv2, hd2⟩ := dpAll_get (i := 2) hall rfl
        obtain ⟨v3, hv3, hd3⟩ := dpAll_get (i := 3) hall rfl
        refine ⟨_, rfl, a, xs, 0, v0, rfl, rfl, ha, atI_nat (j := 0) hv0, v0, .ty "str", _, _, isTy "str" d0, rfl, .ty _, tyX_D hd0, kit_D d0 (.inr (.inr (.inl rfl))), isTy "str" d0, rfl, ?_⟩
        cases e0 : isTy "str" d0 with
        | false =>
          refine ⟨_, rfl, plain (isWhen_other fun k x y z e => ?_) H (Same.refl H)⟩
          injection e with e
          injection e with e _
          rw [e] at e0
          cases e0
        | true =>
          obtain ⟨k, rfl⟩ : ∃ k, d0 = .str k := by
            cases d0 with
            | str k => exact ⟨k, rfl⟩
            | _ => cases e0
          cases hd0
          refine ⟨_, rfl, a, xs, 0, _, rfl, rfl, ha, atI_nat (j := 0) hv0, rfl, !decide (V.str k = V.str kWhen), rfl, ?_⟩
          rw [V_str_dec]
          by_cases hk : k = kWhen
          · rw [decide_eq_true hk]
            have e2 : deedD (.tuple [.str k, d1, d2, d3]) = (isWinD d1 && ((isNonD d2 || isNameD d2) && plainD d3)) := by
              unfold deedD
              rw [isWhen_four, decide_eq_true hk, if_pos rfl, whenD_four, decide_eq_true hk, Bool.true_and]
            rw [e2] at q
            have q2 : ∀ (H' : Hp) (b : Bool), Same H H' → b = (isWinD d1 && ((isNonD d2 || isNameD d2) && plainD d3)) → Q (.bl b) H' := fun H' b s e => by
              rw [e]
              exact q H' s
            refine ⟨_, rfl, a, xs, 1, v1, rfl, rfl, ha, atI_nat (j := 1) hv1, v1, d1, j2, rfl, hd1, depAll_get (i := 1) hjA rfl, hj3, fun H1 s1 => ⟨isWinD d1, rfl, ?_⟩⟩
            cases ew : isWinD d1 with
            | false => exact q2 H1 false s1 (by rw [ew]; rfl)
            | true =>
              have fin : ∀ H2, Same H H2 → (isNonD d2 || isNameD d2) = true → ∃ v : V, (L2.start nIsDeed [V.ref a])[0]? = some (some v) ∧ ∃ p xs i v', v = .ref p ∧ V.int 3 = .int i ∧ SqT K H2 p xs ∧ atI xs i = some v' ∧ spD K plainD [v'] H2 Q E := fun H2 s2 e => ⟨_, rfl, a, xs, 3, v3, rfl, rfl, seqT_same s2 ha, atI_nat (j := 3) hv3, v3, d3, j2, rfl, dp_same s2 d3 v3 hd3, depAll_get (i := 3) hjA rfl, hj3, fun H3 s3 => q2 H3 _ (s2.trans s3) (by rw [ew, e]; rfl)⟩
              refine ⟨_, rfl, a, xs, 2, v2, rfl, rfl, seqT_same s1 ha, atI_nat (j := 2) hv2, rfl, decide (v2 = .non), rfl, ?_⟩
              rw [dp_non hd2]
              cases en : isNonD d2 with
              | true => exact ⟨true, rfl, fin H1 s1 (by rw [en]; rfl)⟩
              | false =>
                refine ⟨_, rfl, a, xs, 2, v2, rfl, rfl, seqT_same s1 ha, atI_nat (j := 2) hv2, v2, d2, j2, rfl, dp_same s1 d2 v2 hd2, depAll_get (i := 2) hjA rfl, hj3, fun H2 s2 => ⟨isNameD d2, rfl, ?_⟩⟩
                cases em : isNameD d2 with
                | true => exact fin H2 (s1.trans s2) (by rw [em, Bool.or_true])
                | false => exact q2 H2 false (s1.trans s2) (by rw [ew, en, em]; rfl)
          · rw [decide_eq_false hk]
            exact ⟨_, rfl, plain (by rw [isWhen_four, decide_eq_false hk]) H (Same.refl H)⟩
      · rw [decide_eq_false (show ¬ (ds.length : Int) = 4 by omega)]
        refine ⟨_, rfl, plain (isWhen_other fun k x y z e => ?_) H (Same.refl H)⟩
        injection e with e
        rw [e] at h4
        exact h4 rfl
end
end RL

-- part W8
set_option Elab.async false
set_option linter.all false
set_option maxRecDepth 100000
set_option maxHeartbeats 4000000
/-! The walks: a number, a plain deed, a deed are read. -/
namespace RL
open PySem PySem.Spec PyProof.Rows L2 TL
theorem par_parts {S : List Nat} (hS : S ≠ []) : ∀ (l acc p q : List Nat), par S acc l = some (p, q) → acc ++ l = p ++ (S ++ q)
  | [], acc, p, q, h => by cases h
  | c :: r, acc, p, q, h => by
    by_cases e : pre S (c :: r) = true
    · rw [par_hit e] at h
      obtain ⟨rfl, rfl⟩ := Prod.mk.inj (Option.some.inj h)
      have e2 : (c :: r).take S.length = S := eq_of_beq e
      conv => lhs; rw [← List.take_append_drop S.length (c :: r), e2]
    · have e2 : pre S (c :: r) = false := by
        cases z : pre S (c :: r) with
        | false => rfl
        | true => exact absurd z e
      rw [par_miss e2] at h
      have := par_parts hS r (acc ++ [c]) p q h
      rw [← this]
      simp
theorem part_none {z : Str} (h : parW ((wordsZ z).map tl) = none) : Txt.partition z cColon = (z, Str.empty, Str.empty) := by
  obtain ⟨a, b, c⟩ := words_of z
  rw [partition_par z cColon (by rw [tl_colon]; simp), tl_colon, ← b, par_words _ [] (fun e => a (List.map_eq_nil_iff.mp e)) (fun w hw => by
    obtain ⟨u, hu, rfl⟩ := List.mem_map.mp hw
    exact c u hu), h]
  rfl
theorem part_some {z : Str} {a b : List (List Nat)} (h : parW ((wordsZ z).map tl) = some (a, b)) : ∃ p r : Str, Txt.partition z cColon = (p, cColon, r) ∧ wordsZ p = a.map mk ∧ wordsZ r = b.map mk ∧ tl p <:+: tl z ∧ tl r <:+: tl z := by
  obtain ⟨n, e, c⟩ := words_of z
  have hf : ∀ w ∈ (wordsZ z).map tl, 32 ∉ w := fun w hw => by
    obtain ⟨u, hu, rfl⟩ := List.mem_map.mp hw
    exact c u hu
  have hp := par_words _ [] (fun e => n (List.map_eq_nil_iff.mp e)) hf
  rw [h] at hp
  have hp2 : par [58, 32] [] (joinL [32] ((wordsZ z).map tl)) = some (joinL [32] a, joinL [32] b) := hp
  have sp := par_parts (by simp) _ _ _ _ hp2
  rw [e] at sp
  obtain ⟨ha, hb⟩ := parW_ne h
  obtain ⟨fa, fb⟩ := parW_free h hf
  have mkl : ∀ l : List (List Nat), (l.map mk).map tl = l := fun l => by
    rw [List.map_map]
    exact (List.map_congr_left fun z _ => rfl).trans (List.map_id l)
  refine ⟨mk (joinL [32] a), mk (joinL [32] b), ?_, ?_, ?_, ?_, ?_⟩
  · rw [partition_par z cColon (by rw [tl_colon]; simp), tl_colon, ← e, hp2]
  · exact split_of_join tl_blank (by decide) (fun q => ha (List.map_eq_nil_iff.mp q)) (fun p hp q => by
      obtain ⟨u, hu, rfl⟩ := List.mem_map.mp hp
      exact fa u hu q) (by rw [mkl])
  · exact split_of_join tl_blank (by decide) (fun q => hb (List.map_eq_nil_iff.mp q)) (fun p hp q => by
      obtain ⟨u, hu, rfl⟩ := List.mem_map.mp hp
      exact fb u hu q) (by rw [mkl])
  · exact ⟨[], [58, 32] ++ joinL [32] b, by
      have : [] ++ tl z = tl z := rfl
      rw [← this, sp]
      rfl⟩
  · exact ⟨joinL [32] a ++ [58, 32], [], by
      have : [] ++ tl z = tl z := rfl
      rw [← this, sp]
      simp⟩
theorem joinL_ge {s : Nat} : ∀ ws : List (List Nat), ws.length ≤ (joinL [s] ws).length + 1
  | [] => Nat.zero_le _
  | [w] => by
    show 1 ≤ w.length + 1
    omega
  | w :: v :: r => by
    show (v :: r).length + 1 ≤ (w ++ ([s] ++ joinL [s] (v :: r))).length + 1
    have := joinL_ge (s := s) (v :: r)
    simp only [List.length_append, List.length_cons, List.length_nil] at this ⊢
    omega
theorem words_len (z : Str) : (wordsZ z).length ≤ z.length + 1 := by
  have h := joinL_ge (s := 32) ((wordsZ z).map tl)
  rw [(words_of z).2.1, List.length_map, ← len_tl] at h
  exact h
theorem lines_len (z : Str) : (linesZ z).length ≤ z.length + 1 := by
  have h := joinL_ge (s := 10) ((linesZ z).map tl)
  rw [(lines_of z).2.1, List.length_map, ← len_tl] at h
  exact h
theorem inV_pullish (z : Str) : inV (.str z) [.str kPull, .str kWalk] = pullish z := by
  show (kPull == z || (kWalk == z || false)) = (decide (z = kPull) || decide (z = kWalk))
  rw [Bool.or_false, Bool.eq_iff_iff]
  simp only [Bool.or_eq_true, beq_iff_eq, decide_eq_true_eq]
  exact ⟨fun h => h.imp Eq.symm Eq.symm, fun h => h.imp Eq.symm Eq.symm⟩
/-- a line within bounds -/
structure ZOk (z : Str) : Prop where
  ascii : Ascii (tl z)
  few : z.length ≤ 640
theorem ZOk.line {z : Str} (h : ZOk z) : z.length ≤ sizeLine := by
  have := h.few
  rw [sizeLine_eq]
  omega
theorem ZOk.sub {z y : Str} (h : ZOk z) (i : tl y <:+: tl z) : ZOk y := ⟨ascii_sub h.ascii i, by
  have a := i.length_le
  have b := h.few
  rw [len_tl] at b ⊢
  omega⟩
theorem ZOk.word {z w : Str} (h : ZOk z) (hw : w ∈ wordsZ z) : ZOk w := by
  obtain ⟨a, b⟩ := word_ok h.ascii h.few hw
  exact ⟨a, b⟩
section
variable {P : Program} {w : World} {K : PySem.W.Frag} {mg : Str → Option Value} {base : Heap}
def spNum (K : PySem.W.Frag) : Sp := fun vs H Q _ => ∃ z : Str, vs = [.str z] ∧ ZOk z ∧ ∀ v, Dp K H v (numD z) → Q v H
theorem ok_number (T : Txt K mg) : DefOk P w K mg base CX0 1 "read_number" ["word"] (spNum K) := by
  refine mkDef T.d_ReadNumber T.g_read_number scReadNumber (fun _ _ _ _ _ _ us hl => match us, hl with | [_], _ => rfl) (fun vs H Q E h => ?_) (fun cdv A outer s H vs Q E hr h => ?_)
  · obtain ⟨z, rfl, _⟩ := h
    rfl
  · obtain ⟨z, rfl, hz, q⟩ := h
    refine ⟨_, pss_cons (ps_set (i := 1) scReadNumber.nd rfl (by first | exact Or.inl rfl | exact Or.inr rfl) (pe_ifExp (pt_val (pe_m1 PySem.F.slot_str_startswith PySem.F.type_str_startswith mt_startswith (pv 0) pe_str)) (pe_slice sl_str (pv 0) (po_some pe_int) po_none) (pv 0))) (
      pss_cons (ps_if (PW.pt (pw_or (pt_not (pt_val (pe_m0 PySem.F.slot_str_isdigit PySem.F.type_str_isdigit mt_isdigit (pv 1)))) (pw_or1 (PW.pt (pw_and (pt_val (pe_m1 PySem.F.slot_str_startswith PySem.F.type_str_startswith mt_startswith (pv 1) pe_str)) (pw_and1 (pt_cmpR op_ne (pv 0) pe_str (nomark _)))))))) (pss_one (ps_ret pe_non)) pss_nil) (
      pss_one (ps_ret (pe_callTy call_int_str (by rfl) T.b_int (by decide +kernel) (pa_cons (pv 0) pa_nil))))), ?_⟩
    have fin : ∀ (D : Ends), D.rt = Q → tSeq (tIfS (tOr (tNot (tB (tM0 (fun x xs H Q => ∃ a, x = .str a ∧ xs = [] ∧ True ∧ Q (.bl (Txt.isdigit a)) H) (tVar 1)))) (tAnd (tB (tM1 (fun x xs H Q => ∃ a b, x = .str a ∧ xs = [.str b] ∧ Q (.bl (Txt.startswith a b)) H) (tVar 1) (tC (.str zZero)))) (tTest (tOp rNe (tVar 0) (tC (.str zZero)))))) (tRet (tC .non)) tNext)
        (tRet (tCB (fun xs H Q => ∃ a n, xs = [.str a] ∧ PySem.intText? a = some n ∧ a.length ≤ 640 ∧ Q (.int n) H) (tCons (tVar 0) tNil))) D [some (.str z), some (.str (digitsOf z))] H := by
      intro D hD
      have bad : badNum z = true → Q .non H := fun e => by
        refine q .non ?_
        have : numD z = .none := by
          unfold numD readNum
          rw [e]
          rfl
        rw [this]
        exact .non
      have good : badNum z = false → ∃ a n, ([V.str z] : List V) = [.str a] ∧ PySem.intText? a = some n ∧ a.length ≤ 640 ∧ D.rt (.int n) H := fun e => by
        obtain ⟨n, h1, h2⟩ := readNum_some hz.ascii hz.few e
        refine ⟨z, n, rfl, h1, hz.few, ?_⟩
        rw [hD]
        refine q (.int n) ?_
        have : numD z = .int n := by
          unfold numD readNum
          rw [e, if_neg Bool.false_ne_true, h1]
        rw [this]
        exact .int n
      rw [← hD] at bad
      unfold badNum at bad good
      refine ⟨_, rfl, ⟨_, rfl⟩, digitsOf z, rfl, rfl, trivial, Txt.isdigit (digitsOf z), rfl, ?_⟩
      cases e1 : Txt.isdigit (digitsOf z) with
      | false => exact bad (by rw [e1]; rfl)
      | true =>
        rw [e1] at bad good
        refine ⟨_, rfl, ⟨_, rfl⟩, digitsOf z, zZero, rfl, rfl, Txt.startswith (digitsOf z) zZero, rfl, ?_⟩
        cases e2 : Txt.startswith (digitsOf z) zZero with
        | false =>
          rw [e2] at good
          exact ⟨_, rfl, good rfl⟩
        | true =>
          rw [e2] at bad good
          refine ⟨_, rfl, rfl, !decide (V.str z = V.str zZero), rfl, ?_⟩
          rw [V_str_dec]
          cases e3 : decide (z = zZero) with
          | false =>
            rw [e3] at bad
            exact bad rfl
          | true =>
            rw [e3] at good
            exact ⟨_, rfl, good rfl⟩
    refine ⟨_, rfl, ⟨_, rfl⟩, z, zMinus, rfl, rfl, Txt.startswith z zMinus, rfl, ?_⟩
    have hfin := fin { nx := fun _ H' => Q .non H', rt := Q } rfl
    unfold digitsOf at hfin
    cases e0 : Txt.startswith z zMinus with
    | true =>
      rw [e0] at hfin
      exact ⟨_, rfl, 1, rfl, z, rfl, hz.line, hfin⟩
    | false =>
      rw [e0] at hfin
      exact ⟨_, rfl, hfin⟩
def spRead (K : PySem.W.Frag) (f : Str → PD) : Sp := fun vs H Q _ => ∃ z : Str, vs = [.str z] ∧ ZOk z ∧ ∀ H' v, Dp K H' v (f z) → Same H H' → Q v H'
theorem ok_readPlain (T : Txt K mg) : DefOk P w K mg base CX0 2 "read_plain" ["line"] (spRead K fun z => readPlainW (wordsZ z)) := by
  have D_read_number : DefOk P w K mg base CX0 1 "read_number" ["word"] (spNum K) := ok_number T
  refine mkDef T.d_ReadPlain T.g_read_plain scReadPlain (fun _ _ _ _ _ _ us hl => match us, hl with | [_], _ => rfl) (fun vs H Q E h => ?_) (fun cdv A outer s H vs Q E hr h => ?_)
  · obtain ⟨z, rfl, _⟩ := h
    rfl
  · obtain ⟨z, rfl, hz, q⟩ := h
    refine ⟨_, pss_cons (ps_set (i := 1) scReadPlain.nd rfl (by first | exact Or.inl rfl | exact Or.inr rfl) (pe_split (pv 0) pe_str)) (
      pss_cons (ps_if (pt_cmpR op_in_seq (pe_ix (r := rIxL K) ix_list (pv 1) pe_int (fun _ _ => rfl)) (pe_tup (pa_cons pe_str (pa_cons pe_str pa_nil))) (by rfl)) (pss_one (ps_ret (pe_tup (StX.pa_star (pe_slice sl_list (pv 1) po_none (po_some (pe_un un_neg pe_int))) (pa_cons (pe_def D_read_number (hr.mono (by first | decide | exact Nat.le_refl _)) (by rfl) pass0 (pa_cons (pe_ix (r := rIxL K) ix_list (pv 1) (pe_un un_neg pe_int) (fun _ _ => rfl)) pa_nil)) pa_nil))))) pss_nil) (
      pss_one (ps_ret (pe_callTy call_tuple_of (by rfl) T.b_tuple (by decide +kernel) (pa_cons (pv 1) pa_nil))))), ?_⟩
    have hl := hz.few
    refine ⟨_, rfl, ⟨_, rfl⟩, z, cBlank, rfl, rfl, by decide, by rw [sizeLine_eq]; omega, fun p hp => ?_⟩
    have s1 : Same H (upd H p (.lst ((Txt.split z cBlank).map V.str))) := same_new hp
    have hL : SqL K (upd H p (.lst ((Txt.split z cBlank).map V.str))) p ((Txt.split z cBlank).map V.str) := SqL.of upd_same
    have hwo : ∀ u ∈ Txt.split z cBlank, ZOk u := fun u hu => hz.word hu
    have hne : Txt.split z cBlank ≠ [] := (words_of z).1
    have hsz : (Txt.split z cBlank).length ≤ 641 := Nat.le_trans (words_len z) (by omega)
    have q : ∀ H' v, Dp K H' v (readPlainW (Txt.split z cBlank)) → Same H H' → Q v H' := q
    revert s1 hL hwo hne hsz q
    generalize Txt.split z cBlank = ws
    intro s1 hL hwo hne hsz q
    revert s1 hL
    generalize upd H p (.lst (ws.map V.str)) = H1
    intro s1 hL
    obtain ⟨k, r, rfl⟩ : ∃ k r, ws = k :: r := by
      cases ws with
      | nil => exact absurd rfl hne
      | cons k r => exact ⟨k, r, rfl⟩
    refine ⟨_, rfl, p, _, 0, .str k, rfl, rfl, hL, atI_nat (j := 0) rfl, by show 2 ≤ sizeLine; decide, fun p2 hp2 => ⟨p2, _, rfl, .inr (SqT.of upd_same), rfl, rfl, inV (.str k) [.str kPull, .str kWalk], rfl, ?_⟩⟩
    rw [inV_pullish]
    have s2 : Same H1 (upd H1 p2 (.tup [.str kPull, .str kWalk])) := same_new hp2
    have hL2 := s2.seq hL
    have s3 := s1.trans s2
    revert s3 hL2
    generalize upd H1 p2 (.tup [.str kPull, .str kWalk]) = H2
    intro hL2 s3
    rw [readPlainW_cons] at q
    cases ek : pullish k with
    | true =>
      rw [ek, if_pos rfl] at q
      refine ⟨_, rfl, 1, rfl, _, rfl, p, _, rfl, hL2, fun c hc => ?_⟩
      have hdl : ((k :: r).map V.str).dropLast = ((k :: r).dropLast).map V.str := by rw [List.map_dropLast]
      rw [cutV_init, hdl]
      have s4 : Same H2 (upd H2 c (.lst (((k :: r).dropLast).map V.str))) := same_new hc
      have hlast : atI ((k :: r).map V.str) (-1) = some (.str ((k :: r).getLast (by simp))) := by
        have e : (k :: r).map V.str = ((k :: r).dropLast).map V.str ++ [.str ((k :: r).getLast (by simp))] := by
          rw [← List.map_singleton, ← List.map_append, List.dropLast_concat_getLast]
        rw [e]
        exact atI_last _ _
      refine ⟨c, ((k :: r).dropLast).map V.str, rfl, .inr (SqL.of upd_same), ?_⟩
      refine ⟨_, rfl, 1, rfl, p, _, -1, _, rfl, rfl, s4.seq hL2, hlast, (k :: r).getLast (by simp), rfl, hwo _ (List.getLast_mem _), fun v hv => ⟨?_, fun t ht => ?_⟩⟩
      · rw [List.length_append, List.length_map, List.length_dropLast, sizeLine_eq]
        simp only [List.length_cons, List.length_nil] at hsz ⊢
        omega
      · have s5 : Same (upd H2 c (.lst (((k :: r).dropLast).map V.str))) (upd (upd H2 c (.lst (((k :: r).dropLast).map V.str))) t (.tup (((k :: r).dropLast).map V.str ++ [v]))) := same_new ht
        refine q _ _ (.tup (SqT.of upd_same) ?_) ((s3.trans s4).trans s5)
        exact dpAll_snoc (dpAll_strs _) (dp_same s5 _ v hv)
    | false =>
      rw [ek, if_neg Bool.false_ne_true] at q
      refine ⟨_, rfl, p, _, rfl, .inl ⟨hL2, fun t ht => ?_⟩⟩
      exact q _ _ (.tup (SqT.of upd_same) (dpAll_strs _)) (s3.new ht)
theorem ok_readDeed (T : Txt K mg) : DefOk P w K mg base CX0 3 "read_deed" ["line"] (spRead K readDeedZ) := by
  have D_read_plain : DefOk P w K mg base CX0 2 "read_plain" ["line"] (spRead K fun z => readPlainW (wordsZ z)) := ok_readPlain T
  refine mkDef T.d_ReadDeed T.g_read_deed scReadDeed (fun _ _ _ _ _ _ us hl => match us, hl with | [_], _ => rfl) (fun vs H Q E h => ?_) (fun cdv A outer s H vs Q E hr h => ?_)
  · obtain ⟨z, rfl, _⟩ := h
    rfl
  · obtain ⟨z, rfl, hz, q⟩ := h
    refine ⟨_, pss_cons (ps_asg (pe_partition (pv 0) pe_str) (pg_tup rfl (pgs_cons (pg_name (i := 1) scReadDeed.nd rfl (by first | exact Or.inl rfl | exact Or.inr rfl)) (pgs_cons (pg_name (i := 2) scReadDeed.nd rfl (by first | exact Or.inl rfl | exact Or.inr rfl)) (pgs_cons (pg_name (i := 3) scReadDeed.nd rfl (by first | exact Or.inl rfl | exact Or.inr rfl)) pgs_nil))))) (
      pss_cons (ps_if (pt_not (pt_truth (pv 2) (by intro _; rfl))) (pss_one (ps_ret (pe_def D_read_plain (hr.mono (by first | decide | exact Nat.le_refl _)) (by rfl) pass0 (pa_cons (pv 0) pa_nil)))) pss_nil) (
      pss_cons (ps_set (i := 4) scReadDeed.nd rfl (by first | exact Or.inl rfl | exact Or.inr rfl) (pe_split (pv 1) pe_str)) (
      pss_cons (ps_if (pt_cmpR op_ne (pe_callB call_len (by rfl) T.b_len (by decide +kernel) (pa_cons (pv 4) pa_nil)) pe_int (nomark _)) (pss_one (ps_ret pe_non)) pss_nil) (
      pss_cons (ps_asg (pv 4) (pg_unl rfl (pgs_cons (pg_name (i := 5) scReadDeed.nd rfl (by first | exact Or.inl rfl | exact Or.inr rfl)) (pgs_cons (pg_name (i := 6) scReadDeed.nd rfl (by first | exact Or.inl rfl | exact Or.inr rfl)) (pgs_cons (pg_name (i := 7) scReadDeed.nd rfl (by first | exact Or.inl rfl | exact Or.inr rfl)) pgs_nil))))) (
      pss_one (ps_ret (pe_tup (pa_cons (pv 5) (pa_cons (pv 6) (pa_cons (pe_ifExp (pt_cmpR op_eq (pv 7) pe_str (nomark _)) pe_non (pv 7)) (pa_cons (pe_def D_read_plain (hr.mono (by first | decide | exact Nat.le_refl _)) (by rfl) pass0 (pa_cons (pv 3) pa_nil)) pa_nil))))))))))), ?_⟩
    unfold readDeedZ readDeedW at q
    refine ⟨_, rfl, ⟨_, rfl⟩, z, cColon, rfl, rfl, by decide, hz.line, fun p hp => ?_⟩
    have s1 : Same H (upd H p (.tup [.str (Txt.partition z cColon).1, .str (Txt.partition z cColon).2.1, .str (Txt.partition z cColon).2.2])) := same_new hp
    refine ⟨p, _, rfl, SqT.of upd_same, rfl, _, _, rfl, _, _, rfl, _, _, rfl, rfl, ?_⟩
    revert s1
    generalize upd H p (.tup [.str (Txt.partition z cColon).1, .str (Txt.partition z cColon).2.1, .str (Txt.partition z cColon).2.2]) = H1
    intro s1
    cases hw : parW ((wordsZ z).map tl) with
    | none =>
      rw [hw] at q
      rw [part_none hw]
      refine ⟨_, rfl, false, ⟨Nat.zero_le _, rfl⟩, ?_⟩
      exact ⟨_, rfl, z, rfl, hz, fun H2 v hv s2 => q H2 v hv (s1.trans s2)⟩
    | some ab =>
      obtain ⟨a, b⟩ := ab
      rw [hw] at q
      obtain ⟨hz2, r, ep, wa, wb, ia, ib⟩ := part_some hw
      rw [ep]
      refine ⟨_, rfl, true, ⟨by show cColon.length ≤ sizeLine; decide, rfl⟩, ?_⟩
      have hh := hz.sub ia
      have hr2 := hz.sub ib
      have fh := hh.few
      have q : ∀ H' v, Dp K H' v (match a.map mk with | [x, y, c] => PyData.tuple [.str x, .str y, whatD c, readPlainW (b.map mk)] | _ => .none) → Same H H' → Q v H' := q
      rw [← wb] at q
      refine ⟨_, rfl, ⟨_, rfl⟩, hz2, cBlank, rfl, rfl, by decide, by rw [sizeLine_eq]; omega, fun p2 hp2 => ?_⟩
      have wa2 : Txt.split hz2 cBlank = a.map mk := wa
      rw [wa2]
      have s2 := s1.new hp2 (o := .lst ((a.map mk).map V.str))
      have hL : SqL K (upd H1 p2 (.lst ((a.map mk).map V.str))) p2 ((a.map mk).map V.str) := SqL.of upd_same
      revert q s2 hL
      generalize a.map mk = ws
      generalize upd H1 p2 (.lst (ws.map V.str)) = H2
      intro q s2 hL
      refine ⟨_, rfl, .ref p2, ws.length, rfl, .inl ⟨_, hL, by rw [List.length_map]⟩, rfl, !decide (V.int (ws.length : Int) = V.int 3), rfl, ?_⟩
      rw [V_int_dec]
      by_cases h3 : ws.length = 3
      · rw [decide_eq_true (show (ws.length : Int) = 3 by omega)]
        obtain ⟨x, y, c, rfl⟩ : ∃ x y c, ws = [x, y, c] := by
          match ws, h3 with
          | [x, y, c], _ => exact ⟨x, y, c, rfl⟩
        refine ⟨_, rfl, p2, _, rfl, hL, rfl, _, _, rfl, _, _, rfl, _, _, rfl, rfl, ?_⟩
        have fin : ∀ v, Dp K H2 v (whatD c) → ∀ u H3, Dp K H3 u (readPlainW (wordsZ r)) → Same H2 H3 → (4 ≤ sizeLine ∧ ∀ t, H3 t = none → Q (.ref t) (upd H3 t (.tup [.str x, .str y, v, u]))) := by
          intro v hv u H3 hu s3
          refine ⟨by decide, fun t ht => ?_⟩
          have s4 : Same H3 (upd H3 t (.tup [.str x, .str y, v, u])) := same_new ht
          exact q _ _ (.tup (SqT.of upd_same) (.cons (.str x) (.cons (.str y) (.cons (dp_same (s3.trans s4) _ v hv) (.cons (dp_same s4 _ u hu) .nil))))) ((s2.trans s3).trans s4)
        refine ⟨_, rfl, _, rfl, _, rfl, rfl, decide (V.str c = V.str kDot), rfl, ?_⟩
        rw [V_str_dec]
        by_cases hc : c = kDot
        · rw [decide_eq_true hc]
          exact ⟨_, rfl, r, rfl, hr2, fun H3 u hu s3 => fin .non (by rw [whatD, if_pos hc]; exact .non) u H3 hu s3⟩
        · rw [decide_eq_false hc]
          exact ⟨_, rfl, _, rfl, r, rfl, hr2, fun H3 u hu s3 => fin (.str c) (by rw [whatD, if_neg hc]; exact .str c) u H3 hu s3⟩
      · rw [decide_eq_false (show ¬ (ws.length : Int) = 3 by omega)]
        refine q H2 .non ?_ s2
        match ws, h3 with
        | [], _ => exact .non
        | [_], _ => exact .non
        | [_, _], _ => exact .non
        | [_, _, _], h3 => exact absurd rfl h3
        | _ :: _ :: _ :: _ :: _, _ => exact .non
end
end RL

-- part W9
set_option Elab.async false
set_option linter.all false
set_option maxRecDepth 100000
set_option maxHeartbeats 4000000
/-! The walks: a plan is made, a text is read, what is told of it. -/
namespace RL
open PySem PySem.Spec PyProof.Rows L2 TL
theorem canLay_ascii {z : Str} (h : Ascii (tl z)) : PyData.canLay0 (.str z) = true := by
  show z.cps.all (fun c => decide (c < 1114112)) = true
  rw [Array.all_eq_true']
  intro c hc
  have := h c (by show c ∈ z.cps.toList; exact Array.mem_toList_iff.mpr hc)
  exact decide_eq_true (by omega)
theorem ZOk.dep {z : Str} (h : ZOk z) (j : Nat) : depOk j (.str z) = true := by
  have e : depOk j (.str z) = (PyData.canLay0 (.str z) && decide (z.length ≤ 1000000)) := by cases j <;> rfl
  have := h.few
  rw [e, canLay_ascii h.ascii, decide_eq_true (by omega)]
  rfl
theorem depAll_of {j : Nat} : ∀ {ds : List PD}, (∀ d ∈ ds, depOk j d = true) → depAll (j + 1) ds = true
  | [], _ => rfl
  | d :: ds, h => by
    show (depOk j d && depAll (j + 1) ds) = true
    rw [h d (by simp), depAll_of fun e he => h e (by simp [he])]
    rfl
theorem dep_tup {j : Nat} {ds : List PD} (h : ∀ d ∈ ds, depOk j d = true) (l : ds.length ≤ 1000000) : depOk (j + 1) (.tuple ds) = true := by
  show (decide (ds.length ≤ 1000000) && depAll (j + 1) ds) = true
  rw [decide_eq_true l, depAll_of h]
  rfl
theorem dep_lst {j : Nat} {ds : List PD} (h : ∀ d ∈ ds, depOk j d = true) (l : ds.length ≤ 1000000) : depOk (j + 1) (.list ds) = true := by
  show (decide (ds.length ≤ 1000000) && depAll (j + 1) ds) = true
  rw [decide_eq_true l, depAll_of h]
  rfl
theorem dep_num (j : Nat) (z : Str) : depOk j (numD z) = true := by
  unfold numD
  split <;> (cases j <;> rfl)
theorem dep_plain {z : Str} (h : ZOk z) : depOk 1 (readPlainW (wordsZ z)) = true := by
  have hl := words_len z
  have hf := h.few
  have hw : ∀ u ∈ wordsZ z, ZOk u := fun u hu => h.word hu
  revert hl hw
  generalize wordsZ z = ws
  intro hl hw
  cases ws with
  | nil => rfl
  | cons k r =>
    rw [readPlainW_cons]
    split
    · refine dep_tup (fun d hd => ?_) ?_
      · rcases List.mem_append.mp hd with hd | hd
        · obtain ⟨u, hu, rfl⟩ := List.mem_map.mp hd
          exact (hw u (List.dropLast_subset _ hu)).dep 0
        · rw [List.mem_singleton.mp hd]
          exact dep_num 0 _
      · rw [List.length_append, List.length_map, List.length_dropLast]
        simp only [List.length_cons, List.length_nil] at hl ⊢
        omega
    · refine dep_tup (fun d hd => ?_) ?_
      · obtain ⟨u, hu, rfl⟩ := List.mem_map.mp hd
        exact (hw u hu).dep 0
      · rw [List.length_map]
        simp only [List.length_cons] at hl ⊢
        omega
theorem dep_up1 {d : PD} (h : depOk 1 d = true) : depOk 2 d = true := by
  have up : ∀ e : PD, depOk 0 e = true → depOk 1 e = true := by
    intro e he
    cases e with
    | str z => exact he
    | list ds =>
      have := depOk_items (.inl rfl) he
      have e2 := depAll_zero this.1
      subst e2
      rfl
    | tuple ds =>
      have := depOk_items (.inr rfl) he
      have e2 := depAll_zero this.1
      subst e2
      rfl
    | dict _ => cases he
    | _ => rfl
  have alls : ∀ ds : List PD, depAll 1 ds = true → depAll 2 ds = true := fun ds hd => depAll_of fun e he => by
    obtain ⟨i, hi, ei⟩ := List.getElem_of_mem he
    exact up e (depAll_get (i := i) hd (by rw [List.getElem?_eq_getElem hi, ei]))
  cases d with
  | str z => exact h
  | list ds =>
    have := depOk_items (.inl rfl) h
    show (decide (ds.length ≤ 1000000) && depAll 2 ds) = true
    rw [decide_eq_true this.2, alls ds this.1]
    rfl
  | tuple ds =>
    have := depOk_items (.inr rfl) h
    show (decide (ds.length ≤ 1000000) && depAll 2 ds) = true
    rw [decide_eq_true this.2, alls ds this.1]
    rfl
  | dict _ => cases h
  | _ => rfl
theorem dep_deed {z : Str} (h : ZOk z) : depOk 2 (readDeedZ z) = true := by
  unfold readDeedZ readDeedW
  cases hw : parW ((wordsZ z).map tl) with
  | none => exact dep_up1 (dep_plain h)
  | some ab =>
    obtain ⟨a, b⟩ := ab
    obtain ⟨p, r, ep, wa, wb, ia, ib⟩ := part_some hw
    have h1 := h.sub ia
    have h2 := h.sub ib
    show depOk 2 (match a.map mk with | [x, y, c] => PyData.tuple [.str x, .str y, whatD c, readPlainW (b.map mk)] | _ => .none) = true
    rw [← wb]
    have hw1 : ∀ u ∈ wordsZ p, ZOk u := fun u hu => h1.word hu
    rw [wa] at hw1
    revert hw1
    generalize a.map mk = ws
    intro hw1
    match ws, hw1 with
    | [], _ => rfl
    | [_], _ => rfl
    | [_, _], _ => rfl
    | [x, y, c], hw1 =>
      refine dep_tup (fun d hd => ?_) (by show 4 ≤ 1000000; decide)
      have hc : depOk 1 (whatD c) = true := by
        unfold whatD
        split
        · rfl
        · exact (hw1 c (by simp)).dep 1
      simp only [List.mem_cons, List.not_mem_nil, or_false] at hd
      rcases hd with rfl | rfl | rfl | rfl
      · exact (hw1 x (by simp)).dep 1
      · exact (hw1 y (by simp)).dep 1
      · exact hc
      · exact dep_plain h2
    | _ :: _ :: _ :: _ :: _, _ => rfl
theorem walk_enumT {K : PySem.W.Frag} {a : Addr} {xs : List V} : Walk (ItE K a) xs.length (fun H => SqT K H a xs) (YPair (fun i => some (.int (i : Nat))) (fun i => xs[i]?)) := by
  refine ⟨fun i _ hi q => ⟨xs, xs[i], q, by simp [hi]⟩, fun _ q => ⟨xs, q, rfl⟩, fun i H v H' _ q y => ?_⟩
  obtain ⟨T, x, h1, h2, h3, h4⟩ := y
  exact ⟨T, .int (i : Nat), x, h1, h2, h3, rfl, h4 xs q⟩
/-- a page within bounds -/
abbrev PgOk (z : Str) : Prop := PageOk 640 100000 z
theorem PgOk.zline {z p : Str} (h : PgOk z) (hp : p ∈ linesZ z) : ZOk p := by
  obtain ⟨a, b, c⟩ := h.line hp
  exact ⟨a, b⟩
theorem PgOk.size {z : Str} (h : PgOk z) : z.length ≤ 100000 := by
  rw [len_tl]
  exact h.few
theorem PgOk.lines {z : Str} (h : PgOk z) : (linesZ z).length ≤ 100001 := by
  have := lines_len z
  have := h.size
  omega
theorem dep_told {z : Str} (h : PgOk z) : depOk 3 (toldZ z) = true := by
  unfold toldZ
  split
  · rfl
  · unfold toldL
    split
    · rfl
    · split
      · refine dep_tup (fun d hd => ?_) ?_
        · obtain ⟨p, hp, rfl⟩ := List.mem_map.mp hd
          exact dep_deed (h.zline hp)
        · omega
      · rfl
section
variable {P : Program} {w : World} {K : PySem.W.Frag} {mg : Str → Option Value} {base : Heap}
/-- an error's maker -/
def spErr (K : PySem.W.Frag) (C : Addr) (n : Str) : Sp := fun vs H Q _ => ∃ (a : Addr) (v : V), vs = [.ref a, v] ∧ H a = some (exo a C none) ∧ ∀ dx, H dx = none → dx ≠ a → Q .non (upd (upd H dx (exd dx [(n, v)])) a (exo a C (some dx)))
theorem ok_noDeed (T : Txt K mg) : ∃ fd, Binds K fd ["self", "index"] [] ∧ FnOk P w K mg base CX0 1 (He.ma K (He.ga K "NoDeed") "__init__") fd ["self", "index"] (spErr K (He.ga K "NoDeed") "index") := by
  obtain ⟨fd, F⟩ := T.d_NoDeedInit
  refine ⟨fd, F.bindsN fun _ _ _ _ _ _ us hl => match us, hl with | [_, _], _ => rfl, F.ok scNoDeedInit (fun vs H Q E h => ?_) fun cdv A outer s H vs Q E hr h => ?_⟩
  · obtain ⟨a, v, rfl, _⟩ := h
    rfl
  · obtain ⟨a, v, rfl, ha, q⟩ := h
    refine ⟨_, pss_one (ps_ost (pv 0) (pv 1)), ?_⟩
    exact ⟨_, rfl, _, rfl, a, He.ga K "NoDeed", rfl, T.eDeed.oex, T.eDeed.no, .inl ⟨ha, fun dx hn hne => q dx hn hne⟩⟩
theorem ok_noText (T : Txt K mg) : ∃ fd, Binds K fd ["self", "line"] [] ∧ FnOk P w K mg base CX0 1 (He.ma K (He.ga K "NoText") "__init__") fd ["self", "line"] (spErr K (He.ga K "NoText") "line") := by
  obtain ⟨fd, F⟩ := T.d_NoTextInit
  refine ⟨fd, F.bindsN fun _ _ _ _ _ _ us hl => match us, hl with | [_, _], _ => rfl, F.ok scNoTextInit (fun vs H Q E h => ?_) fun cdv A outer s H vs Q E hr h => ?_⟩
  · obtain ⟨a, v, rfl, _⟩ := h
    rfl
  · obtain ⟨a, v, rfl, ha, q⟩ := h
    refine ⟨_, pss_one (ps_ost (pv 0) (pv 1)), ?_⟩
    exact ⟨_, rfl, _, rfl, a, He.ga K "NoText", rfl, T.eText.oex, T.eText.no, .inl ⟨ha, fun dx hn hne => q dx hn hne⟩⟩
/-- a plan is made of such deeds -/
def spInit (K : PySem.W.Frag) : Sp := fun vs H Q _ => ∃ (a dx : Addr) (u : V) (ds : List PD), vs = [.ref a, u] ∧ H a = some (.ins (He.ga K "Plan") dx []) ∧ Dp K H u (.tuple ds) ∧ (∀ d ∈ ds, deedD d = true ∧ depOk 2 d = true) ∧ ds.length ≤ 12 ∧
  ∀ H', Same H H' → Q .non (upd H' a (.ins (He.ga K "Plan") dx [("kept", u)]))
theorem ok_init (T : Txt K mg) : ∃ fd, FunD K "__init__" "Plan.__init__" (defArgs sPlanInit) (defBody sPlanInit) (defScope sPlanInit) [.ref (dfA K)] [] (He.ma K (He.ga K "Plan") "__init__") fd ∧
    FnOk P w K mg base CX0 5 (He.ma K (He.ga K "Plan") "__init__") fd ["self", "deeds"] (spInit K) := by
  obtain ⟨t1, gMOST⟩ := T.i_MOST_DEEDS
  have D_is_deed : DefOk P w K mg base CX0 4 "is_deed" ["thing"] (spD K deedD) := ok_isdeed T
  obtain ⟨fd, F⟩ := T.d_PlanInit
  refine ⟨fd, F, F.ok scPlanInit (fun vs H Q E h => ?_) fun cdv A outer s H vs Q E hr h => ?_⟩
  · obtain ⟨a, dx, u, ds, rfl, _⟩ := h
    rfl
  · obtain ⟨a, dx, u, ds, rfl, ha, hu, hds, hl, q⟩ := h
    suffices h : ∃ t, PSs (cxOf CX0 P w K mg base nPlanInit "Plan.__init__" (defScope sPlanInit) (He.ma K (He.ga K "Plan") "__init__") cdv A outer s H E).nox (defBody sPlanInit) t ∧ t { nx := fun _ H' => Q .non H', rt := Q } (start nPlanInit [.ref a, u]) H by
      obtain ⟨t, h1, h2⟩ := h
      exact ⟨t, h1.nox, h2⟩
    refine ⟨_, pss_cons (ps_if (pt_not (pt_val (pe_callB call_isi (by rfl) T.b_isinstance (by decide +kernel) (pa_cons (pv 1) (pa_cons (pe_bltn (v := .ty "tuple") (by rfl) T.b_tuple (by decide +kernel) rfl) pa_nil))))) pss_never pss_nil) (
      pss_cons (ps_for PassesOwn.never rfl (pi_enumT (by rfl) T.b_enumerate (pa_cons (pv 1) pa_nil)) (pg_tup rfl (pgs_cons (pg_name (i := 2) scPlanInit.nd rfl (by first | exact Or.inl rfl | exact Or.inr rfl)) (pgs_cons (pg_name (i := 3) scPlanInit.nd rfl (by first | exact Or.inl rfl | exact Or.inr rfl)) pgs_nil))) (pss_one (ps_if (PW.pt (pw_or (pt_cmpR op_ge (pv 2) (pe_glob (v := .int 12) (by rfl) gMOST ⟨_, rfl⟩) (nomark _)) (pw_or1 (pt_not (pt_val (pe_def D_is_deed (hr.mono (by first | decide | exact Nat.le_refl _)) (by rfl) pass0 (pa_cons (pv 3) pa_nil))))))) pss_never pss_nil))) (
      pss_one (ps_fld (pv 0) (pv 1) rfl))), ?_⟩
    cases id hu with
    | @tup b xs _ hb hall =>
      have hlen := dpAll_len hall
      refine ⟨_, rfl, _, .ty "tuple", _, _, true, rfl, .ty _, tyX_D hu, kit_D _ (.inl rfl), true, rfl, ?_⟩
      refine ⟨_, rfl, b, xs, rfl, hb, ?_⟩
      refine for_it (walk_enumT (xs := xs)) (fun i σ H' => (∃ v2 v3, σ = [some (.ref a), some (.ref b), v2, v3]) ∧ Same H H') ⟨⟨none, none, rfl⟩, Same.refl H⟩ (fun i σ H' _ h => seqT_same h.2 hb) ?_ ?_
      · rintro i x σ H1 H2 hi ⟨⟨v2, v3, rfl⟩, s1⟩ ⟨Tt, x1, y, rfl, hT, rfl, e1, hy⟩
        obtain rfl : x1 = .int (i : Nat) := (Option.some.inj e1).symm
        have s2 : Same H (upd H1 Tt (.tup [.int (i : Nat), y])) := s1.new hT
        refine ⟨Tt, _, rfl, SqT.of upd_same, rfl, _, _, rfl, _, _, rfl, rfl, ?_⟩
        obtain ⟨d, hd⟩ : ∃ d, ds[i]? = some d := ⟨ds[i]'(by omega), List.getElem?_eq_getElem _⟩
        obtain ⟨y2, hy2, dy⟩ := dpAll_get (dpAll_same s2 ds xs hall) hd
        have ey : y = y2 := Option.some.inj (hy.symm.trans hy2)
        subst ey
        obtain ⟨g1, g2⟩ := hds d (List.mem_of_getElem? hd)
        revert s2 dy
        generalize upd H1 Tt (.tup [.int (i : Nat), y]) = H3
        intro s2 dy
        refine ⟨_, rfl, _, _, rfl, rfl, decide ((12 : Int) ≤ (i : Nat)), rfl, ?_⟩
        rw [decide_eq_false (by omega)]
        refine ⟨_, rfl, y, d, 2, rfl, dy, g2, by decide, fun H4 s4 => ⟨deedD d, rfl, ?_⟩⟩
        rw [g1]
        exact ⟨⟨_, _, rfl⟩, s2.trans s4⟩
      · rintro σ H' ⟨⟨v2, v3, rfl⟩, s1⟩
        exact ⟨_, rfl, _, rfl, a, _, dx, [], rfl, s1 _ _ ha, T.planC, T.planKept, by decide, q H' s1⟩
/-- its deeds -/
def spDeedsOf (K : PySem.W.Frag) : Sp := fun vs H Q _ => ∃ (a dx : Addr) (u : V), vs = [.ref a] ∧ H a = some (.ins (He.ga K "Plan") dx [("kept", u)]) ∧ Q u H
theorem ok_deedsOf (T : Txt K mg) : ∃ fd, Binds K fd ["self"] [] ∧ FnOk P w K mg base CX0 1 (He.ma K (He.ga K "Plan") "deeds") fd ["self"] (spDeedsOf K) := by
  obtain ⟨fd, F⟩ := T.d_PlanDeeds
  refine ⟨fd, F.bindsN fun _ _ _ _ _ _ us hl => match us, hl with | [_], _ => rfl, F.ok scPlanDeeds (fun vs H Q E h => ?_) fun cdv A outer s H vs Q E hr h => ?_⟩
  · obtain ⟨a, dx, u, rfl, _⟩ := h
    rfl
  · obtain ⟨a, dx, u, rfl, ha, q⟩ := h
    refine ⟨_, pss_one (ps_ret (pe_fld (pv 0) rfl)), ?_⟩
    exact ⟨_, rfl, a, _, dx, _, u, rfl, ha, T.planC, T.planKept, rfl, q⟩
end
end RL

-- part W10
set_option Elab.async false
set_option linter.all false
set_option maxRecDepth 100000
set_option maxHeartbeats 4000000
/-! The walks: a text is read, what is told of it. -/
namespace RL
open PySem PySem.Spec PyProof.Rows L2 TL
theorem noL_strs (ws : List Str) : (ws.map PyData.str).all noL = true := List.all_eq_true.mpr fun d hd => by
  obtain ⟨u, _, rfl⟩ := List.mem_map.mp hd
  rfl
theorem noL_num (z : Str) : noL (numD z) = true := by
  unfold numD
  split <;> rfl
theorem noL_plainW (ws : List Str) : noL (readPlainW ws) = true := by
  cases ws with
  | nil => rfl
  | cons k r =>
    rw [readPlainW_cons]
    split
    · rw [noL_tup, List.all_append, noL_strs, Bool.true_and]
      show (noL (numD _) && true) = true
      rw [noL_num]
      rfl
    · rw [noL_tup]
      exact noL_strs (k :: r)
theorem noL_what (c : Str) : noL (whatD c) = true := by
  unfold whatD
  split <;> rfl
theorem noL_read (z : Str) : noL (readDeedZ z) = true := by
  unfold readDeedZ readDeedW
  cases hw : parW ((wordsZ z).map tl) with
  | none => exact noL_plainW _
  | some ab =>
    obtain ⟨a, b⟩ := ab
    show noL (match a.map mk with | [x, y, c] => PyData.tuple [.str x, .str y, whatD c, readPlainW (b.map mk)] | _ => .none) = true
    generalize a.map mk = ws
    match ws with
    | [] => rfl
    | [_] => rfl
    | [_, _] => rfl
    | [x, y, c] =>
      show noL (PyData.tuple [.str x, .str y, whatD c, readPlainW (b.map mk)]) = true
      rw [noL_tup]
      show (true && (true && (noL (whatD c) && (noL (readPlainW (b.map mk)) && true)))) = true
      rw [noL_what, noL_plainW]
      rfl
    | _ :: _ :: _ :: _ :: _ => rfl
theorem told_bad : ∀ {ds : List PD} {i : Nat} {d : PD}, (∀ k e, k < i → ds[k]? = some e → deedD e = true) → ds[i]? = some d → deedD d = false → ds.findIdx? (fun d => !deedD d) = some i
  | [], i, d, _, h, _ => by simp at h
  | a :: ds, 0, d, _, h, hb => by
    have e : a = d := Option.some.inj h
    subst e
    rw [List.findIdx?_cons, hb]
    rfl
  | a :: ds, i + 1, d, hk, h, hb => by
    have h0 : deedD a = true := hk 0 a (by omega) rfl
    rw [List.findIdx?_cons, h0, told_bad (i := i) (d := d) (fun k e hki hke => hk (k + 1) e (by omega) (by simpa using hke)) (by simpa using h) hb]
    rfl
theorem raised {K : PySem.W.Frag} {C : Addr} {n : Str} {v : V} {H : Hp} {Q E : XK} (q : ∀ dd H', H' dd = some (.xd [(n, v)]) → Same H H' → Q (.ref C) (some dd) H') :
    ∀ a, H a = none → spErr K C n (.ref a :: ([v] ++ [])) (upd H a (exo a C none)) (fun u H2 => u = .non ∧ ∃ (d : Addr) (fs : List (Str × V)), H2 a = some (exo a C (some d)) ∧ H2 d = some (exd d fs) ∧ H d = none ∧ Q (.ref C) (some d) (upd (del H2 a) d (.xd fs))) E := fun a ha => by
  refine ⟨a, v, rfl, upd_same, fun dx hn hne => ⟨rfl, dx, [(n, v)], upd_same, (upd_ne hne).trans upd_same, by rwa [upd_ne hne] at hn, q dx _ upd_same fun b o hb => ?_⟩⟩
  rw [upd_ne hne] at hn
  have ba : b ≠ a := ne_of_none hb ha
  have bd : b ≠ dx := ne_of_none hb hn
  rw [upd_ne bd, del_ne ba, upd_ne ba, upd_ne bd, upd_ne ba]
  exact hb
theorem made_same {H H' : Hp} {x dx : Addr} {o1 o2 o3 : HO} (hx : H x = none) (hdx : H dx = none) (s : Same (upd (upd H dx o1) x o2) H') : Same H (upd H' x o3) := fun b o hb => by
  have bx : b ≠ x := ne_of_none hb hx
  rw [upd_ne bx]
  exact s b o (by rw [upd_ne bx, upd_ne (ne_of_none hb hdx)]; exact hb)
/-- what is read, and what is due of it -/
def Asks (K : PySem.W.Frag) (H : Hp) (v : V) (o : PD) : Prop := (∃ z, v = .str z ∧ PgOk z ∧ o = toldZ z) ∨ (o = .int 0 ∧ ∃ c, (∀ H', Same H H' → TyX K H' v c) ∧ PySem.W.kitOne K c (.type "str") = some false)
theorem Asks.same {K : PySem.W.Frag} {H : Hp} {z : Str} {o : PD} (h : Asks K H (.str z) o) : PgOk z ∧ o = toldZ z := by
  rcases h with ⟨y, e, h1, h2⟩ | ⟨_, c, t, k⟩
  · cases e
    exact ⟨h1, h2⟩
  · cases t H (Same.refl H) with
    | base t =>
      cases t
      have h2 : PySem.W.kitOne K (.type "str") (.type "str") = some true := kit_D (.str "") (t := "str") (.inr (.inr (.inl rfl)))
      rw [h2] at k
      cases k
section
variable {P : Program} {w : World} {K : PySem.W.Frag} {mg : Str → Option Value} {base : Heap}
/-- read_plan -/
def spRP (K : PySem.W.Frag) : Sp := fun vs H Q E => ∃ (v : V) (o : PD), vs = [v] ∧ Asks K H v o ∧
  (∀ ds, o = .tuple ds → ∀ (a dx : Addr) (u : V) (H' : Hp), H' a = some (.ins (He.ga K "Plan") dx [("kept", u)]) → Dp K H' u (.tuple ds) → Same H H' → Q (.ref a) H') ∧
  (∀ n, o = .int n → ∀ (dd : Addr) (H' : Hp), H' dd = some (.xd [("line", .int n)]) → Same H H' → E (.ref (He.ga K "NoText")) (some dd) H') ∧
  (o = .list [.int 12] → ∀ (dd : Addr) (H' : Hp), H' dd = some (.xd [("index", .int 12)]) → Same H H' → E (.ref (He.ga K "NoDeed")) (some dd) H')
/-- a def that may raise, with its record -/
theorem mkFunX {x : Str} {st : Stmt} {f : Addr} {N ps : List Str} {k : Nat} {sp : Sp} (F : ∃ fd, FD K x st f fd) (S : FnScope N ps (defScope st)) (len : ∀ vs H Q E, sp vs H Q E → vs.length = ps.length)
    (body : ∀ (cdv : Value) (A : Around) (outer : List Env) (s : Shared) (H : Hp) (vs : List V) (Q : VK) (E : XK), Room k (A.deeper (envOfC x (defScope st) s.heap.objs.size f cdv)) → sp vs H Q E →
      ∃ t, PSs (cxOf (L2.CX P w) P w K mg base N x (defScope st) f cdv A outer s H E) (defBody st) t ∧ t { nx := fun _ H' => Q .non H', rt := Q } (start N vs) H) : ∃ fd, FD K x st f fd ∧ FnOk P w K mg base (L2.CX P w) (k + 1) f fd ps sp := by
  obtain ⟨fd, F⟩ := F
  exact ⟨fd, F, F.ok S len fun cdv A outer s H vs Q E hr h => body cdv A outer s H vs Q E hr h⟩
theorem ok_readPlanF (T : Txt K mg) : ∃ fd, FD K "read_plan" sReadPlan (He.ga K "read_plan") fd ∧ FnOk P w K mg base (L2.CX P w) 7 (He.ga K "read_plan") fd ["text"] (spRP K) := by
  obtain ⟨t1, gMOST⟩ := T.i_MOST_DEEDS
  have D_is_deed : DefOk P w K mg base CX0 4 "is_deed" ["thing"] (spD K deedD) := ok_isdeed T
  have D_read_deed : DefOk P w K mg base CX0 3 "read_deed" ["line"] (spRead K readDeedZ) := ok_readDeed T
  obtain ⟨fdD, b_NoDeed, F_NoDeed⟩ := ok_noDeed (P := P) (w := w) (base := base) T
  obtain ⟨fdT, b_NoText, F_NoText⟩ := ok_noText (P := P) (w := w) (base := base) T
  obtain ⟨fdP, FP, F_Plan⟩ := ok_init (P := P) (w := w) (base := base) T
  have b_Plan : Binds K fdP ["self", "deeds"] [] := by
    obtain ⟨ds2, v2, b2⟩ := FP.binds1 (ps := ["self", "deeds"]) 2 1 (by simp) rfl fun Tt kV doc pm an cdv ct us its hu hi => match us, its, hu, hi with
      | [_, _], [_], _, _ => ⟨_, rfl, rfl⟩
    cases v2
    exact b2
  obtain ⟨dsP, v_Plan0, b_Plan0⟩ := FP.binds1 (ps := ["self", "deeds"]) 1 0 (by simp) rfl fun Tt kV doc pm an cdv ct us its hu hi => match us, its, hu, hi with
    | [_], [_], _, _ => ⟨_, rfl, rfl⟩
  refine mkFunX T.d_ReadPlan scReadPlan (fun vs H Q E h => ?_) (fun cdv A outer s H vs Q E hr h => ?_)
  · obtain ⟨v, o, rfl, _⟩ := h
    rfl
  · obtain ⟨v, o, rfl, ask, qP, qT, qD⟩ := h
    refine ⟨_, pss_cons (ps_if (pt_not (pt_val (pe_callB call_isi (by rfl) T.b_isinstance (by decide +kernel) (pa_cons (pv 0) (pa_cons (pe_bltn (v := .ty "str") (by rfl) T.b_str (by decide +kernel) rfl) pa_nil))))) (pss_one (ps_raise rfl (takes_of rfl rfl rfl rfl) (pmk_oex T.eText.oex T.eText.ini T.eText.tyI F_NoText (hr.mono (by first | decide | exact Nat.le_refl _)) b_NoText .nil pass0 (by rfl) T.g_NoText (pa_cons pe_int pa_nil)))) pss_nil) (
      pss_cons (ps_if (pt_cmpR op_eq (pv 0) pe_str (nomark _)) (pss_one (ps_ret (pe_make0 T.planMk F_Plan (hr.mono (by first | decide | exact Nat.le_refl _)) (by rfl) T.g_Plan b_Plan0 v_Plan0 pass0))) pss_nil) (
      pss_cons (ps_setLc (i := 1) (own := [("line", 2)]) (g := gName 2) rfl scReadPlan.nd rfl rfl (sw_true rfl rfl rfl (by decide +kernel)) (pi_list (pe_split (pv 0) pe_str)) (blkOk_by (own := [("line", 2)]) (N := nReadPlan) (sc := defScope sReadPlan) (by decide +kernel)) (fun _ _ _ _ _ => pg_name (i := 2) scReadPlan.nd rfl (Or.inl rfl)) (fun _ _ _ _ _ => pts_nil) (fun _ _ _ _ _ => (pe_def D_read_deed (hr.mono (by first | decide | exact Nat.le_refl _)) (by rfl) pass0 (pa_cons (pv 2) pa_nil)))) (
      pss_cons (ps_for (passes_of rfl) rfl (pi_enum (by rfl) T.b_enumerate (pa_cons (pv 1) pa_nil)) (pg_tup rfl (pgs_cons (pg_name (i := 2) scReadPlan.nd rfl (by first | exact Or.inl rfl | exact Or.inr rfl)) (pgs_cons (pg_name (i := 3) scReadPlan.nd rfl (by first | exact Or.inl rfl | exact Or.inr rfl)) pgs_nil))) (pss_one (ps_if (pt_not (pt_val (pe_def D_is_deed (hr.mono (by first | decide | exact Nat.le_refl _)) (by rfl) pass0 (pa_cons (pv 3) pa_nil)))) (pss_one (ps_raise rfl (takes_of rfl rfl rfl rfl) (pmk_oex T.eText.oex T.eText.ini T.eText.tyI F_NoText (hr.mono (by first | decide | exact Nat.le_refl _)) b_NoText .nil pass0 (by rfl) T.g_NoText (pa_cons (pv 2) pa_nil)))) pss_nil))) (
      pss_cons (ps_if (pt_cmpR op_gt (pe_callB call_len (by rfl) T.b_len (by decide +kernel) (pa_cons (pv 1) pa_nil)) (pe_glob (v := .int 12) (by rfl) gMOST ⟨_, rfl⟩) (nomark _)) (pss_one (ps_raise rfl (takes_of rfl rfl rfl rfl) (pmk_oex T.eDeed.oex T.eDeed.ini T.eDeed.tyI F_NoDeed (hr.mono (by first | decide | exact Nat.le_refl _)) b_NoDeed .nil pass0 (by rfl) T.g_NoDeed (pa_cons (pe_glob (v := .int 12) (by rfl) gMOST ⟨_, rfl⟩) pa_nil)))) pss_nil) (
      pss_one (ps_ret (pe_make T.planMk F_Plan (hr.mono (by first | decide | exact Nat.le_refl _)) (by rfl) T.g_Plan b_Plan .nil pass0 (pa_cons (pe_callTy call_tuple_of (by rfl) T.b_tuple (by decide +kernel) (pa_cons (pv 1) pa_nil)) pa_nil)))))))), ?_⟩
    rcases ask.symm with ⟨rfl, c, ty, kt⟩ | ⟨z, rfl, hz, rfl⟩
    · refine ⟨_, rfl, v, .ty "str", _, _, false, rfl, .ty _, ty H (Same.refl H), kt, false, rfl, ?_⟩
      exact ⟨by decide, raised (qT 0 rfl)⟩
    refine ⟨_, rfl, .str z, .ty "str", _, _, true, rfl, .ty _, tyX_D (.str z), kit_D (.str z) (.inr (.inr (.inl rfl))), true, rfl, ?_⟩
    refine ⟨_, rfl, rfl, decide (V.str z = V.str zNone), rfl, ?_⟩
    rw [V_str_dec]
    by_cases ez : z = zNone
    · rw [decide_eq_true ez]
      have et : toldZ z = .tuple [] := if_pos ez
      refine fun x dx hx hdx hne => ⟨x, dx, .ref (dfA K), [], rfl, upd_same, .tup (T.dflt.1 _) .nil, (fun d hd => by cases hd), by decide, fun H' s' => ⟨rfl, ?_⟩⟩
      exact qP [] et x dx _ _ upd_same (.tup (T.dflt.1 _) .nil) (made_same hx hdx s')
    · rw [decide_eq_false ez]
      have et : toldZ z = toldL ((linesZ z).map readDeedZ) := if_neg ez
      have hz1 := hz.size
      refine ⟨_, rfl, ⟨_, rfl⟩, z, cLine, rfl, rfl, by decide, by rw [sizeLine_eq]; omega, fun p hp => ⟨p, rfl, ?_⟩⟩
      have s1 : Same H (upd H p (.lst ((Txt.split z cLine).map V.str))) := same_new hp
      have hL : SqL K (upd H p (.lst ((Txt.split z cLine).map V.str))) p ((Txt.split z cLine).map V.str) := SqL.of upd_same
      have hlo : ∀ y ∈ Txt.split z cLine, ZOk y := fun y hy => hz.zline hy
      have hln : (Txt.split z cLine).length ≤ 100001 := hz.lines
      have et : toldZ z = toldL ((Txt.split z cLine).map readDeedZ) := et
      revert s1 hL hlo hln et
      generalize Txt.split z cLine = ls
      intro s1 hL hlo hln et
      revert s1 hL
      generalize upd H p (.lst (ls.map V.str)) = H1
      intro s1 hL
      refine ⟨⟨_, hL⟩, fun D hD => ?_⟩
      refine lc_list (K := K) (a := p) (xs := ls.map V.str) (fun i H2 => Same H1 H2 ∧ ∃ vs, H2 D = some (.lst vs) ∧ DpAll K H2 vs ((ls.take i).map readDeedZ)) ⟨same_new hD, [], upd_same, .nil⟩ (fun i H2 _ hv => hv.1.seq hL) (fun i x H2 hx hv => ?_) (fun H2 hv => ?_)
      · obtain ⟨s2, vs, e2, hd⟩ := hv
        obtain ⟨y, hy, rfl⟩ : ∃ y, ls[i]? = some y ∧ x = V.str y := by
          rw [List.getElem?_map] at hx
          cases e : ls[i]? with
          | none =>
            rw [e] at hx
            cases hx
          | some y =>
            rw [e] at hx
            exact ⟨y, rfl, (Option.some.inj hx).symm⟩
        have hi : i < ls.length := (List.getElem?_eq_some_iff.mp hy).1
        refine ⟨rfl, ?_⟩
        refine ⟨_, rfl, y, rfl, hlo y (List.mem_of_getElem? hy), fun H3 v hv s3 => ?_⟩
        have e3 := s3 _ _ e2
        have nl : ((ls.take i).map readDeedZ).all noL = true := List.all_eq_true.mpr fun d hd => by
          obtain ⟨u, _, rfl⟩ := List.mem_map.mp hd
          exact noL_read u
        have lv := dpAll_len hd
        rw [List.length_map] at lv
        have l2 := List.length_take_le i ls
        refine ⟨vs, e3, by rw [sizeLine_eq]; omega, (s2.trans s3).upd hD, vs ++ [v], upd_same, ?_⟩
        rw [take_snoc _ hy]
        exact dpAll_snoc (dpAll_upd e3 nl (dpAll_same s3 _ _ hd)) (dp_upd e3 (noL_read y) hv)
      · obtain ⟨s2, vs, e2, hd⟩ := hv
        rw [List.length_map, List.take_length] at hd
        have lv := dpAll_len hd
        rw [List.length_map] at lv
        have s3 := s1.trans s2
        have hS : SqL K H2 D vs := SqL.of e2
        have hdo : ∀ d ∈ ls.map readDeedZ, depOk 2 d = true := fun d hd => by
          obtain ⟨y, hy, rfl⟩ := List.mem_map.mp hd
          exact dep_deed (hlo y hy)
        revert et hd hdo lv
        rw [← List.length_map (f := readDeedZ)] 
        generalize ls.map readDeedZ = ds
        intro et hd lv hdo
        rw [et] at qP qT qD
        refine ⟨_, rfl, D, vs, rfl, hS, ?_⟩
        refine for_it (walk_enum (xs := vs)) (fun i σ H' => (∃ v2 v3, σ = [some (.str z), some (.ref D), v2, v3]) ∧ Same H2 H' ∧ ∀ k e, k < i → ds[k]? = some e → deedD e = true) ⟨⟨_, _, rfl⟩, Same.refl H2, fun k e hk => absurd hk (Nat.not_lt_zero _)⟩ (fun i σ H' _ h => h.2.1.seq hS) ?_ ?_
        · rintro i x σ H3 H4 hi ⟨⟨v2, v3, rfl⟩, s4, hk⟩ ⟨Tt, x1, y, rfl, hT, rfl, e1, hy⟩
          obtain rfl : x1 = .int (i : Nat) := (Option.some.inj e1).symm
          have s5 : Same H2 (upd H3 Tt (.tup [.int (i : Nat), y])) := s4.new hT
          refine ⟨Tt, _, rfl, SqT.of upd_same, rfl, _, _, rfl, _, _, rfl, rfl, ?_⟩
          obtain ⟨d, hdi⟩ : ∃ d, ds[i]? = some d := ⟨ds[i]'(by omega), List.getElem?_eq_getElem _⟩
          obtain ⟨y2, hy2, dy⟩ := dpAll_get (dpAll_same s5 ds vs hd) hdi
          have ey : y = y2 := Option.some.inj (hy.symm.trans hy2)
          subst ey
          have g2 := hdo d (List.mem_of_getElem? hdi)
          revert s5 dy
          generalize upd H3 Tt (.tup [.int (i : Nat), y]) = H5
          intro s5 dy
          refine ⟨_, rfl, y, d, 2, rfl, dy, g2, by decide, fun H6 s6 => ⟨deedD d, rfl, ?_⟩⟩
          cases eb : deedD d with
          | true =>
            refine ⟨⟨_, _, rfl⟩, s5.trans s6, fun k e hki hke => ?_⟩
            by_cases e0 : k = i
            · subst e0
              rw [hdi] at hke
              rw [← Option.some.inj hke]
              exact eb
            · exact hk k e (by omega) hke
          | false =>
            have e9 : toldL ds = .int (i : Nat) := by
              unfold toldL
              rw [told_bad hk hdi eb]
            exact ⟨_, rfl, by show 1 ≤ 1000; decide, raised fun dd H' hdd s' => qT _ e9 dd H' hdd ((s3.trans (s5.trans s6)).trans s')⟩
        · rintro σ H3 ⟨⟨v2, v3, rfl⟩, s4, hk⟩
          have good : ∀ d ∈ ds, deedD d = true := fun d hd2 => by
            obtain ⟨k, hk2, ek⟩ := List.getElem_of_mem hd2
            exact hk k d (by omega) (by rw [List.getElem?_eq_getElem hk2, ek])
          have et2 := toldL_good good
          have s5 := s3.trans s4
          refine ⟨_, rfl, .ref D, vs.length, rfl, .inl ⟨_, s4.seq hS, rfl⟩, _, _, rfl, rfl, decide ((12 : Int) < (vs.length : Nat)), rfl, ?_⟩
          by_cases h12 : ds.length ≤ 12
          · rw [if_pos h12] at et2
            rw [decide_eq_false (by omega)]
            refine ⟨_, rfl, D, vs, rfl, .inl ⟨s4.seq hS, fun t ht => ?_⟩⟩
            have s6 : Same H3 (upd H3 t (.tup vs)) := same_new ht
            have hu : Dp K (upd H3 t (.tup vs)) (.ref t) (.tuple ds) := .tup (SqT.of upd_same) (dpAll_same (s4.trans s6) ds vs hd)
            revert s6 hu
            generalize upd H3 t (.tup vs) = H4
            intro s6 hu
            refine fun x dx hx hdx hne => ⟨x, dx, .ref t, ds, rfl, upd_same, ?_, fun d hd2 => ⟨good d hd2, hdo d hd2⟩, h12, fun H' s' => ⟨rfl, ?_⟩⟩
            · exact dp_same ((same_new hdx).new (by rw [upd_ne (Ne.symm hne)]; exact hx)) _ _ hu
            · have s7 := made_same (o3 := .ins (He.ga K "Plan") dx [("kept", .ref t)]) hx hdx s'
              exact qP ds et2 x dx _ _ upd_same (dp_same s7 _ _ hu) ((s5.trans s6).trans s7)
          · rw [if_neg h12] at et2
            rw [decide_eq_true (by omega)]
            exact ⟨by decide, raised fun dd H' hdd s' => qD et2 dd H' hdd (s5.trans s')⟩
theorem ok_readPlan (T : Txt K mg) : DefOk P w K mg base (L2.CX P w) 7 "read_plan" ["text"] (spRP K) := by
  obtain ⟨fd, F, ok⟩ := ok_readPlanF (P := P) (w := w) (base := base) T
  exact ⟨_, fd, T.g_read_plan, F.kp, F.bindsN (fun _ _ _ _ _ _ us hl => match us, hl with | [_], _ => rfl), ok⟩
/-- what is told -/
def spTold (K : PySem.W.Frag) : Sp := fun vs H Q _ => ∃ (v : V) (o : PD), vs = [v] ∧ Asks K H v o ∧ ∀ H' u, Dp K H' u o → Same H H' → Q u H'
theorem ok_told (T : Txt K mg) : DefOk P w K mg base CX0 8 "_law_told" ["_law_thing_here"] (spTold K) := by
  obtain ⟨fR, fdR, gR, kR, bR, F_R⟩ := (ok_readPlan (P := P) (w := w) (base := base) T).ex
  obtain ⟨fdG, b_deeds, F_deeds⟩ := ok_deedsOf (P := P) (w := w) (base := base) T
  refine mkDef T.d_LTold T.g__law_told scLTold (fun _ _ _ _ _ _ us hl => match us, hl with | [_], _ => rfl) (fun vs H Q E h => ?_) (fun cdv A outer s H vs Q E hr h => ?_)
  · obtain ⟨v, o, rfl, _⟩ := h
    rfl
  · obtain ⟨v, o, rfl, ask, q⟩ := h
    have hr7 := hr
    refine ⟨_, pss_cons (ps_asg (pe_tup (pa_cons pe_non (pa_cons (pe_un un_neg pe_int) pa_nil))) (pg_tup rfl (pgs_cons (pg_name (i := 1) scLTold.nd rfl (by first | exact Or.inl rfl | exact Or.inr rfl)) (pgs_cons (pg_name (i := 2) scLTold.nd rfl (by first | exact Or.inl rfl | exact Or.inr rfl)) pgs_nil)))) (
      pss_cons (ps_try_two (n := "e") (i := 3) (tb := fun W => tAsg (tCallS (spRP K) (WE W) (tCons (tVar 0) tNil)) (gName 1)) (Wout := fun _ _ _ _ => False) (l := [(.ref (He.ga K "NoText"), fun a cls d => tAsg (tXf a cls d (He.ga K "NoText") "line" (tVar 3)) (gName 2)), (.ref (He.ga K "NoDeed"), fun a cls d => tAsg (tLst (tCons (tXf a cls d (He.ga K "NoDeed") "index" (tVar 3)) tNil)) (gName 2))]) rfl rfl scLTold.nd rfl rfl takes0 (fun W pn xe tk _ => pss_one (ps_set (i := 1) scLTold.nd rfl (by first | exact Or.inl rfl | exact Or.inr rfl) (by exact (pe_callS F_R hr7 (by rfl) gR kR bR (fun σ => passAt tk σ) (pa_cons (pv 0) pa_nil))))) (.cons ⟨rfl, by decide, Or.inl T.g_NoText⟩ (fun a oe cls d pn hz hf => pss_one (ps_set (i := 2) scLTold.nd rfl (by first | exact Or.inl rfl | exact Or.inr rfl) (by exact (pe_xf T.eText.xf T.eText.no hz hf (pv 3))))) (.cons ⟨rfl, by decide, Or.inl T.g_NoDeed⟩ (fun a oe cls d pn hz hf => pss_one (ps_set (i := 2) scLTold.nd rfl (by first | exact Or.inl rfl | exact Or.inr rfl) (by exact (pe_lst (pa_cons (pe_xf T.eDeed.xf T.eDeed.no hz hf (pv 3)) pa_nil))))) .nil))) (
      pss_cons (ps_if (pt_cmpR op_notN (pv 1) pe_non (nomark _)) (pss_one (ps_set (i := 2) scLTold.nd rfl (by first | exact Or.inl rfl | exact Or.inr rfl) (pe_meth0 (pv 1) T.planC T.planDeeds F_deeds (hr.mono (by first | decide | exact Nat.le_refl _)) b_deeds .nil pass0))) pss_nil) (
      pss_one (ps_ret (pv 2))))), ?_⟩
    have s0 : ∀ t, H t = none → Same H (upd H t (.tup [.non, .int (-1)])) := fun t ht => same_new ht
    refine ⟨1, rfl, by decide, fun t ht => ⟨t, _, rfl, SqT.of upd_same, rfl, _, _, rfl, _, _, rfl, rfl, ?_⟩⟩
    have s1 := s0 t ht
    have ask1 : Asks K (upd H t (.tup [.non, .int (-1)])) v o := by
      rcases ask with h | ⟨h1, c, ty, kt⟩
      · exact .inl h
      · exact .inr ⟨h1, c, fun H' s' => ty H' (s1.trans s'), kt⟩
    revert s1 ask1
    generalize upd H t (.tup [.non, .int (-1)]) = H1
    intro s1 ask1
    refine ⟨_, rfl, v, o, rfl, ask1, fun ds e a dx u H2 ha hu s2 => ?_, fun n e dd H2 hdd s2 => ?_, fun e dd H2 hdd s2 => ?_⟩
    · subst e
      refine ⟨_, rfl, rfl, !decide (V.ref a = V.non), rfl, ?_⟩
      rw [decide_eq_false (by intro z; cases z)]
      refine ⟨_, rfl, a, dx, _, rfl, ha, rfl, a, dx, u, rfl, ha, ⟨_, rfl, q H2 u hu (s1.trans s2)⟩⟩
    · subst e
      refine ⟨true, T.x_NoText_NoText, fun _ a ha => ?_, fun q => Bool.noConfusion q⟩
      refine ⟨_, rfl, rfl, rfl, dd, _, .int n, rfl, hdd, rfl, ?_⟩
      refine ⟨_, rfl, rfl, !decide (V.non = V.non), rfl, ?_⟩
      rw [decide_eq_true rfl]
      exact ⟨_, rfl, q H2 _ (.int n) (s1.trans s2)⟩
    · subst e
      refine ⟨false, T.x_NoDeed_NoText, fun q => Bool.noConfusion q, fun _ => ⟨true, T.x_NoDeed_NoDeed, fun _ a ha => ?_, fun q => Bool.noConfusion q⟩⟩
      refine ⟨_, rfl, rfl, rfl, dd, _, .int 12, rfl, hdd, rfl, by show 1 ≤ sizeLine; decide, fun t ht => ?_⟩
      refine ⟨_, rfl, rfl, !decide (V.non = V.non), rfl, ?_⟩
      rw [decide_eq_true rfl]
      exact ⟨_, rfl, q _ _ (.lst (SqL.of upd_same) (.cons (.int 12) .nil)) ((s1.trans s2).new ht)⟩
end
end RL

-- part W11
set_option Elab.async false
set_option linter.all false
set_option maxRecDepth 100000
set_option maxHeartbeats 4000000
/-! The walks: the law reads a text word by word. -/
namespace RL
open PySem PySem.Spec PyProof.Rows L2 TL
def kvS : List (Key × V) := [(.inr "peg", .int 3), (.inr "hang", .int 3), (.inr "fetch", .int 3), (.inr "take", .int 2), (.inr "look", .int 2), (.inr "walk", .int 3), (.inr "pull", .int 2)]
def kvL : List V := kvS.map fun kv => kV kv.1
theorem kvS_merge : mergeK [] kvS = kvS := by decide +kernel
inductive KindIs : Str → Int → Prop
  | three {k : Str} (h : isThree k = true) (h2 : isTwo k = false) (hp : k ≠ kPull) (hw : k ≠ kWalk) : KindIs k 3
  | two {k : Str} (h : isTwo k = true) (h2 : isThree k = false) (hp : k ≠ kPull) (hw : k ≠ kWalk) : KindIs k 2
  | walk : KindIs kWalk 3
  | pull : KindIs kPull 2
theorem kind_cases (k : Str) : (inV (.str k) kvL = false ∧ isThree k = false ∧ isTwo k = false ∧ k ≠ kWalk ∧ k ≠ kPull) ∨ (inV (.str k) kvL = true ∧ ∃ n, valV kvS (.inr k) = some (.int n) ∧ KindIs k n) := by
  by_cases e1 : k = kPeg
  · subst e1
    exact .inr ⟨by decide +kernel, 3, by decide +kernel, .three (by decide) (by decide) (by decide) (by decide)⟩
  by_cases e2 : k = kHang
  · subst e2
    exact .inr ⟨by decide +kernel, 3, by decide +kernel, .three (by decide) (by decide) (by decide) (by decide)⟩
  by_cases e3 : k = kFetch
  · subst e3
    exact .inr ⟨by decide +kernel, 3, by decide +kernel, .three (by decide) (by decide) (by decide) (by decide)⟩
  by_cases e4 : k = kTake
  · subst e4
    exact .inr ⟨by decide +kernel, 2, by decide +kernel, .two (by decide) (by decide) (by decide) (by decide)⟩
  by_cases e5 : k = kLook
  · subst e5
    exact .inr ⟨by decide +kernel, 2, by decide +kernel, .two (by decide) (by decide) (by decide) (by decide)⟩
  by_cases e6 : k = kWalk
  · subst e6
    exact .inr ⟨by decide +kernel, 3, by decide +kernel, .walk⟩
  by_cases e7 : k = kPull
  · subst e7
    exact .inr ⟨by decide +kernel, 2, by decide +kernel, .pull⟩
  refine .inl ⟨?_, ?_, ?_, e6, e7⟩
  · show (kPeg == k || (kHang == k || (kFetch == k || (kTake == k || (kLook == k || (kWalk == k || (kPull == k || false))))))) = false
    have n : ∀ a : Str, k ≠ a → (a == k) = false := fun a h => by simpa using Ne.symm h
    rw [n _ e1, n _ e2, n _ e3, n _ e4, n _ e5, n _ e6, n _ e7]
    rfl
  · simp [isThree, e1, e2, e3]
  · simp [isTwo, e4, e5]
theorem plainOf_nokind {k : Str} (h1 : isThree k = false) (h2 : isTwo k = false) (h3 : k ≠ kWalk) (h4 : k ≠ kPull) : ∀ r, plainOfW (k :: r) = none
  | [] => rfl
  | [a] => by
    rw [plainOfW_2, if_neg h4, h2, Bool.false_and, if_neg Bool.false_ne_true]
  | [a, b] => by
    rw [plainOfW_3, h1, if_neg Bool.false_ne_true, decide_eq_false h3, Bool.false_and, if_neg Bool.false_ne_true]
  | a :: b :: c :: r => plainOfW_4 k a b c r
theorem plainOf_size {k : Str} {n : Int} (h : KindIs k n) : ∀ r : List Str, ((k :: r).length : Int) ≠ n → plainOfW (k :: r) = none
  | [], _ => rfl
  | [a], l => by
    rw [plainOfW_2]
    cases h with
    | three h h2 hp hw => rw [if_neg hp, h2, Bool.false_and, if_neg Bool.false_ne_true]
    | two _ _ _ _ => exact absurd rfl l
    | walk => rw [if_neg (by decide), show isTwo kWalk = false by decide, Bool.false_and, if_neg Bool.false_ne_true]
    | pull => exact absurd rfl l
  | [a, b], l => by
    rw [plainOfW_3]
    cases h with
    | three _ _ _ _ => exact absurd rfl l
    | two h h2 hp hw => rw [h2, if_neg Bool.false_ne_true, decide_eq_false hw, Bool.false_and, if_neg Bool.false_ne_true]
    | walk => exact absurd rfl l
    | pull => rw [show isThree kPull = false by decide, if_neg Bool.false_ne_true, decide_eq_false (by decide), Bool.false_and, if_neg Bool.false_ne_true]
  | a :: b :: c :: r, _ => plainOfW_4 k a b c r
def optD : Option PD → PD
  | some d => d
  | none => .none
theorem hits_two {z : Str} (h : ZOk z) (m : Nat) : hits m z (2 * m + 1) = [] ∨ ∃ n, hits m z (2 * m + 1) = [n] := by
  rw [hits_eq h.ascii h.few m]
  split
  · split
    · exact .inr ⟨_, rfl⟩
    · exact .inl rfl
  · exact .inl rfl
theorem hits_len (m : Nat) (z : Str) (n : Nat) : (hits m z n).length ≤ n := by
  unfold hits
  rw [List.length_map]
  exact Nat.le_trans (List.length_filter_le _ _) (by rw [List.length_range]; exact Nat.le_refl _)
theorem V_bool_not (a b : V) : (!decide (a = b)) = decide (a ≠ b) := by
  by_cases h : a = b
  · rw [decide_eq_true h, decide_eq_false (fun n => n h)]
    rfl
  · rw [decide_eq_false h, decide_eq_true h]
    rfl
section
variable {P : Program} {w : World} {K : PySem.W.Frag} {mg : Str → Option Value} {base : Heap}
def spName (K : PySem.W.Frag) : Sp := fun vs H Q _ => ∃ z : Str, vs = [.str z] ∧ ZOk z ∧ ∀ H', Same H H' → Q (.bl (isNameZ z)) H'
theorem ok_lname (T : Txt K mg) : DefOk P w K mg base CX0 1 "_law_is_name" ["_law_word_here"] (spName K) := by
  refine mkDef T.d_LIsName T.g__law_is_name scLIsName (fun _ _ _ _ _ _ us hl => match us, hl with | [_], _ => rfl) (fun vs H Q E h => ?_) (fun cdv A outer s H vs Q E hr h => ?_)
  · obtain ⟨z, rfl, _⟩ := h
    rfl
  · obtain ⟨z, rfl, hz, q⟩ := h
    refine ⟨_, pss_cons (ps_set (i := 1) scLIsName.nd rfl (by first | exact Or.inl rfl | exact Or.inr rfl) pe_str) (
      pss_one (ps_ret (pe_and (pe_chain op_le op_le pe_int (pe_callB call_len (by rfl) T.b_len (by decide +kernel) (pa_cons (pv 0) pa_nil)) pe_int) (pe_one (pe_cmpR (op_eqD hr.units) (pe_lc (own := [("_law_sign_here", 2)]) (g := gName 2) rfl scLIsName.nd (pi_str (pv 0)) (blkOk_by (own := [("_law_sign_here", 2)]) (N := nLIsName) (sc := defScope sLIsName) (by decide +kernel)) (fun _ _ _ _ _ => pg_name (i := 2) scLIsName.nd rfl (Or.inl rfl)) (fun _ _ _ _ _ => pts_one (pt_cmpR op_notIn_sign (pv 2) (pv 1) (by rfl))) (fun _ _ _ _ _ => (pv 2))) (pe_lst pa_nil) (nomark _)))))), ?_⟩
    refine ⟨_, rfl, .str z, z.length, rfl, ⟨hz.line, rfl⟩, 1, z.length, rfl, rfl, _, rfl, ?_⟩
    by_cases h1 : 1 ≤ z.length
    · rw [decide_eq_true (show (1 : Int) ≤ (z.length : Int) by omega)]
      refine ⟨z.length, 8, rfl, rfl, _, rfl, ?_⟩
      by_cases h8 : z.length ≤ 8
      · rw [decide_eq_true (show (z.length : Int) ≤ (8 : Int) by omega)]
        refine ⟨_, rfl, z, rfl, fun D hD => ?_⟩
        refine lc_it (walk_str (z := z)) (fun i H1 => Same H H1 ∧ H1 D = some (.lst ((((tl z).take i).filter fun c => !decide (c ∈ tl sAbc)).map fun c => V.str ⟨#[c]⟩))) ⟨same_new hD, upd_same⟩ (fun _ _ _ _ => trivial) (fun i x H1 H2 hi hv hy => ?_) (fun H1 hv => ?_)
        · obtain ⟨s1, e⟩ := hv
          obtain ⟨rfl, c, hc, rfl⟩ := hy
          have hc2 : (tl z)[i]? = some c := by
            rw [← hc]
            exact Array.getElem?_toList
          have et : (tl z).take (i + 1) = (tl z).take i ++ [c] := by
            rw [List.take_add_one, hc2]
            rfl
          refine ⟨rfl, _, rfl, _, rfl, c, sAbc, rfl, rfl, !decide (c ∈ tl sAbc), rfl, ?_⟩
          rw [et, List.filter_append, List.map_append]
          cases eb : decide (c ∈ tl sAbc) with
          | true =>
            rw [show [c].filter (fun c => !decide (c ∈ tl sAbc)) = [] by
              rw [List.filter_cons]
              show (if (!decide (c ∈ tl sAbc)) = true then _ else _) = _
              rw [eb]
              rfl, List.map_nil, List.append_nil]
            exact ⟨s1, e⟩
          | false =>
            rw [show [c].filter (fun c => !decide (c ∈ tl sAbc)) = [c] by
              rw [List.filter_cons]
              show (if (!decide (c ∈ tl sAbc)) = true then _ else _) = _
              rw [eb]
              rfl]
            refine ⟨_, rfl, _, e, ?_, s1.upd hD, upd_same⟩
            rw [List.length_map]
            have l1 := List.length_filter_le (fun c => !decide (c ∈ tl sAbc)) ((tl z).take i)
            have l2 := List.length_take_le i (tl z)
            have : i < z.length := hi
            exact small1000 (by omega)
        · obtain ⟨s1, e⟩ := hv
          have el : (tl z).take z.cps.size = tl z := List.take_of_length_le (by
            show z.cps.toList.length ≤ _
            rw [Array.length_toList]
            exact Nat.le_refl _)
          rw [el] at e
          refine ⟨Nat.zero_le _, fun D2 hD2 => ?_⟩
          have s2 : Same H1 (upd H1 D2 (.lst [])) := same_new hD2
          have hall : isNameZ z = (tl z).all fun c => decide (c ∈ tl sAbc) := by
            unfold isNameZ
            rw [decide_eq_true h1, decide_eq_true h8, Bool.true_and, Bool.true_and]
          rw [hall] at q
          have hw : ∀ c ∈ tl z, ZOk ⟨#[c]⟩ := fun c hc => ⟨fun d hd => by
            have : d = c := by simpa using hd
            rw [this]
            exact hz.ascii c hc, by show 1 ≤ 640; decide⟩
          have hlz : (tl z).length ≤ 8 := by rw [← len_tl]; exact h8
          have hm : ∀ c ∈ (tl z).filter fun c => !decide (c ∈ tl sAbc), c ∈ tl z := fun c hc => (List.mem_filter.mp hc).1
          have hfl : ((tl z).filter fun c => !decide (c ∈ tl sAbc)).length ≤ 8 := Nat.le_trans (List.length_filter_le _ _) hlz
          have hb : ((tl z).all fun c => decide (c ∈ tl sAbc)) = ((tl z).filter fun c => !decide (c ∈ tl sAbc)).isEmpty := by
            rw [Bool.eq_iff_iff, List.all_eq_true, List.isEmpty_iff, List.filter_eq_nil_iff]
            simp
          rw [hb] at q
          revert e hm hfl q
          generalize ((tl z).filter fun c => !decide (c ∈ tl sAbc)) = cs
          intro q e hm hfl
          have hdep : depOk 1 (.list (cs.map fun c => .str ⟨#[c]⟩)) = true := dep_lst (fun d hd => by
            obtain ⟨c, hc, rfl⟩ := List.mem_map.mp hd
            exact (hw c (hm c hc)).dep 0) (by rw [List.length_map]; omega)
          have hdp : DpAll K (upd H1 D2 (.lst [])) (cs.map fun c => V.str ⟨#[c]⟩) (cs.map fun c => .str ⟨#[c]⟩) := by
            have := dpAll_strs (K := K) (H := upd H1 D2 (.lst [])) (cs.map fun c => (⟨#[c]⟩ : Str))
            rw [List.map_map, List.map_map] at this
            exact this
          refine ⟨.list (cs.map fun c => .str ⟨#[c]⟩), .list [], .lst (SqL.of (s2 _ _ e)) hdp, .lst (SqL.of upd_same) .nil, depOk_shaped hdep (by decide), rfl, ?_⟩
          have ev : PyData.eqv (.list (cs.map fun c => .str ⟨#[c]⟩)) (.list []) = cs.isEmpty := by
            cases cs <;> rfl
          rw [ev]
          exact q _ (s1.trans s2)
      · rw [decide_eq_false (show ¬ (z.length : Int) ≤ (8 : Int) by omega)]
        have ef : isNameZ z = false := by
          unfold isNameZ
          rw [decide_eq_false h8, Bool.false_and, Bool.and_false]
        rw [ef] at q
        exact q H (Same.refl H)
    · rw [decide_eq_false (show ¬ (1 : Int) ≤ (z.length : Int) by omega)]
      have ef : isNameZ z = false := by
        unfold isNameZ
        rw [decide_eq_false h1, Bool.false_and]
      rw [ef] at q
      exact ⟨_, rfl, q H (Same.refl H)⟩

def spPlainOf (K : PySem.W.Frag) : Sp := fun vs H Q _ => ∃ (p : Addr) (ws : List Str), vs = [.ref p] ∧ SqL K H p (ws.map V.str) ∧ ws ≠ [] ∧ (∀ u ∈ ws, ZOk u) ∧ ws.length ≤ 641 ∧ ∀ H' v, Dp K H' v (optD (plainOfW ws)) → Same H H' → Q v H'
theorem ok_lplain (T : Txt K mg) : DefOk P w K mg base CX0 2 "_law_plain_of" ["_law_parts"] (spPlainOf K) := by
  have D_law_is_name : DefOk P w K mg base CX0 1 "_law_is_name" ["_law_word_here"] (spName K) := ok_lname T
  refine mkDef T.d_LPlainOf T.g__law_plain_of scLPlainOf (fun _ _ _ _ _ _ us hl => match us, hl with | [_], _ => rfl) (fun vs H Q E h => ?_) (fun cdv A outer s H vs Q E hr h => ?_)
  · obtain ⟨p, ws, rfl, _⟩ := h
    rfl
  · obtain ⟨p0, ws, rfl, hL, hne, hwo, hsz, q⟩ := h
    refine ⟨_, pss_cons (ps_set (i := 1) scLPlainOf.nd rfl (by first | exact Or.inl rfl | exact Or.inr rfl) (pe_disp (pps_cons pe_str pe_int (pps_cons pe_str pe_int (pps_cons pe_str pe_int (pps_cons pe_str pe_int (pps_cons pe_str pe_int (pps_cons pe_str pe_int (pps_cons pe_str pe_int pps_nil))))))) (by rfl) (by rfl) (fun z => by cases z) (by decide))) (
      pss_cons (ps_if (PW.pt (pw_or (pt_cmpR op_notIn_seq (pe_ix (r := rIxL K) ix_list (pv 0) pe_int (fun _ _ => rfl)) (pe_callTy (call_listD rfl) (by rfl) T.b_list (by decide +kernel) (pa_cons (pv 1) pa_nil)) (by rfl)) (pw_or1 (pt_cmpR op_ne (pe_callB call_len (by rfl) T.b_len (by decide +kernel) (pa_cons (pv 0) pa_nil)) (pe_dget (hu_of hr) (pv 1) (pe_ix (r := rIxL K) ix_list (pv 0) pe_int (fun _ _ => rfl)) (fun _ _ => rfl)) (nomark _))))) (pss_one (ps_ret pe_non)) pss_nil) (
      pss_cons (ps_if (PW.pt (pw_and (pt_cmpR op_ne (pe_ix (r := rIxL K) ix_list (pv 0) pe_int (fun _ _ => rfl)) pe_str (nomark _)) (pw_and1 (pt_cmpR op_notIn_seq (pe_ix (r := rIxL K) ix_list (pv 0) pe_int (fun _ _ => rfl)) (pe_tup (pa_cons pe_str (pa_cons pe_str pa_nil))) (by rfl))))) (pss_one (ps_ret pe_non)) pss_nil) (
      pss_cons (ps_if (pt_cmpR op_in_seq (pe_ix (r := rIxL K) ix_list (pv 0) pe_int (fun _ _ => rfl)) (pe_tup (pa_cons pe_str (pa_cons pe_str (pa_cons pe_str pa_nil)))) (by rfl)) (pss_one (ps_ret (pe_ifExp (pt_val (pe_def D_law_is_name (hr.mono (by first | decide | exact Nat.le_refl _)) (by rfl) pass0 (pa_cons (pe_ix (r := rIxL K) ix_list (pv 0) pe_int (fun _ _ => rfl)) pa_nil))) (pe_callTy call_tuple_of (by rfl) T.b_tuple (by decide +kernel) (pa_cons (pv 0) pa_nil)) pe_non))) pss_nil) (
      pss_cons (ps_if (pt_cmpR op_in_seq (pe_ix (r := rIxL K) ix_list (pv 0) pe_int (fun _ _ => rfl)) (pe_tup (pa_cons pe_str (pa_cons pe_str pa_nil))) (by rfl)) (pss_one (ps_ret (pe_callTy call_tuple_of (by rfl) T.b_tuple (by decide +kernel) (pa_cons (pv 0) pa_nil)))) pss_nil) (
      pss_cons (ps_set (i := 2) scLPlainOf.nd rfl (by first | exact Or.inl rfl | exact Or.inr rfl) (pe_ifExp (pt_cmpR op_eq (pe_ix (r := rIxL K) ix_list (pv 0) pe_int (fun _ _ => rfl)) pe_str (nomark _)) pe_int pe_int)) (
      pss_cons (ps_setLc (i := 3) (own := [("_law_k", 4)]) (g := gName 4) rfl scLPlainOf.nd rfl rfl (sw_true rfl rfl rfl (by decide +kernel)) (pi_range2 (by rfl) T.b_range (pa_cons (pe_un un_neg (pv 2)) (pa_cons (pe_op op_add (pv 2) pe_int) pa_nil))) (blkOk_by (own := [("_law_k", 4)]) (N := nLPlainOf) (sc := defScope sLPlainOf) (by decide +kernel)) (fun _ _ _ _ _ => pg_name (i := 4) scLPlainOf.nd rfl (Or.inl rfl)) (fun _ _ _ _ _ => pts_one (PW.pt (pw_and (pt_cmpR op_ne (pv 4) pe_int (nomark _)) (pw_and1 (pt_cmpR op_eq (pe_callTy call_strE (by rfl) T.b_str (by decide +kernel) (pa_cons (pv 4) pa_nil)) (pe_ix (r := rIxL K) ix_list (pv 0) (pe_un un_neg pe_int) (fun _ _ => rfl)) (nomark _)))))) (fun _ _ _ _ _ => (pv 4))) (
      pss_one (ps_ret (pe_ifExp (pt_cmpR (op_neD hr.units) (pv 3) (pe_lst pa_nil) (nomark _)) (pe_callTy call_tuple_of (by rfl) T.b_tuple (by decide +kernel) (pa_cons (pe_op op_cat (pe_slice sl_list (pv 0) po_none (po_some (pe_un un_neg pe_int))) (pv 3)) pa_nil)) pe_non))))))))), ?_⟩
    obtain ⟨k, r, rfl⟩ : ∃ k r, ws = k :: r := by
      cases ws with
      | nil => exact absurd rfl hne
      | cons k r => exact ⟨k, r, rfl⟩
    have qn : plainOfW (k :: r) = none → ∀ H', Same H H' → Q .non H' := fun e H' s' => q H' .non (by rw [e]; exact .non) s'
    have ix : ∀ {H' : Hp} (s : Same H H') {i : Nat} {u : Str}, (k :: r)[i]? = some u → SqL K H' p0 ((k :: r).map V.str) ∧ atI ((k :: r).map V.str) (i : Int) = some (.str u) := by
      intro H' s i u e
      exact ⟨s.seq hL, atI_nat (by rw [List.getElem?_map, e]; rfl)⟩
    refine fun pD hpD => ⟨upd_same, kvS, rfl, by decide, ?_⟩
    rw [kvS_merge]
    have s1 : Same H (upd (upd H pD (.dK [])) pD (.dK kvS)) := fun b o hb => by
      have : b ≠ pD := ne_of_none hb hpD
      rw [upd_ne this, upd_ne this]
      exact hb
    have eD : (upd (upd H pD (.dK [])) pD (.dK kvS)) pD = some (.dK kvS) := upd_same
    revert s1 eD
    generalize upd (upd H pD (.dK [])) pD (.dK kvS) = H1
    intro s1 eD
    have A0 := (ix s1 (i := 0) (u := k) rfl)
    refine ⟨_, rfl, p0, _, 0, .str k, rfl, rfl, A0.1, A0.2, _, rfl, pD, kvS, rfl, .inl eD, fun p2 hp2 => ⟨p2, _, rfl, .inl (SqL.of upd_same), rfl, by decide +kernel, !inV (.str k) kvL, rfl, ?_⟩⟩
    have s2 : Same H1 (upd H1 p2 (.lst (kvS.map fun kv => kV kv.1))) := same_new hp2
    have eD2 := s2 _ _ eD
    have s3 := s1.trans s2
    revert s3 eD2
    generalize upd H1 p2 (.lst (kvS.map fun kv => kV kv.1)) = H2
    intro eD2 s3
    rcases kind_cases k with ⟨ek, h3, h2, hw, hp⟩ | ⟨ek, n, hv, hk⟩
    · rw [ek]
      exact qn (plainOf_nokind h3 h2 hw hp r) H2 s3
    rw [ek]
    have A0 := (ix s3 (i := 0) (u := k) rfl)
    have dg : DGet H2 pD (.str k) (some (.int n)) := by
      have := DGet.k (k := .inr k) eD2
      rw [hv] at this
      exact this
    refine ⟨_, rfl, .ref p0, (k :: r).length, rfl, .inl ⟨_, A0.1, by rw [List.length_map]⟩, _, rfl, _, rfl, p0, _, 0, .str k, rfl, rfl, A0.1, A0.2, pD, .int n, rfl, dg, rfl, !decide (V.int ((k :: r).length : Int) = V.int n), rfl, ?_⟩
    rw [V_int_dec]
    by_cases hn : ¬ ((k :: r).length : Int) = n
    · rw [decide_eq_false hn]
      exact qn (plainOf_size hk r hn) H2 s3
    have hn := Decidable.not_not.mp hn
    rw [decide_eq_true hn]
    -- the words: two or three
    obtain ⟨a, r2, rfl⟩ : ∃ a r2, r = a :: r2 := by
      cases r with
      | nil =>
        cases hk <;> exact absurd hn (by simp)
      | cons a r2 => exact ⟨a, r2, rfl⟩
    cases hk with
    | @three k h h2 hp hw =>
      obtain ⟨b, rfl⟩ : ∃ b, r2 = [b] := by
        match r2, hn with
        | [b], _ => exact ⟨b, rfl⟩
        | [], h => exact absurd h (by simp)
        | _ :: _ :: _, h =>
          simp only [List.length_cons] at h
          omega
      refine ⟨_, rfl, p0, _, 0, .str k, rfl, rfl, (ix s3 (i := 0) rfl).1, (ix s3 (i := 0) rfl).2, rfl, !decide (V.str k = V.str kPull), rfl, ?_⟩
      rw [V_str_dec, decide_eq_false hp]
      refine ⟨_, rfl, p0, _, 1, .str a, rfl, rfl, (ix s3 (i := 1) rfl).1, (ix s3 (i := 1) rfl).2, by show 2 ≤ sizeLine; decide, fun p3 hp3 => ⟨p3, _, rfl, .inr (SqT.of upd_same), rfl, rfl, !inV (.str a) [.str kNear, .str kFar], rfl, ?_⟩⟩
      rw [inV_win]
      have s4 := s3.new hp3 (o := .tup [.str kNear, .str kFar])
      revert s4
      generalize upd H2 p3 (.tup [.str kNear, .str kFar]) = H3
      intro s4
      cases ew : isWinZ a with
      | false => exact qn (by rw [plainOfW_3, if_pos h, ew]; rfl) H3 s4
      | true =>
        refine ⟨_, rfl, p0, _, 0, .str k, rfl, rfl, (ix s4 (i := 0) rfl).1, (ix s4 (i := 0) rfl).2, by show 3 ≤ sizeLine; decide, fun p4 hp4 => ⟨p4, _, rfl, .inr (SqT.of upd_same), rfl, rfl, inV (.str k) [.str kPeg, .str kHang, .str kFetch], rfl, ?_⟩⟩
        rw [inV_three, h]
        have s5 := s4.new hp4 (o := .tup [.str kPeg, .str kHang, .str kFetch])
        revert s5
        generalize upd H3 p4 (.tup [.str kPeg, .str kHang, .str kFetch]) = H4
        intro s5
        have hb : ZOk b := hwo b (by simp)
        refine ⟨_, rfl, p0, _, 2, .str b, rfl, rfl, (ix s5 (i := 2) rfl).1, (ix s5 (i := 2) rfl).2, b, rfl, hb, fun H5 s6 => ⟨isNameZ b, rfl, ?_⟩⟩
        cases em : isNameZ b with
        | false => exact qn (by rw [plainOfW_3, if_pos h, ew, em]; rfl) H5 (s5.trans s6)
        | true =>
          refine ⟨_, rfl, p0, _, rfl, .inl ⟨(s5.trans s6).seq hL, fun t ht => q _ _ ?_ ((s5.trans s6).new ht)⟩⟩
          rw [plainOfW_3, if_pos h, ew, em]
          exact .tup (SqT.of upd_same) (dpAll_strs [k, a, b])
    | @two k h h2 hp hw =>
      obtain rfl : r2 = [] := by
        match r2, hn with
        | [], _ => rfl
        | _ :: _, h =>
          simp only [List.length_cons] at h
          omega
      refine ⟨_, rfl, p0, _, 0, .str k, rfl, rfl, (ix s3 (i := 0) rfl).1, (ix s3 (i := 0) rfl).2, rfl, !decide (V.str k = V.str kPull), rfl, ?_⟩
      rw [V_str_dec, decide_eq_false hp]
      refine ⟨_, rfl, p0, _, 1, .str a, rfl, rfl, (ix s3 (i := 1) rfl).1, (ix s3 (i := 1) rfl).2, by show 2 ≤ sizeLine; decide, fun p3 hp3 => ⟨p3, _, rfl, .inr (SqT.of upd_same), rfl, rfl, !inV (.str a) [.str kNear, .str kFar], rfl, ?_⟩⟩
      rw [inV_win]
      have s4 := s3.new hp3 (o := .tup [.str kNear, .str kFar])
      revert s4
      generalize upd H2 p3 (.tup [.str kNear, .str kFar]) = H3
      intro s4
      cases ew : isWinZ a with
      | false => exact qn (by rw [plainOfW_2, if_neg hp, ew, Bool.and_false]; rfl) H3 s4
      | true =>
        refine ⟨_, rfl, p0, _, 0, .str k, rfl, rfl, (ix s4 (i := 0) rfl).1, (ix s4 (i := 0) rfl).2, by show 3 ≤ sizeLine; decide, fun p4 hp4 => ⟨p4, _, rfl, .inr (SqT.of upd_same), rfl, rfl, inV (.str k) [.str kPeg, .str kHang, .str kFetch], rfl, ?_⟩⟩
        rw [inV_three, h2]
        have s5 := s4.new hp4 (o := .tup [.str kPeg, .str kHang, .str kFetch])
        revert s5
        generalize upd H3 p4 (.tup [.str kPeg, .str kHang, .str kFetch]) = H4
        intro s5
        refine ⟨_, rfl, p0, _, 0, .str k, rfl, rfl, (ix s5 (i := 0) rfl).1, (ix s5 (i := 0) rfl).2, by show 2 ≤ sizeLine; decide, fun p4 hp4 => ⟨p4, _, rfl, .inr (SqT.of upd_same), rfl, rfl, inV (.str k) [.str kTake, .str kLook], rfl, ?_⟩⟩
        rw [inV_two, h]
        have s6 := s5.new hp4 (o := .tup [.str kTake, .str kLook])
        revert s6
        generalize upd H4 p4 (.tup [.str kTake, .str kLook]) = H8
        intro s6
        refine ⟨_, rfl, p0, _, rfl, .inl ⟨s6.seq hL, fun t ht => q _ _ ?_ (s6.new ht)⟩⟩
        rw [plainOfW_2, if_neg hp, ew, h]
        exact .tup (SqT.of upd_same) (dpAll_strs [k, a])
    | walk =>
      obtain ⟨b, rfl⟩ : ∃ b, r2 = [b] := by
        match r2, hn with
        | [b], _ => exact ⟨b, rfl⟩
        | [], h => exact absurd h (by simp)
        | _ :: _ :: _, h =>
          simp only [List.length_cons] at h
          omega
      have hp : kWalk ≠ kPull := by decide
      have hb : ZOk b := hwo b (by simp)
      refine ⟨_, rfl, p0, _, 0, .str kWalk, rfl, rfl, (ix s3 (i := 0) rfl).1, (ix s3 (i := 0) rfl).2, rfl, !decide (V.str kWalk = V.str kPull), rfl, ?_⟩
      rw [V_str_dec, decide_eq_false hp]
      refine ⟨_, rfl, p0, _, 1, .str a, rfl, rfl, (ix s3 (i := 1) rfl).1, (ix s3 (i := 1) rfl).2, by show 2 ≤ sizeLine; decide, fun p3 hp3 => ⟨p3, _, rfl, .inr (SqT.of upd_same), rfl, rfl, !inV (.str a) [.str kNear, .str kFar], rfl, ?_⟩⟩
      rw [inV_win]
      have s4 := s3.new hp3 (o := .tup [.str kNear, .str kFar])
      revert s4
      generalize upd H2 p3 (.tup [.str kNear, .str kFar]) = H3
      intro s4
      cases ew : isWinZ a with
      | false => exact qn (by rw [plainOfW_3, if_neg (by decide), ew, Bool.and_false]; rfl) H3 s4
      | true =>
        refine ⟨_, rfl, p0, _, 0, .str kWalk, rfl, rfl, (ix s4 (i := 0) rfl).1, (ix s4 (i := 0) rfl).2, by show 3 ≤ sizeLine; decide, fun p4 hp4 => ⟨p4, _, rfl, .inr (SqT.of upd_same), rfl, rfl, inV (.str kWalk) [.str kPeg, .str kHang, .str kFetch], rfl, ?_⟩⟩
        rw [inV_three, show isThree kWalk = false by decide]
        have s5 := s4.new hp4 (o := .tup [.str kPeg, .str kHang, .str kFetch])
        revert s5
        generalize upd H3 p4 (.tup [.str kPeg, .str kHang, .str kFetch]) = H4
        intro s5
        refine ⟨_, rfl, p0, _, 0, .str kWalk, rfl, rfl, (ix s5 (i := 0) rfl).1, (ix s5 (i := 0) rfl).2, by show 2 ≤ sizeLine; decide, fun p4 hp4 => ⟨p4, _, rfl, .inr (SqT.of upd_same), rfl, rfl, inV (.str kWalk) [.str kTake, .str kLook], rfl, ?_⟩⟩
        rw [inV_two, show isTwo kWalk = false by decide]
        have s6 := s5.new hp4 (o := .tup [.str kTake, .str kLook])
        revert s6
        generalize upd H4 p4 (.tup [.str kTake, .str kLook]) = H8
        intro s6
        refine ⟨_, rfl, p0, _, 0, .str kWalk, rfl, rfl, (ix s6 (i := 0) rfl).1, (ix s6 (i := 0) rfl).2, rfl, decide (V.str kWalk = V.str kPull), rfl, ?_⟩
        rw [V_str_dec, decide_eq_false hp]
        refine ⟨_, rfl, 6, rfl, _, rfl, 6, 1, rfl, rfl, -6, 6 + 1, rfl, ⟨by decide, by decide, by decide, by decide⟩, fun D hD => ?_⟩
        have hlast : ∀ {H' : Hp}, Same H H' → SqL K H' p0 (([kWalk, a] ++ [b]).map V.str) ∧ atI (([kWalk, a] ++ [b]).map V.str) (-1) = some (.str b) := fun s => ⟨s.seq hL, by
          rw [List.map_append]
          exact atI_last _ _⟩
        refine lc_range (lo := -6) (n := 13) (fun i H5 => Same H8 H5 ∧ H5 D = some (.lst ((hits 6 b i).map V.int))) ⟨same_new hD, upd_same⟩ (fun i H5 hi hv => ?_) (fun H5 hv => ?_)
        · obtain ⟨t6, e6⟩ := hv
          have hl := hits_len 6 b i
          have hs := hits_succ 6 b i
          have hat : hitAt 6 b i = (decide (-(6 : Int) + i ≠ 0) && decide (numS (-(6 : Int) + i) = b)) := rfl
          have stay : hitAt 6 b i = false → Same H8 H5 ∧ H5 D = some (.lst ((hits 6 b (i + 1)).map V.int)) := fun e => ⟨t6, by
            rw [hs, e, if_neg Bool.false_ne_true, List.append_nil]
            exact e6⟩
          refine ⟨rfl, _, rfl, rfl, !decide (V.int (-6 + (i : Nat)) = V.int 0), rfl, ?_⟩
          rw [V_int_dec]
          by_cases e0 : (-6 + (i : Int)) = 0
          · rw [decide_eq_true e0]
            exact stay (by rw [hat, decide_eq_false (fun h => h e0), Bool.false_and])
          · rw [decide_eq_false e0]
            refine ⟨_, rfl, .inl ⟨-6 + (i : Int), rfl, log2_small (by omega), _, rfl, 1, rfl, p0, _, -1, .str b, rfl, rfl, (hlast (s6.trans t6)).1, (hlast (s6.trans t6)).2, rfl, decide (V.str (numS (-6 + (i : Int))) = V.str b), rfl, ?_⟩⟩
            rw [V_str_dec]
            by_cases e1 : numS (-6 + (i : Int)) = b
            · rw [decide_eq_true e1]
              refine ⟨_, rfl, _, e6, by rw [List.length_map]; exact small1000 (by omega), t6.upd hD, ?_⟩
              rw [upd_same, hs, hat, decide_eq_true e0, decide_eq_true e1, List.map_append]
              rfl
            · rw [decide_eq_false e1]
              exact stay (by rw [hat, decide_eq_false e1, Bool.and_false])
        · obtain ⟨t6, e6⟩ := hv
          have s7 := s6.trans t6
          refine ⟨_, rfl, Nat.zero_le _, fun D2 hD2 => ?_⟩
          have s8 : Same H5 (upd H5 D2 (.lst [])) := same_new hD2
          have two := hits_two hb 6
          have e8 := s8 _ _ e6
          have eD2 : (upd H5 D2 (.lst [])) D2 = some (.lst []) := upd_same
          have eq : plainOfW [kWalk, a, b] = ofHits ([kWalk, a].map PyData.str) (hits 6 b 13) := by rw [plainOfW_3, if_neg (by decide), ew, decide_eq_true rfl]; rfl
          revert e8 eD2 s8
          generalize upd H5 D2 (.lst []) = H6
          intro s8 e8 eD2
          have s9 := s7.trans s8
          rcases two with e9 | ⟨n9, e9⟩
          · rw [e9] at e8 eq
            refine ⟨.list [], .list [], .lst (SqL.of e8) .nil, .lst (SqL.of eD2) .nil, rfl, rfl, ?_⟩
            exact ⟨false, rfl, qn eq _ s9⟩
          · rw [e9] at e8 eq
            refine ⟨.list [.int n9], .list [], .lst (SqL.of e8) (.cons (.int n9) .nil), .lst (SqL.of eD2) .nil, rfl, rfl, ?_⟩
            refine ⟨true, rfl, _, rfl, 1, rfl, _, rfl, p0, _, rfl, (hlast s9).1, fun c hc => ⟨_, rfl, c, D, [kWalk, a].map V.str, [.int n9], rfl, rfl, ?_, (same_new hc) _ _ e8, by show 3 ≤ sizeLine; decide, fun l hl => ?_⟩⟩
            · rw [upd_same, cutV_init, List.map_append]
              rfl
            · have s10 := (s9.new hc (o := .lst (cutV (([kWalk, a] ++ [b]).map V.str) none (some (-1))))).new hl (o := .lst ([kWalk, a].map V.str ++ [.int n9]))
              refine ⟨l, _, rfl, .inl ⟨SqL.of upd_same, fun t ht => q _ _ ?_ (s10.new ht)⟩⟩
              rw [eq]
              exact .tup (SqT.of upd_same) (dpAll_app (dpAll_strs [kWalk, a]) (.cons (.int n9) .nil))
    | pull =>
      obtain rfl : r2 = [] := by
        match r2, hn with
        | [], _ => rfl
        | _ :: _, h =>
          simp only [List.length_cons] at h
          omega
      have ha : ZOk a := hwo a (by simp)
      refine ⟨_, rfl, p0, _, 0, .str kPull, rfl, rfl, (ix s3 (i := 0) rfl).1, (ix s3 (i := 0) rfl).2, rfl, !decide (V.str kPull = V.str kPull), rfl, ?_⟩
      rw [decide_eq_true rfl]
      refine ⟨_, rfl, p0, _, 0, .str kPull, rfl, rfl, (ix s3 (i := 0) rfl).1, (ix s3 (i := 0) rfl).2, by show 3 ≤ sizeLine; decide, fun p4 hp4 => ⟨p4, _, rfl, .inr (SqT.of upd_same), rfl, rfl, inV (.str kPull) [.str kPeg, .str kHang, .str kFetch], rfl, ?_⟩⟩
      rw [inV_three, show isThree kPull = false by decide]
      have s5 := s3.new hp4 (o := .tup [.str kPeg, .str kHang, .str kFetch])
      revert s5
      generalize upd H2 p4 (.tup [.str kPeg, .str kHang, .str kFetch]) = H4
      intro s5
      refine ⟨_, rfl, p0, _, 0, .str kPull, rfl, rfl, (ix s5 (i := 0) rfl).1, (ix s5 (i := 0) rfl).2, by show 2 ≤ sizeLine; decide, fun p4 hp4 => ⟨p4, _, rfl, .inr (SqT.of upd_same), rfl, rfl, inV (.str kPull) [.str kTake, .str kLook], rfl, ?_⟩⟩
      rw [inV_two, show isTwo kPull = false by decide]
      have s6 := s5.new hp4 (o := .tup [.str kTake, .str kLook])
      revert s6
      generalize upd H4 p4 (.tup [.str kTake, .str kLook]) = H8
      intro s6
      refine ⟨_, rfl, p0, _, 0, .str kPull, rfl, rfl, (ix s6 (i := 0) rfl).1, (ix s6 (i := 0) rfl).2, rfl, decide (V.str kPull = V.str kPull), rfl, ?_⟩
      rw [V_str_dec, decide_eq_true rfl]
      refine ⟨_, rfl, 40, rfl, _, rfl, 40, 1, rfl, rfl, -40, 40 + 1, rfl, ⟨by decide, by decide, by decide, by decide⟩, fun D hD => ?_⟩
      have hlast : ∀ {H' : Hp}, Same H H' → SqL K H' p0 (([kPull] ++ [a]).map V.str) ∧ atI (([kPull] ++ [a]).map V.str) (-1) = some (.str a) := fun s => ⟨s.seq hL, by
        rw [List.map_append]
        exact atI_last _ _⟩
      refine lc_range (lo := -40) (n := 81) (fun i H5 => Same H8 H5 ∧ H5 D = some (.lst ((hits 40 a i).map V.int))) ⟨same_new hD, upd_same⟩ (fun i H5 hi hv => ?_) (fun H5 hv => ?_)
      · obtain ⟨t6, e6⟩ := hv
        have hl := hits_len 40 a i
        have hs := hits_succ 40 a i
        have hat : hitAt 40 a i = (decide (-(40 : Int) + i ≠ 0) && decide (numS (-(40 : Int) + i) = a)) := rfl
        have stay : hitAt 40 a i = false → Same H8 H5 ∧ H5 D = some (.lst ((hits 40 a (i + 1)).map V.int)) := fun e => ⟨t6, by
          rw [hs, e, if_neg Bool.false_ne_true, List.append_nil]
          exact e6⟩
        refine ⟨rfl, _, rfl, rfl, !decide (V.int (-40 + (i : Nat)) = V.int 0), rfl, ?_⟩
        rw [V_int_dec]
        by_cases e0 : (-40 + (i : Int)) = 0
        · rw [decide_eq_true e0]
          exact stay (by rw [hat, decide_eq_false (fun h => h e0), Bool.false_and])
        · rw [decide_eq_false e0]
          refine ⟨_, rfl, .inl ⟨-40 + (i : Int), rfl, log2_small (by omega), _, rfl, 1, rfl, p0, _, -1, .str a, rfl, rfl, (hlast (s6.trans t6)).1, (hlast (s6.trans t6)).2, rfl, decide (V.str (numS (-40 + (i : Int))) = V.str a), rfl, ?_⟩⟩
          rw [V_str_dec]
          by_cases e1 : numS (-40 + (i : Int)) = a
          · rw [decide_eq_true e1]
            refine ⟨_, rfl, _, e6, by rw [List.length_map]; exact small1000 (by omega), t6.upd hD, ?_⟩
            rw [upd_same, hs, hat, decide_eq_true e0, decide_eq_true e1, List.map_append]
            rfl
          · rw [decide_eq_false e1]
            exact stay (by rw [hat, decide_eq_false e1, Bool.and_false])
      · obtain ⟨t6, e6⟩ := hv
        have s7 := s6.trans t6
        refine ⟨_, rfl, Nat.zero_le _, fun D2 hD2 => ?_⟩
        have s8 : Same H5 (upd H5 D2 (.lst [])) := same_new hD2
        have two := hits_two ha 40
        have e8 := s8 _ _ e6
        have eD2 : (upd H5 D2 (.lst [])) D2 = some (.lst []) := upd_same
        have eq : plainOfW [kPull, a] = ofHits ([kPull].map PyData.str) (hits 40 a 81) := by rw [plainOfW_2, if_pos rfl]; rfl
        revert e8 eD2 s8
        generalize upd H5 D2 (.lst []) = H6
        intro s8 e8 eD2
        have s9 := s7.trans s8
        rcases two with e9 | ⟨n9, e9⟩
        · rw [e9] at e8 eq
          refine ⟨.list [], .list [], .lst (SqL.of e8) .nil, .lst (SqL.of eD2) .nil, rfl, rfl, ?_⟩
          exact ⟨false, rfl, qn eq _ s9⟩
        · rw [e9] at e8 eq
          refine ⟨.list [.int n9], .list [], .lst (SqL.of e8) (.cons (.int n9) .nil), .lst (SqL.of eD2) .nil, rfl, rfl, ?_⟩
          refine ⟨true, rfl, _, rfl, 1, rfl, _, rfl, p0, _, rfl, (hlast s9).1, fun c hc => ⟨_, rfl, c, D, [kPull].map V.str, [.int n9], rfl, rfl, ?_, (same_new hc) _ _ e8, by show 2 ≤ sizeLine; decide, fun l hl => ?_⟩⟩
          · rw [upd_same, cutV_init, List.map_append]
            rfl
          · have s10 := (s9.new hc (o := .lst (cutV (([kPull] ++ [a]).map V.str) none (some (-1))))).new hl (o := .lst ([kPull].map V.str ++ [.int n9]))
            refine ⟨l, _, rfl, .inl ⟨SqL.of upd_same, fun t ht => q _ _ ?_ (s10.new ht)⟩⟩
            rw [eq]
            exact .tup (SqT.of upd_same) (dpAll_app (dpAll_strs [kPull]) (.cons (.int n9) .nil))
end
end RL

-- part W12
set_option Elab.async false
set_option linter.all false
set_option maxRecDepth 100000
set_option maxHeartbeats 4000000
/-! The walks: the law reads a line, a text. -/
namespace RL
open PySem PySem.Spec PyProof.Rows L2 TL
theorem tl_ext {a b : Str} (h : tl a = tl b) : a = b := by
  rw [← mkt a, ← mkt b, h]
theorem cut_init (z : Str) : cutS z none (some (-1)) = initZ z := tl_ext (tl_cut_init z)
theorem cut_colon (z : Str) : decide (cutS z (some (-1)) none = zColon) = endsColon z := by
  have e : cutS z (some (-1)) none = zColon ↔ (tl z).drop ((tl z).length - 1) = [58] := by
    rw [← tl_cut_last]
    exact ⟨fun h => by rw [h]; rfl, fun h => tl_ext h⟩
  unfold endsColon
  rw [decide_eq_decide, e]
  generalize tl z = l
  rcases List.eq_nil_or_concat l with rfl | ⟨i, c, rfl⟩
  · simp
  · rw [List.concat_eq_append, List.getLast?_append, List.length_append, show (i.length + [c].length - 1) = i.length from rfl, List.drop_left]
    simp
theorem init_ok {z : Str} (h : ZOk z) : ZOk (initZ z) := h.sub (y := initZ z) (by
  show (tl z).dropLast <:+: tl z
  exact (List.dropLast_prefix _).isInfix)
theorem plainOf_some {ws : List Str} {d : PD} (h : plainOfW ws = some d) : isNonD d = false := by
  have hh : ∀ k ns, ofHits k ns = some d → isNonD d = false := fun k ns e => by
    unfold ofHits at e
    split at e
    · cases e
    · cases e
      rfl
  match ws, h with
  | [k, a], h =>
    rw [plainOfW_2] at h
    split at h
    · exact hh _ _ h
    · split at h
      · cases h
        rfl
      · cases h
  | [k, a, b], h =>
    rw [plainOfW_3] at h
    split at h
    · split at h
      · cases h
        rfl
      · cases h
    · split at h
      · exact hh _ _ h
      · cases h
theorem whenOf_four (k a b c : Str) (r : List Str) : whenOfW (k :: a :: b :: c :: r) = if (isWinZ a && endsColon b) = true then (match plainOfW (c :: r) with
      | some d => if (decide (initZ b = kDot) || isNameZ (initZ b)) = true then some (.tuple [.str k, .str a, whatD (initZ b), d]) else none
      | none => none) else none := rfl
section
variable {P : Program} {w : World} {K : PySem.W.Frag} {mg : Str → Option Value} {base : Heap}
theorem ok_ldeed (T : Txt K mg) : DefOk P w K mg base CX0 3 "_law_deed_of" ["_law_line_here"] (spRead K fun z => optD (deedOfW (wordsZ z))) := by
  have D_law_is_name : DefOk P w K mg base CX0 1 "_law_is_name" ["_law_word_here"] (spName K) := ok_lname T
  have D_law_plain_of : DefOk P w K mg base CX0 2 "_law_plain_of" ["_law_parts"] (spPlainOf K) := ok_lplain T
  refine mkDef T.d_LDeedOf T.g__law_deed_of scLDeedOf (fun _ _ _ _ _ _ us hl => match us, hl with | [_], _ => rfl) (fun vs H Q E h => ?_) (fun cdv A outer s H vs Q E hr h => ?_)
  · obtain ⟨z, rfl, _⟩ := h
    rfl
  · obtain ⟨z, rfl, hz, q⟩ := h
    refine ⟨_, pss_cons (ps_set (i := 1) scLDeedOf.nd rfl (by first | exact Or.inl rfl | exact Or.inr rfl) (pe_split (pv 0) pe_str)) (
      pss_cons (ps_if (pt_cmpR op_ne (pe_ix (r := rIxL K) ix_list (pv 1) pe_int (fun _ _ => rfl)) pe_str (nomark _)) (pss_one (ps_ret (pe_def D_law_plain_of (hr.mono (by first | decide | exact Nat.le_refl _)) (by rfl) pass0 (pa_cons (pv 1) pa_nil)))) pss_nil) (
      pss_cons (ps_if (PW.pt (pw_or (pt_cmpR op_lt (pe_callB call_len (by rfl) T.b_len (by decide +kernel) (pa_cons (pv 1) pa_nil)) pe_int (nomark _)) (pw_or (pt_cmpR op_notIn_seq (pe_ix (r := rIxL K) ix_list (pv 1) pe_int (fun _ _ => rfl)) (pe_tup (pa_cons pe_str (pa_cons pe_str pa_nil))) (by rfl)) (pw_or1 (pt_cmpR op_ne (pe_slice sl_str (pe_ix (r := rIxL K) ix_list (pv 1) pe_int (fun _ _ => rfl)) (po_some (pe_un un_neg pe_int)) po_none) pe_str (nomark _)))))) (pss_one (ps_ret pe_non)) pss_nil) (
      pss_cons (ps_par (i := 2) (j := 3) rfl scLDeedOf.nd rfl rfl (by decide) rfl rfl (pa_cons (pe_slice sl_str (pe_ix (r := rIxL K) ix_list (pv 1) pe_int (fun _ _ => rfl)) po_none (po_some (pe_un un_neg pe_int))) (pa_cons (pe_def D_law_plain_of (hr.mono (by first | decide | exact Nat.le_refl _)) (by rfl) pass0 (pa_cons (pe_slice sl_list (pv 1) (po_some pe_int) po_none) pa_nil)) pa_nil)) (by rfl)) (
      pss_cons (ps_if (PW.pt (pw_or (pt_cmpR op_isN (pv 3) pe_non (nomark _)) (pw_or1 (pt_not (PW.pt (pw_or (pt_cmpR op_eq (pv 2) pe_str (nomark _)) (pw_or1 (pt_val (pe_def D_law_is_name (hr.mono (by first | decide | exact Nat.le_refl _)) (by rfl) pass0 (pa_cons (pv 2) pa_nil)))))))))) (pss_one (ps_ret pe_non)) pss_nil) (
      pss_one (ps_ret (pe_tup (pa_cons pe_str (pa_cons (pe_ix (r := rIxL K) ix_list (pv 1) pe_int (fun _ _ => rfl)) (pa_cons (pe_ifExp (pt_cmpR op_eq (pv 2) pe_str (nomark _)) pe_non (pv 2)) (pa_cons (pv 3) pa_nil))))))))))), ?_⟩
    have hl := hz.few
    refine ⟨_, rfl, ⟨_, rfl⟩, z, cBlank, rfl, rfl, by decide, by rw [sizeLine_eq]; omega, fun p hp => ?_⟩
    have s1 : Same H (upd H p (.lst ((Txt.split z cBlank).map V.str))) := same_new hp
    have hL : SqL K (upd H p (.lst ((Txt.split z cBlank).map V.str))) p ((Txt.split z cBlank).map V.str) := SqL.of upd_same
    have hwo : ∀ u ∈ Txt.split z cBlank, ZOk u := fun u hu => hz.word hu
    have hne : Txt.split z cBlank ≠ [] := (words_of z).1
    have hsz : (Txt.split z cBlank).length ≤ 641 := Nat.le_trans (words_len z) (by omega)
    have q : ∀ H' v, Dp K H' v (optD (deedOfW (Txt.split z cBlank))) → Same H H' → Q v H' := q
    revert s1 hL hwo hne hsz q
    generalize Txt.split z cBlank = ws
    intro s1 hL hwo hne hsz q
    revert s1 hL
    generalize upd H p (.lst (ws.map V.str)) = H1
    intro s1 hL
    obtain ⟨k, r, rfl⟩ : ∃ k r, ws = k :: r := by
      cases ws with
      | nil => exact absurd rfl hne
      | cons k r => exact ⟨k, r, rfl⟩
    have ix : ∀ {H' : Hp} (s : Same H1 H') {i : Nat} {u : Str}, (k :: r)[i]? = some u → SqL K H' p ((k :: r).map V.str) ∧ atI ((k :: r).map V.str) (i : Int) = some (.str u) := by
      intro H' s i u e
      exact ⟨s.seq hL, atI_nat (by rw [List.getElem?_map, e]; rfl)⟩
    have S0 := Same.refl H1
    refine ⟨_, rfl, p, _, 0, .str k, rfl, rfl, (ix S0 (i := 0) rfl).1, (ix S0 (i := 0) rfl).2, rfl, !decide (V.str k = V.str kWhen), rfl, ?_⟩
    rw [V_str_dec]
    by_cases hk : ¬ k = kWhen
    · rw [decide_eq_false hk]
      refine ⟨_, rfl, p, k :: r, rfl, hL, hne, hwo, hsz, fun H2 v hv s2 => q H2 v ?_ (s1.trans s2)⟩
      have e : deedOfW (k :: r) = plainOfW (k :: r) := if_neg (fun h => hk (Option.some.inj h))
      rw [e]
      exact hv
    obtain rfl := Decidable.not_not.mp hk
    rw [decide_eq_true rfl]
    have e : deedOfW (kWhen :: r) = whenOfW (kWhen :: r) := if_pos rfl
    rw [e] at q
    have qn : whenOfW (kWhen :: r) = none → ∀ H', Same H1 H' → Q .non H' := fun e H' s' => q H' .non (by rw [e]; exact .non) (s1.trans s')
    refine ⟨_, rfl, .ref p, (kWhen :: r).length, rfl, .inl ⟨_, hL, by rw [List.length_map]⟩, _, _, rfl, rfl, decide (((kWhen :: r).length : Int) < 4), rfl, ?_⟩
    by_cases h4 : ((kWhen :: r).length : Int) < 4
    · rw [decide_eq_true h4]
      refine qn ?_ H1 S0
      match r, h4 with
      | [], _ => rfl
      | [_], _ => rfl
      | [_, _], _ => rfl
      | _ :: _ :: _ :: _, h =>
        simp only [List.length_cons] at h
        omega
    rw [decide_eq_false h4]
    obtain ⟨a, b, c, r, rfl⟩ : ∃ a b c r2, r = a :: b :: c :: r2 := by
      match r, h4 with
      | a :: b :: c :: r2, _ => exact ⟨a, b, c, r2, rfl⟩
      | [], h => exact absurd (by decide) h
      | [x], h => exact absurd (show (2 : Int) < 4 by decide) h
      | [x, y], h => exact absurd (show (3 : Int) < 4 by decide) h
    have hb : ZOk b := hwo b (by simp)
    rw [whenOf_four] at q qn
    refine ⟨_, rfl, p, _, 1, .str a, rfl, rfl, (ix S0 (i := 1) rfl).1, (ix S0 (i := 1) rfl).2, by show 2 ≤ sizeLine; decide, fun p3 hp3 => ⟨p3, _, rfl, .inr (SqT.of upd_same), rfl, rfl, !inV (.str a) [.str kNear, .str kFar], rfl, ?_⟩⟩
    rw [inV_win]
    have s2 : Same H1 (upd H1 p3 (.tup [.str kNear, .str kFar])) := same_new hp3
    revert s2
    generalize upd H1 p3 (.tup [.str kNear, .str kFar]) = H2
    intro s2
    cases ew : isWinZ a with
    | false => exact qn (by rw [ew]; rfl) H2 s2
    | true =>
      refine ⟨_, rfl, p, _, 2, .str b, rfl, rfl, (ix s2 (i := 2) rfl).1, (ix s2 (i := 2) rfl).2, 1, rfl, _, rfl, b, rfl, hb.line, rfl, !decide (V.str (cutS b (some (-1)) none) = V.str zColon), rfl, ?_⟩
      rw [V_str_dec, cut_colon]
      cases ec : endsColon b with
      | false => exact qn (by rw [ew, ec]; rfl) H2 s2
      | true =>
        rw [ew, ec] at q qn
        refine ⟨_, rfl, p, _, 2, .str b, rfl, rfl, (ix s2 (i := 2) rfl).1, (ix s2 (i := 2) rfl).2, 1, rfl, _, rfl, b, rfl, hb.line, _, rfl, _, rfl, p, _, rfl, (ix s2 (i := 2) rfl).1, fun p4 hp4 => ?_⟩
        rw [cut_init]
        have ecut : cutV ((kWhen :: a :: b :: c :: r).map V.str) (some 3) none = (c :: r).map V.str := cutV_from _ 3
        rw [ecut]
        have s3 := s2.new hp4 (o := .lst ((c :: r).map V.str))
        have hL4 : SqL K (upd H2 p4 (.lst ((c :: r).map V.str))) p4 ((c :: r).map V.str) := SqL.of upd_same
        revert s3 hL4
        generalize upd H2 p4 (.lst ((c :: r).map V.str)) = H3
        intro s3 hL4
        have hi := init_ok hb
        revert q qn hi
        generalize initZ b = y
        intro q qn hi
        refine ⟨p4, c :: r, rfl, hL4, by simp, fun u hu => hwo u (by simp at hu ⊢; rcases hu with h | h <;> simp [h]), by simp only [List.length_cons] at hsz ⊢; omega, fun H4 v hv s4 => ?_⟩
        have s5 := s3.trans s4
        refine ⟨_, _, rfl, _, rfl, rfl, decide (v = .non), rfl, ?_⟩
        rw [dp_non hv]
        cases ep : plainOfW (c :: r) with
        | none => exact qn (by rw [ep]; rfl) H4 s5
        | some d =>
          rw [ep] at q qn hv
          have hv : Dp K H4 v d := hv
          rw [show isNonD (optD (some d)) = false from plainOf_some ep]
          have fin : ∀ H5, Same H4 H5 → (decide (y = kDot) || isNameZ y) = true → ∀ u, Dp K H5 u (whatD y) → ∀ t, H5 t = none → Q (.ref t) (upd H5 t (.tup [.str kWhen, .str a, u, v])) := fun H5 s6 ey u hu t ht => by
            have s7 : Same H5 (upd H5 t (.tup [.str kWhen, .str a, u, v])) := same_new ht
            refine q _ _ ?_ (s1.trans (s5.trans (s6.trans s7)))
            rw [ey]
            exact .tup (SqT.of upd_same) (.cons (.str _) (.cons (.str a) (.cons (dp_same s7 _ _ hu) (.cons (dp_same (s6.trans s7) _ _ hv) .nil))))
          refine ⟨_, rfl, rfl, decide (V.str y = V.str kDot), rfl, ?_⟩
          rw [V_str_dec]
          by_cases ed : y = kDot
          · rw [decide_eq_true ed]
            refine ⟨_, rfl, p, _, 1, .str a, rfl, rfl, (ix s5 (i := 1) rfl).1, (ix s5 (i := 1) rfl).2, _, rfl, rfl, decide (V.str y = V.str kDot), rfl, ?_⟩
            rw [V_str_dec, decide_eq_true ed]
            exact ⟨_, rfl, by show 4 ≤ sizeLine; decide, fin H4 (Same.refl H4) (by rw [decide_eq_true ed]; rfl) .non (by rw [whatD, if_pos ed]; exact .non)⟩
          · rw [decide_eq_false ed]
            refine ⟨_, rfl, y, rfl, hi, fun H5 s6 => ⟨isNameZ y, rfl, ?_⟩⟩
            cases em : isNameZ y with
            | false => exact qn (by rw [decide_eq_false ed, em]; rfl) H5 (s5.trans s6)
            | true =>
              refine ⟨_, rfl, p, _, 1, .str a, rfl, rfl, (ix (s5.trans s6) (i := 1) rfl).1, (ix (s5.trans s6) (i := 1) rfl).2, _, rfl, rfl, decide (V.str y = V.str kDot), rfl, ?_⟩
              rw [V_str_dec, decide_eq_false ed]
              exact ⟨_, rfl, _, rfl, by show 4 ≤ sizeLine; decide, fin H5 s6 (by rw [em, Bool.or_true]) (.str y) (by rw [whatD, if_neg ed]; exact .str y)⟩
end
end RL

-- part W13
set_option Elab.async false
set_option linter.all false
set_option maxRecDepth 100000
set_option maxHeartbeats 4000000
/-! The walks: the law reads a text. -/
namespace RL
open PySem PySem.Spec PyProof.Rows L2 TL
section
variable {P : Program} {w : World} {K : PySem.W.Frag} {mg : Str → Option Value} {base : Heap}
def spPage (K : PySem.W.Frag) : Sp := fun vs H Q _ => ∃ z : Str, vs = [.str z] ∧ PgOk z ∧ ∀ H' v, Dp K H' v (toldZ z) → Same H H' → Q v H'
theorem ok_lread (T : Txt K mg) : DefOk P w K mg base CX0 4 "_law_read" ["_law_page"] (spPage K) := by
  have D_law_deed_of : DefOk P w K mg base CX0 3 "_law_deed_of" ["_law_line_here"] (spRead K fun z => optD (deedOfW (wordsZ z))) := ok_ldeed T
  refine mkDef T.d_LRead T.g__law_read scLRead (fun _ _ _ _ _ _ us hl => match us, hl with | [_], _ => rfl) (fun vs H Q E h => ?_) (fun cdv A outer s H vs Q E hr h => ?_)
  · obtain ⟨z, rfl, _⟩ := h
    rfl
  · obtain ⟨z, rfl, hz, q⟩ := h
    refine ⟨_, pss_cons (ps_par (i := 1) (j := 2) rfl scLRead.nd rfl rfl (by decide) rfl rfl (pa_cons (pe_split (pv 0) pe_str) (pa_cons (pe_lst pa_nil) pa_nil)) (by rfl)) (
      pss_cons (ps_if (pt_cmpR op_eq (pv 0) pe_str (nomark _)) (pss_one (ps_ret (pe_tup pa_nil))) pss_nil) (
      pss_cons (ps_for PassesOwn.never rfl (pi_range1 (by rfl) T.b_range (pa_cons (pe_callB call_len (by rfl) T.b_len (by decide +kernel) (pa_cons (pv 1) pa_nil)) pa_nil)) (pg_name (i := 3) scLRead.nd rfl (by first | exact Or.inl rfl | exact Or.inr rfl)) (pss_cons (ps_set (i := 4) scLRead.nd rfl (by first | exact Or.inl rfl | exact Or.inr rfl) (pe_def D_law_deed_of (hr.mono (by first | decide | exact Nat.le_refl _)) (by rfl) pass0 (pa_cons (pe_ix (r := rIxL K) ix_list (pv 1) (pv 3) (fun _ _ => rfl)) pa_nil))) (pss_cons (ps_if (pt_cmpR op_isN (pv 4) pe_non (nomark _)) (pss_one (ps_ret (pv 3))) pss_nil) (pss_one (ps_expr (pe_bm PySem.F.plainAttrs_list PySem.F.slot_list_append PySem.F.type_list_append mt_append (pv 2) (pa_cons (pv 4) pa_nil))))))) (
      pss_one (ps_ret (pe_ifExp (pt_cmpR op_lt (pe_callB call_len (by rfl) T.b_len (by decide +kernel) (pa_cons (pv 2) pa_nil)) pe_int (nomark _)) (pe_callTy call_tuple_of (by rfl) T.b_tuple (by decide +kernel) (pa_cons (pv 2) pa_nil)) (pe_lst (pa_cons pe_int pa_nil))))))), ?_⟩
    have hz1 := hz.size
    refine ⟨_, rfl, ⟨_, rfl⟩, z, cLine, rfl, rfl, by decide, by rw [sizeLine_eq]; omega, fun p hp => ⟨Nat.zero_le _, fun D hD => ?_⟩⟩
    have s1 : Same H (upd H p (.lst ((Txt.split z cLine).map V.str))) := same_new hp
    have hL : (upd H p (.lst ((Txt.split z cLine).map V.str))) p = some (.lst ((Txt.split z cLine).map V.str)) := upd_same
    have hlo : ∀ y ∈ Txt.split z cLine, ZOk y := fun y hy => hz.zline hy
    have hln : (Txt.split z cLine).length ≤ 100001 := hz.lines
    have et : z ≠ zNone → toldZ z = toldL ((Txt.split z cLine).map readDeedZ) := fun h => if_neg h
    revert s1 hL hlo hln et hD
    generalize Txt.split z cLine = ls
    intro hD s1 hL hlo hln et
    revert s1 hL hD
    generalize upd H p (.lst (ls.map V.str)) = H1
    intro hD s1 hL
    have s2 : Same H1 (upd H1 D (.lst [])) := same_new hD
    have eD : (upd H1 D (.lst [])) D = some (.lst []) := upd_same
    have hpD : p ≠ D := ne_of_none hL hD
    have hD0 : H D = none := s1.free hD
    have back : ∀ {H' : Hp}, Grow D (upd H1 D (.lst [])) H' → Same H H' := fun g b o hb => by
      have : b ≠ D := ne_of_none hb hD0
      exact g b o this (by rw [upd_ne this]; exact s1 b o hb)
    have eP : (upd H1 D (.lst [])) p = some (.lst (ls.map V.str)) := s2 _ _ hL
    revert eD eP back
    generalize upd H1 D (.lst []) = H2
    intro eD back eP
    have g0 := Grow.refl D H2
    refine ⟨_, _, rfl, _, rfl, rfl, decide (V.str z = V.str zNone), rfl, ?_⟩
    rw [V_str_dec]
    by_cases ez : z = zNone
    · rw [decide_eq_true ez]
      have e0 : toldZ z = .tuple [] := if_pos ez
      refine ⟨Nat.zero_le _, fun t ht => q _ _ (by rw [e0]; exact .tup (SqT.of upd_same) .nil) ((back g0).new ht)⟩
    · rw [decide_eq_false ez]
      have et := et ez
      have ix : ∀ {H' : Hp} (g : Grow D H2 H') {i : Nat} {u : Str}, ls[i]? = some u → SqL K H' p (ls.map V.str) ∧ atI (ls.map V.str) (i : Int) = some (.str u) := by
        intro H' g i u e
        exact ⟨SqL.of (g _ _ hpD eP), atI_nat (by rw [List.getElem?_map, e]; rfl)⟩
      refine ⟨_, rfl, .ref p, ls.length, rfl, .inl ⟨_, SqL.of eP, by rw [List.length_map]⟩, _, rfl, by omega, by omega, ?_⟩
      refine for_range (lo := 0) (n := ((ls.length : Nat) : Int).toNat) (fun i σ H' => (∃ v3 v4, σ = [some (.str z), some (.ref p), some (.ref D), v3, v4]) ∧ Grow D H2 H' ∧ (∃ vs, H' D = some (.lst vs) ∧ DpAll K H' vs ((ls.take i).map readDeedZ)) ∧ ∀ k y, k < i → ls[k]? = some y → deedD (readDeedZ y) = true)
        ⟨⟨_, _, rfl⟩, g0, ⟨[], eD, .nil⟩, fun k y hk => absurd hk (Nat.not_lt_zero _)⟩ ?_ ?_
      · rintro i σ H3 hi ⟨⟨v3, v4, rfl⟩, g3, ⟨vs, e3, hd⟩, hk⟩
        have hi2 : i < ls.length := by omega
        obtain ⟨y, hy⟩ : ∃ y, ls[i]? = some y := ⟨ls[i], List.getElem?_eq_getElem hi2⟩
        have hyo := hlo y (List.mem_of_getElem? hy)
        refine ⟨_, rfl, _, rfl, p, _, 0 + (i : Int), .str y, rfl, rfl, (ix g3 hy).1, by rw [Int.zero_add]; exact (ix g3 hy).2, y, rfl, hyo, fun H4 v hv s4 => ?_⟩
        have hv : Dp K H4 v (optD (deedOfW (wordsZ y))) := hv
        rw [agreeZ hyo.ascii hyo.few] at hv
        have g4 := g3.same s4
        have e4 := s4 _ _ e3
        have hd4 := dpAll_same s4 _ _ hd
        refine ⟨_, rfl, rfl, decide (v = .non), rfl, ?_⟩
        rw [dp_non hv]
        cases eb : deedD (readDeedZ y) with
        | false =>
          rw [eb] at hv
          have e9 : toldL (ls.map readDeedZ) = .int (i : Nat) := by
            unfold toldL
            rw [told_bad (i := i) (d := readDeedZ y) (fun k e hki hke => by
              rw [List.getElem?_map] at hke
              cases e1 : ls[k]? with
              | none =>
                rw [e1] at hke
                cases hke
              | some y1 =>
                rw [e1] at hke
                rw [← Option.some.inj hke]
                exact hk k y1 hki e1) (by rw [List.getElem?_map, hy]; rfl) eb]
          refine ⟨_, rfl, q H4 _ ?_ (back g4)⟩
          rw [et, e9, Int.zero_add]
          exact .int _
        | true =>
          rw [eb] at hv
          have hv : Dp K H4 v (readDeedZ y) := hv
          have enn : isNonD (optD (yes true (readDeedZ y))) = false := by
            show isNonD (readDeedZ y) = false
            cases er : readDeedZ y with
            | none =>
              rw [er] at eb
              cases eb
            | _ => rfl
          rw [enn]
          have nl : ((ls.take i).map readDeedZ).all noL = true := List.all_eq_true.mpr fun d hd => by
            obtain ⟨u, _, rfl⟩ := List.mem_map.mp hd
            exact noL_read u
          have lv := dpAll_len hd
          rw [List.length_map] at lv
          have l2 := List.length_take_le i ls
          refine ⟨_, rfl, .inl ⟨rfl, vs, SqL.of e4⟩, _, rfl, D, vs, v, rfl, rfl, e4, by rw [sizeLine_eq]; omega, ?_⟩
          refine ⟨⟨_, _, rfl⟩, g4.at_, ⟨vs ++ [v], upd_same, ?_⟩, fun k y1 hki hke => ?_⟩
          · rw [take_snoc _ hy]
            exact dpAll_snoc (dpAll_upd e4 nl hd4) (dp_upd e4 (noL_read y) hv)
          · by_cases e0 : k = i
            · subst e0
              rw [hy] at hke
              rw [← Option.some.inj hke]
              exact eb
            · exact hk k y1 (by omega) hke
      · rintro σ H3 ⟨⟨v3, v4, rfl⟩, g3, ⟨vs, e3, hd⟩, hk⟩
        have hn : ((ls.length : Nat) : Int).toNat = ls.length := by omega
        rw [hn, List.take_length] at hd
        have lv := dpAll_len hd
        have good : ∀ d ∈ ls.map readDeedZ, deedD d = true := fun d hd2 => by
          obtain ⟨y, hy, rfl⟩ := List.mem_map.mp hd2
          obtain ⟨k, hk2, ek⟩ := List.getElem_of_mem hy
          exact hk k y (by omega) (by rw [List.getElem?_eq_getElem hk2, ek])
        rw [toldL_good good] at et
        refine ⟨_, rfl, .ref D, vs.length, rfl, .inl ⟨_, SqL.of e3, rfl⟩, _, _, rfl, rfl, decide (((vs.length : Nat) : Int) < 13), rfl, ?_⟩
        by_cases h12 : (ls.map readDeedZ).length ≤ 12
        · rw [if_pos h12] at et
          rw [decide_eq_true (by omega)]
          refine ⟨_, rfl, D, vs, rfl, .inl ⟨SqL.of e3, fun t ht => q _ _ ?_ ((back g3).new ht)⟩⟩
          rw [et]
          exact .tup (SqT.of upd_same) (dpAll_same (same_new ht) _ _ hd)
        · rw [if_neg h12] at et
          rw [decide_eq_false (by omega)]
          refine ⟨by show 1 ≤ sizeLine; decide, fun t ht => q _ _ ?_ ((back g3).new ht)⟩
          rw [et]
          exact .lst (SqL.of upd_same) (.cons (.int 12) .nil)
end
end RL

-- part W14
set_option Elab.async false
set_option linter.all false
set_option maxRecDepth 100000
set_option maxHeartbeats 4000000
/-! The walks: changes of a text. -/
namespace RL
open PySem PySem.Spec PyProof.Rows L2 TL
def sg1 : Str := " !\"#$&'()*+,-./0123456789:;<=>?@ABCDEFGHIJKLMNOPQRSTUVWXYZ[\\]^_`"
def sg2 : Str := "abcdefghijklmnopqrstuvwxyz{|}~\n\t"
def sgs : Str := sg1 ++ sg2
theorem sgs_ascii : ∀ c ∈ tl sgs, c < 128 := by decide +kernel
theorem sgs_len : sgs.length = 96 := by decide +kernel
def wd1 : List Str := ["peg", "hang", "take", "look", "fetch", "pull", "walk", "when", "near", "far", "sock", "a", "no", "."]
def wd2 : List Str := [".:", "a:", "", ":", "1", "-1", "0", "-0", "07", "40", "41", "-40", "-41", "6", "7", "-6", "-7"]
def wd3 : List Str := ["+3", "3.", "--2", "12345678901234567890", "mid", "Near", "abcdefghi", "None", "of", "but", "d"]
def wd4 : List Str := ["/", "(", ")"]
def wds : List Str := ((wd1 ++ wd2) ++ wd3) ++ wd4
theorem wds_ok : ∀ z ∈ wds, (∀ c ∈ tl z, c < 128) ∧ (tl z).length ≤ 25 := by decide +kernel
theorem sumL_sep {s : Nat} : ∀ ps : List Str, ps ≠ [] → sumL ps = (joinL [s] (ps.map tl)).length + 1
  | [], h => absurd rfl h
  | [p], _ => rfl
  | p :: q :: r, _ => by
    show (tl p).length + 1 + sumL (q :: r) = (tl p ++ ([s] ++ joinL [s] ((q :: r).map tl))).length + 1
    rw [sumL_sep (s := s) (q :: r) (by simp)]
    simp only [List.length_append, List.length_cons, List.length_nil]
    omega
theorem sumL_size : ∀ ps : List Str, (ps.map (·.length)).sum + ps.length * 1 = sumL ps
  | [] => rfl
  | p :: r => by
    have ih := sumL_size r
    show (p.length + (r.map (·.length)).sum) + (r.length + 1) * 1 = (tl p).length + 1 + sumL r
    rw [len_tl]
    omega
theorem sumL_mem {ps : List Str} {p : Str} (h : p ∈ ps) : (tl p).length + 1 ≤ sumL ps := by
  induction ps with
  | nil => cases h
  | cons a r ih =>
    show _ ≤ (tl a).length + 1 + sumL r
    rcases List.mem_cons.mp h with e | h
    · subst e
      omega
    · have := ih h
      omega
theorem sumL_ge : ∀ ps : List Str, ps.length ≤ sumL ps
  | [] => Nat.zero_le _
  | p :: r => by
    have ih := sumL_ge r
    show r.length + 1 ≤ (tl p).length + 1 + sumL r
    omega
section
variable {P : Program} {w : World} {K : PySem.W.Frag} {mg : Str → Option Value} {base : Heap}
def spDrawn : Sp := fun vs H Q _ => ∃ (p : Addr) (n : Nat), vs = [.ref p] ∧ Pot H p n ∧ n ≤ 900000 ∧ ∀ H' z, Ascii (tl z) → (tl z).length ≤ 25 → Grow p H H' → Pot H' p (n + 10) → Q (.str z) H'
theorem ok_sign (T : Txt K mg) : DefOk P w K mg base CX0 2 "_law_sign" ["_law_pot_here"] spDrawn := by
  have D_law_dip : DefOk P w K mg base CX0 1 "_law_dip" ["_law_pot_here", "_law_many"] spDip := ok_dip T
  refine mkDef T.d_LSign T.g__law_sign scLSign (fun _ _ _ _ _ _ us hl => match us, hl with | [_], _ => rfl) (fun vs H Q E h => ?_) (fun cdv A outer s H vs Q E hr h => ?_)
  · obtain ⟨p, n, rfl, _⟩ := h
    rfl
  · obtain ⟨p, n, rfl, hP, hn, q⟩ := h
    refine ⟨_, pss_cons (ps_set (i := 1) scLSign.nd rfl (by first | exact Or.inl rfl | exact Or.inr rfl) pe_str) (
      pss_cons (ps_set (i := 1) scLSign.nd rfl (by first | exact Or.inl rfl | exact Or.inr rfl) (pe_op op_add_str (pv 1) pe_str)) (
      pss_one (ps_ret (pe_ix (r := rIxS) ix_str (pv 1) (pe_def D_law_dip (hr.mono (by first | decide | exact Nat.le_refl _)) (by rfl) pass0 (pa_cons (pv 0) (pa_cons pe_int pa_nil))) (fun _ _ => rfl))))), ?_⟩
    refine ⟨_, rfl, sg1, sg2, rfl, rfl, by decide, ?_⟩
    refine ⟨_, rfl, _, rfl, p, 96, n, rfl, hP, by omega, by decide, by decide, fun H1 r1 a1 b1 g1 P1 => ?_⟩
    obtain ⟨c, hc, hat⟩ := pickC (z := sgs) a1 (by rw [sgs_len]; exact b1)
    refine ⟨sgs, r1, c, rfl, rfl, by decide +kernel, hat, q H1 ⟨#[c]⟩ (fun d hd => ?_) (by show 1 ≤ 25; decide) g1 (P1.mono (by omega))⟩
    have e : d = c := by simpa using hd
    rw [e]
    exact sgs_ascii c hc
theorem cat_step {p l : Addr} {n : Nat} {H Hc : Hp} {ws ws2 : List Str} {Q : VK} (g : Grow p H Hc) (P1 : Pot Hc p n) (e : Hc l = some (.lst (ws.map V.str))) (hl : ws.length + ws2.length ≤ sizeLine)
    (k : ∀ H' l3, Grow p H H' → Pot H' p n → H' l3 = some (.lst ((ws ++ ws2).map V.str)) → Q (.ref l3) H') : ∀ l2, Hc l2 = none → rCat (.ref l) (.ref l2) (upd Hc l2 (.lst (ws2.map V.str))) Q := fun l2 h2 => by
  have P2 : Pot (upd Hc l2 (.lst (ws2.map V.str))) p n := P1.new h2
  refine ⟨l, l2, _, _, rfl, rfl, (same_new h2) _ _ e, upd_same, by rw [List.length_map, List.length_map]; exact hl, fun l3 h3 => k _ l3 ((g.new (P1.ne h2) h2).new (P2.ne h3) h3) (P2.new h3) ?_⟩
  rw [upd_same, List.map_append]
theorem ok_word (T : Txt K mg) : DefOk P w K mg base CX0 2 "_law_word" ["_law_pot_here"] spDrawn := by
  have D_law_dip : DefOk P w K mg base CX0 1 "_law_dip" ["_law_pot_here", "_law_many"] spDip := ok_dip T
  refine mkDef T.d_LWord T.g__law_word scLWord (fun _ _ _ _ _ _ us hl => match us, hl with | [_], _ => rfl) (fun vs H Q E h => ?_) (fun cdv A outer s H vs Q E hr h => ?_)
  · obtain ⟨p, n, rfl, _⟩ := h
    rfl
  · obtain ⟨p, n, rfl, hP, hn, q⟩ := h
    refine ⟨_, pss_cons (ps_set (i := 1) scLWord.nd rfl (by first | exact Or.inl rfl | exact Or.inr rfl) (pe_lst (pa_cons pe_str (pa_cons pe_str (pa_cons pe_str (pa_cons pe_str (pa_cons pe_str (pa_cons pe_str (pa_cons pe_str (pa_cons pe_str (pa_cons pe_str (pa_cons pe_str (pa_cons pe_str (pa_cons pe_str (pa_cons pe_str (pa_cons pe_str pa_nil)))))))))))))))) (
      pss_cons (ps_set (i := 1) scLWord.nd rfl (by first | exact Or.inl rfl | exact Or.inr rfl) (pe_op op_cat (pv 1) (pe_lst (pa_cons pe_str (pa_cons pe_str (pa_cons pe_str (pa_cons pe_str (pa_cons pe_str (pa_cons pe_str (pa_cons pe_str (pa_cons pe_str (pa_cons pe_str (pa_cons pe_str (pa_cons pe_str (pa_cons pe_str (pa_cons pe_str (pa_cons pe_str (pa_cons pe_str (pa_cons pe_str (pa_cons pe_str pa_nil)))))))))))))))))))) (
      pss_cons (ps_set (i := 1) scLWord.nd rfl (by first | exact Or.inl rfl | exact Or.inr rfl) (pe_op op_cat (pv 1) (pe_lst (pa_cons pe_str (pa_cons pe_str (pa_cons pe_str (pa_cons pe_str (pa_cons pe_str (pa_cons pe_str (pa_cons pe_str (pa_cons pe_str (pa_cons pe_str (pa_cons pe_str (pa_cons pe_str pa_nil)))))))))))))) (
      pss_cons (ps_set (i := 1) scLWord.nd rfl (by first | exact Or.inl rfl | exact Or.inr rfl) (pe_op op_cat (pv 1) (pe_lst (pa_cons pe_str (pa_cons pe_str (pa_cons pe_str pa_nil)))))) (
      pss_one (ps_ret (pe_ix (r := rIxL K) ix_list (pv 1) (pe_def D_law_dip (hr.mono (by first | decide | exact Nat.le_refl _)) (by rfl) pass0 (pa_cons (pv 0) (pa_cons (pe_callB call_len (by rfl) T.b_len (by decide +kernel) (pa_cons (pv 1) pa_nil)) pa_nil))) (fun _ _ => rfl))))))), ?_⟩
    refine ⟨by show 14 ≤ sizeLine; decide, fun l1 h1 => ?_⟩
    have g1 : Grow p H (upd H l1 (.lst (wd1.map V.str))) := (Grow.refl p H).new (hP.ne h1) h1
    have P1 : Pot (upd H l1 (.lst (wd1.map V.str))) p n := hP.new h1
    have e1 : (upd H l1 (.lst (wd1.map V.str))) l1 = some (.lst (wd1.map V.str)) := upd_same
    refine ⟨_, rfl, by show 17 ≤ sizeLine; decide, cat_step (ws2 := wd2) g1 P1 e1 (by show 14 + 17 ≤ sizeLine; decide) fun H2 l2 g2 P2 e2 => ?_⟩
    refine ⟨_, rfl, by show 11 ≤ sizeLine; decide, cat_step (ws2 := wd3) g2 P2 e2 (by show 31 + 11 ≤ sizeLine; decide) fun H3 l3 g3 P3 e3 => ?_⟩
    refine ⟨_, rfl, by show 3 ≤ sizeLine; decide, cat_step (ws2 := wd4) g3 P3 e3 (by show 42 + 3 ≤ sizeLine; decide) fun H4 l4 g4 P4 e4 => ?_⟩
    refine ⟨_, rfl, _, rfl, _, rfl, .ref l4, 45, rfl, .inl ⟨_, SqL.of e4, rfl⟩, p, 45, n, rfl, P4, by omega, by decide, by decide, fun H5 r5 a5 b5 g5 P5 => ?_⟩
    have hL : H5 l4 = some (.lst (wds.map V.str)) := g5 _ _ (fun e => by
      obtain ⟨x, y, z, h, _⟩ := P4
      rw [← e, e4] at h
      cases h) e4
    obtain ⟨z, hz, hat⟩ := pick (ws := wds) a5 b5
    obtain ⟨z1, z2⟩ := wds_ok z hz
    exact ⟨l4, _, r5, _, rfl, rfl, SqL.of hL, hat, q H5 z z1 z2 (g4.trans g5) (P5.mono (by omega))⟩
def spLines (K : PySem.W.Frag) : Sp := fun vs H Q _ => ∃ (p r : Addr) (n : Nat) (ls : List Str), vs = [.ref p, .ref r] ∧ Pot H p n ∧ n ≤ 900000 ∧ H r = some (.lst (ls.map V.str)) ∧ r ≠ p ∧ ls ≠ [] ∧ sumL ls ≤ 200000 ∧
  ∀ H' y ls', H' y = some (.lst (ls'.map V.str)) → (∀ l ∈ ls', l ∈ ls ∨ l = zNone) → sumL ls' ≤ 3 * sumL ls + 1 → Grow p H H' → Pot H' p (n + 10) → Q (.ref y) H'
theorem ok_lines (T : Txt K mg) : DefOk P w K mg base CX0 2 "_law_lines_changed" ["_law_pot_here", "_law_lines"] (spLines K) := by
  have D_law_dip : DefOk P w K mg base CX0 1 "_law_dip" ["_law_pot_here", "_law_many"] spDip := ok_dip T
  refine mkDef T.d_LLinesChanged T.g__law_lines_changed scLLinesChanged (fun _ _ _ _ _ _ us hl => match us, hl with | [_, _], _ => rfl) (fun vs H Q E h => ?_) (fun cdv A outer s H vs Q E hr h => ?_)
  · obtain ⟨p, r, n, ls, rfl, _⟩ := h
    rfl
  · obtain ⟨p, r, n, ls, rfl, hP, hn, hL, hrp, hne, hsm, q⟩ := h
    refine ⟨_, pss_cons (ps_par (i := 2) (j := 3) rfl scLLinesChanged.nd rfl rfl (by decide) rfl rfl (pa_cons (pe_def D_law_dip (hr.mono (by first | decide | exact Nat.le_refl _)) (by rfl) pass0 (pa_cons (pv 0) (pa_cons pe_int pa_nil))) (pa_cons (pe_def D_law_dip (hr.mono (by first | decide | exact Nat.le_refl _)) (by rfl) pass0 (pa_cons (pv 0) (pa_cons (pe_callB call_len (by rfl) T.b_len (by decide +kernel) (pa_cons (pv 1) pa_nil)) pa_nil))) pa_nil)) (by rfl)) (
      pss_cons (ps_if (PW.pt (pw_and (pt_cmpR op_eq (pv 2) pe_int (nomark _)) (pw_and1 (pt_cmpR op_gt (pe_callB call_len (by rfl) T.b_len (by decide +kernel) (pa_cons (pv 1) pa_nil)) pe_int (nomark _))))) (pss_one (ps_ret (pe_op op_cat (pe_slice sl_list (pv 1) po_none (po_some (pv 3))) (pe_slice sl_list (pv 1) (po_some (pe_op op_add (pv 3) pe_int)) po_none)))) pss_nil) (
      pss_cons (ps_if (pt_cmpR op_eq (pv 2) pe_int (nomark _)) (pss_one (ps_ret (pe_op op_cat (pe_slice sl_list (pv 1) po_none (po_some (pe_op op_add (pv 3) pe_int))) (pe_slice sl_list (pv 1) (po_some (pv 3)) po_none)))) pss_nil) (
      pss_cons (ps_if (pt_cmpR op_eq (pv 2) pe_int (nomark _)) (pss_cons (ps_par (i := 4) (j := 5) rfl scLLinesChanged.nd rfl rfl (by decide) rfl rfl (pa_cons (pe_callTy call_list_of (by rfl) T.b_list (by decide +kernel) (pa_cons (pv 1) pa_nil)) (pa_cons (pe_def D_law_dip (hr.mono (by first | decide | exact Nat.le_refl _)) (by rfl) pass0 (pa_cons (pv 0) (pa_cons (pe_callB call_len (by rfl) T.b_len (by decide +kernel) (pa_cons (pv 1) pa_nil)) pa_nil))) pa_nil)) (by rfl)) (pss_cons (ps_asg (pe_tup (pa_cons (pe_ix (r := rIxL K) ix_list (pv 1) (pv 5) (fun _ _ => rfl)) (pa_cons (pe_ix (r := rIxL K) ix_list (pv 1) (pv 3) (fun _ _ => rfl)) pa_nil))) (pg_tup rfl (pgs_cons (pg_sub (pv 4) (pv 3) set_list) (pgs_cons (pg_sub (pv 4) (pv 5) set_list) pgs_nil)))) (pss_one (ps_ret (pv 4))))) pss_nil) (
      pss_cons (ps_set (i := 3) scLLinesChanged.nd rfl (by first | exact Or.inl rfl | exact Or.inr rfl) (pe_def D_law_dip (hr.mono (by first | decide | exact Nat.le_refl _)) (by rfl) pass0 (pa_cons (pv 0) (pa_cons (pe_op op_add (pe_callB call_len (by rfl) T.b_len (by decide +kernel) (pa_cons (pv 1) pa_nil)) pe_int) pa_nil)))) (
      pss_one (ps_ret (pe_op op_cat (pe_op op_cat (pe_slice sl_list (pv 1) po_none (po_some (pv 3))) (pe_lst (pa_cons pe_str pa_nil))) (pe_slice sl_list (pv 1) (po_some (pv 3)) po_none)))))))), ?_⟩
    have hge := sumL_ge ls
    have hpos : 1 ≤ ls.length := by
      cases ls with
      | nil => exact absurd rfl hne
      | cons a b => exact Nat.succ_pos _
    refine ⟨_, rfl, p, 4, n, rfl, hP, by omega, by decide, by decide, fun H1 r1 a1 b1 g1 P1 => ?_⟩
    refine ⟨_, rfl, _, rfl, .ref r, ls.length, rfl, .inl ⟨_, SqL.of (g1 _ _ hrp hL), by rw [List.length_map]⟩, p, (ls.length : Int), n + 1, rfl, P1, by omega, by omega, by omega, fun H2 r2 a2 b2 g2 P2 => ?_⟩
    obtain ⟨j, rfl⟩ : ∃ j : Nat, r2 = (j : Int) := ⟨r2.toNat, by omega⟩
    have hj : j < ls.length := by omega
    have g3 := g1.trans g2
    have e2 := g3 _ _ hrp hL
    have fin : ∀ {H' : Hp} {y : Addr} {ls' : List Str}, Grow p H2 H' → Pot H' p (n + 10) → H' y = some (.lst (ls'.map V.str)) → (∀ l ∈ ls', l ∈ ls ∨ l = zNone) → sumL ls' ≤ 3 * sumL ls + 1 → Q (.ref y) H' := fun g P' e m sm => q _ _ _ e m sm (g3.trans g) P'
    have P2o := P2
    have P2 : Pot H2 p (n + 10) := P2.mono (by omega)
    have from1 : ∀ k : Nat, cutV (ls.map V.str) (some (k : Int)) none = (ls.drop k).map V.str := fun k => by rw [cutV_from, List.map_drop]
    have to1 : ∀ k : Nat, cutV (ls.map V.str) none (some (k : Int)) = (ls.take k).map V.str := fun k => by rw [cutV_to, List.map_take]
    have st := fun k => sumL_take ls k
    have two : ∀ a b : Nat, ∀ c1, H2 c1 = none → ∀ c2, upd H2 c1 (.lst ((ls.take a).map V.str)) c2 = none → rCat (.ref c1) (.ref c2) (upd (upd H2 c1 (.lst ((ls.take a).map V.str))) c2 (.lst ((ls.drop b).map V.str))) Q := fun a b c1 h1 c2 h2 => by
      have ga : Grow p H2 (upd H2 c1 (.lst ((ls.take a).map V.str))) := (Grow.refl p H2).new (P2.ne h1) h1
      refine cat_step ga (P2.new h1) upd_same ?_ (fun H' y g P' e => fin g P' e (fun l hl => .inl ?_) ?_) c2 h2
      · rw [sizeLine_eq, List.length_drop]
        have := List.length_take_le' a ls
        omega
      · rcases List.mem_append.mp hl with h | h
        · exact List.take_subset _ _ h
        · exact List.drop_subset _ _ h
      · rw [sumL_app]
        have := st a
        have := st b
        omega
    refine ⟨_, _, rfl, _, rfl, rfl, decide (V.int r1 = V.int 0), rfl, ?_⟩
    rw [V_int_dec]
    have S2 : ∀ {H' : Hp}, Grow p H2 H' → SqL K H' r (ls.map V.str) := fun g => SqL.of (g _ _ hrp e2)
    have G0 := Grow.refl p H2
    have ixn : ∀ {i m : Nat}, i < m → ixN m (i : Int) = some i := fun {i m} h => by
      unfold ixN
      rw [if_pos (by omega), if_pos (by omega)]
      rfl
    by_cases h0 : r1 = 0
    all_goals first
      | rw [decide_eq_false h0]
      | (rw [decide_eq_true h0]
         refine ⟨_, rfl, .ref r, ls.length, rfl, .inl ⟨_, S2 G0, by rw [List.length_map]⟩, _, _, rfl, rfl, decide ((1 : Int) < (ls.length : Nat)), rfl, ?_⟩
         by_cases hl1 : (1 : Int) < (ls.length : Nat)
         · rw [decide_eq_true hl1]
           refine ⟨_, rfl, _, rfl, _, rfl, r, _, rfl, S2 G0, fun c1 h1 => ?_⟩
           rw [to1]
           refine ⟨_, rfl, _, rfl, _, _, rfl, rfl, _, rfl, r, _, rfl, (same_new h1).seq (S2 G0), fun c2 h2 => ?_⟩
           rw [show ((j : Int) + 1) = ((j + 1 : Nat) : Int) from rfl, from1]
           exact two j (j + 1) c1 h1 c2 h2
         rw [decide_eq_false hl1])
    all_goals
      refine ⟨_, rfl, rfl, decide (V.int r1 = V.int 1), rfl, ?_⟩
      rw [V_int_dec]
      by_cases h1 : r1 = 1
      · rw [decide_eq_true h1]
        refine ⟨_, rfl, _, rfl, _, _, rfl, rfl, _, rfl, r, _, rfl, S2 G0, fun c1 h1 => ?_⟩
        rw [show ((j : Int) + 1) = ((j + 1 : Nat) : Int) from rfl, to1]
        refine ⟨_, rfl, _, rfl, _, rfl, r, _, rfl, (same_new h1).seq (S2 G0), fun c2 h2 => ?_⟩
        rw [from1]
        exact two (j + 1) j c1 h1 c2 h2
      rw [decide_eq_false h1]
      refine ⟨_, rfl, rfl, decide (V.int r1 = V.int 2), rfl, ?_⟩
      rw [V_int_dec]
      by_cases h2 : r1 = 2
      · rw [decide_eq_true h2]
        refine ⟨_, rfl, r, _, rfl, .inl (S2 G0), fun f hf => ?_⟩
        have ga : Grow p H2 (upd H2 f (.lst (ls.map V.str))) := G0.new (P2.ne hf) hf
        have Pa : Pot (upd H2 f (.lst (ls.map V.str))) p (n + 2) := (P2o.mono (by omega)).new hf
        have ef : (upd H2 f (.lst (ls.map V.str))) f = some (.lst (ls.map V.str)) := upd_same
        have nfp : f ≠ p := P2.ne hf
        revert ga Pa ef
        generalize upd H2 f (.lst (ls.map V.str)) = H3
        intro ga Pa ef
        refine ⟨_, rfl, _, rfl, .ref r, ls.length, rfl, .inl ⟨_, S2 ga, by rw [List.length_map]⟩, p, (ls.length : Int), n + 2, rfl, Pa, by omega, by omega, by omega, fun H4 r4 a4 b4 g4 P4 => ?_⟩
        obtain ⟨k, rfl⟩ : ∃ k : Nat, r4 = (k : Int) := ⟨r4.toNat, by omega⟩
        have hk : k < ls.length := by omega
        have g5 := ga.trans g4
        have ef4 := g4 _ _ nfp ef
        have at_ : ∀ {i : Nat} (h : i < ls.length), atI (ls.map V.str) (i : Int) = some (.str ls[i]) := fun {i} h => atI_nat (by rw [List.getElem?_map, List.getElem?_eq_getElem h]; rfl)
        refine ⟨_, _, rfl, _, rfl, _, rfl, r, _, (k : Int), .str ls[k], rfl, rfl, S2 g5, at_ hk, _, rfl, _, rfl, r, _, (j : Int), .str ls[j], rfl, rfl, S2 g5, at_ hj, by show 2 ≤ sizeLine; decide, fun t ht => ?_⟩
        have g6 := g5.new (P4.ne ht) ht (o := .tup [.str ls[k], .str ls[j]])
        have P6 : Pot (upd H4 t (.tup [.str ls[k], .str ls[j]])) p (n + 10) := (P4.new ht).mono (by omega)
        have eft : (upd H4 t (.tup [.str ls[k], .str ls[j]])) f = some (.lst (ls.map V.str)) := (same_new ht) _ _ ef4
        refine ⟨t, _, rfl, SqT.of upd_same, rfl, _, _, rfl, _, rfl, _, rfl, f, _, (j : Int), j, rfl, rfl, eft, by rw [List.length_map]; exact ixn hj, _, _, rfl, _, rfl, _, rfl, f, _, (k : Int), k, rfl, rfl, upd_same, by rw [List.length_set, List.length_map]; exact ixn hk, rfl, ?_⟩
        refine ⟨_, rfl, fin (ls' := (ls.set j ls[k]).set k ls[j]) ?_ ?_ ?_ (fun l hl => .inl ?_) ?_⟩
        · intro b o hb e
          have hb' := g6 b o hb e
          by_cases hbf : b = f
          · rw [hbf, hf] at e
            cases e
          · rw [upd_ne hbf, upd_ne hbf]
            exact hb'
        · exact (P6.upd nfp.symm).upd nfp.symm
        · rw [upd_same, List.map_set, List.map_set]
        · rcases List.mem_or_eq_of_mem_set hl with h | h
          · rcases List.mem_or_eq_of_mem_set h with h | h
            · exact h
            · rw [h]
              exact List.getElem_mem _
          · rw [h]
            exact List.getElem_mem _
        · have x1 := sumL_set (ls.set j ls[k]) k ls[j]
          have x2 := sumL_set ls j ls[k]
          have x3 := sumL_mem (List.getElem_mem hk)
          have x4 := sumL_mem (List.getElem_mem hj)
          omega
      rw [decide_eq_false h2]
      refine ⟨_, rfl, _, rfl, .ref r, ls.length, rfl, .inl ⟨_, S2 G0, by rw [List.length_map]⟩, _, _, rfl, rfl, p, _, n + 2, rfl, P2o.mono (by omega), by omega, by omega, by omega, fun H4 r4 a4 b4 g4 P4 => ?_⟩
      obtain ⟨k, rfl⟩ : ∃ k : Nat, r4 = (k : Int) := ⟨r4.toNat, by omega⟩
      refine ⟨_, rfl, _, rfl, _, rfl, r, _, rfl, S2 g4, fun c1 hc1 => ?_⟩
      rw [to1]
      have ga := g4.new (P4.ne hc1) hc1 (o := .lst ((ls.take k).map V.str))
      refine ⟨by show 1 ≤ sizeLine; decide, cat_step (ws2 := [zNone]) ga (P4.new hc1) upd_same ?_ fun H5 c3 g5 P5 e5 => ?_⟩
      · rw [sizeLine_eq]
        have := List.length_take_le' k ls
        show (ls.take k).length + 1 ≤ _
        omega
      refine ⟨_, rfl, _, rfl, _, rfl, r, _, rfl, S2 g5, fun c4 hc4 => ?_⟩
      rw [from1]
      refine cat_step g5 P5 e5 ?_ (fun H6 y g6 P6 e6 => fin g6 (P6.mono (by omega)) e6 (fun l hl => ?_) ?_) c4 hc4
      · rw [sizeLine_eq, List.length_drop, List.length_append]
        have := List.length_take_le' k ls
        show (ls.take k).length + 1 + _ ≤ _
        omega
      · rcases List.mem_append.mp hl with h | h
        · rcases List.mem_append.mp h with h | h
          · exact .inl (List.take_subset _ _ h)
          · exact .inr (List.mem_singleton.mp h)
        · exact .inl (List.drop_subset _ _ h)
      · rw [sumL_app, sumL_app]
        have := st k
        show sumL (ls.take k) + 1 + sumL (ls.drop k) ≤ _
        omega
end
end RL

-- part W15
set_option Elab.async false
set_option linter.all false
set_option maxRecDepth 100000
set_option maxHeartbeats 4000000
/-! The walks: a change of a text. -/
namespace RL
open PySem PySem.Spec PyProof.Rows L2 TL
section
variable {P : Program} {w : World} {K : PySem.W.Frag} {mg : Str → Option Value} {base : Heap}
def spChanged : Sp := fun vs H Q _ => ∃ (p : Addr) (z : Str) (m n t : Nat), vs = [.ref p, .str z] ∧ Pot H p m ∧ m ≤ 800000 ∧ PageOk n t z ∧ t ≤ 20000 ∧
  ∀ H' y, PageOk (2 * n + 25) (4 * t + 100) y → Grow p H H' → Pot H' p (m + 100) → Q (.str y) H'
theorem ok_changed (T : Txt K mg) : DefOk P w K mg base CX0 3 "_law_changed" ["_law_pot_here", "_law_page"] spChanged := by
  have D_law_dip : DefOk P w K mg base CX0 1 "_law_dip" ["_law_pot_here", "_law_many"] spDip := ok_dip T
  have D_law_sign : DefOk P w K mg base CX0 2 "_law_sign" ["_law_pot_here"] spDrawn := ok_sign T
  have D_law_word : DefOk P w K mg base CX0 2 "_law_word" ["_law_pot_here"] spDrawn := ok_word T
  have D_law_lines_changed : DefOk P w K mg base CX0 2 "_law_lines_changed" ["_law_pot_here", "_law_lines"] (spLines K) := ok_lines T
  refine mkDef T.d_LChanged T.g__law_changed scLChanged (fun _ _ _ _ _ _ us hl => match us, hl with | [_, _], _ => rfl) (fun vs H Q E h => ?_) (fun cdv A outer s H vs Q E hr h => ?_)
  · obtain ⟨p, z, m, n, t, rfl, _⟩ := h
    rfl
  · obtain ⟨p, z, m, n, t, rfl, hP, hm, hz, ht, q⟩ := h
    refine ⟨_, pss_cons (ps_par (i := 2) (j := 3) rfl scLChanged.nd rfl rfl (by decide) rfl rfl (pa_cons (pe_def D_law_dip (hr.mono (by first | decide | exact Nat.le_refl _)) (by rfl) pass0 (pa_cons (pv 0) (pa_cons pe_int pa_nil))) (pa_cons (pe_def D_law_dip (hr.mono (by first | decide | exact Nat.le_refl _)) (by rfl) pass0 (pa_cons (pv 0) (pa_cons (pe_op op_add (pe_callB call_len (by rfl) T.b_len (by decide +kernel) (pa_cons (pv 1) pa_nil)) pe_int) pa_nil))) pa_nil)) (by rfl)) (
      pss_cons (ps_if (pt_cmpR op_eq (pv 2) pe_int (nomark _)) (pss_one (ps_ret (pe_op op_add_str (pe_slice sl_str (pv 1) po_none (po_some (pv 3))) (pe_slice sl_str (pv 1) (po_some (pe_op op_add (pv 3) pe_int)) po_none)))) pss_nil) (
      pss_cons (ps_if (pt_cmpR op_eq (pv 2) pe_int (nomark _)) (pss_one (ps_ret (pe_op op_add_str (pe_op op_add_str (pe_slice sl_str (pv 1) po_none (po_some (pv 3))) (pe_def D_law_sign (hr.mono (by first | decide | exact Nat.le_refl _)) (by rfl) pass0 (pa_cons (pv 0) pa_nil))) (pe_slice sl_str (pv 1) (po_some (pv 3)) po_none)))) pss_nil) (
      pss_cons (ps_if (pt_cmpR op_eq (pv 2) pe_int (nomark _)) (pss_one (ps_ret (pe_op op_add_str (pe_op op_add_str (pe_slice sl_str (pv 1) po_none (po_some (pv 3))) (pe_def D_law_sign (hr.mono (by first | decide | exact Nat.le_refl _)) (by rfl) pass0 (pa_cons (pv 0) pa_nil))) (pe_slice sl_str (pv 1) (po_some (pe_op op_add (pv 3) pe_int)) po_none)))) pss_nil) (
      pss_cons (ps_if (pt_cmpR op_eq (pv 2) pe_int (nomark _)) (pss_cons (ps_set (i := 4) scLChanged.nd rfl (by first | exact Or.inl rfl | exact Or.inr rfl) (pe_slice sl_str (pv 1) (po_some (pv 3)) (po_some (pe_op op_add (pv 3) pe_int)))) (pss_one (ps_ret (pe_op op_add_str (pe_op op_add_str (pe_op op_add_str (pe_slice sl_str (pv 1) po_none (po_some (pv 3))) (pe_slice sl_str (pv 4) (po_some pe_int) po_none)) (pe_slice sl_str (pv 4) po_none (po_some pe_int))) (pe_slice sl_str (pv 1) (po_some (pe_op op_add (pv 3) pe_int)) po_none))))) pss_nil) (
      pss_cons (ps_if (pt_cmpR op_eq (pv 2) pe_int (nomark _)) (pss_one (ps_ret (pe_op op_add_str (pe_op op_add_str (pe_slice sl_str (pv 1) po_none (po_some (pv 3))) pe_str) (pe_slice sl_str (pv 1) (po_some (pv 3)) po_none)))) pss_nil) (
      pss_cons (ps_set (i := 5) scLChanged.nd rfl (by first | exact Or.inl rfl | exact Or.inr rfl) (pe_split (pv 1) pe_str)) (
      pss_cons (ps_if (pt_cmpR op_eq (pv 2) pe_int (nomark _)) (pss_one (ps_ret (pe_join pe_str (pe_def D_law_lines_changed (hr.mono (by first | decide | exact Nat.le_refl _)) (by rfl) pass0 (pa_cons (pv 0) (pa_cons (pv 5) pa_nil)))))) pss_nil) (
      pss_cons (ps_set (i := 6) scLChanged.nd rfl (by first | exact Or.inl rfl | exact Or.inr rfl) (pe_def D_law_dip (hr.mono (by first | decide | exact Nat.le_refl _)) (by rfl) pass0 (pa_cons (pv 0) (pa_cons (pe_callB call_len (by rfl) T.b_len (by decide +kernel) (pa_cons (pv 5) pa_nil)) pa_nil)))) (
      pss_cons (ps_set (i := 7) scLChanged.nd rfl (by first | exact Or.inl rfl | exact Or.inr rfl) (pe_split (pe_ix (r := rIxL K) ix_list (pv 5) (pv 6) (fun _ _ => rfl)) pe_str)) (
      pss_cons (ps_set (i := 3) scLChanged.nd rfl (by first | exact Or.inl rfl | exact Or.inr rfl) (pe_def D_law_dip (hr.mono (by first | decide | exact Nat.le_refl _)) (by rfl) pass0 (pa_cons (pv 0) (pa_cons (pe_callB call_len (by rfl) T.b_len (by decide +kernel) (pa_cons (pv 7) pa_nil)) pa_nil)))) (
      pss_cons (ps_asg (pe_def D_law_word (hr.mono (by first | decide | exact Nat.le_refl _)) (by rfl) pass0 (pa_cons (pv 0) pa_nil)) (pg_sub (pv 7) (pv 3) set_list)) (
      pss_cons (ps_asg (pe_join pe_str (pv 7)) (pg_sub (pv 5) (pv 6) set_list)) (
      pss_one (ps_ret (pe_join pe_str (pv 5)))))))))))))))), ?_⟩
    have hzl : z.length ≤ t := by rw [len_tl]; exact hz.few
    have hzs : z.length ≤ sizeLine := by rw [sizeLine_eq]; omega
    refine ⟨_, rfl, p, 8, m, rfl, hP, by omega, by decide, by decide, fun H1 r1 a1 b1 g1 P1 => ?_⟩
    refine ⟨_, rfl, _, rfl, .str z, z.length, rfl, ⟨hzs, rfl⟩, _, _, rfl, rfl, p, _, m + 1, rfl, P1, by omega, by omega, by omega, fun H2 r2 a2 b2 g2 P2 => ?_⟩
    obtain ⟨j, rfl⟩ : ∃ j : Nat, r2 = (j : Int) := ⟨r2.toNat, by omega⟩
    have g3 := g1.trans g2
    have P2 : Pot H2 p (m + 2) := P2
    have G0 := Grow.refl p H2
    have fin : ∀ {H' : Hp} {y : Str} (k : Nat), PageOk (2 * n + 25) (4 * t + 100) y → Grow p H2 H' → Pot H' p (m + k) → k ≤ 100 → Q (.str y) H' := fun k ok g P' hk => q _ _ ok (g3.trans g) (P'.mono (by omega))
    have mid : ∀ {y : Str} {a b c : List Nat}, a <:+: tl z → Ascii b → c <:+: tl z → b.length ≤ 25 → tl y = a ++ (b ++ c) → PageOk (2 * n + 25) (4 * t + 100) y := fun ha hb hc hl e => (hz.mid ha hb hc hl e).mono (Nat.le_refl _) (by omega)
    have tk := fun k => take_infix (tl z) k
    have dk := fun k => drop_infix (tl z) k
    have cto : ∀ k : Nat, tl (cutS z none (some (k : Int))) = (tl z).take k := fun k => tl_cut_to z k
    have cfr : ∀ k : Nat, tl (cutS z (some (k : Int)) none) = (tl z).drop k := fun k => tl_cut_from z k
    have lto : ∀ k : Nat, (cutS z none (some (k : Int))).length ≤ t := fun k => by
      rw [len_tl, cto]
      have := (tk k).length_le
      have := hz.few
      omega
    have lfr : ∀ k : Nat, (cutS z (some (k : Int)) none).length ≤ t := fun k => by
      rw [len_tl, cfr]
      have := (dk k).length_le
      have := hz.few
      omega
    refine ⟨_, _, rfl, _, rfl, rfl, decide (V.int r1 = V.int 0), rfl, ?_⟩
    rw [V_int_dec]
    by_cases h0 : r1 = 0
    · rw [decide_eq_true h0]
      refine ⟨_, rfl, _, rfl, _, rfl, z, rfl, hzs, _, rfl, _, rfl, _, _, rfl, rfl, _, rfl, z, rfl, hzs, _, _, rfl, rfl, ?_, fin 2 ?_ G0 P2 (by omega)⟩
      · rw [sizeLine_eq]
        have := lto j
        have := lfr (j + 1)
        show _ + (cutS z (some (((j + 1 : Nat)) : Int)) none).length ≤ _
        omega
      · refine mid (b := []) (tk j) (fun c hc => by cases hc) (dk (j + 1)) (Nat.zero_le _) ?_
        rw [tl_append, cto]
        show _ ++ tl (cutS z (some (((j + 1 : Nat)) : Int)) none) = _
        rw [cfr]
        rfl
    rw [decide_eq_false h0]
    refine ⟨_, rfl, rfl, decide (V.int r1 = V.int 1), rfl, ?_⟩
    rw [V_int_dec]
    by_cases h1 : r1 = 1
    · rw [decide_eq_true h1]
      refine ⟨_, rfl, _, rfl, _, rfl, z, rfl, hzs, _, rfl, p, m + 2, rfl, P2, by omega, fun H3 y ya yl g4 P4 => ?_⟩
      refine ⟨_, y, rfl, rfl, ?_, _, rfl, _, rfl, _, rfl, z, rfl, hzs, _, _, rfl, rfl, ?_, fin 12 ?_ g4 P4 (by omega)⟩
      · rw [sizeLine_eq, len_tl y]
        have := lto j
        omega
      · rw [sizeLine_eq, len_app, len_tl y]
        have := lto j
        have := lfr j
        omega
      · refine mid (tk j) ya (dk j) yl ?_
        rw [tl_append, tl_append, cto, cfr, List.append_assoc]
    rw [decide_eq_false h1]
    refine ⟨_, rfl, rfl, decide (V.int r1 = V.int 2), rfl, ?_⟩
    rw [V_int_dec]
    by_cases h2 : r1 = 2
    · rw [decide_eq_true h2]
      refine ⟨_, rfl, _, rfl, _, rfl, z, rfl, hzs, _, rfl, p, m + 2, rfl, P2, by omega, fun H3 y ya yl g4 P4 => ?_⟩
      refine ⟨_, y, rfl, rfl, ?_, _, rfl, _, rfl, _, _, rfl, rfl, _, rfl, z, rfl, hzs, _, _, rfl, rfl, ?_, fin 12 ?_ g4 P4 (by omega)⟩
      · rw [sizeLine_eq, len_tl y]
        have := lto j
        omega
      · rw [sizeLine_eq, len_app, len_tl y]
        have := lto j
        have := lfr (j + 1)
        show _ + (cutS z (some (((j + 1 : Nat)) : Int)) none).length ≤ _
        omega
      · refine mid (tk j) ya (dk (j + 1)) yl ?_
        rw [tl_append, tl_append, cto]
        show _ ++ tl (cutS z (some (((j + 1 : Nat)) : Int)) none) = _
        rw [cfr, List.append_assoc]
    rw [decide_eq_false h2]
    refine ⟨_, rfl, rfl, decide (V.int r1 = V.int 3), rfl, ?_⟩
    rw [V_int_dec]
    by_cases h3 : r1 = 3
    · rw [decide_eq_true h3]
      refine ⟨_, rfl, _, rfl, _, rfl, _, rfl, _, _, rfl, rfl, _, rfl, z, rfl, hzs, ?_⟩
      have eu : tl (cutS z (some (j : Int)) (some ((j : Int) + 2))) = ((tl z).drop j).take 2 := by
        have h := tl_cut z j (j + 2)
        rw [show j + 2 - j = 2 by omega] at h
        exact h
      revert eu
      generalize cutS z (some (j : Int)) (some ((j : Int) + 2)) = u
      intro eu
      have lu : (tl u).length ≤ 2 := by
        rw [eu]
        exact List.length_take_le _ _
      have ul : u.length ≤ sizeLine := by
        rw [len_tl, sizeLine_eq]
        omega
      have au : Ascii (tl u) := by
        rw [eu]
        exact ascii_sub (ascii_sub hz.ascii (dk j)) (take_infix _ _)
      have e1 : tl (cutS u (some 1) none) = (tl u).drop 1 := tl_cut_from u 1
      have e2 : tl (cutS u none (some 1)) = (tl u).take 1 := tl_cut_to u 1
      have l1 : (cutS u (some 1) none).length ≤ 2 := by
        rw [len_tl, e1, List.length_drop]
        omega
      have l2 : (cutS u none (some 1)).length ≤ 2 := by
        rw [len_tl, e2, List.length_take]
        omega
      refine ⟨_, rfl, _, rfl, _, rfl, z, rfl, hzs, _, rfl, _, rfl, u, rfl, ul, _, _, rfl, rfl, ?_, _, rfl, _, rfl, u, rfl, ul, _, _, rfl, rfl, ?_, _, rfl, _, rfl, _, _, rfl, rfl, _, rfl, z, rfl, hzs, _, _, rfl, rfl, ?_, fin 2 ?_ G0 P2 (by omega)⟩
      · rw [sizeLine_eq]
        have := lto j
        omega
      · rw [sizeLine_eq, len_app]
        have := lto j
        omega
      · rw [sizeLine_eq, len_app, len_app]
        have := lto j
        have := lfr (j + 2)
        show _ + (cutS z (some (((j + 2 : Nat)) : Int)) none).length ≤ _
        omega
      · refine mid (b := (tl u).drop 1 ++ (tl u).take 1) (tk j) (ascii_app (ascii_sub au (drop_infix _ _)) (ascii_sub au (take_infix _ _))) (dk (j + 2)) ?_ ?_
        · rw [List.length_append, List.length_drop, List.length_take]
          omega
        · rw [tl_append, tl_append, tl_append, cto, e1, e2]
          show _ ++ tl (cutS z (some (((j + 2 : Nat)) : Int)) none) = _
          rw [cfr, List.append_assoc, List.append_assoc, List.append_assoc]
    rw [decide_eq_false h3]
    refine ⟨_, rfl, rfl, decide (V.int r1 = V.int 4), rfl, ?_⟩
    rw [V_int_dec]
    by_cases h4 : r1 = 4
    · rw [decide_eq_true h4]
      refine ⟨_, rfl, _, rfl, _, rfl, z, rfl, hzs, _, cBlank, rfl, rfl, ?_, _, rfl, _, rfl, _, rfl, z, rfl, hzs, _, _, rfl, rfl, ?_, fin 2 ?_ G0 P2 (by omega)⟩
      · rw [sizeLine_eq, show cBlank.length = 1 by decide]
        have := lto j
        omega
      · rw [sizeLine_eq, len_app, show cBlank.length = 1 by decide]
        have := lto j
        have := lfr j
        omega
      · refine mid (b := [32]) (tk j) (fun c hc => by rw [List.mem_singleton.mp hc]; decide) (dk j) (by decide) ?_
        rw [tl_append, tl_append, cto, cfr, tl_blank, List.append_assoc]
    rw [decide_eq_false h4]
    refine ⟨_, rfl, ⟨_, rfl⟩, z, cLine, rfl, rfl, by decide, by rw [sizeLine_eq]; omega, fun r hr => ?_⟩
    have hne : Txt.split z cLine ≠ [] := (lines_of z).1
    have hsum : sumL (Txt.split z cLine) ≤ t + 1 := hz.sum
    have hrun : ∀ l ∈ Txt.split z cLine, Ascii (tl l) ∧ Runs n (tl l) ∧ (tl l).length ≤ t := fun l hl => by
      obtain ⟨x1, x2, x3⟩ := hz.line hl
      have := x3.length_le
      have := hz.few
      exact ⟨x1, hz.runs.sub x3, by omega⟩
    have gr : Grow p H2 (upd H2 r (.lst ((Txt.split z cLine).map V.str))) := G0.new (P2.ne hr) hr
    have Pr : Pot (upd H2 r (.lst ((Txt.split z cLine).map V.str))) p (m + 2) := P2.new hr
    have er : (upd H2 r (.lst ((Txt.split z cLine).map V.str))) r = some (.lst ((Txt.split z cLine).map V.str)) := upd_same
    have nrp : r ≠ p := P2.ne hr
    have hline : ∀ ps : List Str, (∀ l ∈ ps, Ascii (tl l) ∧ Runs (2 * n + 25) (tl l)) → sumL ps ≤ 4 * t + 100 → PageOk (2 * n + 25) (4 * t + 100) (Txt.join cLine ps) := fun ps h1 h2 => PageOk.lines h1 h2 (by
      rw [join_eq, tl_join]
      rfl)
    revert gr Pr er hne hsum hrun
    generalize Txt.split z cLine = ls
    intro hne hsum hrun
    generalize upd H2 r (.lst (ls.map V.str)) = H3
    intro gr Pr er
    refine ⟨_, rfl, rfl, decide (V.int r1 = V.int 5), rfl, ?_⟩
    rw [V_int_dec]
    by_cases h5 : r1 = 5
    · rw [decide_eq_true h5]
      refine ⟨⟨_, rfl⟩, _, rfl, _, rfl, p, r, m + 2, ls, rfl, Pr, by omega, er, nrp, hne, by omega, fun H4 y ls' e mem sm g P' => ⟨cLine, y, ls', rfl, rfl, .inl (SqL.of e), ?_, fin 12 (hline ls' (fun l hl => ?_) (by omega)) (gr.trans g) P' (by omega)⟩⟩
      · have := sumL_size ls'
        rw [show cLine.length = 1 by decide, this]
        omega
      · rcases mem l hl with h | h
        · obtain ⟨x1, x2, x3⟩ := hrun l h
          exact ⟨x1, x2.mono (by omega)⟩
        · rw [h]
          have e0 : tl zNone = [] := rfl
          rw [e0]
          exact ⟨fun c hc => (by cases hc), Runs.few (Nat.zero_le _)⟩
    rw [decide_eq_false h5]
    have hge := sumL_ge ls
    have hpos : 1 ≤ ls.length := by
      cases ls with
      | nil => exact absurd rfl hne
      | cons a b => exact Nat.succ_pos _
    refine ⟨_, rfl, _, rfl, .ref r, ls.length, rfl, .inl ⟨_, SqL.of er, by rw [List.length_map]⟩, p, (ls.length : Int), m + 2, rfl, Pr, by omega, by omega, by omega, fun H4 r4 a4 b4 g4 P4 => ?_⟩
    obtain ⟨k, rfl⟩ : ∃ k : Nat, r4 = (k : Int) := ⟨r4.toNat, by omega⟩
    have hk : k < ls.length := by omega
    have er4 := g4 _ _ nrp er
    have gr4 := gr.trans g4
    have hlm : ls[k] ∈ ls := List.getElem_mem hk
    obtain ⟨x1, x2, x3⟩ := hrun ls[k] hlm
    have hat : atI (ls.map V.str) (k : Int) = some (.str ls[k]) := atI_nat (by rw [List.getElem?_map, List.getElem?_eq_getElem hk]; rfl)
    revert hlm x1 x2 x3 hat
    generalize ls[k] = l
    intro hlm x1 x2 x3 hat
    have lsz : l.length + 2 ≤ sizeLine := by
      rw [len_tl, sizeLine_eq]
      omega
    refine ⟨_, rfl, _, rfl, r, _, (k : Int), .str l, rfl, rfl, SqL.of er4, hat, ⟨_, rfl⟩, l, cBlank, rfl, rfl, by decide, lsz, fun wd hwd => ?_⟩
    have wne : Txt.split l cBlank ≠ [] := (words_of l).1
    have wsum : sumL (Txt.split l cBlank) = (tl l).length + 1 := by
      have h := sumL_sep (s := 32) (wordsZ l) (words_of l).1
      rw [(words_of l).2.1] at h
      exact h
    have wline : ∀ (i : Nat) (y : Str), Ascii (tl y) → (tl y).length ≤ 25 → Ascii (tl (Txt.join cBlank ((Txt.split l cBlank).set i y))) ∧ Runs (2 * n + 25) (tl (Txt.join cBlank ((Txt.split l cBlank).set i y))) ∧ (tl (Txt.join cBlank ((Txt.split l cBlank).set i y))).length ≤ 2 * (tl l).length + 25 := fun i y ya yl =>
      line_word x1 x2 ya yl i (by
        rw [join_eq, tl_join]
        rfl)
    have gw := gr4.new (P4.ne hwd) hwd (o := .lst ((Txt.split l cBlank).map V.str))
    have Pw : Pot (upd H4 wd (.lst ((Txt.split l cBlank).map V.str))) p (m + 3) := P4.new hwd
    have ew : (upd H4 wd (.lst ((Txt.split l cBlank).map V.str))) wd = some (.lst ((Txt.split l cBlank).map V.str)) := upd_same
    have erw := (same_new hwd (o := .lst ((Txt.split l cBlank).map V.str))) _ _ er4
    have nwp : wd ≠ p := P4.ne hwd
    have nwr : r ≠ wd := ne_of_none er4 hwd
    have hwd2 : H2 wd = none := gr4.free nwp hwd
    revert wne wsum wline gw Pw ew erw
    generalize Txt.split l cBlank = ws
    intro wne wsum wline
    generalize upd H4 wd (.lst (ws.map V.str)) = H5
    intro gw Pw ew erw
    have wge := sumL_ge ws
    have wpos : 1 ≤ ws.length := by
      cases ws with
      | nil => exact absurd rfl wne
      | cons a b => exact Nat.succ_pos _
    refine ⟨_, rfl, _, rfl, .ref wd, ws.length, rfl, .inl ⟨_, SqL.of ew, by rw [List.length_map]⟩, p, (ws.length : Int), m + 3, rfl, Pw, by omega, by omega, by omega, fun H6 r6 a6 b6 g6 P6 => ?_⟩
    obtain ⟨i, rfl⟩ : ∃ i : Nat, r6 = (i : Int) := ⟨r6.toNat, by omega⟩
    have hi : i < ws.length := by omega
    have ixn : ∀ {i m : Nat}, i < m → ixN m (i : Int) = some i := fun {i m} h => by
      unfold ixN
      rw [if_pos (by omega), if_pos (by omega)]
      rfl
    refine ⟨_, rfl, p, m + 4, rfl, P6, by omega, fun H7 y ya yl g7 P7 => ?_⟩
    have g8 := gw.trans (g6.trans g7)
    have ew7 := (g6.trans g7) _ _ nwp ew
    have er7 := (g6.trans g7) _ _ nrp erw
    obtain ⟨w1, w2, w3⟩ := wline i y ya yl
    refine ⟨_, rfl, _, rfl, wd, _, (i : Int), i, rfl, rfl, ew7, by rw [List.length_map]; exact ixn hi, ?_⟩
    have wsz := sumL_set ws i y
    have lset : (ws.map V.str).set i (.str y) = (ws.set i y).map V.str := by rw [List.map_set]
    rw [lset]
    refine ⟨⟨_, rfl⟩, _, rfl, cBlank, wd, ws.set i y, rfl, rfl, .inl (SqL.of upd_same), ?_, ?_⟩
    · have := sumL_size (ws.set i y)
      rw [show cBlank.length = 1 by decide, this]
      omega
    revert w1 w2 w3
    generalize Txt.join cBlank (ws.set i y) = Y
    intro w1 w2 w3
    refine ⟨_, rfl, _, rfl, r, _, (k : Int), k, rfl, rfl, (upd_ne nwr).trans er7, by rw [List.length_map]; exact ixn hk, ?_⟩
    have lset2 : (ls.map V.str).set k (.str Y) = (ls.set k Y).map V.str := by rw [List.map_set]
    rw [lset2]
    have ssz := sumL_set ls k Y
    refine ⟨⟨_, rfl⟩, _, rfl, cLine, r, ls.set k Y, rfl, rfl, .inl (SqL.of upd_same), ?_, ?_⟩
    · have := sumL_size (ls.set k Y)
      rw [show cLine.length = 1 by decide, this]
      omega
    · refine fin 20 (hline _ (fun l2 hl2 => ?_) (by omega)) ((g8.upd hwd2).upd hr) (((P7.upd nwp.symm).upd nrp.symm).mono (by omega)) (by omega)
      rcases List.mem_or_eq_of_mem_set hl2 with h | h
      · obtain ⟨z1, z2, z3⟩ := hrun l2 h
        exact ⟨z1, z2.mono (by omega)⟩
      · rw [h]
        exact ⟨w1, w2⟩
end
end RL

-- part W16
set_option Elab.async false
set_option linter.all false
set_option maxRecDepth 100000
set_option maxHeartbeats 4000000
/-! The walks: one cell's law. -/
namespace RL
open PySem PySem.Spec PyProof.Rows L2 TL
section
variable {X : Cx} {CX : CXT} {k : Nat} {f : Addr} {fd : FuncData} {ps ks : List Str} {sp : Sp} {E : XK} {x : Str} {p pos : Pos} {kws : List Keyword} {tk : TA} {g : List Value → List Value → List Value} {gV : List V → List V → List V}
/-- f(k = v): keywords alone -/
theorem pe_callN0 (F : FnOk X.prog X.w X.K X.mg X.base CX k f fd ps sp) (hr : Room k X.A) (hg : Gl X x) (hm : X.mg x = some (.ref f)) (hk : PySem.W.keepIn X.K (.ref f) = true) (hb : KBn X.K fd ps 0 ks g gV) (hx : Passes CX X E)
    (hkw : PK X kws tk) (hall : (backToKw pos (keywordEach kws X.env)).all (·.1.isSome) = true := by rfl) (hks : (backToKw pos (keywordEach kws X.env)).filterMap (·.1) = ks := by rfl)
    (hdb : (x == ("__debug__" : Str)) = false := by decide)
    (hpl : ((backTo pos (starEach [] X.env)).any (·.1) || (backToKw pos (keywordEach kws X.env)).any (·.1.isNone)) = false := by rfl) :
    PE X (.Call (.Name x p) [] kws pos) (fun σ H Q => tk σ H fun zs H2 => zs.length = ks.length ∧ sp (gV [] zs) H2 Q E) := by
  refine ⟨fun pins s σ H Q I h => ?_⟩
  refine wpAny_Call_Name_kw (ld_glob I hg hm ?_ hdb)
  refine PySem.W.callWith_KW0 (h₀ := X.base) I.ok.mod.kin hk hall (thn (hkw.run pos pins s σ H _ I h) fun ws s2 ⟨zs, H2, I2, rz, l2, q2⟩ => ⟨I2.kIn, ?_⟩) hpl
  rw [hks]
  exact run_fnN (us := []) (vs := []) F hr hb hx I2 .nil rz rfl l2 q2
theorem passF : Passes (L2.CX X.prog X.w) X (fun _ _ _ => False) := fun _ _ _ _ _ _ _ h => by
  obtain ⟨_, _, _, _, _, _, _, _, _, _, _, _, hE⟩ := h
  exact hE.elim
end
theorem if_int {b : Bool} {K : V → Hp → Prop} {σ : L2.St} {H : Hp} (h : ∀ m : Nat, m ≤ 16 → K (.int m) H) : if b = true then tC (.int 16) σ H K else tC (.int 12) σ H K := by
  cases b with
  | true => exact h 16 (by decide)
  | false => exact h 12 (by decide)
def nn : Nat → Nat
  | 0 => 39
  | i + 1 => 2 * nn i + 25
def tt : Nat → Nat
  | 0 => 640
  | i + 1 => 4 * tt i + 100
theorem nt_small : ∀ i, i ≤ 3 → nn i ≤ 640 ∧ tt i ≤ 100000
  | 0, _ => by decide
  | 1, _ => by decide
  | 2, _ => by decide
  | 3, _ => by decide
  | i + 4, h => absurd h (by omega)
theorem tt_small : ∀ i, i < 3 → tt i ≤ 20000
  | 0, _ => by decide
  | 1, _ => by decide
  | 2, _ => by decide
  | i + 3, h => absurd h (by omega)
abbrev zPull : Str := "pull "
theorem asks_D {K : PySem.W.Frag} {H : Hp} {v : V} {d : PD} (h : Dp K H v d) (e : isTy "str" d = false) : Asks K H v (.int 0) :=
  .inr ⟨rfl, .type (tyN d), fun H' s => tyX_D (dp_same s d v h), by rw [kit_D d (.inr (.inr (.inl rfl))), e]⟩
theorem asks_dict {K : PySem.W.Frag} {H : Hp} {p : Addr} {kvs : List (Key × V)} (h : H p = some (.dK kvs)) : Asks K H (.ref p) (.int 0) :=
  .inr ⟨rfl, .type "dict", fun H' s => .base (.dK (s _ _ h)), kit_D (.dict []) (t := "str") (.inr (.inr (.inl rfl)))⟩
theorem asks_page {K : PySem.W.Frag} {H : Hp} {z : Str} (h : PgOk z) : Asks K H (.str z) (toldZ z) := .inl ⟨z, rfl, h, rfl⟩
section
variable {P : Program} {w : World} {K : PySem.W.Frag} {mg : Str → Option Value} {base : Heap}
def spRight : Sp := fun vs H Q _ => ∃ p : Addr, vs = [.ref p] ∧ Pot H p 0 ∧ ∀ H', Grow p H H' → Q (.bl true) H'
theorem ok_right (T : Txt K mg) : DefOk P w K mg base CX0 9 "_law_right" ["_law_pot_here"] spRight := by
  have D_law_dip : DefOk P w K mg base CX0 1 "_law_dip" ["_law_pot_here", "_law_many"] spDip := ok_dip T
  have D_law_deeds : DefOk P w K mg base CX0 5 "_law_deeds" ["_law_pot_here", "_law_most"] (spDeeds K) := ok_deeds T
  have D_law_text : DefOk P w K mg base CX0 3 "_law_text" ["_law_row"] (spText K) := ok_text T
  have D_law_changed : DefOk P w K mg base CX0 3 "_law_changed" ["_law_pot_here", "_law_page"] spChanged := ok_changed T
  have D_law_alike : DefOk P w K mg base CX0 4 "_law_alike" ["_law_found", "_law_due"] (spAlike K 3) := ok_alike T 3
  have D_law_told : DefOk P w K mg base CX0 8 "_law_told" ["_law_thing_here"] (spTold K) := ok_told T
  have D_law_read : DefOk P w K mg base CX0 4 "_law_read" ["_law_page"] (spPage K) := ok_lread T
  obtain ⟨fdG, b_deeds, F_deeds⟩ := ok_deedsOf (P := P) (w := w) (base := base) T
  obtain ⟨fdR, FR, F_RP⟩ := ok_readPlanF (P := P) (w := w) (base := base) T
  have kpRP := FR.kp
  have kbRP : KBn K fdR ["text"] 0 ["text"] (fun _ ws => ws) (fun _ zs => zs) := by
    obtain ⟨oc, od, dV, kV, doc, pm, an, cdv, ct, osl, e, lk, hcd, hD, hK⟩ := FR.ex
    rcases hD with ⟨_, hd⟩ | ⟨hd, _⟩
    · subst hd
      subst e
      exact ⟨fun s us ws _ h1 h2 => match us, ws, h1, h2 with | [], [_], _, _ => .of_eq rfl, fun _ r => r⟩
    · exact absurd rfl hd
  refine mkDef T.d_LRight T.g__law_right scLRight (fun _ _ _ _ _ _ us hl => match us, hl with | [_], _ => rfl) (fun vs H Q E h => ?_) (fun cdv A outer s H vs Q E hr h => ?_)
  · obtain ⟨p, rfl, _⟩ := h
    rfl
  · obtain ⟨p, rfl, hP, q⟩ := h
    refine ⟨_, pss_cons (ps_set (i := 1) scLRight.nd rfl (by first | exact Or.inl rfl | exact Or.inr rfl) (pe_def D_law_deeds (hr.mono (by first | decide | exact Nat.le_refl _)) (by rfl) pass0 (pa_cons (pv 0) (pa_cons (pe_ifExp (pt_cmpR op_eq (pe_def D_law_dip (hr.mono (by first | decide | exact Nat.le_refl _)) (by rfl) pass0 (pa_cons (pv 0) (pa_cons pe_int pa_nil))) pe_int (nomark _)) pe_int pe_int) pa_nil)))) (
      pss_cons (ps_set (i := 2) scLRight.nd rfl (by first | exact Or.inl rfl | exact Or.inr rfl) (pe_def D_law_text (hr.mono (by first | decide | exact Nat.le_refl _)) (by rfl) pass0 (pa_cons (pv 1) pa_nil))) (
      pss_cons (ps_par (i := 3) (j := 4) rfl scLRight.nd rfl rfl (by decide) rfl rfl (pa_cons (pe_lst (pa_cons (pv 2) pa_nil)) (pa_cons (pv 2) pa_nil)) (by rfl)) (
      pss_cons (ps_for PassesOwn.never rfl (pi_range1 (by rfl) T.b_range (pa_cons (pe_def D_law_dip (hr.mono (by first | decide | exact Nat.le_refl _)) (by rfl) pass0 (pa_cons (pv 0) (pa_cons pe_int pa_nil))) pa_nil)) (pg_name (i := 5) scLRight.nd rfl (by first | exact Or.inl rfl | exact Or.inr rfl)) (pss_cons (ps_set (i := 4) scLRight.nd rfl (by first | exact Or.inl rfl | exact Or.inr rfl) (pe_def D_law_changed (hr.mono (by first | decide | exact Nat.le_refl _)) (by rfl) pass0 (pa_cons (pv 0) (pa_cons (pv 4) pa_nil)))) (pss_one (ps_expr (pe_bm PySem.F.plainAttrs_list PySem.F.slot_list_append PySem.F.type_list_append mt_append (pv 3) (pa_cons (pv 4) pa_nil)))))) (
      pss_cons (ps_expr (pe_bm PySem.F.plainAttrs_list PySem.F.slot_list_append PySem.F.type_list_append mt_append (pv 3) (pa_cons (pe_join pe_str (pe_lst (pa_cons (pv 2) (pa_cons (pe_op op_add_str pe_str (pe_op (op_times 51) pe_str (pe_def D_law_dip (hr.mono (by first | decide | exact Nat.le_refl _)) (by rfl) pass0 (pa_cons (pv 0) (pa_cons pe_int pa_nil))))) pa_nil)))) pa_nil))) (
      pss_cons (ps_for PassesOwn.never rfl (pi_list (pe_op op_cat (pe_revL (pv 3)) (pe_lst (pa_cons (pv 2) pa_nil)))) (pg_name (i := 4) scLRight.nd rfl (by first | exact Or.inl rfl | exact Or.inr rfl)) (pss_one (ps_if (pt_not (pt_val (pe_def D_law_alike (hr.mono (by first | decide | exact Nat.le_refl _)) (by rfl) pass0 (pa_cons (pe_def D_law_told (hr.mono (by first | decide | exact Nat.le_refl _)) (by rfl) pass0 (pa_cons (pv 4) pa_nil)) (pa_cons (pe_def D_law_read (hr.mono (by first | decide | exact Nat.le_refl _)) (by rfl) pass0 (pa_cons (pv 4) pa_nil)) pa_nil))))) (pss_one (ps_ret pe_bl)) pss_nil))) (
      pss_cons (ps_set (i := 6) scLRight.nd rfl (by first | exact Or.inl rfl | exact Or.inr rfl) (pe_ix (r := rIxL K) ix_list (pe_lst (pa_cons pe_non (pa_cons pe_int (pa_cons pe_bl (pa_cons (pe_lst (pa_cons (pv 2) pa_nil)) (pa_cons (pe_tup (pa_cons (pv 2) pa_nil)) (pa_cons (pe_dnewK) (pa_cons (pe_lst pa_nil) (pa_cons pe_int (pa_cons (pv 1) pa_nil)))))))))) (pe_def D_law_dip (hr.mono (by first | decide | exact Nat.le_refl _)) (by rfl) pass0 (pa_cons (pv 0) (pa_cons pe_int pa_nil))) (fun _ _ => rfl))) (
      pss_cons (ps_if (pt_not (pt_val (pe_def D_law_alike (hr.mono (by first | decide | exact Nat.le_refl _)) (by rfl) pass0 (pa_cons (pe_def D_law_told (hr.mono (by first | decide | exact Nat.le_refl _)) (by rfl) pass0 (pa_cons (pv 6) pa_nil)) (pa_cons pe_int pa_nil))))) (pss_one (ps_ret pe_bl)) pss_nil) (
      pss_cons (ps_if (pt_cmpR op_gt (pe_callB call_len (by rfl) T.b_len (by decide +kernel) (pa_cons (pv 1) pa_nil)) pe_int (nomark _)) (pss_one (ps_ret (pe_cmpR (op_eqD hr.units) (pe_def D_law_read (hr.mono (by first | decide | exact Nat.le_refl _)) (by rfl) pass0 (pa_cons (pv 2) pa_nil)) (pe_lst (pa_cons pe_int pa_nil)) (nomark _)))) pss_nil) (
      pss_one (ps_ret (pe_and (pe_cmpR (op_eqD hr.units) (pe_def D_law_read (hr.mono (by first | decide | exact Nat.le_refl _)) (by rfl) pass0 (pa_cons (pv 2) pa_nil)) (pv 1) (nomark _)) (pe_one (pe_cmpR (op_eqD hr.units) (pe_meth0 (pe_callN0 F_RP (hr.mono (by decide)) (by rfl) T.g_read_plan kpRP kbRP passF (pk_cons (pv 2) pk_nil)) T.planC T.planDeeds F_deeds (hr.mono (by first | decide | exact Nat.le_refl _)) b_deeds .nil pass0) (pv 1) (nomark _)))))))))))))), ?_⟩
    refine ⟨_, rfl, _, rfl, p, 4, 0, rfl, hP, by omega, by decide, by decide, fun H1 r1 a1 b1 g1 P1 => ⟨rfl, decide (V.int r1 = V.int 0), rfl, ?_⟩⟩
    refine if_int fun m hm => ?_
    refine ⟨p, 0 + 1, m, rfl, P1, by omega, hm, fun H2 v ds hv hf hl g2 P2 => ?_⟩
    have hl16 : ds.length ≤ 16 := by omega
    refine ⟨_, rfl, v, ds, rfl, hv, hf, hl16, fun H3 s3 => ?_⟩
    have g3 : Grow p H H3 := (g1.trans g2).same s3
    have P3 : Pot H3 p 1001 := P2.same s3
    have hv3 := dp_same s3 _ _ hv
    have hz : PageOk 39 640 (textZ ds) := text_page hf hl16
    have hto : toldZ (textZ ds) = if ds.length ≤ 12 then .tuple ds else .list [.int 12] := told_text hf
    revert hz hto
    generalize textZ ds = z
    intro hz hto
    have hzp : PgOk z := hz.mono (by decide) (by decide)
    refine ⟨_, rfl, by show 1 ≤ sizeLine; decide, fun l hl0 => ⟨_, rfl, _, _, rfl, ?_⟩⟩
    have nlp : l ≠ p := P3.ne hl0
    have gl : Grow p H3 (upd H3 l (.lst [.str z])) := (Grow.refl p H3).new nlp hl0
    have Pl : Pot (upd H3 l (.lst [.str z])) p 1001 := P3.new hl0
    have el : (upd H3 l (.lst [.str z])) l = some (.lst ([z].map V.str)) := upd_same
    revert gl Pl el
    generalize upd H3 l (.lst [.str z]) = H4
    intro gl Pl el
    refine ⟨_, rfl, p, 4, 1001, rfl, Pl, by omega, by decide, by decide, fun H5 r5 a5 b5 g5 P5 => ⟨r5, rfl, by omega, by omega, ?_⟩⟩
    refine for_range (lo := 0) (n := r5.toNat) (fun i σ H' => ∃ y v5, σ = [some (.ref p), some v, some (.str z), some (.ref l), some (.str y), v5, none] ∧ Grow p H3 H' ∧ Pot H' p (1002 + 100 * i) ∧ PageOk (nn i) (tt i) y ∧
      ∃ zs : List Str, H' l = some (.lst (zs.map V.str)) ∧ zs.length = i + 1 ∧ ∀ u ∈ zs, PgOk u)
      ⟨z, _, rfl, gl.trans g5, P5, hz, [z], g5 _ _ nlp el, rfl, fun u hu => by rw [List.mem_singleton.mp hu]; exact hzp⟩ ?_ ?_
    · rintro i σ H6 hi ⟨y, v5, rfl, g6, P6, hy, zs, e6, lz, oz⟩
      have hi3 : i < 3 := by omega
      have ts := tt_small i hi3
      have ns := nt_small (i + 1) (by omega)
      refine ⟨_, rfl, _, rfl, p, y, 1002 + 100 * i, nn i, tt i, rfl, P6, by omega, hy, ts, fun H7 y2 hy2 g7 P7 => ?_⟩
      have e7 := g7 _ _ nlp e6
      refine ⟨_, rfl, .inl ⟨rfl, _, SqL.of e7⟩, _, rfl, l, _, _, rfl, rfl, e7, by rw [List.length_map]; exact small1000 (by omega), ?_⟩
      refine ⟨y2, _, rfl, (g6.trans g7).upd hl0, (P7.upd nlp.symm).mono (by omega), hy2, zs ++ [y2], ?_, ?_, fun u hu => ?_⟩
      · rw [upd_same, List.map_append]
        rfl
      · rw [List.length_append, lz]
        rfl
      · rcases List.mem_append.mp hu with h | h
        · exact oz u h
        · rw [List.mem_singleton.mp h]
          exact hy2.mono ns.1 ns.2
    · rintro σ H6 ⟨y, v5, rfl, g6, P6, hy, zs, e6, lz, oz⟩
      have P6 : Pot H6 p 1302 := P6.mono (by omega)
      have lz4 : zs.length ≤ 4 := by omega
      -- one more page
      refine ⟨_, rfl, .inl ⟨rfl, _, SqL.of e6⟩, ⟨_, rfl⟩, _, rfl, _, rfl, p, 61, 1302, rfl, P6, by omega, by decide, by decide, fun H7 r7 a7 b7 g7 P7 => ⟨r7, rfl, rfl, a7, by omega, fun z3 hz3 => ?_⟩⟩
      have l3 : (tl z3).length ≤ 60 := by
        show z3.cps.toList.length ≤ 60
        rw [hz3, List.length_replicate]
        omega
      have hzl : z.length ≤ 640 := by rw [len_tl]; exact hz.few
      have lp : (zPull ++ z3).length ≤ 65 := by
        rw [len_app, len_tl z3, show zPull.length = 5 by decide]
        omega
      refine ⟨zPull, z3, rfl, rfl, ?_, by show 2 ≤ sizeLine; decide, fun l2 hl2 => ⟨cLine, l2, [z, zPull ++ z3], rfl, rfl, .inl (SqL.of upd_same), ?_, ?_⟩⟩
      · rw [sizeLine_eq, len_tl z3, show zPull.length = 5 by decide]
        omega
      · show z.length + ((zPull ++ z3).length + 0) + 2 * cLine.length ≤ 16777216
        rw [show cLine.length = 1 by decide]
        omega
      have hlast : PgOk (Txt.join cLine [z, zPull ++ z3]) := by
        have e : tl (Txt.join cLine [z, zPull ++ z3]) = tl z ++ ([10] ++ tl (zPull ++ z3)) := by
          rw [join_eq, tl_join]
          rfl
        have l65 : (tl (zPull ++ z3)).length ≤ 65 := by
          rw [← len_tl]
          exact lp
        refine ⟨?_, ?_, ?_⟩
        · rw [e]
          refine ascii_app hz.ascii (ascii_app (fun c hc => by rw [List.mem_singleton.mp hc]; decide) ?_)
          rw [tl_append]
          refine ascii_app (show ∀ c ∈ tl zPull, c < 128 by decide +kernel) fun c hc => ?_
          have h2 : c ∈ List.replicate r7.toNat 51 := by
            rw [← hz3]
            exact hc
          rw [(List.mem_replicate.mp h2).2]
          decide
        · rw [e]
          exact Runs.nl (hz.runs.mono (by decide)) (Runs.few (by omega))
        · rw [e]
          have := hz.few
          simp only [List.length_append, List.length_cons, List.length_nil]
          omega
      have e8 : (upd H7 l2 (.lst [.str z, .str (zPull ++ z3)])) l = some (.lst (zs.map V.str)) := (same_new hl2) _ _ (g7 _ _ nlp e6)
      have g8 : Grow p H3 (upd H7 l2 (.lst [.str z, .str (zPull ++ z3)])) := (g6.trans g7).new (P7.ne hl2) hl2
      have P8 : Pot (upd H7 l2 (.lst [.str z, .str (zPull ++ z3)])) p 1303 := P7.new hl2
      refine ⟨l, _, _, rfl, rfl, e8, by rw [List.length_map]; exact small1000 (by omega), ?_⟩
      revert hlast e8 g8 P8
      generalize Txt.join cLine [z, zPull ++ z3] = zl
      intro hlast
      generalize upd H7 l2 (.lst [.str z, .str (zPull ++ z3)]) = H8
      intro e8 g8 P8
      have e9 : (upd H8 l (.lst (zs.map V.str ++ [.str zl]))) l = some (.lst ((zs ++ [zl]).map V.str)) := by
        rw [upd_same, List.map_append]
        rfl
      have g9 : Grow p H3 (upd H8 l (.lst (zs.map V.str ++ [.str zl]))) := g8.upd hl0
      have P9 : Pot (upd H8 l (.lst (zs.map V.str ++ [.str zl]))) p 1303 := P8.upd nlp.symm
      have oz9 : ∀ u ∈ zs ++ [zl], PgOk u := fun u hu => by
        rcases List.mem_append.mp hu with h | h
        · exact oz u h
        · rw [List.mem_singleton.mp h]
          exact hlast
      have lz9 : (zs ++ [zl]).length ≤ 5 := by
        rw [List.length_append]
        show zs.length + 1 ≤ 5
        omega
      revert e9 g9 P9 oz9 lz9
      generalize upd H8 l (.lst (zs.map V.str ++ [.str zl])) = H9
      generalize zs ++ [zl] = ys
      intro e9 g9 P9 oz9 lz9
      -- the pages, each told and read
      refine ⟨_, rfl, l, _, rfl, SqL.of e9, fun l3 hl3 => ⟨_, rfl, by show 1 ≤ sizeLine; decide, fun l4 hl4 => ?_⟩⟩
      have P10 : Pot (upd H9 l3 (.lst (ys.map V.str).reverse)) p 1303 := P9.new hl3
      refine ⟨l3, l4, _, _, rfl, rfl, (same_new hl4) _ _ upd_same, upd_same, ?_, fun l5 hl5 => ⟨l5, rfl, ?_⟩⟩
      · rw [List.length_reverse, List.length_map, sizeLine_eq]
        show ys.length + 1 ≤ _
        omega
      have P11 : Pot (upd (upd H9 l3 (.lst (ys.map V.str).reverse)) l4 (.lst [.str z])) p 1303 := P10.new hl4
      have s11 : Same H9 (upd (upd (upd H9 l3 (.lst (ys.map V.str).reverse)) l4 (.lst [.str z])) l5 (.lst ((ys.map V.str).reverse ++ [.str z]))) := ((same_new hl3).new hl4).new hl5
      have P12 : Pot (upd (upd (upd H9 l3 (.lst (ys.map V.str).reverse)) l4 (.lst [.str z])) l5 (.lst ((ys.map V.str).reverse ++ [.str z]))) p 1303 := P9.same s11
      have e12 : (upd (upd (upd H9 l3 (.lst (ys.map V.str).reverse)) l4 (.lst [.str z])) l5 (.lst ((ys.map V.str).reverse ++ [.str z]))) l5 = some (.lst ((ys.reverse ++ [z]).map V.str)) := by
        rw [upd_same, List.map_append, List.map_reverse]
        rfl
      have o12 : ∀ u ∈ ys.reverse ++ [z], PgOk u := fun u hu => by
        rcases List.mem_append.mp hu with h | h
        · exact oz9 u (List.mem_reverse.mp h)
        · rw [List.mem_singleton.mp h]
          exact hzp
      have g12 : Grow p H3 (upd (upd (upd H9 l3 (.lst (ys.map V.str).reverse)) l4 (.lst [.str z])) l5 (.lst ((ys.map V.str).reverse ++ [.str z]))) := g9.same s11
      revert e12 o12 P12 g12
      generalize upd (upd (upd H9 l3 (.lst (ys.map V.str).reverse)) l4 (.lst [.str z])) l5 (.lst ((ys.map V.str).reverse ++ [.str z])) = H12
      generalize ys.reverse ++ [z] = qs
      intro P12 e12 o12 g12
      refine ⟨⟨_, SqL.of e12⟩, ?_⟩
      refine for_list (K := K) (a := l5) (xs := qs.map V.str) (fun i σ H' => (∃ v4 v5, σ = [some (.ref p), some v, some (.str z), some (.ref l), v4, v5, none]) ∧ Same H12 H') ⟨⟨_, _, rfl⟩, Same.refl H12⟩ (fun i σ H' _ h => h.2.seq (SqL.of e12)) ?_ ?_
      · rintro i x σ H13 hx ⟨⟨v4, v5, rfl⟩, s13⟩
        obtain ⟨u, hu, rfl⟩ : ∃ u, qs[i]? = some u ∧ x = V.str u := by
          rw [List.getElem?_map] at hx
          cases e : qs[i]? with
          | none =>
            rw [e] at hx
            cases hx
          | some u =>
            rw [e] at hx
            exact ⟨u, rfl, (Option.some.inj hx).symm⟩
        have ou := o12 u (List.mem_of_getElem? hu)
        exact ⟨_, rfl, _, toldZ u, rfl, asks_page ou, fun Ha va hva sa => ⟨_, rfl, u, rfl, ou, fun Hb vb hvb sb => ⟨va, vb, toldZ u, rfl, dp_same sb _ _ hva, hvb, dep_told ou, fun Hc sc => ⟨true, rfl, ⟨_, _, rfl⟩, s13.trans (sa.trans (sb.trans sc))⟩⟩⟩⟩
      · rintro σ H13 ⟨⟨v4, v5, rfl⟩, s13⟩
        have g13 : Grow p H3 H13 := g12.same s13
        have P13 : Pot H13 p 1303 := P12.same s13
        have hv13 : Dp K H13 v (.tuple ds) := by
          obtain ⟨ys, hys⟩ := P3.lst
          refine dp_grow hys g13 _ _ ?_ hv3
          rw [noL_tup]
          exact List.all_eq_true.mpr fun d hd => noL_deed (hf d hd)
        have g13h : Grow p H H13 := g3.trans g13
        -- other values
        refine ⟨_, rfl, by show 1 ≤ sizeLine; decide, fun q1 h1 => ⟨_, rfl, by show 1 ≤ sizeLine; decide, fun q2 h2 => fun q3 h3 => ⟨Nat.zero_le _, fun q4 h4 => ⟨_, rfl, by show 9 ≤ sizeLine; decide, fun q5 h5 => ?_⟩⟩⟩⟩
        have sA : Same H13 (upd H13 q1 (.lst [.str z])) := same_new h1
        have eA : (upd H13 q1 (.lst [.str z])) q1 = some (.lst [.str z]) := upd_same
        revert sA eA h2 h3 h4 h5
        generalize upd H13 q1 (.lst [.str z]) = HA
        intro h2 h3 h4 h5 sA eA
        have sB : Same HA (upd HA q2 (.tup [.str z])) := same_new h2
        have eB : (upd HA q2 (.tup [.str z])) q2 = some (.tup [.str z]) := upd_same
        revert sB eB h3 h4 h5
        generalize upd HA q2 (.tup [.str z]) = HB
        intro h3 h4 h5 sB eB
        have sC : Same HB (upd HB q3 (.dK [])) := same_new h3
        have eC : (upd HB q3 (.dK [])) q3 = some (.dK []) := upd_same
        revert sC eC h4 h5
        generalize upd HB q3 (.dK []) = HC
        intro h4 h5 sC eC
        have sD : Same HC (upd HC q4 (.lst [])) := same_new h4
        have eD : (upd HC q4 (.lst [])) q4 = some (.lst []) := upd_same
        revert sD eD h5
        generalize upd HC q4 (.lst []) = HD
        intro h5 sD eD
        have sE : Same HD (upd HD q5 (.lst [.non, .int 3, .bl true, .ref q1, .ref q2, .ref q3, .ref q4, .int 0, v])) := same_new h5
        have eE : (upd HD q5 (.lst [.non, .int 3, .bl true, .ref q1, .ref q2, .ref q3, .ref q4, .int 0, v])) q5 = some (.lst [.non, .int 3, .bl true, .ref q1, .ref q2, .ref q3, .ref q4, .int 0, v]) := upd_same
        revert sE eE
        generalize upd HD q5 (.lst [.non, .int 3, .bl true, .ref q1, .ref q2, .ref q3, .ref q4, .int 0, v]) = HE
        intro sE eE
        have sBE := sC.trans (sD.trans sE)
        have sAE := sB.trans sBE
        have s13E := sA.trans sAE
        have PE13 : Pot HE p 1303 := P13.same s13E
        have n5p : q5 ≠ p := (P13.same (sA.trans (sB.trans (sC.trans sD)))).ne h5
        have a1 := s13E
        have asks : ∀ j : Nat, j < 9 → ∃ x, ([.non, .int 3, .bl true, .ref q1, .ref q2, .ref q3, .ref q4, .int 0, v] : List V)[j]? = some x ∧ ∀ H', Grow p HE H' → Asks K H' x (.int 0) := by
          have vE : ∀ H', Grow p HE H' → Dp K H' v (.tuple ds) := fun H' g => by
            obtain ⟨ys, hys⟩ := PE13.lst
            refine dp_grow hys g _ _ ?_ (dp_same s13E _ _ hv13)
            rw [noL_tup]
            exact List.all_eq_true.mpr fun d hd => noL_deed (hf d hd)
          have np : ∀ {b : Addr} {o : HO}, HE b = some o → (∀ ys, o ≠ .lst ys) → b ≠ p := fun {b o} h ho e => by
            obtain ⟨ys, hys⟩ := PE13.lst
            rw [e, hys] at h
            exact ho ys (Option.some.inj h).symm
          have n1p : q1 ≠ p := P13.ne h1
          have n4p : q4 ≠ p := (P13.same (sA.trans (sB.trans sC))).ne h4
          intro j hj
          match j, hj with
          | 0, _ => exact ⟨_, rfl, fun H' g => asks_D .non rfl⟩
          | 1, _ => exact ⟨_, rfl, fun H' g => asks_D (.int 3) rfl⟩
          | 2, _ => exact ⟨_, rfl, fun H' g => asks_D (.bl true) rfl⟩
          | 3, _ => exact ⟨_, rfl, fun H' g => asks_D (.lst (SqL.of (g _ _ n1p (sAE _ _ eA))) (.cons (.str z) .nil)) rfl⟩
          | 4, _ => exact ⟨_, rfl, fun H' g => asks_D (.tup (SqT.of (g _ _ (np (sBE _ _ eB) (fun ys e => by cases e)) (sBE _ _ eB))) (.cons (.str z) .nil)) rfl⟩
          | 5, _ => exact ⟨_, rfl, fun H' g => asks_dict (g _ _ (np ((sD.trans sE) _ _ eC) (fun ys e => by cases e)) ((sD.trans sE) _ _ eC))⟩
          | 6, _ => exact ⟨_, rfl, fun H' g => asks_D (.lst (SqL.of (g _ _ n4p (sE _ _ eD))) .nil) rfl⟩
          | 7, _ => exact ⟨_, rfl, fun H' g => asks_D (.int 0) rfl⟩
          | 8, _ => exact ⟨_, rfl, fun H' g => asks_D (vE H' g) rfl⟩
          | j + 9, h => exact absurd h (by omega)
        refine ⟨_, rfl, p, 9, 1303, rfl, PE13, by omega, by decide, by decide, fun HF rF aF bF gF PF => ?_⟩
        obtain ⟨j, rfl⟩ : ∃ j : Nat, rF = (j : Int) := ⟨rF.toNat, by omega⟩
        obtain ⟨x, hx, hask⟩ := asks j (by omega)
        refine ⟨q5, _, (j : Int), x, rfl, rfl, SqL.of (gF _ _ n5p eE), atI_nat hx, ?_⟩
        refine ⟨_, rfl, x, .int 0, rfl, hask HF gF, fun HG vG hvG sG => ⟨vG, .int 0, .int 0, rfl, hvG, .int 0, rfl, fun HI sI => ⟨true, rfl, ?_⟩⟩⟩
        have gI : Grow p H HI := ((g13h.same s13E).trans gF).same (sG.trans sI)
        have hvI : Dp K HI v (.tuple ds) := by
          obtain ⟨ys, hys⟩ := PE13.lst
          refine dp_same (sG.trans sI) _ _ (dp_grow hys gF _ _ ?_ (dp_same s13E _ _ hv13))
          rw [noL_tup]
          exact List.all_eq_true.mpr fun d hd => noL_deed (hf d hd)
        have hsd : depOk 3 (toldZ z) = true := dep_told hzp
        have lenv : LenV K v HI ds.length := by
          cases hvI with
          | tup ha hd => exact .inr ⟨_, ha, (dpAll_len hd).symm⟩
        refine ⟨_, rfl, v, ds.length, rfl, lenv, _, _, rfl, rfl, decide ((12 : Int) < (ds.length : Nat)), rfl, ?_⟩
        by_cases h12 : ds.length ≤ 12
        · rw [if_pos h12] at hto
          rw [hto] at hsd
          rw [decide_eq_false (by omega)]
          have sh := depOk_shaped hsd (by decide)
          have er : PyData.eqv (.tuple ds) (.tuple ds) = true := SeqAt.eqv_refl _ (depOk_shape _ _ hsd).1
          refine ⟨_, rfl, z, rfl, hzp, fun HJ vJ hJ sJ => ?_⟩
          rw [hto] at hJ
          refine ⟨_, rfl, .tuple ds, .tuple ds, hJ, dp_same sJ _ _ hvI, sh, sh, _, rfl, ?_⟩
          rw [er]
          refine ⟨_, rfl, rfl, .str z, toldZ z, rfl, asks_page hzp, fun ds2 e2 a dx u HK ha hu sK => ?_, fun n e2 => ?_, fun e2 => ?_⟩
          · rw [hto] at e2
            cases e2
            refine ⟨a, dx, _, rfl, ha, rfl, a, dx, u, rfl, ha, ⟨_, rfl, .tuple ds, .tuple ds, hu, dp_same (sJ.trans sK) _ _ hvI, sh, sh, ?_⟩⟩
            rw [er]
            exact q HK (gI.same (sJ.trans sK))
          · rw [hto] at e2
            cases e2
          · rw [hto] at e2
            cases e2
        · rw [if_neg h12] at hto
          rw [decide_eq_true (by omega)]
          refine ⟨_, rfl, z, rfl, hzp, fun HJ vJ hJ sJ => ⟨by show 1 ≤ sizeLine; decide, fun t ht => ?_⟩⟩
          rw [hto] at hJ
          have sT : Same HJ (upd HJ t (.lst [.int 12])) := same_new ht
          refine ⟨.list [.int 12], .list [.int 12], dp_same sT _ _ hJ, .lst (SqL.of upd_same) (.cons (.int 12) .nil), rfl, rfl, ?_⟩
          rw [show PyData.eqv (.list [.int 12]) (.list [.int 12]) = true from SeqAt.eqv_refl _ rfl]
          exact q _ (gI.same (sJ.trans sT))
end
end RL

-- part W17
set_option Elab.async false
set_option linter.all false
set_option maxRecDepth 100000
set_option maxHeartbeats 4000000
/-! The walks: the law. -/
namespace RL
open PySem PySem.Spec PyProof.Rows L2 TL
theorem same_grow {H H1 H2 : Hp} {p : Addr} (hp : H p = none) (s : Same H H1) (g : Grow p H1 H2) : Same H H2 := fun b o hb => g b o (ne_of_none hb hp) (s b o hb)
section
variable {P : Program} {w : World} {K : PySem.W.Frag} {mg : Str → Option Value} {base : Heap}
def spLaw (K : PySem.W.Frag) : Sp := fun vs H Q _ => ∃ (a : Addr) (ns : List Int), vs = [.ref a] ∧ SqL K H a (ns.map V.int) ∧ ns.length ≤ 63 ∧ ∀ H', Q (.bl true) H'
theorem ok_lawF (T : Txt K mg) {fd : FuncData} (F : FD K "law" sLaw (He.ga K "law") fd) : FnOk P w K mg base CX0 10 (He.ga K "law") fd ["_law_script"] (spLaw K) := by
  have D_law_pot : DefOk P w K mg base CX0 1 "_law_pot" ["_law_script", "_law_k"] (spPot K) := ok_pot T
  have D_law_right : DefOk P w K mg base CX0 9 "_law_right" ["_law_pot_here"] spRight := ok_right T
  refine F.ok scLaw (fun vs H Q E h => ?_) fun cdv A outer s H vs Q E hr h => ?_
  · obtain ⟨a, ns, rfl, _⟩ := h
    rfl
  · obtain ⟨a, ns, rfl, ha, hl, q⟩ := h
    suffices h : ∃ t, PSs (cxOf CX0 P w K mg base nLaw "law" (defScope sLaw) (He.ga K "law") cdv A outer s H E).nox (defBody sLaw) t ∧ t { nx := fun _ H' => Q .non H', rt := Q } (start nLaw [.ref a]) H by
      obtain ⟨t, h1, h2⟩ := h
      exact ⟨t, h1.nox, h2⟩
    refine ⟨_, pss_cons (ps_for PassesOwn.never rfl (pi_range1 (by rfl) T.b_range (pa_cons (pe_callB (call_max2 rfl) (by rfl) T.b_max (by decide +kernel) (pa_cons pe_int (pa_cons (pe_callB (call_min2 rfl) (by rfl) T.b_min (by decide +kernel) (pa_cons pe_int (pa_cons (pe_callB call_len (by rfl) T.b_len (by decide +kernel) (pa_cons (pv 0) pa_nil)) pa_nil))) pa_nil))) pa_nil)) (pg_name (i := 1) scLaw.nd rfl (by first | exact Or.inl rfl | exact Or.inr rfl)) (pss_one (ps_if (pt_not (pt_val (pe_def D_law_right (hr.mono (by first | decide | exact Nat.le_refl _)) (by rfl) pass0 (pa_cons (pe_def D_law_pot (hr.mono (by first | decide | exact Nat.le_refl _)) (by rfl) pass0 (pa_cons (pv 0) (pa_cons (pv 1) pa_nil))) pa_nil)))) (pss_one (ps_ret pe_bl)) pss_nil))) (
      pss_one (ps_ret pe_bl)), ?_⟩
    refine ⟨_, rfl, .ref a, ns.length, rfl, .inl ⟨_, ha, by rw [List.length_map]⟩, 6, ns.length, rfl, 1, _, rfl, _, rfl, ?_⟩
    have hm : ∀ M : Int, (M = if (if ((ns.length : Nat) : Int) < 6 then ((ns.length : Nat) : Int) else 6) > 1 then (if ((ns.length : Nat) : Int) < 6 then ((ns.length : Nat) : Int) else 6) else 1) → -(2 ^ 62) ≤ M ∧ M < 2 ^ 62 ∧ M.toNat ≤ 6 := by
      intro M e
      split at e <;> split at e <;> omega
    obtain ⟨m1, m2, m3⟩ := hm _ rfl
    refine ⟨m1, m2, ?_⟩
    revert m3
    generalize (if (if ((ns.length : Nat) : Int) < 6 then ((ns.length : Nat) : Int) else 6) > 1 then (if ((ns.length : Nat) : Int) < 6 then ((ns.length : Nat) : Int) else 6) else 1) = M
    intro m3
    refine for_range (lo := 0) (n := M.toNat) (fun i σ H' => (∃ v1, σ = [some (.ref a), v1]) ∧ Same H H') ⟨⟨_, rfl⟩, Same.refl H⟩ ?_ ?_
    · rintro i σ H1 hi ⟨⟨v1, rfl⟩, s1⟩
      exact ⟨_, rfl, _, rfl, a, ns, i, by rw [Int.zero_add]; rfl, s1.seq ha, hl, by omega, fun H2 p hp s2 P2 => ⟨p, rfl, P2, fun H3 g3 => ⟨true, rfl, ⟨_, rfl⟩, s1.trans (same_grow hp s2 g3)⟩⟩⟩
    · rintro σ H1 ⟨⟨v1, rfl⟩, s1⟩
      exact q H1
end
end RL

-- part HeadRun
set_option Elab.async false
set_option linter.all false
set_option maxRecDepth 100000
set_option maxHeartbeats 0
namespace RL
open PySem PySem.Spec PyProof.Rows L2
def loose1 : List PySem.Str := ["_wall", "LineError", "NoDeed", "NoText", "LETTERS", "WINDOWS", "LONGEST_THING", "GREATEST_PULL", "GREATEST_STEP", "is_whole", "is_thing", "is_window", "is_length", "is_plain_deed", "is_deed", "MOST_DEEDS", "Plan", "read_number", "read_plain", "read_deed", "read_plan"]
def loose2 : List PySem.Str := ["_law_pot", "_law_dip", "_law_thing", "_law_plain", "_law_deed", "_law_deeds", "_law_alike", "_law_line", "_law_text", "_law_is_name", "_law_plain_of", "_law_deed_of", "_law_read", "_law_sign", "_law_word", "_law_lines_changed", "_law_changed", "_law_told", "_law_right"]
def loose : List PySem.Str := loose1 ++ loose2
theorem run (w : World) : HandSHeadRun.RunEq R (PySem.W.view R.prog [45]) hk ob 3000 loose w := by
  intro os
  kernel_rfl
end RL

-- part WEnd
set_option Elab.async false
set_option linter.all false
set_option maxRecDepth 100000
set_option maxHeartbeats 0
/-! The end: the head's facts, the law's walk. -/
namespace RL
open PySem PySem.Spec PyProof.Rows L2
theorem facts {P : Program} {w : World} {K : PySem.W.Frag} {h : Heap} {mg : Str → Option Value} {f : Addr} (X : K.In h) (G : h.Ns mainGlobals mg) (hfa : mg ("law" : Str) = some (.ref f)) (c : obsM (fa ++ (fb ++ fc)) fn K = (He.valD fn, true)) :
    ∃ fd : FuncData, (∀ (s : Shared) (v : Value), BindsTo s fd ⟨[v], []⟩ [("_law_script", v)]) ∧ ∀ base : Heap, K.In base → base.Ns mainGlobals mg → FnOk P w K mg base CX0 10 f fd ["_law_script"] (spLaw K) := by
  have T := txt_of X G c
  have e := hfa.symm.trans T.g_law
  cases e
  -- the record is one and the same for every base
  obtain ⟨fd0, F0⟩ := T.d_Law
  refine ⟨fd0, fun s v => FunD.bindsA (ps := ["_law_script"]) F0 (fun _ _ _ _ _ _ us hl => match us, hl with | [_], _ => rfl) s [v] rfl, fun base _ _ => ?_⟩
  exact ok_lawF T F0
end RL
open PySem PySem.W PySem.Calls PyProof.Rows
theorem PySem.Challenge.cw_roundline_k16_whole_near_plan_texts_holds : PySem.Challenge.rw_roundline_k16_whole_near_plan_texts.Holds := by
  w_on; o_law
  refine HandSHeadRun.head_any (r := OpenLaw.row PySem.Challenge.rw_roundline_k16_whole_near_plan_texts) (q := view (OpenLaw.row PySem.Challenge.rw_roundline_k16_whole_near_plan_texts).prog [45]) (H := RL.hk) (ob := RL.ob) (M := 3000) (loose := RL.loose) (d := HandSHeadRun.topDef (OpenLaw.row PySem.Challenge.rw_roundline_k16_whole_near_plan_texts).prog 45) (kwd := []) RL.ob_eq
    (by kernel_rfl) (fun s => by kernel_rfl) RL.run (by kernel_rfl) (by kernel_rfl) (by kernel_rfl) (by rfl) (by first | assumption | decide +kernel) (by decide +kernel) ⟨rfl, rfl, rfl, rfl, rfl, by decide +kernel⟩ ?hw ?hc
  case hw => w_witness2
  case hc =>
    refine L2.walk_ofE (l := PySem.Challenge.rw_roundline_k16_whole_near_plan_texts) (n := 63) (k := 10) (x := "_law_script") (CX := L2.CX0) rfl (by decide) (by kernel_rfl) ⟨rfl, by decide, by decide⟩ ?F (fun _ _ _ _ z => z)
    intro w mg fa h Y G hmg0
    obtain ⟨K, KX, c⟩ := Y
    have hmg : mg ("law" : PySem.Str) = some (.ref fa) := by
      have e : (HandSHeadRun.topDef (OpenLaw.row PySem.Challenge.rw_roundline_k16_whole_near_plan_texts).prog 45).name = ("law" : PySem.Str) := by kernel_rfl
      rw [← e]
      exact hmg0
    obtain ⟨fd, hb, hF⟩ := RL.facts (P := (PySem.Challenge.rw_roundline_k16_whole_near_plan_texts).prog) (w := w) KX G hmg c
    exact ⟨K, fd, RL.spLaw K, KX, hb, fun H a ns hl _ hS => ⟨a, ns, rfl, hS, hl, fun _ => rfl⟩, hF⟩
#print axioms PySem.Challenge.cw_roundline_k16_whole_near_plan_texts_holds

